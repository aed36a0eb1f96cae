/- Plain functions for what the functions of the seat compute. Printed by a program. -/
import Derived.Test.YtfejhjllooomlaaGreatEVm3
import Derived.Test.YtfejhjllooomlaaGreatEQXT
set_option maxRecDepth 100000
namespace Go.Proofs.YtfejhjllooomlaaGreat
open Go.Vm
noncomputable section
theorem Oc {f:FuncId} {x:aQ} {α β:Type} {args:aE α} {res:aO β} {kd:Kd} {fn:α->Option β} {ow:Bool} (hf:tab f=some (.code x)) (ho:aCQ kd ow=true) (lp:Option Nat) (l:List (Nat×cA)) (h:E8 tab l) (e: ∀a,aIP (vJ lp l [] [] []) x args res kd a=fn a):aN tab f ⟨args,res,fn,kd,ow⟩:=aN.of hf (cx:=vJ lp l [] [] []) ho (pG.make h trivial trivial) e
abbrev tZ:ByteArray:=ByteArray.mk (Array.mk [0,1,2,2,3,3,3,3,4,4,4,4,4,4,4,4,5,5,5,5,5,5,5,5,5,5,5,5,5,5,5,5,6,6,6,6,6,6,6,6,6,6,6,6,6,6,6,6,6,6,6,6,6,6,6,6,6,6,6,6,6,6,6,6,7,7,7,7,7,7,7,7,7,7,7,7,7,7,7,7,7,7,7,7,7,7,7,7,7,7,7,7,7,7,7,7,7,7,7,7,7,7,7,7,7,7,7,7,7,7,7,7,7,7,7,7,7,7,7,7,7,7,7,7,7,7,7,7,8,8,8,8,8,8,8,8,8,8,8,8,8,8,8,8,8,8,8,8,8,8,8,8,8,8,8,8,8,8,8,8,8,8,8,8,8,8,8,8,8,8,8,8,8,8,8,8,8,8,8,8,8,8,8,8,8,8,8,8,8,8,8,8,8,8,8,8,8,8,8,8,8,8,8,8,8,8,8,8,8,8,8,8,8,8,8,8,8,8,8,8,8,8,8,8,8,8,8,8,8,8,8,8,8,8,8,8,8,8,8,8,8,8,8,8,8,8,8,8,8,8,8,8,8,8,8,8])
abbrev fZ:List PT:=[.i .i64,.i .i64,.i .i64]
abbrev jU:List PT:=[.i .i64,.i .i64]
abbrev ki:List PT:=[.i .i64]
abbrev kb:List PT:=[.b]
abbrev lL:List PT:=[.i .i64,.i .i64,.i .i64,.i .i64,.i .i64]
abbrev CJ:List PT:=[.b,.i .u64,.i .u64]
abbrev aN5:List PT:=[.i .i64,.i .i64,.i .i64,.i .i64]
abbrev kiu:List PT:=[.i .i64,.i .u64]
abbrev CK:=Int×Int×Int
structure Field where
 points:List CK
def eH:cW Field:=cW.iso (cW.sl fZ) (fun p=>⟨p⟩) (fun c=>c.points) (fun _=>rfl)
structure aR where
 uses:List Int
 used:List Bool
 free:List Int
def rV:cW aR:=cW.iso (cW.prod (cW.sl ki) (cW.prod (cW.sl kb) (cW.sl ki))) (fun p=>⟨p.1,p.2.1,p.2.2⟩) (fun c=>(c.uses,c.used,c.free)) (fun _=>rfl)
abbrev PS:=Int×Int×Int×Int×Int
structure aG where
 slots:aR
 heap:List PS
 where_:List Int
def hZ:cW aG:=cW.iso (cW.prod rV (cW.prod (cW.sl lL) (cW.sl ki))) (fun p=>⟨p.1,p.2.1,p.2.2⟩) (fun c=>(c.slots,c.heap,c.where_)) (fun _=>rfl)
structure aY where
 next_:Int
 list:List CK
def rW:cW aY:=cW.iso (cW.prod (cW.int .i64) (cW.sl fZ)) (fun p=>⟨p.1,p.2⟩) (fun c=>(c.next_,c.list)) (fun _=>rfl)
structure aH where
 now:Int×Int
 field:Field
 certs:aY
 agenda:aG
 due:List CK
def eX:cW aH:=cW.iso (cW.prod (cW.row jU) (cW.prod eH (cW.prod rW (cW.prod hZ (cW.sl fZ))))) (fun p=>⟨p.1,p.2.1,p.2.2.1,p.2.2.2.1,p.2.2.2.2⟩) (fun c=>(c.now,c.field,c.certs,c.agenda,c.due)) (fun _=>rfl)
structure eB where
 clock:aH
 heap:List Int
def wV:cW eB:=cW.iso (cW.prod eX (cW.sl ki)) (fun p=>⟨p.1,p.2⟩) (fun c=>(c.clock,c.heap)) (fun _=>rfl)
theorem GH:aN tab 91 (cA.clone fZ):=aN.clone aMJ rfl
theorem CL:aN tab 173 (cA.clone kb):=aN.clone aFM rfl
theorem aA7:aN tab 275 (cA.add64):=aN.add64 aGC
theorem GI:aN tab 170 (cA.clone fZ):=aN.clone aFJ rfl
theorem R9:aN tab 171 (cA.clone fZ):=aN.clone aFK rfl
theorem CN:aN tab 172 (cA.clone lL):=aN.clone aFL rfl
theorem uO:aN tab 64 (cA.clone ki):=aN.clone aMw rfl
theorem SA:aN tab 290 (cA.clone ki):=aN.clone aGI rfl
section
abbrev pH:=List PS
abbrev cV:=List CK
abbrev Zt1:=cV×Int×Int×Int×Int×cV×Int×cV×(List Int)×(List Bool)×(List Int)×pH×(List Int)×cV×cV×Int×Int×Int×Int×Int×Int×cV×(List Int)×(List Bool)×(List Int)×pH×(List Int)×cV×cV
abbrev Zt2:=cV×Int×Int×cV×Int×Int×Int×Int×Int×Int×Int×cV×Int×cV×(List Int)×(List Bool)×(List Int)×pH×(List Int)×cV×Int×Int×Int×(List Int)
abbrev BT:=List (Int×Int)
abbrev aN6:=BT×cV×Int×Int×Int×Int×cV×Int×cV×(List Int)×(List Bool)×(List Int)×pH×(List Int)×cV×cV×Int×Int×Int
abbrev Zt3:=cJ aN6 (aH×Int)
abbrev aN7:=cV×Int×Int×Int×Int×cV×Int×cV×(List Int)×(List Bool)×(List Int)×pH×(List Int)×cV×cV×Int×Int×Int
abbrev Zt4:=cJ aN7 (aH×Int)
abbrev Zt5:=BT×cV×Int×Int×Int×Int×cV×Int×cV×(List Int)×(List Bool)×(List Int)×pH×(List Int)×cV×(List Int)
abbrev Zt6:=cV×cV×Int×Int×Int×Int×cV×Int×cV×(List Int)×(List Bool)×(List Int)×pH×(List Int)×cV
abbrev Zt7:=Bool×Int×cV×Int×Int×Int×Int×cV×Int×cV×(List Int)×(List Bool)×(List Int)×pH×(List Int)×cV×(List Int)
abbrev Zt8:=Int×Int×cV×Int×cV×(List Int)×(List Bool)×(List Int)×pH×(List Int)×cV×(List Int)×Int×Int×Int×Int×Int×BT
abbrev aN8:=cV×Int×Int×Int×Int×cV×Int×cV×(List Int)×(List Bool)×(List Int)×pH×(List Int)×cV×(List Int)
abbrev Zt9:=cJ aN8 Int
abbrev aN9:=BT×Int×Int×Int×Int×cV×Int×cV×(List Int)×(List Bool)×(List Int)×pH×(List Int)×cV×Int×Int×Int
abbrev aGK:=Int×Int×Int×Int×cV×Int×cV×(List Int)×(List Bool)×(List Int)×pH×(List Int)×cV×(List Int)
abbrev aOa:=cJ aGK Int
abbrev aOb:=Int×Int×Int×cV×Int×cV×(List Int)×(List Bool)×(List Int)×pH×(List Int)×cV×(List Int)
abbrev aOc:=cJ aOb Int
abbrev aOd:=BT×Int×Int×Int×cV×Int×cV×(List Int)×(List Bool)×(List Int)×pH×(List Int)×cV
abbrev aOe:=Int×Int×Int×Int×cV×Int×cV×(List Int)×(List Bool)×(List Int)×pH×(List Int)×cV
abbrev aOf:=Int×pH×(List Int)×(List Int)×(List Bool)×(List Int)×Nat×Nat×Int×Int×Int×Int×Int
abbrev Y8:=pH×(List Int)
abbrev aOg:=cJ aOf Y8
abbrev aOh:=Int×pH×(List Int)×(List Int)×(List Bool)×(List Int)×Int×Int×Int×Int×Int
abbrev aOi:=cJ aOh Y8
abbrev aOj:=pH×Int×Int×(List Int)×(List Bool)×(List Int)×pH×(List Int)×(List (List Int))
abbrev aOk:=Int×Int×pH×(List Int)×(List Int)×(List Bool)×(List Int)×Nat×Nat×Int×Int×Int×Int×Int
abbrev aGL:=(List Int)×(List Bool)×(List Int)×Nat×Nat×Int×Int×Int×Int×Int×Int×pH×(List Int)
abbrev aOl:=Int×Int×pH×(List Int)×(List Int)×(List Bool)×(List Int)×Int×Int×Int×Int×Int
abbrev aOm:=Int×Int×(List Int)×(List Bool)×(List Int)×pH×(List Int)×Int×Int×Int×Int×Int
abbrev aGM:=(List Int)×(List Bool)×(List Int)×Int×Int×Int×Int×Int×Int×pH×(List Int)
abbrev aOn:=(List Int)×Int×Int×(List Int)×(List Bool)×(List Int)×pH×(List Int)
abbrev aOo:=cJ aOn Int
abbrev aGN:=Int×(List Int)×(List Bool)×(List Int)×pH×(List Int)
abbrev aMP:=cJ aGN Int
abbrev aOp:=Int×Int×(List Int)×(List Bool)×(List Int)×pH×(List Int)
abbrev U4:=Int×Int×Int×cV×Int×Int
abbrev PU:=cV×Int×Int
abbrev aOq:=cJ U4 PU
abbrev aOr:=Int×cV×Int×Int×Int×cV×(List (List Int))
abbrev aOs:=(List Int)×Int×Int×(List Int)×(List Bool)×(List Int)×Int×(List Bool)
abbrev aOt:=cJ aOs Int
abbrev PW:=cV×Int×Int×Int×Int
abbrev aGO:=cJ PW (Int×Bool)
abbrev aA8:=cV×Int×Int×cV
abbrev aA9:=Int×Int×(List Int)×(List Bool)×(List Int)×(List Bool)
abbrev aGP:=Int×Int×cV×Int×Int
abbrev aBa:=Int×Int×cV
abbrev aMQ:=cJ aBa Int
abbrev aGQ:=(List Int)×Int×BT
abbrev aBb:=Int×cV
variable [LP]
def I5:Option Field:=some (Field.mk [(1,0,2),(2,6,-1),(5,0,0)])
def c49:cA:=⟨aE.nil,aO.agg eH,fun _=>I5,.frz,false⟩
theorem aMR:aN tab 49 c49:=Oc aMj rfl aJ [] trivial fun a=>by kernel_rfl
def GJ (p0:Int):Option (Int×Int):=some (p0,1)
def c50:cA:=⟨aE.one (aO.int .i64),aO.agg (cW.row jU),fun a=>GJ a,.pure,false⟩
theorem aMS:aN tab 50 c50:=Oc aMk rfl aJ [] trivial fun a=>by kernel_rfl
def pR (p0:Int):Option Bool:=bif decide (p0<(-1048576)) then some true else some (decide (1048576<p0))
def aOu:cA:=⟨aE.one (aO.int .i64),aO.bool,fun a=>pR a,.pure,false⟩
theorem aGR:aN tab 148 aOu:=Oc aFr rfl aJ [] trivial fun a=>by kernel_rfl
def nJ (p0:Int×Int×Int):Option Int:=bif decide (p0.1<0) then some 8 else bif decide (65535<p0.1) then some 8 else (pR p0.2.1).bind fun b0=>bif b0 then some 8 else (pR p0.2.2).bind fun b1=>bif b1 then some 8 else some 0
def c88:cA:=⟨aE.one (aO.agg (cW.row fZ)),aO.int .i64,fun a=>nJ a,.pure,false⟩
theorem aBc:aN tab 88 c88:=Oc aMH rfl aJ [(148,aOu)] ⟨aGR,trivial⟩ fun a=>by kernel_rfl
def iS (s:aA8):Option (cJ aA8 (cJ aA8 Int)):=bif decide (s.2.2.1<s.2.1) then (aL s.1 s.2.2.1).bind fun a0=>bif decide (0<s.2.2.1) then (aL s.2.2.2 (aA .i64 (s.2.2.1-1))).bind fun a1=>bif decide (a0.1<=a1.1) then some (.done (.done 32)) else some (.next (s.1,s.2.1,aA .i64 (s.2.2.1+1),s.2.2.2)) else some (.next (s.1,s.2.1,aA .i64 (s.2.2.1+1),s.2.2.2)) else some (.done (.done 0))
def mS (s:aA8):Option (cJ aA8 Int):=bif decide (s.2.2.1<s.2.1) then (aL s.1 s.2.2.1).bind fun a0=>(nJ a0).bind fun n1=>bif n1 !=0 then some (.done n1) else some (.next (s.1,s.2.1,aA .i64 (s.2.2.1+1),s.2.2.2)) else aI iS (s.2.2.2,Int.ofNat s.2.2.2.length,0,s.2.2.2)
def gN (p0:Field):Option Int:=bif decide (64<(Int.ofNat p0.points.length)) then some 4 else aI mS (p0.points,Int.ofNat p0.points.length,0,p0.points)
def c87:cA:=⟨aE.one (aO.agg eH),aO.int .i64,fun a=>gN a,.pure,false⟩
theorem L0:aN tab 87 c87:=Oc aMG rfl aJ [(88,c88)] ⟨aBc,trivial⟩ fun a=>by kernel_rfl
def mA (p0:Int):Option Int:=bif decide (p0<0) then some (aA .u64 (0- (aA .u64 p0))) else some (aA .u64 p0)
def aGS:cA:=⟨aE.one (aO.int .i64),aO.int .u64,fun a=>mA a,.pure,false⟩
theorem PX:aN tab 108 aGS:=Oc aE9 rfl aJ [] trivial fun a=>by kernel_rfl
def uP (s:(Int×Int)):Option (cJ (Int×Int) Int):=bif decide (0<s.2) then bif s.2==0 then none else some (.next (s.2,Int.tmod s.1 s.2)) else some (.done s.1)
def yW (p0:Int) (p1:Int):Option Int:=aI uP (p0,p1)
def aMT:cA:=⟨aE.cons (aO.int .u64) (aE.one (aO.int .u64)),aO.int .u64,fun a=>yW a.1 a.2,.pure,false⟩
theorem XF:aN tab 107 aMT:=Oc aE8 rfl aJ [] trivial fun a=>by kernel_rfl
def eI (p0:Int×Int):Option Int:=bif decide (p0.2<1) then some 8 else bif p0.1==(-9223372036854775808) then some 8 else (mA p0.1).bind fun n0=>(yW (aA .u64 p0.2) n0).bind fun n1=>bif decide (1<n1) then some 8 else some 0
def c60:cA:=⟨aE.one (aO.agg (cW.row jU)),aO.int .i64,fun a=>eI a,.pure,false⟩
theorem xP:aN tab 60 c60:=Oc aMs rfl aJ [(108,aGS),(107,aMT)] ⟨PX,XF,trivial⟩ fun a=>by kernel_rfl
def I6 (s:(Int×Int×Int×(List Int)×(List Bool)×(List Int))):Option (cJ (Int×Int×Int×(List Int)×(List Bool)×(List Int)) (aR×Int)):=bif decide (s.2.2.1<s.2.1) then (aL s.2.2.2.2.2 s.2.2.1).bind fun _=>some (.next (s.1,s.2.1,aA .i64 (s.2.2.1+1),s.2.2.2.1,s.2.2.2.2.1,bY s.2.2.2.2.2 s.2.2.1 (aA .i64 ((aA .i64 (s.1-1)) -s.2.2.1)))) else some (.done (aR.mk s.2.2.2.1 s.2.2.2.2.1 s.2.2.2.2.2,0))
def GK (p0:Int):Option (aR×Int):=bif decide (p0<1) then some (aR.mk [] [] [],2) else bif decide (200<p0) then some (aR.mk [] [] [],2) else bif p0==p0 then (FY p0 (0:Int)).bind fun l0=>bif p0==p0 then (FY p0 (false:Bool)).bind fun l1=>bif p0==p0 then (FY p0 (0:Int)).bind fun l2=>aI I6 (p0,p0,0,l0,l1,l2) else none else none else none
def aOv:cA:=⟨aE.one (aO.int .i64),aO.tup (aE.cons (aO.agg rV) (aE.one (aO.int .i64))),fun a=>GK a,.frz,false⟩
theorem aGT:aN tab 176 aOv:=Oc aFN rfl aJ [] trivial fun a=>by kernel_rfl
def JP (p0:Int) (p1:Int):Option (Int×Int):=some (aA .u32 (iF .u64 (aA .u64 ((aA .u64 p0)*(aA .u64 p1))) 32),aA .u32 (aA .u64 ((aA .u64 p0)*(aA .u64 p1))))
def aOw:cA:=⟨aE.cons (aO.int .u32) (aE.one (aO.int .u32)),aO.tup (aE.cons (aO.int .u32) (aE.one (aO.int .u32))),fun a=>JP a.1 a.2,.pure,false⟩
theorem aGU:aN tab 263 aOw:=Oc aGx rfl aJ [] trivial fun a=>by kernel_rfl
def fY (p0:Int) (p1:Int):Option (Int×Int):=some (aA .u64 ((aA .u64 ((aA .u64 ((iF .u64 p0 32)*(iF .u64 p1 32)))+(iF .u64 (aA .u64 ((aA .u64 ((iF .u64 p0 32)*(JM .u64 p1 4294967295)))+(iF .u64 (aA .u64 ((JM .u64 p0 4294967295)*(JM .u64 p1 4294967295))) 32))) 32)))+(iF .u64 (aA .u64 ((JM .u64 (aA .u64 ((aA .u64 ((iF .u64 p0 32)*(JM .u64 p1 4294967295)))+(iF .u64 (aA .u64 ((JM .u64 p0 4294967295)*(JM .u64 p1 4294967295))) 32))) 4294967295)+(aA .u64 ((JM .u64 p0 4294967295)*(iF .u64 p1 32))))) 32)),aA .u64 (p0*p1))
def aGV:cA:=⟨aE.cons (aO.int .u64) (aE.one (aO.int .u64)),aO.tup (aE.cons (aO.int .u64) (aE.one (aO.int .u64))),fun a=>fY a.1 a.2,.pure,false⟩
theorem PY:aN tab 167 aGV:=Oc aFG rfl aJ [] trivial fun a=>by kernel_rfl
def xQ (p0:Int) (p1:Int):Option (Int×Int):=(fY p0 p1).bind fun a0=>some a0
def aMU:cA:=⟨aE.cons (aO.int .u64) (aE.one (aO.int .u64)),aO.tup (aE.cons (aO.int .u64) (aE.one (aO.int .u64))),fun a=>xQ a.1 a.2,.pure,false⟩
theorem XG:aN tab 214 aMU:=Oc aGb rfl aJ [(263,aOw),(167,aGV)] ⟨aGU,PY,trivial⟩ fun a=>by kernel_rfl
def mT (s:(Int×(List Int))):Option (cJ (Int×(List Int)) (List Int)):=bif decide (s.1<(Int.ofNat s.2.length)) then bif ((decide (0<=s.1))&&(decide (s.1<=(Int.ofNat s.2.length))))&&(decide ((Int.ofNat s.2.length)<=(Int.ofNat s.2.length))) then (jT s.2 0 s.1).bind fun _=>bif ((s.2.take s.1.toNat).take (((Int.ofNat s.2.length).toNat) -s.1.toNat)).isEmpty then some (.next (aA .i64 (s.1+0),s.2)) else bif (Nat.ble ((0+s.1.toNat)+(((s.2.take s.1.toNat).take (((Int.ofNat s.2.length).toNat) -s.1.toNat)).length)) s.2.length)&&(!false) then some (.next (aA .i64 (s.1+(Int.ofNat (((s.2.take s.1.toNat).take (((Int.ofNat s.2.length).toNat) -s.1.toNat)).length))),kL s.2 (0+s.1.toNat) ((s.2.take s.1.toNat).take (((Int.ofNat s.2.length).toNat) -s.1.toNat)))) else none else none else some (.done s.2)
def jI (p0:List Int) (p1:Int):Option (List Int):=bif decide (p1<0) then none else (xQ (aA .u64 (Int.ofNat p0.length)) (aA .u64 p1)).bind fun a0=>bif decide (0<a0.1) then none else bif decide (9223372036854775807<a0.2) then none else bif (aA .i64 a0.2)==(aA .i64 a0.2) then (FY (aA .i64 a0.2) (0:Int)).bind fun l1=>bif (p0.take l1.length).isEmpty then aI mT (0,l1) else bif (Nat.ble (0+((p0.take l1.length).length)) l1.length)&&(!false) then aI mT (Int.ofNat ((p0.take l1.length).length),kL l1 0 (p0.take l1.length)) else none else none
def aOx:cA:=⟨aE.cons (aO.sl ki) (aE.one (aO.int .i64)),aO.sl ki,fun a=>jI a.1 a.2,.own,true⟩
def aIV:cA:=⟨aE.cons (aO.sl ki) (aE.one (aO.int .i64)),aO.sl ki,fun a=>jI a.1 a.2,.frz,false⟩
theorem aGW:aN tab 177 aOx:=Oc XA rfl aJ [(214,aMU)] ⟨XG,trivial⟩ fun a=>by kernel_rfl
theorem aBe:aN tab 177 aIV:=Oc XA rfl aJ [(214,aMU)] ⟨XG,trivial⟩ fun a=>by kernel_rfl
def AE (p0:Int):Option (aG×Int):=(GK p0).bind fun a0=>bif a0.2 !=0 then some (aG.mk (aR.mk [] [] []) [] [],a0.2) else (jI [-1] p0).bind fun l1=>some (aG.mk a0.1 [] l1,0)
def aOy:cA:=⟨aE.one (aO.int .i64),aO.tup (aE.cons (aO.agg hZ) (aE.one (aO.int .i64))),fun a=>AE a,.frz,false⟩
theorem aGX:aN tab 118 aOy:=Oc aFg rfl aJ [(176,aOv),(177,aOx),(177,aIV)] ⟨aGT,aGW,aBe,trivial⟩ fun a=>by kernel_rfl
def DN (p0:Field) (p1:Int×Int):Option (aH×Int):=(gN p0).bind fun n0=>bif n0 !=0 then some (aH.mk (0,0) (Field.mk []) (aY.mk 0 []) (aG.mk (aR.mk [] [] []) [] []) [],n0) else (eI p1).bind fun n1=>bif n1 !=0 then some (aH.mk (0,0) (Field.mk []) (aY.mk 0 []) (aG.mk (aR.mk [] [] []) [] []) [],n1) else (AE 200).bind fun a2=>(cZ p0.points).bind fun l3=>some (aH.mk p1 (Field.mk l3) (aY.mk 0 []) a2.1 [],a2.2)
def c66:cA:=⟨aE.cons (aO.agg eH) (aE.one (aO.agg (cW.row jU))),aO.tup (aE.cons (aO.agg eX) (aE.one (aO.int .i64))),fun a=>DN a.1 a.2,.frz,false⟩
theorem aMV:aN tab 66 c66:=Oc aMx rfl aJ [(87,c87),(60,c60),(118,aOy),(91,cA.clone fZ)] ⟨L0,xP,aGX,GH,trivial⟩ fun a=>by kernel_rfl
def pS (s:aGQ):Option (cJ aGQ BT):=bif decide (s.2.1<(Int.ofNat s.1.length)) then (aL s.1 s.2.1).bind fun n0=>(aL s.1 (aA .i64 (Int.tdiv (aA .i64 (s.2.1-1)) 2))).bind fun n1=>(bZ s.2.2 [(n0,n1)]).bind fun l2=>some (.next (s.1,aA .i64 (s.2.1+1),l2)) else some (.done s.2.2)
def mU (p0:List Int):Option BT:=aI pS (p0,1,[])
def c69:cA:=⟨aE.one (aO.sl ki),aO.sl jU,fun a=>mU a,.frz,false⟩
theorem U5:aN tab 69 c69:=Oc aMA rfl aJ [] trivial fun a=>by kernel_rfl
def jJ (s:(BT×Int×Int×Int×Int)):Option (cJ (BT×Int×Int×Int×Int) Int):=bif decide (s.2.2.1<s.2.1) then (aL s.1 s.2.2.1).bind fun a0=>bif (s.2.2.2.1==a0.1)&&(s.2.2.2.2==a0.2) then some (.done s.2.2.1) else some (.next (s.1,s.2.1,aA .i64 (s.2.2.1+1),s.2.2.2)) else some (.done (-1))
def pT (p0:List (Int×Int)) (p1:Int×Int):Option Int:=aI jJ (p0,Int.ofNat p0.length,0,p1)
def aOz:cA:=⟨aE.cons (aO.sl jU) (aE.one (aO.agg (cW.row jU))),aO.int .i64,fun a=>pT a.1 a.2,.pure,false⟩
theorem aGY:aN tab 164 aOz:=Oc aFD rfl aJ [] trivial fun a=>by kernel_rfl
def gO (p0:List (Int×Int)) (p1:Int×Int):Option Bool:=(pT p0 p1).bind fun n0=>some (decide (0<=n0))
def aMW:cA:=⟨aE.cons (aO.sl jU) (aE.one (aO.agg (cW.row jU))),aO.bool,fun a=>gO a.1 a.2,.pure,false⟩
theorem XH:aN tab 105 aMW:=Oc aE6 rfl aJ [(164,aOz)] ⟨aGY,trivial⟩ fun a=>by kernel_rfl
def vL (p0:Int×Int):Option Bool:=bif decide (0<=(if p0.2<p0.1 then p0.2 else p0.1)) then bif decide ((if p0.2>p0.1 then p0.2 else p0.1)<=65535) then some (p0.1 !=p0.2) else some false else some false
def aMX:cA:=⟨aE.one (aO.agg (cW.row jU)),aO.bool,fun a=>vL a,.pure,false⟩
theorem XI:aN tab 206 aMX:=Oc aF4 rfl aJ [] trivial fun a=>by kernel_rfl
def rX (s:aOr):Option (cJ aOr Int):=bif decide (s.2.2.2.1<s.2.2.1) then (aL s.2.1 s.2.2.2.1).bind fun a0=>(vL a0.2).bind fun b1=>bif !b1 then some (.done 8) else (RI s.2.2.2.2.2.2 [a0.2.1,a0.2.2]).bind fun b2=>bif b2 then some (.done 8) else bif decide (a0.1<=s.1) then some (.done 8) else bif decide (s.2.2.2.2.1<=a0.1) then some (.done 8) else (RJ s.2.2.2.2.2.2 [a0.2.1,a0.2.2]).bind fun l3=>some (.next (a0.1,s.2.1,s.2.2.1,aA .i64 (s.2.2.2.1+1),s.2.2.2.2.1,s.2.2.2.2.2.1,l3)) else some (.done 0)
def qV (p0:aY):Option Int:=bif decide (200<(Int.ofNat p0.list.length)) then some 8 else bif decide (p0.next_<0) then some 8 else bif decide (1000000<p0.next_) then some 8 else aI rX (-1,p0.list,Int.ofNat p0.list.length,0,p0.next_,p0.list,[])
def aGZ:cA:=⟨aE.one (aO.agg rW),aO.int .i64,fun a=>qV a,.pure,false⟩
theorem PZ:aN tab 161 aGZ:=Oc aFA rfl aJ [(206,aMX)] ⟨XI,trivial⟩ fun a=>by kernel_rfl
def gP (s:((List Bool)×Bool×Int×Int)):Option (cJ ((List Bool)×Bool×Int×Int) Int):=bif decide (s.2.2.2<s.2.2.1) then (aL s.1 s.2.2.2).bind fun b0=>bif s.2.1==b0 then some (.done s.2.2.2) else some (.next (s.1,s.2.1,s.2.2.1,aA .i64 (s.2.2.2+1))) else some (.done (-1))
def pU (p0:List Bool) (p1:Bool):Option Int:=aI gP (p0,p1,Int.ofNat p0.length,0)
def aOA:cA:=⟨aE.cons (aO.sl kb) (aE.one aO.bool),aO.int .i64,fun a=>pU a.1 a.2,.pure,false⟩
theorem aG0:aN tab 287 aOA:=Oc aGF rfl aJ [] trivial fun a=>by kernel_rfl
def eJ (p0:List Bool) (p1:Bool):Option Bool:=(pU p0 p1).bind fun n0=>some (decide (0<=n0))
def aOB:cA:=⟨aE.cons (aO.sl kb) (aE.one aO.bool),aO.bool,fun a=>eJ a.1 a.2,.pure,false⟩
theorem aG1:aN tab 260 aOB:=Oc aGu rfl aJ [(287,aOA)] ⟨aG0,trivial⟩ fun a=>by kernel_rfl
def gH (s:((List Int)×Int×Int×(List Int)×(List Bool)×(List Int))):Option (cJ ((List Int)×Int×Int×(List Int)×(List Bool)×(List Int)) aOt):=bif decide (s.2.2.1<s.2.1) then (aL s.1 s.2.2.1).bind fun n0=>bif decide (n0<0) then some (.done (.done 8)) else bif decide (1000000<n0) then some (.done (.done 8)) else bif n0==0 then (aL s.2.2.2.2.1 s.2.2.1).bind fun b1=>bif b1 then some (.done (.done 8)) else some (.next (s.1,s.2.1,aA .i64 (s.2.2.1+1),s.2.2.2)) else some (.next (s.1,s.2.1,aA .i64 (s.2.2.1+1),s.2.2.2)) else some (.done (.done 0))
def rY (c0:(List Bool)) (s:aOs):Option aOt:=bif decide (s.2.2.1<s.2.1) then (aL s.1 s.2.2.1).bind fun n0=>bif decide (n0<0) then bif s.2.2.2.2.2.2.2.length==s.2.2.2.2.2.2.2.length then bif s.2.2.2.2.2.2.2.length==c0.length then bif s.2.2.2.2.2.2.2.length==c0.length then bif decide (0<=s.2.2.1) then some (.done 8) else (eJ s.2.2.2.2.2.2.2 false).bind fun b1=>bif b1 then some (.done 8) else aI gH (s.2.2.2.1,Int.ofNat s.2.2.2.1.length,0,s.2.2.2.1,s.2.2.2.2.1,s.2.2.2.2.2.1) else none else none else none else bif decide (s.2.2.2.2.2.2.1<=n0) then bif s.2.2.2.2.2.2.2.length==s.2.2.2.2.2.2.2.length then bif s.2.2.2.2.2.2.2.length==c0.length then bif s.2.2.2.2.2.2.2.length==c0.length then bif decide (0<=s.2.2.1) then some (.done 8) else (eJ s.2.2.2.2.2.2.2 false).bind fun b2=>bif b2 then some (.done 8) else aI gH (s.2.2.2.1,Int.ofNat s.2.2.2.1.length,0,s.2.2.2.1,s.2.2.2.2.1,s.2.2.2.2.2.1) else none else none else none else (aL s.2.2.2.2.2.2.2 n0).bind fun b3=>bif b3 then bif s.2.2.2.2.2.2.2.length==s.2.2.2.2.2.2.2.length then bif s.2.2.2.2.2.2.2.length==c0.length then bif s.2.2.2.2.2.2.2.length==c0.length then bif decide (0<=s.2.2.1) then some (.done 8) else (eJ s.2.2.2.2.2.2.2 false).bind fun b4=>bif b4 then some (.done 8) else aI gH (s.2.2.2.1,Int.ofNat s.2.2.2.1.length,0,s.2.2.2.1,s.2.2.2.2.1,s.2.2.2.2.2.1) else none else none else none else (aL s.2.2.2.2.2.2.2 n0).bind fun _=>bif ((bY s.2.2.2.2.2.2.2 n0 true).length)==s.2.2.2.2.2.2.2.length then some (.next (s.1,s.2.1,aA .i64 (s.2.2.1+1),s.2.2.2.1,s.2.2.2.2.1,s.2.2.2.2.2.1,s.2.2.2.2.2.2.1,bY s.2.2.2.2.2.2.2 n0 true)) else none else bif s.2.2.2.2.2.2.2.length==c0.length then bif s.2.2.2.2.2.2.2.length==c0.length then (eJ s.2.2.2.2.2.2.2 false).bind fun b6=>bif b6 then some (.done 8) else aI gH (s.2.2.2.1,Int.ofNat s.2.2.2.1.length,0,s.2.2.2.1,s.2.2.2.2.1,s.2.2.2.2.2.1) else none else none
def qW (p0:aR):Option Int:=bif decide ((Int.ofNat p0.uses.length)<1) then some 8 else bif decide (200<(Int.ofNat p0.uses.length)) then some 8 else bif (Int.ofNat p0.used.length) !=(Int.ofNat p0.uses.length) then some 8 else (cZ p0.used).bind fun l0=>aI (rY l0) (p0.free,Int.ofNat p0.free.length,0,p0.uses,p0.used,p0.free,Int.ofNat p0.uses.length,l0)
def aG2:cA:=⟨aE.one (aO.agg rV),aO.int .i64,fun a=>qW a,.pure,false⟩
theorem P0:aN tab 207 aG2:=aN.of aF5 (cx:=(vJ aJ [(173,cA.clone kb),(260,aOB)] [] [(258,aEu),(286,aEO),(259,aEw)] [])) rfl (pG.make ⟨CL,aG1,trivial⟩ trivial ⟨aGs,aGE,aGt,trivial⟩) (fun a=>by kernel_rfl)
def AF (p0:Int×Int) (p1:Int×Int):Option Int:=(eI p0).bind fun n0=>(eI p1).bind fun n1=>some (if n1>n0 then n1 else n0)
def aOC:cA:=⟨aE.cons (aO.agg (cW.row jU)) (aE.one (aO.agg (cW.row jU))),aO.int .i64,fun a=>AF a.1 a.2,.pure,false⟩
theorem aG3:aN tab 109 aOC:=Oc aFa rfl aJ [(60,c60)] ⟨xP,trivial⟩ fun a=>by kernel_rfl
def oG (p0:Int):Option Bool:=some (p0 !=p0)
def aOD:cA:=⟨aE.one (aO.int .i64),aO.bool,fun a=>oG a,.pure,false⟩
theorem aG4:aN tab 165 aOD:=Oc aFE rfl aJ [] trivial fun a=>by kernel_rfl
def jK (p0:Int) (p1:Int):Option Int:=(oG p0).bind fun b0=>(oG p1).bind fun b1=>bif b0 then bif b1 then some 0 else some (-1) else bif b1 then some 1 else bif decide (p0<p1) then some (-1) else bif decide (p1<p0) then some 1 else some 0
def aMY:cA:=⟨aE.cons (aO.int .i64) (aE.one (aO.int .i64)),aO.int .i64,fun a=>jK a.1 a.2,.pure,false⟩
theorem XJ:aN tab 110 aMY:=Oc aFb rfl aJ [(165,aOD)] ⟨aG4,trivial⟩ fun a=>by kernel_rfl
def sW (p0:Int) (p1:Int):Option (Bool×Int×Int):=(mA p0).bind fun n0=>(mA p1).bind fun n1=>(fY n0 n1).bind fun a2=>some (!((decide (p0<0))==(decide (p1<0))),a2)
def aOE:cA:=⟨aE.cons (aO.int .i64) (aE.one (aO.int .i64)),aO.agg (cW.row CJ),fun a=>sW a.1 a.2,.pure,false⟩
theorem aG5:aN tab 112 aOE:=Oc aFd rfl aJ [(108,aGS),(167,aGV)] ⟨PX,PY,trivial⟩ fun a=>by kernel_rfl
def nK (p0:Int):Option Bool:=some (p0 !=p0)
def aOF:cA:=⟨aE.one (aO.int .u64),aO.bool,fun a=>nK a,.pure,false⟩
theorem aG6:aN tab 210 aOF:=Oc aF8 rfl aJ [] trivial fun a=>by kernel_rfl
def iT (p0:Int) (p1:Int):Option Int:=(nK p0).bind fun b0=>(nK p1).bind fun b1=>bif b0 then bif b1 then some 0 else some (-1) else bif b1 then some 1 else bif decide (p0<p1) then some (-1) else bif decide (p1<p0) then some 1 else some 0
def aOG:cA:=⟨aE.cons (aO.int .u64) (aE.one (aO.int .u64)),aO.int .i64,fun a=>iT a.1 a.2,.pure,false⟩
theorem aG7:aN tab 166 aOG:=Oc aFF rfl aJ [(210,aOF)] ⟨aG6,trivial⟩ fun a=>by kernel_rfl
def rZ (p0:Bool×Int×Int) (p1:Bool×Int×Int):Option Int:=(iT p0.2.1 p1.2.1).bind fun n0=>bif n0 !=0 then some n0 else (iT p0.2.2 p1.2.2).bind fun n1=>some n1
def aOH:cA:=⟨aE.cons (aO.agg (cW.row CJ)) (aE.one (aO.agg (cW.row CJ))),aO.int .i64,fun a=>rZ a.1 a.2,.pure,false⟩
theorem aG8:aN tab 111 aOH:=Oc aFc rfl aJ [(166,aOG)] ⟨aG7,trivial⟩ fun a=>by kernel_rfl
def qX (p0:Int×Int) (p1:Int×Int):Option (Int×Int):=(AF p0 p1).bind fun n0=>bif n0 !=0 then some (0,n0) else bif !((decide (p0.1<0))==(decide (p1.1<0))) then (jK p0.1 p1.1).bind fun n1=>some (n1,0) else (sW p0.1 p1.2).bind fun a2=>(sW p1.1 p0.2).bind fun a3=>(rZ a2 a3).bind fun n4=>bif decide (p0.1<0) then some (aA .i64 (0-n4),0) else some (n4,0)
def c61:cA:=⟨aE.cons (aO.agg (cW.row jU)) (aE.one (aO.agg (cW.row jU))),aO.tup (aE.cons (aO.int .i64) (aE.one (aO.int .i64))),fun a=>qX a.1 a.2,.pure,false⟩
theorem U6:aN tab 61 c61:=Oc aMt rfl aJ [(109,aOC),(110,aMY),(112,aOE),(111,aOH)] ⟨aG3,XJ,aG5,aG8,trivial⟩ fun a=>by kernel_rfl
def sA (p0:Int):Option Bool:=some (p0 !=p0)
def aOI:cA:=⟨aE.one (aO.int .i64),aO.bool,fun a=>sA a,.pure,false⟩
theorem aG9:aN tab 203 aOI:=Oc aF2 rfl aJ [] trivial fun a=>by kernel_rfl
def fC (p0:Int) (p1:Int):Option Int:=(sA p0).bind fun b0=>(sA p1).bind fun b1=>bif b0 then bif b1 then some 0 else some (-1) else bif b1 then some 1 else bif decide (p0<p1) then some (-1) else bif decide (p1<p0) then some 1 else some 0
def U7:cA:=⟨aE.cons (aO.int .i64) (aE.one (aO.int .i64)),aO.int .i64,fun a=>fC a.1 a.2,.pure,false⟩
theorem DO:aN tab 151 U7:=Oc aFt rfl aJ [(203,aOI)] ⟨aG9,trivial⟩ fun a=>by kernel_rfl
def xR (s:(Int×(List Int)×Int×Int)):Option (cJ (Int×(List Int)×Int×Int) Int):=bif decide (s.2.2.2<s.2.2.1) then (aL s.2.1 s.2.2.2).bind fun n0=>bif n0 !=s.1 then some (.done n0) else some (.next (s.1,s.2.1,s.2.2.1,aA .i64 (s.2.2.2+1))) else some (.done s.1)
def vM (p0:List Int):Option Int:=aI xR (0,p0,Int.ofNat p0.length,0)
def aMZ:cA:=⟨aE.one (aO.sl ki),aO.int .i64,fun a=>vM a,.pure,false⟩
theorem XK:aN tab 194 aMZ:=Oc aF1 rfl aJ [] trivial fun a=>by kernel_rfl
def cB (p0:Int×Int×Int×Int×Int) (p1:Int×Int×Int×Int×Int):Option Int:=(qX (p0.1,p0.2.1) (p1.1,p1.2.1)).bind fun a0=>(fC p0.2.2.1 p1.2.2.1).bind fun n1=>(vM [a0.1,n1]).bind fun n2=>some n2
def aHa:cA:=⟨aE.cons (aO.agg (cW.row lL)) (aE.one (aO.agg (cW.row lL))),aO.int .i64,fun a=>cB a.1 a.2,.pure,false⟩
theorem P1:aN tab 208 aHa:=Oc aF6 rfl aJ [(61,c61),(151,U7),(194,aMZ)] ⟨U6,DO,XK,trivial⟩ fun a=>by kernel_rfl
def jD (s:aOj):Option (cJ aOj aOo):=bif decide (s.2.2.1<s.2.1) then (aL s.1 s.2.2.1).bind fun a0=>(eI (a0.1,a0.2.1)).bind fun n1=>bif n1 !=0 then some (.done (.done 8)) else bif decide (a0.2.2.1<0) then some (.done (.done 8)) else bif decide (1000000<a0.2.2.1) then some (.done (.done 8)) else (RI s.2.2.2.2.2.2.2.2 [a0.2.2.1]).bind fun b2=>bif b2 then some (.done (.done 8)) else (RJ s.2.2.2.2.2.2.2.2 [a0.2.2.1]).bind fun l3=>bif decide (0<s.2.2.1) then (aL s.2.2.2.2.2.2.1 (aA .i64 (Int.tdiv (aA .i64 (s.2.2.1-1)) 2))).bind fun a4=>(cB a0 a4).bind fun n5=>bif decide (n5<0) then some (.done (.done 8)) else some (.next (s.1,s.2.1,aA .i64 (s.2.2.1+1),s.2.2.2.1,s.2.2.2.2.1,s.2.2.2.2.2.1,s.2.2.2.2.2.2.1,s.2.2.2.2.2.2.2.1,l3)) else some (.next (s.1,s.2.1,aA .i64 (s.2.2.1+1),s.2.2.2.1,s.2.2.2.2.1,s.2.2.2.2.2.1,s.2.2.2.2.2.2.1,s.2.2.2.2.2.2.2.1,l3)) else some (.done (.done 0))
def lW (s:aOn):Option aOo:=bif decide (s.2.2.1<s.2.1) then (aL s.1 s.2.2.1).bind fun n0=>(aL s.2.2.2.2.1 s.2.2.1).bind fun b1=>bif !b1 then bif n0 !=(-1) then some (.done 8) else some (.next (s.1,s.2.1,aA .i64 (s.2.2.1+1),s.2.2.2)) else bif decide (n0<0) then some (.done 8) else bif decide ((Int.ofNat s.2.2.2.2.2.2.1.length)<=n0) then some (.done 8) else (aL s.2.2.2.2.2.2.1 n0).bind fun a2=>(aL s.2.2.2.1 s.2.2.1).bind fun n3=>bif !((a2.2.2.2.1==s.2.2.1)&&(a2.2.2.2.2==n3)) then some (.done 8) else some (.next (s.1,s.2.1,aA .i64 (s.2.2.1+1),s.2.2.2)) else aI jD (s.2.2.2.2.2.2.1,Int.ofNat s.2.2.2.2.2.2.1.length,0,s.2.2.2.1,s.2.2.2.2.1,s.2.2.2.2.2.1,s.2.2.2.2.2.2.1,s.2.2.2.2.2.2.2,[])
def jL (p0:aG):Option Int:=(qW p0.slots).bind fun n0=>bif n0 !=0 then some 8 else bif (Int.ofNat p0.where_.length) !=(Int.ofNat p0.slots.used.length) then some 8 else bif (Int.ofNat p0.heap.length) !=(aA .i64 ((Int.ofNat p0.slots.used.length) - (Int.ofNat p0.slots.free.length))) then some 8 else aI lW (p0.where_,Int.ofNat p0.where_.length,0,p0.slots.uses,p0.slots.used,p0.slots.free,p0.heap,p0.where_)
def Y9:cA:=⟨aE.one (aO.agg hZ),aO.int .i64,fun a=>jL a,.pure,false⟩
theorem GL:aN tab 162 Y9:=Oc aFB rfl aJ [(207,aG2),(60,c60),(208,aHa)] ⟨P0,xP,P1,trivial⟩ fun a=>by kernel_rfl
def xS (p0:Int×Int×Int) (p1:Int):Option Int:=(fC p0.1 p1).bind fun n0=>some n0
def aOJ:cA:=⟨aE.cons (aO.agg (cW.row fZ)) (aE.one (aO.int .i64)),aO.int .i64,fun a=>xS a.1 a.2,.pure,false⟩
theorem aHb:aN tab 215 aOJ:=Oc aGc rfl aJ [(151,U7)] ⟨DO,trivial⟩ fun a=>by kernel_rfl
def iM (s:PW):Option aGO:=bif decide (s.2.2.2.1<s.2.2.2.2) then (aL s.1 (aA .i64 (iF .u64 (aA .u64 (aA .i64 (s.2.2.2.1+s.2.2.2.2))) 1))).bind fun a0=>(xS a0 s.2.1).bind fun n1=>bif decide (n1<0) then some (.next (s.1,s.2.1,s.2.2.1,aA .i64 ((aA .i64 (iF .u64 (aA .u64 (aA .i64 (s.2.2.2.1+s.2.2.2.2))) 1))+1),s.2.2.2.2)) else some (.next (s.1,s.2.1,s.2.2.1,s.2.2.2.1,aA .i64 (iF .u64 (aA .u64 (aA .i64 (s.2.2.2.1+s.2.2.2.2))) 1))) else bif decide (s.2.2.2.1<s.2.2.1) then (aL s.1 s.2.2.2.1).bind fun a2=>(xS a2 s.2.1).bind fun n3=>some (.done (s.2.2.2.1,n3==0)) else some (.done (s.2.2.2.1,false))
def dA (p0:List CK) (p1:Int) (_:Unit):Option (Int×Bool):=aI iM (p0,p1,Int.ofNat p0.length,0,Int.ofNat p0.length)
def SC:cA:=⟨aE.cons (aO.sl fZ) (aE.cons (aO.int .i64) (aE.one (aO.clo 215 aE.nil))),aO.tup (aE.cons (aO.int .i64) (aE.one aO.bool)),fun a=>dA a.1 a.2.1 a.2.2,.pure,false⟩
theorem SD:aN tab 149 SC:=Oc W9 rfl aJ [(215,aOJ)] ⟨aHb,trivial⟩ fun a=>by kernel_rfl
def jM (p0:Field) (p1:Int):Option CK:=(dA p0.points p1 ()).bind fun a0=>bif !a0.2 then some (-1,0,0) else (aL p0.points a0.1).bind fun a1=>some a1
def aHc:cA:=⟨aE.cons (aO.agg eH) (aE.one (aO.int .i64)),aO.agg (cW.row fZ),fun a=>jM a.1 a.2,.pure,false⟩
theorem P2:aN tab 178 aHc:=Oc aFO rfl aJ [(149,SC)] ⟨SD,trivial⟩ fun a=>by kernel_rfl
def qY (p0:Int×Int×Int) (p1:Int×Int×Int) (p2:Int×Int):Option Int:=(nJ p0).bind fun n0=>(nJ p1).bind fun n1=>(eI p2).bind fun n2=>bif (if n2>(if n1>n0 then n1 else n0) then n2 else if n1>n0 then n1 else n0) !=0 then some (if n2>(if n1>n0 then n1 else n0) then n2 else if n1>n0 then n1 else n0) else bif p0.1==p1.1 then some 2 else some 0
def aHd:cA:=⟨aE.cons (aO.agg (cW.row fZ)) (aE.cons (aO.agg (cW.row fZ)) (aE.one (aO.agg (cW.row jU)))),aO.int .i64,fun a=>qY a.1 a.2.1 a.2.2,.pure,false⟩
theorem P3:aN tab 189 aHd:=Oc aFY rfl aJ [(88,c88),(60,c60)] ⟨aBc,xP,trivial⟩ fun a=>by kernel_rfl
def nZ (s:(Int×Int×Int×Int×Int×Int×Int×Int×Int)):Option (cJ (Int×Int×Int×Int×Int×Int×Int×Int×Int) (Int×Int)):=bif decide (s.2.2.2.2.1<2) then bif s.2.2.2.2.1==0 then (fY (aA .u64 s.1) (aA .u64 s.2.1)).bind fun a0=>bif decide (s.1<0) then bif decide (s.2.1<0) then (qU s.2.2.2.2.2.2.2.2 a0.2 0).bind fun a1=>some (.next (s.1,s.2.1,s.2.2.1,s.2.2.2.1,aA .i64 (s.2.2.2.2.1+1),s.2.2.2.2.2.1,s.2.2.2.2.2.2.1,aA .i64 ((aA .i64 (s.2.2.2.2.2.2.2.1+(aA .i64 ((aA .i64 ((aA .i64 a0.1) -s.2.1)) -s.1))))+(aA .i64 a1.2)),a1.1)) else (qU s.2.2.2.2.2.2.2.2 a0.2 0).bind fun a2=>some (.next (s.1,s.2.1,s.2.2.1,s.2.2.2.1,aA .i64 (s.2.2.2.2.1+1),s.2.2.2.2.2.1,s.2.2.2.2.2.2.1,aA .i64 ((aA .i64 (s.2.2.2.2.2.2.2.1+(aA .i64 ((aA .i64 a0.1) -s.2.1))))+(aA .i64 a2.2)),a2.1)) else bif decide (s.2.1<0) then (qU s.2.2.2.2.2.2.2.2 a0.2 0).bind fun a3=>some (.next (s.1,s.2.1,s.2.2.1,s.2.2.2.1,aA .i64 (s.2.2.2.2.1+1),s.2.2.2.2.2.1,s.2.2.2.2.2.2.1,aA .i64 ((aA .i64 (s.2.2.2.2.2.2.2.1+(aA .i64 ((aA .i64 a0.1) -s.1))))+(aA .i64 a3.2)),a3.1)) else (qU s.2.2.2.2.2.2.2.2 a0.2 0).bind fun a4=>some (.next (s.1,s.2.1,s.2.2.1,s.2.2.2.1,aA .i64 (s.2.2.2.2.1+1),s.2.2.2.2.2.1,s.2.2.2.2.2.2.1,aA .i64 ((aA .i64 (s.2.2.2.2.2.2.2.1+(aA .i64 a0.1)))+(aA .i64 a4.2)),a4.1)) else bif s.2.2.2.2.1==1 then (fY (aA .u64 s.2.2.1) (aA .u64 s.2.2.2.1)).bind fun a5=>bif decide (s.2.2.1<0) then bif decide (s.2.2.2.1<0) then (qU s.2.2.2.2.2.2.2.2 a5.2 0).bind fun a6=>some (.next (s.1,s.2.1,s.2.2.1,s.2.2.2.1,aA .i64 (s.2.2.2.2.1+1),s.2.2.2.2.2.1,s.2.2.2.2.2.2.1,aA .i64 ((aA .i64 (s.2.2.2.2.2.2.2.1+(aA .i64 ((aA .i64 ((aA .i64 a5.1) -s.2.2.2.1)) -s.2.2.1))))+(aA .i64 a6.2)),a6.1)) else (qU s.2.2.2.2.2.2.2.2 a5.2 0).bind fun a7=>some (.next (s.1,s.2.1,s.2.2.1,s.2.2.2.1,aA .i64 (s.2.2.2.2.1+1),s.2.2.2.2.2.1,s.2.2.2.2.2.2.1,aA .i64 ((aA .i64 (s.2.2.2.2.2.2.2.1+(aA .i64 ((aA .i64 a5.1) -s.2.2.2.1))))+(aA .i64 a7.2)),a7.1)) else bif decide (s.2.2.2.1<0) then (qU s.2.2.2.2.2.2.2.2 a5.2 0).bind fun a8=>some (.next (s.1,s.2.1,s.2.2.1,s.2.2.2.1,aA .i64 (s.2.2.2.2.1+1),s.2.2.2.2.2.1,s.2.2.2.2.2.2.1,aA .i64 ((aA .i64 (s.2.2.2.2.2.2.2.1+(aA .i64 ((aA .i64 a5.1) -s.2.2.1))))+(aA .i64 a8.2)),a8.1)) else (qU s.2.2.2.2.2.2.2.2 a5.2 0).bind fun a9=>some (.next (s.1,s.2.1,s.2.2.1,s.2.2.2.1,aA .i64 (s.2.2.2.2.1+1),s.2.2.2.2.2.1,s.2.2.2.2.2.2.1,aA .i64 ((aA .i64 (s.2.2.2.2.2.2.2.1+(aA .i64 a5.1)))+(aA .i64 a9.2)),a9.1)) else none else some (.done s.2.2.2.2.2.2.2)
def AG (p0:Int×Int×Int×Int):Option (Int×Int):=aI nZ (p0.1,p0.2.1,p0.2.2.1,p0.2.2.2,0,0,0,0,0)
def aOK:cA:=⟨aE.one (aO.agg (cW.row aN5)),aO.agg (cW.row kiu),fun a=>AG a,.pure,false⟩
theorem aHe:aN tab 237 aOK:=Oc aGp rfl aJ [(167,aGV),(275,cA.add64)] ⟨PY,aA7,trivial⟩ fun a=>by kernel_rfl
def mV (p0:Int×Int×Int) (p1:Int×Int×Int) (p2:Int×Int):Option Int:=(AG (aA .i64 (p0.2.1-p1.2.1),p2.2,aA .i64 (p0.2.2-p1.2.2),p2.1)).bind fun a0=>bif !((a0.1==0)&&(a0.2==0)) then bif decide (a0.1<0) then some (-1) else some 1 else (jK p0.2.2 p1.2.2).bind fun n1=>(fC p1.1 p0.1).bind fun n2=>(vM [n1,n2]).bind fun n3=>some n3
def aM0:cA:=⟨aE.cons (aO.agg (cW.row fZ)) (aE.cons (aO.agg (cW.row fZ)) (aE.one (aO.agg (cW.row jU)))),aO.int .i64,fun a=>mV a.1 a.2.1 a.2.2,.pure,false⟩
theorem XL:aN tab 190 aM0:=Oc aFZ rfl aJ [(237,aOK),(110,aMY),(151,U7),(194,aMZ)] ⟨aHe,XJ,DO,XK,trivial⟩ fun a=>by kernel_rfl
def CO (p0:Bool×Int×Int) (p1:Int) (p2:Int):Option ((Int×Int)×Int):=bif decide (0<p0.2.1) then some ((0,0),16) else bif decide (9223372036854775807<p0.2.2) then some ((0,0),16) else bif decide (0<p1) then some ((0,0),16) else bif decide (9223372036854775807<p2) then some ((0,0),16) else bif p0.1 then some ((aA .i64 (0- (aA .i64 p0.2.2)),aA .i64 p2),0) else some ((aA .i64 p0.2.2,aA .i64 p2),0)
def aOL:cA:=⟨aE.cons (aO.agg (cW.row CJ)) (aE.cons (aO.int .u64) (aE.one (aO.int .u64))),aO.tup (aE.cons (aO.agg (cW.row jU)) (aE.one (aO.int .i64))),fun a=>CO a.1 a.2.1 a.2.2,.pure,false⟩
theorem aHf:aN tab 238 aOL:=Oc aGq rfl aJ [] trivial fun a=>by kernel_rfl
def AH (p0:Int) (p1:Int):Option ((Int×Int)×Int):=bif p1==0 then some ((0,0),26) else (mA p0).bind fun n0=>(mA p1).bind fun n1=>(yW n0 n1).bind fun n2=>(mA p0).bind fun n3=>bif n2==0 then none else (mA p1).bind fun n4=>bif n2==0 then none else (CO (!((decide (p0<0))==(decide (p1<0))),0,aA .u64 (Int.tdiv n3 n2)) 0 (aA .u64 (Int.tdiv n4 n2))).bind fun a5=>some a5
def aOM:cA:=⟨aE.cons (aO.int .i64) (aE.one (aO.int .i64)),aO.tup (aE.cons (aO.agg (cW.row jU)) (aE.one (aO.int .i64))),fun a=>AH a.1 a.2,.pure,false⟩
theorem aHg:aN tab 192 aOM:=Oc aF0 rfl aJ [(108,aGS),(107,aMT),(238,aOL)] ⟨PX,XF,aHf,trivial⟩ fun a=>by kernel_rfl
def CP (p0:Int×Int×Int) (p1:Int×Int×Int):Option ((Int×Int)×Int):=(qY p0 p1 (0,1)).bind fun n0=>bif n0 !=0 then some ((0,0),n0) else bif p0.2.2==p1.2.2 then some ((0,0),6) else (AH (aA .i64 (p0.2.1-p1.2.1)) (aA .i64 (p1.2.2-p0.2.2))).bind fun a1=>some a1
def aON:cA:=⟨aE.cons (aO.agg (cW.row fZ)) (aE.one (aO.agg (cW.row fZ))),aO.tup (aE.cons (aO.agg (cW.row jU)) (aE.one (aO.int .i64))),fun a=>CP a.1 a.2,.pure,false⟩
theorem aHh:aN tab 131 aON:=Oc aFp rfl aJ [(189,aHd),(192,aOM)] ⟨P3,aHg,trivial⟩ fun a=>by kernel_rfl
def uQ (p0:Int×Int×Int) (p1:Int×Int×Int) (p2:Int×Int):Option ((Int×Int)×Bool×Int):=(qY p0 p1 p2).bind fun n0=>bif n0 !=0 then some ((0,0),false,n0) else (mV p1 p0 p2).bind fun n1=>bif decide (0<n1) then some (p2,true,0) else bif decide (p1.2.2<=p0.2.2) then some ((0,0),false,0) else (CP p0 p1).bind fun a2=>some (a2.1,a2.2==0,a2.2)
def aOO:cA:=⟨aE.cons (aO.agg (cW.row fZ)) (aE.cons (aO.agg (cW.row fZ)) (aE.one (aO.agg (cW.row jU)))),aO.tup (aE.cons (aO.agg (cW.row jU)) (aE.cons aO.bool (aE.one (aO.int .i64)))),fun a=>uQ a.1 a.2.1 a.2.2,.pure,false⟩
theorem aHi:aN tab 209 aOO:=Oc aF7 rfl aJ [(189,aHd),(190,aM0),(131,aON)] ⟨P3,XL,aHh,trivial⟩ fun a=>by kernel_rfl
def qZ (p0:Field) (p1:Int×Int) (p2:Int×Int):Option ((Int×Int)×Bool×Int):=(jM p0 p1.2).bind fun a0=>(jM p0 p1.1).bind fun a1=>(uQ a0 a1 p2).bind fun a2=>some a2
def aHj:cA:=⟨aE.cons (aO.agg eH) (aE.cons (aO.agg (cW.row jU)) (aE.one (aO.agg (cW.row jU)))),aO.tup (aE.cons (aO.agg (cW.row jU)) (aE.cons aO.bool (aE.one (aO.int .i64)))),fun a=>qZ a.1 a.2.1 a.2.2,.pure,false⟩
theorem P4:aN tab 163 aHj:=Oc aFC rfl aJ [(178,aHc),(209,aOO)] ⟨P2,aHi,trivial⟩ fun a=>by kernel_rfl
def cO (s:Zt6):Option (cJ Zt6 aOa):=bif decide (s.2.2.2.1<s.2.2.1) then (aL s.2.1 s.2.2.2.1).bind fun a0=>(qZ (Field.mk s.2.2.2.2.2.2.1) a0.2 (s.2.2.2.2.1,s.2.2.2.2.2.1)).bind fun a1=>bif a1.2.2 !=0 then some (.done (.done 8)) else bif !a1.2.1 then some (.next (s.1,s.2.1,s.2.2.1,aA .i64 (s.2.2.2.1+1),s.2.2.2.2)) else bif (Int.ofNat s.1.length)==0 then some (.done (.done 8)) else (aL s.1 0).bind fun a2=>bif a2.1 !=a0.1 then some (.done (.done 8)) else (aL s.1 0).bind fun a3=>bif decide (a3.2.1<0) then some (.done (.done 8)) else bif decide (200<=a3.2.1) then some (.done (.done 8)) else (aL s.2.2.2.2.2.2.2.2.2.2.2.2.2.1 a3.2.1).bind fun n4=>bif decide (n4<0) then some (.done (.done 8)) else (aL s.2.2.2.2.2.2.2.2.2.2.2.2.2.1 a3.2.1).bind fun n5=>(aL s.2.2.2.2.2.2.2.2.2.2.2.2.1 n5).bind fun a6=>bif !((a6.1==a1.1.1)&&((a6.2.1==a1.1.2)&&((a6.2.2.1==a0.1)&&((a6.2.2.2.1==a3.2.1)&&(a6.2.2.2.2==a3.2.2))))) then some (.done (.done 8)) else (jT s.1 1 (Int.ofNat s.1.length)).bind fun l7=>some (.next (l7,s.2.1,s.2.2.1,aA .i64 (s.2.2.2.1+1),s.2.2.2.2)) else bif decide (0<(Int.ofNat s.1.length)) then some (.done (.done 8)) else some (.done (.done 0))
def fA (s:aGK):Option aOa:=bif decide (s.2.1<s.1) then (aL s.2.2.2.2.2.2.2.2.2.2.2.2.2 s.2.1).bind fun n0=>bif n0 !=0 then some (.done 8) else some (.next (s.1,aA .i64 (s.2.1+1),s.2.2)) else bif (Int.ofNat s.2.2.2.2.2.2.2.2.2.2.2.1.length) !=200 then some (.done 8) else bif (Int.ofNat s.2.2.2.2.2.2.2.2.2.2.1.length) !=(Int.ofNat s.2.2.2.2.2.2.2.2.2.2.2.2.1.length) then some (.done 8) else aI cO (s.2.2.2.2.2.2.2.2.2.2.2.2.1,s.2.2.2.2.2.2.1,Int.ofNat s.2.2.2.2.2.2.1.length,0,s.2.2.1,s.2.2.2.1,s.2.2.2.2.1,s.2.2.2.2.2.1,s.2.2.2.2.2.2.1,s.2.2.2.2.2.2.2.1,s.2.2.2.2.2.2.2.2.1,s.2.2.2.2.2.2.2.2.2.1,s.2.2.2.2.2.2.2.2.2.2.1,s.2.2.2.2.2.2.2.2.2.2.2.1,s.2.2.2.2.2.2.2.2.2.2.2.2.1)
def iJ (p0:aH):Option Int:=(eI p0.now).bind fun n0=>(gN p0.field).bind fun n1=>(qV p0.certs).bind fun n2=>(jL p0.agenda).bind fun n3=>aI fA (Int.ofNat ([n0,n1,n2,n3].length),0,p0.now.1,p0.now.2,p0.field.points,p0.certs.next_,p0.certs.list,p0.agenda.slots.uses,p0.agenda.slots.used,p0.agenda.slots.free,p0.agenda.heap,p0.agenda.where_,p0.due,[n0,n1,n2,n3])
def ZA:cA:=⟨aE.one (aO.agg eX),aO.int .i64,fun a=>iJ a,.pure,false⟩
theorem GM:aN tab 103 ZA:=Oc aE4 rfl aJ [(60,c60),(87,c87),(161,aGZ),(162,Y9),(163,aHj)] ⟨xP,L0,PZ,GL,P4,trivial⟩ fun a=>by kernel_rfl
def sX (p0:Int×Int×Int) (p1:Int):Option Int:=(fC p0.1 p1).bind fun n0=>some n0
def aOP:cA:=⟨aE.cons (aO.agg (cW.row fZ)) (aE.one (aO.int .i64)),aO.int .i64,fun a=>sX a.1 a.2,.pure,false⟩
theorem aHk:aN tab 289 aOP:=Oc aGH rfl aJ [(151,U7)] ⟨DO,trivial⟩ fun a=>by kernel_rfl
def aV (s:PW):Option aGO:=bif decide (s.2.2.2.1<s.2.2.2.2) then (aL s.1 (aA .i64 (iF .u64 (aA .u64 (aA .i64 (s.2.2.2.1+s.2.2.2.2))) 1))).bind fun a0=>(sX a0 s.2.1).bind fun n1=>bif decide (n1<0) then some (.next (s.1,s.2.1,s.2.2.1,aA .i64 ((aA .i64 (iF .u64 (aA .u64 (aA .i64 (s.2.2.2.1+s.2.2.2.2))) 1))+1),s.2.2.2.2)) else some (.next (s.1,s.2.1,s.2.2.1,s.2.2.2.1,aA .i64 (iF .u64 (aA .u64 (aA .i64 (s.2.2.2.1+s.2.2.2.2))) 1))) else bif decide (s.2.2.2.1<s.2.2.1) then (aL s.1 s.2.2.2.1).bind fun a2=>(sX a2 s.2.1).bind fun n3=>some (.done (s.2.2.2.1,n3==0)) else some (.done (s.2.2.2.1,false))
def aW (p0:List CK) (p1:Int) (_:Unit):Option (Int×Bool):=aI aV (p0,p1,Int.ofNat p0.length,0,Int.ofNat p0.length)
def SF:cA:=⟨aE.cons (aO.sl fZ) (aE.cons (aO.int .i64) (aE.one (aO.clo 289 aE.nil))),aO.tup (aE.cons (aO.int .i64) (aE.one aO.bool)),fun a=>aW a.1 a.2.1 a.2.2,.pure,false⟩
theorem SG:aN tab 288 SF:=Oc aGG rfl aJ [(289,aOP)] ⟨aHk,trivial⟩ fun a=>by kernel_rfl
def IA (p0:aY) (p1:Int):Option (Int×Int):=(qV p0).bind fun n0=>bif n0 !=0 then some (0,n0) else (aW p0.list p1 ()).bind fun a1=>bif !a1.2 then some (0,6) else some (a1.1,0)
def aOQ:cA:=⟨aE.cons (aO.agg rW) (aE.one (aO.int .i64)),aO.tup (aE.cons (aO.int .i64) (aE.one (aO.int .i64))),fun a=>IA a.1 a.2,.pure,false⟩
theorem aHl:aN tab 261 aOQ:=Oc aGv rfl aJ [(161,aGZ),(288,SF)] ⟨PZ,SG,trivial⟩ fun a=>by kernel_rfl
def eF (a:aBa):Option (Nat×Nat×cV):=bif (((decide (0<=a.1))&&(decide (a.1<=a.2.1)))&&(decide (a.2.1<=(Int.ofNat a.2.2.length))))&&(decide ((Int.ofNat a.2.2.length)<=(Int.ofNat a.2.2.length))) then bif a.1==a.2.1 then bif a.2.2.length==a.2.2.length then some (a.2.2.length,a.2.2.length,a.2.2) else none else (jT a.2.2 0 a.1).bind fun _=>bif ((decide (0<=a.2.1))&&(decide (a.2.1<=(Int.ofNat a.2.2.length))))&&(decide ((Int.ofNat a.2.2.length)<=(Int.ofNat a.2.2.length))) then bif ((a.2.2.drop (0+a.2.1.toNat)).take (((Int.ofNat a.2.2.length).toNat) -a.2.1.toNat)).isEmpty then bif ((decide (0<=(Int.ofNat a.1.toNat)))&&(decide ((Int.ofNat a.1.toNat)<=(Int.ofNat a.2.2.length))))&&(decide ((Int.ofNat a.2.2.length)<=(Int.ofNat a.2.2.length))) then bif Nat.beq (((Int.ofNat a.2.2.length).toNat) - ((Int.ofNat a.1.toNat).toNat)) 0 then bif a.2.2.length==a.2.2.length then some (a.1.toNat,a.2.2.length,a.2.2) else none else bif (Nat.ble ((0+((Int.ofNat a.1.toNat).toNat))+(((Int.ofNat a.2.2.length).toNat) - ((Int.ofNat a.1.toNat).toNat))) a.2.2.length)&&(!false) then bif ((kL a.2.2 (0+((Int.ofNat a.1.toNat).toNat)) (List.replicate (((Int.ofNat a.2.2.length).toNat) - ((Int.ofNat a.1.toNat).toNat)) (0,0,0))).length)==a.2.2.length then some (a.1.toNat,a.2.2.length,kL a.2.2 (0+((Int.ofNat a.1.toNat).toNat)) (List.replicate (((Int.ofNat a.2.2.length).toNat) - ((Int.ofNat a.1.toNat).toNat)) (0,0,0))) else none else none else none else bif Nat.ble (a.1.toNat+(((a.2.2.drop (0+a.2.1.toNat)).take (((Int.ofNat a.2.2.length).toNat) -a.2.1.toNat)).length)) a.2.2.length then bif (Nat.ble (a.1.toNat+(((a.2.2.drop (0+a.2.1.toNat)).take (((Int.ofNat a.2.2.length).toNat) -a.2.1.toNat)).length)) a.2.2.length)&&(!false) then bif ((decide (0<=(Int.ofNat (a.1.toNat+(((a.2.2.drop (0+a.2.1.toNat)).take (((Int.ofNat a.2.2.length).toNat) -a.2.1.toNat)).length)))))&&(decide ((Int.ofNat (a.1.toNat+(((a.2.2.drop (0+a.2.1.toNat)).take (((Int.ofNat a.2.2.length).toNat) -a.2.1.toNat)).length)))<=(Int.ofNat a.2.2.length))))&&(decide ((Int.ofNat a.2.2.length)<=(Int.ofNat a.2.2.length))) then bif Nat.beq (((Int.ofNat a.2.2.length).toNat) - ((Int.ofNat (a.1.toNat+(((a.2.2.drop (0+a.2.1.toNat)).take (((Int.ofNat a.2.2.length).toNat) -a.2.1.toNat)).length))).toNat)) 0 then bif ((kL a.2.2 a.1.toNat ((a.2.2.drop (0+a.2.1.toNat)).take (((Int.ofNat a.2.2.length).toNat) -a.2.1.toNat))).length)==a.2.2.length then some (a.1.toNat+(((a.2.2.drop (0+a.2.1.toNat)).take (((Int.ofNat a.2.2.length).toNat) -a.2.1.toNat)).length),a.2.2.length,kL a.2.2 a.1.toNat ((a.2.2.drop (0+a.2.1.toNat)).take (((Int.ofNat a.2.2.length).toNat) -a.2.1.toNat))) else none else bif (Nat.ble ((0+((Int.ofNat (a.1.toNat+(((a.2.2.drop (0+a.2.1.toNat)).take (((Int.ofNat a.2.2.length).toNat) -a.2.1.toNat)).length))).toNat))+(((Int.ofNat a.2.2.length).toNat) - ((Int.ofNat (a.1.toNat+(((a.2.2.drop (0+a.2.1.toNat)).take (((Int.ofNat a.2.2.length).toNat) -a.2.1.toNat)).length))).toNat))) ((kL a.2.2 a.1.toNat ((a.2.2.drop (0+a.2.1.toNat)).take (((Int.ofNat a.2.2.length).toNat) -a.2.1.toNat))).length))&&(!false) then bif ((kL (kL a.2.2 a.1.toNat ((a.2.2.drop (0+a.2.1.toNat)).take (((Int.ofNat a.2.2.length).toNat) -a.2.1.toNat))) (0+((Int.ofNat (a.1.toNat+(((a.2.2.drop (0+a.2.1.toNat)).take (((Int.ofNat a.2.2.length).toNat) -a.2.1.toNat)).length))).toNat)) (List.replicate (((Int.ofNat a.2.2.length).toNat) - ((Int.ofNat (a.1.toNat+(((a.2.2.drop (0+a.2.1.toNat)).take (((Int.ofNat a.2.2.length).toNat) -a.2.1.toNat)).length))).toNat)) (0,0,0))).length)==a.2.2.length then some (a.1.toNat+(((a.2.2.drop (0+a.2.1.toNat)).take (((Int.ofNat a.2.2.length).toNat) -a.2.1.toNat)).length),a.2.2.length,kL (kL a.2.2 a.1.toNat ((a.2.2.drop (0+a.2.1.toNat)).take (((Int.ofNat a.2.2.length).toNat) -a.2.1.toNat))) (0+((Int.ofNat (a.1.toNat+(((a.2.2.drop (0+a.2.1.toNat)).take (((Int.ofNat a.2.2.length).toNat) -a.2.1.toNat)).length))).toNat)) (List.replicate (((Int.ofNat a.2.2.length).toNat) - ((Int.ofNat (a.1.toNat+(((a.2.2.drop (0+a.2.1.toNat)).take (((Int.ofNat a.2.2.length).toNat) -a.2.1.toNat)).length))).toNat)) (0,0,0))) else none else none else none else none else none else none else none
def aBf:eZ:=⟨[.i,.i,.l [.i .i64,.i .i64,.i .i64]],[.own 0 false,.int .i64 0,.int .i64 0],[.arr [.i .i64,.i .i64,.i .i64] []],[.n,.n,.l [.i .i64,.i .i64,.i .i64]],.pre 0 0 0 false,[.arr [.i .i64,.i .i64,.i .i64] []],fun a=>eF a⟩
theorem ZB:pF tab 262 aBf:=pF.of aGw (wd:=true) (cx:=(vJ aJ [] [] [] [])) (pG.make trivial trivial trivial) (fun a=>by kernel_rfl)
def wW (p0:aY) (p1:Int):Option (aY×(Int×Int)×Int):=(IA p0 p1).bind fun a0=>bif a0.2 !=0 then some (aY.mk 0 [],(0,0),a0.2) else (cZ p0.list).bind fun l1=>(eF (a0.1,aA .i64 (a0.1+1),l1)).bind fun a2=>(aL p0.list a0.1).bind fun a3=>some (aY.mk p0.next_ (a2.2.2.take a2.1),a3.2,0)
def aOR:cA:=⟨aE.cons (aO.agg rW) (aE.one (aO.int .i64)),aO.tup (aE.cons (aO.agg rW) (aE.cons (aO.agg (cW.row jU)) (aE.one (aO.int .i64)))),fun a=>wW a.1 a.2,.frz,false⟩
theorem aHm:aN tab 211 aOR:=aN.of aF9 (cx:=(vJ aJ [(261,aOQ),(170,cA.clone fZ)] [(262,aBf)] [] [])) rfl (pG.make ⟨aHl,GI,trivial⟩ ⟨ZB,trivial⟩ trivial) (fun a=>by kernel_rfl)
def jV (p0:aH):Option aH:=(cZ p0.field.points).bind fun l0=>(cZ p0.certs.list).bind fun l1=>(cZ p0.due).bind fun l2=>(cZ p0.agenda.heap).bind fun l3=>(cZ p0.agenda.where_).bind fun l4=>(cZ p0.agenda.slots.uses).bind fun l5=>(cZ p0.agenda.slots.used).bind fun l6=>(cZ p0.agenda.slots.free).bind fun l7=>some (aH.mk p0.now (Field.mk l0) (aY.mk p0.certs.next_ l1) (aG.mk (aR.mk l5 l6 l7) l3 l4) l2)
def aBg:cA:=⟨aE.one (aO.agg eX),aO.agg eX,fun a=>jV a,.own,true⟩
def SH:cA:=⟨aE.one (aO.agg eX),aO.agg eX,fun a=>jV a,.frz,false⟩
theorem J1:aN tab 115 aBg:=Oc W6 rfl aJ [(91,cA.clone fZ),(170,cA.clone fZ),(171,cA.clone fZ),(172,cA.clone lL),(64,cA.clone ki),(173,cA.clone kb)] ⟨GH,GI,R9,CN,uO,CL,trivial⟩ fun a=>by kernel_rfl
theorem GN:aN tab 115 SH:=Oc W6 rfl aJ [(91,cA.clone fZ),(170,cA.clone fZ),(171,cA.clone fZ),(172,cA.clone lL),(64,cA.clone ki),(173,cA.clone kb)] ⟨GH,GI,R9,CN,uO,CL,trivial⟩ fun a=>by kernel_rfl
def xT (p0:Int×Int×Int) (p1:Int):Option Int:=(fC p0.1 p1).bind fun n0=>some n0
def aOS:cA:=⟨aE.cons (aO.agg (cW.row fZ)) (aE.one (aO.int .i64)),aO.int .i64,fun a=>xT a.1 a.2,.pure,false⟩
theorem aHn:aN tab 217 aOS:=Oc aGe rfl aJ [(151,U7)] ⟨DO,trivial⟩ fun a=>by kernel_rfl
def jB (s:PW):Option aGO:=bif decide (s.2.2.2.1<s.2.2.2.2) then (aL s.1 (aA .i64 (iF .u64 (aA .u64 (aA .i64 (s.2.2.2.1+s.2.2.2.2))) 1))).bind fun a0=>(xT a0 s.2.1).bind fun n1=>bif decide (n1<0) then some (.next (s.1,s.2.1,s.2.2.1,aA .i64 ((aA .i64 (iF .u64 (aA .u64 (aA .i64 (s.2.2.2.1+s.2.2.2.2))) 1))+1),s.2.2.2.2)) else some (.next (s.1,s.2.1,s.2.2.1,s.2.2.2.1,aA .i64 (iF .u64 (aA .u64 (aA .i64 (s.2.2.2.1+s.2.2.2.2))) 1))) else bif decide (s.2.2.2.1<s.2.2.1) then (aL s.1 s.2.2.2.1).bind fun a2=>(xT a2 s.2.1).bind fun n3=>some (.done (s.2.2.2.1,n3==0)) else some (.done (s.2.2.2.1,false))
def dC (p0:List CK) (p1:Int) (_:Unit):Option (Int×Bool):=aI jB (p0,p1,Int.ofNat p0.length,0,Int.ofNat p0.length)
def SI:cA:=⟨aE.cons (aO.sl fZ) (aE.cons (aO.int .i64) (aE.one (aO.clo 217 aE.nil))),aO.tup (aE.cons (aO.int .i64) (aE.one aO.bool)),fun a=>dC a.1 a.2.1 a.2.2,.pure,false⟩
theorem SJ:aN tab 216 SI:=Oc aGd rfl aJ [(217,aOS)] ⟨aHn,trivial⟩ fun a=>by kernel_rfl
def oZ (p0:List CK) (p1:Int):Option (Int×Bool):=(dC p0 p1 ()).bind fun a0=>some a0
def aM1:cA:=⟨aE.cons (aO.sl fZ) (aE.one (aO.int .i64)),aO.tup (aE.cons (aO.int .i64) (aE.one aO.bool)),fun a=>oZ a.1 a.2,.pure,false⟩
theorem XM:aN tab 179 aM1:=Oc aFP rfl aJ [(216,SI)] ⟨SJ,trivial⟩ fun a=>by kernel_rfl
def CQ (p0:aR) (p1:Int×Int):Option (Bool×Int):=(qW p0).bind fun n0=>bif n0 !=0 then some (false,n0) else bif decide (0<=p1.1) then bif decide (p1.1<(Int.ofNat p0.used.length)) then (aL p0.used p1.1).bind fun b1=>bif b1 then (aL p0.uses p1.1).bind fun n2=>some (n2==p1.2,0) else some (false,0) else some (false,0) else some (false,0)
def aM2:cA:=⟨aE.cons (aO.agg rV) (aE.one (aO.agg (cW.row jU))),aO.tup (aE.cons aO.bool (aE.one (aO.int .i64))),fun a=>CQ a.1 a.2,.pure,false⟩
theorem XN:aN tab 264 aM2:=Oc aGy rfl aJ [(207,aG2)] ⟨P0,trivial⟩ fun a=>by kernel_rfl
def pV (p0:aG) (p1:Int×Int):Option (Int×Int):=(jL p0).bind fun n0=>bif n0 !=0 then some (0,n0) else (CQ p0.slots p1).bind fun a1=>bif a1.2 !=0 then some (0,6) else bif !a1.1 then some (0,6) else (aL p0.where_ p1.1).bind fun n2=>some (n2,0)
def aM3:cA:=⟨aE.cons (aO.agg hZ) (aE.one (aO.agg (cW.row jU))),aO.tup (aE.cons (aO.int .i64) (aE.one (aO.int .i64))),fun a=>pV a.1 a.2,.pure,false⟩
theorem XO:aN tab 218 aM3:=Oc aGf rfl aJ [(162,Y9),(264,aM2)] ⟨GL,XN,trivial⟩ fun a=>by kernel_rfl
def uA (p0:List Int) (p1:Int):Option (List Int):=(cZ p0).bind fun l0=>(bZ l0 [p1]).bind fun l1=>some l1
def aOT:cA:=⟨aE.cons (aO.sl ki) (aE.one (aO.int .i64)),aO.sl ki,fun a=>uA a.1 a.2,.frz,false⟩
theorem aHo:aN tab 291 aOT:=Oc aGJ rfl aJ [(290,cA.clone ki)] ⟨SA,trivial⟩ fun a=>by kernel_rfl
def DP (p0:aR) (p1:Int×Int):Option (aR×Int):=(CQ p0 p1).bind fun a0=>bif a0.2 !=0 then some (aR.mk [] [] [],a0.2) else bif !a0.1 then some (aR.mk [] [] [],6) else (cZ p0.uses).bind fun l1=>(cZ p0.used).bind fun l2=>(uA p0.free p1.1).bind fun l3=>(aL l2 p1.1).bind fun _=>some (aR.mk l1 (bY l2 p1.1 false) l3,0)
def aOU:cA:=⟨aE.cons (aO.agg rV) (aE.one (aO.agg (cW.row jU))),aO.tup (aE.cons (aO.agg rV) (aE.one (aO.int .i64))),fun a=>DP a.1 a.2,.frz,false⟩
theorem aHp:aN tab 269 aOU:=aN.of aGB (cx:=(vJ aJ [(264,aM2),(64,cA.clone ki),(173,cA.clone kb),(291,aOT)] [] [(268,aA5)] [])) rfl (pG.make ⟨XN,uO,CL,aHo,trivial⟩ trivial ⟨XE,trivial⟩) (fun a=>by kernel_rfl)
def bU (a:aGL):Option Y8:=(aL (a.2.2.2.2.2.2.2.2.2.2.2.1.take a.2.2.2.1) a.2.2.2.2.2.1).bind fun _=>(aL a.2.2.2.2.2.2.2.2.2.2.2.2 a.2.2.2.2.2.2.2.2.2.1).bind fun _=>bif ((bY a.2.2.2.2.2.2.2.2.2.2.2.1 a.2.2.2.2.2.1 (a.2.2.2.2.2.2.1,a.2.2.2.2.2.2.2.1,a.2.2.2.2.2.2.2.2.1,a.2.2.2.2.2.2.2.2.2.1,a.2.2.2.2.2.2.2.2.2.2.1)).length)==a.2.2.2.2.2.2.2.2.2.2.2.1.length then bif ((bY a.2.2.2.2.2.2.2.2.2.2.2.2 a.2.2.2.2.2.2.2.2.2.1 a.2.2.2.2.2.1).length)==a.2.2.2.2.2.2.2.2.2.2.2.2.length then some (bY a.2.2.2.2.2.2.2.2.2.2.2.1 a.2.2.2.2.2.1 (a.2.2.2.2.2.2.1,a.2.2.2.2.2.2.2.1,a.2.2.2.2.2.2.2.2.1,a.2.2.2.2.2.2.2.2.2.1,a.2.2.2.2.2.2.2.2.2.2.1),bY a.2.2.2.2.2.2.2.2.2.2.2.2 a.2.2.2.2.2.2.2.2.2.1 a.2.2.2.2.2.1) else none else none
def U8:eZ:=⟨[.l [.i .i64],.l [.b],.l [.i .i64],.n,.n,.i,.i,.i,.i,.i,.i,.l [.i .i64,.i .i64,.i .i64,.i .i64,.i .i64],.l [.i .i64]],[.agg [.sl [.i .i64] [],.sl [.b] [],.sl [.i .i64] [],.pre 0 0 0 false,.own 1 false],.int .i64 0,.agg [.int .i64 0,.int .i64 0,.int .i64 0,.int .i64 0,.int .i64 0]],[.arr [.i .i64,.i .i64,.i .i64,.i .i64,.i .i64] [],.arr [.i .i64] []],[.l [.i .i64,.i .i64,.i .i64,.i .i64,.i .i64],.l [.i .i64]],.tup [],[.arr [.i .i64,.i .i64,.i .i64,.i .i64,.i .i64] [],.arr [.i .i64] []],fun a=>bU a⟩
theorem OD:pF tab 265 U8:=pF.of XD (wd:=false) (cx:=(vJ aJ [] [] [] [])) (pG.make trivial trivial trivial) (fun a=>by kernel_rfl)
def fQ (c0:aGL) (s:aOk):Option (cJ aOk aOg):=match s with |(a,b,d,e,f,g,h,i,j,k,l,m,n,o)=>bif decide (b<(Int.ofNat i)) then bif decide ((aA .i64 (b+1))<(Int.ofNat i)) then (aL (d.take i) (aA .i64 (b+1))).bind fun a0=>(aL (d.take i) b).bind fun a1=>(cB a0 a1).bind fun n2=>bif decide (n2<0) then (aL (d.take i) (aA .i64 (b+1))).bind fun a3=>(cB a3 (k,l,m,n,o)).bind fun n4=>bif decide (0<=n4) then (bU (f,g,h,i,j,a,k,l,m,n,o,d,e)).bind fun a5=>bif a5.1.length==c0.2.2.2.2.2.2.2.2.2.2.2.1.length then bif a5.2.length==c0.2.2.2.2.2.2.2.2.2.2.2.2.length then some (.done (.done a5)) else none else none else (aL (d.take i) (aA .i64 (b+1))).bind fun a6=>(bU (f,g,h,i,j,a,a6.1,a6.2.1,a6.2.2.1,a6.2.2.2.1,a6.2.2.2.2,d,e)).bind fun a7=>some (.next (aA .i64 (b+1),aA .i64 ((aA .i64 (2*(aA .i64 (b+1))))+1),a7.1,a7.2,(f,g,h,i,j,k,l,m,n,o))) else (aL (d.take i) b).bind fun a8=>(cB a8 (k,l,m,n,o)).bind fun n9=>bif decide (0<=n9) then (bU (f,g,h,i,j,a,k,l,m,n,o,d,e)).bind fun a10=>bif a10.1.length==c0.2.2.2.2.2.2.2.2.2.2.2.1.length then bif a10.2.length==c0.2.2.2.2.2.2.2.2.2.2.2.2.length then some (.done (.done a10)) else none else none else (aL (d.take i) b).bind fun a11=>(bU (f,g,h,i,j,a,a11.1,a11.2.1,a11.2.2.1,a11.2.2.2.1,a11.2.2.2.2,d,e)).bind fun a12=>some (.next (b,aA .i64 ((aA .i64 (2*b))+1),a12.1,a12.2,(f,g,h,i,j,k,l,m,n,o))) else (aL (d.take i) b).bind fun a13=>(cB a13 (k,l,m,n,o)).bind fun n14=>bif decide (0<=n14) then (bU (f,g,h,i,j,a,k,l,m,n,o,d,e)).bind fun a15=>bif a15.1.length==c0.2.2.2.2.2.2.2.2.2.2.2.1.length then bif a15.2.length==c0.2.2.2.2.2.2.2.2.2.2.2.2.length then some (.done (.done a15)) else none else none else (aL (d.take i) b).bind fun a16=>(bU (f,g,h,i,j,a,a16.1,a16.2.1,a16.2.2.1,a16.2.2.2.1,a16.2.2.2.2,d,e)).bind fun a17=>some (.next (b,aA .i64 ((aA .i64 (2*b))+1),a17.1,a17.2,(f,g,h,i,j,k,l,m,n,o))) else (bU (f,g,h,i,j,a,k,l,m,n,o,d,e)).bind fun a18=>bif a18.1.length==c0.2.2.2.2.2.2.2.2.2.2.2.1.length then bif a18.2.length==c0.2.2.2.2.2.2.2.2.2.2.2.2.length then some (.done (.done a18)) else none else none
def eL (c0:aGL) (s:aOf):Option aOg:=bif decide (0<s.1) then (aL (s.2.1.take s.2.2.2.2.2.2.1) (aA .i64 (Int.tdiv (aA .i64 (s.1-1)) 2))).bind fun a0=>(cB s.2.2.2.2.2.2.2.2 a0).bind fun n1=>bif decide (n1<0) then (aL (s.2.1.take s.2.2.2.2.2.2.1) (aA .i64 (Int.tdiv (aA .i64 (s.1-1)) 2))).bind fun a2=>(bU (s.2.2.2.1,s.2.2.2.2.1,s.2.2.2.2.2.1,s.2.2.2.2.2.2.1,s.2.2.2.2.2.2.2.1,s.1,a2.1,a2.2.1,a2.2.2.1,a2.2.2.2.1,a2.2.2.2.2,s.2.1,s.2.2.1)).bind fun a3=>some (.next (aA .i64 (Int.tdiv (aA .i64 (s.1-1)) 2),a3.1,a3.2,s.2.2.2)) else aI (fQ c0) (s.1,aA .i64 ((aA .i64 (2*s.1))+1),s.2) else aI (fQ c0) (s.1,aA .i64 ((aA .i64 (2*s.1))+1),s.2)
def kA (a:aGL):Option Y8:=aI (eL a) (a.2.2.2.2.2.1,a.2.2.2.2.2.2.2.2.2.2.2.1,a.2.2.2.2.2.2.2.2.2.2.2.2,a.1,a.2.1,a.2.2.1,a.2.2.2.1,a.2.2.2.2.1,a.2.2.2.2.2.2.1,a.2.2.2.2.2.2.2.1,a.2.2.2.2.2.2.2.2.1,a.2.2.2.2.2.2.2.2.2.1,a.2.2.2.2.2.2.2.2.2.2.1)
def P5:eZ:=⟨[.l [.i .i64],.l [.b],.l [.i .i64],.n,.n,.i,.i,.i,.i,.i,.i,.l [.i .i64,.i .i64,.i .i64,.i .i64,.i .i64],.l [.i .i64]],[.agg [.sl [.i .i64] [],.sl [.b] [],.sl [.i .i64] [],.pre 0 0 0 false,.own 1 false],.int .i64 0,.agg [.int .i64 0,.int .i64 0,.int .i64 0,.int .i64 0,.int .i64 0]],[.arr [.i .i64,.i .i64,.i .i64,.i .i64,.i .i64] [],.arr [.i .i64] []],[.l [.i .i64,.i .i64,.i .i64,.i .i64,.i .i64],.l [.i .i64]],.tup [],[.arr [.i .i64,.i .i64,.i .i64,.i .i64,.i .i64] [],.arr [.i .i64] []],fun a=>kA a⟩
theorem IB:pF tab 220 P5:=pF.of XC (wd:=false) (cx:=(vJ aJ [(208,aHa)] [(265,U8)] [] [])) (pG.make ⟨P1,trivial⟩ ⟨OD,trivial⟩ trivial) (fun a=>by kernel_rfl)
def sB (p0:aG) (p1:Int):Option (aG×PS×Int):=(aL p0.heap p1).bind fun a0=>(DP p0.slots a0.2.2.2).bind fun a1=>bif a1.2 !=0 then some (aG.mk (aR.mk [] [] []) [] [],(0,0,0,0,0),a1.2) else (cZ p0.heap).bind fun l2=>(cZ p0.where_).bind fun l3=>(aL l2 (aA .i64 ((Int.ofNat l2.length) -1))).bind fun a4=>(jT l2 0 (aA .i64 ((Int.ofNat l2.length) -1))).bind fun _=>(aL l3 a0.2.2.2.1).bind fun _=>bif decide (p1<(aA .i64 ((Int.ofNat l2.length) -1))) then (kA (a1.1.uses,a1.1.used,a1.1.free,(aA .i64 ((Int.ofNat l2.length) -1)).toNat,l2.length,p1,a4.1,a4.2.1,a4.2.2.1,a4.2.2.2.1,a4.2.2.2.2,l2,bY l3 a0.2.2.2.1 (-1))).bind fun a7=>some (aG.mk a1.1 (a7.1.take ((aA .i64 ((Int.ofNat l2.length) -1)).toNat)) a7.2,a0,0) else some (aG.mk a1.1 (l2.take ((aA .i64 ((Int.ofNat l2.length) -1)).toNat)) (bY l3 a0.2.2.2.1 (-1)),a0,0)
def aOV:cA:=⟨aE.cons (aO.agg hZ) (aE.one (aO.int .i64)),aO.tup (aE.cons (aO.agg hZ) (aE.cons (aO.agg (cW.row lL)) (aE.one (aO.int .i64)))),fun a=>sB a.1 a.2,.frz,false⟩
theorem aHq:aN tab 224 aOV:=aN.of aGj (cx:=(vJ aJ [(269,aOU),(172,cA.clone lL),(64,cA.clone ki)] [(220,P5)] [(219,Y7)] [])) rfl (pG.make ⟨aHp,CN,uO,trivial⟩ ⟨IB,trivial⟩ ⟨PR,trivial⟩) (fun a=>by kernel_rfl)
def mB (p0:aG) (p1:Int×Int):Option (aG×PS×Int):=(pV p0 p1).bind fun a0=>bif a0.2 !=0 then some (aG.mk (aR.mk [] [] []) [] [],(0,0,0,0,0),a0.2) else (sB p0 a0.1).bind fun a1=>some a1
def aM4:cA:=⟨aE.cons (aO.agg hZ) (aE.one (aO.agg (cW.row jU))),aO.tup (aE.cons (aO.agg hZ) (aE.cons (aO.agg (cW.row lL)) (aE.one (aO.int .i64)))),fun a=>mB a.1 a.2,.frz,false⟩
theorem XP:aN tab 182 aM4:=Oc aFS rfl aJ [(218,aM3),(224,aOV)] ⟨XO,aHq,trivial⟩ fun a=>by kernel_rfl
def lM (a:aBa):Option (Nat×Nat×cV):= eF a
def aBh:eZ:=⟨[.i,.i,.l [.i .i64,.i .i64,.i .i64]],[.own 0 false,.int .i64 0,.int .i64 0],[.arr [.i .i64,.i .i64,.i .i64] []],[.n,.n,.l [.i .i64,.i .i64,.i .i64]],.pre 0 0 0 false,[.arr [.i .i64,.i .i64,.i .i64] []],fun a=>lM a⟩
theorem ZC:pF tab 212 aBh:=pF.of aGa (wd:=true) (cx:=(vJ aJ [] [] [] [])) (pG.make trivial trivial trivial) (fun a=>by kernel_rfl)
def hJ (p0:aH) (p1:Int):Option (aH×(Int×Int)×Int):=(wW p0.certs p1).bind fun a0=>bif a0.2.2 !=0 then some (aH.mk (0,0) (Field.mk []) (aY.mk 0 []) (aG.mk (aR.mk [] [] []) [] []) [],a0.2) else (jV p0).bind fun r1=>(oZ p0.due p1).bind fun a2=>bif a2.2 then (aL p0.due a2.1).bind fun a3=>(mB p0.agenda a3.2).bind fun a4=>bif a4.2.2 !=0 then some (aH.mk (0,0) (Field.mk []) (aY.mk 0 []) (aG.mk (aR.mk [] [] []) [] []) [],a0.2.1,a4.2.2) else (lM (a2.1,aA .i64 (a2.1+1),r1.due)).bind fun a5=>some (aH.mk r1.now r1.field a0.1 a4.1 (a5.2.2.take a5.1),a0.2.1,0) else some (aH.mk r1.now r1.field a0.1 r1.agenda r1.due,a0.2.1,0)
def aM5:cA:=⟨aE.cons (aO.agg eX) (aE.one (aO.int .i64)),aO.tup (aE.cons (aO.agg eX) (aE.cons (aO.agg (cW.row jU)) (aE.one (aO.int .i64)))),fun a=>hJ a.1 a.2,.frz,false⟩
theorem XQ:aN tab 168 aM5:=aN.of aFH (cx:=(vJ aJ [(211,aOR),(115,aBg),(115,SH),(179,aM1),(182,aM4)] [(212,aBh)] [] [])) rfl (pG.make ⟨aHm,J1,GN,XM,XP,trivial⟩ ⟨ZC,trivial⟩ trivial) (fun a=>by kernel_rfl)
def uR (p0:aH) (p1:Int):Option (aH×Int):=(iJ p0).bind fun n0=>bif n0 !=0 then some (aH.mk (0,0) (Field.mk []) (aY.mk 0 []) (aG.mk (aR.mk [] [] []) [] []) [],n0) else (hJ p0 p1).bind fun a1=>some (a1.1,a1.2.2)
def aOW:cA:=⟨aE.cons (aO.agg eX) (aE.one (aO.int .i64)),aO.tup (aE.cons (aO.agg eX) (aE.one (aO.int .i64))),fun a=>uR a.1 a.2,.frz,false⟩
theorem aHr:aN tab 119 aOW:=Oc aFh rfl aJ [(103,ZA),(168,aM5)] ⟨GM,XQ,trivial⟩ fun a=>by kernel_rfl
def jA (s:(cV×cV×Int×Int)):Option (cJ (cV×cV×Int×Int) Bool):=bif decide (s.2.2.2<s.2.2.1) then (aL s.1 s.2.2.2).bind fun a0=>(aL s.2.1 s.2.2.2).bind fun a1=>bif !((a0.1==a1.1)&&((a0.2.1==a1.2.1)&&(a0.2.2==a1.2.2))) then some (.done false) else some (.next (s.1,s.2.1,s.2.2.1,aA .i64 (s.2.2.2+1))) else some (.done true)
def lN (p0:List CK) (p1:List CK):Option Bool:=bif (Int.ofNat p0.length) !=(Int.ofNat p1.length) then some false else aI jA (p0,p1,Int.ofNat p0.length,0)
def aOX:cA:=⟨aE.cons (aO.sl fZ) (aE.one (aO.sl fZ)),aO.bool,fun a=>lN a.1 a.2,.pure,false⟩
theorem aHs:aN tab 120 aOX:=Oc aFi rfl aJ [] trivial fun a=>by kernel_rfl
def bV (a:aGM):Option Y8:=(aL a.2.2.2.2.2.2.2.2.2.1 a.2.2.2.1).bind fun _=>(aL a.2.2.2.2.2.2.2.2.2.2 a.2.2.2.2.2.2.2.1).bind fun _=>bif ((bY a.2.2.2.2.2.2.2.2.2.1 a.2.2.2.1 (a.2.2.2.2.1,a.2.2.2.2.2.1,a.2.2.2.2.2.2.1,a.2.2.2.2.2.2.2.1,a.2.2.2.2.2.2.2.2.1)).length)==a.2.2.2.2.2.2.2.2.2.1.length then bif ((bY a.2.2.2.2.2.2.2.2.2.2 a.2.2.2.2.2.2.2.1 a.2.2.2.1).length)==a.2.2.2.2.2.2.2.2.2.2.length then some (bY a.2.2.2.2.2.2.2.2.2.1 a.2.2.2.1 (a.2.2.2.2.1,a.2.2.2.2.2.1,a.2.2.2.2.2.2.1,a.2.2.2.2.2.2.2.1,a.2.2.2.2.2.2.2.2.1),bY a.2.2.2.2.2.2.2.2.2.2 a.2.2.2.2.2.2.2.1 a.2.2.2.1) else none else none
def aBi:eZ:=⟨[.l [.i .i64],.l [.b],.l [.i .i64],.i,.i,.i,.i,.i,.i,.l [.i .i64,.i .i64,.i .i64,.i .i64,.i .i64],.l [.i .i64]],[.agg [.sl [.i .i64] [],.sl [.b] [],.sl [.i .i64] [],.own 0 false,.own 1 false],.int .i64 0,.agg [.int .i64 0,.int .i64 0,.int .i64 0,.int .i64 0,.int .i64 0]],[.arr [.i .i64,.i .i64,.i .i64,.i .i64,.i .i64] [],.arr [.i .i64] []],[.l [.i .i64,.i .i64,.i .i64,.i .i64,.i .i64],.l [.i .i64]],.tup [],[.arr [.i .i64,.i .i64,.i .i64,.i .i64,.i .i64] [],.arr [.i .i64] []],fun a=>bV a⟩
theorem ZD:pF tab 265 aBi:=pF.of XD (wd:=false) (cx:=(vJ aJ [] [] [] [])) (pG.make trivial trivial trivial) (fun a=>by kernel_rfl)
def fR (c0:aGM) (s:aOl):Option (cJ aOl aOi):=match s with |(a,b,d,e,f,g,h,i,j,k,l,m)=>bif decide (b<(Int.ofNat d.length)) then bif decide ((aA .i64 (b+1))<(Int.ofNat d.length)) then (aL d (aA .i64 (b+1))).bind fun a0=>(aL d b).bind fun a1=>(cB a0 a1).bind fun n2=>bif decide (n2<0) then (aL d (aA .i64 (b+1))).bind fun a3=>(cB a3 (i,j,k,l,m)).bind fun n4=>bif decide (0<=n4) then (bV (f,g,h,a,i,j,k,l,m,d,e)).bind fun a5=>bif a5.1.length==c0.2.2.2.2.2.2.2.2.2.1.length then bif a5.2.length==c0.2.2.2.2.2.2.2.2.2.2.length then some (.done (.done a5)) else none else none else (aL d (aA .i64 (b+1))).bind fun a6=>(bV (f,g,h,a,a6.1,a6.2.1,a6.2.2.1,a6.2.2.2.1,a6.2.2.2.2,d,e)).bind fun a7=>some (.next (aA .i64 (b+1),aA .i64 ((aA .i64 (2*(aA .i64 (b+1))))+1),a7.1,a7.2,(f,g,h,i,j,k,l,m))) else (aL d b).bind fun a8=>(cB a8 (i,j,k,l,m)).bind fun n9=>bif decide (0<=n9) then (bV (f,g,h,a,i,j,k,l,m,d,e)).bind fun a10=>bif a10.1.length==c0.2.2.2.2.2.2.2.2.2.1.length then bif a10.2.length==c0.2.2.2.2.2.2.2.2.2.2.length then some (.done (.done a10)) else none else none else (aL d b).bind fun a11=>(bV (f,g,h,a,a11.1,a11.2.1,a11.2.2.1,a11.2.2.2.1,a11.2.2.2.2,d,e)).bind fun a12=>some (.next (b,aA .i64 ((aA .i64 (2*b))+1),a12.1,a12.2,(f,g,h,i,j,k,l,m))) else (aL d b).bind fun a13=>(cB a13 (i,j,k,l,m)).bind fun n14=>bif decide (0<=n14) then (bV (f,g,h,a,i,j,k,l,m,d,e)).bind fun a15=>bif a15.1.length==c0.2.2.2.2.2.2.2.2.2.1.length then bif a15.2.length==c0.2.2.2.2.2.2.2.2.2.2.length then some (.done (.done a15)) else none else none else (aL d b).bind fun a16=>(bV (f,g,h,a,a16.1,a16.2.1,a16.2.2.1,a16.2.2.2.1,a16.2.2.2.2,d,e)).bind fun a17=>some (.next (b,aA .i64 ((aA .i64 (2*b))+1),a17.1,a17.2,(f,g,h,i,j,k,l,m))) else (bV (f,g,h,a,i,j,k,l,m,d,e)).bind fun a18=>bif a18.1.length==c0.2.2.2.2.2.2.2.2.2.1.length then bif a18.2.length==c0.2.2.2.2.2.2.2.2.2.2.length then some (.done (.done a18)) else none else none
def eM (c0:aGM) (s:aOh):Option aOi:=bif decide (0<s.1) then (aL s.2.1 (aA .i64 (Int.tdiv (aA .i64 (s.1-1)) 2))).bind fun a0=>(cB s.2.2.2.2.2.2 a0).bind fun n1=>bif decide (n1<0) then (aL s.2.1 (aA .i64 (Int.tdiv (aA .i64 (s.1-1)) 2))).bind fun a2=>(bV (s.2.2.2.1,s.2.2.2.2.1,s.2.2.2.2.2.1,s.1,a2.1,a2.2.1,a2.2.2.1,a2.2.2.2.1,a2.2.2.2.2,s.2.1,s.2.2.1)).bind fun a3=>some (.next (aA .i64 (Int.tdiv (aA .i64 (s.1-1)) 2),a3.1,a3.2,s.2.2.2)) else aI (fR c0) (s.1,aA .i64 ((aA .i64 (2*s.1))+1),s.2) else aI (fR c0) (s.1,aA .i64 ((aA .i64 (2*s.1))+1),s.2)
def eW (a:aGM):Option Y8:=aI (eM a) (a.2.2.2.1,a.2.2.2.2.2.2.2.2.2.1,a.2.2.2.2.2.2.2.2.2.2,a.1,a.2.1,a.2.2.1,a.2.2.2.2.1,a.2.2.2.2.2.1,a.2.2.2.2.2.2.1,a.2.2.2.2.2.2.2.1,a.2.2.2.2.2.2.2.2.1)
def U9:eZ:=⟨[.l [.i .i64],.l [.b],.l [.i .i64],.i,.i,.i,.i,.i,.i,.l [.i .i64,.i .i64,.i .i64,.i .i64,.i .i64],.l [.i .i64]],[.agg [.sl [.i .i64] [],.sl [.b] [],.sl [.i .i64] [],.own 0 false,.own 1 false],.int .i64 0,.agg [.int .i64 0,.int .i64 0,.int .i64 0,.int .i64 0,.int .i64 0]],[.arr [.i .i64,.i .i64,.i .i64,.i .i64,.i .i64] [],.arr [.i .i64] []],[.l [.i .i64,.i .i64,.i .i64,.i .i64,.i .i64],.l [.i .i64]],.tup [],[.arr [.i .i64,.i .i64,.i .i64,.i .i64,.i .i64] [],.arr [.i .i64] []],fun a=>eW a⟩
theorem OE:pF tab 220 U9:=pF.of XC (wd:=false) (cx:=(vJ aJ [(208,aHa)] [(265,U8),(265,aBi)] [] [])) (pG.make ⟨P1,trivial⟩ ⟨OD,ZD,trivial⟩ trivial) (fun a=>by kernel_rfl)
def uS (p0:aG) (p1:Int×Int) (p2:Int×Int):Option (aG×Int):=(jL p0).bind fun n0=>(eI p2).bind fun n1=>bif (if n1>n0 then n1 else n0) !=0 then some (aG.mk (aR.mk [] [] []) [] [],if n1>n0 then n1 else n0) else (pV p0 p1).bind fun a2=>bif a2.2 !=0 then some (aG.mk (aR.mk [] [] []) [] [],a2.2) else (cZ p0.heap).bind fun l3=>(cZ p0.where_).bind fun l4=>(aL l3 a2.1).bind fun a5=>(eW (p0.slots.uses,p0.slots.used,p0.slots.free,a2.1,p2.1,p2.2,a5.2.2.1,a5.2.2.2.1,a5.2.2.2.2,l3,l4)).bind fun a6=>some (aG.mk p0.slots a6.1 a6.2,0)
def aOY:cA:=⟨aE.cons (aO.agg hZ) (aE.cons (aO.agg (cW.row jU)) (aE.one (aO.agg (cW.row jU)))),aO.tup (aE.cons (aO.agg hZ) (aE.one (aO.int .i64))),fun a=>uS a.1 a.2.1 a.2.2,.frz,false⟩
theorem aHt:aN tab 180 aOY:=aN.of aFQ (cx:=(vJ aJ [(162,Y9),(60,c60),(218,aM3),(172,cA.clone lL),(64,cA.clone ki)] [(220,P5),(220,U9)] [(219,Y7)] [])) rfl (pG.make ⟨GL,xP,XO,CN,uO,trivial⟩ ⟨IB,OE,trivial⟩ ⟨PR,trivial⟩) (fun a=>by kernel_rfl)
def xU (p0:Int×Int×Int×Int×Int) (p1:Int):Option Bool:=some (p0.2.2.1==p1)
def aOZ:cA:=⟨aE.cons (aO.agg (cW.row lL)) (aE.one (aO.ref (cW.int .i64))),aO.bool,fun a=>xU a.1 a.2,.pure,false⟩
theorem aHu:aN tab 222 aOZ:=Oc aGh rfl aJ [] trivial fun a=>by kernel_rfl
def cQ (s:(pH×Int×Int×Int)):Option (cJ (pH×Int×Int×Int) Int):=bif decide (s.2.2.2<s.2.2.1) then (aL s.1 s.2.2.2).bind fun a0=>(xU a0 s.2.1).bind fun b1=>bif b1 then some (.done s.2.2.2) else some (.next (s.1,s.2.1,s.2.2.1,aA .i64 (s.2.2.2+1))) else some (.done (-1))
def eN (p0:List PS) (p1:Int):Option Int:=aI cQ (p0,p1,Int.ofNat p0.length,0)
def SK:cA:=⟨aE.cons (aO.sl lL) (aE.one (aO.clo 222 (aE.one (aO.ref (cW.int .i64))))),aO.int .i64,fun a=>eN a.1 a.2,.pure,false⟩
theorem SL:aN tab 266 SK:=Oc aGz rfl aJ [(222,aOZ)] ⟨aHu,trivial⟩ fun a=>by kernel_rfl
def cR (p0:List PS) (p1:Int):Option Bool:=(eN p0 p1).bind fun n0=>some (decide (0<=n0))
def SM:cA:=⟨aE.cons (aO.sl lL) (aE.one (aO.clo 222 (aE.one (aO.ref (cW.int .i64))))),aO.bool,fun a=>cR a.1 a.2,.pure,false⟩
theorem SN:aN tab 221 SM:=Oc aGg rfl aJ [(266,SK)] ⟨SL,trivial⟩ fun a=>by kernel_rfl
def vN (p0:List Int):Option ((List Int)×Int):=(jT p0 0 (aA .i64 ((Int.ofNat p0.length) -1))).bind fun l0=>(cZ l0).bind fun l1=>(aL p0 (aA .i64 ((Int.ofNat p0.length) -1))).bind fun n2=>some (l1,n2)
def aO0:cA:=⟨aE.one (aO.sl ki),aO.tup (aE.cons (aO.sl ki) (aE.one (aO.int .i64))),fun a=>vN a,.frz,false⟩
theorem aHv:aN tab 267 aO0:=Oc aGA rfl aJ [(290,cA.clone ki)] ⟨SA,trivial⟩ fun a=>by kernel_rfl
def DQ (p0:aR):Option (aR×(Int×Int)×Int):=(qW p0).bind fun n0=>bif n0 !=0 then some (aR.mk [] [] [],(0,0),n0) else bif (Int.ofNat p0.free.length)==0 then some (aR.mk [] [] [],(0,0),18) else (vN p0.free).bind fun a1=>(aL p0.uses a1.2).bind fun n2=>bif n2==1000000 then some (aR.mk [] [] [],(0,0),18) else (cZ p0.uses).bind fun l3=>(cZ p0.used).bind fun l4=>(aL l4 a1.2).bind fun _=>(aL l3 a1.2).bind fun n6=>(aL l3 a1.2).bind fun _=>(aL (bY l3 a1.2 (aA .i64 (n6+1))) a1.2).bind fun n8=>some (aR.mk (bY l3 a1.2 (aA .i64 (n6+1))) (bY l4 a1.2 true) a1.1,(a1.2,n8),0)
def aO1:cA:=⟨aE.one (aO.agg rV),aO.tup (aE.cons (aO.agg rV) (aE.cons (aO.agg (cW.row jU)) (aE.one (aO.int .i64)))),fun a=>DQ a,.frz,false⟩
theorem aHw:aN tab 223 aO1:=aN.of aGi (cx:=(vJ aJ [(207,aG2),(267,aO0),(64,cA.clone ki),(173,cA.clone kb)] [] [(268,aA5)] [])) rfl (pG.make ⟨P0,aHv,uO,CL,trivial⟩ trivial ⟨XE,trivial⟩) (fun a=>by kernel_rfl)
def lE (p0:aG) (p1:Int×Int) (p2:Int):Option (aG×(Int×Int)×Int):=(jL p0).bind fun n0=>(eI p1).bind fun n1=>bif (if n1>n0 then n1 else n0) !=0 then some (aG.mk (aR.mk [] [] []) [] [],(0,0),if n1>n0 then n1 else n0) else bif decide (p2<0) then some (aG.mk (aR.mk [] [] []) [] [],(0,0),2) else bif decide (1000000<p2) then some (aG.mk (aR.mk [] [] []) [] [],(0,0),2) else (cR p0.heap p2).bind fun b2=>bif b2 then some (aG.mk (aR.mk [] [] []) [] [],(0,0),14) else (DQ p0.slots).bind fun a3=>bif a3.2.2 !=0 then some (aG.mk (aR.mk [] [] []) [] [],(0,0),a3.2.2) else (cZ p0.heap).bind fun l4=>(cZ p0.where_).bind fun l5=>(bZ l4 [(p1.1,p1.2,p2,a3.2.1)]).bind fun l6=>(eW (a3.1.uses,a3.1.used,a3.1.free,aA .i64 ((Int.ofNat l6.length) -1),p1.1,p1.2,p2,a3.2.1.1,a3.2.1.2,l6,l5)).bind fun a7=>some (aG.mk a3.1 a7.1 a7.2,a3.2.1,0)
def aM6:cA:=⟨aE.cons (aO.agg hZ) (aE.cons (aO.agg (cW.row jU)) (aE.one (aO.int .i64))),aO.tup (aE.cons (aO.agg hZ) (aE.cons (aO.agg (cW.row jU)) (aE.one (aO.int .i64)))),fun a=>lE a.1 a.2.1 a.2.2,.frz,false⟩
theorem XS:aN tab 181 aM6:=aN.of aFR (cx:=(vJ aJ [(162,Y9),(60,c60),(221,SM),(223,aO1),(172,cA.clone lL),(64,cA.clone ki)] [(220,P5),(220,U9)] [(219,Y7)] [])) rfl (pG.make ⟨GL,xP,SN,aHw,CN,uO,trivial⟩ ⟨IB,OE,trivial⟩ ⟨PR,trivial⟩) (fun a=>by kernel_rfl)
def dL (s:Zt1):Option (cJ Zt1 Zt4):=match s with |(a,b,d,e,f,g,h,i,j,k,l,m,n,o,q,r,t,u,v,w,x,y,z,A,B,C,D,E,F)=>bif decide (d<b) then (aL a d).bind fun a0=>(qZ (Field.mk q) a0.2 (e,f)).bind fun a1=>(oZ o a0.1).bind fun a2=>bif a1.2.1 then bif a2.2 then (aL o a2.1).bind fun a3=>(uS (aG.mk (aR.mk z A B) C D) a3.2 a1.1).bind fun a4=>(aL o a2.1).bind fun a5=>(bZ F [a5]).bind fun l6=>bif a4.2 !=0 then some (.done (.done (aH.mk (0,0) (Field.mk []) (aY.mk 0 []) (aG.mk (aR.mk [] [] []) [] []) [],a4.2))) else some (.next (a,b,aA .i64 (d+1),e,f,g,h,i,j,k,l,m,n,o,q,r,t,u,v,w,x,y,a4.1.slots.uses,a4.1.slots.used,a4.1.slots.free,a4.1.heap,a4.1.where_,E,l6)) else bif a1.2.1 then (lE (aG.mk (aR.mk z A B) C D) a1.1 a0.1).bind fun a7=>(bZ F [(a0.1,a7.2.1)]).bind fun l8=>bif a7.2.2 !=0 then some (.done (.done (aH.mk (0,0) (Field.mk []) (aY.mk 0 []) (aG.mk (aR.mk [] [] []) [] []) [],a7.2.2))) else some (.next (a,b,aA .i64 (d+1),e,f,g,h,i,j,k,l,m,n,o,q,r,t,u,v,w,x,y,a7.1.slots.uses,a7.1.slots.used,a7.1.slots.free,a7.1.heap,a7.1.where_,E,l8)) else bif a2.2 then (aL o a2.1).bind fun a9=>(mB (aG.mk (aR.mk z A B) C D) a9.2).bind fun a10=>bif a10.2.2 !=0 then some (.done (.done (aH.mk (0,0) (Field.mk []) (aY.mk 0 []) (aG.mk (aR.mk [] [] []) [] []) [],a10.2.2))) else some (.next (a,b,aA .i64 (d+1),e,f,g,h,i,j,k,l,m,n,o,q,r,t,u,v,w,x,y,a10.1.slots.uses,a10.1.slots.used,a10.1.slots.free,a10.1.heap,a10.1.where_,(E,F))) else bif a1.2.2 !=0 then some (.done (.done (aH.mk (0,0) (Field.mk []) (aY.mk 0 []) (aG.mk (aR.mk [] [] []) [] []) [],a1.2.2))) else some (.next (a,b,aA .i64 (d+1),(e,f,g,h,i,j,k,l,m,n,o,q,r,t,u,v,w,x,y,z,A,B,C,D,E,F))) else bif a1.2.1 then (lE (aG.mk (aR.mk z A B) C D) a1.1 a0.1).bind fun a11=>(bZ F [(a0.1,a11.2.1)]).bind fun l12=>bif a11.2.2 !=0 then some (.done (.done (aH.mk (0,0) (Field.mk []) (aY.mk 0 []) (aG.mk (aR.mk [] [] []) [] []) [],a11.2.2))) else some (.next (a,b,aA .i64 (d+1),e,f,g,h,i,j,k,l,m,n,o,q,r,t,u,v,w,x,y,a11.1.slots.uses,a11.1.slots.used,a11.1.slots.free,a11.1.heap,a11.1.where_,E,l12)) else bif a2.2 then (aL o a2.1).bind fun a13=>(mB (aG.mk (aR.mk z A B) C D) a13.2).bind fun a14=>bif a14.2.2 !=0 then some (.done (.done (aH.mk (0,0) (Field.mk []) (aY.mk 0 []) (aG.mk (aR.mk [] [] []) [] []) [],a14.2.2))) else some (.next (a,b,aA .i64 (d+1),e,f,g,h,i,j,k,l,m,n,o,q,r,t,u,v,w,x,y,a14.1.slots.uses,a14.1.slots.used,a14.1.slots.free,a14.1.heap,a14.1.where_,(E,F))) else bif a1.2.2 !=0 then some (.done (.done (aH.mk (0,0) (Field.mk []) (aY.mk 0 []) (aG.mk (aR.mk [] [] []) [] []) [],a1.2.2))) else some (.next (a,b,aA .i64 (d+1),(e,f,g,h,i,j,k,l,m,n,o,q,r,t,u,v,w,x,y,z,A,B,C,D,E,F))) else some (.done (.done (aH.mk (v,w) (Field.mk E) (aY.mk x y) (aG.mk (aR.mk z A B) C D) F,0)))
def kM (s:aN7):Option Zt4:=bif decide (s.2.2.1<s.2.1) then (aL s.1 s.2.2.1).bind fun a0=>(jM (Field.mk s.2.2.2.2.2.2.2.2.2.2.2.2.2.2.1) a0.2.1).bind fun a1=>bif decide (a1.1<0) then some (.done (aH.mk (0,0) (Field.mk []) (aY.mk 0 []) (aG.mk (aR.mk [] [] []) [] []) [],6)) else (jM (Field.mk s.2.2.2.2.2.2.2.2.2.2.2.2.2.2.1) a0.2.2).bind fun a2=>bif decide (a2.1<0) then some (.done (aH.mk (0,0) (Field.mk []) (aY.mk 0 []) (aG.mk (aR.mk [] [] []) [] []) [],6)) else some (.next (s.1,s.2.1,aA .i64 (s.2.2.1+1),s.2.2.2)) else (jV (aH.mk (s.2.2.2.1,s.2.2.2.2.1) (Field.mk s.2.2.2.2.2.1) (aY.mk s.2.2.2.2.2.2.1 s.2.2.2.2.2.2.2.1) (aG.mk (aR.mk s.2.2.2.2.2.2.2.2.1 s.2.2.2.2.2.2.2.2.2.1 s.2.2.2.2.2.2.2.2.2.2.1) s.2.2.2.2.2.2.2.2.2.2.2.1 s.2.2.2.2.2.2.2.2.2.2.2.2.1) s.2.2.2.2.2.2.2.2.2.2.2.2.2.1)).bind fun r3=>(cZ s.2.2.2.2.2.2.2.2.2.2.2.2.2.2.1).bind fun l4=>aI dL (s.2.2.2.2.2.2.2.1,Int.ofNat s.2.2.2.2.2.2.2.1.length,0,s.2.2.2.1,s.2.2.2.2.1,s.2.2.2.2.2.1,s.2.2.2.2.2.2.1,s.2.2.2.2.2.2.2.1,s.2.2.2.2.2.2.2.2.1,s.2.2.2.2.2.2.2.2.2.1,s.2.2.2.2.2.2.2.2.2.2.1,s.2.2.2.2.2.2.2.2.2.2.2.1,s.2.2.2.2.2.2.2.2.2.2.2.2.1,s.2.2.2.2.2.2.2.2.2.2.2.2.2.1,s.2.2.2.2.2.2.2.2.2.2.2.2.2.2.1,s.2.2.2.2.2.2.2.2.2.2.2.2.2.2.2.1,s.2.2.2.2.2.2.2.2.2.2.2.2.2.2.2.2.1,s.2.2.2.2.2.2.2.2.2.2.2.2.2.2.2.2.2,r3.now.1,r3.now.2,r3.certs.next_,r3.certs.list,r3.agenda.slots.uses,r3.agenda.slots.used,r3.agenda.slots.free,r3.agenda.heap,r3.agenda.where_,l4,[])
def pA (p0:aH) (p1:Field):Option (aH×Int):=(iJ p0).bind fun n0=>bif n0 !=0 then some (aH.mk (0,0) (Field.mk []) (aY.mk 0 []) (aG.mk (aR.mk [] [] []) [] []) [],n0) else (gN p1).bind fun n1=>bif n1 !=0 then some (aH.mk (0,0) (Field.mk []) (aY.mk 0 []) (aG.mk (aR.mk [] [] []) [] []) [],n1) else aI kM (p0.certs.list,Int.ofNat p0.certs.list.length,0,p0.now.1,p0.now.2,p0.field.points,p0.certs.next_,p0.certs.list,p0.agenda.slots.uses,p0.agenda.slots.used,p0.agenda.slots.free,p0.agenda.heap,p0.agenda.where_,p0.due,p1.points,0,0,0)
def aO2:cA:=⟨aE.cons (aO.agg eX) (aE.one (aO.agg eH)),aO.tup (aE.cons (aO.agg eX) (aE.one (aO.int .i64))),fun a=>pA a.1 a.2,.frz,false⟩
theorem aHx:aN tab 121 aO2:=Oc aFj rfl aJ [(103,ZA),(87,c87),(178,aHc),(115,aBg),(115,SH),(91,cA.clone fZ),(163,aHj),(179,aM1),(180,aOY),(181,aM6),(182,aM4)] ⟨GM,L0,P2,J1,GN,GH,P4,XM,aHt,XS,XP,trivial⟩ fun a=>by kernel_rfl
def EG (p0:Int×Int×Int) (p1:Int×Int):Option Bool:=some ((p0.2.1==p1.1)&&(p0.2.2==p1.2))
def aO3:cA:=⟨aE.cons (aO.agg (cW.row fZ)) (aE.one (aO.ref (cW.row jU))),aO.bool,fun a=>EG a.1 a.2,.pure,false⟩
theorem aHy:aN tab 123 aO3:=Oc aFk rfl aJ [] trivial fun a=>by kernel_rfl
def mL (s:PW):Option (cJ PW Int):=bif decide (s.2.2.2.2<s.2.2.2.1) then (aL s.1 s.2.2.2.2).bind fun a0=>(EG a0 (s.2.1,s.2.2.1)).bind fun b1=>bif b1 then some (.done s.2.2.2.2) else some (.next (s.1,s.2.1,s.2.2.1,s.2.2.2.1,aA .i64 (s.2.2.2.2+1))) else some (.done (-1))
def iA (p0:List CK) (p1:(Int×Int)):Option Int:=aI mL (p0,p1.1,p1.2,Int.ofNat p0.length,0)
def SP:cA:=⟨aE.cons (aO.sl fZ) (aE.one (aO.clo 123 (aE.one (aO.ref (cW.row jU))))),aO.int .i64,fun a=>iA a.1 a.2,.pure,false⟩
theorem SQ:aN tab 183 SP:=Oc XB rfl aJ [(123,aO3)] ⟨aHy,trivial⟩ fun a=>by kernel_rfl
def eE (p0:List CK) (p1:(Int×Int)):Option Bool:=(iA p0 p1).bind fun n0=>some (decide (0<=n0))
def SS:cA:=⟨aE.cons (aO.sl fZ) (aE.one (aO.clo 123 (aE.one (aO.ref (cW.row jU))))),aO.bool,fun a=>eE a.1 a.2,.pure,false⟩
theorem ST:aN tab 122 SS:=Oc W7 rfl aJ [(183,SP)] ⟨SQ,trivial⟩ fun a=>by kernel_rfl
def dI (p0:Int):Option (aH×Int×Int):=some (aH.mk (0,0) (Field.mk []) (aY.mk 0 []) (aG.mk (aR.mk [] [] []) [] []) [],0,p0)
def aO4:cA:=⟨aE.one (aO.int .i64),aO.tup (aE.cons (aO.agg eX) (aE.cons (aO.int .i64) (aE.one (aO.int .i64)))),fun a=>dI a,.frz,false⟩
theorem aHz:aN tab 184 aO4:=Oc aFT rfl aJ [] trivial fun a=>by kernel_rfl
def FA (p0:Int×Int×Int) (p1:Int×Int):Option Bool:=some ((p0.2.1==p1.1)&&(p0.2.2==p1.2))
def aO5:cA:=⟨aE.cons (aO.agg (cW.row fZ)) (aE.one (aO.ref (cW.row jU))),aO.bool,fun a=>FA a.1 a.2,.pure,false⟩
theorem aHA:aN tab 225 aO5:=Oc aGk rfl aJ [] trivial fun a=>by kernel_rfl
def dG (s:PW):Option (cJ PW Int):=bif decide (s.2.2.2.2<s.2.2.2.1) then (aL s.1 s.2.2.2.2).bind fun a0=>(FA a0 (s.2.1,s.2.2.1)).bind fun b1=>bif b1 then some (.done s.2.2.2.2) else some (.next (s.1,s.2.1,s.2.2.1,s.2.2.2.1,aA .i64 (s.2.2.2.2+1))) else some (.done (-1))
def fK (p0:List CK) (p1:(Int×Int)):Option Int:=aI dG (p0,p1.1,p1.2,Int.ofNat p0.length,0)
def SU:cA:=⟨aE.cons (aO.sl fZ) (aE.one (aO.clo 225 (aE.one (aO.ref (cW.row jU))))),aO.int .i64,fun a=>fK a.1 a.2,.pure,false⟩
theorem SW:aN tab 183 SU:=Oc XB rfl aJ [(225,aO5)] ⟨aHA,trivial⟩ fun a=>by kernel_rfl
def cC (p0:List CK) (p1:(Int×Int)):Option Bool:=(fK p0 p1).bind fun n0=>some (decide (0<=n0))
def SX:cA:=⟨aE.cons (aO.sl fZ) (aE.one (aO.clo 225 (aE.one (aO.ref (cW.row jU))))),aO.bool,fun a=>cC a.1 a.2,.pure,false⟩
theorem SY:aN tab 122 SX:=Oc W7 rfl aJ [(183,SU)] ⟨SW,trivial⟩ fun a=>by kernel_rfl
def GO (p0:aY) (p1:Int×Int):Option (aY×Int×Int):=(qV p0).bind fun n0=>bif n0 !=0 then some (aY.mk 0 [],0,n0) else (vL p1).bind fun b1=>bif !b1 then some (aY.mk 0 [],0,8) else (cC p0.list p1).bind fun b2=>bif b2 then some (aY.mk 0 [],0,14) else bif (Int.ofNat p0.list.length)==200 then some (aY.mk 0 [],0,18) else bif p0.next_==1000000 then some (aY.mk 0 [],0,18) else (cZ p0.list).bind fun l3=>(bZ l3 [(p0.next_,p1)]).bind fun l4=>some (aY.mk (aA .i64 (p0.next_+1)) l4,p0.next_,0)
def aO6:cA:=⟨aE.cons (aO.agg rW) (aE.one (aO.agg (cW.row jU))),aO.tup (aE.cons (aO.agg rW) (aE.cons (aO.int .i64) (aE.one (aO.int .i64)))),fun a=>GO a.1 a.2,.frz,false⟩
theorem aHB:aN tab 185 aO6:=Oc aFU rfl aJ [(161,aGZ),(206,aMX),(122,SX),(170,cA.clone fZ)] ⟨PZ,XI,SY,GI,trivial⟩ fun a=>by kernel_rfl
def iK (p0:aH) (p1:Int×Int):Option (aH×Int×Int):=(iJ p0).bind fun n0=>bif n0 !=0 then (dI n0).bind fun a1=>some a1 else (GO p0.certs p1).bind fun a2=>bif a2.2.2==8 then (dI a2.2.2).bind fun a3=>some a3 else (jM p0.field p1.1).bind fun a4=>bif decide (a4.1<0) then (dI 6).bind fun a5=>some a5 else (jM p0.field p1.2).bind fun a6=>bif decide (a6.1<0) then (dI 6).bind fun a7=>some a7 else bif a2.2.2 !=0 then (dI a2.2.2).bind fun a8=>some a8 else (jV p0).bind fun r9=>(qZ p0.field p1 p0.now).bind fun a10=>bif a10.2.2 !=0 then (dI a10.2.2).bind fun a11=>some a11 else bif a10.2.1 then (lE p0.agenda a10.1 a2.2.1).bind fun a12=>bif a12.2.2 !=0 then (dI a12.2.2).bind fun a13=>some a13 else (bZ r9.due [(a2.2.1,a12.2.1)]).bind fun l14=>some (aH.mk r9.now r9.field a2.1 a12.1 l14,a2.2.1,0) else some (aH.mk r9.now r9.field a2.1 r9.agenda r9.due,a2.2.1,0)
def aO7:cA:=⟨aE.cons (aO.agg eX) (aE.one (aO.agg (cW.row jU))),aO.tup (aE.cons (aO.agg eX) (aE.cons (aO.int .i64) (aE.one (aO.int .i64)))),fun a=>iK a.1 a.2,.frz,false⟩
theorem aHC:aN tab 124 aO7:=Oc aFl rfl aJ [(103,ZA),(184,aO4),(185,aO6),(178,aHc),(115,aBg),(115,SH),(163,aHj),(181,aM6)] ⟨GM,aHz,aHB,P2,J1,GN,P4,XS,trivial⟩ fun a=>by kernel_rfl
def cD (s:aN9):Option (cJ aN9 Zt3):=bif decide (s.2.2.1<s.2.1) then (aL s.1 s.2.2.1).bind fun a0=>(eE s.2.2.2.2.2.2.2.1 a0).bind fun b1=>bif b1 then some (.next (s.1,s.2.1,aA .i64 (s.2.2.1+1),s.2.2.2)) else (iK (aH.mk (s.2.2.2.1,s.2.2.2.2.1) (Field.mk s.2.2.2.2.2.1) (aY.mk s.2.2.2.2.2.2.1 s.2.2.2.2.2.2.2.1) (aG.mk (aR.mk s.2.2.2.2.2.2.2.2.1 s.2.2.2.2.2.2.2.2.2.1 s.2.2.2.2.2.2.2.2.2.2.1) s.2.2.2.2.2.2.2.2.2.2.2.1 s.2.2.2.2.2.2.2.2.2.2.2.2.1) s.2.2.2.2.2.2.2.2.2.2.2.2.2.1) a0).bind fun a2=>bif a2.2.2 !=0 then some (.done (.done (aH.mk (0,0) (Field.mk []) (aY.mk 0 []) (aG.mk (aR.mk [] [] []) [] []) [],a2.2.2))) else some (.next (s.1,s.2.1,aA .i64 (s.2.2.1+1),a2.1.now.1,a2.1.now.2,a2.1.field.points,a2.1.certs.next_,a2.1.certs.list,a2.1.agenda.slots.uses,a2.1.agenda.slots.used,a2.1.agenda.slots.free,a2.1.agenda.heap,a2.1.agenda.where_,a2.1.due,s.2.2.2.2.2.2.2.2.2.2.2.2.2.2)) else some (.done (.done (aH.mk (s.2.2.2.1,s.2.2.2.2.1) (Field.mk s.2.2.2.2.2.1) (aY.mk s.2.2.2.2.2.2.1 s.2.2.2.2.2.2.2.1) (aG.mk (aR.mk s.2.2.2.2.2.2.2.2.1 s.2.2.2.2.2.2.2.2.2.1 s.2.2.2.2.2.2.2.2.2.2.1) s.2.2.2.2.2.2.2.2.2.2.2.1 s.2.2.2.2.2.2.2.2.2.2.2.2.1) s.2.2.2.2.2.2.2.2.2.2.2.2.2.1,0)))
def bP (s:aN6):Option Zt3:=match s with |(a,b,d,e,f,g,h,i,j,k,l,m,n,o,q,r,t,u,v)=>bif decide (e<d) then (aL b e).bind fun a0=>(gO a a0.2).bind fun b1=>bif !b1 then (uR (aH.mk (f,g) (Field.mk h) (aY.mk i j) (aG.mk (aR.mk k l m) n o) q) a0.1).bind fun a2=>some (.next (a,b,d,aA .i64 (e+1),a2.1.now.1,a2.1.now.2,a2.1.field.points,a2.1.certs.next_,a2.1.certs.list,a2.1.agenda.slots.uses,a2.1.agenda.slots.used,a2.1.agenda.slots.free,a2.1.agenda.heap,a2.1.agenda.where_,a2.1.due,(r,t,u,v))) else some (.next (a,b,d,aA .i64 (e+1),(f,g,h,i,j,k,l,m,n,o,q,r,t,u,v))) else (lN h r).bind fun b3=>bif !b3 then (pA (aH.mk (f,g) (Field.mk h) (aY.mk i j) (aG.mk (aR.mk k l m) n o) q) (Field.mk r)).bind fun a4=>bif a4.2 !=0 then some (.done (aH.mk (0,0) (Field.mk []) (aY.mk 0 []) (aG.mk (aR.mk [] [] []) [] []) [],a4.2)) else aI cD (a,Int.ofNat a.length,0,a4.1.now.1,a4.1.now.2,a4.1.field.points,a4.1.certs.next_,a4.1.certs.list,a4.1.agenda.slots.uses,a4.1.agenda.slots.used,a4.1.agenda.slots.free,a4.1.agenda.heap,a4.1.agenda.where_,a4.1.due,(t,u,v)) else aI cD (a,Int.ofNat a.length,0,f,g,h,i,j,k,l,m,n,o,q,(t,u,v))
def gQ (p0:aH) (p1:Field) (p2:List (Int×Int)):Option (aH×Int):=aI bP (p2,p0.certs.list,Int.ofNat p0.certs.list.length,0,p0.now.1,p0.now.2,p0.field.points,p0.certs.next_,p0.certs.list,p0.agenda.slots.uses,p0.agenda.slots.used,p0.agenda.slots.free,p0.agenda.heap,p0.agenda.where_,p0.due,p1.points,0,0,0)
def c68:cA:=⟨aE.cons (aO.agg eX) (aE.cons (aO.agg eH) (aE.one (aO.sl jU))),aO.tup (aE.cons (aO.agg eX) (aE.one (aO.int .i64))),fun a=>gQ a.1 a.2.1 a.2.2,.frz,false⟩
theorem aBj:aN tab 68 c68:=Oc aMz rfl aJ [(105,aMW),(119,aOW),(120,aOX),(121,aO2),(122,SS),(124,aO7)] ⟨XH,aHr,aHs,aHx,ST,aHC,trivial⟩ fun a=>by kernel_rfl
def AI (p0:Int×Int×Int) (p1:Int):Option Int:=(fC p0.1 p1).bind fun n0=>some n0
def aO8:cA:=⟨aE.cons (aO.agg (cW.row fZ)) (aE.one (aO.int .i64)),aO.int .i64,fun a=>AI a.1 a.2,.pure,false⟩
theorem aHD:aN tab 150 aO8:=Oc aFs rfl aJ [(151,U7)] ⟨DO,trivial⟩ fun a=>by kernel_rfl
def iU (s:PW):Option aGO:=bif decide (s.2.2.2.1<s.2.2.2.2) then (aL s.1 (aA .i64 (iF .u64 (aA .u64 (aA .i64 (s.2.2.2.1+s.2.2.2.2))) 1))).bind fun a0=>(AI a0 s.2.1).bind fun n1=>bif decide (n1<0) then some (.next (s.1,s.2.1,s.2.2.1,aA .i64 ((aA .i64 (iF .u64 (aA .u64 (aA .i64 (s.2.2.2.1+s.2.2.2.2))) 1))+1),s.2.2.2.2)) else some (.next (s.1,s.2.1,s.2.2.1,s.2.2.2.1,aA .i64 (iF .u64 (aA .u64 (aA .i64 (s.2.2.2.1+s.2.2.2.2))) 1))) else bif decide (s.2.2.2.1<s.2.2.1) then (aL s.1 s.2.2.2.1).bind fun a2=>(AI a2 s.2.1).bind fun n3=>some (.done (s.2.2.2.1,n3==0)) else some (.done (s.2.2.2.1,false))
def dB (p0:List CK) (p1:Int) (_:Unit):Option (Int×Bool):=aI iU (p0,p1,Int.ofNat p0.length,0,Int.ofNat p0.length)
def SZ:cA:=⟨aE.cons (aO.sl fZ) (aE.cons (aO.int .i64) (aE.one (aO.clo 150 aE.nil))),aO.tup (aE.cons (aO.int .i64) (aE.one aO.bool)),fun a=>dB a.1 a.2.1 a.2.2,.pure,false⟩
theorem S0:aN tab 149 SZ:=Oc W9 rfl aJ [(150,aO8)] ⟨aHD,trivial⟩ fun a=>by kernel_rfl
def FB (p0:Field) (p1:Int):Option (Int×Bool):=(dB p0.points p1 ()).bind fun a0=>some a0
def c89:cA:=⟨aE.cons (aO.agg eH) (aE.one (aO.int .i64)),aO.tup (aE.cons (aO.int .i64) (aE.one aO.bool)),fun a=>FB a.1 a.2,.pure,false⟩
theorem aM7:aN tab 89 c89:=Oc aMI rfl aJ [(149,SZ)] ⟨S0,trivial⟩ fun a=>by kernel_rfl
def CR (p0:Field) (p1:Int):Option (Int×Int):=(gN p0).bind fun n0=>bif n0 !=0 then some (0,n0) else (FB p0 p1).bind fun a1=>bif !a1.2 then some (0,6) else some (a1.1,0)
def c92:cA:=⟨aE.cons (aO.agg eH) (aE.one (aO.int .i64)),aO.tup (aE.cons (aO.int .i64) (aE.one (aO.int .i64))),fun a=>CR a.1 a.2,.pure,false⟩
theorem aM8:aN tab 92 c92:=Oc aMK rfl aJ [(87,c87),(89,c89)] ⟨L0,aM7,trivial⟩ fun a=>by kernel_rfl
def vO (p0:Field) (p1:Int):Option (CK×Int):=(CR p0 p1).bind fun a0=>bif a0.2 !=0 then some ((0,0,0),a0.2) else (aL p0.points a0.1).bind fun a1=>some (a1,0)
def aO9:cA:=⟨aE.cons (aO.agg eH) (aE.one (aO.int .i64)),aO.tup (aE.cons (aO.agg (cW.row fZ)) (aE.one (aO.int .i64))),fun a=>vO a.1 a.2,.pure,false⟩
theorem aHE:aN tab 139 aO9:=Oc aFq rfl aJ [(92,c92)] ⟨aM8,trivial⟩ fun a=>by kernel_rfl
def lO (p0:Int×Int×Int) (p1:Int×Int×Int) (p2:Int×Int):Option (Bool×Int):=(qY p0 p1 p2).bind fun n0=>bif n0 !=0 then some (false,n0) else (mV p0 p1 p2).bind fun n1=>some (decide (0<n1),0)
def aHF:cA:=⟨aE.cons (aO.agg (cW.row fZ)) (aE.cons (aO.agg (cW.row fZ)) (aE.one (aO.agg (cW.row jU)))),aO.tup (aE.cons aO.bool (aE.one (aO.int .i64))),fun a=>lO a.1 a.2.1 a.2.2,.pure,false⟩
theorem P6:aN tab 128 aHF:=Oc aFo rfl aJ [(189,aHd),(190,aM0)] ⟨P3,XL,trivial⟩ fun a=>by kernel_rfl
def sY (p0:Field) (p1:Int×Int) (p2:Int) (p3:Int):Option Bool:=(vO p0 p2).bind fun a0=>(vO p0 p3).bind fun a1=>(lO a0.1 a1.1 p1).bind fun a2=>some a2.1
def aM9:cA:=⟨aE.cons (aO.agg eH) (aE.cons (aO.agg (cW.row jU)) (aE.cons (aO.int .i64) (aE.one (aO.int .i64)))),aO.bool,fun a=>sY a.1 a.2.1 a.2.2.1 a.2.2.2,.pure,false⟩
theorem XT:aN tab 106 aM9:=Oc aE7 rfl aJ [(139,aO9),(128,aHF)] ⟨aHE,P6,trivial⟩ fun a=>by kernel_rfl
def iB (c0:(cV×Int×Int×Int×(List Int))) (s:(Int×(List Int)×cV×Int×Int)):Option (cJ (Int×(List Int)×cV×Int×Int) (List Int)):=bif decide (0<s.1) then (aL s.2.1 s.1).bind fun n0=>(aL s.2.1 (aA .i64 (Int.tdiv (aA .i64 (s.1-1)) 2))).bind fun n1=>(sY (Field.mk s.2.2.1) s.2.2.2 n0 n1).bind fun b2=>bif b2 then (aL s.2.1 (aA .i64 (Int.tdiv (aA .i64 (s.1-1)) 2))).bind fun n3=>(aL s.2.1 s.1).bind fun n4=>(aL s.2.1 s.1).bind fun _=>(aL (bY s.2.1 s.1 n3) (aA .i64 (Int.tdiv (aA .i64 (s.1-1)) 2))).bind fun _=>some (.next (aA .i64 (Int.tdiv (aA .i64 (s.1-1)) 2),bY (bY s.2.1 s.1 n3) (aA .i64 (Int.tdiv (aA .i64 (s.1-1)) 2)) n4,s.2.2)) else bif s.2.1.length==c0.2.2.2.2.length then some (.done s.2.1) else none else bif s.2.1.length==c0.2.2.2.2.length then some (.done s.2.1) else none
def nL (a:(cV×Int×Int×Int×(List Int))):Option (List Int):=aI (iB a) (a.2.2.2.1,a.2.2.2.2,a.1,a.2.1,a.2.2.1)
def aIW:eZ:=⟨[.l [.i .i64,.i .i64,.i .i64],.i,.i,.i,.l [.i .i64]],[.agg [.sl [.i .i64,.i .i64,.i .i64] []],.agg [.int .i64 0,.int .i64 0],.own 0 false,.int .i64 0],[.arr [.i .i64] []],[.l [.i .i64]],.tup [],[.arr [.i .i64] []],fun a=>nL a⟩
theorem aBk:pF tab 67 aIW:=pF.of aMy (wd:=false) (cx:=(vJ aJ [(106,aM9)] [] [] [])) (pG.make ⟨XT,trivial⟩ trivial trivial) (fun a=>by kernel_rfl)
def kN (s:Zt2):Option (cJ Zt2 (eB×Int)):=match s with |(a,b,d,e,f,g,h,i,j,k,l,m,n,o,q,r,t,u,v,w,x,y,z,A)=>bif decide (d<b) then (aL a d).bind fun a0=>(bZ A [a0.1]).bind fun l1=>(nL (e,f,g,d,l1)).bind fun l2=>some (.next (a,b,aA .i64 (d+1),e,f,g,h,i,j,k,l,m,n,o,q,r,t,u,v,w,x,y,z,l2)) else (mU A).bind fun l3=>(gQ (aH.mk (k,l) (Field.mk m) (aY.mk n o) (aG.mk (aR.mk q r t) u v) w) (Field.mk e) l3).bind fun a4=>some (.done (eB.mk a4.1 A,a4.2))
def sZ (p0:Field) (p1:Int×Int):Option (eB×Int):=(DN p0 p1).bind fun a0=>bif a0.2 !=0 then some (eB.mk (aH.mk (0,0) (Field.mk []) (aY.mk 0 []) (aG.mk (aR.mk [] [] []) [] []) []) [],a0.2) else aI kN (p0.points,Int.ofNat p0.points.length,0,p0.points,p1.1,p1.2,0,0,0,a0.1.now.1,a0.1.now.2,a0.1.field.points,a0.1.certs.next_,a0.1.certs.list,a0.1.agenda.slots.uses,a0.1.agenda.slots.used,a0.1.agenda.slots.free,a0.1.agenda.heap,a0.1.agenda.where_,a0.1.due,0,0,0,[])
def c20:cA:=⟨aE.cons (aO.agg eH) (aE.one (aO.agg (cW.row jU))),aO.tup (aE.cons (aO.agg wV) (aE.one (aO.int .i64))),fun a=>sZ a.1 a.2,.frz,false⟩
theorem aBl:aN tab 20 c20:=aN.of aL9 (cx:=(vJ aJ [(66,c66),(69,c69),(68,c68)] [(67,aIW)] [] [])) rfl (pG.make ⟨aMV,U5,aBj,trivial⟩ ⟨aBk,trivial⟩ trivial) (fun a=>by kernel_rfl)
def kB (s:((List Int)×Int×Int×Int)):Option (cJ ((List Int)×Int×Int×Int) Int):=bif decide (s.2.2.2<s.2.2.1) then (aL s.1 s.2.2.2).bind fun n0=>bif s.2.1==n0 then some (.done s.2.2.2) else some (.next (s.1,s.2.1,s.2.2.1,aA .i64 (s.2.2.2+1))) else some (.done (-1))
def gD (p0:List Int) (p1:Int):Option Int:=aI kB (p0,p1,Int.ofNat p0.length,0)
def c83:cA:=⟨aE.cons (aO.sl ki) (aE.one (aO.int .i64)),aO.int .i64,fun a=>gD a.1 a.2,.pure,false⟩
theorem aBm:aN tab 83 c83:=Oc aMF rfl aJ [] trivial fun a=>by kernel_rfl
def kC (p0:List Int) (p1:Int):Option Bool:=(gD p0 p1).bind fun n0=>some (decide (0<=n0))
def aPa:cA:=⟨aE.cons (aO.sl ki) (aE.one (aO.int .i64)),aO.bool,fun a=>kC a.1 a.2,.pure,false⟩
theorem aHG:aN tab 104 aPa:=Oc aE5 rfl aJ [(83,c83)] ⟨aBm,trivial⟩ fun a=>by kernel_rfl
def pW (s:Zt5):Option (cJ Zt5 Zt9):=bif decide (s.2.2.2.1<s.2.2.1) then (aL s.2.1 s.2.2.2.1).bind fun a0=>(gO s.1 a0.2).bind fun b1=>bif !b1 then some (.done (.done 8)) else (sY (Field.mk s.2.2.2.2.2.2.1) (s.2.2.2.2.1,s.2.2.2.2.2.1) a0.2.2 a0.2.1).bind fun b2=>bif !b2 then some (.done (.done 8)) else some (.next (s.1,s.2.1,s.2.2.1,aA .i64 (s.2.2.2.1+1),s.2.2.2.2)) else some (.done (.done 0))
def pX (s:aN8):Option Zt9:=bif decide (s.2.2.1<s.2.1) then (aL s.1 s.2.2.1).bind fun a0=>(kC s.2.2.2.2.2.2.2.2.2.2.2.2.2.2 a0.1).bind fun b1=>bif !b1 then some (.done 8) else some (.next (s.1,s.2.1,aA .i64 (s.2.2.1+1),s.2.2.2)) else (mU s.2.2.2.2.2.2.2.2.2.2.2.2.2.2).bind fun l2=>bif (Int.ofNat l2.length) !=(Int.ofNat s.2.2.2.2.2.2.2.1.length) then some (.done 8) else aI pW (l2,s.2.2.2.2.2.2.2.1,Int.ofNat s.2.2.2.2.2.2.2.1.length,0,s.2.2.2)
def tB (p0:eB):Option Int:=(iJ p0.clock).bind fun n0=>bif n0 !=0 then some 8 else bif (Int.ofNat p0.heap.length) !=(Int.ofNat p0.clock.field.points.length) then some 8 else aI pX (p0.clock.field.points,Int.ofNat p0.clock.field.points.length,0,p0.clock.now.1,p0.clock.now.2,p0.clock.field.points,p0.clock.certs.next_,p0.clock.certs.list,p0.clock.agenda.slots.uses,p0.clock.agenda.slots.used,p0.clock.agenda.slots.free,p0.clock.agenda.heap,p0.clock.agenda.where_,p0.clock.due,p0.heap)
def c59:cA:=⟨aE.one (aO.agg wV),aO.int .i64,fun a=>tB a,.pure,false⟩
theorem aBn:aN tab 59 c59:=Oc aMr rfl aJ [(103,ZA),(104,aPa),(69,c69),(105,aMW),(106,aM9)] ⟨GM,aHG,U5,XH,XT,trivial⟩ fun a=>by kernel_rfl
def FC (p0:aG):Option (PS×Int):=(jL p0).bind fun n0=>bif n0 !=0 then some ((0,0,0,0,0),n0) else bif (Int.ofNat p0.heap.length)==0 then some ((0,0,0,0,0),42) else (aL p0.heap 0).bind fun a1=>some (a1,0)
def aPb:cA:=⟨aE.one (aO.agg hZ),aO.tup (aE.cons (aO.agg (cW.row lL)) (aE.one (aO.int .i64))),fun a=>FC a,.pure,false⟩
theorem aHH:aN tab 169 aPb:=Oc aFI rfl aJ [(162,Y9)] ⟨GL,trivial⟩ fun a=>by kernel_rfl
def tC (p0:aH) (p1:Int×Int):Option (Bool×Int):=(iJ p0).bind fun n0=>(eI p1).bind fun n1=>bif (if n1>n0 then n1 else n0) !=0 then some (false,if n1>n0 then n1 else n0) else (qX p1 p0.now).bind fun a2=>bif decide (a2.1<0) then some (false,44) else (FC p0.agenda).bind fun a3=>bif a3.2 !=0 then some (false,0) else (qX (a3.1.1,a3.1.2.1) p1).bind fun a4=>some (decide (a4.1<=0),0)
def aNa:cA:=⟨aE.cons (aO.agg eX) (aE.one (aO.agg (cW.row jU))),aO.tup (aE.cons aO.bool (aE.one (aO.int .i64))),fun a=>tC a.1 a.2,.pure,false⟩
theorem XU:aN tab 114 aNa:=Oc aFf rfl aJ [(103,ZA),(60,c60),(61,c61),(169,aPb)] ⟨GM,xP,U6,aHH,trivial⟩ fun a=>by kernel_rfl
def rA (p0:aH) (p1:Int×Int):Option (aH×PS×(Int×Int)×Int):=(tC p0 p1).bind fun a0=>bif a0.2==0 then bif !a0.1 then some (aH.mk (0,0) (Field.mk []) (aY.mk 0 []) (aG.mk (aR.mk [] [] []) [] []) [],(0,0,0,0,0),(0,0),6) else bif a0.2 !=0 then some (aH.mk (0,0) (Field.mk []) (aY.mk 0 []) (aG.mk (aR.mk [] [] []) [] []) [],(0,0,0,0,0),(0,0),a0.2) else (aL p0.agenda.heap 0).bind fun a1=>(hJ p0 a1.2.2.1).bind fun a2=>bif a2.2.2 !=0 then some (aH.mk (0,0) (Field.mk []) (aY.mk 0 []) (aG.mk (aR.mk [] [] []) [] []) [],(0,0,0,0,0),(0,0),a2.2.2) else some (aH.mk (a1.1,a1.2.1) a2.1.field a2.1.certs a2.1.agenda a2.1.due,a1,a2.2.1,0) else bif a0.2 !=0 then some (aH.mk (0,0) (Field.mk []) (aY.mk 0 []) (aG.mk (aR.mk [] [] []) [] []) [],(0,0,0,0,0),(0,0),a0.2) else (aL p0.agenda.heap 0).bind fun a3=>(hJ p0 a3.2.2.1).bind fun a4=>bif a4.2.2 !=0 then some (aH.mk (0,0) (Field.mk []) (aY.mk 0 []) (aG.mk (aR.mk [] [] []) [] []) [],(0,0,0,0,0),(0,0),a4.2.2) else some (aH.mk (a3.1,a3.2.1) a4.1.field a4.1.certs a4.1.agenda a4.1.due,a3,a4.2.1,0)
def aPc:cA:=⟨aE.cons (aO.agg eX) (aE.one (aO.agg (cW.row jU))),aO.tup (aE.cons (aO.agg eX) (aE.cons (aO.agg (cW.row lL)) (aE.cons (aO.agg (cW.row jU)) (aE.one (aO.int .i64))))),fun a=>rA a.1 a.2,.frz,false⟩
theorem aHI:aN tab 113 aPc:=Oc aFe rfl aJ [(114,aNa),(168,aM5)] ⟨XU,XQ,trivial⟩ fun a=>by kernel_rfl
def lF (p0:eB) (p1:Int×Int):Option (eB×(Int×Int)×Int):=(rA p0.clock p1).bind fun a0=>bif a0.2.2.2 !=0 then some (eB.mk (aH.mk (0,0) (Field.mk []) (aY.mk 0 []) (aG.mk (aR.mk [] [] []) [] []) []) [],(0,0),a0.2.2.2) else (cZ p0.heap).bind fun l1=>(gD l1 a0.2.2.1.1).bind fun n2=>(gD l1 a0.2.2.1.2).bind fun n3=>(aL l1 n3).bind fun n4=>(aL l1 n2).bind fun n5=>(aL l1 n2).bind fun _=>(aL (bY l1 n2 n4) n3).bind fun _=>(mU (bY (bY l1 n2 n4) n3 n5)).bind fun l8=>(gQ a0.1 a0.1.field l8).bind fun a9=>some (eB.mk a9.1 (bY (bY l1 n2 n4) n3 n5),a0.2.2.1,a9.2)
def c62:cA:=⟨aE.cons (aO.agg wV) (aE.one (aO.agg (cW.row jU))),aO.tup (aE.cons (aO.agg wV) (aE.cons (aO.agg (cW.row jU)) (aE.one (aO.int .i64)))),fun a=>lF a.1 a.2,.frz,false⟩
theorem aNb:aN tab 62 c62:=Oc aMu rfl aJ [(113,aPc),(64,cA.clone ki),(83,c83),(69,c69),(68,c68)] ⟨aHI,uO,aBm,U5,aBj,trivial⟩ fun a=>by kernel_rfl
def AJ (p0:aH) (p1:Int×Int):Option (aH×Int):=(tC p0 p1).bind fun a0=>bif a0.2==0 then bif a0.1 then some (aH.mk (0,0) (Field.mk []) (aY.mk 0 []) (aG.mk (aR.mk [] [] []) [] []) [],36) else bif a0.2 !=0 then some (aH.mk (0,0) (Field.mk []) (aY.mk 0 []) (aG.mk (aR.mk [] [] []) [] []) [],a0.2) else (jV p0).bind fun r1=>some (aH.mk p1 r1.field r1.certs r1.agenda r1.due,0) else bif a0.2 !=0 then some (aH.mk (0,0) (Field.mk []) (aY.mk 0 []) (aG.mk (aR.mk [] [] []) [] []) [],a0.2) else (jV p0).bind fun r2=>some (aH.mk p1 r2.field r2.certs r2.agenda r2.due,0)
def c63:cA:=⟨aE.cons (aO.agg eX) (aE.one (aO.agg (cW.row jU))),aO.tup (aE.cons (aO.agg eX) (aE.one (aO.int .i64))),fun a=>AJ a.1 a.2,.frz,false⟩
theorem aNc:aN tab 63 c63:=Oc aMv rfl aJ [(114,aNa),(115,aBg),(115,SH)] ⟨XU,J1,GN,trivial⟩ fun a=>by kernel_rfl
def nM (s:Zt8):Option (cJ Zt8 (eB×BT×Int)):=(lF (eB.mk (aH.mk (s.1,s.2.1) (Field.mk s.2.2.1) (aY.mk s.2.2.2.1 s.2.2.2.2.1) (aG.mk (aR.mk s.2.2.2.2.2.1 s.2.2.2.2.2.2.1 s.2.2.2.2.2.2.2.1) s.2.2.2.2.2.2.2.2.1 s.2.2.2.2.2.2.2.2.2.1) s.2.2.2.2.2.2.2.2.2.2.1) s.2.2.2.2.2.2.2.2.2.2.2.1) (s.2.2.2.2.2.2.2.2.2.2.2.2.1,s.2.2.2.2.2.2.2.2.2.2.2.2.2.1)).bind fun a0=>bif a0.2.2==6 then (AJ (aH.mk (s.1,s.2.1) (Field.mk s.2.2.1) (aY.mk s.2.2.2.1 s.2.2.2.2.1) (aG.mk (aR.mk s.2.2.2.2.2.1 s.2.2.2.2.2.2.1 s.2.2.2.2.2.2.2.1) s.2.2.2.2.2.2.2.2.1 s.2.2.2.2.2.2.2.2.2.1) s.2.2.2.2.2.2.2.2.2.2.1) (s.2.2.2.2.2.2.2.2.2.2.2.2.1,s.2.2.2.2.2.2.2.2.2.2.2.2.2.1)).bind fun a1=>(cZ s.2.2.2.2.2.2.2.2.2.2.2.1).bind fun l2=>some (.done (eB.mk a1.1 l2,s.2.2.2.2.2.2.2.2.2.2.2.2.2.2.2.2.2,a1.2)) else bif a0.2.2 !=0 then some (.done (eB.mk (aH.mk (0,0) (Field.mk []) (aY.mk 0 []) (aG.mk (aR.mk [] [] []) [] []) []) [],[],a0.2.2)) else (bZ s.2.2.2.2.2.2.2.2.2.2.2.2.2.2.2.2.2 [a0.2.1]).bind fun l3=>some (.next (a0.1.clock.now.1,a0.1.clock.now.2,a0.1.clock.field.points,a0.1.clock.certs.next_,a0.1.clock.certs.list,a0.1.clock.agenda.slots.uses,a0.1.clock.agenda.slots.used,a0.1.clock.agenda.slots.free,a0.1.clock.agenda.heap,a0.1.clock.agenda.where_,a0.1.clock.due,a0.1.heap,s.2.2.2.2.2.2.2.2.2.2.2.2.1,s.2.2.2.2.2.2.2.2.2.2.2.2.2.1,s.2.2.2.2.2.2.2.2.2.2.2.2.2.2.1,s.2.2.2.2.2.2.2.2.2.2.2.2.2.2.2.1,s.2.2.2.2.2.2.2.2.2.2.2.2.2.2.2.2.1,l3))
def mC (p0:eB) (p1:Int×Int):Option (eB×BT×Int):=(tB p0).bind fun n0=>bif n0 !=0 then some (eB.mk (aH.mk (0,0) (Field.mk []) (aY.mk 0 []) (aG.mk (aR.mk [] [] []) [] []) []) [],[],n0) else (eI p1).bind fun n1=>bif n1 !=0 then some (eB.mk (aH.mk (0,0) (Field.mk []) (aY.mk 0 []) (aG.mk (aR.mk [] [] []) [] []) []) [],[],8) else (qX p1 p0.clock.now).bind fun a2=>bif decide (a2.1<0) then some (eB.mk (aH.mk (0,0) (Field.mk []) (aY.mk 0 []) (aG.mk (aR.mk [] [] []) [] []) []) [],[],44) else aI nM (p0.clock.now.1,p0.clock.now.2,p0.clock.field.points,p0.clock.certs.next_,p0.clock.certs.list,p0.clock.agenda.slots.uses,p0.clock.agenda.slots.used,p0.clock.agenda.slots.free,p0.clock.agenda.heap,p0.clock.agenda.where_,p0.clock.due,p0.heap,p1.1,p1.2,0,0,0,[])
def c16:cA:=⟨aE.cons (aO.agg wV) (aE.one (aO.agg (cW.row jU))),aO.tup (aE.cons (aO.agg wV) (aE.cons (aO.sl jU) (aE.one (aO.int .i64)))),fun a=>mC a.1 a.2,.frz,false⟩
theorem aBo:aN tab 16 c16:=Oc aL6 rfl aJ [(59,c59),(60,c60),(61,c61),(62,c62),(63,c63),(64,cA.clone ki)] ⟨aBn,xP,U6,aNb,aNc,uO,trivial⟩ fun a=>by kernel_rfl
def nN (p0:eB):Option (Int×Int):=(tB p0).bind fun n0=>bif n0 !=0 then some (0,n0) else bif (Int.ofNat p0.heap.length)==0 then some (0,42) else (aL p0.heap 0).bind fun n1=>some (n1,0)
def c23:cA:=⟨aE.one (aO.agg wV),aO.tup (aE.cons (aO.int .i64) (aE.one (aO.int .i64))),fun a=>nN a,.pure,false⟩
theorem aBp:aN tab 23 c23:=Oc aMc rfl aJ [(59,c59)] ⟨aBn,trivial⟩ fun a=>by kernel_rfl
def IC (s:((List Int)×(List Int)×Int)):Option (cJ ((List Int)×(List Int)×Int) Bool):=bif decide (s.2.2<(Int.ofNat s.1.length)) then (aL s.1 s.2.2).bind fun n0=>(aL s.2.1 s.2.2).bind fun n1=>bif n0 !=n1 then some (.done false) else some (.next (s.1,s.2.1,aA .i64 (s.2.2+1))) else some (.done true)
def sC (p0:List Int) (p1:List Int):Option Bool:=bif (Int.ofNat p0.length) !=(Int.ofNat p1.length) then some false else aI IC (p0,p1,0)
def c51:cA:=⟨aE.cons (aO.sl ki) (aE.one (aO.sl ki)),aO.bool,fun a=>sC a.1 a.2,.pure,false⟩
theorem aNd:aN tab 51 c51:=Oc aMl rfl aJ [] trivial fun a=>by kernel_rfl
def FD (s:(BT×BT×Int)):Option (cJ (BT×BT×Int) Bool):=bif decide (s.2.2<(Int.ofNat s.1.length)) then (aL s.1 s.2.2).bind fun a0=>(aL s.2.1 s.2.2).bind fun a1=>bif !((a0.1==a1.1)&&(a0.2==a1.2)) then some (.done false) else some (.next (s.1,s.2.1,aA .i64 (s.2.2+1))) else some (.done true)
def BJ (p0:List (Int×Int)) (p1:List (Int×Int)):Option Bool:=bif (Int.ofNat p0.length) !=(Int.ofNat p1.length) then some false else aI FD (p0,p1,0)
def c18:cA:=⟨aE.cons (aO.sl jU) (aE.one (aO.sl jU)),aO.bool,fun a=>BJ a.1 a.2,.pure,false⟩
theorem aNe:aN tab 18 c18:=Oc aL7 rfl aJ [] trivial fun a=>by kernel_rfl
def S1:Option Bool:=I5.bind fun r0=>(GJ 0).bind fun a1=>(sZ r0 a1).bind fun a2=>(GJ 2).bind fun a3=>(mC a2.1 a3).bind fun a4=>(GJ 6).bind fun a5=>(mC a4.1 a5).bind fun a6=>(nN a6.1).bind fun a7=>bif a2.2==0 then bif a4.2.2==0 then bif a6.2.2==0 then bif a7.2==0 then (sC a2.1.heap [2,1,5]).bind fun b8=>bif b8 then (sC a4.1.heap [1,2,5]).bind fun b9=>bif b9 then (BJ a4.2.1 [(1,2)]).bind fun b10=>bif b10 then bif (Int.ofNat a6.2.1.length)==0 then bif a7.1==1 then (sC a6.1.heap [1,2,5]).bind fun b11=>some b11 else some false else some false else some false else some false else some false else some false else some false else some false else some false
def aRd:cA:=⟨aE.nil,aO.bool,fun _=>S1,.pure,false⟩
theorem aHJ:aN tab 10 aRd:=Oc aL1 rfl aJ [(49,c49),(50,c50),(20,c20),(16,c16),(23,c23),(51,c51),(18,c18)] ⟨aMR,aMS,aBl,aBo,aBp,aNd,aNe,trivial⟩ fun a=>by kernel_rfl
def c10:cA:=⟨aE.nil,aO.bool,fun _=>some true,.pure,false⟩
end
theorem aNf:aN tab 10 c10:=aN.at0 (@aHJ (LP.of 1000000)) (by kernel_rfl)
section
variable [LP]
def FE (p0:Field):Option Bool:=some (decide (10<(Int.ofNat p0.points.length)))
def c12:cA:=⟨aE.one (aO.agg eH),aO.bool,fun a=>FE a,.pure,false⟩
theorem aNg:aN tab 12 c12:=Oc aL2 rfl aJ [] trivial fun a=>by kernel_rfl
def wX (p0:Int×Int×Int):Option Int:=bif decide (p0.1<0) then some 8 else bif decide (65535<p0.1) then some 8 else bif decide (p0.2.1<(-1048576)) then some 8 else bif decide (1048576<p0.2.1) then some 8 else bif decide (p0.2.2<(-1048576)) then some 8 else bif decide (1048576<p0.2.2) then some 8 else some 0
def c44:cA:=⟨aE.one (aO.agg (cW.row fZ)),aO.int .i64,fun a=>wX a,.pure,false⟩
theorem aNh:aN tab 44 c44:=Oc aMi rfl aJ [] trivial fun a=>by kernel_rfl
def iV (s:aBb):Option (cJ aBb (cJ aBb Int)):=bif decide (s.1<(Int.ofNat s.2.length)) then (aL s.2 (aA .i64 (s.1-1))).bind fun a0=>(aL s.2 s.1).bind fun a1=>bif decide (a1.1<=a0.1) then some (.done (.done 32)) else some (.next (aA .i64 (s.1+1),s.2)) else some (.done (.done 0))
def mW (s:aBb):Option (cJ aBb Int):=bif decide (s.1<(Int.ofNat s.2.length)) then (aL s.2 s.1).bind fun a0=>(wX a0).bind fun n1=>bif n1 !=0 then some (.done 8) else some (.next (aA .i64 (s.1+1),s.2)) else aI iV (1,s.2)
def tD (p0:Field):Option Int:=bif decide (64<(Int.ofNat p0.points.length)) then some 4 else aI mW (0,p0.points)
def c19:cA:=⟨aE.one (aO.agg eH),aO.int .i64,fun a=>tD a,.pure,false⟩
theorem aBq:aN tab 19 c19:=Oc aL8 rfl aJ [(44,c44)] ⟨aNh,trivial⟩ fun a=>by kernel_rfl
def hM (p0:Int):Option Int:=bif decide (p0<0) then some (aA .u64 ((aA .u64 (aA .i64 (0- (aA .i64 (p0+1)))))+1)) else some (aA .u64 p0)
def c73:cA:=⟨aE.one (aO.int .i64),aO.int .u64,fun a=>hM a,.pure,false⟩
theorem VA:aN tab 73 c73:=Oc aME rfl aJ [] trivial fun a=>by kernel_rfl
def oH (s:(Int×Int)):Option (cJ (Int×Int) Int):=bif s.2 !=0 then bif s.2==0 then none else some (.next (s.2,Int.tmod s.1 s.2)) else some (.done s.1)
def pY (p0:Int) (p1:Int):Option Int:=aI oH (p0,p1)
def c72:cA:=⟨aE.cons (aO.int .u64) (aE.one (aO.int .u64)),aO.int .u64,fun a=>pY a.1 a.2,.pure,false⟩
theorem aBr:aN tab 72 c72:=Oc aMD rfl aJ [] trivial fun a=>by kernel_rfl
def lG (p0:Int×Int):Option Int:=bif decide (p0.2<1) then some 8 else bif p0.1==(-9223372036854775808) then some 8 else (hM p0.1).bind fun n0=>(pY n0 (aA .u64 p0.2)).bind fun n1=>bif n1 !=1 then some 8 else some 0
def c26:cA:=⟨aE.one (aO.agg (cW.row jU)),aO.int .i64,fun a=>lG a,.pure,false⟩
theorem VB:aN tab 26 c26:=Oc aMf rfl aJ [(73,c73),(72,c72)] ⟨VA,aBr,trivial⟩ fun a=>by kernel_rfl
def AL (p0:Int×Int) (p1:Int×Int):Option Int:=(lG p0).bind fun n0=>bif n0 !=0 then (lG p0).bind fun n1=>some n1 else (lG p1).bind fun n2=>some n2
def c14:cA:=⟨aE.cons (aO.agg (cW.row jU)) (aE.one (aO.agg (cW.row jU))),aO.int .i64,fun a=>AL a.1 a.2,.pure,false⟩
theorem aNi:aN tab 14 c14:=Oc aL4 rfl aJ [(26,c26)] ⟨VB,trivial⟩ fun a=>by kernel_rfl
def sD (p0:Int) (p1:Int):Option (Bool×Int×Int):=some (false,aA .u64 ((aA .u64 ((aA .u64 ((aA .u64 (Int.tdiv p0 4294967296))*(aA .u64 (Int.tdiv p1 4294967296))))+(aA .u64 (Int.tdiv (aA .u64 ((aA .u64 ((aA .u64 (Int.tdiv p0 4294967296))*(Int.tmod p1 4294967296)))+(aA .u64 (Int.tdiv (aA .u64 ((Int.tmod p0 4294967296)*(Int.tmod p1 4294967296))) 4294967296)))) 4294967296))))+(aA .u64 (Int.tdiv (aA .u64 ((aA .u64 ((Int.tmod p0 4294967296)*(aA .u64 (Int.tdiv p1 4294967296))))+(Int.tmod (aA .u64 ((aA .u64 ((aA .u64 (Int.tdiv p0 4294967296))*(Int.tmod p1 4294967296)))+(aA .u64 (Int.tdiv (aA .u64 ((Int.tmod p0 4294967296)*(Int.tmod p1 4294967296))) 4294967296)))) 4294967296))) 4294967296))),aA .u64 ((aA .u64 ((Int.tmod (aA .u64 ((aA .u64 ((Int.tmod p0 4294967296)*(aA .u64 (Int.tdiv p1 4294967296))))+(Int.tmod (aA .u64 ((aA .u64 ((aA .u64 (Int.tdiv p0 4294967296))*(Int.tmod p1 4294967296)))+(aA .u64 (Int.tdiv (aA .u64 ((Int.tmod p0 4294967296)*(Int.tmod p1 4294967296))) 4294967296)))) 4294967296))) 4294967296)*4294967296))+(Int.tmod (aA .u64 ((Int.tmod p0 4294967296)*(Int.tmod p1 4294967296))) 4294967296)))
def aPd:cA:=⟨aE.cons (aO.int .u64) (aE.one (aO.int .u64)),aO.agg (cW.row CJ),fun a=>sD a.1 a.2,.pure,false⟩
theorem aHK:aN tab 102 aPd:=Oc aE3 rfl aJ [] trivial fun a=>by kernel_rfl
def jW (p0:Int) (p1:Int):Option (Bool×Int×Int):=(hM p0).bind fun n0=>(hM p1).bind fun n1=>(sD n0 n1).bind fun a2=>bif !((decide (p0<0))==(decide (p1<0))) then bif p0 !=0 then some (p1 !=0,a2.2) else some (false,a2.2) else some (false,a2.2)
def c56:cA:=⟨aE.cons (aO.int .i64) (aE.one (aO.int .i64)),aO.agg (cW.row CJ),fun a=>jW a.1 a.2,.pure,false⟩
theorem aBs:aN tab 56 c56:=Oc aMo rfl aJ [(73,c73),(102,aPd)] ⟨VA,aHK,trivial⟩ fun a=>by kernel_rfl
def lP (p0:Bool×Int×Int):Option Int:=bif p0.2.1==0 then bif p0.2.2==0 then some 0 else bif p0.1 then some (-1) else some 1 else bif p0.1 then some (-1) else some 1
def c57:cA:=⟨aE.one (aO.agg (cW.row CJ)),aO.int .i64,fun a=>lP a,.pure,false⟩
theorem aBt:aN tab 57 c57:=Oc aMp rfl aJ [] trivial fun a=>by kernel_rfl
def rB (p0:Bool×Int×Int) (p1:Bool×Int×Int):Option Int:=bif p0.2.1 !=p1.2.1 then bif decide (p0.2.1<p1.2.1) then some (-1) else some 1 else bif p0.2.2 !=p1.2.2 then bif decide (p0.2.2<p1.2.2) then some (-1) else some 1 else some 0
def c58:cA:=⟨aE.cons (aO.agg (cW.row CJ)) (aE.one (aO.agg (cW.row CJ))),aO.int .i64,fun a=>rB a.1 a.2,.pure,false⟩
theorem aBu:aN tab 58 c58:=Oc aMq rfl aJ [] trivial fun a=>by kernel_rfl
def mD (p0:Int×Int) (p1:Int×Int):Option Int:=(jW p0.1 p1.2).bind fun a0=>(jW p1.1 p0.2).bind fun a1=>(lP a0).bind fun n2=>(lP a1).bind fun n3=>bif n2 !=n3 then (lP a0).bind fun n4=>(lP a1).bind fun n5=>bif decide (n4<n5) then some (-1) else some 1 else (lP a0).bind fun n6=>bif decide (n6<0) then (rB a1 a0).bind fun n7=>some n7 else (rB a0 a1).bind fun n8=>some n8
def c15:cA:=⟨aE.cons (aO.agg (cW.row jU)) (aE.one (aO.agg (cW.row jU))),aO.int .i64,fun a=>mD a.1 a.2,.pure,false⟩
theorem VC:aN tab 15 c15:=Oc aL5 rfl aJ [(56,c56),(57,c57),(58,c58)] ⟨aBs,aBt,aBu,trivial⟩ fun a=>by kernel_rfl
def vP (p0:Int×Int):Option Bool:=bif decide (0<=p0.1) then bif decide (p0.1<=65535) then bif decide (0<=p0.2) then bif decide (p0.2<=65535) then some (p0.1 !=p0.2) else some false else some false else some false else some false
def aPe:cA:=⟨aE.one (aO.agg (cW.row jU)),aO.bool,fun a=>vP a,.pure,false⟩
theorem aHL:aN tab 155 aPe:=Oc aFu rfl aJ [] trivial fun a=>by kernel_rfl
def fS (s:(Int×Int×Int×cV×Int×Int×Int)):Option (cJ (Int×Int×Int×cV×Int×Int×Int) aMQ):=bif decide (s.2.1<s.1) then (aL s.2.2.2.1 s.2.1).bind fun a0=>bif (a0.2.1==s.2.2.2.2.2.1)&&(a0.2.2==s.2.2.2.2.2.2) then some (.done (.done 8)) else some (.next (s.1,aA .i64 (s.2.1+1),s.2.2)) else some (.done (.next (aA .i64 (s.1+1),s.2.2.1,s.2.2.2.1)))
def pZ (s:aBa):Option aMQ:=bif decide (s.1<(Int.ofNat s.2.2.length)) then (aL s.2.2 s.1).bind fun a0=>(vP a0.2).bind fun b1=>bif !b1 then some (.done 8) else bif decide (a0.1<0) then some (.done 8) else bif decide (s.2.1<=a0.1) then some (.done 8) else bif decide (0<s.1) then (aL s.2.2 (aA .i64 (s.1-1))).bind fun a2=>bif decide (a0.1<=a2.1) then some (.done 8) else aI fS (s.1,0,s.2.1,s.2.2,a0) else aI fS (s.1,0,s.2.1,s.2.2,a0) else some (.done 0)
def tF (p0:aY):Option Int:=bif decide (200<(Int.ofNat p0.list.length)) then some 8 else bif decide (p0.next_<0) then some 8 else bif decide (1000000<p0.next_) then some 8 else aI pZ (0,p0.next_,p0.list)
def c96:cA:=⟨aE.one (aO.agg rW),aO.int .i64,fun a=>tF a,.pure,false⟩
theorem aNj:aN tab 96 c96:=Oc aML rfl aJ [(155,aPe)] ⟨aHL,trivial⟩ fun a=>by kernel_rfl
def tG (s:aBa):Option aMQ:=bif decide (s.2.1<(Int.ofNat s.2.2.length)) then (aL s.2.2 s.2.1).bind fun a0=>bif a0.1==s.1 then some (.done s.2.1) else some (.next (s.1,aA .i64 (s.2.1+1),s.2.2)) else some (.done (-1))
def gR (p0:Field) (p1:Int):Option Int:=aI tG (p1,0,p0.points)
def c40:cA:=⟨aE.cons (aO.agg eH) (aE.one (aO.int .i64)),aO.int .i64,fun a=>gR a.1 a.2,.pure,false⟩
theorem L1:aN tab 40 c40:=Oc aMh rfl aJ [] trivial fun a=>by kernel_rfl
def qA (s:(Int×Int×cV×cV)):Option (cJ (Int×Int×cV×cV) Bool):=bif decide (s.1<(Int.ofNat s.2.2.1.length)) then (aL s.2.2.1 s.1).bind fun a0=>(gR (Field.mk s.2.2.2) a0.2.1).bind fun n1=>bif decide (n1<0) then some (.done false) else (aL s.2.2.1 s.1).bind fun a2=>(gR (Field.mk s.2.2.2) a2.2.2).bind fun n3=>bif decide (n3<0) then some (.done false) else some (.next (aA .i64 (s.1+1),s.2)) else some (.done true)
def wY (p0:aY) (p1:Field):Option Bool:=aI qA (0,p0.next_,p0.list,p1.points)
def c97:cA:=⟨aE.cons (aO.agg rW) (aE.one (aO.agg eH)),aO.bool,fun a=>wY a.1 a.2,.pure,false⟩
theorem aNk:aN tab 97 c97:=Oc aMM rfl aJ [(40,c40)] ⟨L1,trivial⟩ fun a=>by kernel_rfl
def kO (s:aA9):Option (cJ aA9 (cJ aA9 Int)):=bif decide (s.2.1<s.1) then (aL s.2.2.1 s.2.1).bind fun n0=>bif decide (n0<0) then some (.done (.done 8)) else (aL s.2.2.1 s.2.1).bind fun n1=>bif decide (1000000<n1) then some (.done (.done 8)) else (aL s.2.2.2.1 s.2.1).bind fun b2=>(aL s.2.2.2.2.2 s.2.1).bind fun b3=>bif b2==b3 then some (.done (.done 8)) else (aL s.2.2.2.1 s.2.1).bind fun b4=>bif b4 then (aL s.2.2.1 s.2.1).bind fun n5=>bif decide (n5<1) then some (.done (.done 8)) else some (.next (s.1,aA .i64 (s.2.1+1),s.2.2)) else some (.next (s.1,aA .i64 (s.2.1+1),s.2.2)) else some (.done (.done 0))
def qB (s:aA9):Option (cJ aA9 Int):=bif decide (s.2.1<(Int.ofNat s.2.2.2.2.1.length)) then (aL s.2.2.2.2.1 s.2.1).bind fun n0=>bif decide (n0<0) then some (.done 8) else (aL s.2.2.2.2.1 s.2.1).bind fun n1=>bif decide (s.1<=n1) then some (.done 8) else (aL s.2.2.2.2.1 s.2.1).bind fun n2=>(aL s.2.2.2.2.2 n2).bind fun b3=>bif b3 then some (.done 8) else (aL s.2.2.2.2.1 s.2.1).bind fun n4=>(aL s.2.2.2.2.2 n4).bind fun _=>some (.next (s.1,aA .i64 (s.2.1+1),s.2.2.1,s.2.2.2.1,s.2.2.2.2.1,bY s.2.2.2.2.2 n4 true)) else aI kO (s.1,0,s.2.2)
def wZ (p0:aR):Option Int:=bif decide ((Int.ofNat p0.uses.length)<1) then some 8 else bif decide (200<(Int.ofNat p0.uses.length)) then some 8 else bif (Int.ofNat p0.used.length) !=(Int.ofNat p0.uses.length) then some 8 else bif decide ((Int.ofNat p0.uses.length)<(Int.ofNat p0.free.length)) then some 8 else bif (Int.ofNat p0.uses.length)==(Int.ofNat p0.uses.length) then (FY (Int.ofNat p0.uses.length) (false:Bool)).bind fun l0=>aI qB (Int.ofNat p0.uses.length,0,p0.uses,p0.used,p0.free,l0) else none
def aPf:cA:=⟨aE.one (aO.agg rV),aO.int .i64,fun a=>wZ a,.pure,false⟩
theorem aHM:aN tab 156 aPf:=Oc aFv rfl aJ [] trivial fun a=>by kernel_rfl
def vQ (p0:aR) (p1:Int×Int):Option Bool:=bif decide (0<=p1.1) then bif decide (p1.1<(Int.ofNat p0.uses.length)) then (aL p0.used p1.1).bind fun b0=>bif b0 then (aL p0.uses p1.1).bind fun n1=>some (n1==p1.2) else some false else some false else some false
def aNl:cA:=⟨aE.cons (aO.agg rV) (aE.one (aO.agg (cW.row jU))),aO.bool,fun a=>vQ a.1 a.2,.pure,false⟩
theorem XV:aN tab 160 aNl:=Oc aFz rfl aJ [] trivial fun a=>by kernel_rfl
def oI (s:aOp):Option (cJ aOp Bool):=bif decide (s.2.1<s.1) then (aL s.2.2.2.1 s.2.1).bind fun b0=>bif !b0 then (aL s.2.2.2.2.2.2 s.2.1).bind fun n1=>bif n1 !=(-1) then some (.done false) else some (.next (s.1,aA .i64 (s.2.1+1),s.2.2)) else (aL s.2.2.2.2.2.2 s.2.1).bind fun n2=>bif decide (n2<0) then some (.done false) else bif decide ((Int.ofNat s.2.2.2.2.2.1.length)<=n2) then some (.done false) else (aL s.2.2.2.2.2.1 n2).bind fun a3=>bif a3.2.2.2.1 !=s.2.1 then some (.done false) else (aL s.2.2.2.2.2.1 n2).bind fun a4=>(vQ (aR.mk s.2.2.1 s.2.2.2.1 s.2.2.2.2.1) a4.2.2.2).bind fun b5=>bif !b5 then some (.done false) else some (.next (s.1,aA .i64 (s.2.1+1),s.2.2)) else some (.done true)
def uT (p0:aG):Option Bool:=bif (Int.ofNat p0.where_.length) !=(Int.ofNat p0.slots.uses.length) then some false else bif (Int.ofNat p0.heap.length) !=(aA .i64 ((Int.ofNat p0.slots.uses.length) - (Int.ofNat p0.slots.free.length))) then some false else aI oI (Int.ofNat p0.slots.uses.length,0,p0.slots.uses,p0.slots.used,p0.slots.free,p0.heap,p0.where_)
def aPg:cA:=⟨aE.one (aO.agg hZ),aO.bool,fun a=>uT a,.pure,false⟩
theorem aHN:aN tab 157 aPg:=Oc aFw rfl aJ [(160,aNl)] ⟨XV,trivial⟩ fun a=>by kernel_rfl
def eK (p0:Int×Int×Int×Int×Int) (p1:Int×Int×Int×Int×Int):Option Bool:=(mD (p0.1,p0.2.1) (p1.1,p1.2.1)).bind fun n0=>bif decide (n0<0) then some true else bif n0==0 then some (decide (p0.2.2.1<p1.2.2.1)) else some false
def aPh:cA:=⟨aE.cons (aO.agg (cW.row lL)) (aE.one (aO.agg (cW.row lL))),aO.bool,fun a=>eK a.1 a.2,.pure,false⟩
theorem aHO:aN tab 158 aPh:=Oc aFx rfl aJ [(15,c15)] ⟨VC,trivial⟩ fun a=>by kernel_rfl
def kQ (s:aOm):Option (cJ aOm aMP):=bif decide (s.2.1<s.1) then (aL s.2.2.2.2.2.1 s.2.1).bind fun a0=>bif a0.2.2.1==s.2.2.2.2.2.2.2.2.2.1 then some (.done (.done 8)) else some (.next (s.1,aA .i64 (s.2.1+1),s.2.2)) else some (.done (.next (aA .i64 (s.1+1),s.2.2.1,s.2.2.2.1,s.2.2.2.2.1,s.2.2.2.2.2.1,s.2.2.2.2.2.2.1)))
def kS (s:aGN):Option (cJ aGN aMP):=bif decide (s.1<(Int.ofNat s.2.2.2.2.1.length)) then (aL s.2.2.2.2.1 s.1).bind fun a0=>(aL s.2.2.2.2.1 (aA .i64 (Int.tdiv (aA .i64 (s.1-1)) 2))).bind fun a1=>(eK a0 a1).bind fun b2=>bif b2 then some (.done (.done 8)) else some (.next (aA .i64 (s.1+1),s.2)) else some (.done (.done 0))
def qC (s:aGN):Option aMP:=bif decide (s.1<(Int.ofNat s.2.2.2.2.1.length)) then (aL s.2.2.2.2.1 s.1).bind fun a0=>(lG (a0.1,a0.2.1)).bind fun n1=>bif n1 !=0 then some (.done 8) else bif decide (a0.2.2.1<0) then some (.done 8) else bif decide (1000000<a0.2.2.1) then some (.done 8) else aI kQ (s.1,0,s.2.1,s.2.2.1,s.2.2.2.1,s.2.2.2.2.1,s.2.2.2.2.2,a0) else aI kS (1,s.2)
def tH (p0:aG):Option Int:=(wZ p0.slots).bind fun n0=>bif n0 !=0 then some 8 else (uT p0).bind fun b1=>bif !b1 then some 8 else aI qC (0,p0.slots.uses,p0.slots.used,p0.slots.free,p0.heap,p0.where_)
def c98:cA:=⟨aE.one (aO.agg hZ),aO.int .i64,fun a=>tH a,.pure,false⟩
theorem aBv:aN tab 98 c98:=Oc aMN rfl aJ [(156,aPf),(157,aPg),(26,c26),(158,aPh)] ⟨aHM,aHN,VB,aHO,trivial⟩ fun a=>by kernel_rfl
def tI (p0:Bool×Int×Int) (p1:Bool×Int×Int):Option (Bool×Int×Int):=bif decide (p0.2.2<p1.2.2) then some (false,aA .u64 ((aA .u64 (p0.2.1-p1.2.1)) -1),aA .u64 (p0.2.2-p1.2.2)) else some (false,aA .u64 (p0.2.1-p1.2.1),aA .u64 (p0.2.2-p1.2.2))
def aPi:cA:=⟨aE.cons (aO.agg (cW.row CJ)) (aE.one (aO.agg (cW.row CJ))),aO.agg (cW.row CJ),fun a=>tI a.1 a.2,.pure,false⟩
theorem aHP:aN tab 226 aPi:=Oc aGl rfl aJ [] trivial fun a=>by kernel_rfl
def AM (p0:Bool×Int×Int) (p1:Bool×Int×Int):Option (Bool×Int×Int):=bif p0.1==p1.1 then bif decide ((aA .u64 (p0.2.2+p1.2.2))<p0.2.2) then some (p0.1,aA .u64 ((aA .u64 (p0.2.1+p1.2.1))+1),aA .u64 (p0.2.2+p1.2.2)) else some (p0.1,aA .u64 (p0.2.1+p1.2.1),aA .u64 (p0.2.2+p1.2.2)) else (rB p0 p1).bind fun n0=>bif decide (0<=n0) then (tI p0 p1).bind fun a1=>bif p0.1 then bif decide (0<a1.2.1) then some (true,a1.2) else some (decide (0<a1.2.2),a1.2) else some (false,a1.2) else (tI p1 p0).bind fun a2=>some (p1.1,a2.2)
def aPj:cA:=⟨aE.cons (aO.agg (cW.row CJ)) (aE.one (aO.agg (cW.row CJ))),aO.agg (cW.row CJ),fun a=>AM a.1 a.2,.pure,false⟩
theorem aHQ:aN tab 186 aPj:=Oc aFV rfl aJ [(58,c58),(226,aPi)] ⟨aBu,aHP,trivial⟩ fun a=>by kernel_rfl
def DR (p0:Int×Int×Int) (p1:Int×Int×Int) (p2:Int×Int):Option Int:=(jW (aA .i64 (p0.2.1-p1.2.1)) p2.2).bind fun a0=>(jW (aA .i64 (p0.2.2-p1.2.2)) p2.1).bind fun a1=>(AM a0 a1).bind fun a2=>(lP a2).bind fun n3=>some n3
def aPk:cA:=⟨aE.cons (aO.agg (cW.row fZ)) (aE.cons (aO.agg (cW.row fZ)) (aE.one (aO.agg (cW.row jU)))),aO.int .i64,fun a=>DR a.1 a.2.1 a.2.2,.pure,false⟩
theorem aHR:aN tab 125 aPk:=Oc aFm rfl aJ [(56,c56),(186,aPj),(57,c57)] ⟨aBs,aHQ,aBt,trivial⟩ fun a=>by kernel_rfl
def pB (p0:Int×Int×Int) (p1:Int×Int×Int) (p2:Int×Int):Option Bool:=(DR p0 p1 p2).bind fun n0=>bif n0 !=0 then some (decide (0<n0)) else bif p0.2.2 !=p1.2.2 then some (decide (p1.2.2<p0.2.2)) else some (decide (p0.1<p1.1))
def c70:cA:=⟨aE.cons (aO.agg (cW.row fZ)) (aE.cons (aO.agg (cW.row fZ)) (aE.one (aO.agg (cW.row jU)))),aO.bool,fun a=>pB a.1 a.2.1 a.2.2,.pure,false⟩
theorem VD:aN tab 70 c70:=Oc aMB rfl aJ [(125,aPk)] ⟨aHR,trivial⟩ fun a=>by kernel_rfl
def rC (p0:Bool) (p1:Bool×Int×Int) (p2:Bool×Int×Int):Option ((Int×Int)×Int):=bif decide (0<p1.2.1) then some ((0,0),16) else bif decide (9223372036854775807<p1.2.2) then some ((0,0),16) else bif decide (0<p2.2.1) then some ((0,0),16) else bif decide (9223372036854775807<p2.2.2) then some ((0,0),16) else bif p0 then some ((aA .i64 (0- (aA .i64 p1.2.2)),aA .i64 p2.2.2),0) else some ((aA .i64 p1.2.2,aA .i64 p2.2.2),0)
def aPl:cA:=⟨aE.cons aO.bool (aE.cons (aO.agg (cW.row CJ)) (aE.one (aO.agg (cW.row CJ)))),aO.tup (aE.cons (aO.agg (cW.row jU)) (aE.one (aO.int .i64))),fun a=>rC a.1 a.2.1 a.2.2,.pure,false⟩
theorem aHS:aN tab 285 aPl:=Oc aGD rfl aJ [] trivial fun a=>by kernel_rfl
def mX (p0:Int) (p1:Int):Option ((Int×Int)×Int):=bif p1==0 then some ((0,0),26) else (hM p0).bind fun n0=>(hM p1).bind fun n1=>(pY n0 n1).bind fun n2=>bif !((decide (p0<0))==(decide (p1<0))) then (hM p0).bind fun n3=>bif n2==0 then none else (hM p1).bind fun n4=>bif n2==0 then none else (rC (p0 !=0) (false,0,aA .u64 (Int.tdiv n3 n2)) (false,0,aA .u64 (Int.tdiv n4 n2))).bind fun a5=>some a5 else (hM p0).bind fun n6=>bif n2==0 then none else (hM p1).bind fun n7=>bif n2==0 then none else (rC false (false,0,aA .u64 (Int.tdiv n6 n2)) (false,0,aA .u64 (Int.tdiv n7 n2))).bind fun a8=>some a8
def aPm:cA:=⟨aE.cons (aO.int .i64) (aE.one (aO.int .i64)),aO.tup (aE.cons (aO.agg (cW.row jU)) (aE.one (aO.int .i64))),fun a=>mX a.1 a.2,.pure,false⟩
theorem aHT:aN tab 257 aPm:=Oc aGr rfl aJ [(73,c73),(72,c72),(285,aPl)] ⟨VA,aBr,aHS,trivial⟩ fun a=>by kernel_rfl
def DS (p0:Int×Int×Int) (p1:Int×Int×Int):Option (Int×Int):=(mX (aA .i64 (p0.2.1-p1.2.1)) (aA .i64 (p1.2.2-p0.2.2))).bind fun a0=>some a0.1
def aPn:cA:=⟨aE.cons (aO.agg (cW.row fZ)) (aE.one (aO.agg (cW.row fZ))),aO.agg (cW.row jU),fun a=>DS a.1 a.2,.pure,false⟩
theorem aHU:aN tab 205 aPn:=Oc aF3 rfl aJ [(257,aPm)] ⟨aHT,trivial⟩ fun a=>by kernel_rfl
def sE (p0:Int×Int×Int) (p1:Int×Int×Int) (p2:Int×Int):Option ((Int×Int)×Bool):=(pB p1 p0 p2).bind fun b0=>bif b0 then some (p2,true) else bif decide (p0.2.2<p1.2.2) then (DS p0 p1).bind fun a1=>some (a1,true) else some ((0,0),false)
def aPo:cA:=⟨aE.cons (aO.agg (cW.row fZ)) (aE.cons (aO.agg (cW.row fZ)) (aE.one (aO.agg (cW.row jU)))),aO.tup (aE.cons (aO.agg (cW.row jU)) (aE.one aO.bool)),fun a=>sE a.1 a.2.1 a.2.2,.pure,false⟩
theorem aHV:aN tab 159 aPo:=Oc aFy rfl aJ [(70,c70),(205,aPn)] ⟨VD,aHU,trivial⟩ fun a=>by kernel_rfl
def rD (p0:Field) (p1:Int×Int) (p2:Int×Int):Option ((Int×Int)×Bool):=(gR p0 p1.2).bind fun n0=>(aL p0.points n0).bind fun a1=>(gR p0 p1.1).bind fun n2=>(aL p0.points n2).bind fun a3=>(sE a1 a3 p2).bind fun a4=>some a4
def c99:cA:=⟨aE.cons (aO.agg eH) (aE.cons (aO.agg (cW.row jU)) (aE.one (aO.agg (cW.row jU)))),aO.tup (aE.cons (aO.agg (cW.row jU)) (aE.one aO.bool)),fun a=>rD a.1 a.2.1 a.2.2,.pure,false⟩
theorem aNm:aN tab 99 c99:=Oc aMO rfl aJ [(40,c40),(159,aPo)] ⟨L1,aHV,trivial⟩ fun a=>by kernel_rfl
def vR (p0:aG) (p1:Int×Int):Option (PS×Int):=(tH p0).bind fun n0=>bif n0 !=0 then some ((0,0,0,0,0),8) else (vQ p0.slots p1).bind fun b1=>bif !b1 then some ((0,0,0,0,0),6) else (aL p0.where_ p1.1).bind fun n2=>(aL p0.heap n2).bind fun a3=>some (a3,0)
def aPp:cA:=⟨aE.cons (aO.agg hZ) (aE.one (aO.agg (cW.row jU))),aO.tup (aE.cons (aO.agg (cW.row lL)) (aE.one (aO.int .i64))),fun a=>vR a.1 a.2,.pure,false⟩
theorem aHW:aN tab 100 aPp:=Oc aE1 rfl aJ [(98,c98),(160,aNl)] ⟨aBv,XV,trivial⟩ fun a=>by kernel_rfl
def dM (s:aOe):Option (cJ aOe Int):=bif decide (s.2.1<(Int.ofNat s.2.2.2.2.2.2.1.length)) then (aL s.2.2.2.2.2.2.1 s.2.1).bind fun a0=>(rD (Field.mk s.2.2.2.2.1) a0.2 (s.2.2.1,s.2.2.2.1)).bind fun a1=>bif !a1.2 then some (.next (s.1,aA .i64 (s.2.1+1),s.2.2)) else bif decide ((Int.ofNat s.2.2.2.2.2.2.2.2.2.2.2.2.length)<=s.1) then some (.done 8) else (aL s.2.2.2.2.2.2.2.2.2.2.2.2 s.1).bind fun a2=>bif a2.1 !=a0.1 then some (.done 8) else (aL s.2.2.2.2.2.2.2.2.2.2.2.2 s.1).bind fun a3=>(vR (aG.mk (aR.mk s.2.2.2.2.2.2.2.1 s.2.2.2.2.2.2.2.2.1 s.2.2.2.2.2.2.2.2.2.1) s.2.2.2.2.2.2.2.2.2.2.1 s.2.2.2.2.2.2.2.2.2.2.2.1) a3.2).bind fun a4=>bif a4.2 !=0 then some (.done 8) else bif a4.1.2.2.1 !=a0.1 then some (.done 8) else bif !((a4.1.1==a1.1.1)&&(a4.1.2.1==a1.1.2)) then some (.done 8) else some (.next (aA .i64 (s.1+1),aA .i64 (s.2.1+1),s.2.2)) else bif s.1 !=(Int.ofNat s.2.2.2.2.2.2.2.2.2.2.2.2.length) then some (.done 8) else some (.done 0)
def xA (p0:aH):Option Int:=(lG p0.now).bind fun n0=>bif n0 !=0 then some 8 else (tD p0.field).bind fun n1=>bif n1 !=0 then some 8 else (tF p0.certs).bind fun n2=>bif n2 !=0 then some 8 else (wY p0.certs p0.field).bind fun b3=>bif !b3 then some 8 else (tH p0.agenda).bind fun n4=>bif n4 !=0 then some 8 else bif (Int.ofNat p0.agenda.where_.length) !=200 then some 8 else bif (Int.ofNat p0.agenda.heap.length) !=(Int.ofNat p0.due.length) then some 8 else aI dM (0,0,p0.now.1,p0.now.2,p0.field.points,p0.certs.next_,p0.certs.list,p0.agenda.slots.uses,p0.agenda.slots.used,p0.agenda.slots.free,p0.agenda.heap,p0.agenda.where_,p0.due)
def c53:cA:=⟨aE.one (aO.agg eX),aO.int .i64,fun a=>xA a,.pure,false⟩
theorem aNn:aN tab 53 c53:=Oc aMm rfl aJ [(26,c26),(19,c19),(96,c96),(97,c97),(98,c98),(99,c99),(100,aPp)] ⟨VB,aBq,aNj,aNk,aBv,aNm,aHW,trivial⟩ fun a=>by kernel_rfl
def S2 (s:aGQ):Option (cJ aGQ BT):=bif decide (s.2.1<(Int.ofNat s.1.length)) then (aL s.1 s.2.1).bind fun n0=>(aL s.1 (aA .i64 (Int.tdiv (aA .i64 (s.2.1-1)) 2))).bind fun n1=>(bZ s.2.2 [(n0,n1)]).bind fun l2=>some (.next (s.1,aA .i64 (s.2.1+1),l2)) else some (.done s.2.2)
def GP (p0:List Int):Option BT:=aI S2 (p0,1,[])
def c55:cA:=⟨aE.one (aO.sl ki),aO.sl jU,fun a=>GP a,.own,true⟩
def aPq:cA:=⟨aE.one (aO.sl ki),aO.sl jU,fun a=>GP a,.frz,false⟩
theorem aNo:aN tab 55 c55:=Oc aA6 rfl aJ [] trivial fun a=>by kernel_rfl
theorem aHX:aN tab 55 aPq:=Oc aA6 rfl aJ [] trivial fun a=>by kernel_rfl
def uU (s:aGP):Option (cJ aGP Bool):=bif decide (s.1<(Int.ofNat s.2.2.1.length)) then (aL s.2.2.1 s.1).bind fun a0=>bif (a0.2.1==s.2.2.2.1)&&(a0.2.2==s.2.2.2.2) then some (.done true) else some (.next (aA .i64 (s.1+1),s.2)) else some (.done false)
def vA (p0:aY) (p1:Int×Int):Option Bool:=aI uU (0,p0.next_,p0.list,p1)
def aPr:cA:=⟨aE.cons (aO.agg rW) (aE.one (aO.agg (cW.row jU))),aO.bool,fun a=>vA a.1 a.2,.pure,false⟩
theorem aHY:aN tab 101 aPr:=Oc aE2 rfl aJ [] trivial fun a=>by kernel_rfl
def AN (p0:Int×Int) (p1:Field) (p2:Int×Int):Option Bool:=(gR p1 p0.2).bind fun n0=>(aL p1.points n0).bind fun a1=>(gR p1 p0.1).bind fun n2=>(aL p1.points n2).bind fun a3=>(pB a1 a3 p2).bind fun b4=>some b4
def c30:cA:=⟨aE.cons (aO.agg (cW.row jU)) (aE.cons (aO.agg eH) (aE.one (aO.agg (cW.row jU)))),aO.bool,fun a=>AN a.1 a.2.1 a.2.2,.pure,false⟩
theorem aNp:aN tab 30 c30:=Oc aMg rfl aJ [(40,c40),(70,c70)] ⟨L1,VD,trivial⟩ fun a=>by kernel_rfl
def sF (s:aOd):Option (cJ aOd Bool):=bif decide (s.2.1<(Int.ofNat s.1.length)) then (aL s.1 s.2.1).bind fun a0=>(vA (aY.mk s.2.2.2.2.2.1 s.2.2.2.2.2.2.1) a0).bind fun b1=>bif !b1 then some (.done false) else (aL s.1 s.2.1).bind fun a2=>(AN a2 (Field.mk s.2.2.2.2.1) (s.2.2.1,s.2.2.2.1)).bind fun b3=>bif !b3 then some (.done false) else some (.next (s.1,aA .i64 (s.2.1+1),s.2.2)) else some (.done true)
def AO (p0:aH) (p1:List (Int×Int)):Option Bool:=bif (Int.ofNat p0.certs.list.length) !=(Int.ofNat p1.length) then some false else aI sF (p1,0,p0.now.1,p0.now.2,p0.field.points,p0.certs.next_,p0.certs.list,p0.agenda.slots.uses,p0.agenda.slots.used,p0.agenda.slots.free,p0.agenda.heap,p0.agenda.where_,p0.due)
def c54:cA:=⟨aE.cons (aO.agg eX) (aE.one (aO.sl jU)),aO.bool,fun a=>AO a.1 a.2,.pure,false⟩
theorem aNq:aN tab 54 c54:=Oc aMn rfl aJ [(101,aPr),(30,c30)] ⟨aHY,aNp,trivial⟩ fun a=>by kernel_rfl
def qD (s:aGK):Option (cJ aGK aOc):=bif decide (s.2.1<s.1) then (aL s.2.2.2.2.2.2.2.2.2.2.2.2.2 s.2.1).bind fun n0=>(aL s.2.2.2.2.2.2.2.2.2.2.2.2.2 s.1).bind fun n1=>bif n0==n1 then some (.done (.done 8)) else some (.next (s.1,aA .i64 (s.2.1+1),s.2.2)) else some (.done (.next (aA .i64 (s.1+1),s.2.2)))
def iW (s:aOb):Option aOc:=bif decide (s.1<(Int.ofNat s.2.2.2.2.2.2.2.2.2.2.2.2.length)) then (aL s.2.2.2.2.2.2.2.2.2.2.2.2 s.1).bind fun n0=>(gR (Field.mk s.2.2.2.1) n0).bind fun n1=>bif decide (n1<0) then some (.done 8) else aI qD (s.1,0,s.2) else (GP s.2.2.2.2.2.2.2.2.2.2.2.2).bind fun l2=>(AO (aH.mk (s.2.1,s.2.2.1) (Field.mk s.2.2.2.1) (aY.mk s.2.2.2.2.1 s.2.2.2.2.2.1) (aG.mk (aR.mk s.2.2.2.2.2.2.1 s.2.2.2.2.2.2.2.1 s.2.2.2.2.2.2.2.2.1) s.2.2.2.2.2.2.2.2.2.1 s.2.2.2.2.2.2.2.2.2.2.1) s.2.2.2.2.2.2.2.2.2.2.2.1) l2).bind fun b3=>bif !b3 then some (.done 8) else some (.done 0)
def mY (p0:eB):Option Int:=(xA p0.clock).bind fun n0=>bif n0 !=0 then some 8 else bif (Int.ofNat p0.heap.length) !=(Int.ofNat p0.clock.field.points.length) then some 8 else aI iW (0,p0.clock.now.1,p0.clock.now.2,p0.clock.field.points,p0.clock.certs.next_,p0.clock.certs.list,p0.clock.agenda.slots.uses,p0.clock.agenda.slots.used,p0.clock.agenda.slots.free,p0.clock.agenda.heap,p0.clock.agenda.where_,p0.clock.due,p0.heap)
def c13:cA:=⟨aE.one (aO.agg wV),aO.int .i64,fun a=>mY a,.pure,false⟩
theorem aNr:aN tab 13 c13:=Oc aL3 rfl aJ [(53,c53),(40,c40),(55,c55),(55,aPq),(54,c54)] ⟨aNn,L1,aNo,aHX,aNq,trivial⟩ fun a=>by kernel_rfl
def sG (s:(Int×cV×cV)):Option (cJ (Int×cV×cV) Bool):=bif decide (s.1<(Int.ofNat s.2.1.length)) then (aL s.2.1 s.1).bind fun a0=>(aL s.2.2 s.1).bind fun a1=>bif !((a0.1==a1.1)&&((a0.2.1==a1.2.1)&&(a0.2.2==a1.2.2))) then some (.done false) else some (.next (aA .i64 (s.1+1),s.2)) else some (.done true)
def oP (p0:Field) (p1:Field):Option Bool:=bif (Int.ofNat p0.points.length) !=(Int.ofNat p1.points.length) then some false else aI sG (0,p0.points,p1.points)
def c21:cA:=⟨aE.cons (aO.agg eH) (aE.one (aO.agg eH)),aO.bool,fun a=>oP a.1 a.2,.pure,false⟩
theorem aNs:aN tab 21 c21:=Oc aMa rfl aJ [] trivial fun a=>by kernel_rfl
def pC (p0:Field) (p1:Int×Int) (p2:Int) (p3:Int):Option Bool:=(gR p0 p2).bind fun n0=>(aL p0.points n0).bind fun a1=>(gR p0 p3).bind fun n2=>(aL p0.points n2).bind fun a3=>(pB a1 a3 p1).bind fun b4=>some b4
def c22:cA:=⟨aE.cons (aO.agg eH) (aE.cons (aO.agg (cW.row jU)) (aE.cons (aO.int .i64) (aE.one (aO.int .i64)))),aO.bool,fun a=>pC a.1 a.2.1 a.2.2.1 a.2.2.2,.pure,false⟩
theorem aNt:aN tab 22 c22:=Oc aMb rfl aJ [(40,c40),(70,c70)] ⟨L1,VD,trivial⟩ fun a=>by kernel_rfl
def JQ (p0:Int):Option Int:=bif decide (65536<=p0) then bif decide (256<=(iF .u32 p0 16)) then (uF tZ (aA .u8 (iF .u32 (iF .u32 p0 16) 8))).bind fun n0=>some (aA .i64 (24+(aA .i64 n0))) else (uF tZ (aA .u8 (iF .u32 p0 16))).bind fun n1=>some (aA .i64 (16+(aA .i64 n1))) else bif decide (256<=p0) then (uF tZ (aA .u8 (iF .u32 p0 8))).bind fun n2=>some (aA .i64 (8+(aA .i64 n2))) else (uF tZ (aA .u8 p0)).bind fun n3=>some (aA .i64 (0+(aA .i64 n3)))
def aPs:cA:=⟨aE.one (aO.int .u32),aO.int .i64,fun a=>JQ a,.pure,false⟩
theorem aHZ:aN tab 235 aPs:=Oc aGn rfl aJ [] trivial fun a=>by kernel_rfl
def uB (p0:Int):Option Int:=bif decide (4294967296<=p0) then bif decide (65536<=(iF .u64 p0 32)) then bif decide (256<=(iF .u64 (iF .u64 p0 32) 16)) then (uF tZ (aA .u8 (iF .u64 (iF .u64 (iF .u64 p0 32) 16) 8))).bind fun n0=>some (aA .i64 (56+(aA .i64 n0))) else (uF tZ (aA .u8 (iF .u64 (iF .u64 p0 32) 16))).bind fun n1=>some (aA .i64 (48+(aA .i64 n1))) else bif decide (256<=(iF .u64 p0 32)) then (uF tZ (aA .u8 (iF .u64 (iF .u64 p0 32) 8))).bind fun n2=>some (aA .i64 (40+(aA .i64 n2))) else (uF tZ (aA .u8 (iF .u64 p0 32))).bind fun n3=>some (aA .i64 (32+(aA .i64 n3))) else bif decide (65536<=p0) then bif decide (256<=(iF .u64 p0 16)) then (uF tZ (aA .u8 (iF .u64 (iF .u64 p0 16) 8))).bind fun n4=>some (aA .i64 (24+(aA .i64 n4))) else (uF tZ (aA .u8 (iF .u64 p0 16))).bind fun n5=>some (aA .i64 (16+(aA .i64 n5))) else bif decide (256<=p0) then (uF tZ (aA .u8 (iF .u64 p0 8))).bind fun n6=>some (aA .i64 (8+(aA .i64 n6))) else (uF tZ (aA .u8 p0)).bind fun n7=>some (aA .i64 (0+(aA .i64 n7)))
def aPt:cA:=⟨aE.one (aO.int .u64),aO.int .i64,fun a=>uB a,.pure,false⟩
theorem aH0:aN tab 236 aPt:=Oc aGo rfl aJ [] trivial fun a=>by kernel_rfl
def sH (p0:Int):Option Int:=(uB p0).bind fun n0=>some n0
def aPu:cA:=⟨aE.one (aO.int .u64),aO.int .i64,fun a=>sH a,.pure,false⟩
theorem aH1:aN tab 188 aPu:=Oc aFX rfl aJ [(235,aPs),(236,aPt)] ⟨aHZ,aH0,trivial⟩ fun a=>by kernel_rfl
def bC (s:(Int×Int×Int×Int×cV×Int×Int)):Option (cJ (Int×Int×Int×Int×cV×Int×Int) aOq):=bif decide (s.1<s.2.2.2.1) then (aL s.2.2.2.2.1 s.2.2.2.1).bind fun a0=>(aL s.2.2.2.2.1 (aA .i64 (s.2.2.2.1-1))).bind fun a1=>bif a0.1==a1.1 then bif s.2.2.2.2.1.length==s.2.2.2.2.1.length then some (.done (.next (s.1,s.2.1,aA .i64 (s.2.2.1+1),s.2.2.2.2))) else none else (lO a0 a1 s.2.2.2.2.2).bind fun a2=>bif a2.1 then bif s.2.2.2.2.1.length==s.2.2.2.2.1.length then (aL s.2.2.2.2.1 (aA .i64 (s.2.2.2.1-1))).bind fun a3=>(aL s.2.2.2.2.1 s.2.2.2.1).bind fun a4=>(aL s.2.2.2.2.1 s.2.2.2.1).bind fun _=>(aL (bY s.2.2.2.2.1 s.2.2.2.1 a3) (aA .i64 (s.2.2.2.1-1))).bind fun _=>some (.next (s.1,s.2.1,s.2.2.1,aA .i64 (s.2.2.2.1-1),bY (bY s.2.2.2.2.1 s.2.2.2.1 a3) (aA .i64 (s.2.2.2.1-1)) a4,s.2.2.2.2.2)) else none else bif s.2.2.2.2.1.length==s.2.2.2.2.1.length then some (.done (.next (s.1,s.2.1,aA .i64 (s.2.2.1+1),s.2.2.2.2))) else none else some (.done (.next (s.1,s.2.1,aA .i64 (s.2.2.1+1),s.2.2.2.2)))
def bD (c0:aGP) (s:U4):Option aOq:=bif decide (s.2.2.1<s.2.1) then aI bC (s.1,s.2.1,s.2.2.1,s.2.2) else bif s.2.2.2.1.length==c0.2.2.1.length then some (.done s.2.2.2) else none
def bL (a:aGP):Option PU:=aI (bD a) (a.1,a.2.1,aA .i64 (a.1+1),a.2.2)
def aBw:eZ:=⟨[.i,.i,.l [.i .i64,.i .i64,.i .i64],.i,.i],[.own 0 false,.int .i64 0,.int .i64 0,.clo 127 [] [.bp 1 2 0]],[.arr [.i .i64,.i .i64,.i .i64] [],.box [.int .i64 0,.int .i64 0]],[.l [.i .i64,.i .i64,.i .i64],.i,.i],.tup [],[.arr [.i .i64,.i .i64,.i .i64] [],.box [.int .i64 0,.int .i64 0]],fun a=>bL a⟩
theorem ZE:pF tab 227 aBw:=pF.of aGm (wd:=false) (cx:=(vJ aJ [(128,aHF)] [] [(127,aA4)] [])) (pG.make ⟨P6,trivial⟩ trivial ⟨W8,trivial⟩) (fun a=>by kernel_rfl)
def eC (c0:U4) (s:(Int×Int×Int×Bool×Bool×cV×Int×Int)):Option (cJ (Int×Int×Int×Bool×Bool×cV×Int×Int) PU):=bif decide ((aA .i64 (s.2.1-s.1))<=12) then (bL (s.1,s.2.1,s.2.2.2.2.2)).bind fun a0=>bif a0.1.length==c0.2.2.2.1.length then some (.done a0) else none else bif s.2.2.1==0 then none else bif !s.2.2.2.1 then none else none
def cL (_:U4->Option PU) (a:U4):Option PU:=aI (eC a) (a.1,a.2.1,a.2.2.1,true,true,a.2.2.2)
def bJ:Nat->U4->Option PU |0,_=>none |n+1,a=>cL (bJ n) a
def bR (a:U4):Option PU:=bJ 1000000 a
def aBx:eZ:=⟨[.i,.i,.i,.l [.i .i64,.i .i64,.i .i64],.i,.i],[.own 0 false,.int .i64 0,.int .i64 0,.int .i64 0,.clo 127 [] [.bp 1 2 0]],[.arr [.i .i64,.i .i64,.i .i64] [],.box [.int .i64 0,.int .i64 0]],[.l [.i .i64,.i .i64,.i .i64],.i,.i],.tup [],[.arr [.i .i64,.i .i64,.i .i64] [],.box [.int .i64 0,.int .i64 0]],fun a=>bR a⟩
theorem L2: ∀n,pF tab 187 ⟨[.i,.i,.i,.l [.i .i64,.i .i64,.i .i64],.i,.i],[.own 0 false,.int .i64 0,.int .i64 0,.int .i64 0,.clo 127 [] [.bp 1 2 0]],[.arr [.i .i64,.i .i64,.i .i64] [],.box [.int .i64 0,.int .i64 0]],[.l [.i .i64,.i .i64,.i .i64],.i,.i],.tup [],[.arr [.i .i64,.i .i64,.i .i64] [],.box [.int .i64 0,.int .i64 0]],fun a=>bJ n a⟩
 |0=>pF.zero (fun _=>rfl)
 |n+1=>pF.of aFW (wd:=false) (cx:=(vJ aJ [(128,aHF)] [(187,⟨[.i,.i,.i,.l [.i .i64,.i .i64,.i .i64],.i,.i],[.own 0 false,.int .i64 0,.int .i64 0,.int .i64 0,.clo 127 [] [.bp 1 2 0]],[.arr [.i .i64,.i .i64,.i .i64] [],.box [.int .i64 0,.int .i64 0]],[.l [.i .i64,.i .i64,.i .i64],.i,.i],.tup [],[.arr [.i .i64,.i .i64,.i .i64] [],.box [.int .i64 0,.int .i64 0]],fun a=>bJ n a⟩),(227,aBw)] [(127,aA4)] [])) (pG.make ⟨P6,trivial⟩ ⟨(L2 n),ZE,trivial⟩ ⟨W8,trivial⟩) (fun a=>by kernel_rfl)
theorem ZF:pF tab 187 aBx:=L2 1000000
def dS (a:PU):Option PU:=(sH (aA .u64 (Int.ofNat a.1.length))).bind fun n0=>(bR (0,Int.ofNat a.1.length,n0,a)).bind fun a1=>bif a1.1.length==a.1.length then some a1 else none
def aBy:eZ:=⟨[.l [.i .i64,.i .i64,.i .i64],.i,.i],[.own 0 false,.clo 127 [] [.bp 1 2 0]],[.arr [.i .i64,.i .i64,.i .i64] [],.box [.int .i64 0,.int .i64 0]],[.l [.i .i64,.i .i64,.i .i64],.i,.i],.tup [],[.arr [.i .i64,.i .i64,.i .i64] [],.box [.int .i64 0,.int .i64 0]],fun a=>dS a⟩
theorem ZG:pF tab 126 aBy:=pF.of aFn (wd:=false) (cx:=(vJ aJ [(188,aPu)] [(187,aBx)] [] [])) (pG.make ⟨aH1,trivial⟩ ⟨ZF,trivial⟩ trivial) (fun a=>by kernel_rfl)
def uV (p0:Field) (p1:Int×Int):Option (cV×Int):=(gN p0).bind fun n0=>bif n0 !=0 then some ([],n0) else (eI p1).bind fun n1=>bif n1 !=0 then some ([],n1) else (cZ p0.points).bind fun l2=>(dS (l2,p1)).bind fun a3=>some (a3.1,0)
def c71:cA:=⟨aE.cons (aO.agg eH) (aE.one (aO.agg (cW.row jU))),aO.tup (aE.cons (aO.sl fZ) (aE.one (aO.int .i64))),fun a=>uV a.1 a.2,.frz,false⟩
theorem aNu:aN tab 71 c71:=aN.of aMC (cx:=(vJ aJ [(87,c87),(60,c60),(91,cA.clone fZ)] [(126,aBy)] [] [])) rfl (pG.make ⟨L0,xP,GH,trivial⟩ ⟨ZG,trivial⟩ trivial) (fun a=>by kernel_rfl)
def nO (p0:Field) (p1:Int×Int):Option (Int×Int):=(uV p0 p1).bind fun a0=>bif a0.2 !=0 then some (0,a0.2) else bif (Int.ofNat a0.1.length)==0 then some (0,42) else (aL a0.1 0).bind fun a1=>some (a1.1,0)
def c24:cA:=⟨aE.cons (aO.agg eH) (aE.one (aO.agg (cW.row jU))),aO.tup (aE.cons (aO.int .i64) (aE.one (aO.int .i64))),fun a=>nO a.1 a.2,.pure,false⟩
theorem aNv:aN tab 24 c24:=Oc aMd rfl aJ [(71,c71)] ⟨aNu,trivial⟩ fun a=>by kernel_rfl
def tJ (p0:aH) (p1:Int×Int):Option Bool:=bif decide (0<(Int.ofNat p0.agenda.heap.length)) then (aL p0.agenda.heap 0).bind fun a0=>(mD (a0.1,a0.2.1) p1).bind fun n1=>some (decide (n1<=0)) else some false
def c25:cA:=⟨aE.cons (aO.agg eX) (aE.one (aO.agg (cW.row jU))),aO.bool,fun a=>tJ a.1 a.2,.pure,false⟩
theorem aNw:aN tab 25 c25:=Oc aMe rfl aJ [(15,c15)] ⟨VC,trivial⟩ fun a=>by kernel_rfl
def iC (s:Zt7):Option (cJ Zt7 Bool):=bif decide (s.2.1<(Int.ofNat s.2.2.2.2.2.2.2.2.2.2.2.2.2.2.2.2.length)) then (aL s.2.2.2.2.2.2.2.2.2.2.2.2.2.2.2.2 s.2.1).bind fun n0=>(aL s.2.2.2.2.2.2.2.2.2.2.2.2.2.2.2.2 (aA .i64 (Int.tdiv (aA .i64 (s.2.1-1)) 2))).bind fun n1=>(pC (Field.mk s.2.2.1) (s.2.2.2.1,s.2.2.2.2.1) n0 n1).bind fun b2=>bif b2 then some (.done false) else some (.next (s.1,aA .i64 (s.2.1+1),s.2.2)) else (nN (eB.mk (aH.mk (s.2.2.2.2.2.1,s.2.2.2.2.2.2.1) (Field.mk s.2.2.2.2.2.2.2.1) (aY.mk s.2.2.2.2.2.2.2.2.1 s.2.2.2.2.2.2.2.2.2.1) (aG.mk (aR.mk s.2.2.2.2.2.2.2.2.2.2.1 s.2.2.2.2.2.2.2.2.2.2.2.1 s.2.2.2.2.2.2.2.2.2.2.2.2.1) s.2.2.2.2.2.2.2.2.2.2.2.2.2.1 s.2.2.2.2.2.2.2.2.2.2.2.2.2.2.1) s.2.2.2.2.2.2.2.2.2.2.2.2.2.2.2.1) s.2.2.2.2.2.2.2.2.2.2.2.2.2.2.2.2)).bind fun a3=>(nO (Field.mk s.2.2.1) (s.2.2.2.1,s.2.2.2.2.1)).bind fun a4=>bif s.1 then bif a3.2==a4.2 then bif a3.1==a4.1 then (tJ (aH.mk (s.2.2.2.2.2.1,s.2.2.2.2.2.2.1) (Field.mk s.2.2.2.2.2.2.2.1) (aY.mk s.2.2.2.2.2.2.2.2.1 s.2.2.2.2.2.2.2.2.2.1) (aG.mk (aR.mk s.2.2.2.2.2.2.2.2.2.2.1 s.2.2.2.2.2.2.2.2.2.2.2.1 s.2.2.2.2.2.2.2.2.2.2.2.2.1) s.2.2.2.2.2.2.2.2.2.2.2.2.2.1 s.2.2.2.2.2.2.2.2.2.2.2.2.2.2.1) s.2.2.2.2.2.2.2.2.2.2.2.2.2.2.2.1) (s.2.2.2.1,s.2.2.2.2.1)).bind fun b5=>some (.done (!b5)) else some (.done false) else some (.done false) else some (.done false)
def rE (p0:Field) (p1:Int×Int) (p2:Int×Int):Option Bool:=(Option.some true).bind fun b0=>(FE p0).bind fun b1=>bif b1 then some b0 else (tD p0).bind fun n2=>bif n2 !=0 then some b0 else (AL p1 p2).bind fun n3=>bif n3 !=0 then some b0 else (mD p1 p2).bind fun n4=>bif decide (0<n4) then some b0 else bif !b0 then some b0 else (sZ p0 p1).bind fun a5=>bif a5.2 !=0 then some false else (mY a5.1).bind fun n6=>bif n6 !=0 then some false else (mC a5.1 p2).bind fun a7=>bif a7.2.2 !=0 then some false else (mY a7.1).bind fun n8=>bif n8 !=0 then some false else bif !((a7.1.clock.now.1==p2.1)&&(a7.1.clock.now.2==p2.2)) then some false else (oP a7.1.clock.field p0).bind fun b9=>bif !b9 then some false else aI iC (b0,1,p0.points,p2.1,p2.2,a7.1.clock.now.1,a7.1.clock.now.2,a7.1.clock.field.points,a7.1.clock.certs.next_,a7.1.clock.certs.list,a7.1.clock.agenda.slots.uses,a7.1.clock.agenda.slots.used,a7.1.clock.agenda.slots.free,a7.1.clock.agenda.heap,a7.1.clock.agenda.where_,a7.1.clock.due,a7.1.heap)
def c4:cA:=⟨aE.cons (aO.agg eH) (aE.cons (aO.agg (cW.row jU)) (aE.one (aO.agg (cW.row jU)))),aO.bool,fun a=>rE a.1 a.2.1 a.2.2,.pure,false⟩
theorem aPv:aN tab 4 c4:=Oc aIU rfl aJ [(10,c10),(12,c12),(19,c19),(14,c14),(15,c15),(20,c20),(13,c13),(16,c16),(21,c21),(22,c22),(23,c23),(24,c24),(25,c25)] ⟨aNf,aNg,aBq,aNi,VC,aBl,aNr,aBo,aNs,aNt,aBp,aNv,aNw,trivial⟩ fun a=>by kernel_rfl
end
end
end Go.Proofs.YtfejhjllooomlaaGreat
