/- Plain functions for what the functions of the seat compute. Printed by a program. -/
import Derived.Test.YtbncnimfgdelaaaGreatEDVm3
import Derived.Test.YtbncnimfgdelaaaGreatEDQXT
set_option maxRecDepth 100000
namespace Go.Proofs.YtbncnimfgdelaaaGreat
open Go.Vm
noncomputable section
theorem Oc {f:FuncId} {x:aQ} {α β:Type} {args:aE α} {res:aP β} {kd:Kd} {fn:α->Option β} {ow:Bool} (hf:tab f=some (.code x)) (ho:aED kd ow=true) (lp:Option Nat) (l:List (Nat×bR)) (h:GX tab l) (e: ∀a,aKT (wI lp l [] [] []) x args res kd a=fn a):aN tab f ⟨args,res,fn,kd,ow⟩:=aN.of hf (cx:=wI lp l [] [] []) ho (pZ.make h trivial trivial) e
abbrev vQ:ByteArray:=ByteArray.mk (Array.mk [0,1,2,2,3,3,3,3,4,4,4,4,4,4,4,4,5,5,5,5,5,5,5,5,5,5,5,5,5,5,5,5,6,6,6,6,6,6,6,6,6,6,6,6,6,6,6,6,6,6,6,6,6,6,6,6,6,6,6,6,6,6,6,6,7,7,7,7,7,7,7,7,7,7,7,7,7,7,7,7,7,7,7,7,7,7,7,7,7,7,7,7,7,7,7,7,7,7,7,7,7,7,7,7,7,7,7,7,7,7,7,7,7,7,7,7,7,7,7,7,7,7,7,7,7,7,7,7,8,8,8,8,8,8,8,8,8,8,8,8,8,8,8,8,8,8,8,8,8,8,8,8,8,8,8,8,8,8,8,8,8,8,8,8,8,8,8,8,8,8,8,8,8,8,8,8,8,8,8,8,8,8,8,8,8,8,8,8,8,8,8,8,8,8,8,8,8,8,8,8,8,8,8,8,8,8,8,8,8,8,8,8,8,8,8,8,8,8,8,8,8,8,8,8,8,8,8,8,8,8,8,8,8,8,8,8,8,8,8,8,8,8,8,8,8,8,8,8,8,8,8,8,8,8,8,8])
abbrev fU:List PT:=[.i .i64,.i .i64,.i .i64]
abbrev kA:List PT:=[.i .i64,.i .i64]
abbrev ki:List PT:=[.i .i64]
abbrev kb:List PT:=[.b]
abbrev kU:List PT:=[.i .i64,.i .i64,.i .i64,.i .i64,.i .i64]
abbrev aQE:List PT:=[.i .i64,.i .i64,.i .i64,.i .i64]
abbrev kiu:List PT:=[.i .i64,.i .u64]
abbrev D5:List PT:=[.b,.i .u64,.i .u64]
structure Field where
 points:List (Int×Int×Int)
def dV:cY Field:=cY.iso (cY.sl fU) (fun p=>⟨p⟩) (fun c=>c.points) (fun _=>rfl)
structure aU where
 uses:List Int
 used:List Bool
 free:List Int
def pQ:cY aU:=cY.iso (cY.prod (cY.sl ki) (cY.prod (cY.sl kb) (cY.sl ki))) (fun p=>⟨p.1,p.2.1,p.2.2⟩) (fun c=>(c.uses,c.used,c.free)) (fun _=>rfl)
structure aK where
 slots:aU
 heap:List (Int×Int×Int×Int×Int)
 where_:List Int
def hH:cY aK:=cY.iso (cY.prod pQ (cY.prod (cY.sl kU) (cY.sl ki))) (fun p=>⟨p.1,p.2.1,p.2.2⟩) (fun c=>(c.slots,c.heap,c.where_)) (fun _=>rfl)
structure bF where
 next_:Int
 list:List (Int×Int×Int)
def qZ:cY bF:=cY.iso (cY.prod (cY.int .i64) (cY.sl fU)) (fun p=>⟨p.1,p.2⟩) (fun c=>(c.next_,c.list)) (fun _=>rfl)
structure aL where
 now:Int×Int
 field:Field
 certs:bF
 agenda:aK
 due:List (Int×Int×Int)
def dF:cY aL:=cY.iso (cY.prod (cY.row kA) (cY.prod dV (cY.prod qZ (cY.prod hH (cY.sl fU))))) (fun p=>⟨p.1,p.2.1,p.2.2.1,p.2.2.2.1,p.2.2.2.2⟩) (fun c=>(c.now,c.field,c.certs,c.agenda,c.due)) (fun _=>rfl)
structure cB where
 clock:aL
 up:List Int
def kG:cY cB:=cY.iso (cY.prod dF (cY.sl ki)) (fun p=>⟨p.1,p.2⟩) (fun c=>(c.clock,c.up)) (fun _=>rfl)
theorem B6:aN tab 89 (bR.clone fU):=aN.clone aO2 rfl
theorem aCT:aN tab 277 (bR.add64):=aN.add64 aID
theorem xH:aN tab 197 (bR.clone kb):=aN.clone aHU rfl
theorem A3:aN tab 193 (bR.clone fU):=aN.clone aHQ rfl
theorem IJ:aN tab 194 (bR.clone fU):=aN.clone aHR rfl
theorem xI:aN tab 195 (bR.clone kU):=aN.clone aHS rfl
theorem rA:aN tab 196 (bR.clone ki):=aN.clone aHT rfl
theorem UN:aN tab 293 (bR.clone ki):=aN.clone aIM rfl
abbrev kV:aL:=aL.mk (0,0) (Field.mk []) (bF.mk 0 []) (aK.mk (aU.mk [] [] []) [] []) []
section
abbrev uR:=List (Int×Int×Int×Int×Int)
abbrev cQ:=List (Int×Int×Int)
abbrev hO:=List (Int×Int)
abbrev aBc:=hO×hO×Int×Int×Int×Int×cQ×Int×cQ×(List Int)×(List Bool)×(List Int)×uR×(List Int)×cQ×cQ×Int×Int×Int
abbrev aQF:=bV aBc (aL×Int)
abbrev Zt1:=bV aBc aQF
abbrev Zt2:=cQ×Int×Int×Int×Int×cQ×Int×cQ×(List Int)×(List Bool)×(List Int)×uR×(List Int)×cQ×cQ×Int×Int×Int×Int×Int×Int×cQ×(List Int)×(List Bool)×(List Int)×uR×(List Int)×cQ×cQ
abbrev aQG:=hO×cQ×Int×Int×Int×Int×cQ×Int×cQ×(List Int)×(List Bool)×(List Int)×uR×(List Int)×cQ×cQ×Int×Int×Int
abbrev Zt3:=bV aQG (aL×Int)
abbrev aQH:=cQ×Int×Int×Int×Int×cQ×Int×cQ×(List Int)×(List Bool)×(List Int)×uR×(List Int)×cQ×cQ×Int×Int×Int
abbrev Zt4:=bV aQH (aL×Int)
abbrev Zt5:=cQ×cQ×Int×Int×Int×Int×cQ×Int×cQ×(List Int)×(List Bool)×(List Int)×uR×(List Int)×cQ
abbrev Zt6:=Int×Int×cQ×Int×cQ×(List Int)×(List Bool)×(List Int)×uR×(List Int)×cQ×(List Int)×Int×Int×Int×Int×Int×hO
abbrev Zt7:=hO×Int×Int×Int×Int×cQ×Int×cQ×(List Int)×(List Bool)×(List Int)×uR×(List Int)×cQ×Int×Int×Int
abbrev aQI:=Int×Int×Int×Int×cQ×Int×cQ×(List Int)×(List Bool)×(List Int)×uR×(List Int)×cQ×(List Int)
abbrev Zt8:=bV aQI Int
abbrev Zt9:=hO×Int×Int×Int×cQ×Int×cQ×(List Int)×(List Bool)×(List Int)×uR×(List Int)×cQ
abbrev aQJ:=Int×Int×Int×Int×cQ×Int×cQ×(List Int)×(List Bool)×(List Int)×uR×(List Int)×cQ
abbrev aQK:=Int×uR×(List Int)×(List Int)×(List Bool)×(List Int)×Nat×Nat×Int×Int×Int×Int×Int
abbrev aBd:=uR×(List Int)
abbrev aQL:=bV aQK aBd
abbrev aQM:=Int×uR×(List Int)×(List Int)×(List Bool)×(List Int)×Int×Int×Int×Int×Int
abbrev aQN:=bV aQM aBd
abbrev aQO:=Int×Int×Nat×Nat×Nat×Int×Int×cQ×hO×Int×Int×Int×Int×Int
abbrev XU:=cQ×hO
abbrev aQP:=bV aQO XU
abbrev aQQ:=uR×Int×Int×(List Int)×(List Bool)×(List Int)×uR×(List Int)×(List (List Int))
abbrev aQR:=cQ×Int×Int×cQ×Int×Int×hO×Int×Int×Int×Int×Int
abbrev aQS:=bV aQR hO
abbrev aQT:=Int×cQ×Int×Int×hO×Int×Int×Int×Int×Int×cQ×cQ
abbrev aQU:=Int×Int×Int×cQ×hO×Int×Int×Int×Int×Int×cQ×cQ
abbrev aQV:=Int×Int×uR×(List Int)×(List Int)×(List Bool)×(List Int)×Nat×Nat×Int×Int×Int×Int×Int
abbrev aIN:=(List Int)×(List Bool)×(List Int)×Nat×Nat×Int×Int×Int×Int×Int×Int×uR×(List Int)
abbrev aQW:=Int×Int×uR×(List Int)×(List Int)×(List Bool)×(List Int)×Int×Int×Int×Int×Int
abbrev aQX:=Int×Int×(List Int)×(List Bool)×(List Int)×uR×(List Int)×Int×Int×Int×Int×Int
abbrev aIO:=(List Int)×(List Bool)×(List Int)×Int×Int×Int×Int×Int×Int×uR×(List Int)
abbrev aQY:=(List Int)×Int×Int×(List Int)×(List Bool)×(List Int)×uR×(List Int)
abbrev aQZ:=bV aQY Int
abbrev aIP:=Int×(List Int)×(List Bool)×(List Int)×uR×(List Int)
abbrev aO9:=bV aIP Int
abbrev aQ0:=Int×Int×(List Int)×(List Bool)×(List Int)×uR×(List Int)
abbrev aQ1:=Int×cQ×Int×Int×Int×cQ×(List (List Int))
abbrev aQ2:=(List Int)×Int×Int×(List Int)×(List Bool)×(List Int)×Int×(List Bool)
abbrev aQ3:=bV aQ2 Int
abbrev aQ4:=cQ×Int×Int×hO×(List Int)×hO
abbrev aIQ:=cQ×Int×Int×Int×Int×hO
abbrev UO:=Int×Int×Int×Int×cQ×hO
abbrev R3:=cQ×Int×Int×Int×Int
abbrev aIR:=bV R3 (Int×Bool)
abbrev aCU:=cQ×Int×Int×cQ
abbrev aCV:=Int×Int×(List Int)×(List Bool)×(List Int)×(List Bool)
abbrev aIS:=Int×Int×cQ×Int×Int
abbrev aCW:=Int×Int×cQ
abbrev aPa:=bV aCW Int
abbrev aPb:=(List Int)×Int×Int×hO
abbrev aCX:=Int×cQ
variable [LP]
def K0:Option Field:=some (Field.mk [(1,0,2),(2,6,-1),(5,0,0)])
def c42:bR:=⟨aE.nil,aP.agg dV,fun _=>K0,.frz,false⟩
theorem aPc:aN tab 42 c42:=Oc aOy rfl aJ [] trivial fun a=>by kernel_rfl
def N1 (p0:Int):Option (Int×Int):=some (p0,1)
def c43:bR:=⟨aE.one (aP.int .i64),aP.agg (cY.row kA),fun a=>N1 a,.pure,false⟩
theorem aPd:aN tab 43 c43:=Oc aOz rfl aJ [] trivial fun a=>by kernel_rfl
def rB (p0:Int):Option Bool:=bif decide (p0<(-1048576)) then some true else some (decide (1048576<p0))
def aQ5:bR:=⟨aE.one (aP.int .i64),aP.bool,fun a=>rB a,.pure,false⟩
theorem aIT:aN tab 141 aQ5:=Oc aHm rfl aJ [] trivial fun a=>by kernel_rfl
def oR (p0:Int×Int×Int):Option Int:=bif decide (p0.1<0) then some 8 else bif decide (65535<p0.1) then some 8 else (rB p0.2.1).bind fun b0=>bif b0 then some 8 else (rB p0.2.2).bind fun b1=>bif b1 then some 8 else some 0
def c86:bR:=⟨aE.one (aP.agg (cY.row fU)),aP.int .i64,fun a=>oR a,.pure,false⟩
theorem aCY:aN tab 86 c86:=Oc aO0 rfl aJ [(141,aQ5)] ⟨aIT,trivial⟩ fun a=>by kernel_rfl
def jQ (s:aCU):Option (bV aCU (bV aCU Int)):=bif decide (s.2.2.1<s.2.1) then (aM s.1 s.2.2.1).bind fun a0=>bif decide (0<s.2.2.1) then (aM s.2.2.2 (aA .i64 (s.2.2.1-1))).bind fun a1=>bif decide (a0.1<=a1.1) then some (.done (.done 32)) else some (.next (s.1,s.2.1,aA .i64 (s.2.2.1+1),s.2.2.2)) else some (.next (s.1,s.2.1,aA .i64 (s.2.2.1+1),s.2.2.2)) else some (.done (.done 0))
def nZ (s:aCU):Option (bV aCU Int):=bif decide (s.2.2.1<s.2.1) then (aM s.1 s.2.2.1).bind fun a0=>(oR a0).bind fun n1=>bif n1 !=0 then some (.done n1) else some (.next (s.1,s.2.1,aA .i64 (s.2.2.1+1),s.2.2.2)) else aG jQ (s.2.2.2,Int.ofNat s.2.2.2.length,0,s.2.2.2)
def fZ (p0:Field):Option Int:=bif decide (64<(Int.ofNat p0.points.length)) then some 4 else aG nZ (p0.points,Int.ofNat p0.points.length,0,p0.points)
def c85:bR:=⟨aE.one (aP.agg dV),aP.int .i64,fun a=>fZ a,.pure,false⟩
theorem J4:aN tab 85 c85:=Oc aOZ rfl aJ [(86,c86)] ⟨aCY,trivial⟩ fun a=>by kernel_rfl
def nG (p0:Int):Option Int:=bif decide (p0<0) then some (aA .u64 (0- (aA .u64 p0))) else some (aA .u64 p0)
def aIU:bR:=⟨aE.one (aP.int .i64),aP.int .u64,fun a=>nG a,.pure,false⟩
theorem R4:aN tab 129 aIU:=Oc aHf rfl aJ [] trivial fun a=>by kernel_rfl
def wJ (s:(Int×Int)):Option (bV (Int×Int) Int):=bif decide (0<s.2) then bif s.2==0 then none else some (.next (s.2,Int.tmod s.1 s.2)) else some (.done s.1)
def A4 (p0:Int) (p1:Int):Option Int:=aG wJ (p0,p1)
def aPf:bR:=⟨aE.cons (aP.int .u64) (aE.one (aP.int .u64)),aP.int .u64,fun a=>A4 a.1 a.2,.pure,false⟩
theorem Z6:aN tab 128 aPf:=Oc aHe rfl aJ [] trivial fun a=>by kernel_rfl
def eS (p0:Int×Int):Option Int:=bif decide (p0.2<1) then some 8 else bif p0.1==(-9223372036854775808) then some 8 else (nG p0.1).bind fun n0=>(A4 (aA .u64 p0.2) n0).bind fun n1=>bif decide (1<n1) then some 8 else some 0
def c72:bR:=⟨aE.one (aP.agg (cY.row kA)),aP.int .i64,fun a=>eS a,.pure,false⟩
theorem zS:aN tab 72 c72:=Oc aOV rfl aJ [(129,aIU),(128,aPf)] ⟨R4,Z6,trivial⟩ fun a=>by kernel_rfl
def K1 (s:(Int×Int×Int×(List Int)×(List Bool)×(List Int))):Option (bV (Int×Int×Int×(List Int)×(List Bool)×(List Int)) (aU×Int)):=bif decide (s.2.2.1<s.2.1) then (aM s.2.2.2.2.2 s.2.2.1).bind fun _=>some (.next (s.1,s.2.1,aA .i64 (s.2.2.1+1),s.2.2.2.1,s.2.2.2.2.1,cD s.2.2.2.2.2 s.2.2.1 (aA .i64 ((aA .i64 (s.1-1)) -s.2.2.1)))) else some (.done (aU.mk s.2.2.2.1 s.2.2.2.2.1 s.2.2.2.2.2,0))
def IK (p0:Int):Option (aU×Int):=bif decide (p0<1) then some (aU.mk [] [] [],2) else bif decide (200<p0) then some (aU.mk [] [] [],2) else bif p0==p0 then (xE p0 (0:Int)).bind fun l0=>bif p0==p0 then (xE p0 (false:Bool)).bind fun l1=>bif p0==p0 then (xE p0 (0:Int)).bind fun l2=>aG K1 (p0,p0,0,l0,l1,l2) else none else none else none
def aQ6:bR:=⟨aE.one (aP.int .i64),aP.tup (aE.cons (aP.agg pQ) (aE.one (aP.int .i64))),fun a=>IK a,.frz,false⟩
theorem aIV:aN tab 164 aQ6:=Oc aHv rfl aJ [] trivial fun a=>by kernel_rfl
def LL (p0:Int) (p1:Int):Option (Int×Int):=some (aA .u32 (fN .u64 (aA .u64 ((aA .u64 p0)*(aA .u64 p1))) 32),aA .u32 (aA .u64 ((aA .u64 p0)*(aA .u64 p1))))
def aQ7:bR:=⟨aE.cons (aP.int .u32) (aE.one (aP.int .u32)),aP.tup (aE.cons (aP.int .u32) (aE.one (aP.int .u32))),fun a=>LL a.1 a.2,.pure,false⟩
theorem aIW:aN tab 256 aQ7:=Oc aIr rfl aJ [] trivial fun a=>by kernel_rfl
def gW (p0:Int) (p1:Int):Option (Int×Int):=some (aA .u64 ((aA .u64 ((aA .u64 ((fN .u64 p0 32)*(fN .u64 p1 32)))+(fN .u64 (aA .u64 ((aA .u64 ((fN .u64 p0 32)*(sL .u64 p1 4294967295)))+(fN .u64 (aA .u64 ((sL .u64 p0 4294967295)*(sL .u64 p1 4294967295))) 32))) 32)))+(fN .u64 (aA .u64 ((sL .u64 (aA .u64 ((aA .u64 ((fN .u64 p0 32)*(sL .u64 p1 4294967295)))+(fN .u64 (aA .u64 ((sL .u64 p0 4294967295)*(sL .u64 p1 4294967295))) 32))) 4294967295)+(aA .u64 ((sL .u64 p0 4294967295)*(fN .u64 p1 32))))) 32)),aA .u64 (p0*p1))
def aIX:bR:=⟨aE.cons (aP.int .u64) (aE.one (aP.int .u64)),aP.tup (aE.cons (aP.int .u64) (aE.one (aP.int .u64))),fun a=>gW a.1 a.2,.pure,false⟩
theorem R5:aN tab 187 aIX:=Oc aHK rfl aJ [] trivial fun a=>by kernel_rfl
def zT (p0:Int) (p1:Int):Option (Int×Int):=(gW p0 p1).bind fun a0=>some a0
def aPg:bR:=⟨aE.cons (aP.int .u64) (aE.one (aP.int .u64)),aP.tup (aE.cons (aP.int .u64) (aE.one (aP.int .u64))),fun a=>zT a.1 a.2,.pure,false⟩
theorem Z7:aN tab 210 aPg:=Oc aH3 rfl aJ [(256,aQ7),(187,aIX)] ⟨aIW,R5,trivial⟩ fun a=>by kernel_rfl
def oA (s:(Int×(List Int))):Option (bV (Int×(List Int)) (List Int)):=bif decide (s.1<(Int.ofNat s.2.length)) then bif ((decide (0<=s.1))&&(decide (s.1<=(Int.ofNat s.2.length))))&&(decide ((Int.ofNat s.2.length)<=(Int.ofNat s.2.length))) then (iE s.2 0 s.1).bind fun _=>bif ((s.2.take s.1.toNat).take (((Int.ofNat s.2.length).toNat) -s.1.toNat)).isEmpty then some (.next (aA .i64 (s.1+0),s.2)) else bif (Nat.ble ((0+s.1.toNat)+(((s.2.take s.1.toNat).take (((Int.ofNat s.2.length).toNat) -s.1.toNat)).length)) s.2.length)&&(!false) then some (.next (aA .i64 (s.1+(Int.ofNat (((s.2.take s.1.toNat).take (((Int.ofNat s.2.length).toNat) -s.1.toNat)).length))),lR s.2 (0+s.1.toNat) ((s.2.take s.1.toNat).take (((Int.ofNat s.2.length).toNat) -s.1.toNat)))) else none else none else some (.done s.2)
def kH (p0:List Int) (p1:Int):Option (List Int):=bif decide (p1<0) then none else (zT (aA .u64 (Int.ofNat p0.length)) (aA .u64 p1)).bind fun a0=>bif decide (0<a0.1) then none else bif decide (9223372036854775807<a0.2) then none else bif (aA .i64 a0.2)==(aA .i64 a0.2) then (xE (aA .i64 a0.2) (0:Int)).bind fun l1=>bif (p0.take l1.length).isEmpty then aG oA (0,l1) else bif (Nat.ble (0+((p0.take l1.length).length)) l1.length)&&(!false) then aG oA (Int.ofNat ((p0.take l1.length).length),lR l1 0 (p0.take l1.length)) else none else none
def aQ8:bR:=⟨aE.cons (aP.sl ki) (aE.one (aP.int .i64)),aP.sl ki,fun a=>kH a.1 a.2,.own,true⟩
def aKZ:bR:=⟨aE.cons (aP.sl ki) (aE.one (aP.int .i64)),aP.sl ki,fun a=>kH a.1 a.2,.frz,false⟩
theorem aIY:aN tab 165 aQ8:=Oc ZZ rfl aJ [(210,aPg)] ⟨Z7,trivial⟩ fun a=>by kernel_rfl
theorem aC0:aN tab 165 aKZ:=Oc ZZ rfl aJ [(210,aPg)] ⟨Z7,trivial⟩ fun a=>by kernel_rfl
def B7 (p0:Int):Option (aK×Int):=(IK p0).bind fun a0=>bif a0.2 !=0 then some (aK.mk (aU.mk [] [] []) [] [],a0.2) else (kH [-1] p0).bind fun l1=>some (aK.mk a0.1 [] l1,0)
def aQ9:bR:=⟨aE.one (aP.int .i64),aP.tup (aE.cons (aP.agg hH) (aE.one (aP.int .i64))),fun a=>B7 a,.frz,false⟩
theorem aIZ:aN tab 105 aQ9:=Oc aGZ rfl aJ [(164,aQ6),(165,aQ8),(165,aKZ)] ⟨aIV,aIY,aC0,trivial⟩ fun a=>by kernel_rfl
def FA (p0:Field) (p1:Int×Int):Option (aL×Int):=(fZ p0).bind fun n0=>bif n0 !=0 then some (kV,n0) else (eS p1).bind fun n1=>bif n1 !=0 then some (kV,n1) else (B7 200).bind fun a2=>(cA p0.points).bind fun l3=>some (aL.mk p1 (Field.mk l3) (bF.mk 0 []) a2.1 [],a2.2)
def c53:bR:=⟨aE.cons (aP.agg dV) (aE.one (aP.agg (cY.row kA))),aP.tup (aE.cons (aP.agg dF) (aE.one (aP.int .i64))),fun a=>FA a.1 a.2,.frz,false⟩
theorem aPh:aN tab 53 c53:=Oc aOG rfl aJ [(85,c85),(72,c72),(105,aQ9),(89,bR.clone fU)] ⟨J4,zS,aIZ,B6,trivial⟩ fun a=>by kernel_rfl
def sO (p0:Int×Int×Int) (p1:Int×Int×Int) (p2:Int×Int):Option Int:=(oR p0).bind fun n0=>(oR p1).bind fun n1=>(eS p2).bind fun n2=>bif (if n2>(if n1>n0 then n1 else n0) then n2 else if n1>n0 then n1 else n0) !=0 then some (if n2>(if n1>n0 then n1 else n0) then n2 else if n1>n0 then n1 else n0) else bif p0.1==p1.1 then some 2 else some 0
def aI0:bR:=⟨aE.cons (aP.agg (cY.row fU)) (aE.cons (aP.agg (cY.row fU)) (aE.one (aP.agg (cY.row kA)))),aP.int .i64,fun a=>sO a.1 a.2.1 a.2.2,.pure,false⟩
theorem R6:aN tab 203 aI0:=Oc aHY rfl aJ [(86,c86),(72,c72)] ⟨aCY,zS,trivial⟩ fun a=>by kernel_rfl
def pH (s:(Int×Int×Int×Int×Int×Int×Int×Int×Int)):Option (bV (Int×Int×Int×Int×Int×Int×Int×Int×Int) (Int×Int)):=bif decide (s.2.2.2.2.1<2) then bif s.2.2.2.2.1==0 then (gW (aA .u64 s.1) (aA .u64 s.2.1)).bind fun a0=>bif decide (s.1<0) then bif decide (s.2.1<0) then (sN s.2.2.2.2.2.2.2.2 a0.2 0).bind fun a1=>some (.next (s.1,s.2.1,s.2.2.1,s.2.2.2.1,aA .i64 (s.2.2.2.2.1+1),s.2.2.2.2.2.1,s.2.2.2.2.2.2.1,aA .i64 ((aA .i64 (s.2.2.2.2.2.2.2.1+(aA .i64 ((aA .i64 ((aA .i64 a0.1) -s.2.1)) -s.1))))+(aA .i64 a1.2)),a1.1)) else (sN s.2.2.2.2.2.2.2.2 a0.2 0).bind fun a2=>some (.next (s.1,s.2.1,s.2.2.1,s.2.2.2.1,aA .i64 (s.2.2.2.2.1+1),s.2.2.2.2.2.1,s.2.2.2.2.2.2.1,aA .i64 ((aA .i64 (s.2.2.2.2.2.2.2.1+(aA .i64 ((aA .i64 a0.1) -s.2.1))))+(aA .i64 a2.2)),a2.1)) else bif decide (s.2.1<0) then (sN s.2.2.2.2.2.2.2.2 a0.2 0).bind fun a3=>some (.next (s.1,s.2.1,s.2.2.1,s.2.2.2.1,aA .i64 (s.2.2.2.2.1+1),s.2.2.2.2.2.1,s.2.2.2.2.2.2.1,aA .i64 ((aA .i64 (s.2.2.2.2.2.2.2.1+(aA .i64 ((aA .i64 a0.1) -s.1))))+(aA .i64 a3.2)),a3.1)) else (sN s.2.2.2.2.2.2.2.2 a0.2 0).bind fun a4=>some (.next (s.1,s.2.1,s.2.2.1,s.2.2.2.1,aA .i64 (s.2.2.2.2.1+1),s.2.2.2.2.2.1,s.2.2.2.2.2.2.1,aA .i64 ((aA .i64 (s.2.2.2.2.2.2.2.1+(aA .i64 a0.1)))+(aA .i64 a4.2)),a4.1)) else bif s.2.2.2.2.1==1 then (gW (aA .u64 s.2.2.1) (aA .u64 s.2.2.2.1)).bind fun a5=>bif decide (s.2.2.1<0) then bif decide (s.2.2.2.1<0) then (sN s.2.2.2.2.2.2.2.2 a5.2 0).bind fun a6=>some (.next (s.1,s.2.1,s.2.2.1,s.2.2.2.1,aA .i64 (s.2.2.2.2.1+1),s.2.2.2.2.2.1,s.2.2.2.2.2.2.1,aA .i64 ((aA .i64 (s.2.2.2.2.2.2.2.1+(aA .i64 ((aA .i64 ((aA .i64 a5.1) -s.2.2.2.1)) -s.2.2.1))))+(aA .i64 a6.2)),a6.1)) else (sN s.2.2.2.2.2.2.2.2 a5.2 0).bind fun a7=>some (.next (s.1,s.2.1,s.2.2.1,s.2.2.2.1,aA .i64 (s.2.2.2.2.1+1),s.2.2.2.2.2.1,s.2.2.2.2.2.2.1,aA .i64 ((aA .i64 (s.2.2.2.2.2.2.2.1+(aA .i64 ((aA .i64 a5.1) -s.2.2.2.1))))+(aA .i64 a7.2)),a7.1)) else bif decide (s.2.2.2.1<0) then (sN s.2.2.2.2.2.2.2.2 a5.2 0).bind fun a8=>some (.next (s.1,s.2.1,s.2.2.1,s.2.2.2.1,aA .i64 (s.2.2.2.2.1+1),s.2.2.2.2.2.1,s.2.2.2.2.2.2.1,aA .i64 ((aA .i64 (s.2.2.2.2.2.2.2.1+(aA .i64 ((aA .i64 a5.1) -s.2.2.1))))+(aA .i64 a8.2)),a8.1)) else (sN s.2.2.2.2.2.2.2.2 a5.2 0).bind fun a9=>some (.next (s.1,s.2.1,s.2.2.1,s.2.2.2.1,aA .i64 (s.2.2.2.2.1+1),s.2.2.2.2.2.1,s.2.2.2.2.2.2.1,aA .i64 ((aA .i64 (s.2.2.2.2.2.2.2.1+(aA .i64 a5.1)))+(aA .i64 a9.2)),a9.1)) else none else some (.done s.2.2.2.2.2.2.2)
def B8 (p0:Int×Int×Int×Int):Option (Int×Int):=aG pH (p0.1,p0.2.1,p0.2.2.1,p0.2.2.2,0,0,0,0,0)
def aRa:bR:=⟨aE.one (aP.agg (cY.row aQE)),aP.agg (cY.row kiu),fun a=>B8 a,.pure,false⟩
theorem aI1:aN tab 245 aRa:=Oc aIo rfl aJ [(187,aIX),(277,bR.add64)] ⟨R5,aCT,trivial⟩ fun a=>by kernel_rfl
def pR (p0:Int):Option Bool:=some (p0 !=p0)
def aRb:bR:=⟨aE.one (aP.int .i64),aP.bool,fun a=>pR a,.pure,false⟩
theorem aI2:aN tab 185 aRb:=Oc aHI rfl aJ [] trivial fun a=>by kernel_rfl
def kI (p0:Int) (p1:Int):Option Int:=(pR p0).bind fun b0=>(pR p1).bind fun b1=>bif b0 then bif b1 then some 0 else some (-1) else bif b1 then some 1 else bif decide (p0<p1) then some (-1) else bif decide (p1<p0) then some 1 else some 0
def aPi:bR:=⟨aE.cons (aP.int .i64) (aE.one (aP.int .i64)),aP.int .i64,fun a=>kI a.1 a.2,.pure,false⟩
theorem Z8:aN tab 131 aPi:=Oc aHh rfl aJ [(185,aRb)] ⟨aI2,trivial⟩ fun a=>by kernel_rfl
def tO (p0:Int):Option Bool:=some (p0 !=p0)
def aRc:bR:=⟨aE.one (aP.int .i64),aP.bool,fun a=>tO a,.pure,false⟩
theorem aI3:aN tab 199 aRc:=Oc aHV rfl aJ [] trivial fun a=>by kernel_rfl
def fV (p0:Int) (p1:Int):Option Int:=(tO p0).bind fun b0=>(tO p1).bind fun b1=>bif b0 then bif b1 then some 0 else some (-1) else bif b1 then some 1 else bif decide (p0<p1) then some (-1) else bif decide (p1<p0) then some 1 else some 0
def XV:bR:=⟨aE.cons (aP.int .i64) (aE.one (aP.int .i64)),aP.int .i64,fun a=>fV a.1 a.2,.pure,false⟩
theorem FB:aN tab 144 XV:=Oc aHo rfl aJ [(199,aRc)] ⟨aI3,trivial⟩ fun a=>by kernel_rfl
def zU (s:(Int×(List Int)×Int×Int)):Option (bV (Int×(List Int)×Int×Int) Int):=bif decide (s.2.2.2<s.2.2.1) then (aM s.2.1 s.2.2.2).bind fun n0=>bif n0 !=s.1 then some (.done n0) else some (.next (s.1,s.2.1,s.2.2.1,aA .i64 (s.2.2.2+1))) else some (.done s.1)
def xJ (p0:List Int):Option Int:=aG zU (0,p0,Int.ofNat p0.length,0)
def aPj:bR:=⟨aE.one (aP.sl ki),aP.int .i64,fun a=>xJ a,.pure,false⟩
theorem Z9:aN tab 209 aPj:=Oc aH2 rfl aJ [] trivial fun a=>by kernel_rfl
def oB (p0:Int×Int×Int) (p1:Int×Int×Int) (p2:Int×Int):Option Int:=(B8 (aA .i64 (p0.2.1-p1.2.1),p2.2,aA .i64 (p0.2.2-p1.2.2),p2.1)).bind fun a0=>bif !((a0.1==0)&&(a0.2==0)) then bif decide (a0.1<0) then some (-1) else some 1 else (kI p0.2.2 p1.2.2).bind fun n1=>(fV p1.1 p0.1).bind fun n2=>(xJ [n1,n2]).bind fun n3=>some n3
def aPk:bR:=⟨aE.cons (aP.agg (cY.row fU)) (aE.cons (aP.agg (cY.row fU)) (aE.one (aP.agg (cY.row kA)))),aP.int .i64,fun a=>oB a.1 a.2.1 a.2.2,.pure,false⟩
theorem aAa:aN tab 204 aPk:=Oc aHZ rfl aJ [(245,aRa),(131,aPi),(144,XV),(209,aPj)] ⟨aI1,Z8,FB,Z9,trivial⟩ fun a=>by kernel_rfl
def jG (p0:Int×Int×Int) (p1:Int×Int×Int) (p2:Int×Int):Option (Bool×Int):=(sO p0 p1 p2).bind fun n0=>bif n0 !=0 then some (false,n0) else (oB p0 p1 p2).bind fun n1=>some (decide (0<n1),0)
def aC1:bR:=⟨aE.cons (aP.agg (cY.row fU)) (aE.cons (aP.agg (cY.row fU)) (aE.one (aP.agg (cY.row kA)))),aP.tup (aE.cons aP.bool (aE.one (aP.int .i64))),fun a=>jG a.1 a.2.1 a.2.2,.pure,false⟩
theorem L0:aN tab 154 aC1:=Oc aHr rfl aJ [(203,aI0),(204,aPk)] ⟨R6,aAa,trivial⟩ fun a=>by kernel_rfl
def iF (c0:(UO->(Option XU))) (c1:UO) (s:aQU):Option (bV aQU aQP):=match s with |(a,b,d,e,f,g,h,i,j,k,l,m)=>bif decide (d<b) then (aM e d).bind fun a0=>bif a0.1 !=i then bif decide (a<0) then none else bif (sL .i64 (fN .i64 a0.1 a) 1)==0 then (bL l [a0]).bind fun l1=>bif (sL .i64 (fN .i64 a0.1 a) 1)==0 then some (.next (a,b,aA .i64 (d+1),e,f,g,h,i,j,k,l1,m)) else bif (sL .i64 (fN .i64 a0.1 a) 1)==1 then none else none else bif (sL .i64 (fN .i64 a0.1 a) 1)==1 then (bL m [a0]).bind fun l2=>bif (sL .i64 (fN .i64 a0.1 a) 1)==0 then none else bif (sL .i64 (fN .i64 a0.1 a) 1)==1 then some (.next (a,b,aA .i64 (d+1),e,f,g,h,i,j,k,l,l2)) else none else none else some (.next (a,b,aA .i64 (d+1),(e,f,g,h,i,j,k,l,m))) else (c0 (g,h,i,aA .i64 (a+1),l,f)).bind fun a3=>(c0 (g,h,i,aA .i64 (a+1),m,a3.2)).bind fun a4=>bif e.length==c1.2.2.2.2.1.length then some (.done (.done (e,a4.2))) else none
def kJ (c0:(UO->(Option XU))) (c1:UO) (s:aQO):Option aQP:=match s with |(a,b,d,e,f,g,h,i,j,k,l,m,n,o)=>bif decide (h<g) then (aM ((i.drop d).take e) h).bind fun a0=>(jG a0 (m,n,o) (k,l)).bind fun a1=>bif a1.1 then some (.next (a,b,d,e,f,g,aA .i64 (h+1),i,j,k,l,a0)) else some (.next (a,b,d,e,f,g,aA .i64 (h+1),(i,j,k,l,m,n,o))) else aG (iF c0 c1) (b,Int.ofNat i.length,0,i,nQ j m a,k,l,m,n,o,[],[])
def pC (self:UO->Option XU) (a:UO):Option XU:=bif (Int.ofNat a.2.2.2.2.1.length)==0 then bif a.2.2.2.2.1.length==a.2.2.2.2.1.length then some a.2.2.2.2 else none else (aM a.2.2.2.2.1 0).bind fun a0=>bif ((decide (0<=1))&&(decide (1<=(Int.ofNat a.2.2.2.2.1.length))))&&(decide ((Int.ofNat a.2.2.2.2.1.length)<=(Int.ofNat a.2.2.2.2.1.length))) then aG (kJ self a) (a.2.2.1,a.2.2.2.1,1,((Int.ofNat a.2.2.2.2.1.length).toNat) -1,a.2.2.2.2.1.length-1,Int.ofNat (((Int.ofNat a.2.2.2.2.1.length).toNat) -1),0,a.2.2.2.2.1,a.2.2.2.2.2,a.1,a.2.1,a0) else none
def gU:Nat->UO->Option XU |0,_=>none |n+1,a=>pC (gU n) a
def gL (a:UO):Option XU:=gU 1000000 a
def XW:fL:=⟨[.i,.i,.i,.i,.l [.i .i64,.i .i64,.i .i64],.l [.i .i64,(.i .i64)]],[.own 0 false,.agg [.int .i64 0,.int .i64 0],.int .i64 0,.int .i64 0,.mp 1],[.arr [.i .i64,.i .i64,.i .i64] [],.tab (.i .i64) []],[.l [.i .i64,.i .i64,.i .i64],.l [.i .i64,(.i .i64)]],.tup [],[.arr [.i .i64,.i .i64,.i .i64] [],.tab (.i .i64) []],fun a=>gL a⟩
theorem N2: ∀n,nR tab 110 ⟨[.i,.i,.i,.i,.l [.i .i64,.i .i64,.i .i64],.l [.i .i64,(.i .i64)]],[.own 0 false,.agg [.int .i64 0,.int .i64 0],.int .i64 0,.int .i64 0,.mp 1],[.arr [.i .i64,.i .i64,.i .i64] [],.tab (.i .i64) []],[.l [.i .i64,.i .i64,.i .i64],.l [.i .i64,(.i .i64)]],.tup [],[.arr [.i .i64,.i .i64,.i .i64] [],.tab (.i .i64) []],fun a=>gU n a⟩
 |0=>nR.zero (fun _=>rfl)
 |n+1=>nR.of ZV (wd:=false) (cx:=(wI aJ [(154,aC1)] [(110,⟨[.i,.i,.i,.i,.l [.i .i64,.i .i64,.i .i64],.l [.i .i64,(.i .i64)]],[.own 0 false,.agg [.int .i64 0,.int .i64 0],.int .i64 0,.int .i64 0,.mp 1],[.arr [.i .i64,.i .i64,.i .i64] [],.tab (.i .i64) []],[.l [.i .i64,.i .i64,.i .i64],.l [.i .i64,(.i .i64)]],.tup [],[.arr [.i .i64,.i .i64,.i .i64] [],.tab (.i .i64) []],fun a=>gU n a⟩)] [] [])) (pZ.make ⟨L0,trivial⟩ ⟨(N2 n),trivial⟩ trivial) (fun a=>by kernel_rfl)
theorem QH:nR tab 110 XW:=N2 1000000
def iG (s:aQT):Option (bV aQT aQS):=match s with |(a,b,d,e,f,g,h,i,j,k,l,m)=>bif decide (e<d) then (aM b e).bind fun a0=>bif a0.1 !=i then bif decide (a<0) then none else bif (sL .i64 (fN .i64 a0.1 a) 1)==0 then (bL l [a0]).bind fun l1=>bif (sL .i64 (fN .i64 a0.1 a) 1)==0 then some (.next (a,b,d,aA .i64 (e+1),f,g,h,i,j,k,l1,m)) else bif (sL .i64 (fN .i64 a0.1 a) 1)==1 then none else none else bif (sL .i64 (fN .i64 a0.1 a) 1)==1 then (bL m [a0]).bind fun l2=>bif (sL .i64 (fN .i64 a0.1 a) 1)==0 then none else bif (sL .i64 (fN .i64 a0.1 a) 1)==1 then some (.next (a,b,d,aA .i64 (e+1),f,g,h,i,j,k,l,l2)) else none else none else some (.next (a,b,d,aA .i64 (e+1),(f,g,h,i,j,k,l,m))) else (gL (g,h,i,aA .i64 (a+1),l,f)).bind fun a3=>(gL (g,h,i,aA .i64 (a+1),m,a3.2)).bind fun a4=>some (.done (.done a4.2))
def kK (s:aQR):Option aQS:=match s with |(a,b,d,e,f,g,h,i,j,k,l,m)=>bif decide (g<f) then (aM e g).bind fun a0=>(jG a0 (k,l,m) (i,j)).bind fun a1=>bif a1.1 then some (.next (a,b,d,e,f,aA .i64 (g+1),h,i,j,a0)) else some (.next (a,b,d,e,f,aA .i64 (g+1),(h,i,j,k,l,m))) else aG iG (d,a,Int.ofNat a.length,0,nQ h k b,i,j,k,l,m,[],[])
def lF (_:aIQ->Option hO) (a:aIQ):Option hO:=bif (Int.ofNat a.1.length)==0 then some a.2.2.2.2.2 else (aM a.1 0).bind fun a0=>(iE a.1 1 (Int.ofNat a.1.length)).bind fun l1=>aG kK (a.1,a.2.2.2.1,a.2.2.2.2.1,l1,Int.ofNat l1.length,0,a.2.2.2.2.2,a.2.1,a.2.2.1,a0)
def gV:Nat->aIQ->Option hO |0,_=>none |n+1,a=>lF (gV n) a
def rC (a:aIQ):Option hO:=gV 1000000 a
def aC2:fL:=⟨[.l [.i .i64,.i .i64,.i .i64],.i,.i,.i,.i,.l [.i .i64,(.i .i64)]],[.sl [.i .i64,.i .i64,.i .i64] [],.agg [.int .i64 0,.int .i64 0],.int .i64 0,.int .i64 0,.mp 0],[.tab (.i .i64) []],[.l [.i .i64,(.i .i64)]],.tup [],[.tab (.i .i64) []],fun a=>rC a⟩
theorem N3: ∀n,nR tab 110 ⟨[.l [.i .i64,.i .i64,.i .i64],.i,.i,.i,.i,.l [.i .i64,(.i .i64)]],[.sl [.i .i64,.i .i64,.i .i64] [],.agg [.int .i64 0,.int .i64 0],.int .i64 0,.int .i64 0,.mp 0],[.tab (.i .i64) []],[.l [.i .i64,(.i .i64)]],.tup [],[.tab (.i .i64) []],fun a=>gV n a⟩
 |0=>nR.zero (fun _=>rfl)
 |n+1=>nR.of ZV (wd:=true) (cx:=(wI aJ [(154,aC1)] [(110,⟨[.l [.i .i64,.i .i64,.i .i64],.i,.i,.i,.i,.l [.i .i64,(.i .i64)]],[.sl [.i .i64,.i .i64,.i .i64] [],.agg [.int .i64 0,.int .i64 0],.int .i64 0,.int .i64 0,.mp 0],[.tab (.i .i64) []],[.l [.i .i64,(.i .i64)]],.tup [],[.tab (.i .i64) []],fun a=>gV n a⟩),(110,XW)] [] [])) (pZ.make ⟨L0,trivial⟩ ⟨(N3 n),QH,trivial⟩ trivial) (fun a=>by kernel_rfl)
theorem aBe:nR tab 110 aC2:=N3 1000000
def rD (s:aQ4):Option (bV aQ4 ((List Int)×hO)):=bif decide (s.2.2.1<s.2.1) then (aM s.1 s.2.2.1).bind fun a0=>(bL s.2.2.2.2.1 [lC 0 s.2.2.2.1 a0.1]).bind fun l1=>bif decide (0<=(lC 0 s.2.2.2.1 a0.1)) then (bL s.2.2.2.2.2 [(a0.1,lC 0 s.2.2.2.1 a0.1)]).bind fun l2=>some (.next (s.1,s.2.1,aA .i64 (s.2.2.1+1),s.2.2.2.1,l1,l2)) else some (.next (s.1,s.2.1,aA .i64 (s.2.2.1+1),s.2.2.2.1,l1,s.2.2.2.2.2)) else some (.done s.2.2.2.2)
def gX (p0:Field) (p1:Int×Int):Option ((List Int)×hO):=(rC (p0.points,p1.1,p1.2,-1,0,[])).bind fun l0=>aG rD (p0.points,Int.ofNat p0.points.length,0,l0,[],[])
def c57:bR:=⟨aE.cons (aP.agg dV) (aE.one (aP.agg (cY.row kA))),aP.tup (aE.cons (aP.sl ki) (aE.one (aP.sl kA))),fun a=>gX a.1 a.2,.frz,false⟩
theorem R7:aN tab 57 c57:=aN.of aOI (cx:=(wI aJ [] [(110,XW),(110,aC2)] [] [])) rfl (pZ.make trivial ⟨QH,aBe,trivial⟩ trivial) (fun a=>by kernel_rfl)
def xK (p0:Int×Int):Option Bool:=bif decide (0<=(if p0.2<p0.1 then p0.2 else p0.1)) then bif decide ((if p0.2>p0.1 then p0.2 else p0.1)<=65535) then some (p0.1 !=p0.2) else some false else some false
def aPl:bR:=⟨aE.one (aP.agg (cY.row kA)),aP.bool,fun a=>xK a,.pure,false⟩
theorem aAb:aN tab 174 aPl:=Oc aHy rfl aJ [] trivial fun a=>by kernel_rfl
def tP (s:aQ1):Option (bV aQ1 Int):=bif decide (s.2.2.2.1<s.2.2.1) then (aM s.2.1 s.2.2.2.1).bind fun a0=>(xK a0.2).bind fun b1=>bif !b1 then some (.done 8) else (TZ s.2.2.2.2.2.2 [a0.2.1,a0.2.2]).bind fun b2=>bif b2 then some (.done 8) else bif decide (a0.1<=s.1) then some (.done 8) else bif decide (s.2.2.2.2.1<=a0.1) then some (.done 8) else (T0 s.2.2.2.2.2.2 [a0.2.1,a0.2.2]).bind fun l3=>some (.next (a0.1,s.2.1,s.2.2.1,aA .i64 (s.2.2.2.1+1),s.2.2.2.2.1,s.2.2.2.2.2.1,l3)) else some (.done 0)
def sP (p0:bF):Option Int:=bif decide (200<(Int.ofNat p0.list.length)) then some 8 else bif decide (p0.next_<0) then some 8 else bif decide (1000000<p0.next_) then some 8 else aG tP (-1,p0.list,Int.ofNat p0.list.length,0,p0.next_,p0.list,[])
def aI4:bR:=⟨aE.one (aP.agg qZ),aP.int .i64,fun a=>sP a,.pure,false⟩
theorem R8:aN tab 114 aI4:=Oc aG2 rfl aJ [(174,aPl)] ⟨aAb,trivial⟩ fun a=>by kernel_rfl
def iH (s:((List Bool)×Bool×Int×Int)):Option (bV ((List Bool)×Bool×Int×Int) Int):=bif decide (s.2.2.2<s.2.2.1) then (aM s.1 s.2.2.2).bind fun b0=>bif s.2.1==b0 then some (.done s.2.2.2) else some (.next (s.1,s.2.1,s.2.2.1,aA .i64 (s.2.2.2+1))) else some (.done (-1))
def rE (p0:List Bool) (p1:Bool):Option Int:=aG iH (p0,p1,Int.ofNat p0.length,0)
def aRe:bR:=⟨aE.cons (aP.sl kb) (aE.one aP.bool),aP.int .i64,fun a=>rE a.1 a.2,.pure,false⟩
theorem aI5:aN tab 264 aRe:=Oc aIx rfl aJ [] trivial fun a=>by kernel_rfl
def eT (p0:List Bool) (p1:Bool):Option Bool:=(rE p0 p1).bind fun n0=>some (decide (0<=n0))
def aRf:bR:=⟨aE.cons (aP.sl kb) (aE.one aP.bool),aP.bool,fun a=>eT a.1 a.2,.pure,false⟩
theorem aI6:aN tab 224 aRf:=Oc aIb rfl aJ [(264,aRe)] ⟨aI5,trivial⟩ fun a=>by kernel_rfl
def hZ (s:((List Int)×Int×Int×(List Int)×(List Bool)×(List Int))):Option (bV ((List Int)×Int×Int×(List Int)×(List Bool)×(List Int)) aQ3):=bif decide (s.2.2.1<s.2.1) then (aM s.1 s.2.2.1).bind fun n0=>bif decide (n0<0) then some (.done (.done 8)) else bif decide (1000000<n0) then some (.done (.done 8)) else bif n0==0 then (aM s.2.2.2.2.1 s.2.2.1).bind fun b1=>bif b1 then some (.done (.done 8)) else some (.next (s.1,s.2.1,aA .i64 (s.2.2.1+1),s.2.2.2)) else some (.next (s.1,s.2.1,aA .i64 (s.2.2.1+1),s.2.2.2)) else some (.done (.done 0))
def tQ (c0:(List Bool)) (s:aQ2):Option aQ3:=match s with |(a,b,d,e,f,g,h,i)=>bif decide (d<b) then (aM a d).bind fun n0=>bif decide (n0<0) then bif i.length==i.length then bif i.length==c0.length then bif i.length==c0.length then bif decide (0<=d) then some (.done 8) else (eT i false).bind fun b1=>bif b1 then some (.done 8) else aG hZ (e,Int.ofNat e.length,0,e,f,g) else none else none else none else bif decide (h<=n0) then bif i.length==i.length then bif i.length==c0.length then bif i.length==c0.length then bif decide (0<=d) then some (.done 8) else (eT i false).bind fun b2=>bif b2 then some (.done 8) else aG hZ (e,Int.ofNat e.length,0,e,f,g) else none else none else none else (aM i n0).bind fun b3=>bif b3 then bif i.length==i.length then bif i.length==c0.length then bif i.length==c0.length then bif decide (0<=d) then some (.done 8) else (eT i false).bind fun b4=>bif b4 then some (.done 8) else aG hZ (e,Int.ofNat e.length,0,e,f,g) else none else none else none else (aM i n0).bind fun _=>bif ((cD i n0 true).length)==i.length then some (.next (a,b,aA .i64 (d+1),e,f,g,h,cD i n0 true)) else none else bif i.length==c0.length then bif i.length==c0.length then (eT i false).bind fun b6=>bif b6 then some (.done 8) else aG hZ (e,Int.ofNat e.length,0,e,f,g) else none else none
def sQ (p0:aU):Option Int:=bif decide ((Int.ofNat p0.uses.length)<1) then some 8 else bif decide (200<(Int.ofNat p0.uses.length)) then some 8 else bif (Int.ofNat p0.used.length) !=(Int.ofNat p0.uses.length) then some 8 else (cA p0.used).bind fun l0=>aG (tQ l0) (p0.free,Int.ofNat p0.free.length,0,p0.uses,p0.used,p0.free,Int.ofNat p0.uses.length,l0)
def aI7:bR:=⟨aE.one (aP.agg pQ),aP.int .i64,fun a=>sQ a,.pure,false⟩
theorem R9:aN tab 175 aI7:=aN.of aHz (cx:=(wI aJ [(197,bR.clone kb),(224,aRf)] [] [(222,aFT),(263,aGq),(223,aFV)] [])) rfl (pZ.make ⟨xH,aI6,trivial⟩ trivial ⟨aH9,aIw,aIa,trivial⟩) (fun a=>by kernel_rfl)
def B9 (p0:Int×Int) (p1:Int×Int):Option Int:=(eS p0).bind fun n0=>(eS p1).bind fun n1=>some (if n1>n0 then n1 else n0)
def aRg:bR:=⟨aE.cons (aP.agg (cY.row kA)) (aE.one (aP.agg (cY.row kA))),aP.int .i64,fun a=>B9 a.1 a.2,.pure,false⟩
theorem aI8:aN tab 130 aRg:=Oc aHg rfl aJ [(72,c72)] ⟨zS,trivial⟩ fun a=>by kernel_rfl
def uS (p0:Int) (p1:Int):Option (Bool×Int×Int):=(nG p0).bind fun n0=>(nG p1).bind fun n1=>(gW n0 n1).bind fun a2=>some (!((decide (p0<0))==(decide (p1<0))),a2)
def aRh:bR:=⟨aE.cons (aP.int .i64) (aE.one (aP.int .i64)),aP.agg (cY.row D5),fun a=>uS a.1 a.2,.pure,false⟩
theorem aI9:aN tab 133 aRh:=Oc aHj rfl aJ [(129,aIU),(187,aIX)] ⟨R4,R5,trivial⟩ fun a=>by kernel_rfl
def oS (p0:Int):Option Bool:=some (p0 !=p0)
def aRi:bR:=⟨aE.one (aP.int .u64),aP.bool,fun a=>oS a,.pure,false⟩
theorem aJa:aN tab 227 aRi:=Oc aIe rfl aJ [] trivial fun a=>by kernel_rfl
def jR (p0:Int) (p1:Int):Option Int:=(oS p0).bind fun b0=>(oS p1).bind fun b1=>bif b0 then bif b1 then some 0 else some (-1) else bif b1 then some 1 else bif decide (p0<p1) then some (-1) else bif decide (p1<p0) then some 1 else some 0
def aRj:bR:=⟨aE.cons (aP.int .u64) (aE.one (aP.int .u64)),aP.int .i64,fun a=>jR a.1 a.2,.pure,false⟩
theorem aJb:aN tab 186 aRj:=Oc aHJ rfl aJ [(227,aRi)] ⟨aJa,trivial⟩ fun a=>by kernel_rfl
def tR (p0:Bool×Int×Int) (p1:Bool×Int×Int):Option Int:=(jR p0.2.1 p1.2.1).bind fun n0=>bif n0 !=0 then some n0 else (jR p0.2.2 p1.2.2).bind fun n1=>some n1
def aRk:bR:=⟨aE.cons (aP.agg (cY.row D5)) (aE.one (aP.agg (cY.row D5))),aP.int .i64,fun a=>tR a.1 a.2,.pure,false⟩
theorem aJc:aN tab 132 aRk:=Oc aHi rfl aJ [(186,aRj)] ⟨aJb,trivial⟩ fun a=>by kernel_rfl
def sR (p0:Int×Int) (p1:Int×Int):Option (Int×Int):=(B9 p0 p1).bind fun n0=>bif n0 !=0 then some (0,n0) else bif !((decide (p0.1<0))==(decide (p1.1<0))) then (kI p0.1 p1.1).bind fun n1=>some (n1,0) else (uS p0.1 p1.2).bind fun a2=>(uS p1.1 p0.2).bind fun a3=>(tR a2 a3).bind fun n4=>bif decide (p0.1<0) then some (aA .i64 (0-n4),0) else some (n4,0)
def c73:bR:=⟨aE.cons (aP.agg (cY.row kA)) (aE.one (aP.agg (cY.row kA))),aP.tup (aE.cons (aP.int .i64) (aE.one (aP.int .i64))),fun a=>sR a.1 a.2,.pure,false⟩
theorem XX:aN tab 73 c73:=Oc aOW rfl aJ [(130,aRg),(131,aPi),(133,aRh),(132,aRk)] ⟨aI8,Z8,aI9,aJc,trivial⟩ fun a=>by kernel_rfl
def cE (p0:Int×Int×Int×Int×Int) (p1:Int×Int×Int×Int×Int):Option Int:=(sR (p0.1,p0.2.1) (p1.1,p1.2.1)).bind fun a0=>(fV p0.2.2.1 p1.2.2.1).bind fun n1=>(xJ [a0.1,n1]).bind fun n2=>some n2
def aJd:bR:=⟨aE.cons (aP.agg (cY.row kU)) (aE.one (aP.agg (cY.row kU))),aP.int .i64,fun a=>cE a.1 a.2,.pure,false⟩
theorem SA:aN tab 176 aJd:=Oc aHA rfl aJ [(73,c73),(144,XV),(209,aPj)] ⟨XX,FB,Z9,trivial⟩ fun a=>by kernel_rfl
def kB (s:aQQ):Option (bV aQQ aQZ):=bif decide (s.2.2.1<s.2.1) then (aM s.1 s.2.2.1).bind fun a0=>(eS (a0.1,a0.2.1)).bind fun n1=>bif n1 !=0 then some (.done (.done 8)) else bif decide (a0.2.2.1<0) then some (.done (.done 8)) else bif decide (1000000<a0.2.2.1) then some (.done (.done 8)) else (TZ s.2.2.2.2.2.2.2.2 [a0.2.2.1]).bind fun b2=>bif b2 then some (.done (.done 8)) else (T0 s.2.2.2.2.2.2.2.2 [a0.2.2.1]).bind fun l3=>bif decide (0<s.2.2.1) then (aM s.2.2.2.2.2.2.1 (aA .i64 (Int.tdiv (aA .i64 (s.2.2.1-1)) 2))).bind fun a4=>(cE a0 a4).bind fun n5=>bif decide (n5<0) then some (.done (.done 8)) else some (.next (s.1,s.2.1,aA .i64 (s.2.2.1+1),s.2.2.2.1,s.2.2.2.2.1,s.2.2.2.2.2.1,s.2.2.2.2.2.2.1,s.2.2.2.2.2.2.2.1,l3)) else some (.next (s.1,s.2.1,aA .i64 (s.2.2.1+1),s.2.2.2.1,s.2.2.2.2.1,s.2.2.2.2.2.1,s.2.2.2.2.2.2.1,s.2.2.2.2.2.2.2.1,l3)) else some (.done (.done 0))
def mY (s:aQY):Option aQZ:=bif decide (s.2.2.1<s.2.1) then (aM s.1 s.2.2.1).bind fun n0=>(aM s.2.2.2.2.1 s.2.2.1).bind fun b1=>bif !b1 then bif n0 !=(-1) then some (.done 8) else some (.next (s.1,s.2.1,aA .i64 (s.2.2.1+1),s.2.2.2)) else bif decide (n0<0) then some (.done 8) else bif decide ((Int.ofNat s.2.2.2.2.2.2.1.length)<=n0) then some (.done 8) else (aM s.2.2.2.2.2.2.1 n0).bind fun a2=>(aM s.2.2.2.1 s.2.2.1).bind fun n3=>bif !((a2.2.2.2.1==s.2.2.1)&&(a2.2.2.2.2==n3)) then some (.done 8) else some (.next (s.1,s.2.1,aA .i64 (s.2.2.1+1),s.2.2.2)) else aG kB (s.2.2.2.2.2.2.1,Int.ofNat s.2.2.2.2.2.2.1.length,0,s.2.2.2.1,s.2.2.2.2.1,s.2.2.2.2.2.1,s.2.2.2.2.2.2.1,s.2.2.2.2.2.2.2,[])
def kL (p0:aK):Option Int:=(sQ p0.slots).bind fun n0=>bif n0 !=0 then some 8 else bif (Int.ofNat p0.where_.length) !=(Int.ofNat p0.slots.used.length) then some 8 else bif (Int.ofNat p0.heap.length) !=(aA .i64 ((Int.ofNat p0.slots.used.length) - (Int.ofNat p0.slots.free.length))) then some 8 else aG mY (p0.where_,Int.ofNat p0.where_.length,0,p0.slots.uses,p0.slots.used,p0.slots.free,p0.heap,p0.where_)
def aBf:bR:=⟨aE.one (aP.agg hH),aP.int .i64,fun a=>kL a,.pure,false⟩
theorem IL:aN tab 115 aBf:=Oc aG3 rfl aJ [(175,aI7),(72,c72),(176,aJd)] ⟨R9,zS,SA,trivial⟩ fun a=>by kernel_rfl
def zV (p0:Int×Int×Int) (p1:Int):Option Int:=(fV p0.1 p1).bind fun n0=>some n0
def aRl:bR:=⟨aE.cons (aP.agg (cY.row fU)) (aE.one (aP.int .i64)),aP.int .i64,fun a=>zV a.1 a.2,.pure,false⟩
theorem aJe:aN tab 225 aRl:=Oc aIc rfl aJ [(144,XV)] ⟨FB,trivial⟩ fun a=>by kernel_rfl
def jL (s:R3):Option aIR:=bif decide (s.2.2.2.1<s.2.2.2.2) then (aM s.1 (aA .i64 (fN .u64 (aA .u64 (aA .i64 (s.2.2.2.1+s.2.2.2.2))) 1))).bind fun a0=>(zV a0 s.2.1).bind fun n1=>bif decide (n1<0) then some (.next (s.1,s.2.1,s.2.2.1,aA .i64 ((aA .i64 (fN .u64 (aA .u64 (aA .i64 (s.2.2.2.1+s.2.2.2.2))) 1))+1),s.2.2.2.2)) else some (.next (s.1,s.2.1,s.2.2.1,s.2.2.2.1,aA .i64 (fN .u64 (aA .u64 (aA .i64 (s.2.2.2.1+s.2.2.2.2))) 1))) else bif decide (s.2.2.2.1<s.2.2.1) then (aM s.1 s.2.2.2.1).bind fun a2=>(zV a2 s.2.1).bind fun n3=>some (.done (s.2.2.2.1,n3==0)) else some (.done (s.2.2.2.1,false))
def dA (p0:List (Int×Int×Int)) (p1:Int) (_:Unit):Option (Int×Bool):=aG jL (p0,p1,Int.ofNat p0.length,0,Int.ofNat p0.length)
def UP:bR:=⟨aE.cons (aP.sl fU) (aE.cons (aP.int .i64) (aE.one (aP.clo 225 aE.nil))),aP.tup (aE.cons (aP.int .i64) (aE.one aP.bool)),fun a=>dA a.1 a.2.1 a.2.2,.pure,false⟩
theorem UQ:aN tab 142 UP:=Oc ZX rfl aJ [(225,aRl)] ⟨aJe,trivial⟩ fun a=>by kernel_rfl
def kM (p0:Field) (p1:Int):Option (Int×Int×Int):=(dA p0.points p1 ()).bind fun a0=>bif !a0.2 then some (-1,0,0) else (aM p0.points a0.1).bind fun a1=>some a1
def aJf:bR:=⟨aE.cons (aP.agg dV) (aE.one (aP.int .i64)),aP.agg (cY.row fU),fun a=>kM a.1 a.2,.pure,false⟩
theorem SC:aN tab 178 aJf:=Oc aHC rfl aJ [(142,UP)] ⟨UQ,trivial⟩ fun a=>by kernel_rfl
def D6 (p0:Bool×Int×Int) (p1:Int) (p2:Int):Option ((Int×Int)×Int):=bif decide (0<p0.2.1) then some ((0,0),16) else bif decide (9223372036854775807<p0.2.2) then some ((0,0),16) else bif decide (0<p1) then some ((0,0),16) else bif decide (9223372036854775807<p2) then some ((0,0),16) else bif p0.1 then some ((aA .i64 (0- (aA .i64 p0.2.2)),aA .i64 p2),0) else some ((aA .i64 p0.2.2,aA .i64 p2),0)
def aRm:bR:=⟨aE.cons (aP.agg (cY.row D5)) (aE.cons (aP.int .u64) (aE.one (aP.int .u64))),aP.tup (aE.cons (aP.agg (cY.row kA)) (aE.one (aP.int .i64))),fun a=>D6 a.1 a.2.1 a.2.2,.pure,false⟩
theorem aJg:aN tab 247 aRm:=Oc aIq rfl aJ [] trivial fun a=>by kernel_rfl
def CA (p0:Int) (p1:Int):Option ((Int×Int)×Int):=bif p1==0 then some ((0,0),26) else (nG p0).bind fun n0=>(nG p1).bind fun n1=>(A4 n0 n1).bind fun n2=>(nG p0).bind fun n3=>bif n2==0 then none else (nG p1).bind fun n4=>bif n2==0 then none else (D6 (!((decide (p0<0))==(decide (p1<0))),0,aA .u64 (Int.tdiv n3 n2)) 0 (aA .u64 (Int.tdiv n4 n2))).bind fun a5=>some a5
def aRn:bR:=⟨aE.cons (aP.int .i64) (aE.one (aP.int .i64)),aP.tup (aE.cons (aP.agg (cY.row kA)) (aE.one (aP.int .i64))),fun a=>CA a.1 a.2,.pure,false⟩
theorem aJh:aN tab 207 aRn:=Oc aH1 rfl aJ [(129,aIU),(128,aPf),(247,aRm)] ⟨R4,Z6,aJg,trivial⟩ fun a=>by kernel_rfl
def D7 (p0:Int×Int×Int) (p1:Int×Int×Int):Option ((Int×Int)×Int):=(sO p0 p1 (0,1)).bind fun n0=>bif n0 !=0 then some ((0,0),n0) else bif p0.2.2==p1.2.2 then some ((0,0),6) else (CA (aA .i64 (p0.2.1-p1.2.1)) (aA .i64 (p1.2.2-p0.2.2))).bind fun a1=>some a1
def aRo:bR:=⟨aE.cons (aP.agg (cY.row fU)) (aE.one (aP.agg (cY.row fU))),aP.tup (aE.cons (aP.agg (cY.row kA)) (aE.one (aP.int .i64))),fun a=>D7 a.1 a.2,.pure,false⟩
theorem aJi:aN tab 158 aRo:=Oc aHt rfl aJ [(203,aI0),(207,aRn)] ⟨R6,aJh,trivial⟩ fun a=>by kernel_rfl
def wK (p0:Int×Int×Int) (p1:Int×Int×Int) (p2:Int×Int):Option ((Int×Int)×Bool×Int):=(sO p0 p1 p2).bind fun n0=>bif n0 !=0 then some ((0,0),false,n0) else (oB p1 p0 p2).bind fun n1=>bif decide (0<n1) then some (p2,true,0) else bif decide (p1.2.2<=p0.2.2) then some ((0,0),false,0) else (D7 p0 p1).bind fun a2=>some (a2.1,a2.2==0,a2.2)
def aRp:bR:=⟨aE.cons (aP.agg (cY.row fU)) (aE.cons (aP.agg (cY.row fU)) (aE.one (aP.agg (cY.row kA)))),aP.tup (aE.cons (aP.agg (cY.row kA)) (aE.cons aP.bool (aE.one (aP.int .i64)))),fun a=>wK a.1 a.2.1 a.2.2,.pure,false⟩
theorem aJj:aN tab 177 aRp:=Oc aHB rfl aJ [(203,aI0),(204,aPk),(158,aRo)] ⟨R6,aAa,aJi,trivial⟩ fun a=>by kernel_rfl
def sS (p0:Field) (p1:Int×Int) (p2:Int×Int):Option ((Int×Int)×Bool×Int):=(kM p0 p1.2).bind fun a0=>(kM p0 p1.1).bind fun a1=>(wK a0 a1 p2).bind fun a2=>some a2
def aJk:bR:=⟨aE.cons (aP.agg dV) (aE.cons (aP.agg (cY.row kA)) (aE.one (aP.agg (cY.row kA)))),aP.tup (aE.cons (aP.agg (cY.row kA)) (aE.cons aP.bool (aE.one (aP.int .i64)))),fun a=>sS a.1 a.2.1 a.2.2,.pure,false⟩
theorem SD:aN tab 116 aJk:=Oc aG4 rfl aJ [(178,aJf),(177,aRp)] ⟨SC,aJj,trivial⟩ fun a=>by kernel_rfl
def cR (s:Zt5):Option (bV Zt5 Zt8):=bif decide (s.2.2.2.1<s.2.2.1) then (aM s.2.1 s.2.2.2.1).bind fun a0=>(sS (Field.mk s.2.2.2.2.2.2.1) a0.2 (s.2.2.2.2.1,s.2.2.2.2.2.1)).bind fun a1=>bif a1.2.2 !=0 then some (.done (.done 8)) else bif !a1.2.1 then some (.next (s.1,s.2.1,s.2.2.1,aA .i64 (s.2.2.2.1+1),s.2.2.2.2)) else bif (Int.ofNat s.1.length)==0 then some (.done (.done 8)) else (aM s.1 0).bind fun a2=>bif a2.1 !=a0.1 then some (.done (.done 8)) else (aM s.1 0).bind fun a3=>bif decide (a3.2.1<0) then some (.done (.done 8)) else bif decide (200<=a3.2.1) then some (.done (.done 8)) else (aM s.2.2.2.2.2.2.2.2.2.2.2.2.2.1 a3.2.1).bind fun n4=>bif decide (n4<0) then some (.done (.done 8)) else (aM s.2.2.2.2.2.2.2.2.2.2.2.2.2.1 a3.2.1).bind fun n5=>(aM s.2.2.2.2.2.2.2.2.2.2.2.2.1 n5).bind fun a6=>bif !((a6.1==a1.1.1)&&((a6.2.1==a1.1.2)&&((a6.2.2.1==a0.1)&&((a6.2.2.2.1==a3.2.1)&&(a6.2.2.2.2==a3.2.2))))) then some (.done (.done 8)) else (iE s.1 1 (Int.ofNat s.1.length)).bind fun l7=>some (.next (l7,s.2.1,s.2.2.1,aA .i64 (s.2.2.2.1+1),s.2.2.2.2)) else bif decide (0<(Int.ofNat s.1.length)) then some (.done (.done 8)) else some (.done (.done 0))
def fP (s:aQI):Option Zt8:=match s with |(a,b,d,e,f,g,h,i,j,k,l,m,n,o)=>bif decide (b<a) then (aM o b).bind fun n0=>bif n0 !=0 then some (.done 8) else some (.next (a,aA .i64 (b+1),(d,e,f,g,h,i,j,k,l,m,n,o))) else bif (Int.ofNat m.length) !=200 then some (.done 8) else bif (Int.ofNat l.length) !=(Int.ofNat n.length) then some (.done 8) else aG cR (n,h,Int.ofNat h.length,0,d,e,f,g,h,i,j,k,l,m,n)
def gY (p0:aL):Option Int:=(eS p0.now).bind fun n0=>(fZ p0.field).bind fun n1=>(sP p0.certs).bind fun n2=>(kL p0.agenda).bind fun n3=>aG fP (Int.ofNat ([n0,n1,n2,n3].length),0,p0.now.1,p0.now.2,p0.field.points,p0.certs.next_,p0.certs.list,p0.agenda.slots.uses,p0.agenda.slots.used,p0.agenda.slots.free,p0.agenda.heap,p0.agenda.where_,p0.due,[n0,n1,n2,n3])
def c62:bR:=⟨aE.one (aP.agg dF),aP.int .i64,fun a=>gY a,.pure,false⟩
theorem J5:aN tab 62 c62:=Oc aOM rfl aJ [(72,c72),(85,c85),(114,aI4),(115,aBf),(116,aJk)] ⟨zS,J4,R8,IL,SD,trivial⟩ fun a=>by kernel_rfl
def kN (s:(hO×Int×Int×Int×Int)):Option (bV (hO×Int×Int×Int×Int) Int):=bif decide (s.2.2.1<s.2.1) then (aM s.1 s.2.2.1).bind fun a0=>bif (s.2.2.2.1==a0.1)&&(s.2.2.2.2==a0.2) then some (.done s.2.2.1) else some (.next (s.1,s.2.1,aA .i64 (s.2.2.1+1),s.2.2.2)) else some (.done (-1))
def rF (p0:List (Int×Int)) (p1:Int×Int):Option Int:=aG kN (p0,Int.ofNat p0.length,0,p1)
def aRq:bR:=⟨aE.cons (aP.sl kA) (aE.one (aP.agg (cY.row kA))),aP.int .i64,fun a=>rF a.1 a.2,.pure,false⟩
theorem aJl:aN tab 117 aRq:=Oc aG5 rfl aJ [] trivial fun a=>by kernel_rfl
def gA (p0:List (Int×Int)) (p1:Int×Int):Option Bool:=(rF p0 p1).bind fun n0=>some (decide (0<=n0))
def c64:bR:=⟨aE.cons (aP.sl kA) (aE.one (aP.agg (cY.row kA))),aP.bool,fun a=>gA a.1 a.2,.pure,false⟩
theorem XY:aN tab 64 c64:=Oc aOO rfl aJ [(117,aRq)] ⟨aJl,trivial⟩ fun a=>by kernel_rfl
def CB (p0:Int×Int×Int) (p1:Int):Option Int:=(fV p0.1 p1).bind fun n0=>some n0
def aRr:bR:=⟨aE.cons (aP.agg (cY.row fU)) (aE.one (aP.int .i64)),aP.int .i64,fun a=>CB a.1 a.2,.pure,false⟩
theorem aJm:aN tab 143 aRr:=Oc aHn rfl aJ [(144,XV)] ⟨FB,trivial⟩ fun a=>by kernel_rfl
def jS (s:R3):Option aIR:=bif decide (s.2.2.2.1<s.2.2.2.2) then (aM s.1 (aA .i64 (fN .u64 (aA .u64 (aA .i64 (s.2.2.2.1+s.2.2.2.2))) 1))).bind fun a0=>(CB a0 s.2.1).bind fun n1=>bif decide (n1<0) then some (.next (s.1,s.2.1,s.2.2.1,aA .i64 ((aA .i64 (fN .u64 (aA .u64 (aA .i64 (s.2.2.2.1+s.2.2.2.2))) 1))+1),s.2.2.2.2)) else some (.next (s.1,s.2.1,s.2.2.1,s.2.2.2.1,aA .i64 (fN .u64 (aA .u64 (aA .i64 (s.2.2.2.1+s.2.2.2.2))) 1))) else bif decide (s.2.2.2.1<s.2.2.1) then (aM s.1 s.2.2.2.1).bind fun a2=>(CB a2 s.2.1).bind fun n3=>some (.done (s.2.2.2.1,n3==0)) else some (.done (s.2.2.2.1,false))
def dD (p0:List (Int×Int×Int)) (p1:Int) (_:Unit):Option (Int×Bool):=aG jS (p0,p1,Int.ofNat p0.length,0,Int.ofNat p0.length)
def UR:bR:=⟨aE.cons (aP.sl fU) (aE.cons (aP.int .i64) (aE.one (aP.clo 143 aE.nil))),aP.tup (aE.cons (aP.int .i64) (aE.one aP.bool)),fun a=>dD a.1 a.2.1 a.2.2,.pure,false⟩
theorem US:aN tab 142 UR:=Oc ZX rfl aJ [(143,aRr)] ⟨aJm,trivial⟩ fun a=>by kernel_rfl
def GZ (p0:Field) (p1:Int):Option (Int×Bool):=(dD p0.points p1 ()).bind fun a0=>some a0
def c87:bR:=⟨aE.cons (aP.agg dV) (aE.one (aP.int .i64)),aP.tup (aE.cons (aP.int .i64) (aE.one aP.bool)),fun a=>GZ a.1 a.2,.pure,false⟩
theorem aPn:aN tab 87 c87:=Oc aO1 rfl aJ [(142,UR)] ⟨US,trivial⟩ fun a=>by kernel_rfl
def D8 (p0:Field) (p1:Int):Option (Int×Int):=(fZ p0).bind fun n0=>bif n0 !=0 then some (0,n0) else (GZ p0 p1).bind fun a1=>bif !a1.2 then some (0,6) else some (a1.1,0)
def c90:bR:=⟨aE.cons (aP.agg dV) (aE.one (aP.int .i64)),aP.tup (aE.cons (aP.int .i64) (aE.one (aP.int .i64))),fun a=>D8 a.1 a.2,.pure,false⟩
theorem aPo:aN tab 90 c90:=Oc aO3 rfl aJ [(85,c85),(87,c87)] ⟨J4,aPn,trivial⟩ fun a=>by kernel_rfl
def xL (p0:Field) (p1:Int):Option ((Int×Int×Int)×Int):=(D8 p0 p1).bind fun a0=>bif a0.2 !=0 then some ((0,0,0),a0.2) else (aM p0.points a0.1).bind fun a1=>some (a1,0)
def aRs:bR:=⟨aE.cons (aP.agg dV) (aE.one (aP.int .i64)),aP.tup (aE.cons (aP.agg (cY.row fU)) (aE.one (aP.int .i64))),fun a=>xL a.1 a.2,.pure,false⟩
theorem aJn:aN tab 166 aRs:=Oc aHw rfl aJ [(90,c90)] ⟨aPo,trivial⟩ fun a=>by kernel_rfl
def xM (p0:aL):Option aL:=(cA p0.field.points).bind fun l0=>(cA p0.certs.list).bind fun l1=>(cA p0.due).bind fun l2=>(cA p0.agenda.heap).bind fun l3=>(cA p0.agenda.where_).bind fun l4=>(cA p0.agenda.slots.uses).bind fun l5=>(cA p0.agenda.slots.used).bind fun l6=>(cA p0.agenda.slots.free).bind fun l7=>some (aL.mk p0.now (Field.mk l0) (bF.mk p0.certs.next_ l1) (aK.mk (aU.mk l5 l6 l7) l3 l4) l2)
def aRt:bR:=⟨aE.one (aP.agg dF),aP.agg dF,fun a=>xM a,.own,true⟩
def aK0:bR:=⟨aE.one (aP.agg dF),aP.agg dF,fun a=>xM a,.frz,false⟩
theorem aJo:aN tab 168 aRt:=Oc Z0 rfl aJ [(89,bR.clone fU),(193,bR.clone fU),(194,bR.clone fU),(195,bR.clone kU),(196,bR.clone ki),(197,bR.clone kb)] ⟨B6,A3,IJ,xI,rA,xH,trivial⟩ fun a=>by kernel_rfl
theorem aC3:aN tab 168 aK0:=Oc Z0 rfl aJ [(89,bR.clone fU),(193,bR.clone fU),(194,bR.clone fU),(195,bR.clone kU),(196,bR.clone ki),(197,bR.clone kb)] ⟨B6,A3,IJ,xI,rA,xH,trivial⟩ fun a=>by kernel_rfl
def uT (p0:Int×Int×Int) (p1:Int):Option Int:=(fV p0.1 p1).bind fun n0=>some n0
def aRu:bR:=⟨aE.cons (aP.agg (cY.row fU)) (aE.one (aP.int .i64)),aP.int .i64,fun a=>uT a.1 a.2,.pure,false⟩
theorem aJp:aN tab 267 aRu:=Oc aIA rfl aJ [(144,XV)] ⟨FB,trivial⟩ fun a=>by kernel_rfl
def aS (s:R3):Option aIR:=bif decide (s.2.2.2.1<s.2.2.2.2) then (aM s.1 (aA .i64 (fN .u64 (aA .u64 (aA .i64 (s.2.2.2.1+s.2.2.2.2))) 1))).bind fun a0=>(uT a0 s.2.1).bind fun n1=>bif decide (n1<0) then some (.next (s.1,s.2.1,s.2.2.1,aA .i64 ((aA .i64 (fN .u64 (aA .u64 (aA .i64 (s.2.2.2.1+s.2.2.2.2))) 1))+1),s.2.2.2.2)) else some (.next (s.1,s.2.1,s.2.2.1,s.2.2.2.1,aA .i64 (fN .u64 (aA .u64 (aA .i64 (s.2.2.2.1+s.2.2.2.2))) 1))) else bif decide (s.2.2.2.1<s.2.2.1) then (aM s.1 s.2.2.2.1).bind fun a2=>(uT a2 s.2.1).bind fun n3=>some (.done (s.2.2.2.1,n3==0)) else some (.done (s.2.2.2.1,false))
def aT (p0:List (Int×Int×Int)) (p1:Int) (_:Unit):Option (Int×Bool):=aG aS (p0,p1,Int.ofNat p0.length,0,Int.ofNat p0.length)
def UT:bR:=⟨aE.cons (aP.sl fU) (aE.cons (aP.int .i64) (aE.one (aP.clo 267 aE.nil))),aP.tup (aE.cons (aP.int .i64) (aE.one aP.bool)),fun a=>aT a.1 a.2.1 a.2.2,.pure,false⟩
theorem UU:aN tab 266 UT:=Oc aIz rfl aJ [(267,aRu)] ⟨aJp,trivial⟩ fun a=>by kernel_rfl
def J6 (p0:bF) (p1:Int):Option (Int×Int):=(sP p0).bind fun n0=>bif n0 !=0 then some (0,n0) else (aT p0.list p1 ()).bind fun a1=>bif !a1.2 then some (0,6) else some (a1.1,0)
def aRv:bR:=⟨aE.cons (aP.agg qZ) (aE.one (aP.int .i64)),aP.tup (aE.cons (aP.int .i64) (aE.one (aP.int .i64))),fun a=>J6 a.1 a.2,.pure,false⟩
theorem aJq:aN tab 228 aRv:=Oc aIf rfl aJ [(114,aI4),(266,UT)] ⟨R8,UU,trivial⟩ fun a=>by kernel_rfl
def eM (a:aCW):Option (Nat×Nat×cQ):=bif (((decide (0<=a.1))&&(decide (a.1<=a.2.1)))&&(decide (a.2.1<=(Int.ofNat a.2.2.length))))&&(decide ((Int.ofNat a.2.2.length)<=(Int.ofNat a.2.2.length))) then bif a.1==a.2.1 then bif a.2.2.length==a.2.2.length then some (a.2.2.length,a.2.2.length,a.2.2) else none else (iE a.2.2 0 a.1).bind fun _=>bif ((decide (0<=a.2.1))&&(decide (a.2.1<=(Int.ofNat a.2.2.length))))&&(decide ((Int.ofNat a.2.2.length)<=(Int.ofNat a.2.2.length))) then bif ((a.2.2.drop (0+a.2.1.toNat)).take (((Int.ofNat a.2.2.length).toNat) -a.2.1.toNat)).isEmpty then bif ((decide (0<=(Int.ofNat a.1.toNat)))&&(decide ((Int.ofNat a.1.toNat)<=(Int.ofNat a.2.2.length))))&&(decide ((Int.ofNat a.2.2.length)<=(Int.ofNat a.2.2.length))) then bif Nat.beq (((Int.ofNat a.2.2.length).toNat) - ((Int.ofNat a.1.toNat).toNat)) 0 then bif a.2.2.length==a.2.2.length then some (a.1.toNat,a.2.2.length,a.2.2) else none else bif (Nat.ble ((0+((Int.ofNat a.1.toNat).toNat))+(((Int.ofNat a.2.2.length).toNat) - ((Int.ofNat a.1.toNat).toNat))) a.2.2.length)&&(!false) then bif ((lR a.2.2 (0+((Int.ofNat a.1.toNat).toNat)) (List.replicate (((Int.ofNat a.2.2.length).toNat) - ((Int.ofNat a.1.toNat).toNat)) (0,0,0))).length)==a.2.2.length then some (a.1.toNat,a.2.2.length,lR a.2.2 (0+((Int.ofNat a.1.toNat).toNat)) (List.replicate (((Int.ofNat a.2.2.length).toNat) - ((Int.ofNat a.1.toNat).toNat)) (0,0,0))) else none else none else none else bif Nat.ble (a.1.toNat+(((a.2.2.drop (0+a.2.1.toNat)).take (((Int.ofNat a.2.2.length).toNat) -a.2.1.toNat)).length)) a.2.2.length then bif (Nat.ble (a.1.toNat+(((a.2.2.drop (0+a.2.1.toNat)).take (((Int.ofNat a.2.2.length).toNat) -a.2.1.toNat)).length)) a.2.2.length)&&(!false) then bif ((decide (0<=(Int.ofNat (a.1.toNat+(((a.2.2.drop (0+a.2.1.toNat)).take (((Int.ofNat a.2.2.length).toNat) -a.2.1.toNat)).length)))))&&(decide ((Int.ofNat (a.1.toNat+(((a.2.2.drop (0+a.2.1.toNat)).take (((Int.ofNat a.2.2.length).toNat) -a.2.1.toNat)).length)))<=(Int.ofNat a.2.2.length))))&&(decide ((Int.ofNat a.2.2.length)<=(Int.ofNat a.2.2.length))) then bif Nat.beq (((Int.ofNat a.2.2.length).toNat) - ((Int.ofNat (a.1.toNat+(((a.2.2.drop (0+a.2.1.toNat)).take (((Int.ofNat a.2.2.length).toNat) -a.2.1.toNat)).length))).toNat)) 0 then bif ((lR a.2.2 a.1.toNat ((a.2.2.drop (0+a.2.1.toNat)).take (((Int.ofNat a.2.2.length).toNat) -a.2.1.toNat))).length)==a.2.2.length then some (a.1.toNat+(((a.2.2.drop (0+a.2.1.toNat)).take (((Int.ofNat a.2.2.length).toNat) -a.2.1.toNat)).length),a.2.2.length,lR a.2.2 a.1.toNat ((a.2.2.drop (0+a.2.1.toNat)).take (((Int.ofNat a.2.2.length).toNat) -a.2.1.toNat))) else none else bif (Nat.ble ((0+((Int.ofNat (a.1.toNat+(((a.2.2.drop (0+a.2.1.toNat)).take (((Int.ofNat a.2.2.length).toNat) -a.2.1.toNat)).length))).toNat))+(((Int.ofNat a.2.2.length).toNat) - ((Int.ofNat (a.1.toNat+(((a.2.2.drop (0+a.2.1.toNat)).take (((Int.ofNat a.2.2.length).toNat) -a.2.1.toNat)).length))).toNat))) ((lR a.2.2 a.1.toNat ((a.2.2.drop (0+a.2.1.toNat)).take (((Int.ofNat a.2.2.length).toNat) -a.2.1.toNat))).length))&&(!false) then bif ((lR (lR a.2.2 a.1.toNat ((a.2.2.drop (0+a.2.1.toNat)).take (((Int.ofNat a.2.2.length).toNat) -a.2.1.toNat))) (0+((Int.ofNat (a.1.toNat+(((a.2.2.drop (0+a.2.1.toNat)).take (((Int.ofNat a.2.2.length).toNat) -a.2.1.toNat)).length))).toNat)) (List.replicate (((Int.ofNat a.2.2.length).toNat) - ((Int.ofNat (a.1.toNat+(((a.2.2.drop (0+a.2.1.toNat)).take (((Int.ofNat a.2.2.length).toNat) -a.2.1.toNat)).length))).toNat)) (0,0,0))).length)==a.2.2.length then some (a.1.toNat+(((a.2.2.drop (0+a.2.1.toNat)).take (((Int.ofNat a.2.2.length).toNat) -a.2.1.toNat)).length),a.2.2.length,lR (lR a.2.2 a.1.toNat ((a.2.2.drop (0+a.2.1.toNat)).take (((Int.ofNat a.2.2.length).toNat) -a.2.1.toNat))) (0+((Int.ofNat (a.1.toNat+(((a.2.2.drop (0+a.2.1.toNat)).take (((Int.ofNat a.2.2.length).toNat) -a.2.1.toNat)).length))).toNat)) (List.replicate (((Int.ofNat a.2.2.length).toNat) - ((Int.ofNat (a.1.toNat+(((a.2.2.drop (0+a.2.1.toNat)).take (((Int.ofNat a.2.2.length).toNat) -a.2.1.toNat)).length))).toNat)) (0,0,0))) else none else none else none else none else none else none else none
def aC4:fL:=⟨[.i,.i,.l [.i .i64,.i .i64,.i .i64]],[.own 0 false,.int .i64 0,.int .i64 0],[.arr [.i .i64,.i .i64,.i .i64] []],[.n,.n,.l [.i .i64,.i .i64,.i .i64]],.pre 0 0 0 false,[.arr [.i .i64,.i .i64,.i .i64] []],fun a=>eM a⟩
theorem aBg:nR tab 229 aC4:=nR.of aIg (wd:=true) (cx:=(wI aJ [] [] [] [])) (pZ.make trivial trivial trivial) (fun a=>by kernel_rfl)
def yV (p0:bF) (p1:Int):Option (bF×(Int×Int)×Int):=(J6 p0 p1).bind fun a0=>bif a0.2 !=0 then some (bF.mk 0 [],(0,0),a0.2) else (cA p0.list).bind fun l1=>(eM (a0.1,aA .i64 (a0.1+1),l1)).bind fun a2=>(aM p0.list a0.1).bind fun a3=>some (bF.mk p0.next_ (a2.2.2.take a2.1),a3.2,0)
def aRw:bR:=⟨aE.cons (aP.agg qZ) (aE.one (aP.int .i64)),aP.tup (aE.cons (aP.agg qZ) (aE.cons (aP.agg (cY.row kA)) (aE.one (aP.int .i64)))),fun a=>yV a.1 a.2,.frz,false⟩
theorem aJr:aN tab 189 aRw:=aN.of aHM (cx:=(wI aJ [(228,aRv),(193,bR.clone fU)] [(229,aC4)] [] [])) rfl (pZ.make ⟨aJq,A3,trivial⟩ ⟨aBg,trivial⟩ trivial) (fun a=>by kernel_rfl)
def kW (p0:aL):Option aL:=(cA p0.field.points).bind fun l0=>(cA p0.certs.list).bind fun l1=>(cA p0.due).bind fun l2=>(cA p0.agenda.heap).bind fun l3=>(cA p0.agenda.where_).bind fun l4=>(cA p0.agenda.slots.uses).bind fun l5=>(cA p0.agenda.slots.used).bind fun l6=>(cA p0.agenda.slots.free).bind fun l7=>some (aL.mk p0.now (Field.mk l0) (bF.mk p0.certs.next_ l1) (aK.mk (aU.mk l5 l6 l7) l3 l4) l2)
def aC5:bR:=⟨aE.one (aP.agg dF),aP.agg dF,fun a=>kW a,.own,true⟩
def UV:bR:=⟨aE.one (aP.agg dF),aP.agg dF,fun a=>kW a,.frz,false⟩
theorem L1:aN tab 136 aC5:=Oc ZW rfl aJ [(89,bR.clone fU),(193,bR.clone fU),(194,bR.clone fU),(195,bR.clone kU),(196,bR.clone ki),(197,bR.clone kb)] ⟨B6,A3,IJ,xI,rA,xH,trivial⟩ fun a=>by kernel_rfl
theorem IM:aN tab 136 UV:=Oc ZW rfl aJ [(89,bR.clone fU),(193,bR.clone fU),(194,bR.clone fU),(195,bR.clone kU),(196,bR.clone ki),(197,bR.clone kb)] ⟨B6,A3,IJ,xI,rA,xH,trivial⟩ fun a=>by kernel_rfl
def zW (p0:Int×Int×Int) (p1:Int):Option Int:=(fV p0.1 p1).bind fun n0=>some n0
def aRx:bR:=⟨aE.cons (aP.agg (cY.row fU)) (aE.one (aP.int .i64)),aP.int .i64,fun a=>zW a.1 a.2,.pure,false⟩
theorem aJs:aN tab 231 aRx:=Oc aIi rfl aJ [(144,XV)] ⟨FB,trivial⟩ fun a=>by kernel_rfl
def jY (s:R3):Option aIR:=bif decide (s.2.2.2.1<s.2.2.2.2) then (aM s.1 (aA .i64 (fN .u64 (aA .u64 (aA .i64 (s.2.2.2.1+s.2.2.2.2))) 1))).bind fun a0=>(zW a0 s.2.1).bind fun n1=>bif decide (n1<0) then some (.next (s.1,s.2.1,s.2.2.1,aA .i64 ((aA .i64 (fN .u64 (aA .u64 (aA .i64 (s.2.2.2.1+s.2.2.2.2))) 1))+1),s.2.2.2.2)) else some (.next (s.1,s.2.1,s.2.2.1,s.2.2.2.1,aA .i64 (fN .u64 (aA .u64 (aA .i64 (s.2.2.2.1+s.2.2.2.2))) 1))) else bif decide (s.2.2.2.1<s.2.2.1) then (aM s.1 s.2.2.2.1).bind fun a2=>(zW a2 s.2.1).bind fun n3=>some (.done (s.2.2.2.1,n3==0)) else some (.done (s.2.2.2.1,false))
def dE (p0:List (Int×Int×Int)) (p1:Int) (_:Unit):Option (Int×Bool):=aG jY (p0,p1,Int.ofNat p0.length,0,Int.ofNat p0.length)
def UW:bR:=⟨aE.cons (aP.sl fU) (aE.cons (aP.int .i64) (aE.one (aP.clo 231 aE.nil))),aP.tup (aE.cons (aP.int .i64) (aE.one aP.bool)),fun a=>dE a.1 a.2.1 a.2.2,.pure,false⟩
theorem UX:aN tab 230 UW:=Oc aIh rfl aJ [(231,aRx)] ⟨aJs,trivial⟩ fun a=>by kernel_rfl
def qK (p0:List (Int×Int×Int)) (p1:Int):Option (Int×Bool):=(dE p0 p1 ()).bind fun a0=>some a0
def aPp:bR:=⟨aE.cons (aP.sl fU) (aE.one (aP.int .i64)),aP.tup (aE.cons (aP.int .i64) (aE.one aP.bool)),fun a=>qK a.1 a.2,.pure,false⟩
theorem aAc:aN tab 190 aPp:=Oc aHN rfl aJ [(230,UW)] ⟨UX,trivial⟩ fun a=>by kernel_rfl
def D9 (p0:aU) (p1:Int×Int):Option (Bool×Int):=(sQ p0).bind fun n0=>bif n0 !=0 then some (false,n0) else bif decide (0<=p1.1) then bif decide (p1.1<(Int.ofNat p0.used.length)) then (aM p0.used p1.1).bind fun b1=>bif b1 then (aM p0.uses p1.1).bind fun n2=>some (n2==p1.2,0) else some (false,0) else some (false,0) else some (false,0)
def aPq:bR:=⟨aE.cons (aP.agg pQ) (aE.one (aP.agg (cY.row kA))),aP.tup (aE.cons aP.bool (aE.one (aP.int .i64))),fun a=>D9 a.1 a.2,.pure,false⟩
theorem aAd:aN tab 268 aPq:=Oc aIB rfl aJ [(175,aI7)] ⟨R9,trivial⟩ fun a=>by kernel_rfl
def rG (p0:aK) (p1:Int×Int):Option (Int×Int):=(kL p0).bind fun n0=>bif n0 !=0 then some (0,n0) else (D9 p0.slots p1).bind fun a1=>bif a1.2 !=0 then some (0,6) else bif !a1.1 then some (0,6) else (aM p0.where_ p1.1).bind fun n2=>some (n2,0)
def aPr:bR:=⟨aE.cons (aP.agg hH) (aE.one (aP.agg (cY.row kA))),aP.tup (aE.cons (aP.int .i64) (aE.one (aP.int .i64))),fun a=>rG a.1 a.2,.pure,false⟩
theorem aAe:aN tab 232 aPr:=Oc aIj rfl aJ [(115,aBf),(268,aPq)] ⟨IL,aAd,trivial⟩ fun a=>by kernel_rfl
def vR (p0:List Int) (p1:Int):Option (List Int):=(cA p0).bind fun l0=>(bL l0 [p1]).bind fun l1=>some l1
def aRy:bR:=⟨aE.cons (aP.sl ki) (aE.one (aP.int .i64)),aP.sl ki,fun a=>vR a.1 a.2,.frz,false⟩
theorem aJt:aN tab 287 aRy:=Oc aIJ rfl aJ [(293,bR.clone ki)] ⟨UN,trivial⟩ fun a=>by kernel_rfl
def FC (p0:aU) (p1:Int×Int):Option (aU×Int):=(D9 p0 p1).bind fun a0=>bif a0.2 !=0 then some (aU.mk [] [] [],a0.2) else bif !a0.1 then some (aU.mk [] [] [],6) else (cA p0.uses).bind fun l1=>(cA p0.used).bind fun l2=>(vR p0.free p1.1).bind fun l3=>(aM l2 p1.1).bind fun _=>some (aU.mk l1 (cD l2 p1.1 false) l3,0)
def aRz:bR:=⟨aE.cons (aP.agg pQ) (aE.one (aP.agg (cY.row kA))),aP.tup (aE.cons (aP.agg pQ) (aE.one (aP.int .i64))),fun a=>FC a.1 a.2,.frz,false⟩
theorem aJu:aN tab 269 aRz:=aN.of aIC (cx:=(wI aJ [(268,aPq),(196,bR.clone ki),(197,bR.clone kb),(287,aRy)] [] [(286,aCS)] [])) rfl (pZ.make ⟨aAd,rA,xH,aJt,trivial⟩ trivial ⟨Z4,trivial⟩) (fun a=>by kernel_rfl)
def bW (a:aIN):Option aBd:=(aM (a.2.2.2.2.2.2.2.2.2.2.2.1.take a.2.2.2.1) a.2.2.2.2.2.1).bind fun _=>(aM a.2.2.2.2.2.2.2.2.2.2.2.2 a.2.2.2.2.2.2.2.2.2.1).bind fun _=>bif ((cD a.2.2.2.2.2.2.2.2.2.2.2.1 a.2.2.2.2.2.1 (a.2.2.2.2.2.2.1,a.2.2.2.2.2.2.2.1,a.2.2.2.2.2.2.2.2.1,a.2.2.2.2.2.2.2.2.2.1,a.2.2.2.2.2.2.2.2.2.2.1)).length)==a.2.2.2.2.2.2.2.2.2.2.2.1.length then bif ((cD a.2.2.2.2.2.2.2.2.2.2.2.2 a.2.2.2.2.2.2.2.2.2.1 a.2.2.2.2.2.1).length)==a.2.2.2.2.2.2.2.2.2.2.2.2.length then some (cD a.2.2.2.2.2.2.2.2.2.2.2.1 a.2.2.2.2.2.1 (a.2.2.2.2.2.2.1,a.2.2.2.2.2.2.2.1,a.2.2.2.2.2.2.2.2.1,a.2.2.2.2.2.2.2.2.2.1,a.2.2.2.2.2.2.2.2.2.2.1),cD a.2.2.2.2.2.2.2.2.2.2.2.2 a.2.2.2.2.2.2.2.2.2.1 a.2.2.2.2.2.1) else none else none
def XZ:fL:=⟨[.l [.i .i64],.l [.b],.l [.i .i64],.n,.n,.i,.i,.i,.i,.i,.i,.l [.i .i64,.i .i64,.i .i64,.i .i64,.i .i64],.l [.i .i64]],[.agg [.sl [.i .i64] [],.sl [.b] [],.sl [.i .i64] [],.pre 0 0 0 false,.own 1 false],.int .i64 0,.agg [.int .i64 0,.int .i64 0,.int .i64 0,.int .i64 0,.int .i64 0]],[.arr [.i .i64,.i .i64,.i .i64,.i .i64,.i .i64] [],.arr [.i .i64] []],[.l [.i .i64,.i .i64,.i .i64,.i .i64,.i .i64],.l [.i .i64]],.tup [],[.arr [.i .i64,.i .i64,.i .i64,.i .i64,.i .i64] [],.arr [.i .i64] []],fun a=>bW a⟩
theorem QI:nR tab 288 XZ:=nR.of Z5 (wd:=false) (cx:=(wI aJ [] [] [] [])) (pZ.make trivial trivial trivial) (fun a=>by kernel_rfl)
def gM (c0:aIN) (s:aQV):Option (bV aQV aQL):=match s with |(a,b,d,e,f,g,h,i,j,k,l,m,n,o)=>bif decide (b<(Int.ofNat i)) then bif decide ((aA .i64 (b+1))<(Int.ofNat i)) then (aM (d.take i) (aA .i64 (b+1))).bind fun a0=>(aM (d.take i) b).bind fun a1=>(cE a0 a1).bind fun n2=>bif decide (n2<0) then (aM (d.take i) (aA .i64 (b+1))).bind fun a3=>(cE a3 (k,l,m,n,o)).bind fun n4=>bif decide (0<=n4) then (bW (f,g,h,i,j,a,k,l,m,n,o,d,e)).bind fun a5=>bif a5.1.length==c0.2.2.2.2.2.2.2.2.2.2.2.1.length then bif a5.2.length==c0.2.2.2.2.2.2.2.2.2.2.2.2.length then some (.done (.done a5)) else none else none else (aM (d.take i) (aA .i64 (b+1))).bind fun a6=>(bW (f,g,h,i,j,a,a6.1,a6.2.1,a6.2.2.1,a6.2.2.2.1,a6.2.2.2.2,d,e)).bind fun a7=>some (.next (aA .i64 (b+1),aA .i64 ((aA .i64 (2*(aA .i64 (b+1))))+1),a7.1,a7.2,(f,g,h,i,j,k,l,m,n,o))) else (aM (d.take i) b).bind fun a8=>(cE a8 (k,l,m,n,o)).bind fun n9=>bif decide (0<=n9) then (bW (f,g,h,i,j,a,k,l,m,n,o,d,e)).bind fun a10=>bif a10.1.length==c0.2.2.2.2.2.2.2.2.2.2.2.1.length then bif a10.2.length==c0.2.2.2.2.2.2.2.2.2.2.2.2.length then some (.done (.done a10)) else none else none else (aM (d.take i) b).bind fun a11=>(bW (f,g,h,i,j,a,a11.1,a11.2.1,a11.2.2.1,a11.2.2.2.1,a11.2.2.2.2,d,e)).bind fun a12=>some (.next (b,aA .i64 ((aA .i64 (2*b))+1),a12.1,a12.2,(f,g,h,i,j,k,l,m,n,o))) else (aM (d.take i) b).bind fun a13=>(cE a13 (k,l,m,n,o)).bind fun n14=>bif decide (0<=n14) then (bW (f,g,h,i,j,a,k,l,m,n,o,d,e)).bind fun a15=>bif a15.1.length==c0.2.2.2.2.2.2.2.2.2.2.2.1.length then bif a15.2.length==c0.2.2.2.2.2.2.2.2.2.2.2.2.length then some (.done (.done a15)) else none else none else (aM (d.take i) b).bind fun a16=>(bW (f,g,h,i,j,a,a16.1,a16.2.1,a16.2.2.1,a16.2.2.2.1,a16.2.2.2.2,d,e)).bind fun a17=>some (.next (b,aA .i64 ((aA .i64 (2*b))+1),a17.1,a17.2,(f,g,h,i,j,k,l,m,n,o))) else (bW (f,g,h,i,j,a,k,l,m,n,o,d,e)).bind fun a18=>bif a18.1.length==c0.2.2.2.2.2.2.2.2.2.2.2.1.length then bif a18.2.length==c0.2.2.2.2.2.2.2.2.2.2.2.2.length then some (.done (.done a18)) else none else none
def eZ (c0:aIN) (s:aQK):Option aQL:=bif decide (0<s.1) then (aM (s.2.1.take s.2.2.2.2.2.2.1) (aA .i64 (Int.tdiv (aA .i64 (s.1-1)) 2))).bind fun a0=>(cE s.2.2.2.2.2.2.2.2 a0).bind fun n1=>bif decide (n1<0) then (aM (s.2.1.take s.2.2.2.2.2.2.1) (aA .i64 (Int.tdiv (aA .i64 (s.1-1)) 2))).bind fun a2=>(bW (s.2.2.2.1,s.2.2.2.2.1,s.2.2.2.2.2.1,s.2.2.2.2.2.2.1,s.2.2.2.2.2.2.2.1,s.1,a2.1,a2.2.1,a2.2.2.1,a2.2.2.2.1,a2.2.2.2.2,s.2.1,s.2.2.1)).bind fun a3=>some (.next (aA .i64 (Int.tdiv (aA .i64 (s.1-1)) 2),a3.1,a3.2,s.2.2.2)) else aG (gM c0) (s.1,aA .i64 ((aA .i64 (2*s.1))+1),s.2) else aG (gM c0) (s.1,aA .i64 ((aA .i64 (2*s.1))+1),s.2)
def lG (a:aIN):Option aBd:=aG (eZ a) (a.2.2.2.2.2.1,a.2.2.2.2.2.2.2.2.2.2.2.1,a.2.2.2.2.2.2.2.2.2.2.2.2,a.1,a.2.1,a.2.2.1,a.2.2.2.1,a.2.2.2.2.1,a.2.2.2.2.2.2.1,a.2.2.2.2.2.2.2.1,a.2.2.2.2.2.2.2.2.1,a.2.2.2.2.2.2.2.2.2.1,a.2.2.2.2.2.2.2.2.2.2.1)
def SF:fL:=⟨[.l [.i .i64],.l [.b],.l [.i .i64],.n,.n,.i,.i,.i,.i,.i,.i,.l [.i .i64,.i .i64,.i .i64,.i .i64,.i .i64],.l [.i .i64]],[.agg [.sl [.i .i64] [],.sl [.b] [],.sl [.i .i64] [],.pre 0 0 0 false,.own 1 false],.int .i64 0,.agg [.int .i64 0,.int .i64 0,.int .i64 0,.int .i64 0,.int .i64 0]],[.arr [.i .i64,.i .i64,.i .i64,.i .i64,.i .i64] [],.arr [.i .i64] []],[.l [.i .i64,.i .i64,.i .i64,.i .i64,.i .i64],.l [.i .i64]],.tup [],[.arr [.i .i64,.i .i64,.i .i64,.i .i64,.i .i64] [],.arr [.i .i64] []],fun a=>lG a⟩
theorem J7:nR tab 271 SF:=nR.of Z3 (wd:=false) (cx:=(wI aJ [(176,aJd)] [(288,XZ)] [] [])) (pZ.make ⟨SA,trivial⟩ ⟨QI,trivial⟩ trivial) (fun a=>by kernel_rfl)
def tT (p0:aK) (p1:Int):Option (aK×(Int×Int×Int×Int×Int)×Int):=(aM p0.heap p1).bind fun a0=>(FC p0.slots a0.2.2.2).bind fun a1=>bif a1.2 !=0 then some (aK.mk (aU.mk [] [] []) [] [],(0,0,0,0,0),a1.2) else (cA p0.heap).bind fun l2=>(cA p0.where_).bind fun l3=>(aM l2 (aA .i64 ((Int.ofNat l2.length) -1))).bind fun a4=>(iE l2 0 (aA .i64 ((Int.ofNat l2.length) -1))).bind fun _=>(aM l3 a0.2.2.2.1).bind fun _=>bif decide (p1<(aA .i64 ((Int.ofNat l2.length) -1))) then (lG (a1.1.uses,a1.1.used,a1.1.free,(aA .i64 ((Int.ofNat l2.length) -1)).toNat,l2.length,p1,a4.1,a4.2.1,a4.2.2.1,a4.2.2.2.1,a4.2.2.2.2,l2,cD l3 a0.2.2.2.1 (-1))).bind fun a7=>some (aK.mk a1.1 (a7.1.take ((aA .i64 ((Int.ofNat l2.length) -1)).toNat)) a7.2,a0,0) else some (aK.mk a1.1 (l2.take ((aA .i64 ((Int.ofNat l2.length) -1)).toNat)) (cD l3 a0.2.2.2.1 (-1)),a0,0)
def aRA:bR:=⟨aE.cons (aP.agg hH) (aE.one (aP.int .i64)),aP.tup (aE.cons (aP.agg hH) (aE.cons (aP.agg (cY.row kU)) (aE.one (aP.int .i64)))),fun a=>tT a.1 a.2,.frz,false⟩
theorem aJv:aN tab 233 aRA:=aN.of aIk (cx:=(wI aJ [(269,aRz),(195,bR.clone kU),(196,bR.clone ki)] [(271,SF)] [(270,aBb)] [])) rfl (pZ.make ⟨aJu,xI,rA,trivial⟩ ⟨J7,trivial⟩ ⟨R2,trivial⟩) (fun a=>by kernel_rfl)
def nH (p0:aK) (p1:Int×Int):Option (aK×(Int×Int×Int×Int×Int)×Int):=(rG p0 p1).bind fun a0=>bif a0.2 !=0 then some (aK.mk (aU.mk [] [] []) [] [],(0,0,0,0,0),a0.2) else (tT p0 a0.1).bind fun a1=>some a1
def aPs:bR:=⟨aE.cons (aP.agg hH) (aE.one (aP.agg (cY.row kA))),aP.tup (aE.cons (aP.agg hH) (aE.cons (aP.agg (cY.row kU)) (aE.one (aP.int .i64)))),fun a=>nH a.1 a.2,.frz,false⟩
theorem aAf:aN tab 191 aPs:=Oc aHO rfl aJ [(232,aPr),(233,aRA)] ⟨aAe,aJv,trivial⟩ fun a=>by kernel_rfl
def mN (a:aCW):Option (Nat×Nat×cQ):= eM a
def aC6:fL:=⟨[.i,.i,.l [.i .i64,.i .i64,.i .i64]],[.own 0 false,.int .i64 0,.int .i64 0],[.arr [.i .i64,.i .i64,.i .i64] []],[.n,.n,.l [.i .i64,.i .i64,.i .i64]],.pre 0 0 0 false,[.arr [.i .i64,.i .i64,.i .i64] []],fun a=>mN a⟩
theorem aBh:nR tab 192 aC6:=nR.of aHP (wd:=true) (cx:=(wI aJ [] [] [] [])) (pZ.make trivial trivial trivial) (fun a=>by kernel_rfl)
def mO (p0:aL) (p1:Int):Option (aL×(Int×Int)×Int):=(yV p0.certs p1).bind fun a0=>bif a0.2.2 !=0 then some (kV,a0.2) else (kW p0).bind fun r1=>(qK p0.due p1).bind fun a2=>bif a2.2 then (aM p0.due a2.1).bind fun a3=>(nH p0.agenda a3.2).bind fun a4=>bif a4.2.2 !=0 then some (kV,a0.2.1,a4.2.2) else (mN (a2.1,aA .i64 (a2.1+1),r1.due)).bind fun a5=>some (aL.mk r1.now r1.field a0.1 a4.1 (a5.2.2.take a5.1),a0.2.1,0) else some (aL.mk r1.now r1.field a0.1 r1.agenda r1.due,a0.2.1,0)
def aPt:bR:=⟨aE.cons (aP.agg dF) (aE.one (aP.int .i64)),aP.tup (aE.cons (aP.agg dF) (aE.cons (aP.agg (cY.row kA)) (aE.one (aP.int .i64)))),fun a=>mO a.1 a.2,.frz,false⟩
theorem aAg:aN tab 135 aPt:=aN.of aHl (cx:=(wI aJ [(189,aRw),(136,aC5),(136,UV),(190,aPp),(191,aPs)] [(192,aC6)] [] [])) rfl (pZ.make ⟨aJr,L1,IM,aAc,aAf,trivial⟩ ⟨aBh,trivial⟩ trivial) (fun a=>by kernel_rfl)
def wL (p0:aL) (p1:Int):Option (aL×Int):=(gY p0).bind fun n0=>bif n0 !=0 then some (kV,n0) else (mO p0 p1).bind fun a1=>some (a1.1,a1.2.2)
def aRB:bR:=⟨aE.cons (aP.agg dF) (aE.one (aP.int .i64)),aP.tup (aE.cons (aP.agg dF) (aE.one (aP.int .i64))),fun a=>wL a.1 a.2,.frz,false⟩
theorem aJw:aN tab 211 aRB:=Oc aH4 rfl aJ [(62,c62),(135,aPt)] ⟨J5,aAg,trivial⟩ fun a=>by kernel_rfl
def jW (s:(cQ×cQ×Int×Int)):Option (bV (cQ×cQ×Int×Int) Bool):=bif decide (s.2.2.2<s.2.2.1) then (aM s.1 s.2.2.2).bind fun a0=>(aM s.2.1 s.2.2.2).bind fun a1=>bif !((a0.1==a1.1)&&((a0.2.1==a1.2.1)&&(a0.2.2==a1.2.2))) then some (.done false) else some (.next (s.1,s.2.1,s.2.2.1,aA .i64 (s.2.2.2+1))) else some (.done true)
def mP (p0:List (Int×Int×Int)) (p1:List (Int×Int×Int)):Option Bool:=bif (Int.ofNat p0.length) !=(Int.ofNat p1.length) then some false else aG jW (p0,p1,Int.ofNat p0.length,0)
def aRC:bR:=⟨aE.cons (aP.sl fU) (aE.one (aP.sl fU)),aP.bool,fun a=>mP a.1 a.2,.pure,false⟩
theorem aJx:aN tab 212 aRC:=Oc aH5 rfl aJ [] trivial fun a=>by kernel_rfl
def bX (a:aIO):Option aBd:=(aM a.2.2.2.2.2.2.2.2.2.1 a.2.2.2.1).bind fun _=>(aM a.2.2.2.2.2.2.2.2.2.2 a.2.2.2.2.2.2.2.1).bind fun _=>bif ((cD a.2.2.2.2.2.2.2.2.2.1 a.2.2.2.1 (a.2.2.2.2.1,a.2.2.2.2.2.1,a.2.2.2.2.2.2.1,a.2.2.2.2.2.2.2.1,a.2.2.2.2.2.2.2.2.1)).length)==a.2.2.2.2.2.2.2.2.2.1.length then bif ((cD a.2.2.2.2.2.2.2.2.2.2 a.2.2.2.2.2.2.2.1 a.2.2.2.1).length)==a.2.2.2.2.2.2.2.2.2.2.length then some (cD a.2.2.2.2.2.2.2.2.2.1 a.2.2.2.1 (a.2.2.2.2.1,a.2.2.2.2.2.1,a.2.2.2.2.2.2.1,a.2.2.2.2.2.2.2.1,a.2.2.2.2.2.2.2.2.1),cD a.2.2.2.2.2.2.2.2.2.2 a.2.2.2.2.2.2.2.1 a.2.2.2.1) else none else none
def aC7:fL:=⟨[.l [.i .i64],.l [.b],.l [.i .i64],.i,.i,.i,.i,.i,.i,.l [.i .i64,.i .i64,.i .i64,.i .i64,.i .i64],.l [.i .i64]],[.agg [.sl [.i .i64] [],.sl [.b] [],.sl [.i .i64] [],.own 0 false,.own 1 false],.int .i64 0,.agg [.int .i64 0,.int .i64 0,.int .i64 0,.int .i64 0,.int .i64 0]],[.arr [.i .i64,.i .i64,.i .i64,.i .i64,.i .i64] [],.arr [.i .i64] []],[.l [.i .i64,.i .i64,.i .i64,.i .i64,.i .i64],.l [.i .i64]],.tup [],[.arr [.i .i64,.i .i64,.i .i64,.i .i64,.i .i64] [],.arr [.i .i64] []],fun a=>bX a⟩
theorem aBi:nR tab 288 aC7:=nR.of Z5 (wd:=false) (cx:=(wI aJ [] [] [] [])) (pZ.make trivial trivial trivial) (fun a=>by kernel_rfl)
def gN (c0:aIO) (s:aQW):Option (bV aQW aQN):=match s with |(a,b,d,e,f,g,h,i,j,k,l,m)=>bif decide (b<(Int.ofNat d.length)) then bif decide ((aA .i64 (b+1))<(Int.ofNat d.length)) then (aM d (aA .i64 (b+1))).bind fun a0=>(aM d b).bind fun a1=>(cE a0 a1).bind fun n2=>bif decide (n2<0) then (aM d (aA .i64 (b+1))).bind fun a3=>(cE a3 (i,j,k,l,m)).bind fun n4=>bif decide (0<=n4) then (bX (f,g,h,a,i,j,k,l,m,d,e)).bind fun a5=>bif a5.1.length==c0.2.2.2.2.2.2.2.2.2.1.length then bif a5.2.length==c0.2.2.2.2.2.2.2.2.2.2.length then some (.done (.done a5)) else none else none else (aM d (aA .i64 (b+1))).bind fun a6=>(bX (f,g,h,a,a6.1,a6.2.1,a6.2.2.1,a6.2.2.2.1,a6.2.2.2.2,d,e)).bind fun a7=>some (.next (aA .i64 (b+1),aA .i64 ((aA .i64 (2*(aA .i64 (b+1))))+1),a7.1,a7.2,(f,g,h,i,j,k,l,m))) else (aM d b).bind fun a8=>(cE a8 (i,j,k,l,m)).bind fun n9=>bif decide (0<=n9) then (bX (f,g,h,a,i,j,k,l,m,d,e)).bind fun a10=>bif a10.1.length==c0.2.2.2.2.2.2.2.2.2.1.length then bif a10.2.length==c0.2.2.2.2.2.2.2.2.2.2.length then some (.done (.done a10)) else none else none else (aM d b).bind fun a11=>(bX (f,g,h,a,a11.1,a11.2.1,a11.2.2.1,a11.2.2.2.1,a11.2.2.2.2,d,e)).bind fun a12=>some (.next (b,aA .i64 ((aA .i64 (2*b))+1),a12.1,a12.2,(f,g,h,i,j,k,l,m))) else (aM d b).bind fun a13=>(cE a13 (i,j,k,l,m)).bind fun n14=>bif decide (0<=n14) then (bX (f,g,h,a,i,j,k,l,m,d,e)).bind fun a15=>bif a15.1.length==c0.2.2.2.2.2.2.2.2.2.1.length then bif a15.2.length==c0.2.2.2.2.2.2.2.2.2.2.length then some (.done (.done a15)) else none else none else (aM d b).bind fun a16=>(bX (f,g,h,a,a16.1,a16.2.1,a16.2.2.1,a16.2.2.2.1,a16.2.2.2.2,d,e)).bind fun a17=>some (.next (b,aA .i64 ((aA .i64 (2*b))+1),a17.1,a17.2,(f,g,h,i,j,k,l,m))) else (bX (f,g,h,a,i,j,k,l,m,d,e)).bind fun a18=>bif a18.1.length==c0.2.2.2.2.2.2.2.2.2.1.length then bif a18.2.length==c0.2.2.2.2.2.2.2.2.2.2.length then some (.done (.done a18)) else none else none
def fA (c0:aIO) (s:aQM):Option aQN:=bif decide (0<s.1) then (aM s.2.1 (aA .i64 (Int.tdiv (aA .i64 (s.1-1)) 2))).bind fun a0=>(cE s.2.2.2.2.2.2 a0).bind fun n1=>bif decide (n1<0) then (aM s.2.1 (aA .i64 (Int.tdiv (aA .i64 (s.1-1)) 2))).bind fun a2=>(bX (s.2.2.2.1,s.2.2.2.2.1,s.2.2.2.2.2.1,s.1,a2.1,a2.2.1,a2.2.2.1,a2.2.2.2.1,a2.2.2.2.2,s.2.1,s.2.2.1)).bind fun a3=>some (.next (aA .i64 (Int.tdiv (aA .i64 (s.1-1)) 2),a3.1,a3.2,s.2.2.2)) else aG (gN c0) (s.1,aA .i64 ((aA .i64 (2*s.1))+1),s.2) else aG (gN c0) (s.1,aA .i64 ((aA .i64 (2*s.1))+1),s.2)
def fK (a:aIO):Option aBd:=aG (fA a) (a.2.2.2.1,a.2.2.2.2.2.2.2.2.2.1,a.2.2.2.2.2.2.2.2.2.2,a.1,a.2.1,a.2.2.1,a.2.2.2.2.1,a.2.2.2.2.2.1,a.2.2.2.2.2.2.1,a.2.2.2.2.2.2.2.1,a.2.2.2.2.2.2.2.2.1)
def X0:fL:=⟨[.l [.i .i64],.l [.b],.l [.i .i64],.i,.i,.i,.i,.i,.i,.l [.i .i64,.i .i64,.i .i64,.i .i64,.i .i64],.l [.i .i64]],[.agg [.sl [.i .i64] [],.sl [.b] [],.sl [.i .i64] [],.own 0 false,.own 1 false],.int .i64 0,.agg [.int .i64 0,.int .i64 0,.int .i64 0,.int .i64 0,.int .i64 0]],[.arr [.i .i64,.i .i64,.i .i64,.i .i64,.i .i64] [],.arr [.i .i64] []],[.l [.i .i64,.i .i64,.i .i64,.i .i64,.i .i64],.l [.i .i64]],.tup [],[.arr [.i .i64,.i .i64,.i .i64,.i .i64,.i .i64] [],.arr [.i .i64] []],fun a=>fK a⟩
theorem QJ:nR tab 271 X0:=nR.of Z3 (wd:=false) (cx:=(wI aJ [(176,aJd)] [(288,XZ),(288,aC7)] [] [])) (pZ.make ⟨SA,trivial⟩ ⟨QI,aBi,trivial⟩ trivial) (fun a=>by kernel_rfl)
def wM (p0:aK) (p1:Int×Int) (p2:Int×Int):Option (aK×Int):=(kL p0).bind fun n0=>(eS p2).bind fun n1=>bif (if n1>n0 then n1 else n0) !=0 then some (aK.mk (aU.mk [] [] []) [] [],if n1>n0 then n1 else n0) else (rG p0 p1).bind fun a2=>bif a2.2 !=0 then some (aK.mk (aU.mk [] [] []) [] [],a2.2) else (cA p0.heap).bind fun l3=>(cA p0.where_).bind fun l4=>(aM l3 a2.1).bind fun a5=>(fK (p0.slots.uses,p0.slots.used,p0.slots.free,a2.1,p2.1,p2.2,a5.2.2.1,a5.2.2.2.1,a5.2.2.2.2,l3,l4)).bind fun a6=>some (aK.mk p0.slots a6.1 a6.2,0)
def aRD:bR:=⟨aE.cons (aP.agg hH) (aE.cons (aP.agg (cY.row kA)) (aE.one (aP.agg (cY.row kA)))),aP.tup (aE.cons (aP.agg hH) (aE.one (aP.int .i64))),fun a=>wM a.1 a.2.1 a.2.2,.frz,false⟩
theorem aJy:aN tab 257 aRD:=aN.of aIs (cx:=(wI aJ [(115,aBf),(72,c72),(232,aPr),(195,bR.clone kU),(196,bR.clone ki)] [(271,SF),(271,X0)] [(270,aBb)] [])) rfl (pZ.make ⟨IL,zS,aAe,xI,rA,trivial⟩ ⟨J7,QJ,trivial⟩ ⟨R2,trivial⟩) (fun a=>by kernel_rfl)
def zX (p0:Int×Int×Int×Int×Int) (p1:Int):Option Bool:=some (p0.2.2.1==p1)
def aRE:bR:=⟨aE.cons (aP.agg (cY.row kU)) (aE.one (aP.ref (cY.int .i64))),aP.bool,fun a=>zX a.1 a.2,.pure,false⟩
theorem aJz:aN tab 282 aRE:=Oc aIF rfl aJ [] trivial fun a=>by kernel_rfl
def cS (s:(uR×Int×Int×Int)):Option (bV (uR×Int×Int×Int) Int):=bif decide (s.2.2.2<s.2.2.1) then (aM s.1 s.2.2.2).bind fun a0=>(zX a0 s.2.1).bind fun b1=>bif b1 then some (.done s.2.2.2) else some (.next (s.1,s.2.1,s.2.2.1,aA .i64 (s.2.2.2+1))) else some (.done (-1))
def fB (p0:List (Int×Int×Int×Int×Int)) (p1:Int):Option Int:=aG cS (p0,p1,Int.ofNat p0.length,0)
def UY:bR:=⟨aE.cons (aP.sl kU) (aE.one (aP.clo 282 (aE.one (aP.ref (cY.int .i64))))),aP.int .i64,fun a=>fB a.1 a.2,.pure,false⟩
theorem UZ:aN tab 291 UY:=Oc aIK rfl aJ [(282,aRE)] ⟨aJz,trivial⟩ fun a=>by kernel_rfl
def cT (p0:List (Int×Int×Int×Int×Int)) (p1:Int):Option Bool:=(fB p0 p1).bind fun n0=>some (decide (0<=n0))
def U1:bR:=⟨aE.cons (aP.sl kU) (aE.one (aP.clo 282 (aE.one (aP.ref (cY.int .i64))))),aP.bool,fun a=>cT a.1 a.2,.pure,false⟩
theorem U2:aN tab 281 U1:=Oc aIE rfl aJ [(291,UY)] ⟨UZ,trivial⟩ fun a=>by kernel_rfl
def xN (p0:List Int):Option ((List Int)×Int):=(iE p0 0 (aA .i64 ((Int.ofNat p0.length) -1))).bind fun l0=>(cA l0).bind fun l1=>(aM p0 (aA .i64 ((Int.ofNat p0.length) -1))).bind fun n2=>some (l1,n2)
def aRF:bR:=⟨aE.one (aP.sl ki),aP.tup (aE.cons (aP.sl ki) (aE.one (aP.int .i64))),fun a=>xN a,.frz,false⟩
theorem aJA:aN tab 292 aRF:=Oc aIL rfl aJ [(293,bR.clone ki)] ⟨UN,trivial⟩ fun a=>by kernel_rfl
def FD (p0:aU):Option (aU×(Int×Int)×Int):=(sQ p0).bind fun n0=>bif n0 !=0 then some (aU.mk [] [] [],(0,0),n0) else bif (Int.ofNat p0.free.length)==0 then some (aU.mk [] [] [],(0,0),18) else (xN p0.free).bind fun a1=>(aM p0.uses a1.2).bind fun n2=>bif n2==1000000 then some (aU.mk [] [] [],(0,0),18) else (cA p0.uses).bind fun l3=>(cA p0.used).bind fun l4=>(aM l4 a1.2).bind fun _=>(aM l3 a1.2).bind fun n6=>(aM l3 a1.2).bind fun _=>(aM (cD l3 a1.2 (aA .i64 (n6+1))) a1.2).bind fun n8=>some (aU.mk (cD l3 a1.2 (aA .i64 (n6+1))) (cD l4 a1.2 true) a1.1,(a1.2,n8),0)
def aRG:bR:=⟨aE.one (aP.agg pQ),aP.tup (aE.cons (aP.agg pQ) (aE.cons (aP.agg (cY.row kA)) (aE.one (aP.int .i64)))),fun a=>FD a,.frz,false⟩
theorem aJB:aN tab 283 aRG:=aN.of aIG (cx:=(wI aJ [(175,aI7),(292,aRF),(196,bR.clone ki),(197,bR.clone kb)] [] [(286,aCS)] [])) rfl (pZ.make ⟨R9,aJA,rA,xH,trivial⟩ trivial ⟨Z4,trivial⟩) (fun a=>by kernel_rfl)
def mI (p0:aK) (p1:Int×Int) (p2:Int):Option (aK×(Int×Int)×Int):=(kL p0).bind fun n0=>(eS p1).bind fun n1=>bif (if n1>n0 then n1 else n0) !=0 then some (aK.mk (aU.mk [] [] []) [] [],(0,0),if n1>n0 then n1 else n0) else bif decide (p2<0) then some (aK.mk (aU.mk [] [] []) [] [],(0,0),2) else bif decide (1000000<p2) then some (aK.mk (aU.mk [] [] []) [] [],(0,0),2) else (cT p0.heap p2).bind fun b2=>bif b2 then some (aK.mk (aU.mk [] [] []) [] [],(0,0),14) else (FD p0.slots).bind fun a3=>bif a3.2.2 !=0 then some (aK.mk (aU.mk [] [] []) [] [],(0,0),a3.2.2) else (cA p0.heap).bind fun l4=>(cA p0.where_).bind fun l5=>(bL l4 [(p1.1,p1.2,p2,a3.2.1)]).bind fun l6=>(fK (a3.1.uses,a3.1.used,a3.1.free,aA .i64 ((Int.ofNat l6.length) -1),p1.1,p1.2,p2,a3.2.1.1,a3.2.1.2,l6,l5)).bind fun a7=>some (aK.mk a3.1 a7.1 a7.2,a3.2.1,0)
def aPu:bR:=⟨aE.cons (aP.agg hH) (aE.cons (aP.agg (cY.row kA)) (aE.one (aP.int .i64))),aP.tup (aE.cons (aP.agg hH) (aE.cons (aP.agg (cY.row kA)) (aE.one (aP.int .i64)))),fun a=>mI a.1 a.2.1 a.2.2,.frz,false⟩
theorem aAh:aN tab 258 aPu:=aN.of aIt (cx:=(wI aJ [(115,aBf),(72,c72),(281,U1),(283,aRG),(195,bR.clone kU),(196,bR.clone ki)] [(271,SF),(271,X0)] [(270,aBb)] [])) rfl (pZ.make ⟨IL,zS,U2,aJB,xI,rA,trivial⟩ ⟨J7,QJ,trivial⟩ ⟨R2,trivial⟩) (fun a=>by kernel_rfl)
def dN (s:Zt2):Option (bV Zt2 Zt4):=match s with |(a,b,d,e,f,g,h,i,j,k,l,m,n,o,q,r,t,u,v,w,x,y,z,A,B,C,D,E,F)=>bif decide (d<b) then (aM a d).bind fun a0=>(sS (Field.mk q) a0.2 (e,f)).bind fun a1=>(qK o a0.1).bind fun a2=>bif a1.2.1 then bif a2.2 then (aM o a2.1).bind fun a3=>(wM (aK.mk (aU.mk z A B) C D) a3.2 a1.1).bind fun a4=>(aM o a2.1).bind fun a5=>(bL F [a5]).bind fun l6=>bif a4.2 !=0 then some (.done (.done (kV,a4.2))) else some (.next (a,b,aA .i64 (d+1),e,f,g,h,i,j,k,l,m,n,o,q,r,t,u,v,w,x,y,a4.1.slots.uses,a4.1.slots.used,a4.1.slots.free,a4.1.heap,a4.1.where_,E,l6)) else bif a1.2.1 then (mI (aK.mk (aU.mk z A B) C D) a1.1 a0.1).bind fun a7=>(bL F [(a0.1,a7.2.1)]).bind fun l8=>bif a7.2.2 !=0 then some (.done (.done (kV,a7.2.2))) else some (.next (a,b,aA .i64 (d+1),e,f,g,h,i,j,k,l,m,n,o,q,r,t,u,v,w,x,y,a7.1.slots.uses,a7.1.slots.used,a7.1.slots.free,a7.1.heap,a7.1.where_,E,l8)) else bif a2.2 then (aM o a2.1).bind fun a9=>(nH (aK.mk (aU.mk z A B) C D) a9.2).bind fun a10=>bif a10.2.2 !=0 then some (.done (.done (kV,a10.2.2))) else some (.next (a,b,aA .i64 (d+1),e,f,g,h,i,j,k,l,m,n,o,q,r,t,u,v,w,x,y,a10.1.slots.uses,a10.1.slots.used,a10.1.slots.free,a10.1.heap,a10.1.where_,(E,F))) else bif a1.2.2 !=0 then some (.done (.done (kV,a1.2.2))) else some (.next (a,b,aA .i64 (d+1),(e,f,g,h,i,j,k,l,m,n,o,q,r,t,u,v,w,x,y,z,A,B,C,D,E,F))) else bif a1.2.1 then (mI (aK.mk (aU.mk z A B) C D) a1.1 a0.1).bind fun a11=>(bL F [(a0.1,a11.2.1)]).bind fun l12=>bif a11.2.2 !=0 then some (.done (.done (kV,a11.2.2))) else some (.next (a,b,aA .i64 (d+1),e,f,g,h,i,j,k,l,m,n,o,q,r,t,u,v,w,x,y,a11.1.slots.uses,a11.1.slots.used,a11.1.slots.free,a11.1.heap,a11.1.where_,E,l12)) else bif a2.2 then (aM o a2.1).bind fun a13=>(nH (aK.mk (aU.mk z A B) C D) a13.2).bind fun a14=>bif a14.2.2 !=0 then some (.done (.done (kV,a14.2.2))) else some (.next (a,b,aA .i64 (d+1),e,f,g,h,i,j,k,l,m,n,o,q,r,t,u,v,w,x,y,a14.1.slots.uses,a14.1.slots.used,a14.1.slots.free,a14.1.heap,a14.1.where_,(E,F))) else bif a1.2.2 !=0 then some (.done (.done (kV,a1.2.2))) else some (.next (a,b,aA .i64 (d+1),(e,f,g,h,i,j,k,l,m,n,o,q,r,t,u,v,w,x,y,z,A,B,C,D,E,F))) else some (.done (.done (aL.mk (v,w) (Field.mk E) (bF.mk x y) (aK.mk (aU.mk z A B) C D) F,0)))
def lS (s:aQH):Option Zt4:=match s with |(a,b,d,e,f,g,h,i,j,k,l,m,n,o,q,r,t,u)=>bif decide (d<b) then (aM a d).bind fun a0=>(kM (Field.mk q) a0.2.1).bind fun a1=>bif decide (a1.1<0) then some (.done (kV,6)) else (kM (Field.mk q) a0.2.2).bind fun a2=>bif decide (a2.1<0) then some (.done (kV,6)) else some (.next (a,b,aA .i64 (d+1),(e,f,g,h,i,j,k,l,m,n,o,q,r,t,u))) else (kW (aL.mk (e,f) (Field.mk g) (bF.mk h i) (aK.mk (aU.mk j k l) m n) o)).bind fun r3=>(cA q).bind fun l4=>aG dN (i,Int.ofNat i.length,0,e,f,g,h,i,j,k,l,m,n,o,q,r,t,u,r3.now.1,r3.now.2,r3.certs.next_,r3.certs.list,r3.agenda.slots.uses,r3.agenda.slots.used,r3.agenda.slots.free,r3.agenda.heap,r3.agenda.where_,l4,[])
def qL (p0:aL) (p1:Field):Option (aL×Int):=(gY p0).bind fun n0=>bif n0 !=0 then some (kV,n0) else (fZ p1).bind fun n1=>bif n1 !=0 then some (kV,n1) else aG lS (p0.certs.list,Int.ofNat p0.certs.list.length,0,p0.now.1,p0.now.2,p0.field.points,p0.certs.next_,p0.certs.list,p0.agenda.slots.uses,p0.agenda.slots.used,p0.agenda.slots.free,p0.agenda.heap,p0.agenda.where_,p0.due,p1.points,0,0,0)
def aRH:bR:=⟨aE.cons (aP.agg dF) (aE.one (aP.agg dV)),aP.tup (aE.cons (aP.agg dF) (aE.one (aP.int .i64))),fun a=>qL a.1 a.2,.frz,false⟩
theorem aJC:aN tab 213 aRH:=Oc aH6 rfl aJ [(62,c62),(85,c85),(178,aJf),(136,aC5),(136,UV),(89,bR.clone fU),(116,aJk),(190,aPp),(257,aRD),(258,aPu),(191,aPs)] ⟨J5,J4,SC,L1,IM,B6,SD,aAc,aJy,aAh,aAf,trivial⟩ fun a=>by kernel_rfl
def F6 (p0:Int×Int×Int) (p1:Int×Int):Option Bool:=some ((p0.2.1==p1.1)&&(p0.2.2==p1.2))
def aRI:bR:=⟨aE.cons (aP.agg (cY.row fU)) (aE.one (aP.ref (cY.row kA))),aP.bool,fun a=>F6 a.1 a.2,.pure,false⟩
theorem aJD:aN tab 215 aRI:=Oc aH7 rfl aJ [] trivial fun a=>by kernel_rfl
def nS (s:R3):Option (bV R3 Int):=bif decide (s.2.2.2.2<s.2.2.2.1) then (aM s.1 s.2.2.2.2).bind fun a0=>(F6 a0 (s.2.1,s.2.2.1)).bind fun b1=>bif b1 then some (.done s.2.2.2.2) else some (.next (s.1,s.2.1,s.2.2.1,s.2.2.2.1,aA .i64 (s.2.2.2.2+1))) else some (.done (-1))
def jC (p0:List (Int×Int×Int)) (p1:(Int×Int)):Option Int:=aG nS (p0,p1.1,p1.2,Int.ofNat p0.length,0)
def U3:bR:=⟨aE.cons (aP.sl fU) (aE.one (aP.clo 215 (aE.one (aP.ref (cY.row kA))))),aP.int .i64,fun a=>jC a.1 a.2,.pure,false⟩
theorem U4:aN tab 259 U3:=Oc Z2 rfl aJ [(215,aRI)] ⟨aJD,trivial⟩ fun a=>by kernel_rfl
def eL (p0:List (Int×Int×Int)) (p1:(Int×Int)):Option Bool:=(jC p0 p1).bind fun n0=>some (decide (0<=n0))
def U5:bR:=⟨aE.cons (aP.sl fU) (aE.one (aP.clo 215 (aE.one (aP.ref (cY.row kA))))),aP.bool,fun a=>eL a.1 a.2,.pure,false⟩
theorem U6:aN tab 214 U5:=Oc Z1 rfl aJ [(259,U3)] ⟨U4,trivial⟩ fun a=>by kernel_rfl
def dK (p0:Int):Option (aL×Int×Int):=some (kV,0,p0)
def aRJ:bR:=⟨aE.one (aP.int .i64),aP.tup (aE.cons (aP.agg dF) (aE.cons (aP.int .i64) (aE.one (aP.int .i64)))),fun a=>dK a,.frz,false⟩
theorem aJE:aN tab 260 aRJ:=Oc aIu rfl aJ [] trivial fun a=>by kernel_rfl
def G0 (p0:Int×Int×Int) (p1:Int×Int):Option Bool:=some ((p0.2.1==p1.1)&&(p0.2.2==p1.2))
def aRK:bR:=⟨aE.cons (aP.agg (cY.row fU)) (aE.one (aP.ref (cY.row kA))),aP.bool,fun a=>G0 a.1 a.2,.pure,false⟩
theorem aJF:aN tab 284 aRK:=Oc aIH rfl aJ [] trivial fun a=>by kernel_rfl
def dJ (s:R3):Option (bV R3 Int):=bif decide (s.2.2.2.2<s.2.2.2.1) then (aM s.1 s.2.2.2.2).bind fun a0=>(G0 a0 (s.2.1,s.2.2.1)).bind fun b1=>bif b1 then some (.done s.2.2.2.2) else some (.next (s.1,s.2.1,s.2.2.1,s.2.2.2.1,aA .i64 (s.2.2.2.2+1))) else some (.done (-1))
def gE (p0:List (Int×Int×Int)) (p1:(Int×Int)):Option Int:=aG dJ (p0,p1.1,p1.2,Int.ofNat p0.length,0)
def U7:bR:=⟨aE.cons (aP.sl fU) (aE.one (aP.clo 284 (aE.one (aP.ref (cY.row kA))))),aP.int .i64,fun a=>gE a.1 a.2,.pure,false⟩
theorem U8:aN tab 259 U7:=Oc Z2 rfl aJ [(284,aRK)] ⟨aJF,trivial⟩ fun a=>by kernel_rfl
def cH (p0:List (Int×Int×Int)) (p1:(Int×Int)):Option Bool:=(gE p0 p1).bind fun n0=>some (decide (0<=n0))
def U9:bR:=⟨aE.cons (aP.sl fU) (aE.one (aP.clo 284 (aE.one (aP.ref (cY.row kA))))),aP.bool,fun a=>cH a.1 a.2,.pure,false⟩
theorem VA:aN tab 214 U9:=Oc Z1 rfl aJ [(259,U7)] ⟨U8,trivial⟩ fun a=>by kernel_rfl
def IN (p0:bF) (p1:Int×Int):Option (bF×Int×Int):=(sP p0).bind fun n0=>bif n0 !=0 then some (bF.mk 0 [],0,n0) else (xK p1).bind fun b1=>bif !b1 then some (bF.mk 0 [],0,8) else (cH p0.list p1).bind fun b2=>bif b2 then some (bF.mk 0 [],0,14) else bif (Int.ofNat p0.list.length)==200 then some (bF.mk 0 [],0,18) else bif p0.next_==1000000 then some (bF.mk 0 [],0,18) else (cA p0.list).bind fun l3=>(bL l3 [(p0.next_,p1)]).bind fun l4=>some (bF.mk (aA .i64 (p0.next_+1)) l4,p0.next_,0)
def aRL:bR:=⟨aE.cons (aP.agg qZ) (aE.one (aP.agg (cY.row kA))),aP.tup (aE.cons (aP.agg qZ) (aE.cons (aP.int .i64) (aE.one (aP.int .i64)))),fun a=>IN a.1 a.2,.frz,false⟩
theorem aJG:aN tab 261 aRL:=Oc aIv rfl aJ [(114,aI4),(174,aPl),(214,U9),(193,bR.clone fU)] ⟨R8,aAb,VA,A3,trivial⟩ fun a=>by kernel_rfl
def jI (p0:aL) (p1:Int×Int):Option (aL×Int×Int):=(gY p0).bind fun n0=>bif n0 !=0 then (dK n0).bind fun a1=>some a1 else (IN p0.certs p1).bind fun a2=>bif a2.2.2==8 then (dK a2.2.2).bind fun a3=>some a3 else (kM p0.field p1.1).bind fun a4=>bif decide (a4.1<0) then (dK 6).bind fun a5=>some a5 else (kM p0.field p1.2).bind fun a6=>bif decide (a6.1<0) then (dK 6).bind fun a7=>some a7 else bif a2.2.2 !=0 then (dK a2.2.2).bind fun a8=>some a8 else (kW p0).bind fun r9=>(sS p0.field p1 p0.now).bind fun a10=>bif a10.2.2 !=0 then (dK a10.2.2).bind fun a11=>some a11 else bif a10.2.1 then (mI p0.agenda a10.1 a2.2.1).bind fun a12=>bif a12.2.2 !=0 then (dK a12.2.2).bind fun a13=>some a13 else (bL r9.due [(a2.2.1,a12.2.1)]).bind fun l14=>some (aL.mk r9.now r9.field a2.1 a12.1 l14,a2.2.1,0) else some (aL.mk r9.now r9.field a2.1 r9.agenda r9.due,a2.2.1,0)
def aRM:bR:=⟨aE.cons (aP.agg dF) (aE.one (aP.agg (cY.row kA))),aP.tup (aE.cons (aP.agg dF) (aE.cons (aP.int .i64) (aE.one (aP.int .i64)))),fun a=>jI a.1 a.2,.frz,false⟩
theorem aJH:aN tab 216 aRM:=Oc aH8 rfl aJ [(62,c62),(260,aRJ),(261,aRL),(178,aJf),(136,aC5),(136,UV),(116,aJk),(258,aPu)] ⟨J5,aJE,aJG,SC,L1,IM,SD,aAh,trivial⟩ fun a=>by kernel_rfl
def fQ (s:Zt7):Option (bV Zt7 Zt3):=match s with |(a,b,d,e,f,g,h,i,j,k,l,m,n,o,q,r,t)=>bif decide (d<b) then (aM a d).bind fun a0=>(eL i a0).bind fun b1=>bif b1 then some (.next (a,b,aA .i64 (d+1),(e,f,g,h,i,j,k,l,m,n,o,q,r,t))) else (jI (aL.mk (e,f) (Field.mk g) (bF.mk h i) (aK.mk (aU.mk j k l) m n) o) a0).bind fun a2=>bif a2.2.2 !=0 then some (.done (.done (kV,a2.2.2))) else some (.next (a,b,aA .i64 (d+1),a2.1.now.1,a2.1.now.2,a2.1.field.points,a2.1.certs.next_,a2.1.certs.list,a2.1.agenda.slots.uses,a2.1.agenda.slots.used,a2.1.agenda.slots.free,a2.1.agenda.heap,a2.1.agenda.where_,a2.1.due,(q,r,t))) else some (.done (.done (aL.mk (e,f) (Field.mk g) (bF.mk h i) (aK.mk (aU.mk j k l) m n) o,0)))
def dO (s:aQG):Option Zt3:=match s with |(a,b,d,e,f,g,h,i,j,k,l,m,n,o,q,r,t,u,v)=>bif decide (e<d) then (aM b e).bind fun a0=>(gA a a0.2).bind fun b1=>bif !b1 then (wL (aL.mk (f,g) (Field.mk h) (bF.mk i j) (aK.mk (aU.mk k l m) n o) q) a0.1).bind fun a2=>some (.next (a,b,d,aA .i64 (e+1),a2.1.now.1,a2.1.now.2,a2.1.field.points,a2.1.certs.next_,a2.1.certs.list,a2.1.agenda.slots.uses,a2.1.agenda.slots.used,a2.1.agenda.slots.free,a2.1.agenda.heap,a2.1.agenda.where_,a2.1.due,(r,t,u,v))) else some (.next (a,b,d,aA .i64 (e+1),(f,g,h,i,j,k,l,m,n,o,q,r,t,u,v))) else (mP h r).bind fun b3=>bif !b3 then (qL (aL.mk (f,g) (Field.mk h) (bF.mk i j) (aK.mk (aU.mk k l m) n o) q) (Field.mk r)).bind fun a4=>bif a4.2 !=0 then some (.done (kV,a4.2)) else aG fQ (a,Int.ofNat a.length,0,a4.1.now.1,a4.1.now.2,a4.1.field.points,a4.1.certs.next_,a4.1.certs.list,a4.1.agenda.slots.uses,a4.1.agenda.slots.used,a4.1.agenda.slots.free,a4.1.agenda.heap,a4.1.agenda.where_,a4.1.due,(t,u,v)) else aG fQ (a,Int.ofNat a.length,0,f,g,h,i,j,k,l,m,n,o,q,(t,u,v))
def oC (p0:aL) (p1:Field) (p2:List (Int×Int)):Option (aL×Int):=aG dO (p2,p0.certs.list,Int.ofNat p0.certs.list.length,0,p0.now.1,p0.now.2,p0.field.points,p0.certs.next_,p0.certs.list,p0.agenda.slots.uses,p0.agenda.slots.used,p0.agenda.slots.free,p0.agenda.heap,p0.agenda.where_,p0.due,p1.points,0,0,0)
def aRN:bR:=⟨aE.cons (aP.agg dF) (aE.cons (aP.agg dV) (aE.one (aP.sl kA))),aP.tup (aE.cons (aP.agg dF) (aE.one (aP.int .i64))),fun a=>oC a.1 a.2.1 a.2.2,.frz,false⟩
theorem aJI:aN tab 167 aRN:=Oc aHx rfl aJ [(64,c64),(211,aRB),(212,aRC),(213,aRH),(214,U5),(216,aRM)] ⟨XY,aJw,aJx,aJC,U6,aJH,trivial⟩ fun a=>by kernel_rfl
def fR (s:aBc):Option (bV aBc Zt1):=match s with |(a,b,d,e,f,g,h,i,j,k,l,m,n,o,q,r,t,u,v)=>bif decide (e<d) then (aM b e).bind fun a0=>(xL (Field.mk r) a0.1).bind fun a1=>(xL (Field.mk r) a0.2).bind fun a2=>bif a1.2 !=0 then some (.done (.done (.done (kV,6)))) else bif a2.2 !=0 then some (.done (.done (.done (kV,6)))) else some (.next (a,b,d,aA .i64 (e+1),(f,g,h,i,j,k,l,m,n,o,q,r,t,u,v))) else (xM (aL.mk (f,g) (Field.mk h) (bF.mk i j) (aK.mk (aU.mk k l m) n o) q)).bind fun r3=>(oC r3 (Field.mk r) a).bind fun a4=>some (.done (.done (.done a4)))
def eV (s:aBc):Option Zt1:=bif decide (s.2.2.2.1<s.2.2.1) then (aM s.2.1 s.2.2.2.1).bind fun a0=>(iE s.1 0 s.2.2.2.1).bind fun l1=>(gA l1 a0).bind fun b2=>bif b2 then some (.done (.done (kV,14))) else some (.next (s.1,s.2.1,s.2.2.1,aA .i64 (s.2.2.2.1+1),s.2.2.2.2)) else aG fR (s.1,s.1,Int.ofNat s.1.length,0,s.2.2.2.2)
def eW (s:aBc):Option aQF:=bif decide (s.2.2.2.1<s.2.2.1) then (aM s.2.1 s.2.2.2.1).bind fun a0=>bif decide (a0.1<0) then some (.done (kV,8)) else bif decide (a0.2<0) then some (.done (kV,8)) else bif decide (65535<a0.1) then some (.done (kV,8)) else bif decide (65535<a0.2) then some (.done (kV,8)) else bif a0.1==a0.2 then some (.done (kV,8)) else some (.next (s.1,s.2.1,s.2.2.1,aA .i64 (s.2.2.2.1+1),s.2.2.2.2)) else aG eV (s.1,s.1,Int.ofNat s.1.length,0,s.2.2.2.2)
def oD (p0:aL) (p1:Field) (p2:List (Int×Int)):Option (aL×Int):=(gY p0).bind fun n0=>bif n0 !=0 then some (kV,n0) else (fZ p1).bind fun n1=>bif n1 !=0 then some (kV,n1) else aG eW (p2,p2,Int.ofNat p2.length,0,p0.now.1,p0.now.2,p0.field.points,p0.certs.next_,p0.certs.list,p0.agenda.slots.uses,p0.agenda.slots.used,p0.agenda.slots.free,p0.agenda.heap,p0.agenda.where_,p0.due,p1.points,0,0,0)
def aRO:bR:=⟨aE.cons (aP.agg dF) (aE.cons (aP.agg dV) (aE.one (aP.sl kA))),aP.tup (aE.cons (aP.agg dF) (aE.one (aP.int .i64))),fun a=>oD a.1 a.2.1 a.2.2,.frz,false⟩
theorem aJJ:aN tab 106 aRO:=Oc aG0 rfl aJ [(62,c62),(85,c85),(64,c64),(166,aRs),(168,aRt),(168,aK0),(167,aRN)] ⟨J5,J4,XY,aJn,aJo,aC3,aJI,trivial⟩ fun a=>by kernel_rfl
def jT (p0:aL) (p1:Field):Option (cB×Int):=(gX p1 p0.now).bind fun a0=>(oD p0 p1 a0.2).bind fun a1=>bif a1.2 !=0 then some (cB.mk kV [],a1.2) else some (cB.mk a1.1 a0.1,0)
def c54:bR:=⟨aE.cons (aP.agg dF) (aE.one (aP.agg dV)),aP.tup (aE.cons (aP.agg kG) (aE.one (aP.int .i64))),fun a=>jT a.1 a.2,.frz,false⟩
theorem aC8:aN tab 54 c54:=Oc aOH rfl aJ [(57,c57),(106,aRO)] ⟨R7,aJJ,trivial⟩ fun a=>by kernel_rfl
def rH (p0:Field) (p1:Int×Int):Option (cB×Int):=(FA p0 p1).bind fun a0=>bif a0.2 !=0 then some (cB.mk kV [],a0.2) else (jT a0.1 p0).bind fun a1=>some a1
def c12:bR:=⟨aE.cons (aP.agg dV) (aE.one (aP.agg (cY.row kA))),aP.tup (aE.cons (aP.agg kG) (aE.one (aP.int .i64))),fun a=>rH a.1 a.2,.frz,false⟩
theorem aC9:aN tab 12 c12:=Oc aOk rfl aJ [(53,c53),(54,c54)] ⟨aPh,aC8,trivial⟩ fun a=>by kernel_rfl
def lH (s:((List Int)×(List Int)×Int×Int)):Option (bV ((List Int)×(List Int)×Int×Int) Bool):=bif decide (s.2.2.2<s.2.2.1) then (aM s.1 s.2.2.2).bind fun n0=>(aM s.2.1 s.2.2.2).bind fun n1=>bif n0 !=n1 then some (.done false) else some (.next (s.1,s.2.1,s.2.2.1,aA .i64 (s.2.2.2+1))) else some (.done true)
def oT (p0:List Int) (p1:List Int):Option Bool:=bif (Int.ofNat p0.length) !=(Int.ofNat p1.length) then some false else aG lH (p0,p1,Int.ofNat p0.length,0)
def c63:bR:=⟨aE.cons (aP.sl ki) (aE.one (aP.sl ki)),aP.bool,fun a=>oT a.1 a.2,.pure,false⟩
theorem aPv:aN tab 63 c63:=Oc aON rfl aJ [] trivial fun a=>by kernel_rfl
def mZ (s:(hO×cQ×Int×Int)):Option (bV (hO×cQ×Int×Int) Int):=bif decide (s.2.2.2<s.2.2.1) then (aM s.2.1 s.2.2.2).bind fun a0=>(gA s.1 a0.2).bind fun b1=>bif !b1 then some (.done 8) else some (.next (s.1,s.2.1,s.2.2.1,aA .i64 (s.2.2.2+1))) else some (.done 0)
def oU (p0:cB):Option Int:=(gY p0.clock).bind fun n0=>bif n0 !=0 then some 8 else (gX p0.clock.field p0.clock.now).bind fun a1=>(oT a1.1 p0.up).bind fun b2=>bif !b2 then some 8 else bif (Int.ofNat a1.2.length) !=(Int.ofNat p0.clock.certs.list.length) then some 8 else aG mZ (a1.2,p0.clock.certs.list,Int.ofNat p0.clock.certs.list.length,0)
def c19:bR:=⟨aE.one (aP.agg kG),aP.int .i64,fun a=>oU a,.pure,false⟩
theorem X1:aN tab 19 c19:=Oc aOn rfl aJ [(62,c62),(57,c57),(63,c63),(64,c64)] ⟨J5,R7,aPv,XY,trivial⟩ fun a=>by kernel_rfl
def G1 (p0:aK):Option ((Int×Int×Int×Int×Int)×Int):=(kL p0).bind fun n0=>bif n0 !=0 then some ((0,0,0,0,0),n0) else bif (Int.ofNat p0.heap.length)==0 then some ((0,0,0,0,0),42) else (aM p0.heap 0).bind fun a1=>some (a1,0)
def aRP:bR:=⟨aE.one (aP.agg hH),aP.tup (aE.cons (aP.agg (cY.row kU)) (aE.one (aP.int .i64))),fun a=>G1 a,.pure,false⟩
theorem aJK:aN tab 188 aRP:=Oc aHL rfl aJ [(115,aBf)] ⟨IL,trivial⟩ fun a=>by kernel_rfl
def uU (p0:aL) (p1:Int×Int):Option (Bool×Int):=(gY p0).bind fun n0=>(eS p1).bind fun n1=>bif (if n1>n0 then n1 else n0) !=0 then some (false,if n1>n0 then n1 else n0) else (sR p1 p0.now).bind fun a2=>bif decide (a2.1<0) then some (false,44) else (G1 p0.agenda).bind fun a3=>bif a3.2 !=0 then some (false,0) else (sR (a3.1.1,a3.1.2.1) p1).bind fun a4=>some (decide (a4.1<=0),0)
def aPw:bR:=⟨aE.cons (aP.agg dF) (aE.one (aP.agg (cY.row kA))),aP.tup (aE.cons aP.bool (aE.one (aP.int .i64))),fun a=>uU a.1 a.2,.pure,false⟩
theorem aAi:aN tab 134 aPw:=Oc aHk rfl aJ [(62,c62),(72,c72),(73,c73),(188,aRP)] ⟨J5,zS,XX,aJK,trivial⟩ fun a=>by kernel_rfl
def sT (p0:aL) (p1:Int×Int):Option (aL×(Int×Int×Int×Int×Int)×(Int×Int)×Int):=(uU p0 p1).bind fun a0=>bif a0.2==0 then bif !a0.1 then some (kV,(0,0,0,0,0),(0,0),6) else bif a0.2 !=0 then some (kV,(0,0,0,0,0),(0,0),a0.2) else (aM p0.agenda.heap 0).bind fun a1=>(mO p0 a1.2.2.1).bind fun a2=>bif a2.2.2 !=0 then some (kV,(0,0,0,0,0),(0,0),a2.2.2) else some (aL.mk (a1.1,a1.2.1) a2.1.field a2.1.certs a2.1.agenda a2.1.due,a1,a2.2.1,0) else bif a0.2 !=0 then some (kV,(0,0,0,0,0),(0,0),a0.2) else (aM p0.agenda.heap 0).bind fun a3=>(mO p0 a3.2.2.1).bind fun a4=>bif a4.2.2 !=0 then some (kV,(0,0,0,0,0),(0,0),a4.2.2) else some (aL.mk (a3.1,a3.2.1) a4.1.field a4.1.certs a4.1.agenda a4.1.due,a3,a4.2.1,0)
def c74:bR:=⟨aE.cons (aP.agg dF) (aE.one (aP.agg (cY.row kA))),aP.tup (aE.cons (aP.agg dF) (aE.cons (aP.agg (cY.row kU)) (aE.cons (aP.agg (cY.row kA)) (aE.one (aP.int .i64))))),fun a=>sT a.1 a.2,.frz,false⟩
theorem aPx:aN tab 74 c74:=Oc aOX rfl aJ [(134,aPw),(135,aPt)] ⟨aAi,aAg,trivial⟩ fun a=>by kernel_rfl
def CC (p0:aL) (p1:Int×Int):Option (aL×Int):=(uU p0 p1).bind fun a0=>bif a0.2==0 then bif a0.1 then some (kV,36) else bif a0.2 !=0 then some (kV,a0.2) else (kW p0).bind fun r1=>some (aL.mk p1 r1.field r1.certs r1.agenda r1.due,0) else bif a0.2 !=0 then some (kV,a0.2) else (kW p0).bind fun r2=>some (aL.mk p1 r2.field r2.certs r2.agenda r2.due,0)
def c75:bR:=⟨aE.cons (aP.agg dF) (aE.one (aP.agg (cY.row kA))),aP.tup (aE.cons (aP.agg dF) (aE.one (aP.int .i64))),fun a=>CC a.1 a.2,.frz,false⟩
theorem aPy:aN tab 75 c75:=Oc aOY rfl aJ [(134,aPw),(136,aC5),(136,UV)] ⟨aAi,L1,IM,trivial⟩ fun a=>by kernel_rfl
def iP (s:Zt6):Option (bV Zt6 (cB×hO×Int)):=match s with |(a,b,d,e,f,g,h,i,j,k,l,m,n,o,q,r,t,u)=>(sT (aL.mk (a,b) (Field.mk d) (bF.mk e f) (aK.mk (aU.mk g h i) j k) l) (n,o)).bind fun a0=>bif a0.2.2.2 !=0 then (CC (aL.mk (a,b) (Field.mk d) (bF.mk e f) (aK.mk (aU.mk g h i) j k) l) (n,o)).bind fun a1=>(gX a1.1.field (n,o)).bind fun a2=>some (.done (cB.mk a1.1 a2.1,u,0)) else (jT a0.1 a0.1.field).bind fun a3=>bif a3.2 !=0 then some (.done (cB.mk kV [],[],a3.2)) else (bL u [a0.2.2.1]).bind fun l4=>some (.next (a3.1.clock.now.1,a3.1.clock.now.2,a3.1.clock.field.points,a3.1.clock.certs.next_,a3.1.clock.certs.list,a3.1.clock.agenda.slots.uses,a3.1.clock.agenda.slots.used,a3.1.clock.agenda.slots.free,a3.1.clock.agenda.heap,a3.1.clock.agenda.where_,a3.1.clock.due,a3.1.up,n,o,q,r,t,l4))
def oE (p0:cB) (p1:Int×Int):Option (cB×hO×Int):=(oU p0).bind fun n0=>bif n0 !=0 then some (cB.mk kV [],[],n0) else (eS p1).bind fun n1=>bif n1 !=0 then some (cB.mk kV [],[],8) else (sR p1 p0.clock.now).bind fun a2=>bif decide (a2.1<0) then some (cB.mk kV [],[],44) else aG iP (p0.clock.now.1,p0.clock.now.2,p0.clock.field.points,p0.clock.certs.next_,p0.clock.certs.list,p0.clock.agenda.slots.uses,p0.clock.agenda.slots.used,p0.clock.agenda.slots.free,p0.clock.agenda.heap,p0.clock.agenda.where_,p0.clock.due,p0.up,p1.1,p1.2,0,0,0,[])
def c28:bR:=⟨aE.cons (aP.agg kG) (aE.one (aP.agg (cY.row kA))),aP.tup (aE.cons (aP.agg kG) (aE.cons (aP.sl kA) (aE.one (aP.int .i64)))),fun a=>oE a.1 a.2,.frz,false⟩
theorem aDa:aN tab 28 c28:=Oc aOv rfl aJ [(19,c19),(72,c72),(73,c73),(74,c74),(54,c54),(75,c75),(57,c57)] ⟨X1,zS,XX,aPx,aC8,aPy,R7,trivial⟩ fun a=>by kernel_rfl
def lI (s:((List Int)×Int×Int×Int)):Option (bV ((List Int)×Int×Int×Int) Int):=bif decide (s.2.2.2<s.2.2.1) then (aM s.1 s.2.2.2).bind fun n0=>bif s.2.1==n0 then some (.done s.2.2.2) else some (.next (s.1,s.2.1,s.2.2.1,aA .i64 (s.2.2.2+1))) else some (.done (-1))
def oV (p0:List Int) (p1:Int):Option Int:=aG lI (p0,p1,Int.ofNat p0.length,0)
def c59:bR:=⟨aE.cons (aP.sl ki) (aE.one (aP.int .i64)),aP.int .i64,fun a=>oV a.1 a.2,.pure,false⟩
theorem aPz:aN tab 59 c59:=Oc aOK rfl aJ [] trivial fun a=>by kernel_rfl
def pI (p0:cB):Option (Int×Int):=(oU p0).bind fun n0=>bif n0 !=0 then some (0,n0) else (oV p0.up (-1)).bind fun n1=>bif decide (n1<0) then some (0,42) else (aM p0.clock.field.points n1).bind fun a2=>some (a2.1,0)
def c16:bR:=⟨aE.one (aP.agg kG),aP.tup (aE.cons (aP.int .i64) (aE.one (aP.int .i64))),fun a=>pI a,.pure,false⟩
theorem aDb:aN tab 16 c16:=Oc aOm rfl aJ [(19,c19),(59,c59)] ⟨X1,aPz,trivial⟩ fun a=>by kernel_rfl
def oW (s:((List Int)×(List Int)×Int)):Option (bV ((List Int)×(List Int)×Int) Bool):=bif decide (s.2.2<(Int.ofNat s.1.length)) then (aM s.1 s.2.2).bind fun n0=>(aM s.2.1 s.2.2).bind fun n1=>bif n0 !=n1 then some (.done false) else some (.next (s.1,s.2.1,aA .i64 (s.2.2+1))) else some (.done true)
def kX (p0:List Int) (p1:List Int):Option Bool:=bif (Int.ofNat p0.length) !=(Int.ofNat p1.length) then some false else aG oW (p0,p1,0)
def c41:bR:=⟨aE.cons (aP.sl ki) (aE.one (aP.sl ki)),aP.bool,fun a=>kX a.1 a.2,.pure,false⟩
theorem X2:aN tab 41 c41:=Oc aOx rfl aJ [] trivial fun a=>by kernel_rfl
def G2 (s:(hO×hO×Int)):Option (bV (hO×hO×Int) Bool):=bif decide (s.2.2<(Int.ofNat s.1.length)) then (aM s.1 s.2.2).bind fun a0=>(aM s.2.1 s.2.2).bind fun a1=>bif !((a0.1==a1.1)&&(a0.2==a1.2)) then some (.done false) else some (.next (s.1,s.2.1,aA .i64 (s.2.2+1))) else some (.done true)
def DC (p0:List (Int×Int)) (p1:List (Int×Int)):Option Bool:=bif (Int.ofNat p0.length) !=(Int.ofNat p1.length) then some false else aG G2 (p0,p1,0)
def c21:bR:=⟨aE.cons (aP.sl kA) (aE.one (aP.sl kA)),aP.bool,fun a=>DC a.1 a.2,.pure,false⟩
theorem aPA:aN tab 21 c21:=Oc aOp rfl aJ [] trivial fun a=>by kernel_rfl
def VB:Option Bool:=K0.bind fun r0=>(N1 0).bind fun a1=>(rH r0 a1).bind fun a2=>(N1 2).bind fun a3=>(oE a2.1 a3).bind fun a4=>(pI a4.1).bind fun a5=>bif a2.2==0 then bif a4.2.2==0 then bif a5.2==0 then bif a5.1==1 then (kX a2.1.up [2,-1,1]).bind fun b6=>bif b6 then (kX a4.1.up [-1,1,1]).bind fun b7=>bif b7 then (DC a4.2.1 [(1,2)]).bind fun b8=>some b8 else some false else some false else some false else some false else some false else some false
def aTZ:bR:=⟨aE.nil,aP.bool,fun _=>VB,.pure,false⟩
theorem aJL:aN tab 22 aTZ:=Oc aOq rfl aJ [(42,c42),(43,c43),(12,c12),(28,c28),(16,c16),(41,c41),(21,c21)] ⟨aPc,aPd,aC9,aDa,aDb,X2,aPA,trivial⟩ fun a=>by kernel_rfl
def c22:bR:=⟨aE.nil,aP.bool,fun _=>some true,.pure,false⟩
end
theorem aPB:aN tab 22 c22:=aN.at0 (@aJL (LP.of 1000000)) (by kernel_rfl)
section
variable [LP]
def uV (p0:Field):Option Bool:=bif decide (16<(Int.ofNat p0.points.length)) then bif decide ((Int.ofNat p0.points.length)<64) then some true else some (decide (70<(Int.ofNat p0.points.length))) else some (decide (70<(Int.ofNat p0.points.length)))
def c10:bR:=⟨aE.one (aP.agg dV),aP.bool,fun a=>uV a,.pure,false⟩
theorem aPC:aN tab 10 c10:=Oc aOi rfl aJ [] trivial fun a=>by kernel_rfl
def EA (p0:aU):Option Bool:=bif decide (210<(Int.ofNat p0.uses.length)) then some true else bif decide (210<(Int.ofNat p0.used.length)) then some true else some (decide (210<(Int.ofNat p0.free.length)))
def aRQ:bR:=⟨aE.one (aP.agg pQ),aP.bool,fun a=>EA a,.pure,false⟩
theorem aJM:aN tab 163 aRQ:=Oc aHu rfl aJ [] trivial fun a=>by kernel_rfl
def EB (p0:aK):Option Bool:=(EA p0.slots).bind fun b0=>bif b0 then some true else bif decide (210<(Int.ofNat p0.heap.length)) then some true else some (decide (210<(Int.ofNat p0.where_.length)))
def aRR:bR:=⟨aE.one (aP.agg hH),aP.bool,fun a=>EB a,.pure,false⟩
theorem aJN:aN tab 104 aRR:=Oc aGY rfl aJ [(163,aRQ)] ⟨aJM,trivial⟩ fun a=>by kernel_rfl
def uW (p0:aL):Option Bool:=bif decide (40<(Int.ofNat p0.certs.list.length)) then some true else bif decide (40<(Int.ofNat p0.due.length)) then some true else (uV p0.field).bind fun b0=>bif b0 then some true else (EB p0.agenda).bind fun b1=>some b1
def c52:bR:=⟨aE.one (aP.agg dF),aP.bool,fun a=>uW a,.pure,false⟩
theorem aPD:aN tab 52 c52:=Oc aOF rfl aJ [(10,c10),(104,aRR)] ⟨aPC,aJN,trivial⟩ fun a=>by kernel_rfl
def uX (p0:cB):Option Bool:=(uW p0.clock).bind fun b0=>bif b0 then some true else some (decide (70<(Int.ofNat p0.up.length)))
def c11:bR:=⟨aE.one (aP.agg kG),aP.bool,fun a=>uX a,.pure,false⟩
theorem aPE:aN tab 11 c11:=Oc aOj rfl aJ [(52,c52)] ⟨aPD,trivial⟩ fun a=>by kernel_rfl
def G3 (p0:Field):Option Bool:=some (decide (10<(Int.ofNat p0.points.length)))
def c26:bR:=⟨aE.one (aP.agg dV),aP.bool,fun a=>G3 a,.pure,false⟩
theorem aPF:aN tab 26 c26:=Oc aOu rfl aJ [] trivial fun a=>by kernel_rfl
def iX (p0:Int):Option Int:=bif decide (p0<0) then some (aA .u64 ((aA .u64 (aA .i64 (0- (aA .i64 (p0+1)))))+1)) else some (aA .u64 p0)
def c70:bR:=⟨aE.one (aP.int .i64),aP.int .u64,fun a=>iX a,.pure,false⟩
theorem X3:aN tab 70 c70:=Oc aOU rfl aJ [] trivial fun a=>by kernel_rfl
def pS (s:(Int×Int)):Option (bV (Int×Int) Int):=bif s.2 !=0 then bif s.2==0 then none else some (.next (s.2,Int.tmod s.1 s.2)) else some (.done s.1)
def rI (p0:Int) (p1:Int):Option Int:=aG pS (p0,p1)
def c69:bR:=⟨aE.cons (aP.int .u64) (aE.one (aP.int .u64)),aP.int .u64,fun a=>rI a.1 a.2,.pure,false⟩
theorem aDc:aN tab 69 c69:=Oc aOT rfl aJ [] trivial fun a=>by kernel_rfl
def qM (p0:Int×Int):Option Int:=bif decide (p0.2<1) then some 8 else bif p0.1==(-9223372036854775808) then some 8 else (iX p0.1).bind fun n0=>(rI n0 (aA .u64 p0.2)).bind fun n1=>bif n1 !=1 then some 8 else some 0
def c24:bR:=⟨aE.one (aP.agg (cY.row kA)),aP.int .i64,fun a=>qM a,.pure,false⟩
theorem X4:aN tab 24 c24:=Oc aOs rfl aJ [(70,c70),(69,c69)] ⟨X3,aDc,trivial⟩ fun a=>by kernel_rfl
def yW (p0:Int×Int×Int):Option Int:=bif decide (p0.1<0) then some 8 else bif decide (65535<p0.1) then some 8 else bif decide (p0.2.1<(-1048576)) then some 8 else bif decide (1048576<p0.2.1) then some 8 else bif decide (p0.2.2<(-1048576)) then some 8 else bif decide (1048576<p0.2.2) then some 8 else some 0
def c68:bR:=⟨aE.one (aP.agg (cY.row fU)),aP.int .i64,fun a=>yW a,.pure,false⟩
theorem aPG:aN tab 68 c68:=Oc aOS rfl aJ [] trivial fun a=>by kernel_rfl
def jU (s:aCX):Option (bV aCX (bV aCX Int)):=bif decide (s.1<(Int.ofNat s.2.length)) then (aM s.2 (aA .i64 (s.1-1))).bind fun a0=>(aM s.2 s.1).bind fun a1=>bif decide (a1.1<=a0.1) then some (.done (.done 32)) else some (.next (aA .i64 (s.1+1),s.2)) else some (.done (.done 0))
def oF (s:aCX):Option (bV aCX Int):=bif decide (s.1<(Int.ofNat s.2.length)) then (aM s.2 s.1).bind fun a0=>(yW a0).bind fun n1=>bif n1 !=0 then some (.done 8) else some (.next (aA .i64 (s.1+1),s.2)) else aG jU (1,s.2)
def yX (p0:Field):Option Int:=bif decide (64<(Int.ofNat p0.points.length)) then some 4 else aG oF (0,p0.points)
def c23:bR:=⟨aE.one (aP.agg dV),aP.int .i64,fun a=>yX a,.pure,false⟩
theorem aPH:aN tab 23 c23:=Oc aOr rfl aJ [(68,c68)] ⟨aPG,trivial⟩ fun a=>by kernel_rfl
def sU (p0:Int×Int):Option Bool:=bif decide (0<=p0.1) then bif decide (p0.1<=65535) then bif decide (0<=p0.2) then bif decide (p0.2<=65535) then some (p0.1 !=p0.2) else some false else some false else some false else some false
def c99:bR:=⟨aE.one (aP.agg (cY.row kA)),aP.bool,fun a=>sU a,.pure,false⟩
theorem aDd:aN tab 99 c99:=Oc aO8 rfl aJ [] trivial fun a=>by kernel_rfl
def gO (s:(Int×Int×Int×cQ×Int×Int×Int)):Option (bV (Int×Int×Int×cQ×Int×Int×Int) aPa):=bif decide (s.2.1<s.1) then (aM s.2.2.2.1 s.2.1).bind fun a0=>bif (a0.2.1==s.2.2.2.2.2.1)&&(a0.2.2==s.2.2.2.2.2.2) then some (.done (.done 8)) else some (.next (s.1,aA .i64 (s.2.1+1),s.2.2)) else some (.done (.next (aA .i64 (s.1+1),s.2.2.1,s.2.2.2.1)))
def rJ (s:aCW):Option aPa:=bif decide (s.1<(Int.ofNat s.2.2.length)) then (aM s.2.2 s.1).bind fun a0=>(sU a0.2).bind fun b1=>bif !b1 then some (.done 8) else bif decide (a0.1<0) then some (.done 8) else bif decide (s.2.1<=a0.1) then some (.done 8) else bif decide (0<s.1) then (aM s.2.2 (aA .i64 (s.1-1))).bind fun a2=>bif decide (a0.1<=a2.1) then some (.done 8) else aG gO (s.1,0,s.2.1,s.2.2,a0) else aG gO (s.1,0,s.2.1,s.2.2,a0) else some (.done 0)
def uY (p0:bF):Option Int:=bif decide (200<(Int.ofNat p0.list.length)) then some 8 else bif decide (p0.next_<0) then some 8 else bif decide (1000000<p0.next_) then some 8 else aG rJ (0,p0.next_,p0.list)
def aRS:bR:=⟨aE.one (aP.agg qZ),aP.int .i64,fun a=>uY a,.pure,false⟩
theorem aJO:aN tab 118 aRS:=Oc aG6 rfl aJ [(99,c99)] ⟨aDd,trivial⟩ fun a=>by kernel_rfl
def uZ (s:aCW):Option aPa:=bif decide (s.2.1<(Int.ofNat s.2.2.length)) then (aM s.2.2 s.2.1).bind fun a0=>bif a0.1==s.1 then some (.done s.2.1) else some (.next (s.1,aA .i64 (s.2.1+1),s.2.2)) else some (.done (-1))
def gQ (p0:Field) (p1:Int):Option Int:=aG uZ (p1,0,p0.points)
def c25:bR:=⟨aE.cons (aP.agg dV) (aE.one (aP.int .i64)),aP.int .i64,fun a=>gQ a.1 a.2,.pure,false⟩
theorem J8:aN tab 25 c25:=Oc aOt rfl aJ [] trivial fun a=>by kernel_rfl
def rL (s:(Int×Int×cQ×cQ)):Option (bV (Int×Int×cQ×cQ) Bool):=bif decide (s.1<(Int.ofNat s.2.2.1.length)) then (aM s.2.2.1 s.1).bind fun a0=>(gQ (Field.mk s.2.2.2) a0.2.1).bind fun n1=>bif decide (n1<0) then some (.done false) else (aM s.2.2.1 s.1).bind fun a2=>(gQ (Field.mk s.2.2.2) a2.2.2).bind fun n3=>bif decide (n3<0) then some (.done false) else some (.next (aA .i64 (s.1+1),s.2)) else some (.done true)
def yY (p0:bF) (p1:Field):Option Bool:=aG rL (0,p0.next_,p0.list,p1.points)
def aRT:bR:=⟨aE.cons (aP.agg qZ) (aE.one (aP.agg dV)),aP.bool,fun a=>yY a.1 a.2,.pure,false⟩
theorem aJP:aN tab 119 aRT:=Oc aG7 rfl aJ [(25,c25)] ⟨J8,trivial⟩ fun a=>by kernel_rfl
def lT (s:aCV):Option (bV aCV (bV aCV Int)):=bif decide (s.2.1<s.1) then (aM s.2.2.1 s.2.1).bind fun n0=>bif decide (n0<0) then some (.done (.done 8)) else (aM s.2.2.1 s.2.1).bind fun n1=>bif decide (1000000<n1) then some (.done (.done 8)) else (aM s.2.2.2.1 s.2.1).bind fun b2=>(aM s.2.2.2.2.2 s.2.1).bind fun b3=>bif b2==b3 then some (.done (.done 8)) else (aM s.2.2.2.1 s.2.1).bind fun b4=>bif b4 then (aM s.2.2.1 s.2.1).bind fun n5=>bif decide (n5<1) then some (.done (.done 8)) else some (.next (s.1,aA .i64 (s.2.1+1),s.2.2)) else some (.next (s.1,aA .i64 (s.2.1+1),s.2.2)) else some (.done (.done 0))
def rM (s:aCV):Option (bV aCV Int):=bif decide (s.2.1<(Int.ofNat s.2.2.2.2.1.length)) then (aM s.2.2.2.2.1 s.2.1).bind fun n0=>bif decide (n0<0) then some (.done 8) else (aM s.2.2.2.2.1 s.2.1).bind fun n1=>bif decide (s.1<=n1) then some (.done 8) else (aM s.2.2.2.2.1 s.2.1).bind fun n2=>(aM s.2.2.2.2.2 n2).bind fun b3=>bif b3 then some (.done 8) else (aM s.2.2.2.2.1 s.2.1).bind fun n4=>(aM s.2.2.2.2.2 n4).bind fun _=>some (.next (s.1,aA .i64 (s.2.1+1),s.2.2.1,s.2.2.2.1,s.2.2.2.2.1,cD s.2.2.2.2.2 n4 true)) else aG lT (s.1,0,s.2.2)
def yZ (p0:aU):Option Int:=bif decide ((Int.ofNat p0.uses.length)<1) then some 8 else bif decide (200<(Int.ofNat p0.uses.length)) then some 8 else bif (Int.ofNat p0.used.length) !=(Int.ofNat p0.uses.length) then some 8 else bif decide ((Int.ofNat p0.uses.length)<(Int.ofNat p0.free.length)) then some 8 else bif (Int.ofNat p0.uses.length)==(Int.ofNat p0.uses.length) then (xE (Int.ofNat p0.uses.length) (false:Bool)).bind fun l0=>aG rM (Int.ofNat p0.uses.length,0,p0.uses,p0.used,p0.free,l0) else none
def aRU:bR:=⟨aE.one (aP.agg pQ),aP.int .i64,fun a=>yZ a,.pure,false⟩
theorem aJQ:aN tab 179 aRU:=Oc aHD rfl aJ [] trivial fun a=>by kernel_rfl
def xO (p0:aU) (p1:Int×Int):Option Bool:=bif decide (0<=p1.1) then bif decide (p1.1<(Int.ofNat p0.uses.length)) then (aM p0.used p1.1).bind fun b0=>bif b0 then (aM p0.uses p1.1).bind fun n1=>some (n1==p1.2) else some false else some false else some false
def aPJ:bR:=⟨aE.cons (aP.agg pQ) (aE.one (aP.agg (cY.row kA))),aP.bool,fun a=>xO a.1 a.2,.pure,false⟩
theorem aAj:aN tab 183 aPJ:=Oc aHH rfl aJ [] trivial fun a=>by kernel_rfl
def pT (s:aQ0):Option (bV aQ0 Bool):=bif decide (s.2.1<s.1) then (aM s.2.2.2.1 s.2.1).bind fun b0=>bif !b0 then (aM s.2.2.2.2.2.2 s.2.1).bind fun n1=>bif n1 !=(-1) then some (.done false) else some (.next (s.1,aA .i64 (s.2.1+1),s.2.2)) else (aM s.2.2.2.2.2.2 s.2.1).bind fun n2=>bif decide (n2<0) then some (.done false) else bif decide ((Int.ofNat s.2.2.2.2.2.1.length)<=n2) then some (.done false) else (aM s.2.2.2.2.2.1 n2).bind fun a3=>bif a3.2.2.2.1 !=s.2.1 then some (.done false) else (aM s.2.2.2.2.2.1 n2).bind fun a4=>(xO (aU.mk s.2.2.1 s.2.2.2.1 s.2.2.2.2.1) a4.2.2.2).bind fun b5=>bif !b5 then some (.done false) else some (.next (s.1,aA .i64 (s.2.1+1),s.2.2)) else some (.done true)
def wN (p0:aK):Option Bool:=bif (Int.ofNat p0.where_.length) !=(Int.ofNat p0.slots.uses.length) then some false else bif (Int.ofNat p0.heap.length) !=(aA .i64 ((Int.ofNat p0.slots.uses.length) - (Int.ofNat p0.slots.free.length))) then some false else aG pT (Int.ofNat p0.slots.uses.length,0,p0.slots.uses,p0.slots.used,p0.slots.free,p0.heap,p0.where_)
def aRV:bR:=⟨aE.one (aP.agg hH),aP.bool,fun a=>wN a,.pure,false⟩
theorem aJR:aN tab 180 aRV:=Oc aHE rfl aJ [(183,aPJ)] ⟨aAj,trivial⟩ fun a=>by kernel_rfl
def tU (p0:Int) (p1:Int):Option (Bool×Int×Int):=some (false,aA .u64 ((aA .u64 ((aA .u64 ((aA .u64 (Int.tdiv p0 4294967296))*(aA .u64 (Int.tdiv p1 4294967296))))+(aA .u64 (Int.tdiv (aA .u64 ((aA .u64 ((aA .u64 (Int.tdiv p0 4294967296))*(Int.tmod p1 4294967296)))+(aA .u64 (Int.tdiv (aA .u64 ((Int.tmod p0 4294967296)*(Int.tmod p1 4294967296))) 4294967296)))) 4294967296))))+(aA .u64 (Int.tdiv (aA .u64 ((aA .u64 ((Int.tmod p0 4294967296)*(aA .u64 (Int.tdiv p1 4294967296))))+(Int.tmod (aA .u64 ((aA .u64 ((aA .u64 (Int.tdiv p0 4294967296))*(Int.tmod p1 4294967296)))+(aA .u64 (Int.tdiv (aA .u64 ((Int.tmod p0 4294967296)*(Int.tmod p1 4294967296))) 4294967296)))) 4294967296))) 4294967296))),aA .u64 ((aA .u64 ((Int.tmod (aA .u64 ((aA .u64 ((Int.tmod p0 4294967296)*(aA .u64 (Int.tdiv p1 4294967296))))+(Int.tmod (aA .u64 ((aA .u64 ((aA .u64 (Int.tdiv p0 4294967296))*(Int.tmod p1 4294967296)))+(aA .u64 (Int.tdiv (aA .u64 ((Int.tmod p0 4294967296)*(Int.tmod p1 4294967296))) 4294967296)))) 4294967296))) 4294967296)*4294967296))+(Int.tmod (aA .u64 ((Int.tmod p0 4294967296)*(Int.tmod p1 4294967296))) 4294967296)))
def aRW:bR:=⟨aE.cons (aP.int .u64) (aE.one (aP.int .u64)),aP.agg (cY.row D5),fun a=>tU a.1 a.2,.pure,false⟩
theorem aJS:aN tab 151 aRW:=Oc aHp rfl aJ [] trivial fun a=>by kernel_rfl
def kY (p0:Int) (p1:Int):Option (Bool×Int×Int):=(iX p0).bind fun n0=>(iX p1).bind fun n1=>(tU n0 n1).bind fun a2=>bif !((decide (p0<0))==(decide (p1<0))) then bif p0 !=0 then some (p1 !=0,a2.2) else some (false,a2.2) else some (false,a2.2)
def c95:bR:=⟨aE.cons (aP.int .i64) (aE.one (aP.int .i64)),aP.agg (cY.row D5),fun a=>kY a.1 a.2,.pure,false⟩
theorem aDe:aN tab 95 c95:=Oc aO4 rfl aJ [(70,c70),(151,aRW)] ⟨X3,aJS,trivial⟩ fun a=>by kernel_rfl
def mQ (p0:Bool×Int×Int):Option Int:=bif p0.2.1==0 then bif p0.2.2==0 then some 0 else bif p0.1 then some (-1) else some 1 else bif p0.1 then some (-1) else some 1
def c96:bR:=⟨aE.one (aP.agg (cY.row D5)),aP.int .i64,fun a=>mQ a,.pure,false⟩
theorem aDf:aN tab 96 c96:=Oc aO5 rfl aJ [] trivial fun a=>by kernel_rfl
def sV (p0:Bool×Int×Int) (p1:Bool×Int×Int):Option Int:=bif p0.2.1 !=p1.2.1 then bif decide (p0.2.1<p1.2.1) then some (-1) else some 1 else bif p0.2.2 !=p1.2.2 then bif decide (p0.2.2<p1.2.2) then some (-1) else some 1 else some 0
def c97:bR:=⟨aE.cons (aP.agg (cY.row D5)) (aE.one (aP.agg (cY.row D5))),aP.int .i64,fun a=>sV a.1 a.2,.pure,false⟩
theorem aDg:aN tab 97 c97:=Oc aO6 rfl aJ [] trivial fun a=>by kernel_rfl
def nI (p0:Int×Int) (p1:Int×Int):Option Int:=(kY p0.1 p1.2).bind fun a0=>(kY p1.1 p0.2).bind fun a1=>(mQ a0).bind fun n2=>(mQ a1).bind fun n3=>bif n2 !=n3 then (mQ a0).bind fun n4=>(mQ a1).bind fun n5=>bif decide (n4<n5) then some (-1) else some 1 else (mQ a0).bind fun n6=>bif decide (n6<0) then (sV a1 a0).bind fun n7=>some n7 else (sV a0 a1).bind fun n8=>some n8
def c45:bR:=⟨aE.cons (aP.agg (cY.row kA)) (aE.one (aP.agg (cY.row kA))),aP.int .i64,fun a=>nI a.1 a.2,.pure,false⟩
theorem aDh:aN tab 45 c45:=Oc aOA rfl aJ [(95,c95),(96,c96),(97,c97)] ⟨aDe,aDf,aDg,trivial⟩ fun a=>by kernel_rfl
def eX (p0:Int×Int×Int×Int×Int) (p1:Int×Int×Int×Int×Int):Option Bool:=(nI (p0.1,p0.2.1) (p1.1,p1.2.1)).bind fun n0=>bif decide (n0<0) then some true else bif n0==0 then some (decide (p0.2.2.1<p1.2.2.1)) else some false
def aRX:bR:=⟨aE.cons (aP.agg (cY.row kU)) (aE.one (aP.agg (cY.row kU))),aP.bool,fun a=>eX a.1 a.2,.pure,false⟩
theorem aJT:aN tab 181 aRX:=Oc aHF rfl aJ [(45,c45)] ⟨aDh,trivial⟩ fun a=>by kernel_rfl
def lU (s:aQX):Option (bV aQX aO9):=bif decide (s.2.1<s.1) then (aM s.2.2.2.2.2.1 s.2.1).bind fun a0=>bif a0.2.2.1==s.2.2.2.2.2.2.2.2.2.1 then some (.done (.done 8)) else some (.next (s.1,aA .i64 (s.2.1+1),s.2.2)) else some (.done (.next (aA .i64 (s.1+1),s.2.2.1,s.2.2.2.1,s.2.2.2.2.1,s.2.2.2.2.2.1,s.2.2.2.2.2.2.1)))
def lV (s:aIP):Option (bV aIP aO9):=bif decide (s.1<(Int.ofNat s.2.2.2.2.1.length)) then (aM s.2.2.2.2.1 s.1).bind fun a0=>(aM s.2.2.2.2.1 (aA .i64 (Int.tdiv (aA .i64 (s.1-1)) 2))).bind fun a1=>(eX a0 a1).bind fun b2=>bif b2 then some (.done (.done 8)) else some (.next (aA .i64 (s.1+1),s.2)) else some (.done (.done 0))
def rN (s:aIP):Option aO9:=bif decide (s.1<(Int.ofNat s.2.2.2.2.1.length)) then (aM s.2.2.2.2.1 s.1).bind fun a0=>(qM (a0.1,a0.2.1)).bind fun n1=>bif n1 !=0 then some (.done 8) else bif decide (a0.2.2.1<0) then some (.done 8) else bif decide (1000000<a0.2.2.1) then some (.done 8) else aG lU (s.1,0,s.2.1,s.2.2.1,s.2.2.2.1,s.2.2.2.2.1,s.2.2.2.2.2,a0) else aG lV (1,s.2)
def vA (p0:aK):Option Int:=(yZ p0.slots).bind fun n0=>bif n0 !=0 then some 8 else (wN p0).bind fun b1=>bif !b1 then some 8 else aG rN (0,p0.slots.uses,p0.slots.used,p0.slots.free,p0.heap,p0.where_)
def aPK:bR:=⟨aE.one (aP.agg hH),aP.int .i64,fun a=>vA a,.pure,false⟩
theorem aAk:aN tab 120 aPK:=Oc aG8 rfl aJ [(179,aRU),(180,aRV),(24,c24),(181,aRX)] ⟨aJQ,aJR,X4,aJT,trivial⟩ fun a=>by kernel_rfl
def vB (p0:Bool×Int×Int) (p1:Bool×Int×Int):Option (Bool×Int×Int):=bif decide (p0.2.2<p1.2.2) then some (false,aA .u64 ((aA .u64 (p0.2.1-p1.2.1)) -1),aA .u64 (p0.2.2-p1.2.2)) else some (false,aA .u64 (p0.2.1-p1.2.1),aA .u64 (p0.2.2-p1.2.2))
def aRY:bR:=⟨aE.cons (aP.agg (cY.row D5)) (aE.one (aP.agg (cY.row D5))),aP.agg (cY.row D5),fun a=>vB a.1 a.2,.pure,false⟩
theorem aJU:aN tab 246 aRY:=Oc aIp rfl aJ [] trivial fun a=>by kernel_rfl
def CD (p0:Bool×Int×Int) (p1:Bool×Int×Int):Option (Bool×Int×Int):=bif p0.1==p1.1 then bif decide ((aA .u64 (p0.2.2+p1.2.2))<p0.2.2) then some (p0.1,aA .u64 ((aA .u64 (p0.2.1+p1.2.1))+1),aA .u64 (p0.2.2+p1.2.2)) else some (p0.1,aA .u64 (p0.2.1+p1.2.1),aA .u64 (p0.2.2+p1.2.2)) else (sV p0 p1).bind fun n0=>bif decide (0<=n0) then (vB p0 p1).bind fun a1=>bif p0.1 then bif decide (0<a1.2.1) then some (true,a1.2) else some (decide (0<a1.2.2),a1.2) else some (false,a1.2) else (vB p1 p0).bind fun a2=>some (p1.1,a2.2)
def aRZ:bR:=⟨aE.cons (aP.agg (cY.row D5)) (aE.one (aP.agg (cY.row D5))),aP.agg (cY.row D5),fun a=>CD a.1 a.2,.pure,false⟩
theorem aJV:aN tab 205 aRZ:=Oc aH0 rfl aJ [(97,c97),(246,aRY)] ⟨aDg,aJU,trivial⟩ fun a=>by kernel_rfl
def FE (p0:Int×Int×Int) (p1:Int×Int×Int) (p2:Int×Int):Option Int:=(kY (aA .i64 (p0.2.1-p1.2.1)) p2.2).bind fun a0=>(kY (aA .i64 (p0.2.2-p1.2.2)) p2.1).bind fun a1=>(CD a0 a1).bind fun a2=>(mQ a2).bind fun n3=>some n3
def aR0:bR:=⟨aE.cons (aP.agg (cY.row fU)) (aE.cons (aP.agg (cY.row fU)) (aE.one (aP.agg (cY.row kA)))),aP.int .i64,fun a=>FE a.1 a.2.1 a.2.2,.pure,false⟩
theorem aJW:aN tab 155 aR0:=Oc aHs rfl aJ [(95,c95),(205,aRZ),(96,c96)] ⟨aDe,aJV,aDf,trivial⟩ fun a=>by kernel_rfl
def oG (p0:Int×Int×Int) (p1:Int×Int×Int) (p2:Int×Int):Option Bool:=(FE p0 p1 p2).bind fun n0=>bif n0 !=0 then some (decide (0<n0)) else bif p0.2.2 !=p1.2.2 then some (decide (p1.2.2<p0.2.2)) else some (decide (p0.1<p1.1))
def aDi:bR:=⟨aE.cons (aP.agg (cY.row fU)) (aE.cons (aP.agg (cY.row fU)) (aE.one (aP.agg (cY.row kA)))),aP.bool,fun a=>oG a.1 a.2.1 a.2.2,.pure,false⟩
theorem L2:aN tab 100 aDi:=Oc aGX rfl aJ [(155,aR0)] ⟨aJW,trivial⟩ fun a=>by kernel_rfl
def sW (p0:Bool) (p1:Bool×Int×Int) (p2:Bool×Int×Int):Option ((Int×Int)×Int):=bif decide (0<p1.2.1) then some ((0,0),16) else bif decide (9223372036854775807<p1.2.2) then some ((0,0),16) else bif decide (0<p2.2.1) then some ((0,0),16) else bif decide (9223372036854775807<p2.2.2) then some ((0,0),16) else bif p0 then some ((aA .i64 (0- (aA .i64 p1.2.2)),aA .i64 p2.2.2),0) else some ((aA .i64 p1.2.2,aA .i64 p2.2.2),0)
def aR1:bR:=⟨aE.cons aP.bool (aE.cons (aP.agg (cY.row D5)) (aE.one (aP.agg (cY.row D5)))),aP.tup (aE.cons (aP.agg (cY.row kA)) (aE.one (aP.int .i64))),fun a=>sW a.1 a.2.1 a.2.2,.pure,false⟩
theorem aJX:aN tab 285 aR1:=Oc aII rfl aJ [] trivial fun a=>by kernel_rfl
def oH (p0:Int) (p1:Int):Option ((Int×Int)×Int):=bif p1==0 then some ((0,0),26) else (iX p0).bind fun n0=>(iX p1).bind fun n1=>(rI n0 n1).bind fun n2=>bif !((decide (p0<0))==(decide (p1<0))) then (iX p0).bind fun n3=>bif n2==0 then none else (iX p1).bind fun n4=>bif n2==0 then none else (sW (p0 !=0) (false,0,aA .u64 (Int.tdiv n3 n2)) (false,0,aA .u64 (Int.tdiv n4 n2))).bind fun a5=>some a5 else (iX p0).bind fun n6=>bif n2==0 then none else (iX p1).bind fun n7=>bif n2==0 then none else (sW false (false,0,aA .u64 (Int.tdiv n6 n2)) (false,0,aA .u64 (Int.tdiv n7 n2))).bind fun a8=>some a8
def aR2:bR:=⟨aE.cons (aP.int .i64) (aE.one (aP.int .i64)),aP.tup (aE.cons (aP.agg (cY.row kA)) (aE.one (aP.int .i64))),fun a=>oH a.1 a.2,.pure,false⟩
theorem aJY:aN tab 265 aR2:=Oc aIy rfl aJ [(70,c70),(69,c69),(285,aR1)] ⟨X3,aDc,aJX,trivial⟩ fun a=>by kernel_rfl
def FF (p0:Int×Int×Int) (p1:Int×Int×Int):Option (Int×Int):=(oH (aA .i64 (p0.2.1-p1.2.1)) (aA .i64 (p1.2.2-p0.2.2))).bind fun a0=>some a0.1
def aR3:bR:=⟨aE.cons (aP.agg (cY.row fU)) (aE.one (aP.agg (cY.row fU))),aP.agg (cY.row kA),fun a=>FF a.1 a.2,.pure,false⟩
theorem aJZ:aN tab 226 aR3:=Oc aId rfl aJ [(265,aR2)] ⟨aJY,trivial⟩ fun a=>by kernel_rfl
def tV (p0:Int×Int×Int) (p1:Int×Int×Int) (p2:Int×Int):Option ((Int×Int)×Bool):=(oG p1 p0 p2).bind fun b0=>bif b0 then some (p2,true) else bif decide (p0.2.2<p1.2.2) then (FF p0 p1).bind fun a1=>some (a1,true) else some ((0,0),false)
def aR4:bR:=⟨aE.cons (aP.agg (cY.row fU)) (aE.cons (aP.agg (cY.row fU)) (aE.one (aP.agg (cY.row kA)))),aP.tup (aE.cons (aP.agg (cY.row kA)) (aE.one aP.bool)),fun a=>tV a.1 a.2.1 a.2.2,.pure,false⟩
theorem aJ0:aN tab 182 aR4:=Oc aHG rfl aJ [(100,aDi),(226,aR3)] ⟨L2,aJZ,trivial⟩ fun a=>by kernel_rfl
def sX (p0:Field) (p1:Int×Int) (p2:Int×Int):Option ((Int×Int)×Bool):=(gQ p0 p1.2).bind fun n0=>(aM p0.points n0).bind fun a1=>(gQ p0 p1.1).bind fun n2=>(aM p0.points n2).bind fun a3=>(tV a1 a3 p2).bind fun a4=>some a4
def aR5:bR:=⟨aE.cons (aP.agg dV) (aE.cons (aP.agg (cY.row kA)) (aE.one (aP.agg (cY.row kA)))),aP.tup (aE.cons (aP.agg (cY.row kA)) (aE.one aP.bool)),fun a=>sX a.1 a.2.1 a.2.2,.pure,false⟩
theorem aJ1:aN tab 121 aR5:=Oc aG9 rfl aJ [(25,c25),(182,aR4)] ⟨J8,aJ0,trivial⟩ fun a=>by kernel_rfl
def xP (p0:aK) (p1:Int×Int):Option ((Int×Int×Int×Int×Int)×Int):=(vA p0).bind fun n0=>bif n0 !=0 then some ((0,0,0,0,0),8) else (xO p0.slots p1).bind fun b1=>bif !b1 then some ((0,0,0,0,0),6) else (aM p0.where_ p1.1).bind fun n2=>(aM p0.heap n2).bind fun a3=>some (a3,0)
def aR6:bR:=⟨aE.cons (aP.agg hH) (aE.one (aP.agg (cY.row kA))),aP.tup (aE.cons (aP.agg (cY.row kU)) (aE.one (aP.int .i64))),fun a=>xP a.1 a.2,.pure,false⟩
theorem aJ2:aN tab 122 aR6:=Oc aHa rfl aJ [(120,aPK),(183,aPJ)] ⟨aAk,aAj,trivial⟩ fun a=>by kernel_rfl
def dP (s:aQJ):Option (bV aQJ Int):=bif decide (s.2.1<(Int.ofNat s.2.2.2.2.2.2.1.length)) then (aM s.2.2.2.2.2.2.1 s.2.1).bind fun a0=>(sX (Field.mk s.2.2.2.2.1) a0.2 (s.2.2.1,s.2.2.2.1)).bind fun a1=>bif !a1.2 then some (.next (s.1,aA .i64 (s.2.1+1),s.2.2)) else bif decide ((Int.ofNat s.2.2.2.2.2.2.2.2.2.2.2.2.length)<=s.1) then some (.done 8) else (aM s.2.2.2.2.2.2.2.2.2.2.2.2 s.1).bind fun a2=>bif a2.1 !=a0.1 then some (.done 8) else (aM s.2.2.2.2.2.2.2.2.2.2.2.2 s.1).bind fun a3=>(xP (aK.mk (aU.mk s.2.2.2.2.2.2.2.1 s.2.2.2.2.2.2.2.2.1 s.2.2.2.2.2.2.2.2.2.1) s.2.2.2.2.2.2.2.2.2.2.1 s.2.2.2.2.2.2.2.2.2.2.2.1) a3.2).bind fun a4=>bif a4.2 !=0 then some (.done 8) else bif a4.1.2.2.1 !=a0.1 then some (.done 8) else bif !((a4.1.1==a1.1.1)&&(a4.1.2.1==a1.1.2)) then some (.done 8) else some (.next (aA .i64 (s.1+1),aA .i64 (s.2.1+1),s.2.2)) else bif s.1 !=(Int.ofNat s.2.2.2.2.2.2.2.2.2.2.2.2.length) then some (.done 8) else some (.done 0)
def zA (p0:aL):Option Int:=(qM p0.now).bind fun n0=>bif n0 !=0 then some 8 else (yX p0.field).bind fun n1=>bif n1 !=0 then some 8 else (uY p0.certs).bind fun n2=>bif n2 !=0 then some 8 else (yY p0.certs p0.field).bind fun b3=>bif !b3 then some 8 else (vA p0.agenda).bind fun n4=>bif n4 !=0 then some 8 else bif (Int.ofNat p0.agenda.where_.length) !=200 then some 8 else bif (Int.ofNat p0.agenda.heap.length) !=(Int.ofNat p0.due.length) then some 8 else aG dP (0,0,p0.now.1,p0.now.2,p0.field.points,p0.certs.next_,p0.certs.list,p0.agenda.slots.uses,p0.agenda.slots.used,p0.agenda.slots.free,p0.agenda.heap,p0.agenda.where_,p0.due)
def c65:bR:=⟨aE.one (aP.agg dF),aP.int .i64,fun a=>zA a,.pure,false⟩
theorem aPL:aN tab 65 c65:=Oc aOP rfl aJ [(24,c24),(23,c23),(118,aRS),(119,aRT),(120,aPK),(121,aR5),(122,aR6)] ⟨X4,aPH,aJO,aJP,aAk,aJ1,aJ2,trivial⟩ fun a=>by kernel_rfl
def nA (s:(Int×Int×cQ×Int×Int×Int×Int×Int)):Option (bV (Int×Int×cQ×Int×Int×Int×Int×Int) Int):=bif decide (s.2.1<(Int.ofNat s.2.2.1.length)) then (aM s.2.2.1 s.2.1).bind fun a0=>bif a0.1 !=s.2.2.2.1 then (aM s.2.2.1 s.2.1).bind fun a1=>(oG a1 (s.2.2.2.1,s.2.2.2.2.1,s.2.2.2.2.2.1) s.2.2.2.2.2.2).bind fun b2=>bif b2 then some (.next (aA .i64 (s.1+1),aA .i64 (s.2.1+1),s.2.2)) else some (.next (s.1,aA .i64 (s.2.1+1),s.2.2)) else some (.next (s.1,aA .i64 (s.2.1+1),s.2.2)) else some (.done s.1)
def wO (p0:Field) (p1:Int×Int×Int) (p2:Int×Int):Option Int:=aG nA (0,0,p0.points,p1.1,p1.2.1,p1.2.2,p2)
def aR7:bR:=⟨aE.cons (aP.agg dV) (aE.cons (aP.agg (cY.row fU)) (aE.one (aP.agg (cY.row kA)))),aP.int .i64,fun a=>wO a.1 a.2.1 a.2.2,.pure,false⟩
theorem aJ3:aN tab 111 aR7:=Oc aG1 rfl aJ [(100,aDi)] ⟨L2,trivial⟩ fun a=>by kernel_rfl
def lW (s:(Int×cQ×Int×Int×(List Int))):Option (bV (Int×cQ×Int×Int×(List Int)) (List Int)):=bif decide (s.1<(Int.ofNat s.2.1.length)) then (aM s.2.1 s.1).bind fun a0=>(wO (Field.mk s.2.1) a0 (s.2.2.1,s.2.2.2.1)).bind fun n1=>(aM s.2.1 s.1).bind fun a2=>(aM s.2.2.2.2 n1).bind fun _=>some (.next (aA .i64 (s.1+1),s.2.1,s.2.2.1,s.2.2.2.1,cD s.2.2.2.2 n1 a2.1)) else some (.done s.2.2.2.2)
def tX (p0:Field) (p1:Int×Int):Option (List Int):=bif (Int.ofNat p0.points.length)==(Int.ofNat p0.points.length) then (xE (Int.ofNat p0.points.length) (0:Int)).bind fun l0=>aG lW (0,p0.points,p1.1,p1.2,l0) else none
def c60:bR:=⟨aE.cons (aP.agg dV) (aE.one (aP.agg (cY.row kA))),aP.sl ki,fun a=>tX a.1 a.2,.frz,false⟩
theorem aPM:aN tab 60 c60:=Oc aOL rfl aJ [(111,aR7)] ⟨aJ3,trivial⟩ fun a=>by kernel_rfl
def pJ (c0:(((List Int)×Int×Int)->(Option hO))) (s:((List Int)×Int×Int×Int×hO×(List Int))):Option (bV ((List Int)×Int×Int×Int×hO×(List Int)) (bV aPb hO)):=bif decide (s.2.2.2.1<(Int.ofNat s.1.length)) then (aM s.1 s.2.2.2.1).bind fun n0=>bif decide (s.2.1<0) then none else bif (Int.tmod (fN .i64 n0 s.2.1) 2)==s.2.2.1 then (aM s.1 s.2.2.2.1).bind fun n1=>(bL s.2.2.2.2.2 [n1]).bind fun l2=>some (.next (s.1,s.2.1,s.2.2.1,aA .i64 (s.2.2.2.1+1),s.2.2.2.2.1,l2)) else some (.next (s.1,s.2.1,s.2.2.1,aA .i64 (s.2.2.2.1+1),s.2.2.2.2)) else (aM s.1 0).bind fun n3=>(c0 (s.2.2.2.2.2,n3,aA .i64 (s.2.1+1))).bind fun l4=>bif l4.isEmpty then some (.done (.next (s.1,s.2.1,aA .i64 (s.2.2.1+1),s.2.2.2.2.1))) else (bL s.2.2.2.2.1 l4).bind fun l5=>some (.done (.next (s.1,s.2.1,aA .i64 (s.2.2.1+1),l5)))
def tY (c0:(((List Int)×Int×Int)->(Option hO))) (s:aPb):Option (bV aPb hO):=bif decide (s.2.2.1<2) then aG (pJ c0) (s.1,s.2.1,s.2.2.1,1,s.2.2.2,[]) else some (.done s.2.2.2)
def CE (self:(List Int)×Int×Int->Option hO) (a:(List Int)×Int×Int):Option hO:=bif (Int.ofNat a.1.length)==0 then some [] else (aM a.1 0).bind fun n0=>aG (tY self) (a.1,a.2.2,0,[(n0,a.2.1)])
def iA:Nat->(List Int)×Int×Int->Option hO |0,_=>none |n+1,a=>CE (iA n) a
def G4 (p0:List Int) (p1:Int) (p2:Int):Option hO:=iA 1000000 (p0,p1,p2)
def aR8:bR:=⟨aE.cons (aP.sl ki) (aE.cons (aP.int .i64) (aE.one (aP.int .i64))),aP.sl kA,fun a=>G4 a.1 a.2.1 a.2.2,.frz,false⟩
theorem VC: ∀n,aN tab 123 ⟨aE.cons (aP.sl ki) (aE.cons (aP.int .i64) (aE.one (aP.int .i64))),aP.sl kA,fun a=>iA n a,.frz,false⟩
 |0=>aN.zero (fun _=>rfl)
 |n+1=>Oc aHb rfl aJ [(123,⟨aE.cons (aP.sl ki) (aE.cons (aP.int .i64) (aE.one (aP.int .i64))),aP.sl kA,fun a=>iA n a,.frz,false⟩)] ⟨(VC n),trivial⟩ fun a=>by kernel_rfl
theorem aJ4:aN tab 123 aR8:=VC 1000000
def zB (s:(hO×Int×cQ×(List Int))):Option (bV (hO×Int×cQ×(List Int)) (List Int)):=bif decide (s.2.1<(Int.ofNat s.1.length)) then (aM s.1 s.2.1).bind fun a0=>(gQ (Field.mk s.2.2.1) a0.1).bind fun n1=>(aM s.1 s.2.1).bind fun a2=>(aM s.2.2.2 n1).bind fun _=>some (.next (s.1,aA .i64 (s.2.1+1),s.2.2.1,cD s.2.2.2 n1 a2.2)) else some (.done s.2.2.2)
def A5 (p0:Field) (p1:Int×Int):Option (List Int):=(tX p0 p1).bind fun l0=>(G4 l0 (-1) 0).bind fun l1=>bif (Int.ofNat p0.points.length)==(Int.ofNat p0.points.length) then (xE (Int.ofNat p0.points.length) (0:Int)).bind fun l2=>aG zB (l1,0,p0.points,l2) else none
def c66:bR:=⟨aE.cons (aP.agg dV) (aE.one (aP.agg (cY.row kA))),aP.sl ki,fun a=>A5 a.1 a.2,.frz,false⟩
theorem aPN:aN tab 66 c66:=Oc aOQ rfl aJ [(60,c60),(123,aR8),(25,c25)] ⟨aPM,aJ4,J8,trivial⟩ fun a=>by kernel_rfl
def zC (s:((List Int)×Int×cQ×hO)):Option (bV ((List Int)×Int×cQ×hO) hO):=bif decide (s.2.1<(Int.ofNat s.1.length)) then (aM s.1 s.2.1).bind fun n0=>bif decide (0<=n0) then (aM s.2.2.1 s.2.1).bind fun a1=>(aM s.1 s.2.1).bind fun n2=>(bL s.2.2.2 [(a1.1,n2)]).bind fun l3=>some (.next (s.1,aA .i64 (s.2.1+1),s.2.2.1,l3)) else some (.next (s.1,aA .i64 (s.2.1+1),s.2.2)) else some (.done s.2.2.2)
def A6 (p0:Field) (p1:List Int):Option hO:=aG zC (p1,0,p0.points,[])
def c58:bR:=⟨aE.cons (aP.agg dV) (aE.one (aP.sl ki)),aP.sl kA,fun a=>A6 a.1 a.2,.frz,false⟩
theorem aPO:aN tab 58 c58:=Oc aOJ rfl aJ [] trivial fun a=>by kernel_rfl
def wP (s:aIS):Option (bV aIS Bool):=bif decide (s.1<(Int.ofNat s.2.2.1.length)) then (aM s.2.2.1 s.1).bind fun a0=>bif (a0.2.1==s.2.2.2.1)&&(a0.2.2==s.2.2.2.2) then some (.done true) else some (.next (aA .i64 (s.1+1),s.2)) else some (.done false)
def wW (p0:bF) (p1:Int×Int):Option Bool:=aG wP (0,p0.next_,p0.list,p1)
def aR9:bR:=⟨aE.cons (aP.agg qZ) (aE.one (aP.agg (cY.row kA))),aP.bool,fun a=>wW a.1 a.2,.pure,false⟩
theorem aJ5:aN tab 124 aR9:=Oc aHc rfl aJ [] trivial fun a=>by kernel_rfl
def CF (p0:Int×Int) (p1:Field) (p2:Int×Int):Option Bool:=(gQ p1 p0.2).bind fun n0=>(aM p1.points n0).bind fun a1=>(gQ p1 p0.1).bind fun n2=>(aM p1.points n2).bind fun a3=>(oG a1 a3 p2).bind fun b4=>some b4
def aSa:bR:=⟨aE.cons (aP.agg (cY.row kA)) (aE.cons (aP.agg dV) (aE.one (aP.agg (cY.row kA)))),aP.bool,fun a=>CF a.1 a.2.1 a.2.2,.pure,false⟩
theorem aJ6:aN tab 125 aSa:=Oc aHd rfl aJ [(25,c25),(100,aDi)] ⟨J8,L2,trivial⟩ fun a=>by kernel_rfl
def tZ (s:Zt9):Option (bV Zt9 Bool):=bif decide (s.2.1<(Int.ofNat s.1.length)) then (aM s.1 s.2.1).bind fun a0=>(wW (bF.mk s.2.2.2.2.2.1 s.2.2.2.2.2.2.1) a0).bind fun b1=>bif !b1 then some (.done false) else (aM s.1 s.2.1).bind fun a2=>(CF a2 (Field.mk s.2.2.2.2.1) (s.2.2.1,s.2.2.2.1)).bind fun b3=>bif !b3 then some (.done false) else some (.next (s.1,aA .i64 (s.2.1+1),s.2.2)) else some (.done true)
def CG (p0:aL) (p1:List (Int×Int)):Option Bool:=bif (Int.ofNat p0.certs.list.length) !=(Int.ofNat p1.length) then some false else aG tZ (p1,0,p0.now.1,p0.now.2,p0.field.points,p0.certs.next_,p0.certs.list,p0.agenda.slots.uses,p0.agenda.slots.used,p0.agenda.slots.free,p0.agenda.heap,p0.agenda.where_,p0.due)
def c67:bR:=⟨aE.cons (aP.agg dF) (aE.one (aP.sl kA)),aP.bool,fun a=>CG a.1 a.2,.pure,false⟩
theorem aPP:aN tab 67 c67:=Oc aOR rfl aJ [(124,aR9),(125,aSa)] ⟨aJ5,aJ6,trivial⟩ fun a=>by kernel_rfl
def qN (p0:cB):Option Int:=(zA p0.clock).bind fun n0=>bif n0 !=0 then some 8 else (A5 p0.clock.field p0.clock.now).bind fun l1=>(kX l1 p0.up).bind fun b2=>bif !b2 then some 8 else (A6 p0.clock.field l1).bind fun l3=>(CG p0.clock l3).bind fun b4=>bif !b4 then some 8 else some 0
def c20:bR:=⟨aE.one (aP.agg kG),aP.int .i64,fun a=>qN a,.pure,false⟩
theorem aDj:aN tab 20 c20:=Oc aOo rfl aJ [(65,c65),(66,c66),(41,c41),(58,c58),(67,c67)] ⟨aPL,aPN,X2,aPO,aPP,trivial⟩ fun a=>by kernel_rfl
def A7 (p0:cB):Option Bool:=(uX p0).bind fun b0=>bif !b0 then (G3 p0.clock.field).bind fun b1=>bif !b1 then (qN p0).bind fun n2=>some (n2==0) else some false else some false
def c36:bR:=⟨aE.one (aP.agg kG),aP.bool,fun a=>A7 a,.pure,false⟩
theorem aPQ:aN tab 36 c36:=Oc aOw rfl aJ [(11,c11),(26,c26),(20,c20)] ⟨aPE,aPF,aDj,trivial⟩ fun a=>by kernel_rfl
def LM (p0:Int):Option Int:=bif decide (65536<=p0) then bif decide (256<=(fN .u32 p0 16)) then (vY vQ (aA .u8 (fN .u32 (fN .u32 p0 16) 8))).bind fun n0=>some (aA .i64 (24+(aA .i64 n0))) else (vY vQ (aA .u8 (fN .u32 p0 16))).bind fun n1=>some (aA .i64 (16+(aA .i64 n1))) else bif decide (256<=p0) then (vY vQ (aA .u8 (fN .u32 p0 8))).bind fun n2=>some (aA .i64 (8+(aA .i64 n2))) else (vY vQ (aA .u8 p0)).bind fun n3=>some (aA .i64 (0+(aA .i64 n3)))
def aSb:bR:=⟨aE.one (aP.int .u32),aP.int .i64,fun a=>LM a,.pure,false⟩
theorem aJ7:aN tab 243 aSb:=Oc aIm rfl aJ [] trivial fun a=>by kernel_rfl
end
end
end Go.Proofs.YtbncnimfgdelaaaGreat
