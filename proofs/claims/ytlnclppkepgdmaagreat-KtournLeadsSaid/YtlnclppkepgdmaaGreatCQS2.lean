/- Plain functions for what the functions of the seat compute. Printed by a program. -/
import Derived.Test.YtlnclppkepgdmaaGreatCVm3
import Derived.Test.YtlnclppkepgdmaaGreatCQXT
import Derived.Test.YtlnclppkepgdmaaGreatCQS1
open Int renaming ofNat->aa
set_option maxRecDepth 100000
namespace Go.Proofs.YtlnclppkepgdmaaGreat
open Go.Vm
noncomputable section
abbrev wV:ByteArray:=ByteArray.mk (Array.mk [0,1,2,2,3,3,3,3,4,4,4,4,4,4,4,4,5,5,5,5,5,5,5,5,5,5,5,5,5,5,5,5,6,6,6,6,6,6,6,6,6,6,6,6,6,6,6,6,6,6,6,6,6,6,6,6,6,6,6,6,6,6,6,6,7,7,7,7,7,7,7,7,7,7,7,7,7,7,7,7,7,7,7,7,7,7,7,7,7,7,7,7,7,7,7,7,7,7,7,7,7,7,7,7,7,7,7,7,7,7,7,7,7,7,7,7,7,7,7,7,7,7,7,7,7,7,7,7,8,8,8,8,8,8,8,8,8,8,8,8,8,8,8,8,8,8,8,8,8,8,8,8,8,8,8,8,8,8,8,8,8,8,8,8,8,8,8,8,8,8,8,8,8,8,8,8,8,8,8,8,8,8,8,8,8,8,8,8,8,8,8,8,8,8,8,8,8,8,8,8,8,8,8,8,8,8,8,8,8,8,8,8,8,8,8,8,8,8,8,8,8,8,8,8,8,8,8,8,8,8,8,8,8,8,8,8,8,8,8,8,8,8,8,8,8,8,8,8,8,8,8,8,8,8,8,8])
section
variable [LP]
def sG (s:(Int×Int)):Option (bS (Int×Int) Bool):=bif decide (s.2<=64) then bif s.1==s.2 then some (.done true) else some (.next (s.1,aA .i64 (s.2*2))) else some (.done false)
def AM (p0:Int):Option Bool:=aG sG (p0,1)
def c77:bV:=⟨aF.one (aM.int .i64),aM.bool,fun a=>AM a,.pure,false⟩
theorem aTf:aJ tab 77 c77:=Oc aSi rfl aI [] trivial fun a=>by kernel_rfl
def sH (s:((List Int)×Int×cT)):Option (bS ((List Int)×Int×cT) Bool):=bif decide (s.2.1<(aa s.1.length)) then (aL s.1 s.2.1).bind fun n0=>bif n0 !=(-1) then (aL s.1 s.2.1).bind fun n1=>(fZ (Field.mk s.2.2) n1).bind fun n2=>bif decide (n2<0) then some (.done false) else some (.next (s.1,aA .i64 (s.2.1+1),s.2.2)) else some (.next (s.1,aA .i64 (s.2.1+1),s.2.2)) else some (.done true)
def AN (p0:Field) (p1:List Int):Option Bool:=aG sH (p1,0,p0.points)
def c78:bV:=⟨aF.cons (aM.agg dH) (aF.one (aM.sl ki)),aM.bool,fun a=>AN a.1 a.2,.pure,false⟩
theorem aTg:aJ tab 78 c78:=Oc aSj rfl aI [(97,c97)] ⟨IQ,trivial⟩ fun a=>by kernel_rfl
def xQ (s:((List Int)×Int×(List Int))):Option (bS ((List Int)×Int×(List Int)) (List Int)):=bif decide (s.2.1<(aa s.1.length)) then (aL s.1 s.2.1).bind fun n0=>bif decide (0<=n0) then (aL s.1 s.2.1).bind fun n1=>(bZ s.2.2 [n1]).bind fun l2=>some (.next (s.1,aA .i64 (s.2.1+1),l2)) else some (.next (s.1,aA .i64 (s.2.1+1),s.2.2)) else some (.done s.2.2)
def GN (p0:List Int):Option (List Int):=aG xQ (p0,0,[])
def c79:bV:=⟨aF.one (aM.sl ki),aM.sl ki,fun a=>GN a,.frz,false⟩
theorem aTh:aJ tab 79 c79:=Oc aSk rfl aI [] trivial fun a=>by kernel_rfl
def tV (p0:Field) (p1:Int×Int) (p2:Int) (p3:Int):Option Int:=bif decide (p2<0) then some p3 else bif decide (p3<0) then some p2 else (fZ p0 p2).bind fun n0=>(aL p0.points n0).bind fun a1=>(fZ p0 p3).bind fun n2=>(aL p0.points n2).bind fun a3=>(mP a1 a3 p1).bind fun b4=>bif b4 then some p2 else some p3
def c41:bV:=⟨aF.cons (aM.agg dH) (aF.cons (aM.agg (cS.row jY)) (aF.cons (aM.int .i64) (aF.one (aM.int .i64)))),aM.int .i64,fun a=>tV a.1 a.2.1 a.2.2.1 a.2.2.2,.pure,false⟩
theorem aFy:aJ tab 41 c41:=Oc aRQ rfl aI [(97,c97),(98,c98)] ⟨IQ,VF,trivial⟩ fun a=>by kernel_rfl
def uV (s:(Int×(List Int)×(List Int)×cT×Int×Int)):Option (bS (Int×(List Int)×(List Int)×cT×Int×Int) Bool):=bif decide (s.1<(aa s.2.2.1.length)) then (aL s.2.2.1 s.1).bind fun n0=>(gT (bG.mk s.2.1 s.2.2.1) (aA .i64 ((aA .i64 (2*s.1))+1))).bind fun n1=>(gT (bG.mk s.2.1 s.2.2.1) (aA .i64 ((aA .i64 (2*s.1))+2))).bind fun n2=>(tV (Field.mk s.2.2.2.1) s.2.2.2.2 n1 n2).bind fun n3=>bif n0 !=n3 then some (.done false) else some (.next (aA .i64 (s.1+1),s.2)) else some (.done true)
def yW (p0:bG) (p1:Field) (p2:Int×Int):Option Bool:=aG uV (0,p0.places,p0.wins,p1.points,p2)
def c80:bV:=⟨aF.cons (aM.agg hO) (aF.cons (aM.agg dH) (aF.one (aM.agg (cS.row jY)))),aM.bool,fun a=>yW a.1 a.2.1 a.2.2,.pure,false⟩
theorem aTi:aJ tab 80 c80:=Oc aSl rfl aI [(40,c40),(41,c41)] ⟨VG,aFy,trivial⟩ fun a=>by kernel_rfl
def AO (s:(Int×(List Int)×(List Int)×qJ)):Option (bS (Int×(List Int)×(List Int)×qJ) qJ):=bif decide (s.1<(aa s.2.2.1.length)) then (gT (bG.mk s.2.1 s.2.2.1) (aA .i64 ((aA .i64 (2*s.1))+1))).bind fun n0=>(gT (bG.mk s.2.1 s.2.2.1) (aA .i64 ((aA .i64 (2*s.1))+2))).bind fun n1=>bif decide (n0<0) then some (.next (aA .i64 (s.1+1),s.2)) else bif decide (n1<0) then some (.next (aA .i64 (s.1+1),s.2)) else (aL s.2.2.1 s.1).bind fun n2=>bif n2==n0 then (bZ s.2.2.2 [(n1,n0)]).bind fun l3=>some (.next (aA .i64 (s.1+1),s.2.1,s.2.2.1,l3)) else (bZ s.2.2.2 [(n0,n1)]).bind fun l4=>some (.next (aA .i64 (s.1+1),s.2.1,s.2.2.1,l4)) else some (.done s.2.2.2)
def wC (p0:bG):Option qJ:=aG AO (0,p0.places,p0.wins,[])
def c62:bV:=⟨aF.one (aM.agg hO),aM.sl jY,fun a=>wC a,.frz,false⟩
theorem aTj:aJ tab 62 c62:=Oc aR4 rfl aI [(40,c40)] ⟨VG,trivial⟩ fun a=>by kernel_rfl
abbrev aMX:=Int×Int×cT×Int×Int
def xR (s:aMX):Option (bS aMX Bool):=bif decide (s.1<(aa s.2.2.1.length)) then (aL s.2.2.1 s.1).bind fun a0=>bif (a0.2.1==s.2.2.2.1)&&(a0.2.2==s.2.2.2.2) then some (.done true) else some (.next (aA .i64 (s.1+1),s.2)) else some (.done false)
def xY (p0:bK) (p1:Int×Int):Option Bool:=aG xR (0,p0.next_,p0.list,p1)
def aVS:bV:=⟨aF.cons (aM.agg rS) (aF.one (aM.agg (cS.row jY))),aM.bool,fun a=>xY a.1 a.2,.pure,false⟩
theorem aMY:aJ tab 146 aVS:=Oc aJ0 rfl aI [] trivial fun a=>by kernel_rfl
def DH (p0:Int×Int) (p1:Field) (p2:Int×Int):Option Bool:=(fZ p1 p0.2).bind fun n0=>(aL p1.points n0).bind fun a1=>(fZ p1 p0.1).bind fun n2=>(aL p1.points n2).bind fun a3=>(mP a1 a3 p2).bind fun b4=>some b4
def aVT:bV:=⟨aF.cons (aM.agg (cS.row jY)) (aF.cons (aM.agg dH) (aF.one (aM.agg (cS.row jY)))),aM.bool,fun a=>DH a.1 a.2.1 a.2.2,.pure,false⟩
theorem aMZ:aJ tab 147 aVT:=Oc aJ1 rfl aI [(97,c97),(98,c98)] ⟨IQ,VF,trivial⟩ fun a=>by kernel_rfl
abbrev aVU:=qJ×Int×Int×Int×cT×Int×cT×(List Int)×(List Bool)×(List Int)×rH×(List Int)×cT
def uW (s:aVU):Option (bS aVU Bool):=bif decide (s.2.1<(aa s.1.length)) then (aL s.1 s.2.1).bind fun a0=>(xY (bK.mk s.2.2.2.2.2.1 s.2.2.2.2.2.2.1) a0).bind fun b1=>bif !b1 then some (.done false) else (aL s.1 s.2.1).bind fun a2=>(DH a2 (Field.mk s.2.2.2.2.1) (s.2.2.1,s.2.2.2.1)).bind fun b3=>bif !b3 then some (.done false) else some (.next (s.1,aA .i64 (s.2.1+1),s.2.2)) else some (.done true)
def DI (p0:aO) (p1:List (Int×Int)):Option Bool:=bif (aa p0.certs.list.length) !=(aa p1.length) then some false else aG uW (p1,0,p0.now.1,p0.now.2,p0.field.points,p0.certs.next_,p0.certs.list,p0.agenda.slots.uses,p0.agenda.slots.used,p0.agenda.slots.free,p0.agenda.heap,p0.agenda.where_,p0.due)
def c81:bV:=⟨aF.cons (aM.agg dI) (aF.one (aM.sl jY)),aM.bool,fun a=>DI a.1 a.2,.pure,false⟩
theorem aTk:aJ tab 81 c81:=Oc aSm rfl aI [(146,aVS),(147,aVT)] ⟨aMY,aMZ,trivial⟩ fun a=>by kernel_rfl
def fD (p0:bO):Option Int:=(AL p0.clock).bind fun n0=>bif n0 !=0 then some 8 else (wB p0.bracket).bind fun n1=>bif n1 !=0 then some 8 else (AM (aa p0.bracket.places.length)).bind fun b2=>bif !b2 then some 8 else (AN p0.clock.field p0.bracket.places).bind fun b3=>bif !b3 then some 8 else (GN p0.bracket.places).bind fun l4=>bif (aa l4.length) !=(aa p0.clock.field.points.length) then some 8 else (yW p0.bracket p0.clock.field p0.clock.now).bind fun b5=>bif !b5 then some 8 else (wC p0.bracket).bind fun l6=>(DI p0.clock l6).bind fun b7=>bif !b7 then some 8 else some 0
def c24:bV:=⟨aF.one (aM.agg kQ),aM.int .i64,fun a=>fD a,.pure,false⟩
theorem aFz:aJ tab 24 c24:=Oc aRD rfl aI [(75,c75),(76,c76),(77,c77),(78,c78),(79,c79),(80,c80),(62,c62),(81,c81)] ⟨aTd,aTe,aTf,aTg,aTh,aTi,aTj,aTk,trivial⟩ fun a=>by kernel_rfl
def CA (p0:bO):Option Bool:=(vV p0).bind fun b0=>bif !b0 then (IP p0.clock.field).bind fun b1=>bif !b1 then (fD p0).bind fun n2=>some (n2==0) else some false else some false
def c35:bV:=⟨aF.one (aM.agg kQ),aM.bool,fun a=>CA a,.pure,false⟩
theorem aTl:aJ tab 35 c35:=Oc aRK rfl aI [(9,c9),(10,c10),(24,c24)] ⟨aVz,aS8,aFz,trivial⟩ fun a=>by kernel_rfl
def ND (p0:Int):Option Int:=bif decide (65536<=p0) then bif decide (256<=(iM .u32 p0 16)) then (xC wV (aA .u8 (iM .u32 (iM .u32 p0 16) 8))).bind fun n0=>some (aA .i64 (24+(aA .i64 n0))) else (xC wV (aA .u8 (iM .u32 p0 16))).bind fun n1=>some (aA .i64 (16+(aA .i64 n1))) else bif decide (256<=p0) then (xC wV (aA .u8 (iM .u32 p0 8))).bind fun n2=>some (aA .i64 (8+(aA .i64 n2))) else (xC wV (aA .u8 p0)).bind fun n3=>some (aA .i64 (0+(aA .i64 n3)))
def aVV:bV:=⟨aF.one (aM.int .u32),aM.int .i64,fun a=>ND a,.pure,false⟩
theorem aM0:aJ tab 211 aVV:=Oc aKx rfl aI [] trivial fun a=>by kernel_rfl
def wW (p0:Int):Option Int:=bif decide (4294967296<=p0) then bif decide (65536<=(iM .u64 p0 32)) then bif decide (256<=(iM .u64 (iM .u64 p0 32) 16)) then (xC wV (aA .u8 (iM .u64 (iM .u64 (iM .u64 p0 32) 16) 8))).bind fun n0=>some (aA .i64 (56+(aA .i64 n0))) else (xC wV (aA .u8 (iM .u64 (iM .u64 p0 32) 16))).bind fun n1=>some (aA .i64 (48+(aA .i64 n1))) else bif decide (256<=(iM .u64 p0 32)) then (xC wV (aA .u8 (iM .u64 (iM .u64 p0 32) 8))).bind fun n2=>some (aA .i64 (40+(aA .i64 n2))) else (xC wV (aA .u8 (iM .u64 p0 32))).bind fun n3=>some (aA .i64 (32+(aA .i64 n3))) else bif decide (65536<=p0) then bif decide (256<=(iM .u64 p0 16)) then (xC wV (aA .u8 (iM .u64 (iM .u64 p0 16) 8))).bind fun n4=>some (aA .i64 (24+(aA .i64 n4))) else (xC wV (aA .u8 (iM .u64 p0 16))).bind fun n5=>some (aA .i64 (16+(aA .i64 n5))) else bif decide (256<=p0) then (xC wV (aA .u8 (iM .u64 p0 8))).bind fun n6=>some (aA .i64 (8+(aA .i64 n6))) else (xC wV (aA .u8 p0)).bind fun n7=>some (aA .i64 (0+(aA .i64 n7)))
def aVW:bV:=⟨aF.one (aM.int .u64),aM.int .i64,fun a=>wW a,.pure,false⟩
theorem aM1:aJ tab 212 aVW:=Oc aKy rfl aI [] trivial fun a=>by kernel_rfl
def uX (p0:Int):Option Int:=(wW p0).bind fun n0=>some n0
def aVX:bV:=⟨aF.one (aM.int .u64),aM.int .i64,fun a=>uX a,.pure,false⟩
theorem aM2:aJ tab 136 aVX:=Oc aJS rfl aI [(211,aVV),(212,aVW)] ⟨aM0,aM1,trivial⟩ fun a=>by kernel_rfl
abbrev aA0:=Int×Int×Int×cT×Int×Int
abbrev VH:=cT×Int×Int
abbrev aVY:=bS aA0 VH
def bA (s:(Int×Int×Int×Int×cT×Int×Int)):Option (bS (Int×Int×Int×Int×cT×Int×Int) aVY):=match s with |(a,b,d,e,f,g,h)=>bif decide (a<e) then (aL f e).bind fun a0=>(aL f (aA .i64 (e-1))).bind fun a1=>bif a0.1==a1.1 then bif f.length==f.length then some (.done (.next (a,b,aA .i64 (d+1),(f,g,h)))) else none else (mV a0 a1 (g,h)).bind fun a2=>bif a2.1 then bif f.length==f.length then (aL f (aA .i64 (e-1))).bind fun a3=>(aL f e).bind fun a4=>(aL f e).bind fun _=>(aL (cL f e a3) (aA .i64 (e-1))).bind fun _=>some (.next (a,b,d,aA .i64 (e-1),cL (cL f e a3) (aA .i64 (e-1)) a4,(g,h))) else none else bif f.length==f.length then some (.done (.next (a,b,aA .i64 (d+1),(f,g,h)))) else none else some (.done (.next (a,b,aA .i64 (d+1),(f,g,h))))
def bB (c0:aMX) (s:aA0):Option aVY:=bif decide (s.2.2.1<s.2.1) then aG bA (s.1,s.2.1,s.2.2.1,s.2.2) else bif s.2.2.2.1.length==c0.2.2.1.length then some (.done s.2.2.2) else none
def bT (a:aMX):Option VH:=aG (bB a) (a.1,a.2.1,aA .i64 (a.1+1),a.2.2)
def aFA:fV:=⟨[.i,.i,.l [.i .i64,.i .i64,.i .i64],.i,.i],[.own 0 false,.int .i64 0,.int .i64 0,.clo 158 [] [.bp 1 2 0]],[.arr [.i .i64,.i .i64,.i .i64] [],.box [.int .i64 0,.int .i64 0]],[.l [.i .i64,.i .i64,.i .i64],.i,.i],.tup [],[.arr [.i .i64,.i .i64,.i .i64] [],.box [.int .i64 0,.int .i64 0]],fun a=>bT a⟩
theorem aDC:rG tab 263 aFA:=rG.of aK7 (wd:=false) (cx:=(qH aI [(159,aLP)] [] [(158,aE5)] [])) (nG.make ⟨U7,trivial⟩ trivial ⟨aB9,trivial⟩) (fun a=>by kernel_rfl)
def eO (c0:aA0) (s:(Int×Int×Int×Bool×Bool×cT×Int×Int)):Option (bS (Int×Int×Int×Bool×Bool×cT×Int×Int) VH):=bif decide ((aA .i64 (s.2.1-s.1))<=12) then (bT (s.1,s.2.1,s.2.2.2.2.2)).bind fun a0=>bif a0.1.length==c0.2.2.2.1.length then some (.done a0) else none else bif s.2.2.1==0 then none else bif !s.2.2.2.1 then none else none
def cV (_:aA0->Option VH) (a:aA0):Option VH:=aG (eO a) (a.1,a.2.1,a.2.2.1,true,true,a.2.2.2)
def bN:Nat->aA0->Option VH |0,_=>none |n+1,a=>cV (bN n) a
def cB (a:aA0):Option VH:=bN 1000000 a
def aFB:fV:=⟨[.i,.i,.i,.l [.i .i64,.i .i64,.i .i64],.i,.i],[.own 0 false,.int .i64 0,.int .i64 0,.int .i64 0,.clo 158 [] [.bp 1 2 0]],[.arr [.i .i64,.i .i64,.i .i64] [],.box [.int .i64 0,.int .i64 0]],[.l [.i .i64,.i .i64,.i .i64],.i,.i],.tup [],[.arr [.i .i64,.i .i64,.i .i64] [],.box [.int .i64 0,.int .i64 0]],fun a=>cB a⟩
theorem PQ: ∀n,rG tab 224 ⟨[.i,.i,.i,.l [.i .i64,.i .i64,.i .i64],.i,.i],[.own 0 false,.int .i64 0,.int .i64 0,.int .i64 0,.clo 158 [] [.bp 1 2 0]],[.arr [.i .i64,.i .i64,.i .i64] [],.box [.int .i64 0,.int .i64 0]],[.l [.i .i64,.i .i64,.i .i64],.i,.i],.tup [],[.arr [.i .i64,.i .i64,.i .i64] [],.box [.int .i64 0,.int .i64 0]],fun a=>bN n a⟩
 |0=>rG.zero (fun _=>rfl)
 |n+1=>rG.of aKF (wd:=false) (cx:=(qH aI [(159,aLP)] [(224,⟨[.i,.i,.i,.l [.i .i64,.i .i64,.i .i64],.i,.i],[.own 0 false,.int .i64 0,.int .i64 0,.int .i64 0,.clo 158 [] [.bp 1 2 0]],[.arr [.i .i64,.i .i64,.i .i64] [],.box [.int .i64 0,.int .i64 0]],[.l [.i .i64,.i .i64,.i .i64],.i,.i],.tup [],[.arr [.i .i64,.i .i64,.i .i64] [],.box [.int .i64 0,.int .i64 0]],fun a=>bN n a⟩),(263,aFA)] [(158,aE5)] [])) (nG.make ⟨U7,trivial⟩ ⟨(PQ n),aDC,trivial⟩ ⟨aB9,trivial⟩) (fun a=>by kernel_rfl)
theorem aDD:rG tab 224 aFB:=PQ 1000000
def eF (a:VH):Option VH:=(uX (aA .u64 (aa a.1.length))).bind fun n0=>(cB (0,aa a.1.length,n0,a)).bind fun a1=>bif a1.1.length==a.1.length then some a1 else none
def aFC:fV:=⟨[.l [.i .i64,.i .i64,.i .i64],.i,.i],[.own 0 false,.clo 158 [] [.bp 1 2 0]],[.arr [.i .i64,.i .i64,.i .i64] [],.box [.int .i64 0,.int .i64 0]],[.l [.i .i64,.i .i64,.i .i64],.i,.i],.tup [],[.arr [.i .i64,.i .i64,.i .i64] [],.box [.int .i64 0,.int .i64 0]],fun a=>eF a⟩
theorem aDE:rG tab 157 aFC:=rG.of aJ3 (wd:=false) (cx:=(qH aI [(136,aVX)] [(224,aFB)] [] [])) (nG.make ⟨aM2,trivial⟩ ⟨aDD,trivial⟩ trivial) (fun a=>by kernel_rfl)
def xS (p0:Field) (p1:Int×Int):Option (cT×Int):=(eW p0).bind fun n0=>bif n0 !=0 then some ([],n0) else (eL p1).bind fun n1=>bif n1 !=0 then some ([],n1) else (cA p0.points).bind fun l2=>(eF (l2,p1)).bind fun a3=>some (a3.1,0)
def c93:bV:=⟨aF.cons (aM.agg dH) (aF.one (aM.agg (cS.row jY))),aM.tup (aF.cons (aM.sl fH) (aF.one (aM.int .i64))),fun a=>xS a.1 a.2,.frz,false⟩
theorem aTm:aJ tab 93 c93:=aJ.of aSr (cx:=(qH aI [(122,X1),(49,c49),(124,bV.clone fH)] [(157,aFC)] [] [])) rfl (nG.make ⟨C9,yL,yI,trivial⟩ ⟨aDE,trivial⟩ trivial) (fun a=>by kernel_rfl)
def pD (p0:Field) (p1:Int×Int):Option (Int×Int):=(xS p0 p1).bind fun a0=>bif a0.2 !=0 then some (0,a0.2) else bif (aa a0.1.length)==0 then some (0,42) else (aL a0.1 0).bind fun a1=>some (a1.1,0)
def c34:bV:=⟨aF.cons (aM.agg dH) (aF.one (aM.agg (cS.row jY))),aM.tup (aF.cons (aM.int .i64) (aF.one (aM.int .i64))),fun a=>pD a.1 a.2,.pure,false⟩
theorem aTn:aJ tab 34 c34:=Oc aRJ rfl aI [(93,c93)] ⟨aTm,trivial⟩ fun a=>by kernel_rfl
def sI (p0:bO):Option (qJ×Int):=(iC p0).bind fun n0=>bif n0 !=0 then some ([],n0) else (jM p0.clock.field p0.clock.now p0.bracket.places).bind fun a1=>some (a1.2,0)
def c19:bV:=⟨aF.one (aM.agg kQ),aM.tup (aF.cons (aM.sl jY) (aF.one (aM.int .i64))),fun a=>sI a,.frz,false⟩
theorem aTo:aJ tab 19 c19:=Oc aRA rfl aI [(23,c23),(54,c54)] ⟨aAW,U8,trivial⟩ fun a=>by kernel_rfl
def wD (p0:aO) (p1:Int×Int):Option Bool:=bif decide (0<(aa p0.agenda.heap.length)) then (aL p0.agenda.heap 0).bind fun a0=>(lF (a0.1,a0.2.1) p1).bind fun n1=>some (decide (n1<=0)) else some false
def c37:bV:=⟨aF.cons (aM.agg dI) (aF.one (aM.agg (cS.row jY))),aM.bool,fun a=>wD a.1 a.2,.pure,false⟩
theorem aTp:aJ tab 37 c37:=Oc aRM rfl aI [(31,c31)] ⟨aAZ,trivial⟩ fun a=>by kernel_rfl
def AP (s:(qJ×Int×Int×Int)):Option (bS (qJ×Int×Int×Int) Bool):=bif decide (s.2.1<(aa s.1.length)) then (aL s.1 s.2.1).bind fun a0=>bif (a0.1==s.2.2.1)&&(a0.2==s.2.2.2) then some (.done true) else some (.next (s.1,aA .i64 (s.2.1+1),s.2.2)) else some (.done false)
def FK (p0:List (Int×Int)) (p1:Int×Int):Option Bool:=aG AP (p0,0,p1)
def c44:bV:=⟨aF.cons (aM.sl jY) (aF.one (aM.agg (cS.row jY))),aM.bool,fun a=>FK a.1 a.2,.pure,false⟩
theorem aTq:aJ tab 44 c44:=Oc aRS rfl aI [] trivial fun a=>by kernel_rfl
abbrev aA1:=qJ×Int×cT
abbrev aVZ:=bS aA1 (bS aA1 Int)
def sJ (s:aA1):Option (bS aA1 aVZ):=bif decide (s.2.1<(aa s.1.length)) then (aL s.1 s.2.1).bind fun a0=>(fZ (Field.mk s.2.2) a0.1).bind fun n1=>bif decide (n1<0) then some (.done (.done (.done 6))) else (aL s.1 s.2.1).bind fun a2=>(fZ (Field.mk s.2.2) a2.2).bind fun n3=>bif decide (n3<0) then some (.done (.done (.done 6))) else some (.next (s.1,aA .i64 (s.2.1+1),s.2.2)) else some (.done (.done (.done 0)))
def sK (s:aA1):Option aVZ:=bif decide (s.2.1<(aa s.1.length)) then (iX s.1 0 s.2.1).bind fun l0=>(aL s.1 s.2.1).bind fun a1=>(FK l0 a1).bind fun b2=>bif b2 then some (.done (.done 14)) else some (.next (s.1,aA .i64 (s.2.1+1),s.2.2)) else aG sJ (s.1,0,s.2.2)
def sL (s:aA1):Option (bS aA1 Int):=bif decide (s.2.1<(aa s.1.length)) then (aL s.1 s.2.1).bind fun a0=>(tO a0).bind fun b1=>bif !b1 then some (.done 8) else some (.next (s.1,aA .i64 (s.2.1+1),s.2.2)) else aG sK (s.1,0,s.2.2)
def AQ (p0:Field) (p1:List (Int×Int)):Option Int:=aG sL (p1,0,p0.points)
def c38:bV:=⟨aF.cons (aM.agg dH) (aF.one (aM.sl jY)),aM.int .i64,fun a=>AQ a.1 a.2,.pure,false⟩
theorem aTr:aJ tab 38 c38:=Oc aRN rfl aI [(96,c96),(44,c44),(97,c97)] ⟨aFu,aTq,IQ,trivial⟩ fun a=>by kernel_rfl
def AR (p0:Field) (p1:Int×Int) (p2:Int) (p3:Int):Option Bool:=(fZ p0 p2).bind fun n0=>(aL p0.points n0).bind fun a1=>(fZ p0 p3).bind fun n2=>(aL p0.points n2).bind fun a3=>(mP a1 a3 p1).bind fun b4=>some b4
def c39:bV:=⟨aF.cons (aM.agg dH) (aF.cons (aM.agg (cS.row jY)) (aF.cons (aM.int .i64) (aF.one (aM.int .i64)))),aM.bool,fun a=>AR a.1 a.2.1 a.2.2.1 a.2.2.2,.pure,false⟩
theorem aTs:aJ tab 39 c39:=Oc aRO rfl aI [(97,c97),(98,c98)] ⟨IQ,VF,trivial⟩ fun a=>by kernel_rfl
abbrev aV0:=Bool×qJ×Int×Int×Int×cT×Int×cT×(List Int)×(List Bool)×(List Int)×rH×(List Int)×cT×(List Int)×(List Int)×Int×Int×cT×Int×Int×cT×Int×cT×(List Int)×(List Bool)×(List Int)×rH×(List Int)×cT×(List Int)×(List Int)
abbrev Zt2:=bS aV0 Bool
abbrev Zt3:=Bool×Int×Int×Int×cT×Int×cT×(List Int)×(List Bool)×(List Int)×rH×(List Int)×cT×(List Int)×(List Int)×Int×Int×cT×Int×Int×cT×Int×cT×(List Int)×(List Bool)×(List Int)×rH×(List Int)×cT×(List Int)×(List Int)
def iJ (s:Zt3):Option (bS Zt3 Zt2):=match s with |(a,b,d,e,f,g,h,i,j,k,l,m,n,o,q,r,t,u,v,w,x,y,z,A,B,C,D,E,F,G,H)=>bif decide (b<(aa H.length)) then (gT (bG.mk G H) b).bind fun n0=>(gT (bG.mk G H) (aA .i64 ((aA .i64 (2*b))+1))).bind fun n1=>(gT (bG.mk G H) (aA .i64 ((aA .i64 (2*b))+2))).bind fun n2=>(tV (Field.mk u) (r,t) n1 n2).bind fun n3=>bif n0 !=n3 then some (.done (.done false)) else some (.next (a,aA .i64 (b+1),(d,e,f,g,h,i,j,k,l,m,n,o,q,r,t,u,v,w,x,y,z,A,B,C,D,E,F,G,H))) else bif a then (nQ G o).bind fun b4=>some (.done (.done b4)) else some (.done (.done false))
def kX (s:aV0):Option Zt2:=bif decide (s.2.2.1<(aa s.2.1.length)) then (aL s.2.1 s.2.2.1).bind fun a0=>(aL s.2.1 s.2.2.1).bind fun a1=>(AR (Field.mk s.2.2.2.2.2.2.2.2.2.2.2.2.2.2.2.2.2.2.1) (s.2.2.2.2.2.2.2.2.2.2.2.2.2.2.2.2.1,s.2.2.2.2.2.2.2.2.2.2.2.2.2.2.2.2.2.1) a0.1 a1.2).bind fun b2=>bif b2 then some (.done false) else some (.next (s.1,s.2.1,aA .i64 (s.2.2.1+1),s.2.2.2)) else aG iJ (s.1,0,s.2.2.2)
def sM (p0:bO) (p1:Int×Int):Option Bool:=(Option.some true).bind fun b0=>(CA p0).bind fun b1=>bif !b1 then some b0 else (oL p1).bind fun n2=>bif n2 !=0 then some b0 else (lF p0.clock.now p1).bind fun n3=>bif decide (0<n3) then some b0 else bif !b0 then some b0 else (iI p0 p1).bind fun a4=>bif a4.2.2 !=0 then bif b0 then some (a4.2.2==18) else some false else (nP a4.1).bind fun a5=>(pD p0.clock.field p1).bind fun a6=>(sI a4.1).bind fun a7=>(fD a4.1).bind fun n8=>bif n8 !=0 then some false else bif !((a4.1.clock.now.1==p1.1)&&(a4.1.clock.now.2==p1.2)) then some false else bif a5.2 !=a6.2 then some false else bif a5.1 !=a6.1 then some false else bif a7.2 !=0 then some false else bif (aa a7.1.length) !=(if (aA .i64 ((aa p0.clock.field.points.length) -1))>0 then aA .i64 ((aa p0.clock.field.points.length) -1) else 0) then some false else (wD a4.1.clock p1).bind fun b9=>bif b9 then some false else (AQ p0.clock.field a7.1).bind fun n10=>bif n10 !=0 then some false else aG kX (b0,a7.1,0,p0.clock.now.1,p0.clock.now.2,p0.clock.field.points,p0.clock.certs.next_,p0.clock.certs.list,p0.clock.agenda.slots.uses,p0.clock.agenda.slots.used,p0.clock.agenda.slots.free,p0.clock.agenda.heap,p0.clock.agenda.where_,p0.clock.due,p0.bracket.places,p0.bracket.wins,p1.1,p1.2,p0.clock.field.points,a4.1.clock.now.1,a4.1.clock.now.2,a4.1.clock.field.points,a4.1.clock.certs.next_,a4.1.clock.certs.list,a4.1.clock.agenda.slots.uses,a4.1.clock.agenda.slots.used,a4.1.clock.agenda.slots.free,a4.1.clock.agenda.heap,a4.1.clock.agenda.where_,a4.1.clock.due,a4.1.bracket.places,a4.1.bracket.wins)
def c7:bV:=⟨aF.cons (aM.agg kQ) (aF.one (aM.agg (cS.row jY))),aM.bool,fun a=>sM a.1 a.2,.pure,false⟩
theorem aV1:aJ tab 7 c7:=Oc aNP rfl aI [(28,c28),(35,c35),(36,c36),(31,c31),(12,c12),(21,c21),(34,c34),(19,c19),(24,c24),(37,c37),(38,c38),(39,c39),(40,c40),(41,c41),(42,c42)] ⟨aS4,aTl,aAY,aAZ,aFq,aFr,aTn,aTo,aFz,aTp,aTr,aTs,VG,aFy,aFs,trivial⟩ fun a=>by kernel_rfl
end
end
end Go.Proofs.YtlnclppkepgdmaaGreat
