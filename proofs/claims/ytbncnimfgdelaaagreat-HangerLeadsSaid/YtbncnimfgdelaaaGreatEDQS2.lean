/- Plain functions for what the functions of the seat compute. Printed by a program. -/
import Derived.Test.YtbncnimfgdelaaaGreatEDVm3
import Derived.Test.YtbncnimfgdelaaaGreatEDQXT
import Derived.Test.YtbncnimfgdelaaaGreatEDQS1
set_option maxRecDepth 100000
namespace Go.Proofs.YtbncnimfgdelaaaGreat
open Go.Vm
noncomputable section
section
variable [LP]
def vS (p0:Int):Option Int:=bif decide (4294967296<=p0) then bif decide (65536<=(fN .u64 p0 32)) then bif decide (256<=(fN .u64 (fN .u64 p0 32) 16)) then (vY vQ (aA .u8 (fN .u64 (fN .u64 (fN .u64 p0 32) 16) 8))).bind fun n0=>some (aA .i64 (56+(aA .i64 n0))) else (vY vQ (aA .u8 (fN .u64 (fN .u64 p0 32) 16))).bind fun n1=>some (aA .i64 (48+(aA .i64 n1))) else bif decide (256<=(fN .u64 p0 32)) then (vY vQ (aA .u8 (fN .u64 (fN .u64 p0 32) 8))).bind fun n2=>some (aA .i64 (40+(aA .i64 n2))) else (vY vQ (aA .u8 (fN .u64 p0 32))).bind fun n3=>some (aA .i64 (32+(aA .i64 n3))) else bif decide (65536<=p0) then bif decide (256<=(fN .u64 p0 16)) then (vY vQ (aA .u8 (fN .u64 (fN .u64 p0 16) 8))).bind fun n4=>some (aA .i64 (24+(aA .i64 n4))) else (vY vQ (aA .u8 (fN .u64 p0 16))).bind fun n5=>some (aA .i64 (16+(aA .i64 n5))) else bif decide (256<=p0) then (vY vQ (aA .u8 (fN .u64 p0 8))).bind fun n6=>some (aA .i64 (8+(aA .i64 n6))) else (vY vQ (aA .u8 p0)).bind fun n7=>some (aA .i64 (0+(aA .i64 n7)))
def aSc:bR:=⟨aE.one (aP.int .u64),aP.int .i64,fun a=>vS a,.pure,false⟩
theorem aJ8:aN tab 244 aSc:=Oc aIn rfl aJ [] trivial fun a=>by kernel_rfl
def uA (p0:Int):Option Int:=(vS p0).bind fun n0=>some n0
def aSd:bR:=⟨aE.one (aP.int .u64),aP.int .i64,fun a=>uA a,.pure,false⟩
theorem aJ9:aN tab 202 aSd:=Oc aHX rfl aJ [(243,aSb),(244,aSc)] ⟨aJ7,aJ8,trivial⟩ fun a=>by kernel_rfl
abbrev X5:=Int×Int×Int×cQ×Int×Int
abbrev SG:=cQ×Int×Int
abbrev aSe:=bV X5 SG
def aY (s:(Int×Int×Int×Int×cQ×Int×Int)):Option (bV (Int×Int×Int×Int×cQ×Int×Int) aSe):=match s with |(a,b,d,e,f,g,h)=>bif decide (a<e) then (aM f e).bind fun a0=>(aM f (aA .i64 (e-1))).bind fun a1=>bif a0.1==a1.1 then bif f.length==f.length then some (.done (.next (a,b,aA .i64 (d+1),(f,g,h)))) else none else (jG a0 a1 (g,h)).bind fun a2=>bif a2.1 then bif f.length==f.length then (aM f (aA .i64 (e-1))).bind fun a3=>(aM f e).bind fun a4=>(aM f e).bind fun _=>(aM (cD f e a3) (aA .i64 (e-1))).bind fun _=>some (.next (a,b,d,aA .i64 (e-1),cD (cD f e a3) (aA .i64 (e-1)) a4,(g,h))) else none else bif f.length==f.length then some (.done (.next (a,b,aA .i64 (d+1),(f,g,h)))) else none else some (.done (.next (a,b,aA .i64 (d+1),(f,g,h))))
def aZ (c0:aIS) (s:X5):Option aSe:=bif decide (s.2.2.1<s.2.1) then aG aY (s.1,s.2.1,s.2.2.1,s.2.2) else bif s.2.2.2.1.length==c0.2.2.1.length then some (.done s.2.2.2) else none
def bN (a:aIS):Option SG:=aG (aZ a) (a.1,a.2.1,aA .i64 (a.1+1),a.2.2)
def aDk:fL:=⟨[.i,.i,.l [.i .i64,.i .i64,.i .i64],.i,.i],[.own 0 false,.int .i64 0,.int .i64 0,.clo 153 [] [.bp 1 2 0]],[.arr [.i .i64,.i .i64,.i .i64] [],.box [.int .i64 0,.int .i64 0]],[.l [.i .i64,.i .i64,.i .i64],.i,.i],.tup [],[.arr [.i .i64,.i .i64,.i .i64] [],.box [.int .i64 0,.int .i64 0]],fun a=>bN a⟩
theorem aBj:nR tab 235 aDk:=nR.of aIl (wd:=false) (cx:=(wI aJ [(154,aC1)] [] [(153,aCR)] [])) (pZ.make ⟨L0,trivial⟩ trivial ⟨ZY,trivial⟩) (fun a=>by kernel_rfl)
def eI (c0:X5) (s:(Int×Int×Int×Bool×Bool×cQ×Int×Int)):Option (bV (Int×Int×Int×Bool×Bool×cQ×Int×Int) SG):=bif decide ((aA .i64 (s.2.1-s.1))<=12) then (bN (s.1,s.2.1,s.2.2.2.2.2)).bind fun a0=>bif a0.1.length==c0.2.2.2.1.length then some (.done a0) else none else bif s.2.2.1==0 then none else bif !s.2.2.2.1 then none else none
def cM (_:X5->Option SG) (a:X5):Option SG:=aG (eI a) (a.1,a.2.1,a.2.2.1,true,true,a.2.2.2)
def bK:Nat->X5->Option SG |0,_=>none |n+1,a=>cM (bK n) a
def bS (a:X5):Option SG:=bK 1000000 a
def aDl:fL:=⟨[.i,.i,.i,.l [.i .i64,.i .i64,.i .i64],.i,.i],[.own 0 false,.int .i64 0,.int .i64 0,.int .i64 0,.clo 153 [] [.bp 1 2 0]],[.arr [.i .i64,.i .i64,.i .i64] [],.box [.int .i64 0,.int .i64 0]],[.l [.i .i64,.i .i64,.i .i64],.i,.i],.tup [],[.arr [.i .i64,.i .i64,.i .i64] [],.box [.int .i64 0,.int .i64 0]],fun a=>bS a⟩
theorem N4: ∀n,nR tab 201 ⟨[.i,.i,.i,.l [.i .i64,.i .i64,.i .i64],.i,.i],[.own 0 false,.int .i64 0,.int .i64 0,.int .i64 0,.clo 153 [] [.bp 1 2 0]],[.arr [.i .i64,.i .i64,.i .i64] [],.box [.int .i64 0,.int .i64 0]],[.l [.i .i64,.i .i64,.i .i64],.i,.i],.tup [],[.arr [.i .i64,.i .i64,.i .i64] [],.box [.int .i64 0,.int .i64 0]],fun a=>bK n a⟩
 |0=>nR.zero (fun _=>rfl)
 |n+1=>nR.of aHW (wd:=false) (cx:=(wI aJ [(154,aC1)] [(201,⟨[.i,.i,.i,.l [.i .i64,.i .i64,.i .i64],.i,.i],[.own 0 false,.int .i64 0,.int .i64 0,.int .i64 0,.clo 153 [] [.bp 1 2 0]],[.arr [.i .i64,.i .i64,.i .i64] [],.box [.int .i64 0,.int .i64 0]],[.l [.i .i64,.i .i64,.i .i64],.i,.i],.tup [],[.arr [.i .i64,.i .i64,.i .i64] [],.box [.int .i64 0,.int .i64 0]],fun a=>bK n a⟩),(235,aDk)] [(153,aCR)] [])) (pZ.make ⟨L0,trivial⟩ ⟨(N4 n),aBj,trivial⟩ ⟨ZY,trivial⟩) (fun a=>by kernel_rfl)
theorem aBk:nR tab 201 aDl:=N4 1000000
def dT (a:SG):Option SG:=(uA (aA .u64 (Int.ofNat a.1.length))).bind fun n0=>(bS (0,Int.ofNat a.1.length,n0,a)).bind fun a1=>bif a1.1.length==a.1.length then some a1 else none
def aDm:fL:=⟨[.l [.i .i64,.i .i64,.i .i64],.i,.i],[.own 0 false,.clo 153 [] [.bp 1 2 0]],[.arr [.i .i64,.i .i64,.i .i64] [],.box [.int .i64 0,.int .i64 0]],[.l [.i .i64,.i .i64,.i .i64],.i,.i],.tup [],[.arr [.i .i64,.i .i64,.i .i64] [],.box [.int .i64 0,.int .i64 0]],fun a=>dT a⟩
theorem aBl:nR tab 152 aDm:=nR.of aHq (wd:=false) (cx:=(wI aJ [(202,aSd)] [(201,aDl)] [] [])) (pZ.make ⟨aJ9,trivial⟩ ⟨aBk,trivial⟩ trivial) (fun a=>by kernel_rfl)
def wQ (p0:Field) (p1:Int×Int):Option (cQ×Int):=(fZ p0).bind fun n0=>bif n0 !=0 then some ([],n0) else (eS p1).bind fun n1=>bif n1 !=0 then some ([],n1) else (cA p0.points).bind fun l2=>(dT (l2,p1)).bind fun a3=>some (a3.1,0)
def c98:bR:=⟨aE.cons (aP.agg dV) (aE.one (aP.agg (cY.row kA))),aP.tup (aE.cons (aP.sl fU) (aE.one (aP.int .i64))),fun a=>wQ a.1 a.2,.frz,false⟩
theorem aPR:aN tab 98 c98:=aN.of aO7 (cx:=(wI aJ [(85,c85),(72,c72),(89,bR.clone fU)] [(152,aDm)] [] [])) rfl (pZ.make ⟨J4,zS,B6,trivial⟩ ⟨aBl,trivial⟩ trivial) (fun a=>by kernel_rfl)
def mR (p0:Field) (p1:Int×Int):Option (Int×Int):=(wQ p0 p1).bind fun a0=>bif a0.2 !=0 then some (0,a0.2) else bif (Int.ofNat a0.1.length)==0 then some (0,42) else (aM a0.1 0).bind fun a1=>some (a1.1,0)
def c46:bR:=⟨aE.cons (aP.agg dV) (aE.one (aP.agg (cY.row kA))),aP.tup (aE.cons (aP.int .i64) (aE.one (aP.int .i64))),fun a=>mR a.1 a.2,.pure,false⟩
theorem aPS:aN tab 46 c46:=Oc aOB rfl aJ [(98,c98)] ⟨aPR,trivial⟩ fun a=>by kernel_rfl
def rO (p0:cB):Option (hO×Int):=(oU p0).bind fun n0=>bif n0 !=0 then some ([],n0) else (gX p0.clock.field p0.clock.now).bind fun a1=>some (a1.2,0)
def c14:bR:=⟨aE.one (aP.agg kG),aP.tup (aE.cons (aP.sl kA) (aE.one (aP.int .i64))),fun a=>rO a,.frz,false⟩
theorem aPT:aN tab 14 c14:=Oc aOl rfl aJ [(19,c19),(57,c57)] ⟨X1,R7,trivial⟩ fun a=>by kernel_rfl
def zD (s:(hO×Int×Int×Int)):Option (bV (hO×Int×Int×Int) Bool):=bif decide (s.2.1<(Int.ofNat s.1.length)) then (aM s.1 s.2.1).bind fun a0=>bif (a0.1==s.2.2.1)&&(a0.2==s.2.2.2) then some (.done true) else some (.next (s.1,aA .i64 (s.2.1+1),s.2.2)) else some (.done false)
def EC (p0:List (Int×Int)) (p1:Int×Int):Option Bool:=aG zD (p0,0,p1)
def c51:bR:=⟨aE.cons (aP.sl kA) (aE.one (aP.agg (cY.row kA))),aP.bool,fun a=>EC a.1 a.2,.pure,false⟩
theorem aPU:aN tab 51 c51:=Oc aOE rfl aJ [] trivial fun a=>by kernel_rfl
abbrev X6:=hO×Int×cQ
abbrev aSf:=bV X6 (bV X6 Int)
def rQ (s:X6):Option (bV X6 aSf):=bif decide (s.2.1<(Int.ofNat s.1.length)) then (aM s.1 s.2.1).bind fun a0=>(gQ (Field.mk s.2.2) a0.1).bind fun n1=>bif decide (n1<0) then some (.done (.done (.done 6))) else (aM s.1 s.2.1).bind fun a2=>(gQ (Field.mk s.2.2) a2.2).bind fun n3=>bif decide (n3<0) then some (.done (.done (.done 6))) else some (.next (s.1,aA .i64 (s.2.1+1),s.2.2)) else some (.done (.done (.done 0)))
def rR (s:X6):Option aSf:=bif decide (s.2.1<(Int.ofNat s.1.length)) then (iE s.1 0 s.2.1).bind fun l0=>(aM s.1 s.2.1).bind fun a1=>(EC l0 a1).bind fun b2=>bif b2 then some (.done (.done 14)) else some (.next (s.1,aA .i64 (s.2.1+1),s.2.2)) else aG rQ (s.1,0,s.2.2)
def rS (s:X6):Option (bV X6 Int):=bif decide (s.2.1<(Int.ofNat s.1.length)) then (aM s.1 s.2.1).bind fun a0=>(sU a0).bind fun b1=>bif !b1 then some (.done 8) else some (.next (s.1,aA .i64 (s.2.1+1),s.2.2)) else aG rR (s.1,0,s.2.2)
def vC (p0:Field) (p1:List (Int×Int)):Option Int:=aG rS (p1,0,p0.points)
def c47:bR:=⟨aE.cons (aP.agg dV) (aE.one (aP.sl kA)),aP.int .i64,fun a=>vC a.1 a.2,.pure,false⟩
theorem aPV:aN tab 47 c47:=Oc aOC rfl aJ [(99,c99),(51,c51),(25,c25)] ⟨aDd,aPU,J8,trivial⟩ fun a=>by kernel_rfl
def vD (p0:Field) (p1:Int×Int) (p2:Int) (p3:Int):Option Bool:=(gQ p0 p2).bind fun n0=>(aM p0.points n0).bind fun a1=>(gQ p0 p3).bind fun n2=>(aM p0.points n2).bind fun a3=>(oG a1 a3 p1).bind fun b4=>some b4
def c48:bR:=⟨aE.cons (aP.agg dV) (aE.cons (aP.agg (cY.row kA)) (aE.cons (aP.int .i64) (aE.one (aP.int .i64)))),aP.bool,fun a=>vD a.1 a.2.1 a.2.2.1 a.2.2.2,.pure,false⟩
theorem aPW:aN tab 48 c48:=Oc aOD rfl aJ [(25,c25),(100,aDi)] ⟨J8,L2,trivial⟩ fun a=>by kernel_rfl
def kO (s:(Bool×hO×Int×Int×Int×cQ)):Option (bV (Bool×hO×Int×Int×Int×cQ) Bool):=bif decide (s.2.2.1<(Int.ofNat s.2.1.length)) then (aM s.2.1 s.2.2.1).bind fun a0=>(aM s.2.1 s.2.2.1).bind fun a1=>(vD (Field.mk s.2.2.2.2.2) (s.2.2.2.1,s.2.2.2.2.1) a0.1 a1.2).bind fun b2=>bif b2 then some (.done false) else some (.next (s.1,s.2.1,aA .i64 (s.2.2.1+1),s.2.2.2)) else some (.done s.1)
def rT (p0:cB) (p1:Int×Int):Option Bool:=(Option.some true).bind fun b0=>(A7 p0).bind fun b1=>bif !b1 then some b0 else (qM p1).bind fun n2=>bif n2 !=0 then some b0 else (nI p0.clock.now p1).bind fun n3=>bif decide (0<n3) then some b0 else bif !b0 then some b0 else (oE p0 p1).bind fun a4=>bif a4.2.2 !=0 then bif b0 then some (a4.2.2==18) else some false else (pI a4.1).bind fun a5=>(mR p0.clock.field p1).bind fun a6=>(rH p0.clock.field p1).bind fun a7=>(rO a4.1).bind fun a8=>(qN a4.1).bind fun n9=>bif n9 !=0 then some false else bif !((a4.1.clock.now.1==p1.1)&&(a4.1.clock.now.2==p1.2)) then some false else bif a5.2 !=a6.2 then some false else bif a5.1 !=a6.1 then some false else bif a7.2 !=0 then some false else (kX a4.1.up a7.1.up).bind fun b10=>bif !b10 then some false else bif a8.2 !=0 then some false else bif (Int.ofNat a8.1.length) !=(if (aA .i64 ((Int.ofNat p0.clock.field.points.length) -1))>0 then aA .i64 ((Int.ofNat p0.clock.field.points.length) -1) else 0) then some false else (vC p0.clock.field a8.1).bind fun n11=>bif n11 !=0 then some false else aG kO (b0,a8.1,0,p1.1,p1.2,p0.clock.field.points)
def c8:bR:=⟨aE.cons (aP.agg kG) (aE.one (aP.agg (cY.row kA))),aP.bool,fun a=>rT a.1 a.2,.pure,false⟩
theorem aSg:aN tab 8 c8:=Oc aKY rfl aJ [(22,c22),(36,c36),(24,c24),(45,c45),(28,c28),(16,c16),(46,c46),(12,c12),(14,c14),(20,c20),(41,c41),(47,c47),(48,c48)] ⟨aPB,aPQ,X4,aDh,aDa,aDb,aPS,aC9,aPT,aDj,X2,aPV,aPW,trivial⟩ fun a=>by kernel_rfl
end
end
end Go.Proofs.YtbncnimfgdelaaaGreat
