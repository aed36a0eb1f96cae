/- Plain functions for what the functions of the seat compute. Printed by a program. -/
import Derived.Test.YthljmpcakagceaaGreatEVm3
import Derived.Test.YthljmpcakagceaaGreatEQXT
import Derived.Test.YthljmpcakagceaaGreatEQS1
set_option maxRecDepth 100000
namespace Go.Proofs.YthljmpcakagceaaGreat
open Go.Vm
noncomputable section
section
variable [LP]
def uM (p0:Int):Option Int:=bif decide (4294967296<=p0) then bif decide (65536<=(iQ .u64 p0 32)) then bif decide (256<=(iQ .u64 (iQ .u64 p0 32) 16)) then (uS uK (aA .u8 (iQ .u64 (iQ .u64 (iQ .u64 p0 32) 16) 8))).bind fun n0=>some (aA .i64 (56+(aA .i64 n0))) else (uS uK (aA .u8 (iQ .u64 (iQ .u64 p0 32) 16))).bind fun n1=>some (aA .i64 (48+(aA .i64 n1))) else bif decide (256<=(iQ .u64 p0 32)) then (uS uK (aA .u8 (iQ .u64 (iQ .u64 p0 32) 8))).bind fun n2=>some (aA .i64 (40+(aA .i64 n2))) else (uS uK (aA .u8 (iQ .u64 p0 32))).bind fun n3=>some (aA .i64 (32+(aA .i64 n3))) else bif decide (65536<=p0) then bif decide (256<=(iQ .u64 p0 16)) then (uS uK (aA .u8 (iQ .u64 (iQ .u64 p0 16) 8))).bind fun n4=>some (aA .i64 (24+(aA .i64 n4))) else (uS uK (aA .u8 (iQ .u64 p0 16))).bind fun n5=>some (aA .i64 (16+(aA .i64 n5))) else bif decide (256<=p0) then (uS uK (aA .u8 (iQ .u64 p0 8))).bind fun n6=>some (aA .i64 (8+(aA .i64 n6))) else (uS uK (aA .u8 p0)).bind fun n7=>some (aA .i64 (0+(aA .i64 n7)))
def aRq:bS:=⟨aE.one (aP.int .u64),aP.int .i64,fun a=>uM a,.pure,false⟩
theorem aJb:aN tab 240 aRq:=Oc aHh rfl aK [] trivial fun a=>by kernel_rfl
def sQ (p0:Int):Option Int:=(uM p0).bind fun n0=>some n0
def aRr:bS:=⟨aE.one (aP.int .u64),aP.int .i64,fun a=>sQ a,.pure,false⟩
theorem aJc:aN tab 188 aRr:=Oc aGJ rfl aK [(239,aRp),(240,aRq)] ⟨aJa,aJb,trivial⟩ fun a=>by kernel_rfl
abbrev QY:=cE×Int×Int
abbrev aRs:=cA QL QY
def aZ (s:(Int×Int×Int×Int×cE×Int×Int)):Option (cA (Int×Int×Int×Int×cE×Int×Int) aRs):=bif decide (s.1<s.2.2.2.1) then (aO s.2.2.2.2.1 s.2.2.2.1).bind fun a0=>(aO s.2.2.2.2.1 (aA .i64 (s.2.2.2.1-1))).bind fun a1=>bif a0.1==a1.1 then bif s.2.2.2.2.1.length==s.2.2.2.2.1.length then some (.done (.next (s.1,s.2.1,aA .i64 (s.2.2.1+1),s.2.2.2.2))) else none else (jX a0 a1 s.2.2.2.2.2).bind fun a2=>bif a2.1 then bif s.2.2.2.2.1.length==s.2.2.2.2.1.length then (aO s.2.2.2.2.1 (aA .i64 (s.2.2.2.1-1))).bind fun a3=>(aO s.2.2.2.2.1 s.2.2.2.1).bind fun a4=>(aO s.2.2.2.2.1 s.2.2.2.1).bind fun _=>(aO (bZ s.2.2.2.2.1 s.2.2.2.1 a3) (aA .i64 (s.2.2.2.1-1))).bind fun _=>some (.next (s.1,s.2.1,s.2.2.1,aA .i64 (s.2.2.2.1-1),bZ (bZ s.2.2.2.2.1 s.2.2.2.1 a3) (aA .i64 (s.2.2.2.1-1)) a4,s.2.2.2.2.2)) else none else bif s.2.2.2.2.1.length==s.2.2.2.2.1.length then some (.done (.next (s.1,s.2.1,aA .i64 (s.2.2.1+1),s.2.2.2.2))) else none else some (.done (.next (s.1,s.2.1,aA .i64 (s.2.2.1+1),s.2.2.2.2)))
def bA (c0:aHP) (s:QL):Option aRs:=bif decide (s.2.2.1<s.2.1) then aH aZ (s.1,s.2.1,s.2.2.1,s.2.2) else bif s.2.2.2.1.length==c0.2.2.1.length then some (.done s.2.2.2) else none
def bN (a:aHP):Option QY:=aH (bA a) (a.1,a.2.1,aA .i64 (a.1+1),a.2.2)
def aB6:fH:=⟨[.i,.i,.l [.i .i64,.i .i64,.i .i64],.i,.i],[.own 0 false,.int .i64 0,.int .i64 0,.clo 127 [] [.bp 1 2 0]],[.arr [.i .i64,.i .i64,.i .i64] [],.box [.int .i64 0,.int .i64 0]],[.l [.i .i64,.i .i64,.i .i64],.i,.i],.tup [],[.arr [.i .i64,.i .i64,.i .i64] [],.box [.int .i64 0,.int .i64 0]],fun a=>bN a⟩
theorem aAk:oC tab 231 aB6:=oC.of aHf (wd:=false) (cx:=(vX aK [(82,c82)] [] [(127,aBJ)] [])) (pN.make ⟨V1,trivial⟩ trivial ⟨X5,trivial⟩) (fun a=>by kernel_rfl)
def eC (c0:QL) (s:(Int×Int×Int×Bool×Bool×cE×Int×Int)):Option (cA (Int×Int×Int×Bool×Bool×cE×Int×Int) QY):=bif decide ((aA .i64 (s.2.1-s.1))<=12) then (bN (s.1,s.2.1,s.2.2.2.2.2)).bind fun a0=>bif a0.1.length==c0.2.2.2.1.length then some (.done a0) else none else bif s.2.2.1==0 then none else bif !s.2.2.2.1 then none else none
def cO (_:QL->Option QY) (a:QL):Option QY:=aH (eC a) (a.1,a.2.1,a.2.2.1,true,true,a.2.2.2)
def bJ:Nat->QL->Option QY |0,_=>none |n+1,a=>cO (bJ n) a
def bT (a:QL):Option QY:=bJ 1000000 a
def aB7:fH:=⟨[.i,.i,.i,.l [.i .i64,.i .i64,.i .i64],.i,.i],[.own 0 false,.int .i64 0,.int .i64 0,.int .i64 0,.clo 127 [] [.bp 1 2 0]],[.arr [.i .i64,.i .i64,.i .i64] [],.box [.int .i64 0,.int .i64 0]],[.l [.i .i64,.i .i64,.i .i64],.i,.i],.tup [],[.arr [.i .i64,.i .i64,.i .i64] [],.box [.int .i64 0,.int .i64 0]],fun a=>bT a⟩
theorem MS: ∀n,oC tab 187 ⟨[.i,.i,.i,.l [.i .i64,.i .i64,.i .i64],.i,.i],[.own 0 false,.int .i64 0,.int .i64 0,.int .i64 0,.clo 127 [] [.bp 1 2 0]],[.arr [.i .i64,.i .i64,.i .i64] [],.box [.int .i64 0,.int .i64 0]],[.l [.i .i64,.i .i64,.i .i64],.i,.i],.tup [],[.arr [.i .i64,.i .i64,.i .i64] [],.box [.int .i64 0,.int .i64 0]],fun a=>bJ n a⟩
 |0=>oC.zero (fun _=>rfl)
 |n+1=>oC.of aGI (wd:=false) (cx:=(vX aK [(82,c82)] [(187,⟨[.i,.i,.i,.l [.i .i64,.i .i64,.i .i64],.i,.i],[.own 0 false,.int .i64 0,.int .i64 0,.int .i64 0,.clo 127 [] [.bp 1 2 0]],[.arr [.i .i64,.i .i64,.i .i64] [],.box [.int .i64 0,.int .i64 0]],[.l [.i .i64,.i .i64,.i .i64],.i,.i],.tup [],[.arr [.i .i64,.i .i64,.i .i64] [],.box [.int .i64 0,.int .i64 0]],fun a=>bJ n a⟩),(231,aB6)] [(127,aBJ)] [])) (pN.make ⟨V1,trivial⟩ ⟨(MS n),aAk,trivial⟩ ⟨X5,trivial⟩) (fun a=>by kernel_rfl)
theorem aAl:oC tab 187 aB7:=MS 1000000
def dT (a:QY):Option QY:=(sQ (aA .u64 (Int.ofNat a.1.length))).bind fun n0=>(bT (0,Int.ofNat a.1.length,n0,a)).bind fun a1=>bif a1.1.length==a.1.length then some a1 else none
def aB8:fH:=⟨[.l [.i .i64,.i .i64,.i .i64],.i,.i],[.own 0 false,.clo 127 [] [.bp 1 2 0]],[.arr [.i .i64,.i .i64,.i .i64] [],.box [.int .i64 0,.int .i64 0]],[.l [.i .i64,.i .i64,.i .i64],.i,.i],.tup [],[.arr [.i .i64,.i .i64,.i .i64] [],.box [.int .i64 0,.int .i64 0]],fun a=>dT a⟩
theorem aAm:oC tab 126 aB8:=oC.of aF6 (wd:=false) (cx:=(vX aK [(188,aRr)] [(187,aB7)] [] [])) (pN.make ⟨aJc,trivial⟩ ⟨aAl,trivial⟩ trivial) (fun a=>by kernel_rfl)
def vH (p0:Field) (p1:Int×Int):Option (cE×Int):=(eK p0).bind fun n0=>bif n0 !=0 then some ([],n0) else (dZ p1).bind fun n1=>bif n1 !=0 then some ([],n1) else (cC p0.points).bind fun l2=>(dT (l2,p1)).bind fun a3=>some (a3.1,0)
def c76:bS:=⟨aE.cons (aP.agg dQ) (aE.one (aP.agg (cN.row jC))),aP.tup (aE.cons (aP.sl eT) (aE.one (aP.int .i64))),fun a=>vH a.1 a.2,.frz,false⟩
theorem aOO:aN tab 76 c76:=aN.of aNZ (cx:=(vX aK [(99,c99),(72,c72),(103,bS.clone eT)] [(126,aB8)] [] [])) rfl (pN.make ⟨FX,wD,vZ,trivial⟩ ⟨aAm,trivial⟩ trivial) (fun a=>by kernel_rfl)
def mA (p0:Field) (p1:Int×Int):Option (Int×Int):=(vH p0 p1).bind fun a0=>bif a0.2 !=0 then some (0,a0.2) else bif (Int.ofNat a0.1.length)==0 then some (0,42) else (aO a0.1 0).bind fun a1=>some (a1.1,0)
def c26:bS:=⟨aE.cons (aP.agg dQ) (aE.one (aP.agg (cN.row jC))),aP.tup (aE.cons (aP.int .i64) (aE.one (aP.int .i64))),fun a=>mA a.1 a.2,.pure,false⟩
theorem aOP:aN tab 26 c26:=Oc aNy rfl aK [(76,c76)] ⟨aOO,trivial⟩ fun a=>by kernel_rfl
def qM (p0:cX):Option (oE×Int):=(nS p0).bind fun n0=>bif n0 !=0 then some ([],n0) else (iT p0.clock.field p0.clock.now).bind fun a1=>some (a1.2,0)
def c15:bS:=⟨aE.one (aP.agg jV),aP.tup (aE.cons (aP.sl jC) (aE.one (aP.int .i64))),fun a=>qM a,.frz,false⟩
theorem aOQ:aN tab 15 c15:=Oc aNq rfl aK [(57,c57),(58,c58)] ⟨V6,QP,trivial⟩ fun a=>by kernel_rfl
def tX (p0:aJ) (p1:Int×Int):Option Bool:=bif decide (0<(Int.ofNat p0.agenda.heap.length)) then (aO p0.agenda.heap 0).bind fun a0=>(mO (a0.1,a0.2.1) p1).bind fun n1=>some (decide (n1<=0)) else some false
def c28:bS:=⟨aE.cons (aP.agg cW) (aE.one (aP.agg (cN.row jC))),aP.bool,fun a=>tX a.1 a.2,.pure,false⟩
theorem aOR:aN tab 28 c28:=Oc aNA rfl aK [(23,c23)] ⟨WA,trivial⟩ fun a=>by kernel_rfl
def xT (s:(oE×Int×Int×Int)):Option (cA (oE×Int×Int×Int) Bool):=bif decide (s.2.1<(Int.ofNat s.1.length)) then (aO s.1 s.2.1).bind fun a0=>bif (a0.1==s.2.2.1)&&(a0.2==s.2.2.2) then some (.done true) else some (.next (s.1,aA .i64 (s.2.1+1),s.2.2)) else some (.done false)
def DF (p0:List (Int×Int)) (p1:Int×Int):Option Bool:=aH xT (p0,0,p1)
def c35:bS:=⟨aE.cons (aP.sl jC) (aE.one (aP.agg (cN.row jC))),aP.bool,fun a=>DF a.1 a.2,.pure,false⟩
theorem aOS:aN tab 35 c35:=Oc aNE rfl aK [] trivial fun a=>by kernel_rfl
abbrev WB:=oE×Int×cE
abbrev aRt:=cA WB (cA WB Int)
def qN (s:WB):Option (cA WB aRt):=bif decide (s.2.1<(Int.ofNat s.1.length)) then (aO s.1 s.2.1).bind fun a0=>(gN (Field.mk s.2.2) a0.1).bind fun n1=>bif decide (n1<0) then some (.done (.done (.done 6))) else (aO s.1 s.2.1).bind fun a2=>(gN (Field.mk s.2.2) a2.2).bind fun n3=>bif decide (n3<0) then some (.done (.done (.done 6))) else some (.next (s.1,aA .i64 (s.2.1+1),s.2.2)) else some (.done (.done (.done 0)))
def qO (s:WB):Option aRt:=bif decide (s.2.1<(Int.ofNat s.1.length)) then (iZ s.1 0 s.2.1).bind fun l0=>(aO s.1 s.2.1).bind fun a1=>(DF l0 a1).bind fun b2=>bif b2 then some (.done (.done 14)) else some (.next (s.1,aA .i64 (s.2.1+1),s.2.2)) else aH qN (s.1,0,s.2.2)
def qP (s:WB):Option (cA WB Int):=bif decide (s.2.1<(Int.ofNat s.1.length)) then (aO s.1 s.2.1).bind fun a0=>(rQ a0).bind fun b1=>bif !b1 then some (.done 8) else some (.next (s.1,aA .i64 (s.2.1+1),s.2.2)) else aH qO (s.1,0,s.2.2)
def tY (p0:Field) (p1:List (Int×Int)):Option Int:=aH qP (p1,0,p0.points)
def c19:bS:=⟨aE.cons (aP.agg dQ) (aE.one (aP.sl jC)),aP.int .i64,fun a=>tY a.1 a.2,.pure,false⟩
theorem aOT:aN tab 19 c19:=Oc aNr rfl aK [(66,c66),(35,c35),(21,c21)] ⟨aB0,aOS,MQ,trivial⟩ fun a=>by kernel_rfl
def tZ (p0:Field) (p1:Int×Int) (p2:Int) (p3:Int):Option Bool:=(gN p0 p2).bind fun n0=>(aO p0.points n0).bind fun a1=>(gN p0 p3).bind fun n2=>(aO p0.points n2).bind fun a3=>(nG a1 a3 p1).bind fun b4=>some b4
def c20:bS:=⟨aE.cons (aP.agg dQ) (aE.cons (aP.agg (cN.row jC)) (aE.cons (aP.int .i64) (aE.one (aP.int .i64)))),aP.bool,fun a=>tZ a.1 a.2.1 a.2.2.1 a.2.2.2,.pure,false⟩
theorem aOU:aN tab 20 c20:=Oc aNs rfl aK [(21,c21),(67,c67)] ⟨MQ,QX,trivial⟩ fun a=>by kernel_rfl
abbrev Zt4:=Bool×oE×Int×Int×Int×cE×Int×Int×cE×Int×cE×(List Int)×(List Bool)×(List Int)×rH×(List Int)×cE×Int×cE
def kC (s:Zt4):Option (cA Zt4 Bool):=bif decide (s.2.2.1<(Int.ofNat s.2.1.length)) then (aO s.2.1 s.2.2.1).bind fun a0=>(aO s.2.1 s.2.2.1).bind fun a1=>(tZ (Field.mk s.2.2.2.2.2.1) (s.2.2.2.1,s.2.2.2.2.1) a0.1 a1.2).bind fun b2=>bif b2 then some (.done false) else some (.next (s.1,s.2.1,aA .i64 (s.2.2.1+1),s.2.2.2)) else (zX (Field.mk s.2.2.2.2.2.1) (s.2.2.2.1,s.2.2.2.2.1)).bind fun a3=>bif s.1 then bif a3.2==0 then (lR (oD.mk s.2.2.2.2.2.2.2.2.2.2.2.2.2.2.2.2.2.1 s.2.2.2.2.2.2.2.2.2.2.2.2.2.2.2.2.2.2) a3.1).bind fun b4=>some (.done b4) else some (.done false) else some (.done false)
def qQ (p0:cX) (p1:Int×Int):Option Bool:=(Option.some true).bind fun b0=>(zY p0).bind fun b1=>bif !b1 then some b0 else (pI p1).bind fun n2=>bif n2 !=0 then some b0 else (mO p0.clock.now p1).bind fun n3=>bif decide (0<n3) then some b0 else bif !b0 then some b0 else (nE p0 p1).bind fun a4=>bif a4.2.2 !=0 then bif b0 then some (a4.2.2==18) else some false else (kG a4.1).bind fun a5=>(mA p0.clock.field p1).bind fun a6=>(qM a4.1).bind fun a7=>(pK a4.1).bind fun n8=>bif n8 !=0 then some false else bif !((a4.1.clock.now.1==p1.1)&&(a4.1.clock.now.2==p1.2)) then some false else bif a5.2 !=a6.2 then some false else bif a5.1 !=a6.1 then some false else bif a7.2 !=0 then some false else bif (Int.ofNat a7.1.length) !=(if (aA .i64 ((Int.ofNat p0.clock.field.points.length) -1))>0 then aA .i64 ((Int.ofNat p0.clock.field.points.length) -1) else 0) then some false else (tX a4.1.clock p1).bind fun b9=>bif b9 then some false else (tY p0.clock.field a7.1).bind fun n10=>bif n10 !=0 then some false else aH kC (b0,a7.1,0,p1.1,p1.2,p0.clock.field.points,a4.1.clock.now.1,a4.1.clock.now.2,a4.1.clock.field.points,a4.1.clock.certs.next_,a4.1.clock.certs.list,a4.1.clock.agenda.slots.uses,a4.1.clock.agenda.slots.used,a4.1.clock.agenda.slots.free,a4.1.clock.agenda.heap,a4.1.clock.agenda.where_,a4.1.clock.due,a4.1.tree.root,a4.1.tree.nodes)
def c4:bS:=⟨aE.cons (aP.agg jV) (aE.one (aP.agg (cN.row jC))),aP.bool,fun a=>qQ a.1 a.2,.pure,false⟩
theorem aRu:aN tab 4 c4:=Oc aJZ rfl aK [(10,c10),(22,c22),(13,c13),(23,c23),(24,c24),(25,c25),(26,c26),(15,c15),(27,c27),(28,c28),(19,c19),(20,c20),(29,c29),(30,c30)] ⟨aOz,aON,V9,WA,aBX,aBY,aOP,aOQ,aB5,aOR,aOT,aOU,aBQ,V7,trivial⟩ fun a=>by kernel_rfl
end
end
end Go.Proofs.YthljmpcakagceaaGreat
