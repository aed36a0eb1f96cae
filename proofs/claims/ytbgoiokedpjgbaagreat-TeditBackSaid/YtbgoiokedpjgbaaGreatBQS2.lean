/- Plain functions for what the functions of the seat compute. Printed by a program. -/
import Derived.Test.YtbgoiokedpjgbaaGreatBVm3
import Derived.Test.YtbgoiokedpjgbaaGreatBQXT
import Derived.Test.YtbgoiokedpjgbaaGreatBQS1
open Int renaming ofNat->ut,tdiv->ww
open List renaming replicate->v6,length->Do
open Nat renaming ble->AC
open Option renaming some->EQ,none->F0s
open Bool renaming true->If,false->IR
open Decidable renaming decide->M2
set_option maxRecDepth 100000
namespace Go.Proofs.YtbgoiokedpjgbaaGreat
open Go.Vm
noncomputable section
section
variable [LP]
abbrev aq8:=Int×js×(List Int)×(List Int)×(List Bool)×(List Int)×Int×Int×Int×Int×Int
abbrev aq9:=Step aq8 Ho
abbrev aq':=Int×Int×js×(List Int)×(List Int)×(List Bool)×(List Int)×Int×Int×Int×Int×Int
def fM (c0:acX) (s:aq'):Option (Step aq' aq9):=match s with |(a,b,d,e,f,g,h,i,j,k,l,m)=>bif M2 (b<(ut (Do d))) then bif M2 ((aa .i64 (b+1))<(ut (Do d))) then (aI d (aa .i64 (b+1))).bind fun a0=>(aI d b).bind fun a1=>(cy a0 a1).bind fun n2=>bif M2 (n2<0) then (aI d (aa .i64 (b+1))).bind fun a3=>(cy a3 (i,j,k,l,m)).bind fun n4=>bif M2 (0<=n4) then (bY (f,g,h,a,i,j,k,l,m,d,e)).bind fun a5=>bif (Do a5.1)==(Do c0.2.2.2.2.2.2.2.2.2.1) then bif (Do a5.2)==(Do c0.2.2.2.2.2.2.2.2.2.2) then EQ (.done (.done a5)) else F0s else F0s else (aI d (aa .i64 (b+1))).bind fun a6=>(bY (f,g,h,a,a6.1,a6.2.1,a6.2.2.1,a6.2.2.2.1,a6.2.2.2.2,d,e)).bind fun a7=>EQ (.next (aa .i64 (b+1),aa .i64 ((aa .i64 (2*(aa .i64 (b+1))))+1),a7.1,a7.2,(f,g,h,i,j,k,l,m))) else (aI d b).bind fun a8=>(cy a8 (i,j,k,l,m)).bind fun n9=>bif M2 (0<=n9) then (bY (f,g,h,a,i,j,k,l,m,d,e)).bind fun xz=>bif (Do xz.1)==(Do c0.2.2.2.2.2.2.2.2.2.1) then bif (Do xz.2)==(Do c0.2.2.2.2.2.2.2.2.2.2) then EQ (.done (.done xz)) else F0s else F0s else (aI d b).bind fun zW=>(bY (f,g,h,a,zW.1,zW.2.1,zW.2.2.1,zW.2.2.2.1,zW.2.2.2.2,d,e)).bind fun a12=>EQ (.next (b,aa .i64 ((aa .i64 (2*b))+1),a12.1,a12.2,(f,g,h,i,j,k,l,m))) else (aI d b).bind fun QU=>(cy QU (i,j,k,l,m)).bind fun n14=>bif M2 (0<=n14) then (bY (f,g,h,a,i,j,k,l,m,d,e)).bind fun W3=>bif (Do W3.1)==(Do c0.2.2.2.2.2.2.2.2.2.1) then bif (Do W3.2)==(Do c0.2.2.2.2.2.2.2.2.2.2) then EQ (.done (.done W3)) else F0s else F0s else (aI d b).bind fun KB=>(bY (f,g,h,a,KB.1,KB.2.1,KB.2.2.1,KB.2.2.2.1,KB.2.2.2.2,d,e)).bind fun a17=>EQ (.next (b,aa .i64 ((aa .i64 (2*b))+1),a17.1,a17.2,(f,g,h,i,j,k,l,m))) else (bY (f,g,h,a,i,j,k,l,m,d,e)).bind fun Tq=>bif (Do Tq.1)==(Do c0.2.2.2.2.2.2.2.2.2.1) then bif (Do Tq.2)==(Do c0.2.2.2.2.2.2.2.2.2.2) then EQ (.done (.done Tq)) else F0s else F0s
def eD (c0:acX) (s:aq8):Option aq9:=bif M2 (0<s.1) then (aI s.2.1 (aa .i64 (ww (aa .i64 (s.1-1)) 2))).bind fun a0=>(cy s.2.2.2.2.2.2 a0).bind fun n1=>bif M2 (n1<0) then (aI s.2.1 (aa .i64 (ww (aa .i64 (s.1-1)) 2))).bind fun a2=>(bY (s.2.2.2.1,s.2.2.2.2.1,s.2.2.2.2.2.1,s.1,a2.1,a2.2.1,a2.2.2.1,a2.2.2.2.1,a2.2.2.2.2,s.2.1,s.2.2.1)).bind fun a3=>EQ (.next (aa .i64 (ww (aa .i64 (s.1-1)) 2),a3.1,a3.2,s.2.2.2)) else az (fM c0) (s.1,aa .i64 ((aa .i64 (2*s.1))+1),s.2) else az (fM c0) (s.1,aa .i64 ((aa .i64 (2*s.1))+1),s.2)
def eG (a:acX):Option Ho:=az (eD a) (a.2.2.2.1,a.2.2.2.2.2.2.2.2.2.1,a.2.2.2.2.2.2.2.2.2.2,a.1,a.2.1,a.2.2.1,a.2.2.2.2.1,a.2.2.2.2.2.1,a.2.2.2.2.2.2.1,a.2.2.2.2.2.2.2.1,a.2.2.2.2.2.2.2.2.1)
def O1:dN:=⟨[.l [.i .i64],.l [.b],.l [.i .i64],.i,.i,.i,.i,.i,.i,.l [.i .i64,.i .i64,.i .i64,.i .i64,.i .i64],.l [.i .i64]],[.agg [.sl [.i .i64] [],.sl [.b] [],.sl [.i .i64] [],.own 0 IR,.own 1 IR],.int .i64 0,.agg [.int .i64 0,.int .i64 0,.int .i64 0,.int .i64 0,.int .i64 0]],[.arr [.i .i64,.i .i64,.i .i64,.i .i64,.i .i64] [],.arr [.i .i64] []],[.l [.i .i64,.i .i64,.i .i64,.i .i64,.i .i64],.l [.i .i64]],.cq [],[.arr [.i .i64,.i .i64,.i .i64,.i .i64,.i .i64] [],.arr [.i .i64] []],fun a=>eG a⟩
theorem Il:jr aO 279 O1:=jr.of QF (wd:=IR) (cx:=(iT aB [(183,adI)] [(295,O0),(295,VL)] [] [])) (gI.make ⟨JZ,trivial⟩ ⟨Ik,SP,trivial⟩ trivial) (fun a=>by kernel_rfl)
def rR (p0:aK) (p1:Int×Int) (p2:Int×Int):Option (aK×Int):=(kx p0).bind fun n0=>(gn p2).bind fun n1=>bif (if n1>n0 then n1 else n0) !=0 then EQ (aK.mk (bc.mk [] [] []) [] [],if n1>n0 then n1 else n0) else (oA p0 p1).bind fun a2=>bif a2.2 !=0 then EQ (aK.mk (bc.mk [] [] []) [] [],a2.2) else (bP p0.bv).bind fun l3=>(bP p0.aq).bind fun l4=>(aI l3 a2.1).bind fun a5=>(eG (p0.af.aA,p0.af.be,p0.af.bi,a2.1,p2.1,p2.2,a5.2.2.1,a5.2.2.2.1,a5.2.2.2.2,l3,l4)).bind fun a6=>EQ (aK.mk p0.af a6.1 a6.2,0)
def ara:bz:=⟨ax.cons (Arg.agg cZ) (ax.cons (Arg.agg (cA.row iH)) (ax.one (Arg.agg (cA.row iH)))),Arg.cq (ax.cons (Arg.agg cZ) (ax.one (Arg.int .i64))),fun a=>rR a.1 a.2.1 a.2.2,.mO,IR⟩
theorem aeg:aF aO 247 ara:=aF.of acn (cx:=(iT aB [(127,Vz),(106,L6),(273,amn),(211,bz.clone kr),(32,bz.clone ki)] [(279,J4),(279,O1)] [(278,Sy)] [])) rfl (gI.make ⟨Eu,wz,Q7,sG,mb,trivial⟩ ⟨C4,Il,trivial⟩ ⟨JM,trivial⟩) (fun a=>by kernel_rfl)
def uD (p0:Int×Int×Int×Int×Int) (p1:Int):Option Bool:=EQ (p0.2.2.1==p1)
def arb:bz:=⟨ax.cons (Arg.agg (cA.row kr)) (ax.one (Arg.ref (cA.int .i64))),Arg.bool,fun a=>uD a.1 a.2,.pure,IR⟩
theorem aeh:aF aO 281 arb:=Oc QG aB [] trivial
def cP (s:(js×Int×Int×Int)):Option (Step (js×Int×Int×Int) Int):=bif M2 (s.2.2.2<s.2.2.1) then (aI s.1 s.2.2.2).bind fun a0=>(uD a0 s.2.1).bind fun b1=>bif b1 then EQ (.done s.2.2.2) else EQ (.next (s.1,s.2.1,s.2.2.1,aa .i64 (s.2.2.2+1))) else EQ (.done (-1))
def eE (p0:List (Int×Int×Int×Int×Int)) (p1:Int):Option Int:=az cP (p0,p1,ut (Do p0),0)
def Mm:bz:=⟨ax.cons (Arg.sl kr) (ax.one (Arg.eI 281 (ax.one (Arg.ref (cA.int .i64))))),Arg.int .i64,fun a=>eE a.1 a.2,.pure,IR⟩
theorem Mn:aF aO 296 Mm:=aF.of acR (cx:=(iT aB [(281,arb)] [] [(281,aam)] [])) rfl (gI.make ⟨aeh,trivial⟩ trivial ⟨QG,trivial⟩) (fun a=>by kernel_rfl)
def cQ (p0:List (Int×Int×Int×Int×Int)) (p1:Int):Option Bool:=(eE p0 p1).bind fun n0=>EQ (M2 (0<=n0))
def Mo:bz:=⟨ax.cons (Arg.sl kr) (ax.one (Arg.eI 281 (ax.one (Arg.ref (cA.int .i64))))),Arg.bool,fun a=>cQ a.1 a.2,.pure,IR⟩
theorem Mp:aF aO 280 Mo:=Oc acH aB [(296,Mm)] ⟨Mn,trivial⟩
def sP (p0:List Int):Option ((List Int)×Int):=(fW p0 0 (aa .i64 ((ut (Do p0)) -1))).bind fun l0=>(bP l0).bind fun l1=>(aI p0 (aa .i64 ((ut (Do p0)) -1))).bind fun n2=>EQ (l1,n2)
def arc:bz:=⟨ax.one (Arg.sl ki),Arg.cq (ax.cons (Arg.sl ki) (ax.one (Arg.int .i64))),fun a=>sP a,.mO,IR⟩
theorem aei:aF aO 297 arc:=Oc acS aB [(301,bz.clone ki)] ⟨L2,trivial⟩
def zg (p0:bc):Option (bc×(Int×Int)×Int):=(px p0).bind fun n0=>bif n0 !=0 then EQ (bc.mk [] [] [],(0,0),n0) else bif (ut (Do p0.bi))==0 then EQ (bc.mk [] [] [],(0,0),18) else (sP p0.bi).bind fun a1=>(aI p0.aA a1.2).bind fun n2=>bif n2==1000000 then EQ (bc.mk [] [] [],(0,0),18) else (bP p0.aA).bind fun l3=>(bP p0.be).bind fun l4=>(aI l4 a1.2).bind fun _=>(aI l3 a1.2).bind fun n6=>(aI l3 a1.2).bind fun _=>(aI (bZ l3 a1.2 (aa .i64 (n6+1))) a1.2).bind fun n8=>EQ (bc.mk (bZ l3 a1.2 (aa .i64 (n6+1))) (bZ l4 a1.2 If) a1.1,(a1.2,n8),0)
def ard:bz:=⟨ax.one (Arg.agg fJ),Arg.cq (ax.cons (Arg.agg fJ) (ax.cons (Arg.agg (cA.row iH)) (ax.one (Arg.int .i64)))),fun a=>zg a,.mO,IR⟩
theorem aej:aF aO 282 ard:=aF.of acI (cx:=(iT aB [(182,ady),(297,arc),(32,bz.clone ki),(212,bz.clone kb)] [] [(298,U')] [])) rfl (gI.make ⟨JX,aei,mb,sF,trivial⟩ trivial ⟨QJ,trivial⟩) (fun a=>by kernel_rfl)
def j9 (p0:aK) (p1:Int×Int) (p2:Int):Option (aK×(Int×Int)×Int):=(kx p0).bind fun n0=>(gn p1).bind fun n1=>bif (if n1>n0 then n1 else n0) !=0 then EQ (aK.mk (bc.mk [] [] []) [] [],(0,0),if n1>n0 then n1 else n0) else bif M2 (p2<0) then EQ (aK.mk (bc.mk [] [] []) [] [],(0,0),2) else bif M2 (1000000<p2) then EQ (aK.mk (bc.mk [] [] []) [] [],(0,0),2) else (cQ p0.bv p2).bind fun b2=>bif b2 then EQ (aK.mk (bc.mk [] [] []) [] [],(0,0),14) else (zg p0.af).bind fun a3=>bif a3.2.2 !=0 then EQ (aK.mk (bc.mk [] [] []) [] [],(0,0),a3.2.2) else (bP p0.bv).bind fun l4=>(bP p0.aq).bind fun l5=>(bq l4 [(p1.1,p1.2,p2,a3.2.1)]).bind fun l6=>(eG (a3.1.aA,a3.1.be,a3.1.bi,aa .i64 ((ut (Do l6)) -1),p1.1,p1.2,p2,a3.2.1.1,a3.2.1.2,l6,l5)).bind fun a7=>EQ (aK.mk a3.1 a7.1 a7.2,a3.2.1,0)
def amq:bz:=⟨ax.cons (Arg.agg cZ) (ax.cons (Arg.agg (cA.row iH)) (ax.one (Arg.int .i64))),Arg.cq (ax.cons (Arg.agg cZ) (ax.cons (Arg.agg (cA.row iH)) (ax.one (Arg.int .i64)))),fun a=>j9 a.1 a.2.1 a.2.2,.mO,IR⟩
theorem Q9:aF aO 248 amq:=aF.of aco (cx:=(iT aB [(127,Vz),(106,L6),(280,Mo),(282,ard),(211,bz.clone kr),(32,bz.clone ki)] [(279,J4),(279,O1)] [(278,Sy)] [])) rfl (gI.make ⟨Eu,wz,Mp,aej,sG,mb,trivial⟩ ⟨C4,Il,trivial⟩ ⟨JM,trivial⟩) (fun a=>by kernel_rfl)
abbrev Zt3:=cj×Int×Int×Int×Int×cj×Int×cj×(List Int)×(List Bool)×(List Int)×js×(List Int)×cj×cj×Int×Int×Int×Int×Int×Int×cj×(List Int)×(List Bool)×(List Int)×js×(List Int)×cj×cj
abbrev are:=cj×Int×Int×Int×Int×cj×Int×cj×(List Int)×(List Bool)×(List Int)×js×(List Int)×cj×cj×Int×Int×Int
abbrev Zt7:=Step are (aP×Int)
def dz (s:Zt3):Option (Step Zt3 Zt7):=match s with |(a,b,d,e,f,g,h,i,j,k,l,m,n,o,q,r,t,u,v,w,x,y,z,A,B,C,D,E,F)=>bif M2 (d<b) then (aI a d).bind fun a0=>(pz (Field.mk q) a0.2 (e,f)).bind fun a1=>(nK o a0.1).bind fun a2=>bif a1.2.1 then bif a2.2 then (aI o a2.1).bind fun a3=>(rR (aK.mk (bc.mk z A B) C D) a3.2 a1.1).bind fun a4=>(aI o a2.1).bind fun a5=>(bq F [a5]).bind fun l6=>bif a4.2 !=0 then EQ (.done (.done (gO,a4.2))) else EQ (.next (a,b,aa .i64 (d+1),e,f,g,h,i,j,k,l,m,n,o,q,r,t,u,v,w,x,y,a4.1.af.aA,a4.1.af.be,a4.1.af.bi,a4.1.bv,a4.1.aq,E,l6)) else bif a1.2.1 then (j9 (aK.mk (bc.mk z A B) C D) a1.1 a0.1).bind fun a7=>(bq F [(a0.1,a7.2.1)]).bind fun l8=>bif a7.2.2 !=0 then EQ (.done (.done (gO,a7.2.2))) else EQ (.next (a,b,aa .i64 (d+1),e,f,g,h,i,j,k,l,m,n,o,q,r,t,u,v,w,x,y,a7.1.af.aA,a7.1.af.be,a7.1.af.bi,a7.1.bv,a7.1.aq,E,l8)) else bif a2.2 then (aI o a2.1).bind fun a9=>(kW (aK.mk (bc.mk z A B) C D) a9.2).bind fun xz=>bif xz.2.2 !=0 then EQ (.done (.done (gO,xz.2.2))) else EQ (.next (a,b,aa .i64 (d+1),e,f,g,h,i,j,k,l,m,n,o,q,r,t,u,v,w,x,y,xz.1.af.aA,xz.1.af.be,xz.1.af.bi,xz.1.bv,xz.1.aq,(E,F))) else bif a1.2.2 !=0 then EQ (.done (.done (gO,a1.2.2))) else EQ (.next (a,b,aa .i64 (d+1),(e,f,g,h,i,j,k,l,m,n,o,q,r,t,u,v,w,x,y,z,A,B,C,D,E,F))) else bif a1.2.1 then (j9 (aK.mk (bc.mk z A B) C D) a1.1 a0.1).bind fun zW=>(bq F [(a0.1,zW.2.1)]).bind fun l12=>bif zW.2.2 !=0 then EQ (.done (.done (gO,zW.2.2))) else EQ (.next (a,b,aa .i64 (d+1),e,f,g,h,i,j,k,l,m,n,o,q,r,t,u,v,w,x,y,zW.1.af.aA,zW.1.af.be,zW.1.af.bi,zW.1.bv,zW.1.aq,E,l12)) else bif a2.2 then (aI o a2.1).bind fun QU=>(kW (aK.mk (bc.mk z A B) C D) QU.2).bind fun QQ=>bif QQ.2.2 !=0 then EQ (.done (.done (gO,QQ.2.2))) else EQ (.next (a,b,aa .i64 (d+1),e,f,g,h,i,j,k,l,m,n,o,q,r,t,u,v,w,x,y,QQ.1.af.aA,QQ.1.af.be,QQ.1.af.bi,QQ.1.bv,QQ.1.aq,(E,F))) else bif a1.2.2 !=0 then EQ (.done (.done (gO,a1.2.2))) else EQ (.next (a,b,aa .i64 (d+1),(e,f,g,h,i,j,k,l,m,n,o,q,r,t,u,v,w,x,y,z,A,B,C,D,E,F))) else EQ (.done (.done (aP.mk (v,w) (Field.mk E) (bC.mk x y) (aK.mk (bc.mk z A B) C D) F,0)))
def jK (s:are):Option Zt7:=match s with |(a,b,d,e,f,g,h,i,j,k,l,m,n,o,q,r,t,u)=>bif M2 (d<b) then (aI a d).bind fun a0=>(iX (Field.mk q) a0.2.1).bind fun a1=>bif M2 (a1.1<0) then EQ (.done (gO,6)) else (iX (Field.mk q) a0.2.2).bind fun a2=>bif M2 (a2.1<0) then EQ (.done (gO,6)) else EQ (.next (a,b,aa .i64 (d+1),(e,f,g,h,i,j,k,l,m,n,o,q,r,t,u))) else (lP (aP.mk (e,f) (Field.mk g) (bC.mk h i) (aK.mk (bc.mk j k l) m n) o)).bind fun r3=>(bP q).bind fun l4=>az dz (i,ut (Do i),0,e,f,g,h,i,j,k,l,m,n,o,q,r,t,u,r3.ci.1,r3.ci.2,r3.ai.aM,r3.ai.ce,r3.ae.af.aA,r3.ae.af.be,r3.ae.af.bi,r3.ae.bv,r3.ae.aq,l4,[])
def nL (p0:aP) (p1:Field):Option (aP×Int):=(gq p0).bind fun n0=>bif n0 !=0 then EQ (gO,n0) else (dm p1).bind fun n1=>bif n1 !=0 then EQ (gO,n1) else az jK (p0.ai.ce,ut (Do p0.ai.ce),0,p0.ci.1,p0.ci.2,p0.ii.am,p0.ai.aM,p0.ai.ce,p0.ae.af.aA,p0.ae.af.be,p0.ae.af.bi,p0.ae.bv,p0.ae.aq,p0.io,p1.am,0,0,0)
def arf:bz:=⟨ax.cons (Arg.agg bS) (ax.one (Arg.agg bN)),Arg.cq (ax.cons (Arg.agg bS) (ax.one (Arg.int .i64))),fun a=>nL a.1 a.2,.mO,IR⟩
theorem aek:aF aO 206 arf:=Oc abR aB [(74,c74),(57,c57),(185,adK),(180,ad8),(180,Q4),(61,bz.clone dQ),(128,adR),(233,aml),(247,ara),(248,amq),(234,amp)] ⟨Ga,AS,J0,J3,Gb,tF,J2,Q5,aeg,Q9,Q8,trivial⟩
def zY (p0:Int×Int×Int) (p1:Int×Int):Option Bool:=EQ ((p0.2.1==p1.1)&&(p0.2.2==p1.2))
def arh:bz:=⟨ax.cons (Arg.agg (cA.row dQ)) (ax.one (Arg.ref (cA.row iH))),Arg.bool,fun a=>zY a.1 a.2,.pure,IR⟩
theorem ael:aF aO 207 arh:=Oc QD aB [] trivial
def lx (s:Hq):Option (Step Hq Int):=bif M2 (s.2.2.2.2<s.2.2.2.1) then (aI s.1 s.2.2.2.2).bind fun a0=>(zY a0 (s.2.1,s.2.2.1)).bind fun b1=>bif b1 then EQ (.done s.2.2.2.2) else EQ (.next (s.1,s.2.1,s.2.2.1,s.2.2.2.1,aa .i64 (s.2.2.2.2+1))) else EQ (.done (-1))
def gQ (p0:List (Int×Int×Int)) (p1:(Int×Int)):Option Int:=az lx (p0,p1.1,p1.2,ut (Do p0),0)
def Mq:bz:=⟨ax.cons (Arg.sl dQ) (ax.one (Arg.eI 207 (ax.one (Arg.ref (cA.row iH))))),Arg.int .i64,fun a=>gQ a.1 a.2,.pure,IR⟩
theorem Mr:aF aO 201 Mq:=aF.of JJ (cx:=(iT aB [(207,arh)] [] [(207,Zv)] [])) rfl (gI.make ⟨ael,trivial⟩ trivial ⟨QD,trivial⟩) (fun a=>by kernel_rfl)
def dV (p0:List (Int×Int×Int)) (p1:(Int×Int)):Option Bool:=(gQ p0 p1).bind fun n0=>EQ (M2 (0<=n0))
def Ms:bz:=⟨ax.cons (Arg.sl dQ) (ax.one (Arg.eI 207 (ax.one (Arg.ref (cA.row iH))))),Arg.bool,fun a=>dV a.1 a.2,.pure,IR⟩
theorem Mt:aF aO 138 Ms:=Oc JH aB [(201,Mq)] ⟨Mr,trivial⟩
def dv (p0:Int):Option (aP×Int×Int):=EQ (gO,0,p0)
def ari:bz:=⟨ax.one (Arg.int .i64),Arg.cq (ax.cons (Arg.agg bS) (ax.cons (Arg.int .i64) (ax.one (Arg.int .i64)))),fun a=>dv a,.mO,IR⟩
theorem aem:aF aO 249 ari:=Oc acp aB [] trivial
def AT (p0:Int×Int×Int) (p1:Int×Int):Option Bool:=EQ ((p0.2.1==p1.1)&&(p0.2.2==p1.2))
def arj:bz:=⟨ax.cons (Arg.agg (cA.row dQ)) (ax.one (Arg.ref (cA.row iH))),Arg.bool,fun a=>AT a.1 a.2,.pure,IR⟩
theorem aen:aF aO 283 arj:=Oc QH aB [] trivial
def dt (s:Hq):Option (Step Hq Int):=bif M2 (s.2.2.2.2<s.2.2.2.1) then (aI s.1 s.2.2.2.2).bind fun a0=>(AT a0 (s.2.1,s.2.2.1)).bind fun b1=>bif b1 then EQ (.done s.2.2.2.2) else EQ (.next (s.1,s.2.1,s.2.2.1,s.2.2.2.1,aa .i64 (s.2.2.2.2+1))) else EQ (.done (-1))
def fC (p0:List (Int×Int×Int)) (p1:(Int×Int)):Option Int:=az dt (p0,p1.1,p1.2,ut (Do p0),0)
def Mu:bz:=⟨ax.cons (Arg.sl dQ) (ax.one (Arg.eI 283 (ax.one (Arg.ref (cA.row iH))))),Arg.int .i64,fun a=>fC a.1 a.2,.pure,IR⟩
theorem Mv:aF aO 201 Mu:=aF.of JJ (cx:=(iT aB [(283,arj)] [] [(283,aap)] [])) rfl (gI.make ⟨aen,trivial⟩ trivial ⟨QH,trivial⟩) (fun a=>by kernel_rfl)
def cz (p0:List (Int×Int×Int)) (p1:(Int×Int)):Option Bool:=(fC p0 p1).bind fun n0=>EQ (M2 (0<=n0))
def Mw:bz:=⟨ax.cons (Arg.sl dQ) (ax.one (Arg.eI 283 (ax.one (Arg.ref (cA.row iH))))),Arg.bool,fun a=>cz a.1 a.2,.pure,IR⟩
theorem Mx:aF aO 138 Mw:=Oc JH aB [(201,Mu)] ⟨Mv,trivial⟩
def BW (p0:bC) (p1:Int×Int):Option (bC×Int×Int):=(pt p0).bind fun n0=>bif n0 !=0 then EQ (bC.mk 0 [],0,n0) else (sJ p1).bind fun b1=>bif !b1 then EQ (bC.mk 0 [],0,8) else (cz p0.ce p1).bind fun b2=>bif b2 then EQ (bC.mk 0 [],0,14) else bif (ut (Do p0.ce))==200 then EQ (bC.mk 0 [],0,18) else bif p0.aM==1000000 then EQ (bC.mk 0 [],0,18) else (bP p0.ce).bind fun l3=>(bq l3 [(p0.aM,p1)]).bind fun l4=>EQ (bC.mk (aa .i64 (p0.aM+1)) l4,p0.aM,0)
def ark:bz:=⟨ax.cons (Arg.agg gl) (ax.one (Arg.agg (cA.row iH))),Arg.cq (ax.cons (Arg.agg gl) (ax.cons (Arg.int .i64) (ax.one (Arg.int .i64)))),fun a=>BW a.1 a.2,.mO,IR⟩
theorem aeo:aF aO 250 ark:=Oc acq aB [(126,adv),(181,al7),(138,Mw),(209,bz.clone dQ)] ⟨JW,QX,Mx,vq,trivial⟩
def hM (p0:aP) (p1:Int×Int):Option (aP×Int×Int):=(gq p0).bind fun n0=>bif n0 !=0 then (dv n0).bind fun a1=>EQ a1 else (BW p0.ai p1).bind fun a2=>bif a2.2.2==8 then (dv a2.2.2).bind fun a3=>EQ a3 else (iX p0.ii p1.1).bind fun a4=>bif M2 (a4.1<0) then (dv 6).bind fun a5=>EQ a5 else (iX p0.ii p1.2).bind fun a6=>bif M2 (a6.1<0) then (dv 6).bind fun a7=>EQ a7 else bif a2.2.2 !=0 then (dv a2.2.2).bind fun a8=>EQ a8 else (lP p0).bind fun r9=>(pz p0.ii p1 p0.ci).bind fun xz=>bif xz.2.2 !=0 then (dv xz.2.2).bind fun zW=>EQ zW else bif xz.2.1 then (j9 p0.ae xz.1 a2.2.1).bind fun a12=>bif a12.2.2 !=0 then (dv a12.2.2).bind fun QU=>EQ QU else (bq r9.io [(a2.2.1,a12.2.1)]).bind fun l14=>EQ (aP.mk r9.ci r9.ii a2.1 a12.1 l14,a2.2.1,0) else EQ (aP.mk r9.ci r9.ii a2.1 r9.ae r9.io,a2.2.1,0)
def arl:bz:=⟨ax.cons (Arg.agg bS) (ax.one (Arg.agg (cA.row iH))),Arg.cq (ax.cons (Arg.agg bS) (ax.cons (Arg.int .i64) (ax.one (Arg.int .i64)))),fun a=>hM a.1 a.2,.mO,IR⟩
theorem aep:aF aO 208 arl:=Oc abS aB [(74,c74),(249,ari),(250,ark),(185,adK),(180,ad8),(180,Q4),(128,adR),(248,amq)] ⟨Ga,aem,aeo,J0,J3,Gb,J2,Q9,trivial⟩
abbrev arn:=oW×cj×Int×Int×Int×Int×cj×Int×cj×(List Int)×(List Bool)×(List Int)×js×(List Int)×cj×cj×Int×Int×Int
abbrev Zt6:=Step arn (aP×Int)
abbrev Zt9:=oW×Int×Int×Int×Int×cj×Int×cj×(List Int)×(List Bool)×(List Int)×js×(List Int)×cj×Int×Int×Int
def dA (s:Zt9):Option (Step Zt9 Zt6):=match s with |(a,b,d,e,f,g,h,i,j,k,l,m,n,o,q,r,t)=>bif M2 (d<b) then (aI a d).bind fun a0=>(dV i a0).bind fun b1=>bif b1 then EQ (.next (a,b,aa .i64 (d+1),(e,f,g,h,i,j,k,l,m,n,o,q,r,t))) else (hM (aP.mk (e,f) (Field.mk g) (bC.mk h i) (aK.mk (bc.mk j k l) m n) o) a0).bind fun a2=>bif a2.2.2 !=0 then EQ (.done (.done (gO,a2.2.2))) else EQ (.next (a,b,aa .i64 (d+1),a2.1.ci.1,a2.1.ci.2,a2.1.ii.am,a2.1.ai.aM,a2.1.ai.ce,a2.1.ae.af.aA,a2.1.ae.af.be,a2.1.ae.af.bi,a2.1.ae.bv,a2.1.ae.aq,a2.1.io,(q,r,t))) else EQ (.done (.done (aP.mk (e,f) (Field.mk g) (bC.mk h i) (aK.mk (bc.mk j k l) m n) o,0)))
def c7 (s:arn):Option Zt6:=match s with |(a,b,d,e,f,g,h,i,j,k,l,m,n,o,q,r,t,u,v)=>bif M2 (e<d) then (aI b e).bind fun a0=>(ec a a0.2).bind fun b1=>bif !b1 then (rQ (aP.mk (f,g) (Field.mk h) (bC.mk i j) (aK.mk (bc.mk k l m) n o) q) a0.1).bind fun a2=>EQ (.next (a,b,d,aa .i64 (e+1),a2.1.ci.1,a2.1.ci.2,a2.1.ii.am,a2.1.ai.aM,a2.1.ai.ce,a2.1.ae.af.aA,a2.1.ae.af.be,a2.1.ae.af.bi,a2.1.ae.bv,a2.1.ae.aq,a2.1.io,(r,t,u,v))) else EQ (.next (a,b,d,aa .i64 (e+1),(f,g,h,i,j,k,l,m,n,o,q,r,t,u,v))) else (kz h r).bind fun b3=>bif !b3 then (nL (aP.mk (f,g) (Field.mk h) (bC.mk i j) (aK.mk (bc.mk k l m) n o) q) (Field.mk r)).bind fun a4=>bif a4.2 !=0 then EQ (.done (gO,a4.2)) else az dA (a,ut (Do a),0,a4.1.ci.1,a4.1.ci.2,a4.1.ii.am,a4.1.ai.aM,a4.1.ai.ce,a4.1.ae.af.aA,a4.1.ae.af.be,a4.1.ae.af.bi,a4.1.ae.bv,a4.1.ae.aq,a4.1.io,(t,u,v)) else az dA (a,ut (Do a),0,f,g,h,i,j,k,l,m,n,o,q,(t,u,v))
def lQ (p0:aP) (p1:Field) (p2:List (Int×Int)):Option (aP×Int):=az c7 (p2,p0.ai.ce,ut (Do p0.ai.ce),0,p0.ci.1,p0.ci.2,p0.ii.am,p0.ai.aM,p0.ai.ce,p0.ae.af.aA,p0.ae.af.be,p0.ae.af.bi,p0.ae.bv,p0.ae.aq,p0.io,p1.am,0,0,0)
def aro:bz:=⟨ax.cons (Arg.agg bS) (ax.cons (Arg.agg bN) (ax.one (Arg.sl iH))),Arg.cq (ax.cons (Arg.agg bS) (ax.one (Arg.int .i64))),fun a=>lQ a.1 a.2.1 a.2.2,.mO,IR⟩
theorem aeq:aF aO 145 aro:=Oc abd aB [(137,VC),(204,aq6),(205,aq7),(206,arf),(138,Ms),(208,arl)] ⟨Ew,aee,aef,aek,Mt,aep,trivial⟩
abbrev SQ:=oW×oW×Int×Int×Int×Int×cj×Int×cj×(List Int)×(List Bool)×(List Int)×js×(List Int)×cj×cj×Int×Int×Int
abbrev arp:=Step SQ (aP×Int)
abbrev Zt1:=Step SQ arp
def eU (s:SQ):Option (Step SQ Zt1):=match s with |(a,b,d,e,f,g,h,i,j,k,l,m,n,o,q,r,t,u,v)=>bif M2 (e<d) then (aI b e).bind fun a0=>(sN (Field.mk r) a0.1).bind fun a1=>(sN (Field.mk r) a0.2).bind fun a2=>bif a1.2 !=0 then EQ (.done (.done (.done (gO,6)))) else bif a2.2 !=0 then EQ (.done (.done (.done (gO,6)))) else EQ (.next (a,b,d,aa .i64 (e+1),(f,g,h,i,j,k,l,m,n,o,q,r,t,u,v))) else (sO (aP.mk (f,g) (Field.mk h) (bC.mk i j) (aK.mk (bc.mk k l m) n o) q)).bind fun r3=>(lQ r3 (Field.mk r) a).bind fun a4=>EQ (.done (.done (.done a4)))
def eg (s:SQ):Option Zt1:=bif M2 (s.2.2.2.1<s.2.2.1) then (aI s.2.1 s.2.2.2.1).bind fun a0=>(fW s.1 0 s.2.2.2.1).bind fun l1=>(ec l1 a0).bind fun b2=>bif b2 then EQ (.done (.done (gO,14))) else EQ (.next (s.1,s.2.1,s.2.2.1,aa .i64 (s.2.2.2.1+1),s.2.2.2.2)) else az eU (s.1,s.1,ut (Do s.1),0,s.2.2.2.2)
def eh (s:SQ):Option arp:=bif M2 (s.2.2.2.1<s.2.2.1) then (aI s.2.1 s.2.2.2.1).bind fun a0=>bif M2 (a0.1<0) then EQ (.done (gO,8)) else bif M2 (a0.2<0) then EQ (.done (gO,8)) else bif M2 (65535<a0.1) then EQ (.done (gO,8)) else bif M2 (65535<a0.2) then EQ (.done (gO,8)) else bif a0.1==a0.2 then EQ (.done (gO,8)) else EQ (.next (s.1,s.2.1,s.2.2.1,aa .i64 (s.2.2.2.1+1),s.2.2.2.2)) else az eg (s.1,s.1,ut (Do s.1),0,s.2.2.2.2)
def lR (p0:aP) (p1:Field) (p2:List (Int×Int)):Option (aP×Int):=(gq p0).bind fun n0=>bif n0 !=0 then EQ (gO,n0) else (dm p1).bind fun n1=>bif n1 !=0 then EQ (gO,n1) else az eh (p2,p2,ut (Do p2),0,p0.ci.1,p0.ci.2,p0.ii.am,p0.ai.aM,p0.ai.ce,p0.ae.af.aA,p0.ae.af.be,p0.ae.af.bi,p0.ae.bv,p0.ae.aq,p0.io,p1.am,0,0,0)
def c86:bz:=⟨ax.cons (Arg.agg bS) (ax.cons (Arg.agg bN) (ax.one (Arg.sl iH))),Arg.cq (ax.cons (Arg.agg bS) (ax.one (Arg.int .i64))),fun a=>lR a.1 a.2.1 a.2.2,.mO,IR⟩
theorem amr:aF aO 86 c86:=Oc alx aB [(74,c74),(57,c57),(137,VC),(144,aqW),(146,aqX),(146,afW),(145,aro)] ⟨Ga,AS,Ew,ad3,ad4,VI,aeq,trivial⟩
def cd (p0:aP) (p1:Field) (p2:List Int):Option (bJ×Int):=(kV p1 p0.ci p2).bind fun a0=>(tL a0.1).bind fun l1=>(lR p0 p1 l1).bind fun a2=>bif a2.2 !=0 then EQ (bJ.mk gO (bu.mk [] []),a2.2) else EQ (bJ.mk a2.1 a0.1,0)
def c37:bz:=⟨ax.cons (Arg.agg bS) (ax.cons (Arg.agg bN) (ax.one (Arg.sl ki))),Arg.cq (ax.cons (Arg.agg ft) (ax.one (Arg.int .i64))),fun a=>cd a.1 a.2.1 a.2.2,.mO,IR⟩
theorem O2:aF aO 37 c37:=Oc akV aB [(85,c85),(87,c87),(86,c86)] ⟨VB,amk,amr,trivial⟩
def pB (p0:bJ) (p1:Int×Int×Int):Option (bJ×Int):=(ky p0).bind fun n0=>bif n0 !=0 then EQ (bJ.mk gO (bu.mk [] []),n0) else (iM p0.jp.ii p1).bind fun a1=>bif a1.2 !=0 then EQ (bJ.mk gO (bu.mk [] []),a1.2) else (bP p0.kw.aL).bind fun l2=>(fv l2 (-1)).bind fun n3=>bif M2 (n3<0) then (bQ [-1] (ut (Do l2))).bind fun l4=>bif l4.isEmpty then (aI l2 (ut (Do l2))).bind fun _=>(cd p0.jp a1.1 (bZ l2 (ut (Do l2)) p1.1)).bind fun a6=>EQ a6 else (bq l2 l4).bind fun l7=>(aI l7 (ut (Do l2))).bind fun _=>(cd p0.jp a1.1 (bZ l7 (ut (Do l2)) p1.1)).bind fun a9=>EQ a9 else (aI l2 n3).bind fun _=>(cd p0.jp a1.1 (bZ l2 n3 p1.1)).bind fun zW=>EQ zW
def c17:bz:=⟨ax.cons (Arg.agg ft) (ax.one (Arg.agg (cA.row dQ))),Arg.cq (ax.cons (Arg.agg ft) (ax.one (Arg.int .i64))),fun a=>pB a.1 a.2,.mO,IR⟩
theorem VM:aF aO 17 c17:=Oc akH aB [(31,c31),(23,c23),(32,bz.clone ki),(33,c33),(36,c36),(36,amj),(37,c37)] ⟨OY,ami,mb,VF,VH,Q3,O2,trivial⟩
def ji (a:SG):Option (Nat×Nat×cj):= gZ a
def afX:dN:=⟨[.i,.i,.l [.i .i64,.i .i64,.i .i64]],[.own 0 IR,.int .i64 0,.int .i64 0],[.arr [.i .i64,.i .i64,.i .i64] []],[.n,.n,.l [.i .i64,.i .i64,.i .i64]],.pre 0 0 0 IR,[.arr [.i .i64,.i .i64,.i .i64] []],fun a=>ji a⟩
theorem VN:jr aO 63 afX:=jr.of alf (wd:=If) (cx:=(iT aB [] [] [] [])) (gI.make trivial trivial trivial) (fun a=>by kernel_rfl)
def jj (p0:Field) (p1:Int):Option (Field×Int):=(ja p0 p1).bind fun a0=>bif a0.2 !=0 then EQ (Field.mk [],a0.2) else (bP p0.am).bind fun l1=>(ji (a0.1,aa .i64 (a0.1+1),l1)).bind fun a2=>EQ (Field.mk (a2.2.2.take a2.1),0)
def c24:bz:=⟨ax.cons (Arg.agg bN) (ax.one (Arg.int .i64)),Arg.cq (ax.cons (Arg.agg bN) (ax.one (Arg.int .i64))),fun a=>jj a.1 a.2,.mO,IR⟩
theorem ams:aF aO 24 c24:=aF.of akN (cx:=(iT aB [(62,c62),(61,bz.clone dQ)] [(63,afX)] [] [])) rfl (gI.make ⟨OZ,tF,trivial⟩ ⟨VN,trivial⟩ trivial) (fun a=>by kernel_rfl)
def wG (p0:Int):Option Bool:=EQ (M2 (p0<0))
def c35:bz:=⟨ax.one (Arg.int .i64),Arg.bool,fun a=>wG a,.pure,IR⟩
theorem amt:aF aO 35 c35:=Oc akU aB [] trivial
def jL (c0:(List Int)) (s:SD):Option ap1:=bif M2 (s.2.1<(ut (Do s.2.2))) then (aI s.2.2 s.2.1).bind fun n0=>(wG n0).bind fun b1=>bif !b1 then (aI s.2.2 s.1).bind fun _=>EQ (.next (aa .i64 (s.1+1),aa .i64 (s.2.1+1),bZ s.2.2 s.1 n0)) else EQ (.next (s.1,aa .i64 (s.2.1+1),s.2.2)) else bif ((M2 (0<=s.1))&&(M2 (s.1<=(ut (Do s.2.2)))))&&(M2 ((ut (Do s.2.2))<=(ut (Do s.2.2)))) then bif Nat.beq (((ut (Do s.2.2)).toNat) -s.1.toNat) 0 then (fW s.2.2 0 s.1).bind fun _=>bif (Do s.2.2)==(Do c0) then EQ (.done (.done (s.1.toNat,Do s.2.2,s.2.2))) else F0s else bif (AC ((0+s.1.toNat)+(((ut (Do s.2.2)).toNat) -s.1.toNat)) (Do s.2.2))&&(!IR) then (fW (eX s.2.2 (0+s.1.toNat) (v6 (((ut (Do s.2.2)).toNat) -s.1.toNat) 0)) 0 s.1).bind fun _=>bif ((eX s.2.2 (0+s.1.toNat) (v6 (((ut (Do s.2.2)).toNat) -s.1.toNat) 0)).length)==(Do c0) then EQ (.done (.done (s.1.toNat,(eX s.2.2 (0+s.1.toNat) (v6 (((ut (Do s.2.2)).toNat) -s.1.toNat) 0)).length,eX s.2.2 (0+s.1.toNat) (v6 (((ut (Do s.2.2)).toNat) -s.1.toNat) 0)))) else F0s else F0s else F0s
def jM (c0:(List Int)) (s:SD):Option alN:=bif M2 (s.2.1<s.1) then (aI s.2.2 s.2.1).bind fun n0=>(wG n0).bind fun b1=>bif b1 then bif (Do s.2.2)==(Do c0) then bif s.2.1==(-1) then bif (Do s.2.2)==(Do c0) then EQ (.done (Do s.2.2,Do s.2.2,s.2.2)) else F0s else az (jL c0) (s.2.1,aa .i64 (s.2.1+1),s.2.2) else F0s else EQ (.next (s.1,aa .i64 (s.2.1+1),s.2.2)) else bif (Do s.2.2)==(Do c0) then bif (Do s.2.2)==(Do c0) then EQ (.done (Do s.2.2,Do s.2.2,s.2.2)) else F0s else F0s
def dK (a:(List Int)):Option (Nat×Nat×(List Int)):=az (jM a) (ut (Do a),0,a)
def afY:dN:=⟨[.l [.i .i64]],[.own 0 IR,.eI 35 [] []],[.arr [.i .i64] []],[.n,.n,.l [.i .i64]],.pre 0 0 0 IR,[.arr [.i .i64] []],fun a=>dK a⟩
theorem VO:jr aO 34 afY:=jr.of Vg (wd:=If) (cx:=(iT aB [(35,c35)] [] [(83,X')] [])) (gI.make ⟨amt,trivial⟩ trivial ⟨C0,trivial⟩) (fun a=>by kernel_rfl)
def lS (p0:bJ) (p1:Int):Option (bJ×Int):=(ky p0).bind fun n0=>bif n0 !=0 then EQ (bJ.mk gO (bu.mk [] []),n0) else (jj p0.jp.ii p1).bind fun a1=>bif a1.2 !=0 then EQ (bJ.mk gO (bu.mk [] []),a1.2) else (bP p0.kw.aL).bind fun l2=>(fv l2 p1).bind fun n3=>(aI l2 n3).bind fun _=>bif M2 (1<(ut ((bZ l2 n3 (-1)).length))) then bif M2 ((aa .i64 (4*(ut (Do a1.1.am))))<=(ut ((bZ l2 n3 (-1)).length))) then (dK (bZ l2 n3 (-1))).bind fun a5=>(bQ [-1] (aa .i64 ((aa .i64 (ww (ut ((bZ l2 n3 (-1)).length)) 2)) - (ut a5.1)))).bind fun l6=>bif l6.isEmpty then (cd p0.jp a1.1 (a5.2.2.take a5.1)).bind fun a7=>EQ a7 else bif AC (a5.1+Do l6) a5.2.1 then bif (AC (a5.1+Do l6) (Do a5.2.2))&&(!IR) then (cd p0.jp a1.1 ((eX a5.2.2 a5.1 l6).take (a5.1+Do l6))).bind fun a8=>EQ a8 else F0s else (bq (a5.2.2.take a5.1) l6).bind fun l9=>bif AC a5.1 (Do a5.2.2) then (cd p0.jp a1.1 l9).bind fun xz=>EQ xz else F0s else (cd p0.jp a1.1 (bZ l2 n3 (-1))).bind fun zW=>EQ zW else (cd p0.jp a1.1 (bZ l2 n3 (-1))).bind fun a12=>EQ a12
def c10:bz:=⟨ax.cons (Arg.agg ft) (ax.one (Arg.int .i64)),Arg.cq (ax.cons (Arg.agg ft) (ax.one (Arg.int .i64))),fun a=>lS a.1 a.2,.mO,IR⟩
theorem VP:aF aO 10 c10:=aF.of akD (cx:=(iT aB [(31,c31),(24,c24),(32,bz.clone ki),(33,c33),(36,c36),(36,amj),(37,c37)] [(34,VD),(34,afY)] [] [])) rfl (gI.make ⟨OY,ams,mb,VF,VH,Q3,O2,trivial⟩ ⟨Mf,VO,trivial⟩ trivial) (fun a=>by kernel_rfl)
abbrev aer:=(List Int)×(List Int)×Int
def mn (s:aer):Option (Step aer Bool):=bif M2 (s.2.2<(ut (Do s.1))) then (aI s.1 s.2.2).bind fun n0=>(aI s.2.1 s.2.2).bind fun n1=>bif n0 !=n1 then EQ (.done IR) else EQ (.next (s.1,s.2.1,aa .i64 (s.2.2+1))) else EQ (.done If)
def jk (p0:List Int) (p1:List Int):Option Bool:=bif (ut (Do p0)) !=(ut (Do p1)) then EQ IR else az mn (p0,p1,0)
def c44:bz:=⟨ax.cons (Arg.sl ki) (ax.one (Arg.sl ki)),Arg.bool,fun a=>jk a.1 a.2,.pure,IR⟩
theorem VQ:aF aO 44 c44:=Oc ak0 aB [] trivial
def My:Option Bool:=DI.bind fun r0=>(pB r0 (7,9,-1)).bind fun a1=>(lS a1.1 7).bind fun a2=>bif a1.2==0 then bif a2.2==0 then (jk a1.1.kw.aL [1,2,5,7]).bind fun b3=>bif b3 then bif (ut (Do a1.1.kw.iU))==3 then (aI a1.1.kw.iU 0).bind fun n4=>bif n4==7 then (jk a2.1.kw.aL [1,2,5,-1]).bind fun b5=>EQ b5 else EQ IR else EQ IR else EQ IR else EQ IR else EQ IR
def avA:bz:=⟨ax.nil,Arg.bool,fun _=>My,.pure,IR⟩
theorem aes:aF aO 15 avA:=Oc akF aB [(43,c43),(17,c17),(10,c10),(44,c44)] ⟨al5,VM,VP,VQ,trivial⟩
def c15:bz:=⟨ax.nil,Arg.bool,fun _=>EQ If,.pure,IR⟩
end
theorem amu:aF aO 15 c15:=aF.at0 (@aes (LP.of 1000000)) (by kernel_rfl)
section
variable [LP]
def qI (p0:Field):Option Bool:=bif M2 (16<(ut (Do p0.am))) then bif M2 ((ut (Do p0.am))<64) then EQ If else EQ (M2 (70<(ut (Do p0.am)))) else EQ (M2 (70<(ut (Do p0.am))))
def c69:bz:=⟨ax.one (Arg.agg bN),Arg.bool,fun a=>qI a,.pure,IR⟩
theorem amv:aF aO 69 c69:=Oc ali aB [] trivial
def yi (p0:bc):Option Bool:=bif M2 (210<(ut (Do p0.aA))) then EQ If else bif M2 (210<(ut (Do p0.be))) then EQ If else EQ (M2 (210<(ut (Do p0.bi))))
def arq:bz:=⟨ax.one (Arg.agg fJ),Arg.bool,fun a=>yi a,.pure,IR⟩
theorem aet:aF aO 124 arq:=Oc aa1 aB [] trivial
def yj (p0:aK):Option Bool:=(yi p0.af).bind fun b0=>bif b0 then EQ If else bif M2 (210<(ut (Do p0.bv))) then EQ If else EQ (M2 (210<(ut (Do p0.aq))))
def c70:bz:=⟨ax.one (Arg.agg cZ),Arg.bool,fun a=>yj a,.pure,IR⟩
theorem amw:aF aO 70 c70:=Oc alj aB [(124,arq)] ⟨aet,trivial⟩
def qJ (p0:aP):Option Bool:=bif M2 (40<(ut (Do p0.ai.ce))) then EQ If else bif M2 (40<(ut (Do p0.io))) then EQ If else (qI p0.ii).bind fun b0=>bif b0 then EQ If else (yj p0.ae).bind fun b1=>EQ b1
def c27:bz:=⟨ax.one (Arg.agg bS),Arg.bool,fun a=>qJ a,.pure,IR⟩
theorem amx:aF aO 27 c27:=Oc akP aB [(69,c69),(70,c70)] ⟨amv,amw,trivial⟩
def yk (p0:bu):Option Bool:=bif M2 (70<(ut (Do p0.aL))) then EQ If else EQ (M2 (70<(ut (Do p0.iU))))
def c28:bz:=⟨ax.one (Arg.agg fq),Arg.bool,fun a=>yk a,.pure,IR⟩
theorem amy:aF aO 28 c28:=Oc akQ aB [] trivial
def qK (p0:bJ):Option Bool:=(qJ p0.jp).bind fun b0=>bif b0 then EQ If else (yk p0.kw).bind fun b1=>EQ b1
def c8:bz:=⟨ax.one (Arg.agg ft),Arg.bool,fun a=>qK a,.pure,IR⟩
theorem ars:aF aO 8 c8:=Oc apD aB [(27,c27),(28,c28)] ⟨amx,amy,trivial⟩
def AU (p0:Field):Option Bool:=EQ (M2 (10<(ut (Do p0.am))))
def c45:bz:=⟨ax.one (Arg.agg bN),Arg.bool,fun a=>AU a,.pure,IR⟩
theorem amz:aF aO 45 c45:=Oc ak1 aB [] trivial
def oB (s:(Int×Int×cj×cj)):Option (Step (Int×Int×cj×cj) Bool):=bif M2 (s.1<(ut (Do s.2.2.1))) then (aI s.2.2.1 s.1).bind fun a0=>(eS (Field.mk s.2.2.2) a0.2.1).bind fun n1=>bif M2 (n1<0) then EQ (.done IR) else (aI s.2.2.1 s.1).bind fun a2=>(eS (Field.mk s.2.2.2) a2.2.2).bind fun n3=>bif M2 (n3<0) then EQ (.done IR) else EQ (.next (aa .i64 (s.1+1),s.2)) else EQ (.done If)
def tN (p0:bC) (p1:Field):Option Bool:=az oB (0,p0.aM,p0.ce,p1.am)
def c97:bz:=⟨ax.cons (Arg.agg gl) (ax.one (Arg.agg bN)),Arg.bool,fun a=>tN a.1 a.2,.pure,IR⟩
theorem amA:aF aO 97 c97:=Oc alH aB [(89,c89)] ⟨F9,trivial⟩
abbrev VS:=Int×Int×(List Int)×(List Bool)×(List Int)×(List Bool)
def jN (s:VS):Option (Step VS (Step VS Int)):=bif M2 (s.2.1<s.1) then (aI s.2.2.1 s.2.1).bind fun n0=>bif M2 (n0<0) then EQ (.done (.done 8)) else (aI s.2.2.1 s.2.1).bind fun n1=>bif M2 (1000000<n1) then EQ (.done (.done 8)) else (aI s.2.2.2.1 s.2.1).bind fun b2=>(aI s.2.2.2.2.2 s.2.1).bind fun b3=>bif b2==b3 then EQ (.done (.done 8)) else (aI s.2.2.2.1 s.2.1).bind fun b4=>bif b4 then (aI s.2.2.1 s.2.1).bind fun n5=>bif M2 (n5<1) then EQ (.done (.done 8)) else EQ (.next (s.1,aa .i64 (s.2.1+1),s.2.2)) else EQ (.next (s.1,aa .i64 (s.2.1+1),s.2.2)) else EQ (.done (.done 0))
def oC (s:VS):Option (Step VS Int):=bif M2 (s.2.1<(ut (Do s.2.2.2.2.1))) then (aI s.2.2.2.2.1 s.2.1).bind fun n0=>bif M2 (n0<0) then EQ (.done 8) else (aI s.2.2.2.2.1 s.2.1).bind fun n1=>bif M2 (s.1<=n1) then EQ (.done 8) else (aI s.2.2.2.2.1 s.2.1).bind fun n2=>(aI s.2.2.2.2.2 n2).bind fun b3=>bif b3 then EQ (.done 8) else (aI s.2.2.2.2.1 s.2.1).bind fun n4=>(aI s.2.2.2.2.2 n4).bind fun _=>EQ (.next (s.1,aa .i64 (s.2.1+1),s.2.2.1,s.2.2.2.1,s.2.2.2.2.1,bZ s.2.2.2.2.2 n4 If)) else az jN (s.1,0,s.2.2)
def tO (p0:bc):Option Int:=bif M2 ((ut (Do p0.aA))<1) then EQ 8 else bif M2 (200<(ut (Do p0.aA))) then EQ 8 else bif (ut (Do p0.be)) !=(ut (Do p0.aA)) then EQ 8 else bif M2 ((ut (Do p0.aA))<(ut (Do p0.bi))) then EQ 8 else bif (ut (Do p0.aA))==(ut (Do p0.aA)) then (xj (ut (Do p0.aA)) (IR:Bool)).bind fun l0=>az oC (ut (Do p0.aA),0,p0.aA,p0.be,p0.bi,l0) else F0s
def art:bz:=⟨ax.one (Arg.agg fJ),Arg.int .i64,fun a=>tO a,.pure,IR⟩
theorem aeu:aF aO 159 art:=Oc abq aB [] trivial
def sQ (p0:bc) (p1:Int×Int):Option Bool:=bif M2 (0<=p1.1) then bif M2 (p1.1<(ut (Do p0.aA))) then (aI p0.be p1.1).bind fun b0=>bif b0 then (aI p0.aA p1.1).bind fun n1=>EQ (n1==p1.2) else EQ IR else EQ IR else EQ IR
def amB:bz:=⟨ax.cons (Arg.agg fJ) (ax.one (Arg.agg (cA.row iH))),Arg.bool,fun a=>sQ a.1 a.2,.pure,IR⟩
theorem Q':aF aO 163 amB:=Oc abv aB [] trivial
def mR (s:alL):Option (Step alL Bool):=bif M2 (s.2.1<s.1) then (aI s.2.2.2.1 s.2.1).bind fun b0=>bif !b0 then (aI s.2.2.2.2.2.2 s.2.1).bind fun n1=>bif n1 !=(-1) then EQ (.done IR) else EQ (.next (s.1,aa .i64 (s.2.1+1),s.2.2)) else (aI s.2.2.2.2.2.2 s.2.1).bind fun n2=>bif M2 (n2<0) then EQ (.done IR) else bif M2 ((ut (Do s.2.2.2.2.2.1))<=n2) then EQ (.done IR) else (aI s.2.2.2.2.2.1 n2).bind fun a3=>bif a3.2.2.2.1 !=s.2.1 then EQ (.done IR) else (aI s.2.2.2.2.2.1 n2).bind fun a4=>(sQ (bc.mk s.2.2.1 s.2.2.2.1 s.2.2.2.2.1) a4.2.2.2).bind fun b5=>bif !b5 then EQ (.done IR) else EQ (.next (s.1,aa .i64 (s.2.1+1),s.2.2)) else EQ (.done If)
def rS (p0:aK):Option Bool:=bif (ut (Do p0.aq)) !=(ut (Do p0.af.aA)) then EQ IR else bif (ut (Do p0.bv)) !=(aa .i64 ((ut (Do p0.af.aA)) - (ut (Do p0.af.bi)))) then EQ IR else az mR (ut (Do p0.af.aA),0,p0.af.aA,p0.af.be,p0.af.bi,p0.bv,p0.aq)
def aru:bz:=⟨ax.one (Arg.agg cZ),Arg.bool,fun a=>rS a,.pure,IR⟩
theorem aev:aF aO 160 aru:=Oc abr aB [(163,amB)] ⟨Q',trivial⟩
abbrev arv:=Int×Int×(List Int)×(List Bool)×(List Int)×js×(List Int)×Int×Int×Int×Int×Int
abbrev amC:=Step BS Int
def jO (s:arv):Option (Step arv amC):=bif M2 (s.2.1<s.1) then (aI s.2.2.2.2.2.1 s.2.1).bind fun a0=>bif a0.2.2.1==s.2.2.2.2.2.2.2.2.2.1 then EQ (.done (.done 8)) else EQ (.next (s.1,aa .i64 (s.2.1+1),s.2.2)) else EQ (.done (.next (aa .i64 (s.1+1),s.2.2.1,s.2.2.2.1,s.2.2.2.2.1,s.2.2.2.2.2.1,s.2.2.2.2.2.2.1)))
def jP (s:BS):Option (Step BS amC):=bif M2 (s.1<(ut (Do s.2.2.2.2.1))) then (aI s.2.2.2.2.1 s.1).bind fun a0=>(aI s.2.2.2.2.1 (aa .i64 (ww (aa .i64 (s.1-1)) 2))).bind fun a1=>(dZ a0 a1).bind fun b2=>bif b2 then EQ (.done (.done 8)) else EQ (.next (aa .i64 (s.1+1),s.2)) else EQ (.done (.done 0))
def oD (s:BS):Option amC:=bif M2 (s.1<(ut (Do s.2.2.2.2.1))) then (aI s.2.2.2.2.1 s.1).bind fun a0=>(nF (a0.1,a0.2.1)).bind fun n1=>bif n1 !=0 then EQ (.done 8) else bif M2 (a0.2.2.1<0) then EQ (.done 8) else bif M2 (1000000<a0.2.2.1) then EQ (.done 8) else az jO (s.1,0,s.2.1,s.2.2.1,s.2.2.2.1,s.2.2.2.2.1,s.2.2.2.2.2,a0) else az jP (1,s.2)
def qL (p0:aK):Option Int:=(tO p0.af).bind fun n0=>bif n0 !=0 then EQ 8 else (rS p0).bind fun b1=>bif !b1 then EQ 8 else az oD (0,p0.af.aA,p0.af.be,p0.af.bi,p0.bv,p0.aq)
def c98:bz:=⟨ax.one (Arg.agg cZ),Arg.int .i64,fun a=>qL a,.pure,IR⟩
theorem VT:aF aO 98 c98:=Oc alI aB [(159,art),(160,aru),(66,c66),(161,OT)] ⟨aeu,aev,OR,zb,trivial⟩
def sR (p0:aK) (p1:Int×Int):Option ((Int×Int×Int×Int×Int)×Int):=(qL p0).bind fun n0=>bif n0 !=0 then EQ ((0,0,0,0,0),8) else (sQ p0.af p1).bind fun b1=>bif !b1 then EQ ((0,0,0,0,0),6) else (aI p0.aq p1.1).bind fun n2=>(aI p0.bv n2).bind fun a3=>EQ (a3,0)
def arw:bz:=⟨ax.cons (Arg.agg cZ) (ax.one (Arg.agg (cA.row iH))),Arg.cq (ax.cons (Arg.agg (cA.row kr)) (ax.one (Arg.int .i64))),fun a=>sR a.1 a.2,.pure,IR⟩
theorem aew:aF aO 100 arw:=Oc aaL aB [(98,c98),(163,amB)] ⟨VT,Q',trivial⟩
def dB (s:alK):Option apJ:=bif M2 (s.2.1<(ut (Do s.2.2.2.2.2.2.1))) then (aI s.2.2.2.2.2.2.1 s.2.1).bind fun a0=>(pq (Field.mk s.2.2.2.2.1) a0.2 (s.2.2.1,s.2.2.2.1)).bind fun a1=>bif !a1.2 then EQ (.next (s.1,aa .i64 (s.2.1+1),s.2.2)) else bif M2 ((ut (Do s.2.2.2.2.2.2.2.2.2.2.2.2))<=s.1) then EQ (.done 8) else (aI s.2.2.2.2.2.2.2.2.2.2.2.2 s.1).bind fun a2=>bif a2.1 !=a0.1 then EQ (.done 8) else (aI s.2.2.2.2.2.2.2.2.2.2.2.2 s.1).bind fun a3=>(sR (aK.mk (bc.mk s.2.2.2.2.2.2.2.1 s.2.2.2.2.2.2.2.2.1 s.2.2.2.2.2.2.2.2.2.1) s.2.2.2.2.2.2.2.2.2.2.1 s.2.2.2.2.2.2.2.2.2.2.2.1) a3.2).bind fun a4=>bif a4.2 !=0 then EQ (.done 8) else bif a4.1.2.2.1 !=a0.1 then EQ (.done 8) else bif !((a4.1.1==a1.1.1)&&(a4.1.2.1==a1.1.2)) then EQ (.done 8) else EQ (.next (aa .i64 (s.1+1),aa .i64 (s.2.1+1),s.2.2)) else bif s.1 !=(ut (Do s.2.2.2.2.2.2.2.2.2.2.2.2)) then EQ (.done 8) else EQ (.done 0)
def qM (p0:aP):Option Int:=(nF p0.ci).bind fun n0=>bif n0 !=0 then EQ 8 else (eJ p0.ii).bind fun n1=>bif n1 !=0 then EQ 8 else (qF p0.ai).bind fun n2=>bif n2 !=0 then EQ 8 else (tN p0.ai p0.ii).bind fun b3=>bif !b3 then EQ 8 else (qL p0.ae).bind fun n4=>bif n4 !=0 then EQ 8 else bif (ut (Do p0.ae.aq)) !=200 then EQ 8 else bif (ut (Do p0.ae.bv)) !=(ut (Do p0.io)) then EQ 8 else az dB (0,0,p0.ci.1,p0.ci.2,p0.ii.am,p0.ai.aM,p0.ai.ce,p0.ae.af.aA,p0.ae.af.be,p0.ae.af.bi,p0.ae.bv,p0.ae.aq,p0.io)
def c46:bz:=⟨ax.one (Arg.agg bS),Arg.int .i64,fun a=>qM a,.pure,IR⟩
theorem amD:aF aO 46 c46:=Oc ak2 aB [(66,c66),(88,c88),(96,c96),(97,c97),(98,c98),(99,c99),(100,arw)] ⟨OR,Vp,Vy,amA,VT,OW,aew,trivial⟩
def oE (s:((List Int)×Int×Int)):Option (Step ((List Int)×Int×Int) (Step ((List Int)×Int) Bool)):=bif M2 (s.2.2<s.2.1) then (aI s.1 s.2.1).bind fun n0=>bif M2 (0<=n0) then (aI s.1 s.2.2).bind fun n1=>(aI s.1 s.2.1).bind fun n2=>bif n1==n2 then EQ (.done (.done If)) else EQ (.next (s.1,s.2.1,aa .i64 (s.2.2+1))) else EQ (.next (s.1,s.2.1,aa .i64 (s.2.2+1))) else EQ (.done (.next (s.1,aa .i64 (s.2.1+1))))
def oF (s:((List Int)×Int)):Option (Step ((List Int)×Int) Bool):=bif M2 (s.2<(ut (Do s.1))) then az oE (s.1,s.2,0) else EQ (.done IR)
def yl (p0:List Int):Option Bool:=az oF (p0,0)
def arx:bz:=⟨ax.one (Arg.sl ki),Arg.bool,fun a=>yl a,.pure,IR⟩
theorem aex:aF aO 101 arx:=Oc aaM aB [] trivial
def lT (s:(Int×(List Int)×(List Int))):Option (Step (Int×(List Int)×(List Int)) (Step (Int×Int×(List Int)×(List Int)) Int)):=bif M2 (s.1<(ut (Do s.2.2))) then (iv (bu.mk s.2.1 s.2.2) (aa .i64 ((aa .i64 (2*s.1))+1))).bind fun n0=>(iv (bu.mk s.2.1 s.2.2) (aa .i64 ((aa .i64 (2*s.1))+2))).bind fun n1=>(aI s.2.2 s.1).bind fun n2=>bif n2 !=n0 then (aI s.2.2 s.1).bind fun n3=>bif n3 !=n1 then EQ (.done (.done 8)) else (aI s.2.2 s.1).bind fun n4=>bif n4==(-1) then bif n0 !=(-1) then EQ (.done (.done 8)) else bif n1 !=(-1) then EQ (.done (.done 8)) else EQ (.next (aa .i64 (s.1+1),s.2)) else EQ (.next (aa .i64 (s.1+1),s.2)) else (aI s.2.2 s.1).bind fun n5=>bif n5==(-1) then bif n0 !=(-1) then EQ (.done (.done 8)) else bif n1 !=(-1) then EQ (.done (.done 8)) else EQ (.next (aa .i64 (s.1+1),s.2)) else EQ (.next (aa .i64 (s.1+1),s.2)) else EQ (.done (.done 0))
def oG (s:(Int×Int×(List Int)×(List Int))):Option (Step (Int×Int×(List Int)×(List Int)) Int):=bif M2 (s.2.1<s.1) then (aI s.2.2.1 s.2.1).bind fun n0=>bif M2 (n0<(-1)) then EQ (.done 8) else (aI s.2.2.1 s.2.1).bind fun n1=>bif M2 (65535<n1) then EQ (.done 8) else EQ (.next (s.1,aa .i64 (s.2.1+1),s.2.2)) else az lT (0,s.2.2)
def qN (p0:bu):Option Int:=bif M2 ((ut (Do p0.aL))<1) then EQ 8 else bif M2 (64<(ut (Do p0.aL))) then EQ 8 else bif (ut (Do p0.iU)) !=(aa .i64 ((ut (Do p0.aL)) -1)) then EQ 8 else (yl p0.aL).bind fun b0=>bif b0 then EQ 8 else az oG (ut (Do p0.aL),0,p0.aL,p0.iU)
def c47:bz:=⟨ax.one (Arg.agg fq),Arg.int .i64,fun a=>qN a,.pure,IR⟩
theorem amE:aF aO 47 c47:=Oc ak3 aB [(101,arx),(102,Vr)] ⟨aex,Er,trivial⟩
def oH (s:(Int×Int)):Option (Step (Int×Int) Bool):=bif M2 (s.2<=64) then bif s.1==s.2 then EQ (.done If) else EQ (.next (s.1,aa .i64 (s.2*2))) else EQ (.done IR)
def tP (p0:Int):Option Bool:=az oH (p0,1)
def c48:bz:=⟨ax.one (Arg.int .i64),Arg.bool,fun a=>tP a,.pure,IR⟩
theorem amF:aF aO 48 c48:=Oc ak4 aB [] trivial
def oI (s:((List Int)×Int×cj)):Option (Step ((List Int)×Int×cj) Bool):=bif M2 (s.2.1<(ut (Do s.1))) then (aI s.1 s.2.1).bind fun n0=>bif n0 !=(-1) then (aI s.1 s.2.1).bind fun n1=>(eS (Field.mk s.2.2) n1).bind fun n2=>bif M2 (n2<0) then EQ (.done IR) else EQ (.next (s.1,aa .i64 (s.2.1+1),s.2.2)) else EQ (.next (s.1,aa .i64 (s.2.1+1),s.2.2)) else EQ (.done If)
def tQ (p0:Field) (p1:List Int):Option Bool:=az oI (p1,0,p0.am)
def c49:bz:=⟨ax.cons (Arg.agg bN) (ax.one (Arg.sl ki)),Arg.bool,fun a=>tQ a.1 a.2,.pure,IR⟩
theorem amG:aF aO 49 c49:=Oc ak5 aB [(89,c89)] ⟨F9,trivial⟩
def rT (s:((List Int)×Int×(List Int))):Option (Step ((List Int)×Int×(List Int)) (List Int)):=bif M2 (s.2.1<(ut (Do s.1))) then (aI s.1 s.2.1).bind fun n0=>bif M2 (0<=n0) then (aI s.1 s.2.1).bind fun n1=>(bq s.2.2 [n1]).bind fun l2=>EQ (.next (s.1,aa .i64 (s.2.1+1),l2)) else EQ (.next (s.1,aa .i64 (s.2.1+1),s.2.2)) else EQ (.done s.2.2)
def zh (p0:List Int):Option (List Int):=az rT (p0,0,[])
def c50:bz:=⟨ax.one (Arg.sl ki),Arg.sl ki,fun a=>zh a,.mO,IR⟩
theorem amH:aF aO 50 c50:=Oc ak6 aB [] trivial
def p8 (s:(Int×(List Int)×(List Int)×cj×Int×Int)):Option (Step (Int×(List Int)×(List Int)×cj×Int×Int) Bool):=bif M2 (s.1<(ut (Do s.2.2.1))) then (aI s.2.2.1 s.1).bind fun n0=>(iv (bu.mk s.2.1 s.2.2.1) (aa .i64 ((aa .i64 (2*s.1))+1))).bind fun n1=>(iv (bu.mk s.2.1 s.2.2.1) (aa .i64 ((aa .i64 (2*s.1))+2))).bind fun n2=>(rZ (Field.mk s.2.2.2.1) s.2.2.2.2 n1 n2).bind fun n3=>bif n0 !=n3 then EQ (.done IR) else EQ (.next (aa .i64 (s.1+1),s.2)) else EQ (.done If)
def sS (p0:bu) (p1:Field) (p2:Int×Int):Option Bool:=az p8 (0,p0.aL,p0.iU,p1.am,p2)
def c51:bz:=⟨ax.cons (Arg.agg fq) (ax.cons (Arg.agg bN) (ax.one (Arg.agg (cA.row iH)))),Arg.bool,fun a=>sS a.1 a.2.1 a.2.2,.pure,IR⟩
theorem amI:aF aO 51 c51:=Oc ak7 aB [(102,Vr),(103,alU)] ⟨Er,QO,trivial⟩
def wH (p0:Int×Int) (p1:Field) (p2:Int×Int):Option Bool:=(eS p1 p0.2).bind fun n0=>(aI p1.am n0).bind fun a1=>(eS p1 p0.1).bind fun n2=>(aI p1.am n2).bind fun a3=>(nG a1 a3 p2).bind fun b4=>EQ b4
def ary:bz:=⟨ax.cons (Arg.agg (cA.row iH)) (ax.cons (Arg.agg bN) (ax.one (Arg.agg (cA.row iH)))),Arg.bool,fun a=>wH a.1 a.2.1 a.2.2,.pure,IR⟩
theorem aey:aF aO 105 ary:=Oc aaQ aB [(89,c89),(164,ada)] ⟨F9,JP,trivial⟩
abbrev arz:=oW×Int×Int×Int×cj×Int×cj×(List Int)×(List Bool)×(List Int)×js×(List Int)×cj
def p9 (s:arz):Option (Step arz Bool):=bif M2 (s.2.1<(ut (Do s.1))) then (aI s.1 s.2.1).bind fun a0=>(sg (bC.mk s.2.2.2.2.2.1 s.2.2.2.2.2.2.1) a0).bind fun b1=>bif !b1 then EQ (.done IR) else (aI s.1 s.2.1).bind fun a2=>(wH a2 (Field.mk s.2.2.2.2.1) (s.2.2.1,s.2.2.2.1)).bind fun b3=>bif !b3 then EQ (.done IR) else EQ (.next (s.1,aa .i64 (s.2.1+1),s.2.2)) else EQ (.done If)
def sU (p0:aP) (p1:List (Int×Int)):Option Bool:=bif (ut (Do p0.ai.ce)) !=(ut (Do p1)) then EQ IR else az p9 (p1,0,p0.ci.1,p0.ci.2,p0.ii.am,p0.ai.aM,p0.ai.ce,p0.ae.af.aA,p0.ae.af.be,p0.ae.af.bi,p0.ae.bv,p0.ae.aq,p0.io)
def c52:bz:=⟨ax.cons (Arg.agg bS) (ax.one (Arg.sl iH)),Arg.bool,fun a=>sU a.1 a.2,.pure,IR⟩
theorem amJ:aF aO 52 c52:=Oc ak8 aB [(104,adq),(105,ary)] ⟨JT,aey,trivial⟩
def ke (p0:bJ):Option Int:=(qM p0.jp).bind fun n0=>bif n0 !=0 then EQ 8 else (qN p0.kw).bind fun n1=>bif n1 !=0 then EQ 8 else (tP (ut (Do p0.kw.aL))).bind fun b2=>bif !b2 then EQ 8 else (tQ p0.jp.ii p0.kw.aL).bind fun b3=>bif !b3 then EQ 8 else (zh p0.kw.aL).bind fun l4=>bif (ut (Do l4)) !=(ut (Do p0.jp.ii.am)) then EQ 8 else (sS p0.kw p0.jp.ii p0.jp.ci).bind fun b5=>bif !b5 then EQ 8 else (vt p0.kw).bind fun l6=>(sU p0.jp l6).bind fun b7=>bif !b7 then EQ 8 else EQ 0
def c18:bz:=⟨ax.one (Arg.agg ft),Arg.int .i64,fun a=>ke a,.pure,IR⟩
theorem VU:aF aO 18 c18:=Oc akI aB [(46,c46),(47,c47),(48,c48),(49,c49),(50,c50),(51,c51),(53,c53),(52,c52)] ⟨amD,amE,amF,amG,amH,amI,Vs,amJ,trivial⟩
def vv (p0:bJ):Option Bool:=(qK p0).bind fun b0=>bif !b0 then (AU p0.jp.ii).bind fun b1=>bif !b1 then (ke p0).bind fun n2=>EQ (n2==0) else EQ IR else EQ IR
def c16:bz:=⟨ax.one (Arg.agg ft),Arg.bool,fun a=>vv a,.pure,IR⟩
theorem amK:aF aO 16 c16:=Oc akG aB [(8,c8),(45,c45),(18,c18)] ⟨ars,amz,VU,trivial⟩
def fa (p0:Field) (p1:Int×Int×Int):Option (Field×Int):=(dm p0).bind fun n0=>bif n0 !=0 then EQ (Field.mk [],n0) else (iV p1).bind fun n1=>bif n1 !=0 then EQ (Field.mk [],n1) else (ja p0 p1.1).bind fun a2=>bif a2.2 !=0 then EQ (Field.mk [],a2.2) else (bP p0.am).bind fun l3=>(aI l3 a2.1).bind fun _=>EQ (Field.mk (bZ l3 a2.1 p1),0)
def c25:bz:=⟨ax.cons (Arg.agg bN) (ax.one (Arg.agg (cA.row dQ))),Arg.cq (ax.cons (Arg.agg bN) (ax.one (Arg.int .i64))),fun a=>fa a.1 a.2,.mO,IR⟩
theorem amL:aF aO 25 c25:=Oc akO aB [(57,c57),(58,c58),(62,c62),(61,bz.clone dQ)] ⟨AS,JV,OZ,tF,trivial⟩
def fb (p0:bJ) (p1:Int×Int×Int):Option (bJ×Int):=(ky p0).bind fun n0=>bif n0 !=0 then EQ (bJ.mk gO (bu.mk [] []),n0) else (fa p0.jp.ii p1).bind fun a1=>bif a1.2 !=0 then EQ (bJ.mk gO (bu.mk [] []),a1.2) else (cd p0.jp a1.1 p0.kw.aL).bind fun a2=>EQ a2
def c20:bz:=⟨ax.cons (Arg.agg ft) (ax.one (Arg.agg (cA.row dQ))),Arg.cq (ax.cons (Arg.agg ft) (ax.one (Arg.int .i64))),fun a=>fb a.1 a.2,.mO,IR⟩
theorem amM:aF aO 20 c20:=Oc akK aB [(31,c31),(25,c25),(37,c37)] ⟨OY,amL,O2,trivial⟩
def qc (s:(Int×Int×cj×Int×cj)):Option (Step (Int×Int×cj×Int×cj) Bool):=bif M2 (s.1<(ut (Do s.2.2.1))) then (aI s.2.2.1 s.1).bind fun a0=>(aI s.2.2.2.2 s.1).bind fun a1=>bif !((a0.1==a1.1)&&((a0.2.1==a1.2.1)&&(a0.2.2==a1.2.2))) then EQ (.done IR) else EQ (.next (aa .i64 (s.1+1),s.2)) else EQ (.done If)
def wI (p0:bC) (p1:bC):Option Bool:=bif p0.aM !=p1.aM then EQ IR else bif (ut (Do p0.ce)) !=(ut (Do p1.ce)) then EQ IR else az qc (0,p0.aM,p0.ce,p1.aM,p1.ce)
def c93:bz:=⟨ax.cons (Arg.agg gl) (ax.one (Arg.agg gl)),Arg.bool,fun a=>wI a.1 a.2,.pure,IR⟩
theorem amN:aF aO 93 c93:=Oc alD aB [] trivial
def lq (s:aer):Option (Step aer Bool):=bif M2 (s.2.2<(ut (Do s.1))) then (aI s.1 s.2.2).bind fun n0=>(aI s.2.1 s.2.2).bind fun n1=>bif n0 !=n1 then EQ (.done IR) else EQ (.next (s.1,s.2.1,aa .i64 (s.2.2+1))) else EQ (.done If)
def jQ (p0:List Int) (p1:List Int):Option Bool:=bif (ut (Do p0)) !=(ut (Do p1)) then EQ IR else az lq (p0,p1,0)
def amO:bz:=⟨ax.cons (Arg.sl ki) (ax.one (Arg.sl ki)),Arg.bool,fun a=>jQ a.1 a.2,.pure,IR⟩
theorem Ra:aF aO 155 amO:=Oc abm aB [] trivial
def kA (s:((List Bool)×(List Bool)×Int)):Option (Step ((List Bool)×(List Bool)×Int) Bool):=bif M2 (s.2.2<(ut (Do s.1))) then (aI s.1 s.2.2).bind fun b0=>(aI s.2.1 s.2.2).bind fun b1=>bif !(b0==b1) then EQ (.done IR) else EQ (.next (s.1,s.2.1,aa .i64 (s.2.2+1))) else EQ (.done If)
def mS (p0:List Bool) (p1:List Bool):Option Bool:=bif (ut (Do p0)) !=(ut (Do p1)) then EQ IR else az kA (p0,p1,0)
def arA:bz:=⟨ax.cons (Arg.sl kb) (ax.one (Arg.sl kb)),Arg.bool,fun a=>mS a.1 a.2,.pure,IR⟩
theorem aez:aF aO 221 arA:=Oc ab4 aB [] trivial
def AV (p0:bc) (p1:bc):Option Bool:=(jQ p0.aA p1.aA).bind fun b0=>bif b0 then (mS p0.be p1.be).bind fun b1=>bif b1 then (jQ p0.bi p1.bi).bind fun b2=>EQ b2 else EQ IR else EQ IR
def arB:bz:=⟨ax.cons (Arg.agg fJ) (ax.one (Arg.agg fJ)),Arg.bool,fun a=>AV a.1 a.2,.pure,IR⟩
theorem aeA:aF aO 154 arB:=Oc abl aB [(155,amO),(221,arA)] ⟨Ra,aez,trivial⟩
abbrev arC:=Int×(List Int)×(List Bool)×(List Int)×js×(List Int)×(List Int)×(List Bool)×(List Int)×js×(List Int)
def qd (s:arC):Option (Step arC Bool):=bif M2 (s.1<(ut (Do s.2.2.2.2.1))) then (aI s.2.2.2.2.1 s.1).bind fun a0=>(aI s.2.2.2.2.2.2.2.2.2.1 s.1).bind fun a1=>bif !((a0.1==a1.1)&&((a0.2.1==a1.2.1)&&((a0.2.2.1==a1.2.2.1)&&((a0.2.2.2.1==a1.2.2.2.1)&&(a0.2.2.2.2==a1.2.2.2.2))))) then EQ (.done IR) else EQ (.next (aa .i64 (s.1+1),s.2)) else EQ (.done If)
def wJ (p0:aK) (p1:aK):Option Bool:=(AV p0.af p1.af).bind fun b0=>bif !b0 then EQ IR else (jQ p0.aq p1.aq).bind fun b1=>bif !b1 then EQ IR else bif (ut (Do p0.bv)) !=(ut (Do p1.bv)) then EQ IR else az qd (0,p0.af.aA,p0.af.be,p0.af.bi,p0.bv,p0.aq,p1.af.aA,p1.af.be,p1.af.bi,p1.bv,p1.aq)
def c94:bz:=⟨ax.cons (Arg.agg cZ) (ax.one (Arg.agg cZ)),Arg.bool,fun a=>wJ a.1 a.2,.pure,IR⟩
theorem amP:aF aO 94 c94:=Oc alE aB [(154,arB),(155,amO)] ⟨aeA,Ra,trivial⟩
abbrev Zt5:=Int×Int×Int×cj×Int×cj×(List Int)×(List Bool)×(List Int)×js×(List Int)×cj×Int×Int×cj×Int×cj×(List Int)×(List Bool)×(List Int)×js×(List Int)×cj
def qe (s:Zt5):Option (Step Zt5 Bool):=bif M2 (s.1<(ut (Do s.2.2.2.2.2.2.2.2.2.2.2.1))) then (aI s.2.2.2.2.2.2.2.2.2.2.2.1 s.1).bind fun a0=>(aI s.2.2.2.2.2.2.2.2.2.2.2.2.2.2.2.2.2.2.2.2.2.2 s.1).bind fun a1=>bif !((a0.1==a1.1)&&((a0.2.1==a1.2.1)&&(a0.2.2==a1.2.2))) then EQ (.done IR) else EQ (.next (aa .i64 (s.1+1),s.2)) else EQ (.done If)
def wK (p0:aP) (p1:aP):Option Bool:=bif !((p0.ci.1==p1.ci.1)&&(p0.ci.2==p1.ci.2)) then EQ IR else (iw p0.ii p1.ii).bind fun b0=>bif !b0 then EQ IR else (wI p0.ai p1.ai).bind fun b1=>bif !b1 then EQ IR else (wJ p0.ae p1.ae).bind fun b2=>bif !b2 then EQ IR else bif (ut (Do p0.io)) !=(ut (Do p1.io)) then EQ IR else az qe (0,p0.ci.1,p0.ci.2,p0.ii.am,p0.ai.aM,p0.ai.ce,p0.ae.af.aA,p0.ae.af.be,p0.ae.af.bi,p0.ae.bv,p0.ae.aq,p0.io,p1.ci.1,p1.ci.2,p1.ii.am,p1.ai.aM,p1.ai.ce,p1.ae.af.aA,p1.ae.af.be,p1.ae.af.bi,p1.ae.bv,p1.ae.aq,p1.io)
def c41:bz:=⟨ax.cons (Arg.agg bS) (ax.one (Arg.agg bS)),Arg.bool,fun a=>wK a.1 a.2,.pure,IR⟩
theorem amQ:aF aO 41 c41:=Oc akX aB [(19,c19),(93,c93),(94,c94)] ⟨OV,amN,amP,trivial⟩
def AW (p0:bu) (p1:bu):Option Bool:=(jk p0.aL p1.aL).bind fun b0=>bif b0 then (jk p0.iU p1.iU).bind fun b1=>EQ b1 else EQ IR
def c42:bz:=⟨ax.cons (Arg.agg fq) (ax.one (Arg.agg fq)),Arg.bool,fun a=>AW a.1 a.2,.pure,IR⟩
theorem amR:aF aO 42 c42:=Oc akY aB [(44,c44)] ⟨VQ,trivial⟩
def kB (p0:bJ) (p1:bJ):Option Bool:=(wK p0.jp p1.jp).bind fun b0=>bif b0 then (AW p0.kw p1.kw).bind fun b1=>EQ b1 else EQ IR
def c14:bz:=⟨ax.cons (Arg.agg ft) (ax.one (Arg.agg ft)),Arg.bool,fun a=>kB a.1 a.2,.pure,IR⟩
theorem amS:aF aO 14 c14:=Oc akE aB [(41,c41),(42,c42)] ⟨amQ,amR,trivial⟩
def ri (p0:bJ) (p1:Int×Int×Int) (p2:Int):Option Bool:=(Option.some If).bind fun b0=>(vv p0).bind fun b1=>bif !b1 then EQ b0 else bif !b0 then EQ b0 else (pB p0 p1).bind fun a2=>bif a2.2==0 then (lS a2.1 p1.1).bind fun a3=>bif a3.2 !=0 then bif a3.2 !=18 then EQ IR else bif a3.2==0 then (ke a3.1).bind fun n4=>bif n4 !=0 then EQ IR else (iw a3.1.jp.ii p0.jp.ii).bind fun b5=>bif !b5 then EQ IR else bif M2 (p2<0) then EQ b0 else bif M2 ((ut (Do p0.jp.ii.am))<=p2) then EQ b0 else (aI p0.jp.ii.am p2).bind fun a6=>(fb p0 a6).bind fun a7=>bif b0 then bif a7.2==0 then (kB a7.1 p0).bind fun b8=>EQ b8 else EQ IR else EQ IR else bif M2 (p2<0) then EQ b0 else bif M2 ((ut (Do p0.jp.ii.am))<=p2) then EQ b0 else (aI p0.jp.ii.am p2).bind fun a9=>(fb p0 a9).bind fun xz=>bif b0 then bif xz.2==0 then (kB xz.1 p0).bind fun b11=>EQ b11 else EQ IR else EQ IR else bif a3.2==0 then (ke a3.1).bind fun n12=>bif n12 !=0 then EQ IR else (iw a3.1.jp.ii p0.jp.ii).bind fun b13=>bif !b13 then EQ IR else bif M2 (p2<0) then EQ b0 else bif M2 ((ut (Do p0.jp.ii.am))<=p2) then EQ b0 else (aI p0.jp.ii.am p2).bind fun QQ=>(fb p0 QQ).bind fun W3=>bif b0 then bif W3.2==0 then (kB W3.1 p0).bind fun b16=>EQ b16 else EQ IR else EQ IR else bif M2 (p2<0) then EQ b0 else bif M2 ((ut (Do p0.jp.ii.am))<=p2) then EQ b0 else (aI p0.jp.ii.am p2).bind fun a17=>(fb p0 a17).bind fun Tq=>bif b0 then bif Tq.2==0 then (kB Tq.1 p0).bind fun b19=>EQ b19 else EQ IR else EQ IR else bif M2 (p2<0) then EQ b0 else bif M2 ((ut (Do p0.jp.ii.am))<=p2) then EQ b0 else (aI p0.jp.ii.am p2).bind fun a20=>(fb p0 a20).bind fun a21=>bif b0 then bif a21.2==0 then (kB a21.1 p0).bind fun b22=>EQ b22 else EQ IR else EQ IR
def c5:bz:=⟨ax.cons (Arg.agg ft) (ax.cons (Arg.agg (cA.row dQ)) (ax.one (Arg.int .i64))),Arg.bool,fun a=>ri a.1 a.2.1 a.2.2,.pure,IR⟩
theorem arD:aF aO 5 c5:=Oc afT aB [(15,c15),(16,c16),(17,c17),(10,c10),(18,c18),(19,c19),(20,c20),(14,c14)] ⟨amu,amK,VM,VP,VU,OV,amM,amS,trivial⟩
end
end
end Go.Proofs.YtbgoiokedpjgbaaGreat
