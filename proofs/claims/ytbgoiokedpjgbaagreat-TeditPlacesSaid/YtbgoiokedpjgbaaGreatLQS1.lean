/- Plain functions for what the functions of the seat compute. Printed by a program. -/
import Derived.Test.YtbgoiokedpjgbaaGreatLVm3
import Derived.Test.YtbgoiokedpjgbaaGreatLQXT
open Int renaming ofNat->ut,tdiv->v6,tmod->AC
open List renaming replicate->ww,length->F0s
open Nat renaming ble->Do,beq->EQ
open Option renaming some->If,none->IR
open Bool renaming true->M2,false->NE
open Decidable renaming decide->PP
set_option maxRecDepth 100000
namespace Go.Proofs.YtbgoiokedpjgbaaGreat
open Go.Vm
noncomputable section
theorem Oc {f:FuncId} {x:aK} {α β:Type} {args:ay α} {res:Arg β} {kd:Kd} {fn:α->Option β} {ow:Bool} (hf:aO f=If (.code x)) (lp:Option Nat) (l:List (Nat×bA)) (h:Ai aO l) (ho:Xz kd ow=M2:=by rfl) (e: ∀a,ae2 (iT lp l [] [] []) x args res kd a=fn a:=by intro a;kernel_rfl):aG aO f ⟨args,res,fn,kd,ow⟩:=aG.of hf (cx:=iT lp l [] [] []) ho (gG.make h trivial trivial) e
abbrev iF:List PT:=[.i .i64,.i .i64]
abbrev eb:List PT:=[.i .i64,.i .i64,.i .i64]
abbrev ki:List PT:=[.i .i64]
abbrev kb:List PT:=[.b]
abbrev j9:List PT:=[.i .i64,.i .i64,.i .i64,.i .i64,.i .i64]
abbrev xQ:List PT:=[.b,.i .u64,.i .u64]
abbrev aoC:List PT:=[.i .i64,.i .i64,.i .i64,.i .i64]
abbrev kiu:List PT:=[.i .i64,.i .u64]
structure Field where
 am:List (Int×Int×Int)
def bR:cH Field:=cH.iso (cH.sl eb) (fun p=>⟨p⟩) (fun c=>c.am) (fun _=>rfl)
structure bc where
 aB:List Int
 be:List Bool
 bi:List Int
def ga:cH bc:=cH.iso (cH.prod (cH.sl ki) (cH.prod (cH.sl kb) (cH.sl ki))) (fun p=>⟨p.1,p.2.1,p.2.2⟩) (fun c=>(c.aB,c.be,c.bi)) (fun _=>rfl)
structure aM where
 af:bc
 bv:List (Int×Int×Int×Int×Int)
 aj:List Int
def dw:cH aM:=cH.iso (cH.prod ga (cH.prod (cH.sl j9) (cH.sl ki))) (fun p=>⟨p.1,p.2.1,p.2.2⟩) (fun c=>(c.af,c.bv,c.aj)) (fun _=>rfl)
structure bG where
 aL:Int
 ce:List (Int×Int×Int)
def gV:cH bG:=cH.iso (cH.prod (cH.int .i64) (cH.sl eb)) (fun p=>⟨p.1,p.2⟩) (fun c=>(c.aL,c.ce)) (fun _=>rfl)
structure aP where
 ci:Int×Int
 ii:Field
 ai:bG
 aa:aM
 io:List (Int×Int×Int)
def bV:cH aP:=cH.iso (cH.prod (cH.row iF) (cH.prod bR (cH.prod gV (cH.prod dw (cH.sl eb))))) (fun p=>⟨p.1,p.2.1,p.2.2.1,p.2.2.2.1,p.2.2.2.2⟩) (fun c=>(c.ci,c.ii,c.ai,c.aa,c.io)) (fun _=>rfl)
structure bu where
 aq:List Int
 dJ:List Int
def fR:cH bu:=cH.iso (cH.prod (cH.sl ki) (cH.sl ki)) (fun p=>⟨p.1,p.2⟩) (fun c=>(c.aq,c.dJ)) (fun _=>rfl)
structure bD where
 jp:aP
 kw:bu
def gd:cH bD:=cH.iso (cH.prod bV fR) (fun p=>⟨p.1,p.2⟩) (fun c=>(c.jp,c.kw)) (fun _=>rfl)
theorem rX:aG aO 212 (bA.clone kb):=aG.clone abi rfl
theorem UN:aG aO 289 (bA.Lb):=aG.Lb ab5
theorem lP:aG aO 32 (bA.clone ki):=aG.clone aj0 rfl
theorem vR:aG aO 61 (bA.clone eb):=aG.clone akj rfl
theorem uT:aG aO 209 (bA.clone eb):=aG.clone abf rfl
theorem Bl:aG aO 210 (bA.clone eb):=aG.clone abg rfl
theorem rY:aG aO 211 (bA.clone j9):=aG.clone abh rfl
theorem LC:aG aO 301 (bA.clone ki):=aG.clone ace rfl
abbrev hY:aP:=aP.mk (0,0) (Field.mk []) (bG.mk 0 []) (aM.mk (bc.mk [] [] []) [] []) []
section
abbrev jo:=List (Int×Int×Int×Int×Int)
abbrev cd:=List (Int×Int×Int)
abbrev oI:=List (Int×Int)
abbrev aoD:=oI×Int×Int×Int×cd×Int×cd×(List Int)×(List Bool)×(List Int)×jo×(List Int)×cd×cd×Int×Int×Int×Int×Int×cd×Int×cd×(List Int)×(List Bool)×(List Int)×jo×(List Int)×cd
abbrev Zt3:=Step aoD (aP×Int)
abbrev Zt6:=Int×Int×Int×cd×Int×cd×(List Int)×(List Bool)×(List Int)×jo×(List Int)×cd×cd×Int×Int×Int×Int×Int×cd×Int×cd×(List Int)×(List Bool)×(List Int)×jo×(List Int)×cd
abbrev Zt9:=cd×cd×Int×Int×Int×Int×cd×Int×cd×(List Int)×(List Bool)×(List Int)×jo×(List Int)×cd
abbrev aoE:=oI×Int×Int×Int×Int×Int×Int×cd×Int×cd×(List Int)×(List Bool)×(List Int)×jo×(List Int)×cd
abbrev aoF:=Int×Int×Int×Int×cd×Int×cd×(List Int)×(List Bool)×(List Int)×jo×(List Int)×cd×(List Int)
abbrev aoG:=Step aoF Int
abbrev akM:=Int×Int×Int×Int×cd×Int×cd×(List Int)×(List Bool)×(List Int)×jo×(List Int)×cd
abbrev aoH:=Step akM Int
abbrev aoI:=Int×jo×(List Int)×(List Int)×(List Bool)×(List Int)×Nat×Nat×Int×Int×Int×Int×Int
abbrev G2:=jo×(List Int)
abbrev aoJ:=Step aoI G2
abbrev acf:=(List Int)×Int×Int×(List Int)×(List Int)×(List (Int×Bool))
abbrev aoK:=Step acf Int
abbrev aoL:=Step acf aoK
abbrev aoM:=jo×Int×Int×(List Int)×(List Bool)×(List Int)×jo×(List Int)×(List (List Int))
abbrev aoN:=Int×Int×jo×(List Int)×(List Int)×(List Bool)×(List Int)×Nat×Nat×Int×Int×Int×Int×Int
abbrev acg:=(List Int)×(List Bool)×(List Int)×Nat×Nat×Int×Int×Int×Int×Int×Int×jo×(List Int)
abbrev ach:=(List Int)×(List Bool)×(List Int)×Int×Int×Int×Int×Int×Int×jo×(List Int)
abbrev aoO:=(List Int)×Int×Int×(List Int)×(List Bool)×(List Int)×jo×(List Int)
abbrev aoP:=Step aoO Int
abbrev aci:=(List Int)×(List Bool)×(List Int)×Nat×Nat×Int×jo×(List Int)
abbrev acj:=Int×jo×(List Int)×(List Int)×(List Bool)×(List Int)×Nat×Nat
abbrev aoQ:=(List Int)×Int×Int×cd×Int×Int×(List (Int×Bool))
abbrev aoR:=Step aoQ (bu×Int)
abbrev akN:=Int×Int×(List Int)×(List Bool)×(List Int)×jo×(List Int)
abbrev aoS:=(List Int)×(List Bool)×(List Int)×Int×jo×(List Int)
abbrev aoT:=Int×jo×(List Int)×(List Int)×(List Bool)×(List Int)
abbrev aoU:=Int×cd×Int×Int×Int×cd×(List (List Int))
abbrev aoV:=(List Int)×Int×Int×(List Int)×(List Bool)×(List Int)×Int×(List Bool)
abbrev aoW:=Step aoV Int
abbrev aoX:=Int×(List Int)×Int×Int×Nat×Nat×Nat×Int×Int×(List Int)×oI
abbrev akO:=(List Int)×(List Bool)×(List Int)×jo×(List Int)
abbrev R7:=Int×Int×(List Int)
abbrev akP:=Step R7 (Nat×Nat×(List Int))
abbrev aoY:=Step R7 akP
abbrev aoZ:=Step ((List Int)×Int×Int×(List Int)×oI) oI
abbrev ao0:=Int×Int×Int×cd×Int×Int×cd
abbrev R8:=Int×cd×Int×Int×(List Int)×(List Int)
abbrev G3:=cd×Int×Int×Int×Int
abbrev UO:=Step G3 (Int×Bool)
abbrev UP:=cd×Int×Int×cd
abbrev ack:=Int×jo×(List Int)
abbrev R9:=Int×Int×cd
abbrev akQ:=Step R9 Int
abbrev LD:=Int×cd
abbrev Bm:=Int×(List Int)×(List Bool)×(List Int)×jo×(List Int)
variable [LP]
def LF (p0:Int):Option (Int×Int):=If (p0,1)
def c22:bA:=⟨ay.one (Arg.int .i64),Arg.agg (cH.row iF),fun a=>LF a,.pure,NE⟩
theorem akR:aG aO 22 c22:=Oc ajU aD [] trivial
def qd (p0:Int×Int×Int):Option Int:=bif PP (p0.1<0) then If 8 else bif PP (65535<p0.1) then If 8 else bif PP (p0.2.1<(-1048576)) then If 8 else bif PP (1048576<p0.2.1) then If 8 else bif PP (p0.2.2<(-1048576)) then If 8 else bif PP (1048576<p0.2.2) then If 8 else If 0
def ao1:bA:=⟨ay.one (Arg.agg (cH.row eb)),Arg.int .i64,fun a=>qd a,.pure,NE⟩
theorem acm:aG aO 148 ao1:=Oc aaF aD [] trivial
def iv (s:LD):Option (Step LD (Step LD Int)):=bif PP (s.1<(ut (F0s s.2))) then (aI s.2 (ae .i64 (s.1-1))).bind fun a0=>(aI s.2 s.1).bind fun a1=>bif PP (a1.1<=a0.1) then If (.done (.done 32)) else If (.next (ae .i64 (s.1+1),s.2)) else If (.done (.done 0))
def lx (s:LD):Option (Step LD Int):=bif PP (s.1<(ut (F0s s.2))) then (aI s.2 s.1).bind fun a0=>(qd a0).bind fun n1=>bif n1 !=0 then If (.done 8) else If (.next (ae .i64 (s.1+1),s.2)) else ax iv (1,s.2)
def gf (p0:Field):Option Int:=bif PP (64<(ut (F0s p0.am))) then If 4 else ax lx (0,p0.am)
def c88:bA:=⟨ay.one (Arg.agg bR),Arg.int .i64,fun a=>gf a,.pure,NE⟩
theorem UQ:aG aO 88 c88:=Oc akD aD [(148,ao1)] ⟨acm,trivial⟩
def gH (p0:Int):Option Int:=bif PP (p0<0) then If (ae .u64 ((ae .u64 (ae .i64 (0- (ae .i64 (p0+1)))))+1)) else If (ae .u64 p0)
def acn:bA:=⟨ay.one (Arg.int .i64),Arg.int .u64,fun a=>gH a,.pure,NE⟩
theorem Jq:aG aO 117 acn:=Oc aal aD [] trivial
def mC (s:(Int×Int)):Option (Step (Int×Int) Int):=bif s.2 !=0 then bif s.2==0 then IR else If (.next (s.2,AC s.1 s.2)) else If (.done s.1)
def nW (p0:Int) (p1:Int):Option Int:=ax mC (p0,p1)
def akS:bA:=⟨ay.cons (Arg.int .u64) (ay.one (Arg.int .u64)),Arg.int .u64,fun a=>nW a.1 a.2,.pure,NE⟩
theorem Qj:aG aO 116 akS:=Oc aak aD [] trivial
def nj (p0:Int×Int):Option Int:=bif PP (p0.2<1) then If 8 else bif p0.1==(-9223372036854775808) then If 8 else (gH p0.1).bind fun n0=>(nW n0 (ae .u64 p0.2)).bind fun n1=>bif n1 !=1 then If 8 else If 0
def c66:bA:=⟨ay.one (Arg.agg (cH.row iF)),Arg.int .i64,fun a=>nj a,.pure,NE⟩
theorem Ou:aG aO 66 c66:=Oc akm aD [(117,acn),(116,akS)] ⟨Jq,Qj,trivial⟩
def mQ (p0:Field):Option Field:=(bP p0.am).bind fun l0=>If (Field.mk l0)
def c71:bA:=⟨ay.one (Arg.agg bR),Arg.agg bR,fun a=>mQ a,.own,M2⟩
def UR:bA:=⟨ay.one (Arg.agg bR),Arg.agg bR,fun a=>mQ a,.na,NE⟩
theorem Jr:aG aO 71 c71:=Oc UK aD [] trivial
theorem DW:aG aO 71 UR:=Oc UK aD [] trivial
def FB (s:(Int×(List Int)×(List Bool)×(List Int))):Option (Step (Int×(List Int)×(List Bool)×(List Int)) bc):=bif PP (0<=s.1) then (bq s.2.2.2 [s.1]).bind fun l0=>If (.next (ae .i64 (s.1-1),s.2.1,s.2.2.1,l0)) else If (.done (bc.mk s.2.1 s.2.2.1 s.2.2.2))
def Dc (p0:Int):Option bc:=bif p0==p0 then (wU p0 (0:Int)).bind fun l0=>bif p0==p0 then (wU p0 (NE:Bool)).bind fun l1=>ax FB (ae .i64 (p0-1),l0,l1,[]) else IR else IR
def ao3:bA:=⟨ay.one (Arg.int .i64),Arg.agg ga,fun a=>Dc a,.na,NE⟩
theorem aco:aG aO 256 ao3:=Oc abO aD [] trivial
def FC (s:(Int×Int×(List Int)×(List Bool)×(List Int)×(List Int))):Option (Step (Int×Int×(List Int)×(List Bool)×(List Int)×(List Int)) aM):=bif PP (s.2.1<s.1) then (bq s.2.2.2.2.2 [-1]).bind fun l0=>If (.next (s.1,ae .i64 (s.2.1+1),s.2.2.1,s.2.2.2.1,s.2.2.2.2.1,l0)) else If (.done (aM.mk (bc.mk s.2.2.1 s.2.2.2.1 s.2.2.2.2.1) [] s.2.2.2.2.2))
def Dd (p0:Int):Option aM:=(Dc p0).bind fun r0=>ax FC (p0,0,r0.aB,r0.be,r0.bi,[])
def ao4:bA:=⟨ay.one (Arg.int .i64),Arg.agg dw,fun a=>Dd a,.na,NE⟩
theorem acp:aG aO 222 ao4:=Oc abq aD [(256,ao3)] ⟨aco,trivial⟩
def De (p0:Field) (p1:Int×Int):Option aP:=(mQ p0).bind fun r0=>(Dd 200).bind fun r1=>If (aP.mk p1 r0 (bG.mk 0 []) r1 [])
def ao5:bA:=⟨ay.cons (Arg.agg bR) (ay.one (Arg.agg (cH.row iF))),Arg.agg bV,fun a=>De a.1 a.2,.na,NE⟩
theorem acq:aG aO 156 ao5:=Oc aaL aD [(71,c71),(71,UR),(222,ao4)] ⟨Jr,DW,acp,trivial⟩
def FD (s:(Int×Int×cd×(List Int))):Option (Step (Int×Int×cd×(List Int)) (Step LD (List Int))):=bif PP (s.2.1<s.1) then bif PP (s.2.1<(ut (F0s s.2.2.1))) then (aI s.2.2.1 s.2.1).bind fun a0=>(bq s.2.2.2 [a0.1]).bind fun l1=>If (.next (s.1,ae .i64 (s.2.1+1),s.2.2.1,l1)) else (bq s.2.2.2 [-1]).bind fun l2=>If (.next (s.1,ae .i64 (s.2.1+1),s.2.2.1,l2)) else If (.done (.done s.2.2.2))
def FE (s:LD):Option (Step LD (List Int)):=bif PP (s.1<(ut (F0s s.2))) then If (.next (ae .i64 (s.1*2),s.2)) else ax FD (s.1,0,s.2,[])
def Df (p0:Field):Option (List Int):=ax FE (1,p0.am)
def ao6:bA:=⟨ay.one (Arg.agg bR),Arg.sl ki,fun a=>Df a,.na,NE⟩
theorem acr:aG aO 157 ao6:=Oc aaM aD [] trivial
def iw (p0:bu) (p1:Int):Option Int:=bif PP (p1<(ut (F0s p0.dJ))) then (aI p0.dJ p1).bind fun n0=>If n0 else (aI p0.aq (ae .i64 (p1- (ut (F0s p0.dJ))))).bind fun n1=>If n1
def US:bA:=⟨ay.cons (Arg.agg fR) (ay.one (Arg.int .i64)),Arg.int .i64,fun a=>iw a.1 a.2,.pure,NE⟩
theorem DX:aG aO 102 US:=Oc aac aD [] trivial
def qe (s:R9):Option akQ:=bif PP (s.2.1<(ut (F0s s.2.2))) then (aI s.2.2 s.2.1).bind fun a0=>bif a0.1==s.1 then If (.done s.2.1) else If (.next (s.1,ae .i64 (s.2.1+1),s.2.2)) else If (.done (-1))
def fE (p0:Field) (p1:Int):Option Int:=ax qe (p1,0,p0.am)
def c89:bA:=⟨ay.cons (Arg.agg bR) (ay.one (Arg.int .i64)),Arg.int .i64,fun a=>fE a.1 a.2,.pure,NE⟩
theorem FF:aG aO 89 c89:=Oc akE aD [] trivial
def pA (p0:Int) (p1:Int):Option (Bool×Int×Int):=If (NE,ae .u64 ((ae .u64 ((ae .u64 ((ae .u64 (v6 p0 4294967296))*(ae .u64 (v6 p1 4294967296))))+(ae .u64 (v6 (ae .u64 ((ae .u64 ((ae .u64 (v6 p0 4294967296))*(AC p1 4294967296)))+(ae .u64 (v6 (ae .u64 ((AC p0 4294967296)*(AC p1 4294967296))) 4294967296)))) 4294967296))))+(ae .u64 (v6 (ae .u64 ((ae .u64 ((AC p0 4294967296)*(ae .u64 (v6 p1 4294967296))))+(AC (ae .u64 ((ae .u64 ((ae .u64 (v6 p0 4294967296))*(AC p1 4294967296)))+(ae .u64 (v6 (ae .u64 ((AC p0 4294967296)*(AC p1 4294967296))) 4294967296)))) 4294967296))) 4294967296))),ae .u64 ((ae .u64 ((AC (ae .u64 ((ae .u64 ((AC p0 4294967296)*(ae .u64 (v6 p1 4294967296))))+(AC (ae .u64 ((ae .u64 ((ae .u64 (v6 p0 4294967296))*(AC p1 4294967296)))+(ae .u64 (v6 (ae .u64 ((AC p0 4294967296)*(AC p1 4294967296))) 4294967296)))) 4294967296))) 4294967296)*4294967296))+(AC (ae .u64 ((AC p0 4294967296)*(AC p1 4294967296))) 4294967296)))
def ao7:bA:=⟨ay.cons (Arg.int .u64) (ay.one (Arg.int .u64)),Arg.agg (cH.row xQ),fun a=>pA a.1 a.2,.pure,NE⟩
theorem acs:aG aO 173 ao7:=Oc aaY aD [] trivial
def jb (p0:Int) (p1:Int):Option (Bool×Int×Int):=(gH p0).bind fun n0=>(gH p1).bind fun n1=>(pA n0 n1).bind fun a2=>bif !((PP (p0<0))==(PP (p1<0))) then bif p0 !=0 then If (p1 !=0,a2.2) else If (NE,a2.2) else If (NE,a2.2)
def akT:bA:=⟨ay.cons (Arg.int .i64) (ay.one (Arg.int .i64)),Arg.agg (cH.row xQ),fun a=>jb a.1 a.2,.pure,NE⟩
theorem Qk:aG aO 118 akT:=Oc aam aD [(117,acn),(173,ao7)] ⟨Jq,acs,trivial⟩
def oU (p0:Bool×Int×Int) (p1:Bool×Int×Int):Option Int:=bif p0.2.1 !=p1.2.1 then bif PP (p0.2.1<p1.2.1) then If (-1) else If 1 else bif p0.2.2 !=p1.2.2 then bif PP (p0.2.2<p1.2.2) then If (-1) else If 1 else If 0
def akU:bA:=⟨ay.cons (Arg.agg (cH.row xQ)) (ay.one (Arg.agg (cH.row xQ))),Arg.int .i64,fun a=>oU a.1 a.2,.pure,NE⟩
theorem Ql:aG aO 120 akU:=Oc aao aD [] trivial
def qf (p0:Bool×Int×Int) (p1:Bool×Int×Int):Option (Bool×Int×Int):=bif PP (p0.2.2<p1.2.2) then If (NE,ae .u64 ((ae .u64 (p0.2.1-p1.2.1)) -1),ae .u64 (p0.2.2-p1.2.2)) else If (NE,ae .u64 (p0.2.1-p1.2.1),ae .u64 (p0.2.2-p1.2.2))
def ao8:bA:=⟨ay.cons (Arg.agg (cH.row xQ)) (ay.one (Arg.agg (cH.row xQ))),Arg.agg (cH.row xQ),fun a=>qf a.1 a.2,.pure,NE⟩
theorem acu:aG aO 285 ao8:=Oc ab4 aD [] trivial
def vS (p0:Bool×Int×Int) (p1:Bool×Int×Int):Option (Bool×Int×Int):=bif p0.1==p1.1 then bif PP ((ae .u64 (p0.2.2+p1.2.2))<p0.2.2) then If (p0.1,ae .u64 ((ae .u64 (p0.2.1+p1.2.1))+1),ae .u64 (p0.2.2+p1.2.2)) else If (p0.1,ae .u64 (p0.2.1+p1.2.1),ae .u64 (p0.2.2+p1.2.2)) else (oU p0 p1).bind fun n0=>bif PP (0<=n0) then (qf p0 p1).bind fun a1=>bif p0.1 then bif PP (0<a1.2.1) then If (M2,a1.2) else If (PP (0<a1.2.2),a1.2) else If (NE,a1.2) else (qf p1 p0).bind fun a2=>If (p1.1,a2.2)
def ao9:bA:=⟨ay.cons (Arg.agg (cH.row xQ)) (ay.one (Arg.agg (cH.row xQ))),Arg.agg (cH.row xQ),fun a=>vS a.1 a.2,.pure,NE⟩
theorem acv:aG aO 258 ao9:=Oc abQ aD [(120,akU),(285,ao8)] ⟨Ql,acu,trivial⟩
def ke (p0:Bool×Int×Int):Option Int:=bif p0.2.1==0 then bif p0.2.2==0 then If 0 else bif p0.1 then If (-1) else If 1 else bif p0.1 then If (-1) else If 1
def akV:bA:=⟨ay.one (Arg.agg (cH.row xQ)),Arg.int .i64,fun a=>ke a,.pure,NE⟩
theorem Qm:aG aO 119 akV:=Oc aan aD [] trivial
def yH (p0:Int×Int×Int) (p1:Int×Int×Int) (p2:Int×Int):Option Int:=(jb (ae .i64 (p0.2.1-p1.2.1)) p2.2).bind fun a0=>(jb (ae .i64 (p0.2.2-p1.2.2)) p2.1).bind fun a1=>(vS a0 a1).bind fun a2=>(ke a2).bind fun n3=>If n3
def ao':bA:=⟨ay.cons (Arg.agg (cH.row eb)) (ay.cons (Arg.agg (cH.row eb)) (ay.one (Arg.agg (cH.row iF)))),Arg.int .i64,fun a=>yH a.1 a.2.1 a.2.2,.pure,NE⟩
theorem acw:aG aO 224 ao':=Oc abt aD [(118,akT),(258,ao9),(119,akV)] ⟨Qk,acv,Qm,trivial⟩
def nk (p0:Int×Int×Int) (p1:Int×Int×Int) (p2:Int×Int):Option Bool:=(yH p0 p1 p2).bind fun n0=>bif n0 !=0 then If (PP (0<n0)) else bif p0.2.2 !=p1.2.2 then If (PP (p1.2.2<p0.2.2)) else If (PP (p0.1<p1.1))
def acx:bA:=⟨ay.cons (Arg.agg (cH.row eb)) (ay.cons (Arg.agg (cH.row eb)) (ay.one (Arg.agg (cH.row iF)))),Arg.bool,fun a=>nk a.1 a.2.1 a.2.2,.pure,NE⟩
theorem Js:aG aO 164 acx:=Oc aaT aD [(224,ao')] ⟨acw,trivial⟩
def rF (p0:Field) (p1:Int×Int) (p2:Int) (p3:Int):Option Int:=bif PP (p2<0) then If p3 else bif PP (p3<0) then If p2 else (fE p0 p2).bind fun n0=>(aI p0.am n0).bind fun a1=>(fE p0 p3).bind fun n2=>(aI p0.am n2).bind fun a3=>(nk a1 a3 p1).bind fun b4=>bif b4 then If p2 else If p3
def akW:bA:=⟨ay.cons (Arg.agg bR) (ay.cons (Arg.agg (cH.row iF)) (ay.cons (Arg.int .i64) (ay.one (Arg.int .i64)))),Arg.int .i64,fun a=>rF a.1 a.2.1 a.2.2.1 a.2.2.2,.pure,NE⟩
theorem Qn:aG aO 103 akW:=Oc aad aD [(89,c89),(164,acx)] ⟨FF,Js,trivial⟩
def ly (s:R8):Option (Step R8 bu):=bif PP (0<=s.1) then (iw (bu.mk s.2.2.2.2.1 s.2.2.2.2.2) (ae .i64 ((ae .i64 (2*s.1))+1))).bind fun n0=>(iw (bu.mk s.2.2.2.2.1 s.2.2.2.2.2) (ae .i64 ((ae .i64 (2*s.1))+2))).bind fun n1=>(rF (Field.mk s.2.1) (s.2.2.1,s.2.2.2.1) n0 n1).bind fun n2=>(aI s.2.2.2.2.2 s.1).bind fun _=>If (.next (ae .i64 (s.1-1),s.2.1,s.2.2.1,s.2.2.2.1,s.2.2.2.2.1,cj s.2.2.2.2.2 s.1 n2)) else If (.done (bu.mk s.2.2.2.2.1 s.2.2.2.2.2))
def s8 (p0:Field) (p1:Int×Int) (p2:List Int):Option bu:=(bP p2).bind fun l0=>bif (ae .i64 ((ut (F0s p2)) -1))==(ae .i64 ((ut (F0s p2)) -1)) then (wU (ae .i64 ((ut (F0s p2)) -1)) (0:Int)).bind fun l1=>ax ly (ae .i64 ((ut (F0s l1)) -1),p0.am,p1.1,p1.2,l0,l1) else IR
def apa:bA:=⟨ay.cons (Arg.agg bR) (ay.cons (Arg.agg (cH.row iF)) (ay.one (Arg.sl ki))),Arg.agg fR,fun a=>s8 a.1 a.2.1 a.2.2,.na,NE⟩
theorem acy:aG aO 149 apa:=Oc aaG aD [(102,US),(103,akW)] ⟨DX,Qn,trivial⟩
def vT (p0:Field) (p1:Int×Int) (p2:List Int):Option bu:=(s8 p0 p1 p2).bind fun r0=>If r0
def c91:bA:=⟨ay.cons (Arg.agg bR) (ay.cons (Arg.agg (cH.row iF)) (ay.one (Arg.sl ki))),Arg.agg fR,fun a=>vT a.1 a.2.1 a.2.2,.na,NE⟩
theorem akX:aG aO 91 c91:=Oc akF aD [(149,apa)] ⟨acy,trivial⟩
def s9 (s:(Int×(List Int)×(List Int)×oI)):Option (Step (Int×(List Int)×(List Int)×oI) oI):=bif PP (s.1<(ut (F0s s.2.2.1))) then (iw (bu.mk s.2.1 s.2.2.1) (ae .i64 ((ae .i64 (2*s.1))+1))).bind fun n0=>(iw (bu.mk s.2.1 s.2.2.1) (ae .i64 ((ae .i64 (2*s.1))+2))).bind fun n1=>bif PP (n0<0) then If (.next (ae .i64 (s.1+1),s.2)) else bif PP (n1<0) then If (.next (ae .i64 (s.1+1),s.2)) else (aI s.2.2.1 s.1).bind fun n2=>bif n2==n0 then (bq s.2.2.2 [(n1,n0)]).bind fun l3=>If (.next (ae .i64 (s.1+1),s.2.1,s.2.2.1,l3)) else (bq s.2.2.2 [(n0,n1)]).bind fun l4=>If (.next (ae .i64 (s.1+1),s.2.1,s.2.2.1,l4)) else If (.done s.2.2.2)
def uU (p0:bu):Option oI:=ax s9 (0,p0.aq,p0.dJ,[])
def c53:bA:=⟨ay.one (Arg.agg fR),Arg.sl iF,fun a=>uU a,.na,NE⟩
theorem UT:aG aO 53 c53:=Oc ake aD [(102,US)] ⟨DX,trivial⟩
def oV (p0:bG):Option bG:=(bP p0.ce).bind fun l0=>If (bG.mk p0.aL l0)
def c72:bA:=⟨ay.one (Arg.agg gV),Arg.agg gV,fun a=>oV a,.own,M2⟩
def acz:bA:=⟨ay.one (Arg.agg gV),Arg.agg gV,fun a=>oV a,.na,NE⟩
theorem Ov:aG aO 72 c72:=Oc UL aD [] trivial
theorem Jt:aG aO 72 acz:=Oc UL aD [] trivial
def mR (p0:bc):Option bc:=(bP p0.aB).bind fun l0=>(bP p0.be).bind fun l1=>(bP p0.bi).bind fun l2=>If (bc.mk l0 l1 l2)
def UU:bA:=⟨ay.one (Arg.agg ga),Arg.agg ga,fun a=>mR a,.own,M2⟩
def LG:bA:=⟨ay.one (Arg.agg ga),Arg.agg ga,fun a=>mR a,.na,NE⟩
theorem DY:aG aO 125 UU:=Oc P6 aD [] trivial
theorem Bn:aG aO 125 LG:=Oc P6 aD [] trivial
def lz (p0:aM):Option aM:=(mR p0.af).bind fun r0=>(bP p0.bv).bind fun l1=>(bP p0.aj).bind fun l2=>If (aM.mk r0 l1 l2)
def c73:bA:=⟨ay.one (Arg.agg dw),Arg.agg dw,fun a=>lz a,.own,M2⟩
def Sa:bA:=⟨ay.one (Arg.agg dw),Arg.agg dw,fun a=>lz a,.na,NE⟩
theorem FG:aG aO 73 c73:=Oc UM aD [(125,UU),(125,LG)] ⟨DY,Bn,trivial⟩
theorem Bo:aG aO 73 Sa:=Oc UM aD [(125,UU),(125,LG)] ⟨DY,Bn,trivial⟩
def lA (p0:aP):Option aP:=(mQ p0.ii).bind fun r0=>(oV p0.ai).bind fun r1=>(lz p0.aa).bind fun r2=>(bP p0.io).bind fun l3=>If (aP.mk p0.ci r0 r1 r2 l3)
def c29:bA:=⟨ay.one (Arg.agg bV),Arg.agg bV,fun a=>lA a,.own,M2⟩
def UW:bA:=⟨ay.one (Arg.agg bV),Arg.agg bV,fun a=>lA a,.na,NE⟩
theorem Ju:aG aO 29 c29:=Oc UH aD [(71,c71),(71,UR),(72,c72),(72,acz),(73,c73),(73,Sa)] ⟨Jr,DW,Ov,Jt,FG,Bo,trivial⟩
theorem DZ:aG aO 29 UW:=Oc UH aD [(71,c71),(71,UR),(72,c72),(72,acz),(73,c73),(73,Sa)] ⟨Jr,DW,Ov,Jt,FG,Bo,trivial⟩
def tc (s:(oI×Int×Int×Int)):Option (Step (oI×Int×Int×Int) Bool):=bif PP (s.2.1<(ut (F0s s.1))) then (aI s.1 s.2.1).bind fun a0=>bif (a0.1==s.2.2.1)&&(a0.2==s.2.2.2) then If (.done M2) else If (.next (s.1,ae .i64 (s.2.1+1),s.2.2)) else If (.done NE)
def Bp (p0:List (Int×Int)) (p1:Int×Int):Option Bool:=ax tc (p0,0,p1)
def apc:bA:=⟨ay.cons (Arg.sl iF) (ay.one (Arg.agg (cH.row iF))),Arg.bool,fun a=>Bp a.1 a.2,.pure,NE⟩
theorem acA:aG aO 150 apc:=Oc aaH aD [] trivial
def jE (s:ao0):Option (Step ao0 bG):=bif PP (s.2.1<(ut (F0s s.2.2.2.1))) then (aI s.2.2.2.1 s.2.1).bind fun a0=>bif a0.1 !=s.1 then (aI s.2.2.2.1 s.2.1).bind fun a1=>(bq s.2.2.2.2.2.2 [a1]).bind fun l2=>If (.next (s.1,ae .i64 (s.2.1+1),s.2.2.1,s.2.2.2.1,s.2.2.2.2.1,s.2.2.2.2.2.1,l2)) else If (.next (s.1,ae .i64 (s.2.1+1),s.2.2)) else If (.done (bG.mk s.2.2.2.2.2.1 s.2.2.2.2.2.2))
def pB (p0:bG) (p1:Int):Option bG:=ax jE (p1,0,p0.aL,p0.ce,0,p0.aL,[])
def apd:bA:=⟨ay.cons (Arg.agg gV) (ay.one (Arg.int .i64)),Arg.agg gV,fun a=>pB a.1 a.2,.na,NE⟩
theorem acB:aG aO 214 apd:=Oc abj aD [] trivial
def nX (s:akM):Option aoH:=bif PP (s.2.1<(ut (F0s s.2.2.2.2.2.2.2.2.2.2.2.2))) then (aI s.2.2.2.2.2.2.2.2.2.2.2.2 s.2.1).bind fun a0=>bif a0.1==s.1 then If (.done s.2.1) else If (.next (s.1,ae .i64 (s.2.1+1),s.2.2)) else If (.done (-1))
def nm (p0:aP) (p1:Int):Option Int:=ax nX (p1,0,p0.ci.1,p0.ci.2,p0.ii.am,p0.ai.aL,p0.ai.ce,p0.aa.af.aB,p0.aa.af.be,p0.aa.af.bi,p0.aa.bv,p0.aa.aj,p0.io)
def akY:bA:=⟨ay.cons (Arg.agg bV) (ay.one (Arg.int .i64)),Arg.int .i64,fun a=>nm a.1 a.2,.pure,NE⟩
theorem Qo:aG aO 215 akY:=Oc abk aD [] trivial
def np (p0:bc) (p1:Int×Int):Option bc:=(mR p0).bind fun r0=>(aI r0.be p1.1).bind fun _=>(bq r0.bi [p1.1]).bind fun l2=>If (bc.mk r0.aB (cj r0.be p1.1 NE) l2)
def ape:bA:=⟨ay.cons (Arg.agg ga) (ay.one (Arg.agg (cH.row iF))),Arg.agg ga,fun a=>np a.1 a.2,.na,NE⟩
theorem acC:aG aO 252 ape:=Oc abM aD [(125,UU),(125,LG)] ⟨DY,Bn,trivial⟩
def pC (p0:Int×Int) (p1:Int×Int):Option Int:=(jb p0.1 p1.2).bind fun a0=>(jb p1.1 p0.2).bind fun a1=>(ke a0).bind fun n2=>(ke a1).bind fun n3=>bif n2 !=n3 then (ke a0).bind fun n4=>(ke a1).bind fun n5=>bif PP (n4<n5) then If (-1) else If 1 else (ke a0).bind fun n6=>bif PP (n6<0) then (oU a1 a0).bind fun n7=>If n7 else (oU a0 a1).bind fun n8=>If n8
def c67:bA:=⟨ay.cons (Arg.agg (cH.row iF)) (ay.one (Arg.agg (cH.row iF))),Arg.int .i64,fun a=>pC a.1 a.2,.pure,NE⟩
theorem akZ:aG aO 67 c67:=Oc akn aD [(118,akT),(119,akV),(120,akU)] ⟨Qk,Qm,Ql,trivial⟩
def ec (p0:Int×Int×Int×Int×Int) (p1:Int×Int×Int×Int×Int):Option Bool:=(pC (p0.1,p0.2.1) (p1.1,p1.2.1)).bind fun n0=>bif PP (n0<0) then If M2 else bif n0==0 then If (PP (p0.2.2.1<p1.2.2.1)) else If NE
def Ow:bA:=⟨ay.cons (Arg.agg (cH.row j9)) (ay.one (Arg.agg (cH.row j9))),Arg.bool,fun a=>ec a.1 a.2,.pure,NE⟩
theorem yI:aG aO 161 Ow:=Oc aaQ aD [(67,c67)] ⟨akZ,trivial⟩
def fk (a:akN):Option akO:=(aI a.2.2.2.2.2.1 a.2.1).bind fun a0=>(aI a.2.2.2.2.2.1 a.1).bind fun a1=>(aI a.2.2.2.2.2.1 a.1).bind fun _=>(aI (cj a.2.2.2.2.2.1 a.1 a0) a.2.1).bind fun _=>(aI (cj (cj a.2.2.2.2.2.1 a.1 a0) a.2.1 a1) a.1).bind fun a4=>(aI (cj (cj a.2.2.2.2.2.1 a.1 a0) a.2.1 a1) a.2.1).bind fun a5=>(aI a.2.2.2.2.2.2 a4.2.2.2.1).bind fun _=>(aI (cj a.2.2.2.2.2.2 a4.2.2.2.1 a.1) a5.2.2.2.1).bind fun _=>bif (F0s a.2.2.1)==(F0s a.2.2.1) then bif (F0s a.2.2.2.1)==(F0s a.2.2.2.1) then bif (F0s a.2.2.2.2.1)==(F0s a.2.2.2.2.1) then bif ((cj (cj a.2.2.2.2.2.1 a.1 a0) a.2.1 a1).length)==(F0s a.2.2.2.2.2.1) then bif ((cj (cj a.2.2.2.2.2.2 a4.2.2.2.1 a.1) a5.2.2.2.1 a.2.1).length)==(F0s a.2.2.2.2.2.2) then If (a.2.2.1,a.2.2.2.1,a.2.2.2.2.1,cj (cj a.2.2.2.2.2.1 a.1 a0) a.2.1 a1,cj (cj a.2.2.2.2.2.2 a4.2.2.2.1 a.1) a5.2.2.2.1 a.2.1) else IR else IR else IR else IR else IR
def Ak:dP:=⟨[.i,.i,.l [.i .i64],.l [.b],.l [.i .i64],.l [.i .i64,.i .i64,.i .i64,.i .i64,.i .i64],.l [.i .i64]],[.agg [.own 0 NE,.own 1 NE,.own 2 NE,.own 3 NE,.own 4 NE],.int .i64 0,.int .i64 0],[.arr [.i .i64] [],.arr [.b] [],.arr [.i .i64] [],.arr [.i .i64,.i .i64,.i .i64,.i .i64,.i .i64] [],.arr [.i .i64] []],[.l [.i .i64],.l [.b],.l [.i .i64],.l [.i .i64,.i .i64,.i .i64,.i .i64,.i .i64],.l [.i .i64]],.cu [],[.arr [.i .i64] [],.arr [.b] [],.arr [.i .i64] [],.arr [.i .i64,.i .i64,.i .i64,.i .i64,.i .i64] [],.arr [.i .i64] []],fun a=>fk a⟩
theorem rG:jn aO 251 Ak:=jn.of Jn (wd:=NE) (cx:=(iT aD [] [] [] [])) (gG.make trivial trivial trivial) (fun a=>by kernel_rfl)
def fS (a:((List Int)×(List Bool)×(List Int)×Nat×Nat×Int×Int×jo×(List Int))):Option G2:=(aI (a.2.2.2.2.2.2.2.1.take a.2.2.2.1) a.2.2.2.2.2.2.1).bind fun a0=>(aI (a.2.2.2.2.2.2.2.1.take a.2.2.2.1) a.2.2.2.2.2.1).bind fun a1=>(aI (a.2.2.2.2.2.2.2.1.take a.2.2.2.1) a.2.2.2.2.2.1).bind fun _=>(aI ((cj a.2.2.2.2.2.2.2.1 a.2.2.2.2.2.1 a0).take a.2.2.2.1) a.2.2.2.2.2.2.1).bind fun _=>(aI ((cj (cj a.2.2.2.2.2.2.2.1 a.2.2.2.2.2.1 a0) a.2.2.2.2.2.2.1 a1).take a.2.2.2.1) a.2.2.2.2.2.1).bind fun a4=>(aI ((cj (cj a.2.2.2.2.2.2.2.1 a.2.2.2.2.2.1 a0) a.2.2.2.2.2.2.1 a1).take a.2.2.2.1) a.2.2.2.2.2.2.1).bind fun a5=>(aI a.2.2.2.2.2.2.2.2 a4.2.2.2.1).bind fun _=>(aI (cj a.2.2.2.2.2.2.2.2 a4.2.2.2.1 a.2.2.2.2.2.1) a5.2.2.2.1).bind fun _=>bif ((cj (cj a.2.2.2.2.2.2.2.1 a.2.2.2.2.2.1 a0) a.2.2.2.2.2.2.1 a1).length)==(F0s a.2.2.2.2.2.2.2.1) then bif ((cj (cj a.2.2.2.2.2.2.2.2 a4.2.2.2.1 a.2.2.2.2.2.1) a5.2.2.2.1 a.2.2.2.2.2.2.1).length)==(F0s a.2.2.2.2.2.2.2.2) then If (cj (cj a.2.2.2.2.2.2.2.1 a.2.2.2.2.2.1 a0) a.2.2.2.2.2.2.1 a1,cj (cj a.2.2.2.2.2.2.2.2 a4.2.2.2.1 a.2.2.2.2.2.1) a5.2.2.2.1 a.2.2.2.2.2.2.1) else IR else IR
def Al:dP:=⟨[.l [.i .i64],.l [.b],.l [.i .i64],.n,.n,.i,.i,.l [.i .i64,.i .i64,.i .i64,.i .i64,.i .i64],.l [.i .i64]],[.agg [.sl [.i .i64] [],.sl [.b] [],.sl [.i .i64] [],.pre 0 0 0 NE,.own 1 NE],.int .i64 0,.int .i64 0],[.arr [.i .i64,.i .i64,.i .i64,.i .i64,.i .i64] [],.arr [.i .i64] []],[.l [.i .i64,.i .i64,.i .i64,.i .i64,.i .i64],.l [.i .i64]],.cu [],[.arr [.i .i64,.i .i64,.i .i64,.i .i64,.i .i64] [],.arr [.i .i64] []],fun a=>fS a⟩
theorem rH:jn aO 251 Al:=jn.of Jn (wd:=NE) (cx:=(iT aD [] [] [] [])) (gG.make trivial trivial trivial) (fun a=>by kernel_rfl)
def gA (c0:aci) (s:acj):Option (Step acj ack):=bif PP (0<s.1) then (aI (s.2.1.take s.2.2.2.2.2.2.1) s.1).bind fun a0=>(aI (s.2.1.take s.2.2.2.2.2.2.1) (ae .i64 (v6 (ae .i64 (s.1-1)) 2))).bind fun a1=>(ec a0 a1).bind fun b2=>bif b2 then (fS (s.2.2.2.1,s.2.2.2.2.1,s.2.2.2.2.2.1,s.2.2.2.2.2.2.1,s.2.2.2.2.2.2.2,s.1,ae .i64 (v6 (ae .i64 (s.1-1)) 2),s.2.1,s.2.2.1)).bind fun a3=>If (.next (ae .i64 (v6 (ae .i64 (s.1-1)) 2),a3.1,a3.2,s.2.2.2)) else bif (F0s s.2.1)==(F0s c0.2.2.2.2.2.2.1) then bif (F0s s.2.2.1)==(F0s c0.2.2.2.2.2.2.2) then If (.done (s.1,s.2.1,s.2.2.1)) else IR else IR else bif (F0s s.2.1)==(F0s c0.2.2.2.2.2.2.1) then bif (F0s s.2.2.1)==(F0s c0.2.2.2.2.2.2.2) then If (.done (s.1,s.2.1,s.2.2.1)) else IR else IR
def lB (a:aci):Option ack:=ax (gA a) (a.2.2.2.2.2.1,a.2.2.2.2.2.2.1,a.2.2.2.2.2.2.2,a.1,a.2.1,a.2.2.1,a.2.2.2.1,a.2.2.2.2.1)
def Jv:dP:=⟨[.l [.i .i64],.l [.b],.l [.i .i64],.n,.n,.i,.l [.i .i64,.i .i64,.i .i64,.i .i64,.i .i64],.l [.i .i64]],[.agg [.sl [.i .i64] [],.sl [.b] [],.sl [.i .i64] [],.pre 0 0 0 NE,.own 1 NE],.int .i64 0],[.arr [.i .i64,.i .i64,.i .i64,.i .i64,.i .i64] [],.arr [.i .i64] []],[.i,.l [.i .i64,.i .i64,.i .i64,.i .i64,.i .i64],.l [.i .i64]],.int .i64 0,[.arr [.i .i64,.i .i64,.i .i64,.i .i64,.i .i64] [],.arr [.i .i64] []],fun a=>lB a⟩
theorem Cu:jn aO 254 Jv:=jn.of Jo (wd:=M2) (cx:=(iT aD [(161,Ow)] [(251,Ak),(251,Al)] [] [])) (gG.make ⟨yI,trivial⟩ ⟨rG,rH,trivial⟩ trivial) (fun a=>by kernel_rfl)
def js (c0:aci) (s:acj):Option (Step acj G2):=match s with |(a,b,d,e,f,g,h,i)=>bif PP ((ut h)<=(ae .i64 ((ae .i64 (2*a))+1))) then bif (F0s b)==(F0s c0.2.2.2.2.2.2.1) then bif (F0s d)==(F0s c0.2.2.2.2.2.2.2) then If (.done (b,d)) else IR else IR else bif PP ((ae .i64 ((ae .i64 ((ae .i64 (2*a))+1))+1))<(ut h)) then (aI (b.take h) (ae .i64 ((ae .i64 ((ae .i64 (2*a))+1))+1))).bind fun a0=>(aI (b.take h) (ae .i64 ((ae .i64 (2*a))+1))).bind fun a1=>(ec a0 a1).bind fun b2=>bif b2 then (aI (b.take h) (ae .i64 ((ae .i64 ((ae .i64 (2*a))+1))+1))).bind fun a3=>(aI (b.take h) a).bind fun a4=>(ec a3 a4).bind fun b5=>bif !b5 then bif (F0s b)==(F0s c0.2.2.2.2.2.2.1) then bif (F0s d)==(F0s c0.2.2.2.2.2.2.2) then If (.done (b,d)) else IR else IR else (fS (e,f,g,h,i,a,ae .i64 ((ae .i64 ((ae .i64 (2*a))+1))+1),b,d)).bind fun a6=>If (.next (ae .i64 ((ae .i64 ((ae .i64 (2*a))+1))+1),a6.1,a6.2,(e,f,g,h,i))) else (aI (b.take h) (ae .i64 ((ae .i64 (2*a))+1))).bind fun a7=>(aI (b.take h) a).bind fun a8=>(ec a7 a8).bind fun b9=>bif !b9 then bif (F0s b)==(F0s c0.2.2.2.2.2.2.1) then bif (F0s d)==(F0s c0.2.2.2.2.2.2.2) then If (.done (b,d)) else IR else IR else (fS (e,f,g,h,i,a,ae .i64 ((ae .i64 (2*a))+1),b,d)).bind fun yJ=>If (.next (ae .i64 ((ae .i64 (2*a))+1),yJ.1,yJ.2,(e,f,g,h,i))) else (aI (b.take h) (ae .i64 ((ae .i64 (2*a))+1))).bind fun zt=>(aI (b.take h) a).bind fun a12=>(ec zt a12).bind fun b13=>bif !b13 then bif (F0s b)==(F0s c0.2.2.2.2.2.2.1) then bif (F0s d)==(F0s c0.2.2.2.2.2.2.2) then If (.done (b,d)) else IR else IR else (fS (e,f,g,h,i,a,ae .i64 ((ae .i64 (2*a))+1),b,d)).bind fun SQ=>If (.next (ae .i64 ((ae .i64 (2*a))+1),SQ.1,SQ.2,(e,f,g,h,i)))
def jF (a:aci):Option G2:=ax (js a) (a.2.2.2.2.2.1,a.2.2.2.2.2.2.1,a.2.2.2.2.2.2.2,a.1,a.2.1,a.2.2.1,a.2.2.2.1,a.2.2.2.2.1)
def Ox:dP:=⟨[.l [.i .i64],.l [.b],.l [.i .i64],.n,.n,.i,.l [.i .i64,.i .i64,.i .i64,.i .i64,.i .i64],.l [.i .i64]],[.agg [.sl [.i .i64] [],.sl [.b] [],.sl [.i .i64] [],.pre 0 0 0 NE,.own 1 NE],.int .i64 0],[.arr [.i .i64,.i .i64,.i .i64,.i .i64,.i .i64] [],.arr [.i .i64] []],[.l [.i .i64,.i .i64,.i .i64,.i .i64,.i .i64],.l [.i .i64]],.cu [],[.arr [.i .i64,.i .i64,.i .i64,.i .i64,.i .i64] [],.arr [.i .i64] []],fun a=>jF a⟩
theorem HR:jn aO 253 Ox:=jn.of Qd (wd:=NE) (cx:=(iT aD [(161,Ow)] [(251,Ak),(251,Al)] [] [])) (gG.make ⟨yI,trivial⟩ ⟨rG,rH,trivial⟩ trivial) (fun a=>by kernel_rfl)
def jc (p0:aM) (p1:Int×Int):Option aM:=(lz p0).bind fun r0=>(aI r0.aj p1.1).bind fun n1=>bif n1 !=(ae .i64 ((ut (F0s r0.bv)) -1)) then (fk (n1,ae .i64 ((ut (F0s r0.bv)) -1),r0.af.aB,r0.af.be,r0.af.bi,r0.bv,r0.aj)).bind fun a2=>(fP a2.2.2.2.1 0 (ae .i64 ((ut (F0s r0.bv)) -1))).bind fun _=>(aI a2.2.2.2.2 p1.1).bind fun _=>(np (bc.mk a2.1 a2.2.1 a2.2.2.1) p1).bind fun r5=>bif n1 !=(ae .i64 ((ut (F0s r0.bv)) -1)) then (lB (r5.aB,r5.be,r5.bi,(ae .i64 ((ut (F0s r0.bv)) -1)).toNat,F0s a2.2.2.2.1,n1,a2.2.2.2.1,cj a2.2.2.2.2 p1.1 (-1))).bind fun a6=>(jF (r5.aB,r5.be,r5.bi,(ae .i64 ((ut (F0s r0.bv)) -1)).toNat,F0s a2.2.2.2.1,a6)).bind fun a7=>If (aM.mk r5 (a7.1.take ((ae .i64 ((ut (F0s r0.bv)) -1)).toNat)) a7.2) else If (aM.mk r5 (a2.2.2.2.1.take ((ae .i64 ((ut (F0s r0.bv)) -1)).toNat)) (cj a2.2.2.2.2 p1.1 (-1))) else (fP r0.bv 0 (ae .i64 ((ut (F0s r0.bv)) -1))).bind fun _=>(aI r0.aj p1.1).bind fun _=>(np r0.af p1).bind fun r10=>bif n1 !=(ae .i64 ((ut (F0s r0.bv)) -1)) then (lB (r10.aB,r10.be,r10.bi,(ae .i64 ((ut (F0s r0.bv)) -1)).toNat,F0s r0.bv,n1,r0.bv,cj r0.aj p1.1 (-1))).bind fun zt=>(jF (r10.aB,r10.be,r10.bi,(ae .i64 ((ut (F0s r0.bv)) -1)).toNat,F0s r0.bv,zt)).bind fun a12=>If (aM.mk r10 (a12.1.take ((ae .i64 ((ut (F0s r0.bv)) -1)).toNat)) a12.2) else If (aM.mk r10 (r0.bv.take ((ae .i64 ((ut (F0s r0.bv)) -1)).toNat)) (cj r0.aj p1.1 (-1)))
def ak0:bA:=⟨ay.cons (Arg.agg dw) (ay.one (Arg.agg (cH.row iF))),Arg.agg dw,fun a=>jc a.1 a.2,.na,NE⟩
theorem Qp:aG aO 216 ak0:=aG.of abl (cx:=(iT aD [(73,c73),(73,Sa),(252,ape)] [(251,Ak),(251,Al),(254,Jv),(253,Ox)] [] [])) rfl (gG.make ⟨FG,Bo,acC,trivial⟩ ⟨rG,rH,Cu,HR,trivial⟩ trivial) (fun a=>by kernel_rfl)
def rZ (p0:aP) (p1:Int):Option aP:=(lA p0).bind fun r0=>(pB p0.ai p1).bind fun r1=>(nm p0 p1).bind fun n2=>bif PP (0<=n2) then (aI p0.io n2).bind fun a3=>(jc p0.aa a3.2).bind fun r4=>(fP p0.io 0 n2).bind fun l5=>(bP l5).bind fun l6=>(fP p0.io (ae .i64 (n2+1)) (ut (F0s p0.io))).bind fun l7=>bif l7.isEmpty then If (aP.mk r0.ci r0.ii r1 r4 l6) else (bq l6 l7).bind fun l8=>If (aP.mk r0.ci r0.ii r1 r4 l8) else If (aP.mk r0.ci r0.ii r1 r0.aa r0.io)
def apf:bA:=⟨ay.cons (Arg.agg bV) (ay.one (Arg.int .i64)),Arg.agg bV,fun a=>rZ a.1 a.2,.na,NE⟩
theorem acD:aG aO 151 apf:=Oc aaI aD [(29,c29),(29,UW),(214,apd),(215,akY),(216,ak0)] ⟨Ju,DZ,acB,Qo,Qp,trivial⟩
def pD (s:(Int×cd×cd)):Option (Step (Int×cd×cd) Bool):=bif PP (s.1<(ut (F0s s.2.1))) then (aI s.2.1 s.1).bind fun a0=>(aI s.2.2 s.1).bind fun a1=>bif !((a0.1==a1.1)&&((a0.2.1==a1.2.1)&&(a0.2.2==a1.2.2))) then If (.done NE) else If (.next (ae .i64 (s.1+1),s.2)) else If (.done M2)
def vU (p0:Field) (p1:Field):Option Bool:=bif (ut (F0s p0.am)) !=(ut (F0s p1.am)) then If NE else ax pD (0,p0.am,p1.am)
def c19:bA:=⟨ay.cons (Arg.agg bR) (ay.one (Arg.agg bR)),Arg.bool,fun a=>vU a.1 a.2,.pure,NE⟩
theorem ak1:aG aO 19 c19:=Oc ajT aD [] trivial
def oW (p0:Bool) (p1:Bool×Int×Int) (p2:Bool×Int×Int):Option ((Int×Int)×Int):=bif PP (0<p1.2.1) then If ((0,0),16) else bif PP (9223372036854775807<p1.2.2) then If ((0,0),16) else bif PP (0<p2.2.1) then If ((0,0),16) else bif PP (9223372036854775807<p2.2.2) then If ((0,0),16) else bif p0 then If ((ae .i64 (0- (ae .i64 p1.2.2)),ae .i64 p2.2.2),0) else If ((ae .i64 p1.2.2,ae .i64 p2.2.2),0)
def apg:bA:=⟨ay.cons Arg.bool (ay.cons (Arg.agg (cH.row xQ)) (ay.one (Arg.agg (cH.row xQ)))),Arg.cu (ay.cons (Arg.agg (cH.row iF)) (ay.one (Arg.int .i64))),fun a=>oW a.1 a.2.1 a.2.2,.pure,NE⟩
theorem acE:aG aO 284 apg:=Oc ab3 aD [] trivial
def lC (p0:Int) (p1:Int):Option ((Int×Int)×Int):=bif p1==0 then If ((0,0),26) else (gH p0).bind fun n0=>(gH p1).bind fun n1=>(nW n0 n1).bind fun n2=>bif !((PP (p0<0))==(PP (p1<0))) then (gH p0).bind fun n3=>bif n2==0 then IR else (gH p1).bind fun n4=>bif n2==0 then IR else (oW (p0 !=0) (NE,0,ae .u64 (v6 n3 n2)) (NE,0,ae .u64 (v6 n4 n2))).bind fun a5=>If a5 else (gH p0).bind fun n6=>bif n2==0 then IR else (gH p1).bind fun n7=>bif n2==0 then IR else (oW NE (NE,0,ae .u64 (v6 n6 n2)) (NE,0,ae .u64 (v6 n7 n2))).bind fun a8=>If a8
def aph:bA:=⟨ay.cons (Arg.int .i64) (ay.one (Arg.int .i64)),Arg.cu (ay.cons (Arg.agg (cH.row iF)) (ay.one (Arg.int .i64))),fun a=>lC a.1 a.2,.pure,NE⟩
theorem acF:aG aO 257 aph:=Oc abP aD [(117,acn),(116,akS),(284,apg)] ⟨Jq,Qj,acE,trivial⟩
def yK (p0:Int×Int×Int) (p1:Int×Int×Int):Option (Int×Int):=(lC (ae .i64 (p0.2.1-p1.2.1)) (ae .i64 (p1.2.2-p0.2.2))).bind fun a0=>If a0.1
def api:bA:=⟨ay.cons (Arg.agg (cH.row eb)) (ay.one (Arg.agg (cH.row eb))),Arg.agg (cH.row iF),fun a=>yK a.1 a.2,.pure,NE⟩
theorem acG:aG aO 223 api:=Oc abr aD [(257,aph)] ⟨acF,trivial⟩
def pE (p0:Int×Int×Int) (p1:Int×Int×Int) (p2:Int×Int):Option ((Int×Int)×Bool):=(nk p1 p0 p2).bind fun b0=>bif b0 then If (p2,M2) else bif PP (p0.2.2<p1.2.2) then (yK p0 p1).bind fun a1=>If (a1,M2) else If ((0,0),NE)
def apj:bA:=⟨ay.cons (Arg.agg (cH.row eb)) (ay.cons (Arg.agg (cH.row eb)) (ay.one (Arg.agg (cH.row iF)))),Arg.cu (ay.cons (Arg.agg (cH.row iF)) (ay.one Arg.bool)),fun a=>pE a.1 a.2.1 a.2.2,.pure,NE⟩
theorem acH:aG aO 162 apj:=Oc aaR aD [(164,acx),(223,api)] ⟨Js,acG,trivial⟩
def oX (p0:Field) (p1:Int×Int) (p2:Int×Int):Option ((Int×Int)×Bool):=(fE p0 p1.2).bind fun n0=>(aI p0.am n0).bind fun a1=>(fE p0 p1.1).bind fun n2=>(aI p0.am n2).bind fun a3=>(pE a1 a3 p2).bind fun a4=>If a4
def c99:bA:=⟨ay.cons (Arg.agg bR) (ay.cons (Arg.agg (cH.row iF)) (ay.one (Arg.agg (cH.row iF)))),Arg.cu (ay.cons (Arg.agg (cH.row iF)) (ay.one Arg.bool)),fun a=>oX a.1 a.2.1 a.2.2,.pure,NE⟩
theorem Oy:aG aO 99 c99:=Oc akL aD [(89,c89),(162,apj)] ⟨FF,acH,trivial⟩
def gB (c0:Bm) (s:Bm):Option (Step Bm Bm):=bif PP (0<s.1) then (aI s.2.2.2.2.1 s.1).bind fun a0=>(aI s.2.2.2.2.1 (ae .i64 (v6 (ae .i64 (s.1-1)) 2))).bind fun a1=>(ec a0 a1).bind fun b2=>bif b2 then (fk (s.1,ae .i64 (v6 (ae .i64 (s.1-1)) 2),s.2)).bind fun a3=>If (.next (ae .i64 (v6 (ae .i64 (s.1-1)) 2),a3)) else bif (F0s s.2.1)==(F0s c0.2.1) then bif (F0s s.2.2.1)==(F0s c0.2.2.1) then bif (F0s s.2.2.2.1)==(F0s c0.2.2.2.1) then bif (F0s s.2.2.2.2.1)==(F0s c0.2.2.2.2.1) then bif (F0s s.2.2.2.2.2)==(F0s c0.2.2.2.2.2) then If (.done s) else IR else IR else IR else IR else IR else bif (F0s s.2.1)==(F0s c0.2.1) then bif (F0s s.2.2.1)==(F0s c0.2.2.1) then bif (F0s s.2.2.2.1)==(F0s c0.2.2.2.1) then bif (F0s s.2.2.2.2.1)==(F0s c0.2.2.2.2.1) then bif (F0s s.2.2.2.2.2)==(F0s c0.2.2.2.2.2) then If (.done s) else IR else IR else IR else IR else IR
def nY (a:Bm):Option Bm:=ax (gB a) a
def Oz:dP:=⟨[.i,.l [.i .i64],.l [.b],.l [.i .i64],.l [.i .i64,.i .i64,.i .i64,.i .i64,.i .i64],.l [.i .i64]],[.agg [.own 0 NE,.own 1 NE,.own 2 NE,.own 3 NE,.own 4 NE],.int .i64 0],[.arr [.i .i64] [],.arr [.b] [],.arr [.i .i64] [],.arr [.i .i64,.i .i64,.i .i64,.i .i64,.i .i64] [],.arr [.i .i64] []],[.i,.l [.i .i64],.l [.b],.l [.i .i64],.l [.i .i64,.i .i64,.i .i64,.i .i64,.i .i64],.l [.i .i64]],.int .i64 0,[.arr [.i .i64] [],.arr [.b] [],.arr [.i .i64] [],.arr [.i .i64,.i .i64,.i .i64,.i .i64,.i .i64] [],.arr [.i .i64] []],fun a=>nY a⟩
theorem HS:jn aO 254 Oz:=jn.of Jo (wd:=NE) (cx:=(iT aD [(161,Ow)] [(251,Ak),(251,Al)] [] [])) (gG.make ⟨yI,trivial⟩ ⟨rG,rH,trivial⟩ trivial) (fun a=>by kernel_rfl)
def jt (c0:Bm) (s:Bm):Option (Step Bm akO):=bif PP ((ut (F0s s.2.2.2.2.1))<=(ae .i64 ((ae .i64 (2*s.1))+1))) then bif (F0s s.2.1)==(F0s c0.2.1) then bif (F0s s.2.2.1)==(F0s c0.2.2.1) then bif (F0s s.2.2.2.1)==(F0s c0.2.2.2.1) then bif (F0s s.2.2.2.2.1)==(F0s c0.2.2.2.2.1) then bif (F0s s.2.2.2.2.2)==(F0s c0.2.2.2.2.2) then If (.done s.2) else IR else IR else IR else IR else IR else bif PP ((ae .i64 ((ae .i64 ((ae .i64 (2*s.1))+1))+1))<(ut (F0s s.2.2.2.2.1))) then (aI s.2.2.2.2.1 (ae .i64 ((ae .i64 ((ae .i64 (2*s.1))+1))+1))).bind fun a0=>(aI s.2.2.2.2.1 (ae .i64 ((ae .i64 (2*s.1))+1))).bind fun a1=>(ec a0 a1).bind fun b2=>bif b2 then (aI s.2.2.2.2.1 (ae .i64 ((ae .i64 ((ae .i64 (2*s.1))+1))+1))).bind fun a3=>(aI s.2.2.2.2.1 s.1).bind fun a4=>(ec a3 a4).bind fun b5=>bif !b5 then bif (F0s s.2.1)==(F0s c0.2.1) then bif (F0s s.2.2.1)==(F0s c0.2.2.1) then bif (F0s s.2.2.2.1)==(F0s c0.2.2.2.1) then bif (F0s s.2.2.2.2.1)==(F0s c0.2.2.2.2.1) then bif (F0s s.2.2.2.2.2)==(F0s c0.2.2.2.2.2) then If (.done s.2) else IR else IR else IR else IR else IR else (fk (s.1,ae .i64 ((ae .i64 ((ae .i64 (2*s.1))+1))+1),s.2)).bind fun a6=>If (.next (ae .i64 ((ae .i64 ((ae .i64 (2*s.1))+1))+1),a6)) else (aI s.2.2.2.2.1 (ae .i64 ((ae .i64 (2*s.1))+1))).bind fun a7=>(aI s.2.2.2.2.1 s.1).bind fun a8=>(ec a7 a8).bind fun b9=>bif !b9 then bif (F0s s.2.1)==(F0s c0.2.1) then bif (F0s s.2.2.1)==(F0s c0.2.2.1) then bif (F0s s.2.2.2.1)==(F0s c0.2.2.2.1) then bif (F0s s.2.2.2.2.1)==(F0s c0.2.2.2.2.1) then bif (F0s s.2.2.2.2.2)==(F0s c0.2.2.2.2.2) then If (.done s.2) else IR else IR else IR else IR else IR else (fk (s.1,ae .i64 ((ae .i64 (2*s.1))+1),s.2)).bind fun yJ=>If (.next (ae .i64 ((ae .i64 (2*s.1))+1),yJ)) else (aI s.2.2.2.2.1 (ae .i64 ((ae .i64 (2*s.1))+1))).bind fun zt=>(aI s.2.2.2.2.1 s.1).bind fun a12=>(ec zt a12).bind fun b13=>bif !b13 then bif (F0s s.2.1)==(F0s c0.2.1) then bif (F0s s.2.2.1)==(F0s c0.2.2.1) then bif (F0s s.2.2.2.1)==(F0s c0.2.2.2.1) then bif (F0s s.2.2.2.2.1)==(F0s c0.2.2.2.2.1) then bif (F0s s.2.2.2.2.2)==(F0s c0.2.2.2.2.2) then If (.done s.2) else IR else IR else IR else IR else IR else (fk (s.1,ae .i64 ((ae .i64 (2*s.1))+1),s.2)).bind fun SQ=>If (.next (ae .i64 ((ae .i64 (2*s.1))+1),SQ))
def lQ (a:Bm):Option akO:=ax (jt a) a
def UX:dP:=⟨[.i,.l [.i .i64],.l [.b],.l [.i .i64],.l [.i .i64,.i .i64,.i .i64,.i .i64,.i .i64],.l [.i .i64]],[.agg [.own 0 NE,.own 1 NE,.own 2 NE,.own 3 NE,.own 4 NE],.int .i64 0],[.arr [.i .i64] [],.arr [.b] [],.arr [.i .i64] [],.arr [.i .i64,.i .i64,.i .i64,.i .i64,.i .i64] [],.arr [.i .i64] []],[.l [.i .i64],.l [.b],.l [.i .i64],.l [.i .i64,.i .i64,.i .i64,.i .i64,.i .i64],.l [.i .i64]],.cu [],[.arr [.i .i64] [],.arr [.b] [],.arr [.i .i64] [],.arr [.i .i64,.i .i64,.i .i64,.i .i64,.i .i64] [],.arr [.i .i64] []],fun a=>lQ a⟩
theorem Sb:jn aO 253 UX:=jn.of Qd (wd:=NE) (cx:=(iT aD [(161,Ow)] [(251,Ak),(251,Al)] [] [])) (gG.make ⟨yI,trivial⟩ ⟨rG,rH,trivial⟩ trivial) (fun a=>by kernel_rfl)
def pF (p0:aM) (p1:Int×Int) (p2:Int×Int):Option aM:=(lz p0).bind fun r0=>(aI r0.aj p1.1).bind fun n1=>(aI r0.bv n1).bind fun a2=>(nY (n1,r0.af.aB,r0.af.be,r0.af.bi,cj r0.bv n1 (p2.1,p2.2,a2.2.2),r0.aj)).bind fun a3=>(lQ a3).bind fun a4=>If (aM.mk (bc.mk a4.1 a4.2.1 a4.2.2.1) a4.2.2.2.1 a4.2.2.2.2)
def apk:bA:=⟨ay.cons (Arg.agg dw) (ay.cons (Arg.agg (cH.row iF)) (ay.one (Arg.agg (cH.row iF)))),Arg.agg dw,fun a=>pF a.1 a.2.1 a.2.2,.na,NE⟩
theorem acI:aG aO 217 apk:=aG.of abm (cx:=(iT aD [(73,c73),(73,Sa)] [(254,Jv),(253,Ox),(254,Oz),(253,UX)] [] [])) rfl (gG.make ⟨FG,Bo,trivial⟩ ⟨Cu,HR,HS,Sb,trivial⟩ trivial) (fun a=>by kernel_rfl)
def fT (p0:bc):Option Bool:=bif PP (0<(ut (F0s p0.bi))) then (aI p0.bi (ae .i64 ((ut (F0s p0.bi)) -1))).bind fun n0=>(aI p0.aB n0).bind fun n1=>If (PP (n1<1000000)) else If NE
def ak2:bA:=⟨ay.one (Arg.agg ga),Arg.bool,fun a=>fT a,.pure,NE⟩
theorem Qq:aG aO 218 ak2:=Oc abn aD [] trivial
def te (p0:bc):Option (bc×(Int×Int)):=(mR p0).bind fun r0=>(aI r0.bi (ae .i64 ((ut (F0s r0.bi)) -1))).bind fun n1=>(fP r0.bi 0 (ae .i64 ((ut (F0s r0.bi)) -1))).bind fun _=>(aI r0.aB n1).bind fun n3=>(aI r0.aB n1).bind fun _=>(aI r0.be n1).bind fun _=>(aI (cj r0.aB n1 (ae .i64 (n3+1))) n1).bind fun n6=>If (bc.mk (cj r0.aB n1 (ae .i64 (n3+1))) (cj r0.be n1 M2) (r0.bi.take ((ae .i64 ((ut (F0s r0.bi)) -1)).toNat)),n1,n6)
def apl:bA:=⟨ay.one (Arg.agg ga),Arg.cu (ay.cons (Arg.agg ga) (ay.one (Arg.agg (cH.row iF)))),fun a=>te a,.na,NE⟩
theorem acJ:aG aO 255 apl:=Oc abN aD [(125,UU),(125,LG)] ⟨DY,Bn,trivial⟩
def lR (a:((List Int)×(List Bool)×(List Int)×Int×Int×jo×(List Int))):Option G2:=(aI a.2.2.2.2.2.1 a.2.2.2.2.1).bind fun a0=>(aI a.2.2.2.2.2.1 a.2.2.2.1).bind fun a1=>(aI a.2.2.2.2.2.1 a.2.2.2.1).bind fun _=>(aI (cj a.2.2.2.2.2.1 a.2.2.2.1 a0) a.2.2.2.2.1).bind fun _=>(aI (cj (cj a.2.2.2.2.2.1 a.2.2.2.1 a0) a.2.2.2.2.1 a1) a.2.2.2.1).bind fun a4=>(aI (cj (cj a.2.2.2.2.2.1 a.2.2.2.1 a0) a.2.2.2.2.1 a1) a.2.2.2.2.1).bind fun a5=>(aI a.2.2.2.2.2.2 a4.2.2.2.1).bind fun _=>(aI (cj a.2.2.2.2.2.2 a4.2.2.2.1 a.2.2.2.1) a5.2.2.2.1).bind fun _=>bif ((cj (cj a.2.2.2.2.2.1 a.2.2.2.1 a0) a.2.2.2.2.1 a1).length)==(F0s a.2.2.2.2.2.1) then bif ((cj (cj a.2.2.2.2.2.2 a4.2.2.2.1 a.2.2.2.1) a5.2.2.2.1 a.2.2.2.2.1).length)==(F0s a.2.2.2.2.2.2) then If (cj (cj a.2.2.2.2.2.1 a.2.2.2.1 a0) a.2.2.2.2.1 a1,cj (cj a.2.2.2.2.2.2 a4.2.2.2.1 a.2.2.2.1) a5.2.2.2.1 a.2.2.2.2.1) else IR else IR
def UY:dP:=⟨[.l [.i .i64],.l [.b],.l [.i .i64],.i,.i,.l [.i .i64,.i .i64,.i .i64,.i .i64,.i .i64],.l [.i .i64]],[.agg [.sl [.i .i64] [],.sl [.b] [],.sl [.i .i64] [],.own 0 NE,.own 1 NE],.int .i64 0,.int .i64 0],[.arr [.i .i64,.i .i64,.i .i64,.i .i64,.i .i64] [],.arr [.i .i64] []],[.l [.i .i64,.i .i64,.i .i64,.i .i64,.i .i64],.l [.i .i64]],.cu [],[.arr [.i .i64,.i .i64,.i .i64,.i .i64,.i .i64] [],.arr [.i .i64] []],fun a=>lR a⟩
theorem Sc:jn aO 251 UY:=jn.of Jn (wd:=NE) (cx:=(iT aD [] [] [] [])) (gG.make trivial trivial trivial) (fun a=>by kernel_rfl)
def gC (c0:aoS) (s:aoT):Option (Step aoT ack):=bif PP (0<s.1) then (aI s.2.1 s.1).bind fun a0=>(aI s.2.1 (ae .i64 (v6 (ae .i64 (s.1-1)) 2))).bind fun a1=>(ec a0 a1).bind fun b2=>bif b2 then (lR (s.2.2.2.1,s.2.2.2.2.1,s.2.2.2.2.2,s.1,ae .i64 (v6 (ae .i64 (s.1-1)) 2),s.2.1,s.2.2.1)).bind fun a3=>If (.next (ae .i64 (v6 (ae .i64 (s.1-1)) 2),a3.1,a3.2,s.2.2.2)) else bif (F0s s.2.1)==(F0s c0.2.2.2.2.1) then bif (F0s s.2.2.1)==(F0s c0.2.2.2.2.2) then If (.done (s.1,s.2.1,s.2.2.1)) else IR else IR else bif (F0s s.2.1)==(F0s c0.2.2.2.2.1) then bif (F0s s.2.2.1)==(F0s c0.2.2.2.2.2) then If (.done (s.1,s.2.1,s.2.2.1)) else IR else IR
def nZ (a:aoS):Option ack:=ax (gC a) (a.2.2.2.1,a.2.2.2.2.1,a.2.2.2.2.2,a.1,a.2.1,a.2.2.1)
def UZ:dP:=⟨[.l [.i .i64],.l [.b],.l [.i .i64],.i,.l [.i .i64,.i .i64,.i .i64,.i .i64,.i .i64],.l [.i .i64]],[.agg [.sl [.i .i64] [],.sl [.b] [],.sl [.i .i64] [],.own 0 NE,.own 1 NE],.int .i64 0],[.arr [.i .i64,.i .i64,.i .i64,.i .i64,.i .i64] [],.arr [.i .i64] []],[.i,.l [.i .i64,.i .i64,.i .i64,.i .i64,.i .i64],.l [.i .i64]],.int .i64 0,[.arr [.i .i64,.i .i64,.i .i64,.i .i64,.i .i64] [],.arr [.i .i64] []],fun a=>nZ a⟩
theorem Sd:jn aO 254 UZ:=jn.of Jo (wd:=M2) (cx:=(iT aD [(161,Ow)] [(251,Ak),(251,Al),(251,UY)] [] [])) (gG.make ⟨yI,trivial⟩ ⟨rG,rH,Sc,trivial⟩ trivial) (fun a=>by kernel_rfl)
def eC (p0:aM) (p1:Int×Int) (p2:Int):Option (aM×(Int×Int)):=(lz p0).bind fun r0=>(te r0.af).bind fun a1=>(bq r0.bv [(p1.1,p1.2,p2,a1.2)]).bind fun l2=>(aI r0.aj a1.2.1).bind fun _=>(nZ (a1.1.aB,a1.1.be,a1.1.bi,ae .i64 ((ut (F0s l2)) -1),l2,cj r0.aj a1.2.1 (ae .i64 ((ut (F0s l2)) -1)))).bind fun a4=>If (aM.mk a1.1 a4.2.1 a4.2.2,a1.2)
def ak3:bA:=⟨ay.cons (Arg.agg dw) (ay.cons (Arg.agg (cH.row iF)) (ay.one (Arg.int .i64))),Arg.cu (ay.cons (Arg.agg dw) (ay.one (Arg.agg (cH.row iF)))),fun a=>eC a.1 a.2.1 a.2.2,.na,NE⟩
theorem Qr:aG aO 219 ak3:=aG.of abo (cx:=(iT aD [(73,c73),(73,Sa),(255,apl)] [(254,Jv),(254,Oz),(254,UZ)] [] [])) rfl (gG.make ⟨FG,Bo,acJ,trivial⟩ ⟨Cu,HS,Sd,trivial⟩ trivial) (fun a=>by kernel_rfl)
def cP (s:Zt6):Option (Step Zt6 (aP×Int)):=match s with |(a,b,d,e,f,g,h,i,j,k,l,m,n,o,q,r,t,u,v,w,x,y,z,A,B,C,D)=>bif PP (a<(ut (F0s g))) then (aI g a).bind fun a0=>(nm (aP.mk (b,d) (Field.mk e) (bG.mk f g) (aM.mk (bc.mk h i j) k l) m) a0.1).bind fun n1=>(oX (Field.mk n) a0.2 (b,d)).bind fun a2=>bif a2.2 then bif PP (0<=n1) then (aI m n1).bind fun a3=>(pF (aM.mk (bc.mk y z A) B C) a3.2 a2.1).bind fun r4=>(aI m n1).bind fun a5=>(bq D [a5]).bind fun l6=>bif !a2.2 then bif PP (0<=n1) then (aI m n1).bind fun a7=>(jc r4 a7.2).bind fun r8=>bif !a2.2 then If (.next (ae .i64 (a+1),b,d,e,f,g,h,i,j,k,l,m,n,o,q,r,t,u,v,w,x,r8.af.aB,r8.af.be,r8.af.bi,r8.bv,r8.aj,l6)) else bif PP (0<=n1) then If (.next (ae .i64 (a+1),b,d,e,f,g,h,i,j,k,l,m,n,o,q,r,t,u,v,w,x,r8.af.aB,r8.af.be,r8.af.bi,r8.bv,r8.aj,l6)) else (fT r8.af).bind fun b9=>bif !b9 then If (.done (hY,18)) else (eC r8 a2.1 a0.1).bind fun yJ=>(bq l6 [(a0.1,yJ.2)]).bind fun l11=>If (.next (ae .i64 (a+1),b,d,e,f,g,h,i,j,k,l,m,n,o,q,r,t,u,v,w,x,yJ.1.af.aB,yJ.1.af.be,yJ.1.af.bi,yJ.1.bv,yJ.1.aj,l11)) else bif !a2.2 then If (.next (ae .i64 (a+1),b,d,e,f,g,h,i,j,k,l,m,n,o,q,r,t,u,v,w,x,r4.af.aB,r4.af.be,r4.af.bi,r4.bv,r4.aj,l6)) else bif PP (0<=n1) then If (.next (ae .i64 (a+1),b,d,e,f,g,h,i,j,k,l,m,n,o,q,r,t,u,v,w,x,r4.af.aB,r4.af.be,r4.af.bi,r4.bv,r4.aj,l6)) else (fT r4.af).bind fun b12=>bif !b12 then If (.done (hY,18)) else (eC r4 a2.1 a0.1).bind fun Qs=>(bq l6 [(a0.1,Qs.2)]).bind fun l14=>If (.next (ae .i64 (a+1),b,d,e,f,g,h,i,j,k,l,m,n,o,q,r,t,u,v,w,x,Qs.1.af.aB,Qs.1.af.be,Qs.1.af.bi,Qs.1.bv,Qs.1.aj,l14)) else bif !a2.2 then If (.next (ae .i64 (a+1),b,d,e,f,g,h,i,j,k,l,m,n,o,q,r,t,u,v,w,x,r4.af.aB,r4.af.be,r4.af.bi,r4.bv,r4.aj,l6)) else bif PP (0<=n1) then If (.next (ae .i64 (a+1),b,d,e,f,g,h,i,j,k,l,m,n,o,q,r,t,u,v,w,x,r4.af.aB,r4.af.be,r4.af.bi,r4.bv,r4.aj,l6)) else (fT r4.af).bind fun b15=>bif !b15 then If (.done (hY,18)) else (eC r4 a2.1 a0.1).bind fun Ke=>(bq l6 [(a0.1,Ke.2)]).bind fun l17=>If (.next (ae .i64 (a+1),b,d,e,f,g,h,i,j,k,l,m,n,o,q,r,t,u,v,w,x,Ke.1.af.aB,Ke.1.af.be,Ke.1.af.bi,Ke.1.bv,Ke.1.aj,l17)) else bif !a2.2 then bif PP (0<=n1) then (aI m n1).bind fun a18=>(jc (aM.mk (bc.mk y z A) B C) a18.2).bind fun SS=>bif !a2.2 then If (.next (ae .i64 (a+1),b,d,e,f,g,h,i,j,k,l,m,n,o,q,r,t,u,v,w,x,SS.af.aB,SS.af.be,SS.af.bi,SS.bv,SS.aj,D)) else bif PP (0<=n1) then If (.next (ae .i64 (a+1),b,d,e,f,g,h,i,j,k,l,m,n,o,q,r,t,u,v,w,x,SS.af.aB,SS.af.be,SS.af.bi,SS.bv,SS.aj,D)) else (fT SS.af).bind fun b20=>bif !b20 then If (.done (hY,18)) else (eC SS a2.1 a0.1).bind fun a21=>(bq D [(a0.1,a21.2)]).bind fun l22=>If (.next (ae .i64 (a+1),b,d,e,f,g,h,i,j,k,l,m,n,o,q,r,t,u,v,w,x,a21.1.af.aB,a21.1.af.be,a21.1.af.bi,a21.1.bv,a21.1.aj,l22)) else bif !a2.2 then If (.next (ae .i64 (a+1),(b,d,e,f,g,h,i,j,k,l,m,n,o,q,r,t,u,v,w,x,y,z,A,B,C,D))) else bif PP (0<=n1) then If (.next (ae .i64 (a+1),(b,d,e,f,g,h,i,j,k,l,m,n,o,q,r,t,u,v,w,x,y,z,A,B,C,D))) else (fT (bc.mk y z A)).bind fun b23=>bif !b23 then If (.done (hY,18)) else (eC (aM.mk (bc.mk y z A) B C) a2.1 a0.1).bind fun a24=>(bq D [(a0.1,a24.2)]).bind fun l25=>If (.next (ae .i64 (a+1),b,d,e,f,g,h,i,j,k,l,m,n,o,q,r,t,u,v,w,x,a24.1.af.aB,a24.1.af.be,a24.1.af.bi,a24.1.bv,a24.1.aj,l25)) else bif !a2.2 then If (.next (ae .i64 (a+1),(b,d,e,f,g,h,i,j,k,l,m,n,o,q,r,t,u,v,w,x,y,z,A,B,C,D))) else bif PP (0<=n1) then If (.next (ae .i64 (a+1),(b,d,e,f,g,h,i,j,k,l,m,n,o,q,r,t,u,v,w,x,y,z,A,B,C,D))) else (fT (bc.mk y z A)).bind fun b26=>bif !b26 then If (.done (hY,18)) else (eC (aM.mk (bc.mk y z A) B C) a2.1 a0.1).bind fun a27=>(bq D [(a0.1,a27.2)]).bind fun l28=>If (.next (ae .i64 (a+1),b,d,e,f,g,h,i,j,k,l,m,n,o,q,r,t,u,v,w,x,a27.1.af.aB,a27.1.af.be,a27.1.af.bi,a27.1.bv,a27.1.aj,l28)) else bif !a2.2 then bif PP (0<=n1) then (aI m n1).bind fun a29=>(jc (aM.mk (bc.mk y z A) B C) a29.2).bind fun SU=>bif !a2.2 then If (.next (ae .i64 (a+1),b,d,e,f,g,h,i,j,k,l,m,n,o,q,r,t,u,v,w,x,SU.af.aB,SU.af.be,SU.af.bi,SU.bv,SU.aj,D)) else bif PP (0<=n1) then If (.next (ae .i64 (a+1),b,d,e,f,g,h,i,j,k,l,m,n,o,q,r,t,u,v,w,x,SU.af.aB,SU.af.be,SU.af.bi,SU.bv,SU.aj,D)) else (fT SU.af).bind fun b31=>bif !b31 then If (.done (hY,18)) else (eC SU a2.1 a0.1).bind fun a32=>(bq D [(a0.1,a32.2)]).bind fun l33=>If (.next (ae .i64 (a+1),b,d,e,f,g,h,i,j,k,l,m,n,o,q,r,t,u,v,w,x,a32.1.af.aB,a32.1.af.be,a32.1.af.bi,a32.1.bv,a32.1.aj,l33)) else bif !a2.2 then If (.next (ae .i64 (a+1),(b,d,e,f,g,h,i,j,k,l,m,n,o,q,r,t,u,v,w,x,y,z,A,B,C,D))) else bif PP (0<=n1) then If (.next (ae .i64 (a+1),(b,d,e,f,g,h,i,j,k,l,m,n,o,q,r,t,u,v,w,x,y,z,A,B,C,D))) else (fT (bc.mk y z A)).bind fun b34=>bif !b34 then If (.done (hY,18)) else (eC (aM.mk (bc.mk y z A) B C) a2.1 a0.1).bind fun a35=>(bq D [(a0.1,a35.2)]).bind fun l36=>If (.next (ae .i64 (a+1),b,d,e,f,g,h,i,j,k,l,m,n,o,q,r,t,u,v,w,x,a35.1.af.aB,a35.1.af.be,a35.1.af.bi,a35.1.bv,a35.1.aj,l36)) else bif !a2.2 then If (.next (ae .i64 (a+1),(b,d,e,f,g,h,i,j,k,l,m,n,o,q,r,t,u,v,w,x,y,z,A,B,C,D))) else bif PP (0<=n1) then If (.next (ae .i64 (a+1),(b,d,e,f,g,h,i,j,k,l,m,n,o,q,r,t,u,v,w,x,y,z,A,B,C,D))) else (fT (bc.mk y z A)).bind fun b37=>bif !b37 then If (.done (hY,18)) else (eC (aM.mk (bc.mk y z A) B C) a2.1 a0.1).bind fun a38=>(bq D [(a0.1,a38.2)]).bind fun l39=>If (.next (ae .i64 (a+1),b,d,e,f,g,h,i,j,k,l,m,n,o,q,r,t,u,v,w,x,a38.1.af.aB,a38.1.af.be,a38.1.af.bi,a38.1.bv,a38.1.aj,l39)) else If (.done (aP.mk (t,u) (Field.mk v) (bG.mk w x) (aM.mk (bc.mk y z A) B C) D,0))
def kJ (p0:aP) (p1:Field):Option (aP×Int):=(lA p0).bind fun r0=>(mQ p1).bind fun r1=>ax cP (0,p0.ci.1,p0.ci.2,p0.ii.am,p0.ai.aL,p0.ai.ce,p0.aa.af.aB,p0.aa.af.be,p0.aa.af.bi,p0.aa.bv,p0.aa.aj,p0.io,p1.am,0,0,0,r0.ci.1,r0.ci.2,r1.am,r0.ai.aL,r0.ai.ce,r0.aa.af.aB,r0.aa.af.be,r0.aa.af.bi,r0.aa.bv,r0.aa.aj,[])
def apm:bA:=⟨ay.cons (Arg.agg bV) (ay.one (Arg.agg bR)),Arg.cu (ay.cons (Arg.agg bV) (ay.one (Arg.int .i64))),fun a=>kJ a.1 a.2,.na,NE⟩
theorem acL:aG aO 152 apm:=Oc aaJ aD [(29,c29),(29,UW),(71,c71),(71,UR),(215,akY),(99,c99),(217,apk),(216,ak0),(218,ak2),(219,ak3)] ⟨Ju,DZ,Jr,DW,Qo,Oy,acI,Qp,Qq,Qr,trivial⟩
def rj (s:(Int×Int×cd×Int×Int)):Option (Step (Int×Int×cd×Int×Int) Bool):=bif PP (s.1<(ut (F0s s.2.2.1))) then (aI s.2.2.1 s.1).bind fun a0=>bif (a0.2.1==s.2.2.2.1)&&(a0.2.2==s.2.2.2.2) then If (.done M2) else If (.next (ae .i64 (s.1+1),s.2)) else If (.done NE)
def rI (p0:bG) (p1:Int×Int):Option Bool:=ax rj (0,p0.aL,p0.ce,p1)
def acM:bA:=⟨ay.cons (Arg.agg gV) (ay.one (Arg.agg (cH.row iF))),Arg.bool,fun a=>rI a.1 a.2,.pure,NE⟩
theorem Jw:aG aO 104 acM:=Oc aae aD [] trivial
def sd (p0:Int×Int):Option Bool:=bif PP (0<=p0.1) then bif PP (p0.1<=65535) then bif PP (0<=p0.2) then bif PP (p0.2<=65535) then If (p0.1 !=p0.2) else If NE else If NE else If NE else If NE
def ak4:bA:=⟨ay.one (Arg.agg (cH.row iF)),Arg.bool,fun a=>sd a,.pure,NE⟩
theorem Qt:aG aO 158 ak4:=Oc aaN aD [] trivial
def fF (s:(Int×Int×Int×cd×Int×Int×Int)):Option (Step (Int×Int×Int×cd×Int×Int×Int) akQ):=bif PP (s.2.1<s.1) then (aI s.2.2.2.1 s.2.1).bind fun a0=>bif (a0.2.1==s.2.2.2.2.2.1)&&(a0.2.2==s.2.2.2.2.2.2) then If (.done (.done 8)) else If (.next (s.1,ae .i64 (s.2.1+1),s.2.2)) else If (.done (.next (ae .i64 (s.1+1),s.2.2.1,s.2.2.2.1)))
def oa (s:R9):Option akQ:=bif PP (s.1<(ut (F0s s.2.2))) then (aI s.2.2 s.1).bind fun a0=>(sd a0.2).bind fun b1=>bif !b1 then If (.done 8) else bif PP (a0.1<0) then If (.done 8) else bif PP (s.2.1<=a0.1) then If (.done 8) else bif PP (0<s.1) then (aI s.2.2 (ae .i64 (s.1-1))).bind fun a2=>bif PP (a0.1<=a2.1) then If (.done 8) else ax fF (s.1,0,s.2.1,s.2.2,a0) else ax fF (s.1,0,s.2.1,s.2.2,a0) else If (.done 0)
def qg (p0:bG):Option Int:=bif PP (200<(ut (F0s p0.ce))) then If 8 else bif PP (p0.aL<0) then If 8 else bif PP (1000000<p0.aL) then If 8 else ax oa (0,p0.aL,p0.ce)
def c96:bA:=⟨ay.one (Arg.agg gV),Arg.int .i64,fun a=>qg a,.pure,NE⟩
theorem U0:aG aO 96 c96:=Oc akI aD [(158,ak4)] ⟨Qt,trivial⟩
def yL (p0:bG) (p1:Int×Int):Option (bG×Int×Int):=(qg p0).bind fun n0=>bif n0 !=0 then If (bG.mk 0 [],0,8) else (sd p1).bind fun b1=>bif !b1 then If (bG.mk 0 [],0,8) else (rI p0 p1).bind fun b2=>bif b2 then If (bG.mk 0 [],0,14) else bif (ut (F0s p0.ce))==200 then If (bG.mk 0 [],0,18) else bif p0.aL==1000000 then If (bG.mk 0 [],0,18) else (oV p0).bind fun r3=>(bq r3.ce [(p0.aL,p1)]).bind fun l4=>If (bG.mk (ae .i64 (r3.aL+1)) l4,p0.aL,0)
def apn:bA:=⟨ay.cons (Arg.agg gV) (ay.one (Arg.agg (cH.row iF))),Arg.cu (ay.cons (Arg.agg gV) (ay.cons (Arg.int .i64) (ay.one (Arg.int .i64)))),fun a=>yL a.1 a.2,.na,NE⟩
theorem acN:aG aO 220 apn:=Oc abp aD [(96,c96),(158,ak4),(104,acM),(72,c72),(72,acz)] ⟨U0,Qt,Jw,Ov,Jt,trivial⟩
def jX (p0:aP) (p1:Int×Int):Option (aP×Int×Int):=(yL p0.ai p1).bind fun a0=>bif a0.2.2 !=0 then If (hY,0,a0.2.2) else (lA p0).bind fun r1=>(oX p0.ii p1 p0.ci).bind fun a2=>bif !a2.2 then If (aP.mk r1.ci r1.ii a0.1 r1.aa r1.io,a0.2.1,0) else (fT p0.aa.af).bind fun b3=>bif !b3 then If (hY,0,18) else (eC p0.aa a2.1 a0.2.1).bind fun a4=>(bq r1.io [(a0.2.1,a4.2)]).bind fun l5=>If (aP.mk r1.ci r1.ii a0.1 a4.1 l5,a0.2.1,0)
def apo:bA:=⟨ay.cons (Arg.agg bV) (ay.one (Arg.agg (cH.row iF))),Arg.cu (ay.cons (Arg.agg bV) (ay.cons (Arg.int .i64) (ay.one (Arg.int .i64)))),fun a=>jX a.1 a.2,.na,NE⟩
theorem acO:aG aO 153 apo:=Oc aaK aD [(220,apn),(29,c29),(29,UW),(99,c99),(218,ak2),(219,ak3)] ⟨acN,Ju,DZ,Oy,Qq,Qr,trivial⟩
def dO (s:aoE):Option (Step aoE Zt3):=match s with |(a,b,d,e,f,g,h,i,j,k,l,m,n,o,q,r)=>bif PP (b<(ut (F0s a))) then (aI a b).bind fun a0=>(rI (bG.mk j k) a0).bind fun b1=>bif b1 then If (.next (a,ae .i64 (b+1),(d,e,f,g,h,i,j,k,l,m,n,o,q,r))) else (aI a b).bind fun a2=>(jX (aP.mk (g,h) (Field.mk i) (bG.mk j k) (aM.mk (bc.mk l m n) o q) r) a2).bind fun a3=>bif a3.2.2 !=0 then If (.done (.done (hY,a3.2.2))) else If (.next (a,ae .i64 (b+1),d,e,f,a3.1.ci.1,a3.1.ci.2,a3.1.ii.am,a3.1.ai.aL,a3.1.ai.ce,a3.1.aa.af.aB,a3.1.aa.af.be,a3.1.aa.af.bi,a3.1.aa.bv,a3.1.aa.aj,a3.1.io)) else If (.done (.done (aP.mk (g,h) (Field.mk i) (bG.mk j k) (aM.mk (bc.mk l m n) o q) r,0)))
def dy (s:aoD):Option Zt3:=match s with |(a,b,d,e,f,g,h,i,j,k,l,m,n,o,q,r,t,u,v,w,x,y,z,A,B,C,D,E)=>bif PP (b<(ut (F0s h))) then (aI h b).bind fun a0=>(Bp a a0.2).bind fun b1=>bif !b1 then (aI h b).bind fun a2=>(rZ (aP.mk (u,v) (Field.mk w) (bG.mk x y) (aM.mk (bc.mk z A B) C D) E) a2.1).bind fun r3=>If (.next (a,ae .i64 (b+1),d,e,f,g,h,i,j,k,l,m,n,o,q,r,t,r3.ci.1,r3.ci.2,r3.ii.am,r3.ai.aL,r3.ai.ce,r3.aa.af.aB,r3.aa.af.be,r3.aa.af.bi,r3.aa.bv,r3.aa.aj,r3.io)) else If (.next (a,ae .i64 (b+1),(d,e,f,g,h,i,j,k,l,m,n,o,q,r,t,u,v,w,x,y,z,A,B,C,D,E))) else (vU (Field.mk w) (Field.mk o)).bind fun b4=>bif !b4 then (kJ (aP.mk (u,v) (Field.mk w) (bG.mk x y) (aM.mk (bc.mk z A B) C D) E) (Field.mk o)).bind fun a5=>bif a5.2 !=0 then If (.done (hY,a5.2)) else ax dO (a,0,q,r,t,a5.1.ci.1,a5.1.ci.2,a5.1.ii.am,a5.1.ai.aL,a5.1.ai.ce,a5.1.aa.af.aB,a5.1.aa.af.be,a5.1.aa.af.bi,a5.1.aa.bv,a5.1.aa.aj,a5.1.io) else ax dO (a,0,(q,r,t,u,v,w,x,y,z,A,B,C,D,E))
def kK (p0:aP) (p1:Field) (p2:List (Int×Int)):Option (aP×Int):=(lA p0).bind fun r0=>ax dy (p2,0,p0.ci.1,p0.ci.2,p0.ii.am,p0.ai.aL,p0.ai.ce,p0.aa.af.aB,p0.aa.af.be,p0.aa.af.bi,p0.aa.bv,p0.aa.aj,p0.io,p1.am,0,0,0,r0.ci.1,r0.ci.2,r0.ii.am,r0.ai.aL,r0.ai.ce,r0.aa.af.aB,r0.aa.af.be,r0.aa.af.bi,r0.aa.bv,r0.aa.aj,r0.io)
def c92:bA:=⟨ay.cons (Arg.agg bV) (ay.cons (Arg.agg bR) (ay.one (Arg.sl iF))),Arg.cu (ay.cons (Arg.agg bV) (ay.one (Arg.int .i64))),fun a=>kK a.1 a.2.1 a.2.2,.na,NE⟩
theorem ak5:aG aO 92 c92:=Oc akG aD [(29,c29),(29,UW),(150,apc),(151,apf),(19,c19),(152,apm),(104,acM),(153,apo)] ⟨Ju,DZ,acA,acD,ak1,acL,Jw,acO,trivial⟩
def mi (p0:aP) (p1:Field) (p2:List Int):Option (bD×Int):=(vT p1 p0.ci p2).bind fun r0=>(uU r0).bind fun l1=>(kK p0 p1 l1).bind fun a2=>bif a2.2 !=0 then If (bD.mk hY (bu.mk [] []),a2.2) else If (bD.mk a2.1 r0,0)
def c39:bA:=⟨ay.cons (Arg.agg bV) (ay.cons (Arg.agg bR) (ay.one (Arg.sl ki))),Arg.cu (ay.cons (Arg.agg gd) (ay.one (Arg.int .i64))),fun a=>mi a.1 a.2.1 a.2.2,.na,NE⟩
theorem ak6:aG aO 39 c39:=Oc aj4 aD [(91,c91),(53,c53),(92,c92)] ⟨akX,UT,ak5,trivial⟩
def Dg (p0:Field) (p1:Int×Int):Option (bD×Int):=(gf p0).bind fun n0=>bif n0 !=0 then (gf p0).bind fun n1=>If (bD.mk hY (bu.mk [] []),n1) else (nj p1).bind fun n2=>bif n2 !=0 then If (bD.mk hY (bu.mk [] []),8) else (De p0 p1).bind fun r3=>(Df p0).bind fun l4=>(mi r3 p0 l4).bind fun a5=>If a5
def c95:bA:=⟨ay.cons (Arg.agg bR) (ay.one (Arg.agg (cH.row iF))),Arg.cu (ay.cons (Arg.agg gd) (ay.one (Arg.int .i64))),fun a=>Dg a.1 a.2,.na,NE⟩
theorem ak7:aG aO 95 c95:=Oc akH aD [(88,c88),(66,c66),(156,ao5),(157,ao6),(39,c39)] ⟨UQ,Ou,acq,acr,ak6,trivial⟩
def Dh:Option bD:=(LF 2).bind fun a0=>(Dg (Field.mk [(1,0,2),(2,6,-1),(5,0,0)]) a0).bind fun a1=>If a1.1
def c43:bA:=⟨ay.nil,Arg.agg gd,fun _=>Dh,.na,NE⟩
theorem ak8:aG aO 43 c43:=Oc aj5 aD [(22,c22),(95,c95)] ⟨akR,ak7,trivial⟩
def kL (p0:Int):Option Int:=bif PP (p0<0) then If (ae .u64 (0- (ae .u64 p0))) else If (ae .u64 p0)
def acP:bA:=⟨ay.one (Arg.int .i64),Arg.int .u64,fun a=>kL a,.pure,NE⟩
theorem Jx:aG aO 166 acP:=Oc aaV aD [] trivial
def rl (s:(Int×Int)):Option (Step (Int×Int) Int):=bif PP (0<s.2) then bif s.2==0 then IR else If (.next (s.2,AC s.1 s.2)) else If (.done s.1)
def uW (p0:Int) (p1:Int):Option Int:=ax rl (p0,p1)
def ak9:bA:=⟨ay.cons (Arg.int .u64) (ay.one (Arg.int .u64)),Arg.int .u64,fun a=>uW a.1 a.2,.pure,NE⟩
theorem Qu:aG aO 165 ak9:=Oc aaU aD [] trivial
def gg (p0:Int×Int):Option Int:=bif PP (p0.2<1) then If 8 else bif p0.1==(-9223372036854775808) then If 8 else (kL p0.1).bind fun n0=>(uW (ae .u64 p0.2) n0).bind fun n1=>bif PP (1<n1) then If 8 else If 0
def LH:bA:=⟨ay.one (Arg.agg (cH.row iF)),Arg.int .i64,fun a=>gg a,.pure,NE⟩
theorem vV:aG aO 106 LH:=Oc aag aD [(166,acP),(165,ak9)] ⟨Jx,Qu,trivial⟩
def ob (p0:Int):Option Bool:=bif PP (p0<(-1048576)) then If M2 else If (PP (1048576<p0))
def apq:bA:=⟨ay.one (Arg.int .i64),Arg.bool,fun a=>ob a,.pure,NE⟩
theorem acQ:aG aO 108 apq:=Oc aah aD [] trivial
def kf (p0:Int×Int×Int):Option Int:=bif PP (p0.1<0) then If 8 else bif PP (65535<p0.1) then If 8 else (ob p0.2.1).bind fun b0=>bif b0 then If 8 else (ob p0.2.2).bind fun b1=>bif b1 then If 8 else If 0
def c58:bA:=⟨ay.one (Arg.agg (cH.row eb)),Arg.int .i64,fun a=>kf a,.pure,NE⟩
theorem OA:aG aO 58 c58:=Oc akg aD [(108,apq)] ⟨acQ,trivial⟩
def iy (s:UP):Option (Step UP (Step UP Int)):=bif PP (s.2.2.1<s.2.1) then (aI s.1 s.2.2.1).bind fun a0=>bif PP (0<s.2.2.1) then (aI s.2.2.2 (ae .i64 (s.2.2.1-1))).bind fun a1=>bif PP (a0.1<=a1.1) then If (.done (.done 32)) else If (.next (s.1,s.2.1,ae .i64 (s.2.2.1+1),s.2.2.2)) else If (.next (s.1,s.2.1,ae .i64 (s.2.2.1+1),s.2.2.2)) else If (.done (.done 0))
def lD (s:UP):Option (Step UP Int):=bif PP (s.2.2.1<s.2.1) then (aI s.1 s.2.2.1).bind fun a0=>(kf a0).bind fun n1=>bif n1 !=0 then If (.done n1) else If (.next (s.1,s.2.1,ae .i64 (s.2.2.1+1),s.2.2.2)) else ax iy (s.2.2.2,ut (F0s s.2.2.2),0,s.2.2.2)
def dQ (p0:Field):Option Int:=bif PP (64<(ut (F0s p0.am))) then If 4 else ax lD (p0.am,ut (F0s p0.am),0,p0.am)
def c57:bA:=⟨ay.one (Arg.agg bR),Arg.int .i64,fun a=>dQ a,.pure,NE⟩
theorem Cv:aG aO 57 c57:=Oc akf aD [(58,c58)] ⟨OA,trivial⟩
def sf (p0:Int×Int):Option Bool:=bif PP (0<=(if p0.2<p0.1 then p0.2 else p0.1)) then bif PP ((if p0.2>p0.1 then p0.2 else p0.1)<=65535) then If (p0.1 !=p0.2) else If NE else If NE
def ala:bA:=⟨ay.one (Arg.agg (cH.row iF)),Arg.bool,fun a=>sf a,.pure,NE⟩
theorem Qv:aG aO 181 ala:=Oc aa4 aD [] trivial
def pG (s:aoU):Option (Step aoU Int):=bif PP (s.2.2.2.1<s.2.2.1) then (aI s.2.1 s.2.2.2.1).bind fun a0=>(sf a0.2).bind fun b1=>bif !b1 then If (.done 8) else (K3 s.2.2.2.2.2.2 [a0.2.1,a0.2.2]).bind fun b2=>bif b2 then If (.done 8) else bif PP (a0.1<=s.1) then If (.done 8) else bif PP (s.2.2.2.2.1<=a0.1) then If (.done 8) else (K4 s.2.2.2.2.2.2 [a0.2.1,a0.2.2]).bind fun l3=>If (.next (a0.1,s.2.1,s.2.2.1,ae .i64 (s.2.2.2.1+1),s.2.2.2.2.1,s.2.2.2.2.2.1,l3)) else If (.done 0)
def oY (p0:bG):Option Int:=bif PP (200<(ut (F0s p0.ce))) then If 8 else bif PP (p0.aL<0) then If 8 else bif PP (1000000<p0.aL) then If 8 else ax pG (-1,p0.ce,ut (F0s p0.ce),0,p0.aL,p0.ce,[])
def acR:bA:=⟨ay.one (Arg.agg gV),Arg.int .i64,fun a=>oY a,.pure,NE⟩
theorem Jy:aG aO 126 acR:=Oc aar aD [(181,ala)] ⟨Qv,trivial⟩
def gi (s:((List Bool)×Bool×Int×Int)):Option (Step ((List Bool)×Bool×Int×Int) Int):=bif PP (s.2.2.2<s.2.2.1) then (aI s.1 s.2.2.2).bind fun b0=>bif s.2.1==b0 then If (.done s.2.2.2) else If (.next (s.1,s.2.1,s.2.2.1,ae .i64 (s.2.2.2+1))) else If (.done (-1))
def oc (p0:List Bool) (p1:Bool):Option Int:=ax gi (p0,p1,ut (F0s p0),0)
def apr:bA:=⟨ay.cons (Arg.sl kb) (ay.one Arg.bool),Arg.int .i64,fun a=>oc a.1 a.2,.pure,NE⟩
theorem acS:aG aO 275 apr:=Oc abZ aD [] trivial
def eg (p0:List Bool) (p1:Bool):Option Bool:=(oc p0 p1).bind fun n0=>If (PP (0<=n0))
def aps:bA:=⟨ay.cons (Arg.sl kb) (ay.one Arg.bool),Arg.bool,fun a=>eg a.1 a.2,.pure,NE⟩
theorem acT:aG aO 237 aps:=Oc abD aD [(275,apr)] ⟨acS,trivial⟩
def gb (s:((List Int)×Int×Int×(List Int)×(List Bool)×(List Int))):Option (Step ((List Int)×Int×Int×(List Int)×(List Bool)×(List Int)) aoW):=bif PP (s.2.2.1<s.2.1) then (aI s.1 s.2.2.1).bind fun n0=>bif PP (n0<0) then If (.done (.done 8)) else bif PP (1000000<n0) then If (.done (.done 8)) else bif n0==0 then (aI s.2.2.2.2.1 s.2.2.1).bind fun b1=>bif b1 then If (.done (.done 8)) else If (.next (s.1,s.2.1,ae .i64 (s.2.2.1+1),s.2.2.2)) else If (.next (s.1,s.2.1,ae .i64 (s.2.2.1+1),s.2.2.2)) else If (.done (.done 0))
def pH (c0:(List Bool)) (s:aoV):Option aoW:=match s with |(a,b,d,e,f,g,h,i)=>bif PP (d<b) then (aI a d).bind fun n0=>bif PP (n0<0) then bif (F0s i)==(F0s i) then bif (F0s i)==(F0s c0) then bif (F0s i)==(F0s c0) then bif PP (0<=d) then If (.done 8) else (eg i NE).bind fun b1=>bif b1 then If (.done 8) else ax gb (e,ut (F0s e),0,e,f,g) else IR else IR else IR else bif PP (h<=n0) then bif (F0s i)==(F0s i) then bif (F0s i)==(F0s c0) then bif (F0s i)==(F0s c0) then bif PP (0<=d) then If (.done 8) else (eg i NE).bind fun b2=>bif b2 then If (.done 8) else ax gb (e,ut (F0s e),0,e,f,g) else IR else IR else IR else (aI i n0).bind fun b3=>bif b3 then bif (F0s i)==(F0s i) then bif (F0s i)==(F0s c0) then bif (F0s i)==(F0s c0) then bif PP (0<=d) then If (.done 8) else (eg i NE).bind fun b4=>bif b4 then If (.done 8) else ax gb (e,ut (F0s e),0,e,f,g) else IR else IR else IR else (aI i n0).bind fun _=>bif ((cj i n0 M2).length)==(F0s i) then If (.next (a,b,ae .i64 (d+1),e,f,g,h,cj i n0 M2)) else IR else bif (F0s i)==(F0s c0) then bif (F0s i)==(F0s c0) then (eg i NE).bind fun b6=>bif b6 then If (.done 8) else ax gb (e,ut (F0s e),0,e,f,g) else IR else IR
def oZ (p0:bc):Option Int:=bif PP ((ut (F0s p0.aB))<1) then If 8 else bif PP (200<(ut (F0s p0.aB))) then If 8 else bif (ut (F0s p0.be)) !=(ut (F0s p0.aB)) then If 8 else (bP p0.be).bind fun l0=>ax (pH l0) (p0.bi,ut (F0s p0.bi),0,p0.aB,p0.be,p0.bi,ut (F0s p0.aB),l0)
def acU:bA:=⟨ay.one (Arg.agg ga),Arg.int .i64,fun a=>oZ a,.pure,NE⟩
theorem Jz:aG aO 182 acU:=aG.of aa5 (cx:=(iT aD [(212,bA.clone kb),(237,aps)] [] [(187,Ot),(83,XB),(236,Zg)] [])) rfl (gG.make ⟨rX,acT,trivial⟩ trivial ⟨DV,Ct,abC,trivial⟩) (fun a=>by kernel_rfl)
def vW (p0:Int×Int) (p1:Int×Int):Option Int:=(gg p0).bind fun n0=>(gg p1).bind fun n1=>If (if n1>n0 then n1 else n0)
def apt:bA:=⟨ay.cons (Arg.agg (cH.row iF)) (ay.one (Arg.agg (cH.row iF))),Arg.int .i64,fun a=>vW a.1 a.2,.pure,NE⟩
theorem acV:aG aO 174 apt:=Oc aaZ aD [(106,LH)] ⟨vV,trivial⟩
def mD (p0:Int):Option Bool:=If (p0 !=p0)
def apu:bA:=⟨ay.one (Arg.int .i64),Arg.bool,fun a=>mD a,.pure,NE⟩
theorem acW:aG aO 229 apu:=Oc abw aD [] trivial
def iU (p0:Int) (p1:Int):Option Int:=(mD p0).bind fun b0=>(mD p1).bind fun b1=>bif b0 then bif b1 then If 0 else If (-1) else bif b1 then If 1 else bif PP (p0<p1) then If (-1) else bif PP (p1<p0) then If 1 else If 0
def alb:bA:=⟨ay.cons (Arg.int .i64) (ay.one (Arg.int .i64)),Arg.int .i64,fun a=>iU a.1 a.2,.pure,NE⟩
theorem Qw:aG aO 175 alb:=Oc aa0 aD [(229,apu)] ⟨acW,trivial⟩
def fb (p0:Int) (p1:Int):Option (Int×Int):=If (ae .u64 ((ae .u64 ((ae .u64 ((nF .u64 p0 32)*(nF .u64 p1 32)))+(nF .u64 (ae .u64 ((ae .u64 ((nF .u64 p0 32)*(zY .u64 p1 4294967295)))+(nF .u64 (ae .u64 ((zY .u64 p0 4294967295)*(zY .u64 p1 4294967295))) 32))) 32)))+(nF .u64 (ae .u64 ((zY .u64 (ae .u64 ((ae .u64 ((nF .u64 p0 32)*(zY .u64 p1 4294967295)))+(nF .u64 (ae .u64 ((zY .u64 p0 4294967295)*(zY .u64 p1 4294967295))) 32))) 4294967295)+(ae .u64 ((zY .u64 p0 4294967295)*(nF .u64 p1 32))))) 32)),ae .u64 (p0*p1))
def acX:bA:=⟨ay.cons (Arg.int .u64) (ay.one (Arg.int .u64)),Arg.cu (ay.cons (Arg.int .u64) (ay.one (Arg.int .u64))),fun a=>fb a.1 a.2,.pure,NE⟩
theorem JA:aG aO 140 acX:=Oc aay aD [] trivial
def qh (p0:Int) (p1:Int):Option (Bool×Int×Int):=(kL p0).bind fun n0=>(kL p1).bind fun n1=>(fb n0 n1).bind fun a2=>If (!((PP (p0<0))==(PP (p1<0))),a2)
def apv:bA:=⟨ay.cons (Arg.int .i64) (ay.one (Arg.int .i64)),Arg.agg (cH.row xQ),fun a=>qh a.1 a.2,.pure,NE⟩
theorem acY:aG aO 177 apv:=Oc aa2 aD [(166,acP),(140,acX)] ⟨Jx,JA,trivial⟩
def lS (p0:Int):Option Bool:=If (p0 !=p0)
def apw:bA:=⟨ay.one (Arg.int .u64),Arg.bool,fun a=>lS a,.pure,NE⟩
theorem acZ:aG aO 268 apw:=Oc abS aD [] trivial
def iz (p0:Int) (p1:Int):Option Int:=(lS p0).bind fun b0=>(lS p1).bind fun b1=>bif b0 then bif b1 then If 0 else If (-1) else bif b1 then If 1 else bif PP (p0<p1) then If (-1) else bif PP (p1<p0) then If 1 else If 0
def apx:bA:=⟨ay.cons (Arg.int .u64) (ay.one (Arg.int .u64)),Arg.int .i64,fun a=>iz a.1 a.2,.pure,NE⟩
theorem ac0:aG aO 230 apx:=Oc abx aD [(268,apw)] ⟨acZ,trivial⟩
def pI (p0:Bool×Int×Int) (p1:Bool×Int×Int):Option Int:=(iz p0.2.1 p1.2.1).bind fun n0=>bif n0 !=0 then If n0 else (iz p0.2.2 p1.2.2).bind fun n1=>If n1
def apy:bA:=⟨ay.cons (Arg.agg (cH.row xQ)) (ay.one (Arg.agg (cH.row xQ))),Arg.int .i64,fun a=>pI a.1 a.2,.pure,NE⟩
theorem ac1:aG aO 176 apy:=Oc aa1 aD [(230,apx)] ⟨ac0,trivial⟩
def yM (p0:Int×Int) (p1:Int×Int):Option (Int×Int):=(vW p0 p1).bind fun n0=>bif n0 !=0 then If (0,n0) else bif !((PP (p0.1<0))==(PP (p1.1<0))) then (iU p0.1 p1.1).bind fun n1=>If (n1,0) else (qh p0.1 p1.2).bind fun a2=>(qh p1.1 p0.2).bind fun a3=>(pI a2 a3).bind fun n4=>bif PP (p0.1<0) then If (ae .i64 (0-n4),0) else If (n4,0)
def apz:bA:=⟨ay.cons (Arg.agg (cH.row iF)) (ay.one (Arg.agg (cH.row iF))),Arg.cu (ay.cons (Arg.int .i64) (ay.one (Arg.int .i64))),fun a=>yM a.1 a.2,.pure,NE⟩
theorem ac2:aG aO 121 apz:=Oc aap aD [(174,apt),(175,alb),(177,apv),(176,apy)] ⟨acV,Qw,acY,ac1,trivial⟩
def cmp_isNaN_int (p0:Int):Option Bool:=If (p0 !=p0)
def apA:bA:=⟨ay.one (Arg.int .i64),Arg.bool,fun a=>cmp_isNaN_int a,.pure,NE⟩
theorem ac3:aG aO 168 apA:=Oc aaW aD [] trivial
def eA (p0:Int) (p1:Int):Option Int:=(cmp_isNaN_int p0).bind fun b0=>(cmp_isNaN_int p1).bind fun b1=>bif b0 then bif b1 then If 0 else If (-1) else bif b1 then If 1 else bif PP (p0<p1) then If (-1) else bif PP (p1<p0) then If 1 else If 0
def LJ:bA:=⟨ay.cons (Arg.int .i64) (ay.one (Arg.int .i64)),Arg.int .i64,fun a=>eA a.1 a.2,.pure,NE⟩
theorem vX:aG aO 111 LJ:=Oc aaj aD [(168,apA)] ⟨ac3,trivial⟩
def tR (s:(Int×(List Int)×Int×Int)):Option (Step (Int×(List Int)×Int×Int) Int):=bif PP (s.2.2.2<s.2.2.1) then (aI s.2.1 s.2.2.2).bind fun n0=>bif n0 !=s.1 then If (.done n0) else If (.next (s.1,s.2.1,s.2.2.1,ae .i64 (s.2.2.2+1))) else If (.done s.1)
def sg (p0:List Int):Option Int:=ax tR (0,p0,ut (F0s p0),0)
def alc:bA:=⟨ay.one (Arg.sl ki),Arg.int .i64,fun a=>sg a,.pure,NE⟩
theorem Qx:aG aO 238 alc:=Oc abE aD [] trivial
def cA (p0:Int×Int×Int×Int×Int) (p1:Int×Int×Int×Int×Int):Option Int:=(yM (p0.1,p0.2.1) (p1.1,p1.2.1)).bind fun a0=>(eA p0.2.2.1 p1.2.2.1).bind fun n1=>(sg [a0.1,n1]).bind fun n2=>If n2
def ac4:bA:=⟨ay.cons (Arg.agg (cH.row j9)) (ay.one (Arg.agg (cH.row j9))),Arg.int .i64,fun a=>cA a.1 a.2,.pure,NE⟩
theorem JB:aG aO 183 ac4:=Oc aa6 aD [(121,apz),(111,LJ),(238,alc)] ⟨ac2,vX,Qx,trivial⟩
def iJ (s:aoM):Option (Step aoM aoP):=bif PP (s.2.2.1<s.2.1) then (aI s.1 s.2.2.1).bind fun a0=>(gg (a0.1,a0.2.1)).bind fun n1=>bif n1 !=0 then If (.done (.done 8)) else bif PP (a0.2.2.1<0) then If (.done (.done 8)) else bif PP (1000000<a0.2.2.1) then If (.done (.done 8)) else (K3 s.2.2.2.2.2.2.2.2 [a0.2.2.1]).bind fun b2=>bif b2 then If (.done (.done 8)) else (K4 s.2.2.2.2.2.2.2.2 [a0.2.2.1]).bind fun l3=>bif PP (0<s.2.2.1) then (aI s.2.2.2.2.2.2.1 (ae .i64 (v6 (ae .i64 (s.2.2.1-1)) 2))).bind fun a4=>(cA a0 a4).bind fun n5=>bif PP (n5<0) then If (.done (.done 8)) else If (.next (s.1,s.2.1,ae .i64 (s.2.2.1+1),s.2.2.2.1,s.2.2.2.2.1,s.2.2.2.2.2.1,s.2.2.2.2.2.2.1,s.2.2.2.2.2.2.2.1,l3)) else If (.next (s.1,s.2.1,ae .i64 (s.2.2.1+1),s.2.2.2.1,s.2.2.2.2.1,s.2.2.2.2.2.1,s.2.2.2.2.2.2.1,s.2.2.2.2.2.2.2.1,l3)) else If (.done (.done 0))
def kE (s:aoO):Option aoP:=bif PP (s.2.2.1<s.2.1) then (aI s.1 s.2.2.1).bind fun n0=>(aI s.2.2.2.2.1 s.2.2.1).bind fun b1=>bif !b1 then bif n0 !=(-1) then If (.done 8) else If (.next (s.1,s.2.1,ae .i64 (s.2.2.1+1),s.2.2.2)) else bif PP (n0<0) then If (.done 8) else bif PP ((ut (F0s s.2.2.2.2.2.2.1))<=n0) then If (.done 8) else (aI s.2.2.2.2.2.2.1 n0).bind fun a2=>(aI s.2.2.2.1 s.2.2.1).bind fun n3=>bif !((a2.2.2.2.1==s.2.2.1)&&(a2.2.2.2.2==n3)) then If (.done 8) else If (.next (s.1,s.2.1,ae .i64 (s.2.2.1+1),s.2.2.2)) else ax iJ (s.2.2.2.2.2.2.1,ut (F0s s.2.2.2.2.2.2.1),0,s.2.2.2.1,s.2.2.2.2.1,s.2.2.2.2.2.1,s.2.2.2.2.2.2.1,s.2.2.2.2.2.2.2,[])
def kg (p0:aM):Option Int:=(oZ p0.af).bind fun n0=>bif n0 !=0 then If 8 else bif (ut (F0s p0.aj)) !=(ut (F0s p0.af.be)) then If 8 else bif (ut (F0s p0.bv)) !=(ae .i64 ((ut (F0s p0.af.be)) - (ut (F0s p0.af.bi)))) then If 8 else ax kE (p0.aj,ut (F0s p0.aj),0,p0.af.aB,p0.af.be,p0.af.bi,p0.bv,p0.aj)
def U1:bA:=⟨ay.one (Arg.agg dw),Arg.int .i64,fun a=>kg a,.pure,NE⟩
theorem D0:aG aO 127 U1:=Oc aas aD [(182,acU),(106,LH),(183,ac4)] ⟨Jz,vV,JB,trivial⟩
def tT (p0:Int×Int×Int) (p1:Int):Option Int:=(eA p0.1 p1).bind fun n0=>If n0
def apB:bA:=⟨ay.cons (Arg.agg (cH.row eb)) (ay.one (Arg.int .i64)),Arg.int .i64,fun a=>tT a.1 a.2,.pure,NE⟩
theorem ac5:aG aO 240 apB:=Oc abG aD [(111,LJ)] ⟨vX,trivial⟩
def hZ (s:G3):Option UO:=bif PP (s.2.2.2.1<s.2.2.2.2) then (aI s.1 (ae .i64 (nF .u64 (ae .u64 (ae .i64 (s.2.2.2.1+s.2.2.2.2))) 1))).bind fun a0=>(tT a0 s.2.1).bind fun n1=>bif PP (n1<0) then If (.next (s.1,s.2.1,s.2.2.1,ae .i64 ((ae .i64 (nF .u64 (ae .u64 (ae .i64 (s.2.2.2.1+s.2.2.2.2))) 1))+1),s.2.2.2.2)) else If (.next (s.1,s.2.1,s.2.2.1,s.2.2.2.1,ae .i64 (nF .u64 (ae .u64 (ae .i64 (s.2.2.2.1+s.2.2.2.2))) 1))) else bif PP (s.2.2.2.1<s.2.2.1) then (aI s.1 s.2.2.2.1).bind fun a2=>(tT a2 s.2.1).bind fun n3=>If (.done (s.2.2.2.1,n3==0)) else If (.done (s.2.2.2.1,NE))
def c6 (p0:List (Int×Int×Int)) (p1:Int) (_:Unit):Option (Int×Bool):=ax hZ (p0,p1,ut (F0s p0),0,ut (F0s p0))
def LK:bA:=⟨ay.cons (Arg.sl eb) (ay.cons (Arg.int .i64) (ay.one (Arg.eL 240 ay.nil))),Arg.cu (ay.cons (Arg.int .i64) (ay.one Arg.bool)),fun a=>c6 a.1 a.2.1 a.2.2,.pure,NE⟩
theorem LL:aG aO 109 LK:=Oc Ji aD [(240,apB)] ⟨ac5,trivial⟩
def iV (p0:Field) (p1:Int):Option (Int×Int×Int):=(c6 p0.am p1 ()).bind fun a0=>bif !a0.2 then If (-1,0,0) else (aI p0.am a0.1).bind fun a1=>If a1
def ac6:bA:=⟨ay.cons (Arg.agg bR) (ay.one (Arg.int .i64)),Arg.agg (cH.row eb),fun a=>iV a.1 a.2,.pure,NE⟩
theorem JC:aG aO 185 ac6:=Oc aa8 aD [(109,LK)] ⟨LL,trivial⟩
def o3 (p0:Int×Int×Int) (p1:Int×Int×Int) (p2:Int×Int):Option Int:=(kf p0).bind fun n0=>(kf p1).bind fun n1=>(gg p2).bind fun n2=>bif (if n2>(if n1>n0 then n1 else n0) then n2 else if n1>n0 then n1 else n0) !=0 then If (if n2>(if n1>n0 then n1 else n0) then n2 else if n1>n0 then n1 else n0) else bif p0.1==p1.1 then If 2 else If 0
def ac7:bA:=⟨ay.cons (Arg.agg (cH.row eb)) (ay.cons (Arg.agg (cH.row eb)) (ay.one (Arg.agg (cH.row iF)))),Arg.int .i64,fun a=>o3 a.1 a.2.1 a.2.2,.pure,NE⟩
theorem JD:aG aO 227 ac7:=Oc abu aD [(58,c58),(106,LH)] ⟨OA,vV,trivial⟩
def mj (s:(Int×Int×Int×Int×Int×Int×Int×Int×Int)):Option (Step (Int×Int×Int×Int×Int×Int×Int×Int×Int) (Int×Int)):=bif PP (s.2.2.2.2.1<2) then bif s.2.2.2.2.1==0 then (fb (ae .u64 s.1) (ae .u64 s.2.1)).bind fun a0=>bif PP (s.1<0) then bif PP (s.2.1<0) then (oT s.2.2.2.2.2.2.2.2 a0.2 0).bind fun a1=>If (.next (s.1,s.2.1,s.2.2.1,s.2.2.2.1,ae .i64 (s.2.2.2.2.1+1),s.2.2.2.2.2.1,s.2.2.2.2.2.2.1,ae .i64 ((ae .i64 (s.2.2.2.2.2.2.2.1+(ae .i64 ((ae .i64 ((ae .i64 a0.1) -s.2.1)) -s.1))))+(ae .i64 a1.2)),a1.1)) else (oT s.2.2.2.2.2.2.2.2 a0.2 0).bind fun a2=>If (.next (s.1,s.2.1,s.2.2.1,s.2.2.2.1,ae .i64 (s.2.2.2.2.1+1),s.2.2.2.2.2.1,s.2.2.2.2.2.2.1,ae .i64 ((ae .i64 (s.2.2.2.2.2.2.2.1+(ae .i64 ((ae .i64 a0.1) -s.2.1))))+(ae .i64 a2.2)),a2.1)) else bif PP (s.2.1<0) then (oT s.2.2.2.2.2.2.2.2 a0.2 0).bind fun a3=>If (.next (s.1,s.2.1,s.2.2.1,s.2.2.2.1,ae .i64 (s.2.2.2.2.1+1),s.2.2.2.2.2.1,s.2.2.2.2.2.2.1,ae .i64 ((ae .i64 (s.2.2.2.2.2.2.2.1+(ae .i64 ((ae .i64 a0.1) -s.1))))+(ae .i64 a3.2)),a3.1)) else (oT s.2.2.2.2.2.2.2.2 a0.2 0).bind fun a4=>If (.next (s.1,s.2.1,s.2.2.1,s.2.2.2.1,ae .i64 (s.2.2.2.2.1+1),s.2.2.2.2.2.1,s.2.2.2.2.2.2.1,ae .i64 ((ae .i64 (s.2.2.2.2.2.2.2.1+(ae .i64 a0.1)))+(ae .i64 a4.2)),a4.1)) else bif s.2.2.2.2.1==1 then (fb (ae .u64 s.2.2.1) (ae .u64 s.2.2.2.1)).bind fun a5=>bif PP (s.2.2.1<0) then bif PP (s.2.2.2.1<0) then (oT s.2.2.2.2.2.2.2.2 a5.2 0).bind fun a6=>If (.next (s.1,s.2.1,s.2.2.1,s.2.2.2.1,ae .i64 (s.2.2.2.2.1+1),s.2.2.2.2.2.1,s.2.2.2.2.2.2.1,ae .i64 ((ae .i64 (s.2.2.2.2.2.2.2.1+(ae .i64 ((ae .i64 ((ae .i64 a5.1) -s.2.2.2.1)) -s.2.2.1))))+(ae .i64 a6.2)),a6.1)) else (oT s.2.2.2.2.2.2.2.2 a5.2 0).bind fun a7=>If (.next (s.1,s.2.1,s.2.2.1,s.2.2.2.1,ae .i64 (s.2.2.2.2.1+1),s.2.2.2.2.2.1,s.2.2.2.2.2.2.1,ae .i64 ((ae .i64 (s.2.2.2.2.2.2.2.1+(ae .i64 ((ae .i64 a5.1) -s.2.2.2.1))))+(ae .i64 a7.2)),a7.1)) else bif PP (s.2.2.2.1<0) then (oT s.2.2.2.2.2.2.2.2 a5.2 0).bind fun a8=>If (.next (s.1,s.2.1,s.2.2.1,s.2.2.2.1,ae .i64 (s.2.2.2.2.1+1),s.2.2.2.2.2.1,s.2.2.2.2.2.2.1,ae .i64 ((ae .i64 (s.2.2.2.2.2.2.2.1+(ae .i64 ((ae .i64 a5.1) -s.2.2.1))))+(ae .i64 a8.2)),a8.1)) else (oT s.2.2.2.2.2.2.2.2 a5.2 0).bind fun a9=>If (.next (s.1,s.2.1,s.2.2.1,s.2.2.2.1,ae .i64 (s.2.2.2.2.1+1),s.2.2.2.2.2.1,s.2.2.2.2.2.2.1,ae .i64 ((ae .i64 (s.2.2.2.2.2.2.2.1+(ae .i64 a5.1)))+(ae .i64 a9.2)),a9.1)) else IR else If (.done s.2.2.2.2.2.2.2)
def vY (p0:Int×Int×Int×Int):Option (Int×Int):=ax mj (p0.1,p0.2.1,p0.2.2.1,p0.2.2.2,0,0,0,0,0)
def apC:bA:=⟨ay.one (Arg.agg (cH.row aoC)),Arg.agg (cH.row kiu),fun a=>vY a,.pure,NE⟩
theorem ac8:aG aO 267 apC:=Oc abR aD [(140,acX),(289,bA.Lb)] ⟨JA,UN,trivial⟩
def lE (p0:Int×Int×Int) (p1:Int×Int×Int) (p2:Int×Int):Option Int:=(vY (ae .i64 (p0.2.1-p1.2.1),p2.2,ae .i64 (p0.2.2-p1.2.2),p2.1)).bind fun a0=>bif !((a0.1==0)&&(a0.2==0)) then bif PP (a0.1<0) then If (-1) else If 1 else (iU p0.2.2 p1.2.2).bind fun n1=>(eA p1.1 p0.1).bind fun n2=>(sg [n1,n2]).bind fun n3=>If n3
def ald:bA:=⟨ay.cons (Arg.agg (cH.row eb)) (ay.cons (Arg.agg (cH.row eb)) (ay.one (Arg.agg (cH.row iF)))),Arg.int .i64,fun a=>lE a.1 a.2.1 a.2.2,.pure,NE⟩
theorem Qy:aG aO 228 ald:=Oc abv aD [(267,apC),(175,alb),(111,LJ),(238,alc)] ⟨ac8,Qw,vX,Qx,trivial⟩
def xR (p0:Bool×Int×Int) (p1:Int) (p2:Int):Option ((Int×Int)×Int):=bif PP (0<p0.2.1) then If ((0,0),16) else bif PP (9223372036854775807<p0.2.2) then If ((0,0),16) else bif PP (0<p1) then If ((0,0),16) else bif PP (9223372036854775807<p2) then If ((0,0),16) else bif p0.1 then If ((ae .i64 (0- (ae .i64 p0.2.2)),ae .i64 p2),0) else If ((ae .i64 p0.2.2,ae .i64 p2),0)
def apD:bA:=⟨ay.cons (Arg.agg (cH.row xQ)) (ay.cons (Arg.int .u64) (ay.one (Arg.int .u64))),Arg.cu (ay.cons (Arg.agg (cH.row iF)) (ay.one (Arg.int .i64))),fun a=>xR a.1 a.2.1 a.2.2,.pure,NE⟩
theorem ac9:aG aO 294 apD:=Oc ab' aD [] trivial
def vZ (p0:Int) (p1:Int):Option ((Int×Int)×Int):=bif p1==0 then If ((0,0),26) else (kL p0).bind fun n0=>(kL p1).bind fun n1=>(uW n0 n1).bind fun n2=>(kL p0).bind fun n3=>bif n2==0 then IR else (kL p1).bind fun n4=>bif n2==0 then IR else (xR (!((PP (p0<0))==(PP (p1<0))),0,ae .u64 (v6 n3 n2)) 0 (ae .u64 (v6 n4 n2))).bind fun a5=>If a5
def apE:bA:=⟨ay.cons (Arg.int .i64) (ay.one (Arg.int .i64)),Arg.cu (ay.cons (Arg.agg (cH.row iF)) (ay.one (Arg.int .i64))),fun a=>vZ a.1 a.2,.pure,NE⟩
theorem ac':aG aO 276 apE:=Oc ab0 aD [(166,acP),(165,ak9),(294,apD)] ⟨Jx,Qu,ac9,trivial⟩
def xS (p0:Int×Int×Int) (p1:Int×Int×Int):Option ((Int×Int)×Int):=(o3 p0 p1 (0,1)).bind fun n0=>bif n0 !=0 then If ((0,0),n0) else bif p0.2.2==p1.2.2 then If ((0,0),6) else (vZ (ae .i64 (p0.2.1-p1.2.1)) (ae .i64 (p1.2.2-p0.2.2))).bind fun a1=>If a1
def apF:bA:=⟨ay.cons (Arg.agg (cH.row eb)) (ay.one (Arg.agg (cH.row eb))),Arg.cu (ay.cons (Arg.agg (cH.row iF)) (ay.one (Arg.int .i64))),fun a=>xS a.1 a.2,.pure,NE⟩
theorem ada:aG aO 239 apF:=Oc abF aD [(227,ac7),(276,apE)] ⟨JD,ac',trivial⟩
def rq (p0:Int×Int×Int) (p1:Int×Int×Int) (p2:Int×Int):Option ((Int×Int)×Bool×Int):=(o3 p0 p1 p2).bind fun n0=>bif n0 !=0 then If ((0,0),NE,n0) else (lE p1 p0 p2).bind fun n1=>bif PP (0<n1) then If (p2,M2,0) else bif PP (p1.2.2<=p0.2.2) then If ((0,0),NE,0) else (xS p0 p1).bind fun a2=>If (a2.1,a2.2==0,a2.2)
def apG:bA:=⟨ay.cons (Arg.agg (cH.row eb)) (ay.cons (Arg.agg (cH.row eb)) (ay.one (Arg.agg (cH.row iF)))),Arg.cu (ay.cons (Arg.agg (cH.row iF)) (ay.cons Arg.bool (ay.one (Arg.int .i64)))),fun a=>rq a.1 a.2.1 a.2.2,.pure,NE⟩
theorem adb:aG aO 184 apG:=Oc aa7 aD [(227,ac7),(228,ald),(239,apF)] ⟨JD,Qy,ada,trivial⟩
def o4 (p0:Field) (p1:Int×Int) (p2:Int×Int):Option ((Int×Int)×Bool×Int):=(iV p0 p1.2).bind fun a0=>(iV p0 p1.1).bind fun a1=>(rq a0 a1 p2).bind fun a2=>If a2
def ade:bA:=⟨ay.cons (Arg.agg bR) (ay.cons (Arg.agg (cH.row iF)) (ay.one (Arg.agg (cH.row iF)))),Arg.cu (ay.cons (Arg.agg (cH.row iF)) (ay.cons Arg.bool (ay.one (Arg.int .i64)))),fun a=>o4 a.1 a.2.1 a.2.2,.pure,NE⟩
theorem JE:aG aO 128 ade:=Oc aat aD [(185,ac6),(184,apG)] ⟨JC,adb,trivial⟩
def cR (s:Zt9):Option (Step Zt9 aoG):=bif PP (s.2.2.2.1<s.2.2.1) then (aI s.2.1 s.2.2.2.1).bind fun a0=>(o4 (Field.mk s.2.2.2.2.2.2.1) a0.2 (s.2.2.2.2.1,s.2.2.2.2.2.1)).bind fun a1=>bif a1.2.2 !=0 then If (.done (.done 8)) else bif !a1.2.1 then If (.next (s.1,s.2.1,s.2.2.1,ae .i64 (s.2.2.2.1+1),s.2.2.2.2)) else bif (ut (F0s s.1))==0 then If (.done (.done 8)) else (aI s.1 0).bind fun a2=>bif a2.1 !=a0.1 then If (.done (.done 8)) else (aI s.1 0).bind fun a3=>bif PP (a3.2.1<0) then If (.done (.done 8)) else bif PP (200<=a3.2.1) then If (.done (.done 8)) else (aI s.2.2.2.2.2.2.2.2.2.2.2.2.2.1 a3.2.1).bind fun n4=>bif PP (n4<0) then If (.done (.done 8)) else (aI s.2.2.2.2.2.2.2.2.2.2.2.2.2.1 a3.2.1).bind fun n5=>(aI s.2.2.2.2.2.2.2.2.2.2.2.2.1 n5).bind fun a6=>bif !((a6.1==a1.1.1)&&((a6.2.1==a1.1.2)&&((a6.2.2.1==a0.1)&&((a6.2.2.2.1==a3.2.1)&&(a6.2.2.2.2==a3.2.2))))) then If (.done (.done 8)) else (fP s.1 1 (ut (F0s s.1))).bind fun l7=>If (.next (l7,s.2.1,s.2.2.1,ae .i64 (s.2.2.2.1+1),s.2.2.2.2)) else bif PP (0<(ut (F0s s.1))) then If (.done (.done 8)) else If (.done (.done 0))
def eU (s:aoF):Option aoG:=match s with |(a,b,d,e,f,g,h,i,j,k,l,m,n,o)=>bif PP (b<a) then (aI o b).bind fun n0=>bif n0 !=0 then If (.done 8) else If (.next (a,ae .i64 (b+1),(d,e,f,g,h,i,j,k,l,m,n,o))) else bif (ut (F0s m)) !=200 then If (.done 8) else bif (ut (F0s l)) !=(ut (F0s n)) then If (.done 8) else ax cR (n,h,ut (F0s h),0,d,e,f,g,h,i,j,k,l,m,n)
def gj (p0:aP):Option Int:=(gg p0.ci).bind fun n0=>(dQ p0.ii).bind fun n1=>(oY p0.ai).bind fun n2=>(kg p0.aa).bind fun n3=>ax eU (ut ([n0,n1,n2,n3].length),0,p0.ci.1,p0.ci.2,p0.ii.am,p0.ai.aL,p0.ai.ce,p0.aa.af.aB,p0.aa.af.be,p0.aa.af.bi,p0.aa.bv,p0.aa.aj,p0.io,[n0,n1,n2,n3])
def c74:bA:=⟨ay.one (Arg.agg bV),Arg.int .i64,fun a=>gj a,.pure,NE⟩
theorem FH:aG aO 74 c74:=Oc akq aD [(106,LH),(57,c57),(126,acR),(127,U1),(128,ade)] ⟨vV,Cv,Jy,D0,JE,trivial⟩
def qK (p0:Int):Option Bool:=bif PP ((-1)<=p0) then If (PP (p0<=65535)) else If NE
def apH:bA:=⟨ay.one (Arg.int .i64),Arg.bool,fun a=>qK a,.pure,NE⟩
theorem adf:aG aO 131 apH:=Oc aau aD [] trivial
def gW (p0:bu) (p1:Int):Option Int:=bif PP (0<=(ae .i64 (p1- (ut (F0s p0.dJ))))) then (aI p0.aq (ae .i64 (p1- (ut (F0s p0.dJ))))).bind fun n0=>If n0 else (aI p0.dJ p1).bind fun n1=>If n1
def ale:bA:=⟨ay.cons (Arg.agg fR) (ay.one (Arg.int .i64)),Arg.int .i64,fun a=>gW a.1 a.2,.pure,NE⟩
theorem Qz:aG aO 132 ale:=Oc aav aD [] trivial
def ia (s:((List Int)×Int×Int×(List Int)×(List Int))):Option (Step ((List Int)×Int×Int×(List Int)×(List Int)) aoL):=bif PP (s.2.2.1<s.2.1) then (aI s.1 s.2.2.1).bind fun n0=>(gW (bu.mk s.2.2.2.1 s.2.2.2.2) (ae .i64 ((ae .i64 (2*s.2.2.1))+1))).bind fun n1=>(gW (bu.mk s.2.2.2.1 s.2.2.2.2) (ae .i64 ((ae .i64 (2*s.2.2.1))+2))).bind fun n2=>bif n0 !=n1 then bif n0 !=n2 then If (.done (.done (.done 8))) else bif PP (n0<0) then bif PP (0<=(if n2>n1 then n2 else n1)) then If (.done (.done (.done 8))) else If (.next (s.1,s.2.1,ae .i64 (s.2.2.1+1),s.2.2.2)) else If (.next (s.1,s.2.1,ae .i64 (s.2.2.1+1),s.2.2.2)) else bif PP (n0<0) then bif PP (0<=(if n2>n1 then n2 else n1)) then If (.done (.done (.done 8))) else If (.next (s.1,s.2.1,ae .i64 (s.2.2.1+1),s.2.2.2)) else If (.next (s.1,s.2.1,ae .i64 (s.2.2.1+1),s.2.2.2)) else If (.done (.done (.done 0)))
def ib (s:acf):Option aoL:=bif PP (s.2.2.1<s.2.1) then (aI s.1 s.2.2.1).bind fun n0=>(qK n0).bind fun b1=>bif !b1 then bif !(!(PP (0<=s.2.2.1))) then If (.done (.done 8)) else ax ia (s.2.2.2.2.1,ut (F0s s.2.2.2.2.1),0,s.2.2.2.1,s.2.2.2.2.1) else If (.next (s.1,s.2.1,ae .i64 (s.2.2.1+1),s.2.2.2)) else ax ia (s.2.2.2.2.1,ut (F0s s.2.2.2.2.1),0,s.2.2.2.1,s.2.2.2.2.1)
def lT (s:acf):Option aoK:=bif PP (s.2.2.1<s.2.1) then (aI s.1 s.2.2.1).bind fun n0=>bif !(!(p8 NE s.2.2.2.2.2 n0)) then bif !(!(PP (0<=s.2.2.1))) then If (.done 8) else ax ib (s.2.2.2.1,ut (F0s s.2.2.2.1),0,s.2.2.2.1,s.2.2.2.2.1,oL s.2.2.2.2.2 n0 (PP (0<=n0))) else If (.next (s.1,s.2.1,ae .i64 (s.2.2.1+1),s.2.2.2.1,s.2.2.2.2.1,oL s.2.2.2.2.2 n0 (PP (0<=n0)))) else ax ib (s.2.2.2.1,ut (F0s s.2.2.2.1),0,s.2.2.2)
def mn (p0:bu):Option Int:=bif PP ((ut (F0s p0.aq))<1) then If 8 else bif PP (64<(ut (F0s p0.aq))) then If 8 else bif (ut (F0s p0.dJ)) !=(ae .i64 ((ut (F0s p0.aq)) -1)) then If 8 else ax lT (p0.aq,ut (F0s p0.aq),0,p0.aq,p0.dJ,oL [] (-1) NE)
def c75:bA:=⟨ay.one (Arg.agg fR),Arg.int .i64,fun a=>mn a,.pure,NE⟩
theorem alf:aG aO 75 c75:=aG.of akr (cx:=(iT aD [(131,apH),(132,ale)] [] [(129,Uz),(130,R0),(187,Ot),(83,XB),(188,R2),(186,UA)] [])) rfl (gG.make ⟨adf,Qz,trivial⟩ trivial ⟨P7,Jj,DV,Ct,Jl,Qb,trivial⟩) (fun a=>by kernel_rfl)
def si (p0:Int) (p1:Int×Int×Int):Option Bool:=If (p0==p1.1)
def c79:bA:=⟨ay.cons (Arg.int .i64) (ay.one (Arg.agg (cH.row eb))),Arg.bool,fun a=>si a.1 a.2,.pure,NE⟩
theorem alg:aG aO 79 c79:=Oc akv aD [] trivial
def cm (s:(cd×(List Int)×Int×Int)):Option (Step (cd×(List Int)×Int×Int) Bool):=bif PP (s.2.2.2<s.2.2.1) then (aI s.2.1 s.2.2.2).bind fun n0=>(aI s.1 s.2.2.2).bind fun a1=>(si n0 a1).bind fun b2=>bif !b2 then If (.done NE) else If (.next (s.1,s.2.1,s.2.2.1,ae .i64 (s.2.2.2+1))) else If (.done M2)
def cI (p0:List Int) (p1:List (Int×Int×Int)) (_:Unit):Option Bool:=bif (ut (F0s p0)) !=(ut (F0s p1)) then If NE else ax cm (p1,p0,ut (F0s p0),0)
def U2:bA:=⟨ay.cons (Arg.sl ki) (ay.cons (Arg.sl eb) (ay.one (Arg.eL 79 ay.nil))),Arg.bool,fun a=>cI a.1 a.2.1 a.2.2,.pure,NE⟩
theorem Se:aG aO 78 U2:=Oc aku aD [(79,c79)] ⟨alg,trivial⟩
def tU (p0:Field) (p1:Int×Int):Option Int:=(dQ p0).bind fun n0=>bif n0 !=0 then If n0 else (gg p1).bind fun n1=>If n1
def apI:bA:=⟨ay.cons (Arg.agg bR) (ay.one (Arg.agg (cH.row iF))),Arg.int .i64,fun a=>tU a.1 a.2,.pure,NE⟩
theorem adg:aG aO 141 apI:=Oc aaz aD [(57,c57),(106,LH)] ⟨Cv,vV,trivial⟩
def sj (p0:Int×Int×Int) (p1:Int):Option Int:=(eA p0.1 p1).bind fun n0=>If n0
def apJ:bA:=⟨ay.cons (Arg.agg (cH.row eb)) (ay.one (Arg.int .i64)),Arg.int .i64,fun a=>sj a.1 a.2,.pure,NE⟩
theorem adh:aG aO 246 apJ:=Oc abH aD [(111,LJ)] ⟨vX,trivial⟩
def gX (s:G3):Option UO:=bif PP (s.2.2.2.1<s.2.2.2.2) then (aI s.1 (ae .i64 (nF .u64 (ae .u64 (ae .i64 (s.2.2.2.1+s.2.2.2.2))) 1))).bind fun a0=>(sj a0 s.2.1).bind fun n1=>bif PP (n1<0) then If (.next (s.1,s.2.1,s.2.2.1,ae .i64 ((ae .i64 (nF .u64 (ae .u64 (ae .i64 (s.2.2.2.1+s.2.2.2.2))) 1))+1),s.2.2.2.2)) else If (.next (s.1,s.2.1,s.2.2.1,s.2.2.2.1,ae .i64 (nF .u64 (ae .u64 (ae .i64 (s.2.2.2.1+s.2.2.2.2))) 1))) else bif PP (s.2.2.2.1<s.2.2.1) then (aI s.1 s.2.2.2.1).bind fun a2=>(sj a2 s.2.1).bind fun n3=>If (.done (s.2.2.2.1,n3==0)) else If (.done (s.2.2.2.1,NE))
def cV (p0:List (Int×Int×Int)) (p1:Int) (_:Unit):Option (Int×Bool):=ax gX (p0,p1,ut (F0s p0),0,ut (F0s p0))
def LM:bA:=⟨ay.cons (Arg.sl eb) (ay.cons (Arg.int .i64) (ay.one (Arg.eL 246 ay.nil))),Arg.cu (ay.cons (Arg.int .i64) (ay.one Arg.bool)),fun a=>cV a.1 a.2.1 a.2.2,.pure,NE⟩
theorem LN:aG aO 109 LM:=Oc Ji aD [(246,apJ)] ⟨adh,trivial⟩
def iW (p0:Field) (p1:Int):Option (Int×Bool):=(cV p0.am p1 ()).bind fun a0=>If a0
def alh:bA:=⟨ay.cons (Arg.agg bR) (ay.one (Arg.int .i64)),Arg.cu (ay.cons (Arg.int .i64) (ay.one Arg.bool)),fun a=>iW a.1 a.2,.pure,NE⟩
theorem QA:aG aO 203 alh:=Oc aba aD [(109,LM)] ⟨LN,trivial⟩
def lU (s:((List Int)×Int×Int×cd)):Option (Step ((List Int)×Int×Int×cd) Bool):=bif PP (s.2.2.1<s.2.1) then (aI s.1 s.2.2.1).bind fun n0=>(iW (Field.mk s.2.2.2) n0).bind fun a1=>bif a1.2 then If (.next (s.1,s.2.1,ae .i64 (s.2.2.1+1),s.2.2.2)) else bif !(n0==(-1)) then If (.done (!(PP (0<=s.2.2.1)))) else If (.next (s.1,s.2.1,ae .i64 (s.2.2.1+1),s.2.2.2)) else If (.done (!(PP (0<=(-1)))))
def pJ (p0:Field) (p1:List Int):Option Bool:=ax lU (p1,ut (F0s p1),0,p0.am)
def apK:bA:=⟨ay.cons (Arg.agg bR) (ay.one (Arg.sl ki)),Arg.bool,fun a=>pJ a.1 a.2,.pure,NE⟩
theorem adi:aG aO 142 apK:=aG.of aaA (cx:=(iT aD [(203,alh)] [] [(130,R0),(187,Ot),(83,XB),(188,R2),(202,YQ)] [])) rfl (gG.make ⟨QA,trivial⟩ trivial ⟨Jj,DV,Ct,Jl,aa',trivial⟩) (fun a=>by kernel_rfl)
def od (p0:Int×Int×Int) (p1:Int×Int×Int) (p2:Int×Int):Option (Bool×Int):=(o3 p0 p1 p2).bind fun n0=>bif n0 !=0 then If (NE,n0) else (lE p0 p1 p2).bind fun n1=>If (PP (0<n1),0)
def apL:bA:=⟨ay.cons (Arg.agg (cH.row eb)) (ay.cons (Arg.agg (cH.row eb)) (ay.one (Arg.agg (cH.row iF)))),Arg.cu (ay.cons Arg.bool (ay.one (Arg.int .i64))),fun a=>od a.1 a.2.1 a.2.2,.pure,NE⟩
theorem adj:aG aO 172 apL:=Oc aaX aD [(227,ac7),(228,ald)] ⟨JD,Qy,trivial⟩
def nq (p0:Field) (p1:Int×Int) (p2:Int) (p3:Int):Option Int:=bif PP ((if p3<p2 then p3 else p2)<0) then If (if p3>p2 then p3 else p2) else (iW p0 p2).bind fun a0=>(iW p0 p3).bind fun a1=>(aI p0.am a0.1).bind fun a2=>(aI p0.am a1.1).bind fun a3=>(od a2 a3 p1).bind fun a4=>bif a4.1 then If p2 else If p3
def apM:bA:=⟨ay.cons (Arg.agg bR) (ay.cons (Arg.agg (cH.row iF)) (ay.cons (Arg.int .i64) (ay.one (Arg.int .i64)))),Arg.int .i64,fun a=>nq a.1 a.2.1 a.2.2.1 a.2.2.2,.pure,NE⟩
theorem adk:aG aO 143 apM:=Oc aaB aD [(203,alh),(172,apL)] ⟨QA,adj,trivial⟩
def Cw (s:R8):Option (Step R8 (bu×Int)):=bif PP (0<=s.1) then (gW (bu.mk s.2.2.2.2.1 s.2.2.2.2.2) (ae .i64 ((ae .i64 (2*s.1))+1))).bind fun n0=>(gW (bu.mk s.2.2.2.2.1 s.2.2.2.2.2) (ae .i64 ((ae .i64 (2*s.1))+2))).bind fun n1=>(nq (Field.mk s.2.1) (s.2.2.1,s.2.2.2.1) n0 n1).bind fun n2=>(aI s.2.2.2.2.2 s.1).bind fun _=>If (.next (ae .i64 (s.1-1),s.2.1,s.2.2.1,s.2.2.2.1,s.2.2.2.2.1,cj s.2.2.2.2.2 s.1 n2)) else If (.done (bu.mk s.2.2.2.2.1 s.2.2.2.2.2,0))
def ic (s:R8):Option (Step R8 aoR):=bif PP (0<=s.1) then (gW (bu.mk s.2.2.2.2.1 s.2.2.2.2.2) (ae .i64 ((ae .i64 (2*s.1))+1))).bind fun n0=>(gW (bu.mk s.2.2.2.2.1 s.2.2.2.2.2) (ae .i64 ((ae .i64 (2*s.1))+2))).bind fun n1=>(nq (Field.mk s.2.1) (s.2.2.1,s.2.2.2.1) n0 n1).bind fun n2=>(aI s.2.2.2.2.2 s.1).bind fun _=>If (.next (ae .i64 (s.1-1),s.2.1,s.2.2.1,s.2.2.2.1,s.2.2.2.2.1,cj s.2.2.2.2.2 s.1 n2)) else If (.done (.done (bu.mk s.2.2.2.2.1 s.2.2.2.2.2,0)))
def lV (c0:Int) (c1:(List Int)) (s:aoQ):Option aoR:=bif PP (s.2.2.1<s.2.1) then (aI s.1 s.2.2.1).bind fun n0=>bif !(!(p8 NE s.2.2.2.2.2.2 n0)) then bif !(!(PP (0<=s.2.2.1))) then If (.done (bu.mk [] [],14)) else bif c0 !=0 then If (.done (bu.mk [] [],c0)) else (bP c1).bind fun l1=>bif (ae .i64 ((ut (F0s c1)) -1))==(ae .i64 ((ut (F0s c1)) -1)) then (wU (ae .i64 ((ut (F0s c1)) -1)) (0:Int)).bind fun l2=>ax ic (ae .i64 ((ut (F0s l2)) -1),s.2.2.2.1,s.2.2.2.2.1,s.2.2.2.2.2.1,l1,l2) else IR else If (.next (s.1,s.2.1,ae .i64 (s.2.2.1+1),s.2.2.2.1,s.2.2.2.2.1,s.2.2.2.2.2.1,oL s.2.2.2.2.2.2 n0 (PP (0<=n0)))) else bif c0 !=0 then If (.done (bu.mk [] [],c0)) else (bP c1).bind fun l3=>bif (ae .i64 ((ut (F0s c1)) -1))==(ae .i64 ((ut (F0s c1)) -1)) then (wU (ae .i64 ((ut (F0s c1)) -1)) (0:Int)).bind fun l4=>ax ic (ae .i64 ((ut (F0s l4)) -1),s.2.2.2.1,s.2.2.2.2.1,s.2.2.2.2.2.1,l3,l4) else IR
def mq (p0:Field) (p1:Int×Int) (p2:List Int):Option (bu×Int):=(tU p0 p1).bind fun n0=>bif n0 !=0 then bif n0 !=0 then If (bu.mk [] [],n0) else (bP p2).bind fun l1=>bif (ae .i64 ((ut (F0s p2)) -1))==(ae .i64 ((ut (F0s p2)) -1)) then (wU (ae .i64 ((ut (F0s p2)) -1)) (0:Int)).bind fun l2=>ax Cw (ae .i64 ((ut (F0s l2)) -1),p0.am,p1.1,p1.2,l1,l2) else IR else bif PP ((ut (F0s p2))<1) then If (bu.mk [] [],2) else bif PP (64<(ut (F0s p2))) then If (bu.mk [] [],2) else (pJ p0 p2).bind fun b3=>bif !b3 then If (bu.mk [] [],6) else ax (lV n0 p2) (p2,ut (F0s p2),0,p0.am,p1.1,p1.2,oL [] (-1) NE)
def c85:bA:=⟨ay.cons (Arg.agg bR) (ay.cons (Arg.agg (cH.row iF)) (ay.one (Arg.sl ki))),Arg.cu (ay.cons (Arg.agg fR) (ay.one (Arg.int .i64))),fun a=>mq a.1 a.2.1 a.2.2,.na,NE⟩
theorem U3:aG aO 85 c85:=aG.of akA (cx:=(iT aD [(141,apI),(142,apK),(32,bA.clone ki),(132,ale),(143,apM)] [] [(129,Uz),(130,R0),(187,Ot),(83,XB),(188,R2),(186,UA)] [])) rfl (gG.make ⟨adg,adi,lP,Qz,adk,trivial⟩ trivial ⟨P7,Jj,DV,Ct,Jl,Qb,trivial⟩) (fun a=>by kernel_rfl)
def G4 (p0:Int) (p1:bu):Option Int:=bif PP (p0<(ut (F0s p1.dJ))) then (aI p1.dJ p0).bind fun n0=>If n0 else (aI p1.aq (ae .i64 (p0- (ut (F0s p1.dJ))))).bind fun n1=>If n1
def apN:bA:=⟨ay.cons (Arg.int .i64) (ay.one (Arg.ref fR)),Arg.int .i64,fun a=>G4 a.1 a.2,.pure,NE⟩
theorem adl:aG aO 135 apN:=Oc P8 aD [] trivial
def lF (s:((List Int)×Int×Int×(List Int)×(List Int)×oI)):Option (Step ((List Int)×Int×Int×(List Int)×(List Int)×oI) (bu×oI)):=match s with |(a,b,d,e,f,g)=>bif PP (d<b) then (aI a d).bind fun n0=>bif PP ((ae .i64 ((ae .i64 (2*d))+1))<(ut (F0s f))) then (aI f (ae .i64 ((ae .i64 (2*d))+1))).bind fun n1=>bif (F0s g)==(F0s g) then bif PP ((ae .i64 ((ae .i64 (2*d))+2))<(ut (F0s f))) then (aI f (ae .i64 ((ae .i64 (2*d))+2))).bind fun n2=>bif (F0s g)==(F0s g) then bif PP (0<=n1) then bif PP (0<=n2) then (bq g [(ae .i64 ((ae .i64 (n1+n2)) -n0),n0)]).bind fun l3=>If (.next (a,b,ae .i64 (d+1),e,f,l3)) else If (.next (a,b,ae .i64 (d+1),(e,f,g))) else If (.next (a,b,ae .i64 (d+1),(e,f,g))) else IR else (aI e (ae .i64 ((ae .i64 ((ae .i64 (2*d))+2)) - (ut (F0s f))))).bind fun n4=>bif (F0s g)==(F0s g) then bif PP (0<=n1) then bif PP (0<=n4) then (bq g [(ae .i64 ((ae .i64 (n1+n4)) -n0),n0)]).bind fun l5=>If (.next (a,b,ae .i64 (d+1),e,f,l5)) else If (.next (a,b,ae .i64 (d+1),(e,f,g))) else If (.next (a,b,ae .i64 (d+1),(e,f,g))) else IR else IR else (aI e (ae .i64 ((ae .i64 ((ae .i64 (2*d))+1)) - (ut (F0s f))))).bind fun n6=>bif (F0s g)==(F0s g) then bif PP ((ae .i64 ((ae .i64 (2*d))+2))<(ut (F0s f))) then (aI f (ae .i64 ((ae .i64 (2*d))+2))).bind fun n7=>bif (F0s g)==(F0s g) then bif PP (0<=n6) then bif PP (0<=n7) then (bq g [(ae .i64 ((ae .i64 (n6+n7)) -n0),n0)]).bind fun l8=>If (.next (a,b,ae .i64 (d+1),e,f,l8)) else If (.next (a,b,ae .i64 (d+1),(e,f,g))) else If (.next (a,b,ae .i64 (d+1),(e,f,g))) else IR else (aI e (ae .i64 ((ae .i64 ((ae .i64 (2*d))+2)) - (ut (F0s f))))).bind fun n9=>bif (F0s g)==(F0s g) then bif PP (0<=n6) then bif PP (0<=n9) then (bq g [(ae .i64 ((ae .i64 (n6+n9)) -n0),n0)]).bind fun l10=>If (.next (a,b,ae .i64 (d+1),e,f,l10)) else If (.next (a,b,ae .i64 (d+1),(e,f,g))) else If (.next (a,b,ae .i64 (d+1),(e,f,g))) else IR else IR else If (.done (bu.mk e f,g))
def tf (p0:Field) (p1:Int×Int) (p2:List Int):Option (bu×oI):=(mq p0 p1 p2).bind fun a0=>ax lF (a0.1.dJ,ut (F0s a0.1.dJ),0,a0.1.aq,a0.1.dJ,[])
def c80:bA:=⟨ay.cons (Arg.agg bR) (ay.cons (Arg.agg (cH.row iF)) (ay.one (Arg.sl ki))),Arg.cu (ay.cons (Arg.agg fR) (ay.one (Arg.sl iF))),fun a=>tf a.1 a.2.1 a.2.2,.na,NE⟩
theorem ali:aG aO 80 c80:=aG.of akw (cx:=(iT aD [(85,c85),(135,apN)] [] [(135,X3)] [])) rfl (gG.make ⟨U3,adl,trivial⟩ trivial ⟨P8,trivial⟩) (fun a=>by kernel_rfl)
def ju (s:((List Int)×(List Int)×Int×Int)):Option (Step ((List Int)×(List Int)×Int×Int) Bool):=bif PP (s.2.2.2<s.2.2.1) then (aI s.1 s.2.2.2).bind fun n0=>(aI s.2.1 s.2.2.2).bind fun n1=>bif n0 !=n1 then If (.done NE) else If (.next (s.1,s.2.1,s.2.2.1,ae .i64 (s.2.2.2+1))) else If (.done M2)
def lW (p0:List Int) (p1:List Int):Option Bool:=bif (ut (F0s p0)) !=(ut (F0s p1)) then If NE else ax ju (p0,p1,ut (F0s p0),0)
def c81:bA:=⟨ay.cons (Arg.sl ki) (ay.one (Arg.sl ki)),Arg.bool,fun a=>lW a.1 a.2,.pure,NE⟩
theorem alj:aG aO 81 c81:=Oc akx aD [] trivial
def iX (s:(oI×Int×Int×Int×Int)):Option (Step (oI×Int×Int×Int×Int) Int):=bif PP (s.2.2.1<s.2.1) then (aI s.1 s.2.2.1).bind fun a0=>bif (s.2.2.2.1==a0.1)&&(s.2.2.2.2==a0.2) then If (.done s.2.2.1) else If (.next (s.1,s.2.1,ae .i64 (s.2.2.1+1),s.2.2.2)) else If (.done (-1))
def oe (p0:List (Int×Int)) (p1:Int×Int):Option Int:=ax iX (p0,ut (F0s p0),0,p1)
def apO:bA:=⟨ay.cons (Arg.sl iF) (ay.one (Arg.agg (cH.row iF))),Arg.int .i64,fun a=>oe a.1 a.2,.pure,NE⟩
theorem adm:aG aO 200 apO:=Oc aa9 aD [] trivial
def eh (p0:List (Int×Int)) (p1:Int×Int):Option Bool:=(oe p0 p1).bind fun n0=>If (PP (0<=n0))
def U4:bA:=⟨ay.cons (Arg.sl iF) (ay.one (Arg.agg (cH.row iF))),Arg.bool,fun a=>eh a.1 a.2,.pure,NE⟩
theorem D1:aG aO 137 U4:=Oc aaw aD [(200,apO)] ⟨adm,trivial⟩
def zu (p0:Int×Int×Int) (p1:List (Int×Int)):Option Bool:=(eh p1 p0.2).bind fun b0=>If (!b0)
def apP:bA:=⟨ay.cons (Arg.agg (cH.row eb)) (ay.one (Arg.ref (cH.sl iF))),Arg.bool,fun a=>zu a.1 a.2,.pure,NE⟩
theorem adn:aG aO 136 apP:=Oc P9 aD [(137,U4)] ⟨D1,trivial⟩
def kY (s:(cd×oI×Int×Int)):Option (Step (cd×oI×Int×Int) Int):=bif PP (s.2.2.2<s.2.2.1) then (aI s.1 s.2.2.2).bind fun a0=>(zu a0 s.2.1).bind fun b1=>bif b1 then If (.done s.2.2.2) else If (.next (s.1,s.2.1,s.2.2.1,ae .i64 (s.2.2.2+1))) else If (.done (-1))
def gN (p0:List (Int×Int×Int)) (p1:oI):Option Int:=ax kY (p0,p1,ut (F0s p0),0)
def LO:bA:=⟨ay.cons (Arg.sl eb) (ay.one (Arg.eL 136 (ay.one (Arg.ref (cH.sl iF))))),Arg.int .i64,fun a=>gN a.1 a.2,.pure,NE⟩
theorem LQ:aG aO 201 LO:=aG.of Jm (cx:=(iT aD [(136,apP),(137,U4)] [] [(136,X5)] [])) rfl (gG.make ⟨adn,D1,trivial⟩ trivial ⟨P9,trivial⟩) (fun a=>by kernel_rfl)
def fX (p0:List (Int×Int×Int)) (p1:oI):Option Bool:=(gN p0 p1).bind fun n0=>If (PP (0<=n0))
def LR:bA:=⟨ay.cons (Arg.sl eb) (ay.one (Arg.eL 136 (ay.one (Arg.ref (cH.sl iF))))),Arg.bool,fun a=>fX a.1 a.2,.pure,NE⟩
theorem LS:aG aO 138 LR:=Oc Jk aD [(201,LO)] ⟨LQ,trivial⟩
def xT (p0:aP) (p1:List (Int×Int)):Option Bool:=bif (ut (F0s p1))==(ut (F0s p0.ai.ce)) then (fX p0.ai.ce p1).bind fun b0=>If (!b0) else If NE
def c82:bA:=⟨ay.cons (Arg.agg bV) (ay.one (Arg.sl iF)),Arg.bool,fun a=>xT a.1 a.2,.pure,NE⟩
theorem alk:aG aO 82 c82:=Oc aky aD [(138,LR)] ⟨LS,trivial⟩
def jG (p0:Int):Option Bool:=If (PP (p0<0))
def c76:bA:=⟨ay.one (Arg.int .i64),Arg.bool,fun a=>jG a,.pure,NE⟩
theorem alm:aG aO 76 c76:=Oc aks aD [] trivial
def bg (c0:(List Int)) (s:R7):Option aoY:=bif PP (s.2.1<(ut (F0s s.2.2))) then (aI s.2.2 s.2.1).bind fun n0=>(jG n0).bind fun b1=>bif !b1 then (aI s.2.2 s.1).bind fun _=>If (.next (ae .i64 (s.1+1),ae .i64 (s.2.1+1),cj s.2.2 s.1 n0)) else If (.next (s.1,ae .i64 (s.2.1+1),s.2.2)) else bif ((PP (0<=s.1))&&(PP (s.1<=(ut (F0s s.2.2)))))&&(PP ((ut (F0s s.2.2))<=(ut (F0s s.2.2)))) then bif EQ (((ut (F0s s.2.2)).toNat) -s.1.toNat) 0 then (fP s.2.2 0 s.1).bind fun _=>bif (F0s s.2.2)==(F0s c0) then If (.done (.done (s.1.toNat,F0s s.2.2,s.2.2))) else IR else bif (Do ((0+s.1.toNat)+(((ut (F0s s.2.2)).toNat) -s.1.toNat)) (F0s s.2.2))&&(!NE) then (fP (eZ s.2.2 (0+s.1.toNat) (ww (((ut (F0s s.2.2)).toNat) -s.1.toNat) 0)) 0 s.1).bind fun _=>bif ((eZ s.2.2 (0+s.1.toNat) (ww (((ut (F0s s.2.2)).toNat) -s.1.toNat) 0)).length)==(F0s c0) then If (.done (.done (s.1.toNat,(eZ s.2.2 (0+s.1.toNat) (ww (((ut (F0s s.2.2)).toNat) -s.1.toNat) 0)).length,eZ s.2.2 (0+s.1.toNat) (ww (((ut (F0s s.2.2)).toNat) -s.1.toNat) 0)))) else IR else IR else IR
def bj (c0:(List Int)) (s:R7):Option akP:=bif PP (s.2.1<s.1) then (aI s.2.2 s.2.1).bind fun n0=>(jG n0).bind fun b1=>bif b1 then bif (F0s s.2.2)==(F0s c0) then bif s.2.1==(-1) then bif (F0s s.2.2)==(F0s c0) then If (.done (F0s s.2.2,F0s s.2.2,s.2.2)) else IR else ax (bg c0) (s.2.1,ae .i64 (s.2.1+1),s.2.2) else IR else If (.next (s.1,ae .i64 (s.2.1+1),s.2.2)) else bif (F0s s.2.2)==(F0s c0) then bif (F0s s.2.2)==(F0s c0) then If (.done (F0s s.2.2,F0s s.2.2,s.2.2)) else IR else IR
def bN (a:(List Int)):Option (Nat×Nat×(List Int)):=ax (bj a) (ut (F0s a),0,a)
def U5:dP:=⟨[.l [.i .i64]],[.own 0 NE,.eL 76 [] []],[.arr [.i .i64] []],[.n,.n,.l [.i .i64]],.pre 0 0 0 NE,[.arr [.i .i64] []],fun a=>bN a⟩
theorem LU:jn aO 34 U5:=jn.of UI (wd:=M2) (cx:=(iT aD [(76,c76)] [] [(83,XB)] [])) (gG.make ⟨alm,trivial⟩ trivial ⟨Ct,trivial⟩) (fun a=>by kernel_rfl)
def kq (p0:bD):Option Int:=(gj p0.jp).bind fun n0=>bif n0 !=0 then If 8 else (mn p0.kw).bind fun n1=>bif n1 !=0 then If 8 else bif (zY .i64 (ut (F0s p0.kw.aq)) (ae .i64 ((ut (F0s p0.kw.aq)) -1))) !=0 then If 8 else (bP p0.kw.aq).bind fun l2=>(bN l2).bind fun a3=>(yB IY a3.1 a3.2.2).bind fun l4=>bif (F0s l4)==(F0s a3.2.2) then (cI (l4.take a3.1) p0.jp.ii.am ()).bind fun b5=>bif !b5 then If 8 else (tf p0.jp.ii p0.jp.ci p0.kw.aq).bind fun a6=>(lW a6.1.dJ p0.kw.dJ).bind fun b7=>bif !b7 then If 8 else (xT p0.jp a6.2).bind fun b8=>bif !b8 then If 8 else If 0 else IR
def c31:bA:=⟨ay.one (Arg.agg gd),Arg.int .i64,fun a=>kq a,.pure,NE⟩
theorem OB:aG aO 31 c31:=aG.of ajZ (cx:=(iT aD [(74,c74),(75,c75),(32,bA.clone ki),(78,U2),(80,c80),(81,c81),(82,c82)] [(34,U5)] [(77,.srt NY)] [])) rfl (gG.make ⟨FH,alf,lP,Se,ali,alj,alk,trivial⟩ ⟨LU,trivial⟩ ⟨akt,trivial⟩) (fun a=>by kernel_rfl)
def v7 (p0:Int×Int×Int) (p1:Int):Option Int:=(eA p0.1 p1).bind fun n0=>If n0
def apQ:bA:=⟨ay.cons (Arg.agg (cH.row eb)) (ay.one (Arg.int .i64)),Arg.int .i64,fun a=>v7 a.1 a.2,.pure,NE⟩
theorem ado:aG aO 110 apQ:=Oc aai aD [(111,LJ)] ⟨vX,trivial⟩
def iA (s:G3):Option UO:=bif PP (s.2.2.2.1<s.2.2.2.2) then (aI s.1 (ae .i64 (nF .u64 (ae .u64 (ae .i64 (s.2.2.2.1+s.2.2.2.2))) 1))).bind fun a0=>(v7 a0 s.2.1).bind fun n1=>bif PP (n1<0) then If (.next (s.1,s.2.1,s.2.2.1,ae .i64 ((ae .i64 (nF .u64 (ae .u64 (ae .i64 (s.2.2.2.1+s.2.2.2.2))) 1))+1),s.2.2.2.2)) else If (.next (s.1,s.2.1,s.2.2.1,s.2.2.2.1,ae .i64 (nF .u64 (ae .u64 (ae .i64 (s.2.2.2.1+s.2.2.2.2))) 1))) else bif PP (s.2.2.2.1<s.2.2.1) then (aI s.1 s.2.2.2.1).bind fun a2=>(v7 a2 s.2.1).bind fun n3=>If (.done (s.2.2.2.1,n3==0)) else If (.done (s.2.2.2.1,NE))
def c9 (p0:List (Int×Int×Int)) (p1:Int) (_:Unit):Option (Int×Bool):=ax iA (p0,p1,ut (F0s p0),0,ut (F0s p0))
def LV:bA:=⟨ay.cons (Arg.sl eb) (ay.cons (Arg.int .i64) (ay.one (Arg.eL 110 ay.nil))),Arg.cu (ay.cons (Arg.int .i64) (ay.one Arg.bool)),fun a=>c9 a.1 a.2.1 a.2.2,.pure,NE⟩
theorem LW:aG aO 109 LV:=Oc Ji aD [(110,apQ)] ⟨ado,trivial⟩
def jd (p0:Field) (p1:Int):Option (Int×Bool):=(c9 p0.am p1 ()).bind fun a0=>If a0
def c59:bA:=⟨ay.cons (Arg.agg bR) (ay.one (Arg.int .i64)),Arg.cu (ay.cons (Arg.int .i64) (ay.one Arg.bool)),fun a=>jd a.1 a.2,.pure,NE⟩
theorem U6:aG aO 59 c59:=Oc akh aD [(109,LV)] ⟨LW,trivial⟩
def iK (p0:Field) (p1:Int×Int×Int):Option (Field×Int):=(dQ p0).bind fun n0=>bif n0 !=0 then If (Field.mk [],n0) else (kf p1).bind fun n1=>bif n1 !=0 then If (Field.mk [],n1) else (jd p0 p1.1).bind fun a2=>bif a2.2 then If (Field.mk [],14) else bif (ut (F0s p0.am))==64 then If (Field.mk [],18) else (bP p0.am).bind fun l3=>(yA l3 a2.1 [p1]).bind fun l4=>If (Field.mk l4,0)
def c23:bA:=⟨ay.cons (Arg.agg bR) (ay.one (Arg.agg (cH.row eb))),Arg.cu (ay.cons (Arg.agg bR) (ay.one (Arg.int .i64))),fun a=>iK a.1 a.2,.na,NE⟩
theorem aln:aG aO 23 c23:=aG.of ajV (cx:=(iT aD [(57,c57),(58,c58),(59,c59),(61,bA.clone eb)] [] [(60,.ins 3)] [])) rfl (gG.make ⟨Cv,OA,U6,vR,trivial⟩ trivial ⟨aki,trivial⟩) (fun a=>by kernel_rfl)
def jv (s:((List Int)×Int×Int×Int)):Option (Step ((List Int)×Int×Int×Int) Int):=bif PP (s.2.2.2<s.2.2.1) then (aI s.1 s.2.2.2).bind fun n0=>bif s.2.1==n0 then If (.done s.2.2.2) else If (.next (s.1,s.2.1,s.2.2.1,ae .i64 (s.2.2.2+1))) else If (.done (-1))
def eD (p0:List Int) (p1:Int):Option Int:=ax jv (p0,p1,ut (F0s p0),0)
def c33:bA:=⟨ay.cons (Arg.sl ki) (ay.one (Arg.int .i64)),Arg.int .i64,fun a=>eD a.1 a.2,.pure,NE⟩
theorem OC:aG aO 33 c33:=Oc aj1 aD [] trivial
def DD (p0:Int) (p1:Int):Option (Int×Int):=If (ae .u32 (nF .u64 (ae .u64 ((ae .u64 p0)*(ae .u64 p1))) 32),ae .u32 (ae .u64 ((ae .u64 p0)*(ae .u64 p1))))
def apR:bA:=⟨ay.cons (Arg.int .u32) (ay.one (Arg.int .u32)),Arg.cu (ay.cons (Arg.int .u32) (ay.one (Arg.int .u32))),fun a=>DD a.1 a.2,.pure,NE⟩
theorem adp:aG aO 139 apR:=Oc aax aD [] trivial
def fA (p0:Int) (p1:Int):Option (Int×Int):=(fb p0 p1).bind fun a0=>If a0
def c84:bA:=⟨ay.cons (Arg.int .u64) (ay.one (Arg.int .u64)),Arg.cu (ay.cons (Arg.int .u64) (ay.one (Arg.int .u64))),fun a=>fA a.1 a.2,.pure,NE⟩
theorem U7:aG aO 84 c84:=Oc akz aD [(139,apR),(140,acX)] ⟨adp,JA,trivial⟩
def aH (s:(Int×(List Int))):Option (Step (Int×(List Int)) (List Int)):=bif PP (s.1<(ut (F0s s.2))) then bif ((PP (0<=s.1))&&(PP (s.1<=(ut (F0s s.2)))))&&(PP ((ut (F0s s.2))<=(ut (F0s s.2)))) then (fP s.2 0 s.1).bind fun _=>bif ((s.2.take s.1.toNat).take (((ut (F0s s.2)).toNat) -s.1.toNat)).isEmpty then If (.next (ae .i64 (s.1+0),s.2)) else bif (Do ((0+s.1.toNat)+(((s.2.take s.1.toNat).take (((ut (F0s s.2)).toNat) -s.1.toNat)).length)) (F0s s.2))&&(!NE) then If (.next (ae .i64 (s.1+(ut (((s.2.take s.1.toNat).take (((ut (F0s s.2)).toNat) -s.1.toNat)).length))),eZ s.2 (0+s.1.toNat) ((s.2.take s.1.toNat).take (((ut (F0s s.2)).toNat) -s.1.toNat)))) else IR else IR else If (.done s.2)
def bQ (p0:List Int) (p1:Int):Option (List Int):=bif PP (p1<0) then IR else (fA (ae .u64 (ut (F0s p0))) (ae .u64 p1)).bind fun a0=>bif PP (0<a0.1) then IR else bif PP (9223372036854775807<a0.2) then IR else bif (ae .i64 a0.2)==(ae .i64 a0.2) then (wU (ae .i64 a0.2) (0:Int)).bind fun l1=>bif (p0.take (F0s l1)).isEmpty then ax aH (0,l1) else bif (Do (0+((p0.take (F0s l1)).length)) (F0s l1))&&(!NE) then ax aH (ut ((p0.take (F0s l1)).length),eZ l1 0 (p0.take (F0s l1))) else IR else IR
def c36:bA:=⟨ay.cons (Arg.sl ki) (ay.one (Arg.int .i64)),Arg.sl ki,fun a=>bQ a.1 a.2,.own,M2⟩
def alo:bA:=⟨ay.cons (Arg.sl ki) (ay.one (Arg.int .i64)),Arg.sl ki,fun a=>bQ a.1 a.2,.na,NE⟩
theorem U8:aG aO 36 c36:=Oc UJ aD [(84,c84)] ⟨U7,trivial⟩
theorem QB:aG aO 36 alo:=Oc UJ aD [(84,c84)] ⟨U7,trivial⟩
def iB (s:aoX):Option (Step aoX aoZ):=match s with |(a,b,d,e,f,g,h,i,j,k,l)=>bif PP (j<i) then (aI ((k.drop f).take g) j).bind fun n0=>bif PP (0<=n0) then bif n0 !=a then (bq l [(n0,a)]).bind fun l1=>If (.next (a,b,d,e,f,g,h,i,ae .i64 (j+1),k,l1)) else If (.next (a,b,d,e,f,g,h,i,ae .i64 (j+1),(k,l))) else If (.next (a,b,d,e,f,g,h,i,ae .i64 (j+1),(k,l))) else If (.done (.next (b,d,ae .i64 (e+1),(k,l))))
def og (s:((List Int)×Int×Int×(List Int)×oI)):Option aoZ:=bif PP (s.2.2.1<s.2.1) then (aI s.1 s.2.2.1).bind fun n0=>bif ((PP (0<=(ae .i64 ((ae .i64 (2*s.2.2.1))+1))))&&(PP ((ae .i64 ((ae .i64 (2*s.2.2.1))+1))<=(ae .i64 ((ae .i64 (2*s.2.2.1))+3)))))&&(PP ((ae .i64 ((ae .i64 (2*s.2.2.1))+3))<=(ut (F0s s.2.2.2.1)))) then ax iB (n0,s.1,s.2.1,s.2.2.1,0+((ae .i64 ((ae .i64 (2*s.2.2.1))+1)).toNat),((ae .i64 ((ae .i64 (2*s.2.2.1))+3)).toNat) - ((ae .i64 ((ae .i64 (2*s.2.2.1))+1)).toNat),F0s s.2.2.2.1- ((ae .i64 ((ae .i64 (2*s.2.2.1))+1)).toNat),ut (((ae .i64 ((ae .i64 (2*s.2.2.1))+3)).toNat) - ((ae .i64 ((ae .i64 (2*s.2.2.1))+1)).toNat)),0,s.2.2.2) else IR else If (.done s.2.2.2.2)
def tg (p0:bu):Option oI:=(RA p0.dJ p0.aq).bind fun l0=>ax og (p0.dJ,ut (F0s p0.dJ),0,l0,[])
def c87:bA:=⟨ay.one (Arg.agg fR),Arg.sl iF,fun a=>tg a,.na,NE⟩
theorem alp:aG aO 87 c87:=aG.of akC (cx:=(iT aD [] [] [(147,.cat)] [])) rfl (gG.make trivial trivial ⟨aaE,trivial⟩) (fun a=>by kernel_rfl)
def jY (p0:Field) (p1:Int):Option (Int×Int):=(dQ p0).bind fun n0=>bif n0 !=0 then If (0,n0) else (jd p0 p1).bind fun a1=>bif !a1.2 then If (0,6) else If (a1.1,0)
def c62:bA:=⟨ay.cons (Arg.agg bR) (ay.one (Arg.int .i64)),Arg.cu (ay.cons (Arg.int .i64) (ay.one (Arg.int .i64))),fun a=>jY a.1 a.2,.pure,NE⟩
theorem U9:aG aO 62 c62:=Oc akk aD [(57,c57),(59,c59)] ⟨Cv,U6,trivial⟩
def sm (p0:Field) (p1:Int):Option ((Int×Int×Int)×Int):=(jY p0 p1).bind fun a0=>bif a0.2 !=0 then If ((0,0,0),a0.2) else (aI p0.am a0.1).bind fun a1=>If (a1,0)
def apT:bA:=⟨ay.cons (Arg.agg bR) (ay.one (Arg.int .i64)),Arg.cu (ay.cons (Arg.agg (cH.row eb)) (ay.one (Arg.int .i64))),fun a=>sm a.1 a.2,.pure,NE⟩
theorem adq:aG aO 144 apT:=Oc aaC aD [(62,c62)] ⟨U9,trivial⟩
def sq (p0:aP):Option aP:=(bP p0.ii.am).bind fun l0=>(bP p0.ai.ce).bind fun l1=>(bP p0.io).bind fun l2=>(bP p0.aa.bv).bind fun l3=>(bP p0.aa.aj).bind fun l4=>(bP p0.aa.af.aB).bind fun l5=>(bP p0.aa.af.be).bind fun l6=>(bP p0.aa.af.bi).bind fun l7=>If (aP.mk p0.ci (Field.mk l0) (bG.mk p0.ai.aL l1) (aM.mk (bc.mk l5 l6 l7) l3 l4) l2)
def apU:bA:=⟨ay.one (Arg.agg bV),Arg.agg bV,fun a=>sq a,.own,M2⟩
def aff:bA:=⟨ay.one (Arg.agg bV),Arg.agg bV,fun a=>sq a,.na,NE⟩
theorem adr:aG aO 146 apU:=Oc P' aD [(61,bA.clone eb),(209,bA.clone eb),(210,bA.clone eb),(211,bA.clone j9),(32,bA.clone ki),(212,bA.clone kb)] ⟨vR,uT,Bl,rY,lP,rX,trivial⟩
theorem U':aG aO 146 aff:=Oc P' aD [(61,bA.clone eb),(209,bA.clone eb),(210,bA.clone eb),(211,bA.clone j9),(32,bA.clone ki),(212,bA.clone kb)] ⟨vR,uT,Bl,rY,lP,rX,trivial⟩
def qi (p0:Int×Int×Int) (p1:Int):Option Int:=(eA p0.1 p1).bind fun n0=>If n0
def apV:bA:=⟨ay.cons (Arg.agg (cH.row eb)) (ay.one (Arg.int .i64)),Arg.int .i64,fun a=>qi a.1 a.2,.pure,NE⟩
theorem ads:aG aO 291 apV:=Oc ab7 aD [(111,LJ)] ⟨vX,trivial⟩
def aR (s:G3):Option UO:=bif PP (s.2.2.2.1<s.2.2.2.2) then (aI s.1 (ae .i64 (nF .u64 (ae .u64 (ae .i64 (s.2.2.2.1+s.2.2.2.2))) 1))).bind fun a0=>(qi a0 s.2.1).bind fun n1=>bif PP (n1<0) then If (.next (s.1,s.2.1,s.2.2.1,ae .i64 ((ae .i64 (nF .u64 (ae .u64 (ae .i64 (s.2.2.2.1+s.2.2.2.2))) 1))+1),s.2.2.2.2)) else If (.next (s.1,s.2.1,s.2.2.1,s.2.2.2.1,ae .i64 (nF .u64 (ae .u64 (ae .i64 (s.2.2.2.1+s.2.2.2.2))) 1))) else bif PP (s.2.2.2.1<s.2.2.1) then (aI s.1 s.2.2.2.1).bind fun a2=>(qi a2 s.2.1).bind fun n3=>If (.done (s.2.2.2.1,n3==0)) else If (.done (s.2.2.2.1,NE))
def aQ (p0:List (Int×Int×Int)) (p1:Int) (_:Unit):Option (Int×Bool):=ax aR (p0,p1,ut (F0s p0),0,ut (F0s p0))
def LX:bA:=⟨ay.cons (Arg.sl eb) (ay.cons (Arg.int .i64) (ay.one (Arg.eL 291 ay.nil))),Arg.cu (ay.cons (Arg.int .i64) (ay.one Arg.bool)),fun a=>aQ a.1 a.2.1 a.2.2,.pure,NE⟩
theorem LY:aG aO 290 LX:=Oc ab6 aD [(291,apV)] ⟨ads,trivial⟩
def Cx (p0:bG) (p1:Int):Option (Int×Int):=(oY p0).bind fun n0=>bif n0 !=0 then If (0,n0) else (aQ p0.ce p1 ()).bind fun a1=>bif !a1.2 then If (0,6) else If (a1.1,0)
def apW:bA:=⟨ay.cons (Arg.agg gV) (ay.one (Arg.int .i64)),Arg.cu (ay.cons (Arg.int .i64) (ay.one (Arg.int .i64))),fun a=>Cx a.1 a.2,.pure,NE⟩
theorem adt:aG aO 269 apW:=Oc abT aD [(126,acR),(290,LX)] ⟨Jy,LY,trivial⟩
def dZ (a:R9):Option (Nat×Nat×cd):=bif (((PP (0<=a.1))&&(PP (a.1<=a.2.1)))&&(PP (a.2.1<=(ut (F0s a.2.2)))))&&(PP ((ut (F0s a.2.2))<=(ut (F0s a.2.2)))) then bif a.1==a.2.1 then bif (F0s a.2.2)==(F0s a.2.2) then If (F0s a.2.2,F0s a.2.2,a.2.2) else IR else (fP a.2.2 0 a.1).bind fun _=>bif ((PP (0<=a.2.1))&&(PP (a.2.1<=(ut (F0s a.2.2)))))&&(PP ((ut (F0s a.2.2))<=(ut (F0s a.2.2)))) then bif ((a.2.2.drop (0+a.2.1.toNat)).take (((ut (F0s a.2.2)).toNat) -a.2.1.toNat)).isEmpty then bif ((PP (0<=(ut a.1.toNat)))&&(PP ((ut a.1.toNat)<=(ut (F0s a.2.2)))))&&(PP ((ut (F0s a.2.2))<=(ut (F0s a.2.2)))) then bif EQ (((ut (F0s a.2.2)).toNat) - ((ut a.1.toNat).toNat)) 0 then bif (F0s a.2.2)==(F0s a.2.2) then If (a.1.toNat,F0s a.2.2,a.2.2) else IR else bif (Do ((0+((ut a.1.toNat).toNat))+(((ut (F0s a.2.2)).toNat) - ((ut a.1.toNat).toNat))) (F0s a.2.2))&&(!NE) then bif ((eZ a.2.2 (0+((ut a.1.toNat).toNat)) (ww (((ut (F0s a.2.2)).toNat) - ((ut a.1.toNat).toNat)) (0,0,0))).length)==(F0s a.2.2) then If (a.1.toNat,F0s a.2.2,eZ a.2.2 (0+((ut a.1.toNat).toNat)) (ww (((ut (F0s a.2.2)).toNat) - ((ut a.1.toNat).toNat)) (0,0,0))) else IR else IR else IR else bif Do (a.1.toNat+(((a.2.2.drop (0+a.2.1.toNat)).take (((ut (F0s a.2.2)).toNat) -a.2.1.toNat)).length)) (F0s a.2.2) then bif (Do (a.1.toNat+(((a.2.2.drop (0+a.2.1.toNat)).take (((ut (F0s a.2.2)).toNat) -a.2.1.toNat)).length)) (F0s a.2.2))&&(!NE) then bif ((PP (0<=(ut (a.1.toNat+(((a.2.2.drop (0+a.2.1.toNat)).take (((ut (F0s a.2.2)).toNat) -a.2.1.toNat)).length)))))&&(PP ((ut (a.1.toNat+(((a.2.2.drop (0+a.2.1.toNat)).take (((ut (F0s a.2.2)).toNat) -a.2.1.toNat)).length)))<=(ut (F0s a.2.2)))))&&(PP ((ut (F0s a.2.2))<=(ut (F0s a.2.2)))) then bif EQ (((ut (F0s a.2.2)).toNat) - ((ut (a.1.toNat+(((a.2.2.drop (0+a.2.1.toNat)).take (((ut (F0s a.2.2)).toNat) -a.2.1.toNat)).length))).toNat)) 0 then bif ((eZ a.2.2 a.1.toNat ((a.2.2.drop (0+a.2.1.toNat)).take (((ut (F0s a.2.2)).toNat) -a.2.1.toNat))).length)==(F0s a.2.2) then If (a.1.toNat+(((a.2.2.drop (0+a.2.1.toNat)).take (((ut (F0s a.2.2)).toNat) -a.2.1.toNat)).length),F0s a.2.2,eZ a.2.2 a.1.toNat ((a.2.2.drop (0+a.2.1.toNat)).take (((ut (F0s a.2.2)).toNat) -a.2.1.toNat))) else IR else bif (Do ((0+((ut (a.1.toNat+(((a.2.2.drop (0+a.2.1.toNat)).take (((ut (F0s a.2.2)).toNat) -a.2.1.toNat)).length))).toNat))+(((ut (F0s a.2.2)).toNat) - ((ut (a.1.toNat+(((a.2.2.drop (0+a.2.1.toNat)).take (((ut (F0s a.2.2)).toNat) -a.2.1.toNat)).length))).toNat))) ((eZ a.2.2 a.1.toNat ((a.2.2.drop (0+a.2.1.toNat)).take (((ut (F0s a.2.2)).toNat) -a.2.1.toNat))).length))&&(!NE) then bif ((eZ (eZ a.2.2 a.1.toNat ((a.2.2.drop (0+a.2.1.toNat)).take (((ut (F0s a.2.2)).toNat) -a.2.1.toNat))) (0+((ut (a.1.toNat+(((a.2.2.drop (0+a.2.1.toNat)).take (((ut (F0s a.2.2)).toNat) -a.2.1.toNat)).length))).toNat)) (ww (((ut (F0s a.2.2)).toNat) - ((ut (a.1.toNat+(((a.2.2.drop (0+a.2.1.toNat)).take (((ut (F0s a.2.2)).toNat) -a.2.1.toNat)).length))).toNat)) (0,0,0))).length)==(F0s a.2.2) then If (a.1.toNat+(((a.2.2.drop (0+a.2.1.toNat)).take (((ut (F0s a.2.2)).toNat) -a.2.1.toNat)).length),F0s a.2.2,eZ (eZ a.2.2 a.1.toNat ((a.2.2.drop (0+a.2.1.toNat)).take (((ut (F0s a.2.2)).toNat) -a.2.1.toNat))) (0+((ut (a.1.toNat+(((a.2.2.drop (0+a.2.1.toNat)).take (((ut (F0s a.2.2)).toNat) -a.2.1.toNat)).length))).toNat)) (ww (((ut (F0s a.2.2)).toNat) - ((ut (a.1.toNat+(((a.2.2.drop (0+a.2.1.toNat)).take (((ut (F0s a.2.2)).toNat) -a.2.1.toNat)).length))).toNat)) (0,0,0))) else IR else IR else IR else IR else IR else IR else IR
def Va:dP:=⟨[.i,.i,.l [.i .i64,.i .i64,.i .i64]],[.own 0 NE,.int .i64 0,.int .i64 0],[.arr [.i .i64,.i .i64,.i .i64] []],[.n,.n,.l [.i .i64,.i .i64,.i .i64]],.pre 0 0 0 NE,[.arr [.i .i64,.i .i64,.i .i64] []],fun a=>dZ a⟩
theorem Sf:jn aO 270 Va:=jn.of abU (wd:=M2) (cx:=(iT aD [] [] [] [])) (gG.make trivial trivial trivial) (fun a=>by kernel_rfl)
def th (p0:bG) (p1:Int):Option (bG×(Int×Int)×Int):=(Cx p0 p1).bind fun a0=>bif a0.2 !=0 then If (bG.mk 0 [],(0,0),a0.2) else (bP p0.ce).bind fun l1=>(dZ (a0.1,ae .i64 (a0.1+1),l1)).bind fun a2=>(aI p0.ce a0.1).bind fun a3=>If (bG.mk p0.aL (a2.2.2.take a2.1),a3.2,0)
def apX:bA:=⟨ay.cons (Arg.agg gV) (ay.one (Arg.int .i64)),Arg.cu (ay.cons (Arg.agg gV) (ay.cons (Arg.agg (cH.row iF)) (ay.one (Arg.int .i64)))),fun a=>th a.1 a.2,.na,NE⟩
theorem adu:aG aO 232 apX:=aG.of aby (cx:=(iT aD [(269,apW),(209,bA.clone eb)] [(270,Va)] [] [])) rfl (gG.make ⟨adt,uT,trivial⟩ ⟨Sf,trivial⟩ trivial) (fun a=>by kernel_rfl)
def lG (p0:aP):Option aP:=(bP p0.ii.am).bind fun l0=>(bP p0.ai.ce).bind fun l1=>(bP p0.io).bind fun l2=>(bP p0.aa.bv).bind fun l3=>(bP p0.aa.aj).bind fun l4=>(bP p0.aa.af.aB).bind fun l5=>(bP p0.aa.af.be).bind fun l6=>(bP p0.aa.af.bi).bind fun l7=>If (aP.mk p0.ci (Field.mk l0) (bG.mk p0.ai.aL l1) (aM.mk (bc.mk l5 l6 l7) l3 l4) l2)
def adv:bA:=⟨ay.one (Arg.agg bV),Arg.agg bV,fun a=>lG a,.own,M2⟩
def QC:bA:=⟨ay.one (Arg.agg bV),Arg.agg bV,fun a=>lG a,.na,NE⟩
theorem JF:aG aO 180 adv:=Oc Qa aD [(61,bA.clone eb),(209,bA.clone eb),(210,bA.clone eb),(211,bA.clone j9),(32,bA.clone ki),(212,bA.clone kb)] ⟨vR,uT,Bl,rY,lP,rX,trivial⟩
theorem FI:aG aO 180 QC:=Oc Qa aD [(61,bA.clone eb),(209,bA.clone eb),(210,bA.clone eb),(211,bA.clone j9),(32,bA.clone ki),(212,bA.clone kb)] ⟨vR,uT,Bl,rY,lP,rX,trivial⟩
def tV (p0:Int×Int×Int) (p1:Int):Option Int:=(eA p0.1 p1).bind fun n0=>If n0
def apY:bA:=⟨ay.cons (Arg.agg (cH.row eb)) (ay.one (Arg.int .i64)),Arg.int .i64,fun a=>tV a.1 a.2,.pure,NE⟩
theorem adw:aG aO 272 apY:=Oc abW aD [(111,LJ)] ⟨vX,trivial⟩
def iG (s:G3):Option UO:=bif PP (s.2.2.2.1<s.2.2.2.2) then (aI s.1 (ae .i64 (nF .u64 (ae .u64 (ae .i64 (s.2.2.2.1+s.2.2.2.2))) 1))).bind fun a0=>(tV a0 s.2.1).bind fun n1=>bif PP (n1<0) then If (.next (s.1,s.2.1,s.2.2.1,ae .i64 ((ae .i64 (nF .u64 (ae .u64 (ae .i64 (s.2.2.2.1+s.2.2.2.2))) 1))+1),s.2.2.2.2)) else If (.next (s.1,s.2.1,s.2.2.1,s.2.2.2.1,ae .i64 (nF .u64 (ae .u64 (ae .i64 (s.2.2.2.1+s.2.2.2.2))) 1))) else bif PP (s.2.2.2.1<s.2.2.1) then (aI s.1 s.2.2.2.1).bind fun a2=>(tV a2 s.2.1).bind fun n3=>If (.done (s.2.2.2.1,n3==0)) else If (.done (s.2.2.2.1,NE))
def dd (p0:List (Int×Int×Int)) (p1:Int) (_:Unit):Option (Int×Bool):=ax iG (p0,p1,ut (F0s p0),0,ut (F0s p0))
def LZ:bA:=⟨ay.cons (Arg.sl eb) (ay.cons (Arg.int .i64) (ay.one (Arg.eL 272 ay.nil))),Arg.cu (ay.cons (Arg.int .i64) (ay.one Arg.bool)),fun a=>dd a.1 a.2.1 a.2.2,.pure,NE⟩
theorem L0:aG aO 271 LZ:=Oc abV aD [(272,apY)] ⟨adw,trivial⟩
def nu (p0:List (Int×Int×Int)) (p1:Int):Option (Int×Bool):=(dd p0 p1 ()).bind fun a0=>If a0
def alq:bA:=⟨ay.cons (Arg.sl eb) (ay.one (Arg.int .i64)),Arg.cu (ay.cons (Arg.int .i64) (ay.one Arg.bool)),fun a=>nu a.1 a.2,.pure,NE⟩
theorem QD:aG aO 233 alq:=Oc abz aD [(271,LZ)] ⟨L0,trivial⟩
def xU (p0:bc) (p1:Int×Int):Option (Bool×Int):=(oZ p0).bind fun n0=>bif n0 !=0 then If (NE,n0) else bif PP (0<=p1.1) then bif PP (p1.1<(ut (F0s p0.be))) then (aI p0.be p1.1).bind fun b1=>bif b1 then (aI p0.aB p1.1).bind fun n2=>If (n2==p1.2,0) else If (NE,0) else If (NE,0) else If (NE,0)
def alr:bA:=⟨ay.cons (Arg.agg ga) (ay.one (Arg.agg (cH.row iF))),Arg.cu (ay.cons Arg.bool (ay.one (Arg.int .i64))),fun a=>xU a.1 a.2,.pure,NE⟩
theorem QE:aG aO 292 alr:=Oc ab8 aD [(182,acU)] ⟨Jz,trivial⟩
def oh (p0:aM) (p1:Int×Int):Option (Int×Int):=(kg p0).bind fun n0=>bif n0 !=0 then If (0,n0) else (xU p0.af p1).bind fun a1=>bif a1.2 !=0 then If (0,6) else bif !a1.1 then If (0,6) else (aI p0.aj p1.1).bind fun n2=>If (n2,0)
def als:bA:=⟨ay.cons (Arg.agg dw) (ay.one (Arg.agg (cH.row iF))),Arg.cu (ay.cons (Arg.int .i64) (ay.one (Arg.int .i64))),fun a=>oh a.1 a.2,.pure,NE⟩
theorem QF:aG aO 273 als:=Oc abX aD [(127,U1),(292,alr)] ⟨D0,QE,trivial⟩
def qL (p0:List Int) (p1:Int):Option (List Int):=(bP p0).bind fun l0=>(bq l0 [p1]).bind fun l1=>If l1
def apZ:bA:=⟨ay.cons (Arg.sl ki) (ay.one (Arg.int .i64)),Arg.sl ki,fun a=>qL a.1 a.2,.na,NE⟩
theorem adx:aG aO 300 apZ:=Oc acd aD [(301,bA.clone ki)] ⟨LC,trivial⟩
def yN (p0:bc) (p1:Int×Int):Option (bc×Int):=(xU p0 p1).bind fun a0=>bif a0.2 !=0 then If (bc.mk [] [] [],a0.2) else bif !a0.1 then If (bc.mk [] [] [],6) else (bP p0.aB).bind fun l1=>(bP p0.be).bind fun l2=>(qL p0.bi p1.1).bind fun l3=>(aI l2 p1.1).bind fun _=>If (bc.mk l1 (cj l2 p1.1 NE) l3,0)
def ap0:bA:=⟨ay.cons (Arg.agg ga) (ay.one (Arg.agg (cH.row iF))),Arg.cu (ay.cons (Arg.agg ga) (ay.one (Arg.int .i64))),fun a=>yN a.1 a.2,.na,NE⟩
theorem ady:aG aO 293 ap0:=aG.of ab9 (cx:=(iT aD [(292,alr),(32,bA.clone ki),(212,bA.clone kb),(300,apZ)] [] [(298,UB)] [])) rfl (gG.make ⟨QE,lP,rX,adx,trivial⟩ trivial ⟨Qi,trivial⟩) (fun a=>by kernel_rfl)
def bW (a:acg):Option G2:=(aI (a.2.2.2.2.2.2.2.2.2.2.2.1.take a.2.2.2.1) a.2.2.2.2.2.1).bind fun _=>(aI a.2.2.2.2.2.2.2.2.2.2.2.2 a.2.2.2.2.2.2.2.2.2.1).bind fun _=>bif ((cj a.2.2.2.2.2.2.2.2.2.2.2.1 a.2.2.2.2.2.1 (a.2.2.2.2.2.2.1,a.2.2.2.2.2.2.2.1,a.2.2.2.2.2.2.2.2.1,a.2.2.2.2.2.2.2.2.2.1,a.2.2.2.2.2.2.2.2.2.2.1)).length)==(F0s a.2.2.2.2.2.2.2.2.2.2.2.1) then bif ((cj a.2.2.2.2.2.2.2.2.2.2.2.2 a.2.2.2.2.2.2.2.2.2.1 a.2.2.2.2.2.1).length)==(F0s a.2.2.2.2.2.2.2.2.2.2.2.2) then If (cj a.2.2.2.2.2.2.2.2.2.2.2.1 a.2.2.2.2.2.1 (a.2.2.2.2.2.2.1,a.2.2.2.2.2.2.2.1,a.2.2.2.2.2.2.2.2.1,a.2.2.2.2.2.2.2.2.2.1,a.2.2.2.2.2.2.2.2.2.2.1),cj a.2.2.2.2.2.2.2.2.2.2.2.2 a.2.2.2.2.2.2.2.2.2.1 a.2.2.2.2.2.1) else IR else IR
def OD:dP:=⟨[.l [.i .i64],.l [.b],.l [.i .i64],.n,.n,.i,.i,.i,.i,.i,.i,.l [.i .i64,.i .i64,.i .i64,.i .i64,.i .i64],.l [.i .i64]],[.agg [.sl [.i .i64] [],.sl [.b] [],.sl [.i .i64] [],.pre 0 0 0 NE,.own 1 NE],.int .i64 0,.agg [.int .i64 0,.int .i64 0,.int .i64 0,.int .i64 0,.int .i64 0]],[.arr [.i .i64,.i .i64,.i .i64,.i .i64,.i .i64] [],.arr [.i .i64] []],[.l [.i .i64,.i .i64,.i .i64,.i .i64,.i .i64],.l [.i .i64]],.cu [],[.arr [.i .i64,.i .i64,.i .i64,.i .i64,.i .i64] [],.arr [.i .i64] []],fun a=>bW a⟩
theorem HT:jn aO 295 OD:=jn.of Qh (wd:=NE) (cx:=(iT aD [] [] [] [])) (gG.make trivial trivial trivial) (fun a=>by kernel_rfl)
def fG (c0:acg) (s:aoN):Option (Step aoN aoJ):=match s with |(a,b,d,e,f,g,h,i,j,k,l,m,n,o)=>bif PP (b<(ut i)) then bif PP ((ae .i64 (b+1))<(ut i)) then (aI (d.take i) (ae .i64 (b+1))).bind fun a0=>(aI (d.take i) b).bind fun a1=>(cA a0 a1).bind fun n2=>bif PP (n2<0) then (aI (d.take i) (ae .i64 (b+1))).bind fun a3=>(cA a3 (k,l,m,n,o)).bind fun n4=>bif PP (0<=n4) then (bW (f,g,h,i,j,a,k,l,m,n,o,d,e)).bind fun a5=>bif (F0s a5.1)==(F0s c0.2.2.2.2.2.2.2.2.2.2.2.1) then bif (F0s a5.2)==(F0s c0.2.2.2.2.2.2.2.2.2.2.2.2) then If (.done (.done a5)) else IR else IR else (aI (d.take i) (ae .i64 (b+1))).bind fun a6=>(bW (f,g,h,i,j,a,a6.1,a6.2.1,a6.2.2.1,a6.2.2.2.1,a6.2.2.2.2,d,e)).bind fun a7=>If (.next (ae .i64 (b+1),ae .i64 ((ae .i64 (2*(ae .i64 (b+1))))+1),a7.1,a7.2,(f,g,h,i,j,k,l,m,n,o))) else (aI (d.take i) b).bind fun a8=>(cA a8 (k,l,m,n,o)).bind fun n9=>bif PP (0<=n9) then (bW (f,g,h,i,j,a,k,l,m,n,o,d,e)).bind fun yJ=>bif (F0s yJ.1)==(F0s c0.2.2.2.2.2.2.2.2.2.2.2.1) then bif (F0s yJ.2)==(F0s c0.2.2.2.2.2.2.2.2.2.2.2.2) then If (.done (.done yJ)) else IR else IR else (aI (d.take i) b).bind fun zt=>(bW (f,g,h,i,j,a,zt.1,zt.2.1,zt.2.2.1,zt.2.2.2.1,zt.2.2.2.2,d,e)).bind fun a12=>If (.next (b,ae .i64 ((ae .i64 (2*b))+1),a12.1,a12.2,(f,g,h,i,j,k,l,m,n,o))) else (aI (d.take i) b).bind fun Qs=>(cA Qs (k,l,m,n,o)).bind fun n14=>bif PP (0<=n14) then (bW (f,g,h,i,j,a,k,l,m,n,o,d,e)).bind fun a15=>bif (F0s a15.1)==(F0s c0.2.2.2.2.2.2.2.2.2.2.2.1) then bif (F0s a15.2)==(F0s c0.2.2.2.2.2.2.2.2.2.2.2.2) then If (.done (.done a15)) else IR else IR else (aI (d.take i) b).bind fun Ke=>(bW (f,g,h,i,j,a,Ke.1,Ke.2.1,Ke.2.2.1,Ke.2.2.2.1,Ke.2.2.2.2,d,e)).bind fun a17=>If (.next (b,ae .i64 ((ae .i64 (2*b))+1),a17.1,a17.2,(f,g,h,i,j,k,l,m,n,o))) else (bW (f,g,h,i,j,a,k,l,m,n,o,d,e)).bind fun a18=>bif (F0s a18.1)==(F0s c0.2.2.2.2.2.2.2.2.2.2.2.1) then bif (F0s a18.2)==(F0s c0.2.2.2.2.2.2.2.2.2.2.2.2) then If (.done (.done a18)) else IR else IR
def eE (c0:acg) (s:aoI):Option aoJ:=bif PP (0<s.1) then (aI (s.2.1.take s.2.2.2.2.2.2.1) (ae .i64 (v6 (ae .i64 (s.1-1)) 2))).bind fun a0=>(cA s.2.2.2.2.2.2.2.2 a0).bind fun n1=>bif PP (n1<0) then (aI (s.2.1.take s.2.2.2.2.2.2.1) (ae .i64 (v6 (ae .i64 (s.1-1)) 2))).bind fun a2=>(bW (s.2.2.2.1,s.2.2.2.2.1,s.2.2.2.2.2.1,s.2.2.2.2.2.2.1,s.2.2.2.2.2.2.2.1,s.1,a2.1,a2.2.1,a2.2.2.1,a2.2.2.2.1,a2.2.2.2.2,s.2.1,s.2.2.1)).bind fun a3=>If (.next (ae .i64 (v6 (ae .i64 (s.1-1)) 2),a3.1,a3.2,s.2.2.2)) else ax (fG c0) (s.1,ae .i64 ((ae .i64 (2*s.1))+1),s.2) else ax (fG c0) (s.1,ae .i64 ((ae .i64 (2*s.1))+1),s.2)
def jw (a:acg):Option G2:=ax (eE a) (a.2.2.2.2.2.1,a.2.2.2.2.2.2.2.2.2.2.2.1,a.2.2.2.2.2.2.2.2.2.2.2.2,a.1,a.2.1,a.2.2.1,a.2.2.2.1,a.2.2.2.2.1,a.2.2.2.2.2.2.1,a.2.2.2.2.2.2.2.1,a.2.2.2.2.2.2.2.2.1,a.2.2.2.2.2.2.2.2.2.1,a.2.2.2.2.2.2.2.2.2.2.1)
def JG:dP:=⟨[.l [.i .i64],.l [.b],.l [.i .i64],.n,.n,.i,.i,.i,.i,.i,.i,.l [.i .i64,.i .i64,.i .i64,.i .i64,.i .i64],.l [.i .i64]],[.agg [.sl [.i .i64] [],.sl [.b] [],.sl [.i .i64] [],.pre 0 0 0 NE,.own 1 NE],.int .i64 0,.agg [.int .i64 0,.int .i64 0,.int .i64 0,.int .i64 0,.int .i64 0]],[.arr [.i .i64,.i .i64,.i .i64,.i .i64,.i .i64] [],.arr [.i .i64] []],[.l [.i .i64,.i .i64,.i .i64,.i .i64,.i .i64],.l [.i .i64]],.cu [],[.arr [.i .i64,.i .i64,.i .i64,.i .i64,.i .i64] [],.arr [.i .i64] []],fun a=>jw a⟩
theorem Cy:jn aO 279 JG:=jn.of Qe (wd:=NE) (cx:=(iT aD [(183,ac4)] [(295,OD)] [] [])) (gG.make ⟨JB,trivial⟩ ⟨HT,trivial⟩ trivial) (fun a=>by kernel_rfl)
def pK (p0:aM) (p1:Int):Option (aM×(Int×Int×Int×Int×Int)×Int):=(aI p0.bv p1).bind fun a0=>(yN p0.af a0.2.2.2).bind fun a1=>bif a1.2 !=0 then If (aM.mk (bc.mk [] [] []) [] [],(0,0,0,0,0),a1.2) else (bP p0.bv).bind fun l2=>(bP p0.aj).bind fun l3=>(aI l2 (ae .i64 ((ut (F0s l2)) -1))).bind fun a4=>(fP l2 0 (ae .i64 ((ut (F0s l2)) -1))).bind fun _=>(aI l3 a0.2.2.2.1).bind fun _=>bif PP (p1<(ae .i64 ((ut (F0s l2)) -1))) then (jw (a1.1.aB,a1.1.be,a1.1.bi,(ae .i64 ((ut (F0s l2)) -1)).toNat,F0s l2,p1,a4.1,a4.2.1,a4.2.2.1,a4.2.2.2.1,a4.2.2.2.2,l2,cj l3 a0.2.2.2.1 (-1))).bind fun a7=>If (aM.mk a1.1 (a7.1.take ((ae .i64 ((ut (F0s l2)) -1)).toNat)) a7.2,a0,0) else If (aM.mk a1.1 (l2.take ((ae .i64 ((ut (F0s l2)) -1)).toNat)) (cj l3 a0.2.2.2.1 (-1)),a0,0)
def ap2:bA:=⟨ay.cons (Arg.agg dw) (ay.one (Arg.int .i64)),Arg.cu (ay.cons (Arg.agg dw) (ay.cons (Arg.agg (cH.row j9)) (ay.one (Arg.int .i64)))),fun a=>pK a.1 a.2,.na,NE⟩
theorem adz:aG aO 274 ap2:=aG.of abY (cx:=(iT aD [(293,ap0),(211,bA.clone j9),(32,bA.clone ki)] [(279,JG)] [(278,R3)] [])) rfl (gG.make ⟨ady,rY,lP,trivial⟩ ⟨Cy,trivial⟩ ⟨Jp,trivial⟩) (fun a=>by kernel_rfl)
def kM (p0:aM) (p1:Int×Int):Option (aM×(Int×Int×Int×Int×Int)×Int):=(oh p0 p1).bind fun a0=>bif a0.2 !=0 then If (aM.mk (bc.mk [] [] []) [] [],(0,0,0,0,0),a0.2) else (pK p0 a0.1).bind fun a1=>If a1
def alv:bA:=⟨ay.cons (Arg.agg dw) (ay.one (Arg.agg (cH.row iF))),Arg.cu (ay.cons (Arg.agg dw) (ay.cons (Arg.agg (cH.row j9)) (ay.one (Arg.int .i64)))),fun a=>kM a.1 a.2,.na,NE⟩
theorem QG:aG aO 234 alv:=Oc abA aD [(273,als),(274,ap2)] ⟨QF,adz,trivial⟩
def gY (a:R9):Option (Nat×Nat×cd):=bif (((PP (0<=a.1))&&(PP (a.1<=a.2.1)))&&(PP (a.2.1<=(ut (F0s a.2.2)))))&&(PP ((ut (F0s a.2.2))<=(ut (F0s a.2.2)))) then bif a.1==a.2.1 then bif (F0s a.2.2)==(F0s a.2.2) then If (F0s a.2.2,F0s a.2.2,a.2.2) else IR else (fP a.2.2 0 a.1).bind fun _=>bif ((PP (0<=a.2.1))&&(PP (a.2.1<=(ut (F0s a.2.2)))))&&(PP ((ut (F0s a.2.2))<=(ut (F0s a.2.2)))) then bif ((a.2.2.drop (0+a.2.1.toNat)).take (((ut (F0s a.2.2)).toNat) -a.2.1.toNat)).isEmpty then bif ((PP (0<=(ut a.1.toNat)))&&(PP ((ut a.1.toNat)<=(ut (F0s a.2.2)))))&&(PP ((ut (F0s a.2.2))<=(ut (F0s a.2.2)))) then bif EQ (((ut (F0s a.2.2)).toNat) - ((ut a.1.toNat).toNat)) 0 then bif (F0s a.2.2)==(F0s a.2.2) then If (a.1.toNat,F0s a.2.2,a.2.2) else IR else bif (Do ((0+((ut a.1.toNat).toNat))+(((ut (F0s a.2.2)).toNat) - ((ut a.1.toNat).toNat))) (F0s a.2.2))&&(!NE) then bif ((eZ a.2.2 (0+((ut a.1.toNat).toNat)) (ww (((ut (F0s a.2.2)).toNat) - ((ut a.1.toNat).toNat)) (0,0,0))).length)==(F0s a.2.2) then If (a.1.toNat,F0s a.2.2,eZ a.2.2 (0+((ut a.1.toNat).toNat)) (ww (((ut (F0s a.2.2)).toNat) - ((ut a.1.toNat).toNat)) (0,0,0))) else IR else IR else IR else bif Do (a.1.toNat+(((a.2.2.drop (0+a.2.1.toNat)).take (((ut (F0s a.2.2)).toNat) -a.2.1.toNat)).length)) (F0s a.2.2) then bif (Do (a.1.toNat+(((a.2.2.drop (0+a.2.1.toNat)).take (((ut (F0s a.2.2)).toNat) -a.2.1.toNat)).length)) (F0s a.2.2))&&(!NE) then bif ((PP (0<=(ut (a.1.toNat+(((a.2.2.drop (0+a.2.1.toNat)).take (((ut (F0s a.2.2)).toNat) -a.2.1.toNat)).length)))))&&(PP ((ut (a.1.toNat+(((a.2.2.drop (0+a.2.1.toNat)).take (((ut (F0s a.2.2)).toNat) -a.2.1.toNat)).length)))<=(ut (F0s a.2.2)))))&&(PP ((ut (F0s a.2.2))<=(ut (F0s a.2.2)))) then bif EQ (((ut (F0s a.2.2)).toNat) - ((ut (a.1.toNat+(((a.2.2.drop (0+a.2.1.toNat)).take (((ut (F0s a.2.2)).toNat) -a.2.1.toNat)).length))).toNat)) 0 then bif ((eZ a.2.2 a.1.toNat ((a.2.2.drop (0+a.2.1.toNat)).take (((ut (F0s a.2.2)).toNat) -a.2.1.toNat))).length)==(F0s a.2.2) then If (a.1.toNat+(((a.2.2.drop (0+a.2.1.toNat)).take (((ut (F0s a.2.2)).toNat) -a.2.1.toNat)).length),F0s a.2.2,eZ a.2.2 a.1.toNat ((a.2.2.drop (0+a.2.1.toNat)).take (((ut (F0s a.2.2)).toNat) -a.2.1.toNat))) else IR else bif (Do ((0+((ut (a.1.toNat+(((a.2.2.drop (0+a.2.1.toNat)).take (((ut (F0s a.2.2)).toNat) -a.2.1.toNat)).length))).toNat))+(((ut (F0s a.2.2)).toNat) - ((ut (a.1.toNat+(((a.2.2.drop (0+a.2.1.toNat)).take (((ut (F0s a.2.2)).toNat) -a.2.1.toNat)).length))).toNat))) ((eZ a.2.2 a.1.toNat ((a.2.2.drop (0+a.2.1.toNat)).take (((ut (F0s a.2.2)).toNat) -a.2.1.toNat))).length))&&(!NE) then bif ((eZ (eZ a.2.2 a.1.toNat ((a.2.2.drop (0+a.2.1.toNat)).take (((ut (F0s a.2.2)).toNat) -a.2.1.toNat))) (0+((ut (a.1.toNat+(((a.2.2.drop (0+a.2.1.toNat)).take (((ut (F0s a.2.2)).toNat) -a.2.1.toNat)).length))).toNat)) (ww (((ut (F0s a.2.2)).toNat) - ((ut (a.1.toNat+(((a.2.2.drop (0+a.2.1.toNat)).take (((ut (F0s a.2.2)).toNat) -a.2.1.toNat)).length))).toNat)) (0,0,0))).length)==(F0s a.2.2) then If (a.1.toNat+(((a.2.2.drop (0+a.2.1.toNat)).take (((ut (F0s a.2.2)).toNat) -a.2.1.toNat)).length),F0s a.2.2,eZ (eZ a.2.2 a.1.toNat ((a.2.2.drop (0+a.2.1.toNat)).take (((ut (F0s a.2.2)).toNat) -a.2.1.toNat))) (0+((ut (a.1.toNat+(((a.2.2.drop (0+a.2.1.toNat)).take (((ut (F0s a.2.2)).toNat) -a.2.1.toNat)).length))).toNat)) (ww (((ut (F0s a.2.2)).toNat) - ((ut (a.1.toNat+(((a.2.2.drop (0+a.2.1.toNat)).take (((ut (F0s a.2.2)).toNat) -a.2.1.toNat)).length))).toNat)) (0,0,0))) else IR else IR else IR else IR else IR else IR else IR
def Vb:dP:=⟨[.i,.i,.l [.i .i64,.i .i64,.i .i64]],[.own 0 NE,.int .i64 0,.int .i64 0],[.arr [.i .i64,.i .i64,.i .i64] []],[.n,.n,.l [.i .i64,.i .i64,.i .i64]],.pre 0 0 0 NE,[.arr [.i .i64,.i .i64,.i .i64] []],fun a=>gY a⟩
theorem Sg:jn aO 235 Vb:=jn.of abB (wd:=M2) (cx:=(iT aD [] [] [] [])) (gG.make trivial trivial trivial) (fun a=>by kernel_rfl)
def o5 (p0:aP) (p1:Int):Option (aP×(Int×Int)×Int):=(th p0.ai p1).bind fun a0=>bif a0.2.2 !=0 then If (hY,a0.2) else (lG p0).bind fun r1=>(nu p0.io p1).bind fun a2=>bif a2.2 then (aI p0.io a2.1).bind fun a3=>(kM p0.aa a3.2).bind fun a4=>bif a4.2.2 !=0 then If (hY,a0.2.1,a4.2.2) else (gY (a2.1,ae .i64 (a2.1+1),r1.io)).bind fun a5=>If (aP.mk r1.ci r1.ii a0.1 a4.1 (a5.2.2.take a5.1),a0.2.1,0) else If (aP.mk r1.ci r1.ii a0.1 r1.aa r1.io,a0.2.1,0)
def ap3:bA:=⟨ay.cons (Arg.agg bV) (ay.one (Arg.int .i64)),Arg.cu (ay.cons (Arg.agg bV) (ay.cons (Arg.agg (cH.row iF)) (ay.one (Arg.int .i64)))),fun a=>o5 a.1 a.2,.na,NE⟩
theorem adA:aG aO 179 ap3:=aG.of aa3 (cx:=(iT aD [(232,apX),(180,adv),(180,QC),(233,alq),(234,alv)] [(235,Vb)] [] [])) rfl (gG.make ⟨adu,JF,FI,QD,QG,trivial⟩ ⟨Sg,trivial⟩ trivial) (fun a=>by kernel_rfl)
def ru (p0:aP) (p1:Int):Option (aP×Int):=(gj p0).bind fun n0=>bif n0 !=0 then If (hY,n0) else (o5 p0 p1).bind fun a1=>If (a1.1,a1.2.2)
def ap4:bA:=⟨ay.cons (Arg.agg bV) (ay.one (Arg.int .i64)),Arg.cu (ay.cons (Arg.agg bV) (ay.one (Arg.int .i64))),fun a=>ru a.1 a.2,.na,NE⟩
theorem adB:aG aO 204 ap4:=Oc abb aD [(74,c74),(179,ap3)] ⟨FH,adA,trivial⟩
def iE (s:(cd×cd×Int×Int)):Option (Step (cd×cd×Int×Int) Bool):=bif PP (s.2.2.2<s.2.2.1) then (aI s.1 s.2.2.2).bind fun a0=>(aI s.2.1 s.2.2.2).bind fun a1=>bif !((a0.1==a1.1)&&((a0.2.1==a1.2.1)&&(a0.2.2==a1.2.2))) then If (.done NE) else If (.next (s.1,s.2.1,s.2.2.1,ae .i64 (s.2.2.2+1))) else If (.done M2)
def kr (p0:List (Int×Int×Int)) (p1:List (Int×Int×Int)):Option Bool:=bif (ut (F0s p0)) !=(ut (F0s p1)) then If NE else ax iE (p0,p1,ut (F0s p0),0)
def ap5:bA:=⟨ay.cons (Arg.sl eb) (ay.one (Arg.sl eb)),Arg.bool,fun a=>kr a.1 a.2,.pure,NE⟩
theorem adC:aG aO 205 ap5:=Oc abc aD [] trivial
def bX (a:ach):Option G2:=(aI a.2.2.2.2.2.2.2.2.2.1 a.2.2.2.1).bind fun _=>(aI a.2.2.2.2.2.2.2.2.2.2 a.2.2.2.2.2.2.2.1).bind fun _=>bif ((cj a.2.2.2.2.2.2.2.2.2.1 a.2.2.2.1 (a.2.2.2.2.1,a.2.2.2.2.2.1,a.2.2.2.2.2.2.1,a.2.2.2.2.2.2.2.1,a.2.2.2.2.2.2.2.2.1)).length)==(F0s a.2.2.2.2.2.2.2.2.2.1) then bif ((cj a.2.2.2.2.2.2.2.2.2.2 a.2.2.2.2.2.2.2.1 a.2.2.2.1).length)==(F0s a.2.2.2.2.2.2.2.2.2.2) then If (cj a.2.2.2.2.2.2.2.2.2.1 a.2.2.2.1 (a.2.2.2.2.1,a.2.2.2.2.2.1,a.2.2.2.2.2.2.1,a.2.2.2.2.2.2.2.1,a.2.2.2.2.2.2.2.2.1),cj a.2.2.2.2.2.2.2.2.2.2 a.2.2.2.2.2.2.2.1 a.2.2.2.1) else IR else IR
def Vc:dP:=⟨[.l [.i .i64],.l [.b],.l [.i .i64],.i,.i,.i,.i,.i,.i,.l [.i .i64,.i .i64,.i .i64,.i .i64,.i .i64],.l [.i .i64]],[.agg [.sl [.i .i64] [],.sl [.b] [],.sl [.i .i64] [],.own 0 NE,.own 1 NE],.int .i64 0,.agg [.int .i64 0,.int .i64 0,.int .i64 0,.int .i64 0,.int .i64 0]],[.arr [.i .i64,.i .i64,.i .i64,.i .i64,.i .i64] [],.arr [.i .i64] []],[.l [.i .i64,.i .i64,.i .i64,.i .i64,.i .i64],.l [.i .i64]],.cu [],[.arr [.i .i64,.i .i64,.i .i64,.i .i64,.i .i64] [],.arr [.i .i64] []],fun a=>bX a⟩
theorem Sh:jn aO 295 Vc:=jn.of Qh (wd:=NE) (cx:=(iT aD [] [] [] [])) (gG.make trivial trivial trivial) (fun a=>by kernel_rfl)
end
end
end Go.Proofs.YtbgoiokedpjgbaaGreat
