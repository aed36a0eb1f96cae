/- Plain functions for what the functions of the seat compute. Printed by a program. -/
import Derived.Test.YtbgoiokedpjgbaaGreatBVm3
import Derived.Test.YtbgoiokedpjgbaaGreatBQXT
open Int renaming ofNat->ut,tdiv->v6,tmod->AC
open List renaming replicate->ww,length->F0s
open Nat renaming ble->Do,beq->EQ
open Option renaming some->If,none->IR
open Bool renaming true->M2,false->NE
open Decidable renaming decide->PP
set_option maxRecDepth 100000
namespace Go.Proofs.YtbgoiokedpjgbaaGreat
open Go.Vm
noncomputable section
theorem Oc {f:FuncId} {x:aJ} {α β:Type} {args:ax α} {res:Arg β} {kd:Kd} {fn:α->Option β} {ow:Bool} (hf:aO f=If (.code x)) (lp:Option Nat) (l:List (Nat×bz)) (h:AO aO l) (ho:X8 kd ow=M2:=by rfl) (e: ∀a,afH (iT lp l [] [] []) x args res kd a=fn a:=by intro a;kernel_rfl):aF aO f ⟨args,res,fn,kd,ow⟩:=aF.of hf (cx:=iT lp l [] [] []) ho (gI.make h trivial trivial) e
abbrev iH:List PT:=[.i .i64,.i .i64]
abbrev dQ:List PT:=[.i .i64,.i .i64,.i .i64]
abbrev ki:List PT:=[.i .i64]
abbrev kb:List PT:=[.b]
abbrev kr:List PT:=[.i .i64,.i .i64,.i .i64,.i .i64,.i .i64]
abbrev yd:List PT:=[.b,.i .u64,.i .u64]
abbrev apE:List PT:=[.i .i64,.i .i64,.i .i64,.i .i64]
abbrev kiu:List PT:=[.i .i64,.i .u64]
structure Field where
 am:List (Int×Int×Int)
def bN:cA Field:=cA.iso (cA.sl dQ) (fun p=>⟨p⟩) (fun c=>c.am) (fun _=>rfl)
structure bc where
 aA:List Int
 be:List Bool
 bi:List Int
def fJ:cA bc:=cA.iso (cA.prod (cA.sl ki) (cA.prod (cA.sl kb) (cA.sl ki))) (fun p=>⟨p.1,p.2.1,p.2.2⟩) (fun c=>(c.aA,c.be,c.bi)) (fun _=>rfl)
structure aK where
 af:bc
 bv:List (Int×Int×Int×Int×Int)
 aq:List Int
def cZ:cA aK:=cA.iso (cA.prod fJ (cA.prod (cA.sl kr) (cA.sl ki))) (fun p=>⟨p.1,p.2.1,p.2.2⟩) (fun c=>(c.af,c.bv,c.aq)) (fun _=>rfl)
structure bC where
 aM:Int
 ce:List (Int×Int×Int)
def gl:cA bC:=cA.iso (cA.prod (cA.int .i64) (cA.sl dQ)) (fun p=>⟨p.1,p.2⟩) (fun c=>(c.aM,c.ce)) (fun _=>rfl)
structure aP where
 ci:Int×Int
 ii:Field
 ai:bC
 ae:aK
 io:List (Int×Int×Int)
def bS:cA aP:=cA.iso (cA.prod (cA.row iH) (cA.prod bN (cA.prod gl (cA.prod cZ (cA.sl dQ))))) (fun p=>⟨p.1,p.2.1,p.2.2.1,p.2.2.2.1,p.2.2.2.2⟩) (fun c=>(c.ci,c.ii,c.ai,c.ae,c.io)) (fun _=>rfl)
structure bu where
 aL:List Int
 iU:List Int
def fq:cA bu:=cA.iso (cA.prod (cA.sl ki) (cA.sl ki)) (fun p=>⟨p.1,p.2⟩) (fun c=>(c.aL,c.iU)) (fun _=>rfl)
structure bJ where
 jp:aP
 kw:bu
def ft:cA bJ:=cA.iso (cA.prod bS fq) (fun p=>⟨p.1,p.2⟩) (fun c=>(c.jp,c.kw)) (fun _=>rfl)
theorem sF:aF aO 212 (bz.clone kb):=aF.clone abW rfl
theorem Vl:aF aO 289 (bz.Ly):=aF.Ly acL
theorem mb:aF aO 32 (bz.clone ki):=aF.clone akS rfl
theorem tF:aF aO 61 (bz.clone dQ):=aF.clone ald rfl
theorem vq:aF aO 209 (bz.clone dQ):=aF.clone abT rfl
theorem BQ:aF aO 210 (bz.clone dQ):=aF.clone abU rfl
theorem sG:aF aO 211 (bz.clone kr):=aF.clone abV rfl
theorem L2:aF aO 301 (bz.clone ki):=aF.clone acU rfl
abbrev gO:aP:=aP.mk (0,0) (Field.mk []) (bC.mk 0 []) (aK.mk (bc.mk [] [] []) [] []) []
section
abbrev js:=List (Int×Int×Int×Int×Int)
abbrev cj:=List (Int×Int×Int)
abbrev oW:=List (Int×Int)
abbrev apF:=oW×Int×Int×Int×cj×Int×cj×(List Int)×(List Bool)×(List Int)×js×(List Int)×cj×cj×Int×Int×Int×Int×Int×cj×Int×cj×(List Int)×(List Bool)×(List Int)×js×(List Int)×cj
abbrev Zt2:=Step apF (aP×Int)
abbrev Zt4:=Int×Int×Int×cj×Int×cj×(List Int)×(List Bool)×(List Int)×js×(List Int)×cj×cj×Int×Int×Int×Int×Int×cj×Int×cj×(List Int)×(List Bool)×(List Int)×js×(List Int)×cj
abbrev Zt8:=cj×cj×Int×Int×Int×Int×cj×Int×cj×(List Int)×(List Bool)×(List Int)×js×(List Int)×cj
abbrev apG:=oW×Int×Int×Int×Int×Int×Int×cj×Int×cj×(List Int)×(List Bool)×(List Int)×js×(List Int)×cj
abbrev apH:=Int×Int×Int×Int×cj×Int×cj×(List Int)×(List Bool)×(List Int)×js×(List Int)×cj×(List Int)
abbrev apI:=Step apH Int
abbrev alK:=Int×Int×Int×Int×cj×Int×cj×(List Int)×(List Bool)×(List Int)×js×(List Int)×cj
abbrev apJ:=Step alK Int
abbrev apK:=Int×js×(List Int)×(List Int)×(List Bool)×(List Int)×Nat×Nat×Int×Int×Int×Int×Int
abbrev Ho:=js×(List Int)
abbrev apL:=Step apK Ho
abbrev acV:=(List Int)×Int×Int×(List Int)×(List Int)×(List (Int×Bool))
abbrev apM:=Step acV Int
abbrev apN:=Step acV apM
abbrev apO:=js×Int×Int×(List Int)×(List Bool)×(List Int)×js×(List Int)×(List (List Int))
abbrev apP:=Int×Int×js×(List Int)×(List Int)×(List Bool)×(List Int)×Nat×Nat×Int×Int×Int×Int×Int
abbrev acW:=(List Int)×(List Bool)×(List Int)×Nat×Nat×Int×Int×Int×Int×Int×Int×js×(List Int)
abbrev acX:=(List Int)×(List Bool)×(List Int)×Int×Int×Int×Int×Int×Int×js×(List Int)
abbrev apQ:=(List Int)×Int×Int×(List Int)×(List Bool)×(List Int)×js×(List Int)
abbrev apR:=Step apQ Int
abbrev acY:=(List Int)×(List Bool)×(List Int)×Nat×Nat×Int×js×(List Int)
abbrev acZ:=Int×js×(List Int)×(List Int)×(List Bool)×(List Int)×Nat×Nat
abbrev apT:=(List Int)×Int×Int×cj×Int×Int×(List (Int×Bool))
abbrev apU:=Step apT (bu×Int)
abbrev alL:=Int×Int×(List Int)×(List Bool)×(List Int)×js×(List Int)
abbrev apV:=(List Int)×(List Bool)×(List Int)×Int×js×(List Int)
abbrev apW:=Int×js×(List Int)×(List Int)×(List Bool)×(List Int)
abbrev apX:=Int×cj×Int×Int×Int×cj×(List (List Int))
abbrev apY:=(List Int)×Int×Int×(List Int)×(List Bool)×(List Int)×Int×(List Bool)
abbrev apZ:=Step apY Int
abbrev ap0:=Int×(List Int)×Int×Int×Nat×Nat×Nat×Int×Int×(List Int)×oW
abbrev alM:=(List Int)×(List Bool)×(List Int)×js×(List Int)
abbrev SD:=Int×Int×(List Int)
abbrev alN:=Step SD (Nat×Nat×(List Int))
abbrev ap1:=Step SD alN
abbrev ap2:=Step ((List Int)×Int×Int×(List Int)×oW) oW
abbrev ap3:=Int×Int×Int×cj×Int×Int×cj
abbrev SF:=Int×cj×Int×Int×(List Int)×(List Int)
abbrev Hq:=cj×Int×Int×Int×Int
abbrev Vn:=Step Hq (Int×Bool)
abbrev Vo:=cj×Int×Int×cj
abbrev ac0:=Int×js×(List Int)
abbrev SG:=Int×Int×cj
abbrev alO:=Step SG Int
abbrev L3:=Int×cj
abbrev BS:=Int×(List Int)×(List Bool)×(List Int)×js×(List Int)
variable [LP]
def L4 (p0:Int):Option (Int×Int):=If (p0,1)
def c22:bz:=⟨ax.one (Arg.int .i64),Arg.agg (cA.row iH),fun a=>L4 a,.pure,NE⟩
theorem alP:aF aO 22 c22:=Oc akL aB [] trivial
def nE (p0:Int×Int×Int):Option Int:=bif PP (p0.1<0) then If 8 else bif PP (65535<p0.1) then If 8 else bif PP (p0.2.1<(-1048576)) then If 8 else bif PP (1048576<p0.2.1) then If 8 else bif PP (p0.2.2<(-1048576)) then If 8 else bif PP (1048576<p0.2.2) then If 8 else If 0
def ap4:bz:=⟨ax.one (Arg.agg (cA.row dQ)),Arg.int .i64,fun a=>nE a,.pure,NE⟩
theorem ac1:aF aO 148 ap4:=Oc abf aB [] trivial
def iu (s:L3):Option (Step L3 (Step L3 Int)):=bif PP (s.1<(ut (F0s s.2))) then (aI s.2 (aa .i64 (s.1-1))).bind fun a0=>(aI s.2 s.1).bind fun a1=>bif PP (a1.1<=a0.1) then If (.done (.done 32)) else If (.next (aa .i64 (s.1+1),s.2)) else If (.done (.done 0))
def lG (s:L3):Option (Step L3 Int):=bif PP (s.1<(ut (F0s s.2))) then (aI s.2 s.1).bind fun a0=>(nE a0).bind fun n1=>bif n1 !=0 then If (.done 8) else If (.next (aa .i64 (s.1+1),s.2)) else az iu (1,s.2)
def eJ (p0:Field):Option Int:=bif PP (64<(ut (F0s p0.am))) then If 4 else az lG (0,p0.am)
def c88:bz:=⟨ax.one (Arg.agg bN),Arg.int .i64,fun a=>eJ a,.pure,NE⟩
theorem Vp:aF aO 88 c88:=Oc alz aB [(148,ap4)] ⟨ac1,trivial⟩
def gJ (p0:Int):Option Int:=bif PP (p0<0) then If (aa .u64 ((aa .u64 (aa .i64 (0- (aa .i64 (p0+1)))))+1)) else If (aa .u64 p0)
def ac2:bz:=⟨ax.one (Arg.int .i64),Arg.int .u64,fun a=>gJ a,.pure,NE⟩
theorem JN:aF aO 117 ac2:=Oc aaW aB [] trivial
def mP (s:(Int×Int)):Option (Step (Int×Int) Int):=bif s.2 !=0 then bif s.2==0 then IR else If (.next (s.2,AC s.1 s.2)) else If (.done s.1)
def oj (p0:Int) (p1:Int):Option Int:=az mP (p0,p1)
def alQ:bz:=⟨ax.cons (Arg.int .u64) (ax.one (Arg.int .u64)),Arg.int .u64,fun a=>oj a.1 a.2,.pure,NE⟩
theorem QK:aF aO 116 alQ:=Oc aaV aB [] trivial
def nF (p0:Int×Int):Option Int:=bif PP (p0.2<1) then If 8 else bif p0.1==(-9223372036854775808) then If 8 else (gJ p0.1).bind fun n0=>(oj n0 (aa .u64 p0.2)).bind fun n1=>bif n1 !=1 then If 8 else If 0
def c66:bz:=⟨ax.one (Arg.agg (cA.row iH)),Arg.int .i64,fun a=>nF a,.pure,NE⟩
theorem OR:aF aO 66 c66:=Oc alg aB [(117,ac2),(116,alQ)] ⟨JN,QK,trivial⟩
def je (p0:Field):Option Field:=(bP p0.am).bind fun l0=>If (Field.mk l0)
def c71:bz:=⟨ax.one (Arg.agg bN),Arg.agg bN,fun a=>je a,.own,M2⟩
def Vq:bz:=⟨ax.one (Arg.agg bN),Arg.agg bN,fun a=>je a,.mO,NE⟩
theorem JO:aF aO 71 c71:=Oc Vi aB [] trivial
theorem Ep:aF aO 71 Vq:=Oc Vi aB [] trivial
def F5 (s:(Int×(List Int)×(List Bool)×(List Int))):Option (Step (Int×(List Int)×(List Bool)×(List Int)) bc):=bif PP (0<=s.1) then (bq s.2.2.2 [s.1]).bind fun l0=>If (.next (aa .i64 (s.1-1),s.2.1,s.2.2.1,l0)) else If (.done (bc.mk s.2.1 s.2.2.1 s.2.2.2))
def DD (p0:Int):Option bc:=bif p0==p0 then (xj p0 (0:Int)).bind fun l0=>bif p0==p0 then (xj p0 (NE:Bool)).bind fun l1=>az F5 (aa .i64 (p0-1),l0,l1,[]) else IR else IR
def ap6:bz:=⟨ax.one (Arg.int .i64),Arg.agg fJ,fun a=>DD a,.mO,NE⟩
theorem ac3:aF aO 256 ap6:=Oc acu aB [] trivial
def F6 (s:(Int×Int×(List Int)×(List Bool)×(List Int)×(List Int))):Option (Step (Int×Int×(List Int)×(List Bool)×(List Int)×(List Int)) aK):=bif PP (s.2.1<s.1) then (bq s.2.2.2.2.2 [-1]).bind fun l0=>If (.next (s.1,aa .i64 (s.2.1+1),s.2.2.1,s.2.2.2.1,s.2.2.2.2.1,l0)) else If (.done (aK.mk (bc.mk s.2.2.1 s.2.2.2.1 s.2.2.2.2.1) [] s.2.2.2.2.2))
def DE (p0:Int):Option aK:=(DD p0).bind fun r0=>az F6 (p0,0,r0.aA,r0.be,r0.bi,[])
def ap7:bz:=⟨ax.one (Arg.int .i64),Arg.agg cZ,fun a=>DE a,.mO,NE⟩
theorem ac4:aF aO 222 ap7:=Oc ab5 aB [(256,ap6)] ⟨ac3,trivial⟩
def DF (p0:Field) (p1:Int×Int):Option aP:=(je p0).bind fun r0=>(DE 200).bind fun r1=>If (aP.mk p1 r0 (bC.mk 0 []) r1 [])
def ap8:bz:=⟨ax.cons (Arg.agg bN) (ax.one (Arg.agg (cA.row iH))),Arg.agg bS,fun a=>DF a.1 a.2,.mO,NE⟩
theorem ac5:aF aO 156 ap8:=Oc abn aB [(71,c71),(71,Vq),(222,ap7)] ⟨JO,Ep,ac4,trivial⟩
def F7 (s:(Int×Int×cj×(List Int))):Option (Step (Int×Int×cj×(List Int)) (Step L3 (List Int))):=bif PP (s.2.1<s.1) then bif PP (s.2.1<(ut (F0s s.2.2.1))) then (aI s.2.2.1 s.2.1).bind fun a0=>(bq s.2.2.2 [a0.1]).bind fun l1=>If (.next (s.1,aa .i64 (s.2.1+1),s.2.2.1,l1)) else (bq s.2.2.2 [-1]).bind fun l2=>If (.next (s.1,aa .i64 (s.2.1+1),s.2.2.1,l2)) else If (.done (.done s.2.2.2))
def F8 (s:L3):Option (Step L3 (List Int)):=bif PP (s.1<(ut (F0s s.2))) then If (.next (aa .i64 (s.1*2),s.2)) else az F7 (s.1,0,s.2,[])
def DG (p0:Field):Option (List Int):=az F8 (1,p0.am)
def ap9:bz:=⟨ax.one (Arg.agg bN),Arg.sl ki,fun a=>DG a,.mO,NE⟩
theorem ac6:aF aO 157 ap9:=Oc abo aB [] trivial
def iv (p0:bu) (p1:Int):Option Int:=bif PP (p1<(ut (F0s p0.iU))) then (aI p0.iU p1).bind fun n0=>If n0 else (aI p0.aL (aa .i64 (p1- (ut (F0s p0.iU))))).bind fun n1=>If n1
def Vr:bz:=⟨ax.cons (Arg.agg fq) (ax.one (Arg.int .i64)),Arg.int .i64,fun a=>iv a.1 a.2,.pure,NE⟩
theorem Er:aF aO 102 Vr:=Oc aaN aB [] trivial
def qD (s:SG):Option alO:=bif PP (s.2.1<(ut (F0s s.2.2))) then (aI s.2.2 s.2.1).bind fun a0=>bif a0.1==s.1 then If (.done s.2.1) else If (.next (s.1,aa .i64 (s.2.1+1),s.2.2)) else If (.done (-1))
def eS (p0:Field) (p1:Int):Option Int:=az qD (p1,0,p0.am)
def c89:bz:=⟨ax.cons (Arg.agg bN) (ax.one (Arg.int .i64)),Arg.int .i64,fun a=>eS a.1 a.2,.pure,NE⟩
theorem F9:aF aO 89 c89:=Oc alA aB [] trivial
def pT (p0:Int) (p1:Int):Option (Bool×Int×Int):=If (NE,aa .u64 ((aa .u64 ((aa .u64 ((aa .u64 (v6 p0 4294967296))*(aa .u64 (v6 p1 4294967296))))+(aa .u64 (v6 (aa .u64 ((aa .u64 ((aa .u64 (v6 p0 4294967296))*(AC p1 4294967296)))+(aa .u64 (v6 (aa .u64 ((AC p0 4294967296)*(AC p1 4294967296))) 4294967296)))) 4294967296))))+(aa .u64 (v6 (aa .u64 ((aa .u64 ((AC p0 4294967296)*(aa .u64 (v6 p1 4294967296))))+(AC (aa .u64 ((aa .u64 ((aa .u64 (v6 p0 4294967296))*(AC p1 4294967296)))+(aa .u64 (v6 (aa .u64 ((AC p0 4294967296)*(AC p1 4294967296))) 4294967296)))) 4294967296))) 4294967296))),aa .u64 ((aa .u64 ((AC (aa .u64 ((aa .u64 ((AC p0 4294967296)*(aa .u64 (v6 p1 4294967296))))+(AC (aa .u64 ((aa .u64 ((aa .u64 (v6 p0 4294967296))*(AC p1 4294967296)))+(aa .u64 (v6 (aa .u64 ((AC p0 4294967296)*(AC p1 4294967296))) 4294967296)))) 4294967296))) 4294967296)*4294967296))+(AC (aa .u64 ((AC p0 4294967296)*(AC p1 4294967296))) 4294967296)))
def ap':bz:=⟨ax.cons (Arg.int .u64) (ax.one (Arg.int .u64)),Arg.agg (cA.row yd),fun a=>pT a.1 a.2,.pure,NE⟩
theorem ac7:aF aO 173 ap':=Oc abB aB [] trivial
def jf (p0:Int) (p1:Int):Option (Bool×Int×Int):=(gJ p0).bind fun n0=>(gJ p1).bind fun n1=>(pT n0 n1).bind fun a2=>bif !((PP (p0<0))==(PP (p1<0))) then bif p0 !=0 then If (p1 !=0,a2.2) else If (NE,a2.2) else If (NE,a2.2)
def alR:bz:=⟨ax.cons (Arg.int .i64) (ax.one (Arg.int .i64)),Arg.agg (cA.row yd),fun a=>jf a.1 a.2,.pure,NE⟩
theorem QL:aF aO 118 alR:=Oc aaX aB [(117,ac2),(173,ap')] ⟨JN,ac7,trivial⟩
def ph (p0:Bool×Int×Int) (p1:Bool×Int×Int):Option Int:=bif p0.2.1 !=p1.2.1 then bif PP (p0.2.1<p1.2.1) then If (-1) else If 1 else bif p0.2.2 !=p1.2.2 then bif PP (p0.2.2<p1.2.2) then If (-1) else If 1 else If 0
def alS:bz:=⟨ax.cons (Arg.agg (cA.row yd)) (ax.one (Arg.agg (cA.row yd))),Arg.int .i64,fun a=>ph a.1 a.2,.pure,NE⟩
theorem QM:aF aO 120 alS:=Oc aaZ aB [] trivial
def qE (p0:Bool×Int×Int) (p1:Bool×Int×Int):Option (Bool×Int×Int):=bif PP (p0.2.2<p1.2.2) then If (NE,aa .u64 ((aa .u64 (p0.2.1-p1.2.1)) -1),aa .u64 (p0.2.2-p1.2.2)) else If (NE,aa .u64 (p0.2.1-p1.2.1),aa .u64 (p0.2.2-p1.2.2))
def aqa:bz:=⟨ax.cons (Arg.agg (cA.row yd)) (ax.one (Arg.agg (cA.row yd))),Arg.agg (cA.row yd),fun a=>qE a.1 a.2,.pure,NE⟩
theorem ac8:aF aO 285 aqa:=Oc acK aB [] trivial
def wm (p0:Bool×Int×Int) (p1:Bool×Int×Int):Option (Bool×Int×Int):=bif p0.1==p1.1 then bif PP ((aa .u64 (p0.2.2+p1.2.2))<p0.2.2) then If (p0.1,aa .u64 ((aa .u64 (p0.2.1+p1.2.1))+1),aa .u64 (p0.2.2+p1.2.2)) else If (p0.1,aa .u64 (p0.2.1+p1.2.1),aa .u64 (p0.2.2+p1.2.2)) else (ph p0 p1).bind fun n0=>bif PP (0<=n0) then (qE p0 p1).bind fun a1=>bif p0.1 then bif PP (0<a1.2.1) then If (M2,a1.2) else If (PP (0<a1.2.2),a1.2) else If (NE,a1.2) else (qE p1 p0).bind fun a2=>If (p1.1,a2.2)
def aqb:bz:=⟨ax.cons (Arg.agg (cA.row yd)) (ax.one (Arg.agg (cA.row yd))),Arg.agg (cA.row yd),fun a=>wm a.1 a.2,.pure,NE⟩
theorem ac9:aF aO 258 aqb:=Oc acw aB [(120,alS),(285,aqa)] ⟨QM,ac8,trivial⟩
def kv (p0:Bool×Int×Int):Option Int:=bif p0.2.1==0 then bif p0.2.2==0 then If 0 else bif p0.1 then If (-1) else If 1 else bif p0.1 then If (-1) else If 1
def alT:bz:=⟨ax.one (Arg.agg (cA.row yd)),Arg.int .i64,fun a=>kv a,.pure,NE⟩
theorem QN:aF aO 119 alT:=Oc aaY aB [] trivial
def za (p0:Int×Int×Int) (p1:Int×Int×Int) (p2:Int×Int):Option Int:=(jf (aa .i64 (p0.2.1-p1.2.1)) p2.2).bind fun a0=>(jf (aa .i64 (p0.2.2-p1.2.2)) p2.1).bind fun a1=>(wm a0 a1).bind fun a2=>(kv a2).bind fun n3=>If n3
def aqc:bz:=⟨ax.cons (Arg.agg (cA.row dQ)) (ax.cons (Arg.agg (cA.row dQ)) (ax.one (Arg.agg (cA.row iH)))),Arg.int .i64,fun a=>za a.1 a.2.1 a.2.2,.pure,NE⟩
theorem ac':aF aO 224 aqc:=Oc ab7 aB [(118,alR),(258,aqb),(119,alT)] ⟨QL,ac9,QN,trivial⟩
def nG (p0:Int×Int×Int) (p1:Int×Int×Int) (p2:Int×Int):Option Bool:=(za p0 p1 p2).bind fun n0=>bif n0 !=0 then If (PP (0<n0)) else bif p0.2.2 !=p1.2.2 then If (PP (p1.2.2<p0.2.2)) else If (PP (p0.1<p1.1))
def ada:bz:=⟨ax.cons (Arg.agg (cA.row dQ)) (ax.cons (Arg.agg (cA.row dQ)) (ax.one (Arg.agg (cA.row iH)))),Arg.bool,fun a=>nG a.1 a.2.1 a.2.2,.pure,NE⟩
theorem JP:aF aO 164 ada:=Oc abw aB [(224,aqc)] ⟨ac',trivial⟩
def rZ (p0:Field) (p1:Int×Int) (p2:Int) (p3:Int):Option Int:=bif PP (p2<0) then If p3 else bif PP (p3<0) then If p2 else (eS p0 p2).bind fun n0=>(aI p0.am n0).bind fun a1=>(eS p0 p3).bind fun n2=>(aI p0.am n2).bind fun a3=>(nG a1 a3 p1).bind fun b4=>bif b4 then If p2 else If p3
def alU:bz:=⟨ax.cons (Arg.agg bN) (ax.cons (Arg.agg (cA.row iH)) (ax.cons (Arg.int .i64) (ax.one (Arg.int .i64)))),Arg.int .i64,fun a=>rZ a.1 a.2.1 a.2.2.1 a.2.2.2,.pure,NE⟩
theorem QO:aF aO 103 alU:=Oc aaO aB [(89,c89),(164,ada)] ⟨F9,JP,trivial⟩
def lH (s:SF):Option (Step SF bu):=bif PP (0<=s.1) then (iv (bu.mk s.2.2.2.2.1 s.2.2.2.2.2) (aa .i64 ((aa .i64 (2*s.1))+1))).bind fun n0=>(iv (bu.mk s.2.2.2.2.1 s.2.2.2.2.2) (aa .i64 ((aa .i64 (2*s.1))+2))).bind fun n1=>(rZ (Field.mk s.2.1) (s.2.2.1,s.2.2.2.1) n0 n1).bind fun n2=>(aI s.2.2.2.2.2 s.1).bind fun _=>If (.next (aa .i64 (s.1-1),s.2.1,s.2.2.1,s.2.2.2.1,s.2.2.2.2.1,bZ s.2.2.2.2.2 s.1 n2)) else If (.done (bu.mk s.2.2.2.2.1 s.2.2.2.2.2))
def tG (p0:Field) (p1:Int×Int) (p2:List Int):Option bu:=(bP p2).bind fun l0=>bif (aa .i64 ((ut (F0s p2)) -1))==(aa .i64 ((ut (F0s p2)) -1)) then (xj (aa .i64 ((ut (F0s p2)) -1)) (0:Int)).bind fun l1=>az lH (aa .i64 ((ut (F0s l1)) -1),p0.am,p1.1,p1.2,l0,l1) else IR
def aqd:bz:=⟨ax.cons (Arg.agg bN) (ax.cons (Arg.agg (cA.row iH)) (ax.one (Arg.sl ki))),Arg.agg fq,fun a=>tG a.1 a.2.1 a.2.2,.mO,NE⟩
theorem adb:aF aO 149 aqd:=Oc abg aB [(102,Vr),(103,alU)] ⟨Er,QO,trivial⟩
def wq (p0:Field) (p1:Int×Int) (p2:List Int):Option bu:=(tG p0 p1 p2).bind fun r0=>If r0
def c91:bz:=⟨ax.cons (Arg.agg bN) (ax.cons (Arg.agg (cA.row iH)) (ax.one (Arg.sl ki))),Arg.agg fq,fun a=>wq a.1 a.2.1 a.2.2,.mO,NE⟩
theorem alV:aF aO 91 c91:=Oc alB aB [(149,aqd)] ⟨adb,trivial⟩
def tH (s:(Int×(List Int)×(List Int)×oW)):Option (Step (Int×(List Int)×(List Int)×oW) oW):=bif PP (s.1<(ut (F0s s.2.2.1))) then (iv (bu.mk s.2.1 s.2.2.1) (aa .i64 ((aa .i64 (2*s.1))+1))).bind fun n0=>(iv (bu.mk s.2.1 s.2.2.1) (aa .i64 ((aa .i64 (2*s.1))+2))).bind fun n1=>bif PP (n0<0) then If (.next (aa .i64 (s.1+1),s.2)) else bif PP (n1<0) then If (.next (aa .i64 (s.1+1),s.2)) else (aI s.2.2.1 s.1).bind fun n2=>bif n2==n0 then (bq s.2.2.2 [(n1,n0)]).bind fun l3=>If (.next (aa .i64 (s.1+1),s.2.1,s.2.2.1,l3)) else (bq s.2.2.2 [(n0,n1)]).bind fun l4=>If (.next (aa .i64 (s.1+1),s.2.1,s.2.2.1,l4)) else If (.done s.2.2.2)
def vt (p0:bu):Option oW:=az tH (0,p0.aL,p0.iU,[])
def c53:bz:=⟨ax.one (Arg.agg fq),Arg.sl iH,fun a=>vt a,.mO,NE⟩
theorem Vs:aF aO 53 c53:=Oc ak9 aB [(102,Vr)] ⟨Er,trivial⟩
def pj (p0:bC):Option bC:=(bP p0.ce).bind fun l0=>If (bC.mk p0.aM l0)
def c72:bz:=⟨ax.one (Arg.agg gl),Arg.agg gl,fun a=>pj a,.own,M2⟩
def ade:bz:=⟨ax.one (Arg.agg gl),Arg.agg gl,fun a=>pj a,.mO,NE⟩
theorem OS:aF aO 72 c72:=Oc Vj aB [] trivial
theorem JQ:aF aO 72 ade:=Oc Vj aB [] trivial
def nb (p0:bc):Option bc:=(bP p0.aA).bind fun l0=>(bP p0.be).bind fun l1=>(bP p0.bi).bind fun l2=>If (bc.mk l0 l1 l2)
def Vt:bz:=⟨ax.one (Arg.agg fJ),Arg.agg fJ,fun a=>nb a,.own,M2⟩
def L5:bz:=⟨ax.one (Arg.agg fJ),Arg.agg fJ,fun a=>nb a,.mO,NE⟩
theorem Es:aF aO 125 Vt:=Oc Qw aB [] trivial
theorem BT:aF aO 125 L5:=Oc Qw aB [] trivial
def lI (p0:aK):Option aK:=(nb p0.af).bind fun r0=>(bP p0.bv).bind fun l1=>(bP p0.aq).bind fun l2=>If (aK.mk r0 l1 l2)
def c73:bz:=⟨ax.one (Arg.agg cZ),Arg.agg cZ,fun a=>lI a,.own,M2⟩
def SH:bz:=⟨ax.one (Arg.agg cZ),Arg.agg cZ,fun a=>lI a,.mO,NE⟩
theorem F':aF aO 73 c73:=Oc Vk aB [(125,Vt),(125,L5)] ⟨Es,BT,trivial⟩
theorem BU:aF aO 73 SH:=Oc Vk aB [(125,Vt),(125,L5)] ⟨Es,BT,trivial⟩
def lJ (p0:aP):Option aP:=(je p0.ii).bind fun r0=>(pj p0.ai).bind fun r1=>(lI p0.ae).bind fun r2=>(bP p0.io).bind fun l3=>If (aP.mk p0.ci r0 r1 r2 l3)
def c29:bz:=⟨ax.one (Arg.agg bS),Arg.agg bS,fun a=>lJ a,.own,M2⟩
def Vu:bz:=⟨ax.one (Arg.agg bS),Arg.agg bS,fun a=>lJ a,.mO,NE⟩
theorem JR:aF aO 29 c29:=Oc Vf aB [(71,c71),(71,Vq),(72,c72),(72,ade),(73,c73),(73,SH)] ⟨JO,Ep,OS,JQ,F',BU,trivial⟩
theorem Et:aF aO 29 Vu:=Oc Vf aB [(71,c71),(71,Vq),(72,c72),(72,ade),(73,c73),(73,SH)] ⟨JO,Ep,OS,JQ,F',BU,trivial⟩
def tI (s:(oW×Int×Int×Int)):Option (Step (oW×Int×Int×Int) Bool):=bif PP (s.2.1<(ut (F0s s.1))) then (aI s.1 s.2.1).bind fun a0=>bif (a0.1==s.2.2.1)&&(a0.2==s.2.2.2) then If (.done M2) else If (.next (s.1,aa .i64 (s.2.1+1),s.2.2)) else If (.done NE)
def BV (p0:List (Int×Int)) (p1:Int×Int):Option Bool:=az tI (p0,0,p1)
def aqf:bz:=⟨ax.cons (Arg.sl iH) (ax.one (Arg.agg (cA.row iH))),Arg.bool,fun a=>BV a.1 a.2,.pure,NE⟩
theorem adf:aF aO 150 aqf:=Oc abh aB [] trivial
def jH (s:ap3):Option (Step ap3 bC):=bif PP (s.2.1<(ut (F0s s.2.2.2.1))) then (aI s.2.2.2.1 s.2.1).bind fun a0=>bif a0.1 !=s.1 then (aI s.2.2.2.1 s.2.1).bind fun a1=>(bq s.2.2.2.2.2.2 [a1]).bind fun l2=>If (.next (s.1,aa .i64 (s.2.1+1),s.2.2.1,s.2.2.2.1,s.2.2.2.2.1,s.2.2.2.2.2.1,l2)) else If (.next (s.1,aa .i64 (s.2.1+1),s.2.2)) else If (.done (bC.mk s.2.2.2.2.2.1 s.2.2.2.2.2.2))
def pU (p0:bC) (p1:Int):Option bC:=az jH (p1,0,p0.aM,p0.ce,0,p0.aM,[])
def aqg:bz:=⟨ax.cons (Arg.agg gl) (ax.one (Arg.int .i64)),Arg.agg gl,fun a=>pU a.1 a.2,.mO,NE⟩
theorem adg:aF aO 214 aqg:=Oc abX aB [] trivial
def om (s:alK):Option apJ:=bif PP (s.2.1<(ut (F0s s.2.2.2.2.2.2.2.2.2.2.2.2))) then (aI s.2.2.2.2.2.2.2.2.2.2.2.2 s.2.1).bind fun a0=>bif a0.1==s.1 then If (.done s.2.1) else If (.next (s.1,aa .i64 (s.2.1+1),s.2.2)) else If (.done (-1))
def nH (p0:aP) (p1:Int):Option Int:=az om (p1,0,p0.ci.1,p0.ci.2,p0.ii.am,p0.ai.aM,p0.ai.ce,p0.ae.af.aA,p0.ae.af.be,p0.ae.af.bi,p0.ae.bv,p0.ae.aq,p0.io)
def alW:bz:=⟨ax.cons (Arg.agg bS) (ax.one (Arg.int .i64)),Arg.int .i64,fun a=>nH a.1 a.2,.pure,NE⟩
theorem QP:aF aO 215 alW:=Oc abY aB [] trivial
def nI (p0:bc) (p1:Int×Int):Option bc:=(nb p0).bind fun r0=>(aI r0.be p1.1).bind fun _=>(bq r0.bi [p1.1]).bind fun l2=>If (bc.mk r0.aA (bZ r0.be p1.1 NE) l2)
def aqh:bz:=⟨ax.cons (Arg.agg fJ) (ax.one (Arg.agg (cA.row iH))),Arg.agg fJ,fun a=>nI a.1 a.2,.mO,NE⟩
theorem adh:aF aO 252 aqh:=Oc acr aB [(125,Vt),(125,L5)] ⟨Es,BT,trivial⟩
def pV (p0:Int×Int) (p1:Int×Int):Option Int:=(jf p0.1 p1.2).bind fun a0=>(jf p1.1 p0.2).bind fun a1=>(kv a0).bind fun n2=>(kv a1).bind fun n3=>bif n2 !=n3 then (kv a0).bind fun n4=>(kv a1).bind fun n5=>bif PP (n4<n5) then If (-1) else If 1 else (kv a0).bind fun n6=>bif PP (n6<0) then (ph a1 a0).bind fun n7=>If n7 else (ph a0 a1).bind fun n8=>If n8
def c67:bz:=⟨ax.cons (Arg.agg (cA.row iH)) (ax.one (Arg.agg (cA.row iH))),Arg.int .i64,fun a=>pV a.1 a.2,.pure,NE⟩
theorem alX:aF aO 67 c67:=Oc alh aB [(118,alR),(119,alT),(120,alS)] ⟨QL,QN,QM,trivial⟩
def dZ (p0:Int×Int×Int×Int×Int) (p1:Int×Int×Int×Int×Int):Option Bool:=(pV (p0.1,p0.2.1) (p1.1,p1.2.1)).bind fun n0=>bif PP (n0<0) then If M2 else bif n0==0 then If (PP (p0.2.2.1<p1.2.2.1)) else If NE
def OT:bz:=⟨ax.cons (Arg.agg (cA.row kr)) (ax.one (Arg.agg (cA.row kr))),Arg.bool,fun a=>dZ a.1 a.2,.pure,NE⟩
theorem zb:aF aO 161 OT:=Oc abt aB [(67,c67)] ⟨alX,trivial⟩
def fu (a:alL):Option alM:=(aI a.2.2.2.2.2.1 a.2.1).bind fun a0=>(aI a.2.2.2.2.2.1 a.1).bind fun a1=>(aI a.2.2.2.2.2.1 a.1).bind fun _=>(aI (bZ a.2.2.2.2.2.1 a.1 a0) a.2.1).bind fun _=>(aI (bZ (bZ a.2.2.2.2.2.1 a.1 a0) a.2.1 a1) a.1).bind fun a4=>(aI (bZ (bZ a.2.2.2.2.2.1 a.1 a0) a.2.1 a1) a.2.1).bind fun a5=>(aI a.2.2.2.2.2.2 a4.2.2.2.1).bind fun _=>(aI (bZ a.2.2.2.2.2.2 a4.2.2.2.1 a.1) a5.2.2.2.1).bind fun _=>bif (F0s a.2.2.1)==(F0s a.2.2.1) then bif (F0s a.2.2.2.1)==(F0s a.2.2.2.1) then bif (F0s a.2.2.2.2.1)==(F0s a.2.2.2.2.1) then bif ((bZ (bZ a.2.2.2.2.2.1 a.1 a0) a.2.1 a1).length)==(F0s a.2.2.2.2.2.1) then bif ((bZ (bZ a.2.2.2.2.2.2 a4.2.2.2.1 a.1) a5.2.2.2.1 a.2.1).length)==(F0s a.2.2.2.2.2.2) then If (a.2.2.1,a.2.2.2.1,a.2.2.2.2.1,bZ (bZ a.2.2.2.2.2.1 a.1 a0) a.2.1 a1,bZ (bZ a.2.2.2.2.2.2 a4.2.2.2.1 a.1) a5.2.2.2.1 a.2.1) else IR else IR else IR else IR else IR
def AQ:dN:=⟨[.i,.i,.l [.i .i64],.l [.b],.l [.i .i64],.l [.i .i64,.i .i64,.i .i64,.i .i64,.i .i64],.l [.i .i64]],[.agg [.own 0 NE,.own 1 NE,.own 2 NE,.own 3 NE,.own 4 NE],.int .i64 0,.int .i64 0],[.arr [.i .i64] [],.arr [.b] [],.arr [.i .i64] [],.arr [.i .i64,.i .i64,.i .i64,.i .i64,.i .i64] [],.arr [.i .i64] []],[.l [.i .i64],.l [.b],.l [.i .i64],.l [.i .i64,.i .i64,.i .i64,.i .i64,.i .i64],.l [.i .i64]],.cq [],[.arr [.i .i64] [],.arr [.b] [],.arr [.i .i64] [],.arr [.i .i64,.i .i64,.i .i64,.i .i64,.i .i64] [],.arr [.i .i64] []],fun a=>fu a⟩
theorem sd:jr aO 251 AQ:=jr.of JK (wd:=NE) (cx:=(iT aB [] [] [] [])) (gI.make trivial trivial trivial) (fun a=>by kernel_rfl)
def fZ (a:((List Int)×(List Bool)×(List Int)×Nat×Nat×Int×Int×js×(List Int))):Option Ho:=(aI (a.2.2.2.2.2.2.2.1.take a.2.2.2.1) a.2.2.2.2.2.2.1).bind fun a0=>(aI (a.2.2.2.2.2.2.2.1.take a.2.2.2.1) a.2.2.2.2.2.1).bind fun a1=>(aI (a.2.2.2.2.2.2.2.1.take a.2.2.2.1) a.2.2.2.2.2.1).bind fun _=>(aI ((bZ a.2.2.2.2.2.2.2.1 a.2.2.2.2.2.1 a0).take a.2.2.2.1) a.2.2.2.2.2.2.1).bind fun _=>(aI ((bZ (bZ a.2.2.2.2.2.2.2.1 a.2.2.2.2.2.1 a0) a.2.2.2.2.2.2.1 a1).take a.2.2.2.1) a.2.2.2.2.2.1).bind fun a4=>(aI ((bZ (bZ a.2.2.2.2.2.2.2.1 a.2.2.2.2.2.1 a0) a.2.2.2.2.2.2.1 a1).take a.2.2.2.1) a.2.2.2.2.2.2.1).bind fun a5=>(aI a.2.2.2.2.2.2.2.2 a4.2.2.2.1).bind fun _=>(aI (bZ a.2.2.2.2.2.2.2.2 a4.2.2.2.1 a.2.2.2.2.2.1) a5.2.2.2.1).bind fun _=>bif ((bZ (bZ a.2.2.2.2.2.2.2.1 a.2.2.2.2.2.1 a0) a.2.2.2.2.2.2.1 a1).length)==(F0s a.2.2.2.2.2.2.2.1) then bif ((bZ (bZ a.2.2.2.2.2.2.2.2 a4.2.2.2.1 a.2.2.2.2.2.1) a5.2.2.2.1 a.2.2.2.2.2.2.1).length)==(F0s a.2.2.2.2.2.2.2.2) then If (bZ (bZ a.2.2.2.2.2.2.2.1 a.2.2.2.2.2.1 a0) a.2.2.2.2.2.2.1 a1,bZ (bZ a.2.2.2.2.2.2.2.2 a4.2.2.2.1 a.2.2.2.2.2.1) a5.2.2.2.1 a.2.2.2.2.2.2.1) else IR else IR
def AR:dN:=⟨[.l [.i .i64],.l [.b],.l [.i .i64],.n,.n,.i,.i,.l [.i .i64,.i .i64,.i .i64,.i .i64,.i .i64],.l [.i .i64]],[.agg [.sl [.i .i64] [],.sl [.b] [],.sl [.i .i64] [],.pre 0 0 0 NE,.own 1 NE],.int .i64 0,.int .i64 0],[.arr [.i .i64,.i .i64,.i .i64,.i .i64,.i .i64] [],.arr [.i .i64] []],[.l [.i .i64,.i .i64,.i .i64,.i .i64,.i .i64],.l [.i .i64]],.cq [],[.arr [.i .i64,.i .i64,.i .i64,.i .i64,.i .i64] [],.arr [.i .i64] []],fun a=>fZ a⟩
theorem sf:jr aO 251 AR:=jr.of JK (wd:=NE) (cx:=(iT aB [] [] [] [])) (gI.make trivial trivial trivial) (fun a=>by kernel_rfl)
def gC (c0:acY) (s:acZ):Option (Step acZ ac0):=bif PP (0<s.1) then (aI (s.2.1.take s.2.2.2.2.2.2.1) s.1).bind fun a0=>(aI (s.2.1.take s.2.2.2.2.2.2.1) (aa .i64 (v6 (aa .i64 (s.1-1)) 2))).bind fun a1=>(dZ a0 a1).bind fun b2=>bif b2 then (fZ (s.2.2.2.1,s.2.2.2.2.1,s.2.2.2.2.2.1,s.2.2.2.2.2.2.1,s.2.2.2.2.2.2.2,s.1,aa .i64 (v6 (aa .i64 (s.1-1)) 2),s.2.1,s.2.2.1)).bind fun a3=>If (.next (aa .i64 (v6 (aa .i64 (s.1-1)) 2),a3.1,a3.2,s.2.2.2)) else bif (F0s s.2.1)==(F0s c0.2.2.2.2.2.2.1) then bif (F0s s.2.2.1)==(F0s c0.2.2.2.2.2.2.2) then If (.done (s.1,s.2.1,s.2.2.1)) else IR else IR else bif (F0s s.2.1)==(F0s c0.2.2.2.2.2.2.1) then bif (F0s s.2.2.1)==(F0s c0.2.2.2.2.2.2.2) then If (.done (s.1,s.2.1,s.2.2.1)) else IR else IR
def lK (a:acY):Option ac0:=az (gC a) (a.2.2.2.2.2.1,a.2.2.2.2.2.2.1,a.2.2.2.2.2.2.2,a.1,a.2.1,a.2.2.1,a.2.2.2.1,a.2.2.2.2.1)
def JS:dN:=⟨[.l [.i .i64],.l [.b],.l [.i .i64],.n,.n,.i,.l [.i .i64,.i .i64,.i .i64,.i .i64,.i .i64],.l [.i .i64]],[.agg [.sl [.i .i64] [],.sl [.b] [],.sl [.i .i64] [],.pre 0 0 0 NE,.own 1 NE],.int .i64 0],[.arr [.i .i64,.i .i64,.i .i64,.i .i64,.i .i64] [],.arr [.i .i64] []],[.i,.l [.i .i64,.i .i64,.i .i64,.i .i64,.i .i64],.l [.i .i64]],.int .i64 0,[.arr [.i .i64,.i .i64,.i .i64,.i .i64,.i .i64] [],.arr [.i .i64] []],fun a=>lK a⟩
theorem C1:jr aO 254 JS:=jr.of JL (wd:=M2) (cx:=(iT aB [(161,OT)] [(251,AQ),(251,AR)] [] [])) (gI.make ⟨zb,trivial⟩ ⟨sd,sf,trivial⟩ trivial) (fun a=>by kernel_rfl)
def jv (c0:acY) (s:acZ):Option (Step acZ Ho):=match s with |(a,b,d,e,f,g,h,i)=>bif PP ((ut h)<=(aa .i64 ((aa .i64 (2*a))+1))) then bif (F0s b)==(F0s c0.2.2.2.2.2.2.1) then bif (F0s d)==(F0s c0.2.2.2.2.2.2.2) then If (.done (b,d)) else IR else IR else bif PP ((aa .i64 ((aa .i64 ((aa .i64 (2*a))+1))+1))<(ut h)) then (aI (b.take h) (aa .i64 ((aa .i64 ((aa .i64 (2*a))+1))+1))).bind fun a0=>(aI (b.take h) (aa .i64 ((aa .i64 (2*a))+1))).bind fun a1=>(dZ a0 a1).bind fun b2=>bif b2 then (aI (b.take h) (aa .i64 ((aa .i64 ((aa .i64 (2*a))+1))+1))).bind fun a3=>(aI (b.take h) a).bind fun a4=>(dZ a3 a4).bind fun b5=>bif !b5 then bif (F0s b)==(F0s c0.2.2.2.2.2.2.1) then bif (F0s d)==(F0s c0.2.2.2.2.2.2.2) then If (.done (b,d)) else IR else IR else (fZ (e,f,g,h,i,a,aa .i64 ((aa .i64 ((aa .i64 (2*a))+1))+1),b,d)).bind fun a6=>If (.next (aa .i64 ((aa .i64 ((aa .i64 (2*a))+1))+1),a6.1,a6.2,(e,f,g,h,i))) else (aI (b.take h) (aa .i64 ((aa .i64 (2*a))+1))).bind fun a7=>(aI (b.take h) a).bind fun a8=>(dZ a7 a8).bind fun b9=>bif !b9 then bif (F0s b)==(F0s c0.2.2.2.2.2.2.1) then bif (F0s d)==(F0s c0.2.2.2.2.2.2.2) then If (.done (b,d)) else IR else IR else (fZ (e,f,g,h,i,a,aa .i64 ((aa .i64 (2*a))+1),b,d)).bind fun xz=>If (.next (aa .i64 ((aa .i64 (2*a))+1),xz.1,xz.2,(e,f,g,h,i))) else (aI (b.take h) (aa .i64 ((aa .i64 (2*a))+1))).bind fun zW=>(aI (b.take h) a).bind fun a12=>(dZ zW a12).bind fun b13=>bif !b13 then bif (F0s b)==(F0s c0.2.2.2.2.2.2.1) then bif (F0s d)==(F0s c0.2.2.2.2.2.2.2) then If (.done (b,d)) else IR else IR else (fZ (e,f,g,h,i,a,aa .i64 ((aa .i64 (2*a))+1),b,d)).bind fun QQ=>If (.next (aa .i64 ((aa .i64 (2*a))+1),QQ.1,QQ.2,(e,f,g,h,i)))
def jI (a:acY):Option Ho:=az (jv a) (a.2.2.2.2.2.1,a.2.2.2.2.2.2.1,a.2.2.2.2.2.2.2,a.1,a.2.1,a.2.2.1,a.2.2.2.1,a.2.2.2.2.1)
def OU:dN:=⟨[.l [.i .i64],.l [.b],.l [.i .i64],.n,.n,.i,.l [.i .i64,.i .i64,.i .i64,.i .i64,.i .i64],.l [.i .i64]],[.agg [.sl [.i .i64] [],.sl [.b] [],.sl [.i .i64] [],.pre 0 0 0 NE,.own 1 NE],.int .i64 0],[.arr [.i .i64,.i .i64,.i .i64,.i .i64,.i .i64] [],.arr [.i .i64] []],[.l [.i .i64,.i .i64,.i .i64,.i .i64,.i .i64],.l [.i .i64]],.cq [],[.arr [.i .i64,.i .i64,.i .i64,.i .i64,.i .i64] [],.arr [.i .i64] []],fun a=>jI a⟩
theorem Ii:jr aO 253 OU:=jr.of QE (wd:=NE) (cx:=(iT aB [(161,OT)] [(251,AQ),(251,AR)] [] [])) (gI.make ⟨zb,trivial⟩ ⟨sd,sf,trivial⟩ trivial) (fun a=>by kernel_rfl)
def jg (p0:aK) (p1:Int×Int):Option aK:=(lI p0).bind fun r0=>(aI r0.aq p1.1).bind fun n1=>bif n1 !=(aa .i64 ((ut (F0s r0.bv)) -1)) then (fu (n1,aa .i64 ((ut (F0s r0.bv)) -1),r0.af.aA,r0.af.be,r0.af.bi,r0.bv,r0.aq)).bind fun a2=>(fW a2.2.2.2.1 0 (aa .i64 ((ut (F0s r0.bv)) -1))).bind fun _=>(aI a2.2.2.2.2 p1.1).bind fun _=>(nI (bc.mk a2.1 a2.2.1 a2.2.2.1) p1).bind fun r5=>bif n1 !=(aa .i64 ((ut (F0s r0.bv)) -1)) then (lK (r5.aA,r5.be,r5.bi,(aa .i64 ((ut (F0s r0.bv)) -1)).toNat,F0s a2.2.2.2.1,n1,a2.2.2.2.1,bZ a2.2.2.2.2 p1.1 (-1))).bind fun a6=>(jI (r5.aA,r5.be,r5.bi,(aa .i64 ((ut (F0s r0.bv)) -1)).toNat,F0s a2.2.2.2.1,a6)).bind fun a7=>If (aK.mk r5 (a7.1.take ((aa .i64 ((ut (F0s r0.bv)) -1)).toNat)) a7.2) else If (aK.mk r5 (a2.2.2.2.1.take ((aa .i64 ((ut (F0s r0.bv)) -1)).toNat)) (bZ a2.2.2.2.2 p1.1 (-1))) else (fW r0.bv 0 (aa .i64 ((ut (F0s r0.bv)) -1))).bind fun _=>(aI r0.aq p1.1).bind fun _=>(nI r0.af p1).bind fun r10=>bif n1 !=(aa .i64 ((ut (F0s r0.bv)) -1)) then (lK (r10.aA,r10.be,r10.bi,(aa .i64 ((ut (F0s r0.bv)) -1)).toNat,F0s r0.bv,n1,r0.bv,bZ r0.aq p1.1 (-1))).bind fun zW=>(jI (r10.aA,r10.be,r10.bi,(aa .i64 ((ut (F0s r0.bv)) -1)).toNat,F0s r0.bv,zW)).bind fun a12=>If (aK.mk r10 (a12.1.take ((aa .i64 ((ut (F0s r0.bv)) -1)).toNat)) a12.2) else If (aK.mk r10 (r0.bv.take ((aa .i64 ((ut (F0s r0.bv)) -1)).toNat)) (bZ r0.aq p1.1 (-1)))
def alY:bz:=⟨ax.cons (Arg.agg cZ) (ax.one (Arg.agg (cA.row iH))),Arg.agg cZ,fun a=>jg a.1 a.2,.mO,NE⟩
theorem QR:aF aO 216 alY:=aF.of abZ (cx:=(iT aB [(73,c73),(73,SH),(252,aqh)] [(251,AQ),(251,AR),(254,JS),(253,OU)] [] [])) rfl (gI.make ⟨F',BU,adh,trivial⟩ ⟨sd,sf,C1,Ii,trivial⟩ trivial) (fun a=>by kernel_rfl)
def sH (p0:aP) (p1:Int):Option aP:=(lJ p0).bind fun r0=>(pU p0.ai p1).bind fun r1=>(nH p0 p1).bind fun n2=>bif PP (0<=n2) then (aI p0.io n2).bind fun a3=>(jg p0.ae a3.2).bind fun r4=>(fW p0.io 0 n2).bind fun l5=>(bP l5).bind fun l6=>(fW p0.io (aa .i64 (n2+1)) (ut (F0s p0.io))).bind fun l7=>bif l7.isEmpty then If (aP.mk r0.ci r0.ii r1 r4 l6) else (bq l6 l7).bind fun l8=>If (aP.mk r0.ci r0.ii r1 r4 l8) else If (aP.mk r0.ci r0.ii r1 r0.ae r0.io)
def aqj:bz:=⟨ax.cons (Arg.agg bS) (ax.one (Arg.int .i64)),Arg.agg bS,fun a=>sH a.1 a.2,.mO,NE⟩
theorem adi:aF aO 151 aqj:=Oc abi aB [(29,c29),(29,Vu),(214,aqg),(215,alW),(216,alY)] ⟨JR,Et,adg,QP,QR,trivial⟩
def pW (s:(Int×cj×cj)):Option (Step (Int×cj×cj) Bool):=bif PP (s.1<(ut (F0s s.2.1))) then (aI s.2.1 s.1).bind fun a0=>(aI s.2.2 s.1).bind fun a1=>bif !((a0.1==a1.1)&&((a0.2.1==a1.2.1)&&(a0.2.2==a1.2.2))) then If (.done NE) else If (.next (aa .i64 (s.1+1),s.2)) else If (.done M2)
def iw (p0:Field) (p1:Field):Option Bool:=bif (ut (F0s p0.am)) !=(ut (F0s p1.am)) then If NE else az pW (0,p0.am,p1.am)
def c19:bz:=⟨ax.cons (Arg.agg bN) (ax.one (Arg.agg bN)),Arg.bool,fun a=>iw a.1 a.2,.pure,NE⟩
theorem OV:aF aO 19 c19:=Oc akJ aB [] trivial
def pk (p0:Bool) (p1:Bool×Int×Int) (p2:Bool×Int×Int):Option ((Int×Int)×Int):=bif PP (0<p1.2.1) then If ((0,0),16) else bif PP (9223372036854775807<p1.2.2) then If ((0,0),16) else bif PP (0<p2.2.1) then If ((0,0),16) else bif PP (9223372036854775807<p2.2.2) then If ((0,0),16) else bif p0 then If ((aa .i64 (0- (aa .i64 p1.2.2)),aa .i64 p2.2.2),0) else If ((aa .i64 p1.2.2,aa .i64 p2.2.2),0)
def aqk:bz:=⟨ax.cons Arg.bool (ax.cons (Arg.agg (cA.row yd)) (ax.one (Arg.agg (cA.row yd)))),Arg.cq (ax.cons (Arg.agg (cA.row iH)) (ax.one (Arg.int .i64))),fun a=>pk a.1 a.2.1 a.2.2,.pure,NE⟩
theorem adj:aF aO 284 aqk:=Oc acJ aB [] trivial
def lL (p0:Int) (p1:Int):Option ((Int×Int)×Int):=bif p1==0 then If ((0,0),26) else (gJ p0).bind fun n0=>(gJ p1).bind fun n1=>(oj n0 n1).bind fun n2=>bif !((PP (p0<0))==(PP (p1<0))) then (gJ p0).bind fun n3=>bif n2==0 then IR else (gJ p1).bind fun n4=>bif n2==0 then IR else (pk (p0 !=0) (NE,0,aa .u64 (v6 n3 n2)) (NE,0,aa .u64 (v6 n4 n2))).bind fun a5=>If a5 else (gJ p0).bind fun n6=>bif n2==0 then IR else (gJ p1).bind fun n7=>bif n2==0 then IR else (pk NE (NE,0,aa .u64 (v6 n6 n2)) (NE,0,aa .u64 (v6 n7 n2))).bind fun a8=>If a8
def aql:bz:=⟨ax.cons (Arg.int .i64) (ax.one (Arg.int .i64)),Arg.cq (ax.cons (Arg.agg (cA.row iH)) (ax.one (Arg.int .i64))),fun a=>lL a.1 a.2,.pure,NE⟩
theorem adk:aF aO 257 aql:=Oc acv aB [(117,ac2),(116,alQ),(284,aqk)] ⟨JN,QK,adj,trivial⟩
def zc (p0:Int×Int×Int) (p1:Int×Int×Int):Option (Int×Int):=(lL (aa .i64 (p0.2.1-p1.2.1)) (aa .i64 (p1.2.2-p0.2.2))).bind fun a0=>If a0.1
def aqm:bz:=⟨ax.cons (Arg.agg (cA.row dQ)) (ax.one (Arg.agg (cA.row dQ))),Arg.agg (cA.row iH),fun a=>zc a.1 a.2,.pure,NE⟩
theorem adl:aF aO 223 aqm:=Oc ab6 aB [(257,aql)] ⟨adk,trivial⟩
def pX (p0:Int×Int×Int) (p1:Int×Int×Int) (p2:Int×Int):Option ((Int×Int)×Bool):=(nG p1 p0 p2).bind fun b0=>bif b0 then If (p2,M2) else bif PP (p0.2.2<p1.2.2) then (zc p0 p1).bind fun a1=>If (a1,M2) else If ((0,0),NE)
def aqn:bz:=⟨ax.cons (Arg.agg (cA.row dQ)) (ax.cons (Arg.agg (cA.row dQ)) (ax.one (Arg.agg (cA.row iH)))),Arg.cq (ax.cons (Arg.agg (cA.row iH)) (ax.one Arg.bool)),fun a=>pX a.1 a.2.1 a.2.2,.pure,NE⟩
theorem adm:aF aO 162 aqn:=Oc abu aB [(164,ada),(223,aqm)] ⟨JP,adl,trivial⟩
def pq (p0:Field) (p1:Int×Int) (p2:Int×Int):Option ((Int×Int)×Bool):=(eS p0 p1.2).bind fun n0=>(aI p0.am n0).bind fun a1=>(eS p0 p1.1).bind fun n2=>(aI p0.am n2).bind fun a3=>(pX a1 a3 p2).bind fun a4=>If a4
def c99:bz:=⟨ax.cons (Arg.agg bN) (ax.cons (Arg.agg (cA.row iH)) (ax.one (Arg.agg (cA.row iH)))),Arg.cq (ax.cons (Arg.agg (cA.row iH)) (ax.one Arg.bool)),fun a=>pq a.1 a.2.1 a.2.2,.pure,NE⟩
theorem OW:aF aO 99 c99:=Oc alJ aB [(89,c89),(162,aqn)] ⟨F9,adm,trivial⟩
def gD (c0:BS) (s:BS):Option (Step BS BS):=bif PP (0<s.1) then (aI s.2.2.2.2.1 s.1).bind fun a0=>(aI s.2.2.2.2.1 (aa .i64 (v6 (aa .i64 (s.1-1)) 2))).bind fun a1=>(dZ a0 a1).bind fun b2=>bif b2 then (fu (s.1,aa .i64 (v6 (aa .i64 (s.1-1)) 2),s.2)).bind fun a3=>If (.next (aa .i64 (v6 (aa .i64 (s.1-1)) 2),a3)) else bif (F0s s.2.1)==(F0s c0.2.1) then bif (F0s s.2.2.1)==(F0s c0.2.2.1) then bif (F0s s.2.2.2.1)==(F0s c0.2.2.2.1) then bif (F0s s.2.2.2.2.1)==(F0s c0.2.2.2.2.1) then bif (F0s s.2.2.2.2.2)==(F0s c0.2.2.2.2.2) then If (.done s) else IR else IR else IR else IR else IR else bif (F0s s.2.1)==(F0s c0.2.1) then bif (F0s s.2.2.1)==(F0s c0.2.2.1) then bif (F0s s.2.2.2.1)==(F0s c0.2.2.2.1) then bif (F0s s.2.2.2.2.1)==(F0s c0.2.2.2.2.1) then bif (F0s s.2.2.2.2.2)==(F0s c0.2.2.2.2.2) then If (.done s) else IR else IR else IR else IR else IR
def oo (a:BS):Option BS:=az (gD a) a
def OX:dN:=⟨[.i,.l [.i .i64],.l [.b],.l [.i .i64],.l [.i .i64,.i .i64,.i .i64,.i .i64,.i .i64],.l [.i .i64]],[.agg [.own 0 NE,.own 1 NE,.own 2 NE,.own 3 NE,.own 4 NE],.int .i64 0],[.arr [.i .i64] [],.arr [.b] [],.arr [.i .i64] [],.arr [.i .i64,.i .i64,.i .i64,.i .i64,.i .i64] [],.arr [.i .i64] []],[.i,.l [.i .i64],.l [.b],.l [.i .i64],.l [.i .i64,.i .i64,.i .i64,.i .i64,.i .i64],.l [.i .i64]],.int .i64 0,[.arr [.i .i64] [],.arr [.b] [],.arr [.i .i64] [],.arr [.i .i64,.i .i64,.i .i64,.i .i64,.i .i64] [],.arr [.i .i64] []],fun a=>oo a⟩
theorem Ij:jr aO 254 OX:=jr.of JL (wd:=NE) (cx:=(iT aB [(161,OT)] [(251,AQ),(251,AR)] [] [])) (gI.make ⟨zb,trivial⟩ ⟨sd,sf,trivial⟩ trivial) (fun a=>by kernel_rfl)
def jw (c0:BS) (s:BS):Option (Step BS alM):=bif PP ((ut (F0s s.2.2.2.2.1))<=(aa .i64 ((aa .i64 (2*s.1))+1))) then bif (F0s s.2.1)==(F0s c0.2.1) then bif (F0s s.2.2.1)==(F0s c0.2.2.1) then bif (F0s s.2.2.2.1)==(F0s c0.2.2.2.1) then bif (F0s s.2.2.2.2.1)==(F0s c0.2.2.2.2.1) then bif (F0s s.2.2.2.2.2)==(F0s c0.2.2.2.2.2) then If (.done s.2) else IR else IR else IR else IR else IR else bif PP ((aa .i64 ((aa .i64 ((aa .i64 (2*s.1))+1))+1))<(ut (F0s s.2.2.2.2.1))) then (aI s.2.2.2.2.1 (aa .i64 ((aa .i64 ((aa .i64 (2*s.1))+1))+1))).bind fun a0=>(aI s.2.2.2.2.1 (aa .i64 ((aa .i64 (2*s.1))+1))).bind fun a1=>(dZ a0 a1).bind fun b2=>bif b2 then (aI s.2.2.2.2.1 (aa .i64 ((aa .i64 ((aa .i64 (2*s.1))+1))+1))).bind fun a3=>(aI s.2.2.2.2.1 s.1).bind fun a4=>(dZ a3 a4).bind fun b5=>bif !b5 then bif (F0s s.2.1)==(F0s c0.2.1) then bif (F0s s.2.2.1)==(F0s c0.2.2.1) then bif (F0s s.2.2.2.1)==(F0s c0.2.2.2.1) then bif (F0s s.2.2.2.2.1)==(F0s c0.2.2.2.2.1) then bif (F0s s.2.2.2.2.2)==(F0s c0.2.2.2.2.2) then If (.done s.2) else IR else IR else IR else IR else IR else (fu (s.1,aa .i64 ((aa .i64 ((aa .i64 (2*s.1))+1))+1),s.2)).bind fun a6=>If (.next (aa .i64 ((aa .i64 ((aa .i64 (2*s.1))+1))+1),a6)) else (aI s.2.2.2.2.1 (aa .i64 ((aa .i64 (2*s.1))+1))).bind fun a7=>(aI s.2.2.2.2.1 s.1).bind fun a8=>(dZ a7 a8).bind fun b9=>bif !b9 then bif (F0s s.2.1)==(F0s c0.2.1) then bif (F0s s.2.2.1)==(F0s c0.2.2.1) then bif (F0s s.2.2.2.1)==(F0s c0.2.2.2.1) then bif (F0s s.2.2.2.2.1)==(F0s c0.2.2.2.2.1) then bif (F0s s.2.2.2.2.2)==(F0s c0.2.2.2.2.2) then If (.done s.2) else IR else IR else IR else IR else IR else (fu (s.1,aa .i64 ((aa .i64 (2*s.1))+1),s.2)).bind fun xz=>If (.next (aa .i64 ((aa .i64 (2*s.1))+1),xz)) else (aI s.2.2.2.2.1 (aa .i64 ((aa .i64 (2*s.1))+1))).bind fun zW=>(aI s.2.2.2.2.1 s.1).bind fun a12=>(dZ zW a12).bind fun b13=>bif !b13 then bif (F0s s.2.1)==(F0s c0.2.1) then bif (F0s s.2.2.1)==(F0s c0.2.2.1) then bif (F0s s.2.2.2.1)==(F0s c0.2.2.2.1) then bif (F0s s.2.2.2.2.1)==(F0s c0.2.2.2.2.1) then bif (F0s s.2.2.2.2.2)==(F0s c0.2.2.2.2.2) then If (.done s.2) else IR else IR else IR else IR else IR else (fu (s.1,aa .i64 ((aa .i64 (2*s.1))+1),s.2)).bind fun QQ=>If (.next (aa .i64 ((aa .i64 (2*s.1))+1),QQ))
def mc (a:BS):Option alM:=az (jw a) a
def Vv:dN:=⟨[.i,.l [.i .i64],.l [.b],.l [.i .i64],.l [.i .i64,.i .i64,.i .i64,.i .i64,.i .i64],.l [.i .i64]],[.agg [.own 0 NE,.own 1 NE,.own 2 NE,.own 3 NE,.own 4 NE],.int .i64 0],[.arr [.i .i64] [],.arr [.b] [],.arr [.i .i64] [],.arr [.i .i64,.i .i64,.i .i64,.i .i64,.i .i64] [],.arr [.i .i64] []],[.l [.i .i64],.l [.b],.l [.i .i64],.l [.i .i64,.i .i64,.i .i64,.i .i64,.i .i64],.l [.i .i64]],.cq [],[.arr [.i .i64] [],.arr [.b] [],.arr [.i .i64] [],.arr [.i .i64,.i .i64,.i .i64,.i .i64,.i .i64] [],.arr [.i .i64] []],fun a=>mc a⟩
theorem SI:jr aO 253 Vv:=jr.of QE (wd:=NE) (cx:=(iT aB [(161,OT)] [(251,AQ),(251,AR)] [] [])) (gI.make ⟨zb,trivial⟩ ⟨sd,sf,trivial⟩ trivial) (fun a=>by kernel_rfl)
def pY (p0:aK) (p1:Int×Int) (p2:Int×Int):Option aK:=(lI p0).bind fun r0=>(aI r0.aq p1.1).bind fun n1=>(aI r0.bv n1).bind fun a2=>(oo (n1,r0.af.aA,r0.af.be,r0.af.bi,bZ r0.bv n1 (p2.1,p2.2,a2.2.2),r0.aq)).bind fun a3=>(mc a3).bind fun a4=>If (aK.mk (bc.mk a4.1 a4.2.1 a4.2.2.1) a4.2.2.2.1 a4.2.2.2.2)
def aqo:bz:=⟨ax.cons (Arg.agg cZ) (ax.cons (Arg.agg (cA.row iH)) (ax.one (Arg.agg (cA.row iH)))),Arg.agg cZ,fun a=>pY a.1 a.2.1 a.2.2,.mO,NE⟩
theorem adn:aF aO 217 aqo:=aF.of ab0 (cx:=(iT aB [(73,c73),(73,SH)] [(254,JS),(253,OU),(254,OX),(253,Vv)] [] [])) rfl (gI.make ⟨F',BU,trivial⟩ ⟨C1,Ii,Ij,SI,trivial⟩ trivial) (fun a=>by kernel_rfl)
def ga (p0:bc):Option Bool:=bif PP (0<(ut (F0s p0.bi))) then (aI p0.bi (aa .i64 ((ut (F0s p0.bi)) -1))).bind fun n0=>(aI p0.aA n0).bind fun n1=>If (PP (n1<1000000)) else If NE
def alZ:bz:=⟨ax.one (Arg.agg fJ),Arg.bool,fun a=>ga a,.pure,NE⟩
theorem QS:aF aO 218 alZ:=Oc ab1 aB [] trivial
def tJ (p0:bc):Option (bc×(Int×Int)):=(nb p0).bind fun r0=>(aI r0.bi (aa .i64 ((ut (F0s r0.bi)) -1))).bind fun n1=>(fW r0.bi 0 (aa .i64 ((ut (F0s r0.bi)) -1))).bind fun _=>(aI r0.aA n1).bind fun n3=>(aI r0.aA n1).bind fun _=>(aI r0.be n1).bind fun _=>(aI (bZ r0.aA n1 (aa .i64 (n3+1))) n1).bind fun n6=>If (bc.mk (bZ r0.aA n1 (aa .i64 (n3+1))) (bZ r0.be n1 M2) (r0.bi.take ((aa .i64 ((ut (F0s r0.bi)) -1)).toNat)),n1,n6)
def aqp:bz:=⟨ax.one (Arg.agg fJ),Arg.cq (ax.cons (Arg.agg fJ) (ax.one (Arg.agg (cA.row iH)))),fun a=>tJ a,.mO,NE⟩
theorem ado:aF aO 255 aqp:=Oc acs aB [(125,Vt),(125,L5)] ⟨Es,BT,trivial⟩
def me (a:((List Int)×(List Bool)×(List Int)×Int×Int×js×(List Int))):Option Ho:=(aI a.2.2.2.2.2.1 a.2.2.2.2.1).bind fun a0=>(aI a.2.2.2.2.2.1 a.2.2.2.1).bind fun a1=>(aI a.2.2.2.2.2.1 a.2.2.2.1).bind fun _=>(aI (bZ a.2.2.2.2.2.1 a.2.2.2.1 a0) a.2.2.2.2.1).bind fun _=>(aI (bZ (bZ a.2.2.2.2.2.1 a.2.2.2.1 a0) a.2.2.2.2.1 a1) a.2.2.2.1).bind fun a4=>(aI (bZ (bZ a.2.2.2.2.2.1 a.2.2.2.1 a0) a.2.2.2.2.1 a1) a.2.2.2.2.1).bind fun a5=>(aI a.2.2.2.2.2.2 a4.2.2.2.1).bind fun _=>(aI (bZ a.2.2.2.2.2.2 a4.2.2.2.1 a.2.2.2.1) a5.2.2.2.1).bind fun _=>bif ((bZ (bZ a.2.2.2.2.2.1 a.2.2.2.1 a0) a.2.2.2.2.1 a1).length)==(F0s a.2.2.2.2.2.1) then bif ((bZ (bZ a.2.2.2.2.2.2 a4.2.2.2.1 a.2.2.2.1) a5.2.2.2.1 a.2.2.2.2.1).length)==(F0s a.2.2.2.2.2.2) then If (bZ (bZ a.2.2.2.2.2.1 a.2.2.2.1 a0) a.2.2.2.2.1 a1,bZ (bZ a.2.2.2.2.2.2 a4.2.2.2.1 a.2.2.2.1) a5.2.2.2.1 a.2.2.2.2.1) else IR else IR
def Vw:dN:=⟨[.l [.i .i64],.l [.b],.l [.i .i64],.i,.i,.l [.i .i64,.i .i64,.i .i64,.i .i64,.i .i64],.l [.i .i64]],[.agg [.sl [.i .i64] [],.sl [.b] [],.sl [.i .i64] [],.own 0 NE,.own 1 NE],.int .i64 0,.int .i64 0],[.arr [.i .i64,.i .i64,.i .i64,.i .i64,.i .i64] [],.arr [.i .i64] []],[.l [.i .i64,.i .i64,.i .i64,.i .i64,.i .i64],.l [.i .i64]],.cq [],[.arr [.i .i64,.i .i64,.i .i64,.i .i64,.i .i64] [],.arr [.i .i64] []],fun a=>me a⟩
theorem SJ:jr aO 251 Vw:=jr.of JK (wd:=NE) (cx:=(iT aB [] [] [] [])) (gI.make trivial trivial trivial) (fun a=>by kernel_rfl)
def gE (c0:apV) (s:apW):Option (Step apW ac0):=bif PP (0<s.1) then (aI s.2.1 s.1).bind fun a0=>(aI s.2.1 (aa .i64 (v6 (aa .i64 (s.1-1)) 2))).bind fun a1=>(dZ a0 a1).bind fun b2=>bif b2 then (me (s.2.2.2.1,s.2.2.2.2.1,s.2.2.2.2.2,s.1,aa .i64 (v6 (aa .i64 (s.1-1)) 2),s.2.1,s.2.2.1)).bind fun a3=>If (.next (aa .i64 (v6 (aa .i64 (s.1-1)) 2),a3.1,a3.2,s.2.2.2)) else bif (F0s s.2.1)==(F0s c0.2.2.2.2.1) then bif (F0s s.2.2.1)==(F0s c0.2.2.2.2.2) then If (.done (s.1,s.2.1,s.2.2.1)) else IR else IR else bif (F0s s.2.1)==(F0s c0.2.2.2.2.1) then bif (F0s s.2.2.1)==(F0s c0.2.2.2.2.2) then If (.done (s.1,s.2.1,s.2.2.1)) else IR else IR
def oq (a:apV):Option ac0:=az (gE a) (a.2.2.2.1,a.2.2.2.2.1,a.2.2.2.2.2,a.1,a.2.1,a.2.2.1)
def Vx:dN:=⟨[.l [.i .i64],.l [.b],.l [.i .i64],.i,.l [.i .i64,.i .i64,.i .i64,.i .i64,.i .i64],.l [.i .i64]],[.agg [.sl [.i .i64] [],.sl [.b] [],.sl [.i .i64] [],.own 0 NE,.own 1 NE],.int .i64 0],[.arr [.i .i64,.i .i64,.i .i64,.i .i64,.i .i64] [],.arr [.i .i64] []],[.i,.l [.i .i64,.i .i64,.i .i64,.i .i64,.i .i64],.l [.i .i64]],.int .i64 0,[.arr [.i .i64,.i .i64,.i .i64,.i .i64,.i .i64] [],.arr [.i .i64] []],fun a=>oq a⟩
theorem SK:jr aO 254 Vx:=jr.of JL (wd:=M2) (cx:=(iT aB [(161,OT)] [(251,AQ),(251,AR),(251,Vw)] [] [])) (gI.make ⟨zb,trivial⟩ ⟨sd,sf,SJ,trivial⟩ trivial) (fun a=>by kernel_rfl)
def eB (p0:aK) (p1:Int×Int) (p2:Int):Option (aK×(Int×Int)):=(lI p0).bind fun r0=>(tJ r0.af).bind fun a1=>(bq r0.bv [(p1.1,p1.2,p2,a1.2)]).bind fun l2=>(aI r0.aq a1.2.1).bind fun _=>(oq (a1.1.aA,a1.1.be,a1.1.bi,aa .i64 ((ut (F0s l2)) -1),l2,bZ r0.aq a1.2.1 (aa .i64 ((ut (F0s l2)) -1)))).bind fun a4=>If (aK.mk a1.1 a4.2.1 a4.2.2,a1.2)
def al0:bz:=⟨ax.cons (Arg.agg cZ) (ax.cons (Arg.agg (cA.row iH)) (ax.one (Arg.int .i64))),Arg.cq (ax.cons (Arg.agg cZ) (ax.one (Arg.agg (cA.row iH)))),fun a=>eB a.1 a.2.1 a.2.2,.mO,NE⟩
theorem QT:aF aO 219 al0:=aF.of ab2 (cx:=(iT aB [(73,c73),(73,SH),(255,aqp)] [(254,JS),(254,OX),(254,Vx)] [] [])) rfl (gI.make ⟨F',BU,ado,trivial⟩ ⟨C1,Ij,SK,trivial⟩ trivial) (fun a=>by kernel_rfl)
def cM (s:Zt4):Option (Step Zt4 (aP×Int)):=match s with |(a,b,d,e,f,g,h,i,j,k,l,m,n,o,q,r,t,u,v,w,x,y,z,A,B,C,D)=>bif PP (a<(ut (F0s g))) then (aI g a).bind fun a0=>(nH (aP.mk (b,d) (Field.mk e) (bC.mk f g) (aK.mk (bc.mk h i j) k l) m) a0.1).bind fun n1=>(pq (Field.mk n) a0.2 (b,d)).bind fun a2=>bif a2.2 then bif PP (0<=n1) then (aI m n1).bind fun a3=>(pY (aK.mk (bc.mk y z A) B C) a3.2 a2.1).bind fun r4=>(aI m n1).bind fun a5=>(bq D [a5]).bind fun l6=>bif !a2.2 then bif PP (0<=n1) then (aI m n1).bind fun a7=>(jg r4 a7.2).bind fun r8=>bif !a2.2 then If (.next (aa .i64 (a+1),b,d,e,f,g,h,i,j,k,l,m,n,o,q,r,t,u,v,w,x,r8.af.aA,r8.af.be,r8.af.bi,r8.bv,r8.aq,l6)) else bif PP (0<=n1) then If (.next (aa .i64 (a+1),b,d,e,f,g,h,i,j,k,l,m,n,o,q,r,t,u,v,w,x,r8.af.aA,r8.af.be,r8.af.bi,r8.bv,r8.aq,l6)) else (ga r8.af).bind fun b9=>bif !b9 then If (.done (gO,18)) else (eB r8 a2.1 a0.1).bind fun xz=>(bq l6 [(a0.1,xz.2)]).bind fun l11=>If (.next (aa .i64 (a+1),b,d,e,f,g,h,i,j,k,l,m,n,o,q,r,t,u,v,w,x,xz.1.af.aA,xz.1.af.be,xz.1.af.bi,xz.1.bv,xz.1.aq,l11)) else bif !a2.2 then If (.next (aa .i64 (a+1),b,d,e,f,g,h,i,j,k,l,m,n,o,q,r,t,u,v,w,x,r4.af.aA,r4.af.be,r4.af.bi,r4.bv,r4.aq,l6)) else bif PP (0<=n1) then If (.next (aa .i64 (a+1),b,d,e,f,g,h,i,j,k,l,m,n,o,q,r,t,u,v,w,x,r4.af.aA,r4.af.be,r4.af.bi,r4.bv,r4.aq,l6)) else (ga r4.af).bind fun b12=>bif !b12 then If (.done (gO,18)) else (eB r4 a2.1 a0.1).bind fun QU=>(bq l6 [(a0.1,QU.2)]).bind fun l14=>If (.next (aa .i64 (a+1),b,d,e,f,g,h,i,j,k,l,m,n,o,q,r,t,u,v,w,x,QU.1.af.aA,QU.1.af.be,QU.1.af.bi,QU.1.bv,QU.1.aq,l14)) else bif !a2.2 then If (.next (aa .i64 (a+1),b,d,e,f,g,h,i,j,k,l,m,n,o,q,r,t,u,v,w,x,r4.af.aA,r4.af.be,r4.af.bi,r4.bv,r4.aq,l6)) else bif PP (0<=n1) then If (.next (aa .i64 (a+1),b,d,e,f,g,h,i,j,k,l,m,n,o,q,r,t,u,v,w,x,r4.af.aA,r4.af.be,r4.af.bi,r4.bv,r4.aq,l6)) else (ga r4.af).bind fun b15=>bif !b15 then If (.done (gO,18)) else (eB r4 a2.1 a0.1).bind fun KB=>(bq l6 [(a0.1,KB.2)]).bind fun l17=>If (.next (aa .i64 (a+1),b,d,e,f,g,h,i,j,k,l,m,n,o,q,r,t,u,v,w,x,KB.1.af.aA,KB.1.af.be,KB.1.af.bi,KB.1.bv,KB.1.aq,l17)) else bif !a2.2 then bif PP (0<=n1) then (aI m n1).bind fun Tq=>(jg (aK.mk (bc.mk y z A) B C) Tq.2).bind fun Ts=>bif !a2.2 then If (.next (aa .i64 (a+1),b,d,e,f,g,h,i,j,k,l,m,n,o,q,r,t,u,v,w,x,Ts.af.aA,Ts.af.be,Ts.af.bi,Ts.bv,Ts.aq,D)) else bif PP (0<=n1) then If (.next (aa .i64 (a+1),b,d,e,f,g,h,i,j,k,l,m,n,o,q,r,t,u,v,w,x,Ts.af.aA,Ts.af.be,Ts.af.bi,Ts.bv,Ts.aq,D)) else (ga Ts.af).bind fun b20=>bif !b20 then If (.done (gO,18)) else (eB Ts a2.1 a0.1).bind fun a21=>(bq D [(a0.1,a21.2)]).bind fun l22=>If (.next (aa .i64 (a+1),b,d,e,f,g,h,i,j,k,l,m,n,o,q,r,t,u,v,w,x,a21.1.af.aA,a21.1.af.be,a21.1.af.bi,a21.1.bv,a21.1.aq,l22)) else bif !a2.2 then If (.next (aa .i64 (a+1),(b,d,e,f,g,h,i,j,k,l,m,n,o,q,r,t,u,v,w,x,y,z,A,B,C,D))) else bif PP (0<=n1) then If (.next (aa .i64 (a+1),(b,d,e,f,g,h,i,j,k,l,m,n,o,q,r,t,u,v,w,x,y,z,A,B,C,D))) else (ga (bc.mk y z A)).bind fun b23=>bif !b23 then If (.done (gO,18)) else (eB (aK.mk (bc.mk y z A) B C) a2.1 a0.1).bind fun a24=>(bq D [(a0.1,a24.2)]).bind fun l25=>If (.next (aa .i64 (a+1),b,d,e,f,g,h,i,j,k,l,m,n,o,q,r,t,u,v,w,x,a24.1.af.aA,a24.1.af.be,a24.1.af.bi,a24.1.bv,a24.1.aq,l25)) else bif !a2.2 then If (.next (aa .i64 (a+1),(b,d,e,f,g,h,i,j,k,l,m,n,o,q,r,t,u,v,w,x,y,z,A,B,C,D))) else bif PP (0<=n1) then If (.next (aa .i64 (a+1),(b,d,e,f,g,h,i,j,k,l,m,n,o,q,r,t,u,v,w,x,y,z,A,B,C,D))) else (ga (bc.mk y z A)).bind fun b26=>bif !b26 then If (.done (gO,18)) else (eB (aK.mk (bc.mk y z A) B C) a2.1 a0.1).bind fun a27=>(bq D [(a0.1,a27.2)]).bind fun l28=>If (.next (aa .i64 (a+1),b,d,e,f,g,h,i,j,k,l,m,n,o,q,r,t,u,v,w,x,a27.1.af.aA,a27.1.af.be,a27.1.af.bi,a27.1.bv,a27.1.aq,l28)) else bif !a2.2 then bif PP (0<=n1) then (aI m n1).bind fun a29=>(jg (aK.mk (bc.mk y z A) B C) a29.2).bind fun Tt=>bif !a2.2 then If (.next (aa .i64 (a+1),b,d,e,f,g,h,i,j,k,l,m,n,o,q,r,t,u,v,w,x,Tt.af.aA,Tt.af.be,Tt.af.bi,Tt.bv,Tt.aq,D)) else bif PP (0<=n1) then If (.next (aa .i64 (a+1),b,d,e,f,g,h,i,j,k,l,m,n,o,q,r,t,u,v,w,x,Tt.af.aA,Tt.af.be,Tt.af.bi,Tt.bv,Tt.aq,D)) else (ga Tt.af).bind fun b31=>bif !b31 then If (.done (gO,18)) else (eB Tt a2.1 a0.1).bind fun a32=>(bq D [(a0.1,a32.2)]).bind fun l33=>If (.next (aa .i64 (a+1),b,d,e,f,g,h,i,j,k,l,m,n,o,q,r,t,u,v,w,x,a32.1.af.aA,a32.1.af.be,a32.1.af.bi,a32.1.bv,a32.1.aq,l33)) else bif !a2.2 then If (.next (aa .i64 (a+1),(b,d,e,f,g,h,i,j,k,l,m,n,o,q,r,t,u,v,w,x,y,z,A,B,C,D))) else bif PP (0<=n1) then If (.next (aa .i64 (a+1),(b,d,e,f,g,h,i,j,k,l,m,n,o,q,r,t,u,v,w,x,y,z,A,B,C,D))) else (ga (bc.mk y z A)).bind fun b34=>bif !b34 then If (.done (gO,18)) else (eB (aK.mk (bc.mk y z A) B C) a2.1 a0.1).bind fun a35=>(bq D [(a0.1,a35.2)]).bind fun l36=>If (.next (aa .i64 (a+1),b,d,e,f,g,h,i,j,k,l,m,n,o,q,r,t,u,v,w,x,a35.1.af.aA,a35.1.af.be,a35.1.af.bi,a35.1.bv,a35.1.aq,l36)) else bif !a2.2 then If (.next (aa .i64 (a+1),(b,d,e,f,g,h,i,j,k,l,m,n,o,q,r,t,u,v,w,x,y,z,A,B,C,D))) else bif PP (0<=n1) then If (.next (aa .i64 (a+1),(b,d,e,f,g,h,i,j,k,l,m,n,o,q,r,t,u,v,w,x,y,z,A,B,C,D))) else (ga (bc.mk y z A)).bind fun b37=>bif !b37 then If (.done (gO,18)) else (eB (aK.mk (bc.mk y z A) B C) a2.1 a0.1).bind fun a38=>(bq D [(a0.1,a38.2)]).bind fun l39=>If (.next (aa .i64 (a+1),b,d,e,f,g,h,i,j,k,l,m,n,o,q,r,t,u,v,w,x,a38.1.af.aA,a38.1.af.be,a38.1.af.bi,a38.1.bv,a38.1.aq,l39)) else If (.done (aP.mk (t,u) (Field.mk v) (bC.mk w x) (aK.mk (bc.mk y z A) B C) D,0))
def kS (p0:aP) (p1:Field):Option (aP×Int):=(lJ p0).bind fun r0=>(je p1).bind fun r1=>az cM (0,p0.ci.1,p0.ci.2,p0.ii.am,p0.ai.aM,p0.ai.ce,p0.ae.af.aA,p0.ae.af.be,p0.ae.af.bi,p0.ae.bv,p0.ae.aq,p0.io,p1.am,0,0,0,r0.ci.1,r0.ci.2,r1.am,r0.ai.aM,r0.ai.ce,r0.ae.af.aA,r0.ae.af.be,r0.ae.af.bi,r0.ae.bv,r0.ae.aq,[])
def aqq:bz:=⟨ax.cons (Arg.agg bS) (ax.one (Arg.agg bN)),Arg.cq (ax.cons (Arg.agg bS) (ax.one (Arg.int .i64))),fun a=>kS a.1 a.2,.mO,NE⟩
theorem adp:aF aO 152 aqq:=Oc abj aB [(29,c29),(29,Vu),(71,c71),(71,Vq),(215,alW),(99,c99),(217,aqo),(216,alY),(218,alZ),(219,al0)] ⟨JR,Et,JO,Ep,QP,OW,adn,QR,QS,QT,trivial⟩
def rM (s:(Int×Int×cj×Int×Int)):Option (Step (Int×Int×cj×Int×Int) Bool):=bif PP (s.1<(ut (F0s s.2.2.1))) then (aI s.2.2.1 s.1).bind fun a0=>bif (a0.2.1==s.2.2.2.1)&&(a0.2.2==s.2.2.2.2) then If (.done M2) else If (.next (aa .i64 (s.1+1),s.2)) else If (.done NE)
def sg (p0:bC) (p1:Int×Int):Option Bool:=az rM (0,p0.aM,p0.ce,p1)
def adq:bz:=⟨ax.cons (Arg.agg gl) (ax.one (Arg.agg (cA.row iH))),Arg.bool,fun a=>sg a.1 a.2,.pure,NE⟩
theorem JT:aF aO 104 adq:=Oc aaP aB [] trivial
def sI (p0:Int×Int):Option Bool:=bif PP (0<=p0.1) then bif PP (p0.1<=65535) then bif PP (0<=p0.2) then bif PP (p0.2<=65535) then If (p0.1 !=p0.2) else If NE else If NE else If NE else If NE
def al1:bz:=⟨ax.one (Arg.agg (cA.row iH)),Arg.bool,fun a=>sI a,.pure,NE⟩
theorem QV:aF aO 158 al1:=Oc abp aB [] trivial
def fK (s:(Int×Int×Int×cj×Int×Int×Int)):Option (Step (Int×Int×Int×cj×Int×Int×Int) alO):=bif PP (s.2.1<s.1) then (aI s.2.2.2.1 s.2.1).bind fun a0=>bif (a0.2.1==s.2.2.2.2.2.1)&&(a0.2.2==s.2.2.2.2.2.2) then If (.done (.done 8)) else If (.next (s.1,aa .i64 (s.2.1+1),s.2.2)) else If (.done (.next (aa .i64 (s.1+1),s.2.2.1,s.2.2.2.1)))
def ot (s:SG):Option alO:=bif PP (s.1<(ut (F0s s.2.2))) then (aI s.2.2 s.1).bind fun a0=>(sI a0.2).bind fun b1=>bif !b1 then If (.done 8) else bif PP (a0.1<0) then If (.done 8) else bif PP (s.2.1<=a0.1) then If (.done 8) else bif PP (0<s.1) then (aI s.2.2 (aa .i64 (s.1-1))).bind fun a2=>bif PP (a0.1<=a2.1) then If (.done 8) else az fK (s.1,0,s.2.1,s.2.2,a0) else az fK (s.1,0,s.2.1,s.2.2,a0) else If (.done 0)
def qF (p0:bC):Option Int:=bif PP (200<(ut (F0s p0.ce))) then If 8 else bif PP (p0.aM<0) then If 8 else bif PP (1000000<p0.aM) then If 8 else az ot (0,p0.aM,p0.ce)
def c96:bz:=⟨ax.one (Arg.agg gl),Arg.int .i64,fun a=>qF a,.pure,NE⟩
theorem Vy:aF aO 96 c96:=Oc alG aB [(158,al1)] ⟨QV,trivial⟩
def zd (p0:bC) (p1:Int×Int):Option (bC×Int×Int):=(qF p0).bind fun n0=>bif n0 !=0 then If (bC.mk 0 [],0,8) else (sI p1).bind fun b1=>bif !b1 then If (bC.mk 0 [],0,8) else (sg p0 p1).bind fun b2=>bif b2 then If (bC.mk 0 [],0,14) else bif (ut (F0s p0.ce))==200 then If (bC.mk 0 [],0,18) else bif p0.aM==1000000 then If (bC.mk 0 [],0,18) else (pj p0).bind fun r3=>(bq r3.ce [(p0.aM,p1)]).bind fun l4=>If (bC.mk (aa .i64 (r3.aM+1)) l4,p0.aM,0)
def aqr:bz:=⟨ax.cons (Arg.agg gl) (ax.one (Arg.agg (cA.row iH))),Arg.cq (ax.cons (Arg.agg gl) (ax.cons (Arg.int .i64) (ax.one (Arg.int .i64)))),fun a=>zd a.1 a.2,.mO,NE⟩
theorem adr:aF aO 220 aqr:=Oc ab3 aB [(96,c96),(158,al1),(104,adq),(72,c72),(72,ade)] ⟨Vy,QV,JT,OS,JQ,trivial⟩
def j8 (p0:aP) (p1:Int×Int):Option (aP×Int×Int):=(zd p0.ai p1).bind fun a0=>bif a0.2.2 !=0 then If (gO,0,a0.2.2) else (lJ p0).bind fun r1=>(pq p0.ii p1 p0.ci).bind fun a2=>bif !a2.2 then If (aP.mk r1.ci r1.ii a0.1 r1.ae r1.io,a0.2.1,0) else (ga p0.ae.af).bind fun b3=>bif !b3 then If (gO,0,18) else (eB p0.ae a2.1 a0.2.1).bind fun a4=>(bq r1.io [(a0.2.1,a4.2)]).bind fun l5=>If (aP.mk r1.ci r1.ii a0.1 a4.1 l5,a0.2.1,0)
def aqs:bz:=⟨ax.cons (Arg.agg bS) (ax.one (Arg.agg (cA.row iH))),Arg.cq (ax.cons (Arg.agg bS) (ax.cons (Arg.int .i64) (ax.one (Arg.int .i64)))),fun a=>j8 a.1 a.2,.mO,NE⟩
theorem ads:aF aO 153 aqs:=Oc abk aB [(220,aqr),(29,c29),(29,Vu),(99,c99),(218,alZ),(219,al0)] ⟨adr,JR,Et,OW,QS,QT,trivial⟩
def dM (s:apG):Option (Step apG Zt2):=match s with |(a,b,d,e,f,g,h,i,j,k,l,m,n,o,q,r)=>bif PP (b<(ut (F0s a))) then (aI a b).bind fun a0=>(sg (bC.mk j k) a0).bind fun b1=>bif b1 then If (.next (a,aa .i64 (b+1),(d,e,f,g,h,i,j,k,l,m,n,o,q,r))) else (aI a b).bind fun a2=>(j8 (aP.mk (g,h) (Field.mk i) (bC.mk j k) (aK.mk (bc.mk l m n) o q) r) a2).bind fun a3=>bif a3.2.2 !=0 then If (.done (.done (gO,a3.2.2))) else If (.next (a,aa .i64 (b+1),d,e,f,a3.1.ci.1,a3.1.ci.2,a3.1.ii.am,a3.1.ai.aM,a3.1.ai.ce,a3.1.ae.af.aA,a3.1.ae.af.be,a3.1.ae.af.bi,a3.1.ae.bv,a3.1.ae.aq,a3.1.io)) else If (.done (.done (aP.mk (g,h) (Field.mk i) (bC.mk j k) (aK.mk (bc.mk l m n) o q) r,0)))
def dy (s:apF):Option Zt2:=match s with |(a,b,d,e,f,g,h,i,j,k,l,m,n,o,q,r,t,u,v,w,x,y,z,A,B,C,D,E)=>bif PP (b<(ut (F0s h))) then (aI h b).bind fun a0=>(BV a a0.2).bind fun b1=>bif !b1 then (aI h b).bind fun a2=>(sH (aP.mk (u,v) (Field.mk w) (bC.mk x y) (aK.mk (bc.mk z A B) C D) E) a2.1).bind fun r3=>If (.next (a,aa .i64 (b+1),d,e,f,g,h,i,j,k,l,m,n,o,q,r,t,r3.ci.1,r3.ci.2,r3.ii.am,r3.ai.aM,r3.ai.ce,r3.ae.af.aA,r3.ae.af.be,r3.ae.af.bi,r3.ae.bv,r3.ae.aq,r3.io)) else If (.next (a,aa .i64 (b+1),(d,e,f,g,h,i,j,k,l,m,n,o,q,r,t,u,v,w,x,y,z,A,B,C,D,E))) else (iw (Field.mk w) (Field.mk o)).bind fun b4=>bif !b4 then (kS (aP.mk (u,v) (Field.mk w) (bC.mk x y) (aK.mk (bc.mk z A B) C D) E) (Field.mk o)).bind fun a5=>bif a5.2 !=0 then If (.done (gO,a5.2)) else az dM (a,0,q,r,t,a5.1.ci.1,a5.1.ci.2,a5.1.ii.am,a5.1.ai.aM,a5.1.ai.ce,a5.1.ae.af.aA,a5.1.ae.af.be,a5.1.ae.af.bi,a5.1.ae.bv,a5.1.ae.aq,a5.1.io) else az dM (a,0,(q,r,t,u,v,w,x,y,z,A,B,C,D,E))
def kT (p0:aP) (p1:Field) (p2:List (Int×Int)):Option (aP×Int):=(lJ p0).bind fun r0=>az dy (p2,0,p0.ci.1,p0.ci.2,p0.ii.am,p0.ai.aM,p0.ai.ce,p0.ae.af.aA,p0.ae.af.be,p0.ae.af.bi,p0.ae.bv,p0.ae.aq,p0.io,p1.am,0,0,0,r0.ci.1,r0.ci.2,r0.ii.am,r0.ai.aM,r0.ai.ce,r0.ae.af.aA,r0.ae.af.be,r0.ae.af.bi,r0.ae.bv,r0.ae.aq,r0.io)
def c92:bz:=⟨ax.cons (Arg.agg bS) (ax.cons (Arg.agg bN) (ax.one (Arg.sl iH))),Arg.cq (ax.cons (Arg.agg bS) (ax.one (Arg.int .i64))),fun a=>kT a.1 a.2.1 a.2.2,.mO,NE⟩
theorem al2:aF aO 92 c92:=Oc alC aB [(29,c29),(29,Vu),(150,aqf),(151,aqj),(19,c19),(152,aqq),(104,adq),(153,aqs)] ⟨JR,Et,adf,adi,OV,adp,JT,ads,trivial⟩
def mE (p0:aP) (p1:Field) (p2:List Int):Option (bJ×Int):=(wq p1 p0.ci p2).bind fun r0=>(vt r0).bind fun l1=>(kT p0 p1 l1).bind fun a2=>bif a2.2 !=0 then If (bJ.mk gO (bu.mk [] []),a2.2) else If (bJ.mk a2.1 r0,0)
def c39:bz:=⟨ax.cons (Arg.agg bS) (ax.cons (Arg.agg bN) (ax.one (Arg.sl ki))),Arg.cq (ax.cons (Arg.agg ft) (ax.one (Arg.int .i64))),fun a=>mE a.1 a.2.1 a.2.2,.mO,NE⟩
theorem al3:aF aO 39 c39:=Oc akW aB [(91,c91),(53,c53),(92,c92)] ⟨alV,Vs,al2,trivial⟩
def DH (p0:Field) (p1:Int×Int):Option (bJ×Int):=(eJ p0).bind fun n0=>bif n0 !=0 then (eJ p0).bind fun n1=>If (bJ.mk gO (bu.mk [] []),n1) else (nF p1).bind fun n2=>bif n2 !=0 then If (bJ.mk gO (bu.mk [] []),8) else (DF p0 p1).bind fun r3=>(DG p0).bind fun l4=>(mE r3 p0 l4).bind fun a5=>If a5
def c95:bz:=⟨ax.cons (Arg.agg bN) (ax.one (Arg.agg (cA.row iH))),Arg.cq (ax.cons (Arg.agg ft) (ax.one (Arg.int .i64))),fun a=>DH a.1 a.2,.mO,NE⟩
theorem al4:aF aO 95 c95:=Oc alF aB [(88,c88),(66,c66),(156,ap8),(157,ap9),(39,c39)] ⟨Vp,OR,ac5,ac6,al3,trivial⟩
def DI:Option bJ:=(L4 2).bind fun a0=>(DH (Field.mk [(1,0,2),(2,6,-1),(5,0,0)]) a0).bind fun a1=>If a1.1
def c43:bz:=⟨ax.nil,Arg.agg ft,fun _=>DI,.mO,NE⟩
theorem al5:aF aO 43 c43:=Oc akZ aB [(22,c22),(95,c95)] ⟨alP,al4,trivial⟩
def kU (p0:Int):Option Int:=bif PP (p0<0) then If (aa .u64 (0- (aa .u64 p0))) else If (aa .u64 p0)
def adt:bz:=⟨ax.one (Arg.int .i64),Arg.int .u64,fun a=>kU a,.pure,NE⟩
theorem JU:aF aO 166 adt:=Oc aby aB [] trivial
def rN (s:(Int×Int)):Option (Step (Int×Int) Int):=bif PP (0<s.2) then bif s.2==0 then IR else If (.next (s.2,AC s.1 s.2)) else If (.done s.1)
def vu (p0:Int) (p1:Int):Option Int:=az rN (p0,p1)
def al6:bz:=⟨ax.cons (Arg.int .u64) (ax.one (Arg.int .u64)),Arg.int .u64,fun a=>vu a.1 a.2,.pure,NE⟩
theorem QW:aF aO 165 al6:=Oc abx aB [] trivial
def gn (p0:Int×Int):Option Int:=bif PP (p0.2<1) then If 8 else bif p0.1==(-9223372036854775808) then If 8 else (kU p0.1).bind fun n0=>(vu (aa .u64 p0.2) n0).bind fun n1=>bif PP (1<n1) then If 8 else If 0
def L6:bz:=⟨ax.one (Arg.agg (cA.row iH)),Arg.int .i64,fun a=>gn a,.pure,NE⟩
theorem wz:aF aO 106 L6:=Oc aaR aB [(166,adt),(165,al6)] ⟨JU,QW,trivial⟩
def ou (p0:Int):Option Bool:=bif PP (p0<(-1048576)) then If M2 else If (PP (1048576<p0))
def aqt:bz:=⟨ax.one (Arg.int .i64),Arg.bool,fun a=>ou a,.pure,NE⟩
theorem adu:aF aO 108 aqt:=Oc aaS aB [] trivial
def iV (p0:Int×Int×Int):Option Int:=bif PP (p0.1<0) then If 8 else bif PP (65535<p0.1) then If 8 else (ou p0.2.1).bind fun b0=>bif b0 then If 8 else (ou p0.2.2).bind fun b1=>bif b1 then If 8 else If 0
def c58:bz:=⟨ax.one (Arg.agg (cA.row dQ)),Arg.int .i64,fun a=>iV a,.pure,NE⟩
theorem JV:aF aO 58 c58:=Oc ala aB [(108,aqt)] ⟨adu,trivial⟩
def iy (s:Vo):Option (Step Vo (Step Vo Int)):=bif PP (s.2.2.1<s.2.1) then (aI s.1 s.2.2.1).bind fun a0=>bif PP (0<s.2.2.1) then (aI s.2.2.2 (aa .i64 (s.2.2.1-1))).bind fun a1=>bif PP (a0.1<=a1.1) then If (.done (.done 32)) else If (.next (s.1,s.2.1,aa .i64 (s.2.2.1+1),s.2.2.2)) else If (.next (s.1,s.2.1,aa .i64 (s.2.2.1+1),s.2.2.2)) else If (.done (.done 0))
def lM (s:Vo):Option (Step Vo Int):=bif PP (s.2.2.1<s.2.1) then (aI s.1 s.2.2.1).bind fun a0=>(iV a0).bind fun n1=>bif n1 !=0 then If (.done n1) else If (.next (s.1,s.2.1,aa .i64 (s.2.2.1+1),s.2.2.2)) else az iy (s.2.2.2,ut (F0s s.2.2.2),0,s.2.2.2)
def dm (p0:Field):Option Int:=bif PP (64<(ut (F0s p0.am))) then If 4 else az lM (p0.am,ut (F0s p0.am),0,p0.am)
def c57:bz:=⟨ax.one (Arg.agg bN),Arg.int .i64,fun a=>dm a,.pure,NE⟩
theorem AS:aF aO 57 c57:=Oc ak' aB [(58,c58)] ⟨JV,trivial⟩
def sJ (p0:Int×Int):Option Bool:=bif PP (0<=(if p0.2<p0.1 then p0.2 else p0.1)) then bif PP ((if p0.2>p0.1 then p0.2 else p0.1)<=65535) then If (p0.1 !=p0.2) else If NE else If NE
def al7:bz:=⟨ax.one (Arg.agg (cA.row iH)),Arg.bool,fun a=>sJ a,.pure,NE⟩
theorem QX:aF aO 181 al7:=Oc abH aB [] trivial
def pZ (s:apX):Option (Step apX Int):=bif PP (s.2.2.2.1<s.2.2.1) then (aI s.2.1 s.2.2.2.1).bind fun a0=>(sJ a0.2).bind fun b1=>bif !b1 then If (.done 8) else (Lq s.2.2.2.2.2.2 [a0.2.1,a0.2.2]).bind fun b2=>bif b2 then If (.done 8) else bif PP (a0.1<=s.1) then If (.done 8) else bif PP (s.2.2.2.2.1<=a0.1) then If (.done 8) else (Lr s.2.2.2.2.2.2 [a0.2.1,a0.2.2]).bind fun l3=>If (.next (a0.1,s.2.1,s.2.2.1,aa .i64 (s.2.2.2.1+1),s.2.2.2.2.1,s.2.2.2.2.2.1,l3)) else If (.done 0)
def pt (p0:bC):Option Int:=bif PP (200<(ut (F0s p0.ce))) then If 8 else bif PP (p0.aM<0) then If 8 else bif PP (1000000<p0.aM) then If 8 else az pZ (-1,p0.ce,ut (F0s p0.ce),0,p0.aM,p0.ce,[])
def adv:bz:=⟨ax.one (Arg.agg gl),Arg.int .i64,fun a=>pt a,.pure,NE⟩
theorem JW:aF aO 126 adv:=Oc aa2 aB [(181,al7)] ⟨QX,trivial⟩
def gp (s:((List Bool)×Bool×Int×Int)):Option (Step ((List Bool)×Bool×Int×Int) Int):=bif PP (s.2.2.2<s.2.2.1) then (aI s.1 s.2.2.2).bind fun b0=>bif s.2.1==b0 then If (.done s.2.2.2) else If (.next (s.1,s.2.1,s.2.2.1,aa .i64 (s.2.2.2+1))) else If (.done (-1))
def ov (p0:List Bool) (p1:Bool):Option Int:=az gp (p0,p1,ut (F0s p0),0)
def aqv:bz:=⟨ax.cons (Arg.sl kb) (ax.one Arg.bool),Arg.int .i64,fun a=>ov a.1 a.2,.pure,NE⟩
theorem adw:aF aO 275 aqv:=Oc acF aB [] trivial
def eb (p0:List Bool) (p1:Bool):Option Bool:=(ov p0 p1).bind fun n0=>If (PP (0<=n0))
def aqw:bz:=⟨ax.cons (Arg.sl kb) (ax.one Arg.bool),Arg.bool,fun a=>eb a.1 a.2,.pure,NE⟩
theorem adx:aF aO 237 aqw:=Oc ach aB [(275,aqv)] ⟨adw,trivial⟩
def gm (s:((List Int)×Int×Int×(List Int)×(List Bool)×(List Int))):Option (Step ((List Int)×Int×Int×(List Int)×(List Bool)×(List Int)) apZ):=bif PP (s.2.2.1<s.2.1) then (aI s.1 s.2.2.1).bind fun n0=>bif PP (n0<0) then If (.done (.done 8)) else bif PP (1000000<n0) then If (.done (.done 8)) else bif n0==0 then (aI s.2.2.2.2.1 s.2.2.1).bind fun b1=>bif b1 then If (.done (.done 8)) else If (.next (s.1,s.2.1,aa .i64 (s.2.2.1+1),s.2.2.2)) else If (.next (s.1,s.2.1,aa .i64 (s.2.2.1+1),s.2.2.2)) else If (.done (.done 0))
def p4 (c0:(List Bool)) (s:apY):Option apZ:=match s with |(a,b,d,e,f,g,h,i)=>bif PP (d<b) then (aI a d).bind fun n0=>bif PP (n0<0) then bif (F0s i)==(F0s i) then bif (F0s i)==(F0s c0) then bif (F0s i)==(F0s c0) then bif PP (0<=d) then If (.done 8) else (eb i NE).bind fun b1=>bif b1 then If (.done 8) else az gm (e,ut (F0s e),0,e,f,g) else IR else IR else IR else bif PP (h<=n0) then bif (F0s i)==(F0s i) then bif (F0s i)==(F0s c0) then bif (F0s i)==(F0s c0) then bif PP (0<=d) then If (.done 8) else (eb i NE).bind fun b2=>bif b2 then If (.done 8) else az gm (e,ut (F0s e),0,e,f,g) else IR else IR else IR else (aI i n0).bind fun b3=>bif b3 then bif (F0s i)==(F0s i) then bif (F0s i)==(F0s c0) then bif (F0s i)==(F0s c0) then bif PP (0<=d) then If (.done 8) else (eb i NE).bind fun b4=>bif b4 then If (.done 8) else az gm (e,ut (F0s e),0,e,f,g) else IR else IR else IR else (aI i n0).bind fun _=>bif ((bZ i n0 M2).length)==(F0s i) then If (.next (a,b,aa .i64 (d+1),e,f,g,h,bZ i n0 M2)) else IR else bif (F0s i)==(F0s c0) then bif (F0s i)==(F0s c0) then (eb i NE).bind fun b6=>bif b6 then If (.done 8) else az gm (e,ut (F0s e),0,e,f,g) else IR else IR
def px (p0:bc):Option Int:=bif PP ((ut (F0s p0.aA))<1) then If 8 else bif PP (200<(ut (F0s p0.aA))) then If 8 else bif (ut (F0s p0.be)) !=(ut (F0s p0.aA)) then If 8 else (bP p0.be).bind fun l0=>az (p4 l0) (p0.bi,ut (F0s p0.bi),0,p0.aA,p0.be,p0.bi,ut (F0s p0.aA),l0)
def ady:bz:=⟨ax.one (Arg.agg fJ),Arg.int .i64,fun a=>px a,.pure,NE⟩
theorem JX:aF aO 182 ady:=aF.of abI (cx:=(iT aB [(212,bz.clone kb),(237,aqw)] [] [(187,OQ),(83,X'),(236,ZR)] [])) rfl (gI.make ⟨sF,adx,trivial⟩ trivial ⟨Eo,C0,acg,trivial⟩) (fun a=>by kernel_rfl)
def wB (p0:Int×Int) (p1:Int×Int):Option Int:=(gn p0).bind fun n0=>(gn p1).bind fun n1=>If (if n1>n0 then n1 else n0)
def aqx:bz:=⟨ax.cons (Arg.agg (cA.row iH)) (ax.one (Arg.agg (cA.row iH))),Arg.int .i64,fun a=>wB a.1 a.2,.pure,NE⟩
theorem adz:aF aO 174 aqx:=Oc abC aB [(106,L6)] ⟨wz,trivial⟩
def mQ (p0:Int):Option Bool:=If (p0 !=p0)
def aqy:bz:=⟨ax.one (Arg.int .i64),Arg.bool,fun a=>mQ a,.pure,NE⟩
theorem adA:aF aO 229 aqy:=Oc ab' aB [] trivial
def iW (p0:Int) (p1:Int):Option Int:=(mQ p0).bind fun b0=>(mQ p1).bind fun b1=>bif b0 then bif b1 then If 0 else If (-1) else bif b1 then If 1 else bif PP (p0<p1) then If (-1) else bif PP (p1<p0) then If 1 else If 0
def al8:bz:=⟨ax.cons (Arg.int .i64) (ax.one (Arg.int .i64)),Arg.int .i64,fun a=>iW a.1 a.2,.pure,NE⟩
theorem QY:aF aO 175 al8:=Oc abD aB [(229,aqy)] ⟨adA,trivial⟩
def eZ (p0:Int) (p1:Int):Option (Int×Int):=If (aa .u64 ((aa .u64 ((aa .u64 ((nR .u64 p0 32)*(nR .u64 p1 32)))+(nR .u64 (aa .u64 ((aa .u64 ((nR .u64 p0 32)*(Az .u64 p1 4294967295)))+(nR .u64 (aa .u64 ((Az .u64 p0 4294967295)*(Az .u64 p1 4294967295))) 32))) 32)))+(nR .u64 (aa .u64 ((Az .u64 (aa .u64 ((aa .u64 ((nR .u64 p0 32)*(Az .u64 p1 4294967295)))+(nR .u64 (aa .u64 ((Az .u64 p0 4294967295)*(Az .u64 p1 4294967295))) 32))) 4294967295)+(aa .u64 ((Az .u64 p0 4294967295)*(nR .u64 p1 32))))) 32)),aa .u64 (p0*p1))
def adB:bz:=⟨ax.cons (Arg.int .u64) (ax.one (Arg.int .u64)),Arg.cq (ax.cons (Arg.int .u64) (ax.one (Arg.int .u64))),fun a=>eZ a.1 a.2,.pure,NE⟩
theorem JY:aF aO 140 adB:=Oc aa9 aB [] trivial
def qG (p0:Int) (p1:Int):Option (Bool×Int×Int):=(kU p0).bind fun n0=>(kU p1).bind fun n1=>(eZ n0 n1).bind fun a2=>If (!((PP (p0<0))==(PP (p1<0))),a2)
def aqz:bz:=⟨ax.cons (Arg.int .i64) (ax.one (Arg.int .i64)),Arg.agg (cA.row yd),fun a=>qG a.1 a.2,.pure,NE⟩
theorem adC:aF aO 177 aqz:=Oc abF aB [(166,adt),(140,adB)] ⟨JU,JY,trivial⟩
def mf (p0:Int):Option Bool:=If (p0 !=p0)
def aqA:bz:=⟨ax.one (Arg.int .u64),Arg.bool,fun a=>mf a,.pure,NE⟩
theorem adD:aF aO 268 aqA:=Oc acy aB [] trivial
def iz (p0:Int) (p1:Int):Option Int:=(mf p0).bind fun b0=>(mf p1).bind fun b1=>bif b0 then bif b1 then If 0 else If (-1) else bif b1 then If 1 else bif PP (p0<p1) then If (-1) else bif PP (p1<p0) then If 1 else If 0
def aqB:bz:=⟨ax.cons (Arg.int .u64) (ax.one (Arg.int .u64)),Arg.int .i64,fun a=>iz a.1 a.2,.pure,NE⟩
theorem adE:aF aO 230 aqB:=Oc aca aB [(268,aqA)] ⟨adD,trivial⟩
def p5 (p0:Bool×Int×Int) (p1:Bool×Int×Int):Option Int:=(iz p0.2.1 p1.2.1).bind fun n0=>bif n0 !=0 then If n0 else (iz p0.2.2 p1.2.2).bind fun n1=>If n1
def aqC:bz:=⟨ax.cons (Arg.agg (cA.row yd)) (ax.one (Arg.agg (cA.row yd))),Arg.int .i64,fun a=>p5 a.1 a.2,.pure,NE⟩
theorem adF:aF aO 176 aqC:=Oc abE aB [(230,aqB)] ⟨adE,trivial⟩
def ze (p0:Int×Int) (p1:Int×Int):Option (Int×Int):=(wB p0 p1).bind fun n0=>bif n0 !=0 then If (0,n0) else bif !((PP (p0.1<0))==(PP (p1.1<0))) then (iW p0.1 p1.1).bind fun n1=>If (n1,0) else (qG p0.1 p1.2).bind fun a2=>(qG p1.1 p0.2).bind fun a3=>(p5 a2 a3).bind fun n4=>bif PP (p0.1<0) then If (aa .i64 (0-n4),0) else If (n4,0)
def aqD:bz:=⟨ax.cons (Arg.agg (cA.row iH)) (ax.one (Arg.agg (cA.row iH))),Arg.cq (ax.cons (Arg.int .i64) (ax.one (Arg.int .i64))),fun a=>ze a.1 a.2,.pure,NE⟩
theorem adG:aF aO 121 aqD:=Oc aa0 aB [(174,aqx),(175,al8),(177,aqz),(176,aqC)] ⟨adz,QY,adC,adF,trivial⟩
def cmp_isNaN_int (p0:Int):Option Bool:=If (p0 !=p0)
def aqE:bz:=⟨ax.one (Arg.int .i64),Arg.bool,fun a=>cmp_isNaN_int a,.pure,NE⟩
theorem adH:aF aO 168 aqE:=Oc abz aB [] trivial
def ez (p0:Int) (p1:Int):Option Int:=(cmp_isNaN_int p0).bind fun b0=>(cmp_isNaN_int p1).bind fun b1=>bif b0 then bif b1 then If 0 else If (-1) else bif b1 then If 1 else bif PP (p0<p1) then If (-1) else bif PP (p1<p0) then If 1 else If 0
def L7:bz:=⟨ax.cons (Arg.int .i64) (ax.one (Arg.int .i64)),Arg.int .i64,fun a=>ez a.1 a.2,.pure,NE⟩
theorem wC:aF aO 111 L7:=Oc aaU aB [(168,aqE)] ⟨adH,trivial⟩
def uz (s:(Int×(List Int)×Int×Int)):Option (Step (Int×(List Int)×Int×Int) Int):=bif PP (s.2.2.2<s.2.2.1) then (aI s.2.1 s.2.2.2).bind fun n0=>bif n0 !=s.1 then If (.done n0) else If (.next (s.1,s.2.1,s.2.2.1,aa .i64 (s.2.2.2+1))) else If (.done s.1)
def sK (p0:List Int):Option Int:=az uz (0,p0,ut (F0s p0),0)
def al9:bz:=⟨ax.one (Arg.sl ki),Arg.int .i64,fun a=>sK a,.pure,NE⟩
theorem QZ:aF aO 238 al9:=Oc aci aB [] trivial
def cy (p0:Int×Int×Int×Int×Int) (p1:Int×Int×Int×Int×Int):Option Int:=(ze (p0.1,p0.2.1) (p1.1,p1.2.1)).bind fun a0=>(ez p0.2.2.1 p1.2.2.1).bind fun n1=>(sK [a0.1,n1]).bind fun n2=>If n2
def adI:bz:=⟨ax.cons (Arg.agg (cA.row kr)) (ax.one (Arg.agg (cA.row kr))),Arg.int .i64,fun a=>cy a.1 a.2,.pure,NE⟩
theorem JZ:aF aO 183 adI:=Oc abJ aB [(121,aqD),(111,L7),(238,al9)] ⟨adG,wC,QZ,trivial⟩
def iL (s:apO):Option (Step apO apR):=bif PP (s.2.2.1<s.2.1) then (aI s.1 s.2.2.1).bind fun a0=>(gn (a0.1,a0.2.1)).bind fun n1=>bif n1 !=0 then If (.done (.done 8)) else bif PP (a0.2.2.1<0) then If (.done (.done 8)) else bif PP (1000000<a0.2.2.1) then If (.done (.done 8)) else (Lq s.2.2.2.2.2.2.2.2 [a0.2.2.1]).bind fun b2=>bif b2 then If (.done (.done 8)) else (Lr s.2.2.2.2.2.2.2.2 [a0.2.2.1]).bind fun l3=>bif PP (0<s.2.2.1) then (aI s.2.2.2.2.2.2.1 (aa .i64 (v6 (aa .i64 (s.2.2.1-1)) 2))).bind fun a4=>(cy a0 a4).bind fun n5=>bif PP (n5<0) then If (.done (.done 8)) else If (.next (s.1,s.2.1,aa .i64 (s.2.2.1+1),s.2.2.2.1,s.2.2.2.2.1,s.2.2.2.2.2.1,s.2.2.2.2.2.2.1,s.2.2.2.2.2.2.2.1,l3)) else If (.next (s.1,s.2.1,aa .i64 (s.2.2.1+1),s.2.2.2.1,s.2.2.2.2.1,s.2.2.2.2.2.1,s.2.2.2.2.2.2.1,s.2.2.2.2.2.2.2.1,l3)) else If (.done (.done 0))
def kL (s:apQ):Option apR:=bif PP (s.2.2.1<s.2.1) then (aI s.1 s.2.2.1).bind fun n0=>(aI s.2.2.2.2.1 s.2.2.1).bind fun b1=>bif !b1 then bif n0 !=(-1) then If (.done 8) else If (.next (s.1,s.2.1,aa .i64 (s.2.2.1+1),s.2.2.2)) else bif PP (n0<0) then If (.done 8) else bif PP ((ut (F0s s.2.2.2.2.2.2.1))<=n0) then If (.done 8) else (aI s.2.2.2.2.2.2.1 n0).bind fun a2=>(aI s.2.2.2.1 s.2.2.1).bind fun n3=>bif !((a2.2.2.2.1==s.2.2.1)&&(a2.2.2.2.2==n3)) then If (.done 8) else If (.next (s.1,s.2.1,aa .i64 (s.2.2.1+1),s.2.2.2)) else az iL (s.2.2.2.2.2.2.1,ut (F0s s.2.2.2.2.2.2.1),0,s.2.2.2.1,s.2.2.2.2.1,s.2.2.2.2.2.1,s.2.2.2.2.2.2.1,s.2.2.2.2.2.2.2,[])
def kx (p0:aK):Option Int:=(px p0.af).bind fun n0=>bif n0 !=0 then If 8 else bif (ut (F0s p0.aq)) !=(ut (F0s p0.af.be)) then If 8 else bif (ut (F0s p0.bv)) !=(aa .i64 ((ut (F0s p0.af.be)) - (ut (F0s p0.af.bi)))) then If 8 else az kL (p0.aq,ut (F0s p0.aq),0,p0.af.aA,p0.af.be,p0.af.bi,p0.bv,p0.aq)
def Vz:bz:=⟨ax.one (Arg.agg cZ),Arg.int .i64,fun a=>kx a,.pure,NE⟩
theorem Eu:aF aO 127 Vz:=Oc aa3 aB [(182,ady),(106,L6),(183,adI)] ⟨JX,wz,JZ,trivial⟩
def uA (p0:Int×Int×Int) (p1:Int):Option Int:=(ez p0.1 p1).bind fun n0=>If n0
def aqF:bz:=⟨ax.cons (Arg.agg (cA.row dQ)) (ax.one (Arg.int .i64)),Arg.int .i64,fun a=>uA a.1 a.2,.pure,NE⟩
theorem adJ:aF aO 240 aqF:=Oc ack aB [(111,L7)] ⟨wC,trivial⟩
def hU (s:Hq):Option Vn:=bif PP (s.2.2.2.1<s.2.2.2.2) then (aI s.1 (aa .i64 (nR .u64 (aa .u64 (aa .i64 (s.2.2.2.1+s.2.2.2.2))) 1))).bind fun a0=>(uA a0 s.2.1).bind fun n1=>bif PP (n1<0) then If (.next (s.1,s.2.1,s.2.2.1,aa .i64 ((aa .i64 (nR .u64 (aa .u64 (aa .i64 (s.2.2.2.1+s.2.2.2.2))) 1))+1),s.2.2.2.2)) else If (.next (s.1,s.2.1,s.2.2.1,s.2.2.2.1,aa .i64 (nR .u64 (aa .u64 (aa .i64 (s.2.2.2.1+s.2.2.2.2))) 1))) else bif PP (s.2.2.2.1<s.2.2.1) then (aI s.1 s.2.2.2.1).bind fun a2=>(uA a2 s.2.1).bind fun n3=>If (.done (s.2.2.2.1,n3==0)) else If (.done (s.2.2.2.1,NE))
def cX (p0:List (Int×Int×Int)) (p1:Int) (_:Unit):Option (Int×Bool):=az hU (p0,p1,ut (F0s p0),0,ut (F0s p0))
def L8:bz:=⟨ax.cons (Arg.sl dQ) (ax.cons (Arg.int .i64) (ax.one (Arg.eI 240 ax.nil))),Arg.cq (ax.cons (Arg.int .i64) (ax.one Arg.bool)),fun a=>cX a.1 a.2.1 a.2.2,.pure,NE⟩
theorem L9:aF aO 109 L8:=Oc JF aB [(240,aqF)] ⟨adJ,trivial⟩
def iX (p0:Field) (p1:Int):Option (Int×Int×Int):=(cX p0.am p1 ()).bind fun a0=>bif !a0.2 then If (-1,0,0) else (aI p0.am a0.1).bind fun a1=>If a1
def adK:bz:=⟨ax.cons (Arg.agg bN) (ax.one (Arg.int .i64)),Arg.agg (cA.row dQ),fun a=>iX a.1 a.2,.pure,NE⟩
theorem J0:aF aO 185 adK:=Oc abL aB [(109,L8)] ⟨L9,trivial⟩
def py (p0:Int×Int×Int) (p1:Int×Int×Int) (p2:Int×Int):Option Int:=(iV p0).bind fun n0=>(iV p1).bind fun n1=>(gn p2).bind fun n2=>bif (if n2>(if n1>n0 then n1 else n0) then n2 else if n1>n0 then n1 else n0) !=0 then If (if n2>(if n1>n0 then n1 else n0) then n2 else if n1>n0 then n1 else n0) else bif p0.1==p1.1 then If 2 else If 0
def adL:bz:=⟨ax.cons (Arg.agg (cA.row dQ)) (ax.cons (Arg.agg (cA.row dQ)) (ax.one (Arg.agg (cA.row iH)))),Arg.int .i64,fun a=>py a.1 a.2.1 a.2.2,.pure,NE⟩
theorem J1:aF aO 227 adL:=Oc ab8 aB [(58,c58),(106,L6)] ⟨JV,wz,trivial⟩
def mF (s:(Int×Int×Int×Int×Int×Int×Int×Int×Int)):Option (Step (Int×Int×Int×Int×Int×Int×Int×Int×Int) (Int×Int)):=bif PP (s.2.2.2.2.1<2) then bif s.2.2.2.2.1==0 then (eZ (aa .u64 s.1) (aa .u64 s.2.1)).bind fun a0=>bif PP (s.1<0) then bif PP (s.2.1<0) then (pg s.2.2.2.2.2.2.2.2 a0.2 0).bind fun a1=>If (.next (s.1,s.2.1,s.2.2.1,s.2.2.2.1,aa .i64 (s.2.2.2.2.1+1),s.2.2.2.2.2.1,s.2.2.2.2.2.2.1,aa .i64 ((aa .i64 (s.2.2.2.2.2.2.2.1+(aa .i64 ((aa .i64 ((aa .i64 a0.1) -s.2.1)) -s.1))))+(aa .i64 a1.2)),a1.1)) else (pg s.2.2.2.2.2.2.2.2 a0.2 0).bind fun a2=>If (.next (s.1,s.2.1,s.2.2.1,s.2.2.2.1,aa .i64 (s.2.2.2.2.1+1),s.2.2.2.2.2.1,s.2.2.2.2.2.2.1,aa .i64 ((aa .i64 (s.2.2.2.2.2.2.2.1+(aa .i64 ((aa .i64 a0.1) -s.2.1))))+(aa .i64 a2.2)),a2.1)) else bif PP (s.2.1<0) then (pg s.2.2.2.2.2.2.2.2 a0.2 0).bind fun a3=>If (.next (s.1,s.2.1,s.2.2.1,s.2.2.2.1,aa .i64 (s.2.2.2.2.1+1),s.2.2.2.2.2.1,s.2.2.2.2.2.2.1,aa .i64 ((aa .i64 (s.2.2.2.2.2.2.2.1+(aa .i64 ((aa .i64 a0.1) -s.1))))+(aa .i64 a3.2)),a3.1)) else (pg s.2.2.2.2.2.2.2.2 a0.2 0).bind fun a4=>If (.next (s.1,s.2.1,s.2.2.1,s.2.2.2.1,aa .i64 (s.2.2.2.2.1+1),s.2.2.2.2.2.1,s.2.2.2.2.2.2.1,aa .i64 ((aa .i64 (s.2.2.2.2.2.2.2.1+(aa .i64 a0.1)))+(aa .i64 a4.2)),a4.1)) else bif s.2.2.2.2.1==1 then (eZ (aa .u64 s.2.2.1) (aa .u64 s.2.2.2.1)).bind fun a5=>bif PP (s.2.2.1<0) then bif PP (s.2.2.2.1<0) then (pg s.2.2.2.2.2.2.2.2 a5.2 0).bind fun a6=>If (.next (s.1,s.2.1,s.2.2.1,s.2.2.2.1,aa .i64 (s.2.2.2.2.1+1),s.2.2.2.2.2.1,s.2.2.2.2.2.2.1,aa .i64 ((aa .i64 (s.2.2.2.2.2.2.2.1+(aa .i64 ((aa .i64 ((aa .i64 a5.1) -s.2.2.2.1)) -s.2.2.1))))+(aa .i64 a6.2)),a6.1)) else (pg s.2.2.2.2.2.2.2.2 a5.2 0).bind fun a7=>If (.next (s.1,s.2.1,s.2.2.1,s.2.2.2.1,aa .i64 (s.2.2.2.2.1+1),s.2.2.2.2.2.1,s.2.2.2.2.2.2.1,aa .i64 ((aa .i64 (s.2.2.2.2.2.2.2.1+(aa .i64 ((aa .i64 a5.1) -s.2.2.2.1))))+(aa .i64 a7.2)),a7.1)) else bif PP (s.2.2.2.1<0) then (pg s.2.2.2.2.2.2.2.2 a5.2 0).bind fun a8=>If (.next (s.1,s.2.1,s.2.2.1,s.2.2.2.1,aa .i64 (s.2.2.2.2.1+1),s.2.2.2.2.2.1,s.2.2.2.2.2.2.1,aa .i64 ((aa .i64 (s.2.2.2.2.2.2.2.1+(aa .i64 ((aa .i64 a5.1) -s.2.2.1))))+(aa .i64 a8.2)),a8.1)) else (pg s.2.2.2.2.2.2.2.2 a5.2 0).bind fun a9=>If (.next (s.1,s.2.1,s.2.2.1,s.2.2.2.1,aa .i64 (s.2.2.2.2.1+1),s.2.2.2.2.2.1,s.2.2.2.2.2.2.1,aa .i64 ((aa .i64 (s.2.2.2.2.2.2.2.1+(aa .i64 a5.1)))+(aa .i64 a9.2)),a9.1)) else IR else If (.done s.2.2.2.2.2.2.2)
def wD (p0:Int×Int×Int×Int):Option (Int×Int):=az mF (p0.1,p0.2.1,p0.2.2.1,p0.2.2.2,0,0,0,0,0)
def aqG:bz:=⟨ax.one (Arg.agg (cA.row apE)),Arg.agg (cA.row kiu),fun a=>wD a,.pure,NE⟩
theorem adM:aF aO 267 aqG:=Oc acx aB [(140,adB),(289,bz.Ly)] ⟨JY,Vl,trivial⟩
def lN (p0:Int×Int×Int) (p1:Int×Int×Int) (p2:Int×Int):Option Int:=(wD (aa .i64 (p0.2.1-p1.2.1),p2.2,aa .i64 (p0.2.2-p1.2.2),p2.1)).bind fun a0=>bif !((a0.1==0)&&(a0.2==0)) then bif PP (a0.1<0) then If (-1) else If 1 else (iW p0.2.2 p1.2.2).bind fun n1=>(ez p1.1 p0.1).bind fun n2=>(sK [n1,n2]).bind fun n3=>If n3
def al':bz:=⟨ax.cons (Arg.agg (cA.row dQ)) (ax.cons (Arg.agg (cA.row dQ)) (ax.one (Arg.agg (cA.row iH)))),Arg.int .i64,fun a=>lN a.1 a.2.1 a.2.2,.pure,NE⟩
theorem Q0:aF aO 228 al':=Oc ab9 aB [(267,aqG),(175,al8),(111,L7),(238,al9)] ⟨adM,QY,wC,QZ,trivial⟩
def ye (p0:Bool×Int×Int) (p1:Int) (p2:Int):Option ((Int×Int)×Int):=bif PP (0<p0.2.1) then If ((0,0),16) else bif PP (9223372036854775807<p0.2.2) then If ((0,0),16) else bif PP (0<p1) then If ((0,0),16) else bif PP (9223372036854775807<p2) then If ((0,0),16) else bif p0.1 then If ((aa .i64 (0- (aa .i64 p0.2.2)),aa .i64 p2),0) else If ((aa .i64 p0.2.2,aa .i64 p2),0)
def aqH:bz:=⟨ax.cons (Arg.agg (cA.row yd)) (ax.cons (Arg.int .u64) (ax.one (Arg.int .u64))),Arg.cq (ax.cons (Arg.agg (cA.row iH)) (ax.one (Arg.int .i64))),fun a=>ye a.1 a.2.1 a.2.2,.pure,NE⟩
theorem adN:aF aO 294 aqH:=Oc acQ aB [] trivial
def wE (p0:Int) (p1:Int):Option ((Int×Int)×Int):=bif p1==0 then If ((0,0),26) else (kU p0).bind fun n0=>(kU p1).bind fun n1=>(vu n0 n1).bind fun n2=>(kU p0).bind fun n3=>bif n2==0 then IR else (kU p1).bind fun n4=>bif n2==0 then IR else (ye (!((PP (p0<0))==(PP (p1<0))),0,aa .u64 (v6 n3 n2)) 0 (aa .u64 (v6 n4 n2))).bind fun a5=>If a5
def aqI:bz:=⟨ax.cons (Arg.int .i64) (ax.one (Arg.int .i64)),Arg.cq (ax.cons (Arg.agg (cA.row iH)) (ax.one (Arg.int .i64))),fun a=>wE a.1 a.2,.pure,NE⟩
theorem adO:aF aO 276 aqI:=Oc acG aB [(166,adt),(165,al6),(294,aqH)] ⟨JU,QW,adN,trivial⟩
def yf (p0:Int×Int×Int) (p1:Int×Int×Int):Option ((Int×Int)×Int):=(py p0 p1 (0,1)).bind fun n0=>bif n0 !=0 then If ((0,0),n0) else bif p0.2.2==p1.2.2 then If ((0,0),6) else (wE (aa .i64 (p0.2.1-p1.2.1)) (aa .i64 (p1.2.2-p0.2.2))).bind fun a1=>If a1
def aqJ:bz:=⟨ax.cons (Arg.agg (cA.row dQ)) (ax.one (Arg.agg (cA.row dQ))),Arg.cq (ax.cons (Arg.agg (cA.row iH)) (ax.one (Arg.int .i64))),fun a=>yf a.1 a.2,.pure,NE⟩
theorem adP:aF aO 239 aqJ:=Oc acj aB [(227,adL),(276,aqI)] ⟨J1,adO,trivial⟩
def rO (p0:Int×Int×Int) (p1:Int×Int×Int) (p2:Int×Int):Option ((Int×Int)×Bool×Int):=(py p0 p1 p2).bind fun n0=>bif n0 !=0 then If ((0,0),NE,n0) else (lN p1 p0 p2).bind fun n1=>bif PP (0<n1) then If (p2,M2,0) else bif PP (p1.2.2<=p0.2.2) then If ((0,0),NE,0) else (yf p0 p1).bind fun a2=>If (a2.1,a2.2==0,a2.2)
def aqK:bz:=⟨ax.cons (Arg.agg (cA.row dQ)) (ax.cons (Arg.agg (cA.row dQ)) (ax.one (Arg.agg (cA.row iH)))),Arg.cq (ax.cons (Arg.agg (cA.row iH)) (ax.cons Arg.bool (ax.one (Arg.int .i64)))),fun a=>rO a.1 a.2.1 a.2.2,.pure,NE⟩
theorem adQ:aF aO 184 aqK:=Oc abK aB [(227,adL),(228,al'),(239,aqJ)] ⟨J1,Q0,adP,trivial⟩
def pz (p0:Field) (p1:Int×Int) (p2:Int×Int):Option ((Int×Int)×Bool×Int):=(iX p0 p1.2).bind fun a0=>(iX p0 p1.1).bind fun a1=>(rO a0 a1 p2).bind fun a2=>If a2
def adR:bz:=⟨ax.cons (Arg.agg bN) (ax.cons (Arg.agg (cA.row iH)) (ax.one (Arg.agg (cA.row iH)))),Arg.cq (ax.cons (Arg.agg (cA.row iH)) (ax.cons Arg.bool (ax.one (Arg.int .i64)))),fun a=>pz a.1 a.2.1 a.2.2,.pure,NE⟩
theorem J2:aF aO 128 adR:=Oc aa4 aB [(185,adK),(184,aqK)] ⟨J0,adQ,trivial⟩
def cO (s:Zt8):Option (Step Zt8 apI):=bif PP (s.2.2.2.1<s.2.2.1) then (aI s.2.1 s.2.2.2.1).bind fun a0=>(pz (Field.mk s.2.2.2.2.2.2.1) a0.2 (s.2.2.2.2.1,s.2.2.2.2.2.1)).bind fun a1=>bif a1.2.2 !=0 then If (.done (.done 8)) else bif !a1.2.1 then If (.next (s.1,s.2.1,s.2.2.1,aa .i64 (s.2.2.2.1+1),s.2.2.2.2)) else bif (ut (F0s s.1))==0 then If (.done (.done 8)) else (aI s.1 0).bind fun a2=>bif a2.1 !=a0.1 then If (.done (.done 8)) else (aI s.1 0).bind fun a3=>bif PP (a3.2.1<0) then If (.done (.done 8)) else bif PP (200<=a3.2.1) then If (.done (.done 8)) else (aI s.2.2.2.2.2.2.2.2.2.2.2.2.2.1 a3.2.1).bind fun n4=>bif PP (n4<0) then If (.done (.done 8)) else (aI s.2.2.2.2.2.2.2.2.2.2.2.2.2.1 a3.2.1).bind fun n5=>(aI s.2.2.2.2.2.2.2.2.2.2.2.2.1 n5).bind fun a6=>bif !((a6.1==a1.1.1)&&((a6.2.1==a1.1.2)&&((a6.2.2.1==a0.1)&&((a6.2.2.2.1==a3.2.1)&&(a6.2.2.2.2==a3.2.2))))) then If (.done (.done 8)) else (fW s.1 1 (ut (F0s s.1))).bind fun l7=>If (.next (l7,s.2.1,s.2.2.1,aa .i64 (s.2.2.2.1+1),s.2.2.2.2)) else bif PP (0<(ut (F0s s.1))) then If (.done (.done 8)) else If (.done (.done 0))
def eT (s:apH):Option apI:=match s with |(a,b,d,e,f,g,h,i,j,k,l,m,n,o)=>bif PP (b<a) then (aI o b).bind fun n0=>bif n0 !=0 then If (.done 8) else If (.next (a,aa .i64 (b+1),(d,e,f,g,h,i,j,k,l,m,n,o))) else bif (ut (F0s m)) !=200 then If (.done 8) else bif (ut (F0s l)) !=(ut (F0s n)) then If (.done 8) else az cO (n,h,ut (F0s h),0,d,e,f,g,h,i,j,k,l,m,n)
def gq (p0:aP):Option Int:=(gn p0.ci).bind fun n0=>(dm p0.ii).bind fun n1=>(pt p0.ai).bind fun n2=>(kx p0.ae).bind fun n3=>az eT (ut ([n0,n1,n2,n3].length),0,p0.ci.1,p0.ci.2,p0.ii.am,p0.ai.aM,p0.ai.ce,p0.ae.af.aA,p0.ae.af.be,p0.ae.af.bi,p0.ae.bv,p0.ae.aq,p0.io,[n0,n1,n2,n3])
def c74:bz:=⟨ax.one (Arg.agg bS),Arg.int .i64,fun a=>gq a,.pure,NE⟩
theorem Ga:aF aO 74 c74:=Oc alk aB [(106,L6),(57,c57),(126,adv),(127,Vz),(128,adR)] ⟨wz,AS,JW,Eu,J2,trivial⟩
def rf (p0:Int):Option Bool:=bif PP ((-1)<=p0) then If (PP (p0<=65535)) else If NE
def aqL:bz:=⟨ax.one (Arg.int .i64),Arg.bool,fun a=>rf a,.pure,NE⟩
theorem adS:aF aO 131 aqL:=Oc aa5 aB [] trivial
def gX (p0:bu) (p1:Int):Option Int:=bif PP (0<=(aa .i64 (p1- (ut (F0s p0.iU))))) then (aI p0.aL (aa .i64 (p1- (ut (F0s p0.iU))))).bind fun n0=>If n0 else (aI p0.iU p1).bind fun n1=>If n1
def ama:bz:=⟨ax.cons (Arg.agg fq) (ax.one (Arg.int .i64)),Arg.int .i64,fun a=>gX a.1 a.2,.pure,NE⟩
theorem Q1:aF aO 132 ama:=Oc aa6 aB [] trivial
def hY (s:((List Int)×Int×Int×(List Int)×(List Int))):Option (Step ((List Int)×Int×Int×(List Int)×(List Int)) apN):=bif PP (s.2.2.1<s.2.1) then (aI s.1 s.2.2.1).bind fun n0=>(gX (bu.mk s.2.2.2.1 s.2.2.2.2) (aa .i64 ((aa .i64 (2*s.2.2.1))+1))).bind fun n1=>(gX (bu.mk s.2.2.2.1 s.2.2.2.2) (aa .i64 ((aa .i64 (2*s.2.2.1))+2))).bind fun n2=>bif n0 !=n1 then bif n0 !=n2 then If (.done (.done (.done 8))) else bif PP (n0<0) then bif PP (0<=(if n2>n1 then n2 else n1)) then If (.done (.done (.done 8))) else If (.next (s.1,s.2.1,aa .i64 (s.2.2.1+1),s.2.2.2)) else If (.next (s.1,s.2.1,aa .i64 (s.2.2.1+1),s.2.2.2)) else bif PP (n0<0) then bif PP (0<=(if n2>n1 then n2 else n1)) then If (.done (.done (.done 8))) else If (.next (s.1,s.2.1,aa .i64 (s.2.2.1+1),s.2.2.2)) else If (.next (s.1,s.2.1,aa .i64 (s.2.2.1+1),s.2.2.2)) else If (.done (.done (.done 0)))
def hZ (s:acV):Option apN:=bif PP (s.2.2.1<s.2.1) then (aI s.1 s.2.2.1).bind fun n0=>(rf n0).bind fun b1=>bif !b1 then bif !(!(PP (0<=s.2.2.1))) then If (.done (.done 8)) else az hY (s.2.2.2.2.1,ut (F0s s.2.2.2.2.1),0,s.2.2.2.1,s.2.2.2.2.1) else If (.next (s.1,s.2.1,aa .i64 (s.2.2.1+1),s.2.2.2)) else az hY (s.2.2.2.2.1,ut (F0s s.2.2.2.2.1),0,s.2.2.2.1,s.2.2.2.2.1)
def mg (s:acV):Option apM:=bif PP (s.2.2.1<s.2.1) then (aI s.1 s.2.2.1).bind fun n0=>bif !(!(qA NE s.2.2.2.2.2 n0)) then bif !(!(PP (0<=s.2.2.1))) then If (.done 8) else az hZ (s.2.2.2.1,ut (F0s s.2.2.2.1),0,s.2.2.2.1,s.2.2.2.2.1,o3 s.2.2.2.2.2 n0 (PP (0<=n0))) else If (.next (s.1,s.2.1,aa .i64 (s.2.2.1+1),s.2.2.2.1,s.2.2.2.2.1,o3 s.2.2.2.2.2 n0 (PP (0<=n0)))) else az hZ (s.2.2.2.1,ut (F0s s.2.2.2.1),0,s.2.2.2)
def mG (p0:bu):Option Int:=bif PP ((ut (F0s p0.aL))<1) then If 8 else bif PP (64<(ut (F0s p0.aL))) then If 8 else bif (ut (F0s p0.iU)) !=(aa .i64 ((ut (F0s p0.aL)) -1)) then If 8 else az mg (p0.aL,ut (F0s p0.aL),0,p0.aL,p0.iU,o3 [] (-1) NE)
def c75:bz:=⟨ax.one (Arg.agg fq),Arg.int .i64,fun a=>mG a,.pure,NE⟩
theorem amb:aF aO 75 c75:=aF.of alm (cx:=(iT aB [(131,aqL),(132,ama)] [] [(129,U8),(130,Sw),(187,OQ),(83,X'),(188,Sx),(186,U9)] [])) rfl (gI.make ⟨adS,Q1,trivial⟩ trivial ⟨Qx,JG,Eo,C0,JI,QC,trivial⟩) (fun a=>by kernel_rfl)
def sL (p0:Int) (p1:Int×Int×Int):Option Bool:=If (p0==p1.1)
def c79:bz:=⟨ax.cons (Arg.int .i64) (ax.one (Arg.agg (cA.row dQ))),Arg.bool,fun a=>sL a.1 a.2,.pure,NE⟩
theorem amc:aF aO 79 c79:=Oc alq aB [] trivial
def cm (s:(cj×(List Int)×Int×Int)):Option (Step (cj×(List Int)×Int×Int) Bool):=bif PP (s.2.2.2<s.2.2.1) then (aI s.2.1 s.2.2.2).bind fun n0=>(aI s.1 s.2.2.2).bind fun a1=>(sL n0 a1).bind fun b2=>bif !b2 then If (.done NE) else If (.next (s.1,s.2.1,s.2.2.1,aa .i64 (s.2.2.2+1))) else If (.done M2)
def cD (p0:List Int) (p1:List (Int×Int×Int)) (_:Unit):Option Bool:=bif (ut (F0s p0)) !=(ut (F0s p1)) then If NE else az cm (p1,p0,ut (F0s p0),0)
def VA:bz:=⟨ax.cons (Arg.sl ki) (ax.cons (Arg.sl dQ) (ax.one (Arg.eI 79 ax.nil))),Arg.bool,fun a=>cD a.1 a.2.1 a.2.2,.pure,NE⟩
theorem SL:aF aO 78 VA:=Oc alp aB [(79,c79)] ⟨amc,trivial⟩
def uB (p0:Field) (p1:Int×Int):Option Int:=(dm p0).bind fun n0=>bif n0 !=0 then If n0 else (gn p1).bind fun n1=>If n1
def aqM:bz:=⟨ax.cons (Arg.agg bN) (ax.one (Arg.agg (cA.row iH))),Arg.int .i64,fun a=>uB a.1 a.2,.pure,NE⟩
theorem adT:aF aO 141 aqM:=Oc aa' aB [(57,c57),(106,L6)] ⟨AS,wz,trivial⟩
def sM (p0:Int×Int×Int) (p1:Int):Option Int:=(ez p0.1 p1).bind fun n0=>If n0
def aqN:bz:=⟨ax.cons (Arg.agg (cA.row dQ)) (ax.one (Arg.int .i64)),Arg.int .i64,fun a=>sM a.1 a.2,.pure,NE⟩
theorem adU:aF aO 246 aqN:=Oc acm aB [(111,L7)] ⟨wC,trivial⟩
def gY (s:Hq):Option Vn:=bif PP (s.2.2.2.1<s.2.2.2.2) then (aI s.1 (aa .i64 (nR .u64 (aa .u64 (aa .i64 (s.2.2.2.1+s.2.2.2.2))) 1))).bind fun a0=>(sM a0 s.2.1).bind fun n1=>bif PP (n1<0) then If (.next (s.1,s.2.1,s.2.2.1,aa .i64 ((aa .i64 (nR .u64 (aa .u64 (aa .i64 (s.2.2.2.1+s.2.2.2.2))) 1))+1),s.2.2.2.2)) else If (.next (s.1,s.2.1,s.2.2.1,s.2.2.2.1,aa .i64 (nR .u64 (aa .u64 (aa .i64 (s.2.2.2.1+s.2.2.2.2))) 1))) else bif PP (s.2.2.2.1<s.2.2.1) then (aI s.1 s.2.2.2.1).bind fun a2=>(sM a2 s.2.1).bind fun n3=>If (.done (s.2.2.2.1,n3==0)) else If (.done (s.2.2.2.1,NE))
def cR (p0:List (Int×Int×Int)) (p1:Int) (_:Unit):Option (Int×Bool):=az gY (p0,p1,ut (F0s p0),0,ut (F0s p0))
def L':bz:=⟨ax.cons (Arg.sl dQ) (ax.cons (Arg.int .i64) (ax.one (Arg.eI 246 ax.nil))),Arg.cq (ax.cons (Arg.int .i64) (ax.one Arg.bool)),fun a=>cR a.1 a.2.1 a.2.2,.pure,NE⟩
theorem Ma:aF aO 109 L':=Oc JF aB [(246,aqN)] ⟨adU,trivial⟩
def iY (p0:Field) (p1:Int):Option (Int×Bool):=(cR p0.am p1 ()).bind fun a0=>If a0
def amd:bz:=⟨ax.cons (Arg.agg bN) (ax.one (Arg.int .i64)),Arg.cq (ax.cons (Arg.int .i64) (ax.one Arg.bool)),fun a=>iY a.1 a.2,.pure,NE⟩
theorem Q2:aF aO 203 amd:=Oc abO aB [(109,L')] ⟨Ma,trivial⟩
def mh (s:((List Int)×Int×Int×cj)):Option (Step ((List Int)×Int×Int×cj) Bool):=bif PP (s.2.2.1<s.2.1) then (aI s.1 s.2.2.1).bind fun n0=>(iY (Field.mk s.2.2.2) n0).bind fun a1=>bif a1.2 then If (.next (s.1,s.2.1,aa .i64 (s.2.2.1+1),s.2.2.2)) else bif !(n0==(-1)) then If (.done (!(PP (0<=s.2.2.1)))) else If (.next (s.1,s.2.1,aa .i64 (s.2.2.1+1),s.2.2.2)) else If (.done (!(PP (0<=(-1)))))
def p6 (p0:Field) (p1:List Int):Option Bool:=az mh (p1,ut (F0s p1),0,p0.am)
def aqO:bz:=⟨ax.cons (Arg.agg bN) (ax.one (Arg.sl ki)),Arg.bool,fun a=>p6 a.1 a.2,.pure,NE⟩
theorem adV:aF aO 142 aqO:=aF.of aba (cx:=(iT aB [(203,amd)] [] [(130,Sw),(187,OQ),(83,X'),(188,Sx),(202,Zp)] [])) rfl (gI.make ⟨Q2,trivial⟩ trivial ⟨JG,Eo,C0,JI,abN,trivial⟩) (fun a=>by kernel_rfl)
def ox (p0:Int×Int×Int) (p1:Int×Int×Int) (p2:Int×Int):Option (Bool×Int):=(py p0 p1 p2).bind fun n0=>bif n0 !=0 then If (NE,n0) else (lN p0 p1 p2).bind fun n1=>If (PP (0<n1),0)
def aqP:bz:=⟨ax.cons (Arg.agg (cA.row dQ)) (ax.cons (Arg.agg (cA.row dQ)) (ax.one (Arg.agg (cA.row iH)))),Arg.cq (ax.cons Arg.bool (ax.one (Arg.int .i64))),fun a=>ox a.1 a.2.1 a.2.2,.pure,NE⟩
theorem adW:aF aO 172 aqP:=Oc abA aB [(227,adL),(228,al')] ⟨J1,Q0,trivial⟩
def nJ (p0:Field) (p1:Int×Int) (p2:Int) (p3:Int):Option Int:=bif PP ((if p3<p2 then p3 else p2)<0) then If (if p3>p2 then p3 else p2) else (iY p0 p2).bind fun a0=>(iY p0 p3).bind fun a1=>(aI p0.am a0.1).bind fun a2=>(aI p0.am a1.1).bind fun a3=>(ox a2 a3 p1).bind fun a4=>bif a4.1 then If p2 else If p3
def aqQ:bz:=⟨ax.cons (Arg.agg bN) (ax.cons (Arg.agg (cA.row iH)) (ax.cons (Arg.int .i64) (ax.one (Arg.int .i64)))),Arg.int .i64,fun a=>nJ a.1 a.2.1 a.2.2.1 a.2.2.2,.pure,NE⟩
theorem adX:aF aO 143 aqQ:=Oc abb aB [(203,amd),(172,aqP)] ⟨Q2,adW,trivial⟩
def C2 (s:SF):Option (Step SF (bu×Int)):=bif PP (0<=s.1) then (gX (bu.mk s.2.2.2.2.1 s.2.2.2.2.2) (aa .i64 ((aa .i64 (2*s.1))+1))).bind fun n0=>(gX (bu.mk s.2.2.2.2.1 s.2.2.2.2.2) (aa .i64 ((aa .i64 (2*s.1))+2))).bind fun n1=>(nJ (Field.mk s.2.1) (s.2.2.1,s.2.2.2.1) n0 n1).bind fun n2=>(aI s.2.2.2.2.2 s.1).bind fun _=>If (.next (aa .i64 (s.1-1),s.2.1,s.2.2.1,s.2.2.2.1,s.2.2.2.2.1,bZ s.2.2.2.2.2 s.1 n2)) else If (.done (bu.mk s.2.2.2.2.1 s.2.2.2.2.2,0))
def ia (s:SF):Option (Step SF apU):=bif PP (0<=s.1) then (gX (bu.mk s.2.2.2.2.1 s.2.2.2.2.2) (aa .i64 ((aa .i64 (2*s.1))+1))).bind fun n0=>(gX (bu.mk s.2.2.2.2.1 s.2.2.2.2.2) (aa .i64 ((aa .i64 (2*s.1))+2))).bind fun n1=>(nJ (Field.mk s.2.1) (s.2.2.1,s.2.2.2.1) n0 n1).bind fun n2=>(aI s.2.2.2.2.2 s.1).bind fun _=>If (.next (aa .i64 (s.1-1),s.2.1,s.2.2.1,s.2.2.2.1,s.2.2.2.2.1,bZ s.2.2.2.2.2 s.1 n2)) else If (.done (.done (bu.mk s.2.2.2.2.1 s.2.2.2.2.2,0)))
def mi (c0:Int) (c1:(List Int)) (s:apT):Option apU:=bif PP (s.2.2.1<s.2.1) then (aI s.1 s.2.2.1).bind fun n0=>bif !(!(qA NE s.2.2.2.2.2.2 n0)) then bif !(!(PP (0<=s.2.2.1))) then If (.done (bu.mk [] [],14)) else bif c0 !=0 then If (.done (bu.mk [] [],c0)) else (bP c1).bind fun l1=>bif (aa .i64 ((ut (F0s c1)) -1))==(aa .i64 ((ut (F0s c1)) -1)) then (xj (aa .i64 ((ut (F0s c1)) -1)) (0:Int)).bind fun l2=>az ia (aa .i64 ((ut (F0s l2)) -1),s.2.2.2.1,s.2.2.2.2.1,s.2.2.2.2.2.1,l1,l2) else IR else If (.next (s.1,s.2.1,aa .i64 (s.2.2.1+1),s.2.2.2.1,s.2.2.2.2.1,s.2.2.2.2.2.1,o3 s.2.2.2.2.2.2 n0 (PP (0<=n0)))) else bif c0 !=0 then If (.done (bu.mk [] [],c0)) else (bP c1).bind fun l3=>bif (aa .i64 ((ut (F0s c1)) -1))==(aa .i64 ((ut (F0s c1)) -1)) then (xj (aa .i64 ((ut (F0s c1)) -1)) (0:Int)).bind fun l4=>az ia (aa .i64 ((ut (F0s l4)) -1),s.2.2.2.1,s.2.2.2.2.1,s.2.2.2.2.2.1,l3,l4) else IR
def kV (p0:Field) (p1:Int×Int) (p2:List Int):Option (bu×Int):=(uB p0 p1).bind fun n0=>bif n0 !=0 then bif n0 !=0 then If (bu.mk [] [],n0) else (bP p2).bind fun l1=>bif (aa .i64 ((ut (F0s p2)) -1))==(aa .i64 ((ut (F0s p2)) -1)) then (xj (aa .i64 ((ut (F0s p2)) -1)) (0:Int)).bind fun l2=>az C2 (aa .i64 ((ut (F0s l2)) -1),p0.am,p1.1,p1.2,l1,l2) else IR else bif PP ((ut (F0s p2))<1) then If (bu.mk [] [],2) else bif PP (64<(ut (F0s p2))) then If (bu.mk [] [],2) else (p6 p0 p2).bind fun b3=>bif !b3 then If (bu.mk [] [],6) else az (mi n0 p2) (p2,ut (F0s p2),0,p0.am,p1.1,p1.2,o3 [] (-1) NE)
def c85:bz:=⟨ax.cons (Arg.agg bN) (ax.cons (Arg.agg (cA.row iH)) (ax.one (Arg.sl ki))),Arg.cq (ax.cons (Arg.agg fq) (ax.one (Arg.int .i64))),fun a=>kV a.1 a.2.1 a.2.2,.mO,NE⟩
theorem VB:aF aO 85 c85:=aF.of alw (cx:=(iT aB [(141,aqM),(142,aqO),(32,bz.clone ki),(132,ama),(143,aqQ)] [] [(129,U8),(130,Sw),(187,OQ),(83,X'),(188,Sx),(186,U9)] [])) rfl (gI.make ⟨adT,adV,mb,Q1,adX,trivial⟩ trivial ⟨Qx,JG,Eo,C0,JI,QC,trivial⟩) (fun a=>by kernel_rfl)
def Hr (p0:Int) (p1:bu):Option Int:=bif PP (p0<(ut (F0s p1.iU))) then (aI p1.iU p0).bind fun n0=>If n0 else (aI p1.aL (aa .i64 (p0- (ut (F0s p1.iU))))).bind fun n1=>If n1
def aqR:bz:=⟨ax.cons (Arg.int .i64) (ax.one (Arg.ref fq)),Arg.int .i64,fun a=>Hr a.1 a.2,.pure,NE⟩
theorem adY:aF aO 135 aqR:=Oc Qy aB [] trivial
def lO (s:((List Int)×Int×Int×(List Int)×(List Int)×oW)):Option (Step ((List Int)×Int×Int×(List Int)×(List Int)×oW) (bu×oW)):=match s with |(a,b,d,e,f,g)=>bif PP (d<b) then (aI a d).bind fun n0=>bif PP ((aa .i64 ((aa .i64 (2*d))+1))<(ut (F0s f))) then (aI f (aa .i64 ((aa .i64 (2*d))+1))).bind fun n1=>bif (F0s g)==(F0s g) then bif PP ((aa .i64 ((aa .i64 (2*d))+2))<(ut (F0s f))) then (aI f (aa .i64 ((aa .i64 (2*d))+2))).bind fun n2=>bif (F0s g)==(F0s g) then bif PP (0<=n1) then bif PP (0<=n2) then (bq g [(aa .i64 ((aa .i64 (n1+n2)) -n0),n0)]).bind fun l3=>If (.next (a,b,aa .i64 (d+1),e,f,l3)) else If (.next (a,b,aa .i64 (d+1),(e,f,g))) else If (.next (a,b,aa .i64 (d+1),(e,f,g))) else IR else (aI e (aa .i64 ((aa .i64 ((aa .i64 (2*d))+2)) - (ut (F0s f))))).bind fun n4=>bif (F0s g)==(F0s g) then bif PP (0<=n1) then bif PP (0<=n4) then (bq g [(aa .i64 ((aa .i64 (n1+n4)) -n0),n0)]).bind fun l5=>If (.next (a,b,aa .i64 (d+1),e,f,l5)) else If (.next (a,b,aa .i64 (d+1),(e,f,g))) else If (.next (a,b,aa .i64 (d+1),(e,f,g))) else IR else IR else (aI e (aa .i64 ((aa .i64 ((aa .i64 (2*d))+1)) - (ut (F0s f))))).bind fun n6=>bif (F0s g)==(F0s g) then bif PP ((aa .i64 ((aa .i64 (2*d))+2))<(ut (F0s f))) then (aI f (aa .i64 ((aa .i64 (2*d))+2))).bind fun n7=>bif (F0s g)==(F0s g) then bif PP (0<=n6) then bif PP (0<=n7) then (bq g [(aa .i64 ((aa .i64 (n6+n7)) -n0),n0)]).bind fun l8=>If (.next (a,b,aa .i64 (d+1),e,f,l8)) else If (.next (a,b,aa .i64 (d+1),(e,f,g))) else If (.next (a,b,aa .i64 (d+1),(e,f,g))) else IR else (aI e (aa .i64 ((aa .i64 ((aa .i64 (2*d))+2)) - (ut (F0s f))))).bind fun n9=>bif (F0s g)==(F0s g) then bif PP (0<=n6) then bif PP (0<=n9) then (bq g [(aa .i64 ((aa .i64 (n6+n9)) -n0),n0)]).bind fun l10=>If (.next (a,b,aa .i64 (d+1),e,f,l10)) else If (.next (a,b,aa .i64 (d+1),(e,f,g))) else If (.next (a,b,aa .i64 (d+1),(e,f,g))) else IR else IR else If (.done (bu.mk e f,g))
def tK (p0:Field) (p1:Int×Int) (p2:List Int):Option (bu×oW):=(kV p0 p1 p2).bind fun a0=>az lO (a0.1.iU,ut (F0s a0.1.iU),0,a0.1.aL,a0.1.iU,[])
def c80:bz:=⟨ax.cons (Arg.agg bN) (ax.cons (Arg.agg (cA.row iH)) (ax.one (Arg.sl ki))),Arg.cq (ax.cons (Arg.agg fq) (ax.one (Arg.sl iH))),fun a=>tK a.1 a.2.1 a.2.2,.mO,NE⟩
theorem ame:aF aO 80 c80:=aF.of alr (cx:=(iT aB [(85,c85),(135,aqR)] [] [(135,YA)] [])) rfl (gI.make ⟨VB,adY,trivial⟩ trivial ⟨Qy,trivial⟩) (fun a=>by kernel_rfl)
def jx (s:((List Int)×(List Int)×Int×Int)):Option (Step ((List Int)×(List Int)×Int×Int) Bool):=bif PP (s.2.2.2<s.2.2.1) then (aI s.1 s.2.2.2).bind fun n0=>(aI s.2.1 s.2.2.2).bind fun n1=>bif n0 !=n1 then If (.done NE) else If (.next (s.1,s.2.1,s.2.2.1,aa .i64 (s.2.2.2+1))) else If (.done M2)
def mj (p0:List Int) (p1:List Int):Option Bool:=bif (ut (F0s p0)) !=(ut (F0s p1)) then If NE else az jx (p0,p1,ut (F0s p0),0)
def c81:bz:=⟨ax.cons (Arg.sl ki) (ax.one (Arg.sl ki)),Arg.bool,fun a=>mj a.1 a.2,.pure,NE⟩
theorem amf:aF aO 81 c81:=Oc als aB [] trivial
def iZ (s:(oW×Int×Int×Int×Int)):Option (Step (oW×Int×Int×Int×Int) Int):=bif PP (s.2.2.1<s.2.1) then (aI s.1 s.2.2.1).bind fun a0=>bif (s.2.2.2.1==a0.1)&&(s.2.2.2.2==a0.2) then If (.done s.2.2.1) else If (.next (s.1,s.2.1,aa .i64 (s.2.2.1+1),s.2.2.2)) else If (.done (-1))
def oy (p0:List (Int×Int)) (p1:Int×Int):Option Int:=az iZ (p0,ut (F0s p0),0,p1)
def aqS:bz:=⟨ax.cons (Arg.sl iH) (ax.one (Arg.agg (cA.row iH))),Arg.int .i64,fun a=>oy a.1 a.2,.pure,NE⟩
theorem adZ:aF aO 200 aqS:=Oc abM aB [] trivial
def ec (p0:List (Int×Int)) (p1:Int×Int):Option Bool:=(oy p0 p1).bind fun n0=>If (PP (0<=n0))
def VC:bz:=⟨ax.cons (Arg.sl iH) (ax.one (Arg.agg (cA.row iH))),Arg.bool,fun a=>ec a.1 a.2,.pure,NE⟩
theorem Ew:aF aO 137 VC:=Oc aa7 aB [(200,aqS)] ⟨adZ,trivial⟩
def zX (p0:Int×Int×Int) (p1:List (Int×Int)):Option Bool:=(ec p1 p0.2).bind fun b0=>If (!b0)
def aqT:bz:=⟨ax.cons (Arg.agg (cA.row dQ)) (ax.one (Arg.ref (cA.sl iH))),Arg.bool,fun a=>zX a.1 a.2,.pure,NE⟩
theorem ad0:aF aO 136 aqT:=Oc Qz aB [(137,VC)] ⟨Ew,trivial⟩
def lr (s:(cj×oW×Int×Int)):Option (Step (cj×oW×Int×Int) Int):=bif PP (s.2.2.2<s.2.2.1) then (aI s.1 s.2.2.2).bind fun a0=>(zX a0 s.2.1).bind fun b1=>bif b1 then If (.done s.2.2.2) else If (.next (s.1,s.2.1,s.2.2.1,aa .i64 (s.2.2.2+1))) else If (.done (-1))
def gP (p0:List (Int×Int×Int)) (p1:oW):Option Int:=az lr (p0,p1,ut (F0s p0),0)
def Mb:bz:=⟨ax.cons (Arg.sl dQ) (ax.one (Arg.eI 136 (ax.one (Arg.ref (cA.sl iH))))),Arg.int .i64,fun a=>gP a.1 a.2,.pure,NE⟩
theorem Mc:aF aO 201 Mb:=aF.of JJ (cx:=(iT aB [(136,aqT),(137,VC)] [] [(136,YC)] [])) rfl (gI.make ⟨ad0,Ew,trivial⟩ trivial ⟨Qz,trivial⟩) (fun a=>by kernel_rfl)
def gg (p0:List (Int×Int×Int)) (p1:oW):Option Bool:=(gP p0 p1).bind fun n0=>If (PP (0<=n0))
def Md:bz:=⟨ax.cons (Arg.sl dQ) (ax.one (Arg.eI 136 (ax.one (Arg.ref (cA.sl iH))))),Arg.bool,fun a=>gg a.1 a.2,.pure,NE⟩
theorem Me:aF aO 138 Md:=Oc JH aB [(201,Mb)] ⟨Mc,trivial⟩
def yg (p0:aP) (p1:List (Int×Int)):Option Bool:=bif (ut (F0s p1))==(ut (F0s p0.ai.ce)) then (gg p0.ai.ce p1).bind fun b0=>If (!b0) else If NE
def c82:bz:=⟨ax.cons (Arg.agg bS) (ax.one (Arg.sl iH)),Arg.bool,fun a=>yg a.1 a.2,.pure,NE⟩
theorem amg:aF aO 82 c82:=Oc alu aB [(138,Md)] ⟨Me,trivial⟩
def jJ (p0:Int):Option Bool:=If (PP (p0<0))
def c76:bz:=⟨ax.one (Arg.int .i64),Arg.bool,fun a=>jJ a,.pure,NE⟩
theorem amh:aF aO 76 c76:=Oc aln aB [] trivial
def bg (c0:(List Int)) (s:SD):Option ap1:=bif PP (s.2.1<(ut (F0s s.2.2))) then (aI s.2.2 s.2.1).bind fun n0=>(jJ n0).bind fun b1=>bif !b1 then (aI s.2.2 s.1).bind fun _=>If (.next (aa .i64 (s.1+1),aa .i64 (s.2.1+1),bZ s.2.2 s.1 n0)) else If (.next (s.1,aa .i64 (s.2.1+1),s.2.2)) else bif ((PP (0<=s.1))&&(PP (s.1<=(ut (F0s s.2.2)))))&&(PP ((ut (F0s s.2.2))<=(ut (F0s s.2.2)))) then bif EQ (((ut (F0s s.2.2)).toNat) -s.1.toNat) 0 then (fW s.2.2 0 s.1).bind fun _=>bif (F0s s.2.2)==(F0s c0) then If (.done (.done (s.1.toNat,F0s s.2.2,s.2.2))) else IR else bif (Do ((0+s.1.toNat)+(((ut (F0s s.2.2)).toNat) -s.1.toNat)) (F0s s.2.2))&&(!NE) then (fW (eX s.2.2 (0+s.1.toNat) (ww (((ut (F0s s.2.2)).toNat) -s.1.toNat) 0)) 0 s.1).bind fun _=>bif ((eX s.2.2 (0+s.1.toNat) (ww (((ut (F0s s.2.2)).toNat) -s.1.toNat) 0)).length)==(F0s c0) then If (.done (.done (s.1.toNat,(eX s.2.2 (0+s.1.toNat) (ww (((ut (F0s s.2.2)).toNat) -s.1.toNat) 0)).length,eX s.2.2 (0+s.1.toNat) (ww (((ut (F0s s.2.2)).toNat) -s.1.toNat) 0)))) else IR else IR else IR
def bj (c0:(List Int)) (s:SD):Option alN:=bif PP (s.2.1<s.1) then (aI s.2.2 s.2.1).bind fun n0=>(jJ n0).bind fun b1=>bif b1 then bif (F0s s.2.2)==(F0s c0) then bif s.2.1==(-1) then bif (F0s s.2.2)==(F0s c0) then If (.done (F0s s.2.2,F0s s.2.2,s.2.2)) else IR else az (bg c0) (s.2.1,aa .i64 (s.2.1+1),s.2.2) else IR else If (.next (s.1,aa .i64 (s.2.1+1),s.2.2)) else bif (F0s s.2.2)==(F0s c0) then bif (F0s s.2.2)==(F0s c0) then If (.done (F0s s.2.2,F0s s.2.2,s.2.2)) else IR else IR
def bM (a:(List Int)):Option (Nat×Nat×(List Int)):=az (bj a) (ut (F0s a),0,a)
def VD:dN:=⟨[.l [.i .i64]],[.own 0 NE,.eI 76 [] []],[.arr [.i .i64] []],[.n,.n,.l [.i .i64]],.pre 0 0 0 NE,[.arr [.i .i64] []],fun a=>bM a⟩
theorem Mf:jr aO 34 VD:=jr.of Vg (wd:=M2) (cx:=(iT aB [(76,c76)] [] [(83,X')] [])) (gI.make ⟨amh,trivial⟩ trivial ⟨C0,trivial⟩) (fun a=>by kernel_rfl)
def ky (p0:bJ):Option Int:=(gq p0.jp).bind fun n0=>bif n0 !=0 then If 8 else (mG p0.kw).bind fun n1=>bif n1 !=0 then If 8 else bif (Az .i64 (ut (F0s p0.kw.aL)) (aa .i64 ((ut (F0s p0.kw.aL)) -1))) !=0 then If 8 else (bP p0.kw.aL).bind fun l2=>(bM l2).bind fun a3=>(y4 Jk a3.1 a3.2.2).bind fun l4=>bif (F0s l4)==(F0s a3.2.2) then (cD (l4.take a3.1) p0.jp.ii.am ()).bind fun b5=>bif !b5 then If 8 else (tK p0.jp.ii p0.jp.ci p0.kw.aL).bind fun a6=>(mj a6.1.iU p0.kw.iU).bind fun b7=>bif !b7 then If 8 else (yg p0.jp a6.2).bind fun b8=>bif !b8 then If 8 else If 0 else IR
def c31:bz:=⟨ax.one (Arg.agg ft),Arg.int .i64,fun a=>ky a,.pure,NE⟩
theorem OY:aF aO 31 c31:=aF.of akR (cx:=(iT aB [(74,c74),(75,c75),(32,bz.clone ki),(78,VA),(80,c80),(81,c81),(82,c82)] [(34,VD)] [(77,.srt On)] [])) rfl (gI.make ⟨Ga,amb,mb,SL,ame,amf,amg,trivial⟩ ⟨Mf,trivial⟩ ⟨alo,trivial⟩) (fun a=>by kernel_rfl)
def wF (p0:Int×Int×Int) (p1:Int):Option Int:=(ez p0.1 p1).bind fun n0=>If n0
def aqU:bz:=⟨ax.cons (Arg.agg (cA.row dQ)) (ax.one (Arg.int .i64)),Arg.int .i64,fun a=>wF a.1 a.2,.pure,NE⟩
theorem ad1:aF aO 110 aqU:=Oc aaT aB [(111,L7)] ⟨wC,trivial⟩
def iA (s:Hq):Option Vn:=bif PP (s.2.2.2.1<s.2.2.2.2) then (aI s.1 (aa .i64 (nR .u64 (aa .u64 (aa .i64 (s.2.2.2.1+s.2.2.2.2))) 1))).bind fun a0=>(wF a0 s.2.1).bind fun n1=>bif PP (n1<0) then If (.next (s.1,s.2.1,s.2.2.1,aa .i64 ((aa .i64 (nR .u64 (aa .u64 (aa .i64 (s.2.2.2.1+s.2.2.2.2))) 1))+1),s.2.2.2.2)) else If (.next (s.1,s.2.1,s.2.2.1,s.2.2.2.1,aa .i64 (nR .u64 (aa .u64 (aa .i64 (s.2.2.2.1+s.2.2.2.2))) 1))) else bif PP (s.2.2.2.1<s.2.2.1) then (aI s.1 s.2.2.2.1).bind fun a2=>(wF a2 s.2.1).bind fun n3=>If (.done (s.2.2.2.1,n3==0)) else If (.done (s.2.2.2.1,NE))
def c6 (p0:List (Int×Int×Int)) (p1:Int) (_:Unit):Option (Int×Bool):=az iA (p0,p1,ut (F0s p0),0,ut (F0s p0))
def Mg:bz:=⟨ax.cons (Arg.sl dQ) (ax.cons (Arg.int .i64) (ax.one (Arg.eI 110 ax.nil))),Arg.cq (ax.cons (Arg.int .i64) (ax.one Arg.bool)),fun a=>c6 a.1 a.2.1 a.2.2,.pure,NE⟩
theorem Mh:aF aO 109 Mg:=Oc JF aB [(110,aqU)] ⟨ad1,trivial⟩
def jh (p0:Field) (p1:Int):Option (Int×Bool):=(c6 p0.am p1 ()).bind fun a0=>If a0
def c59:bz:=⟨ax.cons (Arg.agg bN) (ax.one (Arg.int .i64)),Arg.cq (ax.cons (Arg.int .i64) (ax.one Arg.bool)),fun a=>jh a.1 a.2,.pure,NE⟩
theorem VE:aF aO 59 c59:=Oc alb aB [(109,Mg)] ⟨Mh,trivial⟩
def iM (p0:Field) (p1:Int×Int×Int):Option (Field×Int):=(dm p0).bind fun n0=>bif n0 !=0 then If (Field.mk [],n0) else (iV p1).bind fun n1=>bif n1 !=0 then If (Field.mk [],n1) else (jh p0 p1.1).bind fun a2=>bif a2.2 then If (Field.mk [],14) else bif (ut (F0s p0.am))==64 then If (Field.mk [],18) else (bP p0.am).bind fun l3=>(yZ l3 a2.1 [p1]).bind fun l4=>If (Field.mk l4,0)
def c23:bz:=⟨ax.cons (Arg.agg bN) (ax.one (Arg.agg (cA.row dQ))),Arg.cq (ax.cons (Arg.agg bN) (ax.one (Arg.int .i64))),fun a=>iM a.1 a.2,.mO,NE⟩
theorem ami:aF aO 23 c23:=aF.of akM (cx:=(iT aB [(57,c57),(58,c58),(59,c59),(61,bz.clone dQ)] [] [(60,.ins 3)] [])) rfl (gI.make ⟨AS,JV,VE,tF,trivial⟩ trivial ⟨alc,trivial⟩) (fun a=>by kernel_rfl)
def jy (s:((List Int)×Int×Int×Int)):Option (Step ((List Int)×Int×Int×Int) Int):=bif PP (s.2.2.2<s.2.2.1) then (aI s.1 s.2.2.2).bind fun n0=>bif s.2.1==n0 then If (.done s.2.2.2) else If (.next (s.1,s.2.1,s.2.2.1,aa .i64 (s.2.2.2+1))) else If (.done (-1))
def fv (p0:List Int) (p1:Int):Option Int:=az jy (p0,p1,ut (F0s p0),0)
def c33:bz:=⟨ax.cons (Arg.sl ki) (ax.one (Arg.int .i64)),Arg.int .i64,fun a=>fv a.1 a.2,.pure,NE⟩
theorem VF:aF aO 33 c33:=Oc akT aB [] trivial
def D6 (p0:Int) (p1:Int):Option (Int×Int):=If (aa .u32 (nR .u64 (aa .u64 ((aa .u64 p0)*(aa .u64 p1))) 32),aa .u32 (aa .u64 ((aa .u64 p0)*(aa .u64 p1))))
def aqV:bz:=⟨ax.cons (Arg.int .u32) (ax.one (Arg.int .u32)),Arg.cq (ax.cons (Arg.int .u32) (ax.one (Arg.int .u32))),fun a=>D6 a.1 a.2,.pure,NE⟩
theorem ad2:aF aO 139 aqV:=Oc aa8 aB [] trivial
def fF (p0:Int) (p1:Int):Option (Int×Int):=(eZ p0 p1).bind fun a0=>If a0
def c84:bz:=⟨ax.cons (Arg.int .u64) (ax.one (Arg.int .u64)),Arg.cq (ax.cons (Arg.int .u64) (ax.one (Arg.int .u64))),fun a=>fF a.1 a.2,.pure,NE⟩
theorem VG:aF aO 84 c84:=Oc alv aB [(139,aqV),(140,adB)] ⟨ad2,JY,trivial⟩
def aG (s:(Int×(List Int))):Option (Step (Int×(List Int)) (List Int)):=bif PP (s.1<(ut (F0s s.2))) then bif ((PP (0<=s.1))&&(PP (s.1<=(ut (F0s s.2)))))&&(PP ((ut (F0s s.2))<=(ut (F0s s.2)))) then (fW s.2 0 s.1).bind fun _=>bif ((s.2.take s.1.toNat).take (((ut (F0s s.2)).toNat) -s.1.toNat)).isEmpty then If (.next (aa .i64 (s.1+0),s.2)) else bif (Do ((0+s.1.toNat)+(((s.2.take s.1.toNat).take (((ut (F0s s.2)).toNat) -s.1.toNat)).length)) (F0s s.2))&&(!NE) then If (.next (aa .i64 (s.1+(ut (((s.2.take s.1.toNat).take (((ut (F0s s.2)).toNat) -s.1.toNat)).length))),eX s.2 (0+s.1.toNat) ((s.2.take s.1.toNat).take (((ut (F0s s.2)).toNat) -s.1.toNat)))) else IR else IR else If (.done s.2)
def bQ (p0:List Int) (p1:Int):Option (List Int):=bif PP (p1<0) then IR else (fF (aa .u64 (ut (F0s p0))) (aa .u64 p1)).bind fun a0=>bif PP (0<a0.1) then IR else bif PP (9223372036854775807<a0.2) then IR else bif (aa .i64 a0.2)==(aa .i64 a0.2) then (xj (aa .i64 a0.2) (0:Int)).bind fun l1=>bif (p0.take (F0s l1)).isEmpty then az aG (0,l1) else bif (Do (0+((p0.take (F0s l1)).length)) (F0s l1))&&(!NE) then az aG (ut ((p0.take (F0s l1)).length),eX l1 0 (p0.take (F0s l1))) else IR else IR
def c36:bz:=⟨ax.cons (Arg.sl ki) (ax.one (Arg.int .i64)),Arg.sl ki,fun a=>bQ a.1 a.2,.own,M2⟩
def amj:bz:=⟨ax.cons (Arg.sl ki) (ax.one (Arg.int .i64)),Arg.sl ki,fun a=>bQ a.1 a.2,.mO,NE⟩
theorem VH:aF aO 36 c36:=Oc Vh aB [(84,c84)] ⟨VG,trivial⟩
theorem Q3:aF aO 36 amj:=Oc Vh aB [(84,c84)] ⟨VG,trivial⟩
def iB (s:ap0):Option (Step ap0 ap2):=match s with |(a,b,d,e,f,g,h,i,j,k,l)=>bif PP (j<i) then (aI ((k.drop f).take g) j).bind fun n0=>bif PP (0<=n0) then bif n0 !=a then (bq l [(n0,a)]).bind fun l1=>If (.next (a,b,d,e,f,g,h,i,aa .i64 (j+1),k,l1)) else If (.next (a,b,d,e,f,g,h,i,aa .i64 (j+1),(k,l))) else If (.next (a,b,d,e,f,g,h,i,aa .i64 (j+1),(k,l))) else If (.done (.next (b,d,aa .i64 (e+1),(k,l))))
def oz (s:((List Int)×Int×Int×(List Int)×oW)):Option ap2:=bif PP (s.2.2.1<s.2.1) then (aI s.1 s.2.2.1).bind fun n0=>bif ((PP (0<=(aa .i64 ((aa .i64 (2*s.2.2.1))+1))))&&(PP ((aa .i64 ((aa .i64 (2*s.2.2.1))+1))<=(aa .i64 ((aa .i64 (2*s.2.2.1))+3)))))&&(PP ((aa .i64 ((aa .i64 (2*s.2.2.1))+3))<=(ut (F0s s.2.2.2.1)))) then az iB (n0,s.1,s.2.1,s.2.2.1,0+((aa .i64 ((aa .i64 (2*s.2.2.1))+1)).toNat),((aa .i64 ((aa .i64 (2*s.2.2.1))+3)).toNat) - ((aa .i64 ((aa .i64 (2*s.2.2.1))+1)).toNat),F0s s.2.2.2.1- ((aa .i64 ((aa .i64 (2*s.2.2.1))+1)).toNat),ut (((aa .i64 ((aa .i64 (2*s.2.2.1))+3)).toNat) - ((aa .i64 ((aa .i64 (2*s.2.2.1))+1)).toNat)),0,s.2.2.2) else IR else If (.done s.2.2.2.2)
def tL (p0:bu):Option oW:=(R8 p0.iU p0.aL).bind fun l0=>az oz (p0.iU,ut (F0s p0.iU),0,l0,[])
def c87:bz:=⟨ax.one (Arg.agg fq),Arg.sl iH,fun a=>tL a,.mO,NE⟩
theorem amk:aF aO 87 c87:=aF.of aly (cx:=(iT aB [] [] [(147,.cat)] [])) rfl (gI.make trivial trivial ⟨abe,trivial⟩) (fun a=>by kernel_rfl)
def ja (p0:Field) (p1:Int):Option (Int×Int):=(dm p0).bind fun n0=>bif n0 !=0 then If (0,n0) else (jh p0 p1).bind fun a1=>bif !a1.2 then If (0,6) else If (a1.1,0)
def c62:bz:=⟨ax.cons (Arg.agg bN) (ax.one (Arg.int .i64)),Arg.cq (ax.cons (Arg.int .i64) (ax.one (Arg.int .i64))),fun a=>ja a.1 a.2,.pure,NE⟩
theorem OZ:aF aO 62 c62:=Oc ale aB [(57,c57),(59,c59)] ⟨AS,VE,trivial⟩
def sN (p0:Field) (p1:Int):Option ((Int×Int×Int)×Int):=(ja p0 p1).bind fun a0=>bif a0.2 !=0 then If ((0,0,0),a0.2) else (aI p0.am a0.1).bind fun a1=>If (a1,0)
def aqW:bz:=⟨ax.cons (Arg.agg bN) (ax.one (Arg.int .i64)),Arg.cq (ax.cons (Arg.agg (cA.row dQ)) (ax.one (Arg.int .i64))),fun a=>sN a.1 a.2,.pure,NE⟩
theorem ad3:aF aO 144 aqW:=Oc abc aB [(62,c62)] ⟨OZ,trivial⟩
def sO (p0:aP):Option aP:=(bP p0.ii.am).bind fun l0=>(bP p0.ai.ce).bind fun l1=>(bP p0.io).bind fun l2=>(bP p0.ae.bv).bind fun l3=>(bP p0.ae.aq).bind fun l4=>(bP p0.ae.af.aA).bind fun l5=>(bP p0.ae.af.be).bind fun l6=>(bP p0.ae.af.bi).bind fun l7=>If (aP.mk p0.ci (Field.mk l0) (bC.mk p0.ai.aM l1) (aK.mk (bc.mk l5 l6 l7) l3 l4) l2)
def aqX:bz:=⟨ax.one (Arg.agg bS),Arg.agg bS,fun a=>sO a,.own,M2⟩
def afW:bz:=⟨ax.one (Arg.agg bS),Arg.agg bS,fun a=>sO a,.mO,NE⟩
theorem ad4:aF aO 146 aqX:=Oc QA aB [(61,bz.clone dQ),(209,bz.clone dQ),(210,bz.clone dQ),(211,bz.clone kr),(32,bz.clone ki),(212,bz.clone kb)] ⟨tF,vq,BQ,sG,mb,sF,trivial⟩
theorem VI:aF aO 146 afW:=Oc QA aB [(61,bz.clone dQ),(209,bz.clone dQ),(210,bz.clone dQ),(211,bz.clone kr),(32,bz.clone ki),(212,bz.clone kb)] ⟨tF,vq,BQ,sG,mb,sF,trivial⟩
def qH (p0:Int×Int×Int) (p1:Int):Option Int:=(ez p0.1 p1).bind fun n0=>If n0
def aqY:bz:=⟨ax.cons (Arg.agg (cA.row dQ)) (ax.one (Arg.int .i64)),Arg.int .i64,fun a=>qH a.1 a.2,.pure,NE⟩
theorem ad5:aF aO 291 aqY:=Oc acN aB [(111,L7)] ⟨wC,trivial⟩
def aT (s:Hq):Option Vn:=bif PP (s.2.2.2.1<s.2.2.2.2) then (aI s.1 (aa .i64 (nR .u64 (aa .u64 (aa .i64 (s.2.2.2.1+s.2.2.2.2))) 1))).bind fun a0=>(qH a0 s.2.1).bind fun n1=>bif PP (n1<0) then If (.next (s.1,s.2.1,s.2.2.1,aa .i64 ((aa .i64 (nR .u64 (aa .u64 (aa .i64 (s.2.2.2.1+s.2.2.2.2))) 1))+1),s.2.2.2.2)) else If (.next (s.1,s.2.1,s.2.2.1,s.2.2.2.1,aa .i64 (nR .u64 (aa .u64 (aa .i64 (s.2.2.2.1+s.2.2.2.2))) 1))) else bif PP (s.2.2.2.1<s.2.2.1) then (aI s.1 s.2.2.2.1).bind fun a2=>(qH a2 s.2.1).bind fun n3=>If (.done (s.2.2.2.1,n3==0)) else If (.done (s.2.2.2.1,NE))
def aQ (p0:List (Int×Int×Int)) (p1:Int) (_:Unit):Option (Int×Bool):=az aT (p0,p1,ut (F0s p0),0,ut (F0s p0))
def Mi:bz:=⟨ax.cons (Arg.sl dQ) (ax.cons (Arg.int .i64) (ax.one (Arg.eI 291 ax.nil))),Arg.cq (ax.cons (Arg.int .i64) (ax.one Arg.bool)),fun a=>aQ a.1 a.2.1 a.2.2,.pure,NE⟩
theorem Mj:aF aO 290 Mi:=Oc acM aB [(291,aqY)] ⟨ad5,trivial⟩
def C3 (p0:bC) (p1:Int):Option (Int×Int):=(pt p0).bind fun n0=>bif n0 !=0 then If (0,n0) else (aQ p0.ce p1 ()).bind fun a1=>bif !a1.2 then If (0,6) else If (a1.1,0)
def aqZ:bz:=⟨ax.cons (Arg.agg gl) (ax.one (Arg.int .i64)),Arg.cq (ax.cons (Arg.int .i64) (ax.one (Arg.int .i64))),fun a=>C3 a.1 a.2,.pure,NE⟩
theorem ad6:aF aO 269 aqZ:=Oc acz aB [(126,adv),(290,Mi)] ⟨JW,Mj,trivial⟩
def dY (a:SG):Option (Nat×Nat×cj):=bif (((PP (0<=a.1))&&(PP (a.1<=a.2.1)))&&(PP (a.2.1<=(ut (F0s a.2.2)))))&&(PP ((ut (F0s a.2.2))<=(ut (F0s a.2.2)))) then bif a.1==a.2.1 then bif (F0s a.2.2)==(F0s a.2.2) then If (F0s a.2.2,F0s a.2.2,a.2.2) else IR else (fW a.2.2 0 a.1).bind fun _=>bif ((PP (0<=a.2.1))&&(PP (a.2.1<=(ut (F0s a.2.2)))))&&(PP ((ut (F0s a.2.2))<=(ut (F0s a.2.2)))) then bif ((a.2.2.drop (0+a.2.1.toNat)).take (((ut (F0s a.2.2)).toNat) -a.2.1.toNat)).isEmpty then bif ((PP (0<=(ut a.1.toNat)))&&(PP ((ut a.1.toNat)<=(ut (F0s a.2.2)))))&&(PP ((ut (F0s a.2.2))<=(ut (F0s a.2.2)))) then bif EQ (((ut (F0s a.2.2)).toNat) - ((ut a.1.toNat).toNat)) 0 then bif (F0s a.2.2)==(F0s a.2.2) then If (a.1.toNat,F0s a.2.2,a.2.2) else IR else bif (Do ((0+((ut a.1.toNat).toNat))+(((ut (F0s a.2.2)).toNat) - ((ut a.1.toNat).toNat))) (F0s a.2.2))&&(!NE) then bif ((eX a.2.2 (0+((ut a.1.toNat).toNat)) (ww (((ut (F0s a.2.2)).toNat) - ((ut a.1.toNat).toNat)) (0,0,0))).length)==(F0s a.2.2) then If (a.1.toNat,F0s a.2.2,eX a.2.2 (0+((ut a.1.toNat).toNat)) (ww (((ut (F0s a.2.2)).toNat) - ((ut a.1.toNat).toNat)) (0,0,0))) else IR else IR else IR else bif Do (a.1.toNat+(((a.2.2.drop (0+a.2.1.toNat)).take (((ut (F0s a.2.2)).toNat) -a.2.1.toNat)).length)) (F0s a.2.2) then bif (Do (a.1.toNat+(((a.2.2.drop (0+a.2.1.toNat)).take (((ut (F0s a.2.2)).toNat) -a.2.1.toNat)).length)) (F0s a.2.2))&&(!NE) then bif ((PP (0<=(ut (a.1.toNat+(((a.2.2.drop (0+a.2.1.toNat)).take (((ut (F0s a.2.2)).toNat) -a.2.1.toNat)).length)))))&&(PP ((ut (a.1.toNat+(((a.2.2.drop (0+a.2.1.toNat)).take (((ut (F0s a.2.2)).toNat) -a.2.1.toNat)).length)))<=(ut (F0s a.2.2)))))&&(PP ((ut (F0s a.2.2))<=(ut (F0s a.2.2)))) then bif EQ (((ut (F0s a.2.2)).toNat) - ((ut (a.1.toNat+(((a.2.2.drop (0+a.2.1.toNat)).take (((ut (F0s a.2.2)).toNat) -a.2.1.toNat)).length))).toNat)) 0 then bif ((eX a.2.2 a.1.toNat ((a.2.2.drop (0+a.2.1.toNat)).take (((ut (F0s a.2.2)).toNat) -a.2.1.toNat))).length)==(F0s a.2.2) then If (a.1.toNat+(((a.2.2.drop (0+a.2.1.toNat)).take (((ut (F0s a.2.2)).toNat) -a.2.1.toNat)).length),F0s a.2.2,eX a.2.2 a.1.toNat ((a.2.2.drop (0+a.2.1.toNat)).take (((ut (F0s a.2.2)).toNat) -a.2.1.toNat))) else IR else bif (Do ((0+((ut (a.1.toNat+(((a.2.2.drop (0+a.2.1.toNat)).take (((ut (F0s a.2.2)).toNat) -a.2.1.toNat)).length))).toNat))+(((ut (F0s a.2.2)).toNat) - ((ut (a.1.toNat+(((a.2.2.drop (0+a.2.1.toNat)).take (((ut (F0s a.2.2)).toNat) -a.2.1.toNat)).length))).toNat))) ((eX a.2.2 a.1.toNat ((a.2.2.drop (0+a.2.1.toNat)).take (((ut (F0s a.2.2)).toNat) -a.2.1.toNat))).length))&&(!NE) then bif ((eX (eX a.2.2 a.1.toNat ((a.2.2.drop (0+a.2.1.toNat)).take (((ut (F0s a.2.2)).toNat) -a.2.1.toNat))) (0+((ut (a.1.toNat+(((a.2.2.drop (0+a.2.1.toNat)).take (((ut (F0s a.2.2)).toNat) -a.2.1.toNat)).length))).toNat)) (ww (((ut (F0s a.2.2)).toNat) - ((ut (a.1.toNat+(((a.2.2.drop (0+a.2.1.toNat)).take (((ut (F0s a.2.2)).toNat) -a.2.1.toNat)).length))).toNat)) (0,0,0))).length)==(F0s a.2.2) then If (a.1.toNat+(((a.2.2.drop (0+a.2.1.toNat)).take (((ut (F0s a.2.2)).toNat) -a.2.1.toNat)).length),F0s a.2.2,eX (eX a.2.2 a.1.toNat ((a.2.2.drop (0+a.2.1.toNat)).take (((ut (F0s a.2.2)).toNat) -a.2.1.toNat))) (0+((ut (a.1.toNat+(((a.2.2.drop (0+a.2.1.toNat)).take (((ut (F0s a.2.2)).toNat) -a.2.1.toNat)).length))).toNat)) (ww (((ut (F0s a.2.2)).toNat) - ((ut (a.1.toNat+(((a.2.2.drop (0+a.2.1.toNat)).take (((ut (F0s a.2.2)).toNat) -a.2.1.toNat)).length))).toNat)) (0,0,0))) else IR else IR else IR else IR else IR else IR else IR
def VJ:dN:=⟨[.i,.i,.l [.i .i64,.i .i64,.i .i64]],[.own 0 NE,.int .i64 0,.int .i64 0],[.arr [.i .i64,.i .i64,.i .i64] []],[.n,.n,.l [.i .i64,.i .i64,.i .i64]],.pre 0 0 0 NE,[.arr [.i .i64,.i .i64,.i .i64] []],fun a=>dY a⟩
theorem SM:jr aO 270 VJ:=jr.of acA (wd:=M2) (cx:=(iT aB [] [] [] [])) (gI.make trivial trivial trivial) (fun a=>by kernel_rfl)
def tM (p0:bC) (p1:Int):Option (bC×(Int×Int)×Int):=(C3 p0 p1).bind fun a0=>bif a0.2 !=0 then If (bC.mk 0 [],(0,0),a0.2) else (bP p0.ce).bind fun l1=>(dY (a0.1,aa .i64 (a0.1+1),l1)).bind fun a2=>(aI p0.ce a0.1).bind fun a3=>If (bC.mk p0.aM (a2.2.2.take a2.1),a3.2,0)
def aq0:bz:=⟨ax.cons (Arg.agg gl) (ax.one (Arg.int .i64)),Arg.cq (ax.cons (Arg.agg gl) (ax.cons (Arg.agg (cA.row iH)) (ax.one (Arg.int .i64)))),fun a=>tM a.1 a.2,.mO,NE⟩
theorem ad7:aF aO 232 aq0:=aF.of acb (cx:=(iT aB [(269,aqZ),(209,bz.clone dQ)] [(270,VJ)] [] [])) rfl (gI.make ⟨ad6,vq,trivial⟩ ⟨SM,trivial⟩ trivial) (fun a=>by kernel_rfl)
def lP (p0:aP):Option aP:=(bP p0.ii.am).bind fun l0=>(bP p0.ai.ce).bind fun l1=>(bP p0.io).bind fun l2=>(bP p0.ae.bv).bind fun l3=>(bP p0.ae.aq).bind fun l4=>(bP p0.ae.af.aA).bind fun l5=>(bP p0.ae.af.be).bind fun l6=>(bP p0.ae.af.bi).bind fun l7=>If (aP.mk p0.ci (Field.mk l0) (bC.mk p0.ai.aM l1) (aK.mk (bc.mk l5 l6 l7) l3 l4) l2)
def ad8:bz:=⟨ax.one (Arg.agg bS),Arg.agg bS,fun a=>lP a,.own,M2⟩
def Q4:bz:=⟨ax.one (Arg.agg bS),Arg.agg bS,fun a=>lP a,.mO,NE⟩
theorem J3:aF aO 180 ad8:=Oc QB aB [(61,bz.clone dQ),(209,bz.clone dQ),(210,bz.clone dQ),(211,bz.clone kr),(32,bz.clone ki),(212,bz.clone kb)] ⟨tF,vq,BQ,sG,mb,sF,trivial⟩
theorem Gb:aF aO 180 Q4:=Oc QB aB [(61,bz.clone dQ),(209,bz.clone dQ),(210,bz.clone dQ),(211,bz.clone kr),(32,bz.clone ki),(212,bz.clone kb)] ⟨tF,vq,BQ,sG,mb,sF,trivial⟩
def uC (p0:Int×Int×Int) (p1:Int):Option Int:=(ez p0.1 p1).bind fun n0=>If n0
def aq1:bz:=⟨ax.cons (Arg.agg (cA.row dQ)) (ax.one (Arg.int .i64)),Arg.int .i64,fun a=>uC a.1 a.2,.pure,NE⟩
theorem ad9:aF aO 272 aq1:=Oc acC aB [(111,L7)] ⟨wC,trivial⟩
def iI (s:Hq):Option Vn:=bif PP (s.2.2.2.1<s.2.2.2.2) then (aI s.1 (aa .i64 (nR .u64 (aa .u64 (aa .i64 (s.2.2.2.1+s.2.2.2.2))) 1))).bind fun a0=>(uC a0 s.2.1).bind fun n1=>bif PP (n1<0) then If (.next (s.1,s.2.1,s.2.2.1,aa .i64 ((aa .i64 (nR .u64 (aa .u64 (aa .i64 (s.2.2.2.1+s.2.2.2.2))) 1))+1),s.2.2.2.2)) else If (.next (s.1,s.2.1,s.2.2.1,s.2.2.2.1,aa .i64 (nR .u64 (aa .u64 (aa .i64 (s.2.2.2.1+s.2.2.2.2))) 1))) else bif PP (s.2.2.2.1<s.2.2.1) then (aI s.1 s.2.2.2.1).bind fun a2=>(uC a2 s.2.1).bind fun n3=>If (.done (s.2.2.2.1,n3==0)) else If (.done (s.2.2.2.1,NE))
def dd (p0:List (Int×Int×Int)) (p1:Int) (_:Unit):Option (Int×Bool):=az iI (p0,p1,ut (F0s p0),0,ut (F0s p0))
def Mk:bz:=⟨ax.cons (Arg.sl dQ) (ax.cons (Arg.int .i64) (ax.one (Arg.eI 272 ax.nil))),Arg.cq (ax.cons (Arg.int .i64) (ax.one Arg.bool)),fun a=>dd a.1 a.2.1 a.2.2,.pure,NE⟩
theorem Ml:aF aO 271 Mk:=Oc acB aB [(272,aq1)] ⟨ad9,trivial⟩
def nK (p0:List (Int×Int×Int)) (p1:Int):Option (Int×Bool):=(dd p0 p1 ()).bind fun a0=>If a0
def aml:bz:=⟨ax.cons (Arg.sl dQ) (ax.one (Arg.int .i64)),Arg.cq (ax.cons (Arg.int .i64) (ax.one Arg.bool)),fun a=>nK a.1 a.2,.pure,NE⟩
theorem Q5:aF aO 233 aml:=Oc acd aB [(271,Mk)] ⟨Ml,trivial⟩
def yh (p0:bc) (p1:Int×Int):Option (Bool×Int):=(px p0).bind fun n0=>bif n0 !=0 then If (NE,n0) else bif PP (0<=p1.1) then bif PP (p1.1<(ut (F0s p0.be))) then (aI p0.be p1.1).bind fun b1=>bif b1 then (aI p0.aA p1.1).bind fun n2=>If (n2==p1.2,0) else If (NE,0) else If (NE,0) else If (NE,0)
def amm:bz:=⟨ax.cons (Arg.agg fJ) (ax.one (Arg.agg (cA.row iH))),Arg.cq (ax.cons Arg.bool (ax.one (Arg.int .i64))),fun a=>yh a.1 a.2,.pure,NE⟩
theorem Q6:aF aO 292 amm:=Oc acO aB [(182,ady)] ⟨JX,trivial⟩
def oA (p0:aK) (p1:Int×Int):Option (Int×Int):=(kx p0).bind fun n0=>bif n0 !=0 then If (0,n0) else (yh p0.af p1).bind fun a1=>bif a1.2 !=0 then If (0,6) else bif !a1.1 then If (0,6) else (aI p0.aq p1.1).bind fun n2=>If (n2,0)
def amn:bz:=⟨ax.cons (Arg.agg cZ) (ax.one (Arg.agg (cA.row iH))),Arg.cq (ax.cons (Arg.int .i64) (ax.one (Arg.int .i64))),fun a=>oA a.1 a.2,.pure,NE⟩
theorem Q7:aF aO 273 amn:=Oc acD aB [(127,Vz),(292,amm)] ⟨Eu,Q6,trivial⟩
def rh (p0:List Int) (p1:Int):Option (List Int):=(bP p0).bind fun l0=>(bq l0 [p1]).bind fun l1=>If l1
def aq2:bz:=⟨ax.cons (Arg.sl ki) (ax.one (Arg.int .i64)),Arg.sl ki,fun a=>rh a.1 a.2,.mO,NE⟩
theorem aea:aF aO 300 aq2:=Oc acT aB [(301,bz.clone ki)] ⟨L2,trivial⟩
def zf (p0:bc) (p1:Int×Int):Option (bc×Int):=(yh p0 p1).bind fun a0=>bif a0.2 !=0 then If (bc.mk [] [] [],a0.2) else bif !a0.1 then If (bc.mk [] [] [],6) else (bP p0.aA).bind fun l1=>(bP p0.be).bind fun l2=>(rh p0.bi p1.1).bind fun l3=>(aI l2 p1.1).bind fun _=>If (bc.mk l1 (bZ l2 p1.1 NE) l3,0)
def aq3:bz:=⟨ax.cons (Arg.agg fJ) (ax.one (Arg.agg (cA.row iH))),Arg.cq (ax.cons (Arg.agg fJ) (ax.one (Arg.int .i64))),fun a=>zf a.1 a.2,.mO,NE⟩
theorem aeb:aF aO 293 aq3:=aF.of acP (cx:=(iT aB [(292,amm),(32,bz.clone ki),(212,bz.clone kb),(300,aq2)] [] [(298,U')] [])) rfl (gI.make ⟨Q6,mb,sF,aea,trivial⟩ trivial ⟨QJ,trivial⟩) (fun a=>by kernel_rfl)
def bX (a:acW):Option Ho:=(aI (a.2.2.2.2.2.2.2.2.2.2.2.1.take a.2.2.2.1) a.2.2.2.2.2.1).bind fun _=>(aI a.2.2.2.2.2.2.2.2.2.2.2.2 a.2.2.2.2.2.2.2.2.2.1).bind fun _=>bif ((bZ a.2.2.2.2.2.2.2.2.2.2.2.1 a.2.2.2.2.2.1 (a.2.2.2.2.2.2.1,a.2.2.2.2.2.2.2.1,a.2.2.2.2.2.2.2.2.1,a.2.2.2.2.2.2.2.2.2.1,a.2.2.2.2.2.2.2.2.2.2.1)).length)==(F0s a.2.2.2.2.2.2.2.2.2.2.2.1) then bif ((bZ a.2.2.2.2.2.2.2.2.2.2.2.2 a.2.2.2.2.2.2.2.2.2.1 a.2.2.2.2.2.1).length)==(F0s a.2.2.2.2.2.2.2.2.2.2.2.2) then If (bZ a.2.2.2.2.2.2.2.2.2.2.2.1 a.2.2.2.2.2.1 (a.2.2.2.2.2.2.1,a.2.2.2.2.2.2.2.1,a.2.2.2.2.2.2.2.2.1,a.2.2.2.2.2.2.2.2.2.1,a.2.2.2.2.2.2.2.2.2.2.1),bZ a.2.2.2.2.2.2.2.2.2.2.2.2 a.2.2.2.2.2.2.2.2.2.1 a.2.2.2.2.2.1) else IR else IR
def O0:dN:=⟨[.l [.i .i64],.l [.b],.l [.i .i64],.n,.n,.i,.i,.i,.i,.i,.i,.l [.i .i64,.i .i64,.i .i64,.i .i64,.i .i64],.l [.i .i64]],[.agg [.sl [.i .i64] [],.sl [.b] [],.sl [.i .i64] [],.pre 0 0 0 NE,.own 1 NE],.int .i64 0,.agg [.int .i64 0,.int .i64 0,.int .i64 0,.int .i64 0,.int .i64 0]],[.arr [.i .i64,.i .i64,.i .i64,.i .i64,.i .i64] [],.arr [.i .i64] []],[.l [.i .i64,.i .i64,.i .i64,.i .i64,.i .i64],.l [.i .i64]],.cq [],[.arr [.i .i64,.i .i64,.i .i64,.i .i64,.i .i64] [],.arr [.i .i64] []],fun a=>bX a⟩
theorem Ik:jr aO 295 O0:=jr.of QI (wd:=NE) (cx:=(iT aB [] [] [] [])) (gI.make trivial trivial trivial) (fun a=>by kernel_rfl)
def fL (c0:acW) (s:apP):Option (Step apP apL):=match s with |(a,b,d,e,f,g,h,i,j,k,l,m,n,o)=>bif PP (b<(ut i)) then bif PP ((aa .i64 (b+1))<(ut i)) then (aI (d.take i) (aa .i64 (b+1))).bind fun a0=>(aI (d.take i) b).bind fun a1=>(cy a0 a1).bind fun n2=>bif PP (n2<0) then (aI (d.take i) (aa .i64 (b+1))).bind fun a3=>(cy a3 (k,l,m,n,o)).bind fun n4=>bif PP (0<=n4) then (bX (f,g,h,i,j,a,k,l,m,n,o,d,e)).bind fun a5=>bif (F0s a5.1)==(F0s c0.2.2.2.2.2.2.2.2.2.2.2.1) then bif (F0s a5.2)==(F0s c0.2.2.2.2.2.2.2.2.2.2.2.2) then If (.done (.done a5)) else IR else IR else (aI (d.take i) (aa .i64 (b+1))).bind fun a6=>(bX (f,g,h,i,j,a,a6.1,a6.2.1,a6.2.2.1,a6.2.2.2.1,a6.2.2.2.2,d,e)).bind fun a7=>If (.next (aa .i64 (b+1),aa .i64 ((aa .i64 (2*(aa .i64 (b+1))))+1),a7.1,a7.2,(f,g,h,i,j,k,l,m,n,o))) else (aI (d.take i) b).bind fun a8=>(cy a8 (k,l,m,n,o)).bind fun n9=>bif PP (0<=n9) then (bX (f,g,h,i,j,a,k,l,m,n,o,d,e)).bind fun xz=>bif (F0s xz.1)==(F0s c0.2.2.2.2.2.2.2.2.2.2.2.1) then bif (F0s xz.2)==(F0s c0.2.2.2.2.2.2.2.2.2.2.2.2) then If (.done (.done xz)) else IR else IR else (aI (d.take i) b).bind fun zW=>(bX (f,g,h,i,j,a,zW.1,zW.2.1,zW.2.2.1,zW.2.2.2.1,zW.2.2.2.2,d,e)).bind fun a12=>If (.next (b,aa .i64 ((aa .i64 (2*b))+1),a12.1,a12.2,(f,g,h,i,j,k,l,m,n,o))) else (aI (d.take i) b).bind fun QU=>(cy QU (k,l,m,n,o)).bind fun n14=>bif PP (0<=n14) then (bX (f,g,h,i,j,a,k,l,m,n,o,d,e)).bind fun W3=>bif (F0s W3.1)==(F0s c0.2.2.2.2.2.2.2.2.2.2.2.1) then bif (F0s W3.2)==(F0s c0.2.2.2.2.2.2.2.2.2.2.2.2) then If (.done (.done W3)) else IR else IR else (aI (d.take i) b).bind fun KB=>(bX (f,g,h,i,j,a,KB.1,KB.2.1,KB.2.2.1,KB.2.2.2.1,KB.2.2.2.2,d,e)).bind fun a17=>If (.next (b,aa .i64 ((aa .i64 (2*b))+1),a17.1,a17.2,(f,g,h,i,j,k,l,m,n,o))) else (bX (f,g,h,i,j,a,k,l,m,n,o,d,e)).bind fun Tq=>bif (F0s Tq.1)==(F0s c0.2.2.2.2.2.2.2.2.2.2.2.1) then bif (F0s Tq.2)==(F0s c0.2.2.2.2.2.2.2.2.2.2.2.2) then If (.done (.done Tq)) else IR else IR
def eC (c0:acW) (s:apK):Option apL:=bif PP (0<s.1) then (aI (s.2.1.take s.2.2.2.2.2.2.1) (aa .i64 (v6 (aa .i64 (s.1-1)) 2))).bind fun a0=>(cy s.2.2.2.2.2.2.2.2 a0).bind fun n1=>bif PP (n1<0) then (aI (s.2.1.take s.2.2.2.2.2.2.1) (aa .i64 (v6 (aa .i64 (s.1-1)) 2))).bind fun a2=>(bX (s.2.2.2.1,s.2.2.2.2.1,s.2.2.2.2.2.1,s.2.2.2.2.2.2.1,s.2.2.2.2.2.2.2.1,s.1,a2.1,a2.2.1,a2.2.2.1,a2.2.2.2.1,a2.2.2.2.2,s.2.1,s.2.2.1)).bind fun a3=>If (.next (aa .i64 (v6 (aa .i64 (s.1-1)) 2),a3.1,a3.2,s.2.2.2)) else az (fL c0) (s.1,aa .i64 ((aa .i64 (2*s.1))+1),s.2) else az (fL c0) (s.1,aa .i64 ((aa .i64 (2*s.1))+1),s.2)
def jz (a:acW):Option Ho:=az (eC a) (a.2.2.2.2.2.1,a.2.2.2.2.2.2.2.2.2.2.2.1,a.2.2.2.2.2.2.2.2.2.2.2.2,a.1,a.2.1,a.2.2.1,a.2.2.2.1,a.2.2.2.2.1,a.2.2.2.2.2.2.1,a.2.2.2.2.2.2.2.1,a.2.2.2.2.2.2.2.2.1,a.2.2.2.2.2.2.2.2.2.1,a.2.2.2.2.2.2.2.2.2.2.1)
def J4:dN:=⟨[.l [.i .i64],.l [.b],.l [.i .i64],.n,.n,.i,.i,.i,.i,.i,.i,.l [.i .i64,.i .i64,.i .i64,.i .i64,.i .i64],.l [.i .i64]],[.agg [.sl [.i .i64] [],.sl [.b] [],.sl [.i .i64] [],.pre 0 0 0 NE,.own 1 NE],.int .i64 0,.agg [.int .i64 0,.int .i64 0,.int .i64 0,.int .i64 0,.int .i64 0]],[.arr [.i .i64,.i .i64,.i .i64,.i .i64,.i .i64] [],.arr [.i .i64] []],[.l [.i .i64,.i .i64,.i .i64,.i .i64,.i .i64],.l [.i .i64]],.cq [],[.arr [.i .i64,.i .i64,.i .i64,.i .i64,.i .i64] [],.arr [.i .i64] []],fun a=>jz a⟩
theorem C4:jr aO 279 J4:=jr.of QF (wd:=NE) (cx:=(iT aB [(183,adI)] [(295,O0)] [] [])) (gI.make ⟨JZ,trivial⟩ ⟨Ik,trivial⟩ trivial) (fun a=>by kernel_rfl)
def p7 (p0:aK) (p1:Int):Option (aK×(Int×Int×Int×Int×Int)×Int):=(aI p0.bv p1).bind fun a0=>(zf p0.af a0.2.2.2).bind fun a1=>bif a1.2 !=0 then If (aK.mk (bc.mk [] [] []) [] [],(0,0,0,0,0),a1.2) else (bP p0.bv).bind fun l2=>(bP p0.aq).bind fun l3=>(aI l2 (aa .i64 ((ut (F0s l2)) -1))).bind fun a4=>(fW l2 0 (aa .i64 ((ut (F0s l2)) -1))).bind fun _=>(aI l3 a0.2.2.2.1).bind fun _=>bif PP (p1<(aa .i64 ((ut (F0s l2)) -1))) then (jz (a1.1.aA,a1.1.be,a1.1.bi,(aa .i64 ((ut (F0s l2)) -1)).toNat,F0s l2,p1,a4.1,a4.2.1,a4.2.2.1,a4.2.2.2.1,a4.2.2.2.2,l2,bZ l3 a0.2.2.2.1 (-1))).bind fun a7=>If (aK.mk a1.1 (a7.1.take ((aa .i64 ((ut (F0s l2)) -1)).toNat)) a7.2,a0,0) else If (aK.mk a1.1 (l2.take ((aa .i64 ((ut (F0s l2)) -1)).toNat)) (bZ l3 a0.2.2.2.1 (-1)),a0,0)
def aq4:bz:=⟨ax.cons (Arg.agg cZ) (ax.one (Arg.int .i64)),Arg.cq (ax.cons (Arg.agg cZ) (ax.cons (Arg.agg (cA.row kr)) (ax.one (Arg.int .i64)))),fun a=>p7 a.1 a.2,.mO,NE⟩
theorem aec:aF aO 274 aq4:=aF.of acE (cx:=(iT aB [(293,aq3),(211,bz.clone kr),(32,bz.clone ki)] [(279,J4)] [(278,Sy)] [])) rfl (gI.make ⟨aeb,sG,mb,trivial⟩ ⟨C4,trivial⟩ ⟨JM,trivial⟩) (fun a=>by kernel_rfl)
def kW (p0:aK) (p1:Int×Int):Option (aK×(Int×Int×Int×Int×Int)×Int):=(oA p0 p1).bind fun a0=>bif a0.2 !=0 then If (aK.mk (bc.mk [] [] []) [] [],(0,0,0,0,0),a0.2) else (p7 p0 a0.1).bind fun a1=>If a1
def amp:bz:=⟨ax.cons (Arg.agg cZ) (ax.one (Arg.agg (cA.row iH))),Arg.cq (ax.cons (Arg.agg cZ) (ax.cons (Arg.agg (cA.row kr)) (ax.one (Arg.int .i64)))),fun a=>kW a.1 a.2,.mO,NE⟩
theorem Q8:aF aO 234 amp:=Oc ace aB [(273,amn),(274,aq4)] ⟨Q7,aec,trivial⟩
def gZ (a:SG):Option (Nat×Nat×cj):=bif (((PP (0<=a.1))&&(PP (a.1<=a.2.1)))&&(PP (a.2.1<=(ut (F0s a.2.2)))))&&(PP ((ut (F0s a.2.2))<=(ut (F0s a.2.2)))) then bif a.1==a.2.1 then bif (F0s a.2.2)==(F0s a.2.2) then If (F0s a.2.2,F0s a.2.2,a.2.2) else IR else (fW a.2.2 0 a.1).bind fun _=>bif ((PP (0<=a.2.1))&&(PP (a.2.1<=(ut (F0s a.2.2)))))&&(PP ((ut (F0s a.2.2))<=(ut (F0s a.2.2)))) then bif ((a.2.2.drop (0+a.2.1.toNat)).take (((ut (F0s a.2.2)).toNat) -a.2.1.toNat)).isEmpty then bif ((PP (0<=(ut a.1.toNat)))&&(PP ((ut a.1.toNat)<=(ut (F0s a.2.2)))))&&(PP ((ut (F0s a.2.2))<=(ut (F0s a.2.2)))) then bif EQ (((ut (F0s a.2.2)).toNat) - ((ut a.1.toNat).toNat)) 0 then bif (F0s a.2.2)==(F0s a.2.2) then If (a.1.toNat,F0s a.2.2,a.2.2) else IR else bif (Do ((0+((ut a.1.toNat).toNat))+(((ut (F0s a.2.2)).toNat) - ((ut a.1.toNat).toNat))) (F0s a.2.2))&&(!NE) then bif ((eX a.2.2 (0+((ut a.1.toNat).toNat)) (ww (((ut (F0s a.2.2)).toNat) - ((ut a.1.toNat).toNat)) (0,0,0))).length)==(F0s a.2.2) then If (a.1.toNat,F0s a.2.2,eX a.2.2 (0+((ut a.1.toNat).toNat)) (ww (((ut (F0s a.2.2)).toNat) - ((ut a.1.toNat).toNat)) (0,0,0))) else IR else IR else IR else bif Do (a.1.toNat+(((a.2.2.drop (0+a.2.1.toNat)).take (((ut (F0s a.2.2)).toNat) -a.2.1.toNat)).length)) (F0s a.2.2) then bif (Do (a.1.toNat+(((a.2.2.drop (0+a.2.1.toNat)).take (((ut (F0s a.2.2)).toNat) -a.2.1.toNat)).length)) (F0s a.2.2))&&(!NE) then bif ((PP (0<=(ut (a.1.toNat+(((a.2.2.drop (0+a.2.1.toNat)).take (((ut (F0s a.2.2)).toNat) -a.2.1.toNat)).length)))))&&(PP ((ut (a.1.toNat+(((a.2.2.drop (0+a.2.1.toNat)).take (((ut (F0s a.2.2)).toNat) -a.2.1.toNat)).length)))<=(ut (F0s a.2.2)))))&&(PP ((ut (F0s a.2.2))<=(ut (F0s a.2.2)))) then bif EQ (((ut (F0s a.2.2)).toNat) - ((ut (a.1.toNat+(((a.2.2.drop (0+a.2.1.toNat)).take (((ut (F0s a.2.2)).toNat) -a.2.1.toNat)).length))).toNat)) 0 then bif ((eX a.2.2 a.1.toNat ((a.2.2.drop (0+a.2.1.toNat)).take (((ut (F0s a.2.2)).toNat) -a.2.1.toNat))).length)==(F0s a.2.2) then If (a.1.toNat+(((a.2.2.drop (0+a.2.1.toNat)).take (((ut (F0s a.2.2)).toNat) -a.2.1.toNat)).length),F0s a.2.2,eX a.2.2 a.1.toNat ((a.2.2.drop (0+a.2.1.toNat)).take (((ut (F0s a.2.2)).toNat) -a.2.1.toNat))) else IR else bif (Do ((0+((ut (a.1.toNat+(((a.2.2.drop (0+a.2.1.toNat)).take (((ut (F0s a.2.2)).toNat) -a.2.1.toNat)).length))).toNat))+(((ut (F0s a.2.2)).toNat) - ((ut (a.1.toNat+(((a.2.2.drop (0+a.2.1.toNat)).take (((ut (F0s a.2.2)).toNat) -a.2.1.toNat)).length))).toNat))) ((eX a.2.2 a.1.toNat ((a.2.2.drop (0+a.2.1.toNat)).take (((ut (F0s a.2.2)).toNat) -a.2.1.toNat))).length))&&(!NE) then bif ((eX (eX a.2.2 a.1.toNat ((a.2.2.drop (0+a.2.1.toNat)).take (((ut (F0s a.2.2)).toNat) -a.2.1.toNat))) (0+((ut (a.1.toNat+(((a.2.2.drop (0+a.2.1.toNat)).take (((ut (F0s a.2.2)).toNat) -a.2.1.toNat)).length))).toNat)) (ww (((ut (F0s a.2.2)).toNat) - ((ut (a.1.toNat+(((a.2.2.drop (0+a.2.1.toNat)).take (((ut (F0s a.2.2)).toNat) -a.2.1.toNat)).length))).toNat)) (0,0,0))).length)==(F0s a.2.2) then If (a.1.toNat+(((a.2.2.drop (0+a.2.1.toNat)).take (((ut (F0s a.2.2)).toNat) -a.2.1.toNat)).length),F0s a.2.2,eX (eX a.2.2 a.1.toNat ((a.2.2.drop (0+a.2.1.toNat)).take (((ut (F0s a.2.2)).toNat) -a.2.1.toNat))) (0+((ut (a.1.toNat+(((a.2.2.drop (0+a.2.1.toNat)).take (((ut (F0s a.2.2)).toNat) -a.2.1.toNat)).length))).toNat)) (ww (((ut (F0s a.2.2)).toNat) - ((ut (a.1.toNat+(((a.2.2.drop (0+a.2.1.toNat)).take (((ut (F0s a.2.2)).toNat) -a.2.1.toNat)).length))).toNat)) (0,0,0))) else IR else IR else IR else IR else IR else IR else IR
def VK:dN:=⟨[.i,.i,.l [.i .i64,.i .i64,.i .i64]],[.own 0 NE,.int .i64 0,.int .i64 0],[.arr [.i .i64,.i .i64,.i .i64] []],[.n,.n,.l [.i .i64,.i .i64,.i .i64]],.pre 0 0 0 NE,[.arr [.i .i64,.i .i64,.i .i64] []],fun a=>gZ a⟩
theorem SN:jr aO 235 VK:=jr.of acf (wd:=M2) (cx:=(iT aB [] [] [] [])) (gI.make trivial trivial trivial) (fun a=>by kernel_rfl)
def pA (p0:aP) (p1:Int):Option (aP×(Int×Int)×Int):=(tM p0.ai p1).bind fun a0=>bif a0.2.2 !=0 then If (gO,a0.2) else (lP p0).bind fun r1=>(nK p0.io p1).bind fun a2=>bif a2.2 then (aI p0.io a2.1).bind fun a3=>(kW p0.ae a3.2).bind fun a4=>bif a4.2.2 !=0 then If (gO,a0.2.1,a4.2.2) else (gZ (a2.1,aa .i64 (a2.1+1),r1.io)).bind fun a5=>If (aP.mk r1.ci r1.ii a0.1 a4.1 (a5.2.2.take a5.1),a0.2.1,0) else If (aP.mk r1.ci r1.ii a0.1 r1.ae r1.io,a0.2.1,0)
def aq5:bz:=⟨ax.cons (Arg.agg bS) (ax.one (Arg.int .i64)),Arg.cq (ax.cons (Arg.agg bS) (ax.cons (Arg.agg (cA.row iH)) (ax.one (Arg.int .i64)))),fun a=>pA a.1 a.2,.mO,NE⟩
theorem aed:aF aO 179 aq5:=aF.of abG (cx:=(iT aB [(232,aq0),(180,ad8),(180,Q4),(233,aml),(234,amp)] [(235,VK)] [] [])) rfl (gI.make ⟨ad7,J3,Gb,Q5,Q8,trivial⟩ ⟨SN,trivial⟩ trivial) (fun a=>by kernel_rfl)
def rQ (p0:aP) (p1:Int):Option (aP×Int):=(gq p0).bind fun n0=>bif n0 !=0 then If (gO,n0) else (pA p0 p1).bind fun a1=>If (a1.1,a1.2.2)
def aq6:bz:=⟨ax.cons (Arg.agg bS) (ax.one (Arg.int .i64)),Arg.cq (ax.cons (Arg.agg bS) (ax.one (Arg.int .i64))),fun a=>rQ a.1 a.2,.mO,NE⟩
theorem aee:aF aO 204 aq6:=Oc abP aB [(74,c74),(179,aq5)] ⟨Ga,aed,trivial⟩
def iG (s:(cj×cj×Int×Int)):Option (Step (cj×cj×Int×Int) Bool):=bif PP (s.2.2.2<s.2.2.1) then (aI s.1 s.2.2.2).bind fun a0=>(aI s.2.1 s.2.2.2).bind fun a1=>bif !((a0.1==a1.1)&&((a0.2.1==a1.2.1)&&(a0.2.2==a1.2.2))) then If (.done NE) else If (.next (s.1,s.2.1,s.2.2.1,aa .i64 (s.2.2.2+1))) else If (.done M2)
def kz (p0:List (Int×Int×Int)) (p1:List (Int×Int×Int)):Option Bool:=bif (ut (F0s p0)) !=(ut (F0s p1)) then If NE else az iG (p0,p1,ut (F0s p0),0)
def aq7:bz:=⟨ax.cons (Arg.sl dQ) (ax.one (Arg.sl dQ)),Arg.bool,fun a=>kz a.1 a.2,.pure,NE⟩
theorem aef:aF aO 205 aq7:=Oc abQ aB [] trivial
def bY (a:acX):Option Ho:=(aI a.2.2.2.2.2.2.2.2.2.1 a.2.2.2.1).bind fun _=>(aI a.2.2.2.2.2.2.2.2.2.2 a.2.2.2.2.2.2.2.1).bind fun _=>bif ((bZ a.2.2.2.2.2.2.2.2.2.1 a.2.2.2.1 (a.2.2.2.2.1,a.2.2.2.2.2.1,a.2.2.2.2.2.2.1,a.2.2.2.2.2.2.2.1,a.2.2.2.2.2.2.2.2.1)).length)==(F0s a.2.2.2.2.2.2.2.2.2.1) then bif ((bZ a.2.2.2.2.2.2.2.2.2.2 a.2.2.2.2.2.2.2.1 a.2.2.2.1).length)==(F0s a.2.2.2.2.2.2.2.2.2.2) then If (bZ a.2.2.2.2.2.2.2.2.2.1 a.2.2.2.1 (a.2.2.2.2.1,a.2.2.2.2.2.1,a.2.2.2.2.2.2.1,a.2.2.2.2.2.2.2.1,a.2.2.2.2.2.2.2.2.1),bZ a.2.2.2.2.2.2.2.2.2.2 a.2.2.2.2.2.2.2.1 a.2.2.2.1) else IR else IR
def VL:dN:=⟨[.l [.i .i64],.l [.b],.l [.i .i64],.i,.i,.i,.i,.i,.i,.l [.i .i64,.i .i64,.i .i64,.i .i64,.i .i64],.l [.i .i64]],[.agg [.sl [.i .i64] [],.sl [.b] [],.sl [.i .i64] [],.own 0 NE,.own 1 NE],.int .i64 0,.agg [.int .i64 0,.int .i64 0,.int .i64 0,.int .i64 0,.int .i64 0]],[.arr [.i .i64,.i .i64,.i .i64,.i .i64,.i .i64] [],.arr [.i .i64] []],[.l [.i .i64,.i .i64,.i .i64,.i .i64,.i .i64],.l [.i .i64]],.cq [],[.arr [.i .i64,.i .i64,.i .i64,.i .i64,.i .i64] [],.arr [.i .i64] []],fun a=>bY a⟩
theorem SP:jr aO 295 VL:=jr.of QI (wd:=NE) (cx:=(iT aB [] [] [] [])) (gI.make trivial trivial trivial) (fun a=>by kernel_rfl)
end
end
end Go.Proofs.YtbgoiokedpjgbaaGreat
