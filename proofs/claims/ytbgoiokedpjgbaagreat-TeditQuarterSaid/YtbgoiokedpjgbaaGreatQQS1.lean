/- Plain functions for what the functions of the seat compute. Printed by a program. -/
import Derived.Test.YtbgoiokedpjgbaaGreatQVm3
import Derived.Test.YtbgoiokedpjgbaaGreatQQXT
open Int renaming ofNat->ut,tdiv->v6,tmod->AC
open List renaming replicate->ww,length->F0s
open Nat renaming ble->Do,beq->EQ
open Option renaming some->If,none->IR
open Bool renaming true->M2,false->NE
open Decidable renaming decide->PP
set_option maxRecDepth 100000
namespace Go.Proofs.YtbgoiokedpjgbaaGreat
open Go.Vm
noncomputable section
theorem Oc {f:FuncId} {x:aK} {α β:Type} {args:au α} {res:Arg β} {kd:Kd} {fn:α->Option β} {ow:Bool} (hf:aP f=If (.code x)) (lp:Option Nat) (l:List (Nat×bD)) (h:AX aP l) (ho:X9 kd ow=M2:=by rfl) (e: ∀a,afA (iV lp l [] [] []) x args res kd a=fn a:=by intro a;kernel_rfl):aF aP f ⟨args,res,fn,kd,ow⟩:=aF.of hf (cx:=iV lp l [] [] []) ho (gJ.make h trivial trivial) e
abbrev iu:List PT:=[.i .i64,.i .i64]
abbrev ek:List PT:=[.i .i64,.i .i64,.i .i64]
abbrev ki:List PT:=[.i .i64]
abbrev kb:List PT:=[.b]
abbrev kv:List PT:=[.i .i64,.i .i64,.i .i64,.i .i64,.i .i64]
abbrev yx:List PT:=[.b,.i .u64,.i .u64]
abbrev aoK:List PT:=[.i .i64,.i .i64,.i .i64,.i .i64]
abbrev kiu:List PT:=[.i .i64,.i .u64]
structure Field where
 am:List (Int×Int×Int)
def bQ:cI Field:=cI.iso (cI.sl ek) (fun p=>⟨p⟩) (fun c=>c.am) (fun _=>rfl)
structure bg where
 aA:List Int
 be:List Bool
 bi:List Int
def gC:cI bg:=cI.iso (cI.prod (cI.sl ki) (cI.prod (cI.sl kb) (cI.sl ki))) (fun p=>⟨p.1,p.2.1,p.2.2⟩) (fun c=>(c.aA,c.be,c.bi)) (fun _=>rfl)
structure aL where
 ai:bg
 bv:List (Int×Int×Int×Int×Int)
 aq:List Int
def dI:cI aL:=cI.iso (cI.prod gC (cI.prod (cI.sl kv) (cI.sl ki))) (fun p=>⟨p.1,p.2.1,p.2.2⟩) (fun c=>(c.ai,c.bv,c.aq)) (fun _=>rfl)
structure bF where
 aN:Int
 ce:List (Int×Int×Int)
def iF:cI bF:=cI.iso (cI.prod (cI.int .i64) (cI.sl ek)) (fun p=>⟨p.1,p.2⟩) (fun c=>(c.aN,c.ce)) (fun _=>rfl)
structure aM where
 ci:Int×Int
 ii:Field
 af:bF
 ae:aL
 io:List (Int×Int×Int)
def bY:cI aM:=cI.iso (cI.prod (cI.row iu) (cI.prod bQ (cI.prod iF (cI.prod dI (cI.sl ek))))) (fun p=>⟨p.1,p.2.1,p.2.2.1,p.2.2.2.1,p.2.2.2.2⟩) (fun c=>(c.ci,c.ii,c.af,c.ae,c.io)) (fun _=>rfl)
structure bA where
 aI:List Int
 iH:List Int
def hU:cI bA:=cI.iso (cI.prod (cI.sl ki) (cI.sl ki)) (fun p=>⟨p.1,p.2⟩) (fun c=>(c.aI,c.iH)) (fun _=>rfl)
structure bz where
 jp:aM
 kw:bA
def jG:cI bz:=cI.iso (cI.prod bY hU) (fun p=>⟨p.1,p.2⟩) (fun c=>(c.jp,c.kw)) (fun _=>rfl)
theorem sM:aF aP 212 (bD.clone kb):=aF.clone abT rfl
theorem Vn:aF aP 289 (bD.LX):=aF.LX acH
theorem mf:aF aP 32 (bD.clone ki):=aF.clone akw rfl
theorem tZ:aF aP 61 (bD.clone ek):=aF.clone akS rfl
theorem vQ:aF aP 209 (bD.clone ek):=aF.clone abQ rfl
theorem B1:aF aP 210 (bD.clone ek):=aF.clone abR rfl
theorem sN:aF aP 211 (bD.clone kv):=aF.clone abS rfl
theorem Ml:aF aP 301 (bD.clone ki):=aF.clone acQ rfl
abbrev gr:aM:=aM.mk (0,0) (Field.mk []) (bF.mk 0 []) (aL.mk (bg.mk [] [] []) [] []) []
section
abbrev kx:=List (Int×Int×Int×Int×Int)
abbrev cC:=List (Int×Int×Int)
abbrev oX:=List (Int×Int)
abbrev aoL:=oX×Int×Int×Int×cC×Int×cC×(List Int)×(List Bool)×(List Int)×kx×(List Int)×cC×cC×Int×Int×Int×Int×Int×cC×Int×cC×(List Int)×(List Bool)×(List Int)×kx×(List Int)×cC
abbrev Zt2:=Step aoL (aM×Int)
abbrev Zt4:=Int×Int×Int×cC×Int×cC×(List Int)×(List Bool)×(List Int)×kx×(List Int)×cC×cC×Int×Int×Int×Int×Int×cC×Int×cC×(List Int)×(List Bool)×(List Int)×kx×(List Int)×cC
abbrev Zt7:=cC×cC×Int×Int×Int×Int×cC×Int×cC×(List Int)×(List Bool)×(List Int)×kx×(List Int)×cC
abbrev aoM:=oX×Int×Int×Int×Int×Int×Int×cC×Int×cC×(List Int)×(List Bool)×(List Int)×kx×(List Int)×cC
abbrev aoN:=Int×Int×Int×Int×cC×Int×cC×(List Int)×(List Bool)×(List Int)×kx×(List Int)×cC×(List Int)
abbrev aoO:=Step aoN Int
abbrev ali:=Int×Int×Int×Int×cC×Int×cC×(List Int)×(List Bool)×(List Int)×kx×(List Int)×cC
abbrev aoP:=Step ali Int
abbrev aoQ:=Int×kx×(List Int)×(List Int)×(List Bool)×(List Int)×Nat×Nat×Int×Int×Int×Int×Int
abbrev HE:=kx×(List Int)
abbrev aoR:=Step aoQ HE
abbrev acR:=(List Int)×Int×Int×(List Int)×(List Int)×(List (Int×Bool))
abbrev aoS:=Step acR Int
abbrev aoT:=Step acR aoS
abbrev aoU:=kx×Int×Int×(List Int)×(List Bool)×(List Int)×kx×(List Int)×(List (List Int))
abbrev aoV:=Int×Int×kx×(List Int)×(List Int)×(List Bool)×(List Int)×Nat×Nat×Int×Int×Int×Int×Int
abbrev acS:=(List Int)×(List Bool)×(List Int)×Nat×Nat×Int×Int×Int×Int×Int×Int×kx×(List Int)
abbrev acT:=(List Int)×(List Bool)×(List Int)×Int×Int×Int×Int×Int×Int×kx×(List Int)
abbrev aoW:=(List Int)×Int×Int×(List Int)×(List Bool)×(List Int)×kx×(List Int)
abbrev aoX:=Step aoW Int
abbrev acU:=(List Int)×(List Bool)×(List Int)×Nat×Nat×Int×kx×(List Int)
abbrev acV:=Int×kx×(List Int)×(List Int)×(List Bool)×(List Int)×Nat×Nat
abbrev aoY:=(List Int)×Int×Int×cC×Int×Int×(List (Int×Bool))
abbrev aoZ:=Step aoY (bA×Int)
abbrev alj:=Int×Int×(List Int)×(List Bool)×(List Int)×kx×(List Int)
abbrev ao0:=(List Int)×(List Bool)×(List Int)×Int×kx×(List Int)
abbrev ao1:=Int×kx×(List Int)×(List Int)×(List Bool)×(List Int)
abbrev ao2:=Int×cC×Int×Int×Int×cC×(List (List Int))
abbrev ao3:=(List Int)×Int×Int×(List Int)×(List Bool)×(List Int)×Int×(List Bool)
abbrev ao4:=Step ao3 Int
abbrev ao5:=Int×(List Int)×Int×Int×Nat×Nat×Nat×Int×Int×(List Int)×oX
abbrev alk:=(List Int)×(List Bool)×(List Int)×kx×(List Int)
abbrev SJ:=Int×Int×(List Int)
abbrev alm:=Step SJ (Nat×Nat×(List Int))
abbrev ao6:=Step SJ alm
abbrev ao7:=Step ((List Int)×Int×Int×(List Int)×oX) oX
abbrev ao8:=Int×Int×Int×cC×Int×Int×cC
abbrev SK:=Int×cC×Int×Int×(List Int)×(List Int)
abbrev HF:=cC×Int×Int×Int×Int
abbrev Vo:=Step HF (Int×Bool)
abbrev Vp:=cC×Int×Int×cC
abbrev acW:=Int×kx×(List Int)
abbrev Mm:=Int×cC
abbrev acX:=Step Mm (List Int)
abbrev SL:=Int×Int×cC
abbrev aln:=Step SL Int
abbrev B2:=Int×(List Int)×(List Bool)×(List Int)×kx×(List Int)
variable [LP]
def B3 (p0:Int):Option (Int×Int):=If (p0,1)
def c22:bD:=⟨au.one (Arg.int .i64),Arg.agg (cI.row iu),fun a=>B3 a,.pure,NE⟩
theorem Vq:aF aP 22 c22:=Oc aks aB [] trivial
def qE (p0:Int×Int×Int):Option Int:=bif PP (p0.1<0) then If 8 else bif PP (65535<p0.1) then If 8 else bif PP (p0.2.1<(-1048576)) then If 8 else bif PP (1048576<p0.2.1) then If 8 else bif PP (p0.2.2<(-1048576)) then If 8 else bif PP (1048576<p0.2.2) then If 8 else If 0
def ao9:bD:=⟨au.one (Arg.agg (cI.row ek)),Arg.int .i64,fun a=>qE a,.pure,NE⟩
theorem acY:aF aP 148 ao9:=Oc abd aB [] trivial
def iv (s:Mm):Option (Step Mm (Step Mm Int)):=bif PP (s.1<(ut (F0s s.2))) then (aJ s.2 (aa .i64 (s.1-1))).bind fun a0=>(aJ s.2 s.1).bind fun a1=>bif PP (a1.1<=a0.1) then If (.done (.done 32)) else If (.next (aa .i64 (s.1+1),s.2)) else If (.done (.done 0))
def lG (s:Mm):Option (Step Mm Int):=bif PP (s.1<(ut (F0s s.2))) then (aJ s.2 s.1).bind fun a0=>(qE a0).bind fun n1=>bif n1 !=0 then If (.done 8) else If (.next (aa .i64 (s.1+1),s.2)) else ay iv (1,s.2)
def gm (p0:Field):Option Int:=bif PP (64<(ut (F0s p0.am))) then If 4 else ay lG (0,p0.am)
def c88:bD:=⟨au.one (Arg.agg bQ),Arg.int .i64,fun a=>gm a,.pure,NE⟩
theorem Vr:aF aP 88 c88:=Oc ak' aB [(148,ao9)] ⟨acY,trivial⟩
def gK (p0:Int):Option Int:=bif PP (p0<0) then If (aa .u64 ((aa .u64 (aa .i64 (0- (aa .i64 (p0+1)))))+1)) else If (aa .u64 p0)
def acZ:bD:=⟨au.one (Arg.int .i64),Arg.int .u64,fun a=>gK a,.pure,NE⟩
theorem J8:aF aP 117 acZ:=Oc aaV aB [] trivial
def mR (s:(Int×Int)):Option (Step (Int×Int) Int):=bif s.2 !=0 then bif s.2==0 then IR else If (.next (s.2,AC s.1 s.2)) else If (.done s.1)
def oq (p0:Int) (p1:Int):Option Int:=ay mR (p0,p1)
def alo:bD:=⟨au.cons (Arg.int .u64) (au.one (Arg.int .u64)),Arg.int .u64,fun a=>oq a.1 a.2,.pure,NE⟩
theorem QY:aF aP 116 alo:=Oc aaU aB [] trivial
def nH (p0:Int×Int):Option Int:=bif PP (p0.2<1) then If 8 else bif p0.1==(-9223372036854775808) then If 8 else (gK p0.1).bind fun n0=>(oq n0 (aa .u64 p0.2)).bind fun n1=>bif n1 !=1 then If 8 else If 0
def c66:bD:=⟨au.one (Arg.agg (cI.row iu)),Arg.int .i64,fun a=>nH a,.pure,NE⟩
theorem O7:aF aP 66 c66:=Oc akV aB [(117,acZ),(116,alo)] ⟨J8,QY,trivial⟩
def lH (p0:Field):Option Field:=(bP p0.am).bind fun l0=>If (Field.mk l0)
def c71:bD:=⟨au.one (Arg.agg bQ),Arg.agg bQ,fun a=>lH a,.own,M2⟩
def Vs:bD:=⟨au.one (Arg.agg bQ),Arg.agg bQ,fun a=>lH a,.mz,NE⟩
theorem J9:aF aP 71 c71:=Oc Vj aB [] trivial
theorem EA:aF aP 71 Vs:=Oc Vj aB [] trivial
def yz (s:(Int×(List Int)×(List Bool)×(List Int))):Option (Step (Int×(List Int)×(List Bool)×(List Int)) bg):=bif PP (0<=s.1) then (bo s.2.2.2 [s.1]).bind fun l0=>If (.next (aa .i64 (s.1-1),s.2.1,s.2.2.1,l0)) else If (.done (bg.mk s.2.1 s.2.2.1 s.2.2.2))
def ua (p0:Int):Option bg:=bif p0==p0 then (sF p0 (0:Int)).bind fun l0=>bif p0==p0 then (sF p0 (NE:Bool)).bind fun l1=>ay yz (aa .i64 (p0-1),l0,l1,[]) else IR else IR
def apa:bD:=⟨au.one (Arg.int .i64),Arg.agg gC,fun a=>ua a,.mz,NE⟩
theorem ac0:aF aP 256 apa:=Oc acp aB [] trivial
def Ge (s:(Int×Int×(List Int)×(List Bool)×(List Int)×(List Int))):Option (Step (Int×Int×(List Int)×(List Bool)×(List Int)×(List Int)) aL):=bif PP (s.2.1<s.1) then (bo s.2.2.2.2.2 [-1]).bind fun l0=>If (.next (s.1,aa .i64 (s.2.1+1),s.2.2.1,s.2.2.2.1,s.2.2.2.2.1,l0)) else If (.done (aL.mk (bg.mk s.2.2.1 s.2.2.2.1 s.2.2.2.2.1) [] s.2.2.2.2.2))
def ud (p0:Int):Option aL:=(ua p0).bind fun r0=>ay Ge (p0,0,r0.aA,r0.be,r0.bi,[])
def apb:bD:=⟨au.one (Arg.int .i64),Arg.agg dI,fun a=>ud a,.mz,NE⟩
theorem ac1:aF aP 222 apb:=Oc ab1 aB [(256,apa)] ⟨ac0,trivial⟩
def ug (p0:Field) (p1:Int×Int):Option aM:=(lH p0).bind fun r0=>(ud 200).bind fun r1=>If (aM.mk p1 r0 (bF.mk 0 []) r1 [])
def apc:bD:=⟨au.cons (Arg.agg bQ) (au.one (Arg.agg (cI.row iu))),Arg.agg bY,fun a=>ug a.1 a.2,.mz,NE⟩
theorem ac2:aF aP 156 apc:=Oc abj aB [(71,c71),(71,Vs),(222,apb)] ⟨J9,EA,ac1,trivial⟩
def ot (s:(Int×Int×cC×(List Int))):Option (Step (Int×Int×cC×(List Int)) acX):=bif PP (s.2.1<s.1) then bif PP (s.2.1<(ut (F0s s.2.2.1))) then (aJ s.2.2.1 s.2.1).bind fun a0=>(bo s.2.2.2 [a0.1]).bind fun l1=>If (.next (s.1,aa .i64 (s.2.1+1),s.2.2.1,l1)) else (bo s.2.2.2 [-1]).bind fun l2=>If (.next (s.1,aa .i64 (s.2.1+1),s.2.2.1,l2)) else If (.done (.done s.2.2.2))
def ou (s:Mm):Option acX:=bif PP (s.1<(ut (F0s s.2))) then If (.next (aa .i64 (s.1*2),s.2)) else ay ot (s.1,0,s.2,[])
def qF (p0:Field):Option (List Int):=ay ou (1,p0.am)
def apd:bD:=⟨au.one (Arg.agg bQ),Arg.sl ki,fun a=>qF a,.mz,NE⟩
theorem ac3:aF aP 157 apd:=Oc abk aB [] trivial
def iw (p0:bA) (p1:Int):Option Int:=bif PP (p1<(ut (F0s p0.iH))) then (aJ p0.iH p1).bind fun n0=>If n0 else (aJ p0.aI (aa .i64 (p1- (ut (F0s p0.iH))))).bind fun n1=>If n1
def Vt:bD:=⟨au.cons (Arg.agg hU) (au.one (Arg.int .i64)),Arg.int .i64,fun a=>iw a.1 a.2,.pure,NE⟩
theorem EB:aF aP 102 Vt:=Oc aaL aB [] trivial
def qG (s:SL):Option aln:=bif PP (s.2.1<(ut (F0s s.2.2))) then (aJ s.2.2 s.2.1).bind fun a0=>bif a0.1==s.1 then If (.done s.2.1) else If (.next (s.1,aa .i64 (s.2.1+1),s.2.2)) else If (.done (-1))
def fL (p0:Field) (p1:Int):Option Int:=ay qG (p1,0,p0.am)
def c89:bD:=⟨au.cons (Arg.agg bQ) (au.one (Arg.int .i64)),Arg.int .i64,fun a=>fL a.1 a.2,.pure,NE⟩
theorem Gf:aF aP 89 c89:=Oc ala aB [] trivial
def pR (p0:Int) (p1:Int):Option (Bool×Int×Int):=If (NE,aa .u64 ((aa .u64 ((aa .u64 ((aa .u64 (v6 p0 4294967296))*(aa .u64 (v6 p1 4294967296))))+(aa .u64 (v6 (aa .u64 ((aa .u64 ((aa .u64 (v6 p0 4294967296))*(AC p1 4294967296)))+(aa .u64 (v6 (aa .u64 ((AC p0 4294967296)*(AC p1 4294967296))) 4294967296)))) 4294967296))))+(aa .u64 (v6 (aa .u64 ((aa .u64 ((AC p0 4294967296)*(aa .u64 (v6 p1 4294967296))))+(AC (aa .u64 ((aa .u64 ((aa .u64 (v6 p0 4294967296))*(AC p1 4294967296)))+(aa .u64 (v6 (aa .u64 ((AC p0 4294967296)*(AC p1 4294967296))) 4294967296)))) 4294967296))) 4294967296))),aa .u64 ((aa .u64 ((AC (aa .u64 ((aa .u64 ((AC p0 4294967296)*(aa .u64 (v6 p1 4294967296))))+(AC (aa .u64 ((aa .u64 ((aa .u64 (v6 p0 4294967296))*(AC p1 4294967296)))+(aa .u64 (v6 (aa .u64 ((AC p0 4294967296)*(AC p1 4294967296))) 4294967296)))) 4294967296))) 4294967296)*4294967296))+(AC (aa .u64 ((AC p0 4294967296)*(AC p1 4294967296))) 4294967296)))
def ape:bD:=⟨au.cons (Arg.int .u64) (au.one (Arg.int .u64)),Arg.agg (cI.row yx),fun a=>pR a.1 a.2,.pure,NE⟩
theorem ac4:aF aP 173 ape:=Oc aby aB [] trivial
def je (p0:Int) (p1:Int):Option (Bool×Int×Int):=(gK p0).bind fun n0=>(gK p1).bind fun n1=>(pR n0 n1).bind fun a2=>bif !((PP (p0<0))==(PP (p1<0))) then bif p0 !=0 then If (p1 !=0,a2.2) else If (NE,a2.2) else If (NE,a2.2)
def alp:bD:=⟨au.cons (Arg.int .i64) (au.one (Arg.int .i64)),Arg.agg (cI.row yx),fun a=>je a.1 a.2,.pure,NE⟩
theorem QZ:aF aP 118 alp:=Oc aaW aB [(117,acZ),(173,ape)] ⟨J8,ac4,trivial⟩
def ph (p0:Bool×Int×Int) (p1:Bool×Int×Int):Option Int:=bif p0.2.1 !=p1.2.1 then bif PP (p0.2.1<p1.2.1) then If (-1) else If 1 else bif p0.2.2 !=p1.2.2 then bif PP (p0.2.2<p1.2.2) then If (-1) else If 1 else If 0
def alq:bD:=⟨au.cons (Arg.agg (cI.row yx)) (au.one (Arg.agg (cI.row yx))),Arg.int .i64,fun a=>ph a.1 a.2,.pure,NE⟩
theorem Q0:aF aP 120 alq:=Oc aaY aB [] trivial
def qH (p0:Bool×Int×Int) (p1:Bool×Int×Int):Option (Bool×Int×Int):=bif PP (p0.2.2<p1.2.2) then If (NE,aa .u64 ((aa .u64 (p0.2.1-p1.2.1)) -1),aa .u64 (p0.2.2-p1.2.2)) else If (NE,aa .u64 (p0.2.1-p1.2.1),aa .u64 (p0.2.2-p1.2.2))
def apf:bD:=⟨au.cons (Arg.agg (cI.row yx)) (au.one (Arg.agg (cI.row yx))),Arg.agg (cI.row yx),fun a=>qH a.1 a.2,.pure,NE⟩
theorem ac5:aF aP 285 apf:=Oc acG aB [] trivial
def wV (p0:Bool×Int×Int) (p1:Bool×Int×Int):Option (Bool×Int×Int):=bif p0.1==p1.1 then bif PP ((aa .u64 (p0.2.2+p1.2.2))<p0.2.2) then If (p0.1,aa .u64 ((aa .u64 (p0.2.1+p1.2.1))+1),aa .u64 (p0.2.2+p1.2.2)) else If (p0.1,aa .u64 (p0.2.1+p1.2.1),aa .u64 (p0.2.2+p1.2.2)) else (ph p0 p1).bind fun n0=>bif PP (0<=n0) then (qH p0 p1).bind fun a1=>bif p0.1 then bif PP (0<a1.2.1) then If (M2,a1.2) else If (PP (0<a1.2.2),a1.2) else If (NE,a1.2) else (qH p1 p0).bind fun a2=>If (p1.1,a2.2)
def apg:bD:=⟨au.cons (Arg.agg (cI.row yx)) (au.one (Arg.agg (cI.row yx))),Arg.agg (cI.row yx),fun a=>wV a.1 a.2,.pure,NE⟩
theorem ac6:aF aP 258 apg:=Oc acr aB [(120,alq),(285,apf)] ⟨Q0,ac5,trivial⟩
def ky (p0:Bool×Int×Int):Option Int:=bif p0.2.1==0 then bif p0.2.2==0 then If 0 else bif p0.1 then If (-1) else If 1 else bif p0.1 then If (-1) else If 1
def alr:bD:=⟨au.one (Arg.agg (cI.row yx)),Arg.int .i64,fun a=>ky a,.pure,NE⟩
theorem Q1:aF aP 119 alr:=Oc aaX aB [] trivial
def zm (p0:Int×Int×Int) (p1:Int×Int×Int) (p2:Int×Int):Option Int:=(je (aa .i64 (p0.2.1-p1.2.1)) p2.2).bind fun a0=>(je (aa .i64 (p0.2.2-p1.2.2)) p2.1).bind fun a1=>(wV a0 a1).bind fun a2=>(ky a2).bind fun n3=>If n3
def aph:bD:=⟨au.cons (Arg.agg (cI.row ek)) (au.cons (Arg.agg (cI.row ek)) (au.one (Arg.agg (cI.row iu)))),Arg.int .i64,fun a=>zm a.1 a.2.1 a.2.2,.pure,NE⟩
theorem ac7:aF aP 224 aph:=Oc ab3 aB [(118,alp),(258,apg),(119,alr)] ⟨QZ,ac6,Q1,trivial⟩
def nI (p0:Int×Int×Int) (p1:Int×Int×Int) (p2:Int×Int):Option Bool:=(zm p0 p1 p2).bind fun n0=>bif n0 !=0 then If (PP (0<n0)) else bif p0.2.2 !=p1.2.2 then If (PP (p1.2.2<p0.2.2)) else If (PP (p0.1<p1.1))
def ac8:bD:=⟨au.cons (Arg.agg (cI.row ek)) (au.cons (Arg.agg (cI.row ek)) (au.one (Arg.agg (cI.row iu)))),Arg.bool,fun a=>nI a.1 a.2.1 a.2.2,.pure,NE⟩
theorem J':aF aP 164 ac8:=Oc abr aB [(224,aph)] ⟨ac7,trivial⟩
def sj (p0:Field) (p1:Int×Int) (p2:Int) (p3:Int):Option Int:=bif PP (p2<0) then If p3 else bif PP (p3<0) then If p2 else (fL p0 p2).bind fun n0=>(aJ p0.am n0).bind fun a1=>(fL p0 p3).bind fun n2=>(aJ p0.am n2).bind fun a3=>(nI a1 a3 p1).bind fun b4=>bif b4 then If p2 else If p3
def als:bD:=⟨au.cons (Arg.agg bQ) (au.cons (Arg.agg (cI.row iu)) (au.cons (Arg.int .i64) (au.one (Arg.int .i64)))),Arg.int .i64,fun a=>sj a.1 a.2.1 a.2.2.1 a.2.2.2,.pure,NE⟩
theorem Q2:aF aP 103 als:=Oc aaM aB [(89,c89),(164,ac8)] ⟨Gf,J',trivial⟩
def lI (s:SK):Option (Step SK bA):=bif PP (0<=s.1) then (iw (bA.mk s.2.2.2.2.1 s.2.2.2.2.2) (aa .i64 ((aa .i64 (2*s.1))+1))).bind fun n0=>(iw (bA.mk s.2.2.2.2.1 s.2.2.2.2.2) (aa .i64 ((aa .i64 (2*s.1))+2))).bind fun n1=>(sj (Field.mk s.2.1) (s.2.2.1,s.2.2.2.1) n0 n1).bind fun n2=>(aJ s.2.2.2.2.2 s.1).bind fun _=>If (.next (aa .i64 (s.1-1),s.2.1,s.2.2.1,s.2.2.2.1,s.2.2.2.2.1,cj s.2.2.2.2.2 s.1 n2)) else If (.done (bA.mk s.2.2.2.2.1 s.2.2.2.2.2))
def uh (p0:Field) (p1:Int×Int) (p2:List Int):Option bA:=(bP p2).bind fun l0=>bif (aa .i64 ((ut (F0s p2)) -1))==(aa .i64 ((ut (F0s p2)) -1)) then (sF (aa .i64 ((ut (F0s p2)) -1)) (0:Int)).bind fun l1=>ay lI (aa .i64 ((ut (F0s l1)) -1),p0.am,p1.1,p1.2,l0,l1) else IR
def api:bD:=⟨au.cons (Arg.agg bQ) (au.cons (Arg.agg (cI.row iu)) (au.one (Arg.sl ki))),Arg.agg hU,fun a=>uh a.1 a.2.1 a.2.2,.mz,NE⟩
theorem ac9:aF aP 149 api:=Oc abe aB [(102,Vt),(103,als)] ⟨EB,Q2,trivial⟩
def wW (p0:Field) (p1:Int×Int) (p2:List Int):Option bA:=(uh p0 p1 p2).bind fun r0=>If r0
def c91:bD:=⟨au.cons (Arg.agg bQ) (au.cons (Arg.agg (cI.row iu)) (au.one (Arg.sl ki))),Arg.agg hU,fun a=>wW a.1 a.2.1 a.2.2,.mz,NE⟩
theorem alu:aF aP 91 c91:=Oc alb aB [(149,api)] ⟨ac9,trivial⟩
def ui (s:(Int×(List Int)×(List Int)×oX)):Option (Step (Int×(List Int)×(List Int)×oX) oX):=bif PP (s.1<(ut (F0s s.2.2.1))) then (iw (bA.mk s.2.1 s.2.2.1) (aa .i64 ((aa .i64 (2*s.1))+1))).bind fun n0=>(iw (bA.mk s.2.1 s.2.2.1) (aa .i64 ((aa .i64 (2*s.1))+2))).bind fun n1=>bif PP (n0<0) then If (.next (aa .i64 (s.1+1),s.2)) else bif PP (n1<0) then If (.next (aa .i64 (s.1+1),s.2)) else (aJ s.2.2.1 s.1).bind fun n2=>bif n2==n0 then (bo s.2.2.2 [(n1,n0)]).bind fun l3=>If (.next (aa .i64 (s.1+1),s.2.1,s.2.2.1,l3)) else (bo s.2.2.2 [(n0,n1)]).bind fun l4=>If (.next (aa .i64 (s.1+1),s.2.1,s.2.2.1,l4)) else If (.done s.2.2.2)
def vR (p0:bA):Option oX:=ay ui (0,p0.aI,p0.iH,[])
def c53:bD:=⟨au.one (Arg.agg hU),Arg.sl iu,fun a=>vR a,.mz,NE⟩
theorem Vu:aF aP 53 c53:=Oc akK aB [(102,Vt)] ⟨EB,trivial⟩
def pj (p0:bF):Option bF:=(bP p0.ce).bind fun l0=>If (bF.mk p0.aN l0)
def c72:bD:=⟨au.one (Arg.agg iF),Arg.agg iF,fun a=>pj a,.own,M2⟩
def ac':bD:=⟨au.one (Arg.agg iF),Arg.agg iF,fun a=>pj a,.mz,NE⟩
theorem O8:aF aP 72 c72:=Oc Vk aB [] trivial
theorem Ka:aF aP 72 ac':=Oc Vk aB [] trivial
def nj (p0:bg):Option bg:=(bP p0.aA).bind fun l0=>(bP p0.be).bind fun l1=>(bP p0.bi).bind fun l2=>If (bg.mk l0 l1 l2)
def Vv:bD:=⟨au.one (Arg.agg gC),Arg.agg gC,fun a=>nj a,.own,M2⟩
def Mn:bD:=⟨au.one (Arg.agg gC),Arg.agg gC,fun a=>nj a,.mz,NE⟩
theorem EC:aF aP 125 Vv:=Oc QK aB [] trivial
theorem B4:aF aP 125 Mn:=Oc QK aB [] trivial
def lJ (p0:aL):Option aL:=(nj p0.ai).bind fun r0=>(bP p0.bv).bind fun l1=>(bP p0.aq).bind fun l2=>If (aL.mk r0 l1 l2)
def c73:bD:=⟨au.one (Arg.agg dI),Arg.agg dI,fun a=>lJ a,.own,M2⟩
def SM:bD:=⟨au.one (Arg.agg dI),Arg.agg dI,fun a=>lJ a,.mz,NE⟩
theorem Gg:aF aP 73 c73:=Oc Vl aB [(125,Vv),(125,Mn)] ⟨EC,B4,trivial⟩
theorem B5:aF aP 73 SM:=Oc Vl aB [(125,Vv),(125,Mn)] ⟨EC,B4,trivial⟩
def lK (p0:aM):Option aM:=(lH p0.ii).bind fun r0=>(pj p0.af).bind fun r1=>(lJ p0.ae).bind fun r2=>(bP p0.io).bind fun l3=>If (aM.mk p0.ci r0 r1 r2 l3)
def c29:bD:=⟨au.one (Arg.agg bY),Arg.agg bY,fun a=>lK a,.own,M2⟩
def Vw:bD:=⟨au.one (Arg.agg bY),Arg.agg bY,fun a=>lK a,.mz,NE⟩
theorem Kb:aF aP 29 c29:=Oc Vg aB [(71,c71),(71,Vs),(72,c72),(72,ac'),(73,c73),(73,SM)] ⟨J9,EA,O8,Ka,Gg,B5,trivial⟩
theorem ED:aF aP 29 Vw:=Oc Vg aB [(71,c71),(71,Vs),(72,c72),(72,ac'),(73,c73),(73,SM)] ⟨J9,EA,O8,Ka,Gg,B5,trivial⟩
def uj (s:(oX×Int×Int×Int)):Option (Step (oX×Int×Int×Int) Bool):=bif PP (s.2.1<(ut (F0s s.1))) then (aJ s.1 s.2.1).bind fun a0=>bif (a0.1==s.2.2.1)&&(a0.2==s.2.2.2) then If (.done M2) else If (.next (s.1,aa .i64 (s.2.1+1),s.2.2)) else If (.done NE)
def B6 (p0:List (Int×Int)) (p1:Int×Int):Option Bool:=ay uj (p0,0,p1)
def apk:bD:=⟨au.cons (Arg.sl iu) (au.one (Arg.agg (cI.row iu))),Arg.bool,fun a=>B6 a.1 a.2,.pure,NE⟩
theorem ada:aF aP 150 apk:=Oc abf aB [] trivial
def jH (s:ao8):Option (Step ao8 bF):=bif PP (s.2.1<(ut (F0s s.2.2.2.1))) then (aJ s.2.2.2.1 s.2.1).bind fun a0=>bif a0.1 !=s.1 then (aJ s.2.2.2.1 s.2.1).bind fun a1=>(bo s.2.2.2.2.2.2 [a1]).bind fun l2=>If (.next (s.1,aa .i64 (s.2.1+1),s.2.2.1,s.2.2.2.1,s.2.2.2.2.1,s.2.2.2.2.2.1,l2)) else If (.next (s.1,aa .i64 (s.2.1+1),s.2.2)) else If (.done (bF.mk s.2.2.2.2.2.1 s.2.2.2.2.2.2))
def pS (p0:bF) (p1:Int):Option bF:=ay jH (p1,0,p0.aN,p0.ce,0,p0.aN,[])
def apl:bD:=⟨au.cons (Arg.agg iF) (au.one (Arg.int .i64)),Arg.agg iF,fun a=>pS a.1 a.2,.mz,NE⟩
theorem adb:aF aP 214 apl:=Oc abU aB [] trivial
def ov (s:ali):Option aoP:=bif PP (s.2.1<(ut (F0s s.2.2.2.2.2.2.2.2.2.2.2.2))) then (aJ s.2.2.2.2.2.2.2.2.2.2.2.2 s.2.1).bind fun a0=>bif a0.1==s.1 then If (.done s.2.1) else If (.next (s.1,aa .i64 (s.2.1+1),s.2.2)) else If (.done (-1))
def nJ (p0:aM) (p1:Int):Option Int:=ay ov (p1,0,p0.ci.1,p0.ci.2,p0.ii.am,p0.af.aN,p0.af.ce,p0.ae.ai.aA,p0.ae.ai.be,p0.ae.ai.bi,p0.ae.bv,p0.ae.aq,p0.io)
def alv:bD:=⟨au.cons (Arg.agg bY) (au.one (Arg.int .i64)),Arg.int .i64,fun a=>nJ a.1 a.2,.pure,NE⟩
theorem Q3:aF aP 215 alv:=Oc abV aB [] trivial
def nK (p0:bg) (p1:Int×Int):Option bg:=(nj p0).bind fun r0=>(aJ r0.be p1.1).bind fun _=>(bo r0.bi [p1.1]).bind fun l2=>If (bg.mk r0.aA (cj r0.be p1.1 NE) l2)
def apm:bD:=⟨au.cons (Arg.agg gC) (au.one (Arg.agg (cI.row iu))),Arg.agg gC,fun a=>nK a.1 a.2,.mz,NE⟩
theorem ade:aF aP 252 apm:=Oc acn aB [(125,Vv),(125,Mn)] ⟨EC,B4,trivial⟩
def pT (p0:Int×Int) (p1:Int×Int):Option Int:=(je p0.1 p1.2).bind fun a0=>(je p1.1 p0.2).bind fun a1=>(ky a0).bind fun n2=>(ky a1).bind fun n3=>bif n2 !=n3 then (ky a0).bind fun n4=>(ky a1).bind fun n5=>bif PP (n4<n5) then If (-1) else If 1 else (ky a0).bind fun n6=>bif PP (n6<0) then (ph a1 a0).bind fun n7=>If n7 else (ph a0 a1).bind fun n8=>If n8
def c67:bD:=⟨au.cons (Arg.agg (cI.row iu)) (au.one (Arg.agg (cI.row iu))),Arg.int .i64,fun a=>pT a.1 a.2,.pure,NE⟩
theorem alw:aF aP 67 c67:=Oc akW aB [(118,alp),(119,alr),(120,alq)] ⟨QZ,Q1,Q0,trivial⟩
def ew (p0:Int×Int×Int×Int×Int) (p1:Int×Int×Int×Int×Int):Option Bool:=(pT (p0.1,p0.2.1) (p1.1,p1.2.1)).bind fun n0=>bif PP (n0<0) then If M2 else bif n0==0 then If (PP (p0.2.2.1<p1.2.2.1)) else If NE
def O9:bD:=⟨au.cons (Arg.agg (cI.row kv)) (au.one (Arg.agg (cI.row kv))),Arg.bool,fun a=>ew a.1 a.2,.pure,NE⟩
theorem zn:aF aP 161 O9:=Oc abo aB [(67,c67)] ⟨alw,trivial⟩
def fB (a:alj):Option alk:=(aJ a.2.2.2.2.2.1 a.2.1).bind fun a0=>(aJ a.2.2.2.2.2.1 a.1).bind fun a1=>(aJ a.2.2.2.2.2.1 a.1).bind fun _=>(aJ (cj a.2.2.2.2.2.1 a.1 a0) a.2.1).bind fun _=>(aJ (cj (cj a.2.2.2.2.2.1 a.1 a0) a.2.1 a1) a.1).bind fun a4=>(aJ (cj (cj a.2.2.2.2.2.1 a.1 a0) a.2.1 a1) a.2.1).bind fun a5=>(aJ a.2.2.2.2.2.2 a4.2.2.2.1).bind fun _=>(aJ (cj a.2.2.2.2.2.2 a4.2.2.2.1 a.1) a5.2.2.2.1).bind fun _=>bif (F0s a.2.2.1)==(F0s a.2.2.1) then bif (F0s a.2.2.2.1)==(F0s a.2.2.2.1) then bif (F0s a.2.2.2.2.1)==(F0s a.2.2.2.2.1) then bif ((cj (cj a.2.2.2.2.2.1 a.1 a0) a.2.1 a1).length)==(F0s a.2.2.2.2.2.1) then bif ((cj (cj a.2.2.2.2.2.2 a4.2.2.2.1 a.1) a5.2.2.2.1 a.2.1).length)==(F0s a.2.2.2.2.2.2) then If (a.2.2.1,a.2.2.2.1,a.2.2.2.2.1,cj (cj a.2.2.2.2.2.1 a.1 a0) a.2.1 a1,cj (cj a.2.2.2.2.2.2 a4.2.2.2.1 a.1) a5.2.2.2.1 a.2.1) else IR else IR else IR else IR else IR
def AZ:dS:=⟨[.i,.i,.l [.i .i64],.l [.b],.l [.i .i64],.l [.i .i64,.i .i64,.i .i64,.i .i64,.i .i64],.l [.i .i64]],[.agg [.own 0 NE,.own 1 NE,.own 2 NE,.own 3 NE,.own 4 NE],.int .i64 0,.int .i64 0],[.arr [.i .i64] [],.arr [.b] [],.arr [.i .i64] [],.arr [.i .i64,.i .i64,.i .i64,.i .i64,.i .i64] [],.arr [.i .i64] []],[.l [.i .i64],.l [.b],.l [.i .i64],.l [.i .i64,.i .i64,.i .i64,.i .i64,.i .i64],.l [.i .i64]],.cw [],[.arr [.i .i64] [],.arr [.b] [],.arr [.i .i64] [],.arr [.i .i64,.i .i64,.i .i64,.i .i64,.i .i64] [],.arr [.i .i64] []],fun a=>fB a⟩
theorem sm:jr aP 251 AZ:=jr.of J5 (wd:=NE) (cx:=(iV aB [] [] [] [])) (gJ.make trivial trivial trivial) (fun a=>by kernel_rfl)
def fY (a:((List Int)×(List Bool)×(List Int)×Nat×Nat×Int×Int×kx×(List Int))):Option HE:=(aJ (a.2.2.2.2.2.2.2.1.take a.2.2.2.1) a.2.2.2.2.2.2.1).bind fun a0=>(aJ (a.2.2.2.2.2.2.2.1.take a.2.2.2.1) a.2.2.2.2.2.1).bind fun a1=>(aJ (a.2.2.2.2.2.2.2.1.take a.2.2.2.1) a.2.2.2.2.2.1).bind fun _=>(aJ ((cj a.2.2.2.2.2.2.2.1 a.2.2.2.2.2.1 a0).take a.2.2.2.1) a.2.2.2.2.2.2.1).bind fun _=>(aJ ((cj (cj a.2.2.2.2.2.2.2.1 a.2.2.2.2.2.1 a0) a.2.2.2.2.2.2.1 a1).take a.2.2.2.1) a.2.2.2.2.2.1).bind fun a4=>(aJ ((cj (cj a.2.2.2.2.2.2.2.1 a.2.2.2.2.2.1 a0) a.2.2.2.2.2.2.1 a1).take a.2.2.2.1) a.2.2.2.2.2.2.1).bind fun a5=>(aJ a.2.2.2.2.2.2.2.2 a4.2.2.2.1).bind fun _=>(aJ (cj a.2.2.2.2.2.2.2.2 a4.2.2.2.1 a.2.2.2.2.2.1) a5.2.2.2.1).bind fun _=>bif ((cj (cj a.2.2.2.2.2.2.2.1 a.2.2.2.2.2.1 a0) a.2.2.2.2.2.2.1 a1).length)==(F0s a.2.2.2.2.2.2.2.1) then bif ((cj (cj a.2.2.2.2.2.2.2.2 a4.2.2.2.1 a.2.2.2.2.2.1) a5.2.2.2.1 a.2.2.2.2.2.2.1).length)==(F0s a.2.2.2.2.2.2.2.2) then If (cj (cj a.2.2.2.2.2.2.2.1 a.2.2.2.2.2.1 a0) a.2.2.2.2.2.2.1 a1,cj (cj a.2.2.2.2.2.2.2.2 a4.2.2.2.1 a.2.2.2.2.2.1) a5.2.2.2.1 a.2.2.2.2.2.2.1) else IR else IR
def A0:dS:=⟨[.l [.i .i64],.l [.b],.l [.i .i64],.n,.n,.i,.i,.l [.i .i64,.i .i64,.i .i64,.i .i64,.i .i64],.l [.i .i64]],[.agg [.sl [.i .i64] [],.sl [.b] [],.sl [.i .i64] [],.pre 0 0 0 NE,.own 1 NE],.int .i64 0,.int .i64 0],[.arr [.i .i64,.i .i64,.i .i64,.i .i64,.i .i64] [],.arr [.i .i64] []],[.l [.i .i64,.i .i64,.i .i64,.i .i64,.i .i64],.l [.i .i64]],.cw [],[.arr [.i .i64,.i .i64,.i .i64,.i .i64,.i .i64] [],.arr [.i .i64] []],fun a=>fY a⟩
theorem sq:jr aP 251 A0:=jr.of J5 (wd:=NE) (cx:=(iV aB [] [] [] [])) (gJ.make trivial trivial trivial) (fun a=>by kernel_rfl)
def gD (c0:acU) (s:acV):Option (Step acV acW):=bif PP (0<s.1) then (aJ (s.2.1.take s.2.2.2.2.2.2.1) s.1).bind fun a0=>(aJ (s.2.1.take s.2.2.2.2.2.2.1) (aa .i64 (v6 (aa .i64 (s.1-1)) 2))).bind fun a1=>(ew a0 a1).bind fun b2=>bif b2 then (fY (s.2.2.2.1,s.2.2.2.2.1,s.2.2.2.2.2.1,s.2.2.2.2.2.2.1,s.2.2.2.2.2.2.2,s.1,aa .i64 (v6 (aa .i64 (s.1-1)) 2),s.2.1,s.2.2.1)).bind fun a3=>If (.next (aa .i64 (v6 (aa .i64 (s.1-1)) 2),a3.1,a3.2,s.2.2.2)) else bif (F0s s.2.1)==(F0s c0.2.2.2.2.2.2.1) then bif (F0s s.2.2.1)==(F0s c0.2.2.2.2.2.2.2) then If (.done (s.1,s.2.1,s.2.2.1)) else IR else IR else bif (F0s s.2.1)==(F0s c0.2.2.2.2.2.2.1) then bif (F0s s.2.2.1)==(F0s c0.2.2.2.2.2.2.2) then If (.done (s.1,s.2.1,s.2.2.1)) else IR else IR
def lL (a:acU):Option acW:=ay (gD a) (a.2.2.2.2.2.1,a.2.2.2.2.2.2.1,a.2.2.2.2.2.2.2,a.1,a.2.1,a.2.2.1,a.2.2.2.1,a.2.2.2.2.1)
def Kc:dS:=⟨[.l [.i .i64],.l [.b],.l [.i .i64],.n,.n,.i,.l [.i .i64,.i .i64,.i .i64,.i .i64,.i .i64],.l [.i .i64]],[.agg [.sl [.i .i64] [],.sl [.b] [],.sl [.i .i64] [],.pre 0 0 0 NE,.own 1 NE],.int .i64 0],[.arr [.i .i64,.i .i64,.i .i64,.i .i64,.i .i64] [],.arr [.i .i64] []],[.i,.l [.i .i64,.i .i64,.i .i64,.i .i64,.i .i64],.l [.i .i64]],.int .i64 0,[.arr [.i .i64,.i .i64,.i .i64,.i .i64,.i .i64] [],.arr [.i .i64] []],fun a=>lL a⟩
theorem Dd:jr aP 254 Kc:=jr.of J6 (wd:=M2) (cx:=(iV aB [(161,O9)] [(251,AZ),(251,A0)] [] [])) (gJ.make ⟨zn,trivial⟩ ⟨sm,sq,trivial⟩ trivial) (fun a=>by kernel_rfl)
def ju (c0:acU) (s:acV):Option (Step acV HE):=match s with |(a,b,d,e,f,g,h,i)=>bif PP ((ut h)<=(aa .i64 ((aa .i64 (2*a))+1))) then bif (F0s b)==(F0s c0.2.2.2.2.2.2.1) then bif (F0s d)==(F0s c0.2.2.2.2.2.2.2) then If (.done (b,d)) else IR else IR else bif PP ((aa .i64 ((aa .i64 ((aa .i64 (2*a))+1))+1))<(ut h)) then (aJ (b.take h) (aa .i64 ((aa .i64 ((aa .i64 (2*a))+1))+1))).bind fun a0=>(aJ (b.take h) (aa .i64 ((aa .i64 (2*a))+1))).bind fun a1=>(ew a0 a1).bind fun b2=>bif b2 then (aJ (b.take h) (aa .i64 ((aa .i64 ((aa .i64 (2*a))+1))+1))).bind fun a3=>(aJ (b.take h) a).bind fun a4=>(ew a3 a4).bind fun b5=>bif !b5 then bif (F0s b)==(F0s c0.2.2.2.2.2.2.1) then bif (F0s d)==(F0s c0.2.2.2.2.2.2.2) then If (.done (b,d)) else IR else IR else (fY (e,f,g,h,i,a,aa .i64 ((aa .i64 ((aa .i64 (2*a))+1))+1),b,d)).bind fun a6=>If (.next (aa .i64 ((aa .i64 ((aa .i64 (2*a))+1))+1),a6.1,a6.2,(e,f,g,h,i))) else (aJ (b.take h) (aa .i64 ((aa .i64 (2*a))+1))).bind fun a7=>(aJ (b.take h) a).bind fun a8=>(ew a7 a8).bind fun b9=>bif !b9 then bif (F0s b)==(F0s c0.2.2.2.2.2.2.1) then bif (F0s d)==(F0s c0.2.2.2.2.2.2.2) then If (.done (b,d)) else IR else IR else (fY (e,f,g,h,i,a,aa .i64 ((aa .i64 (2*a))+1),b,d)).bind fun zo=>If (.next (aa .i64 ((aa .i64 (2*a))+1),zo.1,zo.2,(e,f,g,h,i))) else (aJ (b.take h) (aa .i64 ((aa .i64 (2*a))+1))).bind fun Ad=>(aJ (b.take h) a).bind fun a12=>(ew Ad a12).bind fun b13=>bif !b13 then bif (F0s b)==(F0s c0.2.2.2.2.2.2.1) then bif (F0s d)==(F0s c0.2.2.2.2.2.2.2) then If (.done (b,d)) else IR else IR else (fY (e,f,g,h,i,a,aa .i64 ((aa .i64 (2*a))+1),b,d)).bind fun Tt=>If (.next (aa .i64 ((aa .i64 (2*a))+1),Tt.1,Tt.2,(e,f,g,h,i)))
def jI (a:acU):Option HE:=ay (ju a) (a.2.2.2.2.2.1,a.2.2.2.2.2.2.1,a.2.2.2.2.2.2.2,a.1,a.2.1,a.2.2.1,a.2.2.2.1,a.2.2.2.2.1)
def O':dS:=⟨[.l [.i .i64],.l [.b],.l [.i .i64],.n,.n,.i,.l [.i .i64,.i .i64,.i .i64,.i .i64,.i .i64],.l [.i .i64]],[.agg [.sl [.i .i64] [],.sl [.b] [],.sl [.i .i64] [],.pre 0 0 0 NE,.own 1 NE],.int .i64 0],[.arr [.i .i64,.i .i64,.i .i64,.i .i64,.i .i64] [],.arr [.i .i64] []],[.l [.i .i64,.i .i64,.i .i64,.i .i64,.i .i64],.l [.i .i64]],.cw [],[.arr [.i .i64,.i .i64,.i .i64,.i .i64,.i .i64] [],.arr [.i .i64] []],fun a=>jI a⟩
theorem ID:jr aP 253 O':=jr.of QS (wd:=NE) (cx:=(iV aB [(161,O9)] [(251,AZ),(251,A0)] [] [])) (gJ.make ⟨zn,trivial⟩ ⟨sm,sq,trivial⟩ trivial) (fun a=>by kernel_rfl)
def jf (p0:aL) (p1:Int×Int):Option aL:=(lJ p0).bind fun r0=>(aJ r0.aq p1.1).bind fun n1=>bif n1 !=(aa .i64 ((ut (F0s r0.bv)) -1)) then (fB (n1,aa .i64 ((ut (F0s r0.bv)) -1),r0.ai.aA,r0.ai.be,r0.ai.bi,r0.bv,r0.aq)).bind fun a2=>(fW a2.2.2.2.1 0 (aa .i64 ((ut (F0s r0.bv)) -1))).bind fun _=>(aJ a2.2.2.2.2 p1.1).bind fun _=>(nK (bg.mk a2.1 a2.2.1 a2.2.2.1) p1).bind fun r5=>bif n1 !=(aa .i64 ((ut (F0s r0.bv)) -1)) then (lL (r5.aA,r5.be,r5.bi,(aa .i64 ((ut (F0s r0.bv)) -1)).toNat,F0s a2.2.2.2.1,n1,a2.2.2.2.1,cj a2.2.2.2.2 p1.1 (-1))).bind fun a6=>(jI (r5.aA,r5.be,r5.bi,(aa .i64 ((ut (F0s r0.bv)) -1)).toNat,F0s a2.2.2.2.1,a6)).bind fun a7=>If (aL.mk r5 (a7.1.take ((aa .i64 ((ut (F0s r0.bv)) -1)).toNat)) a7.2) else If (aL.mk r5 (a2.2.2.2.1.take ((aa .i64 ((ut (F0s r0.bv)) -1)).toNat)) (cj a2.2.2.2.2 p1.1 (-1))) else (fW r0.bv 0 (aa .i64 ((ut (F0s r0.bv)) -1))).bind fun _=>(aJ r0.aq p1.1).bind fun _=>(nK r0.ai p1).bind fun r10=>bif n1 !=(aa .i64 ((ut (F0s r0.bv)) -1)) then (lL (r10.aA,r10.be,r10.bi,(aa .i64 ((ut (F0s r0.bv)) -1)).toNat,F0s r0.bv,n1,r0.bv,cj r0.aq p1.1 (-1))).bind fun Ad=>(jI (r10.aA,r10.be,r10.bi,(aa .i64 ((ut (F0s r0.bv)) -1)).toNat,F0s r0.bv,Ad)).bind fun a12=>If (aL.mk r10 (a12.1.take ((aa .i64 ((ut (F0s r0.bv)) -1)).toNat)) a12.2) else If (aL.mk r10 (r0.bv.take ((aa .i64 ((ut (F0s r0.bv)) -1)).toNat)) (cj r0.aq p1.1 (-1)))
def alx:bD:=⟨au.cons (Arg.agg dI) (au.one (Arg.agg (cI.row iu))),Arg.agg dI,fun a=>jf a.1 a.2,.mz,NE⟩
theorem Q4:aF aP 216 alx:=aF.of abW (cx:=(iV aB [(73,c73),(73,SM),(252,apm)] [(251,AZ),(251,A0),(254,Kc),(253,O')] [] [])) rfl (gJ.make ⟨Gg,B5,ade,trivial⟩ ⟨sm,sq,Dd,ID,trivial⟩ trivial) (fun a=>by kernel_rfl)
def sO (p0:aM) (p1:Int):Option aM:=(lK p0).bind fun r0=>(pS p0.af p1).bind fun r1=>(nJ p0 p1).bind fun n2=>bif PP (0<=n2) then (aJ p0.io n2).bind fun a3=>(jf p0.ae a3.2).bind fun r4=>(fW p0.io 0 n2).bind fun l5=>(bP l5).bind fun l6=>(fW p0.io (aa .i64 (n2+1)) (ut (F0s p0.io))).bind fun l7=>bif l7.isEmpty then If (aM.mk r0.ci r0.ii r1 r4 l6) else (bo l6 l7).bind fun l8=>If (aM.mk r0.ci r0.ii r1 r4 l8) else If (aM.mk r0.ci r0.ii r1 r0.ae r0.io)
def apn:bD:=⟨au.cons (Arg.agg bY) (au.one (Arg.int .i64)),Arg.agg bY,fun a=>sO a.1 a.2,.mz,NE⟩
theorem adf:aF aP 151 apn:=Oc abg aB [(29,c29),(29,Vw),(214,apl),(215,alv),(216,alx)] ⟨Kb,ED,adb,Q3,Q4,trivial⟩
def pU (s:(Int×cC×cC)):Option (Step (Int×cC×cC) Bool):=bif PP (s.1<(ut (F0s s.2.1))) then (aJ s.2.1 s.1).bind fun a0=>(aJ s.2.2 s.1).bind fun a1=>bif !((a0.1==a1.1)&&((a0.2.1==a1.2.1)&&(a0.2.2==a1.2.2))) then If (.done NE) else If (.next (aa .i64 (s.1+1),s.2)) else If (.done M2)
def wX (p0:Field) (p1:Field):Option Bool:=bif (ut (F0s p0.am)) !=(ut (F0s p1.am)) then If NE else ay pU (0,p0.am,p1.am)
def c19:bD:=⟨au.cons (Arg.agg bQ) (au.one (Arg.agg bQ)),Arg.bool,fun a=>wX a.1 a.2,.pure,NE⟩
theorem aly:aF aP 19 c19:=Oc akq aB [] trivial
def pk (p0:Bool) (p1:Bool×Int×Int) (p2:Bool×Int×Int):Option ((Int×Int)×Int):=bif PP (0<p1.2.1) then If ((0,0),16) else bif PP (9223372036854775807<p1.2.2) then If ((0,0),16) else bif PP (0<p2.2.1) then If ((0,0),16) else bif PP (9223372036854775807<p2.2.2) then If ((0,0),16) else bif p0 then If ((aa .i64 (0- (aa .i64 p1.2.2)),aa .i64 p2.2.2),0) else If ((aa .i64 p1.2.2,aa .i64 p2.2.2),0)
def apo:bD:=⟨au.cons Arg.bool (au.cons (Arg.agg (cI.row yx)) (au.one (Arg.agg (cI.row yx)))),Arg.cw (au.cons (Arg.agg (cI.row iu)) (au.one (Arg.int .i64))),fun a=>pk a.1 a.2.1 a.2.2,.pure,NE⟩
theorem adg:aF aP 284 apo:=Oc acF aB [] trivial
def lM (p0:Int) (p1:Int):Option ((Int×Int)×Int):=bif p1==0 then If ((0,0),26) else (gK p0).bind fun n0=>(gK p1).bind fun n1=>(oq n0 n1).bind fun n2=>bif !((PP (p0<0))==(PP (p1<0))) then (gK p0).bind fun n3=>bif n2==0 then IR else (gK p1).bind fun n4=>bif n2==0 then IR else (pk (p0 !=0) (NE,0,aa .u64 (v6 n3 n2)) (NE,0,aa .u64 (v6 n4 n2))).bind fun a5=>If a5 else (gK p0).bind fun n6=>bif n2==0 then IR else (gK p1).bind fun n7=>bif n2==0 then IR else (pk NE (NE,0,aa .u64 (v6 n6 n2)) (NE,0,aa .u64 (v6 n7 n2))).bind fun a8=>If a8
def apq:bD:=⟨au.cons (Arg.int .i64) (au.one (Arg.int .i64)),Arg.cw (au.cons (Arg.agg (cI.row iu)) (au.one (Arg.int .i64))),fun a=>lM a.1 a.2,.pure,NE⟩
theorem adh:aF aP 257 apq:=Oc acq aB [(117,acZ),(116,alo),(284,apo)] ⟨J8,QY,adg,trivial⟩
def zp (p0:Int×Int×Int) (p1:Int×Int×Int):Option (Int×Int):=(lM (aa .i64 (p0.2.1-p1.2.1)) (aa .i64 (p1.2.2-p0.2.2))).bind fun a0=>If a0.1
def apr:bD:=⟨au.cons (Arg.agg (cI.row ek)) (au.one (Arg.agg (cI.row ek))),Arg.agg (cI.row iu),fun a=>zp a.1 a.2,.pure,NE⟩
theorem adi:aF aP 223 apr:=Oc ab2 aB [(257,apq)] ⟨adh,trivial⟩
def pV (p0:Int×Int×Int) (p1:Int×Int×Int) (p2:Int×Int):Option ((Int×Int)×Bool):=(nI p1 p0 p2).bind fun b0=>bif b0 then If (p2,M2) else bif PP (p0.2.2<p1.2.2) then (zp p0 p1).bind fun a1=>If (a1,M2) else If ((0,0),NE)
def aps:bD:=⟨au.cons (Arg.agg (cI.row ek)) (au.cons (Arg.agg (cI.row ek)) (au.one (Arg.agg (cI.row iu)))),Arg.cw (au.cons (Arg.agg (cI.row iu)) (au.one Arg.bool)),fun a=>pV a.1 a.2.1 a.2.2,.pure,NE⟩
theorem adj:aF aP 162 aps:=Oc abp aB [(164,ac8),(223,apr)] ⟨J',adi,trivial⟩
def pt (p0:Field) (p1:Int×Int) (p2:Int×Int):Option ((Int×Int)×Bool):=(fL p0 p1.2).bind fun n0=>(aJ p0.am n0).bind fun a1=>(fL p0 p1.1).bind fun n2=>(aJ p0.am n2).bind fun a3=>(pV a1 a3 p2).bind fun a4=>If a4
def c99:bD:=⟨au.cons (Arg.agg bQ) (au.cons (Arg.agg (cI.row iu)) (au.one (Arg.agg (cI.row iu)))),Arg.cw (au.cons (Arg.agg (cI.row iu)) (au.one Arg.bool)),fun a=>pt a.1 a.2.1 a.2.2,.pure,NE⟩
theorem Pa:aF aP 99 c99:=Oc alh aB [(89,c89),(162,aps)] ⟨Gf,adj,trivial⟩
def gE (c0:B2) (s:B2):Option (Step B2 B2):=bif PP (0<s.1) then (aJ s.2.2.2.2.1 s.1).bind fun a0=>(aJ s.2.2.2.2.1 (aa .i64 (v6 (aa .i64 (s.1-1)) 2))).bind fun a1=>(ew a0 a1).bind fun b2=>bif b2 then (fB (s.1,aa .i64 (v6 (aa .i64 (s.1-1)) 2),s.2)).bind fun a3=>If (.next (aa .i64 (v6 (aa .i64 (s.1-1)) 2),a3)) else bif (F0s s.2.1)==(F0s c0.2.1) then bif (F0s s.2.2.1)==(F0s c0.2.2.1) then bif (F0s s.2.2.2.1)==(F0s c0.2.2.2.1) then bif (F0s s.2.2.2.2.1)==(F0s c0.2.2.2.2.1) then bif (F0s s.2.2.2.2.2)==(F0s c0.2.2.2.2.2) then If (.done s) else IR else IR else IR else IR else IR else bif (F0s s.2.1)==(F0s c0.2.1) then bif (F0s s.2.2.1)==(F0s c0.2.2.1) then bif (F0s s.2.2.2.1)==(F0s c0.2.2.2.1) then bif (F0s s.2.2.2.2.1)==(F0s c0.2.2.2.2.1) then bif (F0s s.2.2.2.2.2)==(F0s c0.2.2.2.2.2) then If (.done s) else IR else IR else IR else IR else IR
def ox (a:B2):Option B2:=ay (gE a) a
def Pb:dS:=⟨[.i,.l [.i .i64],.l [.b],.l [.i .i64],.l [.i .i64,.i .i64,.i .i64,.i .i64,.i .i64],.l [.i .i64]],[.agg [.own 0 NE,.own 1 NE,.own 2 NE,.own 3 NE,.own 4 NE],.int .i64 0],[.arr [.i .i64] [],.arr [.b] [],.arr [.i .i64] [],.arr [.i .i64,.i .i64,.i .i64,.i .i64,.i .i64] [],.arr [.i .i64] []],[.i,.l [.i .i64],.l [.b],.l [.i .i64],.l [.i .i64,.i .i64,.i .i64,.i .i64,.i .i64],.l [.i .i64]],.int .i64 0,[.arr [.i .i64] [],.arr [.b] [],.arr [.i .i64] [],.arr [.i .i64,.i .i64,.i .i64,.i .i64,.i .i64] [],.arr [.i .i64] []],fun a=>ox a⟩
theorem IE:jr aP 254 Pb:=jr.of J6 (wd:=NE) (cx:=(iV aB [(161,O9)] [(251,AZ),(251,A0)] [] [])) (gJ.make ⟨zn,trivial⟩ ⟨sm,sq,trivial⟩ trivial) (fun a=>by kernel_rfl)
def jv (c0:B2) (s:B2):Option (Step B2 alk):=bif PP ((ut (F0s s.2.2.2.2.1))<=(aa .i64 ((aa .i64 (2*s.1))+1))) then bif (F0s s.2.1)==(F0s c0.2.1) then bif (F0s s.2.2.1)==(F0s c0.2.2.1) then bif (F0s s.2.2.2.1)==(F0s c0.2.2.2.1) then bif (F0s s.2.2.2.2.1)==(F0s c0.2.2.2.2.1) then bif (F0s s.2.2.2.2.2)==(F0s c0.2.2.2.2.2) then If (.done s.2) else IR else IR else IR else IR else IR else bif PP ((aa .i64 ((aa .i64 ((aa .i64 (2*s.1))+1))+1))<(ut (F0s s.2.2.2.2.1))) then (aJ s.2.2.2.2.1 (aa .i64 ((aa .i64 ((aa .i64 (2*s.1))+1))+1))).bind fun a0=>(aJ s.2.2.2.2.1 (aa .i64 ((aa .i64 (2*s.1))+1))).bind fun a1=>(ew a0 a1).bind fun b2=>bif b2 then (aJ s.2.2.2.2.1 (aa .i64 ((aa .i64 ((aa .i64 (2*s.1))+1))+1))).bind fun a3=>(aJ s.2.2.2.2.1 s.1).bind fun a4=>(ew a3 a4).bind fun b5=>bif !b5 then bif (F0s s.2.1)==(F0s c0.2.1) then bif (F0s s.2.2.1)==(F0s c0.2.2.1) then bif (F0s s.2.2.2.1)==(F0s c0.2.2.2.1) then bif (F0s s.2.2.2.2.1)==(F0s c0.2.2.2.2.1) then bif (F0s s.2.2.2.2.2)==(F0s c0.2.2.2.2.2) then If (.done s.2) else IR else IR else IR else IR else IR else (fB (s.1,aa .i64 ((aa .i64 ((aa .i64 (2*s.1))+1))+1),s.2)).bind fun a6=>If (.next (aa .i64 ((aa .i64 ((aa .i64 (2*s.1))+1))+1),a6)) else (aJ s.2.2.2.2.1 (aa .i64 ((aa .i64 (2*s.1))+1))).bind fun a7=>(aJ s.2.2.2.2.1 s.1).bind fun a8=>(ew a7 a8).bind fun b9=>bif !b9 then bif (F0s s.2.1)==(F0s c0.2.1) then bif (F0s s.2.2.1)==(F0s c0.2.2.1) then bif (F0s s.2.2.2.1)==(F0s c0.2.2.2.1) then bif (F0s s.2.2.2.2.1)==(F0s c0.2.2.2.2.1) then bif (F0s s.2.2.2.2.2)==(F0s c0.2.2.2.2.2) then If (.done s.2) else IR else IR else IR else IR else IR else (fB (s.1,aa .i64 ((aa .i64 (2*s.1))+1),s.2)).bind fun zo=>If (.next (aa .i64 ((aa .i64 (2*s.1))+1),zo)) else (aJ s.2.2.2.2.1 (aa .i64 ((aa .i64 (2*s.1))+1))).bind fun Ad=>(aJ s.2.2.2.2.1 s.1).bind fun a12=>(ew Ad a12).bind fun b13=>bif !b13 then bif (F0s s.2.1)==(F0s c0.2.1) then bif (F0s s.2.2.1)==(F0s c0.2.2.1) then bif (F0s s.2.2.2.1)==(F0s c0.2.2.2.1) then bif (F0s s.2.2.2.2.1)==(F0s c0.2.2.2.2.1) then bif (F0s s.2.2.2.2.2)==(F0s c0.2.2.2.2.2) then If (.done s.2) else IR else IR else IR else IR else IR else (fB (s.1,aa .i64 ((aa .i64 (2*s.1))+1),s.2)).bind fun Tt=>If (.next (aa .i64 ((aa .i64 (2*s.1))+1),Tt))
def mg (a:B2):Option alk:=ay (jv a) a
def Vx:dS:=⟨[.i,.l [.i .i64],.l [.b],.l [.i .i64],.l [.i .i64,.i .i64,.i .i64,.i .i64,.i .i64],.l [.i .i64]],[.agg [.own 0 NE,.own 1 NE,.own 2 NE,.own 3 NE,.own 4 NE],.int .i64 0],[.arr [.i .i64] [],.arr [.b] [],.arr [.i .i64] [],.arr [.i .i64,.i .i64,.i .i64,.i .i64,.i .i64] [],.arr [.i .i64] []],[.l [.i .i64],.l [.b],.l [.i .i64],.l [.i .i64,.i .i64,.i .i64,.i .i64,.i .i64],.l [.i .i64]],.cw [],[.arr [.i .i64] [],.arr [.b] [],.arr [.i .i64] [],.arr [.i .i64,.i .i64,.i .i64,.i .i64,.i .i64] [],.arr [.i .i64] []],fun a=>mg a⟩
theorem SN:jr aP 253 Vx:=jr.of QS (wd:=NE) (cx:=(iV aB [(161,O9)] [(251,AZ),(251,A0)] [] [])) (gJ.make ⟨zn,trivial⟩ ⟨sm,sq,trivial⟩ trivial) (fun a=>by kernel_rfl)
def pW (p0:aL) (p1:Int×Int) (p2:Int×Int):Option aL:=(lJ p0).bind fun r0=>(aJ r0.aq p1.1).bind fun n1=>(aJ r0.bv n1).bind fun a2=>(ox (n1,r0.ai.aA,r0.ai.be,r0.ai.bi,cj r0.bv n1 (p2.1,p2.2,a2.2.2),r0.aq)).bind fun a3=>(mg a3).bind fun a4=>If (aL.mk (bg.mk a4.1 a4.2.1 a4.2.2.1) a4.2.2.2.1 a4.2.2.2.2)
def apt:bD:=⟨au.cons (Arg.agg dI) (au.cons (Arg.agg (cI.row iu)) (au.one (Arg.agg (cI.row iu)))),Arg.agg dI,fun a=>pW a.1 a.2.1 a.2.2,.mz,NE⟩
theorem adk:aF aP 217 apt:=aF.of abX (cx:=(iV aB [(73,c73),(73,SM)] [(254,Kc),(253,O'),(254,Pb),(253,Vx)] [] [])) rfl (gJ.make ⟨Gg,B5,trivial⟩ ⟨Dd,ID,IE,SN,trivial⟩ trivial) (fun a=>by kernel_rfl)
def fZ (p0:bg):Option Bool:=bif PP (0<(ut (F0s p0.bi))) then (aJ p0.bi (aa .i64 ((ut (F0s p0.bi)) -1))).bind fun n0=>(aJ p0.aA n0).bind fun n1=>If (PP (n1<1000000)) else If NE
def alz:bD:=⟨au.one (Arg.agg gC),Arg.bool,fun a=>fZ a,.pure,NE⟩
theorem Q5:aF aP 218 alz:=Oc abY aB [] trivial
def uo (p0:bg):Option (bg×(Int×Int)):=(nj p0).bind fun r0=>(aJ r0.bi (aa .i64 ((ut (F0s r0.bi)) -1))).bind fun n1=>(fW r0.bi 0 (aa .i64 ((ut (F0s r0.bi)) -1))).bind fun _=>(aJ r0.aA n1).bind fun n3=>(aJ r0.aA n1).bind fun _=>(aJ r0.be n1).bind fun _=>(aJ (cj r0.aA n1 (aa .i64 (n3+1))) n1).bind fun n6=>If (bg.mk (cj r0.aA n1 (aa .i64 (n3+1))) (cj r0.be n1 M2) (r0.bi.take ((aa .i64 ((ut (F0s r0.bi)) -1)).toNat)),n1,n6)
def apu:bD:=⟨au.one (Arg.agg gC),Arg.cw (au.cons (Arg.agg gC) (au.one (Arg.agg (cI.row iu)))),fun a=>uo a,.mz,NE⟩
theorem adl:aF aP 255 apu:=Oc aco aB [(125,Vv),(125,Mn)] ⟨EC,B4,trivial⟩
def mh (a:((List Int)×(List Bool)×(List Int)×Int×Int×kx×(List Int))):Option HE:=(aJ a.2.2.2.2.2.1 a.2.2.2.2.1).bind fun a0=>(aJ a.2.2.2.2.2.1 a.2.2.2.1).bind fun a1=>(aJ a.2.2.2.2.2.1 a.2.2.2.1).bind fun _=>(aJ (cj a.2.2.2.2.2.1 a.2.2.2.1 a0) a.2.2.2.2.1).bind fun _=>(aJ (cj (cj a.2.2.2.2.2.1 a.2.2.2.1 a0) a.2.2.2.2.1 a1) a.2.2.2.1).bind fun a4=>(aJ (cj (cj a.2.2.2.2.2.1 a.2.2.2.1 a0) a.2.2.2.2.1 a1) a.2.2.2.2.1).bind fun a5=>(aJ a.2.2.2.2.2.2 a4.2.2.2.1).bind fun _=>(aJ (cj a.2.2.2.2.2.2 a4.2.2.2.1 a.2.2.2.1) a5.2.2.2.1).bind fun _=>bif ((cj (cj a.2.2.2.2.2.1 a.2.2.2.1 a0) a.2.2.2.2.1 a1).length)==(F0s a.2.2.2.2.2.1) then bif ((cj (cj a.2.2.2.2.2.2 a4.2.2.2.1 a.2.2.2.1) a5.2.2.2.1 a.2.2.2.2.1).length)==(F0s a.2.2.2.2.2.2) then If (cj (cj a.2.2.2.2.2.1 a.2.2.2.1 a0) a.2.2.2.2.1 a1,cj (cj a.2.2.2.2.2.2 a4.2.2.2.1 a.2.2.2.1) a5.2.2.2.1 a.2.2.2.2.1) else IR else IR
def Vy:dS:=⟨[.l [.i .i64],.l [.b],.l [.i .i64],.i,.i,.l [.i .i64,.i .i64,.i .i64,.i .i64,.i .i64],.l [.i .i64]],[.agg [.sl [.i .i64] [],.sl [.b] [],.sl [.i .i64] [],.own 0 NE,.own 1 NE],.int .i64 0,.int .i64 0],[.arr [.i .i64,.i .i64,.i .i64,.i .i64,.i .i64] [],.arr [.i .i64] []],[.l [.i .i64,.i .i64,.i .i64,.i .i64,.i .i64],.l [.i .i64]],.cw [],[.arr [.i .i64,.i .i64,.i .i64,.i .i64,.i .i64] [],.arr [.i .i64] []],fun a=>mh a⟩
theorem SP:jr aP 251 Vy:=jr.of J5 (wd:=NE) (cx:=(iV aB [] [] [] [])) (gJ.make trivial trivial trivial) (fun a=>by kernel_rfl)
def gF (c0:ao0) (s:ao1):Option (Step ao1 acW):=bif PP (0<s.1) then (aJ s.2.1 s.1).bind fun a0=>(aJ s.2.1 (aa .i64 (v6 (aa .i64 (s.1-1)) 2))).bind fun a1=>(ew a0 a1).bind fun b2=>bif b2 then (mh (s.2.2.2.1,s.2.2.2.2.1,s.2.2.2.2.2,s.1,aa .i64 (v6 (aa .i64 (s.1-1)) 2),s.2.1,s.2.2.1)).bind fun a3=>If (.next (aa .i64 (v6 (aa .i64 (s.1-1)) 2),a3.1,a3.2,s.2.2.2)) else bif (F0s s.2.1)==(F0s c0.2.2.2.2.1) then bif (F0s s.2.2.1)==(F0s c0.2.2.2.2.2) then If (.done (s.1,s.2.1,s.2.2.1)) else IR else IR else bif (F0s s.2.1)==(F0s c0.2.2.2.2.1) then bif (F0s s.2.2.1)==(F0s c0.2.2.2.2.2) then If (.done (s.1,s.2.1,s.2.2.1)) else IR else IR
def oy (a:ao0):Option acW:=ay (gF a) (a.2.2.2.1,a.2.2.2.2.1,a.2.2.2.2.2,a.1,a.2.1,a.2.2.1)
def Vz:dS:=⟨[.l [.i .i64],.l [.b],.l [.i .i64],.i,.l [.i .i64,.i .i64,.i .i64,.i .i64,.i .i64],.l [.i .i64]],[.agg [.sl [.i .i64] [],.sl [.b] [],.sl [.i .i64] [],.own 0 NE,.own 1 NE],.int .i64 0],[.arr [.i .i64,.i .i64,.i .i64,.i .i64,.i .i64] [],.arr [.i .i64] []],[.i,.l [.i .i64,.i .i64,.i .i64,.i .i64,.i .i64],.l [.i .i64]],.int .i64 0,[.arr [.i .i64,.i .i64,.i .i64,.i .i64,.i .i64] [],.arr [.i .i64] []],fun a=>oy a⟩
theorem SQ:jr aP 254 Vz:=jr.of J6 (wd:=M2) (cx:=(iV aB [(161,O9)] [(251,AZ),(251,A0),(251,Vy)] [] [])) (gJ.make ⟨zn,trivial⟩ ⟨sm,sq,SP,trivial⟩ trivial) (fun a=>by kernel_rfl)
def eJ (p0:aL) (p1:Int×Int) (p2:Int):Option (aL×(Int×Int)):=(lJ p0).bind fun r0=>(uo r0.ai).bind fun a1=>(bo r0.bv [(p1.1,p1.2,p2,a1.2)]).bind fun l2=>(aJ r0.aq a1.2.1).bind fun _=>(oy (a1.1.aA,a1.1.be,a1.1.bi,aa .i64 ((ut (F0s l2)) -1),l2,cj r0.aq a1.2.1 (aa .i64 ((ut (F0s l2)) -1)))).bind fun a4=>If (aL.mk a1.1 a4.2.1 a4.2.2,a1.2)
def alA:bD:=⟨au.cons (Arg.agg dI) (au.cons (Arg.agg (cI.row iu)) (au.one (Arg.int .i64))),Arg.cw (au.cons (Arg.agg dI) (au.one (Arg.agg (cI.row iu)))),fun a=>eJ a.1 a.2.1 a.2.2,.mz,NE⟩
theorem Q6:aF aP 219 alA:=aF.of abZ (cx:=(iV aB [(73,c73),(73,SM),(255,apu)] [(254,Kc),(254,Pb),(254,Vz)] [] [])) rfl (gJ.make ⟨Gg,B5,adl,trivial⟩ ⟨Dd,IE,SQ,trivial⟩ trivial) (fun a=>by kernel_rfl)
def cP (s:Zt4):Option (Step Zt4 (aM×Int)):=match s with |(a,b,d,e,f,g,h,i,j,k,l,m,n,o,q,r,t,u,v,w,x,y,z,A,B,C,D)=>bif PP (a<(ut (F0s g))) then (aJ g a).bind fun a0=>(nJ (aM.mk (b,d) (Field.mk e) (bF.mk f g) (aL.mk (bg.mk h i j) k l) m) a0.1).bind fun n1=>(pt (Field.mk n) a0.2 (b,d)).bind fun a2=>bif a2.2 then bif PP (0<=n1) then (aJ m n1).bind fun a3=>(pW (aL.mk (bg.mk y z A) B C) a3.2 a2.1).bind fun r4=>(aJ m n1).bind fun a5=>(bo D [a5]).bind fun l6=>bif !a2.2 then bif PP (0<=n1) then (aJ m n1).bind fun a7=>(jf r4 a7.2).bind fun r8=>bif !a2.2 then If (.next (aa .i64 (a+1),b,d,e,f,g,h,i,j,k,l,m,n,o,q,r,t,u,v,w,x,r8.ai.aA,r8.ai.be,r8.ai.bi,r8.bv,r8.aq,l6)) else bif PP (0<=n1) then If (.next (aa .i64 (a+1),b,d,e,f,g,h,i,j,k,l,m,n,o,q,r,t,u,v,w,x,r8.ai.aA,r8.ai.be,r8.ai.bi,r8.bv,r8.aq,l6)) else (fZ r8.ai).bind fun b9=>bif !b9 then If (.done (gr,18)) else (eJ r8 a2.1 a0.1).bind fun zo=>(bo l6 [(a0.1,zo.2)]).bind fun l11=>If (.next (aa .i64 (a+1),b,d,e,f,g,h,i,j,k,l,m,n,o,q,r,t,u,v,w,x,zo.1.ai.aA,zo.1.ai.be,zo.1.ai.bi,zo.1.bv,zo.1.aq,l11)) else bif !a2.2 then If (.next (aa .i64 (a+1),b,d,e,f,g,h,i,j,k,l,m,n,o,q,r,t,u,v,w,x,r4.ai.aA,r4.ai.be,r4.ai.bi,r4.bv,r4.aq,l6)) else bif PP (0<=n1) then If (.next (aa .i64 (a+1),b,d,e,f,g,h,i,j,k,l,m,n,o,q,r,t,u,v,w,x,r4.ai.aA,r4.ai.be,r4.ai.bi,r4.bv,r4.aq,l6)) else (fZ r4.ai).bind fun b12=>bif !b12 then If (.done (gr,18)) else (eJ r4 a2.1 a0.1).bind fun Q7=>(bo l6 [(a0.1,Q7.2)]).bind fun l14=>If (.next (aa .i64 (a+1),b,d,e,f,g,h,i,j,k,l,m,n,o,q,r,t,u,v,w,x,Q7.1.ai.aA,Q7.1.ai.be,Q7.1.ai.bi,Q7.1.bv,Q7.1.aq,l14)) else bif !a2.2 then If (.next (aa .i64 (a+1),b,d,e,f,g,h,i,j,k,l,m,n,o,q,r,t,u,v,w,x,r4.ai.aA,r4.ai.be,r4.ai.bi,r4.bv,r4.aq,l6)) else bif PP (0<=n1) then If (.next (aa .i64 (a+1),b,d,e,f,g,h,i,j,k,l,m,n,o,q,r,t,u,v,w,x,r4.ai.aA,r4.ai.be,r4.ai.bi,r4.bv,r4.aq,l6)) else (fZ r4.ai).bind fun b15=>bif !b15 then If (.done (gr,18)) else (eJ r4 a2.1 a0.1).bind fun KW=>(bo l6 [(a0.1,KW.2)]).bind fun l17=>If (.next (aa .i64 (a+1),b,d,e,f,g,h,i,j,k,l,m,n,o,q,r,t,u,v,w,x,KW.1.ai.aA,KW.1.ai.be,KW.1.ai.bi,KW.1.bv,KW.1.aq,l17)) else bif !a2.2 then bif PP (0<=n1) then (aJ m n1).bind fun a18=>(jf (aL.mk (bg.mk y z A) B C) a18.2).bind fun Tu=>bif !a2.2 then If (.next (aa .i64 (a+1),b,d,e,f,g,h,i,j,k,l,m,n,o,q,r,t,u,v,w,x,Tu.ai.aA,Tu.ai.be,Tu.ai.bi,Tu.bv,Tu.aq,D)) else bif PP (0<=n1) then If (.next (aa .i64 (a+1),b,d,e,f,g,h,i,j,k,l,m,n,o,q,r,t,u,v,w,x,Tu.ai.aA,Tu.ai.be,Tu.ai.bi,Tu.bv,Tu.aq,D)) else (fZ Tu.ai).bind fun b20=>bif !b20 then If (.done (gr,18)) else (eJ Tu a2.1 a0.1).bind fun a21=>(bo D [(a0.1,a21.2)]).bind fun l22=>If (.next (aa .i64 (a+1),b,d,e,f,g,h,i,j,k,l,m,n,o,q,r,t,u,v,w,x,a21.1.ai.aA,a21.1.ai.be,a21.1.ai.bi,a21.1.bv,a21.1.aq,l22)) else bif !a2.2 then If (.next (aa .i64 (a+1),(b,d,e,f,g,h,i,j,k,l,m,n,o,q,r,t,u,v,w,x,y,z,A,B,C,D))) else bif PP (0<=n1) then If (.next (aa .i64 (a+1),(b,d,e,f,g,h,i,j,k,l,m,n,o,q,r,t,u,v,w,x,y,z,A,B,C,D))) else (fZ (bg.mk y z A)).bind fun b23=>bif !b23 then If (.done (gr,18)) else (eJ (aL.mk (bg.mk y z A) B C) a2.1 a0.1).bind fun a24=>(bo D [(a0.1,a24.2)]).bind fun l25=>If (.next (aa .i64 (a+1),b,d,e,f,g,h,i,j,k,l,m,n,o,q,r,t,u,v,w,x,a24.1.ai.aA,a24.1.ai.be,a24.1.ai.bi,a24.1.bv,a24.1.aq,l25)) else bif !a2.2 then If (.next (aa .i64 (a+1),(b,d,e,f,g,h,i,j,k,l,m,n,o,q,r,t,u,v,w,x,y,z,A,B,C,D))) else bif PP (0<=n1) then If (.next (aa .i64 (a+1),(b,d,e,f,g,h,i,j,k,l,m,n,o,q,r,t,u,v,w,x,y,z,A,B,C,D))) else (fZ (bg.mk y z A)).bind fun b26=>bif !b26 then If (.done (gr,18)) else (eJ (aL.mk (bg.mk y z A) B C) a2.1 a0.1).bind fun a27=>(bo D [(a0.1,a27.2)]).bind fun l28=>If (.next (aa .i64 (a+1),b,d,e,f,g,h,i,j,k,l,m,n,o,q,r,t,u,v,w,x,a27.1.ai.aA,a27.1.ai.be,a27.1.ai.bi,a27.1.bv,a27.1.aq,l28)) else bif !a2.2 then bif PP (0<=n1) then (aJ m n1).bind fun a29=>(jf (aL.mk (bg.mk y z A) B C) a29.2).bind fun Tv=>bif !a2.2 then If (.next (aa .i64 (a+1),b,d,e,f,g,h,i,j,k,l,m,n,o,q,r,t,u,v,w,x,Tv.ai.aA,Tv.ai.be,Tv.ai.bi,Tv.bv,Tv.aq,D)) else bif PP (0<=n1) then If (.next (aa .i64 (a+1),b,d,e,f,g,h,i,j,k,l,m,n,o,q,r,t,u,v,w,x,Tv.ai.aA,Tv.ai.be,Tv.ai.bi,Tv.bv,Tv.aq,D)) else (fZ Tv.ai).bind fun b31=>bif !b31 then If (.done (gr,18)) else (eJ Tv a2.1 a0.1).bind fun a32=>(bo D [(a0.1,a32.2)]).bind fun l33=>If (.next (aa .i64 (a+1),b,d,e,f,g,h,i,j,k,l,m,n,o,q,r,t,u,v,w,x,a32.1.ai.aA,a32.1.ai.be,a32.1.ai.bi,a32.1.bv,a32.1.aq,l33)) else bif !a2.2 then If (.next (aa .i64 (a+1),(b,d,e,f,g,h,i,j,k,l,m,n,o,q,r,t,u,v,w,x,y,z,A,B,C,D))) else bif PP (0<=n1) then If (.next (aa .i64 (a+1),(b,d,e,f,g,h,i,j,k,l,m,n,o,q,r,t,u,v,w,x,y,z,A,B,C,D))) else (fZ (bg.mk y z A)).bind fun b34=>bif !b34 then If (.done (gr,18)) else (eJ (aL.mk (bg.mk y z A) B C) a2.1 a0.1).bind fun a35=>(bo D [(a0.1,a35.2)]).bind fun l36=>If (.next (aa .i64 (a+1),b,d,e,f,g,h,i,j,k,l,m,n,o,q,r,t,u,v,w,x,a35.1.ai.aA,a35.1.ai.be,a35.1.ai.bi,a35.1.bv,a35.1.aq,l36)) else bif !a2.2 then If (.next (aa .i64 (a+1),(b,d,e,f,g,h,i,j,k,l,m,n,o,q,r,t,u,v,w,x,y,z,A,B,C,D))) else bif PP (0<=n1) then If (.next (aa .i64 (a+1),(b,d,e,f,g,h,i,j,k,l,m,n,o,q,r,t,u,v,w,x,y,z,A,B,C,D))) else (fZ (bg.mk y z A)).bind fun b37=>bif !b37 then If (.done (gr,18)) else (eJ (aL.mk (bg.mk y z A) B C) a2.1 a0.1).bind fun a38=>(bo D [(a0.1,a38.2)]).bind fun l39=>If (.next (aa .i64 (a+1),b,d,e,f,g,h,i,j,k,l,m,n,o,q,r,t,u,v,w,x,a38.1.ai.aA,a38.1.ai.be,a38.1.ai.bi,a38.1.bv,a38.1.aq,l39)) else If (.done (aM.mk (t,u) (Field.mk v) (bF.mk w x) (aL.mk (bg.mk y z A) B C) D,0))
def kW (p0:aM) (p1:Field):Option (aM×Int):=(lK p0).bind fun r0=>(lH p1).bind fun r1=>ay cP (0,p0.ci.1,p0.ci.2,p0.ii.am,p0.af.aN,p0.af.ce,p0.ae.ai.aA,p0.ae.ai.be,p0.ae.ai.bi,p0.ae.bv,p0.ae.aq,p0.io,p1.am,0,0,0,r0.ci.1,r0.ci.2,r1.am,r0.af.aN,r0.af.ce,r0.ae.ai.aA,r0.ae.ai.be,r0.ae.ai.bi,r0.ae.bv,r0.ae.aq,[])
def apv:bD:=⟨au.cons (Arg.agg bY) (au.one (Arg.agg bQ)),Arg.cw (au.cons (Arg.agg bY) (au.one (Arg.int .i64))),fun a=>kW a.1 a.2,.mz,NE⟩
theorem adn:aF aP 152 apv:=Oc abh aB [(29,c29),(29,Vw),(71,c71),(71,Vs),(215,alv),(99,c99),(217,apt),(216,alx),(218,alz),(219,alA)] ⟨Kb,ED,J9,EA,Q3,Pa,adk,Q4,Q5,Q6,trivial⟩
def rR (s:(Int×Int×cC×Int×Int)):Option (Step (Int×Int×cC×Int×Int) Bool):=bif PP (s.1<(ut (F0s s.2.2.1))) then (aJ s.2.2.1 s.1).bind fun a0=>bif (a0.2.1==s.2.2.2.1)&&(a0.2.2==s.2.2.2.2) then If (.done M2) else If (.next (aa .i64 (s.1+1),s.2)) else If (.done NE)
def ss (p0:bF) (p1:Int×Int):Option Bool:=ay rR (0,p0.aN,p0.ce,p1)
def ado:bD:=⟨au.cons (Arg.agg iF) (au.one (Arg.agg (cI.row iu))),Arg.bool,fun a=>ss a.1 a.2,.pure,NE⟩
theorem Ke:aF aP 104 ado:=Oc aaN aB [] trivial
def sP (p0:Int×Int):Option Bool:=bif PP (0<=p0.1) then bif PP (p0.1<=65535) then bif PP (0<=p0.2) then bif PP (p0.2<=65535) then If (p0.1 !=p0.2) else If NE else If NE else If NE else If NE
def alB:bD:=⟨au.one (Arg.agg (cI.row iu)),Arg.bool,fun a=>sP a,.pure,NE⟩
theorem Q8:aF aP 158 alB:=Oc abl aB [] trivial
def fM (s:(Int×Int×Int×cC×Int×Int×Int)):Option (Step (Int×Int×Int×cC×Int×Int×Int) aln):=bif PP (s.2.1<s.1) then (aJ s.2.2.2.1 s.2.1).bind fun a0=>bif (a0.2.1==s.2.2.2.2.2.1)&&(a0.2.2==s.2.2.2.2.2.2) then If (.done (.done 8)) else If (.next (s.1,aa .i64 (s.2.1+1),s.2.2)) else If (.done (.next (aa .i64 (s.1+1),s.2.2.1,s.2.2.2.1)))
def oz (s:SL):Option aln:=bif PP (s.1<(ut (F0s s.2.2))) then (aJ s.2.2 s.1).bind fun a0=>(sP a0.2).bind fun b1=>bif !b1 then If (.done 8) else bif PP (a0.1<0) then If (.done 8) else bif PP (s.2.1<=a0.1) then If (.done 8) else bif PP (0<s.1) then (aJ s.2.2 (aa .i64 (s.1-1))).bind fun a2=>bif PP (a0.1<=a2.1) then If (.done 8) else ay fM (s.1,0,s.2.1,s.2.2,a0) else ay fM (s.1,0,s.2.1,s.2.2,a0) else If (.done 0)
def qI (p0:bF):Option Int:=bif PP (200<(ut (F0s p0.ce))) then If 8 else bif PP (p0.aN<0) then If 8 else bif PP (1000000<p0.aN) then If 8 else ay oz (0,p0.aN,p0.ce)
def c96:bD:=⟨au.one (Arg.agg iF),Arg.int .i64,fun a=>qI a,.pure,NE⟩
theorem VA:aF aP 96 c96:=Oc ale aB [(158,alB)] ⟨Q8,trivial⟩
def zq (p0:bF) (p1:Int×Int):Option (bF×Int×Int):=(qI p0).bind fun n0=>bif n0 !=0 then If (bF.mk 0 [],0,8) else (sP p1).bind fun b1=>bif !b1 then If (bF.mk 0 [],0,8) else (ss p0 p1).bind fun b2=>bif b2 then If (bF.mk 0 [],0,14) else bif (ut (F0s p0.ce))==200 then If (bF.mk 0 [],0,18) else bif p0.aN==1000000 then If (bF.mk 0 [],0,18) else (pj p0).bind fun r3=>(bo r3.ce [(p0.aN,p1)]).bind fun l4=>If (bF.mk (aa .i64 (r3.aN+1)) l4,p0.aN,0)
def apw:bD:=⟨au.cons (Arg.agg iF) (au.one (Arg.agg (cI.row iu))),Arg.cw (au.cons (Arg.agg iF) (au.cons (Arg.int .i64) (au.one (Arg.int .i64)))),fun a=>zq a.1 a.2,.mz,NE⟩
theorem adp:aF aP 220 apw:=Oc ab0 aB [(96,c96),(158,alB),(104,ado),(72,c72),(72,ac')] ⟨VA,Q8,Ke,O8,Ka,trivial⟩
def j7 (p0:aM) (p1:Int×Int):Option (aM×Int×Int):=(zq p0.af p1).bind fun a0=>bif a0.2.2 !=0 then If (gr,0,a0.2.2) else (lK p0).bind fun r1=>(pt p0.ii p1 p0.ci).bind fun a2=>bif !a2.2 then If (aM.mk r1.ci r1.ii a0.1 r1.ae r1.io,a0.2.1,0) else (fZ p0.ae.ai).bind fun b3=>bif !b3 then If (gr,0,18) else (eJ p0.ae a2.1 a0.2.1).bind fun a4=>(bo r1.io [(a0.2.1,a4.2)]).bind fun l5=>If (aM.mk r1.ci r1.ii a0.1 a4.1 l5,a0.2.1,0)
def apx:bD:=⟨au.cons (Arg.agg bY) (au.one (Arg.agg (cI.row iu))),Arg.cw (au.cons (Arg.agg bY) (au.cons (Arg.int .i64) (au.one (Arg.int .i64)))),fun a=>j7 a.1 a.2,.mz,NE⟩
theorem adq:aF aP 153 apx:=Oc abi aB [(220,apw),(29,c29),(29,Vw),(99,c99),(218,alz),(219,alA)] ⟨adp,Kb,ED,Pa,Q5,Q6,trivial⟩
def dQ (s:aoM):Option (Step aoM Zt2):=match s with |(a,b,d,e,f,g,h,i,j,k,l,m,n,o,q,r)=>bif PP (b<(ut (F0s a))) then (aJ a b).bind fun a0=>(ss (bF.mk j k) a0).bind fun b1=>bif b1 then If (.next (a,aa .i64 (b+1),(d,e,f,g,h,i,j,k,l,m,n,o,q,r))) else (aJ a b).bind fun a2=>(j7 (aM.mk (g,h) (Field.mk i) (bF.mk j k) (aL.mk (bg.mk l m n) o q) r) a2).bind fun a3=>bif a3.2.2 !=0 then If (.done (.done (gr,a3.2.2))) else If (.next (a,aa .i64 (b+1),d,e,f,a3.1.ci.1,a3.1.ci.2,a3.1.ii.am,a3.1.af.aN,a3.1.af.ce,a3.1.ae.ai.aA,a3.1.ae.ai.be,a3.1.ae.ai.bi,a3.1.ae.bv,a3.1.ae.aq,a3.1.io)) else If (.done (.done (aM.mk (g,h) (Field.mk i) (bF.mk j k) (aL.mk (bg.mk l m n) o q) r,0)))
def dz (s:aoL):Option Zt2:=match s with |(a,b,d,e,f,g,h,i,j,k,l,m,n,o,q,r,t,u,v,w,x,y,z,A,B,C,D,E)=>bif PP (b<(ut (F0s h))) then (aJ h b).bind fun a0=>(B6 a a0.2).bind fun b1=>bif !b1 then (aJ h b).bind fun a2=>(sO (aM.mk (u,v) (Field.mk w) (bF.mk x y) (aL.mk (bg.mk z A B) C D) E) a2.1).bind fun r3=>If (.next (a,aa .i64 (b+1),d,e,f,g,h,i,j,k,l,m,n,o,q,r,t,r3.ci.1,r3.ci.2,r3.ii.am,r3.af.aN,r3.af.ce,r3.ae.ai.aA,r3.ae.ai.be,r3.ae.ai.bi,r3.ae.bv,r3.ae.aq,r3.io)) else If (.next (a,aa .i64 (b+1),(d,e,f,g,h,i,j,k,l,m,n,o,q,r,t,u,v,w,x,y,z,A,B,C,D,E))) else (wX (Field.mk w) (Field.mk o)).bind fun b4=>bif !b4 then (kW (aM.mk (u,v) (Field.mk w) (bF.mk x y) (aL.mk (bg.mk z A B) C D) E) (Field.mk o)).bind fun a5=>bif a5.2 !=0 then If (.done (gr,a5.2)) else ay dQ (a,0,q,r,t,a5.1.ci.1,a5.1.ci.2,a5.1.ii.am,a5.1.af.aN,a5.1.af.ce,a5.1.ae.ai.aA,a5.1.ae.ai.be,a5.1.ae.ai.bi,a5.1.ae.bv,a5.1.ae.aq,a5.1.io) else ay dQ (a,0,(q,r,t,u,v,w,x,y,z,A,B,C,D,E))
def jg (p0:aM) (p1:Field) (p2:List (Int×Int)):Option (aM×Int):=(lK p0).bind fun r0=>ay dz (p2,0,p0.ci.1,p0.ci.2,p0.ii.am,p0.af.aN,p0.af.ce,p0.ae.ai.aA,p0.ae.ai.be,p0.ae.ai.bi,p0.ae.bv,p0.ae.aq,p0.io,p1.am,0,0,0,r0.ci.1,r0.ci.2,r0.ii.am,r0.af.aN,r0.af.ce,r0.ae.ai.aA,r0.ae.ai.be,r0.ae.ai.bi,r0.ae.bv,r0.ae.aq,r0.io)
def c92:bD:=⟨au.cons (Arg.agg bY) (au.cons (Arg.agg bQ) (au.one (Arg.sl iu))),Arg.cw (au.cons (Arg.agg bY) (au.one (Arg.int .i64))),fun a=>jg a.1 a.2.1 a.2.2,.mz,NE⟩
theorem alC:aF aP 92 c92:=Oc alc aB [(29,c29),(29,Vw),(150,apk),(151,apn),(19,c19),(152,apv),(104,ado),(153,apx)] ⟨Kb,ED,ada,adf,aly,adn,Ke,adq,trivial⟩
def eY (p0:aM) (p1:Field) (p2:List Int):Option (bz×Int):=(wW p1 p0.ci p2).bind fun r0=>(vR r0).bind fun l1=>(jg p0 p1 l1).bind fun a2=>bif a2.2 !=0 then If (bz.mk gr (bA.mk [] []),a2.2) else If (bz.mk a2.1 r0,0)
def c39:bD:=⟨au.cons (Arg.agg bY) (au.cons (Arg.agg bQ) (au.one (Arg.sl ki))),Arg.cw (au.cons (Arg.agg jG) (au.one (Arg.int .i64))),fun a=>eY a.1 a.2.1 a.2.2,.mz,NE⟩
theorem alD:aF aP 39 c39:=Oc akA aB [(91,c91),(53,c53),(92,c92)] ⟨alu,Vu,alC,trivial⟩
def j8 (p0:Field) (p1:Int×Int):Option (bz×Int):=(gm p0).bind fun n0=>bif n0 !=0 then (gm p0).bind fun n1=>If (bz.mk gr (bA.mk [] []),n1) else (nH p1).bind fun n2=>bif n2 !=0 then If (bz.mk gr (bA.mk [] []),8) else (ug p0 p1).bind fun r3=>(qF p0).bind fun l4=>(eY r3 p0 l4).bind fun a5=>If a5
def c95:bD:=⟨au.cons (Arg.agg bQ) (au.one (Arg.agg (cI.row iu))),Arg.cw (au.cons (Arg.agg jG) (au.one (Arg.int .i64))),fun a=>j8 a.1 a.2,.mz,NE⟩
theorem alE:aF aP 95 c95:=Oc ald aB [(88,c88),(66,c66),(156,apc),(157,apd),(39,c39)] ⟨Vr,O7,ac2,ac3,alD,trivial⟩
def DW:Option bz:=(B3 2).bind fun a0=>(j8 (Field.mk [(1,0,2),(2,6,-1),(5,0,0)]) a0).bind fun a1=>If a1.1
def c43:bD:=⟨au.nil,Arg.agg jG,fun _=>DW,.mz,NE⟩
theorem alF:aF aP 43 c43:=Oc akB aB [(22,c22),(95,c95)] ⟨Vq,alE,trivial⟩
def kX (p0:Int):Option Int:=bif PP (p0<0) then If (aa .u64 (0- (aa .u64 p0))) else If (aa .u64 p0)
def adr:bD:=⟨au.one (Arg.int .i64),Arg.int .u64,fun a=>kX a,.pure,NE⟩
theorem Kf:aF aP 166 adr:=Oc abu aB [] trivial
def rS (s:(Int×Int)):Option (Step (Int×Int) Int):=bif PP (0<s.2) then bif s.2==0 then IR else If (.next (s.2,AC s.1 s.2)) else If (.done s.1)
def vS (p0:Int) (p1:Int):Option Int:=ay rS (p0,p1)
def alG:bD:=⟨au.cons (Arg.int .u64) (au.one (Arg.int .u64)),Arg.int .u64,fun a=>vS a.1 a.2,.pure,NE⟩
theorem Q9:aF aP 165 alG:=Oc abt aB [] trivial
def fS (p0:Int×Int):Option Int:=bif PP (p0.2<1) then If 8 else bif p0.1==(-9223372036854775808) then If 8 else (kX p0.1).bind fun n0=>(vS (aa .u64 p0.2) n0).bind fun n1=>bif PP (1<n1) then If 8 else If 0
def Kg:bD:=⟨au.one (Arg.agg (cI.row iu)),Arg.int .i64,fun a=>fS a,.pure,NE⟩
theorem uq:aF aP 106 Kg:=Oc aaP aB [(166,adr),(165,alG)] ⟨Kf,Q9,trivial⟩
def oA (p0:Int):Option Bool:=bif PP (p0<(-1048576)) then If M2 else If (PP (1048576<p0))
def apy:bD:=⟨au.one (Arg.int .i64),Arg.bool,fun a=>oA a,.pure,NE⟩
theorem ads:aF aP 108 apy:=Oc aaR aB [] trivial
def kz (p0:Int×Int×Int):Option Int:=bif PP (p0.1<0) then If 8 else bif PP (65535<p0.1) then If 8 else (oA p0.2.1).bind fun b0=>bif b0 then If 8 else (oA p0.2.2).bind fun b1=>bif b1 then If 8 else If 0
def c58:bD:=⟨au.one (Arg.agg (cI.row ek)),Arg.int .i64,fun a=>kz a,.pure,NE⟩
theorem Pc:aF aP 58 c58:=Oc akP aB [(108,apy)] ⟨ads,trivial⟩
def iy (s:Vp):Option (Step Vp (Step Vp Int)):=bif PP (s.2.2.1<s.2.1) then (aJ s.1 s.2.2.1).bind fun a0=>bif PP (0<s.2.2.1) then (aJ s.2.2.2 (aa .i64 (s.2.2.1-1))).bind fun a1=>bif PP (a0.1<=a1.1) then If (.done (.done 32)) else If (.next (s.1,s.2.1,aa .i64 (s.2.2.1+1),s.2.2.2)) else If (.next (s.1,s.2.1,aa .i64 (s.2.2.1+1),s.2.2.2)) else If (.done (.done 0))
def lN (s:Vp):Option (Step Vp Int):=bif PP (s.2.2.1<s.2.1) then (aJ s.1 s.2.2.1).bind fun a0=>(kz a0).bind fun n1=>bif n1 !=0 then If (.done n1) else If (.next (s.1,s.2.1,aa .i64 (s.2.2.1+1),s.2.2.2)) else ay iy (s.2.2.2,ut (F0s s.2.2.2),0,s.2.2.2)
def db (p0:Field):Option Int:=bif PP (64<(ut (F0s p0.am))) then If 4 else ay lN (p0.am,ut (F0s p0.am),0,p0.am)
def c57:bD:=⟨au.one (Arg.agg bQ),Arg.int .i64,fun a=>db a,.pure,NE⟩
theorem A2:aF aP 57 c57:=Oc akO aB [(58,c58)] ⟨Pc,trivial⟩
def sQ (p0:Int×Int):Option Bool:=bif PP (0<=(if p0.2<p0.1 then p0.2 else p0.1)) then bif PP ((if p0.2>p0.1 then p0.2 else p0.1)<=65535) then If (p0.1 !=p0.2) else If NE else If NE
def alH:bD:=⟨au.one (Arg.agg (cI.row iu)),Arg.bool,fun a=>sQ a,.pure,NE⟩
theorem Q':aF aP 181 alH:=Oc abE aB [] trivial
def pX (s:ao2):Option (Step ao2 Int):=bif PP (s.2.2.2.1<s.2.2.1) then (aJ s.2.1 s.2.2.2.1).bind fun a0=>(sQ a0.2).bind fun b1=>bif !b1 then If (.done 8) else (LN s.2.2.2.2.2.2 [a0.2.1,a0.2.2]).bind fun b2=>bif b2 then If (.done 8) else bif PP (a0.1<=s.1) then If (.done 8) else bif PP (s.2.2.2.2.1<=a0.1) then If (.done 8) else (LO s.2.2.2.2.2.2 [a0.2.1,a0.2.2]).bind fun l3=>If (.next (a0.1,s.2.1,s.2.2.1,aa .i64 (s.2.2.2.1+1),s.2.2.2.2.1,s.2.2.2.2.2.1,l3)) else If (.done 0)
def px (p0:bF):Option Int:=bif PP (200<(ut (F0s p0.ce))) then If 8 else bif PP (p0.aN<0) then If 8 else bif PP (1000000<p0.aN) then If 8 else ay pX (-1,p0.ce,ut (F0s p0.ce),0,p0.aN,p0.ce,[])
def adt:bD:=⟨au.one (Arg.agg iF),Arg.int .i64,fun a=>px a,.pure,NE⟩
theorem Kh:aF aP 126 adt:=Oc aa0 aB [(181,alH)] ⟨Q',trivial⟩
def gn (s:((List Bool)×Bool×Int×Int)):Option (Step ((List Bool)×Bool×Int×Int) Int):=bif PP (s.2.2.2<s.2.2.1) then (aJ s.1 s.2.2.2).bind fun b0=>bif s.2.1==b0 then If (.done s.2.2.2) else If (.next (s.1,s.2.1,s.2.2.1,aa .i64 (s.2.2.2+1))) else If (.done (-1))
def oB (p0:List Bool) (p1:Bool):Option Int:=ay gn (p0,p1,ut (F0s p0),0)
def apz:bD:=⟨au.cons (Arg.sl kb) (au.one Arg.bool),Arg.int .i64,fun a=>oB a.1 a.2,.pure,NE⟩
theorem adu:aF aP 275 apz:=Oc acB aB [] trivial
def ez (p0:List Bool) (p1:Bool):Option Bool:=(oB p0 p1).bind fun n0=>If (PP (0<=n0))
def apA:bD:=⟨au.cons (Arg.sl kb) (au.one Arg.bool),Arg.bool,fun a=>ez a.1 a.2,.pure,NE⟩
theorem adv:aF aP 237 apA:=Oc acd aB [(275,apz)] ⟨adu,trivial⟩
def gi (s:((List Int)×Int×Int×(List Int)×(List Bool)×(List Int))):Option (Step ((List Int)×Int×Int×(List Int)×(List Bool)×(List Int)) ao4):=bif PP (s.2.2.1<s.2.1) then (aJ s.1 s.2.2.1).bind fun n0=>bif PP (n0<0) then If (.done (.done 8)) else bif PP (1000000<n0) then If (.done (.done 8)) else bif n0==0 then (aJ s.2.2.2.2.1 s.2.2.1).bind fun b1=>bif b1 then If (.done (.done 8)) else If (.next (s.1,s.2.1,aa .i64 (s.2.2.1+1),s.2.2.2)) else If (.next (s.1,s.2.1,aa .i64 (s.2.2.1+1),s.2.2.2)) else If (.done (.done 0))
def pY (c0:(List Bool)) (s:ao3):Option ao4:=match s with |(a,b,d,e,f,g,h,i)=>bif PP (d<b) then (aJ a d).bind fun n0=>bif PP (n0<0) then bif (F0s i)==(F0s i) then bif (F0s i)==(F0s c0) then bif (F0s i)==(F0s c0) then bif PP (0<=d) then If (.done 8) else (ez i NE).bind fun b1=>bif b1 then If (.done 8) else ay gi (e,ut (F0s e),0,e,f,g) else IR else IR else IR else bif PP (h<=n0) then bif (F0s i)==(F0s i) then bif (F0s i)==(F0s c0) then bif (F0s i)==(F0s c0) then bif PP (0<=d) then If (.done 8) else (ez i NE).bind fun b2=>bif b2 then If (.done 8) else ay gi (e,ut (F0s e),0,e,f,g) else IR else IR else IR else (aJ i n0).bind fun b3=>bif b3 then bif (F0s i)==(F0s i) then bif (F0s i)==(F0s c0) then bif (F0s i)==(F0s c0) then bif PP (0<=d) then If (.done 8) else (ez i NE).bind fun b4=>bif b4 then If (.done 8) else ay gi (e,ut (F0s e),0,e,f,g) else IR else IR else IR else (aJ i n0).bind fun _=>bif ((cj i n0 M2).length)==(F0s i) then If (.next (a,b,aa .i64 (d+1),e,f,g,h,cj i n0 M2)) else IR else bif (F0s i)==(F0s c0) then bif (F0s i)==(F0s c0) then (ez i NE).bind fun b6=>bif b6 then If (.done 8) else ay gi (e,ut (F0s e),0,e,f,g) else IR else IR
def py (p0:bg):Option Int:=bif PP ((ut (F0s p0.aA))<1) then If 8 else bif PP (200<(ut (F0s p0.aA))) then If 8 else bif (ut (F0s p0.be)) !=(ut (F0s p0.aA)) then If 8 else (bP p0.be).bind fun l0=>ay (pY l0) (p0.bi,ut (F0s p0.bi),0,p0.aA,p0.be,p0.bi,ut (F0s p0.aA),l0)
def adw:bD:=⟨au.one (Arg.agg gC),Arg.int .i64,fun a=>py a,.pure,NE⟩
theorem Ki:aF aP 182 adw:=aF.of abF (cx:=(iV aB [(212,bD.clone kb),(237,apA)] [] [(187,O6),(83,X'),(236,ZP)] [])) rfl (gJ.make ⟨sM,adv,trivial⟩ trivial ⟨Ez,Dc,acb,trivial⟩) (fun a=>by kernel_rfl)
def wY (p0:Int×Int) (p1:Int×Int):Option Int:=(fS p0).bind fun n0=>(fS p1).bind fun n1=>If (if n1>n0 then n1 else n0)
def apB:bD:=⟨au.cons (Arg.agg (cI.row iu)) (au.one (Arg.agg (cI.row iu))),Arg.int .i64,fun a=>wY a.1 a.2,.pure,NE⟩
theorem adx:aF aP 174 apB:=Oc abz aB [(106,Kg)] ⟨uq,trivial⟩
def mS (p0:Int):Option Bool:=If (p0 !=p0)
def apC:bD:=⟨au.one (Arg.int .i64),Arg.bool,fun a=>mS a,.pure,NE⟩
theorem ady:aF aP 229 apC:=Oc ab6 aB [] trivial
def iW (p0:Int) (p1:Int):Option Int:=(mS p0).bind fun b0=>(mS p1).bind fun b1=>bif b0 then bif b1 then If 0 else If (-1) else bif b1 then If 1 else bif PP (p0<p1) then If (-1) else bif PP (p1<p0) then If 1 else If 0
def alI:bD:=⟨au.cons (Arg.int .i64) (au.one (Arg.int .i64)),Arg.int .i64,fun a=>iW a.1 a.2,.pure,NE⟩
theorem Ra:aF aP 175 alI:=Oc abA aB [(229,apC)] ⟨ady,trivial⟩
def eF (p0:Int) (p1:Int):Option (Int×Int):=If (aa .u64 ((aa .u64 ((aa .u64 ((nS .u64 p0 32)*(nS .u64 p1 32)))+(nS .u64 (aa .u64 ((aa .u64 ((nS .u64 p0 32)*(AJ .u64 p1 4294967295)))+(nS .u64 (aa .u64 ((AJ .u64 p0 4294967295)*(AJ .u64 p1 4294967295))) 32))) 32)))+(nS .u64 (aa .u64 ((AJ .u64 (aa .u64 ((aa .u64 ((nS .u64 p0 32)*(AJ .u64 p1 4294967295)))+(nS .u64 (aa .u64 ((AJ .u64 p0 4294967295)*(AJ .u64 p1 4294967295))) 32))) 4294967295)+(aa .u64 ((AJ .u64 p0 4294967295)*(nS .u64 p1 32))))) 32)),aa .u64 (p0*p1))
def adz:bD:=⟨au.cons (Arg.int .u64) (au.one (Arg.int .u64)),Arg.cw (au.cons (Arg.int .u64) (au.one (Arg.int .u64))),fun a=>eF a.1 a.2,.pure,NE⟩
theorem Kj:aF aP 140 adz:=Oc aa7 aB [] trivial
def qJ (p0:Int) (p1:Int):Option (Bool×Int×Int):=(kX p0).bind fun n0=>(kX p1).bind fun n1=>(eF n0 n1).bind fun a2=>If (!((PP (p0<0))==(PP (p1<0))),a2)
def apD:bD:=⟨au.cons (Arg.int .i64) (au.one (Arg.int .i64)),Arg.agg (cI.row yx),fun a=>qJ a.1 a.2,.pure,NE⟩
theorem adA:aF aP 177 apD:=Oc abC aB [(166,adr),(140,adz)] ⟨Kf,Kj,trivial⟩
def mi (p0:Int):Option Bool:=If (p0 !=p0)
def apE:bD:=⟨au.one (Arg.int .u64),Arg.bool,fun a=>mi a,.pure,NE⟩
theorem adB:aF aP 268 apE:=Oc acu aB [] trivial
def iz (p0:Int) (p1:Int):Option Int:=(mi p0).bind fun b0=>(mi p1).bind fun b1=>bif b0 then bif b1 then If 0 else If (-1) else bif b1 then If 1 else bif PP (p0<p1) then If (-1) else bif PP (p1<p0) then If 1 else If 0
def apF:bD:=⟨au.cons (Arg.int .u64) (au.one (Arg.int .u64)),Arg.int .i64,fun a=>iz a.1 a.2,.pure,NE⟩
theorem adC:aF aP 230 apF:=Oc ab7 aB [(268,apE)] ⟨adB,trivial⟩
def pZ (p0:Bool×Int×Int) (p1:Bool×Int×Int):Option Int:=(iz p0.2.1 p1.2.1).bind fun n0=>bif n0 !=0 then If n0 else (iz p0.2.2 p1.2.2).bind fun n1=>If n1
def apG:bD:=⟨au.cons (Arg.agg (cI.row yx)) (au.one (Arg.agg (cI.row yx))),Arg.int .i64,fun a=>pZ a.1 a.2,.pure,NE⟩
theorem adD:aF aP 176 apG:=Oc abB aB [(230,apF)] ⟨adC,trivial⟩
def zt (p0:Int×Int) (p1:Int×Int):Option (Int×Int):=(wY p0 p1).bind fun n0=>bif n0 !=0 then If (0,n0) else bif !((PP (p0.1<0))==(PP (p1.1<0))) then (iW p0.1 p1.1).bind fun n1=>If (n1,0) else (qJ p0.1 p1.2).bind fun a2=>(qJ p1.1 p0.2).bind fun a3=>(pZ a2 a3).bind fun n4=>bif PP (p0.1<0) then If (aa .i64 (0-n4),0) else If (n4,0)
def apH:bD:=⟨au.cons (Arg.agg (cI.row iu)) (au.one (Arg.agg (cI.row iu))),Arg.cw (au.cons (Arg.int .i64) (au.one (Arg.int .i64))),fun a=>zt a.1 a.2,.pure,NE⟩
theorem adE:aF aP 121 apH:=Oc aaZ aB [(174,apB),(175,alI),(177,apD),(176,apG)] ⟨adx,Ra,adA,adD,trivial⟩
def cmp_isNaN_int (p0:Int):Option Bool:=If (p0 !=p0)
def apI:bD:=⟨au.one (Arg.int .i64),Arg.bool,fun a=>cmp_isNaN_int a,.pure,NE⟩
theorem adF:aF aP 168 apI:=Oc abw aB [] trivial
def eG (p0:Int) (p1:Int):Option Int:=(cmp_isNaN_int p0).bind fun b0=>(cmp_isNaN_int p1).bind fun b1=>bif b0 then bif b1 then If 0 else If (-1) else bif b1 then If 1 else bif PP (p0<p1) then If (-1) else bif PP (p1<p0) then If 1 else If 0
def Mo:bD:=⟨au.cons (Arg.int .i64) (au.one (Arg.int .i64)),Arg.int .i64,fun a=>eG a.1 a.2,.pure,NE⟩
theorem wZ:aF aP 111 Mo:=Oc aaT aB [(168,apI)] ⟨adF,trivial⟩
def uU (s:(Int×(List Int)×Int×Int)):Option (Step (Int×(List Int)×Int×Int) Int):=bif PP (s.2.2.2<s.2.2.1) then (aJ s.2.1 s.2.2.2).bind fun n0=>bif n0 !=s.1 then If (.done n0) else If (.next (s.1,s.2.1,s.2.2.1,aa .i64 (s.2.2.2+1))) else If (.done s.1)
def sR (p0:List Int):Option Int:=ay uU (0,p0,ut (F0s p0),0)
def alJ:bD:=⟨au.one (Arg.sl ki),Arg.int .i64,fun a=>sR a,.pure,NE⟩
theorem Rb:aF aP 238 alJ:=Oc ace aB [] trivial
def cD (p0:Int×Int×Int×Int×Int) (p1:Int×Int×Int×Int×Int):Option Int:=(zt (p0.1,p0.2.1) (p1.1,p1.2.1)).bind fun a0=>(eG p0.2.2.1 p1.2.2.1).bind fun n1=>(sR [a0.1,n1]).bind fun n2=>If n2
def adG:bD:=⟨au.cons (Arg.agg (cI.row kv)) (au.one (Arg.agg (cI.row kv))),Arg.int .i64,fun a=>cD a.1 a.2,.pure,NE⟩
theorem Kk:aF aP 183 adG:=Oc abG aB [(121,apH),(111,Mo),(238,alJ)] ⟨adE,wZ,Rb,trivial⟩
def iN (s:aoU):Option (Step aoU aoX):=bif PP (s.2.2.1<s.2.1) then (aJ s.1 s.2.2.1).bind fun a0=>(fS (a0.1,a0.2.1)).bind fun n1=>bif n1 !=0 then If (.done (.done 8)) else bif PP (a0.2.2.1<0) then If (.done (.done 8)) else bif PP (1000000<a0.2.2.1) then If (.done (.done 8)) else (LN s.2.2.2.2.2.2.2.2 [a0.2.2.1]).bind fun b2=>bif b2 then If (.done (.done 8)) else (LO s.2.2.2.2.2.2.2.2 [a0.2.2.1]).bind fun l3=>bif PP (0<s.2.2.1) then (aJ s.2.2.2.2.2.2.1 (aa .i64 (v6 (aa .i64 (s.2.2.1-1)) 2))).bind fun a4=>(cD a0 a4).bind fun n5=>bif PP (n5<0) then If (.done (.done 8)) else If (.next (s.1,s.2.1,aa .i64 (s.2.2.1+1),s.2.2.2.1,s.2.2.2.2.1,s.2.2.2.2.2.1,s.2.2.2.2.2.2.1,s.2.2.2.2.2.2.2.1,l3)) else If (.next (s.1,s.2.1,aa .i64 (s.2.2.1+1),s.2.2.2.1,s.2.2.2.2.1,s.2.2.2.2.2.1,s.2.2.2.2.2.2.1,s.2.2.2.2.2.2.2.1,l3)) else If (.done (.done 0))
def kQ (s:aoW):Option aoX:=bif PP (s.2.2.1<s.2.1) then (aJ s.1 s.2.2.1).bind fun n0=>(aJ s.2.2.2.2.1 s.2.2.1).bind fun b1=>bif !b1 then bif n0 !=(-1) then If (.done 8) else If (.next (s.1,s.2.1,aa .i64 (s.2.2.1+1),s.2.2.2)) else bif PP (n0<0) then If (.done 8) else bif PP ((ut (F0s s.2.2.2.2.2.2.1))<=n0) then If (.done 8) else (aJ s.2.2.2.2.2.2.1 n0).bind fun a2=>(aJ s.2.2.2.1 s.2.2.1).bind fun n3=>bif !((a2.2.2.2.1==s.2.2.1)&&(a2.2.2.2.2==n3)) then If (.done 8) else If (.next (s.1,s.2.1,aa .i64 (s.2.2.1+1),s.2.2.2)) else ay iN (s.2.2.2.2.2.2.1,ut (F0s s.2.2.2.2.2.2.1),0,s.2.2.2.1,s.2.2.2.2.1,s.2.2.2.2.2.1,s.2.2.2.2.2.2.1,s.2.2.2.2.2.2.2,[])
def kA (p0:aL):Option Int:=(py p0.ai).bind fun n0=>bif n0 !=0 then If 8 else bif (ut (F0s p0.aq)) !=(ut (F0s p0.ai.be)) then If 8 else bif (ut (F0s p0.bv)) !=(aa .i64 ((ut (F0s p0.ai.be)) - (ut (F0s p0.ai.bi)))) then If 8 else ay kQ (p0.aq,ut (F0s p0.aq),0,p0.ai.aA,p0.ai.be,p0.ai.bi,p0.bv,p0.aq)
def VB:bD:=⟨au.one (Arg.agg dI),Arg.int .i64,fun a=>kA a,.pure,NE⟩
theorem EE:aF aP 127 VB:=Oc aa1 aB [(182,adw),(106,Kg),(183,adG)] ⟨Ki,uq,Kk,trivial⟩
def uW (p0:Int×Int×Int) (p1:Int):Option Int:=(eG p0.1 p1).bind fun n0=>If n0
def apJ:bD:=⟨au.cons (Arg.agg (cI.row ek)) (au.one (Arg.int .i64)),Arg.int .i64,fun a=>uW a.1 a.2,.pure,NE⟩
theorem adH:aF aP 240 apJ:=Oc acg aB [(111,Mo)] ⟨wZ,trivial⟩
def hY (s:HF):Option Vo:=bif PP (s.2.2.2.1<s.2.2.2.2) then (aJ s.1 (aa .i64 (nS .u64 (aa .u64 (aa .i64 (s.2.2.2.1+s.2.2.2.2))) 1))).bind fun a0=>(uW a0 s.2.1).bind fun n1=>bif PP (n1<0) then If (.next (s.1,s.2.1,s.2.2.1,aa .i64 ((aa .i64 (nS .u64 (aa .u64 (aa .i64 (s.2.2.2.1+s.2.2.2.2))) 1))+1),s.2.2.2.2)) else If (.next (s.1,s.2.1,s.2.2.1,s.2.2.2.1,aa .i64 (nS .u64 (aa .u64 (aa .i64 (s.2.2.2.1+s.2.2.2.2))) 1))) else bif PP (s.2.2.2.1<s.2.2.1) then (aJ s.1 s.2.2.2.1).bind fun a2=>(uW a2 s.2.1).bind fun n3=>If (.done (s.2.2.2.1,n3==0)) else If (.done (s.2.2.2.1,NE))
def c9 (p0:List (Int×Int×Int)) (p1:Int) (_:Unit):Option (Int×Bool):=ay hY (p0,p1,ut (F0s p0),0,ut (F0s p0))
def Mp:bD:=⟨au.cons (Arg.sl ek) (au.cons (Arg.int .i64) (au.one (Arg.eV 240 au.nil))),Arg.cw (au.cons (Arg.int .i64) (au.one Arg.bool)),fun a=>c9 a.1 a.2.1 a.2.2,.pure,NE⟩
theorem Mq:aF aP 109 Mp:=Oc J0 aB [(240,apJ)] ⟨adH,trivial⟩
def iX (p0:Field) (p1:Int):Option (Int×Int×Int):=(c9 p0.am p1 ()).bind fun a0=>bif !a0.2 then If (-1,0,0) else (aJ p0.am a0.1).bind fun a1=>If a1
def adI:bD:=⟨au.cons (Arg.agg bQ) (au.one (Arg.int .i64)),Arg.agg (cI.row ek),fun a=>iX a.1 a.2,.pure,NE⟩
theorem Kl:aF aP 185 adI:=Oc abI aB [(109,Mp)] ⟨Mq,trivial⟩
def pz (p0:Int×Int×Int) (p1:Int×Int×Int) (p2:Int×Int):Option Int:=(kz p0).bind fun n0=>(kz p1).bind fun n1=>(fS p2).bind fun n2=>bif (if n2>(if n1>n0 then n1 else n0) then n2 else if n1>n0 then n1 else n0) !=0 then If (if n2>(if n1>n0 then n1 else n0) then n2 else if n1>n0 then n1 else n0) else bif p0.1==p1.1 then If 2 else If 0
def adJ:bD:=⟨au.cons (Arg.agg (cI.row ek)) (au.cons (Arg.agg (cI.row ek)) (au.one (Arg.agg (cI.row iu)))),Arg.int .i64,fun a=>pz a.1 a.2.1 a.2.2,.pure,NE⟩
theorem Km:aF aP 227 adJ:=Oc ab4 aB [(58,c58),(106,Kg)] ⟨Pc,uq,trivial⟩
def mI (s:(Int×Int×Int×Int×Int×Int×Int×Int×Int)):Option (Step (Int×Int×Int×Int×Int×Int×Int×Int×Int) (Int×Int)):=bif PP (s.2.2.2.2.1<2) then bif s.2.2.2.2.1==0 then (eF (aa .u64 s.1) (aa .u64 s.2.1)).bind fun a0=>bif PP (s.1<0) then bif PP (s.2.1<0) then (pg s.2.2.2.2.2.2.2.2 a0.2 0).bind fun a1=>If (.next (s.1,s.2.1,s.2.2.1,s.2.2.2.1,aa .i64 (s.2.2.2.2.1+1),s.2.2.2.2.2.1,s.2.2.2.2.2.2.1,aa .i64 ((aa .i64 (s.2.2.2.2.2.2.2.1+(aa .i64 ((aa .i64 ((aa .i64 a0.1) -s.2.1)) -s.1))))+(aa .i64 a1.2)),a1.1)) else (pg s.2.2.2.2.2.2.2.2 a0.2 0).bind fun a2=>If (.next (s.1,s.2.1,s.2.2.1,s.2.2.2.1,aa .i64 (s.2.2.2.2.1+1),s.2.2.2.2.2.1,s.2.2.2.2.2.2.1,aa .i64 ((aa .i64 (s.2.2.2.2.2.2.2.1+(aa .i64 ((aa .i64 a0.1) -s.2.1))))+(aa .i64 a2.2)),a2.1)) else bif PP (s.2.1<0) then (pg s.2.2.2.2.2.2.2.2 a0.2 0).bind fun a3=>If (.next (s.1,s.2.1,s.2.2.1,s.2.2.2.1,aa .i64 (s.2.2.2.2.1+1),s.2.2.2.2.2.1,s.2.2.2.2.2.2.1,aa .i64 ((aa .i64 (s.2.2.2.2.2.2.2.1+(aa .i64 ((aa .i64 a0.1) -s.1))))+(aa .i64 a3.2)),a3.1)) else (pg s.2.2.2.2.2.2.2.2 a0.2 0).bind fun a4=>If (.next (s.1,s.2.1,s.2.2.1,s.2.2.2.1,aa .i64 (s.2.2.2.2.1+1),s.2.2.2.2.2.1,s.2.2.2.2.2.2.1,aa .i64 ((aa .i64 (s.2.2.2.2.2.2.2.1+(aa .i64 a0.1)))+(aa .i64 a4.2)),a4.1)) else bif s.2.2.2.2.1==1 then (eF (aa .u64 s.2.2.1) (aa .u64 s.2.2.2.1)).bind fun a5=>bif PP (s.2.2.1<0) then bif PP (s.2.2.2.1<0) then (pg s.2.2.2.2.2.2.2.2 a5.2 0).bind fun a6=>If (.next (s.1,s.2.1,s.2.2.1,s.2.2.2.1,aa .i64 (s.2.2.2.2.1+1),s.2.2.2.2.2.1,s.2.2.2.2.2.2.1,aa .i64 ((aa .i64 (s.2.2.2.2.2.2.2.1+(aa .i64 ((aa .i64 ((aa .i64 a5.1) -s.2.2.2.1)) -s.2.2.1))))+(aa .i64 a6.2)),a6.1)) else (pg s.2.2.2.2.2.2.2.2 a5.2 0).bind fun a7=>If (.next (s.1,s.2.1,s.2.2.1,s.2.2.2.1,aa .i64 (s.2.2.2.2.1+1),s.2.2.2.2.2.1,s.2.2.2.2.2.2.1,aa .i64 ((aa .i64 (s.2.2.2.2.2.2.2.1+(aa .i64 ((aa .i64 a5.1) -s.2.2.2.1))))+(aa .i64 a7.2)),a7.1)) else bif PP (s.2.2.2.1<0) then (pg s.2.2.2.2.2.2.2.2 a5.2 0).bind fun a8=>If (.next (s.1,s.2.1,s.2.2.1,s.2.2.2.1,aa .i64 (s.2.2.2.2.1+1),s.2.2.2.2.2.1,s.2.2.2.2.2.2.1,aa .i64 ((aa .i64 (s.2.2.2.2.2.2.2.1+(aa .i64 ((aa .i64 a5.1) -s.2.2.1))))+(aa .i64 a8.2)),a8.1)) else (pg s.2.2.2.2.2.2.2.2 a5.2 0).bind fun a9=>If (.next (s.1,s.2.1,s.2.2.1,s.2.2.2.1,aa .i64 (s.2.2.2.2.1+1),s.2.2.2.2.2.1,s.2.2.2.2.2.2.1,aa .i64 ((aa .i64 (s.2.2.2.2.2.2.2.1+(aa .i64 a5.1)))+(aa .i64 a9.2)),a9.1)) else IR else If (.done s.2.2.2.2.2.2.2)
def w3 (p0:Int×Int×Int×Int):Option (Int×Int):=ay mI (p0.1,p0.2.1,p0.2.2.1,p0.2.2.2,0,0,0,0,0)
def apK:bD:=⟨au.one (Arg.agg (cI.row aoK)),Arg.agg (cI.row kiu),fun a=>w3 a,.pure,NE⟩
theorem adK:aF aP 267 apK:=Oc acs aB [(140,adz),(289,bD.LX)] ⟨Kj,Vn,trivial⟩
def lO (p0:Int×Int×Int) (p1:Int×Int×Int) (p2:Int×Int):Option Int:=(w3 (aa .i64 (p0.2.1-p1.2.1),p2.2,aa .i64 (p0.2.2-p1.2.2),p2.1)).bind fun a0=>bif !((a0.1==0)&&(a0.2==0)) then bif PP (a0.1<0) then If (-1) else If 1 else (iW p0.2.2 p1.2.2).bind fun n1=>(eG p1.1 p0.1).bind fun n2=>(sR [n1,n2]).bind fun n3=>If n3
def alK:bD:=⟨au.cons (Arg.agg (cI.row ek)) (au.cons (Arg.agg (cI.row ek)) (au.one (Arg.agg (cI.row iu)))),Arg.int .i64,fun a=>lO a.1 a.2.1 a.2.2,.pure,NE⟩
theorem Rc:aF aP 228 alK:=Oc ab5 aB [(267,apK),(175,alI),(111,Mo),(238,alJ)] ⟨adK,Ra,wZ,Rb,trivial⟩
def yA (p0:Bool×Int×Int) (p1:Int) (p2:Int):Option ((Int×Int)×Int):=bif PP (0<p0.2.1) then If ((0,0),16) else bif PP (9223372036854775807<p0.2.2) then If ((0,0),16) else bif PP (0<p1) then If ((0,0),16) else bif PP (9223372036854775807<p2) then If ((0,0),16) else bif p0.1 then If ((aa .i64 (0- (aa .i64 p0.2.2)),aa .i64 p2),0) else If ((aa .i64 p0.2.2,aa .i64 p2),0)
def apL:bD:=⟨au.cons (Arg.agg (cI.row yx)) (au.cons (Arg.int .u64) (au.one (Arg.int .u64))),Arg.cw (au.cons (Arg.agg (cI.row iu)) (au.one (Arg.int .i64))),fun a=>yA a.1 a.2.1 a.2.2,.pure,NE⟩
theorem adL:aF aP 294 apL:=Oc acM aB [] trivial
def w5 (p0:Int) (p1:Int):Option ((Int×Int)×Int):=bif p1==0 then If ((0,0),26) else (kX p0).bind fun n0=>(kX p1).bind fun n1=>(vS n0 n1).bind fun n2=>(kX p0).bind fun n3=>bif n2==0 then IR else (kX p1).bind fun n4=>bif n2==0 then IR else (yA (!((PP (p0<0))==(PP (p1<0))),0,aa .u64 (v6 n3 n2)) 0 (aa .u64 (v6 n4 n2))).bind fun a5=>If a5
def apM:bD:=⟨au.cons (Arg.int .i64) (au.one (Arg.int .i64)),Arg.cw (au.cons (Arg.agg (cI.row iu)) (au.one (Arg.int .i64))),fun a=>w5 a.1 a.2,.pure,NE⟩
theorem adM:aF aP 276 apM:=Oc acC aB [(166,adr),(165,alG),(294,apL)] ⟨Kf,Q9,adL,trivial⟩
def yB (p0:Int×Int×Int) (p1:Int×Int×Int):Option ((Int×Int)×Int):=(pz p0 p1 (0,1)).bind fun n0=>bif n0 !=0 then If ((0,0),n0) else bif p0.2.2==p1.2.2 then If ((0,0),6) else (w5 (aa .i64 (p0.2.1-p1.2.1)) (aa .i64 (p1.2.2-p0.2.2))).bind fun a1=>If a1
def apN:bD:=⟨au.cons (Arg.agg (cI.row ek)) (au.one (Arg.agg (cI.row ek))),Arg.cw (au.cons (Arg.agg (cI.row iu)) (au.one (Arg.int .i64))),fun a=>yB a.1 a.2,.pure,NE⟩
theorem adN:aF aP 239 apN:=Oc acf aB [(227,adJ),(276,apM)] ⟨Km,adM,trivial⟩
def rT (p0:Int×Int×Int) (p1:Int×Int×Int) (p2:Int×Int):Option ((Int×Int)×Bool×Int):=(pz p0 p1 p2).bind fun n0=>bif n0 !=0 then If ((0,0),NE,n0) else (lO p1 p0 p2).bind fun n1=>bif PP (0<n1) then If (p2,M2,0) else bif PP (p1.2.2<=p0.2.2) then If ((0,0),NE,0) else (yB p0 p1).bind fun a2=>If (a2.1,a2.2==0,a2.2)
def apO:bD:=⟨au.cons (Arg.agg (cI.row ek)) (au.cons (Arg.agg (cI.row ek)) (au.one (Arg.agg (cI.row iu)))),Arg.cw (au.cons (Arg.agg (cI.row iu)) (au.cons Arg.bool (au.one (Arg.int .i64)))),fun a=>rT a.1 a.2.1 a.2.2,.pure,NE⟩
theorem adO:aF aP 184 apO:=Oc abH aB [(227,adJ),(228,alK),(239,apN)] ⟨Km,Rc,adN,trivial⟩
def pA (p0:Field) (p1:Int×Int) (p2:Int×Int):Option ((Int×Int)×Bool×Int):=(iX p0 p1.2).bind fun a0=>(iX p0 p1.1).bind fun a1=>(rT a0 a1 p2).bind fun a2=>If a2
def adP:bD:=⟨au.cons (Arg.agg bQ) (au.cons (Arg.agg (cI.row iu)) (au.one (Arg.agg (cI.row iu)))),Arg.cw (au.cons (Arg.agg (cI.row iu)) (au.cons Arg.bool (au.one (Arg.int .i64)))),fun a=>pA a.1 a.2.1 a.2.2,.pure,NE⟩
theorem Kn:aF aP 128 adP:=Oc aa2 aB [(185,adI),(184,apO)] ⟨Kl,adO,trivial⟩
def cS (s:Zt7):Option (Step Zt7 aoO):=bif PP (s.2.2.2.1<s.2.2.1) then (aJ s.2.1 s.2.2.2.1).bind fun a0=>(pA (Field.mk s.2.2.2.2.2.2.1) a0.2 (s.2.2.2.2.1,s.2.2.2.2.2.1)).bind fun a1=>bif a1.2.2 !=0 then If (.done (.done 8)) else bif !a1.2.1 then If (.next (s.1,s.2.1,s.2.2.1,aa .i64 (s.2.2.2.1+1),s.2.2.2.2)) else bif (ut (F0s s.1))==0 then If (.done (.done 8)) else (aJ s.1 0).bind fun a2=>bif a2.1 !=a0.1 then If (.done (.done 8)) else (aJ s.1 0).bind fun a3=>bif PP (a3.2.1<0) then If (.done (.done 8)) else bif PP (200<=a3.2.1) then If (.done (.done 8)) else (aJ s.2.2.2.2.2.2.2.2.2.2.2.2.2.1 a3.2.1).bind fun n4=>bif PP (n4<0) then If (.done (.done 8)) else (aJ s.2.2.2.2.2.2.2.2.2.2.2.2.2.1 a3.2.1).bind fun n5=>(aJ s.2.2.2.2.2.2.2.2.2.2.2.2.1 n5).bind fun a6=>bif !((a6.1==a1.1.1)&&((a6.2.1==a1.1.2)&&((a6.2.2.1==a0.1)&&((a6.2.2.2.1==a3.2.1)&&(a6.2.2.2.2==a3.2.2))))) then If (.done (.done 8)) else (fW s.1 1 (ut (F0s s.1))).bind fun l7=>If (.next (l7,s.2.1,s.2.2.1,aa .i64 (s.2.2.2.1+1),s.2.2.2.2)) else bif PP (0<(ut (F0s s.1))) then If (.done (.done 8)) else If (.done (.done 0))
def eZ (s:aoN):Option aoO:=match s with |(a,b,d,e,f,g,h,i,j,k,l,m,n,o)=>bif PP (b<a) then (aJ o b).bind fun n0=>bif n0 !=0 then If (.done 8) else If (.next (a,aa .i64 (b+1),(d,e,f,g,h,i,j,k,l,m,n,o))) else bif (ut (F0s m)) !=200 then If (.done 8) else bif (ut (F0s l)) !=(ut (F0s n)) then If (.done 8) else ay cS (n,h,ut (F0s h),0,d,e,f,g,h,i,j,k,l,m,n)
def fT (p0:aM):Option Int:=(fS p0.ci).bind fun n0=>(db p0.ii).bind fun n1=>(px p0.af).bind fun n2=>(kA p0.ae).bind fun n3=>ay eZ (ut ([n0,n1,n2,n3].length),0,p0.ci.1,p0.ci.2,p0.ii.am,p0.af.aN,p0.af.ce,p0.ae.ai.aA,p0.ae.ai.be,p0.ae.ai.bi,p0.ae.bv,p0.ae.aq,p0.io,[n0,n1,n2,n3])
def c74:bD:=⟨au.one (Arg.agg bY),Arg.int .i64,fun a=>fT a,.pure,NE⟩
theorem Gh:aF aP 74 c74:=Oc akX aB [(106,Kg),(57,c57),(126,adt),(127,VB),(128,adP)] ⟨uq,A2,Kh,EE,Kn,trivial⟩
def rj (p0:Int):Option Bool:=bif PP ((-1)<=p0) then If (PP (p0<=65535)) else If NE
def apP:bD:=⟨au.one (Arg.int .i64),Arg.bool,fun a=>rj a,.pure,NE⟩
theorem adQ:aF aP 131 apP:=Oc aa3 aB [] trivial
def gX (p0:bA) (p1:Int):Option Int:=bif PP (0<=(aa .i64 (p1- (ut (F0s p0.iH))))) then (aJ p0.aI (aa .i64 (p1- (ut (F0s p0.iH))))).bind fun n0=>If n0 else (aJ p0.iH p1).bind fun n1=>If n1
def alL:bD:=⟨au.cons (Arg.agg hU) (au.one (Arg.int .i64)),Arg.int .i64,fun a=>gX a.1 a.2,.pure,NE⟩
theorem Re:aF aP 132 alL:=Oc aa4 aB [] trivial
def hZ (s:((List Int)×Int×Int×(List Int)×(List Int))):Option (Step ((List Int)×Int×Int×(List Int)×(List Int)) aoT):=bif PP (s.2.2.1<s.2.1) then (aJ s.1 s.2.2.1).bind fun n0=>(gX (bA.mk s.2.2.2.1 s.2.2.2.2) (aa .i64 ((aa .i64 (2*s.2.2.1))+1))).bind fun n1=>(gX (bA.mk s.2.2.2.1 s.2.2.2.2) (aa .i64 ((aa .i64 (2*s.2.2.1))+2))).bind fun n2=>bif n0 !=n1 then bif n0 !=n2 then If (.done (.done (.done 8))) else bif PP (n0<0) then bif PP (0<=(if n2>n1 then n2 else n1)) then If (.done (.done (.done 8))) else If (.next (s.1,s.2.1,aa .i64 (s.2.2.1+1),s.2.2.2)) else If (.next (s.1,s.2.1,aa .i64 (s.2.2.1+1),s.2.2.2)) else bif PP (n0<0) then bif PP (0<=(if n2>n1 then n2 else n1)) then If (.done (.done (.done 8))) else If (.next (s.1,s.2.1,aa .i64 (s.2.2.1+1),s.2.2.2)) else If (.next (s.1,s.2.1,aa .i64 (s.2.2.1+1),s.2.2.2)) else If (.done (.done (.done 0)))
def ia (s:acR):Option aoT:=bif PP (s.2.2.1<s.2.1) then (aJ s.1 s.2.2.1).bind fun n0=>(rj n0).bind fun b1=>bif !b1 then bif !(!(PP (0<=s.2.2.1))) then If (.done (.done 8)) else ay hZ (s.2.2.2.2.1,ut (F0s s.2.2.2.2.1),0,s.2.2.2.1,s.2.2.2.2.1) else If (.next (s.1,s.2.1,aa .i64 (s.2.2.1+1),s.2.2.2)) else ay hZ (s.2.2.2.2.1,ut (F0s s.2.2.2.2.1),0,s.2.2.2.1,s.2.2.2.2.1)
def mj (s:acR):Option aoS:=bif PP (s.2.2.1<s.2.1) then (aJ s.1 s.2.2.1).bind fun n0=>bif !(!(qA NE s.2.2.2.2.2 n0)) then bif !(!(PP (0<=s.2.2.1))) then If (.done 8) else ay ia (s.2.2.2.1,ut (F0s s.2.2.2.1),0,s.2.2.2.1,s.2.2.2.2.1,o3 s.2.2.2.2.2 n0 (PP (0<=n0))) else If (.next (s.1,s.2.1,aa .i64 (s.2.2.1+1),s.2.2.2.1,s.2.2.2.2.1,o3 s.2.2.2.2.2 n0 (PP (0<=n0)))) else ay ia (s.2.2.2.1,ut (F0s s.2.2.2.1),0,s.2.2.2)
def mJ (p0:bA):Option Int:=bif PP ((ut (F0s p0.aI))<1) then If 8 else bif PP (64<(ut (F0s p0.aI))) then If 8 else bif (ut (F0s p0.iH)) !=(aa .i64 ((ut (F0s p0.aI)) -1)) then If 8 else ay mj (p0.aI,ut (F0s p0.aI),0,p0.aI,p0.iH,o3 [] (-1) NE)
def c75:bD:=⟨au.one (Arg.agg hU),Arg.int .i64,fun a=>mJ a,.pure,NE⟩
theorem alM:aF aP 75 c75:=aF.of akY (cx:=(iV aB [(131,apP),(132,alL)] [] [(129,U9),(130,SC),(187,O6),(83,X'),(188,SD),(186,U')] [])) rfl (gJ.make ⟨adQ,Re,trivial⟩ trivial ⟨QL,J1,Ez,Dc,J3,QQ,trivial⟩) (fun a=>by kernel_rfl)
def sS (p0:Int) (p1:Int×Int×Int):Option Bool:=If (p0==p1.1)
def c79:bD:=⟨au.cons (Arg.int .i64) (au.one (Arg.agg (cI.row ek))),Arg.bool,fun a=>sS a.1 a.2,.pure,NE⟩
theorem alN:aF aP 79 c79:=Oc ak2 aB [] trivial
def cu (s:(cC×(List Int)×Int×Int)):Option (Step (cC×(List Int)×Int×Int) Bool):=bif PP (s.2.2.2<s.2.2.1) then (aJ s.2.1 s.2.2.2).bind fun n0=>(aJ s.1 s.2.2.2).bind fun a1=>(sS n0 a1).bind fun b2=>bif !b2 then If (.done NE) else If (.next (s.1,s.2.1,s.2.2.1,aa .i64 (s.2.2.2+1))) else If (.done M2)
def cJ (p0:List Int) (p1:List (Int×Int×Int)) (_:Unit):Option Bool:=bif (ut (F0s p0)) !=(ut (F0s p1)) then If NE else ay cu (p1,p0,ut (F0s p0),0)
def VC:bD:=⟨au.cons (Arg.sl ki) (au.cons (Arg.sl ek) (au.one (Arg.eV 79 au.nil))),Arg.bool,fun a=>cJ a.1 a.2.1 a.2.2,.pure,NE⟩
theorem SS:aF aP 78 VC:=Oc ak1 aB [(79,c79)] ⟨alN,trivial⟩
def uX (p0:Field) (p1:Int×Int):Option Int:=(db p0).bind fun n0=>bif n0 !=0 then If n0 else (fS p1).bind fun n1=>If n1
def apQ:bD:=⟨au.cons (Arg.agg bQ) (au.one (Arg.agg (cI.row iu))),Arg.int .i64,fun a=>uX a.1 a.2,.pure,NE⟩
theorem adR:aF aP 141 apQ:=Oc aa8 aB [(57,c57),(106,Kg)] ⟨A2,uq,trivial⟩
def sU (p0:Int×Int×Int) (p1:Int):Option Int:=(eG p0.1 p1).bind fun n0=>If n0
def apR:bD:=⟨au.cons (Arg.agg (cI.row ek)) (au.one (Arg.int .i64)),Arg.int .i64,fun a=>sU a.1 a.2,.pure,NE⟩
theorem adS:aF aP 246 apR:=Oc ach aB [(111,Mo)] ⟨wZ,trivial⟩
def gY (s:HF):Option Vo:=bif PP (s.2.2.2.1<s.2.2.2.2) then (aJ s.1 (aa .i64 (nS .u64 (aa .u64 (aa .i64 (s.2.2.2.1+s.2.2.2.2))) 1))).bind fun a0=>(sU a0 s.2.1).bind fun n1=>bif PP (n1<0) then If (.next (s.1,s.2.1,s.2.2.1,aa .i64 ((aa .i64 (nS .u64 (aa .u64 (aa .i64 (s.2.2.2.1+s.2.2.2.2))) 1))+1),s.2.2.2.2)) else If (.next (s.1,s.2.1,s.2.2.1,s.2.2.2.1,aa .i64 (nS .u64 (aa .u64 (aa .i64 (s.2.2.2.1+s.2.2.2.2))) 1))) else bif PP (s.2.2.2.1<s.2.2.1) then (aJ s.1 s.2.2.2.1).bind fun a2=>(sU a2 s.2.1).bind fun n3=>If (.done (s.2.2.2.1,n3==0)) else If (.done (s.2.2.2.1,NE))
def cX (p0:List (Int×Int×Int)) (p1:Int) (_:Unit):Option (Int×Bool):=ay gY (p0,p1,ut (F0s p0),0,ut (F0s p0))
def Mr:bD:=⟨au.cons (Arg.sl ek) (au.cons (Arg.int .i64) (au.one (Arg.eV 246 au.nil))),Arg.cw (au.cons (Arg.int .i64) (au.one Arg.bool)),fun a=>cX a.1 a.2.1 a.2.2,.pure,NE⟩
theorem Ms:aF aP 109 Mr:=Oc J0 aB [(246,apR)] ⟨adS,trivial⟩
def iY (p0:Field) (p1:Int):Option (Int×Bool):=(cX p0.am p1 ()).bind fun a0=>If a0
def alO:bD:=⟨au.cons (Arg.agg bQ) (au.one (Arg.int .i64)),Arg.cw (au.cons (Arg.int .i64) (au.one Arg.bool)),fun a=>iY a.1 a.2,.pure,NE⟩
theorem Rf:aF aP 203 alO:=Oc abL aB [(109,Mr)] ⟨Ms,trivial⟩
def mn (s:((List Int)×Int×Int×cC)):Option (Step ((List Int)×Int×Int×cC) Bool):=bif PP (s.2.2.1<s.2.1) then (aJ s.1 s.2.2.1).bind fun n0=>(iY (Field.mk s.2.2.2) n0).bind fun a1=>bif a1.2 then If (.next (s.1,s.2.1,aa .i64 (s.2.2.1+1),s.2.2.2)) else bif !(n0==(-1)) then If (.done (!(PP (0<=s.2.2.1)))) else If (.next (s.1,s.2.1,aa .i64 (s.2.2.1+1),s.2.2.2)) else If (.done (!(PP (0<=(-1)))))
def p4 (p0:Field) (p1:List Int):Option Bool:=ay mn (p1,ut (F0s p1),0,p0.am)
def apT:bD:=⟨au.cons (Arg.agg bQ) (au.one (Arg.sl ki)),Arg.bool,fun a=>p4 a.1 a.2,.pure,NE⟩
theorem adT:aF aP 142 apT:=aF.of aa9 (cx:=(iV aB [(203,alO)] [] [(130,SC),(187,O6),(83,X'),(188,SD),(202,Zo)] [])) rfl (gJ.make ⟨Rf,trivial⟩ trivial ⟨J1,Ez,Dc,J3,abK,trivial⟩) (fun a=>by kernel_rfl)
def oC (p0:Int×Int×Int) (p1:Int×Int×Int) (p2:Int×Int):Option (Bool×Int):=(pz p0 p1 p2).bind fun n0=>bif n0 !=0 then If (NE,n0) else (lO p0 p1 p2).bind fun n1=>If (PP (0<n1),0)
def apU:bD:=⟨au.cons (Arg.agg (cI.row ek)) (au.cons (Arg.agg (cI.row ek)) (au.one (Arg.agg (cI.row iu)))),Arg.cw (au.cons Arg.bool (au.one (Arg.int .i64))),fun a=>oC a.1 a.2.1 a.2.2,.pure,NE⟩
theorem adU:aF aP 172 apU:=Oc abx aB [(227,adJ),(228,alK)] ⟨Km,Rc,trivial⟩
def nL (p0:Field) (p1:Int×Int) (p2:Int) (p3:Int):Option Int:=bif PP ((if p3<p2 then p3 else p2)<0) then If (if p3>p2 then p3 else p2) else (iY p0 p2).bind fun a0=>(iY p0 p3).bind fun a1=>(aJ p0.am a0.1).bind fun a2=>(aJ p0.am a1.1).bind fun a3=>(oC a2 a3 p1).bind fun a4=>bif a4.1 then If p2 else If p3
def apV:bD:=⟨au.cons (Arg.agg bQ) (au.cons (Arg.agg (cI.row iu)) (au.cons (Arg.int .i64) (au.one (Arg.int .i64)))),Arg.int .i64,fun a=>nL a.1 a.2.1 a.2.2.1 a.2.2.2,.pure,NE⟩
theorem adV:aF aP 143 apV:=Oc aa' aB [(203,alO),(172,apU)] ⟨Rf,adU,trivial⟩
def De (s:SK):Option (Step SK (bA×Int)):=bif PP (0<=s.1) then (gX (bA.mk s.2.2.2.2.1 s.2.2.2.2.2) (aa .i64 ((aa .i64 (2*s.1))+1))).bind fun n0=>(gX (bA.mk s.2.2.2.2.1 s.2.2.2.2.2) (aa .i64 ((aa .i64 (2*s.1))+2))).bind fun n1=>(nL (Field.mk s.2.1) (s.2.2.1,s.2.2.2.1) n0 n1).bind fun n2=>(aJ s.2.2.2.2.2 s.1).bind fun _=>If (.next (aa .i64 (s.1-1),s.2.1,s.2.2.1,s.2.2.2.1,s.2.2.2.2.1,cj s.2.2.2.2.2 s.1 n2)) else If (.done (bA.mk s.2.2.2.2.1 s.2.2.2.2.2,0))
def ib (s:SK):Option (Step SK aoZ):=bif PP (0<=s.1) then (gX (bA.mk s.2.2.2.2.1 s.2.2.2.2.2) (aa .i64 ((aa .i64 (2*s.1))+1))).bind fun n0=>(gX (bA.mk s.2.2.2.2.1 s.2.2.2.2.2) (aa .i64 ((aa .i64 (2*s.1))+2))).bind fun n1=>(nL (Field.mk s.2.1) (s.2.2.1,s.2.2.2.1) n0 n1).bind fun n2=>(aJ s.2.2.2.2.2 s.1).bind fun _=>If (.next (aa .i64 (s.1-1),s.2.1,s.2.2.1,s.2.2.2.1,s.2.2.2.2.1,cj s.2.2.2.2.2 s.1 n2)) else If (.done (.done (bA.mk s.2.2.2.2.1 s.2.2.2.2.2,0)))
def mq (c0:Int) (c1:(List Int)) (s:aoY):Option aoZ:=bif PP (s.2.2.1<s.2.1) then (aJ s.1 s.2.2.1).bind fun n0=>bif !(!(qA NE s.2.2.2.2.2.2 n0)) then bif !(!(PP (0<=s.2.2.1))) then If (.done (bA.mk [] [],14)) else bif c0 !=0 then If (.done (bA.mk [] [],c0)) else (bP c1).bind fun l1=>bif (aa .i64 ((ut (F0s c1)) -1))==(aa .i64 ((ut (F0s c1)) -1)) then (sF (aa .i64 ((ut (F0s c1)) -1)) (0:Int)).bind fun l2=>ay ib (aa .i64 ((ut (F0s l2)) -1),s.2.2.2.1,s.2.2.2.2.1,s.2.2.2.2.2.1,l1,l2) else IR else If (.next (s.1,s.2.1,aa .i64 (s.2.2.1+1),s.2.2.2.1,s.2.2.2.2.1,s.2.2.2.2.2.1,o3 s.2.2.2.2.2.2 n0 (PP (0<=n0)))) else bif c0 !=0 then If (.done (bA.mk [] [],c0)) else (bP c1).bind fun l3=>bif (aa .i64 ((ut (F0s c1)) -1))==(aa .i64 ((ut (F0s c1)) -1)) then (sF (aa .i64 ((ut (F0s c1)) -1)) (0:Int)).bind fun l4=>ay ib (aa .i64 ((ut (F0s l4)) -1),s.2.2.2.1,s.2.2.2.2.1,s.2.2.2.2.2.1,l3,l4) else IR
def mK (p0:Field) (p1:Int×Int) (p2:List Int):Option (bA×Int):=(uX p0 p1).bind fun n0=>bif n0 !=0 then bif n0 !=0 then If (bA.mk [] [],n0) else (bP p2).bind fun l1=>bif (aa .i64 ((ut (F0s p2)) -1))==(aa .i64 ((ut (F0s p2)) -1)) then (sF (aa .i64 ((ut (F0s p2)) -1)) (0:Int)).bind fun l2=>ay De (aa .i64 ((ut (F0s l2)) -1),p0.am,p1.1,p1.2,l1,l2) else IR else bif PP ((ut (F0s p2))<1) then If (bA.mk [] [],2) else bif PP (64<(ut (F0s p2))) then If (bA.mk [] [],2) else (p4 p0 p2).bind fun b3=>bif !b3 then If (bA.mk [] [],6) else ay (mq n0 p2) (p2,ut (F0s p2),0,p0.am,p1.1,p1.2,o3 [] (-1) NE)
def c85:bD:=⟨au.cons (Arg.agg bQ) (au.cons (Arg.agg (cI.row iu)) (au.one (Arg.sl ki))),Arg.cw (au.cons (Arg.agg hU) (au.one (Arg.int .i64))),fun a=>mK a.1 a.2.1 a.2.2,.mz,NE⟩
theorem VD:aF aP 85 c85:=aF.of ak7 (cx:=(iV aB [(141,apQ),(142,apT),(32,bD.clone ki),(132,alL),(143,apV)] [] [(129,U9),(130,SC),(187,O6),(83,X'),(188,SD),(186,U')] [])) rfl (gJ.make ⟨adR,adT,mf,Re,adV,trivial⟩ trivial ⟨QL,J1,Ez,Dc,J3,QQ,trivial⟩) (fun a=>by kernel_rfl)
def HG (p0:Int) (p1:bA):Option Int:=bif PP (p0<(ut (F0s p1.iH))) then (aJ p1.iH p0).bind fun n0=>If n0 else (aJ p1.aI (aa .i64 (p0- (ut (F0s p1.iH))))).bind fun n1=>If n1
def apW:bD:=⟨au.cons (Arg.int .i64) (au.one (Arg.ref hU)),Arg.int .i64,fun a=>HG a.1 a.2,.pure,NE⟩
theorem adW:aF aP 135 apW:=Oc QM aB [] trivial
def lP (s:((List Int)×Int×Int×(List Int)×(List Int)×oX)):Option (Step ((List Int)×Int×Int×(List Int)×(List Int)×oX) (bA×oX)):=match s with |(a,b,d,e,f,g)=>bif PP (d<b) then (aJ a d).bind fun n0=>bif PP ((aa .i64 ((aa .i64 (2*d))+1))<(ut (F0s f))) then (aJ f (aa .i64 ((aa .i64 (2*d))+1))).bind fun n1=>bif (F0s g)==(F0s g) then bif PP ((aa .i64 ((aa .i64 (2*d))+2))<(ut (F0s f))) then (aJ f (aa .i64 ((aa .i64 (2*d))+2))).bind fun n2=>bif (F0s g)==(F0s g) then bif PP (0<=n1) then bif PP (0<=n2) then (bo g [(aa .i64 ((aa .i64 (n1+n2)) -n0),n0)]).bind fun l3=>If (.next (a,b,aa .i64 (d+1),e,f,l3)) else If (.next (a,b,aa .i64 (d+1),(e,f,g))) else If (.next (a,b,aa .i64 (d+1),(e,f,g))) else IR else (aJ e (aa .i64 ((aa .i64 ((aa .i64 (2*d))+2)) - (ut (F0s f))))).bind fun n4=>bif (F0s g)==(F0s g) then bif PP (0<=n1) then bif PP (0<=n4) then (bo g [(aa .i64 ((aa .i64 (n1+n4)) -n0),n0)]).bind fun l5=>If (.next (a,b,aa .i64 (d+1),e,f,l5)) else If (.next (a,b,aa .i64 (d+1),(e,f,g))) else If (.next (a,b,aa .i64 (d+1),(e,f,g))) else IR else IR else (aJ e (aa .i64 ((aa .i64 ((aa .i64 (2*d))+1)) - (ut (F0s f))))).bind fun n6=>bif (F0s g)==(F0s g) then bif PP ((aa .i64 ((aa .i64 (2*d))+2))<(ut (F0s f))) then (aJ f (aa .i64 ((aa .i64 (2*d))+2))).bind fun n7=>bif (F0s g)==(F0s g) then bif PP (0<=n6) then bif PP (0<=n7) then (bo g [(aa .i64 ((aa .i64 (n6+n7)) -n0),n0)]).bind fun l8=>If (.next (a,b,aa .i64 (d+1),e,f,l8)) else If (.next (a,b,aa .i64 (d+1),(e,f,g))) else If (.next (a,b,aa .i64 (d+1),(e,f,g))) else IR else (aJ e (aa .i64 ((aa .i64 ((aa .i64 (2*d))+2)) - (ut (F0s f))))).bind fun n9=>bif (F0s g)==(F0s g) then bif PP (0<=n6) then bif PP (0<=n9) then (bo g [(aa .i64 ((aa .i64 (n6+n9)) -n0),n0)]).bind fun l10=>If (.next (a,b,aa .i64 (d+1),e,f,l10)) else If (.next (a,b,aa .i64 (d+1),(e,f,g))) else If (.next (a,b,aa .i64 (d+1),(e,f,g))) else IR else IR else If (.done (bA.mk e f,g))
def qK (p0:Field) (p1:Int×Int) (p2:List Int):Option (bA×oX):=(mK p0 p1 p2).bind fun a0=>ay lP (a0.1.iH,ut (F0s a0.1.iH),0,a0.1.aI,a0.1.iH,[])
def c80:bD:=⟨au.cons (Arg.agg bQ) (au.cons (Arg.agg (cI.row iu)) (au.one (Arg.sl ki))),Arg.cw (au.cons (Arg.agg hU) (au.one (Arg.sl iu))),fun a=>qK a.1 a.2.1 a.2.2,.mz,NE⟩
theorem VE:aF aP 80 c80:=aF.of ak3 (cx:=(iV aB [(85,c85),(135,apW)] [] [(135,YA)] [])) rfl (gJ.make ⟨VD,adW,trivial⟩ trivial ⟨QM,trivial⟩) (fun a=>by kernel_rfl)
def jw (s:((List Int)×(List Int)×Int×Int)):Option (Step ((List Int)×(List Int)×Int×Int) Bool):=bif PP (s.2.2.2<s.2.2.1) then (aJ s.1 s.2.2.2).bind fun n0=>(aJ s.2.1 s.2.2.2).bind fun n1=>bif n0 !=n1 then If (.done NE) else If (.next (s.1,s.2.1,s.2.2.1,aa .i64 (s.2.2.2+1))) else If (.done M2)
def mr (p0:List Int) (p1:List Int):Option Bool:=bif (ut (F0s p0)) !=(ut (F0s p1)) then If NE else ay jw (p0,p1,ut (F0s p0),0)
def c81:bD:=⟨au.cons (Arg.sl ki) (au.one (Arg.sl ki)),Arg.bool,fun a=>mr a.1 a.2,.pure,NE⟩
theorem alP:aF aP 81 c81:=Oc ak4 aB [] trivial
def iZ (s:(oX×Int×Int×Int×Int)):Option (Step (oX×Int×Int×Int×Int) Int):=bif PP (s.2.2.1<s.2.1) then (aJ s.1 s.2.2.1).bind fun a0=>bif (s.2.2.2.1==a0.1)&&(s.2.2.2.2==a0.2) then If (.done s.2.2.1) else If (.next (s.1,s.2.1,aa .i64 (s.2.2.1+1),s.2.2.2)) else If (.done (-1))
def oD (p0:List (Int×Int)) (p1:Int×Int):Option Int:=ay iZ (p0,ut (F0s p0),0,p1)
def apX:bD:=⟨au.cons (Arg.sl iu) (au.one (Arg.agg (cI.row iu))),Arg.int .i64,fun a=>oD a.1 a.2,.pure,NE⟩
theorem adX:aF aP 200 apX:=Oc abJ aB [] trivial
def eA (p0:List (Int×Int)) (p1:Int×Int):Option Bool:=(oD p0 p1).bind fun n0=>If (PP (0<=n0))
def VF:bD:=⟨au.cons (Arg.sl iu) (au.one (Arg.agg (cI.row iu))),Arg.bool,fun a=>eA a.1 a.2,.pure,NE⟩
theorem EF:aF aP 137 VF:=Oc aa5 aB [(200,apX)] ⟨adX,trivial⟩
def Ae (p0:Int×Int×Int) (p1:List (Int×Int)):Option Bool:=(eA p1 p0.2).bind fun b0=>If (!b0)
def apY:bD:=⟨au.cons (Arg.agg (cI.row ek)) (au.one (Arg.ref (cI.sl iu))),Arg.bool,fun a=>Ae a.1 a.2,.pure,NE⟩
theorem adY:aF aP 136 apY:=Oc QN aB [(137,VF)] ⟨EF,trivial⟩
def lr (s:(cC×oX×Int×Int)):Option (Step (cC×oX×Int×Int) Int):=bif PP (s.2.2.2<s.2.2.1) then (aJ s.1 s.2.2.2).bind fun a0=>(Ae a0 s.2.1).bind fun b1=>bif b1 then If (.done s.2.2.2) else If (.next (s.1,s.2.1,s.2.2.1,aa .i64 (s.2.2.2+1))) else If (.done (-1))
def gP (p0:List (Int×Int×Int)) (p1:oX):Option Int:=ay lr (p0,p1,ut (F0s p0),0)
def Mt:bD:=⟨au.cons (Arg.sl ek) (au.one (Arg.eV 136 (au.one (Arg.ref (cI.sl iu))))),Arg.int .i64,fun a=>gP a.1 a.2,.pure,NE⟩
theorem Mu:aF aP 201 Mt:=aF.of J4 (cx:=(iV aB [(136,apY),(137,VF)] [] [(136,YC)] [])) rfl (gJ.make ⟨adY,EF,trivial⟩ trivial ⟨QN,trivial⟩) (fun a=>by kernel_rfl)
def gd (p0:List (Int×Int×Int)) (p1:oX):Option Bool:=(gP p0 p1).bind fun n0=>If (PP (0<=n0))
def Mv:bD:=⟨au.cons (Arg.sl ek) (au.one (Arg.eV 136 (au.one (Arg.ref (cI.sl iu))))),Arg.bool,fun a=>gd a.1 a.2,.pure,NE⟩
theorem Mw:aF aP 138 Mv:=Oc J2 aB [(201,Mt)] ⟨Mu,trivial⟩
def yC (p0:aM) (p1:List (Int×Int)):Option Bool:=bif (ut (F0s p1))==(ut (F0s p0.af.ce)) then (gd p0.af.ce p1).bind fun b0=>If (!b0) else If NE
def c82:bD:=⟨au.cons (Arg.agg bY) (au.one (Arg.sl iu)),Arg.bool,fun a=>yC a.1 a.2,.pure,NE⟩
theorem alQ:aF aP 82 c82:=Oc ak5 aB [(138,Mv)] ⟨Mw,trivial⟩
def jJ (p0:Int):Option Bool:=If (PP (p0<0))
def c76:bD:=⟨au.one (Arg.int .i64),Arg.bool,fun a=>jJ a,.pure,NE⟩
theorem alR:aF aP 76 c76:=Oc akZ aB [] trivial
def bj (c0:(List Int)) (s:SJ):Option ao6:=bif PP (s.2.1<(ut (F0s s.2.2))) then (aJ s.2.2 s.2.1).bind fun n0=>(jJ n0).bind fun b1=>bif !b1 then (aJ s.2.2 s.1).bind fun _=>If (.next (aa .i64 (s.1+1),aa .i64 (s.2.1+1),cj s.2.2 s.1 n0)) else If (.next (s.1,aa .i64 (s.2.1+1),s.2.2)) else bif ((PP (0<=s.1))&&(PP (s.1<=(ut (F0s s.2.2)))))&&(PP ((ut (F0s s.2.2))<=(ut (F0s s.2.2)))) then bif EQ (((ut (F0s s.2.2)).toNat) -s.1.toNat) 0 then (fW s.2.2 0 s.1).bind fun _=>bif (F0s s.2.2)==(F0s c0) then If (.done (.done (s.1.toNat,F0s s.2.2,s.2.2))) else IR else bif (Do ((0+s.1.toNat)+(((ut (F0s s.2.2)).toNat) -s.1.toNat)) (F0s s.2.2))&&(!NE) then (fW (fk s.2.2 (0+s.1.toNat) (ww (((ut (F0s s.2.2)).toNat) -s.1.toNat) 0)) 0 s.1).bind fun _=>bif ((fk s.2.2 (0+s.1.toNat) (ww (((ut (F0s s.2.2)).toNat) -s.1.toNat) 0)).length)==(F0s c0) then If (.done (.done (s.1.toNat,(fk s.2.2 (0+s.1.toNat) (ww (((ut (F0s s.2.2)).toNat) -s.1.toNat) 0)).length,fk s.2.2 (0+s.1.toNat) (ww (((ut (F0s s.2.2)).toNat) -s.1.toNat) 0)))) else IR else IR else IR
def bk (c0:(List Int)) (s:SJ):Option alm:=bif PP (s.2.1<s.1) then (aJ s.2.2 s.2.1).bind fun n0=>(jJ n0).bind fun b1=>bif b1 then bif (F0s s.2.2)==(F0s c0) then bif s.2.1==(-1) then bif (F0s s.2.2)==(F0s c0) then If (.done (F0s s.2.2,F0s s.2.2,s.2.2)) else IR else ay (bj c0) (s.2.1,aa .i64 (s.2.1+1),s.2.2) else IR else If (.next (s.1,aa .i64 (s.2.1+1),s.2.2)) else bif (F0s s.2.2)==(F0s c0) then bif (F0s s.2.2)==(F0s c0) then If (.done (F0s s.2.2,F0s s.2.2,s.2.2)) else IR else IR
def bN (a:(List Int)):Option (Nat×Nat×(List Int)):=ay (bk a) (ut (F0s a),0,a)
def VG:dS:=⟨[.l [.i .i64]],[.own 0 NE,.eV 76 [] []],[.arr [.i .i64] []],[.n,.n,.l [.i .i64]],.pre 0 0 0 NE,[.arr [.i .i64] []],fun a=>bN a⟩
theorem Mx:jr aP 34 VG:=jr.of Vh (wd:=M2) (cx:=(iV aB [(76,c76)] [] [(83,X')] [])) (gJ.make ⟨alR,trivial⟩ trivial ⟨Dc,trivial⟩) (fun a=>by kernel_rfl)
def kB (p0:bz):Option Int:=(fT p0.jp).bind fun n0=>bif n0 !=0 then If 8 else (mJ p0.kw).bind fun n1=>bif n1 !=0 then If 8 else bif (AJ .i64 (ut (F0s p0.kw.aI)) (aa .i64 ((ut (F0s p0.kw.aI)) -1))) !=0 then If 8 else (bP p0.kw.aI).bind fun l2=>(bN l2).bind fun a3=>(zg JF a3.1 a3.2.2).bind fun l4=>bif (F0s l4)==(F0s a3.2.2) then (cJ (l4.take a3.1) p0.jp.ii.am ()).bind fun b5=>bif !b5 then If 8 else (qK p0.jp.ii p0.jp.ci p0.kw.aI).bind fun a6=>(mr a6.1.iH p0.kw.iH).bind fun b7=>bif !b7 then If 8 else (yC p0.jp a6.2).bind fun b8=>bif !b8 then If 8 else If 0 else IR
def c31:bD:=⟨au.one (Arg.agg jG),Arg.int .i64,fun a=>kB a,.pure,NE⟩
theorem Pd:aF aP 31 c31:=aF.of akv (cx:=(iV aB [(74,c74),(75,c75),(32,bD.clone ki),(78,VC),(80,c80),(81,c81),(82,c82)] [(34,VG)] [(77,.srt OG)] [])) rfl (gJ.make ⟨Gh,alM,mf,SS,VE,alP,alQ,trivial⟩ ⟨Mx,trivial⟩ ⟨ak0,trivial⟩) (fun a=>by kernel_rfl)
def w8 (p0:Int×Int×Int) (p1:Int):Option Int:=(eG p0.1 p1).bind fun n0=>If n0
def apZ:bD:=⟨au.cons (Arg.agg (cI.row ek)) (au.one (Arg.int .i64)),Arg.int .i64,fun a=>w8 a.1 a.2,.pure,NE⟩
theorem adZ:aF aP 110 apZ:=Oc aaS aB [(111,Mo)] ⟨wZ,trivial⟩
def iA (s:HF):Option Vo:=bif PP (s.2.2.2.1<s.2.2.2.2) then (aJ s.1 (aa .i64 (nS .u64 (aa .u64 (aa .i64 (s.2.2.2.1+s.2.2.2.2))) 1))).bind fun a0=>(w8 a0 s.2.1).bind fun n1=>bif PP (n1<0) then If (.next (s.1,s.2.1,s.2.2.1,aa .i64 ((aa .i64 (nS .u64 (aa .u64 (aa .i64 (s.2.2.2.1+s.2.2.2.2))) 1))+1),s.2.2.2.2)) else If (.next (s.1,s.2.1,s.2.2.1,s.2.2.2.1,aa .i64 (nS .u64 (aa .u64 (aa .i64 (s.2.2.2.1+s.2.2.2.2))) 1))) else bif PP (s.2.2.2.1<s.2.2.1) then (aJ s.1 s.2.2.2.1).bind fun a2=>(w8 a2 s.2.1).bind fun n3=>If (.done (s.2.2.2.1,n3==0)) else If (.done (s.2.2.2.1,NE))
def dd (p0:List (Int×Int×Int)) (p1:Int) (_:Unit):Option (Int×Bool):=ay iA (p0,p1,ut (F0s p0),0,ut (F0s p0))
def My:bD:=⟨au.cons (Arg.sl ek) (au.cons (Arg.int .i64) (au.one (Arg.eV 110 au.nil))),Arg.cw (au.cons (Arg.int .i64) (au.one Arg.bool)),fun a=>dd a.1 a.2.1 a.2.2,.pure,NE⟩
theorem Mz:aF aP 109 My:=Oc J0 aB [(110,apZ)] ⟨adZ,trivial⟩
def jh (p0:Field) (p1:Int):Option (Int×Bool):=(dd p0.am p1 ()).bind fun a0=>If a0
def c59:bD:=⟨au.cons (Arg.agg bQ) (au.one (Arg.int .i64)),Arg.cw (au.cons (Arg.int .i64) (au.one Arg.bool)),fun a=>jh a.1 a.2,.pure,NE⟩
theorem VH:aF aP 59 c59:=Oc akQ aB [(109,My)] ⟨Mz,trivial⟩
def gG (p0:Field) (p1:Int×Int×Int):Option (Field×Int):=(db p0).bind fun n0=>bif n0 !=0 then If (Field.mk [],n0) else (kz p1).bind fun n1=>bif n1 !=0 then If (Field.mk [],n1) else (jh p0 p1.1).bind fun a2=>bif a2.2 then If (Field.mk [],14) else bif (ut (F0s p0.am))==64 then If (Field.mk [],18) else (bP p0.am).bind fun l3=>(tR l3 a2.1 [p1]).bind fun l4=>If (Field.mk l4,0)
def c23:bD:=⟨au.cons (Arg.agg bQ) (au.one (Arg.agg (cI.row ek))),Arg.cw (au.cons (Arg.agg bQ) (au.one (Arg.int .i64))),fun a=>gG a.1 a.2,.mz,NE⟩
theorem alS:aF aP 23 c23:=aF.of akt (cx:=(iV aB [(57,c57),(58,c58),(59,c59),(61,bD.clone ek)] [] [(60,.ins 3)] [])) rfl (gJ.make ⟨A2,Pc,VH,tZ,trivial⟩ trivial ⟨akR,trivial⟩) (fun a=>by kernel_rfl)
def jx (s:((List Int)×Int×Int×Int)):Option (Step ((List Int)×Int×Int×Int) Int):=bif PP (s.2.2.2<s.2.2.1) then (aJ s.1 s.2.2.2).bind fun n0=>bif s.2.1==n0 then If (.done s.2.2.2) else If (.next (s.1,s.2.1,s.2.2.1,aa .i64 (s.2.2.2+1))) else If (.done (-1))
def eK (p0:List Int) (p1:Int):Option Int:=ay jx (p0,p1,ut (F0s p0),0)
def c33:bD:=⟨au.cons (Arg.sl ki) (au.one (Arg.int .i64)),Arg.int .i64,fun a=>eK a.1 a.2,.pure,NE⟩
theorem Pe:aF aP 33 c33:=Oc akx aB [] trivial
def Eg (p0:Int) (p1:Int):Option (Int×Int):=If (aa .u32 (nS .u64 (aa .u64 ((aa .u64 p0)*(aa .u64 p1))) 32),aa .u32 (aa .u64 ((aa .u64 p0)*(aa .u64 p1))))
def ap0:bD:=⟨au.cons (Arg.int .u32) (au.one (Arg.int .u32)),Arg.cw (au.cons (Arg.int .u32) (au.one (Arg.int .u32))),fun a=>Eg a.1 a.2,.pure,NE⟩
theorem ad0:aF aP 139 ap0:=Oc aa6 aB [] trivial
def fa (p0:Int) (p1:Int):Option (Int×Int):=(eF p0 p1).bind fun a0=>If a0
def c84:bD:=⟨au.cons (Arg.int .u64) (au.one (Arg.int .u64)),Arg.cw (au.cons (Arg.int .u64) (au.one (Arg.int .u64))),fun a=>fa a.1 a.2,.pure,NE⟩
theorem VI:aF aP 84 c84:=Oc ak6 aB [(139,ap0),(140,adz)] ⟨ad0,Kj,trivial⟩
def aG (s:(Int×(List Int))):Option (Step (Int×(List Int)) (List Int)):=bif PP (s.1<(ut (F0s s.2))) then bif ((PP (0<=s.1))&&(PP (s.1<=(ut (F0s s.2)))))&&(PP ((ut (F0s s.2))<=(ut (F0s s.2)))) then (fW s.2 0 s.1).bind fun _=>bif ((s.2.take s.1.toNat).take (((ut (F0s s.2)).toNat) -s.1.toNat)).isEmpty then If (.next (aa .i64 (s.1+0),s.2)) else bif (Do ((0+s.1.toNat)+(((s.2.take s.1.toNat).take (((ut (F0s s.2)).toNat) -s.1.toNat)).length)) (F0s s.2))&&(!NE) then If (.next (aa .i64 (s.1+(ut (((s.2.take s.1.toNat).take (((ut (F0s s.2)).toNat) -s.1.toNat)).length))),fk s.2 (0+s.1.toNat) ((s.2.take s.1.toNat).take (((ut (F0s s.2)).toNat) -s.1.toNat)))) else IR else IR else If (.done s.2)
def bq (p0:List Int) (p1:Int):Option (List Int):=bif PP (p1<0) then IR else (fa (aa .u64 (ut (F0s p0))) (aa .u64 p1)).bind fun a0=>bif PP (0<a0.1) then IR else bif PP (9223372036854775807<a0.2) then IR else bif (aa .i64 a0.2)==(aa .i64 a0.2) then (sF (aa .i64 a0.2) (0:Int)).bind fun l1=>bif (p0.take (F0s l1)).isEmpty then ay aG (0,l1) else bif (Do (0+((p0.take (F0s l1)).length)) (F0s l1))&&(!NE) then ay aG (ut ((p0.take (F0s l1)).length),fk l1 0 (p0.take (F0s l1))) else IR else IR
def c36:bD:=⟨au.cons (Arg.sl ki) (au.one (Arg.int .i64)),Arg.sl ki,fun a=>bq a.1 a.2,.own,M2⟩
def VJ:bD:=⟨au.cons (Arg.sl ki) (au.one (Arg.int .i64)),Arg.sl ki,fun a=>bq a.1 a.2,.mz,NE⟩
theorem Ko:aF aP 36 c36:=Oc Vi aB [(84,c84)] ⟨VI,trivial⟩
theorem EG:aF aP 36 VJ:=Oc Vi aB [(84,c84)] ⟨VI,trivial⟩
def iB (s:ao5):Option (Step ao5 ao7):=match s with |(a,b,d,e,f,g,h,i,j,k,l)=>bif PP (j<i) then (aJ ((k.drop f).take g) j).bind fun n0=>bif PP (0<=n0) then bif n0 !=a then (bo l [(n0,a)]).bind fun l1=>If (.next (a,b,d,e,f,g,h,i,aa .i64 (j+1),k,l1)) else If (.next (a,b,d,e,f,g,h,i,aa .i64 (j+1),(k,l))) else If (.next (a,b,d,e,f,g,h,i,aa .i64 (j+1),(k,l))) else If (.done (.next (b,d,aa .i64 (e+1),(k,l))))
def oE (s:((List Int)×Int×Int×(List Int)×oX)):Option ao7:=bif PP (s.2.2.1<s.2.1) then (aJ s.1 s.2.2.1).bind fun n0=>bif ((PP (0<=(aa .i64 ((aa .i64 (2*s.2.2.1))+1))))&&(PP ((aa .i64 ((aa .i64 (2*s.2.2.1))+1))<=(aa .i64 ((aa .i64 (2*s.2.2.1))+3)))))&&(PP ((aa .i64 ((aa .i64 (2*s.2.2.1))+3))<=(ut (F0s s.2.2.2.1)))) then ay iB (n0,s.1,s.2.1,s.2.2.1,0+((aa .i64 ((aa .i64 (2*s.2.2.1))+1)).toNat),((aa .i64 ((aa .i64 (2*s.2.2.1))+3)).toNat) - ((aa .i64 ((aa .i64 (2*s.2.2.1))+1)).toNat),F0s s.2.2.2.1- ((aa .i64 ((aa .i64 (2*s.2.2.1))+1)).toNat),ut (((aa .i64 ((aa .i64 (2*s.2.2.1))+3)).toNat) - ((aa .i64 ((aa .i64 (2*s.2.2.1))+1)).toNat)),0,s.2.2.2) else IR else If (.done s.2.2.2.2)
def ur (p0:bA):Option oX:=(Se p0.iH p0.aI).bind fun l0=>ay oE (p0.iH,ut (F0s p0.iH),0,l0,[])
def c87:bD:=⟨au.one (Arg.agg hU),Arg.sl iu,fun a=>ur a,.mz,NE⟩
theorem alT:aF aP 87 c87:=aF.of ak9 (cx:=(iV aB [] [] [(147,.cat)] [])) rfl (gJ.make trivial trivial ⟨abc,trivial⟩) (fun a=>by kernel_rfl)
def j9 (p0:Field) (p1:Int):Option (Int×Int):=(db p0).bind fun n0=>bif n0 !=0 then If (0,n0) else (jh p0 p1).bind fun a1=>bif !a1.2 then If (0,6) else If (a1.1,0)
def c62:bD:=⟨au.cons (Arg.agg bQ) (au.one (Arg.int .i64)),Arg.cw (au.cons (Arg.int .i64) (au.one (Arg.int .i64))),fun a=>j9 a.1 a.2,.pure,NE⟩
theorem VK:aF aP 62 c62:=Oc akT aB [(57,c57),(59,c59)] ⟨A2,VH,trivial⟩
def sV (p0:Field) (p1:Int):Option ((Int×Int×Int)×Int):=(j9 p0 p1).bind fun a0=>bif a0.2 !=0 then If ((0,0,0),a0.2) else (aJ p0.am a0.1).bind fun a1=>If (a1,0)
def ap2:bD:=⟨au.cons (Arg.agg bQ) (au.one (Arg.int .i64)),Arg.cw (au.cons (Arg.agg (cI.row ek)) (au.one (Arg.int .i64))),fun a=>sV a.1 a.2,.pure,NE⟩
theorem ad1:aF aP 144 ap2:=Oc aba aB [(62,c62)] ⟨VK,trivial⟩
def sW (p0:aM):Option aM:=(bP p0.ii.am).bind fun l0=>(bP p0.af.ce).bind fun l1=>(bP p0.io).bind fun l2=>(bP p0.ae.bv).bind fun l3=>(bP p0.ae.aq).bind fun l4=>(bP p0.ae.ai.aA).bind fun l5=>(bP p0.ae.ai.be).bind fun l6=>(bP p0.ae.ai.bi).bind fun l7=>If (aM.mk p0.ci (Field.mk l0) (bF.mk p0.af.aN l1) (aL.mk (bg.mk l5 l6 l7) l3 l4) l2)
def ap3:bD:=⟨au.one (Arg.agg bY),Arg.agg bY,fun a=>sW a,.own,M2⟩
def afO:bD:=⟨au.one (Arg.agg bY),Arg.agg bY,fun a=>sW a,.mz,NE⟩
theorem ad2:aF aP 146 ap3:=Oc QO aB [(61,bD.clone ek),(209,bD.clone ek),(210,bD.clone ek),(211,bD.clone kv),(32,bD.clone ki),(212,bD.clone kb)] ⟨tZ,vQ,B1,sN,mf,sM,trivial⟩
theorem VL:aF aP 146 afO:=Oc QO aB [(61,bD.clone ek),(209,bD.clone ek),(210,bD.clone ek),(211,bD.clone kv),(32,bD.clone ki),(212,bD.clone kb)] ⟨tZ,vQ,B1,sN,mf,sM,trivial⟩
def qL (p0:Int×Int×Int) (p1:Int):Option Int:=(eG p0.1 p1).bind fun n0=>If n0
def ap4:bD:=⟨au.cons (Arg.agg (cI.row ek)) (au.one (Arg.int .i64)),Arg.int .i64,fun a=>qL a.1 a.2,.pure,NE⟩
theorem ad3:aF aP 291 ap4:=Oc acJ aB [(111,Mo)] ⟨wZ,trivial⟩
def aR (s:HF):Option Vo:=bif PP (s.2.2.2.1<s.2.2.2.2) then (aJ s.1 (aa .i64 (nS .u64 (aa .u64 (aa .i64 (s.2.2.2.1+s.2.2.2.2))) 1))).bind fun a0=>(qL a0 s.2.1).bind fun n1=>bif PP (n1<0) then If (.next (s.1,s.2.1,s.2.2.1,aa .i64 ((aa .i64 (nS .u64 (aa .u64 (aa .i64 (s.2.2.2.1+s.2.2.2.2))) 1))+1),s.2.2.2.2)) else If (.next (s.1,s.2.1,s.2.2.1,s.2.2.2.1,aa .i64 (nS .u64 (aa .u64 (aa .i64 (s.2.2.2.1+s.2.2.2.2))) 1))) else bif PP (s.2.2.2.1<s.2.2.1) then (aJ s.1 s.2.2.2.1).bind fun a2=>(qL a2 s.2.1).bind fun n3=>If (.done (s.2.2.2.1,n3==0)) else If (.done (s.2.2.2.1,NE))
def aQ (p0:List (Int×Int×Int)) (p1:Int) (_:Unit):Option (Int×Bool):=ay aR (p0,p1,ut (F0s p0),0,ut (F0s p0))
def MA:bD:=⟨au.cons (Arg.sl ek) (au.cons (Arg.int .i64) (au.one (Arg.eV 291 au.nil))),Arg.cw (au.cons (Arg.int .i64) (au.one Arg.bool)),fun a=>aQ a.1 a.2.1 a.2.2,.pure,NE⟩
theorem MB:aF aP 290 MA:=Oc acI aB [(291,ap4)] ⟨ad3,trivial⟩
def Df (p0:bF) (p1:Int):Option (Int×Int):=(px p0).bind fun n0=>bif n0 !=0 then If (0,n0) else (aQ p0.ce p1 ()).bind fun a1=>bif !a1.2 then If (0,6) else If (a1.1,0)
def ap5:bD:=⟨au.cons (Arg.agg iF) (au.one (Arg.int .i64)),Arg.cw (au.cons (Arg.int .i64) (au.one (Arg.int .i64))),fun a=>Df a.1 a.2,.pure,NE⟩
theorem ad4:aF aP 269 ap5:=Oc acv aB [(126,adt),(290,MA)] ⟨Kh,MB,trivial⟩
def eh (a:SL):Option (Nat×Nat×cC):=bif (((PP (0<=a.1))&&(PP (a.1<=a.2.1)))&&(PP (a.2.1<=(ut (F0s a.2.2)))))&&(PP ((ut (F0s a.2.2))<=(ut (F0s a.2.2)))) then bif a.1==a.2.1 then bif (F0s a.2.2)==(F0s a.2.2) then If (F0s a.2.2,F0s a.2.2,a.2.2) else IR else (fW a.2.2 0 a.1).bind fun _=>bif ((PP (0<=a.2.1))&&(PP (a.2.1<=(ut (F0s a.2.2)))))&&(PP ((ut (F0s a.2.2))<=(ut (F0s a.2.2)))) then bif ((a.2.2.drop (0+a.2.1.toNat)).take (((ut (F0s a.2.2)).toNat) -a.2.1.toNat)).isEmpty then bif ((PP (0<=(ut a.1.toNat)))&&(PP ((ut a.1.toNat)<=(ut (F0s a.2.2)))))&&(PP ((ut (F0s a.2.2))<=(ut (F0s a.2.2)))) then bif EQ (((ut (F0s a.2.2)).toNat) - ((ut a.1.toNat).toNat)) 0 then bif (F0s a.2.2)==(F0s a.2.2) then If (a.1.toNat,F0s a.2.2,a.2.2) else IR else bif (Do ((0+((ut a.1.toNat).toNat))+(((ut (F0s a.2.2)).toNat) - ((ut a.1.toNat).toNat))) (F0s a.2.2))&&(!NE) then bif ((fk a.2.2 (0+((ut a.1.toNat).toNat)) (ww (((ut (F0s a.2.2)).toNat) - ((ut a.1.toNat).toNat)) (0,0,0))).length)==(F0s a.2.2) then If (a.1.toNat,F0s a.2.2,fk a.2.2 (0+((ut a.1.toNat).toNat)) (ww (((ut (F0s a.2.2)).toNat) - ((ut a.1.toNat).toNat)) (0,0,0))) else IR else IR else IR else bif Do (a.1.toNat+(((a.2.2.drop (0+a.2.1.toNat)).take (((ut (F0s a.2.2)).toNat) -a.2.1.toNat)).length)) (F0s a.2.2) then bif (Do (a.1.toNat+(((a.2.2.drop (0+a.2.1.toNat)).take (((ut (F0s a.2.2)).toNat) -a.2.1.toNat)).length)) (F0s a.2.2))&&(!NE) then bif ((PP (0<=(ut (a.1.toNat+(((a.2.2.drop (0+a.2.1.toNat)).take (((ut (F0s a.2.2)).toNat) -a.2.1.toNat)).length)))))&&(PP ((ut (a.1.toNat+(((a.2.2.drop (0+a.2.1.toNat)).take (((ut (F0s a.2.2)).toNat) -a.2.1.toNat)).length)))<=(ut (F0s a.2.2)))))&&(PP ((ut (F0s a.2.2))<=(ut (F0s a.2.2)))) then bif EQ (((ut (F0s a.2.2)).toNat) - ((ut (a.1.toNat+(((a.2.2.drop (0+a.2.1.toNat)).take (((ut (F0s a.2.2)).toNat) -a.2.1.toNat)).length))).toNat)) 0 then bif ((fk a.2.2 a.1.toNat ((a.2.2.drop (0+a.2.1.toNat)).take (((ut (F0s a.2.2)).toNat) -a.2.1.toNat))).length)==(F0s a.2.2) then If (a.1.toNat+(((a.2.2.drop (0+a.2.1.toNat)).take (((ut (F0s a.2.2)).toNat) -a.2.1.toNat)).length),F0s a.2.2,fk a.2.2 a.1.toNat ((a.2.2.drop (0+a.2.1.toNat)).take (((ut (F0s a.2.2)).toNat) -a.2.1.toNat))) else IR else bif (Do ((0+((ut (a.1.toNat+(((a.2.2.drop (0+a.2.1.toNat)).take (((ut (F0s a.2.2)).toNat) -a.2.1.toNat)).length))).toNat))+(((ut (F0s a.2.2)).toNat) - ((ut (a.1.toNat+(((a.2.2.drop (0+a.2.1.toNat)).take (((ut (F0s a.2.2)).toNat) -a.2.1.toNat)).length))).toNat))) ((fk a.2.2 a.1.toNat ((a.2.2.drop (0+a.2.1.toNat)).take (((ut (F0s a.2.2)).toNat) -a.2.1.toNat))).length))&&(!NE) then bif ((fk (fk a.2.2 a.1.toNat ((a.2.2.drop (0+a.2.1.toNat)).take (((ut (F0s a.2.2)).toNat) -a.2.1.toNat))) (0+((ut (a.1.toNat+(((a.2.2.drop (0+a.2.1.toNat)).take (((ut (F0s a.2.2)).toNat) -a.2.1.toNat)).length))).toNat)) (ww (((ut (F0s a.2.2)).toNat) - ((ut (a.1.toNat+(((a.2.2.drop (0+a.2.1.toNat)).take (((ut (F0s a.2.2)).toNat) -a.2.1.toNat)).length))).toNat)) (0,0,0))).length)==(F0s a.2.2) then If (a.1.toNat+(((a.2.2.drop (0+a.2.1.toNat)).take (((ut (F0s a.2.2)).toNat) -a.2.1.toNat)).length),F0s a.2.2,fk (fk a.2.2 a.1.toNat ((a.2.2.drop (0+a.2.1.toNat)).take (((ut (F0s a.2.2)).toNat) -a.2.1.toNat))) (0+((ut (a.1.toNat+(((a.2.2.drop (0+a.2.1.toNat)).take (((ut (F0s a.2.2)).toNat) -a.2.1.toNat)).length))).toNat)) (ww (((ut (F0s a.2.2)).toNat) - ((ut (a.1.toNat+(((a.2.2.drop (0+a.2.1.toNat)).take (((ut (F0s a.2.2)).toNat) -a.2.1.toNat)).length))).toNat)) (0,0,0))) else IR else IR else IR else IR else IR else IR else IR
def VM:dS:=⟨[.i,.i,.l [.i .i64,.i .i64,.i .i64]],[.own 0 NE,.int .i64 0,.int .i64 0],[.arr [.i .i64,.i .i64,.i .i64] []],[.n,.n,.l [.i .i64,.i .i64,.i .i64]],.pre 0 0 0 NE,[.arr [.i .i64,.i .i64,.i .i64] []],fun a=>eh a⟩
theorem SU:jr aP 270 VM:=jr.of acw (wd:=M2) (cx:=(iV aB [] [] [] [])) (gJ.make trivial trivial trivial) (fun a=>by kernel_rfl)
def uu (p0:bF) (p1:Int):Option (bF×(Int×Int)×Int):=(Df p0 p1).bind fun a0=>bif a0.2 !=0 then If (bF.mk 0 [],(0,0),a0.2) else (bP p0.ce).bind fun l1=>(eh (a0.1,aa .i64 (a0.1+1),l1)).bind fun a2=>(aJ p0.ce a0.1).bind fun a3=>If (bF.mk p0.aN (a2.2.2.take a2.1),a3.2,0)
def ap6:bD:=⟨au.cons (Arg.agg iF) (au.one (Arg.int .i64)),Arg.cw (au.cons (Arg.agg iF) (au.cons (Arg.agg (cI.row iu)) (au.one (Arg.int .i64)))),fun a=>uu a.1 a.2,.mz,NE⟩
theorem ad5:aF aP 232 ap6:=aF.of ab8 (cx:=(iV aB [(269,ap5),(209,bD.clone ek)] [(270,VM)] [] [])) rfl (gJ.make ⟨ad4,vQ,trivial⟩ ⟨SU,trivial⟩ trivial) (fun a=>by kernel_rfl)
def kC (p0:aM):Option aM:=(bP p0.ii.am).bind fun l0=>(bP p0.af.ce).bind fun l1=>(bP p0.io).bind fun l2=>(bP p0.ae.bv).bind fun l3=>(bP p0.ae.aq).bind fun l4=>(bP p0.ae.ai.aA).bind fun l5=>(bP p0.ae.ai.be).bind fun l6=>(bP p0.ae.ai.bi).bind fun l7=>If (aM.mk p0.ci (Field.mk l0) (bF.mk p0.af.aN l1) (aL.mk (bg.mk l5 l6 l7) l3 l4) l2)
def ad6:bD:=⟨au.one (Arg.agg bY),Arg.agg bY,fun a=>kC a,.own,M2⟩
def Rg:bD:=⟨au.one (Arg.agg bY),Arg.agg bY,fun a=>kC a,.mz,NE⟩
theorem Kp:aF aP 180 ad6:=Oc QP aB [(61,bD.clone ek),(209,bD.clone ek),(210,bD.clone ek),(211,bD.clone kv),(32,bD.clone ki),(212,bD.clone kb)] ⟨tZ,vQ,B1,sN,mf,sM,trivial⟩
theorem Gi:aF aP 180 Rg:=Oc QP aB [(61,bD.clone ek),(209,bD.clone ek),(210,bD.clone ek),(211,bD.clone kv),(32,bD.clone ki),(212,bD.clone kb)] ⟨tZ,vQ,B1,sN,mf,sM,trivial⟩
def uY (p0:Int×Int×Int) (p1:Int):Option Int:=(eG p0.1 p1).bind fun n0=>If n0
def ap7:bD:=⟨au.cons (Arg.agg (cI.row ek)) (au.one (Arg.int .i64)),Arg.int .i64,fun a=>uY a.1 a.2,.pure,NE⟩
theorem ad7:aF aP 272 ap7:=Oc acy aB [(111,Mo)] ⟨wZ,trivial⟩
def iI (s:HF):Option Vo:=bif PP (s.2.2.2.1<s.2.2.2.2) then (aJ s.1 (aa .i64 (nS .u64 (aa .u64 (aa .i64 (s.2.2.2.1+s.2.2.2.2))) 1))).bind fun a0=>(uY a0 s.2.1).bind fun n1=>bif PP (n1<0) then If (.next (s.1,s.2.1,s.2.2.1,aa .i64 ((aa .i64 (nS .u64 (aa .u64 (aa .i64 (s.2.2.2.1+s.2.2.2.2))) 1))+1),s.2.2.2.2)) else If (.next (s.1,s.2.1,s.2.2.1,s.2.2.2.1,aa .i64 (nS .u64 (aa .u64 (aa .i64 (s.2.2.2.1+s.2.2.2.2))) 1))) else bif PP (s.2.2.2.1<s.2.2.1) then (aJ s.1 s.2.2.2.1).bind fun a2=>(uY a2 s.2.1).bind fun n3=>If (.done (s.2.2.2.1,n3==0)) else If (.done (s.2.2.2.1,NE))
def df (p0:List (Int×Int×Int)) (p1:Int) (_:Unit):Option (Int×Bool):=ay iI (p0,p1,ut (F0s p0),0,ut (F0s p0))
def MC:bD:=⟨au.cons (Arg.sl ek) (au.cons (Arg.int .i64) (au.one (Arg.eV 272 au.nil))),Arg.cw (au.cons (Arg.int .i64) (au.one Arg.bool)),fun a=>df a.1 a.2.1 a.2.2,.pure,NE⟩
theorem MD:aF aP 271 MC:=Oc acx aB [(272,ap7)] ⟨ad7,trivial⟩
def nM (p0:List (Int×Int×Int)) (p1:Int):Option (Int×Bool):=(df p0 p1 ()).bind fun a0=>If a0
def alU:bD:=⟨au.cons (Arg.sl ek) (au.one (Arg.int .i64)),Arg.cw (au.cons (Arg.int .i64) (au.one Arg.bool)),fun a=>nM a.1 a.2,.pure,NE⟩
theorem Rh:aF aP 233 alU:=Oc ab9 aB [(271,MC)] ⟨MD,trivial⟩
def yD (p0:bg) (p1:Int×Int):Option (Bool×Int):=(py p0).bind fun n0=>bif n0 !=0 then If (NE,n0) else bif PP (0<=p1.1) then bif PP (p1.1<(ut (F0s p0.be))) then (aJ p0.be p1.1).bind fun b1=>bif b1 then (aJ p0.aA p1.1).bind fun n2=>If (n2==p1.2,0) else If (NE,0) else If (NE,0) else If (NE,0)
def alV:bD:=⟨au.cons (Arg.agg gC) (au.one (Arg.agg (cI.row iu))),Arg.cw (au.cons Arg.bool (au.one (Arg.int .i64))),fun a=>yD a.1 a.2,.pure,NE⟩
theorem Ri:aF aP 292 alV:=Oc acK aB [(182,adw)] ⟨Ki,trivial⟩
def oF (p0:aL) (p1:Int×Int):Option (Int×Int):=(kA p0).bind fun n0=>bif n0 !=0 then If (0,n0) else (yD p0.ai p1).bind fun a1=>bif a1.2 !=0 then If (0,6) else bif !a1.1 then If (0,6) else (aJ p0.aq p1.1).bind fun n2=>If (n2,0)
def alW:bD:=⟨au.cons (Arg.agg dI) (au.one (Arg.agg (cI.row iu))),Arg.cw (au.cons (Arg.int .i64) (au.one (Arg.int .i64))),fun a=>oF a.1 a.2,.pure,NE⟩
theorem Rj:aF aP 273 alW:=Oc acz aB [(127,VB),(292,alV)] ⟨EE,Ri,trivial⟩
def rl (p0:List Int) (p1:Int):Option (List Int):=(bP p0).bind fun l0=>(bo l0 [p1]).bind fun l1=>If l1
def ap8:bD:=⟨au.cons (Arg.sl ki) (au.one (Arg.int .i64)),Arg.sl ki,fun a=>rl a.1 a.2,.mz,NE⟩
theorem ad8:aF aP 300 ap8:=Oc acP aB [(301,bD.clone ki)] ⟨Ml,trivial⟩
def zu (p0:bg) (p1:Int×Int):Option (bg×Int):=(yD p0 p1).bind fun a0=>bif a0.2 !=0 then If (bg.mk [] [] [],a0.2) else bif !a0.1 then If (bg.mk [] [] [],6) else (bP p0.aA).bind fun l1=>(bP p0.be).bind fun l2=>(rl p0.bi p1.1).bind fun l3=>(aJ l2 p1.1).bind fun _=>If (bg.mk l1 (cj l2 p1.1 NE) l3,0)
def ap9:bD:=⟨au.cons (Arg.agg gC) (au.one (Arg.agg (cI.row iu))),Arg.cw (au.cons (Arg.agg gC) (au.one (Arg.int .i64))),fun a=>zu a.1 a.2,.mz,NE⟩
theorem ad9:aF aP 293 ap9:=aF.of acL (cx:=(iV aB [(292,alV),(32,bD.clone ki),(212,bD.clone kb),(300,ap8)] [] [(298,Va)] [])) rfl (gJ.make ⟨Ri,mf,sM,ad8,trivial⟩ trivial ⟨QX,trivial⟩) (fun a=>by kernel_rfl)
def bZ (a:acS):Option HE:=(aJ (a.2.2.2.2.2.2.2.2.2.2.2.1.take a.2.2.2.1) a.2.2.2.2.2.1).bind fun _=>(aJ a.2.2.2.2.2.2.2.2.2.2.2.2 a.2.2.2.2.2.2.2.2.2.1).bind fun _=>bif ((cj a.2.2.2.2.2.2.2.2.2.2.2.1 a.2.2.2.2.2.1 (a.2.2.2.2.2.2.1,a.2.2.2.2.2.2.2.1,a.2.2.2.2.2.2.2.2.1,a.2.2.2.2.2.2.2.2.2.1,a.2.2.2.2.2.2.2.2.2.2.1)).length)==(F0s a.2.2.2.2.2.2.2.2.2.2.2.1) then bif ((cj a.2.2.2.2.2.2.2.2.2.2.2.2 a.2.2.2.2.2.2.2.2.2.1 a.2.2.2.2.2.1).length)==(F0s a.2.2.2.2.2.2.2.2.2.2.2.2) then If (cj a.2.2.2.2.2.2.2.2.2.2.2.1 a.2.2.2.2.2.1 (a.2.2.2.2.2.2.1,a.2.2.2.2.2.2.2.1,a.2.2.2.2.2.2.2.2.1,a.2.2.2.2.2.2.2.2.2.1,a.2.2.2.2.2.2.2.2.2.2.1),cj a.2.2.2.2.2.2.2.2.2.2.2.2 a.2.2.2.2.2.2.2.2.2.1 a.2.2.2.2.2.1) else IR else IR
def Pf:dS:=⟨[.l [.i .i64],.l [.b],.l [.i .i64],.n,.n,.i,.i,.i,.i,.i,.i,.l [.i .i64,.i .i64,.i .i64,.i .i64,.i .i64],.l [.i .i64]],[.agg [.sl [.i .i64] [],.sl [.b] [],.sl [.i .i64] [],.pre 0 0 0 NE,.own 1 NE],.int .i64 0,.agg [.int .i64 0,.int .i64 0,.int .i64 0,.int .i64 0,.int .i64 0]],[.arr [.i .i64,.i .i64,.i .i64,.i .i64,.i .i64] [],.arr [.i .i64] []],[.l [.i .i64,.i .i64,.i .i64,.i .i64,.i .i64],.l [.i .i64]],.cw [],[.arr [.i .i64,.i .i64,.i .i64,.i .i64,.i .i64] [],.arr [.i .i64] []],fun a=>bZ a⟩
theorem IF:jr aP 295 Pf:=jr.of QW (wd:=NE) (cx:=(iV aB [] [] [] [])) (gJ.make trivial trivial trivial) (fun a=>by kernel_rfl)
def fN (c0:acS) (s:aoV):Option (Step aoV aoR):=match s with |(a,b,d,e,f,g,h,i,j,k,l,m,n,o)=>bif PP (b<(ut i)) then bif PP ((aa .i64 (b+1))<(ut i)) then (aJ (d.take i) (aa .i64 (b+1))).bind fun a0=>(aJ (d.take i) b).bind fun a1=>(cD a0 a1).bind fun n2=>bif PP (n2<0) then (aJ (d.take i) (aa .i64 (b+1))).bind fun a3=>(cD a3 (k,l,m,n,o)).bind fun n4=>bif PP (0<=n4) then (bZ (f,g,h,i,j,a,k,l,m,n,o,d,e)).bind fun a5=>bif (F0s a5.1)==(F0s c0.2.2.2.2.2.2.2.2.2.2.2.1) then bif (F0s a5.2)==(F0s c0.2.2.2.2.2.2.2.2.2.2.2.2) then If (.done (.done a5)) else IR else IR else (aJ (d.take i) (aa .i64 (b+1))).bind fun a6=>(bZ (f,g,h,i,j,a,a6.1,a6.2.1,a6.2.2.1,a6.2.2.2.1,a6.2.2.2.2,d,e)).bind fun a7=>If (.next (aa .i64 (b+1),aa .i64 ((aa .i64 (2*(aa .i64 (b+1))))+1),a7.1,a7.2,(f,g,h,i,j,k,l,m,n,o))) else (aJ (d.take i) b).bind fun a8=>(cD a8 (k,l,m,n,o)).bind fun n9=>bif PP (0<=n9) then (bZ (f,g,h,i,j,a,k,l,m,n,o,d,e)).bind fun zo=>bif (F0s zo.1)==(F0s c0.2.2.2.2.2.2.2.2.2.2.2.1) then bif (F0s zo.2)==(F0s c0.2.2.2.2.2.2.2.2.2.2.2.2) then If (.done (.done zo)) else IR else IR else (aJ (d.take i) b).bind fun Ad=>(bZ (f,g,h,i,j,a,Ad.1,Ad.2.1,Ad.2.2.1,Ad.2.2.2.1,Ad.2.2.2.2,d,e)).bind fun a12=>If (.next (b,aa .i64 ((aa .i64 (2*b))+1),a12.1,a12.2,(f,g,h,i,j,k,l,m,n,o))) else (aJ (d.take i) b).bind fun Q7=>(cD Q7 (k,l,m,n,o)).bind fun n14=>bif PP (0<=n14) then (bZ (f,g,h,i,j,a,k,l,m,n,o,d,e)).bind fun a15=>bif (F0s a15.1)==(F0s c0.2.2.2.2.2.2.2.2.2.2.2.1) then bif (F0s a15.2)==(F0s c0.2.2.2.2.2.2.2.2.2.2.2.2) then If (.done (.done a15)) else IR else IR else (aJ (d.take i) b).bind fun KW=>(bZ (f,g,h,i,j,a,KW.1,KW.2.1,KW.2.2.1,KW.2.2.2.1,KW.2.2.2.2,d,e)).bind fun a17=>If (.next (b,aa .i64 ((aa .i64 (2*b))+1),a17.1,a17.2,(f,g,h,i,j,k,l,m,n,o))) else (bZ (f,g,h,i,j,a,k,l,m,n,o,d,e)).bind fun a18=>bif (F0s a18.1)==(F0s c0.2.2.2.2.2.2.2.2.2.2.2.1) then bif (F0s a18.2)==(F0s c0.2.2.2.2.2.2.2.2.2.2.2.2) then If (.done (.done a18)) else IR else IR
def eL (c0:acS) (s:aoQ):Option aoR:=bif PP (0<s.1) then (aJ (s.2.1.take s.2.2.2.2.2.2.1) (aa .i64 (v6 (aa .i64 (s.1-1)) 2))).bind fun a0=>(cD s.2.2.2.2.2.2.2.2 a0).bind fun n1=>bif PP (n1<0) then (aJ (s.2.1.take s.2.2.2.2.2.2.1) (aa .i64 (v6 (aa .i64 (s.1-1)) 2))).bind fun a2=>(bZ (s.2.2.2.1,s.2.2.2.2.1,s.2.2.2.2.2.1,s.2.2.2.2.2.2.1,s.2.2.2.2.2.2.2.1,s.1,a2.1,a2.2.1,a2.2.2.1,a2.2.2.2.1,a2.2.2.2.2,s.2.1,s.2.2.1)).bind fun a3=>If (.next (aa .i64 (v6 (aa .i64 (s.1-1)) 2),a3.1,a3.2,s.2.2.2)) else ay (fN c0) (s.1,aa .i64 ((aa .i64 (2*s.1))+1),s.2) else ay (fN c0) (s.1,aa .i64 ((aa .i64 (2*s.1))+1),s.2)
def jy (a:acS):Option HE:=ay (eL a) (a.2.2.2.2.2.1,a.2.2.2.2.2.2.2.2.2.2.2.1,a.2.2.2.2.2.2.2.2.2.2.2.2,a.1,a.2.1,a.2.2.1,a.2.2.2.1,a.2.2.2.2.1,a.2.2.2.2.2.2.1,a.2.2.2.2.2.2.2.1,a.2.2.2.2.2.2.2.2.1,a.2.2.2.2.2.2.2.2.2.1,a.2.2.2.2.2.2.2.2.2.2.1)
def Kq:dS:=⟨[.l [.i .i64],.l [.b],.l [.i .i64],.n,.n,.i,.i,.i,.i,.i,.i,.l [.i .i64,.i .i64,.i .i64,.i .i64,.i .i64],.l [.i .i64]],[.agg [.sl [.i .i64] [],.sl [.b] [],.sl [.i .i64] [],.pre 0 0 0 NE,.own 1 NE],.int .i64 0,.agg [.int .i64 0,.int .i64 0,.int .i64 0,.int .i64 0,.int .i64 0]],[.arr [.i .i64,.i .i64,.i .i64,.i .i64,.i .i64] [],.arr [.i .i64] []],[.l [.i .i64,.i .i64,.i .i64,.i .i64,.i .i64],.l [.i .i64]],.cw [],[.arr [.i .i64,.i .i64,.i .i64,.i .i64,.i .i64] [],.arr [.i .i64] []],fun a=>jy a⟩
theorem Dg:jr aP 279 Kq:=jr.of QT (wd:=NE) (cx:=(iV aB [(183,adG)] [(295,Pf)] [] [])) (gJ.make ⟨Kk,trivial⟩ ⟨IF,trivial⟩ trivial) (fun a=>by kernel_rfl)
def p5 (p0:aL) (p1:Int):Option (aL×(Int×Int×Int×Int×Int)×Int):=(aJ p0.bv p1).bind fun a0=>(zu p0.ai a0.2.2.2).bind fun a1=>bif a1.2 !=0 then If (aL.mk (bg.mk [] [] []) [] [],(0,0,0,0,0),a1.2) else (bP p0.bv).bind fun l2=>(bP p0.aq).bind fun l3=>(aJ l2 (aa .i64 ((ut (F0s l2)) -1))).bind fun a4=>(fW l2 0 (aa .i64 ((ut (F0s l2)) -1))).bind fun _=>(aJ l3 a0.2.2.2.1).bind fun _=>bif PP (p1<(aa .i64 ((ut (F0s l2)) -1))) then (jy (a1.1.aA,a1.1.be,a1.1.bi,(aa .i64 ((ut (F0s l2)) -1)).toNat,F0s l2,p1,a4.1,a4.2.1,a4.2.2.1,a4.2.2.2.1,a4.2.2.2.2,l2,cj l3 a0.2.2.2.1 (-1))).bind fun a7=>If (aL.mk a1.1 (a7.1.take ((aa .i64 ((ut (F0s l2)) -1)).toNat)) a7.2,a0,0) else If (aL.mk a1.1 (l2.take ((aa .i64 ((ut (F0s l2)) -1)).toNat)) (cj l3 a0.2.2.2.1 (-1)),a0,0)
def aqa:bD:=⟨au.cons (Arg.agg dI) (au.one (Arg.int .i64)),Arg.cw (au.cons (Arg.agg dI) (au.cons (Arg.agg (cI.row kv)) (au.one (Arg.int .i64)))),fun a=>p5 a.1 a.2,.mz,NE⟩
theorem aea:aF aP 274 aqa:=aF.of acA (cx:=(iV aB [(293,ap9),(211,bD.clone kv),(32,bD.clone ki)] [(279,Kq)] [(278,SF)] [])) rfl (gJ.make ⟨ad9,sN,mf,trivial⟩ ⟨Dg,trivial⟩ ⟨J7,trivial⟩) (fun a=>by kernel_rfl)
def kY (p0:aL) (p1:Int×Int):Option (aL×(Int×Int×Int×Int×Int)×Int):=(oF p0 p1).bind fun a0=>bif a0.2 !=0 then If (aL.mk (bg.mk [] [] []) [] [],(0,0,0,0,0),a0.2) else (p5 p0 a0.1).bind fun a1=>If a1
def alY:bD:=⟨au.cons (Arg.agg dI) (au.one (Arg.agg (cI.row iu))),Arg.cw (au.cons (Arg.agg dI) (au.cons (Arg.agg (cI.row kv)) (au.one (Arg.int .i64)))),fun a=>kY a.1 a.2,.mz,NE⟩
theorem Rk:aF aP 234 alY:=Oc ab' aB [(273,alW),(274,aqa)] ⟨Rj,aea,trivial⟩
def gZ (a:SL):Option (Nat×Nat×cC):=bif (((PP (0<=a.1))&&(PP (a.1<=a.2.1)))&&(PP (a.2.1<=(ut (F0s a.2.2)))))&&(PP ((ut (F0s a.2.2))<=(ut (F0s a.2.2)))) then bif a.1==a.2.1 then bif (F0s a.2.2)==(F0s a.2.2) then If (F0s a.2.2,F0s a.2.2,a.2.2) else IR else (fW a.2.2 0 a.1).bind fun _=>bif ((PP (0<=a.2.1))&&(PP (a.2.1<=(ut (F0s a.2.2)))))&&(PP ((ut (F0s a.2.2))<=(ut (F0s a.2.2)))) then bif ((a.2.2.drop (0+a.2.1.toNat)).take (((ut (F0s a.2.2)).toNat) -a.2.1.toNat)).isEmpty then bif ((PP (0<=(ut a.1.toNat)))&&(PP ((ut a.1.toNat)<=(ut (F0s a.2.2)))))&&(PP ((ut (F0s a.2.2))<=(ut (F0s a.2.2)))) then bif EQ (((ut (F0s a.2.2)).toNat) - ((ut a.1.toNat).toNat)) 0 then bif (F0s a.2.2)==(F0s a.2.2) then If (a.1.toNat,F0s a.2.2,a.2.2) else IR else bif (Do ((0+((ut a.1.toNat).toNat))+(((ut (F0s a.2.2)).toNat) - ((ut a.1.toNat).toNat))) (F0s a.2.2))&&(!NE) then bif ((fk a.2.2 (0+((ut a.1.toNat).toNat)) (ww (((ut (F0s a.2.2)).toNat) - ((ut a.1.toNat).toNat)) (0,0,0))).length)==(F0s a.2.2) then If (a.1.toNat,F0s a.2.2,fk a.2.2 (0+((ut a.1.toNat).toNat)) (ww (((ut (F0s a.2.2)).toNat) - ((ut a.1.toNat).toNat)) (0,0,0))) else IR else IR else IR else bif Do (a.1.toNat+(((a.2.2.drop (0+a.2.1.toNat)).take (((ut (F0s a.2.2)).toNat) -a.2.1.toNat)).length)) (F0s a.2.2) then bif (Do (a.1.toNat+(((a.2.2.drop (0+a.2.1.toNat)).take (((ut (F0s a.2.2)).toNat) -a.2.1.toNat)).length)) (F0s a.2.2))&&(!NE) then bif ((PP (0<=(ut (a.1.toNat+(((a.2.2.drop (0+a.2.1.toNat)).take (((ut (F0s a.2.2)).toNat) -a.2.1.toNat)).length)))))&&(PP ((ut (a.1.toNat+(((a.2.2.drop (0+a.2.1.toNat)).take (((ut (F0s a.2.2)).toNat) -a.2.1.toNat)).length)))<=(ut (F0s a.2.2)))))&&(PP ((ut (F0s a.2.2))<=(ut (F0s a.2.2)))) then bif EQ (((ut (F0s a.2.2)).toNat) - ((ut (a.1.toNat+(((a.2.2.drop (0+a.2.1.toNat)).take (((ut (F0s a.2.2)).toNat) -a.2.1.toNat)).length))).toNat)) 0 then bif ((fk a.2.2 a.1.toNat ((a.2.2.drop (0+a.2.1.toNat)).take (((ut (F0s a.2.2)).toNat) -a.2.1.toNat))).length)==(F0s a.2.2) then If (a.1.toNat+(((a.2.2.drop (0+a.2.1.toNat)).take (((ut (F0s a.2.2)).toNat) -a.2.1.toNat)).length),F0s a.2.2,fk a.2.2 a.1.toNat ((a.2.2.drop (0+a.2.1.toNat)).take (((ut (F0s a.2.2)).toNat) -a.2.1.toNat))) else IR else bif (Do ((0+((ut (a.1.toNat+(((a.2.2.drop (0+a.2.1.toNat)).take (((ut (F0s a.2.2)).toNat) -a.2.1.toNat)).length))).toNat))+(((ut (F0s a.2.2)).toNat) - ((ut (a.1.toNat+(((a.2.2.drop (0+a.2.1.toNat)).take (((ut (F0s a.2.2)).toNat) -a.2.1.toNat)).length))).toNat))) ((fk a.2.2 a.1.toNat ((a.2.2.drop (0+a.2.1.toNat)).take (((ut (F0s a.2.2)).toNat) -a.2.1.toNat))).length))&&(!NE) then bif ((fk (fk a.2.2 a.1.toNat ((a.2.2.drop (0+a.2.1.toNat)).take (((ut (F0s a.2.2)).toNat) -a.2.1.toNat))) (0+((ut (a.1.toNat+(((a.2.2.drop (0+a.2.1.toNat)).take (((ut (F0s a.2.2)).toNat) -a.2.1.toNat)).length))).toNat)) (ww (((ut (F0s a.2.2)).toNat) - ((ut (a.1.toNat+(((a.2.2.drop (0+a.2.1.toNat)).take (((ut (F0s a.2.2)).toNat) -a.2.1.toNat)).length))).toNat)) (0,0,0))).length)==(F0s a.2.2) then If (a.1.toNat+(((a.2.2.drop (0+a.2.1.toNat)).take (((ut (F0s a.2.2)).toNat) -a.2.1.toNat)).length),F0s a.2.2,fk (fk a.2.2 a.1.toNat ((a.2.2.drop (0+a.2.1.toNat)).take (((ut (F0s a.2.2)).toNat) -a.2.1.toNat))) (0+((ut (a.1.toNat+(((a.2.2.drop (0+a.2.1.toNat)).take (((ut (F0s a.2.2)).toNat) -a.2.1.toNat)).length))).toNat)) (ww (((ut (F0s a.2.2)).toNat) - ((ut (a.1.toNat+(((a.2.2.drop (0+a.2.1.toNat)).take (((ut (F0s a.2.2)).toNat) -a.2.1.toNat)).length))).toNat)) (0,0,0))) else IR else IR else IR else IR else IR else IR else IR
def VN:dS:=⟨[.i,.i,.l [.i .i64,.i .i64,.i .i64]],[.own 0 NE,.int .i64 0,.int .i64 0],[.arr [.i .i64,.i .i64,.i .i64] []],[.n,.n,.l [.i .i64,.i .i64,.i .i64]],.pre 0 0 0 NE,[.arr [.i .i64,.i .i64,.i .i64] []],fun a=>gZ a⟩
theorem SW:jr aP 235 VN:=jr.of aca (wd:=M2) (cx:=(iV aB [] [] [] [])) (gJ.make trivial trivial trivial) (fun a=>by kernel_rfl)
def kD (p0:aM) (p1:Int):Option (aM×(Int×Int)×Int):=(uu p0.af p1).bind fun a0=>bif a0.2.2 !=0 then If (gr,a0.2) else (kC p0).bind fun r1=>(nM p0.io p1).bind fun a2=>bif a2.2 then (aJ p0.io a2.1).bind fun a3=>(kY p0.ae a3.2).bind fun a4=>bif a4.2.2 !=0 then If (gr,a0.2.1,a4.2.2) else (gZ (a2.1,aa .i64 (a2.1+1),r1.io)).bind fun a5=>If (aM.mk r1.ci r1.ii a0.1 a4.1 (a5.2.2.take a5.1),a0.2.1,0) else If (aM.mk r1.ci r1.ii a0.1 r1.ae r1.io,a0.2.1,0)
def aqb:bD:=⟨au.cons (Arg.agg bY) (au.one (Arg.int .i64)),Arg.cw (au.cons (Arg.agg bY) (au.cons (Arg.agg (cI.row iu)) (au.one (Arg.int .i64)))),fun a=>kD a.1 a.2,.mz,NE⟩
theorem aeb:aF aP 179 aqb:=aF.of abD (cx:=(iV aB [(232,ap6),(180,ad6),(180,Rg),(233,alU),(234,alY)] [(235,VN)] [] [])) rfl (gJ.make ⟨ad5,Kp,Gi,Rh,Rk,trivial⟩ ⟨SW,trivial⟩ trivial) (fun a=>by kernel_rfl)
def rU (p0:aM) (p1:Int):Option (aM×Int):=(fT p0).bind fun n0=>bif n0 !=0 then If (gr,n0) else (kD p0 p1).bind fun a1=>If (a1.1,a1.2.2)
def aqc:bD:=⟨au.cons (Arg.agg bY) (au.one (Arg.int .i64)),Arg.cw (au.cons (Arg.agg bY) (au.one (Arg.int .i64))),fun a=>rU a.1 a.2,.mz,NE⟩
theorem aec:aF aP 204 aqc:=Oc abM aB [(74,c74),(179,aqb)] ⟨Gh,aeb,trivial⟩
def iG (s:(cC×cC×Int×Int)):Option (Step (cC×cC×Int×Int) Bool):=bif PP (s.2.2.2<s.2.2.1) then (aJ s.1 s.2.2.2).bind fun a0=>(aJ s.2.1 s.2.2.2).bind fun a1=>bif !((a0.1==a1.1)&&((a0.2.1==a1.2.1)&&(a0.2.2==a1.2.2))) then If (.done NE) else If (.next (s.1,s.2.1,s.2.2.1,aa .i64 (s.2.2.2+1))) else If (.done M2)
def kE (p0:List (Int×Int×Int)) (p1:List (Int×Int×Int)):Option Bool:=bif (ut (F0s p0)) !=(ut (F0s p1)) then If NE else ay iG (p0,p1,ut (F0s p0),0)
def aqd:bD:=⟨au.cons (Arg.sl ek) (au.one (Arg.sl ek)),Arg.bool,fun a=>kE a.1 a.2,.pure,NE⟩
theorem aed:aF aP 205 aqd:=Oc abN aB [] trivial
def cd (a:acT):Option HE:=(aJ a.2.2.2.2.2.2.2.2.2.1 a.2.2.2.1).bind fun _=>(aJ a.2.2.2.2.2.2.2.2.2.2 a.2.2.2.2.2.2.2.1).bind fun _=>bif ((cj a.2.2.2.2.2.2.2.2.2.1 a.2.2.2.1 (a.2.2.2.2.1,a.2.2.2.2.2.1,a.2.2.2.2.2.2.1,a.2.2.2.2.2.2.2.1,a.2.2.2.2.2.2.2.2.1)).length)==(F0s a.2.2.2.2.2.2.2.2.2.1) then bif ((cj a.2.2.2.2.2.2.2.2.2.2 a.2.2.2.2.2.2.2.1 a.2.2.2.1).length)==(F0s a.2.2.2.2.2.2.2.2.2.2) then If (cj a.2.2.2.2.2.2.2.2.2.1 a.2.2.2.1 (a.2.2.2.2.1,a.2.2.2.2.2.1,a.2.2.2.2.2.2.1,a.2.2.2.2.2.2.2.1,a.2.2.2.2.2.2.2.2.1),cj a.2.2.2.2.2.2.2.2.2.2 a.2.2.2.2.2.2.2.1 a.2.2.2.1) else IR else IR
def VO:dS:=⟨[.l [.i .i64],.l [.b],.l [.i .i64],.i,.i,.i,.i,.i,.i,.l [.i .i64,.i .i64,.i .i64,.i .i64,.i .i64],.l [.i .i64]],[.agg [.sl [.i .i64] [],.sl [.b] [],.sl [.i .i64] [],.own 0 NE,.own 1 NE],.int .i64 0,.agg [.int .i64 0,.int .i64 0,.int .i64 0,.int .i64 0,.int .i64 0]],[.arr [.i .i64,.i .i64,.i .i64,.i .i64,.i .i64] [],.arr [.i .i64] []],[.l [.i .i64,.i .i64,.i .i64,.i .i64,.i .i64],.l [.i .i64]],.cw [],[.arr [.i .i64,.i .i64,.i .i64,.i .i64,.i .i64] [],.arr [.i .i64] []],fun a=>cd a⟩
theorem SX:jr aP 295 VO:=jr.of QW (wd:=NE) (cx:=(iV aB [] [] [] [])) (gJ.make trivial trivial trivial) (fun a=>by kernel_rfl)
end
end
end Go.Proofs.YtbgoiokedpjgbaaGreat
