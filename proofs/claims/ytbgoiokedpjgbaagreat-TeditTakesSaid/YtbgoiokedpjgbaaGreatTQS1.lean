/- Plain functions for what the functions of the seat compute. Printed by a program. -/
import Derived.Test.YtbgoiokedpjgbaaGreatTVm3
import Derived.Test.YtbgoiokedpjgbaaGreatTQXT
open Int renaming ofNat->bm,tdiv->bo,tmod->bq
open List renaming replicate->bn
open Nat renaming ble->bu,beq->bv
set_option maxRecDepth 100000
namespace Go.Proofs.YtbgoiokedpjgbaaGreat
open Go.Vm
noncomputable section
theorem Oc {f:FuncId} {x:aM} {α β:Type} {args:aC α} {res:aK β} {kd:Kd} {fn:α->Option β} {ow:Bool} (hf:tab f=some (.code x)) (ho:aGE kd ow=true) (lp:Option Nat) (l:List (Nat×bJ)) (h:HU tab l) (e: ∀a,aNJ (kY lp l [] [] []) x args res kd a=fn a):aI tab f ⟨args,res,fn,kd,ow⟩:=aI.of hf (cx:=kY lp l [] [] []) ho (jA.make h trivial trivial) e
abbrev fE:List PT:=[.i .i64,.i .i64,.i .i64]
abbrev ki:List PT:=[.i .i64]
abbrev kb:List PT:=[.b]
abbrev mT:List PT:=[.i .i64,.i .i64,.i .i64,.i .i64,.i .i64]
abbrev kL:List PT:=[.i .i64,.i .i64]
abbrev EQ:List PT:=[.b,.i .u64,.i .u64]
abbrev aUA:List PT:=[.i .i64,.i .i64,.i .i64,.i .i64]
abbrev kiu:List PT:=[.i .i64,.i .u64]
structure Field where
 aa:List (Int×Int×Int)
def cA:cY Field:=cY.iso (cY.sl fE) (fun p=>⟨p⟩) (fun c=>c.aa) (fun _=>rfl)
structure bD where
 ac:List Int
 ae:List Bool
 af:List Int
def gT:cY bD:=cY.iso (cY.prod (cY.sl ki) (cY.prod (cY.sl kb) (cY.sl ki))) (fun p=>⟨p.1,p.2.1,p.2.2⟩) (fun c=>(c.ac,c.ae,c.af)) (fun _=>rfl)
structure aP where
 ai:bD
 aj:List (Int×Int×Int×Int×Int)
 am:List Int
def dN:cY aP:=cY.iso (cY.prod gT (cY.prod (cY.sl mT) (cY.sl ki))) (fun p=>⟨p.1,p.2.1,p.2.2⟩) (fun c=>(c.ai,c.aj,c.am)) (fun _=>rfl)
structure bO where
 ao:Int
 aq:List (Int×Int×Int)
def iA:cY bO:=cY.iso (cY.prod (cY.int .i64) (cY.sl fE)) (fun p=>⟨p.1,p.2⟩) (fun c=>(c.ao,c.aq)) (fun _=>rfl)
structure aR where
 ar:Int×Int
 au:Field
 ax:bO
 ay:aP
 az:List (Int×Int×Int)
def bX:cY aR:=cY.iso (cY.prod (cY.row kL) (cY.prod cA (cY.prod iA (cY.prod dN (cY.sl fE))))) (fun p=>⟨p.1,p.2.1,p.2.2.1,p.2.2.2.1,p.2.2.2.2⟩) (fun c=>(c.ar,c.au,c.ax,c.ay,c.az)) (fun _=>rfl)
structure bH where
 ba:List Int
 bc:List Int
def eF:cY bH:=cY.iso (cY.prod (cY.sl ki) (cY.sl ki)) (fun p=>⟨p.1,p.2⟩) (fun c=>(c.ba,c.bc)) (fun _=>rfl)
structure dE where
 be:aR
 bg:bH
def fM:cY dE:=cY.iso (cY.prod bX eF) (fun p=>⟨p.1,p.2⟩) (fun c=>(c.be,c.bg)) (fun _=>rfl)
theorem xV:aI tab 212 (bJ.clone kb):=aI.clone aKo rfl
theorem aE0:aI tab 289 (bJ.add64):=aI.add64 aK9
theorem pW:aI tab 32 (bJ.clone ki):=aI.clone aRM rfl
theorem FY:aI tab 61 (bJ.clone fE):=aI.clone aR6 rfl
theorem BM:aI tab 209 (bJ.clone fE):=aI.clone aKl rfl
theorem JG:aI tab 210 (bJ.clone fE):=aI.clone aKm rfl
theorem xW:aI tab 211 (bJ.clone mT):=aI.clone aKn rfl
theorem W7:aI tab 301 (bJ.clone ki):=aI.clone aLi rfl
abbrev kH:aR:=aR.mk (0,0) (Field.mk []) (bO.mk 0 []) (aP.mk (bD.mk [] [] []) [] []) []
section
abbrev kZ:=List (Int×Int×Int×Int×Int)
abbrev cI:=List (Int×Int×Int)
abbrev sW:=List (Int×Int)
abbrev aDb:=sW×sW×Int×Int×Int×Int×cI×Int×cI×(List Int)×(List Bool)×(List Int)×kZ×(List Int)×cI×cI×Int×Int×Int
abbrev aUB:=bR aDb (aR×Int)
abbrev Zt1:=bR aDb aUB
abbrev Zt3:=cI×Int×Int×Int×Int×cI×Int×cI×(List Int)×(List Bool)×(List Int)×kZ×(List Int)×cI×cI×Int×Int×Int×Int×Int×Int×cI×(List Int)×(List Bool)×(List Int)×kZ×(List Int)×cI×cI
abbrev aUC:=sW×cI×Int×Int×Int×Int×cI×Int×cI×(List Int)×(List Bool)×(List Int)×kZ×(List Int)×cI×cI×Int×Int×Int
abbrev Zt6:=bR aUC (aR×Int)
abbrev aUD:=cI×Int×Int×Int×Int×cI×Int×cI×(List Int)×(List Bool)×(List Int)×kZ×(List Int)×cI×cI×Int×Int×Int
abbrev Zt7:=bR aUD (aR×Int)
abbrev Zt8:=cI×cI×Int×Int×Int×Int×cI×Int×cI×(List Int)×(List Bool)×(List Int)×kZ×(List Int)×cI
abbrev Zt9:=sW×Int×Int×Int×Int×cI×Int×cI×(List Int)×(List Bool)×(List Int)×kZ×(List Int)×cI×Int×Int×Int
abbrev aUE:=Int×Int×Int×Int×cI×Int×cI×(List Int)×(List Bool)×(List Int)×kZ×(List Int)×cI×(List Int)
abbrev aUF:=bR aUE Int
abbrev aSB:=Int×Int×Int×Int×cI×Int×cI×(List Int)×(List Bool)×(List Int)×kZ×(List Int)×cI
abbrev aUG:=bR aSB Int
abbrev aUH:=Int×kZ×(List Int)×(List Int)×(List Bool)×(List Int)×Nat×Nat×Int×Int×Int×Int×Int
abbrev QU:=kZ×(List Int)
abbrev aUI:=bR aUH QU
abbrev aUJ:=Int×kZ×(List Int)×(List Int)×(List Bool)×(List Int)×Int×Int×Int×Int×Int
abbrev aUK:=bR aUJ QU
abbrev aLj:=(List Int)×Int×Int×(List Int)×(List Int)×(List (Int×Bool))
abbrev aUL:=bR aLj Int
abbrev aUM:=bR aLj aUL
abbrev aUN:=kZ×Int×Int×(List Int)×(List Bool)×(List Int)×kZ×(List Int)×(List (List Int))
abbrev aUO:=Int×Int×kZ×(List Int)×(List Int)×(List Bool)×(List Int)×Nat×Nat×Int×Int×Int×Int×Int
abbrev aLk:=(List Int)×(List Bool)×(List Int)×Nat×Nat×Int×Int×Int×Int×Int×Int×kZ×(List Int)
abbrev aUP:=Int×Int×kZ×(List Int)×(List Int)×(List Bool)×(List Int)×Int×Int×Int×Int×Int
abbrev aUQ:=Int×Int×(List Int)×(List Bool)×(List Int)×kZ×(List Int)×Int×Int×Int×Int×Int
abbrev aLl:=(List Int)×(List Bool)×(List Int)×Int×Int×Int×Int×Int×Int×kZ×(List Int)
abbrev aUR:=(List Int)×Int×Int×(List Int)×(List Bool)×(List Int)×kZ×(List Int)
abbrev aUS:=bR aUR Int
abbrev aUT:=(List Int)×Int×Int×cI×Int×Int×(List (Int×Bool))
abbrev aUU:=bR aUT (bH×Int)
abbrev JH:=Int×(List Int)×(List Bool)×(List Int)×kZ×(List Int)
abbrev aSC:=bR JH Int
abbrev aSD:=Int×Int×(List Int)×(List Bool)×(List Int)×kZ×(List Int)
abbrev aUV:=Int×cI×Int×Int×Int×cI×(List (List Int))
abbrev aUW:=(List Int)×Int×Int×(List Int)×(List Bool)×(List Int)×Int×(List Bool)
abbrev aUX:=bR aUW Int
abbrev aUY:=Int×(List Int)×Int×Int×Nat×Nat×Nat×Int×Int×(List Int)×sW
abbrev aDc:=Int×Int×(List Int)
abbrev aSE:=bR aDc (Nat×Nat×(List Int))
abbrev aUZ:=bR aDc aSE
abbrev aU0:=bR ((List Int)×Int×Int×(List Int)×sW) sW
abbrev aDd:=Int×cI×Int×Int×(List Int)×(List Int)
abbrev QV:=cI×Int×Int×Int×Int
abbrev aE1:=bR QV (Int×Bool)
abbrev aE2:=cI×Int×Int×cI
abbrev aLm:=Int×Int×cI×cI
abbrev aE3:=Int×Int×(List Int)×(List Bool)×(List Int)×(List Bool)
abbrev aE4:=(List Int)×Int×Int×(List Int)×(List Int)
abbrev aDe:=Int×Int×cI
abbrev aSF:=bR aDe Int
abbrev aE5:=Int×cI
variable [LP]
def vM (p0:Field):Option Bool:=bif decide (16<(bm p0.aa.length)) then bif decide ((bm p0.aa.length)<64) then some true else some (decide (70<(bm p0.aa.length))) else some (decide (70<(bm p0.aa.length)))
def c69:bJ:=⟨aC.one (aK.agg cA),aK.bool,fun a=>vM a,.pure,false⟩
theorem aSG:aI tab 69 c69:=Oc aSb rfl aH [] trivial fun a=>by kernel_rfl
def ES (p0:bD):Option Bool:=bif decide (210<(bm p0.ac.length)) then some true else bif decide (210<(bm p0.ae.length)) then some true else some (decide (210<(bm p0.af.length)))
def aU1:bJ:=⟨aC.one (aK.agg gT),aK.bool,fun a=>ES a,.pure,false⟩
theorem aLn:aI tab 124 aU1:=Oc aJv rfl aH [] trivial fun a=>by kernel_rfl
def ET (p0:aP):Option Bool:=(ES p0.ai).bind fun b0=>bif b0 then some true else bif decide (210<(bm p0.aj.length)) then some true else some (decide (210<(bm p0.am.length)))
def c70:bJ:=⟨aC.one (aK.agg dN),aK.bool,fun a=>ET a,.pure,false⟩
theorem aSH:aI tab 70 c70:=Oc aSc rfl aH [(124,aU1)] ⟨aLn,trivial⟩ fun a=>by kernel_rfl
def vN (p0:aR):Option Bool:=bif decide (40<(bm p0.ax.aq.length)) then some true else bif decide (40<(bm p0.az.length)) then some true else (vM p0.au).bind fun b0=>bif b0 then some true else (ET p0.ay).bind fun b1=>some b1
def c27:bJ:=⟨aC.one (aK.agg bX),aK.bool,fun a=>vN a,.pure,false⟩
theorem aSI:aI tab 27 c27:=Oc aRJ rfl aH [(69,c69),(70,c70)] ⟨aSG,aSH,trivial⟩ fun a=>by kernel_rfl
def EU (p0:bH):Option Bool:=bif decide (70<(bm p0.ba.length)) then some true else some (decide (70<(bm p0.bc.length)))
def c28:bJ:=⟨aC.one (aK.agg eF),aK.bool,fun a=>EU a,.pure,false⟩
theorem aSJ:aI tab 28 c28:=Oc aRK rfl aH [] trivial fun a=>by kernel_rfl
def vO (p0:dE):Option Bool:=(vN p0.be).bind fun b0=>bif b0 then some true else (EU p0.bg).bind fun b1=>some b1
def c8:bJ:=⟨aC.one (aK.agg fM),aK.bool,fun a=>vO a,.pure,false⟩
theorem aU2:aI tab 8 c8:=Oc aUz rfl aH [(27,c27),(28,c28)] ⟨aSI,aSJ,trivial⟩ fun a=>by kernel_rfl
def qK (p0:Field):Option Field:=(bW p0.aa).bind fun l0=>some (Field.mk l0)
def c71:bJ:=⟨aC.one (aK.agg cA),aK.agg cA,fun a=>qK a,.own,true⟩
def aLo:bJ:=⟨aC.one (aK.agg cA),aK.agg cA,fun a=>qK a,.frz,false⟩
theorem aAu:aI tab 71 c71:=Oc aEX rfl aH [] trivial fun a=>by kernel_rfl
theorem UC:aI tab 71 aLo:=Oc aEX rfl aH [] trivial fun a=>by kernel_rfl
def qL (p0:bO):Option bO:=(bW p0.aq).bind fun l0=>some (bO.mk p0.ao l0)
def c72:bJ:=⟨aC.one (aK.agg iA),aK.agg iA,fun a=>qL a,.own,true⟩
def aLp:bJ:=⟨aC.one (aK.agg iA),aK.agg iA,fun a=>qL a,.frz,false⟩
theorem aAv:aI tab 72 c72:=Oc aEY rfl aH [] trivial fun a=>by kernel_rfl
theorem UD:aI tab 72 aLp:=Oc aEY rfl aH [] trivial fun a=>by kernel_rfl
def oB (p0:bD):Option bD:=(bW p0.ac).bind fun l0=>(bW p0.ae).bind fun l1=>(bW p0.af).bind fun l2=>some (bD.mk l0 l1 l2)
def aE6:bJ:=⟨aC.one (aK.agg gT),aK.agg gT,fun a=>oB a,.own,true⟩
def W8:bJ:=⟨aC.one (aK.agg gT),aK.agg gT,fun a=>oB a,.frz,false⟩
theorem MY:aI tab 125 aE6:=Oc aBC rfl aH [] trivial fun a=>by kernel_rfl
theorem JI:aI tab 125 W8:=Oc aBC rfl aH [] trivial fun a=>by kernel_rfl
def mU (p0:aP):Option aP:=(oB p0.ai).bind fun r0=>(bW p0.aj).bind fun l1=>(bW p0.am).bind fun l2=>some (aP.mk r0 l1 l2)
def c73:bJ:=⟨aC.one (aK.agg dN),aK.agg dN,fun a=>mU a,.own,true⟩
def aDf:bJ:=⟨aC.one (aK.agg dN),aK.agg dN,fun a=>mU a,.frz,false⟩
theorem O1:aI tab 73 c73:=Oc aEZ rfl aH [(125,aE6),(125,W8)] ⟨MY,JI,trivial⟩ fun a=>by kernel_rfl
theorem JJ:aI tab 73 aDf:=Oc aEZ rfl aH [(125,aE6),(125,W8)] ⟨MY,JI,trivial⟩ fun a=>by kernel_rfl
def jW (p0:aR):Option aR:=(qK p0.au).bind fun r0=>(qL p0.ax).bind fun r1=>(mU p0.ay).bind fun r2=>(bW p0.az).bind fun l3=>some (aR.mk p0.ar r0 r1 r2 l3)
def c29:bJ:=⟨aC.one (aK.agg bX),aK.agg bX,fun a=>jW a,.own,true⟩
def aAw:bJ:=⟨aC.one (aK.agg bX),aK.agg bX,fun a=>jW a,.frz,false⟩
theorem KZ:aI tab 29 c29:=Oc aES rfl aH [(71,c71),(71,aLo),(72,c72),(72,aLp),(73,c73),(73,aDf)] ⟨aAu,UC,aAv,UD,O1,JJ,trivial⟩ fun a=>by kernel_rfl
theorem FZ:aI tab 29 aAw:=Oc aES rfl aH [(71,c71),(71,aLo),(72,c72),(72,aLp),(73,c73),(73,aDf)] ⟨aAu,UC,aAv,UD,O1,JJ,trivial⟩ fun a=>by kernel_rfl
def CN (p0:bH):Option bH:=(bW p0.ba).bind fun l0=>(bW p0.bc).bind fun l1=>some (bH.mk l0 l1)
def c30:bJ:=⟨aC.one (aK.agg eF),aK.agg eF,fun a=>CN a,.own,true⟩
def aSL:bJ:=⟨aC.one (aK.agg eF),aK.agg eF,fun a=>CN a,.frz,false⟩
theorem aE7:aI tab 30 c30:=Oc aET rfl aH [] trivial fun a=>by kernel_rfl
theorem aBQ:aI tab 30 aSL:=Oc aET rfl aH [] trivial fun a=>by kernel_rfl
def xX (p0:dE):Option dE:=(jW p0.be).bind fun r0=>(CN p0.bg).bind fun r1=>some (dE.mk r0 r1)
def c9:bJ:=⟨aC.one (aK.agg fM),aK.agg fM,fun a=>xX a,.own,true⟩
def c9p:bJ:=⟨aC.one (aK.agg fM),aK.agg fM,fun a=>xX a,.frz,false⟩
theorem aU3:aI tab 9 c9:=Oc aNP rfl aH [(29,c29),(29,aAw),(30,c30),(30,aSL)] ⟨KZ,FZ,aE7,aBQ,trivial⟩ fun a=>by kernel_rfl
theorem aSM:aI tab 9 c9p:=Oc aNP rfl aH [(29,c29),(29,aAw),(30,c30),(30,aSL)] ⟨KZ,FZ,aE7,aBQ,trivial⟩ fun a=>by kernel_rfl
def nJ (p0:Int):Option Int:=bif decide (p0<0) then some (aA .u64 (0- (aA .u64 p0))) else some (aA .u64 p0)
def aLq:bJ:=⟨aC.one (aK.int .i64),aK.int .u64,fun a=>nJ a,.pure,false⟩
theorem UE:aI tab 166 aLq:=Oc aJ0 rfl aH [] trivial fun a=>by kernel_rfl
def wY (s:(Int×Int)):Option (bR (Int×Int) Int):=bif decide (0<s.2) then bif s.2==0 then none else some (.next (s.2,bq s.1 s.2)) else some (.done s.1)
def BN (p0:Int) (p1:Int):Option Int:=aG wY (p0,p1)
def aSN:bJ:=⟨aC.cons (aK.int .u64) (aC.one (aK.int .u64)),aK.int .u64,fun a=>BN a.1 a.2,.pure,false⟩
theorem aBR:aI tab 165 aSN:=Oc aJZ rfl aH [] trivial fun a=>by kernel_rfl
def iE (p0:Int×Int):Option Int:=bif decide (p0.2<1) then some 8 else bif p0.1==(-9223372036854775808) then some 8 else (nJ p0.1).bind fun n0=>(BN (aA .u64 p0.2) n0).bind fun n1=>bif decide (1<n1) then some 8 else some 0
def W9:bJ:=⟨aC.one (aK.agg (cY.row kL)),aK.int .i64,fun a=>iE a,.pure,false⟩
theorem CO:aI tab 106 W9:=Oc aJl rfl aH [(166,aLq),(165,aSN)] ⟨UE,aBR,trivial⟩ fun a=>by kernel_rfl
def rW (p0:Int):Option Bool:=bif decide (p0<(-1048576)) then some true else some (decide (1048576<p0))
def aU4:bJ:=⟨aC.one (aK.int .i64),aK.bool,fun a=>rW a,.pure,false⟩
theorem aLr:aI tab 108 aU4:=Oc aJm rfl aH [] trivial fun a=>by kernel_rfl
def oU (p0:Int×Int×Int):Option Int:=bif decide (p0.1<0) then some 8 else bif decide (65535<p0.1) then some 8 else (rW p0.2.1).bind fun b0=>bif b0 then some 8 else (rW p0.2.2).bind fun b1=>bif b1 then some 8 else some 0
def c58:bJ:=⟨aC.one (aK.agg (cY.row fE)),aK.int .i64,fun a=>oU a,.pure,false⟩
theorem aE8:aI tab 58 c58:=Oc aR4 rfl aH [(108,aU4)] ⟨aLr,trivial⟩ fun a=>by kernel_rfl
def jX (s:aE2):Option (bR aE2 (bR aE2 Int)):=bif decide (s.2.2.1<s.2.1) then (aN s.1 s.2.2.1).bind fun a0=>bif decide (0<s.2.2.1) then (aN s.2.2.2 (aA .i64 (s.2.2.1-1))).bind fun a1=>bif decide (a0.1<=a1.1) then some (.done (.done 32)) else some (.next (s.1,s.2.1,aA .i64 (s.2.2.1+1),s.2.2.2)) else some (.next (s.1,s.2.1,aA .i64 (s.2.2.1+1),s.2.2.2)) else some (.done (.done 0))
def oC (s:aE2):Option (bR aE2 Int):=bif decide (s.2.2.1<s.2.1) then (aN s.1 s.2.2.1).bind fun a0=>(oU a0).bind fun n1=>bif n1 !=0 then some (.done n1) else some (.next (s.1,s.2.1,aA .i64 (s.2.2.1+1),s.2.2.2)) else aG jX (s.2.2.2,bm s.2.2.2.length,0,s.2.2.2)
def fI (p0:Field):Option Int:=bif decide (64<(bm p0.aa.length)) then some 4 else aG oC (p0.aa,bm p0.aa.length,0,p0.aa)
def c57:bJ:=⟨aC.one (aK.agg cA),aK.int .i64,fun a=>fI a,.pure,false⟩
theorem O2:aI tab 57 c57:=Oc aR3 rfl aH [(58,c58)] ⟨aE8,trivial⟩ fun a=>by kernel_rfl
def xY (p0:Int×Int):Option Bool:=bif decide (0<=(if p0.2<p0.1 then p0.2 else p0.1)) then bif decide ((if p0.2>p0.1 then p0.2 else p0.1)<=65535) then some (p0.1 !=p0.2) else some false else some false
def aSO:bJ:=⟨aC.one (aK.agg (cY.row kL)),aK.bool,fun a=>xY a,.pure,false⟩
theorem aBS:aI tab 181 aSO:=Oc aJ9 rfl aH [] trivial fun a=>by kernel_rfl
def uF (s:aUV):Option (bR aUV Int):=bif decide (s.2.2.2.1<s.2.2.1) then (aN s.2.1 s.2.2.2.1).bind fun a0=>(xY a0.2).bind fun b1=>bif !b1 then some (.done 8) else (V9 s.2.2.2.2.2.2 [a0.2.1,a0.2.2]).bind fun b2=>bif b2 then some (.done 8) else bif decide (a0.1<=s.1) then some (.done 8) else bif decide (s.2.2.2.2.1<=a0.1) then some (.done 8) else (WA s.2.2.2.2.2.2 [a0.2.1,a0.2.2]).bind fun l3=>some (.next (a0.1,s.2.1,s.2.2.1,aA .i64 (s.2.2.2.1+1),s.2.2.2.2.1,s.2.2.2.2.2.1,l3)) else some (.done 0)
def tK (p0:bO):Option Int:=bif decide (200<(bm p0.aq.length)) then some 8 else bif decide (p0.ao<0) then some 8 else bif decide (1000000<p0.ao) then some 8 else aG uF (-1,p0.aq,bm p0.aq.length,0,p0.ao,p0.aq,[])
def aLs:bJ:=⟨aC.one (aK.agg iA),aK.int .i64,fun a=>tK a,.pure,false⟩
theorem UF:aI tab 126 aLs:=Oc aJw rfl aH [(181,aSO)] ⟨aBS,trivial⟩ fun a=>by kernel_rfl
def iF (s:((List Bool)×Bool×Int×Int)):Option (bR ((List Bool)×Bool×Int×Int) Int):=bif decide (s.2.2.2<s.2.2.1) then (aN s.1 s.2.2.2).bind fun b0=>bif s.2.1==b0 then some (.done s.2.2.2) else some (.next (s.1,s.2.1,s.2.2.1,aA .i64 (s.2.2.2+1))) else some (.done (-1))
def rX (p0:List Bool) (p1:Bool):Option Int:=aG iF (p0,p1,bm p0.length,0)
def aU5:bJ:=⟨aC.cons (aK.sl kb) (aC.one aK.bool),aK.int .i64,fun a=>rX a.1 a.2,.pure,false⟩
theorem aLt:aI tab 275 aU5:=Oc aK3 rfl aH [] trivial fun a=>by kernel_rfl
def eN (p0:List Bool) (p1:Bool):Option Bool:=(rX p0 p1).bind fun n0=>some (decide (0<=n0))
def aU6:bJ:=⟨aC.cons (aK.sl kb) (aC.one aK.bool),aK.bool,fun a=>eN a.1 a.2,.pure,false⟩
theorem aLu:aI tab 237 aU6:=Oc aKI rfl aH [(275,aU5)] ⟨aLt,trivial⟩ fun a=>by kernel_rfl
def iB (s:((List Int)×Int×Int×(List Int)×(List Bool)×(List Int))):Option (bR ((List Int)×Int×Int×(List Int)×(List Bool)×(List Int)) aUX):=bif decide (s.2.2.1<s.2.1) then (aN s.1 s.2.2.1).bind fun n0=>bif decide (n0<0) then some (.done (.done 8)) else bif decide (1000000<n0) then some (.done (.done 8)) else bif n0==0 then (aN s.2.2.2.2.1 s.2.2.1).bind fun b1=>bif b1 then some (.done (.done 8)) else some (.next (s.1,s.2.1,aA .i64 (s.2.2.1+1),s.2.2.2)) else some (.next (s.1,s.2.1,aA .i64 (s.2.2.1+1),s.2.2.2)) else some (.done (.done 0))
def uG (c0:(List Bool)) (s:aUW):Option aUX:=match s with |(a,b,d,e,f,g,h,i)=>bif decide (d<b) then (aN a d).bind fun n0=>bif decide (n0<0) then bif i.length==i.length then bif i.length==c0.length then bif i.length==c0.length then bif decide (0<=d) then some (.done 8) else (eN i false).bind fun b1=>bif b1 then some (.done 8) else aG iB (e,bm e.length,0,e,f,g) else none else none else none else bif decide (h<=n0) then bif i.length==i.length then bif i.length==c0.length then bif i.length==c0.length then bif decide (0<=d) then some (.done 8) else (eN i false).bind fun b2=>bif b2 then some (.done 8) else aG iB (e,bm e.length,0,e,f,g) else none else none else none else (aN i n0).bind fun b3=>bif b3 then bif i.length==i.length then bif i.length==c0.length then bif i.length==c0.length then bif decide (0<=d) then some (.done 8) else (eN i false).bind fun b4=>bif b4 then some (.done 8) else aG iB (e,bm e.length,0,e,f,g) else none else none else none else (aN i n0).bind fun _=>bif ((cL i n0 true).length)==i.length then some (.next (a,b,aA .i64 (d+1),e,f,g,h,cL i n0 true)) else none else bif i.length==c0.length then bif i.length==c0.length then (eN i false).bind fun b6=>bif b6 then some (.done 8) else aG iB (e,bm e.length,0,e,f,g) else none else none
def tL (p0:bD):Option Int:=bif decide ((bm p0.ac.length)<1) then some 8 else bif decide (200<(bm p0.ac.length)) then some 8 else bif (bm p0.ae.length) !=(bm p0.ac.length) then some 8 else (bW p0.ae).bind fun l0=>aG (uG l0) (p0.af,bm p0.af.length,0,p0.ac,p0.ae,p0.af,bm p0.ac.length,l0)
def aLv:bJ:=⟨aC.one (aK.agg gT),aK.int .i64,fun a=>tL a,.pure,false⟩
theorem UG:aI tab 182 aLv:=aI.of aKa (cx:=(kY aH [(212,bJ.clone kb),(237,aU6)] [] [(187,aAt),(83,x83),(236,aIm)] [])) rfl (jA.make ⟨xV,aLu,trivial⟩ trivial ⟨MX,KY,aKH,trivial⟩) (fun a=>by kernel_rfl)
def CP (p0:Int×Int) (p1:Int×Int):Option Int:=(iE p0).bind fun n0=>(iE p1).bind fun n1=>some (if n1>n0 then n1 else n0)
def aU7:bJ:=⟨aC.cons (aK.agg (cY.row kL)) (aC.one (aK.agg (cY.row kL))),aK.int .i64,fun a=>CP a.1 a.2,.pure,false⟩
theorem aLw:aI tab 174 aU7:=Oc aJ4 rfl aH [(106,W9)] ⟨CO,trivial⟩ fun a=>by kernel_rfl
def pX (p0:Int):Option Bool:=some (p0 !=p0)
def aU8:bJ:=⟨aC.one (aK.int .i64),aK.bool,fun a=>pX a,.pure,false⟩
theorem aLx:aI tab 229 aU8:=Oc aKB rfl aH [] trivial fun a=>by kernel_rfl
def kT (p0:Int) (p1:Int):Option Int:=(pX p0).bind fun b0=>(pX p1).bind fun b1=>bif b0 then bif b1 then some 0 else some (-1) else bif b1 then some 1 else bif decide (p0<p1) then some (-1) else bif decide (p1<p0) then some 1 else some 0
def aSP:bJ:=⟨aC.cons (aK.int .i64) (aC.one (aK.int .i64)),aK.int .i64,fun a=>kT a.1 a.2,.pure,false⟩
theorem aBT:aI tab 175 aSP:=Oc aJ5 rfl aH [(229,aU8)] ⟨aLx,trivial⟩ fun a=>by kernel_rfl
def gR (p0:Int) (p1:Int):Option (Int×Int):=some (aA .u64 ((aA .u64 ((aA .u64 ((rL .u64 p0 32)*(rL .u64 p1 32)))+(rL .u64 (aA .u64 ((aA .u64 ((rL .u64 p0 32)*(HL .u64 p1 4294967295)))+(rL .u64 (aA .u64 ((HL .u64 p0 4294967295)*(HL .u64 p1 4294967295))) 32))) 32)))+(rL .u64 (aA .u64 ((HL .u64 (aA .u64 ((aA .u64 ((rL .u64 p0 32)*(HL .u64 p1 4294967295)))+(rL .u64 (aA .u64 ((HL .u64 p0 4294967295)*(HL .u64 p1 4294967295))) 32))) 4294967295)+(aA .u64 ((HL .u64 p0 4294967295)*(rL .u64 p1 32))))) 32)),aA .u64 (p0*p1))
def aLy:bJ:=⟨aC.cons (aK.int .u64) (aC.one (aK.int .u64)),aK.tup (aC.cons (aK.int .u64) (aC.one (aK.int .u64))),fun a=>gR a.1 a.2,.pure,false⟩
theorem UH:aI tab 140 aLy:=Oc aJD rfl aH [] trivial fun a=>by kernel_rfl
def vP (p0:Int) (p1:Int):Option (Bool×Int×Int):=(nJ p0).bind fun n0=>(nJ p1).bind fun n1=>(gR n0 n1).bind fun a2=>some (!((decide (p0<0))==(decide (p1<0))),a2)
def aU9:bJ:=⟨aC.cons (aK.int .i64) (aC.one (aK.int .i64)),aK.agg (cY.row EQ),fun a=>vP a.1 a.2,.pure,false⟩
theorem aLz:aI tab 177 aU9:=Oc aJ7 rfl aH [(166,aLq),(140,aLy)] ⟨UE,UH,trivial⟩ fun a=>by kernel_rfl
def oV (p0:Int):Option Bool:=some (p0 !=p0)
def aVa:bJ:=⟨aC.one (aK.int .u64),aK.bool,fun a=>oV a,.pure,false⟩
theorem aLA:aI tab 268 aVa:=Oc aKW rfl aH [] trivial fun a=>by kernel_rfl
def jY (p0:Int) (p1:Int):Option Int:=(oV p0).bind fun b0=>(oV p1).bind fun b1=>bif b0 then bif b1 then some 0 else some (-1) else bif b1 then some 1 else bif decide (p0<p1) then some (-1) else bif decide (p1<p0) then some 1 else some 0
def aVb:bJ:=⟨aC.cons (aK.int .u64) (aC.one (aK.int .u64)),aK.int .i64,fun a=>jY a.1 a.2,.pure,false⟩
theorem aLB:aI tab 230 aVb:=Oc aKC rfl aH [(268,aVa)] ⟨aLA,trivial⟩ fun a=>by kernel_rfl
def uH (p0:Bool×Int×Int) (p1:Bool×Int×Int):Option Int:=(jY p0.2.1 p1.2.1).bind fun n0=>bif n0 !=0 then some n0 else (jY p0.2.2 p1.2.2).bind fun n1=>some n1
def aVc:bJ:=⟨aC.cons (aK.agg (cY.row EQ)) (aC.one (aK.agg (cY.row EQ))),aK.int .i64,fun a=>uH a.1 a.2,.pure,false⟩
theorem aLC:aI tab 176 aVc:=Oc aJ6 rfl aH [(230,aVb)] ⟨aLB,trivial⟩ fun a=>by kernel_rfl
def F0 (p0:Int×Int) (p1:Int×Int):Option (Int×Int):=(CP p0 p1).bind fun n0=>bif n0 !=0 then some (0,n0) else bif !((decide (p0.1<0))==(decide (p1.1<0))) then (kT p0.1 p1.1).bind fun n1=>some (n1,0) else (vP p0.1 p1.2).bind fun a2=>(vP p1.1 p0.2).bind fun a3=>(uH a2 a3).bind fun n4=>bif decide (p0.1<0) then some (aA .i64 (0-n4),0) else some (n4,0)
def aVd:bJ:=⟨aC.cons (aK.agg (cY.row kL)) (aC.one (aK.agg (cY.row kL))),aK.tup (aC.cons (aK.int .i64) (aC.one (aK.int .i64))),fun a=>F0 a.1 a.2,.pure,false⟩
theorem aLD:aI tab 121 aVd:=Oc aJu rfl aH [(174,aU7),(175,aSP),(177,aU9),(176,aVc)] ⟨aLw,aBT,aLz,aLC,trivial⟩ fun a=>by kernel_rfl
def uI (p0:Int):Option Bool:=some (p0 !=p0)
def aVe:bJ:=⟨aC.one (aK.int .i64),aK.bool,fun a=>uI a,.pure,false⟩
theorem aLE:aI tab 168 aVe:=Oc aJ1 rfl aH [] trivial fun a=>by kernel_rfl
def eW (p0:Int) (p1:Int):Option Int:=(uI p0).bind fun b0=>(uI p1).bind fun b1=>bif b0 then bif b1 then some 0 else some (-1) else bif b1 then some 1 else bif decide (p0<p1) then some (-1) else bif decide (p1<p0) then some 1 else some 0
def XA:bJ:=⟨aC.cons (aK.int .i64) (aC.one (aK.int .i64)),aK.int .i64,fun a=>eW a.1 a.2,.pure,false⟩
theorem CQ:aI tab 111 XA:=Oc aJo rfl aH [(168,aVe)] ⟨aLE,trivial⟩ fun a=>by kernel_rfl
def AO (s:(Int×(List Int)×Int×Int)):Option (bR (Int×(List Int)×Int×Int) Int):=bif decide (s.2.2.2<s.2.2.1) then (aN s.2.1 s.2.2.2).bind fun n0=>bif n0 !=s.1 then some (.done n0) else some (.next (s.1,s.2.1,s.2.2.1,aA .i64 (s.2.2.2+1))) else some (.done s.1)
def xZ (p0:List Int):Option Int:=aG AO (0,p0,bm p0.length,0)
def aSQ:bJ:=⟨aC.one (aK.sl ki),aK.int .i64,fun a=>xZ a,.pure,false⟩
theorem aBU:aI tab 238 aSQ:=Oc aKJ rfl aH [] trivial fun a=>by kernel_rfl
def cN (p0:Int×Int×Int×Int×Int) (p1:Int×Int×Int×Int×Int):Option Int:=(F0 (p0.1,p0.2.1) (p1.1,p1.2.1)).bind fun a0=>(eW p0.2.2.1 p1.2.2.1).bind fun n1=>(xZ [a0.1,n1]).bind fun n2=>some n2
def aLF:bJ:=⟨aC.cons (aK.agg (cY.row mT)) (aC.one (aK.agg (cY.row mT))),aK.int .i64,fun a=>cN a.1 a.2,.pure,false⟩
theorem UI:aI tab 183 aLF:=Oc aKb rfl aH [(121,aVd),(111,XA),(238,aSQ)] ⟨aLD,CQ,aBU,trivial⟩ fun a=>by kernel_rfl
def kM (s:aUN):Option (bR aUN aUS):=bif decide (s.2.2.1<s.2.1) then (aN s.1 s.2.2.1).bind fun a0=>(iE (a0.1,a0.2.1)).bind fun n1=>bif n1 !=0 then some (.done (.done 8)) else bif decide (a0.2.2.1<0) then some (.done (.done 8)) else bif decide (1000000<a0.2.2.1) then some (.done (.done 8)) else (V9 s.2.2.2.2.2.2.2.2 [a0.2.2.1]).bind fun b2=>bif b2 then some (.done (.done 8)) else (WA s.2.2.2.2.2.2.2.2 [a0.2.2.1]).bind fun l3=>bif decide (0<s.2.2.1) then (aN s.2.2.2.2.2.2.1 (aA .i64 (bo (aA .i64 (s.2.2.1-1)) 2))).bind fun a4=>(cN a0 a4).bind fun n5=>bif decide (n5<0) then some (.done (.done 8)) else some (.next (s.1,s.2.1,aA .i64 (s.2.2.1+1),s.2.2.2.1,s.2.2.2.2.1,s.2.2.2.2.2.1,s.2.2.2.2.2.2.1,s.2.2.2.2.2.2.2.1,l3)) else some (.next (s.1,s.2.1,aA .i64 (s.2.2.1+1),s.2.2.2.1,s.2.2.2.2.1,s.2.2.2.2.2.1,s.2.2.2.2.2.2.1,s.2.2.2.2.2.2.2.1,l3)) else some (.done (.done 0))
def nG (s:aUR):Option aUS:=bif decide (s.2.2.1<s.2.1) then (aN s.1 s.2.2.1).bind fun n0=>(aN s.2.2.2.2.1 s.2.2.1).bind fun b1=>bif !b1 then bif n0 !=(-1) then some (.done 8) else some (.next (s.1,s.2.1,aA .i64 (s.2.2.1+1),s.2.2.2)) else bif decide (n0<0) then some (.done 8) else bif decide ((bm s.2.2.2.2.2.2.1.length)<=n0) then some (.done 8) else (aN s.2.2.2.2.2.2.1 n0).bind fun a2=>(aN s.2.2.2.1 s.2.2.1).bind fun n3=>bif !((a2.2.2.2.1==s.2.2.1)&&(a2.2.2.2.2==n3)) then some (.done 8) else some (.next (s.1,s.2.1,aA .i64 (s.2.2.1+1),s.2.2.2)) else aG kM (s.2.2.2.2.2.2.1,bm s.2.2.2.2.2.2.1.length,0,s.2.2.2.1,s.2.2.2.2.1,s.2.2.2.2.2.1,s.2.2.2.2.2.2.1,s.2.2.2.2.2.2.2,[])
def mV (p0:aP):Option Int:=(tL p0.ai).bind fun n0=>bif n0 !=0 then some 8 else bif (bm p0.am.length) !=(bm p0.ai.ae.length) then some 8 else bif (bm p0.aj.length) !=(aA .i64 ((bm p0.ai.ae.length) - (bm p0.ai.af.length))) then some 8 else aG nG (p0.am,bm p0.am.length,0,p0.ai.ac,p0.ai.ae,p0.ai.af,p0.aj,p0.am)
def aE9:bJ:=⟨aC.one (aK.agg dN),aK.int .i64,fun a=>mV a,.pure,false⟩
theorem MZ:aI tab 127 aE9:=Oc aJx rfl aH [(182,aLv),(106,W9),(183,aLF)] ⟨UG,CO,UI,trivial⟩ fun a=>by kernel_rfl
def AP (p0:Int×Int×Int) (p1:Int):Option Int:=(eW p0.1 p1).bind fun n0=>some n0
def aVf:bJ:=⟨aC.cons (aK.agg (cY.row fE)) (aC.one (aK.int .i64)),aK.int .i64,fun a=>AP a.1 a.2,.pure,false⟩
theorem aLG:aI tab 240 aVf:=Oc aKL rfl aH [(111,XA)] ⟨CQ,trivial⟩ fun a=>by kernel_rfl
def jL (s:QV):Option aE1:=bif decide (s.2.2.2.1<s.2.2.2.2) then (aN s.1 (aA .i64 (rL .u64 (aA .u64 (aA .i64 (s.2.2.2.1+s.2.2.2.2))) 1))).bind fun a0=>(AP a0 s.2.1).bind fun n1=>bif decide (n1<0) then some (.next (s.1,s.2.1,s.2.2.1,aA .i64 ((aA .i64 (rL .u64 (aA .u64 (aA .i64 (s.2.2.2.1+s.2.2.2.2))) 1))+1),s.2.2.2.2)) else some (.next (s.1,s.2.1,s.2.2.1,s.2.2.2.1,aA .i64 (rL .u64 (aA .u64 (aA .i64 (s.2.2.2.1+s.2.2.2.2))) 1))) else bif decide (s.2.2.2.1<s.2.2.1) then (aN s.1 s.2.2.2.1).bind fun a2=>(AP a2 s.2.1).bind fun n3=>some (.done (s.2.2.2.1,n3==0)) else some (.done (s.2.2.2.1,false))
def dH (p0:List (Int×Int×Int)) (p1:Int) (_:Unit):Option (Int×Bool):=aG jL (p0,p1,bm p0.length,0,bm p0.length)
def XB:bJ:=⟨aC.cons (aK.sl fE) (aC.cons (aK.int .i64) (aC.one (aK.clo 240 aC.nil))),aK.tup (aC.cons (aK.int .i64) (aC.one aK.bool)),fun a=>dH a.1 a.2.1 a.2.2,.pure,false⟩
theorem XC:aI tab 109 XB:=Oc T4 rfl aH [(240,aVf)] ⟨aLG,trivial⟩ fun a=>by kernel_rfl
def kU (p0:Field) (p1:Int):Option (Int×Int×Int):=(dH p0.aa p1 ()).bind fun a0=>bif !a0.2 then some (-1,0,0) else (aN p0.aa a0.1).bind fun a1=>some a1
def aLH:bJ:=⟨aC.cons (aK.agg cA) (aC.one (aK.int .i64)),aK.agg (cY.row fE),fun a=>kU a.1 a.2,.pure,false⟩
theorem UJ:aI tab 185 aLH:=Oc aKd rfl aH [(109,XB)] ⟨XC,trivial⟩ fun a=>by kernel_rfl
def tM (p0:Int×Int×Int) (p1:Int×Int×Int) (p2:Int×Int):Option Int:=(oU p0).bind fun n0=>(oU p1).bind fun n1=>(iE p2).bind fun n2=>bif (if n2>(if n1>n0 then n1 else n0) then n2 else if n1>n0 then n1 else n0) !=0 then some (if n2>(if n1>n0 then n1 else n0) then n2 else if n1>n0 then n1 else n0) else bif p0.1==p1.1 then some 2 else some 0
def aLI:bJ:=⟨aC.cons (aK.agg (cY.row fE)) (aC.cons (aK.agg (cY.row fE)) (aC.one (aK.agg (cY.row kL)))),aK.int .i64,fun a=>tM a.1 a.2.1 a.2.2,.pure,false⟩
theorem UK:aI tab 227 aLI:=Oc aKz rfl aH [(58,c58),(106,W9)] ⟨aE8,CO,trivial⟩ fun a=>by kernel_rfl
def pM (s:(Int×Int×Int×Int×Int×Int×Int×Int×Int)):Option (bR (Int×Int×Int×Int×Int×Int×Int×Int×Int) (Int×Int)):=bif decide (s.2.2.2.2.1<2) then bif s.2.2.2.2.1==0 then (gR (aA .u64 s.1) (aA .u64 s.2.1)).bind fun a0=>bif decide (s.1<0) then bif decide (s.2.1<0) then (tJ s.2.2.2.2.2.2.2.2 a0.2 0).bind fun a1=>some (.next (s.1,s.2.1,s.2.2.1,s.2.2.2.1,aA .i64 (s.2.2.2.2.1+1),s.2.2.2.2.2.1,s.2.2.2.2.2.2.1,aA .i64 ((aA .i64 (s.2.2.2.2.2.2.2.1+(aA .i64 ((aA .i64 ((aA .i64 a0.1) -s.2.1)) -s.1))))+(aA .i64 a1.2)),a1.1)) else (tJ s.2.2.2.2.2.2.2.2 a0.2 0).bind fun a2=>some (.next (s.1,s.2.1,s.2.2.1,s.2.2.2.1,aA .i64 (s.2.2.2.2.1+1),s.2.2.2.2.2.1,s.2.2.2.2.2.2.1,aA .i64 ((aA .i64 (s.2.2.2.2.2.2.2.1+(aA .i64 ((aA .i64 a0.1) -s.2.1))))+(aA .i64 a2.2)),a2.1)) else bif decide (s.2.1<0) then (tJ s.2.2.2.2.2.2.2.2 a0.2 0).bind fun a3=>some (.next (s.1,s.2.1,s.2.2.1,s.2.2.2.1,aA .i64 (s.2.2.2.2.1+1),s.2.2.2.2.2.1,s.2.2.2.2.2.2.1,aA .i64 ((aA .i64 (s.2.2.2.2.2.2.2.1+(aA .i64 ((aA .i64 a0.1) -s.1))))+(aA .i64 a3.2)),a3.1)) else (tJ s.2.2.2.2.2.2.2.2 a0.2 0).bind fun a4=>some (.next (s.1,s.2.1,s.2.2.1,s.2.2.2.1,aA .i64 (s.2.2.2.2.1+1),s.2.2.2.2.2.1,s.2.2.2.2.2.2.1,aA .i64 ((aA .i64 (s.2.2.2.2.2.2.2.1+(aA .i64 a0.1)))+(aA .i64 a4.2)),a4.1)) else bif s.2.2.2.2.1==1 then (gR (aA .u64 s.2.2.1) (aA .u64 s.2.2.2.1)).bind fun a5=>bif decide (s.2.2.1<0) then bif decide (s.2.2.2.1<0) then (tJ s.2.2.2.2.2.2.2.2 a5.2 0).bind fun a6=>some (.next (s.1,s.2.1,s.2.2.1,s.2.2.2.1,aA .i64 (s.2.2.2.2.1+1),s.2.2.2.2.2.1,s.2.2.2.2.2.2.1,aA .i64 ((aA .i64 (s.2.2.2.2.2.2.2.1+(aA .i64 ((aA .i64 ((aA .i64 a5.1) -s.2.2.2.1)) -s.2.2.1))))+(aA .i64 a6.2)),a6.1)) else (tJ s.2.2.2.2.2.2.2.2 a5.2 0).bind fun a7=>some (.next (s.1,s.2.1,s.2.2.1,s.2.2.2.1,aA .i64 (s.2.2.2.2.1+1),s.2.2.2.2.2.1,s.2.2.2.2.2.2.1,aA .i64 ((aA .i64 (s.2.2.2.2.2.2.2.1+(aA .i64 ((aA .i64 a5.1) -s.2.2.2.1))))+(aA .i64 a7.2)),a7.1)) else bif decide (s.2.2.2.1<0) then (tJ s.2.2.2.2.2.2.2.2 a5.2 0).bind fun a8=>some (.next (s.1,s.2.1,s.2.2.1,s.2.2.2.1,aA .i64 (s.2.2.2.2.1+1),s.2.2.2.2.2.1,s.2.2.2.2.2.2.1,aA .i64 ((aA .i64 (s.2.2.2.2.2.2.2.1+(aA .i64 ((aA .i64 a5.1) -s.2.2.1))))+(aA .i64 a8.2)),a8.1)) else (tJ s.2.2.2.2.2.2.2.2 a5.2 0).bind fun a9=>some (.next (s.1,s.2.1,s.2.2.1,s.2.2.2.1,aA .i64 (s.2.2.2.2.1+1),s.2.2.2.2.2.1,s.2.2.2.2.2.2.1,aA .i64 ((aA .i64 (s.2.2.2.2.2.2.2.1+(aA .i64 a5.1)))+(aA .i64 a9.2)),a9.1)) else none else some (.done s.2.2.2.2.2.2.2)
def CR (p0:Int×Int×Int×Int):Option (Int×Int):=aG pM (p0.1,p0.2.1,p0.2.2.1,p0.2.2.2,0,0,0,0,0)
def aVg:bJ:=⟨aC.one (aK.agg (cY.row aUA)),aK.agg (cY.row kiu),fun a=>CR a,.pure,false⟩
theorem aLJ:aI tab 267 aVg:=Oc aKV rfl aH [(140,aLy),(289,bJ.add64)] ⟨UH,aE0,trivial⟩ fun a=>by kernel_rfl
def oD (p0:Int×Int×Int) (p1:Int×Int×Int) (p2:Int×Int):Option Int:=(CR (aA .i64 (p0.2.1-p1.2.1),p2.2,aA .i64 (p0.2.2-p1.2.2),p2.1)).bind fun a0=>bif !((a0.1==0)&&(a0.2==0)) then bif decide (a0.1<0) then some (-1) else some 1 else (kT p0.2.2 p1.2.2).bind fun n1=>(eW p1.1 p0.1).bind fun n2=>(xZ [n1,n2]).bind fun n3=>some n3
def aSR:bJ:=⟨aC.cons (aK.agg (cY.row fE)) (aC.cons (aK.agg (cY.row fE)) (aC.one (aK.agg (cY.row kL)))),aK.int .i64,fun a=>oD a.1 a.2.1 a.2.2,.pure,false⟩
theorem aBV:aI tab 228 aSR:=Oc aKA rfl aH [(267,aVg),(175,aSP),(111,XA),(238,aSQ)] ⟨aLJ,aBT,CQ,aBU,trivial⟩ fun a=>by kernel_rfl
def EV (p0:Bool×Int×Int) (p1:Int) (p2:Int):Option ((Int×Int)×Int):=bif decide (0<p0.2.1) then some ((0,0),16) else bif decide (9223372036854775807<p0.2.2) then some ((0,0),16) else bif decide (0<p1) then some ((0,0),16) else bif decide (9223372036854775807<p2) then some ((0,0),16) else bif p0.1 then some ((aA .i64 (0- (aA .i64 p0.2.2)),aA .i64 p2),0) else some ((aA .i64 p0.2.2,aA .i64 p2),0)
def aVh:bJ:=⟨aC.cons (aK.agg (cY.row EQ)) (aC.cons (aK.int .u64) (aC.one (aK.int .u64))),aK.tup (aC.cons (aK.agg (cY.row kL)) (aC.one (aK.int .i64))),fun a=>EV a.1 a.2.1 a.2.2,.pure,false⟩
theorem aLK:aI tab 294 aVh:=Oc aLe rfl aH [] trivial fun a=>by kernel_rfl
def CS (p0:Int) (p1:Int):Option ((Int×Int)×Int):=bif p1==0 then some ((0,0),26) else (nJ p0).bind fun n0=>(nJ p1).bind fun n1=>(BN n0 n1).bind fun n2=>(nJ p0).bind fun n3=>bif n2==0 then none else (nJ p1).bind fun n4=>bif n2==0 then none else (EV (!((decide (p0<0))==(decide (p1<0))),0,aA .u64 (bo n3 n2)) 0 (aA .u64 (bo n4 n2))).bind fun a5=>some a5
def aVi:bJ:=⟨aC.cons (aK.int .i64) (aC.one (aK.int .i64)),aK.tup (aC.cons (aK.agg (cY.row kL)) (aC.one (aK.int .i64))),fun a=>CS a.1 a.2,.pure,false⟩
theorem aLL:aI tab 276 aVi:=Oc aK4 rfl aH [(166,aLq),(165,aSN),(294,aVh)] ⟨UE,aBR,aLK,trivial⟩ fun a=>by kernel_rfl
def EW (p0:Int×Int×Int) (p1:Int×Int×Int):Option ((Int×Int)×Int):=(tM p0 p1 (0,1)).bind fun n0=>bif n0 !=0 then some ((0,0),n0) else bif p0.2.2==p1.2.2 then some ((0,0),6) else (CS (aA .i64 (p0.2.1-p1.2.1)) (aA .i64 (p1.2.2-p0.2.2))).bind fun a1=>some a1
def aVj:bJ:=⟨aC.cons (aK.agg (cY.row fE)) (aC.one (aK.agg (cY.row fE))),aK.tup (aC.cons (aK.agg (cY.row kL)) (aC.one (aK.int .i64))),fun a=>EW a.1 a.2,.pure,false⟩
theorem aLM:aI tab 239 aVj:=Oc aKK rfl aH [(227,aLI),(276,aVi)] ⟨UK,aLL,trivial⟩ fun a=>by kernel_rfl
def wZ (p0:Int×Int×Int) (p1:Int×Int×Int) (p2:Int×Int):Option ((Int×Int)×Bool×Int):=(tM p0 p1 p2).bind fun n0=>bif n0 !=0 then some ((0,0),false,n0) else (oD p1 p0 p2).bind fun n1=>bif decide (0<n1) then some (p2,true,0) else bif decide (p1.2.2<=p0.2.2) then some ((0,0),false,0) else (EW p0 p1).bind fun a2=>some (a2.1,a2.2==0,a2.2)
def aVk:bJ:=⟨aC.cons (aK.agg (cY.row fE)) (aC.cons (aK.agg (cY.row fE)) (aC.one (aK.agg (cY.row kL)))),aK.tup (aC.cons (aK.agg (cY.row kL)) (aC.cons aK.bool (aC.one (aK.int .i64)))),fun a=>wZ a.1 a.2.1 a.2.2,.pure,false⟩
theorem aLN:aI tab 184 aVk:=Oc aKc rfl aH [(227,aLI),(228,aSR),(239,aVj)] ⟨UK,aBV,aLM,trivial⟩ fun a=>by kernel_rfl
def tN (p0:Field) (p1:Int×Int) (p2:Int×Int):Option ((Int×Int)×Bool×Int):=(kU p0 p1.2).bind fun a0=>(kU p0 p1.1).bind fun a1=>(wZ a0 a1 p2).bind fun a2=>some a2
def aLO:bJ:=⟨aC.cons (aK.agg cA) (aC.cons (aK.agg (cY.row kL)) (aC.one (aK.agg (cY.row kL)))),aK.tup (aC.cons (aK.agg (cY.row kL)) (aC.cons aK.bool (aC.one (aK.int .i64)))),fun a=>tN a.1 a.2.1 a.2.2,.pure,false⟩
theorem UL:aI tab 128 aLO:=Oc aJy rfl aH [(185,aLH),(184,aVk)] ⟨UJ,aLN,trivial⟩ fun a=>by kernel_rfl
def dA (s:Zt8):Option (bR Zt8 aUF):=bif decide (s.2.2.2.1<s.2.2.1) then (aN s.2.1 s.2.2.2.1).bind fun a0=>(tN (Field.mk s.2.2.2.2.2.2.1) a0.2 (s.2.2.2.2.1,s.2.2.2.2.2.1)).bind fun a1=>bif a1.2.2 !=0 then some (.done (.done 8)) else bif !a1.2.1 then some (.next (s.1,s.2.1,s.2.2.1,aA .i64 (s.2.2.2.1+1),s.2.2.2.2)) else bif (bm s.1.length)==0 then some (.done (.done 8)) else (aN s.1 0).bind fun a2=>bif a2.1 !=a0.1 then some (.done (.done 8)) else (aN s.1 0).bind fun a3=>bif decide (a3.2.1<0) then some (.done (.done 8)) else bif decide (200<=a3.2.1) then some (.done (.done 8)) else (aN s.2.2.2.2.2.2.2.2.2.2.2.2.2.1 a3.2.1).bind fun n4=>bif decide (n4<0) then some (.done (.done 8)) else (aN s.2.2.2.2.2.2.2.2.2.2.2.2.2.1 a3.2.1).bind fun n5=>(aN s.2.2.2.2.2.2.2.2.2.2.2.2.1 n5).bind fun a6=>bif !((a6.1==a1.1.1)&&((a6.2.1==a1.1.2)&&((a6.2.2.1==a0.1)&&((a6.2.2.2.1==a3.2.1)&&(a6.2.2.2.2==a3.2.2))))) then some (.done (.done 8)) else (gW s.1 1 (bm s.1.length)).bind fun l7=>some (.next (l7,s.2.1,s.2.2.1,aA .i64 (s.2.2.2.1+1),s.2.2.2.2)) else bif decide (0<(bm s.1.length)) then some (.done (.done 8)) else some (.done (.done 0))
def fN (s:aUE):Option aUF:=match s with |(a,b,d,e,f,g,h,i,j,k,l,m,n,o)=>bif decide (b<a) then (aN o b).bind fun n0=>bif n0 !=0 then some (.done 8) else some (.next (a,aA .i64 (b+1),(d,e,f,g,h,i,j,k,l,m,n,o))) else bif (bm m.length) !=200 then some (.done 8) else bif (bm l.length) !=(bm n.length) then some (.done 8) else aG dA (n,h,bm h.length,0,d,e,f,g,h,i,j,k,l,m,n)
def iG (p0:aR):Option Int:=(iE p0.ar).bind fun n0=>(fI p0.au).bind fun n1=>(tK p0.ax).bind fun n2=>(mV p0.ay).bind fun n3=>aG fN (bm ([n0,n1,n2,n3].length),0,p0.ar.1,p0.ar.2,p0.au.aa,p0.ax.ao,p0.ax.aq,p0.ay.ai.ac,p0.ay.ai.ae,p0.ay.ai.af,p0.ay.aj,p0.ay.am,p0.az,[n0,n1,n2,n3])
def c74:bJ:=⟨aC.one (aK.agg bX),aK.int .i64,fun a=>iG a,.pure,false⟩
theorem O3:aI tab 74 c74:=Oc aSd rfl aH [(106,W9),(57,c57),(126,aLs),(127,aE9),(128,aLO)] ⟨CO,O2,UF,MZ,UL,trivial⟩ fun a=>by kernel_rfl
def wK (p0:Int):Option Bool:=bif decide ((-1)<=p0) then some (decide (p0<=65535)) else some false
def aVl:bJ:=⟨aC.one (aK.int .i64),aK.bool,fun a=>wK a,.pure,false⟩
theorem aLP:aI tab 131 aVl:=Oc aJz rfl aH [] trivial fun a=>by kernel_rfl
def jG (p0:bH) (p1:Int):Option Int:=bif decide (0<=(aA .i64 (p1- (bm p0.bc.length)))) then (aN p0.ba (aA .i64 (p1- (bm p0.bc.length)))).bind fun n0=>some n0 else (aN p0.bc p1).bind fun n1=>some n1
def aSS:bJ:=⟨aC.cons (aK.agg eF) (aC.one (aK.int .i64)),aK.int .i64,fun a=>jG a.1 a.2,.pure,false⟩
theorem aBW:aI tab 132 aSS:=Oc aJA rfl aH [] trivial fun a=>by kernel_rfl
def jM (s:aE4):Option (bR aE4 aUM):=bif decide (s.2.2.1<s.2.1) then (aN s.1 s.2.2.1).bind fun n0=>(jG (bH.mk s.2.2.2.1 s.2.2.2.2) (aA .i64 ((aA .i64 (2*s.2.2.1))+1))).bind fun n1=>(jG (bH.mk s.2.2.2.1 s.2.2.2.2) (aA .i64 ((aA .i64 (2*s.2.2.1))+2))).bind fun n2=>bif n0 !=n1 then bif n0 !=n2 then some (.done (.done (.done 8))) else bif decide (n0<0) then bif decide (0<=(if n2>n1 then n2 else n1)) then some (.done (.done (.done 8))) else some (.next (s.1,s.2.1,aA .i64 (s.2.2.1+1),s.2.2.2)) else some (.next (s.1,s.2.1,aA .i64 (s.2.2.1+1),s.2.2.2)) else bif decide (n0<0) then bif decide (0<=(if n2>n1 then n2 else n1)) then some (.done (.done (.done 8))) else some (.next (s.1,s.2.1,aA .i64 (s.2.2.1+1),s.2.2.2)) else some (.next (s.1,s.2.1,aA .i64 (s.2.2.1+1),s.2.2.2)) else some (.done (.done (.done 0)))
def jN (s:aLj):Option aUM:=bif decide (s.2.2.1<s.2.1) then (aN s.1 s.2.2.1).bind fun n0=>(wK n0).bind fun b1=>bif !b1 then bif !(!(decide (0<=s.2.2.1))) then some (.done (.done 8)) else aG jM (s.2.2.2.2.1,bm s.2.2.2.2.1.length,0,s.2.2.2.1,s.2.2.2.2.1) else some (.next (s.1,s.2.1,aA .i64 (s.2.2.1+1),s.2.2.2)) else aG jM (s.2.2.2.2.1,bm s.2.2.2.2.1.length,0,s.2.2.2.1,s.2.2.2.2.1)
def oW (s:aLj):Option aUL:=bif decide (s.2.2.1<s.2.1) then (aN s.1 s.2.2.1).bind fun n0=>bif !(!(vJ false s.2.2.2.2.2 n0)) then bif !(!(decide (0<=s.2.2.1))) then some (.done 8) else aG jN (s.2.2.2.1,bm s.2.2.2.1.length,0,s.2.2.2.1,s.2.2.2.2.1,sZ s.2.2.2.2.2 n0 (decide (0<=n0))) else some (.next (s.1,s.2.1,aA .i64 (s.2.2.1+1),s.2.2.2.1,s.2.2.2.2.1,sZ s.2.2.2.2.2 n0 (decide (0<=n0)))) else aG jN (s.2.2.2.1,bm s.2.2.2.1.length,0,s.2.2.2)
def pN (p0:bH):Option Int:=bif decide ((bm p0.ba.length)<1) then some 8 else bif decide (64<(bm p0.ba.length)) then some 8 else bif (bm p0.bc.length) !=(aA .i64 ((bm p0.ba.length) -1)) then some 8 else aG oW (p0.ba,bm p0.ba.length,0,p0.ba,p0.bc,sZ [] (-1) false)
def c75:bJ:=⟨aC.one (aK.agg eF),aK.int .i64,fun a=>pN a,.pure,false⟩
theorem aST:aI tab 75 c75:=aI.of aSe (cx:=(kY aH [(131,aVl),(132,aSS)] [] [(129,aEM),(130,aC7),(187,aAt),(83,x83),(188,aC8),(186,aEN)] [])) rfl (jA.make ⟨aLP,aBW,trivial⟩ trivial ⟨aBD,T5,MX,KY,T7,aBI,trivial⟩) (fun a=>by kernel_rfl)
def yA (p0:Int) (p1:Int×Int×Int):Option Bool:=some (p0==p1.1)
def c79:bJ:=⟨aC.cons (aK.int .i64) (aC.one (aK.agg (cY.row fE))),aK.bool,fun a=>yA a.1 a.2,.pure,false⟩
theorem aSU:aI tab 79 c79:=Oc aSi rfl aH [] trivial fun a=>by kernel_rfl
def cJ (s:(cI×(List Int)×Int×Int)):Option (bR (cI×(List Int)×Int×Int) Bool):=bif decide (s.2.2.2<s.2.2.1) then (aN s.2.1 s.2.2.2).bind fun n0=>(aN s.1 s.2.2.2).bind fun a1=>(yA n0 a1).bind fun b2=>bif !b2 then some (.done false) else some (.next (s.1,s.2.1,s.2.2.1,aA .i64 (s.2.2.2+1))) else some (.done true)
def cR (p0:List Int) (p1:List (Int×Int×Int)) (_:Unit):Option Bool:=bif (bm p0.length) !=(bm p1.length) then some false else aG cJ (p1,p0,bm p0.length,0)
def aFa:bJ:=⟨aC.cons (aK.sl ki) (aC.cons (aK.sl fE) (aC.one (aK.clo 79 aC.nil))),aK.bool,fun a=>cR a.1 a.2.1 a.2.2,.pure,false⟩
theorem aDg:aI tab 78 aFa:=Oc aSh rfl aH [(79,c79)] ⟨aSU,trivial⟩ fun a=>by kernel_rfl
def AQ (p0:Field) (p1:Int×Int):Option Int:=(fI p0).bind fun n0=>bif n0 !=0 then some n0 else (iE p1).bind fun n1=>some n1
def aVm:bJ:=⟨aC.cons (aK.agg cA) (aC.one (aK.agg (cY.row kL))),aK.int .i64,fun a=>AQ a.1 a.2,.pure,false⟩
theorem aLQ:aI tab 141 aVm:=Oc aJE rfl aH [(57,c57),(106,W9)] ⟨O2,CO,trivial⟩ fun a=>by kernel_rfl
def yB (p0:Int×Int×Int) (p1:Int):Option Int:=(eW p0.1 p1).bind fun n0=>some n0
def aVn:bJ:=⟨aC.cons (aK.agg (cY.row fE)) (aC.one (aK.int .i64)),aK.int .i64,fun a=>yB a.1 a.2,.pure,false⟩
theorem aLR:aI tab 246 aVn:=Oc aKM rfl aH [(111,XA)] ⟨CQ,trivial⟩ fun a=>by kernel_rfl
def jH (s:QV):Option aE1:=bif decide (s.2.2.2.1<s.2.2.2.2) then (aN s.1 (aA .i64 (rL .u64 (aA .u64 (aA .i64 (s.2.2.2.1+s.2.2.2.2))) 1))).bind fun a0=>(yB a0 s.2.1).bind fun n1=>bif decide (n1<0) then some (.next (s.1,s.2.1,s.2.2.1,aA .i64 ((aA .i64 (rL .u64 (aA .u64 (aA .i64 (s.2.2.2.1+s.2.2.2.2))) 1))+1),s.2.2.2.2)) else some (.next (s.1,s.2.1,s.2.2.1,s.2.2.2.1,aA .i64 (rL .u64 (aA .u64 (aA .i64 (s.2.2.2.1+s.2.2.2.2))) 1))) else bif decide (s.2.2.2.1<s.2.2.1) then (aN s.1 s.2.2.2.1).bind fun a2=>(yB a2 s.2.1).bind fun n3=>some (.done (s.2.2.2.1,n3==0)) else some (.done (s.2.2.2.1,false))
def dF (p0:List (Int×Int×Int)) (p1:Int) (_:Unit):Option (Int×Bool):=aG jH (p0,p1,bm p0.length,0,bm p0.length)
def XD:bJ:=⟨aC.cons (aK.sl fE) (aC.cons (aK.int .i64) (aC.one (aK.clo 246 aC.nil))),aK.tup (aC.cons (aK.int .i64) (aC.one aK.bool)),fun a=>dF a.1 a.2.1 a.2.2,.pure,false⟩
theorem XE:aI tab 109 XD:=Oc T4 rfl aH [(246,aVn)] ⟨aLR,trivial⟩ fun a=>by kernel_rfl
def kV (p0:Field) (p1:Int):Option (Int×Bool):=(dF p0.aa p1 ()).bind fun a0=>some a0
def aSV:bJ:=⟨aC.cons (aK.agg cA) (aC.one (aK.int .i64)),aK.tup (aC.cons (aK.int .i64) (aC.one aK.bool)),fun a=>kV a.1 a.2,.pure,false⟩
theorem aBX:aI tab 203 aSV:=Oc aKg rfl aH [(109,XD)] ⟨XE,trivial⟩ fun a=>by kernel_rfl
def oX (s:((List Int)×Int×Int×cI)):Option (bR ((List Int)×Int×Int×cI) Bool):=bif decide (s.2.2.1<s.2.1) then (aN s.1 s.2.2.1).bind fun n0=>(kV (Field.mk s.2.2.2) n0).bind fun a1=>bif a1.2 then some (.next (s.1,s.2.1,aA .i64 (s.2.2.1+1),s.2.2.2)) else bif !(n0==(-1)) then some (.done (!(decide (0<=s.2.2.1)))) else some (.next (s.1,s.2.1,aA .i64 (s.2.2.1+1),s.2.2.2)) else some (.done (!(decide (0<=(-1)))))
def uJ (p0:Field) (p1:List Int):Option Bool:=aG oX (p1,bm p1.length,0,p0.aa)
def aVo:bJ:=⟨aC.cons (aK.agg cA) (aC.one (aK.sl ki)),aK.bool,fun a=>uJ a.1 a.2,.pure,false⟩
theorem aLS:aI tab 142 aVo:=aI.of aJF (cx:=(kY aH [(203,aSV)] [] [(130,aC7),(187,aAt),(83,x83),(188,aC8),(202,aHV)] [])) rfl (jA.make ⟨aBX,trivial⟩ trivial ⟨T5,MX,KY,T7,aKf,trivial⟩) (fun a=>by kernel_rfl)
def rY (p0:Int×Int×Int) (p1:Int×Int×Int) (p2:Int×Int):Option (Bool×Int):=(tM p0 p1 p2).bind fun n0=>bif n0 !=0 then some (false,n0) else (oD p0 p1 p2).bind fun n1=>some (decide (0<n1),0)
def aVp:bJ:=⟨aC.cons (aK.agg (cY.row fE)) (aC.cons (aK.agg (cY.row fE)) (aC.one (aK.agg (cY.row kL)))),aK.tup (aC.cons aK.bool (aC.one (aK.int .i64))),fun a=>rY a.1 a.2.1 a.2.2,.pure,false⟩
theorem aLT:aI tab 172 aVp:=Oc aJ2 rfl aH [(227,aLI),(228,aSR)] ⟨UK,aBV,trivial⟩ fun a=>by kernel_rfl
def qX (p0:Field) (p1:Int×Int) (p2:Int) (p3:Int):Option Int:=bif decide ((if p3<p2 then p3 else p2)<0) then some (if p3>p2 then p3 else p2) else (kV p0 p2).bind fun a0=>(kV p0 p3).bind fun a1=>(aN p0.aa a0.1).bind fun a2=>(aN p0.aa a1.1).bind fun a3=>(rY a2 a3 p1).bind fun a4=>bif a4.1 then some p2 else some p3
def aVq:bJ:=⟨aC.cons (aK.agg cA) (aC.cons (aK.agg (cY.row kL)) (aC.cons (aK.int .i64) (aC.one (aK.int .i64)))),aK.int .i64,fun a=>qX a.1 a.2.1 a.2.2.1 a.2.2.2,.pure,false⟩
theorem aLU:aI tab 143 aVq:=Oc aJG rfl aH [(203,aSV),(172,aVp)] ⟨aBX,aLT,trivial⟩ fun a=>by kernel_rfl
def K0 (s:aDd):Option (bR aDd (bH×Int)):=bif decide (0<=s.1) then (jG (bH.mk s.2.2.2.2.1 s.2.2.2.2.2) (aA .i64 ((aA .i64 (2*s.1))+1))).bind fun n0=>(jG (bH.mk s.2.2.2.2.1 s.2.2.2.2.2) (aA .i64 ((aA .i64 (2*s.1))+2))).bind fun n1=>(qX (Field.mk s.2.1) (s.2.2.1,s.2.2.2.1) n0 n1).bind fun n2=>(aN s.2.2.2.2.2 s.1).bind fun _=>some (.next (aA .i64 (s.1-1),s.2.1,s.2.2.1,s.2.2.2.1,s.2.2.2.2.1,cL s.2.2.2.2.2 s.1 n2)) else some (.done (bH.mk s.2.2.2.2.1 s.2.2.2.2.2,0))
def jO (s:aDd):Option (bR aDd aUU):=bif decide (0<=s.1) then (jG (bH.mk s.2.2.2.2.1 s.2.2.2.2.2) (aA .i64 ((aA .i64 (2*s.1))+1))).bind fun n0=>(jG (bH.mk s.2.2.2.2.1 s.2.2.2.2.2) (aA .i64 ((aA .i64 (2*s.1))+2))).bind fun n1=>(qX (Field.mk s.2.1) (s.2.2.1,s.2.2.2.1) n0 n1).bind fun n2=>(aN s.2.2.2.2.2 s.1).bind fun _=>some (.next (aA .i64 (s.1-1),s.2.1,s.2.2.1,s.2.2.2.1,s.2.2.2.2.1,cL s.2.2.2.2.2 s.1 n2)) else some (.done (.done (bH.mk s.2.2.2.2.1 s.2.2.2.2.2,0)))
def oY (c0:Int) (c1:(List Int)) (s:aUT):Option aUU:=bif decide (s.2.2.1<s.2.1) then (aN s.1 s.2.2.1).bind fun n0=>bif !(!(vJ false s.2.2.2.2.2.2 n0)) then bif !(!(decide (0<=s.2.2.1))) then some (.done (bH.mk [] [],14)) else bif c0 !=0 then some (.done (bH.mk [] [],c0)) else (bW c1).bind fun l1=>bif (aA .i64 ((bm c1.length) -1))==(aA .i64 ((bm c1.length) -1)) then (GR (aA .i64 ((bm c1.length) -1)) (0:Int)).bind fun l2=>aG jO (aA .i64 ((bm l2.length) -1),s.2.2.2.1,s.2.2.2.2.1,s.2.2.2.2.2.1,l1,l2) else none else some (.next (s.1,s.2.1,aA .i64 (s.2.2.1+1),s.2.2.2.1,s.2.2.2.2.1,s.2.2.2.2.2.1,sZ s.2.2.2.2.2.2 n0 (decide (0<=n0)))) else bif c0 !=0 then some (.done (bH.mk [] [],c0)) else (bW c1).bind fun l3=>bif (aA .i64 ((bm c1.length) -1))==(aA .i64 ((bm c1.length) -1)) then (GR (aA .i64 ((bm c1.length) -1)) (0:Int)).bind fun l4=>aG jO (aA .i64 ((bm l4.length) -1),s.2.2.2.1,s.2.2.2.2.1,s.2.2.2.2.2.1,l3,l4) else none
def pO (p0:Field) (p1:Int×Int) (p2:List Int):Option (bH×Int):=(AQ p0 p1).bind fun n0=>bif n0 !=0 then bif n0 !=0 then some (bH.mk [] [],n0) else (bW p2).bind fun l1=>bif (aA .i64 ((bm p2.length) -1))==(aA .i64 ((bm p2.length) -1)) then (GR (aA .i64 ((bm p2.length) -1)) (0:Int)).bind fun l2=>aG K0 (aA .i64 ((bm l2.length) -1),p0.aa,p1.1,p1.2,l1,l2) else none else bif decide ((bm p2.length)<1) then some (bH.mk [] [],2) else bif decide (64<(bm p2.length)) then some (bH.mk [] [],2) else (uJ p0 p2).bind fun b3=>bif !b3 then some (bH.mk [] [],6) else aG (oY n0 p2) (p2,bm p2.length,0,p0.aa,p1.1,p1.2,sZ [] (-1) false)
def c85:bJ:=⟨aC.cons (aK.agg cA) (aC.cons (aK.agg (cY.row kL)) (aC.one (aK.sl ki))),aK.tup (aC.cons (aK.agg eF) (aC.one (aK.int .i64))),fun a=>pO a.1 a.2.1 a.2.2,.frz,false⟩
theorem aFb:aI tab 85 c85:=aI.of aSn (cx:=(kY aH [(141,aVm),(142,aVo),(32,bJ.clone ki),(132,aSS),(143,aVq)] [] [(129,aEM),(130,aC7),(187,aAt),(83,x83),(188,aC8),(186,aEN)] [])) rfl (jA.make ⟨aLQ,aLS,pW,aBW,aLU,trivial⟩ trivial ⟨aBD,T5,MX,KY,T7,aBI,trivial⟩) (fun a=>by kernel_rfl)
def QW (p0:Int) (p1:bH):Option Int:=bif decide (p0<(bm p1.bc.length)) then (aN p1.bc p0).bind fun n0=>some n0 else (aN p1.ba (aA .i64 (p0- (bm p1.bc.length)))).bind fun n1=>some n1
def aVr:bJ:=⟨aC.cons (aK.int .i64) (aC.one (aK.ref eF)),aK.int .i64,fun a=>QW a.1 a.2,.pure,false⟩
theorem aLV:aI tab 135 aVr:=Oc aBE rfl aH [] trivial fun a=>by kernel_rfl
def oE (s:((List Int)×Int×Int×(List Int)×(List Int)×sW)):Option (bR ((List Int)×Int×Int×(List Int)×(List Int)×sW) (bH×sW)):=match s with |(a,b,d,e,f,g)=>bif decide (d<b) then (aN a d).bind fun n0=>bif decide ((aA .i64 ((aA .i64 (2*d))+1))<(bm f.length)) then (aN f (aA .i64 ((aA .i64 (2*d))+1))).bind fun n1=>bif g.length==g.length then bif decide ((aA .i64 ((aA .i64 (2*d))+2))<(bm f.length)) then (aN f (aA .i64 ((aA .i64 (2*d))+2))).bind fun n2=>bif g.length==g.length then bif decide (0<=n1) then bif decide (0<=n2) then (bP g [(aA .i64 ((aA .i64 (n1+n2)) -n0),n0)]).bind fun l3=>some (.next (a,b,aA .i64 (d+1),e,f,l3)) else some (.next (a,b,aA .i64 (d+1),(e,f,g))) else some (.next (a,b,aA .i64 (d+1),(e,f,g))) else none else (aN e (aA .i64 ((aA .i64 ((aA .i64 (2*d))+2)) - (bm f.length)))).bind fun n4=>bif g.length==g.length then bif decide (0<=n1) then bif decide (0<=n4) then (bP g [(aA .i64 ((aA .i64 (n1+n4)) -n0),n0)]).bind fun l5=>some (.next (a,b,aA .i64 (d+1),e,f,l5)) else some (.next (a,b,aA .i64 (d+1),(e,f,g))) else some (.next (a,b,aA .i64 (d+1),(e,f,g))) else none else none else (aN e (aA .i64 ((aA .i64 ((aA .i64 (2*d))+1)) - (bm f.length)))).bind fun n6=>bif g.length==g.length then bif decide ((aA .i64 ((aA .i64 (2*d))+2))<(bm f.length)) then (aN f (aA .i64 ((aA .i64 (2*d))+2))).bind fun n7=>bif g.length==g.length then bif decide (0<=n6) then bif decide (0<=n7) then (bP g [(aA .i64 ((aA .i64 (n6+n7)) -n0),n0)]).bind fun l8=>some (.next (a,b,aA .i64 (d+1),e,f,l8)) else some (.next (a,b,aA .i64 (d+1),(e,f,g))) else some (.next (a,b,aA .i64 (d+1),(e,f,g))) else none else (aN e (aA .i64 ((aA .i64 ((aA .i64 (2*d))+2)) - (bm f.length)))).bind fun n9=>bif g.length==g.length then bif decide (0<=n6) then bif decide (0<=n9) then (bP g [(aA .i64 ((aA .i64 (n6+n9)) -n0),n0)]).bind fun l10=>some (.next (a,b,aA .i64 (d+1),e,f,l10)) else some (.next (a,b,aA .i64 (d+1),(e,f,g))) else some (.next (a,b,aA .i64 (d+1),(e,f,g))) else none else none else some (.done (bH.mk e f,g))
def zO (p0:Field) (p1:Int×Int) (p2:List Int):Option (bH×sW):=(pO p0 p1 p2).bind fun a0=>aG oE (a0.1.bc,bm a0.1.bc.length,0,a0.1.ba,a0.1.bc,[])
def c80:bJ:=⟨aC.cons (aK.agg cA) (aC.cons (aK.agg (cY.row kL)) (aC.one (aK.sl ki))),aK.tup (aC.cons (aK.agg eF) (aC.one (aK.sl kL))),fun a=>zO a.1 a.2.1 a.2.2,.frz,false⟩
theorem aSW:aI tab 80 c80:=aI.of aSj (cx:=(kY aH [(85,c85),(135,aVr)] [] [(135,aG7)] [])) rfl (jA.make ⟨aFb,aLV,trivial⟩ trivial ⟨aBE,trivial⟩) (fun a=>by kernel_rfl)
def lJ (s:((List Int)×(List Int)×Int×Int)):Option (bR ((List Int)×(List Int)×Int×Int) Bool):=bif decide (s.2.2.2<s.2.2.1) then (aN s.1 s.2.2.2).bind fun n0=>(aN s.2.1 s.2.2.2).bind fun n1=>bif n0 !=n1 then some (.done false) else some (.next (s.1,s.2.1,s.2.2.1,aA .i64 (s.2.2.2+1))) else some (.done true)
def oZ (p0:List Int) (p1:List Int):Option Bool:=bif (bm p0.length) !=(bm p1.length) then some false else aG lJ (p0,p1,bm p0.length,0)
def c81:bJ:=⟨aC.cons (aK.sl ki) (aC.one (aK.sl ki)),aK.bool,fun a=>oZ a.1 a.2,.pure,false⟩
theorem aSX:aI tab 81 c81:=Oc aSk rfl aH [] trivial fun a=>by kernel_rfl
def kW (s:(sW×Int×Int×Int×Int)):Option (bR (sW×Int×Int×Int×Int) Int):=bif decide (s.2.2.1<s.2.1) then (aN s.1 s.2.2.1).bind fun a0=>bif (s.2.2.2.1==a0.1)&&(s.2.2.2.2==a0.2) then some (.done s.2.2.1) else some (.next (s.1,s.2.1,aA .i64 (s.2.2.1+1),s.2.2.2)) else some (.done (-1))
def rZ (p0:List (Int×Int)) (p1:Int×Int):Option Int:=aG kW (p0,bm p0.length,0,p1)
def aVs:bJ:=⟨aC.cons (aK.sl kL) (aC.one (aK.agg (cY.row kL))),aK.int .i64,fun a=>rZ a.1 a.2,.pure,false⟩
theorem aLW:aI tab 200 aVs:=Oc aKe rfl aH [] trivial fun a=>by kernel_rfl
def eO (p0:List (Int×Int)) (p1:Int×Int):Option Bool:=(rZ p0 p1).bind fun n0=>some (decide (0<=n0))
def aFc:bJ:=⟨aC.cons (aK.sl kL) (aC.one (aK.agg (cY.row kL))),aK.bool,fun a=>eO a.1 a.2,.pure,false⟩
theorem M0:aI tab 137 aFc:=Oc aJB rfl aH [(200,aVs)] ⟨aLW,trivial⟩ fun a=>by kernel_rfl
def GY (p0:Int×Int×Int) (p1:List (Int×Int)):Option Bool:=(eO p1 p0.2).bind fun b0=>some (!b0)
def aVt:bJ:=⟨aC.cons (aK.agg (cY.row fE)) (aC.one (aK.ref (cY.sl kL))),aK.bool,fun a=>GY a.1 a.2,.pure,false⟩
theorem aLX:aI tab 136 aVt:=Oc aBF rfl aH [(137,aFc)] ⟨M0,trivial⟩ fun a=>by kernel_rfl
def nT (s:(cI×sW×Int×Int)):Option (bR (cI×sW×Int×Int) Int):=bif decide (s.2.2.2<s.2.2.1) then (aN s.1 s.2.2.2).bind fun a0=>(GY a0 s.2.1).bind fun b1=>bif b1 then some (.done s.2.2.2) else some (.next (s.1,s.2.1,s.2.2.1,aA .i64 (s.2.2.2+1))) else some (.done (-1))
def jC (p0:List (Int×Int×Int)) (p1:sW):Option Int:=aG nT (p0,p1,bm p0.length,0)
def XF:bJ:=⟨aC.cons (aK.sl fE) (aC.one (aK.clo 136 (aC.one (aK.ref (cY.sl kL))))),aK.int .i64,fun a=>jC a.1 a.2,.pure,false⟩
theorem XG:aI tab 201 XF:=aI.of T8 (cx:=(kY aH [(136,aVt),(137,aFc)] [] [(136,aG9)] [])) rfl (jA.make ⟨aLX,M0,trivial⟩ trivial ⟨aBF,trivial⟩) (fun a=>by kernel_rfl)
def hO (p0:List (Int×Int×Int)) (p1:sW):Option Bool:=(jC p0 p1).bind fun n0=>some (decide (0<=n0))
def XH:bJ:=⟨aC.cons (aK.sl fE) (aC.one (aK.clo 136 (aC.one (aK.ref (cY.sl kL))))),aK.bool,fun a=>hO a.1 a.2,.pure,false⟩
theorem XI:aI tab 138 XH:=Oc T6 rfl aH [(201,XF)] ⟨XG,trivial⟩ fun a=>by kernel_rfl
def EX (p0:aR) (p1:List (Int×Int)):Option Bool:=bif (bm p1.length)==(bm p0.ax.aq.length) then (hO p0.ax.aq p1).bind fun b0=>some (!b0) else some false
def c82:bJ:=⟨aC.cons (aK.agg bX) (aC.one (aK.sl kL)),aK.bool,fun a=>EX a.1 a.2,.pure,false⟩
theorem aSY:aI tab 82 c82:=Oc aSl rfl aH [(138,XH)] ⟨XI,trivial⟩ fun a=>by kernel_rfl
def lT (p0:Int):Option Bool:=some (decide (p0<0))
def c76:bJ:=⟨aC.one (aK.int .i64),aK.bool,fun a=>lT a,.pure,false⟩
theorem aSZ:aI tab 76 c76:=Oc aSf rfl aH [] trivial fun a=>by kernel_rfl
def bB (c0:(List Int)) (s:aDc):Option aUZ:=bif decide (s.2.1<(bm s.2.2.length)) then (aN s.2.2 s.2.1).bind fun n0=>(lT n0).bind fun b1=>bif !b1 then (aN s.2.2 s.1).bind fun _=>some (.next (aA .i64 (s.1+1),aA .i64 (s.2.1+1),cL s.2.2 s.1 n0)) else some (.next (s.1,aA .i64 (s.2.1+1),s.2.2)) else bif ((decide (0<=s.1))&&(decide (s.1<=(bm s.2.2.length))))&&(decide ((bm s.2.2.length)<=(bm s.2.2.length))) then bif bv (((bm s.2.2.length).toNat) -s.1.toNat) 0 then (gW s.2.2 0 s.1).bind fun _=>bif s.2.2.length==c0.length then some (.done (.done (s.1.toNat,s.2.2.length,s.2.2))) else none else bif (bu ((0+s.1.toNat)+(((bm s.2.2.length).toNat) -s.1.toNat)) s.2.2.length)&&(!false) then (gW (fS s.2.2 (0+s.1.toNat) (bn (((bm s.2.2.length).toNat) -s.1.toNat) 0)) 0 s.1).bind fun _=>bif ((fS s.2.2 (0+s.1.toNat) (bn (((bm s.2.2.length).toNat) -s.1.toNat) 0)).length)==c0.length then some (.done (.done (s.1.toNat,(fS s.2.2 (0+s.1.toNat) (bn (((bm s.2.2.length).toNat) -s.1.toNat) 0)).length,fS s.2.2 (0+s.1.toNat) (bn (((bm s.2.2.length).toNat) -s.1.toNat) 0)))) else none else none else none
def bC (c0:(List Int)) (s:aDc):Option aSE:=bif decide (s.2.1<s.1) then (aN s.2.2 s.2.1).bind fun n0=>(lT n0).bind fun b1=>bif b1 then bif s.2.2.length==c0.length then bif s.2.1==(-1) then bif s.2.2.length==c0.length then some (.done (s.2.2.length,s.2.2.length,s.2.2)) else none else aG (bB c0) (s.2.1,aA .i64 (s.2.1+1),s.2.2) else none else some (.next (s.1,aA .i64 (s.2.1+1),s.2.2)) else bif s.2.2.length==c0.length then bif s.2.2.length==c0.length then some (.done (s.2.2.length,s.2.2.length,s.2.2)) else none else none
def bU (a:(List Int)):Option (Nat×Nat×(List Int)):=aG (bC a) (bm a.length,0,a)
def aFd:eH:=⟨[.l [.i .i64]],[.own 0 false,.clo 76 [] []],[.arr [.i .i64] []],[.n,.n,.l [.i .i64]],.pre 0 0 0 false,[.arr [.i .i64] []],fun a=>bU a⟩
theorem XJ:lG tab 34 aFd:=lG.of aEU (wd:=true) (cx:=(kY aH [(76,c76)] [] [(83,x83)] [])) (jA.make ⟨aSZ,trivial⟩ trivial ⟨KY,trivial⟩) (fun a=>by kernel_rfl)
def sA (p0:dE):Option Int:=(iG p0.be).bind fun n0=>bif n0 !=0 then some 8 else (pN p0.bg).bind fun n1=>bif n1 !=0 then some 8 else bif (HL .i64 (bm p0.bg.ba.length) (aA .i64 ((bm p0.bg.ba.length) -1))) !=0 then some 8 else (bW p0.bg.ba).bind fun l2=>(bU l2).bind fun a3=>(F0s TL a3.1 a3.2.2).bind fun l4=>bif l4.length==a3.2.2.length then (cR (l4.take a3.1) p0.be.au.aa ()).bind fun b5=>bif !b5 then some 8 else (zO p0.be.au p0.be.ar p0.bg.ba).bind fun a6=>(oZ a6.1.bc p0.bg.bc).bind fun b7=>bif !b7 then some 8 else (EX p0.be a6.2).bind fun b8=>bif !b8 then some 8 else some 0 else none
def c31:bJ:=⟨aC.one (aK.agg fM),aK.int .i64,fun a=>sA a,.pure,false⟩
theorem aFe:aI tab 31 c31:=aI.of aRL (cx:=(kY aH [(74,c74),(75,c75),(32,bJ.clone ki),(78,aFa),(80,c80),(81,c81),(82,c82)] [(34,aFd)] [(77,.srt Z8)] [])) rfl (jA.make ⟨O3,aST,pW,aDg,aSW,aSX,aSY,trivial⟩ ⟨XJ,trivial⟩ ⟨aSg,trivial⟩) (fun a=>by kernel_rfl)
def CT (p0:Int×Int×Int) (p1:Int):Option Int:=(eW p0.1 p1).bind fun n0=>some n0
def aVu:bJ:=⟨aC.cons (aK.agg (cY.row fE)) (aC.one (aK.int .i64)),aK.int .i64,fun a=>CT a.1 a.2,.pure,false⟩
theorem aLY:aI tab 110 aVu:=Oc aJn rfl aH [(111,XA)] ⟨CQ,trivial⟩ fun a=>by kernel_rfl
def jZ (s:QV):Option aE1:=bif decide (s.2.2.2.1<s.2.2.2.2) then (aN s.1 (aA .i64 (rL .u64 (aA .u64 (aA .i64 (s.2.2.2.1+s.2.2.2.2))) 1))).bind fun a0=>(CT a0 s.2.1).bind fun n1=>bif decide (n1<0) then some (.next (s.1,s.2.1,s.2.2.1,aA .i64 ((aA .i64 (rL .u64 (aA .u64 (aA .i64 (s.2.2.2.1+s.2.2.2.2))) 1))+1),s.2.2.2.2)) else some (.next (s.1,s.2.1,s.2.2.1,s.2.2.2.1,aA .i64 (rL .u64 (aA .u64 (aA .i64 (s.2.2.2.1+s.2.2.2.2))) 1))) else bif decide (s.2.2.2.1<s.2.2.1) then (aN s.1 s.2.2.2.1).bind fun a2=>(CT a2 s.2.1).bind fun n3=>some (.done (s.2.2.2.1,n3==0)) else some (.done (s.2.2.2.1,false))
def dJ (p0:List (Int×Int×Int)) (p1:Int) (_:Unit):Option (Int×Bool):=aG jZ (p0,p1,bm p0.length,0,bm p0.length)
def XK:bJ:=⟨aC.cons (aK.sl fE) (aC.cons (aK.int .i64) (aC.one (aK.clo 110 aC.nil))),aK.tup (aC.cons (aK.int .i64) (aC.one aK.bool)),fun a=>dJ a.1 a.2.1 a.2.2,.pure,false⟩
theorem XL:aI tab 109 XK:=Oc T4 rfl aH [(110,aVu)] ⟨aLY,trivial⟩ fun a=>by kernel_rfl
def yC (p0:Field) (p1:Int):Option (Int×Bool):=(dJ p0.aa p1 ()).bind fun a0=>some a0
def c59:bJ:=⟨aC.cons (aK.agg cA) (aC.one (aK.int .i64)),aK.tup (aC.cons (aK.int .i64) (aC.one aK.bool)),fun a=>yC a.1 a.2,.pure,false⟩
theorem aS0:aI tab 59 c59:=Oc aR5 rfl aH [(109,XK)] ⟨XL,trivial⟩ fun a=>by kernel_rfl
def mO (p0:Field) (p1:Int):Option (Int×Int):=(fI p0).bind fun n0=>bif n0 !=0 then some (0,n0) else (yC p0 p1).bind fun a1=>bif !a1.2 then some (0,6) else some (a1.1,0)
def c62:bJ:=⟨aC.cons (aK.agg cA) (aC.one (aK.int .i64)),aK.tup (aC.cons (aK.int .i64) (aC.one (aK.int .i64))),fun a=>mO a.1 a.2,.pure,false⟩
theorem aFf:aI tab 62 c62:=Oc aR7 rfl aH [(57,c57),(59,c59)] ⟨O2,aS0,trivial⟩ fun a=>by kernel_rfl
def iC (a:aDe):Option (Nat×Nat×cI):=bif (((decide (0<=a.1))&&(decide (a.1<=a.2.1)))&&(decide (a.2.1<=(bm a.2.2.length))))&&(decide ((bm a.2.2.length)<=(bm a.2.2.length))) then bif a.1==a.2.1 then bif a.2.2.length==a.2.2.length then some (a.2.2.length,a.2.2.length,a.2.2) else none else (gW a.2.2 0 a.1).bind fun _=>bif ((decide (0<=a.2.1))&&(decide (a.2.1<=(bm a.2.2.length))))&&(decide ((bm a.2.2.length)<=(bm a.2.2.length))) then bif ((a.2.2.drop (0+a.2.1.toNat)).take (((bm a.2.2.length).toNat) -a.2.1.toNat)).isEmpty then bif ((decide (0<=(bm a.1.toNat)))&&(decide ((bm a.1.toNat)<=(bm a.2.2.length))))&&(decide ((bm a.2.2.length)<=(bm a.2.2.length))) then bif bv (((bm a.2.2.length).toNat) - ((bm a.1.toNat).toNat)) 0 then bif a.2.2.length==a.2.2.length then some (a.1.toNat,a.2.2.length,a.2.2) else none else bif (bu ((0+((bm a.1.toNat).toNat))+(((bm a.2.2.length).toNat) - ((bm a.1.toNat).toNat))) a.2.2.length)&&(!false) then bif ((fS a.2.2 (0+((bm a.1.toNat).toNat)) (bn (((bm a.2.2.length).toNat) - ((bm a.1.toNat).toNat)) (0,0,0))).length)==a.2.2.length then some (a.1.toNat,a.2.2.length,fS a.2.2 (0+((bm a.1.toNat).toNat)) (bn (((bm a.2.2.length).toNat) - ((bm a.1.toNat).toNat)) (0,0,0))) else none else none else none else bif bu (a.1.toNat+(((a.2.2.drop (0+a.2.1.toNat)).take (((bm a.2.2.length).toNat) -a.2.1.toNat)).length)) a.2.2.length then bif (bu (a.1.toNat+(((a.2.2.drop (0+a.2.1.toNat)).take (((bm a.2.2.length).toNat) -a.2.1.toNat)).length)) a.2.2.length)&&(!false) then bif ((decide (0<=(bm (a.1.toNat+(((a.2.2.drop (0+a.2.1.toNat)).take (((bm a.2.2.length).toNat) -a.2.1.toNat)).length)))))&&(decide ((bm (a.1.toNat+(((a.2.2.drop (0+a.2.1.toNat)).take (((bm a.2.2.length).toNat) -a.2.1.toNat)).length)))<=(bm a.2.2.length))))&&(decide ((bm a.2.2.length)<=(bm a.2.2.length))) then bif bv (((bm a.2.2.length).toNat) - ((bm (a.1.toNat+(((a.2.2.drop (0+a.2.1.toNat)).take (((bm a.2.2.length).toNat) -a.2.1.toNat)).length))).toNat)) 0 then bif ((fS a.2.2 a.1.toNat ((a.2.2.drop (0+a.2.1.toNat)).take (((bm a.2.2.length).toNat) -a.2.1.toNat))).length)==a.2.2.length then some (a.1.toNat+(((a.2.2.drop (0+a.2.1.toNat)).take (((bm a.2.2.length).toNat) -a.2.1.toNat)).length),a.2.2.length,fS a.2.2 a.1.toNat ((a.2.2.drop (0+a.2.1.toNat)).take (((bm a.2.2.length).toNat) -a.2.1.toNat))) else none else bif (bu ((0+((bm (a.1.toNat+(((a.2.2.drop (0+a.2.1.toNat)).take (((bm a.2.2.length).toNat) -a.2.1.toNat)).length))).toNat))+(((bm a.2.2.length).toNat) - ((bm (a.1.toNat+(((a.2.2.drop (0+a.2.1.toNat)).take (((bm a.2.2.length).toNat) -a.2.1.toNat)).length))).toNat))) ((fS a.2.2 a.1.toNat ((a.2.2.drop (0+a.2.1.toNat)).take (((bm a.2.2.length).toNat) -a.2.1.toNat))).length))&&(!false) then bif ((fS (fS a.2.2 a.1.toNat ((a.2.2.drop (0+a.2.1.toNat)).take (((bm a.2.2.length).toNat) -a.2.1.toNat))) (0+((bm (a.1.toNat+(((a.2.2.drop (0+a.2.1.toNat)).take (((bm a.2.2.length).toNat) -a.2.1.toNat)).length))).toNat)) (bn (((bm a.2.2.length).toNat) - ((bm (a.1.toNat+(((a.2.2.drop (0+a.2.1.toNat)).take (((bm a.2.2.length).toNat) -a.2.1.toNat)).length))).toNat)) (0,0,0))).length)==a.2.2.length then some (a.1.toNat+(((a.2.2.drop (0+a.2.1.toNat)).take (((bm a.2.2.length).toNat) -a.2.1.toNat)).length),a.2.2.length,fS (fS a.2.2 a.1.toNat ((a.2.2.drop (0+a.2.1.toNat)).take (((bm a.2.2.length).toNat) -a.2.1.toNat))) (0+((bm (a.1.toNat+(((a.2.2.drop (0+a.2.1.toNat)).take (((bm a.2.2.length).toNat) -a.2.1.toNat)).length))).toNat)) (bn (((bm a.2.2.length).toNat) - ((bm (a.1.toNat+(((a.2.2.drop (0+a.2.1.toNat)).take (((bm a.2.2.length).toNat) -a.2.1.toNat)).length))).toNat)) (0,0,0))) else none else none else none else none else none else none else none
def aNQ:eH:=⟨[.i,.i,.l [.i .i64,.i .i64,.i .i64]],[.own 0 false,.int .i64 0,.int .i64 0],[.arr [.i .i64,.i .i64,.i .i64] []],[.n,.n,.l [.i .i64,.i .i64,.i .i64]],.pre 0 0 0 false,[.arr [.i .i64,.i .i64,.i .i64] []],fun a=>iC a⟩
theorem aFg:lG tab 63 aNQ:=lG.of aR8 (wd:=true) (cx:=(kY aH [] [] [] [])) (jA.make trivial trivial trivial) (fun a=>by kernel_rfl)
def oF (p0:Field) (p1:Int):Option (Field×Int):=(mO p0 p1).bind fun a0=>bif a0.2 !=0 then some (Field.mk [],a0.2) else (bW p0.aa).bind fun l1=>(iC (a0.1,aA .i64 (a0.1+1),l1)).bind fun a2=>some (Field.mk (a2.2.2.take a2.1),0)
def c24:bJ:=⟨aC.cons (aK.agg cA) (aC.one (aK.int .i64)),aK.tup (aC.cons (aK.agg cA) (aC.one (aK.int .i64))),fun a=>oF a.1 a.2,.frz,false⟩
theorem aS1:aI tab 24 c24:=aI.of aRI (cx:=(kY aH [(62,c62),(61,bJ.clone fE)] [(63,aNQ)] [] [])) rfl (jA.make ⟨aFf,FY,trivial⟩ ⟨aFg,trivial⟩ trivial) (fun a=>by kernel_rfl)
def lK (s:((List Int)×Int×Int×Int)):Option (bR ((List Int)×Int×Int×Int) Int):=bif decide (s.2.2.2<s.2.2.1) then (aN s.1 s.2.2.2).bind fun n0=>bif s.2.1==n0 then some (.done s.2.2.2) else some (.next (s.1,s.2.1,s.2.2.1,aA .i64 (s.2.2.2+1))) else some (.done (-1))
def jP (p0:List Int) (p1:Int):Option Int:=aG lK (p0,p1,bm p0.length,0)
def c33:bJ:=⟨aC.cons (aK.sl ki) (aC.one (aK.int .i64)),aK.int .i64,fun a=>jP a.1 a.2,.pure,false⟩
theorem aFh:aI tab 33 c33:=Oc aRN rfl aH [] trivial fun a=>by kernel_rfl
def MJ (p0:Int) (p1:Int):Option (Int×Int):=some (aA .u32 (rL .u64 (aA .u64 ((aA .u64 p0)*(aA .u64 p1))) 32),aA .u32 (aA .u64 ((aA .u64 p0)*(aA .u64 p1))))
def aVv:bJ:=⟨aC.cons (aK.int .u32) (aC.one (aK.int .u32)),aK.tup (aC.cons (aK.int .u32) (aC.one (aK.int .u32))),fun a=>MJ a.1 a.2,.pure,false⟩
theorem aLZ:aI tab 139 aVv:=Oc aJC rfl aH [] trivial fun a=>by kernel_rfl
def AR (p0:Int) (p1:Int):Option (Int×Int):=(gR p0 p1).bind fun a0=>some a0
def c84:bJ:=⟨aC.cons (aK.int .u64) (aC.one (aK.int .u64)),aK.tup (aC.cons (aK.int .u64) (aC.one (aK.int .u64))),fun a=>AR a.1 a.2,.pure,false⟩
theorem aFi:aI tab 84 c84:=Oc aSm rfl aH [(139,aVv),(140,aLy)] ⟨aLZ,UH,trivial⟩ fun a=>by kernel_rfl
def aO (s:(Int×(List Int))):Option (bR (Int×(List Int)) (List Int)):=bif decide (s.1<(bm s.2.length)) then bif ((decide (0<=s.1))&&(decide (s.1<=(bm s.2.length))))&&(decide ((bm s.2.length)<=(bm s.2.length))) then (gW s.2 0 s.1).bind fun _=>bif ((s.2.take s.1.toNat).take (((bm s.2.length).toNat) -s.1.toNat)).isEmpty then some (.next (aA .i64 (s.1+0),s.2)) else bif (bu ((0+s.1.toNat)+(((s.2.take s.1.toNat).take (((bm s.2.length).toNat) -s.1.toNat)).length)) s.2.length)&&(!false) then some (.next (aA .i64 (s.1+(bm (((s.2.take s.1.toNat).take (((bm s.2.length).toNat) -s.1.toNat)).length))),fS s.2 (0+s.1.toNat) ((s.2.take s.1.toNat).take (((bm s.2.length).toNat) -s.1.toNat)))) else none else none else some (.done s.2)
def iO (p0:List Int) (p1:Int):Option (List Int):=bif decide (p1<0) then none else (AR (aA .u64 (bm p0.length)) (aA .u64 p1)).bind fun a0=>bif decide (0<a0.1) then none else bif decide (9223372036854775807<a0.2) then none else bif (aA .i64 a0.2)==(aA .i64 a0.2) then (GR (aA .i64 a0.2) (0:Int)).bind fun l1=>bif (p0.take l1.length).isEmpty then aG aO (0,l1) else bif (bu (0+((p0.take l1.length).length)) l1.length)&&(!false) then aG aO (bm ((p0.take l1.length).length),fS l1 0 (p0.take l1.length)) else none else none
def c36:bJ:=⟨aC.cons (aK.sl ki) (aC.one (aK.int .i64)),aK.sl ki,fun a=>iO a.1 a.2,.own,true⟩
def aVw:bJ:=⟨aC.cons (aK.sl ki) (aC.one (aK.int .i64)),aK.sl ki,fun a=>iO a.1 a.2,.frz,false⟩
theorem aS2:aI tab 36 c36:=Oc aEV rfl aH [(84,c84)] ⟨aFi,trivial⟩ fun a=>by kernel_rfl
theorem aL0:aI tab 36 aVw:=Oc aEV rfl aH [(84,c84)] ⟨aFi,trivial⟩ fun a=>by kernel_rfl
def kA (s:aUY):Option (bR aUY aU0):=match s with |(a,b,d,e,f,g,h,i,j,k,l)=>bif decide (j<i) then (aN ((k.drop f).take g) j).bind fun n0=>bif decide (0<=n0) then bif n0 !=a then (bP l [(n0,a)]).bind fun l1=>some (.next (a,b,d,e,f,g,h,i,aA .i64 (j+1),k,l1)) else some (.next (a,b,d,e,f,g,h,i,aA .i64 (j+1),(k,l))) else some (.next (a,b,d,e,f,g,h,i,aA .i64 (j+1),(k,l))) else some (.done (.next (b,d,aA .i64 (e+1),(k,l))))
def sB (s:((List Int)×Int×Int×(List Int)×sW)):Option aU0:=bif decide (s.2.2.1<s.2.1) then (aN s.1 s.2.2.1).bind fun n0=>bif ((decide (0<=(aA .i64 ((aA .i64 (2*s.2.2.1))+1))))&&(decide ((aA .i64 ((aA .i64 (2*s.2.2.1))+1))<=(aA .i64 ((aA .i64 (2*s.2.2.1))+3)))))&&(decide ((aA .i64 ((aA .i64 (2*s.2.2.1))+3))<=(bm s.2.2.2.1.length))) then aG kA (n0,s.1,s.2.1,s.2.2.1,0+((aA .i64 ((aA .i64 (2*s.2.2.1))+1)).toNat),((aA .i64 ((aA .i64 (2*s.2.2.1))+3)).toNat) - ((aA .i64 ((aA .i64 (2*s.2.2.1))+1)).toNat),s.2.2.2.1.length- ((aA .i64 ((aA .i64 (2*s.2.2.1))+1)).toNat),bm (((aA .i64 ((aA .i64 (2*s.2.2.1))+3)).toNat) - ((aA .i64 ((aA .i64 (2*s.2.2.1))+1)).toNat)),0,s.2.2.2) else none else some (.done s.2.2.2.2)
def zP (p0:bH):Option sW:=(aCP p0.bc p0.ba).bind fun l0=>aG sB (p0.bc,bm p0.bc.length,0,l0,[])
def c87:bJ:=⟨aC.one (aK.agg eF),aK.sl kL,fun a=>zP a,.frz,false⟩
theorem aS3:aI tab 87 c87:=aI.of aSp (cx:=(kY aH [] [] [(147,.cat)] [])) rfl (jA.make trivial trivial ⟨aJJ,trivial⟩) (fun a=>by kernel_rfl)
def yD (p0:Field) (p1:Int):Option ((Int×Int×Int)×Int):=(mO p0 p1).bind fun a0=>bif a0.2 !=0 then some ((0,0,0),a0.2) else (aN p0.aa a0.1).bind fun a1=>some (a1,0)
def aVx:bJ:=⟨aC.cons (aK.agg cA) (aC.one (aK.int .i64)),aK.tup (aC.cons (aK.agg (cY.row fE)) (aC.one (aK.int .i64))),fun a=>yD a.1 a.2,.pure,false⟩
theorem aL1:aI tab 144 aVx:=Oc aJH rfl aH [(62,c62)] ⟨aFf,trivial⟩ fun a=>by kernel_rfl
def yE (p0:aR):Option aR:=(bW p0.au.aa).bind fun l0=>(bW p0.ax.aq).bind fun l1=>(bW p0.az).bind fun l2=>(bW p0.ay.aj).bind fun l3=>(bW p0.ay.am).bind fun l4=>(bW p0.ay.ai.ac).bind fun l5=>(bW p0.ay.ai.ae).bind fun l6=>(bW p0.ay.ai.af).bind fun l7=>some (aR.mk p0.ar (Field.mk l0) (bO.mk p0.ax.ao l1) (aP.mk (bD.mk l5 l6 l7) l3 l4) l2)
def aVy:bJ:=⟨aC.one (aK.agg bX),aK.agg bX,fun a=>yE a,.own,true⟩
def aNR:bJ:=⟨aC.one (aK.agg bX),aK.agg bX,fun a=>yE a,.frz,false⟩
theorem aL2:aI tab 146 aVy:=Oc aBG rfl aH [(61,bJ.clone fE),(209,bJ.clone fE),(210,bJ.clone fE),(211,bJ.clone mT),(32,bJ.clone ki),(212,bJ.clone kb)] ⟨FY,BM,JG,xW,pW,xV,trivial⟩ fun a=>by kernel_rfl
theorem aFj:aI tab 146 aNR:=Oc aBG rfl aH [(61,bJ.clone fE),(209,bJ.clone fE),(210,bJ.clone fE),(211,bJ.clone mT),(32,bJ.clone ki),(212,bJ.clone kb)] ⟨FY,BM,JG,xW,pW,xV,trivial⟩ fun a=>by kernel_rfl
def vQ (p0:Int×Int×Int) (p1:Int):Option Int:=(eW p0.1 p1).bind fun n0=>some n0
def aVz:bJ:=⟨aC.cons (aK.agg (cY.row fE)) (aC.one (aK.int .i64)),aK.int .i64,fun a=>vQ a.1 a.2,.pure,false⟩
theorem aL3:aI tab 291 aVz:=Oc aLb rfl aH [(111,XA)] ⟨CQ,trivial⟩ fun a=>by kernel_rfl
def aT (s:QV):Option aE1:=bif decide (s.2.2.2.1<s.2.2.2.2) then (aN s.1 (aA .i64 (rL .u64 (aA .u64 (aA .i64 (s.2.2.2.1+s.2.2.2.2))) 1))).bind fun a0=>(vQ a0 s.2.1).bind fun n1=>bif decide (n1<0) then some (.next (s.1,s.2.1,s.2.2.1,aA .i64 ((aA .i64 (rL .u64 (aA .u64 (aA .i64 (s.2.2.2.1+s.2.2.2.2))) 1))+1),s.2.2.2.2)) else some (.next (s.1,s.2.1,s.2.2.1,s.2.2.2.1,aA .i64 (rL .u64 (aA .u64 (aA .i64 (s.2.2.2.1+s.2.2.2.2))) 1))) else bif decide (s.2.2.2.1<s.2.2.1) then (aN s.1 s.2.2.2.1).bind fun a2=>(vQ a2 s.2.1).bind fun n3=>some (.done (s.2.2.2.1,n3==0)) else some (.done (s.2.2.2.1,false))
def aS (p0:List (Int×Int×Int)) (p1:Int) (_:Unit):Option (Int×Bool):=aG aT (p0,p1,bm p0.length,0,bm p0.length)
def XM:bJ:=⟨aC.cons (aK.sl fE) (aC.cons (aK.int .i64) (aC.one (aK.clo 291 aC.nil))),aK.tup (aC.cons (aK.int .i64) (aC.one aK.bool)),fun a=>aS a.1 a.2.1 a.2.2,.pure,false⟩
theorem XN:aI tab 290 XM:=Oc aLa rfl aH [(291,aVz)] ⟨aL3,trivial⟩ fun a=>by kernel_rfl
def K1 (p0:bO) (p1:Int):Option (Int×Int):=(tK p0).bind fun n0=>bif n0 !=0 then some (0,n0) else (aS p0.aq p1 ()).bind fun a1=>bif !a1.2 then some (0,6) else some (a1.1,0)
def aVA:bJ:=⟨aC.cons (aK.agg iA) (aC.one (aK.int .i64)),aK.tup (aC.cons (aK.int .i64) (aC.one (aK.int .i64))),fun a=>K1 a.1 a.2,.pure,false⟩
theorem aL4:aI tab 269 aVA:=Oc aKX rfl aH [(126,aLs),(290,XM)] ⟨UF,XN,trivial⟩ fun a=>by kernel_rfl
def eL (a:aDe):Option (Nat×Nat×cI):=bif (((decide (0<=a.1))&&(decide (a.1<=a.2.1)))&&(decide (a.2.1<=(bm a.2.2.length))))&&(decide ((bm a.2.2.length)<=(bm a.2.2.length))) then bif a.1==a.2.1 then bif a.2.2.length==a.2.2.length then some (a.2.2.length,a.2.2.length,a.2.2) else none else (gW a.2.2 0 a.1).bind fun _=>bif ((decide (0<=a.2.1))&&(decide (a.2.1<=(bm a.2.2.length))))&&(decide ((bm a.2.2.length)<=(bm a.2.2.length))) then bif ((a.2.2.drop (0+a.2.1.toNat)).take (((bm a.2.2.length).toNat) -a.2.1.toNat)).isEmpty then bif ((decide (0<=(bm a.1.toNat)))&&(decide ((bm a.1.toNat)<=(bm a.2.2.length))))&&(decide ((bm a.2.2.length)<=(bm a.2.2.length))) then bif bv (((bm a.2.2.length).toNat) - ((bm a.1.toNat).toNat)) 0 then bif a.2.2.length==a.2.2.length then some (a.1.toNat,a.2.2.length,a.2.2) else none else bif (bu ((0+((bm a.1.toNat).toNat))+(((bm a.2.2.length).toNat) - ((bm a.1.toNat).toNat))) a.2.2.length)&&(!false) then bif ((fS a.2.2 (0+((bm a.1.toNat).toNat)) (bn (((bm a.2.2.length).toNat) - ((bm a.1.toNat).toNat)) (0,0,0))).length)==a.2.2.length then some (a.1.toNat,a.2.2.length,fS a.2.2 (0+((bm a.1.toNat).toNat)) (bn (((bm a.2.2.length).toNat) - ((bm a.1.toNat).toNat)) (0,0,0))) else none else none else none else bif bu (a.1.toNat+(((a.2.2.drop (0+a.2.1.toNat)).take (((bm a.2.2.length).toNat) -a.2.1.toNat)).length)) a.2.2.length then bif (bu (a.1.toNat+(((a.2.2.drop (0+a.2.1.toNat)).take (((bm a.2.2.length).toNat) -a.2.1.toNat)).length)) a.2.2.length)&&(!false) then bif ((decide (0<=(bm (a.1.toNat+(((a.2.2.drop (0+a.2.1.toNat)).take (((bm a.2.2.length).toNat) -a.2.1.toNat)).length)))))&&(decide ((bm (a.1.toNat+(((a.2.2.drop (0+a.2.1.toNat)).take (((bm a.2.2.length).toNat) -a.2.1.toNat)).length)))<=(bm a.2.2.length))))&&(decide ((bm a.2.2.length)<=(bm a.2.2.length))) then bif bv (((bm a.2.2.length).toNat) - ((bm (a.1.toNat+(((a.2.2.drop (0+a.2.1.toNat)).take (((bm a.2.2.length).toNat) -a.2.1.toNat)).length))).toNat)) 0 then bif ((fS a.2.2 a.1.toNat ((a.2.2.drop (0+a.2.1.toNat)).take (((bm a.2.2.length).toNat) -a.2.1.toNat))).length)==a.2.2.length then some (a.1.toNat+(((a.2.2.drop (0+a.2.1.toNat)).take (((bm a.2.2.length).toNat) -a.2.1.toNat)).length),a.2.2.length,fS a.2.2 a.1.toNat ((a.2.2.drop (0+a.2.1.toNat)).take (((bm a.2.2.length).toNat) -a.2.1.toNat))) else none else bif (bu ((0+((bm (a.1.toNat+(((a.2.2.drop (0+a.2.1.toNat)).take (((bm a.2.2.length).toNat) -a.2.1.toNat)).length))).toNat))+(((bm a.2.2.length).toNat) - ((bm (a.1.toNat+(((a.2.2.drop (0+a.2.1.toNat)).take (((bm a.2.2.length).toNat) -a.2.1.toNat)).length))).toNat))) ((fS a.2.2 a.1.toNat ((a.2.2.drop (0+a.2.1.toNat)).take (((bm a.2.2.length).toNat) -a.2.1.toNat))).length))&&(!false) then bif ((fS (fS a.2.2 a.1.toNat ((a.2.2.drop (0+a.2.1.toNat)).take (((bm a.2.2.length).toNat) -a.2.1.toNat))) (0+((bm (a.1.toNat+(((a.2.2.drop (0+a.2.1.toNat)).take (((bm a.2.2.length).toNat) -a.2.1.toNat)).length))).toNat)) (bn (((bm a.2.2.length).toNat) - ((bm (a.1.toNat+(((a.2.2.drop (0+a.2.1.toNat)).take (((bm a.2.2.length).toNat) -a.2.1.toNat)).length))).toNat)) (0,0,0))).length)==a.2.2.length then some (a.1.toNat+(((a.2.2.drop (0+a.2.1.toNat)).take (((bm a.2.2.length).toNat) -a.2.1.toNat)).length),a.2.2.length,fS (fS a.2.2 a.1.toNat ((a.2.2.drop (0+a.2.1.toNat)).take (((bm a.2.2.length).toNat) -a.2.1.toNat))) (0+((bm (a.1.toNat+(((a.2.2.drop (0+a.2.1.toNat)).take (((bm a.2.2.length).toNat) -a.2.1.toNat)).length))).toNat)) (bn (((bm a.2.2.length).toNat) - ((bm (a.1.toNat+(((a.2.2.drop (0+a.2.1.toNat)).take (((bm a.2.2.length).toNat) -a.2.1.toNat)).length))).toNat)) (0,0,0))) else none else none else none else none else none else none else none
def aFk:eH:=⟨[.i,.i,.l [.i .i64,.i .i64,.i .i64]],[.own 0 false,.int .i64 0,.int .i64 0],[.arr [.i .i64,.i .i64,.i .i64] []],[.n,.n,.l [.i .i64,.i .i64,.i .i64]],.pre 0 0 0 false,[.arr [.i .i64,.i .i64,.i .i64] []],fun a=>eL a⟩
theorem aDh:lG tab 270 aFk:=lG.of aKY (wd:=true) (cx:=(kY aH [] [] [] [])) (jA.make trivial trivial trivial) (fun a=>by kernel_rfl)
def zQ (p0:bO) (p1:Int):Option (bO×(Int×Int)×Int):=(K1 p0 p1).bind fun a0=>bif a0.2 !=0 then some (bO.mk 0 [],(0,0),a0.2) else (bW p0.aq).bind fun l1=>(eL (a0.1,aA .i64 (a0.1+1),l1)).bind fun a2=>(aN p0.aq a0.1).bind fun a3=>some (bO.mk p0.ao (a2.2.2.take a2.1),a3.2,0)
def aVB:bJ:=⟨aC.cons (aK.agg iA) (aC.one (aK.int .i64)),aK.tup (aC.cons (aK.agg iA) (aC.cons (aK.agg (cY.row kL)) (aC.one (aK.int .i64)))),fun a=>zQ a.1 a.2,.frz,false⟩
theorem aL5:aI tab 232 aVB:=aI.of aKD (cx:=(kY aH [(269,aVA),(209,bJ.clone fE)] [(270,aFk)] [] [])) rfl (jA.make ⟨aL4,BM,trivial⟩ ⟨aDh,trivial⟩ trivial) (fun a=>by kernel_rfl)
def oG (p0:aR):Option aR:=(bW p0.au.aa).bind fun l0=>(bW p0.ax.aq).bind fun l1=>(bW p0.az).bind fun l2=>(bW p0.ay.aj).bind fun l3=>(bW p0.ay.am).bind fun l4=>(bW p0.ay.ai.ac).bind fun l5=>(bW p0.ay.ai.ae).bind fun l6=>(bW p0.ay.ai.af).bind fun l7=>some (aR.mk p0.ar (Field.mk l0) (bO.mk p0.ax.ao l1) (aP.mk (bD.mk l5 l6 l7) l3 l4) l2)
def aL6:bJ:=⟨aC.one (aK.agg bX),aK.agg bX,fun a=>oG a,.own,true⟩
def aBY:bJ:=⟨aC.one (aK.agg bX),aK.agg bX,fun a=>oG a,.frz,false⟩
theorem UM:aI tab 180 aL6:=Oc aBH rfl aH [(61,bJ.clone fE),(209,bJ.clone fE),(210,bJ.clone fE),(211,bJ.clone mT),(32,bJ.clone ki),(212,bJ.clone kb)] ⟨FY,BM,JG,xW,pW,xV,trivial⟩ fun a=>by kernel_rfl
theorem O4:aI tab 180 aBY:=Oc aBH rfl aH [(61,bJ.clone fE),(209,bJ.clone fE),(210,bJ.clone fE),(211,bJ.clone mT),(32,bJ.clone ki),(212,bJ.clone kb)] ⟨FY,BM,JG,xW,pW,xV,trivial⟩ fun a=>by kernel_rfl
def AS (p0:Int×Int×Int) (p1:Int):Option Int:=(eW p0.1 p1).bind fun n0=>some n0
def aVC:bJ:=⟨aC.cons (aK.agg (cY.row fE)) (aC.one (aK.int .i64)),aK.int .i64,fun a=>AS a.1 a.2,.pure,false⟩
theorem aL7:aI tab 272 aVC:=Oc aK0 rfl aH [(111,XA)] ⟨CQ,trivial⟩ fun a=>by kernel_rfl
def kI (s:QV):Option aE1:=bif decide (s.2.2.2.1<s.2.2.2.2) then (aN s.1 (aA .i64 (rL .u64 (aA .u64 (aA .i64 (s.2.2.2.1+s.2.2.2.2))) 1))).bind fun a0=>(AS a0 s.2.1).bind fun n1=>bif decide (n1<0) then some (.next (s.1,s.2.1,s.2.2.1,aA .i64 ((aA .i64 (rL .u64 (aA .u64 (aA .i64 (s.2.2.2.1+s.2.2.2.2))) 1))+1),s.2.2.2.2)) else some (.next (s.1,s.2.1,s.2.2.1,s.2.2.2.1,aA .i64 (rL .u64 (aA .u64 (aA .i64 (s.2.2.2.1+s.2.2.2.2))) 1))) else bif decide (s.2.2.2.1<s.2.2.1) then (aN s.1 s.2.2.2.1).bind fun a2=>(AS a2 s.2.1).bind fun n3=>some (.done (s.2.2.2.1,n3==0)) else some (.done (s.2.2.2.1,false))
def dK (p0:List (Int×Int×Int)) (p1:Int) (_:Unit):Option (Int×Bool):=aG kI (p0,p1,bm p0.length,0,bm p0.length)
def XO:bJ:=⟨aC.cons (aK.sl fE) (aC.cons (aK.int .i64) (aC.one (aK.clo 272 aC.nil))),aK.tup (aC.cons (aK.int .i64) (aC.one aK.bool)),fun a=>dK a.1 a.2.1 a.2.2,.pure,false⟩
theorem XP:aI tab 271 XO:=Oc aKZ rfl aH [(272,aVC)] ⟨aL7,trivial⟩ fun a=>by kernel_rfl
def qY (p0:List (Int×Int×Int)) (p1:Int):Option (Int×Bool):=(dK p0 p1 ()).bind fun a0=>some a0
def aS4:bJ:=⟨aC.cons (aK.sl fE) (aC.one (aK.int .i64)),aK.tup (aC.cons (aK.int .i64) (aC.one aK.bool)),fun a=>qY a.1 a.2,.pure,false⟩
theorem aBZ:aI tab 233 aS4:=Oc aKE rfl aH [(271,XO)] ⟨XP,trivial⟩ fun a=>by kernel_rfl
def EY (p0:bD) (p1:Int×Int):Option (Bool×Int):=(tL p0).bind fun n0=>bif n0 !=0 then some (false,n0) else bif decide (0<=p1.1) then bif decide (p1.1<(bm p0.ae.length)) then (aN p0.ae p1.1).bind fun b1=>bif b1 then (aN p0.ac p1.1).bind fun n2=>some (n2==p1.2,0) else some (false,0) else some (false,0) else some (false,0)
def aS5:bJ:=⟨aC.cons (aK.agg gT) (aC.one (aK.agg (cY.row kL))),aK.tup (aC.cons aK.bool (aC.one (aK.int .i64))),fun a=>EY a.1 a.2,.pure,false⟩
theorem aB0:aI tab 292 aS5:=Oc aLc rfl aH [(182,aLv)] ⟨UG,trivial⟩ fun a=>by kernel_rfl
def sC (p0:aP) (p1:Int×Int):Option (Int×Int):=(mV p0).bind fun n0=>bif n0 !=0 then some (0,n0) else (EY p0.ai p1).bind fun a1=>bif a1.2 !=0 then some (0,6) else bif !a1.1 then some (0,6) else (aN p0.am p1.1).bind fun n2=>some (n2,0)
def aS6:bJ:=⟨aC.cons (aK.agg dN) (aC.one (aK.agg (cY.row kL))),aK.tup (aC.cons (aK.int .i64) (aC.one (aK.int .i64))),fun a=>sC a.1 a.2,.pure,false⟩
theorem aB1:aI tab 273 aS6:=Oc aK1 rfl aH [(127,aE9),(292,aS5)] ⟨MZ,aB0,trivial⟩ fun a=>by kernel_rfl
def wL (p0:List Int) (p1:Int):Option (List Int):=(bW p0).bind fun l0=>(bP l0 [p1]).bind fun l1=>some l1
def aVD:bJ:=⟨aC.cons (aK.sl ki) (aC.one (aK.int .i64)),aK.sl ki,fun a=>wL a.1 a.2,.frz,false⟩
theorem aL8:aI tab 300 aVD:=Oc aLh rfl aH [(301,bJ.clone ki)] ⟨W7,trivial⟩ fun a=>by kernel_rfl
def F1 (p0:bD) (p1:Int×Int):Option (bD×Int):=(EY p0 p1).bind fun a0=>bif a0.2 !=0 then some (bD.mk [] [] [],a0.2) else bif !a0.1 then some (bD.mk [] [] [],6) else (bW p0.ac).bind fun l1=>(bW p0.ae).bind fun l2=>(wL p0.af p1.1).bind fun l3=>(aN l2 p1.1).bind fun _=>some (bD.mk l1 (cL l2 p1.1 false) l3,0)
def aVE:bJ:=⟨aC.cons (aK.agg gT) (aC.one (aK.agg (cY.row kL))),aK.tup (aC.cons (aK.agg gT) (aC.one (aK.int .i64))),fun a=>F1 a.1 a.2,.frz,false⟩
theorem aL9:aI tab 293 aVE:=aI.of aLd (cx:=(kY aH [(292,aS5),(32,bJ.clone ki),(212,bJ.clone kb),(300,aVD)] [] [(298,aEO)] [])) rfl (jA.make ⟨aB0,pW,xV,aL8,trivial⟩ trivial ⟨aBP,trivial⟩) (fun a=>by kernel_rfl)
def cC (a:aLk):Option QU:=(aN (a.2.2.2.2.2.2.2.2.2.2.2.1.take a.2.2.2.1) a.2.2.2.2.2.1).bind fun _=>(aN a.2.2.2.2.2.2.2.2.2.2.2.2 a.2.2.2.2.2.2.2.2.2.1).bind fun _=>bif ((cL a.2.2.2.2.2.2.2.2.2.2.2.1 a.2.2.2.2.2.1 (a.2.2.2.2.2.2.1,a.2.2.2.2.2.2.2.1,a.2.2.2.2.2.2.2.2.1,a.2.2.2.2.2.2.2.2.2.1,a.2.2.2.2.2.2.2.2.2.2.1)).length)==a.2.2.2.2.2.2.2.2.2.2.2.1.length then bif ((cL a.2.2.2.2.2.2.2.2.2.2.2.2 a.2.2.2.2.2.2.2.2.2.1 a.2.2.2.2.2.1).length)==a.2.2.2.2.2.2.2.2.2.2.2.2.length then some (cL a.2.2.2.2.2.2.2.2.2.2.2.1 a.2.2.2.2.2.1 (a.2.2.2.2.2.2.1,a.2.2.2.2.2.2.2.1,a.2.2.2.2.2.2.2.2.1,a.2.2.2.2.2.2.2.2.2.1,a.2.2.2.2.2.2.2.2.2.2.1),cL a.2.2.2.2.2.2.2.2.2.2.2.2 a.2.2.2.2.2.2.2.2.2.1 a.2.2.2.2.2.1) else none else none
def aAx:eH:=⟨[.l [.i .i64],.l [.b],.l [.i .i64],.n,.n,.i,.i,.i,.i,.i,.i,.l [.i .i64,.i .i64,.i .i64,.i .i64,.i .i64],.l [.i .i64]],[.agg [.sl [.i .i64] [],.sl [.b] [],.sl [.i .i64] [],.pre 0 0 0 false,.own 1 false],.int .i64 0,.agg [.int .i64 0,.int .i64 0,.int .i64 0,.int .i64 0,.int .i64 0]],[.arr [.i .i64,.i .i64,.i .i64,.i .i64,.i .i64] [],.arr [.i .i64] []],[.l [.i .i64,.i .i64,.i .i64,.i .i64,.i .i64],.l [.i .i64]],.tup [],[.arr [.i .i64,.i .i64,.i .i64,.i .i64,.i .i64] [],.arr [.i .i64] []],fun a=>cC a⟩
theorem R7:lG tab 295 aAx:=lG.of aBO (wd:=false) (cx:=(kY aH [] [] [] [])) (jA.make trivial trivial trivial) (fun a=>by kernel_rfl)
def gK (c0:aLk) (s:aUO):Option (bR aUO aUI):=match s with |(a,b,d,e,f,g,h,i,j,k,l,m,n,o)=>bif decide (b<(bm i)) then bif decide ((aA .i64 (b+1))<(bm i)) then (aN (d.take i) (aA .i64 (b+1))).bind fun a0=>(aN (d.take i) b).bind fun a1=>(cN a0 a1).bind fun n2=>bif decide (n2<0) then (aN (d.take i) (aA .i64 (b+1))).bind fun a3=>(cN a3 (k,l,m,n,o)).bind fun n4=>bif decide (0<=n4) then (cC (f,g,h,i,j,a,k,l,m,n,o,d,e)).bind fun a5=>bif a5.1.length==c0.2.2.2.2.2.2.2.2.2.2.2.1.length then bif a5.2.length==c0.2.2.2.2.2.2.2.2.2.2.2.2.length then some (.done (.done a5)) else none else none else (aN (d.take i) (aA .i64 (b+1))).bind fun a6=>(cC (f,g,h,i,j,a,a6.1,a6.2.1,a6.2.2.1,a6.2.2.2.1,a6.2.2.2.2,d,e)).bind fun a7=>some (.next (aA .i64 (b+1),aA .i64 ((aA .i64 (2*(aA .i64 (b+1))))+1),a7.1,a7.2,(f,g,h,i,j,k,l,m,n,o))) else (aN (d.take i) b).bind fun a8=>(cN a8 (k,l,m,n,o)).bind fun n9=>bif decide (0<=n9) then (cC (f,g,h,i,j,a,k,l,m,n,o,d,e)).bind fun a10=>bif a10.1.length==c0.2.2.2.2.2.2.2.2.2.2.2.1.length then bif a10.2.length==c0.2.2.2.2.2.2.2.2.2.2.2.2.length then some (.done (.done a10)) else none else none else (aN (d.take i) b).bind fun a11=>(cC (f,g,h,i,j,a,a11.1,a11.2.1,a11.2.2.1,a11.2.2.2.1,a11.2.2.2.2,d,e)).bind fun a12=>some (.next (b,aA .i64 ((aA .i64 (2*b))+1),a12.1,a12.2,(f,g,h,i,j,k,l,m,n,o))) else (aN (d.take i) b).bind fun a13=>(cN a13 (k,l,m,n,o)).bind fun n14=>bif decide (0<=n14) then (cC (f,g,h,i,j,a,k,l,m,n,o,d,e)).bind fun a15=>bif a15.1.length==c0.2.2.2.2.2.2.2.2.2.2.2.1.length then bif a15.2.length==c0.2.2.2.2.2.2.2.2.2.2.2.2.length then some (.done (.done a15)) else none else none else (aN (d.take i) b).bind fun a16=>(cC (f,g,h,i,j,a,a16.1,a16.2.1,a16.2.2.1,a16.2.2.2.1,a16.2.2.2.2,d,e)).bind fun a17=>some (.next (b,aA .i64 ((aA .i64 (2*b))+1),a17.1,a17.2,(f,g,h,i,j,k,l,m,n,o))) else (cC (f,g,h,i,j,a,k,l,m,n,o,d,e)).bind fun a18=>bif a18.1.length==c0.2.2.2.2.2.2.2.2.2.2.2.1.length then bif a18.2.length==c0.2.2.2.2.2.2.2.2.2.2.2.2.length then some (.done (.done a18)) else none else none
def eY (c0:aLk) (s:aUH):Option aUI:=bif decide (0<s.1) then (aN (s.2.1.take s.2.2.2.2.2.2.1) (aA .i64 (bo (aA .i64 (s.1-1)) 2))).bind fun a0=>(cN s.2.2.2.2.2.2.2.2 a0).bind fun n1=>bif decide (n1<0) then (aN (s.2.1.take s.2.2.2.2.2.2.1) (aA .i64 (bo (aA .i64 (s.1-1)) 2))).bind fun a2=>(cC (s.2.2.2.1,s.2.2.2.2.1,s.2.2.2.2.2.1,s.2.2.2.2.2.2.1,s.2.2.2.2.2.2.2.1,s.1,a2.1,a2.2.1,a2.2.2.1,a2.2.2.2.1,a2.2.2.2.2,s.2.1,s.2.2.1)).bind fun a3=>some (.next (aA .i64 (bo (aA .i64 (s.1-1)) 2),a3.1,a3.2,s.2.2.2)) else aG (gK c0) (s.1,aA .i64 ((aA .i64 (2*s.1))+1),s.2) else aG (gK c0) (s.1,aA .i64 ((aA .i64 (2*s.1))+1),s.2)
def lL (a:aLk):Option QU:=aG (eY a) (a.2.2.2.2.2.1,a.2.2.2.2.2.2.2.2.2.2.2.1,a.2.2.2.2.2.2.2.2.2.2.2.2,a.1,a.2.1,a.2.2.1,a.2.2.2.1,a.2.2.2.2.1,a.2.2.2.2.2.2.1,a.2.2.2.2.2.2.2.1,a.2.2.2.2.2.2.2.2.1,a.2.2.2.2.2.2.2.2.2.1,a.2.2.2.2.2.2.2.2.2.2.1)
def UN:eH:=⟨[.l [.i .i64],.l [.b],.l [.i .i64],.n,.n,.i,.i,.i,.i,.i,.i,.l [.i .i64,.i .i64,.i .i64,.i .i64,.i .i64],.l [.i .i64]],[.agg [.sl [.i .i64] [],.sl [.b] [],.sl [.i .i64] [],.pre 0 0 0 false,.own 1 false],.int .i64 0,.agg [.int .i64 0,.int .i64 0,.int .i64 0,.int .i64 0,.int .i64 0]],[.arr [.i .i64,.i .i64,.i .i64,.i .i64,.i .i64] [],.arr [.i .i64] []],[.l [.i .i64,.i .i64,.i .i64,.i .i64,.i .i64],.l [.i .i64]],.tup [],[.arr [.i .i64,.i .i64,.i .i64,.i .i64,.i .i64] [],.arr [.i .i64] []],fun a=>lL a⟩
theorem K2:lG tab 279 UN:=lG.of aBL (wd:=false) (cx:=(kY aH [(183,aLF)] [(295,aAx)] [] [])) (jA.make ⟨UI,trivial⟩ ⟨R7,trivial⟩ trivial) (fun a=>by kernel_rfl)
def uK (p0:aP) (p1:Int):Option (aP×(Int×Int×Int×Int×Int)×Int):=(aN p0.aj p1).bind fun a0=>(F1 p0.ai a0.2.2.2).bind fun a1=>bif a1.2 !=0 then some (aP.mk (bD.mk [] [] []) [] [],(0,0,0,0,0),a1.2) else (bW p0.aj).bind fun l2=>(bW p0.am).bind fun l3=>(aN l2 (aA .i64 ((bm l2.length) -1))).bind fun a4=>(gW l2 0 (aA .i64 ((bm l2.length) -1))).bind fun _=>(aN l3 a0.2.2.2.1).bind fun _=>bif decide (p1<(aA .i64 ((bm l2.length) -1))) then (lL (a1.1.ac,a1.1.ae,a1.1.af,(aA .i64 ((bm l2.length) -1)).toNat,l2.length,p1,a4.1,a4.2.1,a4.2.2.1,a4.2.2.2.1,a4.2.2.2.2,l2,cL l3 a0.2.2.2.1 (-1))).bind fun a7=>some (aP.mk a1.1 (a7.1.take ((aA .i64 ((bm l2.length) -1)).toNat)) a7.2,a0,0) else some (aP.mk a1.1 (l2.take ((aA .i64 ((bm l2.length) -1)).toNat)) (cL l3 a0.2.2.2.1 (-1)),a0,0)
def aVF:bJ:=⟨aC.cons (aK.agg dN) (aC.one (aK.int .i64)),aK.tup (aC.cons (aK.agg dN) (aC.cons (aK.agg (cY.row mT)) (aC.one (aK.int .i64)))),fun a=>uK a.1 a.2,.frz,false⟩
theorem aMa:aI tab 274 aVF:=aI.of aK2 (cx:=(kY aH [(293,aVE),(211,bJ.clone mT),(32,bJ.clone ki)] [(279,UN)] [(278,aC9)] [])) rfl (jA.make ⟨aL9,xW,pW,trivial⟩ ⟨K2,trivial⟩ ⟨UB,trivial⟩) (fun a=>by kernel_rfl)
def nK (p0:aP) (p1:Int×Int):Option (aP×(Int×Int×Int×Int×Int)×Int):=(sC p0 p1).bind fun a0=>bif a0.2 !=0 then some (aP.mk (bD.mk [] [] []) [] [],(0,0,0,0,0),a0.2) else (uK p0 a0.1).bind fun a1=>some a1
def aS7:bJ:=⟨aC.cons (aK.agg dN) (aC.one (aK.agg (cY.row kL))),aK.tup (aC.cons (aK.agg dN) (aC.cons (aK.agg (cY.row mT)) (aC.one (aK.int .i64)))),fun a=>nK a.1 a.2,.frz,false⟩
theorem aB2:aI tab 234 aS7:=Oc aKF rfl aH [(273,aS6),(274,aVF)] ⟨aB1,aMa,trivial⟩ fun a=>by kernel_rfl
def mW (a:aDe):Option (Nat×Nat×cI):= iC a
def aFl:eH:=⟨[.i,.i,.l [.i .i64,.i .i64,.i .i64]],[.own 0 false,.int .i64 0,.int .i64 0],[.arr [.i .i64,.i .i64,.i .i64] []],[.n,.n,.l [.i .i64,.i .i64,.i .i64]],.pre 0 0 0 false,[.arr [.i .i64,.i .i64,.i .i64] []],fun a=>mW a⟩
theorem aDi:lG tab 235 aFl:=lG.of aKG (wd:=true) (cx:=(kY aH [] [] [] [])) (jA.make trivial trivial trivial) (fun a=>by kernel_rfl)
def tO (p0:aR) (p1:Int):Option (aR×(Int×Int)×Int):=(zQ p0.ax p1).bind fun a0=>bif a0.2.2 !=0 then some (kH,a0.2) else (oG p0).bind fun r1=>(qY p0.az p1).bind fun a2=>bif a2.2 then (aN p0.az a2.1).bind fun a3=>(nK p0.ay a3.2).bind fun a4=>bif a4.2.2 !=0 then some (kH,a0.2.1,a4.2.2) else (mW (a2.1,aA .i64 (a2.1+1),r1.az)).bind fun a5=>some (aR.mk r1.ar r1.au a0.1 a4.1 (a5.2.2.take a5.1),a0.2.1,0) else some (aR.mk r1.ar r1.au a0.1 r1.ay r1.az,a0.2.1,0)
def aVG:bJ:=⟨aC.cons (aK.agg bX) (aC.one (aK.int .i64)),aK.tup (aC.cons (aK.agg bX) (aC.cons (aK.agg (cY.row kL)) (aC.one (aK.int .i64)))),fun a=>tO a.1 a.2,.frz,false⟩
theorem aMb:aI tab 179 aVG:=aI.of aJ8 (cx:=(kY aH [(232,aVB),(180,aL6),(180,aBY),(233,aS4),(234,aS7)] [(235,aFl)] [] [])) rfl (jA.make ⟨aL5,UM,O4,aBZ,aB2,trivial⟩ ⟨aDi,trivial⟩ trivial) (fun a=>by kernel_rfl)
def xA (p0:aR) (p1:Int):Option (aR×Int):=(iG p0).bind fun n0=>bif n0 !=0 then some (kH,n0) else (tO p0 p1).bind fun a1=>some (a1.1,a1.2.2)
def aVH:bJ:=⟨aC.cons (aK.agg bX) (aC.one (aK.int .i64)),aK.tup (aC.cons (aK.agg bX) (aC.one (aK.int .i64))),fun a=>xA a.1 a.2,.frz,false⟩
theorem aMc:aI tab 204 aVH:=Oc aKh rfl aH [(74,c74),(179,aVG)] ⟨O3,aMb,trivial⟩ fun a=>by kernel_rfl
def kG (s:(cI×cI×Int×Int)):Option (bR (cI×cI×Int×Int) Bool):=bif decide (s.2.2.2<s.2.2.1) then (aN s.1 s.2.2.2).bind fun a0=>(aN s.2.1 s.2.2.2).bind fun a1=>bif !((a0.1==a1.1)&&((a0.2.1==a1.2.1)&&(a0.2.2==a1.2.2))) then some (.done false) else some (.next (s.1,s.2.1,s.2.2.1,aA .i64 (s.2.2.2+1))) else some (.done true)
def mX (p0:List (Int×Int×Int)) (p1:List (Int×Int×Int)):Option Bool:=bif (bm p0.length) !=(bm p1.length) then some false else aG kG (p0,p1,bm p0.length,0)
def aVI:bJ:=⟨aC.cons (aK.sl fE) (aC.one (aK.sl fE)),aK.bool,fun a=>mX a.1 a.2,.pure,false⟩
theorem aMd:aI tab 205 aVI:=Oc aKi rfl aH [] trivial fun a=>by kernel_rfl
def cD (a:aLl):Option QU:=(aN a.2.2.2.2.2.2.2.2.2.1 a.2.2.2.1).bind fun _=>(aN a.2.2.2.2.2.2.2.2.2.2 a.2.2.2.2.2.2.2.1).bind fun _=>bif ((cL a.2.2.2.2.2.2.2.2.2.1 a.2.2.2.1 (a.2.2.2.2.1,a.2.2.2.2.2.1,a.2.2.2.2.2.2.1,a.2.2.2.2.2.2.2.1,a.2.2.2.2.2.2.2.2.1)).length)==a.2.2.2.2.2.2.2.2.2.1.length then bif ((cL a.2.2.2.2.2.2.2.2.2.2 a.2.2.2.2.2.2.2.1 a.2.2.2.1).length)==a.2.2.2.2.2.2.2.2.2.2.length then some (cL a.2.2.2.2.2.2.2.2.2.1 a.2.2.2.1 (a.2.2.2.2.1,a.2.2.2.2.2.1,a.2.2.2.2.2.2.1,a.2.2.2.2.2.2.2.1,a.2.2.2.2.2.2.2.2.1),cL a.2.2.2.2.2.2.2.2.2.2 a.2.2.2.2.2.2.2.1 a.2.2.2.1) else none else none
def aFm:eH:=⟨[.l [.i .i64],.l [.b],.l [.i .i64],.i,.i,.i,.i,.i,.i,.l [.i .i64,.i .i64,.i .i64,.i .i64,.i .i64],.l [.i .i64]],[.agg [.sl [.i .i64] [],.sl [.b] [],.sl [.i .i64] [],.own 0 false,.own 1 false],.int .i64 0,.agg [.int .i64 0,.int .i64 0,.int .i64 0,.int .i64 0,.int .i64 0]],[.arr [.i .i64,.i .i64,.i .i64,.i .i64,.i .i64] [],.arr [.i .i64] []],[.l [.i .i64,.i .i64,.i .i64,.i .i64,.i .i64],.l [.i .i64]],.tup [],[.arr [.i .i64,.i .i64,.i .i64,.i .i64,.i .i64] [],.arr [.i .i64] []],fun a=>cD a⟩
theorem aDj:lG tab 295 aFm:=lG.of aBO (wd:=false) (cx:=(kY aH [] [] [] [])) (jA.make trivial trivial trivial) (fun a=>by kernel_rfl)
def gL (c0:aLl) (s:aUP):Option (bR aUP aUK):=match s with |(a,b,d,e,f,g,h,i,j,k,l,m)=>bif decide (b<(bm d.length)) then bif decide ((aA .i64 (b+1))<(bm d.length)) then (aN d (aA .i64 (b+1))).bind fun a0=>(aN d b).bind fun a1=>(cN a0 a1).bind fun n2=>bif decide (n2<0) then (aN d (aA .i64 (b+1))).bind fun a3=>(cN a3 (i,j,k,l,m)).bind fun n4=>bif decide (0<=n4) then (cD (f,g,h,a,i,j,k,l,m,d,e)).bind fun a5=>bif a5.1.length==c0.2.2.2.2.2.2.2.2.2.1.length then bif a5.2.length==c0.2.2.2.2.2.2.2.2.2.2.length then some (.done (.done a5)) else none else none else (aN d (aA .i64 (b+1))).bind fun a6=>(cD (f,g,h,a,a6.1,a6.2.1,a6.2.2.1,a6.2.2.2.1,a6.2.2.2.2,d,e)).bind fun a7=>some (.next (aA .i64 (b+1),aA .i64 ((aA .i64 (2*(aA .i64 (b+1))))+1),a7.1,a7.2,(f,g,h,i,j,k,l,m))) else (aN d b).bind fun a8=>(cN a8 (i,j,k,l,m)).bind fun n9=>bif decide (0<=n9) then (cD (f,g,h,a,i,j,k,l,m,d,e)).bind fun a10=>bif a10.1.length==c0.2.2.2.2.2.2.2.2.2.1.length then bif a10.2.length==c0.2.2.2.2.2.2.2.2.2.2.length then some (.done (.done a10)) else none else none else (aN d b).bind fun a11=>(cD (f,g,h,a,a11.1,a11.2.1,a11.2.2.1,a11.2.2.2.1,a11.2.2.2.2,d,e)).bind fun a12=>some (.next (b,aA .i64 ((aA .i64 (2*b))+1),a12.1,a12.2,(f,g,h,i,j,k,l,m))) else (aN d b).bind fun a13=>(cN a13 (i,j,k,l,m)).bind fun n14=>bif decide (0<=n14) then (cD (f,g,h,a,i,j,k,l,m,d,e)).bind fun a15=>bif a15.1.length==c0.2.2.2.2.2.2.2.2.2.1.length then bif a15.2.length==c0.2.2.2.2.2.2.2.2.2.2.length then some (.done (.done a15)) else none else none else (aN d b).bind fun a16=>(cD (f,g,h,a,a16.1,a16.2.1,a16.2.2.1,a16.2.2.2.1,a16.2.2.2.2,d,e)).bind fun a17=>some (.next (b,aA .i64 ((aA .i64 (2*b))+1),a17.1,a17.2,(f,g,h,i,j,k,l,m))) else (cD (f,g,h,a,i,j,k,l,m,d,e)).bind fun a18=>bif a18.1.length==c0.2.2.2.2.2.2.2.2.2.1.length then bif a18.2.length==c0.2.2.2.2.2.2.2.2.2.2.length then some (.done (.done a18)) else none else none
def eZ (c0:aLl) (s:aUJ):Option aUK:=bif decide (0<s.1) then (aN s.2.1 (aA .i64 (bo (aA .i64 (s.1-1)) 2))).bind fun a0=>(cN s.2.2.2.2.2.2 a0).bind fun n1=>bif decide (n1<0) then (aN s.2.1 (aA .i64 (bo (aA .i64 (s.1-1)) 2))).bind fun a2=>(cD (s.2.2.2.1,s.2.2.2.2.1,s.2.2.2.2.2.1,s.1,a2.1,a2.2.1,a2.2.2.1,a2.2.2.2.1,a2.2.2.2.2,s.2.1,s.2.2.1)).bind fun a3=>some (.next (aA .i64 (bo (aA .i64 (s.1-1)) 2),a3.1,a3.2,s.2.2.2)) else aG (gL c0) (s.1,aA .i64 ((aA .i64 (2*s.1))+1),s.2) else aG (gL c0) (s.1,aA .i64 ((aA .i64 (2*s.1))+1),s.2)
def fG (a:aLl):Option QU:=aG (eZ a) (a.2.2.2.1,a.2.2.2.2.2.2.2.2.2.1,a.2.2.2.2.2.2.2.2.2.2,a.1,a.2.1,a.2.2.1,a.2.2.2.2.1,a.2.2.2.2.2.1,a.2.2.2.2.2.2.1,a.2.2.2.2.2.2.2.1,a.2.2.2.2.2.2.2.2.1)
def aAy:eH:=⟨[.l [.i .i64],.l [.b],.l [.i .i64],.i,.i,.i,.i,.i,.i,.l [.i .i64,.i .i64,.i .i64,.i .i64,.i .i64],.l [.i .i64]],[.agg [.sl [.i .i64] [],.sl [.b] [],.sl [.i .i64] [],.own 0 false,.own 1 false],.int .i64 0,.agg [.int .i64 0,.int .i64 0,.int .i64 0,.int .i64 0,.int .i64 0]],[.arr [.i .i64,.i .i64,.i .i64,.i .i64,.i .i64] [],.arr [.i .i64] []],[.l [.i .i64,.i .i64,.i .i64,.i .i64,.i .i64],.l [.i .i64]],.tup [],[.arr [.i .i64,.i .i64,.i .i64,.i .i64,.i .i64] [],.arr [.i .i64] []],fun a=>fG a⟩
theorem R8:lG tab 279 aAy:=lG.of aBL (wd:=false) (cx:=(kY aH [(183,aLF)] [(295,aAx),(295,aFm)] [] [])) (jA.make ⟨UI,trivial⟩ ⟨R7,aDj,trivial⟩ trivial) (fun a=>by kernel_rfl)
def xB (p0:aP) (p1:Int×Int) (p2:Int×Int):Option (aP×Int):=(mV p0).bind fun n0=>(iE p2).bind fun n1=>bif (if n1>n0 then n1 else n0) !=0 then some (aP.mk (bD.mk [] [] []) [] [],if n1>n0 then n1 else n0) else (sC p0 p1).bind fun a2=>bif a2.2 !=0 then some (aP.mk (bD.mk [] [] []) [] [],a2.2) else (bW p0.aj).bind fun l3=>(bW p0.am).bind fun l4=>(aN l3 a2.1).bind fun a5=>(fG (p0.ai.ac,p0.ai.ae,p0.ai.af,a2.1,p2.1,p2.2,a5.2.2.1,a5.2.2.2.1,a5.2.2.2.2,l3,l4)).bind fun a6=>some (aP.mk p0.ai a6.1 a6.2,0)
def aVJ:bJ:=⟨aC.cons (aK.agg dN) (aC.cons (aK.agg (cY.row kL)) (aC.one (aK.agg (cY.row kL)))),aK.tup (aC.cons (aK.agg dN) (aC.one (aK.int .i64))),fun a=>xB a.1 a.2.1 a.2.2,.frz,false⟩
theorem aMe:aI tab 247 aVJ:=aI.of aKN (cx:=(kY aH [(127,aE9),(106,W9),(273,aS6),(211,bJ.clone mT),(32,bJ.clone ki)] [(279,UN),(279,aAy)] [(278,aC9)] [])) rfl (jA.make ⟨MZ,CO,aB1,xW,pW,trivial⟩ ⟨K2,R8,trivial⟩ ⟨UB,trivial⟩) (fun a=>by kernel_rfl)
def AT (p0:Int×Int×Int×Int×Int) (p1:Int):Option Bool:=some (p0.2.2.1==p1)
def aVK:bJ:=⟨aC.cons (aK.agg (cY.row mT)) (aC.one (aK.ref (cY.int .i64))),aK.bool,fun a=>AT a.1 a.2,.pure,false⟩
theorem aMf:aI tab 281 aVK:=Oc aBM rfl aH [] trivial fun a=>by kernel_rfl
def dC (s:(kZ×Int×Int×Int)):Option (bR (kZ×Int×Int×Int) Int):=bif decide (s.2.2.2<s.2.2.1) then (aN s.1 s.2.2.2).bind fun a0=>(AT a0 s.2.1).bind fun b1=>bif b1 then some (.done s.2.2.2) else some (.next (s.1,s.2.1,s.2.2.1,aA .i64 (s.2.2.2+1))) else some (.done (-1))
def fA (p0:List (Int×Int×Int×Int×Int)) (p1:Int):Option Int:=aG dC (p0,p1,bm p0.length,0)
def XQ:bJ:=⟨aC.cons (aK.sl mT) (aC.one (aK.clo 281 (aC.one (aK.ref (cY.int .i64))))),aK.int .i64,fun a=>fA a.1 a.2,.pure,false⟩
theorem XS:aI tab 296 XQ:=aI.of aLf (cx:=(kY aH [(281,aVK)] [] [(281,aIR)] [])) rfl (jA.make ⟨aMf,trivial⟩ trivial ⟨aBM,trivial⟩) (fun a=>by kernel_rfl)
def dD (p0:List (Int×Int×Int×Int×Int)) (p1:Int):Option Bool:=(fA p0 p1).bind fun n0=>some (decide (0<=n0))
def XT:bJ:=⟨aC.cons (aK.sl mT) (aC.one (aK.clo 281 (aC.one (aK.ref (cY.int .i64))))),aK.bool,fun a=>dD a.1 a.2,.pure,false⟩
theorem XU:aI tab 280 XT:=Oc aK5 rfl aH [(296,XQ)] ⟨XS,trivial⟩ fun a=>by kernel_rfl
def yF (p0:List Int):Option ((List Int)×Int):=(gW p0 0 (aA .i64 ((bm p0.length) -1))).bind fun l0=>(bW l0).bind fun l1=>(aN p0 (aA .i64 ((bm p0.length) -1))).bind fun n2=>some (l1,n2)
def aVL:bJ:=⟨aC.one (aK.sl ki),aK.tup (aC.cons (aK.sl ki) (aC.one (aK.int .i64))),fun a=>yF a,.frz,false⟩
theorem aMg:aI tab 297 aVL:=Oc aLg rfl aH [(301,bJ.clone ki)] ⟨W7,trivial⟩ fun a=>by kernel_rfl
def F2 (p0:bD):Option (bD×(Int×Int)×Int):=(tL p0).bind fun n0=>bif n0 !=0 then some (bD.mk [] [] [],(0,0),n0) else bif (bm p0.af.length)==0 then some (bD.mk [] [] [],(0,0),18) else (yF p0.af).bind fun a1=>(aN p0.ac a1.2).bind fun n2=>bif n2==1000000 then some (bD.mk [] [] [],(0,0),18) else (bW p0.ac).bind fun l3=>(bW p0.ae).bind fun l4=>(aN l4 a1.2).bind fun _=>(aN l3 a1.2).bind fun n6=>(aN l3 a1.2).bind fun _=>(aN (cL l3 a1.2 (aA .i64 (n6+1))) a1.2).bind fun n8=>some (bD.mk (cL l3 a1.2 (aA .i64 (n6+1))) (cL l4 a1.2 true) a1.1,(a1.2,n8),0)
def aVM:bJ:=⟨aC.one (aK.agg gT),aK.tup (aC.cons (aK.agg gT) (aC.cons (aK.agg (cY.row kL)) (aC.one (aK.int .i64)))),fun a=>F2 a,.frz,false⟩
theorem aMh:aI tab 282 aVM:=aI.of aK6 (cx:=(kY aH [(182,aLv),(297,aVL),(32,bJ.clone ki),(212,bJ.clone kb)] [] [(298,aEO)] [])) rfl (jA.make ⟨UG,aMg,pW,xV,trivial⟩ trivial ⟨aBP,trivial⟩) (fun a=>by kernel_rfl)
def mP (p0:aP) (p1:Int×Int) (p2:Int):Option (aP×(Int×Int)×Int):=(mV p0).bind fun n0=>(iE p1).bind fun n1=>bif (if n1>n0 then n1 else n0) !=0 then some (aP.mk (bD.mk [] [] []) [] [],(0,0),if n1>n0 then n1 else n0) else bif decide (p2<0) then some (aP.mk (bD.mk [] [] []) [] [],(0,0),2) else bif decide (1000000<p2) then some (aP.mk (bD.mk [] [] []) [] [],(0,0),2) else (dD p0.aj p2).bind fun b2=>bif b2 then some (aP.mk (bD.mk [] [] []) [] [],(0,0),14) else (F2 p0.ai).bind fun a3=>bif a3.2.2 !=0 then some (aP.mk (bD.mk [] [] []) [] [],(0,0),a3.2.2) else (bW p0.aj).bind fun l4=>(bW p0.am).bind fun l5=>(bP l4 [(p1.1,p1.2,p2,a3.2.1)]).bind fun l6=>(fG (a3.1.ac,a3.1.ae,a3.1.af,aA .i64 ((bm l6.length) -1),p1.1,p1.2,p2,a3.2.1.1,a3.2.1.2,l6,l5)).bind fun a7=>some (aP.mk a3.1 a7.1 a7.2,a3.2.1,0)
def aS8:bJ:=⟨aC.cons (aK.agg dN) (aC.cons (aK.agg (cY.row kL)) (aC.one (aK.int .i64))),aK.tup (aC.cons (aK.agg dN) (aC.cons (aK.agg (cY.row kL)) (aC.one (aK.int .i64)))),fun a=>mP a.1 a.2.1 a.2.2,.frz,false⟩
theorem aB3:aI tab 248 aS8:=aI.of aKO (cx:=(kY aH [(127,aE9),(106,W9),(280,XT),(282,aVM),(211,bJ.clone mT),(32,bJ.clone ki)] [(279,UN),(279,aAy)] [(278,aC9)] [])) rfl (jA.make ⟨MZ,CO,XU,aMh,xW,pW,trivial⟩ ⟨K2,R8,trivial⟩ ⟨UB,trivial⟩) (fun a=>by kernel_rfl)
def dT (s:Zt3):Option (bR Zt3 Zt7):=match s with |(a,b,d,e,f,g,h,i,j,k,l,m,n,o,q,r,t,u,v,w,x,y,z,A,B,C,D,E,F)=>bif decide (d<b) then (aN a d).bind fun a0=>(tN (Field.mk q) a0.2 (e,f)).bind fun a1=>(qY o a0.1).bind fun a2=>bif a1.2.1 then bif a2.2 then (aN o a2.1).bind fun a3=>(xB (aP.mk (bD.mk z A B) C D) a3.2 a1.1).bind fun a4=>(aN o a2.1).bind fun a5=>(bP F [a5]).bind fun l6=>bif a4.2 !=0 then some (.done (.done (kH,a4.2))) else some (.next (a,b,aA .i64 (d+1),e,f,g,h,i,j,k,l,m,n,o,q,r,t,u,v,w,x,y,a4.1.ai.ac,a4.1.ai.ae,a4.1.ai.af,a4.1.aj,a4.1.am,E,l6)) else bif a1.2.1 then (mP (aP.mk (bD.mk z A B) C D) a1.1 a0.1).bind fun a7=>(bP F [(a0.1,a7.2.1)]).bind fun l8=>bif a7.2.2 !=0 then some (.done (.done (kH,a7.2.2))) else some (.next (a,b,aA .i64 (d+1),e,f,g,h,i,j,k,l,m,n,o,q,r,t,u,v,w,x,y,a7.1.ai.ac,a7.1.ai.ae,a7.1.ai.af,a7.1.aj,a7.1.am,E,l8)) else bif a2.2 then (aN o a2.1).bind fun a9=>(nK (aP.mk (bD.mk z A B) C D) a9.2).bind fun a10=>bif a10.2.2 !=0 then some (.done (.done (kH,a10.2.2))) else some (.next (a,b,aA .i64 (d+1),e,f,g,h,i,j,k,l,m,n,o,q,r,t,u,v,w,x,y,a10.1.ai.ac,a10.1.ai.ae,a10.1.ai.af,a10.1.aj,a10.1.am,(E,F))) else bif a1.2.2 !=0 then some (.done (.done (kH,a1.2.2))) else some (.next (a,b,aA .i64 (d+1),(e,f,g,h,i,j,k,l,m,n,o,q,r,t,u,v,w,x,y,z,A,B,C,D,E,F))) else bif a1.2.1 then (mP (aP.mk (bD.mk z A B) C D) a1.1 a0.1).bind fun a11=>(bP F [(a0.1,a11.2.1)]).bind fun l12=>bif a11.2.2 !=0 then some (.done (.done (kH,a11.2.2))) else some (.next (a,b,aA .i64 (d+1),e,f,g,h,i,j,k,l,m,n,o,q,r,t,u,v,w,x,y,a11.1.ai.ac,a11.1.ai.ae,a11.1.ai.af,a11.1.aj,a11.1.am,E,l12)) else bif a2.2 then (aN o a2.1).bind fun a13=>(nK (aP.mk (bD.mk z A B) C D) a13.2).bind fun a14=>bif a14.2.2 !=0 then some (.done (.done (kH,a14.2.2))) else some (.next (a,b,aA .i64 (d+1),e,f,g,h,i,j,k,l,m,n,o,q,r,t,u,v,w,x,y,a14.1.ai.ac,a14.1.ai.ae,a14.1.ai.af,a14.1.aj,a14.1.am,(E,F))) else bif a1.2.2 !=0 then some (.done (.done (kH,a1.2.2))) else some (.next (a,b,aA .i64 (d+1),(e,f,g,h,i,j,k,l,m,n,o,q,r,t,u,v,w,x,y,z,A,B,C,D,E,F))) else some (.done (.done (aR.mk (v,w) (Field.mk E) (bO.mk x y) (aP.mk (bD.mk z A B) C D) F,0)))
def lU (s:aUD):Option Zt7:=match s with |(a,b,d,e,f,g,h,i,j,k,l,m,n,o,q,r,t,u)=>bif decide (d<b) then (aN a d).bind fun a0=>(kU (Field.mk q) a0.2.1).bind fun a1=>bif decide (a1.1<0) then some (.done (kH,6)) else (kU (Field.mk q) a0.2.2).bind fun a2=>bif decide (a2.1<0) then some (.done (kH,6)) else some (.next (a,b,aA .i64 (d+1),(e,f,g,h,i,j,k,l,m,n,o,q,r,t,u))) else (oG (aR.mk (e,f) (Field.mk g) (bO.mk h i) (aP.mk (bD.mk j k l) m n) o)).bind fun r3=>(bW q).bind fun l4=>aG dT (i,bm i.length,0,e,f,g,h,i,j,k,l,m,n,o,q,r,t,u,r3.ar.1,r3.ar.2,r3.ax.ao,r3.ax.aq,r3.ay.ai.ac,r3.ay.ai.ae,r3.ay.ai.af,r3.ay.aj,r3.ay.am,l4,[])
def qZ (p0:aR) (p1:Field):Option (aR×Int):=(iG p0).bind fun n0=>bif n0 !=0 then some (kH,n0) else (fI p1).bind fun n1=>bif n1 !=0 then some (kH,n1) else aG lU (p0.ax.aq,bm p0.ax.aq.length,0,p0.ar.1,p0.ar.2,p0.au.aa,p0.ax.ao,p0.ax.aq,p0.ay.ai.ac,p0.ay.ai.ae,p0.ay.ai.af,p0.ay.aj,p0.ay.am,p0.az,p1.aa,0,0,0)
def aVN:bJ:=⟨aC.cons (aK.agg bX) (aC.one (aK.agg cA)),aK.tup (aC.cons (aK.agg bX) (aC.one (aK.int .i64))),fun a=>qZ a.1 a.2,.frz,false⟩
theorem aMi:aI tab 206 aVN:=Oc aKj rfl aH [(74,c74),(57,c57),(185,aLH),(180,aL6),(180,aBY),(61,bJ.clone fE),(128,aLO),(233,aS4),(247,aVJ),(248,aS8),(234,aS7)] ⟨O3,O2,UJ,UM,O4,FY,UL,aBZ,aMe,aB3,aB2,trivial⟩ fun a=>by kernel_rfl
def GZ (p0:Int×Int×Int) (p1:Int×Int):Option Bool:=some ((p0.2.1==p1.1)&&(p0.2.2==p1.2))
def aVO:bJ:=⟨aC.cons (aK.agg (cY.row fE)) (aC.one (aK.ref (cY.row kL))),aK.bool,fun a=>GZ a.1 a.2,.pure,false⟩
theorem aMj:aI tab 207 aVO:=Oc aBJ rfl aH [] trivial fun a=>by kernel_rfl
def nU (s:QV):Option (bR QV Int):=bif decide (s.2.2.2.2<s.2.2.2.1) then (aN s.1 s.2.2.2.2).bind fun a0=>(GZ a0 (s.2.1,s.2.2.1)).bind fun b1=>bif b1 then some (.done s.2.2.2.2) else some (.next (s.1,s.2.1,s.2.2.1,s.2.2.2.1,aA .i64 (s.2.2.2.2+1))) else some (.done (-1))
def jD (p0:List (Int×Int×Int)) (p1:(Int×Int)):Option Int:=aG nU (p0,p1.1,p1.2,bm p0.length,0)
def XV:bJ:=⟨aC.cons (aK.sl fE) (aC.one (aK.clo 207 (aC.one (aK.ref (cY.row kL))))),aK.int .i64,fun a=>jD a.1 a.2,.pure,false⟩
theorem XW:aI tab 201 XV:=aI.of T8 (cx:=(kY aH [(207,aVO)] [] [(207,aH1)] [])) rfl (jA.make ⟨aMj,trivial⟩ trivial ⟨aBJ,trivial⟩) (fun a=>by kernel_rfl)
def eK (p0:List (Int×Int×Int)) (p1:(Int×Int)):Option Bool:=(jD p0 p1).bind fun n0=>some (decide (0<=n0))
def XX:bJ:=⟨aC.cons (aK.sl fE) (aC.one (aK.clo 207 (aC.one (aK.ref (cY.row kL))))),aK.bool,fun a=>eK a.1 a.2,.pure,false⟩
theorem XY:aI tab 138 XX:=Oc T6 rfl aH [(201,XV)] ⟨XW,trivial⟩ fun a=>by kernel_rfl
def dS (p0:Int):Option (aR×Int×Int):=some (kH,0,p0)
def aVP:bJ:=⟨aC.one (aK.int .i64),aK.tup (aC.cons (aK.agg bX) (aC.cons (aK.int .i64) (aC.one (aK.int .i64)))),fun a=>dS a,.frz,false⟩
theorem aMk:aI tab 249 aVP:=Oc aKP rfl aH [] trivial fun a=>by kernel_rfl
def HW (p0:Int×Int×Int) (p1:Int×Int):Option Bool:=some ((p0.2.1==p1.1)&&(p0.2.2==p1.2))
def aVQ:bJ:=⟨aC.cons (aK.agg (cY.row fE)) (aC.one (aK.ref (cY.row kL))),aK.bool,fun a=>HW a.1 a.2,.pure,false⟩
theorem aMl:aI tab 283 aVQ:=Oc aBN rfl aH [] trivial fun a=>by kernel_rfl
def dR (s:QV):Option (bR QV Int):=bif decide (s.2.2.2.2<s.2.2.2.1) then (aN s.1 s.2.2.2.2).bind fun a0=>(HW a0 (s.2.1,s.2.2.1)).bind fun b1=>bif b1 then some (.done s.2.2.2.2) else some (.next (s.1,s.2.1,s.2.2.1,s.2.2.2.1,aA .i64 (s.2.2.2.2+1))) else some (.done (-1))
def gC (p0:List (Int×Int×Int)) (p1:(Int×Int)):Option Int:=aG dR (p0,p1.1,p1.2,bm p0.length,0)
def XZ:bJ:=⟨aC.cons (aK.sl fE) (aC.one (aK.clo 283 (aC.one (aK.ref (cY.row kL))))),aK.int .i64,fun a=>gC a.1 a.2,.pure,false⟩
theorem X0:aI tab 201 XZ:=aI.of T8 (cx:=(kY aH [(283,aVQ)] [] [(283,aIU)] [])) rfl (jA.make ⟨aMl,trivial⟩ trivial ⟨aBN,trivial⟩) (fun a=>by kernel_rfl)
def cO (p0:List (Int×Int×Int)) (p1:(Int×Int)):Option Bool:=(gC p0 p1).bind fun n0=>some (decide (0<=n0))
def X1:bJ:=⟨aC.cons (aK.sl fE) (aC.one (aK.clo 283 (aC.one (aK.ref (cY.row kL))))),aK.bool,fun a=>cO a.1 a.2,.pure,false⟩
theorem X2:aI tab 138 X1:=Oc T6 rfl aH [(201,XZ)] ⟨X0,trivial⟩ fun a=>by kernel_rfl
def JK (p0:bO) (p1:Int×Int):Option (bO×Int×Int):=(tK p0).bind fun n0=>bif n0 !=0 then some (bO.mk 0 [],0,n0) else (xY p1).bind fun b1=>bif !b1 then some (bO.mk 0 [],0,8) else (cO p0.aq p1).bind fun b2=>bif b2 then some (bO.mk 0 [],0,14) else bif (bm p0.aq.length)==200 then some (bO.mk 0 [],0,18) else bif p0.ao==1000000 then some (bO.mk 0 [],0,18) else (bW p0.aq).bind fun l3=>(bP l3 [(p0.ao,p1)]).bind fun l4=>some (bO.mk (aA .i64 (p0.ao+1)) l4,p0.ao,0)
def aVR:bJ:=⟨aC.cons (aK.agg iA) (aC.one (aK.agg (cY.row kL))),aK.tup (aC.cons (aK.agg iA) (aC.cons (aK.int .i64) (aC.one (aK.int .i64)))),fun a=>JK a.1 a.2,.frz,false⟩
theorem aMm:aI tab 250 aVR:=Oc aKQ rfl aH [(126,aLs),(181,aSO),(138,X1),(209,bJ.clone fE)] ⟨UF,aBS,X2,BM,trivial⟩ fun a=>by kernel_rfl
def jJ (p0:aR) (p1:Int×Int):Option (aR×Int×Int):=(iG p0).bind fun n0=>bif n0 !=0 then (dS n0).bind fun a1=>some a1 else (JK p0.ax p1).bind fun a2=>bif a2.2.2==8 then (dS a2.2.2).bind fun a3=>some a3 else (kU p0.au p1.1).bind fun a4=>bif decide (a4.1<0) then (dS 6).bind fun a5=>some a5 else (kU p0.au p1.2).bind fun a6=>bif decide (a6.1<0) then (dS 6).bind fun a7=>some a7 else bif a2.2.2 !=0 then (dS a2.2.2).bind fun a8=>some a8 else (oG p0).bind fun r9=>(tN p0.au p1 p0.ar).bind fun a10=>bif a10.2.2 !=0 then (dS a10.2.2).bind fun a11=>some a11 else bif a10.2.1 then (mP p0.ay a10.1 a2.2.1).bind fun a12=>bif a12.2.2 !=0 then (dS a12.2.2).bind fun a13=>some a13 else (bP r9.az [(a2.2.1,a12.2.1)]).bind fun l14=>some (aR.mk r9.ar r9.au a2.1 a12.1 l14,a2.2.1,0) else some (aR.mk r9.ar r9.au a2.1 r9.ay r9.az,a2.2.1,0)
def aVS:bJ:=⟨aC.cons (aK.agg bX) (aC.one (aK.agg (cY.row kL))),aK.tup (aC.cons (aK.agg bX) (aC.cons (aK.int .i64) (aC.one (aK.int .i64)))),fun a=>jJ a.1 a.2,.frz,false⟩
theorem aMn:aI tab 208 aVS:=Oc aKk rfl aH [(74,c74),(249,aVP),(250,aVR),(185,aLH),(180,aL6),(180,aBY),(128,aLO),(248,aS8)] ⟨O3,aMk,aMm,UJ,UM,O4,UL,aB3,trivial⟩ fun a=>by kernel_rfl
def fO (s:Zt9):Option (bR Zt9 Zt6):=match s with |(a,b,d,e,f,g,h,i,j,k,l,m,n,o,q,r,t)=>bif decide (d<b) then (aN a d).bind fun a0=>(eK i a0).bind fun b1=>bif b1 then some (.next (a,b,aA .i64 (d+1),(e,f,g,h,i,j,k,l,m,n,o,q,r,t))) else (jJ (aR.mk (e,f) (Field.mk g) (bO.mk h i) (aP.mk (bD.mk j k l) m n) o) a0).bind fun a2=>bif a2.2.2 !=0 then some (.done (.done (kH,a2.2.2))) else some (.next (a,b,aA .i64 (d+1),a2.1.ar.1,a2.1.ar.2,a2.1.au.aa,a2.1.ax.ao,a2.1.ax.aq,a2.1.ay.ai.ac,a2.1.ay.ai.ae,a2.1.ay.ai.af,a2.1.ay.aj,a2.1.ay.am,a2.1.az,(q,r,t))) else some (.done (.done (aR.mk (e,f) (Field.mk g) (bO.mk h i) (aP.mk (bD.mk j k l) m n) o,0)))
def eQ (s:aUC):Option Zt6:=match s with |(a,b,d,e,f,g,h,i,j,k,l,m,n,o,q,r,t,u,v)=>bif decide (e<d) then (aN b e).bind fun a0=>(eO a a0.2).bind fun b1=>bif !b1 then (xA (aR.mk (f,g) (Field.mk h) (bO.mk i j) (aP.mk (bD.mk k l m) n o) q) a0.1).bind fun a2=>some (.next (a,b,d,aA .i64 (e+1),a2.1.ar.1,a2.1.ar.2,a2.1.au.aa,a2.1.ax.ao,a2.1.ax.aq,a2.1.ay.ai.ac,a2.1.ay.ai.ae,a2.1.ay.ai.af,a2.1.ay.aj,a2.1.ay.am,a2.1.az,(r,t,u,v))) else some (.next (a,b,d,aA .i64 (e+1),(f,g,h,i,j,k,l,m,n,o,q,r,t,u,v))) else (mX h r).bind fun b3=>bif !b3 then (qZ (aR.mk (f,g) (Field.mk h) (bO.mk i j) (aP.mk (bD.mk k l m) n o) q) (Field.mk r)).bind fun a4=>bif a4.2 !=0 then some (.done (kH,a4.2)) else aG fO (a,bm a.length,0,a4.1.ar.1,a4.1.ar.2,a4.1.au.aa,a4.1.ax.ao,a4.1.ax.aq,a4.1.ay.ai.ac,a4.1.ay.ai.ae,a4.1.ay.ai.af,a4.1.ay.aj,a4.1.ay.am,a4.1.az,(t,u,v)) else aG fO (a,bm a.length,0,f,g,h,i,j,k,l,m,n,o,q,(t,u,v))
def vR (p0:aR) (p1:Field) (p2:List (Int×Int)):Option (aR×Int):=aG eQ (p2,p0.ax.aq,bm p0.ax.aq.length,0,p0.ar.1,p0.ar.2,p0.au.aa,p0.ax.ao,p0.ax.aq,p0.ay.ai.ac,p0.ay.ai.ae,p0.ay.ai.af,p0.ay.aj,p0.ay.am,p0.az,p1.aa,0,0,0)
def aVT:bJ:=⟨aC.cons (aK.agg bX) (aC.cons (aK.agg cA) (aC.one (aK.sl kL))),aK.tup (aC.cons (aK.agg bX) (aC.one (aK.int .i64))),fun a=>vR a.1 a.2.1 a.2.2,.frz,false⟩
theorem aMo:aI tab 145 aVT:=Oc aJI rfl aH [(137,aFc),(204,aVH),(205,aVI),(206,aVN),(138,XX),(208,aVS)] ⟨M0,aMc,aMd,aMi,XY,aMn,trivial⟩ fun a=>by kernel_rfl
def fP (s:aDb):Option (bR aDb Zt1):=match s with |(a,b,d,e,f,g,h,i,j,k,l,m,n,o,q,r,t,u,v)=>bif decide (e<d) then (aN b e).bind fun a0=>(yD (Field.mk r) a0.1).bind fun a1=>(yD (Field.mk r) a0.2).bind fun a2=>bif a1.2 !=0 then some (.done (.done (.done (kH,6)))) else bif a2.2 !=0 then some (.done (.done (.done (kH,6)))) else some (.next (a,b,d,aA .i64 (e+1),(f,g,h,i,j,k,l,m,n,o,q,r,t,u,v))) else (yE (aR.mk (f,g) (Field.mk h) (bO.mk i j) (aP.mk (bD.mk k l m) n o) q)).bind fun r3=>(vR r3 (Field.mk r) a).bind fun a4=>some (.done (.done (.done a4)))
def eS (s:aDb):Option Zt1:=bif decide (s.2.2.2.1<s.2.2.1) then (aN s.2.1 s.2.2.2.1).bind fun a0=>(gW s.1 0 s.2.2.2.1).bind fun l1=>(eO l1 a0).bind fun b2=>bif b2 then some (.done (.done (kH,14))) else some (.next (s.1,s.2.1,s.2.2.1,aA .i64 (s.2.2.2.1+1),s.2.2.2.2)) else aG fP (s.1,s.1,bm s.1.length,0,s.2.2.2.2)
def eT (s:aDb):Option aUB:=bif decide (s.2.2.2.1<s.2.2.1) then (aN s.2.1 s.2.2.2.1).bind fun a0=>bif decide (a0.1<0) then some (.done (kH,8)) else bif decide (a0.2<0) then some (.done (kH,8)) else bif decide (65535<a0.1) then some (.done (kH,8)) else bif decide (65535<a0.2) then some (.done (kH,8)) else bif a0.1==a0.2 then some (.done (kH,8)) else some (.next (s.1,s.2.1,s.2.2.1,aA .i64 (s.2.2.2.1+1),s.2.2.2.2)) else aG eS (s.1,s.1,bm s.1.length,0,s.2.2.2.2)
def rA (p0:aR) (p1:Field) (p2:List (Int×Int)):Option (aR×Int):=(iG p0).bind fun n0=>bif n0 !=0 then some (kH,n0) else (fI p1).bind fun n1=>bif n1 !=0 then some (kH,n1) else aG eT (p2,p2,bm p2.length,0,p0.ar.1,p0.ar.2,p0.au.aa,p0.ax.ao,p0.ax.aq,p0.ay.ai.ac,p0.ay.ai.ae,p0.ay.ai.af,p0.ay.aj,p0.ay.am,p0.az,p1.aa,0,0,0)
def c86:bJ:=⟨aC.cons (aK.agg bX) (aC.cons (aK.agg cA) (aC.one (aK.sl kL))),aK.tup (aC.cons (aK.agg bX) (aC.one (aK.int .i64))),fun a=>rA a.1 a.2.1 a.2.2,.frz,false⟩
theorem aS9:aI tab 86 c86:=Oc aSo rfl aH [(74,c74),(57,c57),(137,aFc),(144,aVx),(146,aVy),(146,aNR),(145,aVT)] ⟨O3,O2,M0,aL1,aL2,aFj,aMo,trivial⟩ fun a=>by kernel_rfl
def iD (p0:aR) (p1:Field) (p2:List Int):Option (dE×Int):=(pO p1 p0.ar p2).bind fun a0=>(zP a0.1).bind fun l1=>(rA p0 p1 l1).bind fun a2=>bif a2.2 !=0 then some (dE.mk kH (bH.mk [] []),a2.2) else some (dE.mk a2.1 a0.1,0)
def c37:bJ:=⟨aC.cons (aK.agg bX) (aC.cons (aK.agg cA) (aC.one (aK.sl ki))),aK.tup (aC.cons (aK.agg fM) (aC.one (aK.int .i64))),fun a=>iD a.1 a.2.1 a.2.2,.frz,false⟩
theorem aTa:aI tab 37 c37:=Oc aRP rfl aH [(85,c85),(87,c87),(86,c86)] ⟨aFb,aS3,aS9,trivial⟩ fun a=>by kernel_rfl
def CU (p0:Int):Option Bool:=some (decide (p0<0))
def c35:bJ:=⟨aC.one (aK.int .i64),aK.bool,fun a=>CU a,.pure,false⟩
theorem aTb:aI tab 35 c35:=Oc aRO rfl aH [] trivial fun a=>by kernel_rfl
def lV (c0:(List Int)) (s:aDc):Option aUZ:=bif decide (s.2.1<(bm s.2.2.length)) then (aN s.2.2 s.2.1).bind fun n0=>(CU n0).bind fun b1=>bif !b1 then (aN s.2.2 s.1).bind fun _=>some (.next (aA .i64 (s.1+1),aA .i64 (s.2.1+1),cL s.2.2 s.1 n0)) else some (.next (s.1,aA .i64 (s.2.1+1),s.2.2)) else bif ((decide (0<=s.1))&&(decide (s.1<=(bm s.2.2.length))))&&(decide ((bm s.2.2.length)<=(bm s.2.2.length))) then bif bv (((bm s.2.2.length).toNat) -s.1.toNat) 0 then (gW s.2.2 0 s.1).bind fun _=>bif s.2.2.length==c0.length then some (.done (.done (s.1.toNat,s.2.2.length,s.2.2))) else none else bif (bu ((0+s.1.toNat)+(((bm s.2.2.length).toNat) -s.1.toNat)) s.2.2.length)&&(!false) then (gW (fS s.2.2 (0+s.1.toNat) (bn (((bm s.2.2.length).toNat) -s.1.toNat) 0)) 0 s.1).bind fun _=>bif ((fS s.2.2 (0+s.1.toNat) (bn (((bm s.2.2.length).toNat) -s.1.toNat) 0)).length)==c0.length then some (.done (.done (s.1.toNat,(fS s.2.2 (0+s.1.toNat) (bn (((bm s.2.2.length).toNat) -s.1.toNat) 0)).length,fS s.2.2 (0+s.1.toNat) (bn (((bm s.2.2.length).toNat) -s.1.toNat) 0)))) else none else none else none
def lW (c0:(List Int)) (s:aDc):Option aSE:=bif decide (s.2.1<s.1) then (aN s.2.2 s.2.1).bind fun n0=>(CU n0).bind fun b1=>bif b1 then bif s.2.2.length==c0.length then bif s.2.1==(-1) then bif s.2.2.length==c0.length then some (.done (s.2.2.length,s.2.2.length,s.2.2)) else none else aG (lV c0) (s.2.1,aA .i64 (s.2.1+1),s.2.2) else none else some (.next (s.1,aA .i64 (s.2.1+1),s.2.2)) else bif s.2.2.length==c0.length then bif s.2.2.length==c0.length then some (.done (s.2.2.length,s.2.2.length,s.2.2)) else none else none
def eD (a:(List Int)):Option (Nat×Nat×(List Int)):=aG (lW a) (bm a.length,0,a)
def aNS:eH:=⟨[.l [.i .i64]],[.own 0 false,.clo 35 [] []],[.arr [.i .i64] []],[.n,.n,.l [.i .i64]],.pre 0 0 0 false,[.arr [.i .i64] []],fun a=>eD a⟩
theorem aFn:lG tab 34 aNS:=lG.of aEU (wd:=true) (cx:=(kY aH [(35,c35)] [] [(83,x83)] [])) (jA.make ⟨aTb,trivial⟩ trivial ⟨KY,trivial⟩) (fun a=>by kernel_rfl)
def yG (p0:dE) (p1:Int):Option (dE×Int):=(sA p0).bind fun n0=>bif n0 !=0 then some (dE.mk kH (bH.mk [] []),n0) else (oF p0.be.au p1).bind fun a1=>bif a1.2 !=0 then some (dE.mk kH (bH.mk [] []),a1.2) else (bW p0.bg.ba).bind fun l2=>(jP l2 p1).bind fun n3=>(aN l2 n3).bind fun _=>bif decide (1<(bm ((cL l2 n3 (-1)).length))) then bif decide ((aA .i64 (4*(bm a1.1.aa.length)))<=(bm ((cL l2 n3 (-1)).length))) then (eD (cL l2 n3 (-1))).bind fun a5=>(iO [-1] (aA .i64 ((aA .i64 (bo (bm ((cL l2 n3 (-1)).length)) 2)) - (bm a5.1)))).bind fun l6=>bif l6.isEmpty then (iD p0.be a1.1 (a5.2.2.take a5.1)).bind fun a7=>some a7 else bif bu (a5.1+l6.length) a5.2.1 then bif (bu (a5.1+l6.length) a5.2.2.length)&&(!false) then (iD p0.be a1.1 ((fS a5.2.2 a5.1 l6).take (a5.1+l6.length))).bind fun a8=>some a8 else none else (bP (a5.2.2.take a5.1) l6).bind fun l9=>bif bu a5.1 a5.2.2.length then (iD p0.be a1.1 l9).bind fun a10=>some a10 else none else (iD p0.be a1.1 (cL l2 n3 (-1))).bind fun a11=>some a11 else (iD p0.be a1.1 (cL l2 n3 (-1))).bind fun a12=>some a12
def c10:bJ:=⟨aC.cons (aK.agg fM) (aC.one (aK.int .i64)),aK.tup (aC.cons (aK.agg fM) (aC.one (aK.int .i64))),fun a=>yG a.1 a.2,.frz,false⟩
theorem aTc:aI tab 10 c10:=aI.of aRB (cx:=(kY aH [(31,c31),(24,c24),(32,bJ.clone ki),(33,c33),(36,c36),(36,aVw),(37,c37)] [(34,aFd),(34,aNS)] [] [])) rfl (jA.make ⟨aFe,aS1,pW,aFh,aS2,aL0,aTa,trivial⟩ ⟨XJ,aFn,trivial⟩ trivial) (fun a=>by kernel_rfl)
def iU (p0:Int):Option Int:=bif decide (p0<0) then some (aA .u64 ((aA .u64 (aA .i64 (0- (aA .i64 (p0+1)))))+1)) else some (aA .u64 p0)
def aMp:bJ:=⟨aC.one (aK.int .i64),aK.int .u64,fun a=>iU a,.pure,false⟩
theorem UO:aI tab 117 aMp:=Oc aJq rfl aH [] trivial fun a=>by kernel_rfl
def pY (s:(Int×Int)):Option (bR (Int×Int) Int):=bif s.2 !=0 then bif s.2==0 then none else some (.next (s.2,bq s.1 s.2)) else some (.done s.1)
def sD (p0:Int) (p1:Int):Option Int:=aG pY (p0,p1)
def aTd:bJ:=⟨aC.cons (aK.int .u64) (aC.one (aK.int .u64)),aK.int .u64,fun a=>sD a.1 a.2,.pure,false⟩
theorem aB4:aI tab 116 aTd:=Oc aJp rfl aH [] trivial fun a=>by kernel_rfl
def vS (p0:Int×Int):Option Int:=bif decide (p0.2<1) then some 8 else bif p0.1==(-9223372036854775808) then some 8 else (iU p0.1).bind fun n0=>(sD n0 (aA .u64 p0.2)).bind fun n1=>bif n1 !=1 then some 8 else some 0
def c66:bJ:=⟨aC.one (aK.agg (cY.row kL)),aK.int .i64,fun a=>vS a,.pure,false⟩
theorem aFo:aI tab 66 c66:=Oc aR9 rfl aH [(117,aMp),(116,aTd)] ⟨UO,aB4,trivial⟩ fun a=>by kernel_rfl
def zR (p0:Int×Int×Int):Option Int:=bif decide (p0.1<0) then some 8 else bif decide (65535<p0.1) then some 8 else bif decide (p0.2.1<(-1048576)) then some 8 else bif decide (1048576<p0.2.1) then some 8 else bif decide (p0.2.2<(-1048576)) then some 8 else bif decide (1048576<p0.2.2) then some 8 else some 0
def aVU:bJ:=⟨aC.one (aK.agg (cY.row fE)),aK.int .i64,fun a=>zR a,.pure,false⟩
theorem aMq:aI tab 148 aVU:=Oc aJK rfl aH [] trivial fun a=>by kernel_rfl
def kB (s:aE5):Option (bR aE5 (bR aE5 Int)):=bif decide (s.1<(bm s.2.length)) then (aN s.2 (aA .i64 (s.1-1))).bind fun a0=>(aN s.2 s.1).bind fun a1=>bif decide (a1.1<=a0.1) then some (.done (.done 32)) else some (.next (aA .i64 (s.1+1),s.2)) else some (.done (.done 0))
def oH (s:aE5):Option (bR aE5 Int):=bif decide (s.1<(bm s.2.length)) then (aN s.2 s.1).bind fun a0=>(zR a0).bind fun n1=>bif n1 !=0 then some (.done 8) else some (.next (aA .i64 (s.1+1),s.2)) else aG kB (1,s.2)
def oI (p0:Field):Option Int:=bif decide (64<(bm p0.aa.length)) then some 4 else aG oH (0,p0.aa)
def c88:bJ:=⟨aC.one (aK.agg cA),aK.int .i64,fun a=>oI a,.pure,false⟩
theorem aFp:aI tab 88 c88:=Oc aSq rfl aH [(148,aVU)] ⟨aMq,trivial⟩ fun a=>by kernel_rfl
def yH (p0:Int×Int):Option Bool:=bif decide (0<=p0.1) then bif decide (p0.1<=65535) then bif decide (0<=p0.2) then bif decide (p0.2<=65535) then some (p0.1 !=p0.2) else some false else some false else some false else some false
def aTe:bJ:=⟨aC.one (aK.agg (cY.row kL)),aK.bool,fun a=>yH a,.pure,false⟩
theorem aB5:aI tab 158 aTe:=Oc aJS rfl aH [] trivial fun a=>by kernel_rfl
def gM (s:(Int×Int×Int×cI×Int×Int×Int)):Option (bR (Int×Int×Int×cI×Int×Int×Int) aSF):=bif decide (s.2.1<s.1) then (aN s.2.2.2.1 s.2.1).bind fun a0=>bif (a0.2.1==s.2.2.2.2.2.1)&&(a0.2.2==s.2.2.2.2.2.2) then some (.done (.done 8)) else some (.next (s.1,aA .i64 (s.2.1+1),s.2.2)) else some (.done (.next (aA .i64 (s.1+1),s.2.2.1,s.2.2.2.1)))
def sE (s:aDe):Option aSF:=bif decide (s.1<(bm s.2.2.length)) then (aN s.2.2 s.1).bind fun a0=>(yH a0.2).bind fun b1=>bif !b1 then some (.done 8) else bif decide (a0.1<0) then some (.done 8) else bif decide (s.2.1<=a0.1) then some (.done 8) else bif decide (0<s.1) then (aN s.2.2 (aA .i64 (s.1-1))).bind fun a2=>bif decide (a0.1<=a2.1) then some (.done 8) else aG gM (s.1,0,s.2.1,s.2.2,a0) else aG gM (s.1,0,s.2.1,s.2.2,a0) else some (.done 0)
def vT (p0:bO):Option Int:=bif decide (200<(bm p0.aq.length)) then some 8 else bif decide (p0.ao<0) then some 8 else bif decide (1000000<p0.ao) then some 8 else aG sE (0,p0.ao,p0.aq)
def c96:bJ:=⟨aC.one (aK.agg iA),aK.int .i64,fun a=>vT a,.pure,false⟩
theorem aFq:aI tab 96 c96:=Oc aSx rfl aH [(158,aTe)] ⟨aB5,trivial⟩ fun a=>by kernel_rfl
def vU (s:aDe):Option aSF:=bif decide (s.2.1<(bm s.2.2.length)) then (aN s.2.2 s.2.1).bind fun a0=>bif a0.1==s.1 then some (.done s.2.1) else some (.next (s.1,aA .i64 (s.2.1+1),s.2.2)) else some (.done (-1))
def gU (p0:Field) (p1:Int):Option Int:=aG vU (p1,0,p0.aa)
def c89:bJ:=⟨aC.cons (aK.agg cA) (aC.one (aK.int .i64)),aK.int .i64,fun a=>gU a.1 a.2,.pure,false⟩
theorem K3:aI tab 89 c89:=Oc aSr rfl aH [] trivial fun a=>by kernel_rfl
def sF (s:aLm):Option (bR aLm Bool):=bif decide (s.1<(bm s.2.2.1.length)) then (aN s.2.2.1 s.1).bind fun a0=>(gU (Field.mk s.2.2.2) a0.2.1).bind fun n1=>bif decide (n1<0) then some (.done false) else (aN s.2.2.1 s.1).bind fun a2=>(gU (Field.mk s.2.2.2) a2.2.2).bind fun n3=>bif decide (n3<0) then some (.done false) else some (.next (aA .i64 (s.1+1),s.2)) else some (.done true)
def zS (p0:bO) (p1:Field):Option Bool:=aG sF (0,p0.ao,p0.aq,p1.aa)
def c97:bJ:=⟨aC.cons (aK.agg iA) (aC.one (aK.agg cA)),aK.bool,fun a=>zS a.1 a.2,.pure,false⟩
theorem aTg:aI tab 97 c97:=Oc aSy rfl aH [(89,c89)] ⟨K3,trivial⟩ fun a=>by kernel_rfl
def lX (s:aE3):Option (bR aE3 (bR aE3 Int)):=bif decide (s.2.1<s.1) then (aN s.2.2.1 s.2.1).bind fun n0=>bif decide (n0<0) then some (.done (.done 8)) else (aN s.2.2.1 s.2.1).bind fun n1=>bif decide (1000000<n1) then some (.done (.done 8)) else (aN s.2.2.2.1 s.2.1).bind fun b2=>(aN s.2.2.2.2.2 s.2.1).bind fun b3=>bif b2==b3 then some (.done (.done 8)) else (aN s.2.2.2.1 s.2.1).bind fun b4=>bif b4 then (aN s.2.2.1 s.2.1).bind fun n5=>bif decide (n5<1) then some (.done (.done 8)) else some (.next (s.1,aA .i64 (s.2.1+1),s.2.2)) else some (.next (s.1,aA .i64 (s.2.1+1),s.2.2)) else some (.done (.done 0))
def sG (s:aE3):Option (bR aE3 Int):=bif decide (s.2.1<(bm s.2.2.2.2.1.length)) then (aN s.2.2.2.2.1 s.2.1).bind fun n0=>bif decide (n0<0) then some (.done 8) else (aN s.2.2.2.2.1 s.2.1).bind fun n1=>bif decide (s.1<=n1) then some (.done 8) else (aN s.2.2.2.2.1 s.2.1).bind fun n2=>(aN s.2.2.2.2.2 n2).bind fun b3=>bif b3 then some (.done 8) else (aN s.2.2.2.2.1 s.2.1).bind fun n4=>(aN s.2.2.2.2.2 n4).bind fun _=>some (.next (s.1,aA .i64 (s.2.1+1),s.2.2.1,s.2.2.2.1,s.2.2.2.2.1,cL s.2.2.2.2.2 n4 true)) else aG lX (s.1,0,s.2.2)
def zT (p0:bD):Option Int:=bif decide ((bm p0.ac.length)<1) then some 8 else bif decide (200<(bm p0.ac.length)) then some 8 else bif (bm p0.ae.length) !=(bm p0.ac.length) then some 8 else bif decide ((bm p0.ac.length)<(bm p0.af.length)) then some 8 else bif (bm p0.ac.length)==(bm p0.ac.length) then (GR (bm p0.ac.length) (false:Bool)).bind fun l0=>aG sG (bm p0.ac.length,0,p0.ac,p0.ae,p0.af,l0) else none
def aVV:bJ:=⟨aC.one (aK.agg gT),aK.int .i64,fun a=>zT a,.pure,false⟩
theorem aMr:aI tab 159 aVV:=Oc aJT rfl aH [] trivial fun a=>by kernel_rfl
def yI (p0:bD) (p1:Int×Int):Option Bool:=bif decide (0<=p1.1) then bif decide (p1.1<(bm p0.ac.length)) then (aN p0.ae p1.1).bind fun b0=>bif b0 then (aN p0.ac p1.1).bind fun n1=>some (n1==p1.2) else some false else some false else some false
def aTh:bJ:=⟨aC.cons (aK.agg gT) (aC.one (aK.agg (cY.row kL))),aK.bool,fun a=>yI a.1 a.2,.pure,false⟩
theorem aB6:aI tab 163 aTh:=Oc aJX rfl aH [] trivial fun a=>by kernel_rfl
def pZ (s:aSD):Option (bR aSD Bool):=bif decide (s.2.1<s.1) then (aN s.2.2.2.1 s.2.1).bind fun b0=>bif !b0 then (aN s.2.2.2.2.2.2 s.2.1).bind fun n1=>bif n1 !=(-1) then some (.done false) else some (.next (s.1,aA .i64 (s.2.1+1),s.2.2)) else (aN s.2.2.2.2.2.2 s.2.1).bind fun n2=>bif decide (n2<0) then some (.done false) else bif decide ((bm s.2.2.2.2.2.1.length)<=n2) then some (.done false) else (aN s.2.2.2.2.2.1 n2).bind fun a3=>bif a3.2.2.2.1 !=s.2.1 then some (.done false) else (aN s.2.2.2.2.2.1 n2).bind fun a4=>(yI (bD.mk s.2.2.1 s.2.2.2.1 s.2.2.2.2.1) a4.2.2.2).bind fun b5=>bif !b5 then some (.done false) else some (.next (s.1,aA .i64 (s.2.1+1),s.2.2)) else some (.done true)
def xC (p0:aP):Option Bool:=bif (bm p0.am.length) !=(bm p0.ai.ac.length) then some false else bif (bm p0.aj.length) !=(aA .i64 ((bm p0.ai.ac.length) - (bm p0.ai.af.length))) then some false else aG pZ (bm p0.ai.ac.length,0,p0.ai.ac,p0.ai.ae,p0.ai.af,p0.aj,p0.am)
def aVW:bJ:=⟨aC.one (aK.agg dN),aK.bool,fun a=>xC a,.pure,false⟩
theorem aMs:aI tab 160 aVW:=Oc aJU rfl aH [(163,aTh)] ⟨aB6,trivial⟩ fun a=>by kernel_rfl
def uL (p0:Int) (p1:Int):Option (Bool×Int×Int):=some (false,aA .u64 ((aA .u64 ((aA .u64 ((aA .u64 (bo p0 4294967296))*(aA .u64 (bo p1 4294967296))))+(aA .u64 (bo (aA .u64 ((aA .u64 ((aA .u64 (bo p0 4294967296))*(bq p1 4294967296)))+(aA .u64 (bo (aA .u64 ((bq p0 4294967296)*(bq p1 4294967296))) 4294967296)))) 4294967296))))+(aA .u64 (bo (aA .u64 ((aA .u64 ((bq p0 4294967296)*(aA .u64 (bo p1 4294967296))))+(bq (aA .u64 ((aA .u64 ((aA .u64 (bo p0 4294967296))*(bq p1 4294967296)))+(aA .u64 (bo (aA .u64 ((bq p0 4294967296)*(bq p1 4294967296))) 4294967296)))) 4294967296))) 4294967296))),aA .u64 ((aA .u64 ((bq (aA .u64 ((aA .u64 ((bq p0 4294967296)*(aA .u64 (bo p1 4294967296))))+(bq (aA .u64 ((aA .u64 ((aA .u64 (bo p0 4294967296))*(bq p1 4294967296)))+(aA .u64 (bo (aA .u64 ((bq p0 4294967296)*(bq p1 4294967296))) 4294967296)))) 4294967296))) 4294967296)*4294967296))+(bq (aA .u64 ((bq p0 4294967296)*(bq p1 4294967296))) 4294967296)))
def aVX:bJ:=⟨aC.cons (aK.int .u64) (aC.one (aK.int .u64)),aK.agg (cY.row EQ),fun a=>uL a.1 a.2,.pure,false⟩
theorem aMt:aI tab 173 aVX:=Oc aJ3 rfl aH [] trivial fun a=>by kernel_rfl
def lA (p0:Int) (p1:Int):Option (Bool×Int×Int):=(iU p0).bind fun n0=>(iU p1).bind fun n1=>(uL n0 n1).bind fun a2=>bif !((decide (p0<0))==(decide (p1<0))) then bif p0 !=0 then some (p1 !=0,a2.2) else some (false,a2.2) else some (false,a2.2)
def aTi:bJ:=⟨aC.cons (aK.int .i64) (aC.one (aK.int .i64)),aK.agg (cY.row EQ),fun a=>lA a.1 a.2,.pure,false⟩
theorem aB7:aI tab 118 aTi:=Oc aJr rfl aH [(117,aMp),(173,aVX)] ⟨UO,aMt,trivial⟩ fun a=>by kernel_rfl
def mY (p0:Bool×Int×Int):Option Int:=bif p0.2.1==0 then bif p0.2.2==0 then some 0 else bif p0.1 then some (-1) else some 1 else bif p0.1 then some (-1) else some 1
def aTj:bJ:=⟨aC.one (aK.agg (cY.row EQ)),aK.int .i64,fun a=>mY a,.pure,false⟩
theorem aB8:aI tab 119 aTj:=Oc aJs rfl aH [] trivial fun a=>by kernel_rfl
def tP (p0:Bool×Int×Int) (p1:Bool×Int×Int):Option Int:=bif p0.2.1 !=p1.2.1 then bif decide (p0.2.1<p1.2.1) then some (-1) else some 1 else bif p0.2.2 !=p1.2.2 then bif decide (p0.2.2<p1.2.2) then some (-1) else some 1 else some 0
def aTk:bJ:=⟨aC.cons (aK.agg (cY.row EQ)) (aC.one (aK.agg (cY.row EQ))),aK.int .i64,fun a=>tP a.1 a.2,.pure,false⟩
theorem aB9:aI tab 120 aTk:=Oc aJt rfl aH [] trivial fun a=>by kernel_rfl
def uM (p0:Int×Int) (p1:Int×Int):Option Int:=(lA p0.1 p1.2).bind fun a0=>(lA p1.1 p0.2).bind fun a1=>(mY a0).bind fun n2=>(mY a1).bind fun n3=>bif n2 !=n3 then (mY a0).bind fun n4=>(mY a1).bind fun n5=>bif decide (n4<n5) then some (-1) else some 1 else (mY a0).bind fun n6=>bif decide (n6<0) then (tP a1 a0).bind fun n7=>some n7 else (tP a0 a1).bind fun n8=>some n8
def c67:bJ:=⟨aC.cons (aK.agg (cY.row kL)) (aC.one (aK.agg (cY.row kL))),aK.int .i64,fun a=>uM a.1 a.2,.pure,false⟩
theorem aTl:aI tab 67 c67:=Oc aSa rfl aH [(118,aTi),(119,aTj),(120,aTk)] ⟨aB7,aB8,aB9,trivial⟩ fun a=>by kernel_rfl
def eU (p0:Int×Int×Int×Int×Int) (p1:Int×Int×Int×Int×Int):Option Bool:=(uM (p0.1,p0.2.1) (p1.1,p1.2.1)).bind fun n0=>bif decide (n0<0) then some true else bif n0==0 then some (decide (p0.2.2.1<p1.2.2.1)) else some false
def aAz:bJ:=⟨aC.cons (aK.agg (cY.row mT)) (aC.one (aK.agg (cY.row mT))),aK.bool,fun a=>eU a.1 a.2,.pure,false⟩
theorem F3:aI tab 161 aAz:=Oc aJV rfl aH [(67,c67)] ⟨aTl,trivial⟩ fun a=>by kernel_rfl
def lY (s:aUQ):Option (bR aUQ aSC):=bif decide (s.2.1<s.1) then (aN s.2.2.2.2.2.1 s.2.1).bind fun a0=>bif a0.2.2.1==s.2.2.2.2.2.2.2.2.2.1 then some (.done (.done 8)) else some (.next (s.1,aA .i64 (s.2.1+1),s.2.2)) else some (.done (.next (aA .i64 (s.1+1),s.2.2.1,s.2.2.2.1,s.2.2.2.2.1,s.2.2.2.2.2.1,s.2.2.2.2.2.2.1)))
def lZ (s:JH):Option (bR JH aSC):=bif decide (s.1<(bm s.2.2.2.2.1.length)) then (aN s.2.2.2.2.1 s.1).bind fun a0=>(aN s.2.2.2.2.1 (aA .i64 (bo (aA .i64 (s.1-1)) 2))).bind fun a1=>(eU a0 a1).bind fun b2=>bif b2 then some (.done (.done 8)) else some (.next (aA .i64 (s.1+1),s.2)) else some (.done (.done 0))
def sH (s:JH):Option aSC:=bif decide (s.1<(bm s.2.2.2.2.1.length)) then (aN s.2.2.2.2.1 s.1).bind fun a0=>(vS (a0.1,a0.2.1)).bind fun n1=>bif n1 !=0 then some (.done 8) else bif decide (a0.2.2.1<0) then some (.done 8) else bif decide (1000000<a0.2.2.1) then some (.done 8) else aG lY (s.1,0,s.2.1,s.2.2.1,s.2.2.2.1,s.2.2.2.2.1,s.2.2.2.2.2,a0) else aG lZ (1,s.2)
def vV (p0:aP):Option Int:=(zT p0.ai).bind fun n0=>bif n0 !=0 then some 8 else (xC p0).bind fun b1=>bif !b1 then some 8 else aG sH (0,p0.ai.ac,p0.ai.ae,p0.ai.af,p0.aj,p0.am)
def c98:bJ:=⟨aC.one (aK.agg dN),aK.int .i64,fun a=>vV a,.pure,false⟩
theorem aFr:aI tab 98 c98:=Oc aSz rfl aH [(159,aVV),(160,aVW),(66,c66),(161,aAz)] ⟨aMr,aMs,aFo,F3,trivial⟩ fun a=>by kernel_rfl
def vW (p0:Bool×Int×Int) (p1:Bool×Int×Int):Option (Bool×Int×Int):=bif decide (p0.2.2<p1.2.2) then some (false,aA .u64 ((aA .u64 (p0.2.1-p1.2.1)) -1),aA .u64 (p0.2.2-p1.2.2)) else some (false,aA .u64 (p0.2.1-p1.2.1),aA .u64 (p0.2.2-p1.2.2))
def aVY:bJ:=⟨aC.cons (aK.agg (cY.row EQ)) (aC.one (aK.agg (cY.row EQ))),aK.agg (cY.row EQ),fun a=>vW a.1 a.2,.pure,false⟩
theorem aMu:aI tab 285 aVY:=Oc aK8 rfl aH [] trivial fun a=>by kernel_rfl
def CV (p0:Bool×Int×Int) (p1:Bool×Int×Int):Option (Bool×Int×Int):=bif p0.1==p1.1 then bif decide ((aA .u64 (p0.2.2+p1.2.2))<p0.2.2) then some (p0.1,aA .u64 ((aA .u64 (p0.2.1+p1.2.1))+1),aA .u64 (p0.2.2+p1.2.2)) else some (p0.1,aA .u64 (p0.2.1+p1.2.1),aA .u64 (p0.2.2+p1.2.2)) else (tP p0 p1).bind fun n0=>bif decide (0<=n0) then (vW p0 p1).bind fun a1=>bif p0.1 then bif decide (0<a1.2.1) then some (true,a1.2) else some (decide (0<a1.2.2),a1.2) else some (false,a1.2) else (vW p1 p0).bind fun a2=>some (p1.1,a2.2)
def aVZ:bJ:=⟨aC.cons (aK.agg (cY.row EQ)) (aC.one (aK.agg (cY.row EQ))),aK.agg (cY.row EQ),fun a=>CV a.1 a.2,.pure,false⟩
theorem aMv:aI tab 258 aVZ:=Oc aKU rfl aH [(120,aTk),(285,aVY)] ⟨aB9,aMu,trivial⟩ fun a=>by kernel_rfl
def F4 (p0:Int×Int×Int) (p1:Int×Int×Int) (p2:Int×Int):Option Int:=(lA (aA .i64 (p0.2.1-p1.2.1)) p2.2).bind fun a0=>(lA (aA .i64 (p0.2.2-p1.2.2)) p2.1).bind fun a1=>(CV a0 a1).bind fun a2=>(mY a2).bind fun n3=>some n3
def aV0:bJ:=⟨aC.cons (aK.agg (cY.row fE)) (aC.cons (aK.agg (cY.row fE)) (aC.one (aK.agg (cY.row kL)))),aK.int .i64,fun a=>F4 a.1 a.2.1 a.2.2,.pure,false⟩
theorem aMw:aI tab 224 aV0:=Oc aKy rfl aH [(118,aTi),(258,aVZ),(119,aTj)] ⟨aB7,aMv,aB8,trivial⟩ fun a=>by kernel_rfl
def rB (p0:Int×Int×Int) (p1:Int×Int×Int) (p2:Int×Int):Option Bool:=(F4 p0 p1 p2).bind fun n0=>bif n0 !=0 then some (decide (0<n0)) else bif p0.2.2 !=p1.2.2 then some (decide (p1.2.2<p0.2.2)) else some (decide (p0.1<p1.1))
def aMx:bJ:=⟨aC.cons (aK.agg (cY.row fE)) (aC.cons (aK.agg (cY.row fE)) (aC.one (aK.agg (cY.row kL)))),aK.bool,fun a=>rB a.1 a.2.1 a.2.2,.pure,false⟩
theorem UP:aI tab 164 aMx:=Oc aJY rfl aH [(224,aV0)] ⟨aMw,trivial⟩ fun a=>by kernel_rfl
def tQ (p0:Bool) (p1:Bool×Int×Int) (p2:Bool×Int×Int):Option ((Int×Int)×Int):=bif decide (0<p1.2.1) then some ((0,0),16) else bif decide (9223372036854775807<p1.2.2) then some ((0,0),16) else bif decide (0<p2.2.1) then some ((0,0),16) else bif decide (9223372036854775807<p2.2.2) then some ((0,0),16) else bif p0 then some ((aA .i64 (0- (aA .i64 p1.2.2)),aA .i64 p2.2.2),0) else some ((aA .i64 p1.2.2,aA .i64 p2.2.2),0)
def aV1:bJ:=⟨aC.cons aK.bool (aC.cons (aK.agg (cY.row EQ)) (aC.one (aK.agg (cY.row EQ)))),aK.tup (aC.cons (aK.agg (cY.row kL)) (aC.one (aK.int .i64))),fun a=>tQ a.1 a.2.1 a.2.2,.pure,false⟩
theorem aMy:aI tab 284 aV1:=Oc aK7 rfl aH [] trivial fun a=>by kernel_rfl
def oJ (p0:Int) (p1:Int):Option ((Int×Int)×Int):=bif p1==0 then some ((0,0),26) else (iU p0).bind fun n0=>(iU p1).bind fun n1=>(sD n0 n1).bind fun n2=>bif !((decide (p0<0))==(decide (p1<0))) then (iU p0).bind fun n3=>bif n2==0 then none else (iU p1).bind fun n4=>bif n2==0 then none else (tQ (p0 !=0) (false,0,aA .u64 (bo n3 n2)) (false,0,aA .u64 (bo n4 n2))).bind fun a5=>some a5 else (iU p0).bind fun n6=>bif n2==0 then none else (iU p1).bind fun n7=>bif n2==0 then none else (tQ false (false,0,aA .u64 (bo n6 n2)) (false,0,aA .u64 (bo n7 n2))).bind fun a8=>some a8
def aV2:bJ:=⟨aC.cons (aK.int .i64) (aC.one (aK.int .i64)),aK.tup (aC.cons (aK.agg (cY.row kL)) (aC.one (aK.int .i64))),fun a=>oJ a.1 a.2,.pure,false⟩
theorem aMz:aI tab 257 aV2:=Oc aKT rfl aH [(117,aMp),(116,aTd),(284,aV1)] ⟨UO,aB4,aMy,trivial⟩ fun a=>by kernel_rfl
def F5 (p0:Int×Int×Int) (p1:Int×Int×Int):Option (Int×Int):=(oJ (aA .i64 (p0.2.1-p1.2.1)) (aA .i64 (p1.2.2-p0.2.2))).bind fun a0=>some a0.1
def aV3:bJ:=⟨aC.cons (aK.agg (cY.row fE)) (aC.one (aK.agg (cY.row fE))),aK.agg (cY.row kL),fun a=>F5 a.1 a.2,.pure,false⟩
theorem aMA:aI tab 223 aV3:=Oc aKx rfl aH [(257,aV2)] ⟨aMz,trivial⟩ fun a=>by kernel_rfl
def uN (p0:Int×Int×Int) (p1:Int×Int×Int) (p2:Int×Int):Option ((Int×Int)×Bool):=(rB p1 p0 p2).bind fun b0=>bif b0 then some (p2,true) else bif decide (p0.2.2<p1.2.2) then (F5 p0 p1).bind fun a1=>some (a1,true) else some ((0,0),false)
def aV4:bJ:=⟨aC.cons (aK.agg (cY.row fE)) (aC.cons (aK.agg (cY.row fE)) (aC.one (aK.agg (cY.row kL)))),aK.tup (aC.cons (aK.agg (cY.row kL)) (aC.one aK.bool)),fun a=>uN a.1 a.2.1 a.2.2,.pure,false⟩
theorem aMB:aI tab 162 aV4:=Oc aJW rfl aH [(164,aMx),(223,aV3)] ⟨UP,aMA,trivial⟩ fun a=>by kernel_rfl
def tR (p0:Field) (p1:Int×Int) (p2:Int×Int):Option ((Int×Int)×Bool):=(gU p0 p1.2).bind fun n0=>(aN p0.aa n0).bind fun a1=>(gU p0 p1.1).bind fun n2=>(aN p0.aa n2).bind fun a3=>(uN a1 a3 p2).bind fun a4=>some a4
def c99:bJ:=⟨aC.cons (aK.agg cA) (aC.cons (aK.agg (cY.row kL)) (aC.one (aK.agg (cY.row kL)))),aK.tup (aC.cons (aK.agg (cY.row kL)) (aC.one aK.bool)),fun a=>tR a.1 a.2.1 a.2.2,.pure,false⟩
theorem aAA:aI tab 99 c99:=Oc aSA rfl aH [(89,c89),(162,aV4)] ⟨K3,aMB,trivial⟩ fun a=>by kernel_rfl
def yJ (p0:aP) (p1:Int×Int):Option ((Int×Int×Int×Int×Int)×Int):=(vV p0).bind fun n0=>bif n0 !=0 then some ((0,0,0,0,0),8) else (yI p0.ai p1).bind fun b1=>bif !b1 then some ((0,0,0,0,0),6) else (aN p0.am p1.1).bind fun n2=>(aN p0.aj n2).bind fun a3=>some (a3,0)
def aV5:bJ:=⟨aC.cons (aK.agg dN) (aC.one (aK.agg (cY.row kL))),aK.tup (aC.cons (aK.agg (cY.row mT)) (aC.one (aK.int .i64))),fun a=>yJ a.1 a.2,.pure,false⟩
theorem aMC:aI tab 100 aV5:=Oc aJf rfl aH [(98,c98),(163,aTh)] ⟨aFr,aB6,trivial⟩ fun a=>by kernel_rfl
def dU (s:aSB):Option aUG:=bif decide (s.2.1<(bm s.2.2.2.2.2.2.1.length)) then (aN s.2.2.2.2.2.2.1 s.2.1).bind fun a0=>(tR (Field.mk s.2.2.2.2.1) a0.2 (s.2.2.1,s.2.2.2.1)).bind fun a1=>bif !a1.2 then some (.next (s.1,aA .i64 (s.2.1+1),s.2.2)) else bif decide ((bm s.2.2.2.2.2.2.2.2.2.2.2.2.length)<=s.1) then some (.done 8) else (aN s.2.2.2.2.2.2.2.2.2.2.2.2 s.1).bind fun a2=>bif a2.1 !=a0.1 then some (.done 8) else (aN s.2.2.2.2.2.2.2.2.2.2.2.2 s.1).bind fun a3=>(yJ (aP.mk (bD.mk s.2.2.2.2.2.2.2.1 s.2.2.2.2.2.2.2.2.1 s.2.2.2.2.2.2.2.2.2.1) s.2.2.2.2.2.2.2.2.2.2.1 s.2.2.2.2.2.2.2.2.2.2.2.1) a3.2).bind fun a4=>bif a4.2 !=0 then some (.done 8) else bif a4.1.2.2.1 !=a0.1 then some (.done 8) else bif !((a4.1.1==a1.1.1)&&(a4.1.2.1==a1.1.2)) then some (.done 8) else some (.next (aA .i64 (s.1+1),aA .i64 (s.2.1+1),s.2.2)) else bif s.1 !=(bm s.2.2.2.2.2.2.2.2.2.2.2.2.length) then some (.done 8) else some (.done 0)
def zU (p0:aR):Option Int:=(vS p0.ar).bind fun n0=>bif n0 !=0 then some 8 else (oI p0.au).bind fun n1=>bif n1 !=0 then some 8 else (vT p0.ax).bind fun n2=>bif n2 !=0 then some 8 else (zS p0.ax p0.au).bind fun b3=>bif !b3 then some 8 else (vV p0.ay).bind fun n4=>bif n4 !=0 then some 8 else bif (bm p0.ay.am.length) !=200 then some 8 else bif (bm p0.ay.aj.length) !=(bm p0.az.length) then some 8 else aG dU (0,0,p0.ar.1,p0.ar.2,p0.au.aa,p0.ax.ao,p0.ax.aq,p0.ay.ai.ac,p0.ay.ai.ae,p0.ay.ai.af,p0.ay.aj,p0.ay.am,p0.az)
def c46:bJ:=⟨aC.one (aK.agg bX),aK.int .i64,fun a=>zU a,.pure,false⟩
theorem aTm:aI tab 46 c46:=Oc aRV rfl aH [(66,c66),(88,c88),(96,c96),(97,c97),(98,c98),(99,c99),(100,aV5)] ⟨aFo,aFp,aFq,aTg,aFr,aAA,aMC,trivial⟩ fun a=>by kernel_rfl
def sI (s:((List Int)×Int×Int)):Option (bR ((List Int)×Int×Int) (bR ((List Int)×Int) Bool)):=bif decide (s.2.2<s.2.1) then (aN s.1 s.2.1).bind fun n0=>bif decide (0<=n0) then (aN s.1 s.2.2).bind fun n1=>(aN s.1 s.2.1).bind fun n2=>bif n1==n2 then some (.done (.done true)) else some (.next (s.1,s.2.1,aA .i64 (s.2.2+1))) else some (.next (s.1,s.2.1,aA .i64 (s.2.2+1))) else some (.done (.next (s.1,aA .i64 (s.2.1+1))))
def sJ (s:((List Int)×Int)):Option (bR ((List Int)×Int) Bool):=bif decide (s.2<(bm s.1.length)) then aG sI (s.1,s.2,0) else some (.done false)
def EZ (p0:List Int):Option Bool:=aG sJ (p0,0)
def aV6:bJ:=⟨aC.one (aK.sl ki),aK.bool,fun a=>EZ a,.pure,false⟩
theorem aMD:aI tab 101 aV6:=Oc aJg rfl aH [] trivial fun a=>by kernel_rfl
def kC (p0:bH) (p1:Int):Option Int:=bif decide (p1<(bm p0.bc.length)) then (aN p0.bc p1).bind fun n0=>some n0 else (aN p0.ba (aA .i64 (p1- (bm p0.bc.length)))).bind fun n1=>some n1
def aFs:bJ:=⟨aC.cons (aK.agg eF) (aC.one (aK.int .i64)),aK.int .i64,fun a=>kC a.1 a.2,.pure,false⟩
theorem M1:aI tab 102 aFs:=Oc aJh rfl aH [] trivial fun a=>by kernel_rfl
def oK (s:(Int×(List Int)×(List Int))):Option (bR (Int×(List Int)×(List Int)) (bR (Int×Int×(List Int)×(List Int)) Int)):=bif decide (s.1<(bm s.2.2.length)) then (kC (bH.mk s.2.1 s.2.2) (aA .i64 ((aA .i64 (2*s.1))+1))).bind fun n0=>(kC (bH.mk s.2.1 s.2.2) (aA .i64 ((aA .i64 (2*s.1))+2))).bind fun n1=>(aN s.2.2 s.1).bind fun n2=>bif n2 !=n0 then (aN s.2.2 s.1).bind fun n3=>bif n3 !=n1 then some (.done (.done 8)) else (aN s.2.2 s.1).bind fun n4=>bif n4==(-1) then bif n0 !=(-1) then some (.done (.done 8)) else bif n1 !=(-1) then some (.done (.done 8)) else some (.next (aA .i64 (s.1+1),s.2)) else some (.next (aA .i64 (s.1+1),s.2)) else (aN s.2.2 s.1).bind fun n5=>bif n5==(-1) then bif n0 !=(-1) then some (.done (.done 8)) else bif n1 !=(-1) then some (.done (.done 8)) else some (.next (aA .i64 (s.1+1),s.2)) else some (.next (aA .i64 (s.1+1),s.2)) else some (.done (.done 0))
end
end
end Go.Proofs.YtbgoiokedpjgbaaGreat
