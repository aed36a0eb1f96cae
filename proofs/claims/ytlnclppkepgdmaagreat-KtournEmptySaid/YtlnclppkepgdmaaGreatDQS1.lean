/- Plain functions for what the functions of the seat compute. Printed by a program. -/
import Derived.Test.YtlnclppkepgdmaaGreatDVm3
import Derived.Test.YtlnclppkepgdmaaGreatDQXT
open Int renaming ofNat->bn,tdiv->bo,tmod->bq
open List renaming replicate->bu
open Nat renaming ble->bv
set_option maxRecDepth 100000
namespace Go.Proofs.YtlnclppkepgdmaaGreat
open Go.Vm
noncomputable section
theorem Oc {f:FuncId} {x:aM} {α β:Type} {args:aD α} {res:aJ β} {kd:Kd} {fn:α->Option β} {ow:Bool} (hf:tab f=some (.code x)) (ho:aHL kd ow=true) (lp:Option Nat) (l:List (Nat×bO)) (h:IV tab l) (e: ∀a,aPc (lT lp l [] [] []) x args res kd a=fn a):aI tab f ⟨args,res,fn,kd,ow⟩:=aI.of hf (cx:=lT lp l [] [] []) ho (jT.make h trivial trivial) e
abbrev fK:List PT:=[.i .i64,.i .i64,.i .i64]
abbrev iK:List PT:=[.i .i64,.i .i64]
abbrev ki:List PT:=[.i .i64]
abbrev kb:List PT:=[.b]
abbrev lJ:List PT:=[.i .i64,.i .i64,.i .i64,.i .i64,.i .i64]
abbrev aVV:List PT:=[.i .i64,.i .i64,.i .i64,.i .i64]
abbrev kiu:List PT:=[.i .i64,.i .u64]
abbrev FK:List PT:=[.b,.i .u64,.i .u64]
structure Field where
 aa:List (Int×Int×Int)
def cB:cP Field:=cP.iso (cP.sl fK) (fun p=>⟨p⟩) (fun c=>c.aa) (fun _=>rfl)
structure bA where
 ac:List Int
 ae:List Bool
 af:List Int
def iZ:cP bA:=cP.iso (cP.prod (cP.sl ki) (cP.prod (cP.sl kb) (cP.sl ki))) (fun p=>⟨p.1,p.2.1,p.2.2⟩) (fun c=>(c.ac,c.ae,c.af)) (fun _=>rfl)
structure aP where
 ai:bA
 aj:List (Int×Int×Int×Int×Int)
 am:List Int
def eB:cP aP:=cP.iso (cP.prod iZ (cP.prod (cP.sl lJ) (cP.sl ki))) (fun p=>⟨p.1,p.2.1,p.2.2⟩) (fun c=>(c.ai,c.aj,c.am)) (fun _=>rfl)
structure bM where
 ao:Int
 aq:List (Int×Int×Int)
def kO:cP bM:=cP.iso (cP.prod (cP.int .i64) (cP.sl fK)) (fun p=>⟨p.1,p.2⟩) (fun c=>(c.ao,c.aq)) (fun _=>rfl)
structure aO where
 ar:Int×Int
 au:Field
 ax:bM
 ay:aP
 az:List (Int×Int×Int)
def bY:cP aO:=cP.iso (cP.prod (cP.row iK) (cP.prod cB (cP.prod kO (cP.prod eB (cP.sl fK))))) (fun p=>⟨p.1,p.2.1,p.2.2.1,p.2.2.2.1,p.2.2.2.2⟩) (fun c=>(c.ar,c.au,c.ax,c.ay,c.az)) (fun _=>rfl)
structure bJ where
 ba:List Int
 be:List Int
def hM:cP bJ:=cP.iso (cP.prod (cP.sl ki) (cP.sl ki)) (fun p=>⟨p.1,p.2⟩) (fun c=>(c.ba,c.be)) (fun _=>rfl)
structure bX where
 bg:aO
 bi:bJ
def vZ:cP bX:=cP.iso (cP.prod bY hM) (fun p=>⟨p.1,p.2⟩) (fun c=>(c.bg,c.bi)) (fun _=>rfl)
theorem yP:aI tab 124 (bO.clone fK):=aI.clone aKS rfl
theorem sG:aI tab 67 (bO.clone ki):=aI.clone aTO rfl
theorem aFS:aI tab 300 (bO.add64):=aI.add64 aMC
theorem yQ:aI tab 184 (bO.clone kb):=aI.clone aLv rfl
theorem CC:aI tab 181 (bO.clone fK):=aI.clone aLs rfl
theorem KE:aI tab 182 (bO.clone fK):=aI.clone aLt rfl
theorem yR:aI tab 183 (bO.clone lJ):=aI.clone aLu rfl
theorem YQ:aI tab 315 (bO.clone ki):=aI.clone aMI rfl
abbrev hG:aO:=aO.mk (0,0) (Field.mk []) (bM.mk 0 []) (aP.mk (bA.mk [] [] []) [] []) []
section
abbrev nH:=List (Int×Int×Int×Int×Int)
abbrev cN:=List (Int×Int×Int)
abbrev rX:=List (Int×Int)
abbrev aD7:=rX×rX×Int×Int×Int×Int×cN×Int×cN×(List Int)×(List Bool)×(List Int)×nH×(List Int)×cN×cN×Int×Int×Int
abbrev aVW:=bT aD7 (aO×Int)
abbrev Zt1:=bT aD7 aVW
abbrev Zt3:=cN×Int×Int×Int×Int×cN×Int×cN×(List Int)×(List Bool)×(List Int)×nH×(List Int)×cN×cN×Int×Int×Int×Int×Int×Int×cN×(List Int)×(List Bool)×(List Int)×nH×(List Int)×cN×cN
abbrev aVX:=rX×cN×Int×Int×Int×Int×cN×Int×cN×(List Int)×(List Bool)×(List Int)×nH×(List Int)×cN×cN×Int×Int×Int
abbrev Zt5:=bT aVX (aO×Int)
abbrev aVY:=cN×Int×Int×Int×Int×cN×Int×cN×(List Int)×(List Bool)×(List Int)×nH×(List Int)×cN×cN×Int×Int×Int
abbrev Zt6:=bT aVY (aO×Int)
abbrev Zt7:=Int×Int×cN×Int×cN×(List Int)×(List Bool)×(List Int)×nH×(List Int)×cN×(List Int)×(List Int)×Int×Int×Int×Int×Int×rX
abbrev Zt8:=cN×cN×Int×Int×Int×Int×cN×Int×cN×(List Int)×(List Bool)×(List Int)×nH×(List Int)×cN
abbrev Zt9:=rX×Int×Int×Int×Int×cN×Int×cN×(List Int)×(List Bool)×(List Int)×nH×(List Int)×cN×Int×Int×Int
abbrev aVZ:=Int×Int×Int×Int×cN×Int×cN×(List Int)×(List Bool)×(List Int)×nH×(List Int)×cN×(List Int)
abbrev aV0:=bT aVZ Int
abbrev aUj:=Int×Int×Int×Int×cN×Int×cN×(List Int)×(List Bool)×(List Int)×nH×(List Int)×cN
abbrev aV1:=bT aUj Int
abbrev aV2:=Int×nH×(List Int)×(List Int)×(List Bool)×(List Int)×Nat×Nat×Int×Int×Int×Int×Int
abbrev SI:=nH×(List Int)
abbrev aV3:=bT aV2 SI
abbrev aV4:=Int×nH×(List Int)×(List Int)×(List Bool)×(List Int)×Int×Int×Int×Int×Int
abbrev aV5:=bT aV4 SI
abbrev aML:=(List Int)×Int×Int×(List Int)×(List Int)×(List (Int×Bool))
abbrev aV6:=bT aML Int
abbrev aV7:=bT aML aV6
abbrev aV8:=nH×Int×Int×(List Int)×(List Bool)×(List Int)×nH×(List Int)×(List (List Int))
abbrev aV9:=Int×Int×nH×(List Int)×(List Int)×(List Bool)×(List Int)×Nat×Nat×Int×Int×Int×Int×Int
abbrev aMM:=(List Int)×(List Bool)×(List Int)×Nat×Nat×Int×Int×Int×Int×Int×Int×nH×(List Int)
abbrev aWa:=Int×Int×nH×(List Int)×(List Int)×(List Bool)×(List Int)×Int×Int×Int×Int×Int
abbrev aMN:=(List Int)×(List Bool)×(List Int)×Int×Int×Int×Int×Int×Int×nH×(List Int)
abbrev aWb:=(List Int)×Int×Int×(List Int)×(List Bool)×(List Int)×nH×(List Int)
abbrev aWc:=bT aWb Int
abbrev aMO:=(List Int)×(List Bool)×(List Int)×Nat×Nat×Int×nH×(List Int)
abbrev aMP:=Int×nH×(List Int)×(List Int)×(List Bool)×(List Int)×Nat×Nat
abbrev aWd:=(List Int)×Int×Int×cN×Int×Int×(List (Int×Bool))
abbrev aWe:=bT aWd (bJ×Int)
abbrev aUk:=Int×Int×(List Int)×(List Bool)×(List Int)×nH×(List Int)
abbrev aWf:=Int×cN×Int×Int×Int×cN×(List (List Int))
abbrev aWg:=(List Int)×Int×Int×(List Int)×(List Bool)×(List Int)×Int×(List Bool)
abbrev aWh:=bT aWg Int
abbrev aUl:=(List Int)×(List Bool)×(List Int)×nH×(List Int)
abbrev aWi:=Int×Int×Int×cN×Int×Int×cN
abbrev aD8:=Int×cN×Int×Int×(List Int)×(List Int)
abbrev SJ:=cN×Int×Int×Int×Int
abbrev aFT:=bT SJ (Int×Bool)
abbrev aFU:=cN×Int×Int×cN
abbrev aMQ:=Int×nH×(List Int)
abbrev aFV:=Int×Int×cN
abbrev aUm:=bT aFV Int
abbrev YR:=Int×cN
abbrev aFW:=Int×Int×(List Int)
variable [LP]
def NB:Option Field:=some (Field.mk [(1,0,2),(2,6,-1),(5,0,0)])
def c25:bO:=⟨aD.nil,aJ.agg cB,fun _=>NB,.frz,false⟩
theorem aUn:aI tab 25 c25:=Oc aTm rfl aG [] trivial fun a=>by kernel_rfl
def QB (p0:Int):Option (Int×Int):=some (p0,1)
def c26:bO:=⟨aD.one (aJ.int .i64),aJ.agg (cP.row iK),fun a=>QB a,.pure,false⟩
theorem aUo:aI tab 26 c26:=Oc aTn rfl aG [] trivial fun a=>by kernel_rfl
def sH (p0:Int):Option Bool:=bif decide (p0<(-1048576)) then some true else some (decide (1048576<p0))
def aWj:bO:=⟨aD.one (aJ.int .i64),aJ.bool,fun a=>sH a,.pure,false⟩
theorem aMR:aI tab 249 aWj:=Oc aMe rfl aG [] trivial fun a=>by kernel_rfl
def pL (p0:Int×Int×Int):Option Int:=bif decide (p0.1<0) then some 8 else bif decide (65535<p0.1) then some 8 else (sH p0.2.1).bind fun b0=>bif b0 then some 8 else (sH p0.2.2).bind fun b1=>bif b1 then some 8 else some 0
def aUp:bO:=⟨aD.one (aJ.agg (cP.row fK)),aJ.int .i64,fun a=>pL a,.pure,false⟩
theorem aCQ:aI tab 191 aUp:=Oc aLz rfl aG [(249,aWj)] ⟨aMR,trivial⟩ fun a=>by kernel_rfl
def kH (s:aFU):Option (bT aFU (bT aFU Int)):=bif decide (s.2.2.1<s.2.1) then (aN s.1 s.2.2.1).bind fun a0=>bif decide (0<s.2.2.1) then (aN s.2.2.2 (aA .i64 (s.2.2.1-1))).bind fun a1=>bif decide (a0.1<=a1.1) then some (.done (.done 32)) else some (.next (s.1,s.2.1,aA .i64 (s.2.2.1+1),s.2.2.2)) else some (.next (s.1,s.2.1,aA .i64 (s.2.2.1+1),s.2.2.2)) else some (.done (.done 0))
def oR (s:aFU):Option (bT aFU Int):=bif decide (s.2.2.1<s.2.1) then (aN s.1 s.2.2.1).bind fun a0=>(pL a0).bind fun n1=>bif n1 !=0 then some (.done n1) else some (.next (s.1,s.2.1,aA .i64 (s.2.2.1+1),s.2.2.2)) else aH kH (s.2.2.2,bn s.2.2.2.length,0,s.2.2.2)
def fC (p0:Field):Option Int:=bif decide (64<(bn p0.aa.length)) then some 4 else aH oR (p0.aa,bn p0.aa.length,0,p0.aa)
def YS:bO:=⟨aD.one (aJ.agg cB),aJ.int .i64,fun a=>fC a,.pure,false⟩
theorem DF:aI tab 122 YS:=Oc aKQ rfl aG [(191,aUp)] ⟨aCQ,trivial⟩ fun a=>by kernel_rfl
def nZ (p0:Int):Option Int:=bif decide (p0<0) then some (aA .u64 (0- (aA .u64 p0))) else some (aA .u64 p0)
def aMS:bO:=⟨aD.one (aJ.int .i64),aJ.int .u64,fun a=>nZ a,.pure,false⟩
theorem VP:aI tab 106 aMS:=Oc aKG rfl aG [] trivial fun a=>by kernel_rfl
def xR (s:(Int×Int)):Option (bT (Int×Int) Int):=bif decide (0<s.2) then bif s.2==0 then none else some (.next (s.2,bq s.1 s.2)) else some (.done s.1)
def CD (p0:Int) (p1:Int):Option Int:=aH xR (p0,p1)
def aUq:bO:=⟨aD.cons (aJ.int .u64) (aD.one (aJ.int .u64)),aJ.int .u64,fun a=>CD a.1 a.2,.pure,false⟩
theorem aCR:aI tab 105 aUq:=Oc aKF rfl aG [] trivial fun a=>by kernel_rfl
def eS (p0:Int×Int):Option Int:=bif decide (p0.2<1) then some 8 else bif p0.1==(-9223372036854775808) then some 8 else (nZ p0.1).bind fun n0=>(CD (aA .u64 p0.2) n0).bind fun n1=>bif decide (1<n1) then some 8 else some 0
def c49:bO:=⟨aD.one (aJ.agg (cP.row iK)),aJ.int .i64,fun a=>eS a,.pure,false⟩
theorem yS:aI tab 49 c49:=Oc aTB rfl aG [(106,aMS),(105,aUq)] ⟨VP,aCR,trivial⟩ fun a=>by kernel_rfl
def YT (s:(Int×Int×Int×(List Int)×(List Bool)×(List Int))):Option (bT (Int×Int×Int×(List Int)×(List Bool)×(List Int)) (bA×Int)):=bif decide (s.2.2.1<s.2.1) then (aN s.2.2.2.2.2 s.2.2.1).bind fun _=>some (.next (s.1,s.2.1,aA .i64 (s.2.2.1+1),s.2.2.2.1,s.2.2.2.2.1,cM s.2.2.2.2.2 s.2.2.1 (aA .i64 ((aA .i64 (s.1-1)) -s.2.2.1)))) else some (.done (bA.mk s.2.2.2.1 s.2.2.2.2.1 s.2.2.2.2.2,0))
def YU (p0:Int):Option (bA×Int):=bif decide (p0<1) then some (bA.mk [] [] [],2) else bif decide (200<p0) then some (bA.mk [] [] [],2) else bif p0==p0 then (rJ p0 (0:Int)).bind fun l0=>bif p0==p0 then (rJ p0 (false:Bool)).bind fun l1=>bif p0==p0 then (rJ p0 (0:Int)).bind fun l2=>aH YT (p0,p0,0,l0,l1,l2) else none else none else none
def aWk:bO:=⟨aD.one (aJ.int .i64),aJ.tup (aD.cons (aJ.agg iZ) (aD.one (aJ.int .i64))),fun a=>YU a,.frz,false⟩
theorem aMT:aI tab 192 aWk:=Oc aLA rfl aG [] trivial fun a=>by kernel_rfl
def NP (p0:Int) (p1:Int):Option (Int×Int):=some (aA .u32 (iT .u64 (aA .u64 ((aA .u64 p0)*(aA .u64 p1))) 32),aA .u32 (aA .u64 ((aA .u64 p0)*(aA .u64 p1))))
def aWl:bO:=⟨aD.cons (aJ.int .u32) (aD.one (aJ.int .u32)),aJ.tup (aD.cons (aJ.int .u32) (aD.one (aJ.int .u32))),fun a=>NP a.1 a.2,.pure,false⟩
theorem aMU:aI tab 250 aWl:=Oc aMf rfl aG [] trivial fun a=>by kernel_rfl
def jF (p0:Int) (p1:Int):Option (Int×Int):=some (aA .u64 ((aA .u64 ((aA .u64 ((iT .u64 p0 32)*(iT .u64 p1 32)))+(iT .u64 (aA .u64 ((aA .u64 ((iT .u64 p0 32)*(IL .u64 p1 4294967295)))+(iT .u64 (aA .u64 ((IL .u64 p0 4294967295)*(IL .u64 p1 4294967295))) 32))) 32)))+(iT .u64 (aA .u64 ((IL .u64 (aA .u64 ((aA .u64 ((iT .u64 p0 32)*(IL .u64 p1 4294967295)))+(iT .u64 (aA .u64 ((IL .u64 p0 4294967295)*(IL .u64 p1 4294967295))) 32))) 4294967295)+(aA .u64 ((IL .u64 p0 4294967295)*(iT .u64 p1 32))))) 32)),aA .u64 (p0*p1))
def aMV:bO:=⟨aD.cons (aJ.int .u64) (aD.one (aJ.int .u64)),aJ.tup (aD.cons (aJ.int .u64) (aD.one (aJ.int .u64))),fun a=>jF a.1 a.2,.pure,false⟩
theorem VQ:aI tab 172 aMV:=Oc aLk rfl aG [] trivial fun a=>by kernel_rfl
def HN (p0:Int) (p1:Int):Option (Int×Int):=(jF p0 p1).bind fun a0=>some a0
def aUr:bO:=⟨aD.cons (aJ.int .u64) (aD.one (aJ.int .u64)),aJ.tup (aD.cons (aJ.int .u64) (aD.one (aJ.int .u64))),fun a=>HN a.1 a.2,.pure,false⟩
theorem aCS:aI tab 193 aUr:=Oc aLB rfl aG [(250,aWl),(172,aMV)] ⟨aMU,VQ,trivial⟩ fun a=>by kernel_rfl
def wB (s:(Int×(List Int))):Option (bT (Int×(List Int)) (List Int)):=bif decide (s.1<(bn s.2.length)) then bif ((decide (0<=s.1))&&(decide (s.1<=(bn s.2.length))))&&(decide ((bn s.2.length)<=(bn s.2.length))) then (jS s.2 0 s.1).bind fun _=>bif ((s.2.take s.1.toNat).take (((bn s.2.length).toNat) -s.1.toNat)).isEmpty then some (.next (aA .i64 (s.1+0),s.2)) else bif (bv ((0+s.1.toNat)+(((s.2.take s.1.toNat).take (((bn s.2.length).toNat) -s.1.toNat)).length)) s.2.length)&&(!false) then some (.next (aA .i64 (s.1+(bn (((s.2.take s.1.toNat).take (((bn s.2.length).toNat) -s.1.toNat)).length))),jY s.2 (0+s.1.toNat) ((s.2.take s.1.toNat).take (((bn s.2.length).toNat) -s.1.toNat)))) else none else none else some (.done s.2)
def oF (p0:List Int) (p1:Int):Option (List Int):=bif decide (p1<0) then none else (HN (aA .u64 (bn p0.length)) (aA .u64 p1)).bind fun a0=>bif decide (0<a0.1) then none else bif decide (9223372036854775807<a0.2) then none else bif (aA .i64 a0.2)==(aA .i64 a0.2) then (rJ (aA .i64 a0.2) (0:Int)).bind fun l1=>bif (p0.take l1.length).isEmpty then aH wB (0,l1) else bif (bv (0+((p0.take l1.length).length)) l1.length)&&(!false) then aH wB (bn ((p0.take l1.length).length),jY l1 0 (p0.take l1.length)) else none else none
def aUs:bO:=⟨aD.cons (aJ.sl ki) (aD.one (aJ.int .i64)),aJ.sl ki,fun a=>oF a.1 a.2,.own,true⟩
def aFX:bO:=⟨aD.cons (aJ.sl ki) (aD.one (aJ.int .i64)),aJ.sl ki,fun a=>oF a.1 a.2,.frz,false⟩
theorem aCT:aI tab 125 aUs:=Oc aCC rfl aG [(193,aUr)] ⟨aCS,trivial⟩ fun a=>by kernel_rfl
theorem YV:aI tab 125 aFX:=Oc aCC rfl aG [(193,aUr)] ⟨aCS,trivial⟩ fun a=>by kernel_rfl
def QC (p0:Int):Option (aP×Int):=(YU p0).bind fun a0=>bif a0.2 !=0 then some (aP.mk (bA.mk [] [] []) [] [],a0.2) else (oF [-1] p0).bind fun l1=>some (aP.mk a0.1 [] l1,0)
def aWm:bO:=⟨aD.one (aJ.int .i64),aJ.tup (aD.cons (aJ.agg eB) (aD.one (aJ.int .i64))),fun a=>QC a,.frz,false⟩
theorem aMW:aI tab 123 aWm:=Oc aKR rfl aG [(192,aWk),(125,aUs),(125,aFX)] ⟨aMT,aCT,YV,trivial⟩ fun a=>by kernel_rfl
def TS (p0:Field) (p1:Int×Int):Option (aO×Int):=(fC p0).bind fun n0=>bif n0 !=0 then some (hG,n0) else (eS p1).bind fun n1=>bif n1 !=0 then some (hG,n1) else (QC 200).bind fun a2=>(cC p0.aa).bind fun l3=>some (aO.mk p1 (Field.mk l3) (bM.mk 0 []) a2.1 [],a2.2)
def c59:bO:=⟨aD.cons (aJ.agg cB) (aD.one (aJ.agg (cP.row iK))),aJ.tup (aD.cons (aJ.agg bY) (aD.one (aJ.int .i64))),fun a=>TS a.1 a.2,.frz,false⟩
theorem aUt:aI tab 59 c59:=Oc aTI rfl aG [(122,YS),(49,c49),(123,aWm),(124,bO.clone fK)] ⟨DF,yS,aMW,yP,trivial⟩ fun a=>by kernel_rfl
def NQ (s:(cN×Int×Int×(List Int))):Option (bT (cN×Int×Int×(List Int)) (bT YR (List Int))):=bif decide (s.2.2.1<s.2.1) then (aN s.1 s.2.2.1).bind fun a0=>(aN s.2.2.2 s.2.2.1).bind fun _=>some (.next (s.1,s.2.1,aA .i64 (s.2.2.1+1),cM s.2.2.2 s.2.2.1 a0.1)) else some (.done (.done s.2.2.2))
def NR (s:YR):Option (bT YR (List Int)):=bif decide (s.1<(bn s.2.length)) then some (.next (aA .i64 (s.1*2),s.2)) else (oF [-1] s.1).bind fun l0=>aH NQ (s.2,bn s.2.length,0,l0)
def KF (p0:Field):Option (List Int):=aH NR (1,p0.aa)
def c60:bO:=⟨aD.one (aJ.agg cB),aJ.sl ki,fun a=>KF a,.frz,false⟩
theorem aUu:aI tab 60 c60:=Oc aTJ rfl aG [(125,aUs),(125,aFX)] ⟨aCT,YV,trivial⟩ fun a=>by kernel_rfl
def BB (p0:Field) (p1:Int×Int):Option Int:=(fC p0).bind fun n0=>bif n0 !=0 then some n0 else (eS p1).bind fun n1=>some n1
def aWn:bO:=⟨aD.cons (aJ.agg cB) (aD.one (aJ.agg (cP.row iK))),aJ.int .i64,fun a=>BB a.1 a.2,.pure,false⟩
theorem aMX:aI tab 185 aWn:=Oc aLw rfl aG [(122,YS),(49,c49)] ⟨DF,yS,trivial⟩ fun a=>by kernel_rfl
def uU (p0:Int):Option Bool:=some (p0 !=p0)
def aWo:bO:=⟨aD.one (aJ.int .i64),aJ.bool,fun a=>uU a,.pure,false⟩
theorem aMY:aI tab 260 aWo:=Oc aMj rfl aG [] trivial fun a=>by kernel_rfl
def fJ (p0:Int) (p1:Int):Option Int:=(uU p0).bind fun b0=>(uU p1).bind fun b1=>bif b0 then bif b1 then some 0 else some (-1) else bif b1 then some 1 else bif decide (p0<p1) then some (-1) else bif decide (p1<p0) then some 1 else some 0
def YW:bO:=⟨aD.cons (aJ.int .i64) (aD.one (aJ.int .i64)),aJ.int .i64,fun a=>fJ a.1 a.2,.pure,false⟩
theorem DG:aI tab 232 YW:=Oc aLZ rfl aG [(260,aWo)] ⟨aMY,trivial⟩ fun a=>by kernel_rfl
def yT (p0:Int×Int×Int) (p1:Int):Option Int:=(fJ p0.1 p1).bind fun n0=>some n0
def aWp:bO:=⟨aD.cons (aJ.agg (cP.row fK)) (aD.one (aJ.int .i64)),aJ.int .i64,fun a=>yT a.1 a.2,.pure,false⟩
theorem aMZ:aI tab 293 aWp:=Oc aMz rfl aG [(232,YW)] ⟨DG,trivial⟩ fun a=>by kernel_rfl
def jU (s:SJ):Option aFT:=bif decide (s.2.2.2.1<s.2.2.2.2) then (aN s.1 (aA .i64 (iT .u64 (aA .u64 (aA .i64 (s.2.2.2.1+s.2.2.2.2))) 1))).bind fun a0=>(yT a0 s.2.1).bind fun n1=>bif decide (n1<0) then some (.next (s.1,s.2.1,s.2.2.1,aA .i64 ((aA .i64 (iT .u64 (aA .u64 (aA .i64 (s.2.2.2.1+s.2.2.2.2))) 1))+1),s.2.2.2.2)) else some (.next (s.1,s.2.1,s.2.2.1,s.2.2.2.1,aA .i64 (iT .u64 (aA .u64 (aA .i64 (s.2.2.2.1+s.2.2.2.2))) 1))) else bif decide (s.2.2.2.1<s.2.2.1) then (aN s.1 s.2.2.2.1).bind fun a2=>(yT a2 s.2.1).bind fun n3=>some (.done (s.2.2.2.1,n3==0)) else some (.done (s.2.2.2.1,false))
def dK (p0:List (Int×Int×Int)) (p1:Int) (_:Unit):Option (Int×Bool):=aH jU (p0,p1,bn p0.length,0,bn p0.length)
def YX:bO:=⟨aD.cons (aJ.sl fK) (aD.cons (aJ.int .i64) (aD.one (aJ.clo 293 aD.nil))),aJ.tup (aD.cons (aJ.int .i64) (aD.one aJ.bool)),fun a=>dK a.1 a.2.1 a.2.2,.pure,false⟩
theorem YY:aI tab 253 YX:=Oc VN rfl aG [(293,aWp)] ⟨aMZ,trivial⟩ fun a=>by kernel_rfl
def lA (p0:Field) (p1:Int):Option (Int×Bool):=(dK p0.aa p1 ()).bind fun a0=>some a0
def aUv:bO:=⟨aD.cons (aJ.agg cB) (aD.one (aJ.int .i64)),aJ.tup (aD.cons (aJ.int .i64) (aD.one aJ.bool)),fun a=>lA a.1 a.2,.pure,false⟩
theorem aCU:aI tab 247 aUv:=Oc aMd rfl aG [(253,YX)] ⟨YY,trivial⟩ fun a=>by kernel_rfl
def pM (s:((List Int)×Int×Int×cN)):Option (bT ((List Int)×Int×Int×cN) Bool):=bif decide (s.2.2.1<s.2.1) then (aN s.1 s.2.2.1).bind fun n0=>(lA (Field.mk s.2.2.2) n0).bind fun a1=>bif a1.2 then some (.next (s.1,s.2.1,aA .i64 (s.2.2.1+1),s.2.2.2)) else bif !(n0==(-1)) then some (.done (!(decide (0<=s.2.2.1)))) else some (.next (s.1,s.2.1,aA .i64 (s.2.2.1+1),s.2.2.2)) else some (.done (!(decide (0<=(-1)))))
def uV (p0:Field) (p1:List Int):Option Bool:=aH pM (p1,bn p1.length,0,p0.aa)
def aWq:bO:=⟨aD.cons (aJ.agg cB) (aD.one (aJ.sl ki)),aJ.bool,fun a=>uV a.1 a.2,.pure,false⟩
theorem aM0:aI tab 186 aWq:=aI.of aLx (cx:=(lT aG [(247,aUv)] [] [(132,aD3),(200,aBh),(134,YP),(201,aD4),(246,aJD)] [])) rfl (jT.make ⟨aCU,trivial⟩ trivial ⟨VH,N4,KD,VL,aMc,trivial⟩) (fun a=>by kernel_rfl)
def gQ (p0:bJ) (p1:Int):Option Int:=bif decide (0<=(aA .i64 (p1- (bn p0.be.length)))) then (aN p0.ba (aA .i64 (p1- (bn p0.be.length)))).bind fun n0=>some n0 else (aN p0.be p1).bind fun n1=>some n1
def aM1:bO:=⟨aD.cons (aJ.agg hM) (aD.one (aJ.int .i64)),aJ.int .i64,fun a=>gQ a.1 a.2,.pure,false⟩
theorem VS:aI tab 126 aM1:=Oc aKT rfl aG [] trivial fun a=>by kernel_rfl
def tX (p0:Int×Int×Int) (p1:Int×Int×Int) (p2:Int×Int):Option Int:=(pL p0).bind fun n0=>(pL p1).bind fun n1=>(eS p2).bind fun n2=>bif (if n2>(if n1>n0 then n1 else n0) then n2 else if n1>n0 then n1 else n0) !=0 then some (if n2>(if n1>n0 then n1 else n0) then n2 else if n1>n0 then n1 else n0) else bif p0.1==p1.1 then some 2 else some 0
def aM2:bO:=⟨aD.cons (aJ.agg (cP.row fK)) (aD.cons (aJ.agg (cP.row fK)) (aD.one (aJ.agg (cP.row iK)))),aJ.int .i64,fun a=>tX a.1 a.2.1 a.2.2,.pure,false⟩
theorem VT:aI tab 225 aM2:=Oc aLU rfl aG [(191,aUp),(49,c49)] ⟨aCQ,yS,trivial⟩ fun a=>by kernel_rfl
def qF (s:(Int×Int×Int×Int×Int×Int×Int×Int×Int)):Option (bT (Int×Int×Int×Int×Int×Int×Int×Int×Int) (Int×Int)):=bif decide (s.2.2.2.2.1<2) then bif s.2.2.2.2.1==0 then (jF (aA .u64 s.1) (aA .u64 s.2.1)).bind fun a0=>bif decide (s.1<0) then bif decide (s.2.1<0) then (tV s.2.2.2.2.2.2.2.2 a0.2 0).bind fun a1=>some (.next (s.1,s.2.1,s.2.2.1,s.2.2.2.1,aA .i64 (s.2.2.2.2.1+1),s.2.2.2.2.2.1,s.2.2.2.2.2.2.1,aA .i64 ((aA .i64 (s.2.2.2.2.2.2.2.1+(aA .i64 ((aA .i64 ((aA .i64 a0.1) -s.2.1)) -s.1))))+(aA .i64 a1.2)),a1.1)) else (tV s.2.2.2.2.2.2.2.2 a0.2 0).bind fun a2=>some (.next (s.1,s.2.1,s.2.2.1,s.2.2.2.1,aA .i64 (s.2.2.2.2.1+1),s.2.2.2.2.2.1,s.2.2.2.2.2.2.1,aA .i64 ((aA .i64 (s.2.2.2.2.2.2.2.1+(aA .i64 ((aA .i64 a0.1) -s.2.1))))+(aA .i64 a2.2)),a2.1)) else bif decide (s.2.1<0) then (tV s.2.2.2.2.2.2.2.2 a0.2 0).bind fun a3=>some (.next (s.1,s.2.1,s.2.2.1,s.2.2.2.1,aA .i64 (s.2.2.2.2.1+1),s.2.2.2.2.2.1,s.2.2.2.2.2.2.1,aA .i64 ((aA .i64 (s.2.2.2.2.2.2.2.1+(aA .i64 ((aA .i64 a0.1) -s.1))))+(aA .i64 a3.2)),a3.1)) else (tV s.2.2.2.2.2.2.2.2 a0.2 0).bind fun a4=>some (.next (s.1,s.2.1,s.2.2.1,s.2.2.2.1,aA .i64 (s.2.2.2.2.1+1),s.2.2.2.2.2.1,s.2.2.2.2.2.2.1,aA .i64 ((aA .i64 (s.2.2.2.2.2.2.2.1+(aA .i64 a0.1)))+(aA .i64 a4.2)),a4.1)) else bif s.2.2.2.2.1==1 then (jF (aA .u64 s.2.2.1) (aA .u64 s.2.2.2.1)).bind fun a5=>bif decide (s.2.2.1<0) then bif decide (s.2.2.2.1<0) then (tV s.2.2.2.2.2.2.2.2 a5.2 0).bind fun a6=>some (.next (s.1,s.2.1,s.2.2.1,s.2.2.2.1,aA .i64 (s.2.2.2.2.1+1),s.2.2.2.2.2.1,s.2.2.2.2.2.2.1,aA .i64 ((aA .i64 (s.2.2.2.2.2.2.2.1+(aA .i64 ((aA .i64 ((aA .i64 a5.1) -s.2.2.2.1)) -s.2.2.1))))+(aA .i64 a6.2)),a6.1)) else (tV s.2.2.2.2.2.2.2.2 a5.2 0).bind fun a7=>some (.next (s.1,s.2.1,s.2.2.1,s.2.2.2.1,aA .i64 (s.2.2.2.2.1+1),s.2.2.2.2.2.1,s.2.2.2.2.2.2.1,aA .i64 ((aA .i64 (s.2.2.2.2.2.2.2.1+(aA .i64 ((aA .i64 a5.1) -s.2.2.2.1))))+(aA .i64 a7.2)),a7.1)) else bif decide (s.2.2.2.1<0) then (tV s.2.2.2.2.2.2.2.2 a5.2 0).bind fun a8=>some (.next (s.1,s.2.1,s.2.2.1,s.2.2.2.1,aA .i64 (s.2.2.2.2.1+1),s.2.2.2.2.2.1,s.2.2.2.2.2.2.1,aA .i64 ((aA .i64 (s.2.2.2.2.2.2.2.1+(aA .i64 ((aA .i64 a5.1) -s.2.2.1))))+(aA .i64 a8.2)),a8.1)) else (tV s.2.2.2.2.2.2.2.2 a5.2 0).bind fun a9=>some (.next (s.1,s.2.1,s.2.2.1,s.2.2.2.1,aA .i64 (s.2.2.2.2.1+1),s.2.2.2.2.2.1,s.2.2.2.2.2.2.1,aA .i64 ((aA .i64 (s.2.2.2.2.2.2.2.1+(aA .i64 a5.1)))+(aA .i64 a9.2)),a9.1)) else none else some (.done s.2.2.2.2.2.2.2)
def DH (p0:Int×Int×Int×Int):Option (Int×Int):=aH qF (p0.1,p0.2.1,p0.2.2.1,p0.2.2.2,0,0,0,0,0)
def aWr:bO:=⟨aD.one (aJ.agg (cP.row aVV)),aJ.agg (cP.row kiu),fun a=>DH a,.pure,false⟩
theorem aM3:aI tab 271 aWr:=Oc aMn rfl aG [(172,aMV),(300,bO.add64)] ⟨VQ,aFS,trivial⟩ fun a=>by kernel_rfl
def qM (p0:Int):Option Bool:=some (p0 !=p0)
def aWs:bO:=⟨aD.one (aJ.int .i64),aJ.bool,fun a=>qM a,.pure,false⟩
theorem aM4:aI tab 170 aWs:=Oc aLi rfl aG [] trivial fun a=>by kernel_rfl
def lB (p0:Int) (p1:Int):Option Int:=(qM p0).bind fun b0=>(qM p1).bind fun b1=>bif b0 then bif b1 then some 0 else some (-1) else bif b1 then some 1 else bif decide (p0<p1) then some (-1) else bif decide (p1<p0) then some 1 else some 0
def aUw:bO:=⟨aD.cons (aJ.int .i64) (aD.one (aJ.int .i64)),aJ.int .i64,fun a=>lB a.1 a.2,.pure,false⟩
theorem aCV:aI tab 108 aUw:=Oc aKI rfl aG [(170,aWs)] ⟨aM4,trivial⟩ fun a=>by kernel_rfl
def BC (s:(Int×(List Int)×Int×Int)):Option (bT (Int×(List Int)×Int×Int) Int):=bif decide (s.2.2.2<s.2.2.1) then (aN s.2.1 s.2.2.2).bind fun n0=>bif n0 !=s.1 then some (.done n0) else some (.next (s.1,s.2.1,s.2.2.1,aA .i64 (s.2.2.2+1))) else some (.done s.1)
def yU (p0:List Int):Option Int:=aH BC (0,p0,bn p0.length,0)
def aUx:bO:=⟨aD.one (aJ.sl ki),aJ.int .i64,fun a=>yU a,.pure,false⟩
theorem aCW:aI tab 231 aUx:=Oc aLY rfl aG [] trivial fun a=>by kernel_rfl
def oS (p0:Int×Int×Int) (p1:Int×Int×Int) (p2:Int×Int):Option Int:=(DH (aA .i64 (p0.2.1-p1.2.1),p2.2,aA .i64 (p0.2.2-p1.2.2),p2.1)).bind fun a0=>bif !((a0.1==0)&&(a0.2==0)) then bif decide (a0.1<0) then some (-1) else some 1 else (lB p0.2.2 p1.2.2).bind fun n1=>(fJ p1.1 p0.1).bind fun n2=>(yU [n1,n2]).bind fun n3=>some n3
def aUy:bO:=⟨aD.cons (aJ.agg (cP.row fK)) (aD.cons (aJ.agg (cP.row fK)) (aD.one (aJ.agg (cP.row iK)))),aJ.int .i64,fun a=>oS a.1 a.2.1 a.2.2,.pure,false⟩
theorem aCX:aI tab 226 aUy:=Oc aLV rfl aG [(271,aWr),(108,aUw),(232,YW),(231,aUx)] ⟨aM3,aCV,DG,aCW,trivial⟩ fun a=>by kernel_rfl
def nI (p0:Int×Int×Int) (p1:Int×Int×Int) (p2:Int×Int):Option (Bool×Int):=(tX p0 p1 p2).bind fun n0=>bif n0 !=0 then some (false,n0) else (oS p0 p1 p2).bind fun n1=>some (decide (0<n1),0)
def aM5:bO:=⟨aD.cons (aJ.agg (cP.row fK)) (aD.cons (aJ.agg (cP.row fK)) (aD.one (aJ.agg (cP.row iK)))),aJ.tup (aD.cons aJ.bool (aD.one (aJ.int .i64))),fun a=>nI a.1 a.2.1 a.2.2,.pure,false⟩
theorem VU:aI tab 159 aM5:=Oc aLf rfl aG [(225,aM2),(226,aUy)] ⟨VT,aCX,trivial⟩ fun a=>by kernel_rfl
def rM (p0:Field) (p1:Int×Int) (p2:Int) (p3:Int):Option Int:=bif decide ((if p3<p2 then p3 else p2)<0) then some (if p3>p2 then p3 else p2) else (lA p0 p2).bind fun a0=>(lA p0 p3).bind fun a1=>(aN p0.aa a0.1).bind fun a2=>(aN p0.aa a1.1).bind fun a3=>(nI a2 a3 p1).bind fun a4=>bif a4.1 then some p2 else some p3
def aWt:bO:=⟨aD.cons (aJ.agg cB) (aD.cons (aJ.agg (cP.row iK)) (aD.cons (aJ.int .i64) (aD.one (aJ.int .i64)))),aJ.int .i64,fun a=>rM a.1 a.2.1 a.2.2.1 a.2.2.2,.pure,false⟩
theorem aM6:aI tab 187 aWt:=Oc aLy rfl aG [(247,aUv),(159,aM5)] ⟨aCU,VU,trivial⟩ fun a=>by kernel_rfl
def L8 (s:aD8):Option (bT aD8 (bJ×Int)):=bif decide (0<=s.1) then (gQ (bJ.mk s.2.2.2.2.1 s.2.2.2.2.2) (aA .i64 ((aA .i64 (2*s.1))+1))).bind fun n0=>(gQ (bJ.mk s.2.2.2.2.1 s.2.2.2.2.2) (aA .i64 ((aA .i64 (2*s.1))+2))).bind fun n1=>(rM (Field.mk s.2.1) (s.2.2.1,s.2.2.2.1) n0 n1).bind fun n2=>(aN s.2.2.2.2.2 s.1).bind fun _=>some (.next (aA .i64 (s.1-1),s.2.1,s.2.2.1,s.2.2.2.1,s.2.2.2.2.1,cM s.2.2.2.2.2 s.1 n2)) else some (.done (bJ.mk s.2.2.2.2.1 s.2.2.2.2.2,0))
def kA (s:aD8):Option (bT aD8 aWe):=bif decide (0<=s.1) then (gQ (bJ.mk s.2.2.2.2.1 s.2.2.2.2.2) (aA .i64 ((aA .i64 (2*s.1))+1))).bind fun n0=>(gQ (bJ.mk s.2.2.2.2.1 s.2.2.2.2.2) (aA .i64 ((aA .i64 (2*s.1))+2))).bind fun n1=>(rM (Field.mk s.2.1) (s.2.2.1,s.2.2.2.1) n0 n1).bind fun n2=>(aN s.2.2.2.2.2 s.1).bind fun _=>some (.next (aA .i64 (s.1-1),s.2.1,s.2.2.1,s.2.2.2.1,s.2.2.2.2.1,cM s.2.2.2.2.2 s.1 n2)) else some (.done (.done (bJ.mk s.2.2.2.2.1 s.2.2.2.2.2,0)))
def pN (c0:Int) (c1:(List Int)) (s:aWd):Option aWe:=bif decide (s.2.2.1<s.2.1) then (aN s.1 s.2.2.1).bind fun n0=>bif !(!(vV false s.2.2.2.2.2.2 n0)) then bif !(!(decide (0<=s.2.2.1))) then some (.done (bJ.mk [] [],14)) else bif c0 !=0 then some (.done (bJ.mk [] [],c0)) else (cC c1).bind fun l1=>bif (aA .i64 ((bn c1.length) -1))==(aA .i64 ((bn c1.length) -1)) then (rJ (aA .i64 ((bn c1.length) -1)) (0:Int)).bind fun l2=>aH kA (aA .i64 ((bn l2.length) -1),s.2.2.2.1,s.2.2.2.2.1,s.2.2.2.2.2.1,l1,l2) else none else some (.next (s.1,s.2.1,aA .i64 (s.2.2.1+1),s.2.2.2.1,s.2.2.2.2.1,s.2.2.2.2.2.1,tK s.2.2.2.2.2.2 n0 (decide (0<=n0)))) else bif c0 !=0 then some (.done (bJ.mk [] [],c0)) else (cC c1).bind fun l3=>bif (aA .i64 ((bn c1.length) -1))==(aA .i64 ((bn c1.length) -1)) then (rJ (aA .i64 ((bn c1.length) -1)) (0:Int)).bind fun l4=>aH kA (aA .i64 ((bn l4.length) -1),s.2.2.2.1,s.2.2.2.2.1,s.2.2.2.2.2.1,l3,l4) else none
def uW (p0:Field) (p1:Int×Int) (p2:List Int):Option (bJ×Int):=(BB p0 p1).bind fun n0=>bif n0 !=0 then bif n0 !=0 then some (bJ.mk [] [],n0) else (cC p2).bind fun l1=>bif (aA .i64 ((bn p2.length) -1))==(aA .i64 ((bn p2.length) -1)) then (rJ (aA .i64 ((bn p2.length) -1)) (0:Int)).bind fun l2=>aH L8 (aA .i64 ((bn l2.length) -1),p0.aa,p1.1,p1.2,l1,l2) else none else bif decide ((bn p2.length)<1) then some (bJ.mk [] [],2) else bif decide (64<(bn p2.length)) then some (bJ.mk [] [],2) else (uV p0 p2).bind fun b3=>bif !b3 then some (bJ.mk [] [],6) else aH (pN n0 p2) (p2,bn p2.length,0,p0.aa,p1.1,p1.2,tK [] (-1) false)
def aWu:bO:=⟨aD.cons (aJ.agg cB) (aD.cons (aJ.agg (cP.row iK)) (aD.one (aJ.sl ki))),aJ.tup (aD.cons (aJ.agg hM) (aD.one (aJ.int .i64))),fun a=>uW a.1 a.2.1 a.2.2,.frz,false⟩
theorem aM7:aI tab 115 aWu:=aI.of aKO (cx:=(lT aG [(185,aWn),(186,aWq),(67,bO.clone ki),(126,aM1),(187,aWt)] [] [(131,aFL),(132,aD3),(200,aBh),(134,YP),(201,aD4),(199,aFN)] [])) rfl (jT.make ⟨aMX,aM0,sG,VS,aM6,trivial⟩ trivial ⟨aCD,VH,N4,KD,VL,aCJ,trivial⟩) (fun a=>by kernel_rfl)
def SK (p0:Int) (p1:bJ):Option Int:=bif decide (p0<(bn p1.be.length)) then (aN p1.be p0).bind fun n0=>some n0 else (aN p1.ba (aA .i64 (p0- (bn p1.be.length)))).bind fun n1=>some n1
def aWv:bO:=⟨aD.cons (aJ.int .i64) (aD.one (aJ.ref hM)),aJ.int .i64,fun a=>SK a.1 a.2,.pure,false⟩
theorem aM8:aI tab 116 aWv:=Oc aCB rfl aG [] trivial fun a=>by kernel_rfl
def oT (s:((List Int)×Int×Int×(List Int)×(List Int)×rX)):Option (bT ((List Int)×Int×Int×(List Int)×(List Int)×rX) (bJ×rX)):=match s with |(a,b,d,e,f,g)=>bif decide (d<b) then (aN a d).bind fun n0=>bif decide ((aA .i64 ((aA .i64 (2*d))+1))<(bn f.length)) then (aN f (aA .i64 ((aA .i64 (2*d))+1))).bind fun n1=>bif g.length==g.length then bif decide ((aA .i64 ((aA .i64 (2*d))+2))<(bn f.length)) then (aN f (aA .i64 ((aA .i64 (2*d))+2))).bind fun n2=>bif g.length==g.length then bif decide (0<=n1) then bif decide (0<=n2) then (bV g [(aA .i64 ((aA .i64 (n1+n2)) -n0),n0)]).bind fun l3=>some (.next (a,b,aA .i64 (d+1),e,f,l3)) else some (.next (a,b,aA .i64 (d+1),(e,f,g))) else some (.next (a,b,aA .i64 (d+1),(e,f,g))) else none else (aN e (aA .i64 ((aA .i64 ((aA .i64 (2*d))+2)) - (bn f.length)))).bind fun n4=>bif g.length==g.length then bif decide (0<=n1) then bif decide (0<=n4) then (bV g [(aA .i64 ((aA .i64 (n1+n4)) -n0),n0)]).bind fun l5=>some (.next (a,b,aA .i64 (d+1),e,f,l5)) else some (.next (a,b,aA .i64 (d+1),(e,f,g))) else some (.next (a,b,aA .i64 (d+1),(e,f,g))) else none else none else (aN e (aA .i64 ((aA .i64 ((aA .i64 (2*d))+1)) - (bn f.length)))).bind fun n6=>bif g.length==g.length then bif decide ((aA .i64 ((aA .i64 (2*d))+2))<(bn f.length)) then (aN f (aA .i64 ((aA .i64 (2*d))+2))).bind fun n7=>bif g.length==g.length then bif decide (0<=n6) then bif decide (0<=n7) then (bV g [(aA .i64 ((aA .i64 (n6+n7)) -n0),n0)]).bind fun l8=>some (.next (a,b,aA .i64 (d+1),e,f,l8)) else some (.next (a,b,aA .i64 (d+1),(e,f,g))) else some (.next (a,b,aA .i64 (d+1),(e,f,g))) else none else (aN e (aA .i64 ((aA .i64 ((aA .i64 (2*d))+2)) - (bn f.length)))).bind fun n9=>bif g.length==g.length then bif decide (0<=n6) then bif decide (0<=n9) then (bV g [(aA .i64 ((aA .i64 (n6+n9)) -n0),n0)]).bind fun l10=>some (.next (a,b,aA .i64 (d+1),e,f,l10)) else some (.next (a,b,aA .i64 (d+1),(e,f,g))) else some (.next (a,b,aA .i64 (d+1),(e,f,g))) else none else none else some (.done (bJ.mk e f,g))
def iL (p0:Field) (p1:Int×Int) (p2:List Int):Option (bJ×rX):=(uW p0 p1 p2).bind fun a0=>aH oT (a0.1.be,bn a0.1.be.length,0,a0.1.ba,a0.1.be,[])
def c54:bO:=⟨aD.cons (aJ.agg cB) (aD.cons (aJ.agg (cP.row iK)) (aD.one (aJ.sl ki))),aJ.tup (aD.cons (aJ.agg hM) (aD.one (aJ.sl iK))),fun a=>iL a.1 a.2.1 a.2.2,.frz,false⟩
theorem aBi:aI tab 54 c54:=aI.of aTG (cx:=(lT aG [(115,aWu),(116,aWv)] [] [(116,aH0)] [])) rfl (jT.make ⟨aM7,aM8,trivial⟩ trivial ⟨aCB,trivial⟩) (fun a=>by kernel_rfl)
def yV (p0:Int×Int):Option Bool:=bif decide (0<=(if p0.2<p0.1 then p0.2 else p0.1)) then bif decide ((if p0.2>p0.1 then p0.2 else p0.1)<=65535) then some (p0.1 !=p0.2) else some false else some false
def aUz:bO:=⟨aD.one (aJ.agg (cP.row iK)),aJ.bool,fun a=>yV a,.pure,false⟩
theorem aCY:aI tab 194 aUz:=Oc aLC rfl aG [] trivial fun a=>by kernel_rfl
def uX (s:aWf):Option (bT aWf Int):=bif decide (s.2.2.2.1<s.2.2.1) then (aN s.2.1 s.2.2.2.1).bind fun a0=>(yV a0.2).bind fun b1=>bif !b1 then some (.done 8) else (XY s.2.2.2.2.2.2 [a0.2.1,a0.2.2]).bind fun b2=>bif b2 then some (.done 8) else bif decide (a0.1<=s.1) then some (.done 8) else bif decide (s.2.2.2.2.1<=a0.1) then some (.done 8) else (XZ s.2.2.2.2.2.2 [a0.2.1,a0.2.2]).bind fun l3=>some (.next (a0.1,s.2.1,s.2.2.1,aA .i64 (s.2.2.2.1+1),s.2.2.2.2.1,s.2.2.2.2.2.1,l3)) else some (.done 0)
def tY (p0:bM):Option Int:=bif decide (200<(bn p0.aq.length)) then some 8 else bif decide (p0.ao<0) then some 8 else bif decide (1000000<p0.ao) then some 8 else aH uX (-1,p0.aq,bn p0.aq.length,0,p0.ao,p0.aq,[])
def aM9:bO:=⟨aD.one (aJ.agg kO),aJ.int .i64,fun a=>tY a,.pure,false⟩
theorem VV:aI tab 128 aM9:=Oc aKU rfl aG [(194,aUz)] ⟨aCY,trivial⟩ fun a=>by kernel_rfl
def iM (s:((List Bool)×Bool×Int×Int)):Option (bT ((List Bool)×Bool×Int×Int) Int):=bif decide (s.2.2.2<s.2.2.1) then (aN s.1 s.2.2.2).bind fun b0=>bif s.2.1==b0 then some (.done s.2.2.2) else some (.next (s.1,s.2.1,s.2.2.1,aA .i64 (s.2.2.2+1))) else some (.done (-1))
def sI (p0:List Bool) (p1:Bool):Option Int:=aH iM (p0,p1,bn p0.length,0)
def aWw:bO:=⟨aD.cons (aJ.sl kb) (aD.one aJ.bool),aJ.int .i64,fun a=>sI a.1 a.2,.pure,false⟩
theorem aNa:aI tab 294 aWw:=Oc aMA rfl aG [] trivial fun a=>by kernel_rfl
def fD (p0:List Bool) (p1:Bool):Option Bool:=(sI p0 p1).bind fun n0=>some (decide (0<=n0))
def aWx:bO:=⟨aD.cons (aJ.sl kb) (aD.one aJ.bool),aJ.bool,fun a=>fD a.1 a.2,.pure,false⟩
theorem aNb:aI tab 252 aWx:=Oc aMh rfl aG [(294,aWw)] ⟨aNa,trivial⟩ fun a=>by kernel_rfl
def iE (s:((List Int)×Int×Int×(List Int)×(List Bool)×(List Int))):Option (bT ((List Int)×Int×Int×(List Int)×(List Bool)×(List Int)) aWh):=bif decide (s.2.2.1<s.2.1) then (aN s.1 s.2.2.1).bind fun n0=>bif decide (n0<0) then some (.done (.done 8)) else bif decide (1000000<n0) then some (.done (.done 8)) else bif n0==0 then (aN s.2.2.2.2.1 s.2.2.1).bind fun b1=>bif b1 then some (.done (.done 8)) else some (.next (s.1,s.2.1,aA .i64 (s.2.2.1+1),s.2.2.2)) else some (.next (s.1,s.2.1,aA .i64 (s.2.2.1+1),s.2.2.2)) else some (.done (.done 0))
def uY (c0:(List Bool)) (s:aWg):Option aWh:=match s with |(a,b,d,e,f,g,h,i)=>bif decide (d<b) then (aN a d).bind fun n0=>bif decide (n0<0) then bif i.length==i.length then bif i.length==c0.length then bif i.length==c0.length then bif decide (0<=d) then some (.done 8) else (fD i false).bind fun b1=>bif b1 then some (.done 8) else aH iE (e,bn e.length,0,e,f,g) else none else none else none else bif decide (h<=n0) then bif i.length==i.length then bif i.length==c0.length then bif i.length==c0.length then bif decide (0<=d) then some (.done 8) else (fD i false).bind fun b2=>bif b2 then some (.done 8) else aH iE (e,bn e.length,0,e,f,g) else none else none else none else (aN i n0).bind fun b3=>bif b3 then bif i.length==i.length then bif i.length==c0.length then bif i.length==c0.length then bif decide (0<=d) then some (.done 8) else (fD i false).bind fun b4=>bif b4 then some (.done 8) else aH iE (e,bn e.length,0,e,f,g) else none else none else none else (aN i n0).bind fun _=>bif ((cM i n0 true).length)==i.length then some (.next (a,b,aA .i64 (d+1),e,f,g,h,cM i n0 true)) else none else bif i.length==c0.length then bif i.length==c0.length then (fD i false).bind fun b6=>bif b6 then some (.done 8) else aH iE (e,bn e.length,0,e,f,g) else none else none
def tZ (p0:bA):Option Int:=bif decide ((bn p0.ac.length)<1) then some 8 else bif decide (200<(bn p0.ac.length)) then some 8 else bif (bn p0.ae.length) !=(bn p0.ac.length) then some 8 else (cC p0.ae).bind fun l0=>aH (uY l0) (p0.af,bn p0.af.length,0,p0.ac,p0.ae,p0.af,bn p0.ac.length,l0)
def aNc:bO:=⟨aD.one (aJ.agg iZ),aJ.int .i64,fun a=>tZ a,.pure,false⟩
theorem VW:aI tab 195 aNc:=aI.of aLD (cx:=(lT aG [(184,bO.clone kb),(252,aWx)] [] [(200,aBh),(134,YP),(251,aJI)] [])) rfl (jT.make ⟨yQ,aNb,trivial⟩ trivial ⟨N4,KD,aMg,trivial⟩) (fun a=>by kernel_rfl)
def DI (p0:Int×Int) (p1:Int×Int):Option Int:=(eS p0).bind fun n0=>(eS p1).bind fun n1=>some (if n1>n0 then n1 else n0)
def aWy:bO:=⟨aD.cons (aJ.agg (cP.row iK)) (aD.one (aJ.agg (cP.row iK))),aJ.int .i64,fun a=>DI a.1 a.2,.pure,false⟩
theorem aNd:aI tab 107 aWy:=Oc aKH rfl aG [(49,c49)] ⟨yS,trivial⟩ fun a=>by kernel_rfl
def wC (p0:Int) (p1:Int):Option (Bool×Int×Int):=(nZ p0).bind fun n0=>(nZ p1).bind fun n1=>(jF n0 n1).bind fun a2=>some (!((decide (p0<0))==(decide (p1<0))),a2)
def aWz:bO:=⟨aD.cons (aJ.int .i64) (aD.one (aJ.int .i64)),aJ.agg (cP.row FK),fun a=>wC a.1 a.2,.pure,false⟩
theorem aNe:aI tab 110 aWz:=Oc aKK rfl aG [(106,aMS),(172,aMV)] ⟨VP,VQ,trivial⟩ fun a=>by kernel_rfl
def pO (p0:Int):Option Bool:=some (p0 !=p0)
def aWA:bO:=⟨aD.one (aJ.int .u64),aJ.bool,fun a=>pO a,.pure,false⟩
theorem aNf:aI tab 233 aWA:=Oc aL0 rfl aG [] trivial fun a=>by kernel_rfl
def kI (p0:Int) (p1:Int):Option Int:=(pO p0).bind fun b0=>(pO p1).bind fun b1=>bif b0 then bif b1 then some 0 else some (-1) else bif b1 then some 1 else bif decide (p0<p1) then some (-1) else bif decide (p1<p0) then some 1 else some 0
def aWB:bO:=⟨aD.cons (aJ.int .u64) (aD.one (aJ.int .u64)),aJ.int .i64,fun a=>kI a.1 a.2,.pure,false⟩
theorem aNg:aI tab 171 aWB:=Oc aLj rfl aG [(233,aWA)] ⟨aNf,trivial⟩ fun a=>by kernel_rfl
def uZ (p0:Bool×Int×Int) (p1:Bool×Int×Int):Option Int:=(kI p0.2.1 p1.2.1).bind fun n0=>bif n0 !=0 then some n0 else (kI p0.2.2 p1.2.2).bind fun n1=>some n1
def aWC:bO:=⟨aD.cons (aJ.agg (cP.row FK)) (aD.one (aJ.agg (cP.row FK))),aJ.int .i64,fun a=>uZ a.1 a.2,.pure,false⟩
theorem aNh:aI tab 109 aWC:=Oc aKJ rfl aG [(171,aWB)] ⟨aNg,trivial⟩ fun a=>by kernel_rfl
def uA (p0:Int×Int) (p1:Int×Int):Option (Int×Int):=(DI p0 p1).bind fun n0=>bif n0 !=0 then some (0,n0) else bif !((decide (p0.1<0))==(decide (p1.1<0))) then (lB p0.1 p1.1).bind fun n1=>some (n1,0) else (wC p0.1 p1.2).bind fun a2=>(wC p1.1 p0.2).bind fun a3=>(uZ a2 a3).bind fun n4=>bif decide (p0.1<0) then some (aA .i64 (0-n4),0) else some (n4,0)
def c50:bO:=⟨aD.cons (aJ.agg (cP.row iK)) (aD.one (aJ.agg (cP.row iK))),aJ.tup (aD.cons (aJ.int .i64) (aD.one (aJ.int .i64))),fun a=>uA a.1 a.2,.pure,false⟩
theorem aBj:aI tab 50 c50:=Oc aTC rfl aG [(107,aWy),(108,aUw),(110,aWz),(109,aWC)] ⟨aNd,aCV,aNe,aNh,trivial⟩ fun a=>by kernel_rfl
def cU (p0:Int×Int×Int×Int×Int) (p1:Int×Int×Int×Int×Int):Option Int:=(uA (p0.1,p0.2.1) (p1.1,p1.2.1)).bind fun a0=>(fJ p0.2.2.1 p1.2.2.1).bind fun n1=>(yU [a0.1,n1]).bind fun n2=>some n2
def aNi:bO:=⟨aD.cons (aJ.agg (cP.row lJ)) (aD.one (aJ.agg (cP.row lJ))),aJ.int .i64,fun a=>cU a.1 a.2,.pure,false⟩
theorem VX:aI tab 196 aNi:=Oc aLE rfl aG [(50,c50),(232,YW),(231,aUx)] ⟨aBj,DG,aCW,trivial⟩ fun a=>by kernel_rfl
def kV (s:aV8):Option (bT aV8 aWc):=bif decide (s.2.2.1<s.2.1) then (aN s.1 s.2.2.1).bind fun a0=>(eS (a0.1,a0.2.1)).bind fun n1=>bif n1 !=0 then some (.done (.done 8)) else bif decide (a0.2.2.1<0) then some (.done (.done 8)) else bif decide (1000000<a0.2.2.1) then some (.done (.done 8)) else (XY s.2.2.2.2.2.2.2.2 [a0.2.2.1]).bind fun b2=>bif b2 then some (.done (.done 8)) else (XZ s.2.2.2.2.2.2.2.2 [a0.2.2.1]).bind fun l3=>bif decide (0<s.2.2.1) then (aN s.2.2.2.2.2.2.1 (aA .i64 (bo (aA .i64 (s.2.2.1-1)) 2))).bind fun a4=>(cU a0 a4).bind fun n5=>bif decide (n5<0) then some (.done (.done 8)) else some (.next (s.1,s.2.1,aA .i64 (s.2.2.1+1),s.2.2.2.1,s.2.2.2.2.1,s.2.2.2.2.2.1,s.2.2.2.2.2.2.1,s.2.2.2.2.2.2.2.1,l3)) else some (.next (s.1,s.2.1,aA .i64 (s.2.2.1+1),s.2.2.2.1,s.2.2.2.2.1,s.2.2.2.2.2.1,s.2.2.2.2.2.2.1,s.2.2.2.2.2.2.2.1,l3)) else some (.done (.done 0))
def nV (s:aWb):Option aWc:=bif decide (s.2.2.1<s.2.1) then (aN s.1 s.2.2.1).bind fun n0=>(aN s.2.2.2.2.1 s.2.2.1).bind fun b1=>bif !b1 then bif n0 !=(-1) then some (.done 8) else some (.next (s.1,s.2.1,aA .i64 (s.2.2.1+1),s.2.2.2)) else bif decide (n0<0) then some (.done 8) else bif decide ((bn s.2.2.2.2.2.2.1.length)<=n0) then some (.done 8) else (aN s.2.2.2.2.2.2.1 n0).bind fun a2=>(aN s.2.2.2.1 s.2.2.1).bind fun n3=>bif !((a2.2.2.2.1==s.2.2.1)&&(a2.2.2.2.2==n3)) then some (.done 8) else some (.next (s.1,s.2.1,aA .i64 (s.2.2.1+1),s.2.2.2)) else aH kV (s.2.2.2.2.2.2.1,bn s.2.2.2.2.2.2.1.length,0,s.2.2.2.1,s.2.2.2.2.1,s.2.2.2.2.2.1,s.2.2.2.2.2.2.1,s.2.2.2.2.2.2.2,[])
def lC (p0:aP):Option Int:=(tZ p0.ai).bind fun n0=>bif n0 !=0 then some 8 else bif (bn p0.am.length) !=(bn p0.ai.ae.length) then some 8 else bif (bn p0.aj.length) !=(aA .i64 ((bn p0.ai.ae.length) - (bn p0.ai.af.length))) then some 8 else aH nV (p0.am,bn p0.am.length,0,p0.ai.ac,p0.ai.ae,p0.ai.af,p0.aj,p0.am)
def aD9:bO:=⟨aD.one (aJ.agg eB),aJ.int .i64,fun a=>lC a,.pure,false⟩
theorem KG:aI tab 129 aD9:=Oc aKV rfl aG [(195,aNc),(49,c49),(196,aNi)] ⟨VW,yS,VX,trivial⟩ fun a=>by kernel_rfl
def BD (p0:Int×Int×Int) (p1:Int):Option Int:=(fJ p0.1 p1).bind fun n0=>some n0
def aWD:bO:=⟨aD.cons (aJ.agg (cP.row fK)) (aD.one (aJ.int .i64)),aJ.int .i64,fun a=>BD a.1 a.2,.pure,false⟩
theorem aNj:aI tab 254 aWD:=Oc aMi rfl aG [(232,YW)] ⟨DG,trivial⟩ fun a=>by kernel_rfl
def kB (s:SJ):Option aFT:=bif decide (s.2.2.2.1<s.2.2.2.2) then (aN s.1 (aA .i64 (iT .u64 (aA .u64 (aA .i64 (s.2.2.2.1+s.2.2.2.2))) 1))).bind fun a0=>(BD a0 s.2.1).bind fun n1=>bif decide (n1<0) then some (.next (s.1,s.2.1,s.2.2.1,aA .i64 ((aA .i64 (iT .u64 (aA .u64 (aA .i64 (s.2.2.2.1+s.2.2.2.2))) 1))+1),s.2.2.2.2)) else some (.next (s.1,s.2.1,s.2.2.1,s.2.2.2.1,aA .i64 (iT .u64 (aA .u64 (aA .i64 (s.2.2.2.1+s.2.2.2.2))) 1))) else bif decide (s.2.2.2.1<s.2.2.1) then (aN s.1 s.2.2.2.1).bind fun a2=>(BD a2 s.2.1).bind fun n3=>some (.done (s.2.2.2.1,n3==0)) else some (.done (s.2.2.2.1,false))
def dO (p0:List (Int×Int×Int)) (p1:Int) (_:Unit):Option (Int×Bool):=aH kB (p0,p1,bn p0.length,0,bn p0.length)
def YZ:bO:=⟨aD.cons (aJ.sl fK) (aD.cons (aJ.int .i64) (aD.one (aJ.clo 254 aD.nil))),aJ.tup (aD.cons (aJ.int .i64) (aD.one aJ.bool)),fun a=>dO a.1 a.2.1 a.2.2,.pure,false⟩
theorem Y0:aI tab 253 YZ:=Oc VN rfl aG [(254,aWD)] ⟨aNj,trivial⟩ fun a=>by kernel_rfl
def lD (p0:Field) (p1:Int):Option (Int×Int×Int):=(dO p0.aa p1 ()).bind fun a0=>bif !a0.2 then some (-1,0,0) else (aN p0.aa a0.1).bind fun a1=>some a1
def aNk:bO:=⟨aD.cons (aJ.agg cB) (aD.one (aJ.int .i64)),aJ.agg (cP.row fK),fun a=>lD a.1 a.2,.pure,false⟩
theorem VY:aI tab 198 aNk:=Oc aLG rfl aG [(253,YZ)] ⟨Y0,trivial⟩ fun a=>by kernel_rfl
def FL (p0:Bool×Int×Int) (p1:Int) (p2:Int):Option ((Int×Int)×Int):=bif decide (0<p0.2.1) then some ((0,0),16) else bif decide (9223372036854775807<p0.2.2) then some ((0,0),16) else bif decide (0<p1) then some ((0,0),16) else bif decide (9223372036854775807<p2) then some ((0,0),16) else bif p0.1 then some ((aA .i64 (0- (aA .i64 p0.2.2)),aA .i64 p2),0) else some ((aA .i64 p0.2.2,aA .i64 p2),0)
def aWE:bO:=⟨aD.cons (aJ.agg (cP.row FK)) (aD.cons (aJ.int .u64) (aD.one (aJ.int .u64))),aJ.tup (aD.cons (aJ.agg (cP.row iK)) (aD.one (aJ.int .i64))),fun a=>FL a.1 a.2.1 a.2.2,.pure,false⟩
theorem aNl:aI tab 273 aWE:=Oc aMp rfl aG [] trivial fun a=>by kernel_rfl
def DJ (p0:Int) (p1:Int):Option ((Int×Int)×Int):=bif p1==0 then some ((0,0),26) else (nZ p0).bind fun n0=>(nZ p1).bind fun n1=>(CD n0 n1).bind fun n2=>(nZ p0).bind fun n3=>bif n2==0 then none else (nZ p1).bind fun n4=>bif n2==0 then none else (FL (!((decide (p0<0))==(decide (p1<0))),0,aA .u64 (bo n3 n2)) 0 (aA .u64 (bo n4 n2))).bind fun a5=>some a5
def aWF:bO:=⟨aD.cons (aJ.int .i64) (aD.one (aJ.int .i64)),aJ.tup (aD.cons (aJ.agg (cP.row iK)) (aD.one (aJ.int .i64))),fun a=>DJ a.1 a.2,.pure,false⟩
theorem aNm:aI tab 229 aWF:=Oc aLX rfl aG [(106,aMS),(105,aUq),(273,aWE)] ⟨VP,aCR,aNl,trivial⟩ fun a=>by kernel_rfl
def FM (p0:Int×Int×Int) (p1:Int×Int×Int):Option ((Int×Int)×Int):=(tX p0 p1 (0,1)).bind fun n0=>bif n0 !=0 then some ((0,0),n0) else bif p0.2.2==p1.2.2 then some ((0,0),6) else (DJ (aA .i64 (p0.2.1-p1.2.1)) (aA .i64 (p1.2.2-p0.2.2))).bind fun a1=>some a1
def aWG:bO:=⟨aD.cons (aJ.agg (cP.row fK)) (aD.one (aJ.agg (cP.row fK))),aJ.tup (aD.cons (aJ.agg (cP.row iK)) (aD.one (aJ.int .i64))),fun a=>FM a.1 a.2,.pure,false⟩
theorem aNn:aI tab 163 aWG:=Oc aLh rfl aG [(225,aM2),(229,aWF)] ⟨VT,aNm,trivial⟩ fun a=>by kernel_rfl
def xS (p0:Int×Int×Int) (p1:Int×Int×Int) (p2:Int×Int):Option ((Int×Int)×Bool×Int):=(tX p0 p1 p2).bind fun n0=>bif n0 !=0 then some ((0,0),false,n0) else (oS p1 p0 p2).bind fun n1=>bif decide (0<n1) then some (p2,true,0) else bif decide (p1.2.2<=p0.2.2) then some ((0,0),false,0) else (FM p0 p1).bind fun a2=>some (a2.1,a2.2==0,a2.2)
def aWH:bO:=⟨aD.cons (aJ.agg (cP.row fK)) (aD.cons (aJ.agg (cP.row fK)) (aD.one (aJ.agg (cP.row iK)))),aJ.tup (aD.cons (aJ.agg (cP.row iK)) (aD.cons aJ.bool (aD.one (aJ.int .i64)))),fun a=>xS a.1 a.2.1 a.2.2,.pure,false⟩
theorem aNo:aI tab 197 aWH:=Oc aLF rfl aG [(225,aM2),(226,aUy),(163,aWG)] ⟨VT,aCX,aNn,trivial⟩ fun a=>by kernel_rfl
def uB (p0:Field) (p1:Int×Int) (p2:Int×Int):Option ((Int×Int)×Bool×Int):=(lD p0 p1.2).bind fun a0=>(lD p0 p1.1).bind fun a1=>(xS a0 a1 p2).bind fun a2=>some a2
def aNp:bO:=⟨aD.cons (aJ.agg cB) (aD.cons (aJ.agg (cP.row iK)) (aD.one (aJ.agg (cP.row iK)))),aJ.tup (aD.cons (aJ.agg (cP.row iK)) (aD.cons aJ.bool (aD.one (aJ.int .i64)))),fun a=>uB a.1 a.2.1 a.2.2,.pure,false⟩
theorem VZ:aI tab 130 aNp:=Oc aKW rfl aG [(198,aNk),(197,aWH)] ⟨VY,aNo,trivial⟩ fun a=>by kernel_rfl
def dE (s:Zt8):Option (bT Zt8 aV0):=bif decide (s.2.2.2.1<s.2.2.1) then (aN s.2.1 s.2.2.2.1).bind fun a0=>(uB (Field.mk s.2.2.2.2.2.2.1) a0.2 (s.2.2.2.2.1,s.2.2.2.2.2.1)).bind fun a1=>bif a1.2.2 !=0 then some (.done (.done 8)) else bif !a1.2.1 then some (.next (s.1,s.2.1,s.2.2.1,aA .i64 (s.2.2.2.1+1),s.2.2.2.2)) else bif (bn s.1.length)==0 then some (.done (.done 8)) else (aN s.1 0).bind fun a2=>bif a2.1 !=a0.1 then some (.done (.done 8)) else (aN s.1 0).bind fun a3=>bif decide (a3.2.1<0) then some (.done (.done 8)) else bif decide (200<=a3.2.1) then some (.done (.done 8)) else (aN s.2.2.2.2.2.2.2.2.2.2.2.2.2.1 a3.2.1).bind fun n4=>bif decide (n4<0) then some (.done (.done 8)) else (aN s.2.2.2.2.2.2.2.2.2.2.2.2.2.1 a3.2.1).bind fun n5=>(aN s.2.2.2.2.2.2.2.2.2.2.2.2.1 n5).bind fun a6=>bif !((a6.1==a1.1.1)&&((a6.2.1==a1.1.2)&&((a6.2.2.1==a0.1)&&((a6.2.2.2.1==a3.2.1)&&(a6.2.2.2.2==a3.2.2))))) then some (.done (.done 8)) else (jS s.1 1 (bn s.1.length)).bind fun l7=>some (.next (l7,s.2.1,s.2.2.1,aA .i64 (s.2.2.2.1+1),s.2.2.2.2)) else bif decide (0<(bn s.1.length)) then some (.done (.done 8)) else some (.done (.done 0))
def fW (s:aVZ):Option aV0:=match s with |(a,b,d,e,f,g,h,i,j,k,l,m,n,o)=>bif decide (b<a) then (aN o b).bind fun n0=>bif n0 !=0 then some (.done 8) else some (.next (a,aA .i64 (b+1),(d,e,f,g,h,i,j,k,l,m,n,o))) else bif (bn m.length) !=200 then some (.done 8) else bif (bn l.length) !=(bn n.length) then some (.done 8) else aH dE (n,h,bn h.length,0,d,e,f,g,h,i,j,k,l,m,n)
def gZ (p0:aO):Option Int:=(eS p0.ar).bind fun n0=>(fC p0.au).bind fun n1=>(tY p0.ax).bind fun n2=>(lC p0.ay).bind fun n3=>aH fW (bn ([n0,n1,n2,n3].length),0,p0.ar.1,p0.ar.2,p0.au.aa,p0.ax.ao,p0.ax.aq,p0.ay.ai.ac,p0.ay.ai.ae,p0.ay.ai.af,p0.ay.aj,p0.ay.am,p0.az,[n0,n1,n2,n3])
def c65:bO:=⟨aD.one (aJ.agg bY),aJ.int .i64,fun a=>gZ a,.pure,false⟩
theorem L9:aI tab 65 c65:=Oc aTM rfl aG [(49,c49),(122,YS),(128,aM9),(129,aD9),(130,aNp)] ⟨yS,DF,VV,KG,VZ,trivial⟩ fun a=>by kernel_rfl
def lE (s:(rX×Int×Int×Int×Int)):Option (bT (rX×Int×Int×Int×Int) Int):=bif decide (s.2.2.1<s.2.1) then (aN s.1 s.2.2.1).bind fun a0=>bif (s.2.2.2.1==a0.1)&&(s.2.2.2.2==a0.2) then some (.done s.2.2.1) else some (.next (s.1,s.2.1,aA .i64 (s.2.2.1+1),s.2.2.2)) else some (.done (-1))
def sJ (p0:List (Int×Int)) (p1:Int×Int):Option Int:=aH lE (p0,bn p0.length,0,p1)
def aWI:bO:=⟨aD.cons (aJ.sl iK) (aD.one (aJ.agg (cP.row iK))),aJ.int .i64,fun a=>sJ a.1 a.2,.pure,false⟩
theorem aNq:aI tab 213 aWI:=Oc aLJ rfl aG [] trivial fun a=>by kernel_rfl
def fE (p0:List (Int×Int)) (p1:Int×Int):Option Bool:=(sJ p0 p1).bind fun n0=>some (decide (0<=n0))
def aFY:bO:=⟨aD.cons (aJ.sl iK) (aD.one (aJ.agg (cP.row iK))),aJ.bool,fun a=>fE a.1 a.2,.pure,false⟩
theorem N5:aI tab 138 aFY:=Oc aKZ rfl aG [(213,aWI)] ⟨aNq,trivial⟩ fun a=>by kernel_rfl
def DK (p0:Int×Int×Int) (p1:Int):Option Int:=(fJ p0.1 p1).bind fun n0=>some n0
def aWJ:bO:=⟨aD.cons (aJ.agg (cP.row fK)) (aD.one (aJ.int .i64)),aJ.int .i64,fun a=>DK a.1 a.2,.pure,false⟩
theorem aNr:aI tab 307 aWJ:=Oc aME rfl aG [(232,YW)] ⟨DG,trivial⟩ fun a=>by kernel_rfl
def kJ (s:SJ):Option aFT:=bif decide (s.2.2.2.1<s.2.2.2.2) then (aN s.1 (aA .i64 (iT .u64 (aA .u64 (aA .i64 (s.2.2.2.1+s.2.2.2.2))) 1))).bind fun a0=>(DK a0 s.2.1).bind fun n1=>bif decide (n1<0) then some (.next (s.1,s.2.1,s.2.2.1,aA .i64 ((aA .i64 (iT .u64 (aA .u64 (aA .i64 (s.2.2.2.1+s.2.2.2.2))) 1))+1),s.2.2.2.2)) else some (.next (s.1,s.2.1,s.2.2.1,s.2.2.2.1,aA .i64 (iT .u64 (aA .u64 (aA .i64 (s.2.2.2.1+s.2.2.2.2))) 1))) else bif decide (s.2.2.2.1<s.2.2.1) then (aN s.1 s.2.2.2.1).bind fun a2=>(DK a2 s.2.1).bind fun n3=>some (.done (s.2.2.2.1,n3==0)) else some (.done (s.2.2.2.1,false))
def dP (p0:List (Int×Int×Int)) (p1:Int) (_:Unit):Option (Int×Bool):=aH kJ (p0,p1,bn p0.length,0,bn p0.length)
def Y1:bO:=⟨aD.cons (aJ.sl fK) (aD.cons (aJ.int .i64) (aD.one (aJ.clo 307 aD.nil))),aJ.tup (aD.cons (aJ.int .i64) (aD.one aJ.bool)),fun a=>dP a.1 a.2.1 a.2.2,.pure,false⟩
theorem Y2:aI tab 253 Y1:=Oc VN rfl aG [(307,aWJ)] ⟨aNr,trivial⟩ fun a=>by kernel_rfl
def IX (p0:Field) (p1:Int):Option (Int×Bool):=(dP p0.aa p1 ()).bind fun a0=>some a0
def aWK:bO:=⟨aD.cons (aJ.agg cB) (aD.one (aJ.int .i64)),aJ.tup (aD.cons (aJ.int .i64) (aD.one aJ.bool)),fun a=>IX a.1 a.2,.pure,false⟩
theorem aNs:aI tab 288 aWK:=Oc aMu rfl aG [(253,Y1)] ⟨Y2,trivial⟩ fun a=>by kernel_rfl
def FN (p0:Field) (p1:Int):Option (Int×Int):=(fC p0).bind fun n0=>bif n0 !=0 then some (0,n0) else (IX p0 p1).bind fun a1=>bif !a1.2 then some (0,6) else some (a1.1,0)
def aWL:bO:=⟨aD.cons (aJ.agg cB) (aD.one (aJ.int .i64)),aJ.tup (aD.cons (aJ.int .i64) (aD.one (aJ.int .i64))),fun a=>FN a.1 a.2,.pure,false⟩
theorem aNt:aI tab 240 aWL:=Oc aL7 rfl aG [(122,YS),(288,aWK)] ⟨DF,aNs,trivial⟩ fun a=>by kernel_rfl
def yW (p0:Field) (p1:Int):Option ((Int×Int×Int)×Int):=(FN p0 p1).bind fun a0=>bif a0.2 !=0 then some ((0,0,0),a0.2) else (aN p0.aa a0.1).bind fun a1=>some (a1,0)
def aWM:bO:=⟨aD.cons (aJ.agg cB) (aD.one (aJ.int .i64)),aJ.tup (aD.cons (aJ.agg (cP.row fK)) (aD.one (aJ.int .i64))),fun a=>yW a.1 a.2,.pure,false⟩
theorem aNu:aI tab 178 aWM:=Oc aLq rfl aG [(240,aWL)] ⟨aNt,trivial⟩ fun a=>by kernel_rfl
def yX (p0:aO):Option aO:=(cC p0.au.aa).bind fun l0=>(cC p0.ax.aq).bind fun l1=>(cC p0.az).bind fun l2=>(cC p0.ay.aj).bind fun l3=>(cC p0.ay.am).bind fun l4=>(cC p0.ay.ai.ac).bind fun l5=>(cC p0.ay.ai.ae).bind fun l6=>(cC p0.ay.ai.af).bind fun l7=>some (aO.mk p0.ar (Field.mk l0) (bM.mk p0.ax.ao l1) (aP.mk (bA.mk l5 l6 l7) l3 l4) l2)
def aWN:bO:=⟨aD.one (aJ.agg bY),aJ.agg bY,fun a=>yX a,.own,true⟩
def aPi:bO:=⟨aD.one (aJ.agg bY),aJ.agg bY,fun a=>yX a,.frz,false⟩
theorem aNv:aI tab 180 aWN:=Oc aCI rfl aG [(124,bO.clone fK),(181,bO.clone fK),(182,bO.clone fK),(183,bO.clone lJ),(67,bO.clone ki),(184,bO.clone kb)] ⟨yP,CC,KE,yR,sG,yQ,trivial⟩ fun a=>by kernel_rfl
theorem aFZ:aI tab 180 aPi:=Oc aCI rfl aG [(124,bO.clone fK),(181,bO.clone fK),(182,bO.clone fK),(183,bO.clone lJ),(67,bO.clone ki),(184,bO.clone kb)] ⟨yP,CC,KE,yR,sG,yQ,trivial⟩ fun a=>by kernel_rfl
def wD (p0:Int×Int×Int) (p1:Int):Option Int:=(fJ p0.1 p1).bind fun n0=>some n0
def aWO:bO:=⟨aD.cons (aJ.agg (cP.row fK)) (aD.one (aJ.int .i64)),aJ.int .i64,fun a=>wD a.1 a.2,.pure,false⟩
theorem aNw:aI tab 283 aWO:=Oc aMr rfl aG [(232,YW)] ⟨DG,trivial⟩ fun a=>by kernel_rfl
def aT (s:SJ):Option aFT:=bif decide (s.2.2.2.1<s.2.2.2.2) then (aN s.1 (aA .i64 (iT .u64 (aA .u64 (aA .i64 (s.2.2.2.1+s.2.2.2.2))) 1))).bind fun a0=>(wD a0 s.2.1).bind fun n1=>bif decide (n1<0) then some (.next (s.1,s.2.1,s.2.2.1,aA .i64 ((aA .i64 (iT .u64 (aA .u64 (aA .i64 (s.2.2.2.1+s.2.2.2.2))) 1))+1),s.2.2.2.2)) else some (.next (s.1,s.2.1,s.2.2.1,s.2.2.2.1,aA .i64 (iT .u64 (aA .u64 (aA .i64 (s.2.2.2.1+s.2.2.2.2))) 1))) else bif decide (s.2.2.2.1<s.2.2.1) then (aN s.1 s.2.2.2.1).bind fun a2=>(wD a2 s.2.1).bind fun n3=>some (.done (s.2.2.2.1,n3==0)) else some (.done (s.2.2.2.1,false))
def aS (p0:List (Int×Int×Int)) (p1:Int) (_:Unit):Option (Int×Bool):=aH aT (p0,p1,bn p0.length,0,bn p0.length)
def Y3:bO:=⟨aD.cons (aJ.sl fK) (aD.cons (aJ.int .i64) (aD.one (aJ.clo 283 aD.nil))),aJ.tup (aD.cons (aJ.int .i64) (aD.one aJ.bool)),fun a=>aS a.1 a.2.1 a.2.2,.pure,false⟩
theorem Y4:aI tab 282 Y3:=Oc aMq rfl aG [(283,aWO)] ⟨aNw,trivial⟩ fun a=>by kernel_rfl
def MA (p0:bM) (p1:Int):Option (Int×Int):=(tY p0).bind fun n0=>bif n0 !=0 then some (0,n0) else (aS p0.aq p1 ()).bind fun a1=>bif !a1.2 then some (0,6) else some (a1.1,0)
def aWP:bO:=⟨aD.cons (aJ.agg kO) (aD.one (aJ.int .i64)),aJ.tup (aD.cons (aJ.int .i64) (aD.one (aJ.int .i64))),fun a=>MA a.1 a.2,.pure,false⟩
theorem aNx:aI tab 234 aWP:=Oc aL1 rfl aG [(128,aM9),(282,Y3)] ⟨VV,Y4,trivial⟩ fun a=>by kernel_rfl
def eY (a:aFV):Option (Nat×Nat×cN):=bif (((decide (0<=a.1))&&(decide (a.1<=a.2.1)))&&(decide (a.2.1<=(bn a.2.2.length))))&&(decide ((bn a.2.2.length)<=(bn a.2.2.length))) then bif a.1==a.2.1 then bif a.2.2.length==a.2.2.length then some (a.2.2.length,a.2.2.length,a.2.2) else none else (jS a.2.2 0 a.1).bind fun _=>bif ((decide (0<=a.2.1))&&(decide (a.2.1<=(bn a.2.2.length))))&&(decide ((bn a.2.2.length)<=(bn a.2.2.length))) then bif ((a.2.2.drop (0+a.2.1.toNat)).take (((bn a.2.2.length).toNat) -a.2.1.toNat)).isEmpty then bif ((decide (0<=(bn a.1.toNat)))&&(decide ((bn a.1.toNat)<=(bn a.2.2.length))))&&(decide ((bn a.2.2.length)<=(bn a.2.2.length))) then bif Nat.beq (((bn a.2.2.length).toNat) - ((bn a.1.toNat).toNat)) 0 then bif a.2.2.length==a.2.2.length then some (a.1.toNat,a.2.2.length,a.2.2) else none else bif (bv ((0+((bn a.1.toNat).toNat))+(((bn a.2.2.length).toNat) - ((bn a.1.toNat).toNat))) a.2.2.length)&&(!false) then bif ((jY a.2.2 (0+((bn a.1.toNat).toNat)) (bu (((bn a.2.2.length).toNat) - ((bn a.1.toNat).toNat)) (0,0,0))).length)==a.2.2.length then some (a.1.toNat,a.2.2.length,jY a.2.2 (0+((bn a.1.toNat).toNat)) (bu (((bn a.2.2.length).toNat) - ((bn a.1.toNat).toNat)) (0,0,0))) else none else none else none else bif bv (a.1.toNat+(((a.2.2.drop (0+a.2.1.toNat)).take (((bn a.2.2.length).toNat) -a.2.1.toNat)).length)) a.2.2.length then bif (bv (a.1.toNat+(((a.2.2.drop (0+a.2.1.toNat)).take (((bn a.2.2.length).toNat) -a.2.1.toNat)).length)) a.2.2.length)&&(!false) then bif ((decide (0<=(bn (a.1.toNat+(((a.2.2.drop (0+a.2.1.toNat)).take (((bn a.2.2.length).toNat) -a.2.1.toNat)).length)))))&&(decide ((bn (a.1.toNat+(((a.2.2.drop (0+a.2.1.toNat)).take (((bn a.2.2.length).toNat) -a.2.1.toNat)).length)))<=(bn a.2.2.length))))&&(decide ((bn a.2.2.length)<=(bn a.2.2.length))) then bif Nat.beq (((bn a.2.2.length).toNat) - ((bn (a.1.toNat+(((a.2.2.drop (0+a.2.1.toNat)).take (((bn a.2.2.length).toNat) -a.2.1.toNat)).length))).toNat)) 0 then bif ((jY a.2.2 a.1.toNat ((a.2.2.drop (0+a.2.1.toNat)).take (((bn a.2.2.length).toNat) -a.2.1.toNat))).length)==a.2.2.length then some (a.1.toNat+(((a.2.2.drop (0+a.2.1.toNat)).take (((bn a.2.2.length).toNat) -a.2.1.toNat)).length),a.2.2.length,jY a.2.2 a.1.toNat ((a.2.2.drop (0+a.2.1.toNat)).take (((bn a.2.2.length).toNat) -a.2.1.toNat))) else none else bif (bv ((0+((bn (a.1.toNat+(((a.2.2.drop (0+a.2.1.toNat)).take (((bn a.2.2.length).toNat) -a.2.1.toNat)).length))).toNat))+(((bn a.2.2.length).toNat) - ((bn (a.1.toNat+(((a.2.2.drop (0+a.2.1.toNat)).take (((bn a.2.2.length).toNat) -a.2.1.toNat)).length))).toNat))) ((jY a.2.2 a.1.toNat ((a.2.2.drop (0+a.2.1.toNat)).take (((bn a.2.2.length).toNat) -a.2.1.toNat))).length))&&(!false) then bif ((jY (jY a.2.2 a.1.toNat ((a.2.2.drop (0+a.2.1.toNat)).take (((bn a.2.2.length).toNat) -a.2.1.toNat))) (0+((bn (a.1.toNat+(((a.2.2.drop (0+a.2.1.toNat)).take (((bn a.2.2.length).toNat) -a.2.1.toNat)).length))).toNat)) (bu (((bn a.2.2.length).toNat) - ((bn (a.1.toNat+(((a.2.2.drop (0+a.2.1.toNat)).take (((bn a.2.2.length).toNat) -a.2.1.toNat)).length))).toNat)) (0,0,0))).length)==a.2.2.length then some (a.1.toNat+(((a.2.2.drop (0+a.2.1.toNat)).take (((bn a.2.2.length).toNat) -a.2.1.toNat)).length),a.2.2.length,jY (jY a.2.2 a.1.toNat ((a.2.2.drop (0+a.2.1.toNat)).take (((bn a.2.2.length).toNat) -a.2.1.toNat))) (0+((bn (a.1.toNat+(((a.2.2.drop (0+a.2.1.toNat)).take (((bn a.2.2.length).toNat) -a.2.1.toNat)).length))).toNat)) (bu (((bn a.2.2.length).toNat) - ((bn (a.1.toNat+(((a.2.2.drop (0+a.2.1.toNat)).take (((bn a.2.2.length).toNat) -a.2.1.toNat)).length))).toNat)) (0,0,0))) else none else none else none else none else none else none else none
def aF0:eM:=⟨[.i,.i,.l [.i .i64,.i .i64,.i .i64]],[.own 0 false,.int .i64 0,.int .i64 0],[.arr [.i .i64,.i .i64,.i .i64] []],[.n,.n,.l [.i .i64,.i .i64,.i .i64]],.pre 0 0 0 false,[.arr [.i .i64,.i .i64,.i .i64] []],fun a=>eY a⟩
theorem aEa:kS tab 235 aF0:=kS.of aL2 (wd:=true) (cx:=(lT aG [] [] [] [])) (jT.make trivial trivial trivial) (fun a=>by kernel_rfl)
def AH (p0:bM) (p1:Int):Option (bM×(Int×Int)×Int):=(MA p0 p1).bind fun a0=>bif a0.2 !=0 then some (bM.mk 0 [],(0,0),a0.2) else (cC p0.aq).bind fun l1=>(eY (a0.1,aA .i64 (a0.1+1),l1)).bind fun a2=>(aN p0.aq a0.1).bind fun a3=>some (bM.mk p0.ao (a2.2.2.take a2.1),a3.2,0)
def aWQ:bO:=⟨aD.cons (aJ.agg kO) (aD.one (aJ.int .i64)),aJ.tup (aD.cons (aJ.agg kO) (aD.cons (aJ.agg (cP.row iK)) (aD.one (aJ.int .i64)))),fun a=>AH a.1 a.2,.frz,false⟩
theorem aNy:aI tab 174 aWQ:=aI.of aLm (cx:=(lT aG [(234,aWP),(181,bO.clone fK)] [(235,aF0)] [] [])) rfl (jT.make ⟨aNx,CC,trivial⟩ ⟨aEa,trivial⟩ trivial) (fun a=>by kernel_rfl)
def lK (p0:aO):Option aO:=(cC p0.au.aa).bind fun l0=>(cC p0.ax.aq).bind fun l1=>(cC p0.az).bind fun l2=>(cC p0.ay.aj).bind fun l3=>(cC p0.ay.am).bind fun l4=>(cC p0.ay.ai.ac).bind fun l5=>(cC p0.ay.ai.ae).bind fun l6=>(cC p0.ay.ai.af).bind fun l7=>some (aO.mk p0.ar (Field.mk l0) (bM.mk p0.ax.ao l1) (aP.mk (bA.mk l5 l6 l7) l3 l4) l2)
def aF1:bO:=⟨aD.one (aJ.agg bY),aJ.agg bY,fun a=>lK a,.own,true⟩
def Y5:bO:=⟨aD.one (aJ.agg bY),aJ.agg bY,fun a=>lK a,.frz,false⟩
theorem N6:aI tab 114 aF1:=Oc aCA rfl aG [(124,bO.clone fK),(181,bO.clone fK),(182,bO.clone fK),(183,bO.clone lJ),(67,bO.clone ki),(184,bO.clone kb)] ⟨yP,CC,KE,yR,sG,yQ,trivial⟩ fun a=>by kernel_rfl
theorem KH:aI tab 114 Y5:=Oc aCA rfl aG [(124,bO.clone fK),(181,bO.clone fK),(182,bO.clone fK),(183,bO.clone lJ),(67,bO.clone ki),(184,bO.clone kb)] ⟨yP,CC,KE,yR,sG,yQ,trivial⟩ fun a=>by kernel_rfl
def BE (p0:Int×Int×Int) (p1:Int):Option Int:=(fJ p0.1 p1).bind fun n0=>some n0
def aWR:bO:=⟨aD.cons (aJ.agg (cP.row fK)) (aD.one (aJ.int .i64)),aJ.int .i64,fun a=>BE a.1 a.2,.pure,false⟩
theorem aNz:aI tab 237 aWR:=Oc aL4 rfl aG [(232,YW)] ⟨DG,trivial⟩ fun a=>by kernel_rfl
def kT (s:SJ):Option aFT:=bif decide (s.2.2.2.1<s.2.2.2.2) then (aN s.1 (aA .i64 (iT .u64 (aA .u64 (aA .i64 (s.2.2.2.1+s.2.2.2.2))) 1))).bind fun a0=>(BE a0 s.2.1).bind fun n1=>bif decide (n1<0) then some (.next (s.1,s.2.1,s.2.2.1,aA .i64 ((aA .i64 (iT .u64 (aA .u64 (aA .i64 (s.2.2.2.1+s.2.2.2.2))) 1))+1),s.2.2.2.2)) else some (.next (s.1,s.2.1,s.2.2.1,s.2.2.2.1,aA .i64 (iT .u64 (aA .u64 (aA .i64 (s.2.2.2.1+s.2.2.2.2))) 1))) else bif decide (s.2.2.2.1<s.2.2.1) then (aN s.1 s.2.2.2.1).bind fun a2=>(BE a2 s.2.1).bind fun n3=>some (.done (s.2.2.2.1,n3==0)) else some (.done (s.2.2.2.1,false))
def dS (p0:List (Int×Int×Int)) (p1:Int) (_:Unit):Option (Int×Bool):=aH kT (p0,p1,bn p0.length,0,bn p0.length)
def Y6:bO:=⟨aD.cons (aJ.sl fK) (aD.cons (aJ.int .i64) (aD.one (aJ.clo 237 aD.nil))),aJ.tup (aD.cons (aJ.int .i64) (aD.one aJ.bool)),fun a=>dS a.1 a.2.1 a.2.2,.pure,false⟩
theorem Y7:aI tab 236 Y6:=Oc aL3 rfl aG [(237,aWR)] ⟨aNz,trivial⟩ fun a=>by kernel_rfl
def rN (p0:List (Int×Int×Int)) (p1:Int):Option (Int×Bool):=(dS p0 p1 ()).bind fun a0=>some a0
def aUB:bO:=⟨aD.cons (aJ.sl fK) (aD.one (aJ.int .i64)),aJ.tup (aD.cons (aJ.int .i64) (aD.one aJ.bool)),fun a=>rN a.1 a.2,.pure,false⟩
theorem aCZ:aI tab 175 aUB:=Oc aLn rfl aG [(236,Y6)] ⟨Y7,trivial⟩ fun a=>by kernel_rfl
def FO (p0:bA) (p1:Int×Int):Option (Bool×Int):=(tZ p0).bind fun n0=>bif n0 !=0 then some (false,n0) else bif decide (0<=p1.1) then bif decide (p1.1<(bn p0.ae.length)) then (aN p0.ae p1.1).bind fun b1=>bif b1 then (aN p0.ac p1.1).bind fun n2=>some (n2==p1.2,0) else some (false,0) else some (false,0) else some (false,0)
def aUC:bO:=⟨aD.cons (aJ.agg iZ) (aD.one (aJ.agg (cP.row iK))),aJ.tup (aD.cons aJ.bool (aD.one (aJ.int .i64))),fun a=>FO a.1 a.2,.pure,false⟩
theorem aC0:aI tab 284 aUC:=Oc aMs rfl aG [(195,aNc)] ⟨VW,trivial⟩ fun a=>by kernel_rfl
def sK (p0:aP) (p1:Int×Int):Option (Int×Int):=(lC p0).bind fun n0=>bif n0 !=0 then some (0,n0) else (FO p0.ai p1).bind fun a1=>bif a1.2 !=0 then some (0,6) else bif !a1.1 then some (0,6) else (aN p0.am p1.1).bind fun n2=>some (n2,0)
def aUD:bO:=⟨aD.cons (aJ.agg eB) (aD.one (aJ.agg (cP.row iK))),aJ.tup (aD.cons (aJ.int .i64) (aD.one (aJ.int .i64))),fun a=>sK a.1 a.2,.pure,false⟩
theorem aC1:aI tab 238 aUD:=Oc aL5 rfl aG [(129,aD9),(284,aUC)] ⟨KG,aC0,trivial⟩ fun a=>by kernel_rfl
def xA (p0:List Int) (p1:Int):Option (List Int):=(cC p0).bind fun l0=>(bV l0 [p1]).bind fun l1=>some l1
def aWS:bO:=⟨aD.cons (aJ.sl ki) (aD.one (aJ.int .i64)),aJ.sl ki,fun a=>xA a.1 a.2,.frz,false⟩
theorem aNA:aI tab 305 aWS:=Oc aMD rfl aG [(315,bO.clone ki)] ⟨YQ,trivial⟩ fun a=>by kernel_rfl
def GS (p0:bA) (p1:Int×Int):Option (bA×Int):=(FO p0 p1).bind fun a0=>bif a0.2 !=0 then some (bA.mk [] [] [],a0.2) else bif !a0.1 then some (bA.mk [] [] [],6) else (cC p0.ac).bind fun l1=>(cC p0.ae).bind fun l2=>(xA p0.af p1.1).bind fun l3=>(aN l2 p1.1).bind fun _=>some (bA.mk l1 (cM l2 p1.1 false) l3,0)
def aWT:bO:=⟨aD.cons (aJ.agg iZ) (aD.one (aJ.agg (cP.row iK))),aJ.tup (aD.cons (aJ.agg iZ) (aD.one (aJ.int .i64))),fun a=>GS a.1 a.2,.frz,false⟩
theorem aNB:aI tab 285 aWT:=aI.of aMt (cx:=(lT aG [(284,aUC),(67,bO.clone ki),(184,bO.clone kb),(305,aWS)] [] [(304,aFO)] [])) rfl (jT.make ⟨aC0,sG,yQ,aNA,trivial⟩ trivial ⟨aCM,trivial⟩) (fun a=>by kernel_rfl)
def cI (a:aMM):Option SI:=(aN (a.2.2.2.2.2.2.2.2.2.2.2.1.take a.2.2.2.1) a.2.2.2.2.2.1).bind fun _=>(aN a.2.2.2.2.2.2.2.2.2.2.2.2 a.2.2.2.2.2.2.2.2.2.1).bind fun _=>bif ((cM a.2.2.2.2.2.2.2.2.2.2.2.1 a.2.2.2.2.2.1 (a.2.2.2.2.2.2.1,a.2.2.2.2.2.2.2.1,a.2.2.2.2.2.2.2.2.1,a.2.2.2.2.2.2.2.2.2.1,a.2.2.2.2.2.2.2.2.2.2.1)).length)==a.2.2.2.2.2.2.2.2.2.2.2.1.length then bif ((cM a.2.2.2.2.2.2.2.2.2.2.2.2 a.2.2.2.2.2.2.2.2.2.1 a.2.2.2.2.2.1).length)==a.2.2.2.2.2.2.2.2.2.2.2.2.length then some (cM a.2.2.2.2.2.2.2.2.2.2.2.1 a.2.2.2.2.2.1 (a.2.2.2.2.2.2.1,a.2.2.2.2.2.2.2.1,a.2.2.2.2.2.2.2.2.1,a.2.2.2.2.2.2.2.2.2.1,a.2.2.2.2.2.2.2.2.2.2.1),cM a.2.2.2.2.2.2.2.2.2.2.2.2 a.2.2.2.2.2.2.2.2.2.1 a.2.2.2.2.2.1) else none else none
def aBk:eM:=⟨[.l [.i .i64],.l [.b],.l [.i .i64],.n,.n,.i,.i,.i,.i,.i,.i,.l [.i .i64,.i .i64,.i .i64,.i .i64,.i .i64],.l [.i .i64]],[.agg [.sl [.i .i64] [],.sl [.b] [],.sl [.i .i64] [],.pre 0 0 0 false,.own 1 false],.int .i64 0,.agg [.int .i64 0,.int .i64 0,.int .i64 0,.int .i64 0,.int .i64 0]],[.arr [.i .i64,.i .i64,.i .i64,.i .i64,.i .i64] [],.arr [.i .i64] []],[.l [.i .i64,.i .i64,.i .i64,.i .i64,.i .i64],.l [.i .i64]],.tup [],[.arr [.i .i64,.i .i64,.i .i64,.i .i64,.i .i64] [],.arr [.i .i64] []],fun a=>cI a⟩
theorem TU:kS tab 306 aBk:=kS.of aCN (wd:=false) (cx:=(lT aG [] [] [] [])) (jT.make trivial trivial trivial) (fun a=>by kernel_rfl)
def gR (c0:aMM) (s:aV9):Option (bT aV9 aV3):=match s with |(a,b,d,e,f,g,h,i,j,k,l,m,n,o)=>bif decide (b<(bn i)) then bif decide ((aA .i64 (b+1))<(bn i)) then (aN (d.take i) (aA .i64 (b+1))).bind fun a0=>(aN (d.take i) b).bind fun a1=>(cU a0 a1).bind fun n2=>bif decide (n2<0) then (aN (d.take i) (aA .i64 (b+1))).bind fun a3=>(cU a3 (k,l,m,n,o)).bind fun n4=>bif decide (0<=n4) then (cI (f,g,h,i,j,a,k,l,m,n,o,d,e)).bind fun a5=>bif a5.1.length==c0.2.2.2.2.2.2.2.2.2.2.2.1.length then bif a5.2.length==c0.2.2.2.2.2.2.2.2.2.2.2.2.length then some (.done (.done a5)) else none else none else (aN (d.take i) (aA .i64 (b+1))).bind fun a6=>(cI (f,g,h,i,j,a,a6.1,a6.2.1,a6.2.2.1,a6.2.2.2.1,a6.2.2.2.2,d,e)).bind fun a7=>some (.next (aA .i64 (b+1),aA .i64 ((aA .i64 (2*(aA .i64 (b+1))))+1),a7.1,a7.2,(f,g,h,i,j,k,l,m,n,o))) else (aN (d.take i) b).bind fun a8=>(cU a8 (k,l,m,n,o)).bind fun n9=>bif decide (0<=n9) then (cI (f,g,h,i,j,a,k,l,m,n,o,d,e)).bind fun a10=>bif a10.1.length==c0.2.2.2.2.2.2.2.2.2.2.2.1.length then bif a10.2.length==c0.2.2.2.2.2.2.2.2.2.2.2.2.length then some (.done (.done a10)) else none else none else (aN (d.take i) b).bind fun a11=>(cI (f,g,h,i,j,a,a11.1,a11.2.1,a11.2.2.1,a11.2.2.2.1,a11.2.2.2.2,d,e)).bind fun a12=>some (.next (b,aA .i64 ((aA .i64 (2*b))+1),a12.1,a12.2,(f,g,h,i,j,k,l,m,n,o))) else (aN (d.take i) b).bind fun a13=>(cU a13 (k,l,m,n,o)).bind fun n14=>bif decide (0<=n14) then (cI (f,g,h,i,j,a,k,l,m,n,o,d,e)).bind fun a15=>bif a15.1.length==c0.2.2.2.2.2.2.2.2.2.2.2.1.length then bif a15.2.length==c0.2.2.2.2.2.2.2.2.2.2.2.2.length then some (.done (.done a15)) else none else none else (aN (d.take i) b).bind fun a16=>(cI (f,g,h,i,j,a,a16.1,a16.2.1,a16.2.2.1,a16.2.2.2.1,a16.2.2.2.2,d,e)).bind fun a17=>some (.next (b,aA .i64 ((aA .i64 (2*b))+1),a17.1,a17.2,(f,g,h,i,j,k,l,m,n,o))) else (cI (f,g,h,i,j,a,k,l,m,n,o,d,e)).bind fun a18=>bif a18.1.length==c0.2.2.2.2.2.2.2.2.2.2.2.1.length then bif a18.2.length==c0.2.2.2.2.2.2.2.2.2.2.2.2.length then some (.done (.done a18)) else none else none
def fL (c0:aMM) (s:aV2):Option aV3:=bif decide (0<s.1) then (aN (s.2.1.take s.2.2.2.2.2.2.1) (aA .i64 (bo (aA .i64 (s.1-1)) 2))).bind fun a0=>(cU s.2.2.2.2.2.2.2.2 a0).bind fun n1=>bif decide (n1<0) then (aN (s.2.1.take s.2.2.2.2.2.2.1) (aA .i64 (bo (aA .i64 (s.1-1)) 2))).bind fun a2=>(cI (s.2.2.2.1,s.2.2.2.2.1,s.2.2.2.2.2.1,s.2.2.2.2.2.2.1,s.2.2.2.2.2.2.2.1,s.1,a2.1,a2.2.1,a2.2.2.1,a2.2.2.2.1,a2.2.2.2.2,s.2.1,s.2.2.1)).bind fun a3=>some (.next (aA .i64 (bo (aA .i64 (s.1-1)) 2),a3.1,a3.2,s.2.2.2)) else aH (gR c0) (s.1,aA .i64 ((aA .i64 (2*s.1))+1),s.2) else aH (gR c0) (s.1,aA .i64 ((aA .i64 (2*s.1))+1),s.2)
def lV (a:aMM):Option SI:=aH (fL a) (a.2.2.2.2.2.1,a.2.2.2.2.2.2.2.2.2.2.2.1,a.2.2.2.2.2.2.2.2.2.2.2.2,a.1,a.2.1,a.2.2.1,a.2.2.2.1,a.2.2.2.2.1,a.2.2.2.2.2.2.1,a.2.2.2.2.2.2.2.1,a.2.2.2.2.2.2.2.2.1,a.2.2.2.2.2.2.2.2.2.1,a.2.2.2.2.2.2.2.2.2.2.1)
def V0:eM:=⟨[.l [.i .i64],.l [.b],.l [.i .i64],.n,.n,.i,.i,.i,.i,.i,.i,.l [.i .i64,.i .i64,.i .i64,.i .i64,.i .i64],.l [.i .i64]],[.agg [.sl [.i .i64] [],.sl [.b] [],.sl [.i .i64] [],.pre 0 0 0 false,.own 1 false],.int .i64 0,.agg [.int .i64 0,.int .i64 0,.int .i64 0,.int .i64 0,.int .i64 0]],[.arr [.i .i64,.i .i64,.i .i64,.i .i64,.i .i64] [],.arr [.i .i64] []],[.l [.i .i64,.i .i64,.i .i64,.i .i64,.i .i64],.l [.i .i64]],.tup [],[.arr [.i .i64,.i .i64,.i .i64,.i .i64,.i .i64] [],.arr [.i .i64] []],fun a=>lV a⟩
theorem MB:kS tab 287 V0:=kS.of aCL (wd:=false) (cx:=(lT aG [(196,aNi)] [(306,aBk)] [] [])) (jT.make ⟨VX,trivial⟩ ⟨TU,trivial⟩ trivial) (fun a=>by kernel_rfl)
def vA (p0:aP) (p1:Int):Option (aP×(Int×Int×Int×Int×Int)×Int):=(aN p0.aj p1).bind fun a0=>(GS p0.ai a0.2.2.2).bind fun a1=>bif a1.2 !=0 then some (aP.mk (bA.mk [] [] []) [] [],(0,0,0,0,0),a1.2) else (cC p0.aj).bind fun l2=>(cC p0.am).bind fun l3=>(aN l2 (aA .i64 ((bn l2.length) -1))).bind fun a4=>(jS l2 0 (aA .i64 ((bn l2.length) -1))).bind fun _=>(aN l3 a0.2.2.2.1).bind fun _=>bif decide (p1<(aA .i64 ((bn l2.length) -1))) then (lV (a1.1.ac,a1.1.ae,a1.1.af,(aA .i64 ((bn l2.length) -1)).toNat,l2.length,p1,a4.1,a4.2.1,a4.2.2.1,a4.2.2.2.1,a4.2.2.2.2,l2,cM l3 a0.2.2.2.1 (-1))).bind fun a7=>some (aP.mk a1.1 (a7.1.take ((aA .i64 ((bn l2.length) -1)).toNat)) a7.2,a0,0) else some (aP.mk a1.1 (l2.take ((aA .i64 ((bn l2.length) -1)).toNat)) (cM l3 a0.2.2.2.1 (-1)),a0,0)
def aWU:bO:=⟨aD.cons (aJ.agg eB) (aD.one (aJ.int .i64)),aJ.tup (aD.cons (aJ.agg eB) (aD.cons (aJ.agg (cP.row lJ)) (aD.one (aJ.int .i64)))),fun a=>vA a.1 a.2,.frz,false⟩
theorem aNC:aI tab 239 aWU:=aI.of aL6 (cx:=(lT aG [(285,aWT),(183,bO.clone lJ),(67,bO.clone ki)] [(287,V0)] [(286,aD5)] [])) rfl (jT.make ⟨aNB,yR,sG,trivial⟩ ⟨MB,trivial⟩ ⟨VO,trivial⟩) (fun a=>by kernel_rfl)
def oA (p0:aP) (p1:Int×Int):Option (aP×(Int×Int×Int×Int×Int)×Int):=(sK p0 p1).bind fun a0=>bif a0.2 !=0 then some (aP.mk (bA.mk [] [] []) [] [],(0,0,0,0,0),a0.2) else (vA p0 a0.1).bind fun a1=>some a1
def aUE:bO:=⟨aD.cons (aJ.agg eB) (aD.one (aJ.agg (cP.row iK))),aJ.tup (aD.cons (aJ.agg eB) (aD.cons (aJ.agg (cP.row lJ)) (aD.one (aJ.int .i64)))),fun a=>oA a.1 a.2,.frz,false⟩
theorem aC2:aI tab 176 aUE:=Oc aLo rfl aG [(238,aUD),(239,aWU)] ⟨aC1,aNC,trivial⟩ fun a=>by kernel_rfl
def nJ (a:aFV):Option (Nat×Nat×cN):= eY a
def aF2:eM:=⟨[.i,.i,.l [.i .i64,.i .i64,.i .i64]],[.own 0 false,.int .i64 0,.int .i64 0],[.arr [.i .i64,.i .i64,.i .i64] []],[.n,.n,.l [.i .i64,.i .i64,.i .i64]],.pre 0 0 0 false,[.arr [.i .i64,.i .i64,.i .i64] []],fun a=>nJ a⟩
theorem aEb:kS tab 177 aF2:=kS.of aLp (wd:=true) (cx:=(lT aG [] [] [] [])) (jT.make trivial trivial trivial) (fun a=>by kernel_rfl)
def jG (p0:aO) (p1:Int):Option (aO×(Int×Int)×Int):=(AH p0.ax p1).bind fun a0=>bif a0.2.2 !=0 then some (hG,a0.2) else (lK p0).bind fun r1=>(rN p0.az p1).bind fun a2=>bif a2.2 then (aN p0.az a2.1).bind fun a3=>(oA p0.ay a3.2).bind fun a4=>bif a4.2.2 !=0 then some (hG,a0.2.1,a4.2.2) else (nJ (a2.1,aA .i64 (a2.1+1),r1.az)).bind fun a5=>some (aO.mk r1.ar r1.au a0.1 a4.1 (a5.2.2.take a5.1),a0.2.1,0) else some (aO.mk r1.ar r1.au a0.1 r1.ay r1.az,a0.2.1,0)
def aUF:bO:=⟨aD.cons (aJ.agg bY) (aD.one (aJ.int .i64)),aJ.tup (aD.cons (aJ.agg bY) (aD.cons (aJ.agg (cP.row iK)) (aD.one (aJ.int .i64)))),fun a=>jG a.1 a.2,.frz,false⟩
theorem aC3:aI tab 112 aUF:=aI.of aKM (cx:=(lT aG [(174,aWQ),(114,aF1),(114,Y5),(175,aUB),(176,aUE)] [(177,aF2)] [] [])) rfl (jT.make ⟨aNy,N6,KH,aCZ,aC2,trivial⟩ ⟨aEb,trivial⟩ trivial) (fun a=>by kernel_rfl)
def xT (p0:aO) (p1:Int):Option (aO×Int):=(gZ p0).bind fun n0=>bif n0 !=0 then some (hG,n0) else (jG p0 p1).bind fun a1=>some (a1.1,a1.2.2)
def aWV:bO:=⟨aD.cons (aJ.agg bY) (aD.one (aJ.int .i64)),aJ.tup (aD.cons (aJ.agg bY) (aD.one (aJ.int .i64))),fun a=>xT a.1 a.2,.frz,false⟩
theorem aND:aI tab 241 aWV:=Oc aL8 rfl aG [(65,c65),(112,aUF)] ⟨L9,aC3,trivial⟩ fun a=>by kernel_rfl
def kQ (s:(cN×cN×Int×Int)):Option (bT (cN×cN×Int×Int) Bool):=bif decide (s.2.2.2<s.2.2.1) then (aN s.1 s.2.2.2).bind fun a0=>(aN s.2.1 s.2.2.2).bind fun a1=>bif !((a0.1==a1.1)&&((a0.2.1==a1.2.1)&&(a0.2.2==a1.2.2))) then some (.done false) else some (.next (s.1,s.2.1,s.2.2.1,aA .i64 (s.2.2.2+1))) else some (.done true)
def nK (p0:List (Int×Int×Int)) (p1:List (Int×Int×Int)):Option Bool:=bif (bn p0.length) !=(bn p1.length) then some false else aH kQ (p0,p1,bn p0.length,0)
def aWW:bO:=⟨aD.cons (aJ.sl fK) (aD.one (aJ.sl fK)),aJ.bool,fun a=>nK a.1 a.2,.pure,false⟩
theorem aNE:aI tab 242 aWW:=Oc aL9 rfl aG [] trivial fun a=>by kernel_rfl
def cJ (a:aMN):Option SI:=(aN a.2.2.2.2.2.2.2.2.2.1 a.2.2.2.1).bind fun _=>(aN a.2.2.2.2.2.2.2.2.2.2 a.2.2.2.2.2.2.2.1).bind fun _=>bif ((cM a.2.2.2.2.2.2.2.2.2.1 a.2.2.2.1 (a.2.2.2.2.1,a.2.2.2.2.2.1,a.2.2.2.2.2.2.1,a.2.2.2.2.2.2.2.1,a.2.2.2.2.2.2.2.2.1)).length)==a.2.2.2.2.2.2.2.2.2.1.length then bif ((cM a.2.2.2.2.2.2.2.2.2.2 a.2.2.2.2.2.2.2.1 a.2.2.2.1).length)==a.2.2.2.2.2.2.2.2.2.2.length then some (cM a.2.2.2.2.2.2.2.2.2.1 a.2.2.2.1 (a.2.2.2.2.1,a.2.2.2.2.2.1,a.2.2.2.2.2.2.1,a.2.2.2.2.2.2.2.1,a.2.2.2.2.2.2.2.2.1),cM a.2.2.2.2.2.2.2.2.2.2 a.2.2.2.2.2.2.2.1 a.2.2.2.1) else none else none
def aF3:eM:=⟨[.l [.i .i64],.l [.b],.l [.i .i64],.i,.i,.i,.i,.i,.i,.l [.i .i64,.i .i64,.i .i64,.i .i64,.i .i64],.l [.i .i64]],[.agg [.sl [.i .i64] [],.sl [.b] [],.sl [.i .i64] [],.own 0 false,.own 1 false],.int .i64 0,.agg [.int .i64 0,.int .i64 0,.int .i64 0,.int .i64 0,.int .i64 0]],[.arr [.i .i64,.i .i64,.i .i64,.i .i64,.i .i64] [],.arr [.i .i64] []],[.l [.i .i64,.i .i64,.i .i64,.i .i64,.i .i64],.l [.i .i64]],.tup [],[.arr [.i .i64,.i .i64,.i .i64,.i .i64,.i .i64] [],.arr [.i .i64] []],fun a=>cJ a⟩
theorem aEc:kS tab 306 aF3:=kS.of aCN (wd:=false) (cx:=(lT aG [] [] [] [])) (jT.make trivial trivial trivial) (fun a=>by kernel_rfl)
def gS (c0:aMN) (s:aWa):Option (bT aWa aV5):=match s with |(a,b,d,e,f,g,h,i,j,k,l,m)=>bif decide (b<(bn d.length)) then bif decide ((aA .i64 (b+1))<(bn d.length)) then (aN d (aA .i64 (b+1))).bind fun a0=>(aN d b).bind fun a1=>(cU a0 a1).bind fun n2=>bif decide (n2<0) then (aN d (aA .i64 (b+1))).bind fun a3=>(cU a3 (i,j,k,l,m)).bind fun n4=>bif decide (0<=n4) then (cJ (f,g,h,a,i,j,k,l,m,d,e)).bind fun a5=>bif a5.1.length==c0.2.2.2.2.2.2.2.2.2.1.length then bif a5.2.length==c0.2.2.2.2.2.2.2.2.2.2.length then some (.done (.done a5)) else none else none else (aN d (aA .i64 (b+1))).bind fun a6=>(cJ (f,g,h,a,a6.1,a6.2.1,a6.2.2.1,a6.2.2.2.1,a6.2.2.2.2,d,e)).bind fun a7=>some (.next (aA .i64 (b+1),aA .i64 ((aA .i64 (2*(aA .i64 (b+1))))+1),a7.1,a7.2,(f,g,h,i,j,k,l,m))) else (aN d b).bind fun a8=>(cU a8 (i,j,k,l,m)).bind fun n9=>bif decide (0<=n9) then (cJ (f,g,h,a,i,j,k,l,m,d,e)).bind fun a10=>bif a10.1.length==c0.2.2.2.2.2.2.2.2.2.1.length then bif a10.2.length==c0.2.2.2.2.2.2.2.2.2.2.length then some (.done (.done a10)) else none else none else (aN d b).bind fun a11=>(cJ (f,g,h,a,a11.1,a11.2.1,a11.2.2.1,a11.2.2.2.1,a11.2.2.2.2,d,e)).bind fun a12=>some (.next (b,aA .i64 ((aA .i64 (2*b))+1),a12.1,a12.2,(f,g,h,i,j,k,l,m))) else (aN d b).bind fun a13=>(cU a13 (i,j,k,l,m)).bind fun n14=>bif decide (0<=n14) then (cJ (f,g,h,a,i,j,k,l,m,d,e)).bind fun a15=>bif a15.1.length==c0.2.2.2.2.2.2.2.2.2.1.length then bif a15.2.length==c0.2.2.2.2.2.2.2.2.2.2.length then some (.done (.done a15)) else none else none else (aN d b).bind fun a16=>(cJ (f,g,h,a,a16.1,a16.2.1,a16.2.2.1,a16.2.2.2.1,a16.2.2.2.2,d,e)).bind fun a17=>some (.next (b,aA .i64 ((aA .i64 (2*b))+1),a17.1,a17.2,(f,g,h,i,j,k,l,m))) else (cJ (f,g,h,a,i,j,k,l,m,d,e)).bind fun a18=>bif a18.1.length==c0.2.2.2.2.2.2.2.2.2.1.length then bif a18.2.length==c0.2.2.2.2.2.2.2.2.2.2.length then some (.done (.done a18)) else none else none
def fM (c0:aMN) (s:aV4):Option aV5:=bif decide (0<s.1) then (aN s.2.1 (aA .i64 (bo (aA .i64 (s.1-1)) 2))).bind fun a0=>(cU s.2.2.2.2.2.2 a0).bind fun n1=>bif decide (n1<0) then (aN s.2.1 (aA .i64 (bo (aA .i64 (s.1-1)) 2))).bind fun a2=>(cJ (s.2.2.2.1,s.2.2.2.2.1,s.2.2.2.2.2.1,s.1,a2.1,a2.2.1,a2.2.2.1,a2.2.2.2.1,a2.2.2.2.2,s.2.1,s.2.2.1)).bind fun a3=>some (.next (aA .i64 (bo (aA .i64 (s.1-1)) 2),a3.1,a3.2,s.2.2.2)) else aH (gS c0) (s.1,aA .i64 ((aA .i64 (2*s.1))+1),s.2) else aH (gS c0) (s.1,aA .i64 ((aA .i64 (2*s.1))+1),s.2)
def fT (a:aMN):Option SI:=aH (fM a) (a.2.2.2.1,a.2.2.2.2.2.2.2.2.2.1,a.2.2.2.2.2.2.2.2.2.2,a.1,a.2.1,a.2.2.1,a.2.2.2.2.1,a.2.2.2.2.2.1,a.2.2.2.2.2.2.1,a.2.2.2.2.2.2.2.1,a.2.2.2.2.2.2.2.2.1)
def aBl:eM:=⟨[.l [.i .i64],.l [.b],.l [.i .i64],.i,.i,.i,.i,.i,.i,.l [.i .i64,.i .i64,.i .i64,.i .i64,.i .i64],.l [.i .i64]],[.agg [.sl [.i .i64] [],.sl [.b] [],.sl [.i .i64] [],.own 0 false,.own 1 false],.int .i64 0,.agg [.int .i64 0,.int .i64 0,.int .i64 0,.int .i64 0,.int .i64 0]],[.arr [.i .i64,.i .i64,.i .i64,.i .i64,.i .i64] [],.arr [.i .i64] []],[.l [.i .i64,.i .i64,.i .i64,.i .i64,.i .i64],.l [.i .i64]],.tup [],[.arr [.i .i64,.i .i64,.i .i64,.i .i64,.i .i64] [],.arr [.i .i64] []],fun a=>fT a⟩
theorem TV:kS tab 287 aBl:=kS.of aCL (wd:=false) (cx:=(lT aG [(196,aNi)] [(306,aBk),(306,aF3)] [] [])) (jT.make ⟨VX,trivial⟩ ⟨TU,aEc,trivial⟩ trivial) (fun a=>by kernel_rfl)
def xU (p0:aP) (p1:Int×Int) (p2:Int×Int):Option (aP×Int):=(lC p0).bind fun n0=>(eS p2).bind fun n1=>bif (if n1>n0 then n1 else n0) !=0 then some (aP.mk (bA.mk [] [] []) [] [],if n1>n0 then n1 else n0) else (sK p0 p1).bind fun a2=>bif a2.2 !=0 then some (aP.mk (bA.mk [] [] []) [] [],a2.2) else (cC p0.aj).bind fun l3=>(cC p0.am).bind fun l4=>(aN l3 a2.1).bind fun a5=>(fT (p0.ai.ac,p0.ai.ae,p0.ai.af,a2.1,p2.1,p2.2,a5.2.2.1,a5.2.2.2.1,a5.2.2.2.2,l3,l4)).bind fun a6=>some (aP.mk p0.ai a6.1 a6.2,0)
def aWX:bO:=⟨aD.cons (aJ.agg eB) (aD.cons (aJ.agg (cP.row iK)) (aD.one (aJ.agg (cP.row iK)))),aJ.tup (aD.cons (aJ.agg eB) (aD.one (aJ.int .i64))),fun a=>xU a.1 a.2.1 a.2.2,.frz,false⟩
theorem aNF:aI tab 289 aWX:=aI.of aMv (cx:=(lT aG [(129,aD9),(49,c49),(238,aUD),(183,bO.clone lJ),(67,bO.clone ki)] [(287,V0),(287,aBl)] [(286,aD5)] [])) rfl (jT.make ⟨KG,yS,aC1,yR,sG,trivial⟩ ⟨MB,TV,trivial⟩ ⟨VO,trivial⟩) (fun a=>by kernel_rfl)
def BF (p0:Int×Int×Int×Int×Int) (p1:Int):Option Bool:=some (p0.2.2.1==p1)
def aWY:bO:=⟨aD.cons (aJ.agg (cP.row lJ)) (aD.one (aJ.ref (cP.int .i64))),aJ.bool,fun a=>BF a.1 a.2,.pure,false⟩
theorem aNG:aI tab 309 aWY:=Oc aCO rfl aG [] trivial fun a=>by kernel_rfl
def dH (s:(nH×Int×Int×Int)):Option (bT (nH×Int×Int×Int) Int):=bif decide (s.2.2.2<s.2.2.1) then (aN s.1 s.2.2.2).bind fun a0=>(BF a0 s.2.1).bind fun b1=>bif b1 then some (.done s.2.2.2) else some (.next (s.1,s.2.1,s.2.2.1,aA .i64 (s.2.2.2+1))) else some (.done (-1))
def fN (p0:List (Int×Int×Int×Int×Int)) (p1:Int):Option Int:=aH dH (p0,p1,bn p0.length,0)
def Y8:bO:=⟨aD.cons (aJ.sl lJ) (aD.one (aJ.clo 309 (aD.one (aJ.ref (cP.int .i64))))),aJ.int .i64,fun a=>fN a.1 a.2,.pure,false⟩
theorem Y9:aI tab 316 Y8:=aI.of aMJ (cx:=(lT aG [(309,aWY)] [] [(309,aKp)] [])) rfl (jT.make ⟨aNG,trivial⟩ trivial ⟨aCO,trivial⟩) (fun a=>by kernel_rfl)
def dI (p0:List (Int×Int×Int×Int×Int)) (p1:Int):Option Bool:=(fN p0 p1).bind fun n0=>some (decide (0<=n0))
def ZA:bO:=⟨aD.cons (aJ.sl lJ) (aD.one (aJ.clo 309 (aD.one (aJ.ref (cP.int .i64))))),aJ.bool,fun a=>dI a.1 a.2,.pure,false⟩
theorem ZB:aI tab 308 ZA:=Oc aMF rfl aG [(316,Y8)] ⟨Y9,trivial⟩ fun a=>by kernel_rfl
def yY (p0:List Int):Option ((List Int)×Int):=(jS p0 0 (aA .i64 ((bn p0.length) -1))).bind fun l0=>(cC l0).bind fun l1=>(aN p0 (aA .i64 ((bn p0.length) -1))).bind fun n2=>some (l1,n2)
def aWZ:bO:=⟨aD.one (aJ.sl ki),aJ.tup (aD.cons (aJ.sl ki) (aD.one (aJ.int .i64))),fun a=>yY a,.frz,false⟩
theorem aNH:aI tab 317 aWZ:=Oc aMK rfl aG [(315,bO.clone ki)] ⟨YQ,trivial⟩ fun a=>by kernel_rfl
def GT (p0:bA):Option (bA×(Int×Int)×Int):=(tZ p0).bind fun n0=>bif n0 !=0 then some (bA.mk [] [] [],(0,0),n0) else bif (bn p0.af.length)==0 then some (bA.mk [] [] [],(0,0),18) else (yY p0.af).bind fun a1=>(aN p0.ac a1.2).bind fun n2=>bif n2==1000000 then some (bA.mk [] [] [],(0,0),18) else (cC p0.ac).bind fun l3=>(cC p0.ae).bind fun l4=>(aN l4 a1.2).bind fun _=>(aN l3 a1.2).bind fun n6=>(aN l3 a1.2).bind fun _=>(aN (cM l3 a1.2 (aA .i64 (n6+1))) a1.2).bind fun n8=>some (bA.mk (cM l3 a1.2 (aA .i64 (n6+1))) (cM l4 a1.2 true) a1.1,(a1.2,n8),0)
def aW0:bO:=⟨aD.one (aJ.agg iZ),aJ.tup (aD.cons (aJ.agg iZ) (aD.cons (aJ.agg (cP.row iK)) (aD.one (aJ.int .i64)))),fun a=>GT a,.frz,false⟩
theorem aNI:aI tab 310 aW0:=aI.of aMG (cx:=(lT aG [(195,aNc),(317,aWZ),(67,bO.clone ki),(184,bO.clone kb)] [] [(304,aFO)] [])) rfl (jT.make ⟨VW,aNH,sG,yQ,trivial⟩ trivial ⟨aCM,trivial⟩) (fun a=>by kernel_rfl)
def mZ (p0:aP) (p1:Int×Int) (p2:Int):Option (aP×(Int×Int)×Int):=(lC p0).bind fun n0=>(eS p1).bind fun n1=>bif (if n1>n0 then n1 else n0) !=0 then some (aP.mk (bA.mk [] [] []) [] [],(0,0),if n1>n0 then n1 else n0) else bif decide (p2<0) then some (aP.mk (bA.mk [] [] []) [] [],(0,0),2) else bif decide (1000000<p2) then some (aP.mk (bA.mk [] [] []) [] [],(0,0),2) else (dI p0.aj p2).bind fun b2=>bif b2 then some (aP.mk (bA.mk [] [] []) [] [],(0,0),14) else (GT p0.ai).bind fun a3=>bif a3.2.2 !=0 then some (aP.mk (bA.mk [] [] []) [] [],(0,0),a3.2.2) else (cC p0.aj).bind fun l4=>(cC p0.am).bind fun l5=>(bV l4 [(p1.1,p1.2,p2,a3.2.1)]).bind fun l6=>(fT (a3.1.ac,a3.1.ae,a3.1.af,aA .i64 ((bn l6.length) -1),p1.1,p1.2,p2,a3.2.1.1,a3.2.1.2,l6,l5)).bind fun a7=>some (aP.mk a3.1 a7.1 a7.2,a3.2.1,0)
def aUG:bO:=⟨aD.cons (aJ.agg eB) (aD.cons (aJ.agg (cP.row iK)) (aD.one (aJ.int .i64))),aJ.tup (aD.cons (aJ.agg eB) (aD.cons (aJ.agg (cP.row iK)) (aD.one (aJ.int .i64)))),fun a=>mZ a.1 a.2.1 a.2.2,.frz,false⟩
theorem aC4:aI tab 290 aUG:=aI.of aMw (cx:=(lT aG [(129,aD9),(49,c49),(308,ZA),(310,aW0),(183,bO.clone lJ),(67,bO.clone ki)] [(287,V0),(287,aBl)] [(286,aD5)] [])) rfl (jT.make ⟨KG,yS,ZB,aNI,yR,sG,trivial⟩ ⟨MB,TV,trivial⟩ ⟨VO,trivial⟩) (fun a=>by kernel_rfl)
def eC (s:Zt3):Option (bT Zt3 Zt6):=match s with |(a,b,d,e,f,g,h,i,j,k,l,m,n,o,q,r,t,u,v,w,x,y,z,A,B,C,D,E,F)=>bif decide (d<b) then (aN a d).bind fun a0=>(uB (Field.mk q) a0.2 (e,f)).bind fun a1=>(rN o a0.1).bind fun a2=>bif a1.2.1 then bif a2.2 then (aN o a2.1).bind fun a3=>(xU (aP.mk (bA.mk z A B) C D) a3.2 a1.1).bind fun a4=>(aN o a2.1).bind fun a5=>(bV F [a5]).bind fun l6=>bif a4.2 !=0 then some (.done (.done (hG,a4.2))) else some (.next (a,b,aA .i64 (d+1),e,f,g,h,i,j,k,l,m,n,o,q,r,t,u,v,w,x,y,a4.1.ai.ac,a4.1.ai.ae,a4.1.ai.af,a4.1.aj,a4.1.am,E,l6)) else bif a1.2.1 then (mZ (aP.mk (bA.mk z A B) C D) a1.1 a0.1).bind fun a7=>(bV F [(a0.1,a7.2.1)]).bind fun l8=>bif a7.2.2 !=0 then some (.done (.done (hG,a7.2.2))) else some (.next (a,b,aA .i64 (d+1),e,f,g,h,i,j,k,l,m,n,o,q,r,t,u,v,w,x,y,a7.1.ai.ac,a7.1.ai.ae,a7.1.ai.af,a7.1.aj,a7.1.am,E,l8)) else bif a2.2 then (aN o a2.1).bind fun a9=>(oA (aP.mk (bA.mk z A B) C D) a9.2).bind fun a10=>bif a10.2.2 !=0 then some (.done (.done (hG,a10.2.2))) else some (.next (a,b,aA .i64 (d+1),e,f,g,h,i,j,k,l,m,n,o,q,r,t,u,v,w,x,y,a10.1.ai.ac,a10.1.ai.ae,a10.1.ai.af,a10.1.aj,a10.1.am,(E,F))) else bif a1.2.2 !=0 then some (.done (.done (hG,a1.2.2))) else some (.next (a,b,aA .i64 (d+1),(e,f,g,h,i,j,k,l,m,n,o,q,r,t,u,v,w,x,y,z,A,B,C,D,E,F))) else bif a1.2.1 then (mZ (aP.mk (bA.mk z A B) C D) a1.1 a0.1).bind fun a11=>(bV F [(a0.1,a11.2.1)]).bind fun l12=>bif a11.2.2 !=0 then some (.done (.done (hG,a11.2.2))) else some (.next (a,b,aA .i64 (d+1),e,f,g,h,i,j,k,l,m,n,o,q,r,t,u,v,w,x,y,a11.1.ai.ac,a11.1.ai.ae,a11.1.ai.af,a11.1.aj,a11.1.am,E,l12)) else bif a2.2 then (aN o a2.1).bind fun a13=>(oA (aP.mk (bA.mk z A B) C D) a13.2).bind fun a14=>bif a14.2.2 !=0 then some (.done (.done (hG,a14.2.2))) else some (.next (a,b,aA .i64 (d+1),e,f,g,h,i,j,k,l,m,n,o,q,r,t,u,v,w,x,y,a14.1.ai.ac,a14.1.ai.ae,a14.1.ai.af,a14.1.aj,a14.1.am,(E,F))) else bif a1.2.2 !=0 then some (.done (.done (hG,a1.2.2))) else some (.next (a,b,aA .i64 (d+1),(e,f,g,h,i,j,k,l,m,n,o,q,r,t,u,v,w,x,y,z,A,B,C,D,E,F))) else some (.done (.done (aO.mk (v,w) (Field.mk E) (bM.mk x y) (aP.mk (bA.mk z A B) C D) F,0)))
def mG (s:aVY):Option Zt6:=match s with |(a,b,d,e,f,g,h,i,j,k,l,m,n,o,q,r,t,u)=>bif decide (d<b) then (aN a d).bind fun a0=>(lD (Field.mk q) a0.2.1).bind fun a1=>bif decide (a1.1<0) then some (.done (hG,6)) else (lD (Field.mk q) a0.2.2).bind fun a2=>bif decide (a2.1<0) then some (.done (hG,6)) else some (.next (a,b,aA .i64 (d+1),(e,f,g,h,i,j,k,l,m,n,o,q,r,t,u))) else (lK (aO.mk (e,f) (Field.mk g) (bM.mk h i) (aP.mk (bA.mk j k l) m n) o)).bind fun r3=>(cC q).bind fun l4=>aH eC (i,bn i.length,0,e,f,g,h,i,j,k,l,m,n,o,q,r,t,u,r3.ar.1,r3.ar.2,r3.ax.ao,r3.ax.aq,r3.ay.ai.ac,r3.ay.ai.ae,r3.ay.ai.af,r3.ay.aj,r3.ay.am,l4,[])
def rO (p0:aO) (p1:Field):Option (aO×Int):=(gZ p0).bind fun n0=>bif n0 !=0 then some (hG,n0) else (fC p1).bind fun n1=>bif n1 !=0 then some (hG,n1) else aH mG (p0.ax.aq,bn p0.ax.aq.length,0,p0.ar.1,p0.ar.2,p0.au.aa,p0.ax.ao,p0.ax.aq,p0.ay.ai.ac,p0.ay.ai.ae,p0.ay.ai.af,p0.ay.aj,p0.ay.am,p0.az,p1.aa,0,0,0)
def aW1:bO:=⟨aD.cons (aJ.agg bY) (aD.one (aJ.agg cB)),aJ.tup (aD.cons (aJ.agg bY) (aD.one (aJ.int .i64))),fun a=>rO a.1 a.2,.frz,false⟩
theorem aNJ:aI tab 243 aW1:=Oc aMa rfl aG [(65,c65),(122,YS),(198,aNk),(114,aF1),(114,Y5),(124,bO.clone fK),(130,aNp),(175,aUB),(289,aWX),(290,aUG),(176,aUE)] ⟨L9,DF,VY,N6,KH,yP,VZ,aCZ,aNF,aC4,aC2,trivial⟩ fun a=>by kernel_rfl
def HO (p0:Int×Int×Int) (p1:Int×Int):Option Bool:=some ((p0.2.1==p1.1)&&(p0.2.2==p1.2))
def aW2:bO:=⟨aD.cons (aJ.agg (cP.row fK)) (aD.one (aJ.ref (cP.row iK))),aJ.bool,fun a=>HO a.1 a.2,.pure,false⟩
theorem aNK:aI tab 244 aW2:=Oc aCK rfl aG [] trivial fun a=>by kernel_rfl
def oI (s:SJ):Option (bT SJ Int):=bif decide (s.2.2.2.2<s.2.2.2.1) then (aN s.1 s.2.2.2.2).bind fun a0=>(HO a0 (s.2.1,s.2.2.1)).bind fun b1=>bif b1 then some (.done s.2.2.2.2) else some (.next (s.1,s.2.1,s.2.2.1,s.2.2.2.1,aA .i64 (s.2.2.2.2+1))) else some (.done (-1))
def jN (p0:List (Int×Int×Int)) (p1:(Int×Int)):Option Int:=aH oI (p0,p1.1,p1.2,bn p0.length,0)
def ZC:bO:=⟨aD.cons (aJ.sl fK) (aD.one (aJ.clo 244 (aD.one (aJ.ref (cP.row iK))))),aJ.int .i64,fun a=>jN a.1 a.2,.pure,false⟩
theorem ZD:aI tab 214 ZC:=aI.of VM (cx:=(lT aG [(244,aW2)] [] [(244,aJA)] [])) rfl (jT.make ⟨aNK,trivial⟩ trivial ⟨aCK,trivial⟩) (fun a=>by kernel_rfl)
def eX (p0:List (Int×Int×Int)) (p1:(Int×Int)):Option Bool:=(jN p0 p1).bind fun n0=>some (decide (0<=n0))
def ZE:bO:=⟨aD.cons (aJ.sl fK) (aD.one (aJ.clo 244 (aD.one (aJ.ref (cP.row iK))))),aJ.bool,fun a=>eX a.1 a.2,.pure,false⟩
theorem ZF:aI tab 139 ZE:=Oc VI rfl aG [(214,ZC)] ⟨ZD,trivial⟩ fun a=>by kernel_rfl
def eA (p0:Int):Option (aO×Int×Int):=some (hG,0,p0)
def aW3:bO:=⟨aD.one (aJ.int .i64),aJ.tup (aD.cons (aJ.agg bY) (aD.cons (aJ.int .i64) (aD.one (aJ.int .i64)))),fun a=>eA a,.frz,false⟩
theorem aNL:aI tab 291 aW3:=Oc aMx rfl aG [] trivial fun a=>by kernel_rfl
def IY (p0:Int×Int×Int) (p1:Int×Int):Option Bool:=some ((p0.2.1==p1.1)&&(p0.2.2==p1.2))
def aW4:bO:=⟨aD.cons (aJ.agg (cP.row fK)) (aD.one (aJ.ref (cP.row iK))),aJ.bool,fun a=>IY a.1 a.2,.pure,false⟩
theorem aNM:aI tab 311 aW4:=Oc aCP rfl aG [] trivial fun a=>by kernel_rfl
def dZ (s:SJ):Option (bT SJ Int):=bif decide (s.2.2.2.2<s.2.2.2.1) then (aN s.1 s.2.2.2.2).bind fun a0=>(IY a0 (s.2.1,s.2.2.1)).bind fun b1=>bif b1 then some (.done s.2.2.2.2) else some (.next (s.1,s.2.1,s.2.2.1,s.2.2.2.1,aA .i64 (s.2.2.2.2+1))) else some (.done (-1))
def gI (p0:List (Int×Int×Int)) (p1:(Int×Int)):Option Int:=aH dZ (p0,p1.1,p1.2,bn p0.length,0)
def ZG:bO:=⟨aD.cons (aJ.sl fK) (aD.one (aJ.clo 311 (aD.one (aJ.ref (cP.row iK))))),aJ.int .i64,fun a=>gI a.1 a.2,.pure,false⟩
theorem ZH:aI tab 214 ZG:=aI.of VM (cx:=(lT aG [(311,aW4)] [] [(311,aKs)] [])) rfl (jT.make ⟨aNM,trivial⟩ trivial ⟨aCP,trivial⟩) (fun a=>by kernel_rfl)
def cV (p0:List (Int×Int×Int)) (p1:(Int×Int)):Option Bool:=(gI p0 p1).bind fun n0=>some (decide (0<=n0))
def ZI:bO:=⟨aD.cons (aJ.sl fK) (aD.one (aJ.clo 311 (aD.one (aJ.ref (cP.row iK))))),aJ.bool,fun a=>cV a.1 a.2,.pure,false⟩
theorem ZJ:aI tab 139 ZI:=Oc VI rfl aG [(214,ZG)] ⟨ZH,trivial⟩ fun a=>by kernel_rfl
def KI (p0:bM) (p1:Int×Int):Option (bM×Int×Int):=(tY p0).bind fun n0=>bif n0 !=0 then some (bM.mk 0 [],0,n0) else (yV p1).bind fun b1=>bif !b1 then some (bM.mk 0 [],0,8) else (cV p0.aq p1).bind fun b2=>bif b2 then some (bM.mk 0 [],0,14) else bif (bn p0.aq.length)==200 then some (bM.mk 0 [],0,18) else bif p0.ao==1000000 then some (bM.mk 0 [],0,18) else (cC p0.aq).bind fun l3=>(bV l3 [(p0.ao,p1)]).bind fun l4=>some (bM.mk (aA .i64 (p0.ao+1)) l4,p0.ao,0)
def aW5:bO:=⟨aD.cons (aJ.agg kO) (aD.one (aJ.agg (cP.row iK))),aJ.tup (aD.cons (aJ.agg kO) (aD.cons (aJ.int .i64) (aD.one (aJ.int .i64)))),fun a=>KI a.1 a.2,.frz,false⟩
theorem aNN:aI tab 292 aW5:=Oc aMy rfl aG [(128,aM9),(194,aUz),(139,ZI),(181,bO.clone fK)] ⟨VV,aCY,ZJ,CC,trivial⟩ fun a=>by kernel_rfl
def jW (p0:aO) (p1:Int×Int):Option (aO×Int×Int):=(gZ p0).bind fun n0=>bif n0 !=0 then (eA n0).bind fun a1=>some a1 else (KI p0.ax p1).bind fun a2=>bif a2.2.2==8 then (eA a2.2.2).bind fun a3=>some a3 else (lD p0.au p1.1).bind fun a4=>bif decide (a4.1<0) then (eA 6).bind fun a5=>some a5 else (lD p0.au p1.2).bind fun a6=>bif decide (a6.1<0) then (eA 6).bind fun a7=>some a7 else bif a2.2.2 !=0 then (eA a2.2.2).bind fun a8=>some a8 else (lK p0).bind fun r9=>(uB p0.au p1 p0.ar).bind fun a10=>bif a10.2.2 !=0 then (eA a10.2.2).bind fun a11=>some a11 else bif a10.2.1 then (mZ p0.ay a10.1 a2.2.1).bind fun a12=>bif a12.2.2 !=0 then (eA a12.2.2).bind fun a13=>some a13 else (bV r9.az [(a2.2.1,a12.2.1)]).bind fun l14=>some (aO.mk r9.ar r9.au a2.1 a12.1 l14,a2.2.1,0) else some (aO.mk r9.ar r9.au a2.1 r9.ay r9.az,a2.2.1,0)
def aW6:bO:=⟨aD.cons (aJ.agg bY) (aD.one (aJ.agg (cP.row iK))),aJ.tup (aD.cons (aJ.agg bY) (aD.cons (aJ.int .i64) (aD.one (aJ.int .i64)))),fun a=>jW a.1 a.2,.frz,false⟩
theorem aNO:aI tab 245 aW6:=Oc aMb rfl aG [(65,c65),(291,aW3),(292,aW5),(198,aNk),(114,aF1),(114,Y5),(130,aNp),(290,aUG)] ⟨L9,aNL,aNN,VY,N6,KH,VZ,aC4,trivial⟩ fun a=>by kernel_rfl
def cW (s:Zt9):Option (bT Zt9 Zt5):=match s with |(a,b,d,e,f,g,h,i,j,k,l,m,n,o,q,r,t)=>bif decide (d<b) then (aN a d).bind fun a0=>(eX i a0).bind fun b1=>bif b1 then some (.next (a,b,aA .i64 (d+1),(e,f,g,h,i,j,k,l,m,n,o,q,r,t))) else (jW (aO.mk (e,f) (Field.mk g) (bM.mk h i) (aP.mk (bA.mk j k l) m n) o) a0).bind fun a2=>bif a2.2.2 !=0 then some (.done (.done (hG,a2.2.2))) else some (.next (a,b,aA .i64 (d+1),a2.1.ar.1,a2.1.ar.2,a2.1.au.aa,a2.1.ax.ao,a2.1.ax.aq,a2.1.ay.ai.ac,a2.1.ay.ai.ae,a2.1.ay.ai.af,a2.1.ay.aj,a2.1.ay.am,a2.1.az,(q,r,t))) else some (.done (.done (aO.mk (e,f) (Field.mk g) (bM.mk h i) (aP.mk (bA.mk j k l) m n) o,0)))
def cH (s:aVX):Option Zt5:=match s with |(a,b,d,e,f,g,h,i,j,k,l,m,n,o,q,r,t,u,v)=>bif decide (e<d) then (aN b e).bind fun a0=>(fE a a0.2).bind fun b1=>bif !b1 then (xT (aO.mk (f,g) (Field.mk h) (bM.mk i j) (aP.mk (bA.mk k l m) n o) q) a0.1).bind fun a2=>some (.next (a,b,d,aA .i64 (e+1),a2.1.ar.1,a2.1.ar.2,a2.1.au.aa,a2.1.ax.ao,a2.1.ax.aq,a2.1.ay.ai.ac,a2.1.ay.ai.ae,a2.1.ay.ai.af,a2.1.ay.aj,a2.1.ay.am,a2.1.az,(r,t,u,v))) else some (.next (a,b,d,aA .i64 (e+1),(f,g,h,i,j,k,l,m,n,o,q,r,t,u,v))) else (nK h r).bind fun b3=>bif !b3 then (rO (aO.mk (f,g) (Field.mk h) (bM.mk i j) (aP.mk (bA.mk k l m) n o) q) (Field.mk r)).bind fun a4=>bif a4.2 !=0 then some (.done (hG,a4.2)) else aH cW (a,bn a.length,0,a4.1.ar.1,a4.1.ar.2,a4.1.au.aa,a4.1.ax.ao,a4.1.ax.aq,a4.1.ay.ai.ac,a4.1.ay.ai.ae,a4.1.ay.ai.af,a4.1.ay.aj,a4.1.ay.am,a4.1.az,(t,u,v)) else aH cW (a,bn a.length,0,f,g,h,i,j,k,l,m,n,o,q,(t,u,v))
def oU (p0:aO) (p1:Field) (p2:List (Int×Int)):Option (aO×Int):=aH cH (p2,p0.ax.aq,bn p0.ax.aq.length,0,p0.ar.1,p0.ar.2,p0.au.aa,p0.ax.ao,p0.ax.aq,p0.ay.ai.ac,p0.ay.ai.ae,p0.ay.ai.af,p0.ay.aj,p0.ay.am,p0.az,p1.aa,0,0,0)
def aW7:bO:=⟨aD.cons (aJ.agg bY) (aD.cons (aJ.agg cB) (aD.one (aJ.sl iK))),aJ.tup (aD.cons (aJ.agg bY) (aD.one (aJ.int .i64))),fun a=>oU a.1 a.2.1 a.2.2,.frz,false⟩
theorem aNP:aI tab 179 aW7:=Oc aLr rfl aG [(138,aFY),(241,aWV),(242,aWW),(243,aW1),(139,ZE),(245,aW6)] ⟨N5,aND,aNE,aNJ,ZF,aNO,trivial⟩ fun a=>by kernel_rfl
def fX (s:aD7):Option (bT aD7 Zt1):=match s with |(a,b,d,e,f,g,h,i,j,k,l,m,n,o,q,r,t,u,v)=>bif decide (e<d) then (aN b e).bind fun a0=>(yW (Field.mk r) a0.1).bind fun a1=>(yW (Field.mk r) a0.2).bind fun a2=>bif a1.2 !=0 then some (.done (.done (.done (hG,6)))) else bif a2.2 !=0 then some (.done (.done (.done (hG,6)))) else some (.next (a,b,d,aA .i64 (e+1),(f,g,h,i,j,k,l,m,n,o,q,r,t,u,v))) else (yX (aO.mk (f,g) (Field.mk h) (bM.mk i j) (aP.mk (bA.mk k l m) n o) q)).bind fun r3=>(oU r3 (Field.mk r) a).bind fun a4=>some (.done (.done (.done a4)))
def fF (s:aD7):Option Zt1:=bif decide (s.2.2.2.1<s.2.2.1) then (aN s.2.1 s.2.2.2.1).bind fun a0=>(jS s.1 0 s.2.2.2.1).bind fun l1=>(fE l1 a0).bind fun b2=>bif b2 then some (.done (.done (hG,14))) else some (.next (s.1,s.2.1,s.2.2.1,aA .i64 (s.2.2.2.1+1),s.2.2.2.2)) else aH fX (s.1,s.1,bn s.1.length,0,s.2.2.2.2)
def fG (s:aD7):Option aVW:=bif decide (s.2.2.2.1<s.2.2.1) then (aN s.2.1 s.2.2.2.1).bind fun a0=>bif decide (a0.1<0) then some (.done (hG,8)) else bif decide (a0.2<0) then some (.done (hG,8)) else bif decide (65535<a0.1) then some (.done (hG,8)) else bif decide (65535<a0.2) then some (.done (hG,8)) else bif a0.1==a0.2 then some (.done (hG,8)) else some (.next (s.1,s.2.1,s.2.2.1,aA .i64 (s.2.2.2.1+1),s.2.2.2.2)) else aH fF (s.1,s.1,bn s.1.length,0,s.2.2.2.2)
def oV (p0:aO) (p1:Field) (p2:List (Int×Int)):Option (aO×Int):=(gZ p0).bind fun n0=>bif n0 !=0 then some (hG,n0) else (fC p1).bind fun n1=>bif n1 !=0 then some (hG,n1) else aH fG (p2,p2,bn p2.length,0,p0.ar.1,p0.ar.2,p0.au.aa,p0.ax.ao,p0.ax.aq,p0.ay.ai.ac,p0.ay.ai.ae,p0.ay.ai.af,p0.ay.aj,p0.ay.am,p0.az,p1.aa,0,0,0)
def aW8:bO:=⟨aD.cons (aJ.agg bY) (aD.cons (aJ.agg cB) (aD.one (aJ.sl iK))),aJ.tup (aD.cons (aJ.agg bY) (aD.one (aJ.int .i64))),fun a=>oV a.1 a.2.1 a.2.2,.frz,false⟩
theorem aNQ:aI tab 113 aW8:=Oc aKN rfl aG [(65,c65),(122,YS),(138,aFY),(178,aWM),(180,aWN),(180,aPi),(179,aW7)] ⟨L9,DF,N5,aNu,aNv,aFZ,aNP,trivial⟩ fun a=>by kernel_rfl
def gT (p0:aO) (p1:Field) (p2:List Int):Option (bX×Int):=(iL p1 p0.ar p2).bind fun a0=>(oV p0 p1 a0.2).bind fun a1=>bif a1.2 !=0 then some (bX.mk hG (bJ.mk [] []),a1.2) else some (bX.mk a1.1 a0.1,0)
def c52:bO:=⟨aD.cons (aJ.agg bY) (aD.cons (aJ.agg cB) (aD.one (aJ.sl ki))),aJ.tup (aD.cons (aJ.agg vZ) (aD.one (aJ.int .i64))),fun a=>gT a.1 a.2.1 a.2.2,.frz,false⟩
theorem aF4:aI tab 52 c52:=Oc aTE rfl aG [(54,c54),(113,aW8)] ⟨aBi,aNQ,trivial⟩ fun a=>by kernel_rfl
def KJ (p0:Field) (p1:Int×Int):Option (bX×Int):=(TS p0 p1).bind fun a0=>bif a0.2 !=0 then some (bX.mk hG (bJ.mk [] []),a0.2) else (KF p0).bind fun l1=>(gT a0.1 p0 l1).bind fun a2=>some a2
def c17:bO:=⟨aD.cons (aJ.agg cB) (aD.one (aJ.agg (cP.row iK))),aJ.tup (aD.cons (aJ.agg vZ) (aD.one (aJ.int .i64))),fun a=>KJ a.1 a.2,.frz,false⟩
theorem aUH:aI tab 17 c17:=Oc aTi rfl aG [(59,c59),(60,c60),(52,c52)] ⟨aUt,aUu,aF4,trivial⟩ fun a=>by kernel_rfl
def xB (p0:Int):Option Bool:=bif decide ((-1)<=p0) then some (decide (p0<=65535)) else some false
def aW9:bO:=⟨aD.one (aJ.int .i64),aJ.bool,fun a=>xB a,.pure,false⟩
theorem aNR:aI tab 133 aW9:=Oc aKX rfl aG [] trivial fun a=>by kernel_rfl
def kC (s:((List Int)×Int×Int×(List Int)×(List Int))):Option (bT ((List Int)×Int×Int×(List Int)×(List Int)) aV7):=bif decide (s.2.2.1<s.2.1) then (aN s.1 s.2.2.1).bind fun n0=>(gQ (bJ.mk s.2.2.2.1 s.2.2.2.2) (aA .i64 ((aA .i64 (2*s.2.2.1))+1))).bind fun n1=>(gQ (bJ.mk s.2.2.2.1 s.2.2.2.2) (aA .i64 ((aA .i64 (2*s.2.2.1))+2))).bind fun n2=>bif n0 !=n1 then bif n0 !=n2 then some (.done (.done (.done 8))) else bif decide (n0<0) then bif decide (0<=(if n2>n1 then n2 else n1)) then some (.done (.done (.done 8))) else some (.next (s.1,s.2.1,aA .i64 (s.2.2.1+1),s.2.2.2)) else some (.next (s.1,s.2.1,aA .i64 (s.2.2.1+1),s.2.2.2)) else bif decide (n0<0) then bif decide (0<=(if n2>n1 then n2 else n1)) then some (.done (.done (.done 8))) else some (.next (s.1,s.2.1,aA .i64 (s.2.2.1+1),s.2.2.2)) else some (.next (s.1,s.2.1,aA .i64 (s.2.2.1+1),s.2.2.2)) else some (.done (.done (.done 0)))
def kD (s:aML):Option aV7:=bif decide (s.2.2.1<s.2.1) then (aN s.1 s.2.2.1).bind fun n0=>(xB n0).bind fun b1=>bif !b1 then bif !(!(decide (0<=s.2.2.1))) then some (.done (.done 8)) else aH kC (s.2.2.2.2.1,bn s.2.2.2.2.1.length,0,s.2.2.2.1,s.2.2.2.2.1) else some (.next (s.1,s.2.1,aA .i64 (s.2.2.1+1),s.2.2.2)) else aH kC (s.2.2.2.2.1,bn s.2.2.2.2.1.length,0,s.2.2.2.1,s.2.2.2.2.1)
def pP (s:aML):Option aV6:=bif decide (s.2.2.1<s.2.1) then (aN s.1 s.2.2.1).bind fun n0=>bif !(!(vV false s.2.2.2.2.2 n0)) then bif !(!(decide (0<=s.2.2.1))) then some (.done 8) else aH kD (s.2.2.2.1,bn s.2.2.2.1.length,0,s.2.2.2.1,s.2.2.2.2.1,tK s.2.2.2.2.2 n0 (decide (0<=n0))) else some (.next (s.1,s.2.1,aA .i64 (s.2.2.1+1),s.2.2.2.1,s.2.2.2.2.1,tK s.2.2.2.2.2 n0 (decide (0<=n0)))) else aH kD (s.2.2.2.1,bn s.2.2.2.1.length,0,s.2.2.2)
def lL (p0:bJ):Option Int:=bif decide ((bn p0.ba.length)<1) then some 8 else bif decide (64<(bn p0.ba.length)) then some 8 else bif (bn p0.be.length) !=(aA .i64 ((bn p0.ba.length) -1)) then some 8 else aH pP (p0.ba,bn p0.ba.length,0,p0.ba,p0.be,tK [] (-1) false)
def c66:bO:=⟨aD.one (aJ.agg hM),aJ.int .i64,fun a=>lL a,.pure,false⟩
theorem aF5:aI tab 66 c66:=aI.of aTN (cx:=(lT aG [(133,aW9),(126,aM1)] [] [(131,aFL),(132,aD3),(200,aBh),(134,YP),(201,aD4),(199,aFN)] [])) rfl (jT.make ⟨aNR,VS,trivial⟩ trivial ⟨aCD,VH,N4,KD,VL,aCJ,trivial⟩) (fun a=>by kernel_rfl)
def yZ (p0:Int) (p1:Int×Int×Int):Option Bool:=some (p0==p1.1)
def c72:bO:=⟨aD.cons (aJ.int .i64) (aD.one (aJ.agg (cP.row fK))),aJ.bool,fun a=>yZ a.1 a.2,.pure,false⟩
theorem aUI:aI tab 72 c72:=Oc aTT rfl aG [] trivial fun a=>by kernel_rfl
def cO (s:(cN×(List Int)×Int×Int)):Option (bT (cN×(List Int)×Int×Int) Bool):=bif decide (s.2.2.2<s.2.2.1) then (aN s.2.1 s.2.2.2).bind fun n0=>(aN s.1 s.2.2.2).bind fun a1=>(yZ n0 a1).bind fun b2=>bif !b2 then some (.done false) else some (.next (s.1,s.2.1,s.2.2.1,aA .i64 (s.2.2.2+1))) else some (.done true)
def cX (p0:List Int) (p1:List (Int×Int×Int)) (_:Unit):Option Bool:=bif (bn p0.length) !=(bn p1.length) then some false else aH cO (p1,p0,bn p0.length,0)
def aF6:bO:=⟨aD.cons (aJ.sl ki) (aD.cons (aJ.sl fK) (aD.one (aJ.clo 72 aD.nil))),aJ.bool,fun a=>cX a.1 a.2.1 a.2.2,.pure,false⟩
theorem aEd:aI tab 71 aF6:=Oc aTS rfl aG [(72,c72)] ⟨aUI,trivial⟩ fun a=>by kernel_rfl
def lW (s:((List Int)×(List Int)×Int×Int)):Option (bT ((List Int)×(List Int)×Int×Int) Bool):=bif decide (s.2.2.2<s.2.2.1) then (aN s.1 s.2.2.2).bind fun n0=>(aN s.2.1 s.2.2.2).bind fun n1=>bif n0 !=n1 then some (.done false) else some (.next (s.1,s.2.1,s.2.2.1,aA .i64 (s.2.2.2+1))) else some (.done true)
def pQ (p0:List Int) (p1:List Int):Option Bool:=bif (bn p0.length) !=(bn p1.length) then some false else aH lW (p0,p1,bn p0.length,0)
def c73:bO:=⟨aD.cons (aJ.sl ki) (aD.one (aJ.sl ki)),aJ.bool,fun a=>pQ a.1 a.2,.pure,false⟩
theorem aUJ:aI tab 73 c73:=Oc aTU rfl aG [] trivial fun a=>by kernel_rfl
def HP (p0:Int×Int×Int) (p1:List (Int×Int)):Option Bool:=(fE p1 p0.2).bind fun b0=>some (!b0)
def aXa:bO:=⟨aD.cons (aJ.agg (cP.row fK)) (aD.one (aJ.ref (cP.sl iK))),aJ.bool,fun a=>HP a.1 a.2,.pure,false⟩
theorem aNS:aI tab 137 aXa:=Oc aCE rfl aG [(138,aFY)] ⟨N5,trivial⟩ fun a=>by kernel_rfl
def oJ (s:(cN×rX×Int×Int)):Option (bT (cN×rX×Int×Int) Int):=bif decide (s.2.2.2<s.2.2.1) then (aN s.1 s.2.2.2).bind fun a0=>(HP a0 s.2.1).bind fun b1=>bif b1 then some (.done s.2.2.2) else some (.next (s.1,s.2.1,s.2.2.1,aA .i64 (s.2.2.2+1))) else some (.done (-1))
def jO (p0:List (Int×Int×Int)) (p1:rX):Option Int:=aH oJ (p0,p1,bn p0.length,0)
def ZK:bO:=⟨aD.cons (aJ.sl fK) (aD.one (aJ.clo 137 (aD.one (aJ.ref (cP.sl iK))))),aJ.int .i64,fun a=>jO a.1 a.2,.pure,false⟩
theorem ZL:aI tab 214 ZK:=aI.of VM (cx:=(lT aG [(137,aXa),(138,aFY)] [] [(137,aIf)] [])) rfl (jT.make ⟨aNS,N5,trivial⟩ trivial ⟨aCE,trivial⟩) (fun a=>by kernel_rfl)
def iA (p0:List (Int×Int×Int)) (p1:rX):Option Bool:=(jO p0 p1).bind fun n0=>some (decide (0<=n0))
def ZM:bO:=⟨aD.cons (aJ.sl fK) (aD.one (aJ.clo 137 (aD.one (aJ.ref (cP.sl iK))))),aJ.bool,fun a=>iA a.1 a.2,.pure,false⟩
theorem ZN:aI tab 139 ZM:=Oc VI rfl aG [(214,ZK)] ⟨ZL,trivial⟩ fun a=>by kernel_rfl
def FP (p0:aO) (p1:List (Int×Int)):Option Bool:=bif (bn p1.length)==(bn p0.ax.aq.length) then (iA p0.ax.aq p1).bind fun b0=>some (!b0) else some false
def c74:bO:=⟨aD.cons (aJ.agg bY) (aD.one (aJ.sl iK)),aJ.bool,fun a=>FP a.1 a.2,.pure,false⟩
theorem aUK:aI tab 74 c74:=Oc aTV rfl aG [(139,ZM)] ⟨ZN,trivial⟩ fun a=>by kernel_rfl
def mH (p0:Int):Option Bool:=some (decide (p0<0))
def c69:bO:=⟨aD.one (aJ.int .i64),aJ.bool,fun a=>mH a,.pure,false⟩
theorem aUL:aI tab 69 c69:=Oc aTQ rfl aG [] trivial fun a=>by kernel_rfl
def bG (c0:(List Int)) (s:aFW):Option (bT aFW (bT aFW (Nat×Nat×(List Int)))):=bif decide (s.2.1<(bn s.2.2.length)) then (aN s.2.2 s.2.1).bind fun n0=>(mH n0).bind fun b1=>bif !b1 then (aN s.2.2 s.1).bind fun _=>some (.next (aA .i64 (s.1+1),aA .i64 (s.2.1+1),cM s.2.2 s.1 n0)) else some (.next (s.1,aA .i64 (s.2.1+1),s.2.2)) else bif ((decide (0<=s.1))&&(decide (s.1<=(bn s.2.2.length))))&&(decide ((bn s.2.2.length)<=(bn s.2.2.length))) then bif Nat.beq (((bn s.2.2.length).toNat) -s.1.toNat) 0 then (jS s.2.2 0 s.1).bind fun _=>bif s.2.2.length==c0.length then some (.done (.done (s.1.toNat,s.2.2.length,s.2.2))) else none else bif (bv ((0+s.1.toNat)+(((bn s.2.2.length).toNat) -s.1.toNat)) s.2.2.length)&&(!false) then (jS (jY s.2.2 (0+s.1.toNat) (bu (((bn s.2.2.length).toNat) -s.1.toNat) 0)) 0 s.1).bind fun _=>bif ((jY s.2.2 (0+s.1.toNat) (bu (((bn s.2.2.length).toNat) -s.1.toNat) 0)).length)==c0.length then some (.done (.done (s.1.toNat,(jY s.2.2 (0+s.1.toNat) (bu (((bn s.2.2.length).toNat) -s.1.toNat) 0)).length,jY s.2.2 (0+s.1.toNat) (bu (((bn s.2.2.length).toNat) -s.1.toNat) 0)))) else none else none else none
def bH (c0:(List Int)) (s:aFW):Option (bT aFW (Nat×Nat×(List Int))):=bif decide (s.2.1<s.1) then (aN s.2.2 s.2.1).bind fun n0=>(mH n0).bind fun b1=>bif b1 then bif s.2.2.length==c0.length then bif s.2.1==(-1) then bif s.2.2.length==c0.length then some (.done (s.2.2.length,s.2.2.length,s.2.2)) else none else aH (bG c0) (s.2.1,aA .i64 (s.2.1+1),s.2.2) else none else some (.next (s.1,aA .i64 (s.2.1+1),s.2.2)) else bif s.2.2.length==c0.length then bif s.2.2.length==c0.length then some (.done (s.2.2.length,s.2.2.length,s.2.2)) else none else none
def cS (a:(List Int)):Option (Nat×Nat×(List Int)):=aH (bH a) (bn a.length,0,a)
def aPj:eM:=⟨[.l [.i .i64]],[.own 0 false,.clo 69 [] []],[.arr [.i .i64] []],[.n,.n,.l [.i .i64]],.pre 0 0 0 false,[.arr [.i .i64] []],fun a=>cS a⟩
theorem aF7:kS tab 68 aPj:=kS.of aTP (wd:=true) (cx:=(lT aG [(69,c69)] [] [(134,YP)] [])) (jT.make ⟨aUL,trivial⟩ trivial ⟨KD,trivial⟩) (fun a=>by kernel_rfl)
def gU (p0:bX):Option Int:=(gZ p0.bg).bind fun n0=>bif n0 !=0 then some 8 else (lL p0.bi).bind fun n1=>bif n1 !=0 then some 8 else bif (IL .i64 (bn p0.bi.ba.length) (aA .i64 ((bn p0.bi.ba.length) -1))) !=0 then some 8 else (cC p0.bi.ba).bind fun l2=>(cS l2).bind fun a3=>(GL U0 a3.1 a3.2.2).bind fun l4=>bif l4.length==a3.2.2.length then (cX (l4.take a3.1) p0.bg.au.aa ()).bind fun b5=>bif !b5 then some 8 else (iL p0.bg.au p0.bg.ar p0.bi.ba).bind fun a6=>(pQ a6.1.be p0.bi.be).bind fun b7=>bif !b7 then some 8 else (FP p0.bg a6.2).bind fun b8=>bif !b8 then some 8 else some 0 else none
def c23:bO:=⟨aD.one (aJ.agg vZ),aJ.int .i64,fun a=>gU a,.pure,false⟩
theorem aBm:aI tab 23 c23:=aI.of aTk (cx:=(lT aG [(65,c65),(66,c66),(67,bO.clone ki),(71,aF6),(54,c54),(73,c73),(74,c74)] [(68,aPj)] [(70,.srt aAX)] [])) rfl (jT.make ⟨L9,aF5,sG,aEd,aBi,aUJ,aUK,trivial⟩ ⟨aF7,trivial⟩ ⟨aTR,trivial⟩) (fun a=>by kernel_rfl)
def IZ (p0:aP):Option ((Int×Int×Int×Int×Int)×Int):=(lC p0).bind fun n0=>bif n0 !=0 then some ((0,0,0,0,0),n0) else bif (bn p0.aj.length)==0 then some ((0,0,0,0,0),42) else (aN p0.aj 0).bind fun a1=>some (a1,0)
def aXb:bO:=⟨aD.one (aJ.agg eB),aJ.tup (aD.cons (aJ.agg (cP.row lJ)) (aD.one (aJ.int .i64))),fun a=>IZ a,.pure,false⟩
theorem aNT:aI tab 173 aXb:=Oc aLl rfl aG [(129,aD9)] ⟨KG,trivial⟩ fun a=>by kernel_rfl
def wE (p0:aO) (p1:Int×Int):Option (Bool×Int):=(gZ p0).bind fun n0=>(eS p1).bind fun n1=>bif (if n1>n0 then n1 else n0) !=0 then some (false,if n1>n0 then n1 else n0) else (uA p1 p0.ar).bind fun a2=>bif decide (a2.1<0) then some (false,44) else (IZ p0.ay).bind fun a3=>bif a3.2 !=0 then some (false,0) else (uA (a3.1.1,a3.1.2.1) p1).bind fun a4=>some (decide (a4.1<=0),0)
def aUM:bO:=⟨aD.cons (aJ.agg bY) (aD.one (aJ.agg (cP.row iK))),aJ.tup (aD.cons aJ.bool (aD.one (aJ.int .i64))),fun a=>wE a.1 a.2,.pure,false⟩
theorem aC5:aI tab 111 aUM:=Oc aKL rfl aG [(65,c65),(49,c49),(50,c50),(173,aXb)] ⟨L9,yS,aBj,aNT,trivial⟩ fun a=>by kernel_rfl
def nL (p0:aO) (p1:Int×Int):Option (aO×(Int×Int×Int×Int×Int)×(Int×Int)×Int):=(wE p0 p1).bind fun a0=>bif a0.2==0 then bif !a0.1 then some (hG,(0,0,0,0,0),(0,0),6) else bif a0.2 !=0 then some (hG,(0,0,0,0,0),(0,0),a0.2) else (aN p0.ay.aj 0).bind fun a1=>(jG p0 a1.2.2.1).bind fun a2=>bif a2.2.2 !=0 then some (hG,(0,0,0,0,0),(0,0),a2.2.2) else some (aO.mk (a1.1,a1.2.1) a2.1.au a2.1.ax a2.1.ay a2.1.az,a1,a2.2.1,0) else bif a0.2 !=0 then some (hG,(0,0,0,0,0),(0,0),a0.2) else (aN p0.ay.aj 0).bind fun a3=>(jG p0 a3.2.2.1).bind fun a4=>bif a4.2.2 !=0 then some (hG,(0,0,0,0,0),(0,0),a4.2.2) else some (aO.mk (a3.1,a3.2.1) a4.1.au a4.1.ax a4.1.ay a4.1.az,a3,a4.2.1,0)
def c51:bO:=⟨aD.cons (aJ.agg bY) (aD.one (aJ.agg (cP.row iK))),aJ.tup (aD.cons (aJ.agg bY) (aD.cons (aJ.agg (cP.row lJ)) (aD.cons (aJ.agg (cP.row iK)) (aD.one (aJ.int .i64))))),fun a=>nL a.1 a.2,.frz,false⟩
theorem aUN:aI tab 51 c51:=Oc aTD rfl aG [(111,aUM),(112,aUF)] ⟨aC5,aC3,trivial⟩ fun a=>by kernel_rfl
def DL (p0:aO) (p1:Int×Int):Option (aO×Int):=(wE p0 p1).bind fun a0=>bif a0.2==0 then bif a0.1 then some (hG,36) else bif a0.2 !=0 then some (hG,a0.2) else (lK p0).bind fun r1=>some (aO.mk p1 r1.au r1.ax r1.ay r1.az,0) else bif a0.2 !=0 then some (hG,a0.2) else (lK p0).bind fun r2=>some (aO.mk p1 r2.au r2.ax r2.ay r2.az,0)
def c53:bO:=⟨aD.cons (aJ.agg bY) (aD.one (aJ.agg (cP.row iK))),aJ.tup (aD.cons (aJ.agg bY) (aD.one (aJ.int .i64))),fun a=>DL a.1 a.2,.frz,false⟩
theorem aUO:aI tab 53 c53:=Oc aTF rfl aG [(111,aUM),(114,aF1),(114,Y5)] ⟨aC5,N6,KH,trivial⟩ fun a=>by kernel_rfl
def cQ (s:Zt7):Option (bT Zt7 (bX×rX×Int)):=match s with |(a,b,d,e,f,g,h,i,j,k,l,m,n,o,q,r,t,u,v)=>(nL (aO.mk (a,b) (Field.mk d) (bM.mk e f) (aP.mk (bA.mk g h i) j k) l) (o,q)).bind fun a0=>bif a0.2.2.2 !=0 then (DL (aO.mk (a,b) (Field.mk d) (bM.mk e f) (aP.mk (bA.mk g h i) j k) l) (o,q)).bind fun a1=>(iL a1.1.au (o,q) m).bind fun a2=>some (.done (bX.mk a1.1 a2.1,v,0)) else (gT a0.1 a0.1.au m).bind fun a3=>bif a3.2 !=0 then some (.done (bX.mk hG (bJ.mk [] []),[],a3.2)) else (bV v [a0.2.2.1]).bind fun l4=>some (.next (a3.1.bg.ar.1,a3.1.bg.ar.2,a3.1.bg.au.aa,a3.1.bg.ax.ao,a3.1.bg.ax.aq,a3.1.bg.ay.ai.ac,a3.1.bg.ay.ai.ae,a3.1.bg.ay.ai.af,a3.1.bg.ay.aj,a3.1.bg.ay.am,a3.1.bg.az,a3.1.bi.ba,a3.1.bi.be,o,q,r,t,u,l4))
def fH (p0:bX) (p1:Int×Int):Option (bX×rX×Int):=(gU p0).bind fun n0=>bif n0 !=0 then some (bX.mk hG (bJ.mk [] []),[],n0) else (eS p1).bind fun n1=>bif n1 !=0 then some (bX.mk hG (bJ.mk [] []),[],8) else (uA p1 p0.bg.ar).bind fun a2=>bif decide (a2.1<0) then some (bX.mk hG (bJ.mk [] []),[],44) else aH cQ (p0.bg.ar.1,p0.bg.ar.2,p0.bg.au.aa,p0.bg.ax.ao,p0.bg.ax.aq,p0.bg.ay.ai.ac,p0.bg.ay.ai.ae,p0.bg.ay.ai.af,p0.bg.ay.aj,p0.bg.ay.am,p0.bg.az,p0.bi.ba,p0.bi.be,p1.1,p1.2,0,0,0,[])
def c12:bO:=⟨aD.cons (aJ.agg vZ) (aD.one (aJ.agg (cP.row iK))),aJ.tup (aD.cons (aJ.agg vZ) (aD.cons (aJ.sl iK) (aD.one (aJ.int .i64)))),fun a=>fH a.1 a.2,.frz,false⟩
theorem aF8:aI tab 12 c12:=Oc aTg rfl aG [(23,c23),(49,c49),(50,c50),(51,c51),(52,c52),(53,c53),(54,c54)] ⟨aBm,yS,aBj,aUN,aF4,aUO,aBi,trivial⟩ fun a=>by kernel_rfl
def zA (p0:bJ):Option (Int×Int):=(lL p0).bind fun n0=>bif n0 !=0 then some (0,n0) else (gQ p0 0).bind fun n1=>bif decide (0<=n1) then some (n1,0) else some (0,42)
def c63:bO:=⟨aD.one (aJ.agg hM),aJ.tup (aD.cons (aJ.int .i64) (aD.one (aJ.int .i64))),fun a=>zA a,.pure,false⟩
theorem aUP:aI tab 63 c63:=Oc aTL rfl aG [(66,c66),(126,aM1)] ⟨aF5,VS,trivial⟩ fun a=>by kernel_rfl
def oB (p0:bX):Option (Int×Int):=(gU p0).bind fun n0=>bif n0 !=0 then some (0,n0) else (zA p0.bi).bind fun a1=>some a1
def c21:bO:=⟨aD.one (aJ.agg vZ),aJ.tup (aD.cons (aJ.int .i64) (aD.one (aJ.int .i64))),fun a=>oB a,.pure,false⟩
theorem aF9:aI tab 21 c21:=Oc aTj rfl aG [(23,c23),(63,c63)] ⟨aBm,aUP,trivial⟩ fun a=>by kernel_rfl
def MC (s:((List Int)×(List Int)×Int)):Option (bT ((List Int)×(List Int)×Int) Bool):=bif decide (s.2.2<(bn s.1.length)) then (aN s.1 s.2.2).bind fun n0=>(aN s.2.1 s.2.2).bind fun n1=>bif n0 !=n1 then some (.done false) else some (.next (s.1,s.2.1,aA .i64 (s.2.2+1))) else some (.done true)
def BG (p0:List Int) (p1:List Int):Option Bool:=bif (bn p0.length) !=(bn p1.length) then some false else aH MC (p0,p1,0)
def c42:bO:=⟨aD.cons (aJ.sl ki) (aD.one (aJ.sl ki)),aJ.bool,fun a=>BG a.1 a.2,.pure,false⟩
theorem aUQ:aI tab 42 c42:=Oc aTz rfl aG [] trivial fun a=>by kernel_rfl
def I0 (p0:bJ) (p1:bJ):Option Bool:=(BG p0.ba p1.ba).bind fun b0=>bif b0 then (BG p0.be p1.be).bind fun b1=>some b1 else some false
def c58:bO:=⟨aD.cons (aJ.agg hM) (aD.one (aJ.agg hM)),aJ.bool,fun a=>I0 a.1 a.2,.pure,false⟩
theorem aUR:aI tab 58 c58:=Oc aTH rfl aG [(42,c42)] ⟨aUQ,trivial⟩ fun a=>by kernel_rfl
def I1 (s:(rX×rX×Int)):Option (bT (rX×rX×Int) Bool):=bif decide (s.2.2<(bn s.1.length)) then (aN s.1 s.2.2).bind fun a0=>(aN s.2.1 s.2.2).bind fun a1=>bif !((a0.1==a1.1)&&(a0.2==a1.2)) then some (.done false) else some (.next (s.1,s.2.1,aA .i64 (s.2.2+1))) else some (.done true)
def EN (p0:List (Int×Int)) (p1:List (Int×Int)):Option Bool:=bif (bn p0.length) !=(bn p1.length) then some false else aH I1 (p0,p1,0)
def c15:bO:=⟨aD.cons (aJ.sl iK) (aD.one (aJ.sl iK)),aJ.bool,fun a=>EN a.1 a.2,.pure,false⟩
theorem aUS:aI tab 15 c15:=Oc aTh rfl aG [] trivial fun a=>by kernel_rfl
def ZO:Option Bool:=NB.bind fun r0=>(QB 0).bind fun a1=>(KJ r0 a1).bind fun a2=>(QB 2).bind fun a3=>(fH a2.1 a3).bind fun a4=>(oB a4.1).bind fun a5=>bif a2.2==0 then bif a4.2.2==0 then bif a5.2==0 then bif a5.1==1 then (I0 a2.1.bi (bJ.mk [1,2,5,-1] [2,2,5])).bind fun b6=>bif b6 then (I0 a4.1.bi (bJ.mk [1,2,5,-1] [1,1,5])).bind fun b7=>bif b7 then (EN a4.2.1 [(1,2)]).bind fun b8=>some b8 else some false else some false else some false else some false else some false else some false
def aZE:bO:=⟨aD.nil,aJ.bool,fun _=>ZO,.pure,false⟩
theorem aNU:aI tab 28 aZE:=Oc aTp rfl aG [(25,c25),(26,c26),(17,c17),(12,c12),(21,c21),(58,c58),(15,c15)] ⟨aUn,aUo,aUH,aF8,aF9,aUR,aUS,trivial⟩ fun a=>by kernel_rfl
def c28:bO:=⟨aD.nil,aJ.bool,fun _=>some true,.pure,false⟩
end
theorem aUT:aI tab 28 c28:=aI.at0 (@aNU (LP.of 1000000)) (by kernel_rfl)
section
variable [LP]
def AI (p0:Int×Int×Int):Option Int:=bif decide (p0.1<0) then some 8 else bif decide (65535<p0.1) then some 8 else bif decide (p0.2.1<(-1048576)) then some 8 else bif decide (1048576<p0.2.1) then some 8 else bif decide (p0.2.2<(-1048576)) then some 8 else bif decide (1048576<p0.2.2) then some 8 else some 0
def c85:bO:=⟨aD.one (aJ.agg (cP.row fK)),aJ.int .i64,fun a=>AI a,.pure,false⟩
theorem aUU:aI tab 85 c85:=Oc aT6 rfl aG [] trivial fun a=>by kernel_rfl
def kK (s:YR):Option (bT YR (bT YR Int)):=bif decide (s.1<(bn s.2.length)) then (aN s.2 (aA .i64 (s.1-1))).bind fun a0=>(aN s.2 s.1).bind fun a1=>bif decide (a1.1<=a0.1) then some (.done (.done 32)) else some (.next (aA .i64 (s.1+1),s.2)) else some (.done (.done 0))
def oW (s:YR):Option (bT YR Int):=bif decide (s.1<(bn s.2.length)) then (aN s.2 s.1).bind fun a0=>(AI a0).bind fun n1=>bif n1 !=0 then some (.done 8) else some (.next (aA .i64 (s.1+1),s.2)) else aH kK (1,s.2)
def wF (p0:Field):Option Int:=bif decide (64<(bn p0.aa.length)) then some 4 else aH oW (0,p0.aa)
def c29:bO:=⟨aD.one (aJ.agg cB),aJ.int .i64,fun a=>wF a,.pure,false⟩
theorem aGa:aI tab 29 c29:=Oc aTq rfl aG [(85,c85)] ⟨aUU,trivial⟩ fun a=>by kernel_rfl
def jH (p0:Int):Option Int:=bif decide (p0<0) then some (aA .u64 ((aA .u64 (aA .i64 (0- (aA .i64 (p0+1)))))+1)) else some (aA .u64 p0)
def c95:bO:=⟨aD.one (aJ.int .i64),aJ.int .u64,fun a=>jH a,.pure,false⟩
theorem aBn:aI tab 95 c95:=Oc aUf rfl aG [] trivial fun a=>by kernel_rfl
def qN (s:(Int×Int)):Option (bT (Int×Int) Int):=bif s.2 !=0 then bif s.2==0 then none else some (.next (s.2,bq s.1 s.2)) else some (.done s.1)
def sL (p0:Int) (p1:Int):Option Int:=aH qN (p0,p1)
def c94:bO:=⟨aD.cons (aJ.int .u64) (aD.one (aJ.int .u64)),aJ.int .u64,fun a=>sL a.1 a.2,.pure,false⟩
theorem aGb:aI tab 94 c94:=Oc aUe rfl aG [] trivial fun a=>by kernel_rfl
def lF (p0:Int×Int):Option Int:=bif decide (p0.2<1) then some 8 else bif p0.1==(-9223372036854775808) then some 8 else (jH p0.1).bind fun n0=>(sL n0 (aA .u64 p0.2)).bind fun n1=>bif n1 !=1 then some 8 else some 0
def c36:bO:=⟨aD.one (aJ.agg (cP.row iK)),aJ.int .i64,fun a=>lF a,.pure,false⟩
theorem aBo:aI tab 36 c36:=Oc aTw rfl aG [(95,c95),(94,c94)] ⟨aBn,aGb,trivial⟩ fun a=>by kernel_rfl
def DM (p0:Int×Int) (p1:Int×Int):Option Int:=(lF p0).bind fun n0=>bif n0 !=0 then (lF p0).bind fun n1=>some n1 else (lF p1).bind fun n2=>some n2
def c30:bO:=⟨aD.cons (aJ.agg (cP.row iK)) (aD.one (aJ.agg (cP.row iK))),aJ.int .i64,fun a=>DM a.1 a.2,.pure,false⟩
theorem aUV:aI tab 30 c30:=Oc aTr rfl aG [(36,c36)] ⟨aBo,trivial⟩ fun a=>by kernel_rfl
def vB (p0:Int) (p1:Int):Option (Bool×Int×Int):=some (false,aA .u64 ((aA .u64 ((aA .u64 ((aA .u64 (bo p0 4294967296))*(aA .u64 (bo p1 4294967296))))+(aA .u64 (bo (aA .u64 ((aA .u64 ((aA .u64 (bo p0 4294967296))*(bq p1 4294967296)))+(aA .u64 (bo (aA .u64 ((bq p0 4294967296)*(bq p1 4294967296))) 4294967296)))) 4294967296))))+(aA .u64 (bo (aA .u64 ((aA .u64 ((bq p0 4294967296)*(aA .u64 (bo p1 4294967296))))+(bq (aA .u64 ((aA .u64 ((aA .u64 (bo p0 4294967296))*(bq p1 4294967296)))+(aA .u64 (bo (aA .u64 ((bq p0 4294967296)*(bq p1 4294967296))) 4294967296)))) 4294967296))) 4294967296))),aA .u64 ((aA .u64 ((bq (aA .u64 ((aA .u64 ((bq p0 4294967296)*(aA .u64 (bo p1 4294967296))))+(bq (aA .u64 ((aA .u64 ((aA .u64 (bo p0 4294967296))*(bq p1 4294967296)))+(aA .u64 (bo (aA .u64 ((bq p0 4294967296)*(bq p1 4294967296))) 4294967296)))) 4294967296))) 4294967296)*4294967296))+(bq (aA .u64 ((bq p0 4294967296)*(bq p1 4294967296))) 4294967296)))
def aXc:bO:=⟨aD.cons (aJ.int .u64) (aD.one (aJ.int .u64)),aJ.agg (cP.row FK),fun a=>vB a.1 a.2,.pure,false⟩
theorem aNV:aI tab 152 aXc:=Oc aK9 rfl aG [] trivial fun a=>by kernel_rfl
def lM (p0:Int) (p1:Int):Option (Bool×Int×Int):=(jH p0).bind fun n0=>(jH p1).bind fun n1=>(vB n0 n1).bind fun a2=>bif !((decide (p0<0))==(decide (p1<0))) then bif p0 !=0 then some (p1 !=0,a2.2) else some (false,a2.2) else some (false,a2.2)
def c86:bO:=⟨aD.cons (aJ.int .i64) (aD.one (aJ.int .i64)),aJ.agg (cP.row FK),fun a=>lM a.1 a.2,.pure,false⟩
theorem aGc:aI tab 86 c86:=Oc aT7 rfl aG [(95,c95),(152,aXc)] ⟨aBn,aNV,trivial⟩ fun a=>by kernel_rfl
def nM (p0:Bool×Int×Int):Option Int:=bif p0.2.1==0 then bif p0.2.2==0 then some 0 else bif p0.1 then some (-1) else some 1 else bif p0.1 then some (-1) else some 1
def c87:bO:=⟨aD.one (aJ.agg (cP.row FK)),aJ.int .i64,fun a=>nM a,.pure,false⟩
theorem aGd:aI tab 87 c87:=Oc aT8 rfl aG [] trivial fun a=>by kernel_rfl
def uC (p0:Bool×Int×Int) (p1:Bool×Int×Int):Option Int:=bif p0.2.1 !=p1.2.1 then bif decide (p0.2.1<p1.2.1) then some (-1) else some 1 else bif p0.2.2 !=p1.2.2 then bif decide (p0.2.2<p1.2.2) then some (-1) else some 1 else some 0
def c88:bO:=⟨aD.cons (aJ.agg (cP.row FK)) (aD.one (aJ.agg (cP.row FK))),aJ.int .i64,fun a=>uC a.1 a.2,.pure,false⟩
theorem aGe:aI tab 88 c88:=Oc aT9 rfl aG [] trivial fun a=>by kernel_rfl
def lN (p0:Int×Int) (p1:Int×Int):Option Int:=(lM p0.1 p1.2).bind fun a0=>(lM p1.1 p0.2).bind fun a1=>(nM a0).bind fun n2=>(nM a1).bind fun n3=>bif n2 !=n3 then (nM a0).bind fun n4=>(nM a1).bind fun n5=>bif decide (n4<n5) then some (-1) else some 1 else (nM a0).bind fun n6=>bif decide (n6<0) then (uC a1 a0).bind fun n7=>some n7 else (uC a0 a1).bind fun n8=>some n8
def c31:bO:=⟨aD.cons (aJ.agg (cP.row iK)) (aD.one (aJ.agg (cP.row iK))),aJ.int .i64,fun a=>lN a.1 a.2,.pure,false⟩
theorem aGf:aI tab 31 c31:=Oc aTs rfl aG [(86,c86),(87,c87),(88,c88)] ⟨aGc,aGd,aGe,trivial⟩ fun a=>by kernel_rfl
def nN (p0:Field):Option Field:=(cC p0.aa).bind fun l0=>some (Field.mk l0)
def c91:bO:=⟨aD.one (aJ.agg cB),aJ.agg cB,fun a=>nN a,.own,true⟩
def aGg:bO:=⟨aD.one (aJ.agg cB),aJ.agg cB,fun a=>nN a,.frz,false⟩
theorem V1:aI tab 91 c91:=Oc aFR rfl aG [] trivial fun a=>by kernel_rfl
theorem N7:aI tab 91 aGg:=Oc aFR rfl aG [] trivial fun a=>by kernel_rfl
def FQ (s:(Int×(List Int)×(List Bool)×(List Int))):Option (bT (Int×(List Int)×(List Bool)×(List Int)) bA):=bif decide (0<=s.1) then (bV s.2.2.2 [s.1]).bind fun l0=>some (.next (aA .i64 (s.1-1),s.2.1,s.2.2.1,l0)) else some (.done (bA.mk s.2.1 s.2.2.1 s.2.2.2))
def AJ (p0:Int):Option bA:=bif p0==p0 then (rJ p0 (0:Int)).bind fun l0=>bif p0==p0 then (rJ p0 (false:Bool)).bind fun l1=>aH FQ (aA .i64 (p0-1),l0,l1,[]) else none else none
def aXe:bO:=⟨aD.one (aJ.int .i64),aJ.agg iZ,fun a=>AJ a,.frz,false⟩
theorem aNW:aI tab 156 aXe:=Oc aLd rfl aG [] trivial fun a=>by kernel_rfl
def QD (s:(Int×Int×(List Int)×(List Bool)×(List Int)×(List Int))):Option (bT (Int×Int×(List Int)×(List Bool)×(List Int)×(List Int)) aP):=bif decide (s.2.1<s.1) then (bV s.2.2.2.2.2 [-1]).bind fun l0=>some (.next (s.1,aA .i64 (s.2.1+1),s.2.2.1,s.2.2.2.1,s.2.2.2.2.1,l0)) else some (.done (aP.mk (bA.mk s.2.2.1 s.2.2.2.1 s.2.2.2.2.1) [] s.2.2.2.2.2))
def AL (p0:Int):Option aP:=(AJ p0).bind fun r0=>aH QD (p0,0,r0.ac,r0.ae,r0.af,[])
def c92:bO:=⟨aD.one (aJ.int .i64),aJ.agg eB,fun a=>AL a,.frz,false⟩
theorem aUW:aI tab 92 c92:=Oc aUc rfl aG [(156,aXe)] ⟨aNW,trivial⟩ fun a=>by kernel_rfl
def AM (p0:Field) (p1:Int×Int):Option aO:=(nN p0).bind fun r0=>(AL 200).bind fun r1=>some (aO.mk p1 r0 (bM.mk 0 []) r1 [])
def c33:bO:=⟨aD.cons (aJ.agg cB) (aD.one (aJ.agg (cP.row iK))),aJ.agg bY,fun a=>AM a.1 a.2,.frz,false⟩
theorem aUX:aI tab 33 c33:=Oc aTu rfl aG [(91,c91),(91,aGg),(92,c92)] ⟨V1,N7,aUW,trivial⟩ fun a=>by kernel_rfl
def kL (p0:bJ) (p1:Int):Option Int:=bif decide (p1<(bn p0.be.length)) then (aN p0.be p1).bind fun n0=>some n0 else (aN p0.ba (aA .i64 (p1- (bn p0.be.length)))).bind fun n1=>some n1
def c40:bO:=⟨aD.cons (aJ.agg hM) (aD.one (aJ.int .i64)),aJ.int .i64,fun a=>kL a.1 a.2,.pure,false⟩
theorem V2:aI tab 40 c40:=Oc aTx rfl aG [] trivial fun a=>by kernel_rfl
def wG (s:aFV):Option aUm:=bif decide (s.2.1<(bn s.2.2.length)) then (aN s.2.2 s.2.1).bind fun a0=>bif a0.1==s.1 then some (.done s.2.1) else some (.next (s.1,aA .i64 (s.2.1+1),s.2.2)) else some (.done (-1))
def iN (p0:Field) (p1:Int):Option Int:=aH wG (p1,0,p0.aa)
def c97:bO:=⟨aD.cons (aJ.agg cB) (aD.one (aJ.int .i64)),aJ.int .i64,fun a=>iN a.1 a.2,.pure,false⟩
theorem QE:aI tab 97 c97:=Oc aUh rfl aG [] trivial fun a=>by kernel_rfl
def wH (p0:Bool×Int×Int) (p1:Bool×Int×Int):Option (Bool×Int×Int):=bif decide (p0.2.2<p1.2.2) then some (false,aA .u64 ((aA .u64 (p0.2.1-p1.2.1)) -1),aA .u64 (p0.2.2-p1.2.2)) else some (false,aA .u64 (p0.2.1-p1.2.1),aA .u64 (p0.2.2-p1.2.2))
def aXg:bO:=⟨aD.cons (aJ.agg (cP.row FK)) (aD.one (aJ.agg (cP.row FK))),aJ.agg (cP.row FK),fun a=>wH a.1 a.2,.pure,false⟩
theorem aNX:aI tab 272 aXg:=Oc aMo rfl aG [] trivial fun a=>by kernel_rfl
def DN (p0:Bool×Int×Int) (p1:Bool×Int×Int):Option (Bool×Int×Int):=bif p0.1==p1.1 then bif decide ((aA .u64 (p0.2.2+p1.2.2))<p0.2.2) then some (p0.1,aA .u64 ((aA .u64 (p0.2.1+p1.2.1))+1),aA .u64 (p0.2.2+p1.2.2)) else some (p0.1,aA .u64 (p0.2.1+p1.2.1),aA .u64 (p0.2.2+p1.2.2)) else (uC p0 p1).bind fun n0=>bif decide (0<=n0) then (wH p0 p1).bind fun a1=>bif p0.1 then bif decide (0<a1.2.1) then some (true,a1.2) else some (decide (0<a1.2.2),a1.2) else some (false,a1.2) else (wH p1 p0).bind fun a2=>some (p1.1,a2.2)
def aXh:bO:=⟨aD.cons (aJ.agg (cP.row FK)) (aD.one (aJ.agg (cP.row FK))),aJ.agg (cP.row FK),fun a=>DN a.1 a.2,.pure,false⟩
theorem aNY:aI tab 227 aXh:=Oc aLW rfl aG [(88,c88),(272,aXg)] ⟨aGe,aNX,trivial⟩ fun a=>by kernel_rfl
def GU (p0:Int×Int×Int) (p1:Int×Int×Int) (p2:Int×Int):Option Int:=(lM (aA .i64 (p0.2.1-p1.2.1)) p2.2).bind fun a0=>(lM (aA .i64 (p0.2.2-p1.2.2)) p2.1).bind fun a1=>(DN a0 a1).bind fun a2=>(nM a2).bind fun n3=>some n3
def aXi:bO:=⟨aD.cons (aJ.agg (cP.row fK)) (aD.cons (aJ.agg (cP.row fK)) (aD.one (aJ.agg (cP.row iK)))),aJ.int .i64,fun a=>GU a.1 a.2.1 a.2.2,.pure,false⟩
theorem aNZ:aI tab 160 aXi:=Oc aLg rfl aG [(86,c86),(227,aXh),(87,c87)] ⟨aGc,aNY,aGd,trivial⟩ fun a=>by kernel_rfl
def oX (p0:Int×Int×Int) (p1:Int×Int×Int) (p2:Int×Int):Option Bool:=(GU p0 p1 p2).bind fun n0=>bif n0 !=0 then some (decide (0<n0)) else bif p0.2.2 !=p1.2.2 then some (decide (p1.2.2<p0.2.2)) else some (decide (p0.1<p1.1))
def c98:bO:=⟨aD.cons (aJ.agg (cP.row fK)) (aD.cons (aJ.agg (cP.row fK)) (aD.one (aJ.agg (cP.row iK)))),aJ.bool,fun a=>oX a.1 a.2.1 a.2.2,.pure,false⟩
theorem aBp:aI tab 98 c98:=Oc aUi rfl aG [(160,aXi)] ⟨aNZ,trivial⟩ fun a=>by kernel_rfl
def yD (p0:Field) (p1:Int×Int) (p2:Int) (p3:Int):Option Int:=bif decide (p2<0) then some p3 else bif decide (p3<0) then some p2 else (iN p0 p2).bind fun n0=>(aN p0.aa n0).bind fun a1=>(iN p0 p3).bind fun n2=>(aN p0.aa n2).bind fun a3=>(oX a1 a3 p1).bind fun b4=>bif b4 then some p2 else some p3
def c41:bO:=⟨aD.cons (aJ.agg cB) (aD.cons (aJ.agg (cP.row iK)) (aD.cons (aJ.int .i64) (aD.one (aJ.int .i64)))),aJ.int .i64,fun a=>yD a.1 a.2.1 a.2.2.1 a.2.2.2,.pure,false⟩
theorem aGh:aI tab 41 c41:=Oc aTy rfl aG [(97,c97),(98,c98)] ⟨QE,aBp,trivial⟩ fun a=>by kernel_rfl
def oY (s:aD8):Option (bT aD8 bJ):=bif decide (0<=s.1) then (kL (bJ.mk s.2.2.2.2.1 s.2.2.2.2.2) (aA .i64 ((aA .i64 (2*s.1))+1))).bind fun n0=>(kL (bJ.mk s.2.2.2.2.1 s.2.2.2.2.2) (aA .i64 ((aA .i64 (2*s.1))+2))).bind fun n1=>(yD (Field.mk s.2.1) (s.2.2.1,s.2.2.2.1) n0 n1).bind fun n2=>(aN s.2.2.2.2.2 s.1).bind fun _=>some (.next (aA .i64 (s.1-1),s.2.1,s.2.2.1,s.2.2.2.1,s.2.2.2.2.1,cM s.2.2.2.2.2 s.1 n2)) else some (.done (bJ.mk s.2.2.2.2.1 s.2.2.2.2.2))
def AN (p0:Field) (p1:Int×Int) (p2:List Int):Option bJ:=(cC p2).bind fun l0=>bif (aA .i64 ((bn p2.length) -1))==(aA .i64 ((bn p2.length) -1)) then (rJ (aA .i64 ((bn p2.length) -1)) (0:Int)).bind fun l1=>aH oY (aA .i64 ((bn l1.length) -1),p0.aa,p1.1,p1.2,l0,l1) else none
def aXj:bO:=⟨aD.cons (aJ.agg cB) (aD.cons (aJ.agg (cP.row iK)) (aD.one (aJ.sl ki))),aJ.agg hM,fun a=>AN a.1 a.2.1 a.2.2,.frz,false⟩
theorem aN0:aI tab 153 aXj:=Oc aLa rfl aG [(40,c40),(41,c41)] ⟨V2,aGh,trivial⟩ fun a=>by kernel_rfl
def DO (p0:Field) (p1:Int×Int) (p2:List Int):Option bJ:=(AN p0 p1 p2).bind fun r0=>some r0
def c89:bO:=⟨aD.cons (aJ.agg cB) (aD.cons (aJ.agg (cP.row iK)) (aD.one (aJ.sl ki))),aJ.agg hM,fun a=>DO a.1 a.2.1 a.2.2,.frz,false⟩
theorem aUY:aI tab 89 c89:=Oc aUa rfl aG [(153,aXj)] ⟨aN0,trivial⟩ fun a=>by kernel_rfl
def AO (s:(Int×(List Int)×(List Int)×rX)):Option (bT (Int×(List Int)×(List Int)×rX) rX):=bif decide (s.1<(bn s.2.2.1.length)) then (kL (bJ.mk s.2.1 s.2.2.1) (aA .i64 ((aA .i64 (2*s.1))+1))).bind fun n0=>(kL (bJ.mk s.2.1 s.2.2.1) (aA .i64 ((aA .i64 (2*s.1))+2))).bind fun n1=>bif decide (n0<0) then some (.next (aA .i64 (s.1+1),s.2)) else bif decide (n1<0) then some (.next (aA .i64 (s.1+1),s.2)) else (aN s.2.2.1 s.1).bind fun n2=>bif n2==n0 then (bV s.2.2.2 [(n1,n0)]).bind fun l3=>some (.next (aA .i64 (s.1+1),s.2.1,s.2.2.1,l3)) else (bV s.2.2.2 [(n0,n1)]).bind fun l4=>some (.next (aA .i64 (s.1+1),s.2.1,s.2.2.1,l4)) else some (.done s.2.2.2)
def CE (p0:bJ):Option rX:=aH AO (0,p0.ba,p0.be,[])
def c62:bO:=⟨aD.one (aJ.agg hM),aJ.sl iK,fun a=>CE a,.frz,false⟩
theorem aGi:aI tab 62 c62:=Oc aTK rfl aG [(40,c40)] ⟨V2,trivial⟩ fun a=>by kernel_rfl
def qX (p0:bM):Option bM:=(cC p0.aq).bind fun l0=>some (bM.mk p0.ao l0)
def aN1:bO:=⟨aD.one (aJ.agg kO),aJ.agg kO,fun a=>qX a,.own,true⟩
def aC6:bO:=⟨aD.one (aJ.agg kO),aJ.agg kO,fun a=>qX a,.frz,false⟩
theorem V3:aI tab 103 aN1:=Oc aCy rfl aG [] trivial fun a=>by kernel_rfl
theorem QF:aI tab 103 aC6:=Oc aCy rfl aG [] trivial fun a=>by kernel_rfl
def oZ (p0:bA):Option bA:=(cC p0.ac).bind fun l0=>(cC p0.ae).bind fun l1=>(cC p0.af).bind fun l2=>some (bA.mk l0 l1 l2)
def aGj:bO:=⟨aD.one (aJ.agg iZ),aJ.agg iZ,fun a=>oZ a,.own,true⟩
def ZP:bO:=⟨aD.one (aJ.agg iZ),aJ.agg iZ,fun a=>oZ a,.frz,false⟩
theorem N8:aI tab 169 aGj:=Oc aCH rfl aG [] trivial fun a=>by kernel_rfl
theorem KK:aI tab 169 ZP:=Oc aCH rfl aG [] trivial fun a=>by kernel_rfl
def nO (p0:aP):Option aP:=(oZ p0.ai).bind fun r0=>(cC p0.aj).bind fun l1=>(cC p0.am).bind fun l2=>some (aP.mk r0 l1 l2)
def aEe:bO:=⟨aD.one (aJ.agg eB),aJ.agg eB,fun a=>nO a,.own,true⟩
def TW:bO:=⟨aD.one (aJ.agg eB),aJ.agg eB,fun a=>nO a,.frz,false⟩
theorem KL:aI tab 104 aEe:=Oc aCz rfl aG [(169,aGj),(169,ZP)] ⟨N8,KK,trivial⟩ fun a=>by kernel_rfl
theorem F0s:aI tab 104 TW:=Oc aCz rfl aG [(169,aGj),(169,ZP)] ⟨N8,KK,trivial⟩ fun a=>by kernel_rfl
def jI (p0:aO):Option aO:=(nN p0.au).bind fun r0=>(qX p0.ax).bind fun r1=>(nO p0.ay).bind fun r2=>(cC p0.az).bind fun l3=>some (aO.mk p0.ar r0 r1 r2 l3)
def c47:bO:=⟨aD.one (aJ.agg bY),aJ.agg bY,fun a=>jI a,.own,true⟩
def aGk:bO:=⟨aD.one (aJ.agg bY),aJ.agg bY,fun a=>jI a,.frz,false⟩
theorem V4:aI tab 47 c47:=Oc aFQ rfl aG [(91,c91),(91,aGg),(103,aN1),(103,aC6),(104,aEe),(104,TW)] ⟨V1,N7,V3,QF,KL,F0s,trivial⟩ fun a=>by kernel_rfl
theorem N9:aI tab 47 aGk:=Oc aFQ rfl aG [(91,c91),(91,aGg),(103,aN1),(103,aC6),(104,aEe),(104,TW)] ⟨V1,N7,V3,QF,KL,F0s,trivial⟩ fun a=>by kernel_rfl
def AP (s:(rX×Int×Int×Int)):Option (bT (rX×Int×Int×Int) Bool):=bif decide (s.2.1<(bn s.1.length)) then (aN s.1 s.2.1).bind fun a0=>bif (a0.1==s.2.2.1)&&(a0.2==s.2.2.2) then some (.done true) else some (.next (s.1,aA .i64 (s.2.1+1),s.2.2)) else some (.done false)
def KM (p0:List (Int×Int)) (p1:Int×Int):Option Bool:=aH AP (p0,0,p1)
def c44:bO:=⟨aD.cons (aJ.sl iK) (aD.one (aJ.agg (cP.row iK))),aJ.bool,fun a=>KM a.1 a.2,.pure,false⟩
theorem aUZ:aI tab 44 c44:=Oc aTA rfl aG [] trivial fun a=>by kernel_rfl
def mI (s:aWi):Option (bT aWi bM):=bif decide (s.2.1<(bn s.2.2.2.1.length)) then (aN s.2.2.2.1 s.2.1).bind fun a0=>bif a0.1 !=s.1 then (aN s.2.2.2.1 s.2.1).bind fun a1=>(bV s.2.2.2.2.2.2 [a1]).bind fun l2=>some (.next (s.1,aA .i64 (s.2.1+1),s.2.2.1,s.2.2.2.1,s.2.2.2.2.1,s.2.2.2.2.2.1,l2)) else some (.next (s.1,aA .i64 (s.2.1+1),s.2.2)) else some (.done (bM.mk s.2.2.2.2.2.1 s.2.2.2.2.2.2))
def vC (p0:bM) (p1:Int):Option bM:=aH mI (p1,0,p0.ao,p0.aq,0,p0.ao,[])
def c82:bO:=⟨aD.cons (aJ.agg kO) (aD.one (aJ.int .i64)),aJ.agg kO,fun a=>vC a.1 a.2,.frz,false⟩
theorem aU0:aI tab 82 c82:=Oc aT3 rfl aG [] trivial fun a=>by kernel_rfl
def sM (s:aUj):Option aV1:=bif decide (s.2.1<(bn s.2.2.2.2.2.2.2.2.2.2.2.2.length)) then (aN s.2.2.2.2.2.2.2.2.2.2.2.2 s.2.1).bind fun a0=>bif a0.1==s.1 then some (.done s.2.1) else some (.next (s.1,aA .i64 (s.2.1+1),s.2.2)) else some (.done (-1))
def rQ (p0:aO) (p1:Int):Option Int:=aH sM (p1,0,p0.ar.1,p0.ar.2,p0.au.aa,p0.ax.ao,p0.ax.aq,p0.ay.ai.ac,p0.ay.ai.ae,p0.ay.ai.af,p0.ay.aj,p0.ay.am,p0.az)
def c83:bO:=⟨aD.cons (aJ.agg bY) (aD.one (aJ.int .i64)),aJ.int .i64,fun a=>rQ a.1 a.2,.pure,false⟩
theorem aGl:aI tab 83 c83:=Oc aT4 rfl aG [] trivial fun a=>by kernel_rfl
def rR (p0:bA) (p1:Int×Int):Option bA:=(oZ p0).bind fun r0=>(aN r0.ae p1.1).bind fun _=>(bV r0.af [p1.1]).bind fun l2=>some (bA.mk r0.ac (cM r0.ae p1.1 false) l2)
def aXl:bO:=⟨aD.cons (aJ.agg iZ) (aD.one (aJ.agg (cP.row iK))),aJ.agg iZ,fun a=>rR a.1 a.2,.frz,false⟩
theorem aN2:aI tab 149 aXl:=Oc aK8 rfl aG [(169,aGj),(169,ZP)] ⟨N8,KK,trivial⟩ fun a=>by kernel_rfl
def fI (p0:Int×Int×Int×Int×Int) (p1:Int×Int×Int×Int×Int):Option Bool:=(lN (p0.1,p0.2.1) (p1.1,p1.2.1)).bind fun n0=>bif decide (n0<0) then some true else bif n0==0 then some (decide (p0.2.2.1<p1.2.2.1)) else some false
def aBq:bO:=⟨aD.cons (aJ.agg (cP.row lJ)) (aD.one (aJ.agg (cP.row lJ))),aJ.bool,fun a=>fI a.1 a.2,.pure,false⟩
theorem GV:aI tab 217 aBq:=Oc aLM rfl aG [(31,c31)] ⟨aGf,trivial⟩ fun a=>by kernel_rfl
def gD (a:aUk):Option aUl:=(aN a.2.2.2.2.2.1 a.2.1).bind fun a0=>(aN a.2.2.2.2.2.1 a.1).bind fun a1=>(aN a.2.2.2.2.2.1 a.1).bind fun _=>(aN (cM a.2.2.2.2.2.1 a.1 a0) a.2.1).bind fun _=>(aN (cM (cM a.2.2.2.2.2.1 a.1 a0) a.2.1 a1) a.1).bind fun a4=>(aN (cM (cM a.2.2.2.2.2.1 a.1 a0) a.2.1 a1) a.2.1).bind fun a5=>(aN a.2.2.2.2.2.2 a4.2.2.2.1).bind fun _=>(aN (cM a.2.2.2.2.2.2 a4.2.2.2.1 a.1) a5.2.2.2.1).bind fun _=>bif a.2.2.1.length==a.2.2.1.length then bif a.2.2.2.1.length==a.2.2.2.1.length then bif a.2.2.2.2.1.length==a.2.2.2.2.1.length then bif ((cM (cM a.2.2.2.2.2.1 a.1 a0) a.2.1 a1).length)==a.2.2.2.2.2.1.length then bif ((cM (cM a.2.2.2.2.2.2 a4.2.2.2.1 a.1) a5.2.2.2.1 a.2.1).length)==a.2.2.2.2.2.2.length then some (a.2.2.1,a.2.2.2.1,a.2.2.2.2.1,cM (cM a.2.2.2.2.2.1 a.1 a0) a.2.1 a1,cM (cM a.2.2.2.2.2.2 a4.2.2.2.1 a.1) a5.2.2.2.1 a.2.1) else none else none else none else none else none
def I2:eM:=⟨[.i,.i,.l [.i .i64],.l [.b],.l [.i .i64],.l [.i .i64,.i .i64,.i .i64,.i .i64,.i .i64],.l [.i .i64]],[.agg [.own 0 false,.own 1 false,.own 2 false,.own 3 false,.own 4 false],.int .i64 0,.int .i64 0],[.arr [.i .i64] [],.arr [.b] [],.arr [.i .i64] [],.arr [.i .i64,.i .i64,.i .i64,.i .i64,.i .i64] [],.arr [.i .i64] []],[.l [.i .i64],.l [.b],.l [.i .i64],.l [.i .i64,.i .i64,.i .i64,.i .i64,.i .i64],.l [.i .i64]],.tup [],[.arr [.i .i64] [],.arr [.b] [],.arr [.i .i64] [],.arr [.i .i64,.i .i64,.i .i64,.i .i64,.i .i64] [],.arr [.i .i64] []],fun a=>gD a⟩
theorem yE:kS tab 148 I2:=kS.of VJ (wd:=false) (cx:=(lT aG [] [] [] [])) (jT.make trivial trivial trivial) (fun a=>by kernel_rfl)
def hO (a:((List Int)×(List Bool)×(List Int)×Nat×Nat×Int×Int×nH×(List Int))):Option SI:=(aN (a.2.2.2.2.2.2.2.1.take a.2.2.2.1) a.2.2.2.2.2.2.1).bind fun a0=>(aN (a.2.2.2.2.2.2.2.1.take a.2.2.2.1) a.2.2.2.2.2.1).bind fun a1=>(aN (a.2.2.2.2.2.2.2.1.take a.2.2.2.1) a.2.2.2.2.2.1).bind fun _=>(aN ((cM a.2.2.2.2.2.2.2.1 a.2.2.2.2.2.1 a0).take a.2.2.2.1) a.2.2.2.2.2.2.1).bind fun _=>(aN ((cM (cM a.2.2.2.2.2.2.2.1 a.2.2.2.2.2.1 a0) a.2.2.2.2.2.2.1 a1).take a.2.2.2.1) a.2.2.2.2.2.1).bind fun a4=>(aN ((cM (cM a.2.2.2.2.2.2.2.1 a.2.2.2.2.2.1 a0) a.2.2.2.2.2.2.1 a1).take a.2.2.2.1) a.2.2.2.2.2.2.1).bind fun a5=>(aN a.2.2.2.2.2.2.2.2 a4.2.2.2.1).bind fun _=>(aN (cM a.2.2.2.2.2.2.2.2 a4.2.2.2.1 a.2.2.2.2.2.1) a5.2.2.2.1).bind fun _=>bif ((cM (cM a.2.2.2.2.2.2.2.1 a.2.2.2.2.2.1 a0) a.2.2.2.2.2.2.1 a1).length)==a.2.2.2.2.2.2.2.1.length then bif ((cM (cM a.2.2.2.2.2.2.2.2 a4.2.2.2.1 a.2.2.2.2.2.1) a5.2.2.2.1 a.2.2.2.2.2.2.1).length)==a.2.2.2.2.2.2.2.2.length then some (cM (cM a.2.2.2.2.2.2.2.1 a.2.2.2.2.2.1 a0) a.2.2.2.2.2.2.1 a1,cM (cM a.2.2.2.2.2.2.2.2 a4.2.2.2.1 a.2.2.2.2.2.1) a5.2.2.2.1 a.2.2.2.2.2.2.1) else none else none
def I3:eM:=⟨[.l [.i .i64],.l [.b],.l [.i .i64],.n,.n,.i,.i,.l [.i .i64,.i .i64,.i .i64,.i .i64,.i .i64],.l [.i .i64]],[.agg [.sl [.i .i64] [],.sl [.b] [],.sl [.i .i64] [],.pre 0 0 0 false,.own 1 false],.int .i64 0,.int .i64 0],[.arr [.i .i64,.i .i64,.i .i64,.i .i64,.i .i64] [],.arr [.i .i64] []],[.l [.i .i64,.i .i64,.i .i64,.i .i64,.i .i64],.l [.i .i64]],.tup [],[.arr [.i .i64,.i .i64,.i .i64,.i .i64,.i .i64] [],.arr [.i .i64] []],fun a=>hO a⟩
theorem yF:kS tab 148 I3:=kS.of VJ (wd:=false) (cx:=(lT aG [] [] [] [])) (jT.make trivial trivial trivial) (fun a=>by kernel_rfl)
def jA (c0:aMO) (s:aMP):Option (bT aMP aMQ):=bif decide (0<s.1) then (aN (s.2.1.take s.2.2.2.2.2.2.1) s.1).bind fun a0=>(aN (s.2.1.take s.2.2.2.2.2.2.1) (aA .i64 (bo (aA .i64 (s.1-1)) 2))).bind fun a1=>(fI a0 a1).bind fun b2=>bif b2 then (hO (s.2.2.2.1,s.2.2.2.2.1,s.2.2.2.2.2.1,s.2.2.2.2.2.2.1,s.2.2.2.2.2.2.2,s.1,aA .i64 (bo (aA .i64 (s.1-1)) 2),s.2.1,s.2.2.1)).bind fun a3=>some (.next (aA .i64 (bo (aA .i64 (s.1-1)) 2),a3.1,a3.2,s.2.2.2)) else bif s.2.1.length==c0.2.2.2.2.2.2.1.length then bif s.2.2.1.length==c0.2.2.2.2.2.2.2.length then some (.done (s.1,s.2.1,s.2.2.1)) else none else none else bif s.2.1.length==c0.2.2.2.2.2.2.1.length then bif s.2.2.1.length==c0.2.2.2.2.2.2.2.length then some (.done (s.1,s.2.1,s.2.2.1)) else none else none
def pA (a:aMO):Option aMQ:=aH (jA a) (a.2.2.2.2.2.1,a.2.2.2.2.2.2.1,a.2.2.2.2.2.2.2,a.1,a.2.1,a.2.2.1,a.2.2.2.1,a.2.2.2.2.1)
def V5:eM:=⟨[.l [.i .i64],.l [.b],.l [.i .i64],.n,.n,.i,.l [.i .i64,.i .i64,.i .i64,.i .i64,.i .i64],.l [.i .i64]],[.agg [.sl [.i .i64] [],.sl [.b] [],.sl [.i .i64] [],.pre 0 0 0 false,.own 1 false],.int .i64 0],[.arr [.i .i64,.i .i64,.i .i64,.i .i64,.i .i64] [],.arr [.i .i64] []],[.i,.l [.i .i64,.i .i64,.i .i64,.i .i64,.i .i64],.l [.i .i64]],.int .i64 0,[.arr [.i .i64,.i .i64,.i .i64,.i .i64,.i .i64] [],.arr [.i .i64] []],fun a=>pA a⟩
theorem MD:kS tab 151 V5:=kS.of VK (wd:=true) (cx:=(lT aG [(217,aBq)] [(148,I2),(148,I3)] [] [])) (jT.make ⟨GV,trivial⟩ ⟨yE,yF,trivial⟩ trivial) (fun a=>by kernel_rfl)
def lX (c0:aMO) (s:aMP):Option (bT aMP SI):=match s with |(a,b,d,e,f,g,h,i)=>bif decide ((bn h)<=(aA .i64 ((aA .i64 (2*a))+1))) then bif b.length==c0.2.2.2.2.2.2.1.length then bif d.length==c0.2.2.2.2.2.2.2.length then some (.done (b,d)) else none else none else bif decide ((aA .i64 ((aA .i64 ((aA .i64 (2*a))+1))+1))<(bn h)) then (aN (b.take h) (aA .i64 ((aA .i64 ((aA .i64 (2*a))+1))+1))).bind fun a0=>(aN (b.take h) (aA .i64 ((aA .i64 (2*a))+1))).bind fun a1=>(fI a0 a1).bind fun b2=>bif b2 then (aN (b.take h) (aA .i64 ((aA .i64 ((aA .i64 (2*a))+1))+1))).bind fun a3=>(aN (b.take h) a).bind fun a4=>(fI a3 a4).bind fun b5=>bif !b5 then bif b.length==c0.2.2.2.2.2.2.1.length then bif d.length==c0.2.2.2.2.2.2.2.length then some (.done (b,d)) else none else none else (hO (e,f,g,h,i,a,aA .i64 ((aA .i64 ((aA .i64 (2*a))+1))+1),b,d)).bind fun a6=>some (.next (aA .i64 ((aA .i64 ((aA .i64 (2*a))+1))+1),a6.1,a6.2,(e,f,g,h,i))) else (aN (b.take h) (aA .i64 ((aA .i64 (2*a))+1))).bind fun a7=>(aN (b.take h) a).bind fun a8=>(fI a7 a8).bind fun b9=>bif !b9 then bif b.length==c0.2.2.2.2.2.2.1.length then bif d.length==c0.2.2.2.2.2.2.2.length then some (.done (b,d)) else none else none else (hO (e,f,g,h,i,a,aA .i64 ((aA .i64 (2*a))+1),b,d)).bind fun a10=>some (.next (aA .i64 ((aA .i64 (2*a))+1),a10.1,a10.2,(e,f,g,h,i))) else (aN (b.take h) (aA .i64 ((aA .i64 (2*a))+1))).bind fun a11=>(aN (b.take h) a).bind fun a12=>(fI a11 a12).bind fun b13=>bif !b13 then bif b.length==c0.2.2.2.2.2.2.1.length then bif d.length==c0.2.2.2.2.2.2.2.length then some (.done (b,d)) else none else none else (hO (e,f,g,h,i,a,aA .i64 ((aA .i64 (2*a))+1),b,d)).bind fun a14=>some (.next (aA .i64 ((aA .i64 (2*a))+1),a14.1,a14.2,(e,f,g,h,i)))
def mJ (a:aMO):Option SI:=aH (lX a) (a.2.2.2.2.2.1,a.2.2.2.2.2.2.1,a.2.2.2.2.2.2.2,a.1,a.2.1,a.2.2.1,a.2.2.2.1,a.2.2.2.2.1)
def aBr:eM:=⟨[.l [.i .i64],.l [.b],.l [.i .i64],.n,.n,.i,.l [.i .i64,.i .i64,.i .i64,.i .i64,.i .i64],.l [.i .i64]],[.agg [.sl [.i .i64] [],.sl [.b] [],.sl [.i .i64] [],.pre 0 0 0 false,.own 1 false],.int .i64 0],[.arr [.i .i64,.i .i64,.i .i64,.i .i64,.i .i64] [],.arr [.i .i64] []],[.l [.i .i64,.i .i64,.i .i64,.i .i64,.i .i64],.l [.i .i64]],.tup [],[.arr [.i .i64,.i .i64,.i .i64,.i .i64,.i .i64] [],.arr [.i .i64] []],fun a=>mJ a⟩
theorem TX:kS tab 150 aBr:=kS.of aCF (wd:=false) (cx:=(lT aG [(217,aBq)] [(148,I2),(148,I3)] [] [])) (jT.make ⟨GV,trivial⟩ ⟨yE,yF,trivial⟩ trivial) (fun a=>by kernel_rfl)
end
end
end Go.Proofs.YtlnclppkepgdmaaGreat
