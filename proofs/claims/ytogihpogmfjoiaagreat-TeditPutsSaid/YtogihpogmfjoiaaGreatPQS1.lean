/- Plain functions for what the functions of the seat compute. Printed by a program. -/
import Derived.Test.YtogihpogmfjoiaaGreatPVm3
import Derived.Test.YtogihpogmfjoiaaGreatPQXT
open Int renaming ofNat->bn,tdiv->bo,tmod->bq
open List renaming replicate->bu
open Nat renaming ble->bv
set_option maxRecDepth 100000
namespace Go.Proofs.YtogihpogmfjoiaaGreat
open Go.Vm
noncomputable section
theorem Oc {f:FuncId} {x:aM} {α β:Type} {args:aC α} {res:aK β} {kd:Kd} {fn:α->Option β} {ow:Bool} (hf:tab f=some (.code x)) (ho:aGK kd ow=true) (lp:Option Nat) (l:List (Nat×bI)) (h:HT tab l) (e: ∀a,aOe (mJ lp l [] [] []) x args res kd a=fn a):aI tab f ⟨args,res,fn,kd,ow⟩:=aI.of hf (cx:=mJ lp l [] [] []) ho (jZ.make h trivial trivial) e
abbrev eE:List PT:=[.i .i64,.i .i64,.i .i64]
abbrev ki:List PT:=[.i .i64]
abbrev kb:List PT:=[.b]
abbrev mV:List PT:=[.i .i64,.i .i64,.i .i64,.i .i64,.i .i64]
abbrev kN:List PT:=[.i .i64,.i .i64]
abbrev ES:List PT:=[.b,.i .u64,.i .u64]
abbrev aUS:List PT:=[.i .i64,.i .i64,.i .i64,.i .i64]
abbrev kiu:List PT:=[.i .i64,.i .u64]
structure Field where
 aa:List (Int×Int×Int)
def bV:cP Field:=cP.iso (cP.sl eE) (fun p=>⟨p⟩) (fun c=>c.aa) (fun _=>rfl)
structure bC where
 ac:List Int
 ae:List Bool
 af:List Int
def gX:cP bC:=cP.iso (cP.prod (cP.sl ki) (cP.prod (cP.sl kb) (cP.sl ki))) (fun p=>⟨p.1,p.2.1,p.2.2⟩) (fun c=>(c.ac,c.ae,c.af)) (fun _=>rfl)
structure aO where
 ai:bC
 aj:List (Int×Int×Int×Int×Int)
 am:List Int
def dP:cP aO:=cP.iso (cP.prod gX (cP.prod (cP.sl mV) (cP.sl ki))) (fun p=>⟨p.1,p.2.1,p.2.2⟩) (fun c=>(c.ai,c.aj,c.am)) (fun _=>rfl)
structure bO where
 aq:Int
 ar:List (Int×Int×Int)
def iA:cP bO:=cP.iso (cP.prod (cP.int .i64) (cP.sl eE)) (fun p=>⟨p.1,p.2⟩) (fun c=>(c.aq,c.ar)) (fun _=>rfl)
structure aQ where
 au:Int×Int
 ax:Field
 ay:bO
 az:aO
 ba:List (Int×Int×Int)
def bW:cP aQ:=cP.iso (cP.prod (cP.row kN) (cP.prod bV (cP.prod iA (cP.prod dP (cP.sl eE))))) (fun p=>⟨p.1,p.2.1,p.2.2.1,p.2.2.2.1,p.2.2.2.2⟩) (fun c=>(c.au,c.ax,c.ay,c.az,c.ba)) (fun _=>rfl)
structure bE where
 bc:List Int
 be:List Int
def eH:cP bE:=cP.iso (cP.prod (cP.sl ki) (cP.sl ki)) (fun p=>⟨p.1,p.2⟩) (fun c=>(c.bc,c.be)) (fun _=>rfl)
structure cE where
 bg:aQ
 bi:bE
def eQ:cP cE:=cP.iso (cP.prod bW eH) (fun p=>⟨p.1,p.2⟩) (fun c=>(c.bg,c.bi)) (fun _=>rfl)
theorem yC:aI tab 221 (bI.clone kb):=aI.clone aKM rfl
theorem aE6:aI tab 296 (bI.add64):=aI.add64 aLx
theorem qA:aI tab 40 (bI.clone ki):=aI.clone aSo rfl
theorem CP:aI tab 75 (bI.clone eE):=aI.clone aSL rfl
theorem BM:aI tab 218 (bI.clone eE):=aI.clone aKJ rfl
theorem JI:aI tab 219 (bI.clone eE):=aI.clone aKK rfl
theorem yD:aI tab 220 (bI.clone mV):=aI.clone aKL rfl
theorem XE:aI tab 308 (bI.clone ki):=aI.clone aLG rfl
abbrev jB:aQ:=aQ.mk (0,0) (Field.mk []) (bO.mk 0 []) (aO.mk (bC.mk [] [] []) [] []) []
section
abbrev lJ:=List (Int×Int×Int×Int×Int)
abbrev cH:=List (Int×Int×Int)
abbrev tC:=List (Int×Int)
abbrev aDm:=tC×tC×Int×Int×Int×Int×cH×Int×cH×(List Int)×(List Bool)×(List Int)×lJ×(List Int)×cH×cH×Int×Int×Int
abbrev aUT:=bQ aDm (aQ×Int)
abbrev Zt1:=bQ aDm aUT
abbrev Zt3:=cH×Int×Int×Int×Int×cH×Int×cH×(List Int)×(List Bool)×(List Int)×lJ×(List Int)×cH×cH×Int×Int×Int×Int×Int×Int×cH×(List Int)×(List Bool)×(List Int)×lJ×(List Int)×cH×cH
abbrev aUU:=tC×cH×Int×Int×Int×Int×cH×Int×cH×(List Int)×(List Bool)×(List Int)×lJ×(List Int)×cH×cH×Int×Int×Int
abbrev Zt6:=bQ aUU (aQ×Int)
abbrev aUV:=cH×Int×Int×Int×Int×cH×Int×cH×(List Int)×(List Bool)×(List Int)×lJ×(List Int)×cH×cH×Int×Int×Int
abbrev Zt7:=bQ aUV (aQ×Int)
abbrev Zt8:=cH×cH×Int×Int×Int×Int×cH×Int×cH×(List Int)×(List Bool)×(List Int)×lJ×(List Int)×cH
abbrev Zt9:=tC×Int×Int×Int×Int×cH×Int×cH×(List Int)×(List Bool)×(List Int)×lJ×(List Int)×cH×Int×Int×Int
abbrev aUW:=Int×Int×Int×Int×cH×Int×cH×(List Int)×(List Bool)×(List Int)×lJ×(List Int)×cH×(List Int)
abbrev aUX:=bQ aUW Int
abbrev aS3:=Int×Int×Int×Int×cH×Int×cH×(List Int)×(List Bool)×(List Int)×lJ×(List Int)×cH
abbrev aUY:=bQ aS3 Int
abbrev aUZ:=Int×lJ×(List Int)×(List Int)×(List Bool)×(List Int)×Nat×Nat×Int×Int×Int×Int×Int
abbrev QZ:=lJ×(List Int)
abbrev aU0:=bQ aUZ QZ
abbrev aU1:=Int×lJ×(List Int)×(List Int)×(List Bool)×(List Int)×Int×Int×Int×Int×Int
abbrev aU2:=bQ aU1 QZ
abbrev aLH:=(List Int)×Int×Int×(List Int)×(List Int)×(List (Int×Bool))
abbrev aU3:=bQ aLH Int
abbrev aU4:=bQ aLH aU3
abbrev aU5:=lJ×Int×Int×(List Int)×(List Bool)×(List Int)×lJ×(List Int)×(List (List Int))
abbrev aU6:=Int×Int×lJ×(List Int)×(List Int)×(List Bool)×(List Int)×Nat×Nat×Int×Int×Int×Int×Int
abbrev aLI:=(List Int)×(List Bool)×(List Int)×Nat×Nat×Int×Int×Int×Int×Int×Int×lJ×(List Int)
abbrev aU7:=Int×Int×lJ×(List Int)×(List Int)×(List Bool)×(List Int)×Int×Int×Int×Int×Int
abbrev aU8:=Int×Int×(List Int)×(List Bool)×(List Int)×lJ×(List Int)×Int×Int×Int×Int×Int
abbrev aLJ:=(List Int)×(List Bool)×(List Int)×Int×Int×Int×Int×Int×Int×lJ×(List Int)
abbrev aU9:=(List Int)×Int×Int×(List Int)×(List Bool)×(List Int)×lJ×(List Int)
abbrev aVa:=bQ aU9 Int
abbrev aVb:=(List Int)×Int×Int×cH×Int×Int×(List (Int×Bool))
abbrev aVc:=bQ aVb (bE×Int)
abbrev JJ:=Int×(List Int)×(List Bool)×(List Int)×lJ×(List Int)
abbrev aS4:=bQ JJ Int
abbrev aS5:=Int×Int×(List Int)×(List Bool)×(List Int)×lJ×(List Int)
abbrev aVd:=Int×cH×Int×Int×Int×cH×(List (List Int))
abbrev aVe:=(List Int)×Int×Int×(List Int)×(List Bool)×(List Int)×Int×(List Bool)
abbrev aVf:=bQ aVe Int
abbrev aVg:=Int×(List Int)×Int×Int×Nat×Nat×Nat×Int×Int×(List Int)×tC
abbrev aVh:=bQ ((List Int)×Int×Int×(List Int)×tC) tC
abbrev aDn:=Int×cH×Int×Int×(List Int)×(List Int)
abbrev Q0:=cH×Int×Int×Int×Int
abbrev aE7:=bQ Q0 (Int×Bool)
abbrev aE8:=cH×Int×Int×cH
abbrev aE9:=Int×Int×(List Int)×(List Bool)×(List Int)×(List Bool)
abbrev aFa:=Int×Int×cH
abbrev aS6:=bQ aFa Int
abbrev aFb:=Int×cH
abbrev aFc:=Int×Int×(List Int)
variable [LP]
def vU (p0:Field):Option Bool:=bif decide (16<(bn p0.aa.length)) then bif decide ((bn p0.aa.length)<64) then some true else some (decide (70<(bn p0.aa.length))) else some (decide (70<(bn p0.aa.length)))
def c81:bI:=⟨aC.one (aK.agg bV),aK.bool,fun a=>vU a,.pure,false⟩
theorem aS7:aI tab 81 c81:=Oc aSO rfl aG [] trivial fun a=>by kernel_rfl
def ET (p0:bC):Option Bool:=bif decide (210<(bn p0.ac.length)) then some true else bif decide (210<(bn p0.ae.length)) then some true else some (decide (210<(bn p0.af.length)))
def aVi:bI:=⟨aC.one (aK.agg gX),aK.bool,fun a=>ET a,.pure,false⟩
theorem aLK:aI tab 136 aVi:=Oc aJV rfl aG [] trivial fun a=>by kernel_rfl
def EU (p0:aO):Option Bool:=(ET p0.ai).bind fun b0=>bif b0 then some true else bif decide (210<(bn p0.aj.length)) then some true else some (decide (210<(bn p0.am.length)))
def c82:bI:=⟨aC.one (aK.agg dP),aK.bool,fun a=>EU a,.pure,false⟩
theorem aS8:aI tab 82 c82:=Oc aSP rfl aG [(136,aVi)] ⟨aLK,trivial⟩ fun a=>by kernel_rfl
def vV (p0:aQ):Option Bool:=bif decide (40<(bn p0.ay.ar.length)) then some true else bif decide (40<(bn p0.ba.length)) then some true else (vU p0.ax).bind fun b0=>bif b0 then some true else (EU p0.az).bind fun b1=>some b1
def c35:bI:=⟨aC.one (aK.agg bW),aK.bool,fun a=>vV a,.pure,false⟩
theorem aS9:aI tab 35 c35:=Oc aSl rfl aG [(81,c81),(82,c82)] ⟨aS7,aS8,trivial⟩ fun a=>by kernel_rfl
def EV (p0:bE):Option Bool:=bif decide (70<(bn p0.bc.length)) then some true else some (decide (70<(bn p0.be.length)))
def c36:bI:=⟨aC.one (aK.agg eH),aK.bool,fun a=>EV a,.pure,false⟩
theorem aTa:aI tab 36 c36:=Oc aSm rfl aG [] trivial fun a=>by kernel_rfl
def vW (p0:cE):Option Bool:=(vV p0.bg).bind fun b0=>bif b0 then some true else (EV p0.bi).bind fun b1=>some b1
def c10:bI:=⟨aC.one (aK.agg eQ),aK.bool,fun a=>vW a,.pure,false⟩
theorem aTb:aI tab 10 c10:=Oc aSa rfl aG [(35,c35),(36,c36)] ⟨aS9,aTa,trivial⟩ fun a=>by kernel_rfl
def mW (p0:Field):Option Field:=(bU p0.aa).bind fun l0=>some (Field.mk l0)
def c83:bI:=⟨aC.one (aK.agg bV),aK.agg bV,fun a=>mW a,.own,true⟩
def aFd:bI:=⟨aC.one (aK.agg bV),aK.agg bV,fun a=>mW a,.frz,false⟩
theorem UH:aI tab 83 c83:=Oc aE3 rfl aG [] trivial fun a=>by kernel_rfl
theorem M1:aI tab 83 aFd:=Oc aE3 rfl aG [] trivial fun a=>by kernel_rfl
def qO (p0:bO):Option bO:=(bU p0.ar).bind fun l0=>some (bO.mk p0.aq l0)
def c84:bI:=⟨aC.one (aK.agg iA),aK.agg iA,fun a=>qO a,.own,true⟩
def aLL:bI:=⟨aC.one (aK.agg iA),aK.agg iA,fun a=>qO a,.frz,false⟩
theorem aAw:aI tab 84 c84:=Oc aE4 rfl aG [] trivial fun a=>by kernel_rfl
theorem UI:aI tab 84 aLL:=Oc aE4 rfl aG [] trivial fun a=>by kernel_rfl
def oK (p0:bC):Option bC:=(bU p0.ac).bind fun l0=>(bU p0.ae).bind fun l1=>(bU p0.af).bind fun l2=>some (bC.mk l0 l1 l2)
def aFe:bI:=⟨aC.one (aK.agg gX),aK.agg gX,fun a=>oK a,.own,true⟩
def XF:bI:=⟨aC.one (aK.agg gX),aK.agg gX,fun a=>oK a,.frz,false⟩
theorem M2:aI tab 137 aFe:=Oc aBF rfl aG [] trivial fun a=>by kernel_rfl
theorem JK:aI tab 137 XF:=Oc aBF rfl aG [] trivial fun a=>by kernel_rfl
def mX (p0:aO):Option aO:=(oK p0.ai).bind fun r0=>(bU p0.aj).bind fun l1=>(bU p0.am).bind fun l2=>some (aO.mk r0 l1 l2)
def c85:bI:=⟨aC.one (aK.agg dP),aK.agg dP,fun a=>mX a,.own,true⟩
def aDo:bI:=⟨aC.one (aK.agg dP),aK.agg dP,fun a=>mX a,.frz,false⟩
theorem O5:aI tab 85 c85:=Oc aE5 rfl aG [(137,aFe),(137,XF)] ⟨M2,JK,trivial⟩ fun a=>by kernel_rfl
theorem JL:aI tab 85 aDo:=Oc aE5 rfl aG [(137,aFe),(137,XF)] ⟨M2,JK,trivial⟩ fun a=>by kernel_rfl
def kA (p0:aQ):Option aQ:=(mW p0.ax).bind fun r0=>(qO p0.ay).bind fun r1=>(mX p0.az).bind fun r2=>(bU p0.ba).bind fun l3=>some (aQ.mk p0.au r0 r1 r2 l3)
def c37:bI:=⟨aC.one (aK.agg bW),aK.agg bW,fun a=>kA a,.own,true⟩
def aAx:bI:=⟨aC.one (aK.agg bW),aK.agg bW,fun a=>kA a,.frz,false⟩
theorem K3:aI tab 37 c37:=Oc aEZ rfl aG [(83,c83),(83,aFd),(84,c84),(84,aLL),(85,c85),(85,aDo)] ⟨UH,M1,aAw,UI,O5,JL,trivial⟩ fun a=>by kernel_rfl
theorem FY:aI tab 37 aAx:=Oc aEZ rfl aG [(83,c83),(83,aFd),(84,c84),(84,aLL),(85,c85),(85,aDo)] ⟨UH,M1,aAw,UI,O5,JL,trivial⟩ fun a=>by kernel_rfl
def CQ (p0:bE):Option bE:=(bU p0.bc).bind fun l0=>(bU p0.be).bind fun l1=>some (bE.mk l0 l1)
def c38:bI:=⟨aC.one (aK.agg eH),aK.agg eH,fun a=>CQ a,.own,true⟩
def aTd:bI:=⟨aC.one (aK.agg eH),aK.agg eH,fun a=>CQ a,.frz,false⟩
theorem aFf:aI tab 38 c38:=Oc aE0 rfl aG [] trivial fun a=>by kernel_rfl
theorem aBT:aI tab 38 aTd:=Oc aE0 rfl aG [] trivial fun a=>by kernel_rfl
def yE (p0:cE):Option cE:=(kA p0.bg).bind fun r0=>(CQ p0.bi).bind fun r1=>some (cE.mk r0 r1)
def c11:bI:=⟨aC.one (aK.agg eQ),aK.agg eQ,fun a=>yE a,.own,true⟩
def aVk:bI:=⟨aC.one (aK.agg eQ),aK.agg eQ,fun a=>yE a,.frz,false⟩
theorem aTe:aI tab 11 c11:=Oc aEY rfl aG [(37,c37),(37,aAx),(38,c38),(38,aTd)] ⟨K3,FY,aFf,aBT,trivial⟩ fun a=>by kernel_rfl
theorem aLM:aI tab 11 aVk:=Oc aEY rfl aG [(37,c37),(37,aAx),(38,c38),(38,aTd)] ⟨K3,FY,aFf,aBT,trivial⟩ fun a=>by kernel_rfl
def nN (p0:Int):Option Int:=bif decide (p0<0) then some (aA .u64 (0- (aA .u64 p0))) else some (aA .u64 p0)
def aLN:bI:=⟨aC.one (aK.int .i64),aK.int .u64,fun a=>nN a,.pure,false⟩
theorem UJ:aI tab 175 aLN:=Oc aKo rfl aG [] trivial fun a=>by kernel_rfl
def xG (s:(Int×Int)):Option (bQ (Int×Int) Int):=bif decide (0<s.2) then bif s.2==0 then none else some (.next (s.2,bq s.1 s.2)) else some (.done s.1)
def BN (p0:Int) (p1:Int):Option Int:=aH xG (p0,p1)
def aTf:bI:=⟨aC.cons (aK.int .u64) (aC.one (aK.int .u64)),aK.int .u64,fun a=>BN a.1 a.2,.pure,false⟩
theorem aBU:aI tab 174 aTf:=Oc aKn rfl aG [] trivial fun a=>by kernel_rfl
def iE (p0:Int×Int):Option Int:=bif decide (p0.2<1) then some 8 else bif p0.1==(-9223372036854775808) then some 8 else (nN p0.1).bind fun n0=>(BN (aA .u64 p0.2) n0).bind fun n1=>bif decide (1<n1) then some 8 else some 0
def XG:bI:=⟨aC.one (aK.agg (cP.row kN)),aK.int .i64,fun a=>iE a,.pure,false⟩
theorem CR:aI tab 121 XG:=Oc aJN rfl aG [(175,aLN),(174,aTf)] ⟨UJ,aBU,trivial⟩ fun a=>by kernel_rfl
def sA (p0:Int):Option Bool:=bif decide (p0<(-1048576)) then some true else some (decide (1048576<p0))
def aVl:bI:=⟨aC.one (aK.int .i64),aK.bool,fun a=>sA a,.pure,false⟩
theorem aLO:aI tab 123 aVl:=Oc aJO rfl aG [] trivial fun a=>by kernel_rfl
def kV (p0:Int×Int×Int):Option Int:=bif decide (p0.1<0) then some 8 else bif decide (65535<p0.1) then some 8 else (sA p0.2.1).bind fun b0=>bif b0 then some 8 else (sA p0.2.2).bind fun b1=>bif b1 then some 8 else some 0
def c72:bI:=⟨aC.one (aK.agg (cP.row eE)),aK.int .i64,fun a=>kV a,.pure,false⟩
theorem UK:aI tab 72 c72:=Oc aSI rfl aG [(123,aVl)] ⟨aLO,trivial⟩ fun a=>by kernel_rfl
def kB (s:aE8):Option (bQ aE8 (bQ aE8 Int)):=bif decide (s.2.2.1<s.2.1) then (aN s.1 s.2.2.1).bind fun a0=>bif decide (0<s.2.2.1) then (aN s.2.2.2 (aA .i64 (s.2.2.1-1))).bind fun a1=>bif decide (a0.1<=a1.1) then some (.done (.done 32)) else some (.next (s.1,s.2.1,aA .i64 (s.2.2.1+1),s.2.2.2)) else some (.next (s.1,s.2.1,aA .i64 (s.2.2.1+1),s.2.2.2)) else some (.done (.done 0))
def oL (s:aE8):Option (bQ aE8 Int):=bif decide (s.2.2.1<s.2.1) then (aN s.1 s.2.2.1).bind fun a0=>(kV a0).bind fun n1=>bif n1 !=0 then some (.done n1) else some (.next (s.1,s.2.1,aA .i64 (s.2.2.1+1),s.2.2.2)) else aH kB (s.2.2.2,bn s.2.2.2.length,0,s.2.2.2)
def dR (p0:Field):Option Int:=bif decide (64<(bn p0.aa.length)) then some 4 else aH oL (p0.aa,bn p0.aa.length,0,p0.aa)
def c71:bI:=⟨aC.one (aK.agg bV),aK.int .i64,fun a=>dR a,.pure,false⟩
theorem HV:aI tab 71 c71:=Oc aSH rfl aG [(72,c72)] ⟨UK,trivial⟩ fun a=>by kernel_rfl
def yF (p0:Int×Int):Option Bool:=bif decide (0<=(if p0.2<p0.1 then p0.2 else p0.1)) then bif decide ((if p0.2>p0.1 then p0.2 else p0.1)<=65535) then some (p0.1 !=p0.2) else some false else some false
def aTg:bI:=⟨aC.one (aK.agg (cP.row kN)),aK.bool,fun a=>yF a,.pure,false⟩
theorem aBV:aI tab 190 aTg:=Oc aKx rfl aG [] trivial fun a=>by kernel_rfl
def uL (s:aVd):Option (bQ aVd Int):=bif decide (s.2.2.2.1<s.2.2.1) then (aN s.2.1 s.2.2.2.1).bind fun a0=>(yF a0.2).bind fun b1=>bif !b1 then some (.done 8) else (WG s.2.2.2.2.2.2 [a0.2.1,a0.2.2]).bind fun b2=>bif b2 then some (.done 8) else bif decide (a0.1<=s.1) then some (.done 8) else bif decide (s.2.2.2.2.1<=a0.1) then some (.done 8) else (WH s.2.2.2.2.2.2 [a0.2.1,a0.2.2]).bind fun l3=>some (.next (a0.1,s.2.1,s.2.2.1,aA .i64 (s.2.2.2.1+1),s.2.2.2.2.1,s.2.2.2.2.2.1,l3)) else some (.done 0)
def tP (p0:bO):Option Int:=bif decide (200<(bn p0.ar.length)) then some 8 else bif decide (p0.aq<0) then some 8 else bif decide (1000000<p0.aq) then some 8 else aH uL (-1,p0.ar,bn p0.ar.length,0,p0.aq,p0.ar,[])
def aLP:bI:=⟨aC.one (aK.agg iA),aK.int .i64,fun a=>tP a,.pure,false⟩
theorem UL:aI tab 138 aLP:=Oc aJW rfl aG [(190,aTg)] ⟨aBV,trivial⟩ fun a=>by kernel_rfl
def iF (s:((List Bool)×Bool×Int×Int)):Option (bQ ((List Bool)×Bool×Int×Int) Int):=bif decide (s.2.2.2<s.2.2.1) then (aN s.1 s.2.2.2).bind fun b0=>bif s.2.1==b0 then some (.done s.2.2.2) else some (.next (s.1,s.2.1,s.2.2.1,aA .i64 (s.2.2.2+1))) else some (.done (-1))
def sB (p0:List Bool) (p1:Bool):Option Int:=aH iF (p0,p1,bn p0.length,0)
def aVn:bI:=⟨aC.cons (aK.sl kb) (aC.one aK.bool),aK.int .i64,fun a=>sB a.1 a.2,.pure,false⟩
theorem aLQ:aI tab 282 aVn:=Oc aLr rfl aG [] trivial fun a=>by kernel_rfl
def eS (p0:List Bool) (p1:Bool):Option Bool:=(sB p0 p1).bind fun n0=>some (decide (0<=n0))
def aVo:bI:=⟨aC.cons (aK.sl kb) (aC.one aK.bool),aK.bool,fun a=>eS a.1 a.2,.pure,false⟩
theorem aLR:aI tab 245 aVo:=Oc aK6 rfl aG [(282,aVn)] ⟨aLQ,trivial⟩ fun a=>by kernel_rfl
def iB (s:((List Int)×Int×Int×(List Int)×(List Bool)×(List Int))):Option (bQ ((List Int)×Int×Int×(List Int)×(List Bool)×(List Int)) aVf):=bif decide (s.2.2.1<s.2.1) then (aN s.1 s.2.2.1).bind fun n0=>bif decide (n0<0) then some (.done (.done 8)) else bif decide (1000000<n0) then some (.done (.done 8)) else bif n0==0 then (aN s.2.2.2.2.1 s.2.2.1).bind fun b1=>bif b1 then some (.done (.done 8)) else some (.next (s.1,s.2.1,aA .i64 (s.2.2.1+1),s.2.2.2)) else some (.next (s.1,s.2.1,aA .i64 (s.2.2.1+1),s.2.2.2)) else some (.done (.done 0))
def uM (c0:(List Bool)) (s:aVe):Option aVf:=match s with |(a,b,d,e,f,g,h,i)=>bif decide (d<b) then (aN a d).bind fun n0=>bif decide (n0<0) then bif i.length==i.length then bif i.length==c0.length then bif i.length==c0.length then bif decide (0<=d) then some (.done 8) else (eS i false).bind fun b1=>bif b1 then some (.done 8) else aH iB (e,bn e.length,0,e,f,g) else none else none else none else bif decide (h<=n0) then bif i.length==i.length then bif i.length==c0.length then bif i.length==c0.length then bif decide (0<=d) then some (.done 8) else (eS i false).bind fun b2=>bif b2 then some (.done 8) else aH iB (e,bn e.length,0,e,f,g) else none else none else none else (aN i n0).bind fun b3=>bif b3 then bif i.length==i.length then bif i.length==c0.length then bif i.length==c0.length then bif decide (0<=d) then some (.done 8) else (eS i false).bind fun b4=>bif b4 then some (.done 8) else aH iB (e,bn e.length,0,e,f,g) else none else none else none else (aN i n0).bind fun _=>bif ((cL i n0 true).length)==i.length then some (.next (a,b,aA .i64 (d+1),e,f,g,h,cL i n0 true)) else none else bif i.length==c0.length then bif i.length==c0.length then (eS i false).bind fun b6=>bif b6 then some (.done 8) else aH iB (e,bn e.length,0,e,f,g) else none else none
def tQ (p0:bC):Option Int:=bif decide ((bn p0.ac.length)<1) then some 8 else bif decide (200<(bn p0.ac.length)) then some 8 else bif (bn p0.ae.length) !=(bn p0.ac.length) then some 8 else (bU p0.ae).bind fun l0=>aH (uM l0) (p0.af,bn p0.af.length,0,p0.ac,p0.ae,p0.af,bn p0.ac.length,l0)
def aLS:bI:=⟨aC.one (aK.agg gX),aK.int .i64,fun a=>tQ a,.pure,false⟩
theorem UM:aI tab 191 aLS:=aI.of aKy (cx:=(mJ aG [(221,bI.clone kb),(245,aVo)] [] [(196,aAv),(95,x95),(244,aIA)] [])) rfl (jZ.make ⟨yC,aLR,trivial⟩ trivial ⟨M0,O4,aK5,trivial⟩) (fun a=>by kernel_rfl)
def CS (p0:Int×Int) (p1:Int×Int):Option Int:=(iE p0).bind fun n0=>(iE p1).bind fun n1=>some (if n1>n0 then n1 else n0)
def aVp:bI:=⟨aC.cons (aK.agg (cP.row kN)) (aC.one (aK.agg (cP.row kN))),aK.int .i64,fun a=>CS a.1 a.2,.pure,false⟩
theorem aLT:aI tab 183 aVp:=Oc aKs rfl aG [(121,XG)] ⟨CR,trivial⟩ fun a=>by kernel_rfl
def qB (p0:Int):Option Bool:=some (p0 !=p0)
def aVq:bI:=⟨aC.one (aK.int .i64),aK.bool,fun a=>qB a,.pure,false⟩
theorem aLU:aI tab 237 aVq:=Oc aKZ rfl aG [] trivial fun a=>by kernel_rfl
def kW (p0:Int) (p1:Int):Option Int:=(qB p0).bind fun b0=>(qB p1).bind fun b1=>bif b0 then bif b1 then some 0 else some (-1) else bif b1 then some 1 else bif decide (p0<p1) then some (-1) else bif decide (p1<p0) then some 1 else some 0
def aTh:bI:=⟨aC.cons (aK.int .i64) (aC.one (aK.int .i64)),aK.int .i64,fun a=>kW a.1 a.2,.pure,false⟩
theorem aBW:aI tab 184 aTh:=Oc aKt rfl aG [(237,aVq)] ⟨aLU,trivial⟩ fun a=>by kernel_rfl
def gW (p0:Int) (p1:Int):Option (Int×Int):=some (aA .u64 ((aA .u64 ((aA .u64 ((rQ .u64 p0 32)*(rQ .u64 p1 32)))+(rQ .u64 (aA .u64 ((aA .u64 ((rQ .u64 p0 32)*(HK .u64 p1 4294967295)))+(rQ .u64 (aA .u64 ((HK .u64 p0 4294967295)*(HK .u64 p1 4294967295))) 32))) 32)))+(rQ .u64 (aA .u64 ((HK .u64 (aA .u64 ((aA .u64 ((rQ .u64 p0 32)*(HK .u64 p1 4294967295)))+(rQ .u64 (aA .u64 ((HK .u64 p0 4294967295)*(HK .u64 p1 4294967295))) 32))) 4294967295)+(aA .u64 ((HK .u64 p0 4294967295)*(rQ .u64 p1 32))))) 32)),aA .u64 (p0*p1))
def aLV:bI:=⟨aC.cons (aK.int .u64) (aC.one (aK.int .u64)),aK.tup (aC.cons (aK.int .u64) (aC.one (aK.int .u64))),fun a=>gW a.1 a.2,.pure,false⟩
theorem UN:aI tab 151 aLV:=Oc aJ2 rfl aG [] trivial fun a=>by kernel_rfl
def vX (p0:Int) (p1:Int):Option (Bool×Int×Int):=(nN p0).bind fun n0=>(nN p1).bind fun n1=>(gW n0 n1).bind fun a2=>some (!((decide (p0<0))==(decide (p1<0))),a2)
def aVr:bI:=⟨aC.cons (aK.int .i64) (aC.one (aK.int .i64)),aK.agg (cP.row ES),fun a=>vX a.1 a.2,.pure,false⟩
theorem aLW:aI tab 186 aVr:=Oc aKv rfl aG [(175,aLN),(151,aLV)] ⟨UJ,UN,trivial⟩ fun a=>by kernel_rfl
def pA (p0:Int):Option Bool:=some (p0 !=p0)
def aVs:bI:=⟨aC.one (aK.int .u64),aK.bool,fun a=>pA a,.pure,false⟩
theorem aLX:aI tab 275 aVs:=Oc aLk rfl aG [] trivial fun a=>by kernel_rfl
def kC (p0:Int) (p1:Int):Option Int:=(pA p0).bind fun b0=>(pA p1).bind fun b1=>bif b0 then bif b1 then some 0 else some (-1) else bif b1 then some 1 else bif decide (p0<p1) then some (-1) else bif decide (p1<p0) then some 1 else some 0
def aVt:bI:=⟨aC.cons (aK.int .u64) (aC.one (aK.int .u64)),aK.int .i64,fun a=>kC a.1 a.2,.pure,false⟩
theorem aLY:aI tab 238 aVt:=Oc aK0 rfl aG [(275,aVs)] ⟨aLX,trivial⟩ fun a=>by kernel_rfl
def uN (p0:Bool×Int×Int) (p1:Bool×Int×Int):Option Int:=(kC p0.2.1 p1.2.1).bind fun n0=>bif n0 !=0 then some n0 else (kC p0.2.2 p1.2.2).bind fun n1=>some n1
def aVu:bI:=⟨aC.cons (aK.agg (cP.row ES)) (aC.one (aK.agg (cP.row ES))),aK.int .i64,fun a=>uN a.1 a.2,.pure,false⟩
theorem aLZ:aI tab 185 aVu:=Oc aKu rfl aG [(238,aVt)] ⟨aLY,trivial⟩ fun a=>by kernel_rfl
def FZ (p0:Int×Int) (p1:Int×Int):Option (Int×Int):=(CS p0 p1).bind fun n0=>bif n0 !=0 then some (0,n0) else bif !((decide (p0.1<0))==(decide (p1.1<0))) then (kW p0.1 p1.1).bind fun n1=>some (n1,0) else (vX p0.1 p1.2).bind fun a2=>(vX p1.1 p0.2).bind fun a3=>(uN a2 a3).bind fun n4=>bif decide (p0.1<0) then some (aA .i64 (0-n4),0) else some (n4,0)
def aVv:bI:=⟨aC.cons (aK.agg (cP.row kN)) (aC.one (aK.agg (cP.row kN))),aK.tup (aC.cons (aK.int .i64) (aC.one (aK.int .i64))),fun a=>FZ a.1 a.2,.pure,false⟩
theorem aL0:aI tab 133 aVv:=Oc aJU rfl aG [(183,aVp),(184,aTh),(186,aVr),(185,aVu)] ⟨aLT,aBW,aLW,aLZ,trivial⟩ fun a=>by kernel_rfl
def uO (p0:Int):Option Bool:=some (p0 !=p0)
def aVw:bI:=⟨aC.one (aK.int .i64),aK.bool,fun a=>uO a,.pure,false⟩
theorem aL1:aI tab 177 aVw:=Oc aKp rfl aG [] trivial fun a=>by kernel_rfl
def fA (p0:Int) (p1:Int):Option Int:=(uO p0).bind fun b0=>(uO p1).bind fun b1=>bif b0 then bif b1 then some 0 else some (-1) else bif b1 then some 1 else bif decide (p0<p1) then some (-1) else bif decide (p1<p0) then some 1 else some 0
def XH:bI:=⟨aC.cons (aK.int .i64) (aC.one (aK.int .i64)),aK.int .i64,fun a=>fA a.1 a.2,.pure,false⟩
theorem CT:aI tab 126 XH:=Oc aJQ rfl aG [(177,aVw)] ⟨aL1,trivial⟩ fun a=>by kernel_rfl
def AR (s:(Int×(List Int)×Int×Int)):Option (bQ (Int×(List Int)×Int×Int) Int):=bif decide (s.2.2.2<s.2.2.1) then (aN s.2.1 s.2.2.2).bind fun n0=>bif n0 !=s.1 then some (.done n0) else some (.next (s.1,s.2.1,s.2.2.1,aA .i64 (s.2.2.2+1))) else some (.done s.1)
def yG (p0:List Int):Option Int:=aH AR (0,p0,bn p0.length,0)
def aTi:bI:=⟨aC.one (aK.sl ki),aK.int .i64,fun a=>yG a,.pure,false⟩
theorem aBX:aI tab 246 aTi:=Oc aK7 rfl aG [] trivial fun a=>by kernel_rfl
def cQ (p0:Int×Int×Int×Int×Int) (p1:Int×Int×Int×Int×Int):Option Int:=(FZ (p0.1,p0.2.1) (p1.1,p1.2.1)).bind fun a0=>(fA p0.2.2.1 p1.2.2.1).bind fun n1=>(yG [a0.1,n1]).bind fun n2=>some n2
def aL2:bI:=⟨aC.cons (aK.agg (cP.row mV)) (aC.one (aK.agg (cP.row mV))),aK.int .i64,fun a=>cQ a.1 a.2,.pure,false⟩
theorem UO:aI tab 192 aL2:=Oc aKz rfl aG [(133,aVv),(126,XH),(246,aTi)] ⟨aL0,CT,aBX,trivial⟩ fun a=>by kernel_rfl
def kO (s:aU5):Option (bQ aU5 aVa):=bif decide (s.2.2.1<s.2.1) then (aN s.1 s.2.2.1).bind fun a0=>(iE (a0.1,a0.2.1)).bind fun n1=>bif n1 !=0 then some (.done (.done 8)) else bif decide (a0.2.2.1<0) then some (.done (.done 8)) else bif decide (1000000<a0.2.2.1) then some (.done (.done 8)) else (WG s.2.2.2.2.2.2.2.2 [a0.2.2.1]).bind fun b2=>bif b2 then some (.done (.done 8)) else (WH s.2.2.2.2.2.2.2.2 [a0.2.2.1]).bind fun l3=>bif decide (0<s.2.2.1) then (aN s.2.2.2.2.2.2.1 (aA .i64 (bo (aA .i64 (s.2.2.1-1)) 2))).bind fun a4=>(cQ a0 a4).bind fun n5=>bif decide (n5<0) then some (.done (.done 8)) else some (.next (s.1,s.2.1,aA .i64 (s.2.2.1+1),s.2.2.2.1,s.2.2.2.2.1,s.2.2.2.2.2.1,s.2.2.2.2.2.2.1,s.2.2.2.2.2.2.2.1,l3)) else some (.next (s.1,s.2.1,aA .i64 (s.2.2.1+1),s.2.2.2.1,s.2.2.2.2.1,s.2.2.2.2.2.1,s.2.2.2.2.2.2.1,s.2.2.2.2.2.2.2.1,l3)) else some (.done (.done 0))
def nK (s:aU9):Option aVa:=bif decide (s.2.2.1<s.2.1) then (aN s.1 s.2.2.1).bind fun n0=>(aN s.2.2.2.2.1 s.2.2.1).bind fun b1=>bif !b1 then bif n0 !=(-1) then some (.done 8) else some (.next (s.1,s.2.1,aA .i64 (s.2.2.1+1),s.2.2.2)) else bif decide (n0<0) then some (.done 8) else bif decide ((bn s.2.2.2.2.2.2.1.length)<=n0) then some (.done 8) else (aN s.2.2.2.2.2.2.1 n0).bind fun a2=>(aN s.2.2.2.1 s.2.2.1).bind fun n3=>bif !((a2.2.2.2.1==s.2.2.1)&&(a2.2.2.2.2==n3)) then some (.done 8) else some (.next (s.1,s.2.1,aA .i64 (s.2.2.1+1),s.2.2.2)) else aH kO (s.2.2.2.2.2.2.1,bn s.2.2.2.2.2.2.1.length,0,s.2.2.2.1,s.2.2.2.2.1,s.2.2.2.2.2.1,s.2.2.2.2.2.2.1,s.2.2.2.2.2.2.2,[])
def mY (p0:aO):Option Int:=(tQ p0.ai).bind fun n0=>bif n0 !=0 then some 8 else bif (bn p0.am.length) !=(bn p0.ai.ae.length) then some 8 else bif (bn p0.aj.length) !=(aA .i64 ((bn p0.ai.ae.length) - (bn p0.ai.af.length))) then some 8 else aH nK (p0.am,bn p0.am.length,0,p0.ai.ac,p0.ai.ae,p0.ai.af,p0.aj,p0.am)
def aFg:bI:=⟨aC.one (aK.agg dP),aK.int .i64,fun a=>mY a,.pure,false⟩
theorem M3:aI tab 139 aFg:=Oc aJX rfl aG [(191,aLS),(121,XG),(192,aL2)] ⟨UM,CR,UO,trivial⟩ fun a=>by kernel_rfl
def AS (p0:Int×Int×Int) (p1:Int):Option Int:=(fA p0.1 p1).bind fun n0=>some n0
def aVx:bI:=⟨aC.cons (aK.agg (cP.row eE)) (aC.one (aK.int .i64)),aK.int .i64,fun a=>AS a.1 a.2,.pure,false⟩
theorem aL3:aI tab 248 aVx:=Oc aK9 rfl aG [(126,XH)] ⟨CT,trivial⟩ fun a=>by kernel_rfl
def jR (s:Q0):Option aE7:=bif decide (s.2.2.2.1<s.2.2.2.2) then (aN s.1 (aA .i64 (rQ .u64 (aA .u64 (aA .i64 (s.2.2.2.1+s.2.2.2.2))) 1))).bind fun a0=>(AS a0 s.2.1).bind fun n1=>bif decide (n1<0) then some (.next (s.1,s.2.1,s.2.2.1,aA .i64 ((aA .i64 (rQ .u64 (aA .u64 (aA .i64 (s.2.2.2.1+s.2.2.2.2))) 1))+1),s.2.2.2.2)) else some (.next (s.1,s.2.1,s.2.2.1,s.2.2.2.1,aA .i64 (rQ .u64 (aA .u64 (aA .i64 (s.2.2.2.1+s.2.2.2.2))) 1))) else bif decide (s.2.2.2.1<s.2.2.1) then (aN s.1 s.2.2.2.1).bind fun a2=>(AS a2 s.2.1).bind fun n3=>some (.done (s.2.2.2.1,n3==0)) else some (.done (s.2.2.2.1,false))
def dH (p0:List (Int×Int×Int)) (p1:Int) (_:Unit):Option (Int×Bool):=aH jR (p0,p1,bn p0.length,0,bn p0.length)
def XI:bI:=⟨aC.cons (aK.sl eE) (aC.cons (aK.int .i64) (aC.one (aK.clo 248 aC.nil))),aK.tup (aC.cons (aK.int .i64) (aC.one aK.bool)),fun a=>dH a.1 a.2.1 a.2.2,.pure,false⟩
theorem XJ:aI tab 124 XI:=Oc T9 rfl aG [(248,aVx)] ⟨aL3,trivial⟩ fun a=>by kernel_rfl
def kX (p0:Field) (p1:Int):Option (Int×Int×Int):=(dH p0.aa p1 ()).bind fun a0=>bif !a0.2 then some (-1,0,0) else (aN p0.aa a0.1).bind fun a1=>some a1
def aL4:bI:=⟨aC.cons (aK.agg bV) (aC.one (aK.int .i64)),aK.agg (cP.row eE),fun a=>kX a.1 a.2,.pure,false⟩
theorem UP:aI tab 194 aL4:=Oc aKB rfl aG [(124,XI)] ⟨XJ,trivial⟩ fun a=>by kernel_rfl
def tR (p0:Int×Int×Int) (p1:Int×Int×Int) (p2:Int×Int):Option Int:=(kV p0).bind fun n0=>(kV p1).bind fun n1=>(iE p2).bind fun n2=>bif (if n2>(if n1>n0 then n1 else n0) then n2 else if n1>n0 then n1 else n0) !=0 then some (if n2>(if n1>n0 then n1 else n0) then n2 else if n1>n0 then n1 else n0) else bif p0.1==p1.1 then some 2 else some 0
def aL5:bI:=⟨aC.cons (aK.agg (cP.row eE)) (aC.cons (aK.agg (cP.row eE)) (aC.one (aK.agg (cP.row kN)))),aK.int .i64,fun a=>tR a.1 a.2.1 a.2.2,.pure,false⟩
theorem UQ:aI tab 235 aL5:=Oc aKX rfl aG [(72,c72),(121,XG)] ⟨UK,CR,trivial⟩ fun a=>by kernel_rfl
def pQ (s:(Int×Int×Int×Int×Int×Int×Int×Int×Int)):Option (bQ (Int×Int×Int×Int×Int×Int×Int×Int×Int) (Int×Int)):=bif decide (s.2.2.2.2.1<2) then bif s.2.2.2.2.1==0 then (gW (aA .u64 s.1) (aA .u64 s.2.1)).bind fun a0=>bif decide (s.1<0) then bif decide (s.2.1<0) then (tO s.2.2.2.2.2.2.2.2 a0.2 0).bind fun a1=>some (.next (s.1,s.2.1,s.2.2.1,s.2.2.2.1,aA .i64 (s.2.2.2.2.1+1),s.2.2.2.2.2.1,s.2.2.2.2.2.2.1,aA .i64 ((aA .i64 (s.2.2.2.2.2.2.2.1+(aA .i64 ((aA .i64 ((aA .i64 a0.1) -s.2.1)) -s.1))))+(aA .i64 a1.2)),a1.1)) else (tO s.2.2.2.2.2.2.2.2 a0.2 0).bind fun a2=>some (.next (s.1,s.2.1,s.2.2.1,s.2.2.2.1,aA .i64 (s.2.2.2.2.1+1),s.2.2.2.2.2.1,s.2.2.2.2.2.2.1,aA .i64 ((aA .i64 (s.2.2.2.2.2.2.2.1+(aA .i64 ((aA .i64 a0.1) -s.2.1))))+(aA .i64 a2.2)),a2.1)) else bif decide (s.2.1<0) then (tO s.2.2.2.2.2.2.2.2 a0.2 0).bind fun a3=>some (.next (s.1,s.2.1,s.2.2.1,s.2.2.2.1,aA .i64 (s.2.2.2.2.1+1),s.2.2.2.2.2.1,s.2.2.2.2.2.2.1,aA .i64 ((aA .i64 (s.2.2.2.2.2.2.2.1+(aA .i64 ((aA .i64 a0.1) -s.1))))+(aA .i64 a3.2)),a3.1)) else (tO s.2.2.2.2.2.2.2.2 a0.2 0).bind fun a4=>some (.next (s.1,s.2.1,s.2.2.1,s.2.2.2.1,aA .i64 (s.2.2.2.2.1+1),s.2.2.2.2.2.1,s.2.2.2.2.2.2.1,aA .i64 ((aA .i64 (s.2.2.2.2.2.2.2.1+(aA .i64 a0.1)))+(aA .i64 a4.2)),a4.1)) else bif s.2.2.2.2.1==1 then (gW (aA .u64 s.2.2.1) (aA .u64 s.2.2.2.1)).bind fun a5=>bif decide (s.2.2.1<0) then bif decide (s.2.2.2.1<0) then (tO s.2.2.2.2.2.2.2.2 a5.2 0).bind fun a6=>some (.next (s.1,s.2.1,s.2.2.1,s.2.2.2.1,aA .i64 (s.2.2.2.2.1+1),s.2.2.2.2.2.1,s.2.2.2.2.2.2.1,aA .i64 ((aA .i64 (s.2.2.2.2.2.2.2.1+(aA .i64 ((aA .i64 ((aA .i64 a5.1) -s.2.2.2.1)) -s.2.2.1))))+(aA .i64 a6.2)),a6.1)) else (tO s.2.2.2.2.2.2.2.2 a5.2 0).bind fun a7=>some (.next (s.1,s.2.1,s.2.2.1,s.2.2.2.1,aA .i64 (s.2.2.2.2.1+1),s.2.2.2.2.2.1,s.2.2.2.2.2.2.1,aA .i64 ((aA .i64 (s.2.2.2.2.2.2.2.1+(aA .i64 ((aA .i64 a5.1) -s.2.2.2.1))))+(aA .i64 a7.2)),a7.1)) else bif decide (s.2.2.2.1<0) then (tO s.2.2.2.2.2.2.2.2 a5.2 0).bind fun a8=>some (.next (s.1,s.2.1,s.2.2.1,s.2.2.2.1,aA .i64 (s.2.2.2.2.1+1),s.2.2.2.2.2.1,s.2.2.2.2.2.2.1,aA .i64 ((aA .i64 (s.2.2.2.2.2.2.2.1+(aA .i64 ((aA .i64 a5.1) -s.2.2.1))))+(aA .i64 a8.2)),a8.1)) else (tO s.2.2.2.2.2.2.2.2 a5.2 0).bind fun a9=>some (.next (s.1,s.2.1,s.2.2.1,s.2.2.2.1,aA .i64 (s.2.2.2.2.1+1),s.2.2.2.2.2.1,s.2.2.2.2.2.2.1,aA .i64 ((aA .i64 (s.2.2.2.2.2.2.2.1+(aA .i64 a5.1)))+(aA .i64 a9.2)),a9.1)) else none else some (.done s.2.2.2.2.2.2.2)
def CU (p0:Int×Int×Int×Int):Option (Int×Int):=aH pQ (p0.1,p0.2.1,p0.2.2.1,p0.2.2.2,0,0,0,0,0)
def aVy:bI:=⟨aC.one (aK.agg (cP.row aUS)),aK.agg (cP.row kiu),fun a=>CU a,.pure,false⟩
theorem aL6:aI tab 274 aVy:=Oc aLj rfl aG [(151,aLV),(296,bI.add64)] ⟨UN,aE6,trivial⟩ fun a=>by kernel_rfl
def oM (p0:Int×Int×Int) (p1:Int×Int×Int) (p2:Int×Int):Option Int:=(CU (aA .i64 (p0.2.1-p1.2.1),p2.2,aA .i64 (p0.2.2-p1.2.2),p2.1)).bind fun a0=>bif !((a0.1==0)&&(a0.2==0)) then bif decide (a0.1<0) then some (-1) else some 1 else (kW p0.2.2 p1.2.2).bind fun n1=>(fA p1.1 p0.1).bind fun n2=>(yG [n1,n2]).bind fun n3=>some n3
def aTj:bI:=⟨aC.cons (aK.agg (cP.row eE)) (aC.cons (aK.agg (cP.row eE)) (aC.one (aK.agg (cP.row kN)))),aK.int .i64,fun a=>oM a.1 a.2.1 a.2.2,.pure,false⟩
theorem aBY:aI tab 236 aTj:=Oc aKY rfl aG [(274,aVy),(184,aTh),(126,XH),(246,aTi)] ⟨aL6,aBW,CT,aBX,trivial⟩ fun a=>by kernel_rfl
def EW (p0:Bool×Int×Int) (p1:Int) (p2:Int):Option ((Int×Int)×Int):=bif decide (0<p0.2.1) then some ((0,0),16) else bif decide (9223372036854775807<p0.2.2) then some ((0,0),16) else bif decide (0<p1) then some ((0,0),16) else bif decide (9223372036854775807<p2) then some ((0,0),16) else bif p0.1 then some ((aA .i64 (0- (aA .i64 p0.2.2)),aA .i64 p2),0) else some ((aA .i64 p0.2.2,aA .i64 p2),0)
def aVz:bI:=⟨aC.cons (aK.agg (cP.row ES)) (aC.cons (aK.int .u64) (aC.one (aK.int .u64))),aK.tup (aC.cons (aK.agg (cP.row kN)) (aC.one (aK.int .i64))),fun a=>EW a.1 a.2.1 a.2.2,.pure,false⟩
theorem aL7:aI tab 301 aVz:=Oc aLC rfl aG [] trivial fun a=>by kernel_rfl
def CV (p0:Int) (p1:Int):Option ((Int×Int)×Int):=bif p1==0 then some ((0,0),26) else (nN p0).bind fun n0=>(nN p1).bind fun n1=>(BN n0 n1).bind fun n2=>(nN p0).bind fun n3=>bif n2==0 then none else (nN p1).bind fun n4=>bif n2==0 then none else (EW (!((decide (p0<0))==(decide (p1<0))),0,aA .u64 (bo n3 n2)) 0 (aA .u64 (bo n4 n2))).bind fun a5=>some a5
def aVA:bI:=⟨aC.cons (aK.int .i64) (aC.one (aK.int .i64)),aK.tup (aC.cons (aK.agg (cP.row kN)) (aC.one (aK.int .i64))),fun a=>CV a.1 a.2,.pure,false⟩
theorem aL8:aI tab 283 aVA:=Oc aLs rfl aG [(175,aLN),(174,aTf),(301,aVz)] ⟨UJ,aBU,aL7,trivial⟩ fun a=>by kernel_rfl
def EX (p0:Int×Int×Int) (p1:Int×Int×Int):Option ((Int×Int)×Int):=(tR p0 p1 (0,1)).bind fun n0=>bif n0 !=0 then some ((0,0),n0) else bif p0.2.2==p1.2.2 then some ((0,0),6) else (CV (aA .i64 (p0.2.1-p1.2.1)) (aA .i64 (p1.2.2-p0.2.2))).bind fun a1=>some a1
def aVB:bI:=⟨aC.cons (aK.agg (cP.row eE)) (aC.one (aK.agg (cP.row eE))),aK.tup (aC.cons (aK.agg (cP.row kN)) (aC.one (aK.int .i64))),fun a=>EX a.1 a.2,.pure,false⟩
theorem aL9:aI tab 247 aVB:=Oc aK8 rfl aG [(235,aL5),(283,aVA)] ⟨UQ,aL8,trivial⟩ fun a=>by kernel_rfl
def xH (p0:Int×Int×Int) (p1:Int×Int×Int) (p2:Int×Int):Option ((Int×Int)×Bool×Int):=(tR p0 p1 p2).bind fun n0=>bif n0 !=0 then some ((0,0),false,n0) else (oM p1 p0 p2).bind fun n1=>bif decide (0<n1) then some (p2,true,0) else bif decide (p1.2.2<=p0.2.2) then some ((0,0),false,0) else (EX p0 p1).bind fun a2=>some (a2.1,a2.2==0,a2.2)
def aVC:bI:=⟨aC.cons (aK.agg (cP.row eE)) (aC.cons (aK.agg (cP.row eE)) (aC.one (aK.agg (cP.row kN)))),aK.tup (aC.cons (aK.agg (cP.row kN)) (aC.cons aK.bool (aC.one (aK.int .i64)))),fun a=>xH a.1 a.2.1 a.2.2,.pure,false⟩
theorem aMa:aI tab 193 aVC:=Oc aKA rfl aG [(235,aL5),(236,aTj),(247,aVB)] ⟨UQ,aBY,aL9,trivial⟩ fun a=>by kernel_rfl
def tT (p0:Field) (p1:Int×Int) (p2:Int×Int):Option ((Int×Int)×Bool×Int):=(kX p0 p1.2).bind fun a0=>(kX p0 p1.1).bind fun a1=>(xH a0 a1 p2).bind fun a2=>some a2
def aMb:bI:=⟨aC.cons (aK.agg bV) (aC.cons (aK.agg (cP.row kN)) (aC.one (aK.agg (cP.row kN)))),aK.tup (aC.cons (aK.agg (cP.row kN)) (aC.cons aK.bool (aC.one (aK.int .i64)))),fun a=>tT a.1 a.2.1 a.2.2,.pure,false⟩
theorem UR:aI tab 140 aMb:=Oc aJY rfl aG [(194,aL4),(193,aVC)] ⟨UP,aMa,trivial⟩ fun a=>by kernel_rfl
def dB (s:Zt8):Option (bQ Zt8 aUX):=bif decide (s.2.2.2.1<s.2.2.1) then (aN s.2.1 s.2.2.2.1).bind fun a0=>(tT (Field.mk s.2.2.2.2.2.2.1) a0.2 (s.2.2.2.2.1,s.2.2.2.2.2.1)).bind fun a1=>bif a1.2.2 !=0 then some (.done (.done 8)) else bif !a1.2.1 then some (.next (s.1,s.2.1,s.2.2.1,aA .i64 (s.2.2.2.1+1),s.2.2.2.2)) else bif (bn s.1.length)==0 then some (.done (.done 8)) else (aN s.1 0).bind fun a2=>bif a2.1 !=a0.1 then some (.done (.done 8)) else (aN s.1 0).bind fun a3=>bif decide (a3.2.1<0) then some (.done (.done 8)) else bif decide (200<=a3.2.1) then some (.done (.done 8)) else (aN s.2.2.2.2.2.2.2.2.2.2.2.2.2.1 a3.2.1).bind fun n4=>bif decide (n4<0) then some (.done (.done 8)) else (aN s.2.2.2.2.2.2.2.2.2.2.2.2.2.1 a3.2.1).bind fun n5=>(aN s.2.2.2.2.2.2.2.2.2.2.2.2.1 n5).bind fun a6=>bif !((a6.1==a1.1.1)&&((a6.2.1==a1.1.2)&&((a6.2.2.1==a0.1)&&((a6.2.2.2.1==a3.2.1)&&(a6.2.2.2.2==a3.2.2))))) then some (.done (.done 8)) else (jH s.1 1 (bn s.1.length)).bind fun l7=>some (.next (l7,s.2.1,s.2.2.1,aA .i64 (s.2.2.2.1+1),s.2.2.2.2)) else bif decide (0<(bn s.1.length)) then some (.done (.done 8)) else some (.done (.done 0))
def fN (s:aUW):Option aUX:=match s with |(a,b,d,e,f,g,h,i,j,k,l,m,n,o)=>bif decide (b<a) then (aN o b).bind fun n0=>bif n0 !=0 then some (.done 8) else some (.next (a,aA .i64 (b+1),(d,e,f,g,h,i,j,k,l,m,n,o))) else bif (bn m.length) !=200 then some (.done 8) else bif (bn l.length) !=(bn n.length) then some (.done 8) else aH dB (n,h,bn h.length,0,d,e,f,g,h,i,j,k,l,m,n)
def iG (p0:aQ):Option Int:=(iE p0.au).bind fun n0=>(dR p0.ax).bind fun n1=>(tP p0.ay).bind fun n2=>(mY p0.az).bind fun n3=>aH fN (bn ([n0,n1,n2,n3].length),0,p0.au.1,p0.au.2,p0.ax.aa,p0.ay.aq,p0.ay.ar,p0.az.ai.ac,p0.az.ai.ae,p0.az.ai.af,p0.az.aj,p0.az.am,p0.ba,[n0,n1,n2,n3])
def c86:bI:=⟨aC.one (aK.agg bW),aK.int .i64,fun a=>iG a,.pure,false⟩
theorem O6:aI tab 86 c86:=Oc aSQ rfl aG [(121,XG),(71,c71),(138,aLP),(139,aFg),(140,aMb)] ⟨CR,HV,UL,M3,UR,trivial⟩ fun a=>by kernel_rfl
def wQ (p0:Int):Option Bool:=bif decide ((-1)<=p0) then some (decide (p0<=65535)) else some false
def aVD:bI:=⟨aC.one (aK.int .i64),aK.bool,fun a=>wQ a,.pure,false⟩
theorem aMc:aI tab 143 aVD:=Oc aJZ rfl aG [] trivial fun a=>by kernel_rfl
def jI (p0:bE) (p1:Int):Option Int:=bif decide (0<=(aA .i64 (p1- (bn p0.be.length)))) then (aN p0.bc (aA .i64 (p1- (bn p0.be.length)))).bind fun n0=>some n0 else (aN p0.be p1).bind fun n1=>some n1
def aTk:bI:=⟨aC.cons (aK.agg eH) (aC.one (aK.int .i64)),aK.int .i64,fun a=>jI a.1 a.2,.pure,false⟩
theorem aBZ:aI tab 120 aTk:=Oc aJM rfl aG [] trivial fun a=>by kernel_rfl
def jS (s:((List Int)×Int×Int×(List Int)×(List Int))):Option (bQ ((List Int)×Int×Int×(List Int)×(List Int)) aU4):=bif decide (s.2.2.1<s.2.1) then (aN s.1 s.2.2.1).bind fun n0=>(jI (bE.mk s.2.2.2.1 s.2.2.2.2) (aA .i64 ((aA .i64 (2*s.2.2.1))+1))).bind fun n1=>(jI (bE.mk s.2.2.2.1 s.2.2.2.2) (aA .i64 ((aA .i64 (2*s.2.2.1))+2))).bind fun n2=>bif n0 !=n1 then bif n0 !=n2 then some (.done (.done (.done 8))) else bif decide (n0<0) then bif decide (0<=(if n2>n1 then n2 else n1)) then some (.done (.done (.done 8))) else some (.next (s.1,s.2.1,aA .i64 (s.2.2.1+1),s.2.2.2)) else some (.next (s.1,s.2.1,aA .i64 (s.2.2.1+1),s.2.2.2)) else bif decide (n0<0) then bif decide (0<=(if n2>n1 then n2 else n1)) then some (.done (.done (.done 8))) else some (.next (s.1,s.2.1,aA .i64 (s.2.2.1+1),s.2.2.2)) else some (.next (s.1,s.2.1,aA .i64 (s.2.2.1+1),s.2.2.2)) else some (.done (.done (.done 0)))
def jT (s:aLH):Option aU4:=bif decide (s.2.2.1<s.2.1) then (aN s.1 s.2.2.1).bind fun n0=>(wQ n0).bind fun b1=>bif !b1 then bif !(!(decide (0<=s.2.2.1))) then some (.done (.done 8)) else aH jS (s.2.2.2.2.1,bn s.2.2.2.2.1.length,0,s.2.2.2.1,s.2.2.2.2.1) else some (.next (s.1,s.2.1,aA .i64 (s.2.2.1+1),s.2.2.2)) else aH jS (s.2.2.2.2.1,bn s.2.2.2.2.1.length,0,s.2.2.2.1,s.2.2.2.2.1)
def pB (s:aLH):Option aU3:=bif decide (s.2.2.1<s.2.1) then (aN s.1 s.2.2.1).bind fun n0=>bif !(!(vR false s.2.2.2.2.2 n0)) then bif !(!(decide (0<=s.2.2.1))) then some (.done 8) else aH jT (s.2.2.2.1,bn s.2.2.2.1.length,0,s.2.2.2.1,s.2.2.2.2.1,tG s.2.2.2.2.2 n0 (decide (0<=n0))) else some (.next (s.1,s.2.1,aA .i64 (s.2.2.1+1),s.2.2.2.1,s.2.2.2.2.1,tG s.2.2.2.2.2 n0 (decide (0<=n0)))) else aH jT (s.2.2.2.1,bn s.2.2.2.1.length,0,s.2.2.2)
def pR (p0:bE):Option Int:=bif decide ((bn p0.bc.length)<1) then some 8 else bif decide (64<(bn p0.bc.length)) then some 8 else bif (bn p0.be.length) !=(aA .i64 ((bn p0.bc.length) -1)) then some 8 else aH pB (p0.bc,bn p0.bc.length,0,p0.bc,p0.be,tG [] (-1) false)
def c87:bI:=⟨aC.one (aK.agg eH),aK.int .i64,fun a=>pR a,.pure,false⟩
theorem aTl:aI tab 87 c87:=aI.of aSR (cx:=(mJ aG [(143,aVD),(120,aTk)] [] [(141,aEQ),(142,aDh),(196,aAv),(95,x95),(197,aDi),(195,aER)] [])) rfl (jZ.make ⟨aMc,aBZ,trivial⟩ trivial ⟨aBG,UA,M0,O4,UC,aBL,trivial⟩) (fun a=>by kernel_rfl)
def yH (p0:Int) (p1:Int×Int×Int):Option Bool:=some (p0==p1.1)
def c91:bI:=⟨aC.cons (aK.int .i64) (aC.one (aK.agg (cP.row eE))),aK.bool,fun a=>yH a.1 a.2,.pure,false⟩
theorem aTm:aI tab 91 c91:=Oc aSV rfl aG [] trivial fun a=>by kernel_rfl
def cJ (s:(cH×(List Int)×Int×Int)):Option (bQ (cH×(List Int)×Int×Int) Bool):=bif decide (s.2.2.2<s.2.2.1) then (aN s.2.1 s.2.2.2).bind fun n0=>(aN s.1 s.2.2.2).bind fun a1=>(yH n0 a1).bind fun b2=>bif !b2 then some (.done false) else some (.next (s.1,s.2.1,s.2.2.1,aA .i64 (s.2.2.2+1))) else some (.done true)
def cT (p0:List Int) (p1:List (Int×Int×Int)) (_:Unit):Option Bool:=bif (bn p0.length) !=(bn p1.length) then some false else aH cJ (p1,p0,bn p0.length,0)
def aFh:bI:=⟨aC.cons (aK.sl ki) (aC.cons (aK.sl eE) (aC.one (aK.clo 91 aC.nil))),aK.bool,fun a=>cT a.1 a.2.1 a.2.2,.pure,false⟩
theorem aDp:aI tab 90 aFh:=Oc aSU rfl aG [(91,c91)] ⟨aTm,trivial⟩ fun a=>by kernel_rfl
def AT (p0:Field) (p1:Int×Int):Option Int:=(dR p0).bind fun n0=>bif n0 !=0 then some n0 else (iE p1).bind fun n1=>some n1
def aVE:bI:=⟨aC.cons (aK.agg bV) (aC.one (aK.agg (cP.row kN))),aK.int .i64,fun a=>AT a.1 a.2,.pure,false⟩
theorem aMd:aI tab 152 aVE:=Oc aJ3 rfl aG [(71,c71),(121,XG)] ⟨HV,CR,trivial⟩ fun a=>by kernel_rfl
def yI (p0:Int×Int×Int) (p1:Int):Option Int:=(fA p0.1 p1).bind fun n0=>some n0
def aVF:bI:=⟨aC.cons (aK.agg (cP.row eE)) (aC.one (aK.int .i64)),aK.int .i64,fun a=>yI a.1 a.2,.pure,false⟩
theorem aMe:aI tab 254 aVF:=Oc aLa rfl aG [(126,XH)] ⟨CT,trivial⟩ fun a=>by kernel_rfl
def jJ (s:Q0):Option aE7:=bif decide (s.2.2.2.1<s.2.2.2.2) then (aN s.1 (aA .i64 (rQ .u64 (aA .u64 (aA .i64 (s.2.2.2.1+s.2.2.2.2))) 1))).bind fun a0=>(yI a0 s.2.1).bind fun n1=>bif decide (n1<0) then some (.next (s.1,s.2.1,s.2.2.1,aA .i64 ((aA .i64 (rQ .u64 (aA .u64 (aA .i64 (s.2.2.2.1+s.2.2.2.2))) 1))+1),s.2.2.2.2)) else some (.next (s.1,s.2.1,s.2.2.1,s.2.2.2.1,aA .i64 (rQ .u64 (aA .u64 (aA .i64 (s.2.2.2.1+s.2.2.2.2))) 1))) else bif decide (s.2.2.2.1<s.2.2.1) then (aN s.1 s.2.2.2.1).bind fun a2=>(yI a2 s.2.1).bind fun n3=>some (.done (s.2.2.2.1,n3==0)) else some (.done (s.2.2.2.1,false))
def dE (p0:List (Int×Int×Int)) (p1:Int) (_:Unit):Option (Int×Bool):=aH jJ (p0,p1,bn p0.length,0,bn p0.length)
def XK:bI:=⟨aC.cons (aK.sl eE) (aC.cons (aK.int .i64) (aC.one (aK.clo 254 aC.nil))),aK.tup (aC.cons (aK.int .i64) (aC.one aK.bool)),fun a=>dE a.1 a.2.1 a.2.2,.pure,false⟩
theorem XL:aI tab 124 XK:=Oc T9 rfl aG [(254,aVF)] ⟨aMe,trivial⟩ fun a=>by kernel_rfl
def kY (p0:Field) (p1:Int):Option (Int×Bool):=(dE p0.aa p1 ()).bind fun a0=>some a0
def aTn:bI:=⟨aC.cons (aK.agg bV) (aC.one (aK.int .i64)),aK.tup (aC.cons (aK.int .i64) (aC.one aK.bool)),fun a=>kY a.1 a.2,.pure,false⟩
theorem aB0:aI tab 212 aTn:=Oc aKE rfl aG [(124,XK)] ⟨XL,trivial⟩ fun a=>by kernel_rfl
def pC (s:((List Int)×Int×Int×cH)):Option (bQ ((List Int)×Int×Int×cH) Bool):=bif decide (s.2.2.1<s.2.1) then (aN s.1 s.2.2.1).bind fun n0=>(kY (Field.mk s.2.2.2) n0).bind fun a1=>bif a1.2 then some (.next (s.1,s.2.1,aA .i64 (s.2.2.1+1),s.2.2.2)) else bif !(n0==(-1)) then some (.done (!(decide (0<=s.2.2.1)))) else some (.next (s.1,s.2.1,aA .i64 (s.2.2.1+1),s.2.2.2)) else some (.done (!(decide (0<=(-1)))))
def uP (p0:Field) (p1:List Int):Option Bool:=aH pC (p1,bn p1.length,0,p0.aa)
def aVG:bI:=⟨aC.cons (aK.agg bV) (aC.one (aK.sl ki)),aK.bool,fun a=>uP a.1 a.2,.pure,false⟩
theorem aMf:aI tab 153 aVG:=aI.of aJ4 (cx:=(mJ aG [(212,aTn)] [] [(142,aDh),(196,aAv),(95,x95),(197,aDi),(211,aH9)] [])) rfl (jZ.make ⟨aB0,trivial⟩ trivial ⟨UA,M0,O4,UC,aKD,trivial⟩) (fun a=>by kernel_rfl)
def sC (p0:Int×Int×Int) (p1:Int×Int×Int) (p2:Int×Int):Option (Bool×Int):=(tR p0 p1 p2).bind fun n0=>bif n0 !=0 then some (false,n0) else (oM p0 p1 p2).bind fun n1=>some (decide (0<n1),0)
def aVH:bI:=⟨aC.cons (aK.agg (cP.row eE)) (aC.cons (aK.agg (cP.row eE)) (aC.one (aK.agg (cP.row kN)))),aK.tup (aC.cons aK.bool (aC.one (aK.int .i64))),fun a=>sC a.1 a.2.1 a.2.2,.pure,false⟩
theorem aMg:aI tab 181 aVH:=Oc aKq rfl aG [(235,aL5),(236,aTj)] ⟨UQ,aBY,trivial⟩ fun a=>by kernel_rfl
def rA (p0:Field) (p1:Int×Int) (p2:Int) (p3:Int):Option Int:=bif decide ((if p3<p2 then p3 else p2)<0) then some (if p3>p2 then p3 else p2) else (kY p0 p2).bind fun a0=>(kY p0 p3).bind fun a1=>(aN p0.aa a0.1).bind fun a2=>(aN p0.aa a1.1).bind fun a3=>(sC a2 a3 p1).bind fun a4=>bif a4.1 then some p2 else some p3
def aVI:bI:=⟨aC.cons (aK.agg bV) (aC.cons (aK.agg (cP.row kN)) (aC.cons (aK.int .i64) (aC.one (aK.int .i64)))),aK.int .i64,fun a=>rA a.1 a.2.1 a.2.2.1 a.2.2.2,.pure,false⟩
theorem aMh:aI tab 154 aVI:=Oc aJ5 rfl aG [(212,aTn),(181,aVH)] ⟨aB0,aMg,trivial⟩ fun a=>by kernel_rfl
def K4 (s:aDn):Option (bQ aDn (bE×Int)):=bif decide (0<=s.1) then (jI (bE.mk s.2.2.2.2.1 s.2.2.2.2.2) (aA .i64 ((aA .i64 (2*s.1))+1))).bind fun n0=>(jI (bE.mk s.2.2.2.2.1 s.2.2.2.2.2) (aA .i64 ((aA .i64 (2*s.1))+2))).bind fun n1=>(rA (Field.mk s.2.1) (s.2.2.1,s.2.2.2.1) n0 n1).bind fun n2=>(aN s.2.2.2.2.2 s.1).bind fun _=>some (.next (aA .i64 (s.1-1),s.2.1,s.2.2.1,s.2.2.2.1,s.2.2.2.2.1,cL s.2.2.2.2.2 s.1 n2)) else some (.done (bE.mk s.2.2.2.2.1 s.2.2.2.2.2,0))
def jU (s:aDn):Option (bQ aDn aVc):=bif decide (0<=s.1) then (jI (bE.mk s.2.2.2.2.1 s.2.2.2.2.2) (aA .i64 ((aA .i64 (2*s.1))+1))).bind fun n0=>(jI (bE.mk s.2.2.2.2.1 s.2.2.2.2.2) (aA .i64 ((aA .i64 (2*s.1))+2))).bind fun n1=>(rA (Field.mk s.2.1) (s.2.2.1,s.2.2.2.1) n0 n1).bind fun n2=>(aN s.2.2.2.2.2 s.1).bind fun _=>some (.next (aA .i64 (s.1-1),s.2.1,s.2.2.1,s.2.2.2.1,s.2.2.2.2.1,cL s.2.2.2.2.2 s.1 n2)) else some (.done (.done (bE.mk s.2.2.2.2.1 s.2.2.2.2.2,0)))
def pD (c0:Int) (c1:(List Int)) (s:aVb):Option aVc:=bif decide (s.2.2.1<s.2.1) then (aN s.1 s.2.2.1).bind fun n0=>bif !(!(vR false s.2.2.2.2.2.2 n0)) then bif !(!(decide (0<=s.2.2.1))) then some (.done (bE.mk [] [],14)) else bif c0 !=0 then some (.done (bE.mk [] [],c0)) else (bU c1).bind fun l1=>bif (aA .i64 ((bn c1.length) -1))==(aA .i64 ((bn c1.length) -1)) then (GQ (aA .i64 ((bn c1.length) -1)) (0:Int)).bind fun l2=>aH jU (aA .i64 ((bn l2.length) -1),s.2.2.2.1,s.2.2.2.2.1,s.2.2.2.2.2.1,l1,l2) else none else some (.next (s.1,s.2.1,aA .i64 (s.2.2.1+1),s.2.2.2.1,s.2.2.2.2.1,s.2.2.2.2.2.1,tG s.2.2.2.2.2.2 n0 (decide (0<=n0)))) else bif c0 !=0 then some (.done (bE.mk [] [],c0)) else (bU c1).bind fun l3=>bif (aA .i64 ((bn c1.length) -1))==(aA .i64 ((bn c1.length) -1)) then (GQ (aA .i64 ((bn c1.length) -1)) (0:Int)).bind fun l4=>aH jU (aA .i64 ((bn l4.length) -1),s.2.2.2.1,s.2.2.2.2.1,s.2.2.2.2.2.1,l3,l4) else none
def pS (p0:Field) (p1:Int×Int) (p2:List Int):Option (bE×Int):=(AT p0 p1).bind fun n0=>bif n0 !=0 then bif n0 !=0 then some (bE.mk [] [],n0) else (bU p2).bind fun l1=>bif (aA .i64 ((bn p2.length) -1))==(aA .i64 ((bn p2.length) -1)) then (GQ (aA .i64 ((bn p2.length) -1)) (0:Int)).bind fun l2=>aH K4 (aA .i64 ((bn l2.length) -1),p0.aa,p1.1,p1.2,l1,l2) else none else bif decide ((bn p2.length)<1) then some (bE.mk [] [],2) else bif decide (64<(bn p2.length)) then some (bE.mk [] [],2) else (uP p0 p2).bind fun b3=>bif !b3 then some (bE.mk [] [],6) else aH (pD n0 p2) (p2,bn p2.length,0,p0.aa,p1.1,p1.2,tG [] (-1) false)
def c97:bI:=⟨aC.cons (aK.agg bV) (aC.cons (aK.agg (cP.row kN)) (aC.one (aK.sl ki))),aK.tup (aC.cons (aK.agg eH) (aC.one (aK.int .i64))),fun a=>pS a.1 a.2.1 a.2.2,.frz,false⟩
theorem aFi:aI tab 97 c97:=aI.of aS0 (cx:=(mJ aG [(152,aVE),(153,aVG),(40,bI.clone ki),(120,aTk),(154,aVI)] [] [(141,aEQ),(142,aDh),(196,aAv),(95,x95),(197,aDi),(195,aER)] [])) rfl (jZ.make ⟨aMd,aMf,qA,aBZ,aMh,trivial⟩ trivial ⟨aBG,UA,M0,O4,UC,aBL,trivial⟩) (fun a=>by kernel_rfl)
def Q1 (p0:Int) (p1:bE):Option Int:=bif decide (p0<(bn p1.be.length)) then (aN p1.be p0).bind fun n0=>some n0 else (aN p1.bc (aA .i64 (p0- (bn p1.be.length)))).bind fun n1=>some n1
def aVJ:bI:=⟨aC.cons (aK.int .i64) (aC.one (aK.ref eH)),aK.int .i64,fun a=>Q1 a.1 a.2,.pure,false⟩
theorem aMi:aI tab 146 aVJ:=Oc aBH rfl aG [] trivial fun a=>by kernel_rfl
def oN (s:((List Int)×Int×Int×(List Int)×(List Int)×tC)):Option (bQ ((List Int)×Int×Int×(List Int)×(List Int)×tC) (bE×tC)):=match s with |(a,b,d,e,f,g)=>bif decide (d<b) then (aN a d).bind fun n0=>bif decide ((aA .i64 ((aA .i64 (2*d))+1))<(bn f.length)) then (aN f (aA .i64 ((aA .i64 (2*d))+1))).bind fun n1=>bif g.length==g.length then bif decide ((aA .i64 ((aA .i64 (2*d))+2))<(bn f.length)) then (aN f (aA .i64 ((aA .i64 (2*d))+2))).bind fun n2=>bif g.length==g.length then bif decide (0<=n1) then bif decide (0<=n2) then (bN g [(aA .i64 ((aA .i64 (n1+n2)) -n0),n0)]).bind fun l3=>some (.next (a,b,aA .i64 (d+1),e,f,l3)) else some (.next (a,b,aA .i64 (d+1),(e,f,g))) else some (.next (a,b,aA .i64 (d+1),(e,f,g))) else none else (aN e (aA .i64 ((aA .i64 ((aA .i64 (2*d))+2)) - (bn f.length)))).bind fun n4=>bif g.length==g.length then bif decide (0<=n1) then bif decide (0<=n4) then (bN g [(aA .i64 ((aA .i64 (n1+n4)) -n0),n0)]).bind fun l5=>some (.next (a,b,aA .i64 (d+1),e,f,l5)) else some (.next (a,b,aA .i64 (d+1),(e,f,g))) else some (.next (a,b,aA .i64 (d+1),(e,f,g))) else none else none else (aN e (aA .i64 ((aA .i64 ((aA .i64 (2*d))+1)) - (bn f.length)))).bind fun n6=>bif g.length==g.length then bif decide ((aA .i64 ((aA .i64 (2*d))+2))<(bn f.length)) then (aN f (aA .i64 ((aA .i64 (2*d))+2))).bind fun n7=>bif g.length==g.length then bif decide (0<=n6) then bif decide (0<=n7) then (bN g [(aA .i64 ((aA .i64 (n6+n7)) -n0),n0)]).bind fun l8=>some (.next (a,b,aA .i64 (d+1),e,f,l8)) else some (.next (a,b,aA .i64 (d+1),(e,f,g))) else some (.next (a,b,aA .i64 (d+1),(e,f,g))) else none else (aN e (aA .i64 ((aA .i64 ((aA .i64 (2*d))+2)) - (bn f.length)))).bind fun n9=>bif g.length==g.length then bif decide (0<=n6) then bif decide (0<=n9) then (bN g [(aA .i64 ((aA .i64 (n6+n9)) -n0),n0)]).bind fun l10=>some (.next (a,b,aA .i64 (d+1),e,f,l10)) else some (.next (a,b,aA .i64 (d+1),(e,f,g))) else some (.next (a,b,aA .i64 (d+1),(e,f,g))) else none else none else some (.done (bE.mk e f,g))
def zT (p0:Field) (p1:Int×Int) (p2:List Int):Option (bE×tC):=(pS p0 p1 p2).bind fun a0=>aH oN (a0.1.be,bn a0.1.be.length,0,a0.1.bc,a0.1.be,[])
def c92:bI:=⟨aC.cons (aK.agg bV) (aC.cons (aK.agg (cP.row kN)) (aC.one (aK.sl ki))),aK.tup (aC.cons (aK.agg eH) (aC.one (aK.sl kN))),fun a=>zT a.1 a.2.1 a.2.2,.frz,false⟩
theorem aTo:aI tab 92 c92:=aI.of aSW (cx:=(mJ aG [(97,c97),(146,aVJ)] [] [(146,aHm)] [])) rfl (jZ.make ⟨aFi,aMi,trivial⟩ trivial ⟨aBH,trivial⟩) (fun a=>by kernel_rfl)
def lM (s:((List Int)×(List Int)×Int×Int)):Option (bQ ((List Int)×(List Int)×Int×Int) Bool):=bif decide (s.2.2.2<s.2.2.1) then (aN s.1 s.2.2.2).bind fun n0=>(aN s.2.1 s.2.2.2).bind fun n1=>bif n0 !=n1 then some (.done false) else some (.next (s.1,s.2.1,s.2.2.1,aA .i64 (s.2.2.2+1))) else some (.done true)
def pE (p0:List Int) (p1:List Int):Option Bool:=bif (bn p0.length) !=(bn p1.length) then some false else aH lM (p0,p1,bn p0.length,0)
def c93:bI:=⟨aC.cons (aK.sl ki) (aC.one (aK.sl ki)),aK.bool,fun a=>pE a.1 a.2,.pure,false⟩
theorem aTp:aI tab 93 c93:=Oc aSX rfl aG [] trivial fun a=>by kernel_rfl
def kZ (s:(tC×Int×Int×Int×Int)):Option (bQ (tC×Int×Int×Int×Int) Int):=bif decide (s.2.2.1<s.2.1) then (aN s.1 s.2.2.1).bind fun a0=>bif (s.2.2.2.1==a0.1)&&(s.2.2.2.2==a0.2) then some (.done s.2.2.1) else some (.next (s.1,s.2.1,aA .i64 (s.2.2.1+1),s.2.2.2)) else some (.done (-1))
def sD (p0:List (Int×Int)) (p1:Int×Int):Option Int:=aH kZ (p0,bn p0.length,0,p1)
def aVK:bI:=⟨aC.cons (aK.sl kN) (aC.one (aK.agg (cP.row kN))),aK.int .i64,fun a=>sD a.1 a.2,.pure,false⟩
theorem aMj:aI tab 209 aVK:=Oc aKC rfl aG [] trivial fun a=>by kernel_rfl
def eT (p0:List (Int×Int)) (p1:Int×Int):Option Bool:=(sD p0 p1).bind fun n0=>some (decide (0<=n0))
def aFj:bI:=⟨aC.cons (aK.sl kN) (aC.one (aK.agg (cP.row kN))),aK.bool,fun a=>eT a.1 a.2,.pure,false⟩
theorem M4:aI tab 148 aFj:=Oc aJ0 rfl aG [(209,aVK)] ⟨aMj,trivial⟩ fun a=>by kernel_rfl
def GX (p0:Int×Int×Int) (p1:List (Int×Int)):Option Bool:=(eT p1 p0.2).bind fun b0=>some (!b0)
def aVL:bI:=⟨aC.cons (aK.agg (cP.row eE)) (aC.one (aK.ref (cP.sl kN))),aK.bool,fun a=>GX a.1 a.2,.pure,false⟩
theorem aMk:aI tab 147 aVL:=Oc aBI rfl aG [(148,aFj)] ⟨M4,trivial⟩ fun a=>by kernel_rfl
def oC (s:(cH×tC×Int×Int)):Option (bQ (cH×tC×Int×Int) Int):=bif decide (s.2.2.2<s.2.2.1) then (aN s.1 s.2.2.2).bind fun a0=>(GX a0 s.2.1).bind fun b1=>bif b1 then some (.done s.2.2.2) else some (.next (s.1,s.2.1,s.2.2.1,aA .i64 (s.2.2.2+1))) else some (.done (-1))
def jC (p0:List (Int×Int×Int)) (p1:tC):Option Int:=aH oC (p0,p1,bn p0.length,0)
def XM:bI:=⟨aC.cons (aK.sl eE) (aC.one (aK.clo 147 (aC.one (aK.ref (cP.sl kN))))),aK.int .i64,fun a=>jC a.1 a.2,.pure,false⟩
theorem XN:aI tab 210 XM:=aI.of UD (cx:=(mJ aG [(147,aVL),(148,aFj)] [] [(147,aHo)] [])) rfl (jZ.make ⟨aMk,M4,trivial⟩ trivial ⟨aBI,trivial⟩) (fun a=>by kernel_rfl)
def hO (p0:List (Int×Int×Int)) (p1:tC):Option Bool:=(jC p0 p1).bind fun n0=>some (decide (0<=n0))
def XO:bI:=⟨aC.cons (aK.sl eE) (aC.one (aK.clo 147 (aC.one (aK.ref (cP.sl kN))))),aK.bool,fun a=>hO a.1 a.2,.pure,false⟩
theorem XP:aI tab 149 XO:=Oc UB rfl aG [(210,XM)] ⟨XN,trivial⟩ fun a=>by kernel_rfl
def EY (p0:aQ) (p1:List (Int×Int)):Option Bool:=bif (bn p1.length)==(bn p0.ay.ar.length) then (hO p0.ay.ar p1).bind fun b0=>some (!b0) else some false
def c94:bI:=⟨aC.cons (aK.agg bW) (aC.one (aK.sl kN)),aK.bool,fun a=>EY a.1 a.2,.pure,false⟩
theorem aTq:aI tab 94 c94:=Oc aSY rfl aG [(149,XO)] ⟨XP,trivial⟩ fun a=>by kernel_rfl
def lW (p0:Int):Option Bool:=some (decide (p0<0))
def c88:bI:=⟨aC.one (aK.int .i64),aK.bool,fun a=>lW a,.pure,false⟩
theorem aTr:aI tab 88 c88:=Oc aSS rfl aG [] trivial fun a=>by kernel_rfl
def bA (c0:(List Int)) (s:aFc):Option (bQ aFc (bQ aFc (Nat×Nat×(List Int)))):=bif decide (s.2.1<(bn s.2.2.length)) then (aN s.2.2 s.2.1).bind fun n0=>(lW n0).bind fun b1=>bif !b1 then (aN s.2.2 s.1).bind fun _=>some (.next (aA .i64 (s.1+1),aA .i64 (s.2.1+1),cL s.2.2 s.1 n0)) else some (.next (s.1,aA .i64 (s.2.1+1),s.2.2)) else bif ((decide (0<=s.1))&&(decide (s.1<=(bn s.2.2.length))))&&(decide ((bn s.2.2.length)<=(bn s.2.2.length))) then bif Nat.beq (((bn s.2.2.length).toNat) -s.1.toNat) 0 then (jH s.2.2 0 s.1).bind fun _=>bif s.2.2.length==c0.length then some (.done (.done (s.1.toNat,s.2.2.length,s.2.2))) else none else bif (bv ((0+s.1.toNat)+(((bn s.2.2.length).toNat) -s.1.toNat)) s.2.2.length)&&(!false) then (jH (jQ s.2.2 (0+s.1.toNat) (bu (((bn s.2.2.length).toNat) -s.1.toNat) 0)) 0 s.1).bind fun _=>bif ((jQ s.2.2 (0+s.1.toNat) (bu (((bn s.2.2.length).toNat) -s.1.toNat) 0)).length)==c0.length then some (.done (.done (s.1.toNat,(jQ s.2.2 (0+s.1.toNat) (bu (((bn s.2.2.length).toNat) -s.1.toNat) 0)).length,jQ s.2.2 (0+s.1.toNat) (bu (((bn s.2.2.length).toNat) -s.1.toNat) 0)))) else none else none else none
def bB (c0:(List Int)) (s:aFc):Option (bQ aFc (Nat×Nat×(List Int))):=bif decide (s.2.1<s.1) then (aN s.2.2 s.2.1).bind fun n0=>(lW n0).bind fun b1=>bif b1 then bif s.2.2.length==c0.length then bif s.2.1==(-1) then bif s.2.2.length==c0.length then some (.done (s.2.2.length,s.2.2.length,s.2.2)) else none else aH (bA c0) (s.2.1,aA .i64 (s.2.1+1),s.2.2) else none else some (.next (s.1,aA .i64 (s.2.1+1),s.2.2)) else bif s.2.2.length==c0.length then bif s.2.2.length==c0.length then some (.done (s.2.2.length,s.2.2.length,s.2.2)) else none else none
def cO (a:(List Int)):Option (Nat×Nat×(List Int)):=aH (bB a) (bn a.length,0,a)
def aOm:eM:=⟨[.l [.i .i64]],[.own 0 false,.clo 88 [] []],[.arr [.i .i64] []],[.n,.n,.l [.i .i64]],.pre 0 0 0 false,[.arr [.i .i64] []],fun a=>cO a⟩
theorem aFk:nJ tab 42 aOm:=nJ.of aSq (wd:=true) (cx:=(mJ aG [(88,c88)] [] [(95,x95)] [])) (jZ.make ⟨aTr,trivial⟩ trivial ⟨O4,trivial⟩) (fun a=>by kernel_rfl)
def sE (p0:cE):Option Int:=(iG p0.bg).bind fun n0=>bif n0 !=0 then some 8 else (pR p0.bi).bind fun n1=>bif n1 !=0 then some 8 else bif (HK .i64 (bn p0.bi.bc.length) (aA .i64 ((bn p0.bi.bc.length) -1))) !=0 then some 8 else (bU p0.bi.bc).bind fun l2=>(cO l2).bind fun a3=>(F0s TQ a3.1 a3.2.2).bind fun l4=>bif l4.length==a3.2.2.length then (cT (l4.take a3.1) p0.bg.ax.aa ()).bind fun b5=>bif !b5 then some 8 else (zT p0.bg.ax p0.bg.au p0.bi.bc).bind fun a6=>(pE a6.1.be p0.bi.be).bind fun b7=>bif !b7 then some 8 else (EY p0.bg a6.2).bind fun b8=>bif !b8 then some 8 else some 0 else none
def c39:bI:=⟨aC.one (aK.agg eQ),aK.int .i64,fun a=>sE a,.pure,false⟩
theorem aFl:aI tab 39 c39:=aI.of aSn (cx:=(mJ aG [(86,c86),(87,c87),(40,bI.clone ki),(90,aFh),(92,c92),(93,c93),(94,c94)] [(42,aOm)] [(89,.srt aAa)] [])) rfl (jZ.make ⟨O6,aTl,qA,aDp,aTo,aTp,aTq,trivial⟩ ⟨aFk,trivial⟩ ⟨aST,trivial⟩) (fun a=>by kernel_rfl)
def CW (p0:Int×Int×Int) (p1:Int):Option Int:=(fA p0.1 p1).bind fun n0=>some n0
def aVM:bI:=⟨aC.cons (aK.agg (cP.row eE)) (aC.one (aK.int .i64)),aK.int .i64,fun a=>CW a.1 a.2,.pure,false⟩
theorem aMl:aI tab 125 aVM:=Oc aJP rfl aG [(126,XH)] ⟨CT,trivial⟩ fun a=>by kernel_rfl
def kD (s:Q0):Option aE7:=bif decide (s.2.2.2.1<s.2.2.2.2) then (aN s.1 (aA .i64 (rQ .u64 (aA .u64 (aA .i64 (s.2.2.2.1+s.2.2.2.2))) 1))).bind fun a0=>(CW a0 s.2.1).bind fun n1=>bif decide (n1<0) then some (.next (s.1,s.2.1,s.2.2.1,aA .i64 ((aA .i64 (rQ .u64 (aA .u64 (aA .i64 (s.2.2.2.1+s.2.2.2.2))) 1))+1),s.2.2.2.2)) else some (.next (s.1,s.2.1,s.2.2.1,s.2.2.2.1,aA .i64 (rQ .u64 (aA .u64 (aA .i64 (s.2.2.2.1+s.2.2.2.2))) 1))) else bif decide (s.2.2.2.1<s.2.2.1) then (aN s.1 s.2.2.2.1).bind fun a2=>(CW a2 s.2.1).bind fun n3=>some (.done (s.2.2.2.1,n3==0)) else some (.done (s.2.2.2.1,false))
def dJ (p0:List (Int×Int×Int)) (p1:Int) (_:Unit):Option (Int×Bool):=aH kD (p0,p1,bn p0.length,0,bn p0.length)
def XQ:bI:=⟨aC.cons (aK.sl eE) (aC.cons (aK.int .i64) (aC.one (aK.clo 125 aC.nil))),aK.tup (aC.cons (aK.int .i64) (aC.one aK.bool)),fun a=>dJ a.1 a.2.1 a.2.2,.pure,false⟩
theorem XS:aI tab 124 XQ:=Oc T9 rfl aG [(125,aVM)] ⟨aMl,trivial⟩ fun a=>by kernel_rfl
def lC (p0:Field) (p1:Int):Option (Int×Bool):=(dJ p0.aa p1 ()).bind fun a0=>some a0
def c73:bI:=⟨aC.cons (aK.agg bV) (aC.one (aK.int .i64)),aK.tup (aC.cons (aK.int .i64) (aC.one aK.bool)),fun a=>lC a.1 a.2,.pure,false⟩
theorem aFm:aI tab 73 c73:=Oc aSJ rfl aG [(124,XQ)] ⟨XS,trivial⟩ fun a=>by kernel_rfl
def nO (p0:Field) (p1:Int×Int×Int):Option (Field×Int):=(dR p0).bind fun n0=>bif n0 !=0 then some (Field.mk [],n0) else (kV p1).bind fun n1=>bif n1 !=0 then some (Field.mk [],n1) else (lC p0 p1.1).bind fun a2=>bif a2.2 then some (Field.mk [],14) else bif (bn p0.aa.length)==64 then some (Field.mk [],18) else (bU p0.aa).bind fun l3=>(FQ l3 a2.1 [p1]).bind fun l4=>some (Field.mk l4,0)
def c31:bI:=⟨aC.cons (aK.agg bV) (aC.one (aK.agg (cP.row eE))),aK.tup (aC.cons (aK.agg bV) (aC.one (aK.int .i64))),fun a=>nO a.1 a.2,.frz,false⟩
theorem aTs:aI tab 31 c31:=aI.of aSj (cx:=(mJ aG [(71,c71),(72,c72),(73,c73),(75,bI.clone eE)] [] [(74,.ins 3)] [])) rfl (jZ.make ⟨HV,UK,aFm,CP,trivial⟩ trivial ⟨aSK,trivial⟩) (fun a=>by kernel_rfl)
def lN (s:((List Int)×Int×Int×Int)):Option (bQ ((List Int)×Int×Int×Int) Int):=bif decide (s.2.2.2<s.2.2.1) then (aN s.1 s.2.2.2).bind fun n0=>bif s.2.1==n0 then some (.done s.2.2.2) else some (.next (s.1,s.2.1,s.2.2.1,aA .i64 (s.2.2.2+1))) else some (.done (-1))
def jV (p0:List Int) (p1:Int):Option Int:=aH lN (p0,p1,bn p0.length,0)
def c41:bI:=⟨aC.cons (aK.sl ki) (aC.one (aK.int .i64)),aK.int .i64,fun a=>jV a.1 a.2,.pure,false⟩
theorem aTt:aI tab 41 c41:=Oc aSp rfl aG [] trivial fun a=>by kernel_rfl
def MN (p0:Int) (p1:Int):Option (Int×Int):=some (aA .u32 (rQ .u64 (aA .u64 ((aA .u64 p0)*(aA .u64 p1))) 32),aA .u32 (aA .u64 ((aA .u64 p0)*(aA .u64 p1))))
def aVN:bI:=⟨aC.cons (aK.int .u32) (aC.one (aK.int .u32)),aK.tup (aC.cons (aK.int .u32) (aC.one (aK.int .u32))),fun a=>MN a.1 a.2,.pure,false⟩
theorem aMm:aI tab 150 aVN:=Oc aJ1 rfl aG [] trivial fun a=>by kernel_rfl
def iC (p0:Int) (p1:Int):Option (Int×Int):=(gW p0 p1).bind fun a0=>some a0
def c96:bI:=⟨aC.cons (aK.int .u64) (aC.one (aK.int .u64)),aK.tup (aC.cons (aK.int .u64) (aC.one (aK.int .u64))),fun a=>iC a.1 a.2,.pure,false⟩
theorem aFn:aI tab 96 c96:=Oc aSZ rfl aG [(150,aVN),(151,aLV)] ⟨aMm,UN,trivial⟩ fun a=>by kernel_rfl
def dK (s:(Int×(List Int))):Option (bQ (Int×(List Int)) (List Int)):=bif decide (s.1<(bn s.2.length)) then bif ((decide (0<=s.1))&&(decide (s.1<=(bn s.2.length))))&&(decide ((bn s.2.length)<=(bn s.2.length))) then (jH s.2 0 s.1).bind fun _=>bif ((s.2.take s.1.toNat).take (((bn s.2.length).toNat) -s.1.toNat)).isEmpty then some (.next (aA .i64 (s.1+0),s.2)) else bif (bv ((0+s.1.toNat)+(((s.2.take s.1.toNat).take (((bn s.2.length).toNat) -s.1.toNat)).length)) s.2.length)&&(!false) then some (.next (aA .i64 (s.1+(bn (((s.2.take s.1.toNat).take (((bn s.2.length).toNat) -s.1.toNat)).length))),jQ s.2 (0+s.1.toNat) ((s.2.take s.1.toNat).take (((bn s.2.length).toNat) -s.1.toNat)))) else none else none else some (.done s.2)
def dL (p0:List Int) (p1:Int):Option (List Int):=bif decide (p1<0) then none else (iC (aA .u64 (bn p0.length)) (aA .u64 p1)).bind fun a0=>bif decide (0<a0.1) then none else bif decide (9223372036854775807<a0.2) then none else bif (aA .i64 a0.2)==(aA .i64 a0.2) then (GQ (aA .i64 a0.2) (0:Int)).bind fun l1=>bif (p0.take l1.length).isEmpty then aH dK (0,l1) else bif (bv (0+((p0.take l1.length).length)) l1.length)&&(!false) then aH dK (bn ((p0.take l1.length).length),jQ l1 0 (p0.take l1.length)) else none else none
def c44:bI:=⟨aC.cons (aK.sl ki) (aC.one (aK.int .i64)),aK.sl ki,fun a=>dL a.1 a.2,.own,true⟩
def aVO:bI:=⟨aC.cons (aK.sl ki) (aC.one (aK.int .i64)),aK.sl ki,fun a=>dL a.1 a.2,.frz,false⟩
theorem aTu:aI tab 44 c44:=Oc aE1 rfl aG [(96,c96)] ⟨aFn,trivial⟩ fun a=>by kernel_rfl
theorem aMn:aI tab 44 aVO:=Oc aE1 rfl aG [(96,c96)] ⟨aFn,trivial⟩ fun a=>by kernel_rfl
def kE (s:aVg):Option (bQ aVg aVh):=match s with |(a,b,d,e,f,g,h,i,j,k,l)=>bif decide (j<i) then (aN ((k.drop f).take g) j).bind fun n0=>bif decide (0<=n0) then bif n0 !=a then (bN l [(n0,a)]).bind fun l1=>some (.next (a,b,d,e,f,g,h,i,aA .i64 (j+1),k,l1)) else some (.next (a,b,d,e,f,g,h,i,aA .i64 (j+1),(k,l))) else some (.next (a,b,d,e,f,g,h,i,aA .i64 (j+1),(k,l))) else some (.done (.next (b,d,aA .i64 (e+1),(k,l))))
def sF (s:((List Int)×Int×Int×(List Int)×tC)):Option aVh:=bif decide (s.2.2.1<s.2.1) then (aN s.1 s.2.2.1).bind fun n0=>bif ((decide (0<=(aA .i64 ((aA .i64 (2*s.2.2.1))+1))))&&(decide ((aA .i64 ((aA .i64 (2*s.2.2.1))+1))<=(aA .i64 ((aA .i64 (2*s.2.2.1))+3)))))&&(decide ((aA .i64 ((aA .i64 (2*s.2.2.1))+3))<=(bn s.2.2.2.1.length))) then aH kE (n0,s.1,s.2.1,s.2.2.1,0+((aA .i64 ((aA .i64 (2*s.2.2.1))+1)).toNat),((aA .i64 ((aA .i64 (2*s.2.2.1))+3)).toNat) - ((aA .i64 ((aA .i64 (2*s.2.2.1))+1)).toNat),s.2.2.2.1.length- ((aA .i64 ((aA .i64 (2*s.2.2.1))+1)).toNat),bn (((aA .i64 ((aA .i64 (2*s.2.2.1))+3)).toNat) - ((aA .i64 ((aA .i64 (2*s.2.2.1))+1)).toNat)),0,s.2.2.2) else none else some (.done s.2.2.2.2)
def zU (p0:bE):Option tC:=(aCZ p0.be p0.bc).bind fun l0=>aH sF (p0.be,bn p0.be.length,0,l0,[])
def c99:bI:=⟨aC.one (aK.agg eH),aK.sl kN,fun a=>zU a,.frz,false⟩
theorem aTv:aI tab 99 c99:=aI.of aS2 (cx:=(mJ aG [] [] [(158,.cat)] [])) rfl (jZ.make trivial trivial ⟨aJ8,trivial⟩) (fun a=>by kernel_rfl)
def mP (p0:Field) (p1:Int):Option (Int×Int):=(dR p0).bind fun n0=>bif n0 !=0 then some (0,n0) else (lC p0 p1).bind fun a1=>bif !a1.2 then some (0,6) else some (a1.1,0)
def c76:bI:=⟨aC.cons (aK.agg bV) (aC.one (aK.int .i64)),aK.tup (aC.cons (aK.int .i64) (aC.one (aK.int .i64))),fun a=>mP a.1 a.2,.pure,false⟩
theorem aFo:aI tab 76 c76:=Oc aSM rfl aG [(71,c71),(73,c73)] ⟨HV,aFm,trivial⟩ fun a=>by kernel_rfl
def yJ (p0:Field) (p1:Int):Option ((Int×Int×Int)×Int):=(mP p0 p1).bind fun a0=>bif a0.2 !=0 then some ((0,0,0),a0.2) else (aN p0.aa a0.1).bind fun a1=>some (a1,0)
def aVP:bI:=⟨aC.cons (aK.agg bV) (aC.one (aK.int .i64)),aK.tup (aC.cons (aK.agg (cP.row eE)) (aC.one (aK.int .i64))),fun a=>yJ a.1 a.2,.pure,false⟩
theorem aMo:aI tab 155 aVP:=Oc aJ6 rfl aG [(76,c76)] ⟨aFo,trivial⟩ fun a=>by kernel_rfl
def yK (p0:aQ):Option aQ:=(bU p0.ax.aa).bind fun l0=>(bU p0.ay.ar).bind fun l1=>(bU p0.ba).bind fun l2=>(bU p0.az.aj).bind fun l3=>(bU p0.az.am).bind fun l4=>(bU p0.az.ai.ac).bind fun l5=>(bU p0.az.ai.ae).bind fun l6=>(bU p0.az.ai.af).bind fun l7=>some (aQ.mk p0.au (Field.mk l0) (bO.mk p0.ay.aq l1) (aO.mk (bC.mk l5 l6 l7) l3 l4) l2)
def aVQ:bI:=⟨aC.one (aK.agg bW),aK.agg bW,fun a=>yK a,.own,true⟩
def aOn:bI:=⟨aC.one (aK.agg bW),aK.agg bW,fun a=>yK a,.frz,false⟩
theorem aMp:aI tab 157 aVQ:=Oc aBJ rfl aG [(75,bI.clone eE),(218,bI.clone eE),(219,bI.clone eE),(220,bI.clone mV),(40,bI.clone ki),(221,bI.clone kb)] ⟨CP,BM,JI,yD,qA,yC,trivial⟩ fun a=>by kernel_rfl
theorem aFp:aI tab 157 aOn:=Oc aBJ rfl aG [(75,bI.clone eE),(218,bI.clone eE),(219,bI.clone eE),(220,bI.clone mV),(40,bI.clone ki),(221,bI.clone kb)] ⟨CP,BM,JI,yD,qA,yC,trivial⟩ fun a=>by kernel_rfl
def vY (p0:Int×Int×Int) (p1:Int):Option Int:=(fA p0.1 p1).bind fun n0=>some n0
def aVR:bI:=⟨aC.cons (aK.agg (cP.row eE)) (aC.one (aK.int .i64)),aK.int .i64,fun a=>vY a.1 a.2,.pure,false⟩
theorem aMq:aI tab 298 aVR:=Oc aLz rfl aG [(126,XH)] ⟨CT,trivial⟩ fun a=>by kernel_rfl
def aS (s:Q0):Option aE7:=bif decide (s.2.2.2.1<s.2.2.2.2) then (aN s.1 (aA .i64 (rQ .u64 (aA .u64 (aA .i64 (s.2.2.2.1+s.2.2.2.2))) 1))).bind fun a0=>(vY a0 s.2.1).bind fun n1=>bif decide (n1<0) then some (.next (s.1,s.2.1,s.2.2.1,aA .i64 ((aA .i64 (rQ .u64 (aA .u64 (aA .i64 (s.2.2.2.1+s.2.2.2.2))) 1))+1),s.2.2.2.2)) else some (.next (s.1,s.2.1,s.2.2.1,s.2.2.2.1,aA .i64 (rQ .u64 (aA .u64 (aA .i64 (s.2.2.2.1+s.2.2.2.2))) 1))) else bif decide (s.2.2.2.1<s.2.2.1) then (aN s.1 s.2.2.2.1).bind fun a2=>(vY a2 s.2.1).bind fun n3=>some (.done (s.2.2.2.1,n3==0)) else some (.done (s.2.2.2.1,false))
def aR (p0:List (Int×Int×Int)) (p1:Int) (_:Unit):Option (Int×Bool):=aH aS (p0,p1,bn p0.length,0,bn p0.length)
def XT:bI:=⟨aC.cons (aK.sl eE) (aC.cons (aK.int .i64) (aC.one (aK.clo 298 aC.nil))),aK.tup (aC.cons (aK.int .i64) (aC.one aK.bool)),fun a=>aR a.1 a.2.1 a.2.2,.pure,false⟩
theorem XU:aI tab 297 XT:=Oc aLy rfl aG [(298,aVR)] ⟨aMq,trivial⟩ fun a=>by kernel_rfl
def K5 (p0:bO) (p1:Int):Option (Int×Int):=(tP p0).bind fun n0=>bif n0 !=0 then some (0,n0) else (aR p0.ar p1 ()).bind fun a1=>bif !a1.2 then some (0,6) else some (a1.1,0)
def aVS:bI:=⟨aC.cons (aK.agg iA) (aC.one (aK.int .i64)),aK.tup (aC.cons (aK.int .i64) (aC.one (aK.int .i64))),fun a=>K5 a.1 a.2,.pure,false⟩
theorem aMr:aI tab 276 aVS:=Oc aLl rfl aG [(138,aLP),(297,XT)] ⟨UL,XU,trivial⟩ fun a=>by kernel_rfl
def eN (a:aFa):Option (Nat×Nat×cH):=bif (((decide (0<=a.1))&&(decide (a.1<=a.2.1)))&&(decide (a.2.1<=(bn a.2.2.length))))&&(decide ((bn a.2.2.length)<=(bn a.2.2.length))) then bif a.1==a.2.1 then bif a.2.2.length==a.2.2.length then some (a.2.2.length,a.2.2.length,a.2.2) else none else (jH a.2.2 0 a.1).bind fun _=>bif ((decide (0<=a.2.1))&&(decide (a.2.1<=(bn a.2.2.length))))&&(decide ((bn a.2.2.length)<=(bn a.2.2.length))) then bif ((a.2.2.drop (0+a.2.1.toNat)).take (((bn a.2.2.length).toNat) -a.2.1.toNat)).isEmpty then bif ((decide (0<=(bn a.1.toNat)))&&(decide ((bn a.1.toNat)<=(bn a.2.2.length))))&&(decide ((bn a.2.2.length)<=(bn a.2.2.length))) then bif Nat.beq (((bn a.2.2.length).toNat) - ((bn a.1.toNat).toNat)) 0 then bif a.2.2.length==a.2.2.length then some (a.1.toNat,a.2.2.length,a.2.2) else none else bif (bv ((0+((bn a.1.toNat).toNat))+(((bn a.2.2.length).toNat) - ((bn a.1.toNat).toNat))) a.2.2.length)&&(!false) then bif ((jQ a.2.2 (0+((bn a.1.toNat).toNat)) (bu (((bn a.2.2.length).toNat) - ((bn a.1.toNat).toNat)) (0,0,0))).length)==a.2.2.length then some (a.1.toNat,a.2.2.length,jQ a.2.2 (0+((bn a.1.toNat).toNat)) (bu (((bn a.2.2.length).toNat) - ((bn a.1.toNat).toNat)) (0,0,0))) else none else none else none else bif bv (a.1.toNat+(((a.2.2.drop (0+a.2.1.toNat)).take (((bn a.2.2.length).toNat) -a.2.1.toNat)).length)) a.2.2.length then bif (bv (a.1.toNat+(((a.2.2.drop (0+a.2.1.toNat)).take (((bn a.2.2.length).toNat) -a.2.1.toNat)).length)) a.2.2.length)&&(!false) then bif ((decide (0<=(bn (a.1.toNat+(((a.2.2.drop (0+a.2.1.toNat)).take (((bn a.2.2.length).toNat) -a.2.1.toNat)).length)))))&&(decide ((bn (a.1.toNat+(((a.2.2.drop (0+a.2.1.toNat)).take (((bn a.2.2.length).toNat) -a.2.1.toNat)).length)))<=(bn a.2.2.length))))&&(decide ((bn a.2.2.length)<=(bn a.2.2.length))) then bif Nat.beq (((bn a.2.2.length).toNat) - ((bn (a.1.toNat+(((a.2.2.drop (0+a.2.1.toNat)).take (((bn a.2.2.length).toNat) -a.2.1.toNat)).length))).toNat)) 0 then bif ((jQ a.2.2 a.1.toNat ((a.2.2.drop (0+a.2.1.toNat)).take (((bn a.2.2.length).toNat) -a.2.1.toNat))).length)==a.2.2.length then some (a.1.toNat+(((a.2.2.drop (0+a.2.1.toNat)).take (((bn a.2.2.length).toNat) -a.2.1.toNat)).length),a.2.2.length,jQ a.2.2 a.1.toNat ((a.2.2.drop (0+a.2.1.toNat)).take (((bn a.2.2.length).toNat) -a.2.1.toNat))) else none else bif (bv ((0+((bn (a.1.toNat+(((a.2.2.drop (0+a.2.1.toNat)).take (((bn a.2.2.length).toNat) -a.2.1.toNat)).length))).toNat))+(((bn a.2.2.length).toNat) - ((bn (a.1.toNat+(((a.2.2.drop (0+a.2.1.toNat)).take (((bn a.2.2.length).toNat) -a.2.1.toNat)).length))).toNat))) ((jQ a.2.2 a.1.toNat ((a.2.2.drop (0+a.2.1.toNat)).take (((bn a.2.2.length).toNat) -a.2.1.toNat))).length))&&(!false) then bif ((jQ (jQ a.2.2 a.1.toNat ((a.2.2.drop (0+a.2.1.toNat)).take (((bn a.2.2.length).toNat) -a.2.1.toNat))) (0+((bn (a.1.toNat+(((a.2.2.drop (0+a.2.1.toNat)).take (((bn a.2.2.length).toNat) -a.2.1.toNat)).length))).toNat)) (bu (((bn a.2.2.length).toNat) - ((bn (a.1.toNat+(((a.2.2.drop (0+a.2.1.toNat)).take (((bn a.2.2.length).toNat) -a.2.1.toNat)).length))).toNat)) (0,0,0))).length)==a.2.2.length then some (a.1.toNat+(((a.2.2.drop (0+a.2.1.toNat)).take (((bn a.2.2.length).toNat) -a.2.1.toNat)).length),a.2.2.length,jQ (jQ a.2.2 a.1.toNat ((a.2.2.drop (0+a.2.1.toNat)).take (((bn a.2.2.length).toNat) -a.2.1.toNat))) (0+((bn (a.1.toNat+(((a.2.2.drop (0+a.2.1.toNat)).take (((bn a.2.2.length).toNat) -a.2.1.toNat)).length))).toNat)) (bu (((bn a.2.2.length).toNat) - ((bn (a.1.toNat+(((a.2.2.drop (0+a.2.1.toNat)).take (((bn a.2.2.length).toNat) -a.2.1.toNat)).length))).toNat)) (0,0,0))) else none else none else none else none else none else none else none
def aFq:eM:=⟨[.i,.i,.l [.i .i64,.i .i64,.i .i64]],[.own 0 false,.int .i64 0,.int .i64 0],[.arr [.i .i64,.i .i64,.i .i64] []],[.n,.n,.l [.i .i64,.i .i64,.i .i64]],.pre 0 0 0 false,[.arr [.i .i64,.i .i64,.i .i64] []],fun a=>eN a⟩
theorem aDq:nJ tab 277 aFq:=nJ.of aLm (wd:=true) (cx:=(mJ aG [] [] [] [])) (jZ.make trivial trivial trivial) (fun a=>by kernel_rfl)
def zV (p0:bO) (p1:Int):Option (bO×(Int×Int)×Int):=(K5 p0 p1).bind fun a0=>bif a0.2 !=0 then some (bO.mk 0 [],(0,0),a0.2) else (bU p0.ar).bind fun l1=>(eN (a0.1,aA .i64 (a0.1+1),l1)).bind fun a2=>(aN p0.ar a0.1).bind fun a3=>some (bO.mk p0.aq (a2.2.2.take a2.1),a3.2,0)
def aVT:bI:=⟨aC.cons (aK.agg iA) (aC.one (aK.int .i64)),aK.tup (aC.cons (aK.agg iA) (aC.cons (aK.agg (cP.row kN)) (aC.one (aK.int .i64)))),fun a=>zV a.1 a.2,.frz,false⟩
theorem aMs:aI tab 240 aVT:=aI.of aK1 (cx:=(mJ aG [(276,aVS),(218,bI.clone eE)] [(277,aFq)] [] [])) rfl (jZ.make ⟨aMr,BM,trivial⟩ ⟨aDq,trivial⟩ trivial) (fun a=>by kernel_rfl)
def oO (p0:aQ):Option aQ:=(bU p0.ax.aa).bind fun l0=>(bU p0.ay.ar).bind fun l1=>(bU p0.ba).bind fun l2=>(bU p0.az.aj).bind fun l3=>(bU p0.az.am).bind fun l4=>(bU p0.az.ai.ac).bind fun l5=>(bU p0.az.ai.ae).bind fun l6=>(bU p0.az.ai.af).bind fun l7=>some (aQ.mk p0.au (Field.mk l0) (bO.mk p0.ay.aq l1) (aO.mk (bC.mk l5 l6 l7) l3 l4) l2)
def aMt:bI:=⟨aC.one (aK.agg bW),aK.agg bW,fun a=>oO a,.own,true⟩
def aB1:bI:=⟨aC.one (aK.agg bW),aK.agg bW,fun a=>oO a,.frz,false⟩
theorem US:aI tab 189 aMt:=Oc aBK rfl aG [(75,bI.clone eE),(218,bI.clone eE),(219,bI.clone eE),(220,bI.clone mV),(40,bI.clone ki),(221,bI.clone kb)] ⟨CP,BM,JI,yD,qA,yC,trivial⟩ fun a=>by kernel_rfl
theorem O7:aI tab 189 aB1:=Oc aBK rfl aG [(75,bI.clone eE),(218,bI.clone eE),(219,bI.clone eE),(220,bI.clone mV),(40,bI.clone ki),(221,bI.clone kb)] ⟨CP,BM,JI,yD,qA,yC,trivial⟩ fun a=>by kernel_rfl
def AU (p0:Int×Int×Int) (p1:Int):Option Int:=(fA p0.1 p1).bind fun n0=>some n0
def aVU:bI:=⟨aC.cons (aK.agg (cP.row eE)) (aC.one (aK.int .i64)),aK.int .i64,fun a=>AU a.1 a.2,.pure,false⟩
theorem aMu:aI tab 279 aVU:=Oc aLo rfl aG [(126,XH)] ⟨CT,trivial⟩ fun a=>by kernel_rfl
def kL (s:Q0):Option aE7:=bif decide (s.2.2.2.1<s.2.2.2.2) then (aN s.1 (aA .i64 (rQ .u64 (aA .u64 (aA .i64 (s.2.2.2.1+s.2.2.2.2))) 1))).bind fun a0=>(AU a0 s.2.1).bind fun n1=>bif decide (n1<0) then some (.next (s.1,s.2.1,s.2.2.1,aA .i64 ((aA .i64 (rQ .u64 (aA .u64 (aA .i64 (s.2.2.2.1+s.2.2.2.2))) 1))+1),s.2.2.2.2)) else some (.next (s.1,s.2.1,s.2.2.1,s.2.2.2.1,aA .i64 (rQ .u64 (aA .u64 (aA .i64 (s.2.2.2.1+s.2.2.2.2))) 1))) else bif decide (s.2.2.2.1<s.2.2.1) then (aN s.1 s.2.2.2.1).bind fun a2=>(AU a2 s.2.1).bind fun n3=>some (.done (s.2.2.2.1,n3==0)) else some (.done (s.2.2.2.1,false))
def dM (p0:List (Int×Int×Int)) (p1:Int) (_:Unit):Option (Int×Bool):=aH kL (p0,p1,bn p0.length,0,bn p0.length)
def XV:bI:=⟨aC.cons (aK.sl eE) (aC.cons (aK.int .i64) (aC.one (aK.clo 279 aC.nil))),aK.tup (aC.cons (aK.int .i64) (aC.one aK.bool)),fun a=>dM a.1 a.2.1 a.2.2,.pure,false⟩
theorem XW:aI tab 278 XV:=Oc aLn rfl aG [(279,aVU)] ⟨aMu,trivial⟩ fun a=>by kernel_rfl
def rB (p0:List (Int×Int×Int)) (p1:Int):Option (Int×Bool):=(dM p0 p1 ()).bind fun a0=>some a0
def aTw:bI:=⟨aC.cons (aK.sl eE) (aC.one (aK.int .i64)),aK.tup (aC.cons (aK.int .i64) (aC.one aK.bool)),fun a=>rB a.1 a.2,.pure,false⟩
theorem aB2:aI tab 241 aTw:=Oc aK2 rfl aG [(278,XV)] ⟨XW,trivial⟩ fun a=>by kernel_rfl
def EZ (p0:bC) (p1:Int×Int):Option (Bool×Int):=(tQ p0).bind fun n0=>bif n0 !=0 then some (false,n0) else bif decide (0<=p1.1) then bif decide (p1.1<(bn p0.ae.length)) then (aN p0.ae p1.1).bind fun b1=>bif b1 then (aN p0.ac p1.1).bind fun n2=>some (n2==p1.2,0) else some (false,0) else some (false,0) else some (false,0)
def aTx:bI:=⟨aC.cons (aK.agg gX) (aC.one (aK.agg (cP.row kN))),aK.tup (aC.cons aK.bool (aC.one (aK.int .i64))),fun a=>EZ a.1 a.2,.pure,false⟩
theorem aB3:aI tab 299 aTx:=Oc aLA rfl aG [(191,aLS)] ⟨UM,trivial⟩ fun a=>by kernel_rfl
def sG (p0:aO) (p1:Int×Int):Option (Int×Int):=(mY p0).bind fun n0=>bif n0 !=0 then some (0,n0) else (EZ p0.ai p1).bind fun a1=>bif a1.2 !=0 then some (0,6) else bif !a1.1 then some (0,6) else (aN p0.am p1.1).bind fun n2=>some (n2,0)
def aTy:bI:=⟨aC.cons (aK.agg dP) (aC.one (aK.agg (cP.row kN))),aK.tup (aC.cons (aK.int .i64) (aC.one (aK.int .i64))),fun a=>sG a.1 a.2,.pure,false⟩
theorem aB4:aI tab 280 aTy:=Oc aLp rfl aG [(139,aFg),(299,aTx)] ⟨M3,aB3,trivial⟩ fun a=>by kernel_rfl
def wR (p0:List Int) (p1:Int):Option (List Int):=(bU p0).bind fun l0=>(bN l0 [p1]).bind fun l1=>some l1
def aVV:bI:=⟨aC.cons (aK.sl ki) (aC.one (aK.int .i64)),aK.sl ki,fun a=>wR a.1 a.2,.frz,false⟩
theorem aMv:aI tab 307 aVV:=Oc aLF rfl aG [(308,bI.clone ki)] ⟨XE,trivial⟩ fun a=>by kernel_rfl
def F0 (p0:bC) (p1:Int×Int):Option (bC×Int):=(EZ p0 p1).bind fun a0=>bif a0.2 !=0 then some (bC.mk [] [] [],a0.2) else bif !a0.1 then some (bC.mk [] [] [],6) else (bU p0.ac).bind fun l1=>(bU p0.ae).bind fun l2=>(wR p0.af p1.1).bind fun l3=>(aN l2 p1.1).bind fun _=>some (bC.mk l1 (cL l2 p1.1 false) l3,0)
def aVW:bI:=⟨aC.cons (aK.agg gX) (aC.one (aK.agg (cP.row kN))),aK.tup (aC.cons (aK.agg gX) (aC.one (aK.int .i64))),fun a=>F0 a.1 a.2,.frz,false⟩
theorem aMw:aI tab 300 aVW:=aI.of aLB (cx:=(mJ aG [(299,aTx),(40,bI.clone ki),(221,bI.clone kb),(307,aVV)] [] [(305,aES)] [])) rfl (jZ.make ⟨aB3,qA,yC,aMv,trivial⟩ trivial ⟨aBS,trivial⟩) (fun a=>by kernel_rfl)
def cB (a:aLI):Option QZ:=(aN (a.2.2.2.2.2.2.2.2.2.2.2.1.take a.2.2.2.1) a.2.2.2.2.2.1).bind fun _=>(aN a.2.2.2.2.2.2.2.2.2.2.2.2 a.2.2.2.2.2.2.2.2.2.1).bind fun _=>bif ((cL a.2.2.2.2.2.2.2.2.2.2.2.1 a.2.2.2.2.2.1 (a.2.2.2.2.2.2.1,a.2.2.2.2.2.2.2.1,a.2.2.2.2.2.2.2.2.1,a.2.2.2.2.2.2.2.2.2.1,a.2.2.2.2.2.2.2.2.2.2.1)).length)==a.2.2.2.2.2.2.2.2.2.2.2.1.length then bif ((cL a.2.2.2.2.2.2.2.2.2.2.2.2 a.2.2.2.2.2.2.2.2.2.1 a.2.2.2.2.2.1).length)==a.2.2.2.2.2.2.2.2.2.2.2.2.length then some (cL a.2.2.2.2.2.2.2.2.2.2.2.1 a.2.2.2.2.2.1 (a.2.2.2.2.2.2.1,a.2.2.2.2.2.2.2.1,a.2.2.2.2.2.2.2.2.1,a.2.2.2.2.2.2.2.2.2.1,a.2.2.2.2.2.2.2.2.2.2.1),cL a.2.2.2.2.2.2.2.2.2.2.2.2 a.2.2.2.2.2.2.2.2.2.1 a.2.2.2.2.2.1) else none else none
def aAy:eM:=⟨[.l [.i .i64],.l [.b],.l [.i .i64],.n,.n,.i,.i,.i,.i,.i,.i,.l [.i .i64,.i .i64,.i .i64,.i .i64,.i .i64],.l [.i .i64]],[.agg [.sl [.i .i64] [],.sl [.b] [],.sl [.i .i64] [],.pre 0 0 0 false,.own 1 false],.int .i64 0,.agg [.int .i64 0,.int .i64 0,.int .i64 0,.int .i64 0,.int .i64 0]],[.arr [.i .i64,.i .i64,.i .i64,.i .i64,.i .i64] [],.arr [.i .i64] []],[.l [.i .i64,.i .i64,.i .i64,.i .i64,.i .i64],.l [.i .i64]],.tup [],[.arr [.i .i64,.i .i64,.i .i64,.i .i64,.i .i64] [],.arr [.i .i64] []],fun a=>cB a⟩
theorem SF:nJ tab 302 aAy:=nJ.of aBR (wd:=false) (cx:=(mJ aG [] [] [] [])) (jZ.make trivial trivial trivial) (fun a=>by kernel_rfl)
def gM (c0:aLI) (s:aU6):Option (bQ aU6 aU0):=match s with |(a,b,d,e,f,g,h,i,j,k,l,m,n,o)=>bif decide (b<(bn i)) then bif decide ((aA .i64 (b+1))<(bn i)) then (aN (d.take i) (aA .i64 (b+1))).bind fun a0=>(aN (d.take i) b).bind fun a1=>(cQ a0 a1).bind fun n2=>bif decide (n2<0) then (aN (d.take i) (aA .i64 (b+1))).bind fun a3=>(cQ a3 (k,l,m,n,o)).bind fun n4=>bif decide (0<=n4) then (cB (f,g,h,i,j,a,k,l,m,n,o,d,e)).bind fun a5=>bif a5.1.length==c0.2.2.2.2.2.2.2.2.2.2.2.1.length then bif a5.2.length==c0.2.2.2.2.2.2.2.2.2.2.2.2.length then some (.done (.done a5)) else none else none else (aN (d.take i) (aA .i64 (b+1))).bind fun a6=>(cB (f,g,h,i,j,a,a6.1,a6.2.1,a6.2.2.1,a6.2.2.2.1,a6.2.2.2.2,d,e)).bind fun a7=>some (.next (aA .i64 (b+1),aA .i64 ((aA .i64 (2*(aA .i64 (b+1))))+1),a7.1,a7.2,(f,g,h,i,j,k,l,m,n,o))) else (aN (d.take i) b).bind fun a8=>(cQ a8 (k,l,m,n,o)).bind fun n9=>bif decide (0<=n9) then (cB (f,g,h,i,j,a,k,l,m,n,o,d,e)).bind fun a10=>bif a10.1.length==c0.2.2.2.2.2.2.2.2.2.2.2.1.length then bif a10.2.length==c0.2.2.2.2.2.2.2.2.2.2.2.2.length then some (.done (.done a10)) else none else none else (aN (d.take i) b).bind fun a11=>(cB (f,g,h,i,j,a,a11.1,a11.2.1,a11.2.2.1,a11.2.2.2.1,a11.2.2.2.2,d,e)).bind fun a12=>some (.next (b,aA .i64 ((aA .i64 (2*b))+1),a12.1,a12.2,(f,g,h,i,j,k,l,m,n,o))) else (aN (d.take i) b).bind fun a13=>(cQ a13 (k,l,m,n,o)).bind fun n14=>bif decide (0<=n14) then (cB (f,g,h,i,j,a,k,l,m,n,o,d,e)).bind fun a15=>bif a15.1.length==c0.2.2.2.2.2.2.2.2.2.2.2.1.length then bif a15.2.length==c0.2.2.2.2.2.2.2.2.2.2.2.2.length then some (.done (.done a15)) else none else none else (aN (d.take i) b).bind fun a16=>(cB (f,g,h,i,j,a,a16.1,a16.2.1,a16.2.2.1,a16.2.2.2.1,a16.2.2.2.2,d,e)).bind fun a17=>some (.next (b,aA .i64 ((aA .i64 (2*b))+1),a17.1,a17.2,(f,g,h,i,j,k,l,m,n,o))) else (cB (f,g,h,i,j,a,k,l,m,n,o,d,e)).bind fun a18=>bif a18.1.length==c0.2.2.2.2.2.2.2.2.2.2.2.1.length then bif a18.2.length==c0.2.2.2.2.2.2.2.2.2.2.2.2.length then some (.done (.done a18)) else none else none
def fB (c0:aLI) (s:aUZ):Option aU0:=bif decide (0<s.1) then (aN (s.2.1.take s.2.2.2.2.2.2.1) (aA .i64 (bo (aA .i64 (s.1-1)) 2))).bind fun a0=>(cQ s.2.2.2.2.2.2.2.2 a0).bind fun n1=>bif decide (n1<0) then (aN (s.2.1.take s.2.2.2.2.2.2.1) (aA .i64 (bo (aA .i64 (s.1-1)) 2))).bind fun a2=>(cB (s.2.2.2.1,s.2.2.2.2.1,s.2.2.2.2.2.1,s.2.2.2.2.2.2.1,s.2.2.2.2.2.2.2.1,s.1,a2.1,a2.2.1,a2.2.2.1,a2.2.2.2.1,a2.2.2.2.2,s.2.1,s.2.2.1)).bind fun a3=>some (.next (aA .i64 (bo (aA .i64 (s.1-1)) 2),a3.1,a3.2,s.2.2.2)) else aH (gM c0) (s.1,aA .i64 ((aA .i64 (2*s.1))+1),s.2) else aH (gM c0) (s.1,aA .i64 ((aA .i64 (2*s.1))+1),s.2)
def lO (a:aLI):Option QZ:=aH (fB a) (a.2.2.2.2.2.1,a.2.2.2.2.2.2.2.2.2.2.2.1,a.2.2.2.2.2.2.2.2.2.2.2.2,a.1,a.2.1,a.2.2.1,a.2.2.2.1,a.2.2.2.2.1,a.2.2.2.2.2.2.1,a.2.2.2.2.2.2.2.1,a.2.2.2.2.2.2.2.2.1,a.2.2.2.2.2.2.2.2.2.1,a.2.2.2.2.2.2.2.2.2.2.1)
def UT:eM:=⟨[.l [.i .i64],.l [.b],.l [.i .i64],.n,.n,.i,.i,.i,.i,.i,.i,.l [.i .i64,.i .i64,.i .i64,.i .i64,.i .i64],.l [.i .i64]],[.agg [.sl [.i .i64] [],.sl [.b] [],.sl [.i .i64] [],.pre 0 0 0 false,.own 1 false],.int .i64 0,.agg [.int .i64 0,.int .i64 0,.int .i64 0,.int .i64 0,.int .i64 0]],[.arr [.i .i64,.i .i64,.i .i64,.i .i64,.i .i64] [],.arr [.i .i64] []],[.l [.i .i64,.i .i64,.i .i64,.i .i64,.i .i64],.l [.i .i64]],.tup [],[.arr [.i .i64,.i .i64,.i .i64,.i .i64,.i .i64] [],.arr [.i .i64] []],fun a=>lO a⟩
theorem K6:nJ tab 286 UT:=nJ.of aBO (wd:=false) (cx:=(mJ aG [(192,aL2)] [(302,aAy)] [] [])) (jZ.make ⟨UO,trivial⟩ ⟨SF,trivial⟩ trivial) (fun a=>by kernel_rfl)
def uQ (p0:aO) (p1:Int):Option (aO×(Int×Int×Int×Int×Int)×Int):=(aN p0.aj p1).bind fun a0=>(F0 p0.ai a0.2.2.2).bind fun a1=>bif a1.2 !=0 then some (aO.mk (bC.mk [] [] []) [] [],(0,0,0,0,0),a1.2) else (bU p0.aj).bind fun l2=>(bU p0.am).bind fun l3=>(aN l2 (aA .i64 ((bn l2.length) -1))).bind fun a4=>(jH l2 0 (aA .i64 ((bn l2.length) -1))).bind fun _=>(aN l3 a0.2.2.2.1).bind fun _=>bif decide (p1<(aA .i64 ((bn l2.length) -1))) then (lO (a1.1.ac,a1.1.ae,a1.1.af,(aA .i64 ((bn l2.length) -1)).toNat,l2.length,p1,a4.1,a4.2.1,a4.2.2.1,a4.2.2.2.1,a4.2.2.2.2,l2,cL l3 a0.2.2.2.1 (-1))).bind fun a7=>some (aO.mk a1.1 (a7.1.take ((aA .i64 ((bn l2.length) -1)).toNat)) a7.2,a0,0) else some (aO.mk a1.1 (l2.take ((aA .i64 ((bn l2.length) -1)).toNat)) (cL l3 a0.2.2.2.1 (-1)),a0,0)
def aVX:bI:=⟨aC.cons (aK.agg dP) (aC.one (aK.int .i64)),aK.tup (aC.cons (aK.agg dP) (aC.cons (aK.agg (cP.row mV)) (aC.one (aK.int .i64)))),fun a=>uQ a.1 a.2,.frz,false⟩
theorem aMx:aI tab 281 aVX:=aI.of aLq (cx:=(mJ aG [(300,aVW),(220,bI.clone mV),(40,bI.clone ki)] [(286,UT)] [(285,aDj)] [])) rfl (jZ.make ⟨aMw,yD,qA,trivial⟩ ⟨K6,trivial⟩ ⟨UG,trivial⟩) (fun a=>by kernel_rfl)
def nP (p0:aO) (p1:Int×Int):Option (aO×(Int×Int×Int×Int×Int)×Int):=(sG p0 p1).bind fun a0=>bif a0.2 !=0 then some (aO.mk (bC.mk [] [] []) [] [],(0,0,0,0,0),a0.2) else (uQ p0 a0.1).bind fun a1=>some a1
def aTz:bI:=⟨aC.cons (aK.agg dP) (aC.one (aK.agg (cP.row kN))),aK.tup (aC.cons (aK.agg dP) (aC.cons (aK.agg (cP.row mV)) (aC.one (aK.int .i64)))),fun a=>nP a.1 a.2,.frz,false⟩
theorem aB5:aI tab 242 aTz:=Oc aK3 rfl aG [(280,aTy),(281,aVX)] ⟨aB4,aMx,trivial⟩ fun a=>by kernel_rfl
def mZ (a:aFa):Option (Nat×Nat×cH):= eN a
def aFr:eM:=⟨[.i,.i,.l [.i .i64,.i .i64,.i .i64]],[.own 0 false,.int .i64 0,.int .i64 0],[.arr [.i .i64,.i .i64,.i .i64] []],[.n,.n,.l [.i .i64,.i .i64,.i .i64]],.pre 0 0 0 false,[.arr [.i .i64,.i .i64,.i .i64] []],fun a=>mZ a⟩
theorem aDr:nJ tab 243 aFr:=nJ.of aK4 (wd:=true) (cx:=(mJ aG [] [] [] [])) (jZ.make trivial trivial trivial) (fun a=>by kernel_rfl)
def tU (p0:aQ) (p1:Int):Option (aQ×(Int×Int)×Int):=(zV p0.ay p1).bind fun a0=>bif a0.2.2 !=0 then some (jB,a0.2) else (oO p0).bind fun r1=>(rB p0.ba p1).bind fun a2=>bif a2.2 then (aN p0.ba a2.1).bind fun a3=>(nP p0.az a3.2).bind fun a4=>bif a4.2.2 !=0 then some (jB,a0.2.1,a4.2.2) else (mZ (a2.1,aA .i64 (a2.1+1),r1.ba)).bind fun a5=>some (aQ.mk r1.au r1.ax a0.1 a4.1 (a5.2.2.take a5.1),a0.2.1,0) else some (aQ.mk r1.au r1.ax a0.1 r1.az r1.ba,a0.2.1,0)
def aVY:bI:=⟨aC.cons (aK.agg bW) (aC.one (aK.int .i64)),aK.tup (aC.cons (aK.agg bW) (aC.cons (aK.agg (cP.row kN)) (aC.one (aK.int .i64)))),fun a=>tU a.1 a.2,.frz,false⟩
theorem aMy:aI tab 188 aVY:=aI.of aKw (cx:=(mJ aG [(240,aVT),(189,aMt),(189,aB1),(241,aTw),(242,aTz)] [(243,aFr)] [] [])) rfl (jZ.make ⟨aMs,US,O7,aB2,aB5,trivial⟩ ⟨aDr,trivial⟩ trivial) (fun a=>by kernel_rfl)
def xI (p0:aQ) (p1:Int):Option (aQ×Int):=(iG p0).bind fun n0=>bif n0 !=0 then some (jB,n0) else (tU p0 p1).bind fun a1=>some (a1.1,a1.2.2)
def aVZ:bI:=⟨aC.cons (aK.agg bW) (aC.one (aK.int .i64)),aK.tup (aC.cons (aK.agg bW) (aC.one (aK.int .i64))),fun a=>xI a.1 a.2,.frz,false⟩
theorem aMz:aI tab 213 aVZ:=Oc aKF rfl aG [(86,c86),(188,aVY)] ⟨O6,aMy,trivial⟩ fun a=>by kernel_rfl
def kK (s:(cH×cH×Int×Int)):Option (bQ (cH×cH×Int×Int) Bool):=bif decide (s.2.2.2<s.2.2.1) then (aN s.1 s.2.2.2).bind fun a0=>(aN s.2.1 s.2.2.2).bind fun a1=>bif !((a0.1==a1.1)&&((a0.2.1==a1.2.1)&&(a0.2.2==a1.2.2))) then some (.done false) else some (.next (s.1,s.2.1,s.2.2.1,aA .i64 (s.2.2.2+1))) else some (.done true)
def nA (p0:List (Int×Int×Int)) (p1:List (Int×Int×Int)):Option Bool:=bif (bn p0.length) !=(bn p1.length) then some false else aH kK (p0,p1,bn p0.length,0)
def aV0:bI:=⟨aC.cons (aK.sl eE) (aC.one (aK.sl eE)),aK.bool,fun a=>nA a.1 a.2,.pure,false⟩
theorem aMA:aI tab 214 aV0:=Oc aKG rfl aG [] trivial fun a=>by kernel_rfl
def cC (a:aLJ):Option QZ:=(aN a.2.2.2.2.2.2.2.2.2.1 a.2.2.2.1).bind fun _=>(aN a.2.2.2.2.2.2.2.2.2.2 a.2.2.2.2.2.2.2.1).bind fun _=>bif ((cL a.2.2.2.2.2.2.2.2.2.1 a.2.2.2.1 (a.2.2.2.2.1,a.2.2.2.2.2.1,a.2.2.2.2.2.2.1,a.2.2.2.2.2.2.2.1,a.2.2.2.2.2.2.2.2.1)).length)==a.2.2.2.2.2.2.2.2.2.1.length then bif ((cL a.2.2.2.2.2.2.2.2.2.2 a.2.2.2.2.2.2.2.1 a.2.2.2.1).length)==a.2.2.2.2.2.2.2.2.2.2.length then some (cL a.2.2.2.2.2.2.2.2.2.1 a.2.2.2.1 (a.2.2.2.2.1,a.2.2.2.2.2.1,a.2.2.2.2.2.2.1,a.2.2.2.2.2.2.2.1,a.2.2.2.2.2.2.2.2.1),cL a.2.2.2.2.2.2.2.2.2.2 a.2.2.2.2.2.2.2.1 a.2.2.2.1) else none else none
def aFs:eM:=⟨[.l [.i .i64],.l [.b],.l [.i .i64],.i,.i,.i,.i,.i,.i,.l [.i .i64,.i .i64,.i .i64,.i .i64,.i .i64],.l [.i .i64]],[.agg [.sl [.i .i64] [],.sl [.b] [],.sl [.i .i64] [],.own 0 false,.own 1 false],.int .i64 0,.agg [.int .i64 0,.int .i64 0,.int .i64 0,.int .i64 0,.int .i64 0]],[.arr [.i .i64,.i .i64,.i .i64,.i .i64,.i .i64] [],.arr [.i .i64] []],[.l [.i .i64,.i .i64,.i .i64,.i .i64,.i .i64],.l [.i .i64]],.tup [],[.arr [.i .i64,.i .i64,.i .i64,.i .i64,.i .i64] [],.arr [.i .i64] []],fun a=>cC a⟩
theorem aDs:nJ tab 302 aFs:=nJ.of aBR (wd:=false) (cx:=(mJ aG [] [] [] [])) (jZ.make trivial trivial trivial) (fun a=>by kernel_rfl)
def gN (c0:aLJ) (s:aU7):Option (bQ aU7 aU2):=match s with |(a,b,d,e,f,g,h,i,j,k,l,m)=>bif decide (b<(bn d.length)) then bif decide ((aA .i64 (b+1))<(bn d.length)) then (aN d (aA .i64 (b+1))).bind fun a0=>(aN d b).bind fun a1=>(cQ a0 a1).bind fun n2=>bif decide (n2<0) then (aN d (aA .i64 (b+1))).bind fun a3=>(cQ a3 (i,j,k,l,m)).bind fun n4=>bif decide (0<=n4) then (cC (f,g,h,a,i,j,k,l,m,d,e)).bind fun a5=>bif a5.1.length==c0.2.2.2.2.2.2.2.2.2.1.length then bif a5.2.length==c0.2.2.2.2.2.2.2.2.2.2.length then some (.done (.done a5)) else none else none else (aN d (aA .i64 (b+1))).bind fun a6=>(cC (f,g,h,a,a6.1,a6.2.1,a6.2.2.1,a6.2.2.2.1,a6.2.2.2.2,d,e)).bind fun a7=>some (.next (aA .i64 (b+1),aA .i64 ((aA .i64 (2*(aA .i64 (b+1))))+1),a7.1,a7.2,(f,g,h,i,j,k,l,m))) else (aN d b).bind fun a8=>(cQ a8 (i,j,k,l,m)).bind fun n9=>bif decide (0<=n9) then (cC (f,g,h,a,i,j,k,l,m,d,e)).bind fun a10=>bif a10.1.length==c0.2.2.2.2.2.2.2.2.2.1.length then bif a10.2.length==c0.2.2.2.2.2.2.2.2.2.2.length then some (.done (.done a10)) else none else none else (aN d b).bind fun a11=>(cC (f,g,h,a,a11.1,a11.2.1,a11.2.2.1,a11.2.2.2.1,a11.2.2.2.2,d,e)).bind fun a12=>some (.next (b,aA .i64 ((aA .i64 (2*b))+1),a12.1,a12.2,(f,g,h,i,j,k,l,m))) else (aN d b).bind fun a13=>(cQ a13 (i,j,k,l,m)).bind fun n14=>bif decide (0<=n14) then (cC (f,g,h,a,i,j,k,l,m,d,e)).bind fun a15=>bif a15.1.length==c0.2.2.2.2.2.2.2.2.2.1.length then bif a15.2.length==c0.2.2.2.2.2.2.2.2.2.2.length then some (.done (.done a15)) else none else none else (aN d b).bind fun a16=>(cC (f,g,h,a,a16.1,a16.2.1,a16.2.2.1,a16.2.2.2.1,a16.2.2.2.2,d,e)).bind fun a17=>some (.next (b,aA .i64 ((aA .i64 (2*b))+1),a17.1,a17.2,(f,g,h,i,j,k,l,m))) else (cC (f,g,h,a,i,j,k,l,m,d,e)).bind fun a18=>bif a18.1.length==c0.2.2.2.2.2.2.2.2.2.1.length then bif a18.2.length==c0.2.2.2.2.2.2.2.2.2.2.length then some (.done (.done a18)) else none else none
def fC (c0:aLJ) (s:aU1):Option aU2:=bif decide (0<s.1) then (aN s.2.1 (aA .i64 (bo (aA .i64 (s.1-1)) 2))).bind fun a0=>(cQ s.2.2.2.2.2.2 a0).bind fun n1=>bif decide (n1<0) then (aN s.2.1 (aA .i64 (bo (aA .i64 (s.1-1)) 2))).bind fun a2=>(cC (s.2.2.2.1,s.2.2.2.2.1,s.2.2.2.2.2.1,s.1,a2.1,a2.2.1,a2.2.2.1,a2.2.2.2.1,a2.2.2.2.2,s.2.1,s.2.2.1)).bind fun a3=>some (.next (aA .i64 (bo (aA .i64 (s.1-1)) 2),a3.1,a3.2,s.2.2.2)) else aH (gN c0) (s.1,aA .i64 ((aA .i64 (2*s.1))+1),s.2) else aH (gN c0) (s.1,aA .i64 ((aA .i64 (2*s.1))+1),s.2)
def fI (a:aLJ):Option QZ:=aH (fC a) (a.2.2.2.1,a.2.2.2.2.2.2.2.2.2.1,a.2.2.2.2.2.2.2.2.2.2,a.1,a.2.1,a.2.2.1,a.2.2.2.2.1,a.2.2.2.2.2.1,a.2.2.2.2.2.2.1,a.2.2.2.2.2.2.2.1,a.2.2.2.2.2.2.2.2.1)
def aAz:eM:=⟨[.l [.i .i64],.l [.b],.l [.i .i64],.i,.i,.i,.i,.i,.i,.l [.i .i64,.i .i64,.i .i64,.i .i64,.i .i64],.l [.i .i64]],[.agg [.sl [.i .i64] [],.sl [.b] [],.sl [.i .i64] [],.own 0 false,.own 1 false],.int .i64 0,.agg [.int .i64 0,.int .i64 0,.int .i64 0,.int .i64 0,.int .i64 0]],[.arr [.i .i64,.i .i64,.i .i64,.i .i64,.i .i64] [],.arr [.i .i64] []],[.l [.i .i64,.i .i64,.i .i64,.i .i64,.i .i64],.l [.i .i64]],.tup [],[.arr [.i .i64,.i .i64,.i .i64,.i .i64,.i .i64] [],.arr [.i .i64] []],fun a=>fI a⟩
theorem SG:nJ tab 286 aAz:=nJ.of aBO (wd:=false) (cx:=(mJ aG [(192,aL2)] [(302,aAy),(302,aFs)] [] [])) (jZ.make ⟨UO,trivial⟩ ⟨SF,aDs,trivial⟩ trivial) (fun a=>by kernel_rfl)
def xJ (p0:aO) (p1:Int×Int) (p2:Int×Int):Option (aO×Int):=(mY p0).bind fun n0=>(iE p2).bind fun n1=>bif (if n1>n0 then n1 else n0) !=0 then some (aO.mk (bC.mk [] [] []) [] [],if n1>n0 then n1 else n0) else (sG p0 p1).bind fun a2=>bif a2.2 !=0 then some (aO.mk (bC.mk [] [] []) [] [],a2.2) else (bU p0.aj).bind fun l3=>(bU p0.am).bind fun l4=>(aN l3 a2.1).bind fun a5=>(fI (p0.ai.ac,p0.ai.ae,p0.ai.af,a2.1,p2.1,p2.2,a5.2.2.1,a5.2.2.2.1,a5.2.2.2.2,l3,l4)).bind fun a6=>some (aO.mk p0.ai a6.1 a6.2,0)
def aV1:bI:=⟨aC.cons (aK.agg dP) (aC.cons (aK.agg (cP.row kN)) (aC.one (aK.agg (cP.row kN)))),aK.tup (aC.cons (aK.agg dP) (aC.one (aK.int .i64))),fun a=>xJ a.1 a.2.1 a.2.2,.frz,false⟩
theorem aMB:aI tab 255 aV1:=aI.of aLb (cx:=(mJ aG [(139,aFg),(121,XG),(280,aTy),(220,bI.clone mV),(40,bI.clone ki)] [(286,UT),(286,aAz)] [(285,aDj)] [])) rfl (jZ.make ⟨M3,CR,aB4,yD,qA,trivial⟩ ⟨K6,SG,trivial⟩ ⟨UG,trivial⟩) (fun a=>by kernel_rfl)
def AV (p0:Int×Int×Int×Int×Int) (p1:Int):Option Bool:=some (p0.2.2.1==p1)
def aV2:bI:=⟨aC.cons (aK.agg (cP.row mV)) (aC.one (aK.ref (cP.int .i64))),aK.bool,fun a=>AV a.1 a.2,.pure,false⟩
theorem aMC:aI tab 288 aV2:=Oc aBP rfl aG [] trivial fun a=>by kernel_rfl
def dC (s:(lJ×Int×Int×Int)):Option (bQ (lJ×Int×Int×Int) Int):=bif decide (s.2.2.2<s.2.2.1) then (aN s.1 s.2.2.2).bind fun a0=>(AV a0 s.2.1).bind fun b1=>bif b1 then some (.done s.2.2.2) else some (.next (s.1,s.2.1,s.2.2.1,aA .i64 (s.2.2.2+1))) else some (.done (-1))
def fD (p0:List (Int×Int×Int×Int×Int)) (p1:Int):Option Int:=aH dC (p0,p1,bn p0.length,0)
def XX:bI:=⟨aC.cons (aK.sl mV) (aC.one (aK.clo 288 (aC.one (aK.ref (cP.int .i64))))),aK.int .i64,fun a=>fD a.1 a.2,.pure,false⟩
theorem XY:aI tab 303 XX:=aI.of aLD (cx:=(mJ aG [(288,aV2)] [] [(288,aI5)] [])) rfl (jZ.make ⟨aMC,trivial⟩ trivial ⟨aBP,trivial⟩) (fun a=>by kernel_rfl)
def dD (p0:List (Int×Int×Int×Int×Int)) (p1:Int):Option Bool:=(fD p0 p1).bind fun n0=>some (decide (0<=n0))
def XZ:bI:=⟨aC.cons (aK.sl mV) (aC.one (aK.clo 288 (aC.one (aK.ref (cP.int .i64))))),aK.bool,fun a=>dD a.1 a.2,.pure,false⟩
theorem X0:aI tab 287 XZ:=Oc aLt rfl aG [(303,XX)] ⟨XY,trivial⟩ fun a=>by kernel_rfl
def yL (p0:List Int):Option ((List Int)×Int):=(jH p0 0 (aA .i64 ((bn p0.length) -1))).bind fun l0=>(bU l0).bind fun l1=>(aN p0 (aA .i64 ((bn p0.length) -1))).bind fun n2=>some (l1,n2)
def aV3:bI:=⟨aC.one (aK.sl ki),aK.tup (aC.cons (aK.sl ki) (aC.one (aK.int .i64))),fun a=>yL a,.frz,false⟩
theorem aMD:aI tab 304 aV3:=Oc aLE rfl aG [(308,bI.clone ki)] ⟨XE,trivial⟩ fun a=>by kernel_rfl
def F1 (p0:bC):Option (bC×(Int×Int)×Int):=(tQ p0).bind fun n0=>bif n0 !=0 then some (bC.mk [] [] [],(0,0),n0) else bif (bn p0.af.length)==0 then some (bC.mk [] [] [],(0,0),18) else (yL p0.af).bind fun a1=>(aN p0.ac a1.2).bind fun n2=>bif n2==1000000 then some (bC.mk [] [] [],(0,0),18) else (bU p0.ac).bind fun l3=>(bU p0.ae).bind fun l4=>(aN l4 a1.2).bind fun _=>(aN l3 a1.2).bind fun n6=>(aN l3 a1.2).bind fun _=>(aN (cL l3 a1.2 (aA .i64 (n6+1))) a1.2).bind fun n8=>some (bC.mk (cL l3 a1.2 (aA .i64 (n6+1))) (cL l4 a1.2 true) a1.1,(a1.2,n8),0)
def aV4:bI:=⟨aC.one (aK.agg gX),aK.tup (aC.cons (aK.agg gX) (aC.cons (aK.agg (cP.row kN)) (aC.one (aK.int .i64)))),fun a=>F1 a,.frz,false⟩
theorem aME:aI tab 289 aV4:=aI.of aLu (cx:=(mJ aG [(191,aLS),(304,aV3),(40,bI.clone ki),(221,bI.clone kb)] [] [(305,aES)] [])) rfl (jZ.make ⟨UM,aMD,qA,yC,trivial⟩ trivial ⟨aBS,trivial⟩) (fun a=>by kernel_rfl)
def mQ (p0:aO) (p1:Int×Int) (p2:Int):Option (aO×(Int×Int)×Int):=(mY p0).bind fun n0=>(iE p1).bind fun n1=>bif (if n1>n0 then n1 else n0) !=0 then some (aO.mk (bC.mk [] [] []) [] [],(0,0),if n1>n0 then n1 else n0) else bif decide (p2<0) then some (aO.mk (bC.mk [] [] []) [] [],(0,0),2) else bif decide (1000000<p2) then some (aO.mk (bC.mk [] [] []) [] [],(0,0),2) else (dD p0.aj p2).bind fun b2=>bif b2 then some (aO.mk (bC.mk [] [] []) [] [],(0,0),14) else (F1 p0.ai).bind fun a3=>bif a3.2.2 !=0 then some (aO.mk (bC.mk [] [] []) [] [],(0,0),a3.2.2) else (bU p0.aj).bind fun l4=>(bU p0.am).bind fun l5=>(bN l4 [(p1.1,p1.2,p2,a3.2.1)]).bind fun l6=>(fI (a3.1.ac,a3.1.ae,a3.1.af,aA .i64 ((bn l6.length) -1),p1.1,p1.2,p2,a3.2.1.1,a3.2.1.2,l6,l5)).bind fun a7=>some (aO.mk a3.1 a7.1 a7.2,a3.2.1,0)
def aTA:bI:=⟨aC.cons (aK.agg dP) (aC.cons (aK.agg (cP.row kN)) (aC.one (aK.int .i64))),aK.tup (aC.cons (aK.agg dP) (aC.cons (aK.agg (cP.row kN)) (aC.one (aK.int .i64)))),fun a=>mQ a.1 a.2.1 a.2.2,.frz,false⟩
theorem aB6:aI tab 256 aTA:=aI.of aLc (cx:=(mJ aG [(139,aFg),(121,XG),(287,XZ),(289,aV4),(220,bI.clone mV),(40,bI.clone ki)] [(286,UT),(286,aAz)] [(285,aDj)] [])) rfl (jZ.make ⟨M3,CR,X0,aME,yD,qA,trivial⟩ ⟨K6,SG,trivial⟩ ⟨UG,trivial⟩) (fun a=>by kernel_rfl)
def dW (s:Zt3):Option (bQ Zt3 Zt7):=match s with |(a,b,d,e,f,g,h,i,j,k,l,m,n,o,q,r,t,u,v,w,x,y,z,A,B,C,D,E,F)=>bif decide (d<b) then (aN a d).bind fun a0=>(tT (Field.mk q) a0.2 (e,f)).bind fun a1=>(rB o a0.1).bind fun a2=>bif a1.2.1 then bif a2.2 then (aN o a2.1).bind fun a3=>(xJ (aO.mk (bC.mk z A B) C D) a3.2 a1.1).bind fun a4=>(aN o a2.1).bind fun a5=>(bN F [a5]).bind fun l6=>bif a4.2 !=0 then some (.done (.done (jB,a4.2))) else some (.next (a,b,aA .i64 (d+1),e,f,g,h,i,j,k,l,m,n,o,q,r,t,u,v,w,x,y,a4.1.ai.ac,a4.1.ai.ae,a4.1.ai.af,a4.1.aj,a4.1.am,E,l6)) else bif a1.2.1 then (mQ (aO.mk (bC.mk z A B) C D) a1.1 a0.1).bind fun a7=>(bN F [(a0.1,a7.2.1)]).bind fun l8=>bif a7.2.2 !=0 then some (.done (.done (jB,a7.2.2))) else some (.next (a,b,aA .i64 (d+1),e,f,g,h,i,j,k,l,m,n,o,q,r,t,u,v,w,x,y,a7.1.ai.ac,a7.1.ai.ae,a7.1.ai.af,a7.1.aj,a7.1.am,E,l8)) else bif a2.2 then (aN o a2.1).bind fun a9=>(nP (aO.mk (bC.mk z A B) C D) a9.2).bind fun a10=>bif a10.2.2 !=0 then some (.done (.done (jB,a10.2.2))) else some (.next (a,b,aA .i64 (d+1),e,f,g,h,i,j,k,l,m,n,o,q,r,t,u,v,w,x,y,a10.1.ai.ac,a10.1.ai.ae,a10.1.ai.af,a10.1.aj,a10.1.am,(E,F))) else bif a1.2.2 !=0 then some (.done (.done (jB,a1.2.2))) else some (.next (a,b,aA .i64 (d+1),(e,f,g,h,i,j,k,l,m,n,o,q,r,t,u,v,w,x,y,z,A,B,C,D,E,F))) else bif a1.2.1 then (mQ (aO.mk (bC.mk z A B) C D) a1.1 a0.1).bind fun a11=>(bN F [(a0.1,a11.2.1)]).bind fun l12=>bif a11.2.2 !=0 then some (.done (.done (jB,a11.2.2))) else some (.next (a,b,aA .i64 (d+1),e,f,g,h,i,j,k,l,m,n,o,q,r,t,u,v,w,x,y,a11.1.ai.ac,a11.1.ai.ae,a11.1.ai.af,a11.1.aj,a11.1.am,E,l12)) else bif a2.2 then (aN o a2.1).bind fun a13=>(nP (aO.mk (bC.mk z A B) C D) a13.2).bind fun a14=>bif a14.2.2 !=0 then some (.done (.done (jB,a14.2.2))) else some (.next (a,b,aA .i64 (d+1),e,f,g,h,i,j,k,l,m,n,o,q,r,t,u,v,w,x,y,a14.1.ai.ac,a14.1.ai.ae,a14.1.ai.af,a14.1.aj,a14.1.am,(E,F))) else bif a1.2.2 !=0 then some (.done (.done (jB,a1.2.2))) else some (.next (a,b,aA .i64 (d+1),(e,f,g,h,i,j,k,l,m,n,o,q,r,t,u,v,w,x,y,z,A,B,C,D,E,F))) else some (.done (.done (aQ.mk (v,w) (Field.mk E) (bO.mk x y) (aO.mk (bC.mk z A B) C D) F,0)))
def lX (s:aUV):Option Zt7:=match s with |(a,b,d,e,f,g,h,i,j,k,l,m,n,o,q,r,t,u)=>bif decide (d<b) then (aN a d).bind fun a0=>(kX (Field.mk q) a0.2.1).bind fun a1=>bif decide (a1.1<0) then some (.done (jB,6)) else (kX (Field.mk q) a0.2.2).bind fun a2=>bif decide (a2.1<0) then some (.done (jB,6)) else some (.next (a,b,aA .i64 (d+1),(e,f,g,h,i,j,k,l,m,n,o,q,r,t,u))) else (oO (aQ.mk (e,f) (Field.mk g) (bO.mk h i) (aO.mk (bC.mk j k l) m n) o)).bind fun r3=>(bU q).bind fun l4=>aH dW (i,bn i.length,0,e,f,g,h,i,j,k,l,m,n,o,q,r,t,u,r3.au.1,r3.au.2,r3.ay.aq,r3.ay.ar,r3.az.ai.ac,r3.az.ai.ae,r3.az.ai.af,r3.az.aj,r3.az.am,l4,[])
def rC (p0:aQ) (p1:Field):Option (aQ×Int):=(iG p0).bind fun n0=>bif n0 !=0 then some (jB,n0) else (dR p1).bind fun n1=>bif n1 !=0 then some (jB,n1) else aH lX (p0.ay.ar,bn p0.ay.ar.length,0,p0.au.1,p0.au.2,p0.ax.aa,p0.ay.aq,p0.ay.ar,p0.az.ai.ac,p0.az.ai.ae,p0.az.ai.af,p0.az.aj,p0.az.am,p0.ba,p1.aa,0,0,0)
def aV5:bI:=⟨aC.cons (aK.agg bW) (aC.one (aK.agg bV)),aK.tup (aC.cons (aK.agg bW) (aC.one (aK.int .i64))),fun a=>rC a.1 a.2,.frz,false⟩
theorem aMF:aI tab 215 aV5:=Oc aKH rfl aG [(86,c86),(71,c71),(194,aL4),(189,aMt),(189,aB1),(75,bI.clone eE),(140,aMb),(241,aTw),(255,aV1),(256,aTA),(242,aTz)] ⟨O6,HV,UP,US,O7,CP,UR,aB2,aMB,aB6,aB5,trivial⟩ fun a=>by kernel_rfl
def GY (p0:Int×Int×Int) (p1:Int×Int):Option Bool:=some ((p0.2.1==p1.1)&&(p0.2.2==p1.2))
def aV6:bI:=⟨aC.cons (aK.agg (cP.row eE)) (aC.one (aK.ref (cP.row kN))),aK.bool,fun a=>GY a.1 a.2,.pure,false⟩
theorem aMG:aI tab 216 aV6:=Oc aBM rfl aG [] trivial fun a=>by kernel_rfl
def oD (s:Q0):Option (bQ Q0 Int):=bif decide (s.2.2.2.2<s.2.2.2.1) then (aN s.1 s.2.2.2.2).bind fun a0=>(GY a0 (s.2.1,s.2.2.1)).bind fun b1=>bif b1 then some (.done s.2.2.2.2) else some (.next (s.1,s.2.1,s.2.2.1,s.2.2.2.1,aA .i64 (s.2.2.2.2+1))) else some (.done (-1))
def jD (p0:List (Int×Int×Int)) (p1:(Int×Int)):Option Int:=aH oD (p0,p1.1,p1.2,bn p0.length,0)
def X1:bI:=⟨aC.cons (aK.sl eE) (aC.one (aK.clo 216 (aC.one (aK.ref (cP.row kN))))),aK.int .i64,fun a=>jD a.1 a.2,.pure,false⟩
theorem X2:aI tab 210 X1:=aI.of UD (cx:=(mJ aG [(216,aV6)] [] [(216,aIf)] [])) rfl (jZ.make ⟨aMG,trivial⟩ trivial ⟨aBM,trivial⟩) (fun a=>by kernel_rfl)
def eL (p0:List (Int×Int×Int)) (p1:(Int×Int)):Option Bool:=(jD p0 p1).bind fun n0=>some (decide (0<=n0))
def X3:bI:=⟨aC.cons (aK.sl eE) (aC.one (aK.clo 216 (aC.one (aK.ref (cP.row kN))))),aK.bool,fun a=>eL a.1 a.2,.pure,false⟩
theorem X4:aI tab 149 X3:=Oc UB rfl aG [(210,X1)] ⟨X2,trivial⟩ fun a=>by kernel_rfl
def dV (p0:Int):Option (aQ×Int×Int):=some (jB,0,p0)
def aV7:bI:=⟨aC.one (aK.int .i64),aK.tup (aC.cons (aK.agg bW) (aC.cons (aK.int .i64) (aC.one (aK.int .i64)))),fun a=>dV a,.frz,false⟩
theorem aMH:aI tab 257 aV7:=Oc aLd rfl aG [] trivial fun a=>by kernel_rfl
def HW (p0:Int×Int×Int) (p1:Int×Int):Option Bool:=some ((p0.2.1==p1.1)&&(p0.2.2==p1.2))
def aV8:bI:=⟨aC.cons (aK.agg (cP.row eE)) (aC.one (aK.ref (cP.row kN))),aK.bool,fun a=>HW a.1 a.2,.pure,false⟩
theorem aMI:aI tab 290 aV8:=Oc aBQ rfl aG [] trivial fun a=>by kernel_rfl
def dU (s:Q0):Option (bQ Q0 Int):=bif decide (s.2.2.2.2<s.2.2.2.1) then (aN s.1 s.2.2.2.2).bind fun a0=>(HW a0 (s.2.1,s.2.2.1)).bind fun b1=>bif b1 then some (.done s.2.2.2.2) else some (.next (s.1,s.2.1,s.2.2.1,s.2.2.2.1,aA .i64 (s.2.2.2.2+1))) else some (.done (-1))
def gF (p0:List (Int×Int×Int)) (p1:(Int×Int)):Option Int:=aH dU (p0,p1.1,p1.2,bn p0.length,0)
def X5:bI:=⟨aC.cons (aK.sl eE) (aC.one (aK.clo 290 (aC.one (aK.ref (cP.row kN))))),aK.int .i64,fun a=>gF a.1 a.2,.pure,false⟩
theorem X6:aI tab 210 X5:=aI.of UD (cx:=(mJ aG [(290,aV8)] [] [(290,aI8)] [])) rfl (jZ.make ⟨aMI,trivial⟩ trivial ⟨aBQ,trivial⟩) (fun a=>by kernel_rfl)
def cR (p0:List (Int×Int×Int)) (p1:(Int×Int)):Option Bool:=(gF p0 p1).bind fun n0=>some (decide (0<=n0))
def X7:bI:=⟨aC.cons (aK.sl eE) (aC.one (aK.clo 290 (aC.one (aK.ref (cP.row kN))))),aK.bool,fun a=>cR a.1 a.2,.pure,false⟩
theorem X8:aI tab 149 X7:=Oc UB rfl aG [(210,X5)] ⟨X6,trivial⟩ fun a=>by kernel_rfl
def JM (p0:bO) (p1:Int×Int):Option (bO×Int×Int):=(tP p0).bind fun n0=>bif n0 !=0 then some (bO.mk 0 [],0,n0) else (yF p1).bind fun b1=>bif !b1 then some (bO.mk 0 [],0,8) else (cR p0.ar p1).bind fun b2=>bif b2 then some (bO.mk 0 [],0,14) else bif (bn p0.ar.length)==200 then some (bO.mk 0 [],0,18) else bif p0.aq==1000000 then some (bO.mk 0 [],0,18) else (bU p0.ar).bind fun l3=>(bN l3 [(p0.aq,p1)]).bind fun l4=>some (bO.mk (aA .i64 (p0.aq+1)) l4,p0.aq,0)
def aV9:bI:=⟨aC.cons (aK.agg iA) (aC.one (aK.agg (cP.row kN))),aK.tup (aC.cons (aK.agg iA) (aC.cons (aK.int .i64) (aC.one (aK.int .i64)))),fun a=>JM a.1 a.2,.frz,false⟩
theorem aMJ:aI tab 258 aV9:=Oc aLe rfl aG [(138,aLP),(190,aTg),(149,X7),(218,bI.clone eE)] ⟨UL,aBV,X8,BM,trivial⟩ fun a=>by kernel_rfl
def jN (p0:aQ) (p1:Int×Int):Option (aQ×Int×Int):=(iG p0).bind fun n0=>bif n0 !=0 then (dV n0).bind fun a1=>some a1 else (JM p0.ay p1).bind fun a2=>bif a2.2.2==8 then (dV a2.2.2).bind fun a3=>some a3 else (kX p0.ax p1.1).bind fun a4=>bif decide (a4.1<0) then (dV 6).bind fun a5=>some a5 else (kX p0.ax p1.2).bind fun a6=>bif decide (a6.1<0) then (dV 6).bind fun a7=>some a7 else bif a2.2.2 !=0 then (dV a2.2.2).bind fun a8=>some a8 else (oO p0).bind fun r9=>(tT p0.ax p1 p0.au).bind fun a10=>bif a10.2.2 !=0 then (dV a10.2.2).bind fun a11=>some a11 else bif a10.2.1 then (mQ p0.az a10.1 a2.2.1).bind fun a12=>bif a12.2.2 !=0 then (dV a12.2.2).bind fun a13=>some a13 else (bN r9.ba [(a2.2.1,a12.2.1)]).bind fun l14=>some (aQ.mk r9.au r9.ax a2.1 a12.1 l14,a2.2.1,0) else some (aQ.mk r9.au r9.ax a2.1 r9.az r9.ba,a2.2.1,0)
def aWa:bI:=⟨aC.cons (aK.agg bW) (aC.one (aK.agg (cP.row kN))),aK.tup (aC.cons (aK.agg bW) (aC.cons (aK.int .i64) (aC.one (aK.int .i64)))),fun a=>jN a.1 a.2,.frz,false⟩
theorem aMK:aI tab 217 aWa:=Oc aKI rfl aG [(86,c86),(257,aV7),(258,aV9),(194,aL4),(189,aMt),(189,aB1),(140,aMb),(256,aTA)] ⟨O6,aMH,aMJ,UP,US,O7,UR,aB6,trivial⟩ fun a=>by kernel_rfl
def fO (s:Zt9):Option (bQ Zt9 Zt6):=match s with |(a,b,d,e,f,g,h,i,j,k,l,m,n,o,q,r,t)=>bif decide (d<b) then (aN a d).bind fun a0=>(eL i a0).bind fun b1=>bif b1 then some (.next (a,b,aA .i64 (d+1),(e,f,g,h,i,j,k,l,m,n,o,q,r,t))) else (jN (aQ.mk (e,f) (Field.mk g) (bO.mk h i) (aO.mk (bC.mk j k l) m n) o) a0).bind fun a2=>bif a2.2.2 !=0 then some (.done (.done (jB,a2.2.2))) else some (.next (a,b,aA .i64 (d+1),a2.1.au.1,a2.1.au.2,a2.1.ax.aa,a2.1.ay.aq,a2.1.ay.ar,a2.1.az.ai.ac,a2.1.az.ai.ae,a2.1.az.ai.af,a2.1.az.aj,a2.1.az.am,a2.1.ba,(q,r,t))) else some (.done (.done (aQ.mk (e,f) (Field.mk g) (bO.mk h i) (aO.mk (bC.mk j k l) m n) o,0)))
def eU (s:aUU):Option Zt6:=match s with |(a,b,d,e,f,g,h,i,j,k,l,m,n,o,q,r,t,u,v)=>bif decide (e<d) then (aN b e).bind fun a0=>(eT a a0.2).bind fun b1=>bif !b1 then (xI (aQ.mk (f,g) (Field.mk h) (bO.mk i j) (aO.mk (bC.mk k l m) n o) q) a0.1).bind fun a2=>some (.next (a,b,d,aA .i64 (e+1),a2.1.au.1,a2.1.au.2,a2.1.ax.aa,a2.1.ay.aq,a2.1.ay.ar,a2.1.az.ai.ac,a2.1.az.ai.ae,a2.1.az.ai.af,a2.1.az.aj,a2.1.az.am,a2.1.ba,(r,t,u,v))) else some (.next (a,b,d,aA .i64 (e+1),(f,g,h,i,j,k,l,m,n,o,q,r,t,u,v))) else (nA h r).bind fun b3=>bif !b3 then (rC (aQ.mk (f,g) (Field.mk h) (bO.mk i j) (aO.mk (bC.mk k l m) n o) q) (Field.mk r)).bind fun a4=>bif a4.2 !=0 then some (.done (jB,a4.2)) else aH fO (a,bn a.length,0,a4.1.au.1,a4.1.au.2,a4.1.ax.aa,a4.1.ay.aq,a4.1.ay.ar,a4.1.az.ai.ac,a4.1.az.ai.ae,a4.1.az.ai.af,a4.1.az.aj,a4.1.az.am,a4.1.ba,(t,u,v)) else aH fO (a,bn a.length,0,f,g,h,i,j,k,l,m,n,o,q,(t,u,v))
def vZ (p0:aQ) (p1:Field) (p2:List (Int×Int)):Option (aQ×Int):=aH eU (p2,p0.ay.ar,bn p0.ay.ar.length,0,p0.au.1,p0.au.2,p0.ax.aa,p0.ay.aq,p0.ay.ar,p0.az.ai.ac,p0.az.ai.ae,p0.az.ai.af,p0.az.aj,p0.az.am,p0.ba,p1.aa,0,0,0)
def aWb:bI:=⟨aC.cons (aK.agg bW) (aC.cons (aK.agg bV) (aC.one (aK.sl kN))),aK.tup (aC.cons (aK.agg bW) (aC.one (aK.int .i64))),fun a=>vZ a.1 a.2.1 a.2.2,.frz,false⟩
theorem aML:aI tab 156 aWb:=Oc aJ7 rfl aG [(148,aFj),(213,aVZ),(214,aV0),(215,aV5),(149,X3),(217,aWa)] ⟨M4,aMz,aMA,aMF,X4,aMK,trivial⟩ fun a=>by kernel_rfl
def fP (s:aDm):Option (bQ aDm Zt1):=match s with |(a,b,d,e,f,g,h,i,j,k,l,m,n,o,q,r,t,u,v)=>bif decide (e<d) then (aN b e).bind fun a0=>(yJ (Field.mk r) a0.1).bind fun a1=>(yJ (Field.mk r) a0.2).bind fun a2=>bif a1.2 !=0 then some (.done (.done (.done (jB,6)))) else bif a2.2 !=0 then some (.done (.done (.done (jB,6)))) else some (.next (a,b,d,aA .i64 (e+1),(f,g,h,i,j,k,l,m,n,o,q,r,t,u,v))) else (yK (aQ.mk (f,g) (Field.mk h) (bO.mk i j) (aO.mk (bC.mk k l m) n o) q)).bind fun r3=>(vZ r3 (Field.mk r) a).bind fun a4=>some (.done (.done (.done a4)))
def eV (s:aDm):Option Zt1:=bif decide (s.2.2.2.1<s.2.2.1) then (aN s.2.1 s.2.2.2.1).bind fun a0=>(jH s.1 0 s.2.2.2.1).bind fun l1=>(eT l1 a0).bind fun b2=>bif b2 then some (.done (.done (jB,14))) else some (.next (s.1,s.2.1,s.2.2.1,aA .i64 (s.2.2.2.1+1),s.2.2.2.2)) else aH fP (s.1,s.1,bn s.1.length,0,s.2.2.2.2)
def eW (s:aDm):Option aUT:=bif decide (s.2.2.2.1<s.2.2.1) then (aN s.2.1 s.2.2.2.1).bind fun a0=>bif decide (a0.1<0) then some (.done (jB,8)) else bif decide (a0.2<0) then some (.done (jB,8)) else bif decide (65535<a0.1) then some (.done (jB,8)) else bif decide (65535<a0.2) then some (.done (jB,8)) else bif a0.1==a0.2 then some (.done (jB,8)) else some (.next (s.1,s.2.1,s.2.2.1,aA .i64 (s.2.2.2.1+1),s.2.2.2.2)) else aH eV (s.1,s.1,bn s.1.length,0,s.2.2.2.2)
def rD (p0:aQ) (p1:Field) (p2:List (Int×Int)):Option (aQ×Int):=(iG p0).bind fun n0=>bif n0 !=0 then some (jB,n0) else (dR p1).bind fun n1=>bif n1 !=0 then some (jB,n1) else aH eW (p2,p2,bn p2.length,0,p0.au.1,p0.au.2,p0.ax.aa,p0.ay.aq,p0.ay.ar,p0.az.ai.ac,p0.az.ai.ae,p0.az.ai.af,p0.az.aj,p0.az.am,p0.ba,p1.aa,0,0,0)
def c98:bI:=⟨aC.cons (aK.agg bW) (aC.cons (aK.agg bV) (aC.one (aK.sl kN))),aK.tup (aC.cons (aK.agg bW) (aC.one (aK.int .i64))),fun a=>rD a.1 a.2.1 a.2.2,.frz,false⟩
theorem aTB:aI tab 98 c98:=Oc aS1 rfl aG [(86,c86),(71,c71),(148,aFj),(155,aVP),(157,aVQ),(157,aOn),(156,aWb)] ⟨O6,HV,M4,aMo,aMp,aFp,aML,trivial⟩ fun a=>by kernel_rfl
def jO (p0:aQ) (p1:Field) (p2:List Int):Option (cE×Int):=(pS p1 p0.au p2).bind fun a0=>(zU a0.1).bind fun l1=>(rD p0 p1 l1).bind fun a2=>bif a2.2 !=0 then some (cE.mk jB (bE.mk [] []),a2.2) else some (cE.mk a2.1 a0.1,0)
def c45:bI:=⟨aC.cons (aK.agg bW) (aC.cons (aK.agg bV) (aC.one (aK.sl ki))),aK.tup (aC.cons (aK.agg eQ) (aC.one (aK.int .i64))),fun a=>jO a.1 a.2.1 a.2.2,.frz,false⟩
theorem aFt:aI tab 45 c45:=Oc aSr rfl aG [(97,c97),(99,c99),(98,c98)] ⟨aFi,aTv,aTB,trivial⟩ fun a=>by kernel_rfl
def BO (p0:cE) (p1:Int×Int×Int):Option (cE×Int):=(sE p0).bind fun n0=>bif n0 !=0 then some (cE.mk jB (bE.mk [] []),n0) else (nO p0.bg.ax p1).bind fun a1=>bif a1.2 !=0 then some (cE.mk jB (bE.mk [] []),a1.2) else (bU p0.bi.bc).bind fun l2=>(jV l2 (-1)).bind fun n3=>bif decide (n3<0) then (dL [-1] (bn l2.length)).bind fun l4=>bif l4.isEmpty then (aN l2 (bn l2.length)).bind fun _=>(jO p0.bg a1.1 (cL l2 (bn l2.length) p1.1)).bind fun a6=>some a6 else (bN l2 l4).bind fun l7=>(aN l7 (bn l2.length)).bind fun _=>(jO p0.bg a1.1 (cL l7 (bn l2.length) p1.1)).bind fun a9=>some a9 else (aN l2 n3).bind fun _=>(jO p0.bg a1.1 (cL l2 n3 p1.1)).bind fun a11=>some a11
def c17:bI:=⟨aC.cons (aK.agg eQ) (aC.one (aK.agg (cP.row eE))),aK.tup (aC.cons (aK.agg eQ) (aC.one (aK.int .i64))),fun a=>BO a.1 a.2,.frz,false⟩
theorem aTC:aI tab 17 c17:=Oc aSc rfl aG [(39,c39),(31,c31),(40,bI.clone ki),(41,c41),(44,c44),(44,aVO),(45,c45)] ⟨aFl,aTs,qA,aTt,aTu,aMn,aFt,trivial⟩ fun a=>by kernel_rfl
def iV (p0:Int):Option Int:=bif decide (p0<0) then some (aA .u64 ((aA .u64 (aA .i64 (0- (aA .i64 (p0+1)))))+1)) else some (aA .u64 p0)
def aMM:bI:=⟨aC.one (aK.int .i64),aK.int .u64,fun a=>iV a,.pure,false⟩
theorem UU:aI tab 118 aMM:=Oc aJL rfl aG [] trivial fun a=>by kernel_rfl
def qC (s:(Int×Int)):Option (bQ (Int×Int) Int):=bif s.2 !=0 then bif s.2==0 then none else some (.next (s.2,bq s.1 s.2)) else some (.done s.1)
def sH (p0:Int) (p1:Int):Option Int:=aH qC (p0,p1)
def aTD:bI:=⟨aC.cons (aK.int .u64) (aC.one (aK.int .u64)),aK.int .u64,fun a=>sH a.1 a.2,.pure,false⟩
theorem aB7:aI tab 117 aTD:=Oc aJK rfl aG [] trivial fun a=>by kernel_rfl
def wB (p0:Int×Int):Option Int:=bif decide (p0.2<1) then some 8 else bif p0.1==(-9223372036854775808) then some 8 else (iV p0.1).bind fun n0=>(sH n0 (aA .u64 p0.2)).bind fun n1=>bif n1 !=1 then some 8 else some 0
def c64:bI:=⟨aC.one (aK.agg (cP.row kN)),aK.int .i64,fun a=>wB a,.pure,false⟩
theorem aFu:aI tab 64 c64:=Oc aSG rfl aG [(118,aMM),(117,aTD)] ⟨UU,aB7,trivial⟩ fun a=>by kernel_rfl
def rE (p0:Int×Int×Int):Option Int:=bif decide (p0.1<0) then some 8 else bif decide (65535<p0.1) then some 8 else bif decide (p0.2.1<(-1048576)) then some 8 else bif decide (1048576<p0.2.1) then some 8 else bif decide (p0.2.2<(-1048576)) then some 8 else bif decide (1048576<p0.2.2) then some 8 else some 0
def aMN:bI:=⟨aC.one (aK.agg (cP.row eE)),aK.int .i64,fun a=>rE a,.pure,false⟩
theorem UV:aI tab 106 aMN:=Oc aJz rfl aG [] trivial fun a=>by kernel_rfl
def kF (s:aFb):Option (bQ aFb (bQ aFb Int)):=bif decide (s.1<(bn s.2.length)) then (aN s.2 (aA .i64 (s.1-1))).bind fun a0=>(aN s.2 s.1).bind fun a1=>bif decide (a1.1<=a0.1) then some (.done (.done 32)) else some (.next (aA .i64 (s.1+1),s.2)) else some (.done (.done 0))
def oP (s:aFb):Option (bQ aFb Int):=bif decide (s.1<(bn s.2.length)) then (aN s.2 s.1).bind fun a0=>(rE a0).bind fun n1=>bif n1 !=0 then some (.done 8) else some (.next (aA .i64 (s.1+1),s.2)) else aH kF (1,s.2)
def mR (p0:Field):Option Int:=bif decide (64<(bn p0.aa.length)) then some 4 else aH oP (0,p0.aa)
def c63:bI:=⟨aC.one (aK.agg bV),aK.int .i64,fun a=>mR a,.pure,false⟩
theorem aAA:aI tab 63 c63:=Oc aSF rfl aG [(106,aMN)] ⟨UV,trivial⟩ fun a=>by kernel_rfl
def yM (p0:Int×Int):Option Bool:=bif decide (0<=p0.1) then bif decide (p0.1<=65535) then bif decide (0<=p0.2) then bif decide (p0.2<=65535) then some (p0.1 !=p0.2) else some false else some false else some false else some false
def aTE:bI:=⟨aC.one (aK.agg (cP.row kN)),aK.bool,fun a=>yM a,.pure,false⟩
theorem aB8:aI tab 166 aTE:=Oc aKg rfl aG [] trivial fun a=>by kernel_rfl
def gO (s:(Int×Int×Int×cH×Int×Int×Int)):Option (bQ (Int×Int×Int×cH×Int×Int×Int) aS6):=bif decide (s.2.1<s.1) then (aN s.2.2.2.1 s.2.1).bind fun a0=>bif (a0.2.1==s.2.2.2.2.2.1)&&(a0.2.2==s.2.2.2.2.2.2) then some (.done (.done 8)) else some (.next (s.1,aA .i64 (s.2.1+1),s.2.2)) else some (.done (.next (aA .i64 (s.1+1),s.2.2.1,s.2.2.2.1)))
def sI (s:aFa):Option aS6:=bif decide (s.1<(bn s.2.2.length)) then (aN s.2.2 s.1).bind fun a0=>(yM a0.2).bind fun b1=>bif !b1 then some (.done 8) else bif decide (a0.1<0) then some (.done 8) else bif decide (s.2.1<=a0.1) then some (.done 8) else bif decide (0<s.1) then (aN s.2.2 (aA .i64 (s.1-1))).bind fun a2=>bif decide (a0.1<=a2.1) then some (.done 8) else aH gO (s.1,0,s.2.1,s.2.2,a0) else aH gO (s.1,0,s.2.1,s.2.2,a0) else some (.done 0)
def wC (p0:bO):Option Int:=bif decide (200<(bn p0.ar.length)) then some 8 else bif decide (p0.aq<0) then some 8 else bif decide (1000000<p0.aq) then some 8 else aH sI (0,p0.aq,p0.ar)
def aTF:bI:=⟨aC.one (aK.agg iA),aK.int .i64,fun a=>wC a,.pure,false⟩
theorem aB9:aI tab 107 aTF:=Oc aJA rfl aG [(166,aTE)] ⟨aB8,trivial⟩ fun a=>by kernel_rfl
def wD (s:aFa):Option aS6:=bif decide (s.2.1<(bn s.2.2.length)) then (aN s.2.2 s.2.1).bind fun a0=>bif a0.1==s.1 then some (.done s.2.1) else some (.next (s.1,aA .i64 (s.2.1+1),s.2.2)) else some (.done (-1))
def gP (p0:Field) (p1:Int):Option Int:=aH wD (p1,0,p0.aa)
def X9:bI:=⟨aC.cons (aK.agg bV) (aC.one (aK.int .i64)),aK.int .i64,fun a=>gP a.1 a.2,.pure,false⟩
theorem CX:aI tab 100 X9:=Oc aJu rfl aG [] trivial fun a=>by kernel_rfl
def sJ (s:(Int×Int×cH×cH)):Option (bQ (Int×Int×cH×cH) Bool):=bif decide (s.1<(bn s.2.2.1.length)) then (aN s.2.2.1 s.1).bind fun a0=>(gP (Field.mk s.2.2.2) a0.2.1).bind fun n1=>bif decide (n1<0) then some (.done false) else (aN s.2.2.1 s.1).bind fun a2=>(gP (Field.mk s.2.2.2) a2.2.2).bind fun n3=>bif decide (n3<0) then some (.done false) else some (.next (aA .i64 (s.1+1),s.2)) else some (.done true)
def zW (p0:bO) (p1:Field):Option Bool:=aH sJ (0,p0.aq,p0.ar,p1.aa)
def aWc:bI:=⟨aC.cons (aK.agg iA) (aC.one (aK.agg bV)),aK.bool,fun a=>zW a.1 a.2,.pure,false⟩
theorem aMO:aI tab 108 aWc:=Oc aJB rfl aG [(100,X9)] ⟨CX,trivial⟩ fun a=>by kernel_rfl
def lY (s:aE9):Option (bQ aE9 (bQ aE9 Int)):=bif decide (s.2.1<s.1) then (aN s.2.2.1 s.2.1).bind fun n0=>bif decide (n0<0) then some (.done (.done 8)) else (aN s.2.2.1 s.2.1).bind fun n1=>bif decide (1000000<n1) then some (.done (.done 8)) else (aN s.2.2.2.1 s.2.1).bind fun b2=>(aN s.2.2.2.2.2 s.2.1).bind fun b3=>bif b2==b3 then some (.done (.done 8)) else (aN s.2.2.2.1 s.2.1).bind fun b4=>bif b4 then (aN s.2.2.1 s.2.1).bind fun n5=>bif decide (n5<1) then some (.done (.done 8)) else some (.next (s.1,aA .i64 (s.2.1+1),s.2.2)) else some (.next (s.1,aA .i64 (s.2.1+1),s.2.2)) else some (.done (.done 0))
def sK (s:aE9):Option (bQ aE9 Int):=bif decide (s.2.1<(bn s.2.2.2.2.1.length)) then (aN s.2.2.2.2.1 s.2.1).bind fun n0=>bif decide (n0<0) then some (.done 8) else (aN s.2.2.2.2.1 s.2.1).bind fun n1=>bif decide (s.1<=n1) then some (.done 8) else (aN s.2.2.2.2.1 s.2.1).bind fun n2=>(aN s.2.2.2.2.2 n2).bind fun b3=>bif b3 then some (.done 8) else (aN s.2.2.2.2.1 s.2.1).bind fun n4=>(aN s.2.2.2.2.2 n4).bind fun _=>some (.next (s.1,aA .i64 (s.2.1+1),s.2.2.1,s.2.2.2.1,s.2.2.2.2.1,cL s.2.2.2.2.2 n4 true)) else aH lY (s.1,0,s.2.2)
def zX (p0:bC):Option Int:=bif decide ((bn p0.ac.length)<1) then some 8 else bif decide (200<(bn p0.ac.length)) then some 8 else bif (bn p0.ae.length) !=(bn p0.ac.length) then some 8 else bif decide ((bn p0.ac.length)<(bn p0.af.length)) then some 8 else bif (bn p0.ac.length)==(bn p0.ac.length) then (GQ (bn p0.ac.length) (false:Bool)).bind fun l0=>aH sK (bn p0.ac.length,0,p0.ac,p0.ae,p0.af,l0) else none
def aWd:bI:=⟨aC.one (aK.agg gX),aK.int .i64,fun a=>zX a,.pure,false⟩
theorem aMP:aI tab 167 aWd:=Oc aKh rfl aG [] trivial fun a=>by kernel_rfl
def yN (p0:bC) (p1:Int×Int):Option Bool:=bif decide (0<=p1.1) then bif decide (p1.1<(bn p0.ac.length)) then (aN p0.ae p1.1).bind fun b0=>bif b0 then (aN p0.ac p1.1).bind fun n1=>some (n1==p1.2) else some false else some false else some false
def aTG:bI:=⟨aC.cons (aK.agg gX) (aC.one (aK.agg (cP.row kN))),aK.bool,fun a=>yN a.1 a.2,.pure,false⟩
theorem aCa:aI tab 171 aTG:=Oc aKl rfl aG [] trivial fun a=>by kernel_rfl
def qD (s:aS5):Option (bQ aS5 Bool):=bif decide (s.2.1<s.1) then (aN s.2.2.2.1 s.2.1).bind fun b0=>bif !b0 then (aN s.2.2.2.2.2.2 s.2.1).bind fun n1=>bif n1 !=(-1) then some (.done false) else some (.next (s.1,aA .i64 (s.2.1+1),s.2.2)) else (aN s.2.2.2.2.2.2 s.2.1).bind fun n2=>bif decide (n2<0) then some (.done false) else bif decide ((bn s.2.2.2.2.2.1.length)<=n2) then some (.done false) else (aN s.2.2.2.2.2.1 n2).bind fun a3=>bif a3.2.2.2.1 !=s.2.1 then some (.done false) else (aN s.2.2.2.2.2.1 n2).bind fun a4=>(yN (bC.mk s.2.2.1 s.2.2.2.1 s.2.2.2.2.1) a4.2.2.2).bind fun b5=>bif !b5 then some (.done false) else some (.next (s.1,aA .i64 (s.2.1+1),s.2.2)) else some (.done true)
def xK (p0:aO):Option Bool:=bif (bn p0.am.length) !=(bn p0.ai.ac.length) then some false else bif (bn p0.aj.length) !=(aA .i64 ((bn p0.ai.ac.length) - (bn p0.ai.af.length))) then some false else aH qD (bn p0.ai.ac.length,0,p0.ai.ac,p0.ai.ae,p0.ai.af,p0.aj,p0.am)
def aWe:bI:=⟨aC.one (aK.agg dP),aK.bool,fun a=>xK a,.pure,false⟩
theorem aMQ:aI tab 168 aWe:=Oc aKi rfl aG [(171,aTG)] ⟨aCa,trivial⟩ fun a=>by kernel_rfl
def uR (p0:Int) (p1:Int):Option (Bool×Int×Int):=some (false,aA .u64 ((aA .u64 ((aA .u64 ((aA .u64 (bo p0 4294967296))*(aA .u64 (bo p1 4294967296))))+(aA .u64 (bo (aA .u64 ((aA .u64 ((aA .u64 (bo p0 4294967296))*(bq p1 4294967296)))+(aA .u64 (bo (aA .u64 ((bq p0 4294967296)*(bq p1 4294967296))) 4294967296)))) 4294967296))))+(aA .u64 (bo (aA .u64 ((aA .u64 ((bq p0 4294967296)*(aA .u64 (bo p1 4294967296))))+(bq (aA .u64 ((aA .u64 ((aA .u64 (bo p0 4294967296))*(bq p1 4294967296)))+(aA .u64 (bo (aA .u64 ((bq p0 4294967296)*(bq p1 4294967296))) 4294967296)))) 4294967296))) 4294967296))),aA .u64 ((aA .u64 ((bq (aA .u64 ((aA .u64 ((bq p0 4294967296)*(aA .u64 (bo p1 4294967296))))+(bq (aA .u64 ((aA .u64 ((aA .u64 (bo p0 4294967296))*(bq p1 4294967296)))+(aA .u64 (bo (aA .u64 ((bq p0 4294967296)*(bq p1 4294967296))) 4294967296)))) 4294967296))) 4294967296)*4294967296))+(bq (aA .u64 ((bq p0 4294967296)*(bq p1 4294967296))) 4294967296)))
def aWf:bI:=⟨aC.cons (aK.int .u64) (aC.one (aK.int .u64)),aK.agg (cP.row ES),fun a=>uR a.1 a.2,.pure,false⟩
theorem aMR:aI tab 182 aWf:=Oc aKr rfl aG [] trivial fun a=>by kernel_rfl
def lD (p0:Int) (p1:Int):Option (Bool×Int×Int):=(iV p0).bind fun n0=>(iV p1).bind fun n1=>(uR n0 n1).bind fun a2=>bif !((decide (p0<0))==(decide (p1<0))) then bif p0 !=0 then some (p1 !=0,a2.2) else some (false,a2.2) else some (false,a2.2)
def aTH:bI:=⟨aC.cons (aK.int .i64) (aC.one (aK.int .i64)),aK.agg (cP.row ES),fun a=>lD a.1 a.2,.pure,false⟩
theorem aCb:aI tab 130 aTH:=Oc aJR rfl aG [(118,aMM),(182,aWf)] ⟨UU,aMR,trivial⟩ fun a=>by kernel_rfl
def nB (p0:Bool×Int×Int):Option Int:=bif p0.2.1==0 then bif p0.2.2==0 then some 0 else bif p0.1 then some (-1) else some 1 else bif p0.1 then some (-1) else some 1
def aTI:bI:=⟨aC.one (aK.agg (cP.row ES)),aK.int .i64,fun a=>nB a,.pure,false⟩
theorem aCc:aI tab 131 aTI:=Oc aJS rfl aG [] trivial fun a=>by kernel_rfl
def tV (p0:Bool×Int×Int) (p1:Bool×Int×Int):Option Int:=bif p0.2.1 !=p1.2.1 then bif decide (p0.2.1<p1.2.1) then some (-1) else some 1 else bif p0.2.2 !=p1.2.2 then bif decide (p0.2.2<p1.2.2) then some (-1) else some 1 else some 0
def aTJ:bI:=⟨aC.cons (aK.agg (cP.row ES)) (aC.one (aK.agg (cP.row ES))),aK.int .i64,fun a=>tV a.1 a.2,.pure,false⟩
theorem aCd:aI tab 132 aTJ:=Oc aJT rfl aG [] trivial fun a=>by kernel_rfl
def uT (p0:Int×Int) (p1:Int×Int):Option Int:=(lD p0.1 p1.2).bind fun a0=>(lD p1.1 p0.2).bind fun a1=>(nB a0).bind fun n2=>(nB a1).bind fun n3=>bif n2 !=n3 then (nB a0).bind fun n4=>(nB a1).bind fun n5=>bif decide (n4<n5) then some (-1) else some 1 else (nB a0).bind fun n6=>bif decide (n6<0) then (tV a1 a0).bind fun n7=>some n7 else (tV a0 a1).bind fun n8=>some n8
def c79:bI:=⟨aC.cons (aK.agg (cP.row kN)) (aC.one (aK.agg (cP.row kN))),aK.int .i64,fun a=>uT a.1 a.2,.pure,false⟩
theorem aTK:aI tab 79 c79:=Oc aSN rfl aG [(130,aTH),(131,aTI),(132,aTJ)] ⟨aCb,aCc,aCd,trivial⟩ fun a=>by kernel_rfl
def eX (p0:Int×Int×Int×Int×Int) (p1:Int×Int×Int×Int×Int):Option Bool:=(uT (p0.1,p0.2.1) (p1.1,p1.2.1)).bind fun n0=>bif decide (n0<0) then some true else bif n0==0 then some (decide (p0.2.2.1<p1.2.2.1)) else some false
def aAB:bI:=⟨aC.cons (aK.agg (cP.row mV)) (aC.one (aK.agg (cP.row mV))),aK.bool,fun a=>eX a.1 a.2,.pure,false⟩
theorem F2:aI tab 169 aAB:=Oc aKj rfl aG [(79,c79)] ⟨aTK,trivial⟩ fun a=>by kernel_rfl
def lZ (s:aU8):Option (bQ aU8 aS4):=bif decide (s.2.1<s.1) then (aN s.2.2.2.2.2.1 s.2.1).bind fun a0=>bif a0.2.2.1==s.2.2.2.2.2.2.2.2.2.1 then some (.done (.done 8)) else some (.next (s.1,aA .i64 (s.2.1+1),s.2.2)) else some (.done (.next (aA .i64 (s.1+1),s.2.2.1,s.2.2.2.1,s.2.2.2.2.1,s.2.2.2.2.2.1,s.2.2.2.2.2.2.1)))
def mA (s:JJ):Option (bQ JJ aS4):=bif decide (s.1<(bn s.2.2.2.2.1.length)) then (aN s.2.2.2.2.1 s.1).bind fun a0=>(aN s.2.2.2.2.1 (aA .i64 (bo (aA .i64 (s.1-1)) 2))).bind fun a1=>(eX a0 a1).bind fun b2=>bif b2 then some (.done (.done 8)) else some (.next (aA .i64 (s.1+1),s.2)) else some (.done (.done 0))
def sL (s:JJ):Option aS4:=bif decide (s.1<(bn s.2.2.2.2.1.length)) then (aN s.2.2.2.2.1 s.1).bind fun a0=>(wB (a0.1,a0.2.1)).bind fun n1=>bif n1 !=0 then some (.done 8) else bif decide (a0.2.2.1<0) then some (.done 8) else bif decide (1000000<a0.2.2.1) then some (.done 8) else aH lZ (s.1,0,s.2.1,s.2.2.1,s.2.2.2.1,s.2.2.2.2.1,s.2.2.2.2.2,a0) else aH mA (1,s.2)
def wE (p0:aO):Option Int:=(zX p0.ai).bind fun n0=>bif n0 !=0 then some 8 else (xK p0).bind fun b1=>bif !b1 then some 8 else aH sL (0,p0.ai.ac,p0.ai.ae,p0.ai.af,p0.aj,p0.am)
def aTL:bI:=⟨aC.one (aK.agg dP),aK.int .i64,fun a=>wE a,.pure,false⟩
theorem aCe:aI tab 109 aTL:=Oc aJC rfl aG [(167,aWd),(168,aWe),(64,c64),(169,aAB)] ⟨aMP,aMQ,aFu,F2,trivial⟩ fun a=>by kernel_rfl
def wF (p0:Bool×Int×Int) (p1:Bool×Int×Int):Option (Bool×Int×Int):=bif decide (p0.2.2<p1.2.2) then some (false,aA .u64 ((aA .u64 (p0.2.1-p1.2.1)) -1),aA .u64 (p0.2.2-p1.2.2)) else some (false,aA .u64 (p0.2.1-p1.2.1),aA .u64 (p0.2.2-p1.2.2))
def aWg:bI:=⟨aC.cons (aK.agg (cP.row ES)) (aC.one (aK.agg (cP.row ES))),aK.agg (cP.row ES),fun a=>wF a.1 a.2,.pure,false⟩
theorem aMS:aI tab 292 aWg:=Oc aLw rfl aG [] trivial fun a=>by kernel_rfl
def CY (p0:Bool×Int×Int) (p1:Bool×Int×Int):Option (Bool×Int×Int):=bif p0.1==p1.1 then bif decide ((aA .u64 (p0.2.2+p1.2.2))<p0.2.2) then some (p0.1,aA .u64 ((aA .u64 (p0.2.1+p1.2.1))+1),aA .u64 (p0.2.2+p1.2.2)) else some (p0.1,aA .u64 (p0.2.1+p1.2.1),aA .u64 (p0.2.2+p1.2.2)) else (tV p0 p1).bind fun n0=>bif decide (0<=n0) then (wF p0 p1).bind fun a1=>bif p0.1 then bif decide (0<a1.2.1) then some (true,a1.2) else some (decide (0<a1.2.2),a1.2) else some (false,a1.2) else (wF p1 p0).bind fun a2=>some (p1.1,a2.2)
def aWh:bI:=⟨aC.cons (aK.agg (cP.row ES)) (aC.one (aK.agg (cP.row ES))),aK.agg (cP.row ES),fun a=>CY a.1 a.2,.pure,false⟩
theorem aMT:aI tab 265 aWh:=Oc aLi rfl aG [(132,aTJ),(292,aWg)] ⟨aCd,aMS,trivial⟩ fun a=>by kernel_rfl
def F3 (p0:Int×Int×Int) (p1:Int×Int×Int) (p2:Int×Int):Option Int:=(lD (aA .i64 (p0.2.1-p1.2.1)) p2.2).bind fun a0=>(lD (aA .i64 (p0.2.2-p1.2.2)) p2.1).bind fun a1=>(CY a0 a1).bind fun a2=>(nB a2).bind fun n3=>some n3
def aWi:bI:=⟨aC.cons (aK.agg (cP.row eE)) (aC.cons (aK.agg (cP.row eE)) (aC.one (aK.agg (cP.row kN)))),aK.int .i64,fun a=>F3 a.1 a.2.1 a.2.2,.pure,false⟩
theorem aMU:aI tab 232 aWi:=Oc aKW rfl aG [(130,aTH),(265,aWh),(131,aTI)] ⟨aCb,aMT,aCc,trivial⟩ fun a=>by kernel_rfl
def rF (p0:Int×Int×Int) (p1:Int×Int×Int) (p2:Int×Int):Option Bool:=(F3 p0 p1 p2).bind fun n0=>bif n0 !=0 then some (decide (0<n0)) else bif p0.2.2 !=p1.2.2 then some (decide (p1.2.2<p0.2.2)) else some (decide (p0.1<p1.1))
def aMV:bI:=⟨aC.cons (aK.agg (cP.row eE)) (aC.cons (aK.agg (cP.row eE)) (aC.one (aK.agg (cP.row kN)))),aK.bool,fun a=>rF a.1 a.2.1 a.2.2,.pure,false⟩
theorem UW:aI tab 172 aMV:=Oc aKm rfl aG [(232,aWi)] ⟨aMU,trivial⟩ fun a=>by kernel_rfl
def tX (p0:Bool) (p1:Bool×Int×Int) (p2:Bool×Int×Int):Option ((Int×Int)×Int):=bif decide (0<p1.2.1) then some ((0,0),16) else bif decide (9223372036854775807<p1.2.2) then some ((0,0),16) else bif decide (0<p2.2.1) then some ((0,0),16) else bif decide (9223372036854775807<p2.2.2) then some ((0,0),16) else bif p0 then some ((aA .i64 (0- (aA .i64 p1.2.2)),aA .i64 p2.2.2),0) else some ((aA .i64 p1.2.2,aA .i64 p2.2.2),0)
def aWj:bI:=⟨aC.cons aK.bool (aC.cons (aK.agg (cP.row ES)) (aC.one (aK.agg (cP.row ES)))),aK.tup (aC.cons (aK.agg (cP.row kN)) (aC.one (aK.int .i64))),fun a=>tX a.1 a.2.1 a.2.2,.pure,false⟩
theorem aMW:aI tab 291 aWj:=Oc aLv rfl aG [] trivial fun a=>by kernel_rfl
def oQ (p0:Int) (p1:Int):Option ((Int×Int)×Int):=bif p1==0 then some ((0,0),26) else (iV p0).bind fun n0=>(iV p1).bind fun n1=>(sH n0 n1).bind fun n2=>bif !((decide (p0<0))==(decide (p1<0))) then (iV p0).bind fun n3=>bif n2==0 then none else (iV p1).bind fun n4=>bif n2==0 then none else (tX (p0 !=0) (false,0,aA .u64 (bo n3 n2)) (false,0,aA .u64 (bo n4 n2))).bind fun a5=>some a5 else (iV p0).bind fun n6=>bif n2==0 then none else (iV p1).bind fun n7=>bif n2==0 then none else (tX false (false,0,aA .u64 (bo n6 n2)) (false,0,aA .u64 (bo n7 n2))).bind fun a8=>some a8
def aWk:bI:=⟨aC.cons (aK.int .i64) (aC.one (aK.int .i64)),aK.tup (aC.cons (aK.agg (cP.row kN)) (aC.one (aK.int .i64))),fun a=>oQ a.1 a.2,.pure,false⟩
theorem aMX:aI tab 264 aWk:=Oc aLh rfl aG [(118,aMM),(117,aTD),(291,aWj)] ⟨UU,aB7,aMW,trivial⟩ fun a=>by kernel_rfl
def F4 (p0:Int×Int×Int) (p1:Int×Int×Int):Option (Int×Int):=(oQ (aA .i64 (p0.2.1-p1.2.1)) (aA .i64 (p1.2.2-p0.2.2))).bind fun a0=>some a0.1
def aWl:bI:=⟨aC.cons (aK.agg (cP.row eE)) (aC.one (aK.agg (cP.row eE))),aK.agg (cP.row kN),fun a=>F4 a.1 a.2,.pure,false⟩
theorem aMY:aI tab 231 aWl:=Oc aKV rfl aG [(264,aWk)] ⟨aMX,trivial⟩ fun a=>by kernel_rfl
def uU (p0:Int×Int×Int) (p1:Int×Int×Int) (p2:Int×Int):Option ((Int×Int)×Bool):=(rF p1 p0 p2).bind fun b0=>bif b0 then some (p2,true) else bif decide (p0.2.2<p1.2.2) then (F4 p0 p1).bind fun a1=>some (a1,true) else some ((0,0),false)
def aWm:bI:=⟨aC.cons (aK.agg (cP.row eE)) (aC.cons (aK.agg (cP.row eE)) (aC.one (aK.agg (cP.row kN)))),aK.tup (aC.cons (aK.agg (cP.row kN)) (aC.one aK.bool)),fun a=>uU a.1 a.2.1 a.2.2,.pure,false⟩
theorem aMZ:aI tab 170 aWm:=Oc aKk rfl aG [(172,aMV),(231,aWl)] ⟨UW,aMY,trivial⟩ fun a=>by kernel_rfl
def tY (p0:Field) (p1:Int×Int) (p2:Int×Int):Option ((Int×Int)×Bool):=(gP p0 p1.2).bind fun n0=>(aN p0.aa n0).bind fun a1=>(gP p0 p1.1).bind fun n2=>(aN p0.aa n2).bind fun a3=>(uU a1 a3 p2).bind fun a4=>some a4
def aM0:bI:=⟨aC.cons (aK.agg bV) (aC.cons (aK.agg (cP.row kN)) (aC.one (aK.agg (cP.row kN)))),aK.tup (aC.cons (aK.agg (cP.row kN)) (aC.one aK.bool)),fun a=>tY a.1 a.2.1 a.2.2,.pure,false⟩
theorem UX:aI tab 110 aM0:=Oc aJD rfl aG [(100,X9),(170,aWm)] ⟨CX,aMZ,trivial⟩ fun a=>by kernel_rfl
def yO (p0:aO) (p1:Int×Int):Option ((Int×Int×Int×Int×Int)×Int):=(wE p0).bind fun n0=>bif n0 !=0 then some ((0,0,0,0,0),8) else (yN p0.ai p1).bind fun b1=>bif !b1 then some ((0,0,0,0,0),6) else (aN p0.am p1.1).bind fun n2=>(aN p0.aj n2).bind fun a3=>some (a3,0)
def aWn:bI:=⟨aC.cons (aK.agg dP) (aC.one (aK.agg (cP.row kN))),aK.tup (aC.cons (aK.agg (cP.row mV)) (aC.one (aK.int .i64))),fun a=>yO a.1 a.2,.pure,false⟩
theorem aM1:aI tab 111 aWn:=Oc aJE rfl aG [(109,aTL),(171,aTG)] ⟨aCe,aCa,trivial⟩ fun a=>by kernel_rfl
def dX (s:aS3):Option aUY:=bif decide (s.2.1<(bn s.2.2.2.2.2.2.1.length)) then (aN s.2.2.2.2.2.2.1 s.2.1).bind fun a0=>(tY (Field.mk s.2.2.2.2.1) a0.2 (s.2.2.1,s.2.2.2.1)).bind fun a1=>bif !a1.2 then some (.next (s.1,aA .i64 (s.2.1+1),s.2.2)) else bif decide ((bn s.2.2.2.2.2.2.2.2.2.2.2.2.length)<=s.1) then some (.done 8) else (aN s.2.2.2.2.2.2.2.2.2.2.2.2 s.1).bind fun a2=>bif a2.1 !=a0.1 then some (.done 8) else (aN s.2.2.2.2.2.2.2.2.2.2.2.2 s.1).bind fun a3=>(yO (aO.mk (bC.mk s.2.2.2.2.2.2.2.1 s.2.2.2.2.2.2.2.2.1 s.2.2.2.2.2.2.2.2.2.1) s.2.2.2.2.2.2.2.2.2.2.1 s.2.2.2.2.2.2.2.2.2.2.2.1) a3.2).bind fun a4=>bif a4.2 !=0 then some (.done 8) else bif a4.1.2.2.1 !=a0.1 then some (.done 8) else bif !((a4.1.1==a1.1.1)&&(a4.1.2.1==a1.1.2)) then some (.done 8) else some (.next (aA .i64 (s.1+1),aA .i64 (s.2.1+1),s.2.2)) else bif s.1 !=(bn s.2.2.2.2.2.2.2.2.2.2.2.2.length) then some (.done 8) else some (.done 0)
def zY (p0:aQ):Option Int:=(wB p0.au).bind fun n0=>bif n0 !=0 then some 8 else (mR p0.ax).bind fun n1=>bif n1 !=0 then some 8 else (wC p0.ay).bind fun n2=>bif n2 !=0 then some 8 else (zW p0.ay p0.ax).bind fun b3=>bif !b3 then some 8 else (wE p0.az).bind fun n4=>bif n4 !=0 then some 8 else bif (bn p0.az.am.length) !=200 then some 8 else bif (bn p0.az.aj.length) !=(bn p0.ba.length) then some 8 else aH dX (0,0,p0.au.1,p0.au.2,p0.ax.aa,p0.ay.aq,p0.ay.ar,p0.az.ai.ac,p0.az.ai.ae,p0.az.ai.af,p0.az.aj,p0.az.am,p0.ba)
def c55:bI:=⟨aC.one (aK.agg bW),aK.int .i64,fun a=>zY a,.pure,false⟩
theorem aTM:aI tab 55 c55:=Oc aSx rfl aG [(64,c64),(63,c63),(107,aTF),(108,aWc),(109,aTL),(110,aM0),(111,aWn)] ⟨aFu,aAA,aB9,aMO,aCe,UX,aM1,trivial⟩ fun a=>by kernel_rfl
def sM (s:((List Int)×Int×Int)):Option (bQ ((List Int)×Int×Int) (bQ ((List Int)×Int) Bool)):=bif decide (s.2.2<s.2.1) then (aN s.1 s.2.1).bind fun n0=>bif decide (0<=n0) then (aN s.1 s.2.2).bind fun n1=>(aN s.1 s.2.1).bind fun n2=>bif n1==n2 then some (.done (.done true)) else some (.next (s.1,s.2.1,aA .i64 (s.2.2+1))) else some (.next (s.1,s.2.1,aA .i64 (s.2.2+1))) else some (.done (.next (s.1,aA .i64 (s.2.1+1))))
def sN (s:((List Int)×Int)):Option (bQ ((List Int)×Int) Bool):=bif decide (s.2<(bn s.1.length)) then aH sM (s.1,s.2,0) else some (.done false)
def E0 (p0:List Int):Option Bool:=aH sN (p0,0)
def aWo:bI:=⟨aC.one (aK.sl ki),aK.bool,fun a=>E0 a,.pure,false⟩
theorem aM2:aI tab 112 aWo:=Oc aJF rfl aG [] trivial fun a=>by kernel_rfl
def kG (p0:bE) (p1:Int):Option Int:=bif decide (p1<(bn p0.be.length)) then (aN p0.be p1).bind fun n0=>some n0 else (aN p0.bc (aA .i64 (p1- (bn p0.be.length)))).bind fun n1=>some n1
def aFv:bI:=⟨aC.cons (aK.agg eH) (aC.one (aK.int .i64)),aK.int .i64,fun a=>kG a.1 a.2,.pure,false⟩
theorem M5:aI tab 113 aFv:=Oc aJG rfl aG [] trivial fun a=>by kernel_rfl
def oR (s:(Int×(List Int)×(List Int))):Option (bQ (Int×(List Int)×(List Int)) (bQ (Int×Int×(List Int)×(List Int)) Int)):=bif decide (s.1<(bn s.2.2.length)) then (kG (bE.mk s.2.1 s.2.2) (aA .i64 ((aA .i64 (2*s.1))+1))).bind fun n0=>(kG (bE.mk s.2.1 s.2.2) (aA .i64 ((aA .i64 (2*s.1))+2))).bind fun n1=>(aN s.2.2 s.1).bind fun n2=>bif n2 !=n0 then (aN s.2.2 s.1).bind fun n3=>bif n3 !=n1 then some (.done (.done 8)) else (aN s.2.2 s.1).bind fun n4=>bif n4==(-1) then bif n0 !=(-1) then some (.done (.done 8)) else bif n1 !=(-1) then some (.done (.done 8)) else some (.next (aA .i64 (s.1+1),s.2)) else some (.next (aA .i64 (s.1+1),s.2)) else (aN s.2.2 s.1).bind fun n5=>bif n5==(-1) then bif n0 !=(-1) then some (.done (.done 8)) else bif n1 !=(-1) then some (.done (.done 8)) else some (.next (aA .i64 (s.1+1),s.2)) else some (.next (aA .i64 (s.1+1),s.2)) else some (.done (.done 0))
def sO (s:(Int×Int×(List Int)×(List Int))):Option (bQ (Int×Int×(List Int)×(List Int)) Int):=bif decide (s.2.1<s.1) then (aN s.2.2.1 s.2.1).bind fun n0=>bif decide (n0<(-1)) then some (.done 8) else (aN s.2.2.1 s.2.1).bind fun n1=>bif decide (65535<n1) then some (.done 8) else some (.next (s.1,aA .i64 (s.2.1+1),s.2.2)) else aH oR (0,s.2.2)
def wG (p0:bE):Option Int:=bif decide ((bn p0.bc.length)<1) then some 8 else bif decide (64<(bn p0.bc.length)) then some 8 else bif (bn p0.be.length) !=(aA .i64 ((bn p0.bc.length) -1)) then some 8 else (E0 p0.bc).bind fun b0=>bif b0 then some 8 else aH sO (bn p0.bc.length,0,p0.bc,p0.be)
def c56:bI:=⟨aC.one (aK.agg eH),aK.int .i64,fun a=>wG a,.pure,false⟩
theorem aTN:aI tab 56 c56:=Oc aSy rfl aG [(112,aWo),(113,aFv)] ⟨aM2,M5,trivial⟩ fun a=>by kernel_rfl
def sP (s:(Int×Int)):Option (bQ (Int×Int) Bool):=bif decide (s.2<=64) then bif s.1==s.2 then some (.done true) else some (.next (s.1,aA .i64 (s.2*2))) else some (.done false)
def zZ (p0:Int):Option Bool:=aH sP (p0,1)
def c57:bI:=⟨aC.one (aK.int .i64),aK.bool,fun a=>zZ a,.pure,false⟩
theorem aTO:aI tab 57 c57:=Oc aSz rfl aG [] trivial fun a=>by kernel_rfl
def sQ (s:((List Int)×Int×cH)):Option (bQ ((List Int)×Int×cH) Bool):=bif decide (s.2.1<(bn s.1.length)) then (aN s.1 s.2.1).bind fun n0=>bif n0 !=(-1) then (aN s.1 s.2.1).bind fun n1=>(gP (Field.mk s.2.2) n1).bind fun n2=>bif decide (n2<0) then some (.done false) else some (.next (s.1,aA .i64 (s.2.1+1),s.2.2)) else some (.next (s.1,aA .i64 (s.2.1+1),s.2.2)) else some (.done true)
def AA (p0:Field) (p1:List Int):Option Bool:=aH sQ (p1,0,p0.aa)
def c58:bI:=⟨aC.cons (aK.agg bV) (aC.one (aK.sl ki)),aK.bool,fun a=>AA a.1 a.2,.pure,false⟩
theorem aTP:aI tab 58 c58:=Oc aSA rfl aG [(100,X9)] ⟨CX,trivial⟩ fun a=>by kernel_rfl
def xL (s:((List Int)×Int×(List Int))):Option (bQ ((List Int)×Int×(List Int)) (List Int)):=bif decide (s.2.1<(bn s.1.length)) then (aN s.1 s.2.1).bind fun n0=>bif decide (0<=n0) then (aN s.1 s.2.1).bind fun n1=>(bN s.2.2 [n1]).bind fun l2=>some (.next (s.1,aA .i64 (s.2.1+1),l2)) else some (.next (s.1,aA .i64 (s.2.1+1),s.2.2)) else some (.done s.2.2)
def F5 (p0:List Int):Option (List Int):=aH xL (p0,0,[])
def c59:bI:=⟨aC.one (aK.sl ki),aK.sl ki,fun a=>F5 a,.frz,false⟩
theorem aTQ:aI tab 59 c59:=Oc aSB rfl aG [] trivial fun a=>by kernel_rfl
def xQ (p0:Field) (p1:Int×Int) (p2:Int) (p3:Int):Option Int:=bif decide (p2<0) then some p3 else bif decide (p3<0) then some p2 else (gP p0 p2).bind fun n0=>(aN p0.aa n0).bind fun a1=>(gP p0 p3).bind fun n2=>(aN p0.aa n2).bind fun a3=>(rF a1 a3 p1).bind fun b4=>bif b4 then some p2 else some p3
def aTR:bI:=⟨aC.cons (aK.agg bV) (aC.cons (aK.agg (cP.row kN)) (aC.cons (aK.int .i64) (aC.one (aK.int .i64)))),aK.int .i64,fun a=>xQ a.1 a.2.1 a.2.2.1 a.2.2.2,.pure,false⟩
theorem aCf:aI tab 114 aTR:=Oc aJH rfl aG [(100,X9),(172,aMV)] ⟨CX,UW,trivial⟩ fun a=>by kernel_rfl
def uW (s:(Int×(List Int)×(List Int)×cH×Int×Int)):Option (bQ (Int×(List Int)×(List Int)×cH×Int×Int) Bool):=bif decide (s.1<(bn s.2.2.1.length)) then (aN s.2.2.1 s.1).bind fun n0=>(kG (bE.mk s.2.1 s.2.2.1) (aA .i64 ((aA .i64 (2*s.1))+1))).bind fun n1=>(kG (bE.mk s.2.1 s.2.2.1) (aA .i64 ((aA .i64 (2*s.1))+2))).bind fun n2=>(xQ (Field.mk s.2.2.2.1) s.2.2.2.2 n1 n2).bind fun n3=>bif n0 !=n3 then some (.done false) else some (.next (aA .i64 (s.1+1),s.2)) else some (.done true)
def yP (p0:bE) (p1:Field) (p2:Int×Int):Option Bool:=aH uW (0,p0.bc,p0.be,p1.aa,p2)
def c60:bI:=⟨aC.cons (aK.agg eH) (aC.cons (aK.agg bV) (aC.one (aK.agg (cP.row kN)))),aK.bool,fun a=>yP a.1 a.2.1 a.2.2,.pure,false⟩
theorem aTS:aI tab 60 c60:=Oc aSC rfl aG [(113,aFv),(114,aTR)] ⟨M5,aCf,trivial⟩ fun a=>by kernel_rfl
def AB (s:(Int×(List Int)×(List Int)×tC)):Option (bQ (Int×(List Int)×(List Int)×tC) tC):=bif decide (s.1<(bn s.2.2.1.length)) then (kG (bE.mk s.2.1 s.2.2.1) (aA .i64 ((aA .i64 (2*s.1))+1))).bind fun n0=>(kG (bE.mk s.2.1 s.2.2.1) (aA .i64 ((aA .i64 (2*s.1))+2))).bind fun n1=>bif decide (n0<0) then some (.next (aA .i64 (s.1+1),s.2)) else bif decide (n1<0) then some (.next (aA .i64 (s.1+1),s.2)) else (aN s.2.2.1 s.1).bind fun n2=>bif n2==n0 then (bN s.2.2.2 [(n1,n0)]).bind fun l3=>some (.next (aA .i64 (s.1+1),s.2.1,s.2.2.1,l3)) else (bN s.2.2.2 [(n0,n1)]).bind fun l4=>some (.next (aA .i64 (s.1+1),s.2.1,s.2.2.1,l4)) else some (.done s.2.2.2)
def BP (p0:bE):Option tC:=aH AB (0,p0.bc,p0.be,[])
def c62:bI:=⟨aC.one (aK.agg eH),aK.sl kN,fun a=>BP a,.frz,false⟩
theorem aFw:aI tab 62 c62:=Oc aSE rfl aG [(113,aFv)] ⟨M5,trivial⟩ fun a=>by kernel_rfl
def xM (s:(Int×Int×cH×Int×Int)):Option (bQ (Int×Int×cH×Int×Int) Bool):=bif decide (s.1<(bn s.2.2.1.length)) then (aN s.2.2.1 s.1).bind fun a0=>bif (a0.2.1==s.2.2.2.1)&&(a0.2.2==s.2.2.2.2) then some (.done true) else some (.next (aA .i64 (s.1+1),s.2)) else some (.done false)
def xR (p0:bO) (p1:Int×Int):Option Bool:=aH xM (0,p0.aq,p0.ar,p1)
def aM3:bI:=⟨aC.cons (aK.agg iA) (aC.one (aK.agg (cP.row kN))),aK.bool,fun a=>xR a.1 a.2,.pure,false⟩
theorem UY:aI tab 115 aM3:=Oc aJI rfl aG [] trivial fun a=>by kernel_rfl
def CZ (p0:Int×Int) (p1:Field) (p2:Int×Int):Option Bool:=(gP p1 p0.2).bind fun n0=>(aN p1.aa n0).bind fun a1=>(gP p1 p0.1).bind fun n2=>(aN p1.aa n2).bind fun a3=>(rF a1 a3 p2).bind fun b4=>some b4
def aWp:bI:=⟨aC.cons (aK.agg (cP.row kN)) (aC.cons (aK.agg bV) (aC.one (aK.agg (cP.row kN)))),aK.bool,fun a=>CZ a.1 a.2.1 a.2.2,.pure,false⟩
theorem aM4:aI tab 116 aWp:=Oc aJJ rfl aG [(100,X9),(172,aMV)] ⟨CX,UW,trivial⟩ fun a=>by kernel_rfl
end
end
end Go.Proofs.YtogihpogmfjoiaaGreat
