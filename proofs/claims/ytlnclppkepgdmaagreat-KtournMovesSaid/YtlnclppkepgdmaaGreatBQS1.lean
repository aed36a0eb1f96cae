/- Plain functions for what the functions of the seat compute. Printed by a program. -/
import Derived.Test.YtlnclppkepgdmaaGreatBVm3
import Derived.Test.YtlnclppkepgdmaaGreatBQXT
set_option maxRecDepth 100000
namespace Go.Proofs.YtlnclppkepgdmaaGreat
open Go.Vm
noncomputable section
theorem Oc {f:FuncId} {x:aM} {α β:Type} {args:aC α} {res:aK β} {kd:Kd} {fn:α->Option β} {ow:Bool} (hf:tab f=some (.code x)) (ho:aGg kd ow=true) (lp:Option Nat) (l:List (Nat×bK)) (h:G7 tab l) (e: ∀a,aNl (mT lp l [] [] []) x args res kd a=fn a):aI tab f ⟨args,res,fn,kd,ow⟩:=aI.of hf (cx:=mT lp l [] [] []) ho (jY.make h trivial trivial) e
abbrev fG:List PT:=[.i .i64,.i .i64,.i .i64]
abbrev ki:List PT:=[.i .i64]
abbrev kb:List PT:=[.b]
abbrev jZ:List PT:=[.i .i64,.i .i64,.i .i64,.i .i64,.i .i64]
abbrev iA:List PT:=[.i .i64,.i .i64]
abbrev EE:List PT:=[.b,.i .u64,.i .u64]
abbrev aTX:List PT:=[.i .i64,.i .i64,.i .i64,.i .i64]
abbrev kiu:List PT:=[.i .i64,.i .u64]
structure Field where
 points:List (Int×Int×Int)
def cM:cH Field:=cH.iso (cH.sl fG) (fun p=>⟨p⟩) (fun c=>c.points) (fun _=>rfl)
structure aZ where
 uses:List Int
 used:List Bool
 free:List Int
def gQ:cH aZ:=cH.iso (cH.prod (cH.sl ki) (cH.prod (cH.sl kb) (cH.sl ki))) (fun p=>⟨p.1,p.2.1,p.2.2⟩) (fun c=>(c.uses,c.used,c.free)) (fun _=>rfl)
structure aP where
 slots:aZ
 heap:List (Int×Int×Int×Int×Int)
 where_:List Int
def dF:cH aP:=cH.iso (cH.prod gQ (cH.prod (cH.sl jZ) (cH.sl ki))) (fun p=>⟨p.1,p.2.1,p.2.2⟩) (fun c=>(c.slots,c.heap,c.where_)) (fun _=>rfl)
structure bI where
 next_:Int
 list:List (Int×Int×Int)
def gR:cH bI:=cH.iso (cH.prod (cH.int .i64) (cH.sl fG)) (fun p=>⟨p.1,p.2⟩) (fun c=>(c.next_,c.list)) (fun _=>rfl)
structure aO where
 now:Int×Int
 field:Field
 certs:bI
 agenda:aP
 due:List (Int×Int×Int)
def bJ:cH aO:=cH.iso (cH.prod (cH.row iA) (cH.prod cM (cH.prod gR (cH.prod dF (cH.sl fG))))) (fun p=>⟨p.1,p.2.1,p.2.2.1,p.2.2.2.1,p.2.2.2.2⟩) (fun c=>(c.now,c.field,c.certs,c.agenda,c.due)) (fun _=>rfl)
structure bF where
 places:List Int
 wins:List Int
def eH:cH bF:=cH.iso (cH.prod (cH.sl ki) (cH.sl ki)) (fun p=>⟨p.1,p.2⟩) (fun c=>(c.places,c.wins)) (fun _=>rfl)
structure cC where
 clock:aO
 bracket:bF
def fL:cH cC:=cH.iso (cH.prod bJ eH) (fun p=>⟨p.1,p.2⟩) (fun c=>(c.clock,c.bracket)) (fun _=>rfl)
theorem xL:aI tab 184 (bK.clone kb):=aI.clone aJM rfl
theorem aEA:aI tab 300 (bK.add64):=aI.add64 aKQ
theorem rI:aI tab 67 (bK.clone ki):=aI.clone aRF rfl
theorem BA:aI tab 181 (bK.clone fG):=aI.clone aJJ rfl
theorem EF:aI tab 124 (bK.clone fG):=aI.clone aJb rfl
theorem I2:aI tab 182 (bK.clone fG):=aI.clone aJK rfl
theorem xM:aI tab 183 (bK.clone jZ):=aI.clone aJL rfl
theorem WT:aI tab 315 (bK.clone ki):=aI.clone aKW rfl
abbrev gO:aO:=aO.mk (0,0) (Field.mk []) (bI.mk 0 []) (aP.mk (aZ.mk [] [] []) [] []) []
section
abbrev kG:=List (Int×Int×Int×Int×Int)
abbrev bY:=List (Int×Int×Int)
abbrev qY:=List (Int×Int)
abbrev aCT:=qY×qY×Int×Int×Int×Int×bY×Int×bY×(List Int)×(List Bool)×(List Int)×kG×(List Int)×bY×bY×Int×Int×Int
abbrev aTY:=bT aCT (aO×Int)
abbrev Zt1:=bT aCT aTY
abbrev Zt3:=bY×Int×Int×Int×Int×bY×Int×bY×(List Int)×(List Bool)×(List Int)×kG×(List Int)×bY×bY×Int×Int×Int×Int×Int×Int×bY×(List Int)×(List Bool)×(List Int)×kG×(List Int)×bY×bY
abbrev aTZ:=qY×bY×Int×Int×Int×Int×bY×Int×bY×(List Int)×(List Bool)×(List Int)×kG×(List Int)×bY×bY×Int×Int×Int
abbrev Zt6:=bT aTZ (aO×Int)
abbrev aT0:=bY×Int×Int×Int×Int×bY×Int×bY×(List Int)×(List Bool)×(List Int)×kG×(List Int)×bY×bY×Int×Int×Int
abbrev Zt7:=bT aT0 (aO×Int)
abbrev Zt8:=Int×Int×bY×Int×bY×(List Int)×(List Bool)×(List Int)×kG×(List Int)×bY×(List Int)×(List Int)×Int×Int×Int×Int×Int×qY
abbrev aT1:=bY×bY×Int×Int×Int×Int×bY×Int×bY×(List Int)×(List Bool)×(List Int)×kG×(List Int)×bY
abbrev aT2:=qY×Int×Int×Int×Int×bY×Int×bY×(List Int)×(List Bool)×(List Int)×kG×(List Int)×bY×Int×Int×Int
abbrev aT3:=Int×Int×Int×Int×bY×Int×bY×(List Int)×(List Bool)×(List Int)×kG×(List Int)×bY×(List Int)
abbrev aT4:=bT aT3 Int
abbrev aT5:=qY×Int×Int×Int×bY×Int×bY×(List Int)×(List Bool)×(List Int)×kG×(List Int)×bY
abbrev aR8:=Int×Int×Int×Int×bY×Int×bY×(List Int)×(List Bool)×(List Int)×kG×(List Int)×bY
abbrev aT6:=bT aR8 Int
abbrev aT7:=Int×kG×(List Int)×(List Int)×(List Bool)×(List Int)×Nat×Nat×Int×Int×Int×Int×Int
abbrev QP:=kG×(List Int)
abbrev aT8:=bT aT7 QP
abbrev aT9:=Int×kG×(List Int)×(List Int)×(List Bool)×(List Int)×Int×Int×Int×Int×Int
abbrev aUa:=bT aT9 QP
abbrev aKZ:=(List Int)×Int×Int×(List Int)×(List Int)×(List (Int×Bool))
abbrev aUb:=bT aKZ Int
abbrev aUc:=bT aKZ aUb
abbrev aUd:=kG×Int×Int×(List Int)×(List Bool)×(List Int)×kG×(List Int)×(List (List Int))
abbrev aUe:=Int×Int×kG×(List Int)×(List Int)×(List Bool)×(List Int)×Nat×Nat×Int×Int×Int×Int×Int
abbrev aK0:=(List Int)×(List Bool)×(List Int)×Nat×Nat×Int×Int×Int×Int×Int×Int×kG×(List Int)
abbrev aUf:=Int×Int×kG×(List Int)×(List Int)×(List Bool)×(List Int)×Int×Int×Int×Int×Int
abbrev aUg:=Int×Int×(List Int)×(List Bool)×(List Int)×kG×(List Int)×Int×Int×Int×Int×Int
abbrev aK1:=(List Int)×(List Bool)×(List Int)×Int×Int×Int×Int×Int×Int×kG×(List Int)
abbrev aUh:=(List Int)×Int×Int×(List Int)×(List Bool)×(List Int)×kG×(List Int)
abbrev aUi:=bT aUh Int
abbrev aUj:=(List Int)×Int×Int×bY×Int×Int×(List (Int×Bool))
abbrev aUk:=bT aUj (bF×Int)
abbrev I3:=Int×(List Int)×(List Bool)×(List Int)×kG×(List Int)
abbrev aR9:=bT I3 Int
abbrev aSa:=Int×Int×(List Int)×(List Bool)×(List Int)×kG×(List Int)
abbrev aUl:=Int×bY×Int×Int×Int×bY×(List (List Int))
abbrev aUm:=(List Int)×Int×Int×(List Int)×(List Bool)×(List Int)×Int×(List Bool)
abbrev aUn:=bT aUm Int
abbrev aCU:=Int×bY×Int×Int×(List Int)×(List Int)
abbrev QQ:=bY×Int×Int×Int×Int
abbrev aEB:=bT QQ (Int×Bool)
abbrev aEC:=bY×Int×Int×bY
abbrev aED:=Int×Int×(List Int)×(List Bool)×(List Int)×(List Bool)
abbrev aEE:=Int×Int×bY
abbrev aSb:=bT aEE Int
abbrev aEF:=cC×qY×Int
abbrev aEG:=Int×bY
abbrev aEH:=Int×Int×(List Int)
variable [LP]
def vA (p0:Field):Option Bool:=bif decide (16<(Int.ofNat p0.points.length)) then bif decide ((Int.ofNat p0.points.length)<64) then some true else some (decide (70<(Int.ofNat p0.points.length))) else some (decide (70<(Int.ofNat p0.points.length)))
def c16:bK:=⟨aC.one (aK.agg cM),aK.bool,fun a=>vA a,.pure,false⟩
theorem aSc:aI tab 16 c16:=Oc aRd rfl aG [] trivial fun a=>by kernel_rfl
def EG (p0:aZ):Option Bool:=bif decide (210<(Int.ofNat p0.uses.length)) then some true else bif decide (210<(Int.ofNat p0.used.length)) then some true else some (decide (210<(Int.ofNat p0.free.length)))
def aUo:bK:=⟨aC.one (aK.agg gQ),aK.bool,fun a=>EG a,.pure,false⟩
theorem aK2:aI tab 168 aUo:=Oc aJy rfl aG [] trivial fun a=>by kernel_rfl
def EH (p0:aP):Option Bool:=(EG p0.slots).bind fun b0=>bif b0 then some true else bif decide (210<(Int.ofNat p0.heap.length)) then some true else some (decide (210<(Int.ofNat p0.where_.length)))
def aUp:bK:=⟨aC.one (aK.agg dF),aK.bool,fun a=>EH a,.pure,false⟩
theorem aK3:aI tab 102 aUp:=Oc aIU rfl aG [(168,aUo)] ⟨aK2,trivial⟩ fun a=>by kernel_rfl
def vB (p0:aO):Option Bool:=bif decide (40<(Int.ofNat p0.certs.list.length)) then some true else bif decide (40<(Int.ofNat p0.due.length)) then some true else (vA p0.field).bind fun b0=>bif b0 then some true else (EH p0.agenda).bind fun b1=>some b1
def c45:bK:=⟨aC.one (aK.agg bJ),aK.bool,fun a=>vB a,.pure,false⟩
theorem aSd:aI tab 45 c45:=Oc aRq rfl aG [(16,c16),(102,aUp)] ⟨aSc,aK3,trivial⟩ fun a=>by kernel_rfl
def EI (p0:bF):Option Bool:=bif decide (70<(Int.ofNat p0.places.length)) then some true else some (decide (70<(Int.ofNat p0.wins.length)))
def c46:bK:=⟨aC.one (aK.agg eH),aK.bool,fun a=>EI a,.pure,false⟩
theorem aSe:aI tab 46 c46:=Oc aRr rfl aG [] trivial fun a=>by kernel_rfl
def vC (p0:cC):Option Bool:=(vB p0.clock).bind fun b0=>bif b0 then some true else (EI p0.bracket).bind fun b1=>some b1
def c9:bK:=⟨aC.one (aK.agg fL),aK.bool,fun a=>vC a,.pure,false⟩
theorem aUq:aI tab 9 c9:=Oc aTW rfl aG [(45,c45),(46,c46)] ⟨aSd,aSe,trivial⟩ fun a=>by kernel_rfl
def G9 (p0:Field):Option Bool:=some (decide (10<(Int.ofNat p0.points.length)))
def c10:bK:=⟨aC.one (aK.agg cM),aK.bool,fun a=>G9 a,.pure,false⟩
theorem aSf:aI tab 10 c10:=Oc aQ8 rfl aG [] trivial fun a=>by kernel_rfl
def pW (p0:Field):Option Field:=(bX p0.points).bind fun l0=>some (Field.mk l0)
def c91:bK:=⟨aC.one (aK.agg cM),aK.agg cM,fun a=>pW a,.own,true⟩
def aK4:bK:=⟨aC.one (aK.agg cM),aK.agg cM,fun a=>pW a,.frz,false⟩
theorem aAb:aI tab 91 c91:=Oc aEz rfl aG [] trivial fun a=>by kernel_rfl
theorem T3:aI tab 91 aK4:=Oc aEz rfl aG [] trivial fun a=>by kernel_rfl
def pX (p0:bI):Option bI:=(bX p0.list).bind fun l0=>some (bI.mk p0.next_ l0)
def aK5:bK:=⟨aC.one (aK.agg gR),aK.agg gR,fun a=>pX a,.own,true⟩
def aBB:bK:=⟨aC.one (aK.agg gR),aK.agg gR,fun a=>pX a,.frz,false⟩
theorem T4:aI tab 103 aK5:=Oc aBl rfl aG [] trivial fun a=>by kernel_rfl
theorem OQ:aI tab 103 aBB:=Oc aBl rfl aG [] trivial fun a=>by kernel_rfl
def nS (p0:aZ):Option aZ:=(bX p0.uses).bind fun l0=>(bX p0.used).bind fun l1=>(bX p0.free).bind fun l2=>some (aZ.mk l0 l1 l2)
def aEI:bK:=⟨aC.one (aK.agg gQ),aK.agg gQ,fun a=>nS a,.own,true⟩
def WU:bK:=⟨aC.one (aK.agg gQ),aK.agg gQ,fun a=>nS a,.frz,false⟩
theorem MP:aI tab 169 aEI:=Oc aBs rfl aG [] trivial fun a=>by kernel_rfl
theorem I4:aI tab 169 WU:=Oc aBs rfl aG [] trivial fun a=>by kernel_rfl
def mH (p0:aP):Option aP:=(nS p0.slots).bind fun r0=>(bX p0.heap).bind fun l1=>(bX p0.where_).bind fun l2=>some (aP.mk r0 l1 l2)
def aCV:bK:=⟨aC.one (aK.agg dF),aK.agg dF,fun a=>mH a,.own,true⟩
def RZ:bK:=⟨aC.one (aK.agg dF),aK.agg dF,fun a=>mH a,.frz,false⟩
theorem I5:aI tab 104 aCV:=Oc aBm rfl aG [(169,aEI),(169,WU)] ⟨MP,I4,trivial⟩ fun a=>by kernel_rfl
theorem EJ:aI tab 104 RZ:=Oc aBm rfl aG [(169,aEI),(169,WU)] ⟨MP,I4,trivial⟩ fun a=>by kernel_rfl
def iL (p0:aO):Option aO:=(pW p0.field).bind fun r0=>(pX p0.certs).bind fun r1=>(mH p0.agenda).bind fun r2=>(bX p0.due).bind fun l3=>some (aO.mk p0.now r0 r1 r2 l3)
def c47:bK:=⟨aC.one (aK.agg bJ),aK.agg bJ,fun a=>iL a,.own,true⟩
def WV:bK:=⟨aC.one (aK.agg bJ),aK.agg bJ,fun a=>iL a,.frz,false⟩
theorem HA:aI tab 47 c47:=Oc aEx rfl aG [(91,c91),(91,aK4),(103,aK5),(103,aBB),(104,aCV),(104,RZ)] ⟨aAb,T3,T4,OQ,I5,EJ,trivial⟩ fun a=>by kernel_rfl
theorem CB:aI tab 47 WV:=Oc aEx rfl aG [(91,c91),(91,aK4),(103,aK5),(103,aBB),(104,aCV),(104,RZ)] ⟨aAb,T3,T4,OQ,I5,EJ,trivial⟩ fun a=>by kernel_rfl
def CC (p0:bF):Option bF:=(bX p0.places).bind fun l0=>(bX p0.wins).bind fun l1=>some (bF.mk l0 l1)
def c48:bK:=⟨aC.one (aK.agg eH),aK.agg eH,fun a=>CC a,.own,true⟩
def aSg:bK:=⟨aC.one (aK.agg eH),aK.agg eH,fun a=>CC a,.frz,false⟩
theorem aEJ:aI tab 48 c48:=Oc aEy rfl aG [] trivial fun a=>by kernel_rfl
theorem aBC:aI tab 48 aSg:=Oc aEy rfl aG [] trivial fun a=>by kernel_rfl
def sV (p0:cC):Option cC:=(iL p0.clock).bind fun r0=>(CC p0.bracket).bind fun r1=>some (cC.mk r0 r1)
def c11:bK:=⟨aC.one (aK.agg fL),aK.agg fL,fun a=>sV a,.own,true⟩
def aSh:bK:=⟨aC.one (aK.agg fL),aK.agg fL,fun a=>sV a,.frz,false⟩
theorem aEK:aI tab 11 c11:=Oc aEw rfl aG [(47,c47),(47,WV),(48,c48),(48,aSg)] ⟨HA,CB,aEJ,aBC,trivial⟩ fun a=>by kernel_rfl
theorem aBD:aI tab 11 aSh:=Oc aEw rfl aG [(47,c47),(47,WV),(48,c48),(48,aSg)] ⟨HA,CB,aEJ,aBC,trivial⟩ fun a=>by kernel_rfl
def mZ (p0:Int):Option Int:=bif decide (p0<0) then some (aA .u64 (0- (aA .u64 p0))) else some (aA .u64 p0)
def aK6:bK:=⟨aC.one (aK.int .i64),aK.int .u64,fun a=>mZ a,.pure,false⟩
theorem T5:aI tab 106 aK6:=Oc aIW rfl aG [] trivial fun a=>by kernel_rfl
def wL (s:(Int×Int)):Option (bT (Int×Int) Int):=bif decide (0<s.2) then bif s.2==0 then none else some (.next (s.2,Int.tmod s.1 s.2)) else some (.done s.1)
def BB (p0:Int) (p1:Int):Option Int:=aH wL (p0,p1)
def aSi:bK:=⟨aC.cons (aK.int .u64) (aC.one (aK.int .u64)),aK.int .u64,fun a=>BB a.1 a.2,.pure,false⟩
theorem aBE:aI tab 105 aSi:=Oc aIV rfl aG [] trivial fun a=>by kernel_rfl
def fS (p0:Int×Int):Option Int:=bif decide (p0.2<1) then some 8 else bif p0.1==(-9223372036854775808) then some 8 else (mZ p0.1).bind fun n0=>(BB (aA .u64 p0.2) n0).bind fun n1=>bif decide (1<n1) then some 8 else some 0
def c49:bK:=⟨aC.one (aK.agg (cH.row iA)),aK.int .i64,fun a=>fS a,.pure,false⟩
theorem CD:aI tab 49 c49:=Oc aRs rfl aG [(106,aK6),(105,aSi)] ⟨T5,aBE,trivial⟩ fun a=>by kernel_rfl
def rJ (p0:Int):Option Bool:=bif decide (p0<(-1048576)) then some true else some (decide (1048576<p0))
def aUr:bK:=⟨aC.one (aK.int .i64),aK.bool,fun a=>rJ a,.pure,false⟩
theorem aK7:aI tab 249 aUr:=Oc aKu rfl aG [] trivial fun a=>by kernel_rfl
def oI (p0:Int×Int×Int):Option Int:=bif decide (p0.1<0) then some 8 else bif decide (65535<p0.1) then some 8 else (rJ p0.2.1).bind fun b0=>bif b0 then some 8 else (rJ p0.2.2).bind fun b1=>bif b1 then some 8 else some 0
def aSj:bK:=⟨aC.one (aK.agg (cH.row fG)),aK.int .i64,fun a=>oI a,.pure,false⟩
theorem aBF:aI tab 191 aSj:=Oc aJT rfl aG [(249,aUr)] ⟨aK7,trivial⟩ fun a=>by kernel_rfl
def jK (s:aEC):Option (bT aEC (bT aEC Int)):=bif decide (s.2.2.1<s.2.1) then (aN s.1 s.2.2.1).bind fun a0=>bif decide (0<s.2.2.1) then (aN s.2.2.2 (aA .i64 (s.2.2.1-1))).bind fun a1=>bif decide (a0.1<=a1.1) then some (.done (.done 32)) else some (.next (s.1,s.2.1,aA .i64 (s.2.2.1+1),s.2.2.2)) else some (.next (s.1,s.2.1,aA .i64 (s.2.2.1+1),s.2.2.2)) else some (.done (.done 0))
def nT (s:aEC):Option (bT aEC Int):=bif decide (s.2.2.1<s.2.1) then (aN s.1 s.2.2.1).bind fun a0=>(oI a0).bind fun n1=>bif n1 !=0 then some (.done n1) else some (.next (s.1,s.2.1,aA .i64 (s.2.2.1+1),s.2.2.2)) else aH jK (s.2.2.2,Int.ofNat s.2.2.2.length,0,s.2.2.2)
def gL (p0:Field):Option Int:=bif decide (64<(Int.ofNat p0.points.length)) then some 4 else aH nT (p0.points,Int.ofNat p0.points.length,0,p0.points)
def aCW:bK:=⟨aC.one (aK.agg cM),aK.int .i64,fun a=>gL a,.pure,false⟩
theorem I6:aI tab 122 aCW:=Oc aJa rfl aG [(191,aSj)] ⟨aBF,trivial⟩ fun a=>by kernel_rfl
def xN (p0:Int×Int):Option Bool:=bif decide (0<=(if p0.2<p0.1 then p0.2 else p0.1)) then bif decide ((if p0.2>p0.1 then p0.2 else p0.1)<=65535) then some (p0.1 !=p0.2) else some false else some false
def aSk:bK:=⟨aC.one (aK.agg (cH.row iA)),aK.bool,fun a=>xN a,.pure,false⟩
theorem aBG:aI tab 194 aSk:=Oc aJU rfl aG [] trivial fun a=>by kernel_rfl
def tU (s:aUl):Option (bT aUl Int):=bif decide (s.2.2.2.1<s.2.2.1) then (aN s.2.1 s.2.2.2.1).bind fun a0=>(xN a0.2).bind fun b1=>bif !b1 then some (.done 8) else (VW s.2.2.2.2.2.2 [a0.2.1,a0.2.2]).bind fun b2=>bif b2 then some (.done 8) else bif decide (a0.1<=s.1) then some (.done 8) else bif decide (s.2.2.2.2.1<=a0.1) then some (.done 8) else (VX s.2.2.2.2.2.2 [a0.2.1,a0.2.2]).bind fun l3=>some (.next (a0.1,s.2.1,s.2.2.1,aA .i64 (s.2.2.2.1+1),s.2.2.2.2.1,s.2.2.2.2.2.1,l3)) else some (.done 0)
def sW (p0:bI):Option Int:=bif decide (200<(Int.ofNat p0.list.length)) then some 8 else bif decide (p0.next_<0) then some 8 else bif decide (1000000<p0.next_) then some 8 else aH tU (-1,p0.list,Int.ofNat p0.list.length,0,p0.next_,p0.list,[])
def aK8:bK:=⟨aC.one (aK.agg gR),aK.int .i64,fun a=>sW a,.pure,false⟩
theorem T6:aI tab 128 aK8:=Oc aJd rfl aG [(194,aSk)] ⟨aBG,trivial⟩ fun a=>by kernel_rfl
def hM (s:((List Bool)×Bool×Int×Int)):Option (bT ((List Bool)×Bool×Int×Int) Int):=bif decide (s.2.2.2<s.2.2.1) then (aN s.1 s.2.2.2).bind fun b0=>bif s.2.1==b0 then some (.done s.2.2.2) else some (.next (s.1,s.2.1,s.2.2.1,aA .i64 (s.2.2.2+1))) else some (.done (-1))
def rL (p0:List Bool) (p1:Bool):Option Int:=aH hM (p0,p1,Int.ofNat p0.length,0)
def aUs:bK:=⟨aC.cons (aK.sl kb) (aC.one aK.bool),aK.int .i64,fun a=>rL a.1 a.2,.pure,false⟩
theorem aK9:aI tab 294 aUs:=Oc aKO rfl aG [] trivial fun a=>by kernel_rfl
def eL (p0:List Bool) (p1:Bool):Option Bool:=(rL p0 p1).bind fun n0=>some (decide (0<=n0))
def aUt:bK:=⟨aC.cons (aK.sl kb) (aC.one aK.bool),aK.bool,fun a=>eL a.1 a.2,.pure,false⟩
theorem aLa:aI tab 252 aUt:=Oc aKw rfl aG [(294,aUs)] ⟨aK9,trivial⟩ fun a=>by kernel_rfl
def gY (s:((List Int)×Int×Int×(List Int)×(List Bool)×(List Int))):Option (bT ((List Int)×Int×Int×(List Int)×(List Bool)×(List Int)) aUn):=bif decide (s.2.2.1<s.2.1) then (aN s.1 s.2.2.1).bind fun n0=>bif decide (n0<0) then some (.done (.done 8)) else bif decide (1000000<n0) then some (.done (.done 8)) else bif n0==0 then (aN s.2.2.2.2.1 s.2.2.1).bind fun b1=>bif b1 then some (.done (.done 8)) else some (.next (s.1,s.2.1,aA .i64 (s.2.2.1+1),s.2.2.2)) else some (.next (s.1,s.2.1,aA .i64 (s.2.2.1+1),s.2.2.2)) else some (.done (.done 0))
def tV (c0:(List Bool)) (s:aUm):Option aUn:=match s with |(a,b,d,e,f,g,h,i)=>bif decide (d<b) then (aN a d).bind fun n0=>bif decide (n0<0) then bif i.length==i.length then bif i.length==c0.length then bif i.length==c0.length then bif decide (0<=d) then some (.done 8) else (eL i false).bind fun b1=>bif b1 then some (.done 8) else aH gY (e,Int.ofNat e.length,0,e,f,g) else none else none else none else bif decide (h<=n0) then bif i.length==i.length then bif i.length==c0.length then bif i.length==c0.length then bif decide (0<=d) then some (.done 8) else (eL i false).bind fun b2=>bif b2 then some (.done 8) else aH gY (e,Int.ofNat e.length,0,e,f,g) else none else none else none else (aN i n0).bind fun b3=>bif b3 then bif i.length==i.length then bif i.length==c0.length then bif i.length==c0.length then bif decide (0<=d) then some (.done 8) else (eL i false).bind fun b4=>bif b4 then some (.done 8) else aH gY (e,Int.ofNat e.length,0,e,f,g) else none else none else none else (aN i n0).bind fun _=>bif ((cR i n0 true).length)==i.length then some (.next (a,b,aA .i64 (d+1),e,f,g,h,cR i n0 true)) else none else bif i.length==c0.length then bif i.length==c0.length then (eL i false).bind fun b6=>bif b6 then some (.done 8) else aH gY (e,Int.ofNat e.length,0,e,f,g) else none else none
def sX (p0:aZ):Option Int:=bif decide ((Int.ofNat p0.uses.length)<1) then some 8 else bif decide (200<(Int.ofNat p0.uses.length)) then some 8 else bif (Int.ofNat p0.used.length) !=(Int.ofNat p0.uses.length) then some 8 else (bX p0.used).bind fun l0=>aH (tV l0) (p0.free,Int.ofNat p0.free.length,0,p0.uses,p0.used,p0.free,Int.ofNat p0.uses.length,l0)
def aLb:bK:=⟨aC.one (aK.agg gQ),aK.int .i64,fun a=>sX a,.pure,false⟩
theorem T7:aI tab 195 aLb:=aI.of aJV (cx:=(mT aG [(184,bK.clone kb),(252,aUt)] [] [(200,aAa),(134,WR),(251,aIb)] [])) rfl (jY.make ⟨xL,aLa,trivial⟩ trivial ⟨MO,I1,aKv,trivial⟩) (fun a=>by kernel_rfl)
def CE (p0:Int×Int) (p1:Int×Int):Option Int:=(fS p0).bind fun n0=>(fS p1).bind fun n1=>some (if n1>n0 then n1 else n0)
def aUu:bK:=⟨aC.cons (aK.agg (cH.row iA)) (aC.one (aK.agg (cH.row iA))),aK.int .i64,fun a=>CE a.1 a.2,.pure,false⟩
theorem aLc:aI tab 107 aUu:=Oc aIX rfl aG [(49,c49)] ⟨CD,trivial⟩ fun a=>by kernel_rfl
def pL (p0:Int):Option Bool:=some (p0 !=p0)
def aUv:bK:=⟨aC.one (aK.int .i64),aK.bool,fun a=>pL a,.pure,false⟩
theorem aLd:aI tab 170 aUv:=Oc aJz rfl aG [] trivial fun a=>by kernel_rfl
def kH (p0:Int) (p1:Int):Option Int:=(pL p0).bind fun b0=>(pL p1).bind fun b1=>bif b0 then bif b1 then some 0 else some (-1) else bif b1 then some 1 else bif decide (p0<p1) then some (-1) else bif decide (p1<p0) then some 1 else some 0
def aSl:bK:=⟨aC.cons (aK.int .i64) (aC.one (aK.int .i64)),aK.int .i64,fun a=>kH a.1 a.2,.pure,false⟩
theorem aBH:aI tab 108 aSl:=Oc aIY rfl aG [(170,aUv)] ⟨aLd,trivial⟩ fun a=>by kernel_rfl
def kA (p0:Int) (p1:Int):Option (Int×Int):=some (aA .u64 ((aA .u64 ((aA .u64 ((rG .u64 p0 32)*(rG .u64 p1 32)))+(rG .u64 (aA .u64 ((aA .u64 ((rG .u64 p0 32)*(GY .u64 p1 4294967295)))+(rG .u64 (aA .u64 ((GY .u64 p0 4294967295)*(GY .u64 p1 4294967295))) 32))) 32)))+(rG .u64 (aA .u64 ((GY .u64 (aA .u64 ((aA .u64 ((rG .u64 p0 32)*(GY .u64 p1 4294967295)))+(rG .u64 (aA .u64 ((GY .u64 p0 4294967295)*(GY .u64 p1 4294967295))) 32))) 4294967295)+(aA .u64 ((GY .u64 p0 4294967295)*(rG .u64 p1 32))))) 32)),aA .u64 (p0*p1))
def aSm:bK:=⟨aC.cons (aK.int .u64) (aC.one (aK.int .u64)),aK.tup (aC.cons (aK.int .u64) (aC.one (aK.int .u64))),fun a=>kA a.1 a.2,.pure,false⟩
theorem aBI:aI tab 172 aSm:=Oc aJB rfl aG [] trivial fun a=>by kernel_rfl
def vD (p0:Int) (p1:Int):Option (Bool×Int×Int):=(mZ p0).bind fun n0=>(mZ p1).bind fun n1=>(kA n0 n1).bind fun a2=>some (!((decide (p0<0))==(decide (p1<0))),a2)
def aUw:bK:=⟨aC.cons (aK.int .i64) (aC.one (aK.int .i64)),aK.agg (cH.row EE),fun a=>vD a.1 a.2,.pure,false⟩
theorem aLe:aI tab 110 aUw:=Oc aI0 rfl aG [(106,aK6),(172,aSm)] ⟨T5,aBI,trivial⟩ fun a=>by kernel_rfl
def oJ (p0:Int):Option Bool:=some (p0 !=p0)
def aUx:bK:=⟨aC.one (aK.int .u64),aK.bool,fun a=>oJ a,.pure,false⟩
theorem aLf:aI tab 233 aUx:=Oc aKf rfl aG [] trivial fun a=>by kernel_rfl
def jL (p0:Int) (p1:Int):Option Int:=(oJ p0).bind fun b0=>(oJ p1).bind fun b1=>bif b0 then bif b1 then some 0 else some (-1) else bif b1 then some 1 else bif decide (p0<p1) then some (-1) else bif decide (p1<p0) then some 1 else some 0
def aUy:bK:=⟨aC.cons (aK.int .u64) (aC.one (aK.int .u64)),aK.int .i64,fun a=>jL a.1 a.2,.pure,false⟩
theorem aLg:aI tab 171 aUy:=Oc aJA rfl aG [(233,aUx)] ⟨aLf,trivial⟩ fun a=>by kernel_rfl
def tX (p0:Bool×Int×Int) (p1:Bool×Int×Int):Option Int:=(jL p0.2.1 p1.2.1).bind fun n0=>bif n0 !=0 then some n0 else (jL p0.2.2 p1.2.2).bind fun n1=>some n1
def aUz:bK:=⟨aC.cons (aK.agg (cH.row EE)) (aC.one (aK.agg (cH.row EE))),aK.int .i64,fun a=>tX a.1 a.2,.pure,false⟩
theorem aLh:aI tab 109 aUz:=Oc aIZ rfl aG [(171,aUy)] ⟨aLg,trivial⟩ fun a=>by kernel_rfl
def sY (p0:Int×Int) (p1:Int×Int):Option (Int×Int):=(CE p0 p1).bind fun n0=>bif n0 !=0 then some (0,n0) else bif !((decide (p0.1<0))==(decide (p1.1<0))) then (kH p0.1 p1.1).bind fun n1=>some (n1,0) else (vD p0.1 p1.2).bind fun a2=>(vD p1.1 p0.2).bind fun a3=>(tX a2 a3).bind fun n4=>bif decide (p0.1<0) then some (aA .i64 (0-n4),0) else some (n4,0)
def c50:bK:=⟨aC.cons (aK.agg (cH.row iA)) (aC.one (aK.agg (cH.row iA))),aK.tup (aC.cons (aK.int .i64) (aC.one (aK.int .i64))),fun a=>sY a.1 a.2,.pure,false⟩
theorem aAc:aI tab 50 c50:=Oc aRt rfl aG [(107,aUu),(108,aSl),(110,aUw),(109,aUz)] ⟨aLc,aBH,aLe,aLh,trivial⟩ fun a=>by kernel_rfl
def tY (p0:Int):Option Bool:=some (p0 !=p0)
def aUA:bK:=⟨aC.one (aK.int .i64),aK.bool,fun a=>tY a,.pure,false⟩
theorem aLi:aI tab 260 aUA:=Oc aKy rfl aG [] trivial fun a=>by kernel_rfl
def eW (p0:Int) (p1:Int):Option Int:=(tY p0).bind fun b0=>(tY p1).bind fun b1=>bif b0 then bif b1 then some 0 else some (-1) else bif b1 then some 1 else bif decide (p0<p1) then some (-1) else bif decide (p1<p0) then some 1 else some 0
def WW:bK:=⟨aC.cons (aK.int .i64) (aC.one (aK.int .i64)),aK.int .i64,fun a=>eW a.1 a.2,.pure,false⟩
theorem CF:aI tab 232 WW:=Oc aKe rfl aG [(260,aUA)] ⟨aLi,trivial⟩ fun a=>by kernel_rfl
def AD (s:(Int×(List Int)×Int×Int)):Option (bT (Int×(List Int)×Int×Int) Int):=bif decide (s.2.2.2<s.2.2.1) then (aN s.2.1 s.2.2.2).bind fun n0=>bif n0 !=s.1 then some (.done n0) else some (.next (s.1,s.2.1,s.2.2.1,aA .i64 (s.2.2.2+1))) else some (.done s.1)
def xO (p0:List Int):Option Int:=aH AD (0,p0,Int.ofNat p0.length,0)
def aSn:bK:=⟨aC.one (aK.sl ki),aK.int .i64,fun a=>xO a,.pure,false⟩
theorem aBJ:aI tab 231 aSn:=Oc aKd rfl aG [] trivial fun a=>by kernel_rfl
def cK (p0:Int×Int×Int×Int×Int) (p1:Int×Int×Int×Int×Int):Option Int:=(sY (p0.1,p0.2.1) (p1.1,p1.2.1)).bind fun a0=>(eW p0.2.2.1 p1.2.2.1).bind fun n1=>(xO [a0.1,n1]).bind fun n2=>some n2
def aLj:bK:=⟨aC.cons (aK.agg (cH.row jZ)) (aC.one (aK.agg (cH.row jZ))),aK.int .i64,fun a=>cK a.1 a.2,.pure,false⟩
theorem T8:aI tab 196 aLj:=Oc aJW rfl aG [(50,c50),(232,WW),(231,aSn)] ⟨aAc,CF,aBJ,trivial⟩ fun a=>by kernel_rfl
def kB (s:aUd):Option (bT aUd aUi):=bif decide (s.2.2.1<s.2.1) then (aN s.1 s.2.2.1).bind fun a0=>(fS (a0.1,a0.2.1)).bind fun n1=>bif n1 !=0 then some (.done (.done 8)) else bif decide (a0.2.2.1<0) then some (.done (.done 8)) else bif decide (1000000<a0.2.2.1) then some (.done (.done 8)) else (VW s.2.2.2.2.2.2.2.2 [a0.2.2.1]).bind fun b2=>bif b2 then some (.done (.done 8)) else (VX s.2.2.2.2.2.2.2.2 [a0.2.2.1]).bind fun l3=>bif decide (0<s.2.2.1) then (aN s.2.2.2.2.2.2.1 (aA .i64 (Int.tdiv (aA .i64 (s.2.2.1-1)) 2))).bind fun a4=>(cK a0 a4).bind fun n5=>bif decide (n5<0) then some (.done (.done 8)) else some (.next (s.1,s.2.1,aA .i64 (s.2.2.1+1),s.2.2.2.1,s.2.2.2.2.1,s.2.2.2.2.2.1,s.2.2.2.2.2.2.1,s.2.2.2.2.2.2.2.1,l3)) else some (.next (s.1,s.2.1,aA .i64 (s.2.2.1+1),s.2.2.2.1,s.2.2.2.2.1,s.2.2.2.2.2.1,s.2.2.2.2.2.2.1,s.2.2.2.2.2.2.2.1,l3)) else some (.done (.done 0))
def mV (s:aUh):Option aUi:=bif decide (s.2.2.1<s.2.1) then (aN s.1 s.2.2.1).bind fun n0=>(aN s.2.2.2.2.1 s.2.2.1).bind fun b1=>bif !b1 then bif n0 !=(-1) then some (.done 8) else some (.next (s.1,s.2.1,aA .i64 (s.2.2.1+1),s.2.2.2)) else bif decide (n0<0) then some (.done 8) else bif decide ((Int.ofNat s.2.2.2.2.2.2.1.length)<=n0) then some (.done 8) else (aN s.2.2.2.2.2.2.1 n0).bind fun a2=>(aN s.2.2.2.1 s.2.2.1).bind fun n3=>bif !((a2.2.2.2.1==s.2.2.1)&&(a2.2.2.2.2==n3)) then some (.done 8) else some (.next (s.1,s.2.1,aA .i64 (s.2.2.1+1),s.2.2.2)) else aH kB (s.2.2.2.2.2.2.1,Int.ofNat s.2.2.2.2.2.2.1.length,0,s.2.2.2.1,s.2.2.2.2.1,s.2.2.2.2.2.1,s.2.2.2.2.2.2.1,s.2.2.2.2.2.2.2,[])
def kI (p0:aP):Option Int:=(sX p0.slots).bind fun n0=>bif n0 !=0 then some 8 else bif (Int.ofNat p0.where_.length) !=(Int.ofNat p0.slots.used.length) then some 8 else bif (Int.ofNat p0.heap.length) !=(aA .i64 ((Int.ofNat p0.slots.used.length) - (Int.ofNat p0.slots.free.length))) then some 8 else aH mV (p0.where_,Int.ofNat p0.where_.length,0,p0.slots.uses,p0.slots.used,p0.slots.free,p0.heap,p0.where_)
def aCX:bK:=⟨aC.one (aK.agg dF),aK.int .i64,fun a=>kI a,.pure,false⟩
theorem I7:aI tab 129 aCX:=Oc aJe rfl aG [(195,aLb),(49,c49),(196,aLj)] ⟨T7,CD,T8,trivial⟩ fun a=>by kernel_rfl
def AE (p0:Int×Int×Int) (p1:Int):Option Int:=(eW p0.1 p1).bind fun n0=>some n0
def aUB:bK:=⟨aC.cons (aK.agg (cH.row fG)) (aC.one (aK.int .i64)),aK.int .i64,fun a=>AE a.1 a.2,.pure,false⟩
theorem aLk:aI tab 254 aUB:=Oc aKx rfl aG [(232,WW)] ⟨CF,trivial⟩ fun a=>by kernel_rfl
def jD (s:QQ):Option aEB:=bif decide (s.2.2.2.1<s.2.2.2.2) then (aN s.1 (aA .i64 (rG .u64 (aA .u64 (aA .i64 (s.2.2.2.1+s.2.2.2.2))) 1))).bind fun a0=>(AE a0 s.2.1).bind fun n1=>bif decide (n1<0) then some (.next (s.1,s.2.1,s.2.2.1,aA .i64 ((aA .i64 (rG .u64 (aA .u64 (aA .i64 (s.2.2.2.1+s.2.2.2.2))) 1))+1),s.2.2.2.2)) else some (.next (s.1,s.2.1,s.2.2.1,s.2.2.2.1,aA .i64 (rG .u64 (aA .u64 (aA .i64 (s.2.2.2.1+s.2.2.2.2))) 1))) else bif decide (s.2.2.2.1<s.2.2.1) then (aN s.1 s.2.2.2.1).bind fun a2=>(AE a2 s.2.1).bind fun n3=>some (.done (s.2.2.2.1,n3==0)) else some (.done (s.2.2.2.1,false))
def dD (p0:List (Int×Int×Int)) (p1:Int) (_:Unit):Option (Int×Bool):=aH jD (p0,p1,Int.ofNat p0.length,0,Int.ofNat p0.length)
def WX:bK:=⟨aC.cons (aK.sl fG) (aC.cons (aK.int .i64) (aC.one (aK.clo 254 aC.nil))),aK.tup (aC.cons (aK.int .i64) (aC.one aK.bool)),fun a=>dD a.1 a.2.1 a.2.2,.pure,false⟩
theorem WY:aI tab 253 WX:=Oc T1 rfl aG [(254,aUB)] ⟨aLk,trivial⟩ fun a=>by kernel_rfl
def kJ (p0:Field) (p1:Int):Option (Int×Int×Int):=(dD p0.points p1 ()).bind fun a0=>bif !a0.2 then some (-1,0,0) else (aN p0.points a0.1).bind fun a1=>some a1
def aLl:bK:=⟨aC.cons (aK.agg cM) (aC.one (aK.int .i64)),aK.agg (cH.row fG),fun a=>kJ a.1 a.2,.pure,false⟩
theorem T9:aI tab 198 aLl:=Oc aJY rfl aG [(253,WX)] ⟨WY,trivial⟩ fun a=>by kernel_rfl
def sZ (p0:Int×Int×Int) (p1:Int×Int×Int) (p2:Int×Int):Option Int:=(oI p0).bind fun n0=>(oI p1).bind fun n1=>(fS p2).bind fun n2=>bif (if n2>(if n1>n0 then n1 else n0) then n2 else if n1>n0 then n1 else n0) !=0 then some (if n2>(if n1>n0 then n1 else n0) then n2 else if n1>n0 then n1 else n0) else bif p0.1==p1.1 then some 2 else some 0
def aLm:bK:=⟨aC.cons (aK.agg (cH.row fG)) (aC.cons (aK.agg (cH.row fG)) (aC.one (aK.agg (cH.row iA)))),aK.int .i64,fun a=>sZ a.1 a.2.1 a.2.2,.pure,false⟩
theorem UA:aI tab 225 aLm:=Oc aJ9 rfl aG [(191,aSj),(49,c49)] ⟨aBF,CD,trivial⟩ fun a=>by kernel_rfl
def pD (s:(Int×Int×Int×Int×Int×Int×Int×Int×Int)):Option (bT (Int×Int×Int×Int×Int×Int×Int×Int×Int) (Int×Int)):=bif decide (s.2.2.2.2.1<2) then bif s.2.2.2.2.1==0 then (kA (aA .u64 s.1) (aA .u64 s.2.1)).bind fun a0=>bif decide (s.1<0) then bif decide (s.2.1<0) then (sU s.2.2.2.2.2.2.2.2 a0.2 0).bind fun a1=>some (.next (s.1,s.2.1,s.2.2.1,s.2.2.2.1,aA .i64 (s.2.2.2.2.1+1),s.2.2.2.2.2.1,s.2.2.2.2.2.2.1,aA .i64 ((aA .i64 (s.2.2.2.2.2.2.2.1+(aA .i64 ((aA .i64 ((aA .i64 a0.1) -s.2.1)) -s.1))))+(aA .i64 a1.2)),a1.1)) else (sU s.2.2.2.2.2.2.2.2 a0.2 0).bind fun a2=>some (.next (s.1,s.2.1,s.2.2.1,s.2.2.2.1,aA .i64 (s.2.2.2.2.1+1),s.2.2.2.2.2.1,s.2.2.2.2.2.2.1,aA .i64 ((aA .i64 (s.2.2.2.2.2.2.2.1+(aA .i64 ((aA .i64 a0.1) -s.2.1))))+(aA .i64 a2.2)),a2.1)) else bif decide (s.2.1<0) then (sU s.2.2.2.2.2.2.2.2 a0.2 0).bind fun a3=>some (.next (s.1,s.2.1,s.2.2.1,s.2.2.2.1,aA .i64 (s.2.2.2.2.1+1),s.2.2.2.2.2.1,s.2.2.2.2.2.2.1,aA .i64 ((aA .i64 (s.2.2.2.2.2.2.2.1+(aA .i64 ((aA .i64 a0.1) -s.1))))+(aA .i64 a3.2)),a3.1)) else (sU s.2.2.2.2.2.2.2.2 a0.2 0).bind fun a4=>some (.next (s.1,s.2.1,s.2.2.1,s.2.2.2.1,aA .i64 (s.2.2.2.2.1+1),s.2.2.2.2.2.1,s.2.2.2.2.2.2.1,aA .i64 ((aA .i64 (s.2.2.2.2.2.2.2.1+(aA .i64 a0.1)))+(aA .i64 a4.2)),a4.1)) else bif s.2.2.2.2.1==1 then (kA (aA .u64 s.2.2.1) (aA .u64 s.2.2.2.1)).bind fun a5=>bif decide (s.2.2.1<0) then bif decide (s.2.2.2.1<0) then (sU s.2.2.2.2.2.2.2.2 a5.2 0).bind fun a6=>some (.next (s.1,s.2.1,s.2.2.1,s.2.2.2.1,aA .i64 (s.2.2.2.2.1+1),s.2.2.2.2.2.1,s.2.2.2.2.2.2.1,aA .i64 ((aA .i64 (s.2.2.2.2.2.2.2.1+(aA .i64 ((aA .i64 ((aA .i64 a5.1) -s.2.2.2.1)) -s.2.2.1))))+(aA .i64 a6.2)),a6.1)) else (sU s.2.2.2.2.2.2.2.2 a5.2 0).bind fun a7=>some (.next (s.1,s.2.1,s.2.2.1,s.2.2.2.1,aA .i64 (s.2.2.2.2.1+1),s.2.2.2.2.2.1,s.2.2.2.2.2.2.1,aA .i64 ((aA .i64 (s.2.2.2.2.2.2.2.1+(aA .i64 ((aA .i64 a5.1) -s.2.2.2.1))))+(aA .i64 a7.2)),a7.1)) else bif decide (s.2.2.2.1<0) then (sU s.2.2.2.2.2.2.2.2 a5.2 0).bind fun a8=>some (.next (s.1,s.2.1,s.2.2.1,s.2.2.2.1,aA .i64 (s.2.2.2.2.1+1),s.2.2.2.2.2.1,s.2.2.2.2.2.2.1,aA .i64 ((aA .i64 (s.2.2.2.2.2.2.2.1+(aA .i64 ((aA .i64 a5.1) -s.2.2.1))))+(aA .i64 a8.2)),a8.1)) else (sU s.2.2.2.2.2.2.2.2 a5.2 0).bind fun a9=>some (.next (s.1,s.2.1,s.2.2.1,s.2.2.2.1,aA .i64 (s.2.2.2.2.1+1),s.2.2.2.2.2.1,s.2.2.2.2.2.2.1,aA .i64 ((aA .i64 (s.2.2.2.2.2.2.2.1+(aA .i64 a5.1)))+(aA .i64 a9.2)),a9.1)) else none else some (.done s.2.2.2.2.2.2.2)
def CG (p0:Int×Int×Int×Int):Option (Int×Int):=aH pD (p0.1,p0.2.1,p0.2.2.1,p0.2.2.2,0,0,0,0,0)
def aUC:bK:=⟨aC.one (aK.agg (cH.row aTX)),aK.agg (cH.row kiu),fun a=>CG a,.pure,false⟩
theorem aLn:aI tab 271 aUC:=Oc aKB rfl aG [(172,aSm),(300,bK.add64)] ⟨aBI,aEA,trivial⟩ fun a=>by kernel_rfl
def nU (p0:Int×Int×Int) (p1:Int×Int×Int) (p2:Int×Int):Option Int:=(CG (aA .i64 (p0.2.1-p1.2.1),p2.2,aA .i64 (p0.2.2-p1.2.2),p2.1)).bind fun a0=>bif !((a0.1==0)&&(a0.2==0)) then bif decide (a0.1<0) then some (-1) else some 1 else (kH p0.2.2 p1.2.2).bind fun n1=>(eW p1.1 p0.1).bind fun n2=>(xO [n1,n2]).bind fun n3=>some n3
def aSo:bK:=⟨aC.cons (aK.agg (cH.row fG)) (aC.cons (aK.agg (cH.row fG)) (aC.one (aK.agg (cH.row iA)))),aK.int .i64,fun a=>nU a.1 a.2.1 a.2.2,.pure,false⟩
theorem aBK:aI tab 226 aSo:=Oc aKa rfl aG [(271,aUC),(108,aSl),(232,WW),(231,aSn)] ⟨aLn,aBH,CF,aBJ,trivial⟩ fun a=>by kernel_rfl
def EK (p0:Bool×Int×Int) (p1:Int) (p2:Int):Option ((Int×Int)×Int):=bif decide (0<p0.2.1) then some ((0,0),16) else bif decide (9223372036854775807<p0.2.2) then some ((0,0),16) else bif decide (0<p1) then some ((0,0),16) else bif decide (9223372036854775807<p2) then some ((0,0),16) else bif p0.1 then some ((aA .i64 (0- (aA .i64 p0.2.2)),aA .i64 p2),0) else some ((aA .i64 p0.2.2,aA .i64 p2),0)
def aUD:bK:=⟨aC.cons (aK.agg (cH.row EE)) (aC.cons (aK.int .u64) (aC.one (aK.int .u64))),aK.tup (aC.cons (aK.agg (cH.row iA)) (aC.one (aK.int .i64))),fun a=>EK a.1 a.2.1 a.2.2,.pure,false⟩
theorem aLo:aI tab 273 aUD:=Oc aKD rfl aG [] trivial fun a=>by kernel_rfl
def CH (p0:Int) (p1:Int):Option ((Int×Int)×Int):=bif p1==0 then some ((0,0),26) else (mZ p0).bind fun n0=>(mZ p1).bind fun n1=>(BB n0 n1).bind fun n2=>(mZ p0).bind fun n3=>bif n2==0 then none else (mZ p1).bind fun n4=>bif n2==0 then none else (EK (!((decide (p0<0))==(decide (p1<0))),0,aA .u64 (Int.tdiv n3 n2)) 0 (aA .u64 (Int.tdiv n4 n2))).bind fun a5=>some a5
def aUE:bK:=⟨aC.cons (aK.int .i64) (aC.one (aK.int .i64)),aK.tup (aC.cons (aK.agg (cH.row iA)) (aC.one (aK.int .i64))),fun a=>CH a.1 a.2,.pure,false⟩
theorem aLp:aI tab 229 aUE:=Oc aKc rfl aG [(106,aK6),(105,aSi),(273,aUD)] ⟨T5,aBE,aLo,trivial⟩ fun a=>by kernel_rfl
def EL (p0:Int×Int×Int) (p1:Int×Int×Int):Option ((Int×Int)×Int):=(sZ p0 p1 (0,1)).bind fun n0=>bif n0 !=0 then some ((0,0),n0) else bif p0.2.2==p1.2.2 then some ((0,0),6) else (CH (aA .i64 (p0.2.1-p1.2.1)) (aA .i64 (p1.2.2-p0.2.2))).bind fun a1=>some a1
def aUF:bK:=⟨aC.cons (aK.agg (cH.row fG)) (aC.one (aK.agg (cH.row fG))),aK.tup (aC.cons (aK.agg (cH.row iA)) (aC.one (aK.int .i64))),fun a=>EL a.1 a.2,.pure,false⟩
theorem aLq:aI tab 163 aUF:=Oc aJx rfl aG [(225,aLm),(229,aUE)] ⟨UA,aLp,trivial⟩ fun a=>by kernel_rfl
def wM (p0:Int×Int×Int) (p1:Int×Int×Int) (p2:Int×Int):Option ((Int×Int)×Bool×Int):=(sZ p0 p1 p2).bind fun n0=>bif n0 !=0 then some ((0,0),false,n0) else (nU p1 p0 p2).bind fun n1=>bif decide (0<n1) then some (p2,true,0) else bif decide (p1.2.2<=p0.2.2) then some ((0,0),false,0) else (EL p0 p1).bind fun a2=>some (a2.1,a2.2==0,a2.2)
def aUG:bK:=⟨aC.cons (aK.agg (cH.row fG)) (aC.cons (aK.agg (cH.row fG)) (aC.one (aK.agg (cH.row iA)))),aK.tup (aC.cons (aK.agg (cH.row iA)) (aC.cons aK.bool (aC.one (aK.int .i64)))),fun a=>wM a.1 a.2.1 a.2.2,.pure,false⟩
theorem aLr:aI tab 197 aUG:=Oc aJX rfl aG [(225,aLm),(226,aSo),(163,aUF)] ⟨UA,aBK,aLq,trivial⟩ fun a=>by kernel_rfl
def tB (p0:Field) (p1:Int×Int) (p2:Int×Int):Option ((Int×Int)×Bool×Int):=(kJ p0 p1.2).bind fun a0=>(kJ p0 p1.1).bind fun a1=>(wM a0 a1 p2).bind fun a2=>some a2
def aLs:bK:=⟨aC.cons (aK.agg cM) (aC.cons (aK.agg (cH.row iA)) (aC.one (aK.agg (cH.row iA)))),aK.tup (aC.cons (aK.agg (cH.row iA)) (aC.cons aK.bool (aC.one (aK.int .i64)))),fun a=>tB a.1 a.2.1 a.2.2,.pure,false⟩
theorem UB:aI tab 130 aLs:=Oc aJf rfl aG [(198,aLl),(197,aUG)] ⟨T9,aLr,trivial⟩ fun a=>by kernel_rfl
def cW (s:aT1):Option (bT aT1 aT4):=bif decide (s.2.2.2.1<s.2.2.1) then (aN s.2.1 s.2.2.2.1).bind fun a0=>(tB (Field.mk s.2.2.2.2.2.2.1) a0.2 (s.2.2.2.2.1,s.2.2.2.2.2.1)).bind fun a1=>bif a1.2.2 !=0 then some (.done (.done 8)) else bif !a1.2.1 then some (.next (s.1,s.2.1,s.2.2.1,aA .i64 (s.2.2.2.1+1),s.2.2.2.2)) else bif (Int.ofNat s.1.length)==0 then some (.done (.done 8)) else (aN s.1 0).bind fun a2=>bif a2.1 !=a0.1 then some (.done (.done 8)) else (aN s.1 0).bind fun a3=>bif decide (a3.2.1<0) then some (.done (.done 8)) else bif decide (200<=a3.2.1) then some (.done (.done 8)) else (aN s.2.2.2.2.2.2.2.2.2.2.2.2.2.1 a3.2.1).bind fun n4=>bif decide (n4<0) then some (.done (.done 8)) else (aN s.2.2.2.2.2.2.2.2.2.2.2.2.2.1 a3.2.1).bind fun n5=>(aN s.2.2.2.2.2.2.2.2.2.2.2.2.1 n5).bind fun a6=>bif !((a6.1==a1.1.1)&&((a6.2.1==a1.1.2)&&((a6.2.2.1==a0.1)&&((a6.2.2.2.1==a3.2.1)&&(a6.2.2.2.2==a3.2.2))))) then some (.done (.done 8)) else (jI s.1 1 (Int.ofNat s.1.length)).bind fun l7=>some (.next (l7,s.2.1,s.2.2.1,aA .i64 (s.2.2.2.1+1),s.2.2.2.2)) else bif decide (0<(Int.ofNat s.1.length)) then some (.done (.done 8)) else some (.done (.done 0))
def fM (s:aT3):Option aT4:=match s with |(a,b,d,e,f,g,h,i,j,k,l,m,n,o)=>bif decide (b<a) then (aN o b).bind fun n0=>bif n0 !=0 then some (.done 8) else some (.next (a,aA .i64 (b+1),(d,e,f,g,h,i,j,k,l,m,n,o))) else bif (Int.ofNat m.length) !=200 then some (.done 8) else bif (Int.ofNat l.length) !=(Int.ofNat n.length) then some (.done 8) else aH cW (n,h,Int.ofNat h.length,0,d,e,f,g,h,i,j,k,l,m,n)
def gM (p0:aO):Option Int:=(fS p0.now).bind fun n0=>(gL p0.field).bind fun n1=>(sW p0.certs).bind fun n2=>(kI p0.agenda).bind fun n3=>aH fM (Int.ofNat ([n0,n1,n2,n3].length),0,p0.now.1,p0.now.2,p0.field.points,p0.certs.next_,p0.certs.list,p0.agenda.slots.uses,p0.agenda.slots.used,p0.agenda.slots.free,p0.agenda.heap,p0.agenda.where_,p0.due,[n0,n1,n2,n3])
def c65:bK:=⟨aC.one (aK.agg bJ),aK.int .i64,fun a=>gM a,.pure,false⟩
theorem KP:aI tab 65 c65:=Oc aRD rfl aG [(49,c49),(122,aCW),(128,aK8),(129,aCX),(130,aLs)] ⟨CD,I6,T6,I7,UB,trivial⟩ fun a=>by kernel_rfl
def vX (p0:Int):Option Bool:=bif decide ((-1)<=p0) then some (decide (p0<=65535)) else some false
def aUH:bK:=⟨aC.one (aK.int .i64),aK.bool,fun a=>vX a,.pure,false⟩
theorem aLt:aI tab 133 aUH:=Oc aJg rfl aG [] trivial fun a=>by kernel_rfl
def iX (p0:bF) (p1:Int):Option Int:=bif decide (0<=(aA .i64 (p1- (Int.ofNat p0.wins.length)))) then (aN p0.places (aA .i64 (p1- (Int.ofNat p0.wins.length)))).bind fun n0=>some n0 else (aN p0.wins p1).bind fun n1=>some n1
def aSq:bK:=⟨aC.cons (aK.agg eH) (aC.one (aK.int .i64)),aK.int .i64,fun a=>iX a.1 a.2,.pure,false⟩
theorem aBL:aI tab 126 aSq:=Oc aJc rfl aG [] trivial fun a=>by kernel_rfl
def jE (s:((List Int)×Int×Int×(List Int)×(List Int))):Option (bT ((List Int)×Int×Int×(List Int)×(List Int)) aUc):=bif decide (s.2.2.1<s.2.1) then (aN s.1 s.2.2.1).bind fun n0=>(iX (bF.mk s.2.2.2.1 s.2.2.2.2) (aA .i64 ((aA .i64 (2*s.2.2.1))+1))).bind fun n1=>(iX (bF.mk s.2.2.2.1 s.2.2.2.2) (aA .i64 ((aA .i64 (2*s.2.2.1))+2))).bind fun n2=>bif n0 !=n1 then bif n0 !=n2 then some (.done (.done (.done 8))) else bif decide (n0<0) then bif decide (0<=(if n2>n1 then n2 else n1)) then some (.done (.done (.done 8))) else some (.next (s.1,s.2.1,aA .i64 (s.2.2.1+1),s.2.2.2)) else some (.next (s.1,s.2.1,aA .i64 (s.2.2.1+1),s.2.2.2)) else bif decide (n0<0) then bif decide (0<=(if n2>n1 then n2 else n1)) then some (.done (.done (.done 8))) else some (.next (s.1,s.2.1,aA .i64 (s.2.2.1+1),s.2.2.2)) else some (.next (s.1,s.2.1,aA .i64 (s.2.2.1+1),s.2.2.2)) else some (.done (.done (.done 0)))
def jF (s:aKZ):Option aUc:=bif decide (s.2.2.1<s.2.1) then (aN s.1 s.2.2.1).bind fun n0=>(vX n0).bind fun b1=>bif !b1 then bif !(!(decide (0<=s.2.2.1))) then some (.done (.done 8)) else aH jE (s.2.2.2.2.1,Int.ofNat s.2.2.2.2.1.length,0,s.2.2.2.1,s.2.2.2.2.1) else some (.next (s.1,s.2.1,aA .i64 (s.2.2.1+1),s.2.2.2)) else aH jE (s.2.2.2.2.1,Int.ofNat s.2.2.2.2.1.length,0,s.2.2.2.1,s.2.2.2.2.1)
def oK (s:aKZ):Option aUb:=bif decide (s.2.2.1<s.2.1) then (aN s.1 s.2.2.1).bind fun n0=>bif !(!(uW false s.2.2.2.2.2 n0)) then bif !(!(decide (0<=s.2.2.1))) then some (.done 8) else aH jF (s.2.2.2.1,Int.ofNat s.2.2.2.1.length,0,s.2.2.2.1,s.2.2.2.2.1,sM s.2.2.2.2.2 n0 (decide (0<=n0))) else some (.next (s.1,s.2.1,aA .i64 (s.2.2.1+1),s.2.2.2.1,s.2.2.2.2.1,sM s.2.2.2.2.2 n0 (decide (0<=n0)))) else aH jF (s.2.2.2.1,Int.ofNat s.2.2.2.1.length,0,s.2.2.2)
def pE (p0:bF):Option Int:=bif decide ((Int.ofNat p0.places.length)<1) then some 8 else bif decide (64<(Int.ofNat p0.places.length)) then some 8 else bif (Int.ofNat p0.wins.length) !=(aA .i64 ((Int.ofNat p0.places.length) -1)) then some 8 else aH oK (p0.places,Int.ofNat p0.places.length,0,p0.places,p0.wins,sM [] (-1) false)
def c66:bK:=⟨aC.one (aK.agg eH),aK.int .i64,fun a=>pE a,.pure,false⟩
theorem aSr:aI tab 66 c66:=aI.of aRE (cx:=(mT aG [(133,aUH),(126,aSq)] [] [(131,aEs),(132,aCP),(200,aAa),(134,WR),(201,aCQ),(199,aEt)] [])) rfl (jY.make ⟨aLt,aBL,trivial⟩ trivial ⟨aBp,TV,MO,I1,TZ,aBu,trivial⟩) (fun a=>by kernel_rfl)
def xP (p0:Int) (p1:Int×Int×Int):Option Bool:=some (p0==p1.1)
def c72:bK:=⟨aC.cons (aK.int .i64) (aC.one (aK.agg (cH.row fG))),aK.bool,fun a=>xP a.1 a.2,.pure,false⟩
theorem aSs:aI tab 72 c72:=Oc aRK rfl aG [] trivial fun a=>by kernel_rfl
def cE (s:(bY×(List Int)×Int×Int)):Option (bT (bY×(List Int)×Int×Int) Bool):=bif decide (s.2.2.2<s.2.2.1) then (aN s.2.1 s.2.2.2).bind fun n0=>(aN s.1 s.2.2.2).bind fun a1=>(xP n0 a1).bind fun b2=>bif !b2 then some (.done false) else some (.next (s.1,s.2.1,s.2.2.1,aA .i64 (s.2.2.2+1))) else some (.done true)
def cN (p0:List Int) (p1:List (Int×Int×Int)) (_:Unit):Option Bool:=bif (Int.ofNat p0.length) !=(Int.ofNat p1.length) then some false else aH cE (p1,p0,Int.ofNat p0.length,0)
def aEL:bK:=⟨aC.cons (aK.sl ki) (aC.cons (aK.sl fG) (aC.one (aK.clo 72 aC.nil))),aK.bool,fun a=>cN a.1 a.2.1 a.2.2,.pure,false⟩
theorem aCY:aI tab 71 aEL:=Oc aRJ rfl aG [(72,c72)] ⟨aSs,trivial⟩ fun a=>by kernel_rfl
def AF (p0:Field) (p1:Int×Int):Option Int:=(gL p0).bind fun n0=>bif n0 !=0 then some n0 else (fS p1).bind fun n1=>some n1
def aUI:bK:=⟨aC.cons (aK.agg cM) (aC.one (aK.agg (cH.row iA))),aK.int .i64,fun a=>AF a.1 a.2,.pure,false⟩
theorem aLu:aI tab 185 aUI:=Oc aJN rfl aG [(122,aCW),(49,c49)] ⟨I6,CD,trivial⟩ fun a=>by kernel_rfl
def xQ (p0:Int×Int×Int) (p1:Int):Option Int:=(eW p0.1 p1).bind fun n0=>some n0
def aUJ:bK:=⟨aC.cons (aK.agg (cH.row fG)) (aC.one (aK.int .i64)),aK.int .i64,fun a=>xQ a.1 a.2,.pure,false⟩
theorem aLv:aI tab 293 aUJ:=Oc aKN rfl aG [(232,WW)] ⟨CF,trivial⟩ fun a=>by kernel_rfl
def iY (s:QQ):Option aEB:=bif decide (s.2.2.2.1<s.2.2.2.2) then (aN s.1 (aA .i64 (rG .u64 (aA .u64 (aA .i64 (s.2.2.2.1+s.2.2.2.2))) 1))).bind fun a0=>(xQ a0 s.2.1).bind fun n1=>bif decide (n1<0) then some (.next (s.1,s.2.1,s.2.2.1,aA .i64 ((aA .i64 (rG .u64 (aA .u64 (aA .i64 (s.2.2.2.1+s.2.2.2.2))) 1))+1),s.2.2.2.2)) else some (.next (s.1,s.2.1,s.2.2.1,s.2.2.2.1,aA .i64 (rG .u64 (aA .u64 (aA .i64 (s.2.2.2.1+s.2.2.2.2))) 1))) else bif decide (s.2.2.2.1<s.2.2.1) then (aN s.1 s.2.2.2.1).bind fun a2=>(xQ a2 s.2.1).bind fun n3=>some (.done (s.2.2.2.1,n3==0)) else some (.done (s.2.2.2.1,false))
def dA (p0:List (Int×Int×Int)) (p1:Int) (_:Unit):Option (Int×Bool):=aH iY (p0,p1,Int.ofNat p0.length,0,Int.ofNat p0.length)
def WZ:bK:=⟨aC.cons (aK.sl fG) (aC.cons (aK.int .i64) (aC.one (aK.clo 293 aC.nil))),aK.tup (aC.cons (aK.int .i64) (aC.one aK.bool)),fun a=>dA a.1 a.2.1 a.2.2,.pure,false⟩
theorem W0:aI tab 253 WZ:=Oc T1 rfl aG [(293,aUJ)] ⟨aLv,trivial⟩ fun a=>by kernel_rfl
def kK (p0:Field) (p1:Int):Option (Int×Bool):=(dA p0.points p1 ()).bind fun a0=>some a0
def aSt:bK:=⟨aC.cons (aK.agg cM) (aC.one (aK.int .i64)),aK.tup (aC.cons (aK.int .i64) (aC.one aK.bool)),fun a=>kK a.1 a.2,.pure,false⟩
theorem aBM:aI tab 247 aSt:=Oc aKs rfl aG [(253,WZ)] ⟨W0,trivial⟩ fun a=>by kernel_rfl
def oL (s:((List Int)×Int×Int×bY)):Option (bT ((List Int)×Int×Int×bY) Bool):=bif decide (s.2.2.1<s.2.1) then (aN s.1 s.2.2.1).bind fun n0=>(kK (Field.mk s.2.2.2) n0).bind fun a1=>bif a1.2 then some (.next (s.1,s.2.1,aA .i64 (s.2.2.1+1),s.2.2.2)) else bif !(n0==(-1)) then some (.done (!(decide (0<=s.2.2.1)))) else some (.next (s.1,s.2.1,aA .i64 (s.2.2.1+1),s.2.2.2)) else some (.done (!(decide (0<=(-1)))))
def tZ (p0:Field) (p1:List Int):Option Bool:=aH oL (p1,Int.ofNat p1.length,0,p0.points)
def aUK:bK:=⟨aC.cons (aK.agg cM) (aC.one (aK.sl ki)),aK.bool,fun a=>tZ a.1 a.2,.pure,false⟩
theorem aLw:aI tab 186 aUK:=aI.of aJO (cx:=(mT aG [(247,aSt)] [] [(132,aCP),(200,aAa),(134,WR),(201,aCQ),(246,aH6)] [])) rfl (jY.make ⟨aBM,trivial⟩ trivial ⟨TV,MO,I1,TZ,aKr,trivial⟩) (fun a=>by kernel_rfl)
def rM (p0:Int×Int×Int) (p1:Int×Int×Int) (p2:Int×Int):Option (Bool×Int):=(sZ p0 p1 p2).bind fun n0=>bif n0 !=0 then some (false,n0) else (nU p0 p1 p2).bind fun n1=>some (decide (0<n1),0)
def aUL:bK:=⟨aC.cons (aK.agg (cH.row fG)) (aC.cons (aK.agg (cH.row fG)) (aC.one (aK.agg (cH.row iA)))),aK.tup (aC.cons aK.bool (aC.one (aK.int .i64))),fun a=>rM a.1 a.2.1 a.2.2,.pure,false⟩
theorem aLx:aI tab 159 aUL:=Oc aJv rfl aG [(225,aLm),(226,aSo)] ⟨UA,aBK,trivial⟩ fun a=>by kernel_rfl
def qK (p0:Field) (p1:Int×Int) (p2:Int) (p3:Int):Option Int:=bif decide ((if p3<p2 then p3 else p2)<0) then some (if p3>p2 then p3 else p2) else (kK p0 p2).bind fun a0=>(kK p0 p3).bind fun a1=>(aN p0.points a0.1).bind fun a2=>(aN p0.points a1.1).bind fun a3=>(rM a2 a3 p1).bind fun a4=>bif a4.1 then some p2 else some p3
def aUM:bK:=⟨aC.cons (aK.agg cM) (aC.cons (aK.agg (cH.row iA)) (aC.cons (aK.int .i64) (aC.one (aK.int .i64)))),aK.int .i64,fun a=>qK a.1 a.2.1 a.2.2.1 a.2.2.2,.pure,false⟩
theorem aLy:aI tab 187 aUM:=Oc aJP rfl aG [(247,aSt),(159,aUL)] ⟨aBM,aLx,trivial⟩ fun a=>by kernel_rfl
def KQ (s:aCU):Option (bT aCU (bF×Int)):=bif decide (0<=s.1) then (iX (bF.mk s.2.2.2.2.1 s.2.2.2.2.2) (aA .i64 ((aA .i64 (2*s.1))+1))).bind fun n0=>(iX (bF.mk s.2.2.2.2.1 s.2.2.2.2.2) (aA .i64 ((aA .i64 (2*s.1))+2))).bind fun n1=>(qK (Field.mk s.2.1) (s.2.2.1,s.2.2.2.1) n0 n1).bind fun n2=>(aN s.2.2.2.2.2 s.1).bind fun _=>some (.next (aA .i64 (s.1-1),s.2.1,s.2.2.1,s.2.2.2.1,s.2.2.2.2.1,cR s.2.2.2.2.2 s.1 n2)) else some (.done (bF.mk s.2.2.2.2.1 s.2.2.2.2.2,0))
def jG (s:aCU):Option (bT aCU aUk):=bif decide (0<=s.1) then (iX (bF.mk s.2.2.2.2.1 s.2.2.2.2.2) (aA .i64 ((aA .i64 (2*s.1))+1))).bind fun n0=>(iX (bF.mk s.2.2.2.2.1 s.2.2.2.2.2) (aA .i64 ((aA .i64 (2*s.1))+2))).bind fun n1=>(qK (Field.mk s.2.1) (s.2.2.1,s.2.2.2.1) n0 n1).bind fun n2=>(aN s.2.2.2.2.2 s.1).bind fun _=>some (.next (aA .i64 (s.1-1),s.2.1,s.2.2.1,s.2.2.2.1,s.2.2.2.2.1,cR s.2.2.2.2.2 s.1 n2)) else some (.done (.done (bF.mk s.2.2.2.2.1 s.2.2.2.2.2,0)))
def oM (c0:Int) (c1:(List Int)) (s:aUj):Option aUk:=bif decide (s.2.2.1<s.2.1) then (aN s.1 s.2.2.1).bind fun n0=>bif !(!(uW false s.2.2.2.2.2.2 n0)) then bif !(!(decide (0<=s.2.2.1))) then some (.done (bF.mk [] [],14)) else bif c0 !=0 then some (.done (bF.mk [] [],c0)) else (bX c1).bind fun l1=>bif (aA .i64 ((Int.ofNat c1.length) -1))==(aA .i64 ((Int.ofNat c1.length) -1)) then (IG (aA .i64 ((Int.ofNat c1.length) -1)) (0:Int)).bind fun l2=>aH jG (aA .i64 ((Int.ofNat l2.length) -1),s.2.2.2.1,s.2.2.2.2.1,s.2.2.2.2.2.1,l1,l2) else none else some (.next (s.1,s.2.1,aA .i64 (s.2.2.1+1),s.2.2.2.1,s.2.2.2.2.1,s.2.2.2.2.2.1,sM s.2.2.2.2.2.2 n0 (decide (0<=n0)))) else bif c0 !=0 then some (.done (bF.mk [] [],c0)) else (bX c1).bind fun l3=>bif (aA .i64 ((Int.ofNat c1.length) -1))==(aA .i64 ((Int.ofNat c1.length) -1)) then (IG (aA .i64 ((Int.ofNat c1.length) -1)) (0:Int)).bind fun l4=>aH jG (aA .i64 ((Int.ofNat l4.length) -1),s.2.2.2.1,s.2.2.2.2.1,s.2.2.2.2.2.1,l3,l4) else none
def uA (p0:Field) (p1:Int×Int) (p2:List Int):Option (bF×Int):=(AF p0 p1).bind fun n0=>bif n0 !=0 then bif n0 !=0 then some (bF.mk [] [],n0) else (bX p2).bind fun l1=>bif (aA .i64 ((Int.ofNat p2.length) -1))==(aA .i64 ((Int.ofNat p2.length) -1)) then (IG (aA .i64 ((Int.ofNat p2.length) -1)) (0:Int)).bind fun l2=>aH KQ (aA .i64 ((Int.ofNat l2.length) -1),p0.points,p1.1,p1.2,l1,l2) else none else bif decide ((Int.ofNat p2.length)<1) then some (bF.mk [] [],2) else bif decide (64<(Int.ofNat p2.length)) then some (bF.mk [] [],2) else (tZ p0 p2).bind fun b3=>bif !b3 then some (bF.mk [] [],6) else aH (oM n0 p2) (p2,Int.ofNat p2.length,0,p0.points,p1.1,p1.2,sM [] (-1) false)
def aUN:bK:=⟨aC.cons (aK.agg cM) (aC.cons (aK.agg (cH.row iA)) (aC.one (aK.sl ki))),aK.tup (aC.cons (aK.agg eH) (aC.one (aK.int .i64))),fun a=>uA a.1 a.2.1 a.2.2,.frz,false⟩
theorem aLz:aI tab 115 aUN:=aI.of aI4 (cx:=(mT aG [(185,aUI),(186,aUK),(67,bK.clone ki),(126,aSq),(187,aUM)] [] [(131,aEs),(132,aCP),(200,aAa),(134,WR),(201,aCQ),(199,aEt)] [])) rfl (jY.make ⟨aLu,aLw,rI,aBL,aLy,trivial⟩ trivial ⟨aBp,TV,MO,I1,TZ,aBu,trivial⟩) (fun a=>by kernel_rfl)
def QR (p0:Int) (p1:bF):Option Int:=bif decide (p0<(Int.ofNat p1.wins.length)) then (aN p1.wins p0).bind fun n0=>some n0 else (aN p1.places (aA .i64 (p0- (Int.ofNat p1.wins.length)))).bind fun n1=>some n1
def aUO:bK:=⟨aC.cons (aK.int .i64) (aC.one (aK.ref eH)),aK.int .i64,fun a=>QR a.1 a.2,.pure,false⟩
theorem aLA:aI tab 116 aUO:=Oc aBo rfl aG [] trivial fun a=>by kernel_rfl
def nV (s:((List Int)×Int×Int×(List Int)×(List Int)×qY)):Option (bT ((List Int)×Int×Int×(List Int)×(List Int)×qY) (bF×qY)):=match s with |(a,b,d,e,f,g)=>bif decide (d<b) then (aN a d).bind fun n0=>bif decide ((aA .i64 ((aA .i64 (2*d))+1))<(Int.ofNat f.length)) then (aN f (aA .i64 ((aA .i64 (2*d))+1))).bind fun n1=>bif g.length==g.length then bif decide ((aA .i64 ((aA .i64 (2*d))+2))<(Int.ofNat f.length)) then (aN f (aA .i64 ((aA .i64 (2*d))+2))).bind fun n2=>bif g.length==g.length then bif decide (0<=n1) then bif decide (0<=n2) then (bV g [(aA .i64 ((aA .i64 (n1+n2)) -n0),n0)]).bind fun l3=>some (.next (a,b,aA .i64 (d+1),e,f,l3)) else some (.next (a,b,aA .i64 (d+1),(e,f,g))) else some (.next (a,b,aA .i64 (d+1),(e,f,g))) else none else (aN e (aA .i64 ((aA .i64 ((aA .i64 (2*d))+2)) - (Int.ofNat f.length)))).bind fun n4=>bif g.length==g.length then bif decide (0<=n1) then bif decide (0<=n4) then (bV g [(aA .i64 ((aA .i64 (n1+n4)) -n0),n0)]).bind fun l5=>some (.next (a,b,aA .i64 (d+1),e,f,l5)) else some (.next (a,b,aA .i64 (d+1),(e,f,g))) else some (.next (a,b,aA .i64 (d+1),(e,f,g))) else none else none else (aN e (aA .i64 ((aA .i64 ((aA .i64 (2*d))+1)) - (Int.ofNat f.length)))).bind fun n6=>bif g.length==g.length then bif decide ((aA .i64 ((aA .i64 (2*d))+2))<(Int.ofNat f.length)) then (aN f (aA .i64 ((aA .i64 (2*d))+2))).bind fun n7=>bif g.length==g.length then bif decide (0<=n6) then bif decide (0<=n7) then (bV g [(aA .i64 ((aA .i64 (n6+n7)) -n0),n0)]).bind fun l8=>some (.next (a,b,aA .i64 (d+1),e,f,l8)) else some (.next (a,b,aA .i64 (d+1),(e,f,g))) else some (.next (a,b,aA .i64 (d+1),(e,f,g))) else none else (aN e (aA .i64 ((aA .i64 ((aA .i64 (2*d))+2)) - (Int.ofNat f.length)))).bind fun n9=>bif g.length==g.length then bif decide (0<=n6) then bif decide (0<=n9) then (bV g [(aA .i64 ((aA .i64 (n6+n9)) -n0),n0)]).bind fun l10=>some (.next (a,b,aA .i64 (d+1),e,f,l10)) else some (.next (a,b,aA .i64 (d+1),(e,f,g))) else some (.next (a,b,aA .i64 (d+1),(e,f,g))) else none else none else some (.done (bF.mk e f,g))
def mB (p0:Field) (p1:Int×Int) (p2:List Int):Option (bF×qY):=(uA p0 p1 p2).bind fun a0=>aH nV (a0.1.wins,Int.ofNat a0.1.wins.length,0,a0.1.places,a0.1.wins,[])
def c54:bK:=⟨aC.cons (aK.agg cM) (aC.cons (aK.agg (cH.row iA)) (aC.one (aK.sl ki))),aK.tup (aC.cons (aK.agg eH) (aC.one (aK.sl iA))),fun a=>mB a.1 a.2.1 a.2.2,.frz,false⟩
theorem aAd:aI tab 54 c54:=aI.of aRx (cx:=(mT aG [(115,aUN),(116,aUO)] [] [(116,aGw)] [])) rfl (jY.make ⟨aLz,aLA,trivial⟩ trivial ⟨aBo,trivial⟩) (fun a=>by kernel_rfl)
def kX (s:((List Int)×(List Int)×Int×Int)):Option (bT ((List Int)×(List Int)×Int×Int) Bool):=bif decide (s.2.2.2<s.2.2.1) then (aN s.1 s.2.2.2).bind fun n0=>(aN s.2.1 s.2.2.2).bind fun n1=>bif n0 !=n1 then some (.done false) else some (.next (s.1,s.2.1,s.2.2.1,aA .i64 (s.2.2.2+1))) else some (.done true)
def oN (p0:List Int) (p1:List Int):Option Bool:=bif (Int.ofNat p0.length) !=(Int.ofNat p1.length) then some false else aH kX (p0,p1,Int.ofNat p0.length,0)
def c73:bK:=⟨aC.cons (aK.sl ki) (aC.one (aK.sl ki)),aK.bool,fun a=>oN a.1 a.2,.pure,false⟩
theorem aSu:aI tab 73 c73:=Oc aRL rfl aG [] trivial fun a=>by kernel_rfl
def kL (s:(qY×Int×Int×Int×Int)):Option (bT (qY×Int×Int×Int×Int) Int):=bif decide (s.2.2.1<s.2.1) then (aN s.1 s.2.2.1).bind fun a0=>bif (s.2.2.2.1==a0.1)&&(s.2.2.2.2==a0.2) then some (.done s.2.2.1) else some (.next (s.1,s.2.1,aA .i64 (s.2.2.1+1),s.2.2.2)) else some (.done (-1))
def rN (p0:List (Int×Int)) (p1:Int×Int):Option Int:=aH kL (p0,Int.ofNat p0.length,0,p1)
def aUP:bK:=⟨aC.cons (aK.sl iA) (aC.one (aK.agg (cH.row iA))),aK.int .i64,fun a=>rN a.1 a.2,.pure,false⟩
theorem aLB:aI tab 213 aUP:=Oc aJZ rfl aG [] trivial fun a=>by kernel_rfl
def eM (p0:List (Int×Int)) (p1:Int×Int):Option Bool:=(rN p0 p1).bind fun n0=>some (decide (0<=n0))
def aEM:bK:=⟨aC.cons (aK.sl iA) (aC.one (aK.agg (cH.row iA))),aK.bool,fun a=>eM a.1 a.2,.pure,false⟩
theorem MQ:aI tab 138 aEM:=Oc aJh rfl aG [(213,aUP)] ⟨aLB,trivial⟩ fun a=>by kernel_rfl
def GD (p0:Int×Int×Int) (p1:List (Int×Int)):Option Bool:=(eM p1 p0.2).bind fun b0=>some (!b0)
def aUQ:bK:=⟨aC.cons (aK.agg (cH.row fG)) (aC.one (aK.ref (cH.sl iA))),aK.bool,fun a=>GD a.1 a.2,.pure,false⟩
theorem aLC:aI tab 137 aUQ:=Oc aBq rfl aG [(138,aEM)] ⟨MQ,trivial⟩ fun a=>by kernel_rfl
def nJ (s:(bY×qY×Int×Int)):Option (bT (bY×qY×Int×Int) Int):=bif decide (s.2.2.2<s.2.2.1) then (aN s.1 s.2.2.2).bind fun a0=>(GD a0 s.2.1).bind fun b1=>bif b1 then some (.done s.2.2.2) else some (.next (s.1,s.2.1,s.2.2.1,aA .i64 (s.2.2.2+1))) else some (.done (-1))
def iS (p0:List (Int×Int×Int)) (p1:qY):Option Int:=aH nJ (p0,p1,Int.ofNat p0.length,0)
def W3:bK:=⟨aC.cons (aK.sl fG) (aC.one (aK.clo 137 (aC.one (aK.ref (cH.sl iA))))),aK.int .i64,fun a=>iS a.1 a.2,.pure,false⟩
theorem W4:aI tab 214 W3:=aI.of T0 (cx:=(mT aG [(137,aUQ),(138,aEM)] [] [(137,aGM)] [])) rfl (jY.make ⟨aLC,MQ,trivial⟩ trivial ⟨aBq,trivial⟩) (fun a=>by kernel_rfl)
def gV (p0:List (Int×Int×Int)) (p1:qY):Option Bool:=(iS p0 p1).bind fun n0=>some (decide (0<=n0))
def W5:bK:=⟨aC.cons (aK.sl fG) (aC.one (aK.clo 137 (aC.one (aK.ref (cH.sl iA))))),aK.bool,fun a=>gV a.1 a.2,.pure,false⟩
theorem W6:aI tab 139 W5:=Oc TW rfl aG [(214,W3)] ⟨W4,trivial⟩ fun a=>by kernel_rfl
def EM (p0:aO) (p1:List (Int×Int)):Option Bool:=bif (Int.ofNat p1.length)==(Int.ofNat p0.certs.list.length) then (gV p0.certs.list p1).bind fun b0=>some (!b0) else some false
def c74:bK:=⟨aC.cons (aK.agg bJ) (aC.one (aK.sl iA)),aK.bool,fun a=>EM a.1 a.2,.pure,false⟩
theorem aSv:aI tab 74 c74:=Oc aRM rfl aG [(139,W5)] ⟨W6,trivial⟩ fun a=>by kernel_rfl
def lI (p0:Int):Option Bool:=some (decide (p0<0))
def c69:bK:=⟨aC.one (aK.int .i64),aK.bool,fun a=>lI a,.pure,false⟩
theorem aSw:aI tab 69 c69:=Oc aRH rfl aG [] trivial fun a=>by kernel_rfl
def bB (c0:(List Int)) (s:aEH):Option (bT aEH (bT aEH (Nat×Nat×(List Int)))):=bif decide (s.2.1<(Int.ofNat s.2.2.length)) then (aN s.2.2 s.2.1).bind fun n0=>(lI n0).bind fun b1=>bif !b1 then (aN s.2.2 s.1).bind fun _=>some (.next (aA .i64 (s.1+1),aA .i64 (s.2.1+1),cR s.2.2 s.1 n0)) else some (.next (s.1,aA .i64 (s.2.1+1),s.2.2)) else bif ((decide (0<=s.1))&&(decide (s.1<=(Int.ofNat s.2.2.length))))&&(decide ((Int.ofNat s.2.2.length)<=(Int.ofNat s.2.2.length))) then bif Nat.beq (((Int.ofNat s.2.2.length).toNat) -s.1.toNat) 0 then (jI s.2.2 0 s.1).bind fun _=>bif s.2.2.length==c0.length then some (.done (.done (s.1.toNat,s.2.2.length,s.2.2))) else none else bif (Nat.ble ((0+s.1.toNat)+(((Int.ofNat s.2.2.length).toNat) -s.1.toNat)) s.2.2.length)&&(!false) then (jI (jV s.2.2 (0+s.1.toNat) (List.replicate (((Int.ofNat s.2.2.length).toNat) -s.1.toNat) 0)) 0 s.1).bind fun _=>bif ((jV s.2.2 (0+s.1.toNat) (List.replicate (((Int.ofNat s.2.2.length).toNat) -s.1.toNat) 0)).length)==c0.length then some (.done (.done (s.1.toNat,(jV s.2.2 (0+s.1.toNat) (List.replicate (((Int.ofNat s.2.2.length).toNat) -s.1.toNat) 0)).length,jV s.2.2 (0+s.1.toNat) (List.replicate (((Int.ofNat s.2.2.length).toNat) -s.1.toNat) 0)))) else none else none else none
def bC (c0:(List Int)) (s:aEH):Option (bT aEH (Nat×Nat×(List Int))):=bif decide (s.2.1<s.1) then (aN s.2.2 s.2.1).bind fun n0=>(lI n0).bind fun b1=>bif b1 then bif s.2.2.length==c0.length then bif s.2.1==(-1) then bif s.2.2.length==c0.length then some (.done (s.2.2.length,s.2.2.length,s.2.2)) else none else aH (bB c0) (s.2.1,aA .i64 (s.2.1+1),s.2.2) else none else some (.next (s.1,aA .i64 (s.2.1+1),s.2.2)) else bif s.2.2.length==c0.length then bif s.2.2.length==c0.length then some (.done (s.2.2.length,s.2.2.length,s.2.2)) else none else none
def cI (a:(List Int)):Option (Nat×Nat×(List Int)):=aH (bC a) (Int.ofNat a.length,0,a)
def aNs:eG:=⟨[.l [.i .i64]],[.own 0 false,.clo 69 [] []],[.arr [.i .i64] []],[.n,.n,.l [.i .i64]],.pre 0 0 0 false,[.arr [.i .i64] []],fun a=>cI a⟩
theorem aEN:mU tab 68 aNs:=mU.of aRG (wd:=true) (cx:=(mT aG [(69,c69)] [] [(134,WR)] [])) (jY.make ⟨aSw,trivial⟩ trivial ⟨I1,trivial⟩) (fun a=>by kernel_rfl)
def wN (p0:cC):Option Int:=(gM p0.clock).bind fun n0=>bif n0 !=0 then some 8 else (pE p0.bracket).bind fun n1=>bif n1 !=0 then some 8 else bif (GY .i64 (Int.ofNat p0.bracket.places.length) (aA .i64 ((Int.ofNat p0.bracket.places.length) -1))) !=0 then some 8 else (bX p0.bracket.places).bind fun l2=>(cI l2).bind fun a3=>(FA TD a3.1 a3.2.2).bind fun l4=>bif l4.length==a3.2.2.length then (cN (l4.take a3.1) p0.clock.field.points ()).bind fun b5=>bif !b5 then some 8 else (mB p0.clock.field p0.clock.now p0.bracket.places).bind fun a6=>(oN a6.1.wins p0.bracket.wins).bind fun b7=>bif !b7 then some 8 else (EM p0.clock a6.2).bind fun b8=>bif !b8 then some 8 else some 0 else none
def c23:bK:=⟨aC.one (aK.agg fL),aK.int .i64,fun a=>wN a,.pure,false⟩
theorem aSx:aI tab 23 c23:=aI.of aRe (cx:=(mT aG [(65,c65),(66,c66),(67,bK.clone ki),(71,aEL),(54,c54),(73,c73),(74,c74)] [(68,aNs)] [(70,.srt ZQ)] [])) rfl (jY.make ⟨KP,aSr,rI,aCY,aAd,aSu,aSv,trivial⟩ ⟨aEN,trivial⟩ ⟨aRI,trivial⟩) (fun a=>by kernel_rfl)
def HB (p0:aP):Option ((Int×Int×Int×Int×Int)×Int):=(kI p0).bind fun n0=>bif n0 !=0 then some ((0,0,0,0,0),n0) else bif (Int.ofNat p0.heap.length)==0 then some ((0,0,0,0,0),42) else (aN p0.heap 0).bind fun a1=>some (a1,0)
def aUR:bK:=⟨aC.one (aK.agg dF),aK.tup (aC.cons (aK.agg (cH.row jZ)) (aC.one (aK.int .i64))),fun a=>HB a,.pure,false⟩
theorem aLD:aI tab 173 aUR:=Oc aJC rfl aG [(129,aCX)] ⟨I7,trivial⟩ fun a=>by kernel_rfl
def vE (p0:aO) (p1:Int×Int):Option (Bool×Int):=(gM p0).bind fun n0=>(fS p1).bind fun n1=>bif (if n1>n0 then n1 else n0) !=0 then some (false,if n1>n0 then n1 else n0) else (sY p1 p0.now).bind fun a2=>bif decide (a2.1<0) then some (false,44) else (HB p0.agenda).bind fun a3=>bif a3.2 !=0 then some (false,0) else (sY (a3.1.1,a3.1.2.1) p1).bind fun a4=>some (decide (a4.1<=0),0)
def aSy:bK:=⟨aC.cons (aK.agg bJ) (aC.one (aK.agg (cH.row iA))),aK.tup (aC.cons aK.bool (aC.one (aK.int .i64))),fun a=>vE a.1 a.2,.pure,false⟩
theorem aBN:aI tab 111 aSy:=Oc aI1 rfl aG [(65,c65),(49,c49),(50,c50),(173,aUR)] ⟨KP,CD,aAc,aLD,trivial⟩ fun a=>by kernel_rfl
def vF (p0:Int×Int×Int) (p1:Int):Option Int:=(eW p0.1 p1).bind fun n0=>some n0
def aUS:bK:=⟨aC.cons (aK.agg (cH.row fG)) (aC.one (aK.int .i64)),aK.int .i64,fun a=>vF a.1 a.2,.pure,false⟩
theorem aLE:aI tab 283 aUS:=Oc aKF rfl aG [(232,WW)] ⟨CF,trivial⟩ fun a=>by kernel_rfl
def aS (s:QQ):Option aEB:=bif decide (s.2.2.2.1<s.2.2.2.2) then (aN s.1 (aA .i64 (rG .u64 (aA .u64 (aA .i64 (s.2.2.2.1+s.2.2.2.2))) 1))).bind fun a0=>(vF a0 s.2.1).bind fun n1=>bif decide (n1<0) then some (.next (s.1,s.2.1,s.2.2.1,aA .i64 ((aA .i64 (rG .u64 (aA .u64 (aA .i64 (s.2.2.2.1+s.2.2.2.2))) 1))+1),s.2.2.2.2)) else some (.next (s.1,s.2.1,s.2.2.1,s.2.2.2.1,aA .i64 (rG .u64 (aA .u64 (aA .i64 (s.2.2.2.1+s.2.2.2.2))) 1))) else bif decide (s.2.2.2.1<s.2.2.1) then (aN s.1 s.2.2.2.1).bind fun a2=>(vF a2 s.2.1).bind fun n3=>some (.done (s.2.2.2.1,n3==0)) else some (.done (s.2.2.2.1,false))
def aR (p0:List (Int×Int×Int)) (p1:Int) (_:Unit):Option (Int×Bool):=aH aS (p0,p1,Int.ofNat p0.length,0,Int.ofNat p0.length)
def W7:bK:=⟨aC.cons (aK.sl fG) (aC.cons (aK.int .i64) (aC.one (aK.clo 283 aC.nil))),aK.tup (aC.cons (aK.int .i64) (aC.one aK.bool)),fun a=>aR a.1 a.2.1 a.2.2,.pure,false⟩
theorem W8:aI tab 282 W7:=Oc aKE rfl aG [(283,aUS)] ⟨aLE,trivial⟩ fun a=>by kernel_rfl
def KR (p0:bI) (p1:Int):Option (Int×Int):=(sW p0).bind fun n0=>bif n0 !=0 then some (0,n0) else (aR p0.list p1 ()).bind fun a1=>bif !a1.2 then some (0,6) else some (a1.1,0)
def aUT:bK:=⟨aC.cons (aK.agg gR) (aC.one (aK.int .i64)),aK.tup (aC.cons (aK.int .i64) (aC.one (aK.int .i64))),fun a=>KR a.1 a.2,.pure,false⟩
theorem aLF:aI tab 234 aUT:=Oc aKg rfl aG [(128,aK8),(282,W7)] ⟨T6,W8,trivial⟩ fun a=>by kernel_rfl
def eI (a:aEE):Option (Nat×Nat×bY):=bif (((decide (0<=a.1))&&(decide (a.1<=a.2.1)))&&(decide (a.2.1<=(Int.ofNat a.2.2.length))))&&(decide ((Int.ofNat a.2.2.length)<=(Int.ofNat a.2.2.length))) then bif a.1==a.2.1 then bif a.2.2.length==a.2.2.length then some (a.2.2.length,a.2.2.length,a.2.2) else none else (jI a.2.2 0 a.1).bind fun _=>bif ((decide (0<=a.2.1))&&(decide (a.2.1<=(Int.ofNat a.2.2.length))))&&(decide ((Int.ofNat a.2.2.length)<=(Int.ofNat a.2.2.length))) then bif ((a.2.2.drop (0+a.2.1.toNat)).take (((Int.ofNat a.2.2.length).toNat) -a.2.1.toNat)).isEmpty then bif ((decide (0<=(Int.ofNat a.1.toNat)))&&(decide ((Int.ofNat a.1.toNat)<=(Int.ofNat a.2.2.length))))&&(decide ((Int.ofNat a.2.2.length)<=(Int.ofNat a.2.2.length))) then bif Nat.beq (((Int.ofNat a.2.2.length).toNat) - ((Int.ofNat a.1.toNat).toNat)) 0 then bif a.2.2.length==a.2.2.length then some (a.1.toNat,a.2.2.length,a.2.2) else none else bif (Nat.ble ((0+((Int.ofNat a.1.toNat).toNat))+(((Int.ofNat a.2.2.length).toNat) - ((Int.ofNat a.1.toNat).toNat))) a.2.2.length)&&(!false) then bif ((jV a.2.2 (0+((Int.ofNat a.1.toNat).toNat)) (List.replicate (((Int.ofNat a.2.2.length).toNat) - ((Int.ofNat a.1.toNat).toNat)) (0,0,0))).length)==a.2.2.length then some (a.1.toNat,a.2.2.length,jV a.2.2 (0+((Int.ofNat a.1.toNat).toNat)) (List.replicate (((Int.ofNat a.2.2.length).toNat) - ((Int.ofNat a.1.toNat).toNat)) (0,0,0))) else none else none else none else bif Nat.ble (a.1.toNat+(((a.2.2.drop (0+a.2.1.toNat)).take (((Int.ofNat a.2.2.length).toNat) -a.2.1.toNat)).length)) a.2.2.length then bif (Nat.ble (a.1.toNat+(((a.2.2.drop (0+a.2.1.toNat)).take (((Int.ofNat a.2.2.length).toNat) -a.2.1.toNat)).length)) a.2.2.length)&&(!false) then bif ((decide (0<=(Int.ofNat (a.1.toNat+(((a.2.2.drop (0+a.2.1.toNat)).take (((Int.ofNat a.2.2.length).toNat) -a.2.1.toNat)).length)))))&&(decide ((Int.ofNat (a.1.toNat+(((a.2.2.drop (0+a.2.1.toNat)).take (((Int.ofNat a.2.2.length).toNat) -a.2.1.toNat)).length)))<=(Int.ofNat a.2.2.length))))&&(decide ((Int.ofNat a.2.2.length)<=(Int.ofNat a.2.2.length))) then bif Nat.beq (((Int.ofNat a.2.2.length).toNat) - ((Int.ofNat (a.1.toNat+(((a.2.2.drop (0+a.2.1.toNat)).take (((Int.ofNat a.2.2.length).toNat) -a.2.1.toNat)).length))).toNat)) 0 then bif ((jV a.2.2 a.1.toNat ((a.2.2.drop (0+a.2.1.toNat)).take (((Int.ofNat a.2.2.length).toNat) -a.2.1.toNat))).length)==a.2.2.length then some (a.1.toNat+(((a.2.2.drop (0+a.2.1.toNat)).take (((Int.ofNat a.2.2.length).toNat) -a.2.1.toNat)).length),a.2.2.length,jV a.2.2 a.1.toNat ((a.2.2.drop (0+a.2.1.toNat)).take (((Int.ofNat a.2.2.length).toNat) -a.2.1.toNat))) else none else bif (Nat.ble ((0+((Int.ofNat (a.1.toNat+(((a.2.2.drop (0+a.2.1.toNat)).take (((Int.ofNat a.2.2.length).toNat) -a.2.1.toNat)).length))).toNat))+(((Int.ofNat a.2.2.length).toNat) - ((Int.ofNat (a.1.toNat+(((a.2.2.drop (0+a.2.1.toNat)).take (((Int.ofNat a.2.2.length).toNat) -a.2.1.toNat)).length))).toNat))) ((jV a.2.2 a.1.toNat ((a.2.2.drop (0+a.2.1.toNat)).take (((Int.ofNat a.2.2.length).toNat) -a.2.1.toNat))).length))&&(!false) then bif ((jV (jV a.2.2 a.1.toNat ((a.2.2.drop (0+a.2.1.toNat)).take (((Int.ofNat a.2.2.length).toNat) -a.2.1.toNat))) (0+((Int.ofNat (a.1.toNat+(((a.2.2.drop (0+a.2.1.toNat)).take (((Int.ofNat a.2.2.length).toNat) -a.2.1.toNat)).length))).toNat)) (List.replicate (((Int.ofNat a.2.2.length).toNat) - ((Int.ofNat (a.1.toNat+(((a.2.2.drop (0+a.2.1.toNat)).take (((Int.ofNat a.2.2.length).toNat) -a.2.1.toNat)).length))).toNat)) (0,0,0))).length)==a.2.2.length then some (a.1.toNat+(((a.2.2.drop (0+a.2.1.toNat)).take (((Int.ofNat a.2.2.length).toNat) -a.2.1.toNat)).length),a.2.2.length,jV (jV a.2.2 a.1.toNat ((a.2.2.drop (0+a.2.1.toNat)).take (((Int.ofNat a.2.2.length).toNat) -a.2.1.toNat))) (0+((Int.ofNat (a.1.toNat+(((a.2.2.drop (0+a.2.1.toNat)).take (((Int.ofNat a.2.2.length).toNat) -a.2.1.toNat)).length))).toNat)) (List.replicate (((Int.ofNat a.2.2.length).toNat) - ((Int.ofNat (a.1.toNat+(((a.2.2.drop (0+a.2.1.toNat)).take (((Int.ofNat a.2.2.length).toNat) -a.2.1.toNat)).length))).toNat)) (0,0,0))) else none else none else none else none else none else none else none
def aEO:eG:=⟨[.i,.i,.l [.i .i64,.i .i64,.i .i64]],[.own 0 false,.int .i64 0,.int .i64 0],[.arr [.i .i64,.i .i64,.i .i64] []],[.n,.n,.l [.i .i64,.i .i64,.i .i64]],.pre 0 0 0 false,[.arr [.i .i64,.i .i64,.i .i64] []],fun a=>eI a⟩
theorem aCZ:mU tab 235 aEO:=mU.of aKh (wd:=true) (cx:=(mT aG [] [] [] [])) (jY.make trivial trivial trivial) (fun a=>by kernel_rfl)
def zA (p0:bI) (p1:Int):Option (bI×(Int×Int)×Int):=(KR p0 p1).bind fun a0=>bif a0.2 !=0 then some (bI.mk 0 [],(0,0),a0.2) else (bX p0.list).bind fun l1=>(eI (a0.1,aA .i64 (a0.1+1),l1)).bind fun a2=>(aN p0.list a0.1).bind fun a3=>some (bI.mk p0.next_ (a2.2.2.take a2.1),a3.2,0)
def aUU:bK:=⟨aC.cons (aK.agg gR) (aC.one (aK.int .i64)),aK.tup (aC.cons (aK.agg gR) (aC.cons (aK.agg (cH.row iA)) (aC.one (aK.int .i64)))),fun a=>zA a.1 a.2,.frz,false⟩
theorem aLG:aI tab 174 aUU:=aI.of aJD (cx:=(mT aG [(234,aUT),(181,bK.clone fG)] [(235,aEO)] [] [])) rfl (jY.make ⟨aLF,BA,trivial⟩ ⟨aCZ,trivial⟩ trivial) (fun a=>by kernel_rfl)
def kO (p0:aO):Option aO:=(bX p0.field.points).bind fun l0=>(bX p0.certs.list).bind fun l1=>(bX p0.due).bind fun l2=>(bX p0.agenda.heap).bind fun l3=>(bX p0.agenda.where_).bind fun l4=>(bX p0.agenda.slots.uses).bind fun l5=>(bX p0.agenda.slots.used).bind fun l6=>(bX p0.agenda.slots.free).bind fun l7=>some (aO.mk p0.now (Field.mk l0) (bI.mk p0.certs.next_ l1) (aP.mk (aZ.mk l5 l6 l7) l3 l4) l2)
def aEP:bK:=⟨aC.one (aK.agg bJ),aK.agg bJ,fun a=>kO a,.own,true⟩
def W9:bK:=⟨aC.one (aK.agg bJ),aK.agg bJ,fun a=>kO a,.frz,false⟩
theorem MR:aI tab 114 aEP:=Oc aBn rfl aG [(124,bK.clone fG),(181,bK.clone fG),(182,bK.clone fG),(183,bK.clone jZ),(67,bK.clone ki),(184,bK.clone kb)] ⟨EF,BA,I2,xM,rI,xL,trivial⟩ fun a=>by kernel_rfl
theorem I8:aI tab 114 W9:=Oc aBn rfl aG [(124,bK.clone fG),(181,bK.clone fG),(182,bK.clone fG),(183,bK.clone jZ),(67,bK.clone ki),(184,bK.clone kb)] ⟨EF,BA,I2,xM,rI,xL,trivial⟩ fun a=>by kernel_rfl
def AG (p0:Int×Int×Int) (p1:Int):Option Int:=(eW p0.1 p1).bind fun n0=>some n0
def aUV:bK:=⟨aC.cons (aK.agg (cH.row fG)) (aC.one (aK.int .i64)),aK.int .i64,fun a=>AG a.1 a.2,.pure,false⟩
theorem aLH:aI tab 237 aUV:=Oc aKj rfl aG [(232,WW)] ⟨CF,trivial⟩ fun a=>by kernel_rfl
def jW (s:QQ):Option aEB:=bif decide (s.2.2.2.1<s.2.2.2.2) then (aN s.1 (aA .i64 (rG .u64 (aA .u64 (aA .i64 (s.2.2.2.1+s.2.2.2.2))) 1))).bind fun a0=>(AG a0 s.2.1).bind fun n1=>bif decide (n1<0) then some (.next (s.1,s.2.1,s.2.2.1,aA .i64 ((aA .i64 (rG .u64 (aA .u64 (aA .i64 (s.2.2.2.1+s.2.2.2.2))) 1))+1),s.2.2.2.2)) else some (.next (s.1,s.2.1,s.2.2.1,s.2.2.2.1,aA .i64 (rG .u64 (aA .u64 (aA .i64 (s.2.2.2.1+s.2.2.2.2))) 1))) else bif decide (s.2.2.2.1<s.2.2.1) then (aN s.1 s.2.2.2.1).bind fun a2=>(AG a2 s.2.1).bind fun n3=>some (.done (s.2.2.2.1,n3==0)) else some (.done (s.2.2.2.1,false))
def dI (p0:List (Int×Int×Int)) (p1:Int) (_:Unit):Option (Int×Bool):=aH jW (p0,p1,Int.ofNat p0.length,0,Int.ofNat p0.length)
def XA:bK:=⟨aC.cons (aK.sl fG) (aC.cons (aK.int .i64) (aC.one (aK.clo 237 aC.nil))),aK.tup (aC.cons (aK.int .i64) (aC.one aK.bool)),fun a=>dI a.1 a.2.1 a.2.2,.pure,false⟩
theorem XB:aI tab 236 XA:=Oc aKi rfl aG [(237,aUV)] ⟨aLH,trivial⟩ fun a=>by kernel_rfl
def qL (p0:List (Int×Int×Int)) (p1:Int):Option (Int×Bool):=(dI p0 p1 ()).bind fun a0=>some a0
def aSz:bK:=⟨aC.cons (aK.sl fG) (aC.one (aK.int .i64)),aK.tup (aC.cons (aK.int .i64) (aC.one aK.bool)),fun a=>qL a.1 a.2,.pure,false⟩
theorem aBO:aI tab 175 aSz:=Oc aJE rfl aG [(236,XA)] ⟨XB,trivial⟩ fun a=>by kernel_rfl
def EN (p0:aZ) (p1:Int×Int):Option (Bool×Int):=(sX p0).bind fun n0=>bif n0 !=0 then some (false,n0) else bif decide (0<=p1.1) then bif decide (p1.1<(Int.ofNat p0.used.length)) then (aN p0.used p1.1).bind fun b1=>bif b1 then (aN p0.uses p1.1).bind fun n2=>some (n2==p1.2,0) else some (false,0) else some (false,0) else some (false,0)
def aSA:bK:=⟨aC.cons (aK.agg gQ) (aC.one (aK.agg (cH.row iA))),aK.tup (aC.cons aK.bool (aC.one (aK.int .i64))),fun a=>EN a.1 a.2,.pure,false⟩
theorem aBP:aI tab 284 aSA:=Oc aKG rfl aG [(195,aLb)] ⟨T7,trivial⟩ fun a=>by kernel_rfl
def rO (p0:aP) (p1:Int×Int):Option (Int×Int):=(kI p0).bind fun n0=>bif n0 !=0 then some (0,n0) else (EN p0.slots p1).bind fun a1=>bif a1.2 !=0 then some (0,6) else bif !a1.1 then some (0,6) else (aN p0.where_ p1.1).bind fun n2=>some (n2,0)
def aSB:bK:=⟨aC.cons (aK.agg dF) (aC.one (aK.agg (cH.row iA))),aK.tup (aC.cons (aK.int .i64) (aC.one (aK.int .i64))),fun a=>rO a.1 a.2,.pure,false⟩
theorem aBQ:aI tab 238 aSB:=Oc aKk rfl aG [(129,aCX),(284,aSA)] ⟨I7,aBP,trivial⟩ fun a=>by kernel_rfl
def vY (p0:List Int) (p1:Int):Option (List Int):=(bX p0).bind fun l0=>(bV l0 [p1]).bind fun l1=>some l1
def aUW:bK:=⟨aC.cons (aK.sl ki) (aC.one (aK.int .i64)),aK.sl ki,fun a=>vY a.1 a.2,.frz,false⟩
theorem aLI:aI tab 305 aUW:=Oc aKR rfl aG [(315,bK.clone ki)] ⟨WT,trivial⟩ fun a=>by kernel_rfl
def FH (p0:aZ) (p1:Int×Int):Option (aZ×Int):=(EN p0 p1).bind fun a0=>bif a0.2 !=0 then some (aZ.mk [] [] [],a0.2) else bif !a0.1 then some (aZ.mk [] [] [],6) else (bX p0.uses).bind fun l1=>(bX p0.used).bind fun l2=>(vY p0.free p1.1).bind fun l3=>(aN l2 p1.1).bind fun _=>some (aZ.mk l1 (cR l2 p1.1 false) l3,0)
def aUX:bK:=⟨aC.cons (aK.agg gQ) (aC.one (aK.agg (cH.row iA))),aK.tup (aC.cons (aK.agg gQ) (aC.one (aK.int .i64))),fun a=>FH a.1 a.2,.frz,false⟩
theorem aLJ:aI tab 285 aUX:=aI.of aKH (cx:=(mT aG [(284,aSA),(67,bK.clone ki),(184,bK.clone kb),(305,aUW)] [] [(304,aEu)] [])) rfl (jY.make ⟨aBP,rI,xL,aLI,trivial⟩ trivial ⟨aBx,trivial⟩) (fun a=>by kernel_rfl)
def bZ (a:aK0):Option QP:=(aN (a.2.2.2.2.2.2.2.2.2.2.2.1.take a.2.2.2.1) a.2.2.2.2.2.1).bind fun _=>(aN a.2.2.2.2.2.2.2.2.2.2.2.2 a.2.2.2.2.2.2.2.2.2.1).bind fun _=>bif ((cR a.2.2.2.2.2.2.2.2.2.2.2.1 a.2.2.2.2.2.1 (a.2.2.2.2.2.2.1,a.2.2.2.2.2.2.2.1,a.2.2.2.2.2.2.2.2.1,a.2.2.2.2.2.2.2.2.2.1,a.2.2.2.2.2.2.2.2.2.2.1)).length)==a.2.2.2.2.2.2.2.2.2.2.2.1.length then bif ((cR a.2.2.2.2.2.2.2.2.2.2.2.2 a.2.2.2.2.2.2.2.2.2.1 a.2.2.2.2.2.1).length)==a.2.2.2.2.2.2.2.2.2.2.2.2.length then some (cR a.2.2.2.2.2.2.2.2.2.2.2.1 a.2.2.2.2.2.1 (a.2.2.2.2.2.2.1,a.2.2.2.2.2.2.2.1,a.2.2.2.2.2.2.2.2.1,a.2.2.2.2.2.2.2.2.2.1,a.2.2.2.2.2.2.2.2.2.2.1),cR a.2.2.2.2.2.2.2.2.2.2.2.2 a.2.2.2.2.2.2.2.2.2.1 a.2.2.2.2.2.1) else none else none
def aAe:eG:=⟨[.l [.i .i64],.l [.b],.l [.i .i64],.n,.n,.i,.i,.i,.i,.i,.i,.l [.i .i64,.i .i64,.i .i64,.i .i64,.i .i64],.l [.i .i64]],[.agg [.sl [.i .i64] [],.sl [.b] [],.sl [.i .i64] [],.pre 0 0 0 false,.own 1 false],.int .i64 0,.agg [.int .i64 0,.int .i64 0,.int .i64 0,.int .i64 0,.int .i64 0]],[.arr [.i .i64,.i .i64,.i .i64,.i .i64,.i .i64] [],.arr [.i .i64] []],[.l [.i .i64,.i .i64,.i .i64,.i .i64,.i .i64],.l [.i .i64]],.tup [],[.arr [.i .i64,.i .i64,.i .i64,.i .i64,.i .i64] [],.arr [.i .i64] []],fun a=>bZ a⟩
theorem R0:mU tab 306 aAe:=mU.of aBy (wd:=false) (cx:=(mT aG [] [] [] [])) (jY.make trivial trivial trivial) (fun a=>by kernel_rfl)
def gF (c0:aK0) (s:aUe):Option (bT aUe aT8):=match s with |(a,b,d,e,f,g,h,i,j,k,l,m,n,o)=>bif decide (b<(Int.ofNat i)) then bif decide ((aA .i64 (b+1))<(Int.ofNat i)) then (aN (d.take i) (aA .i64 (b+1))).bind fun a0=>(aN (d.take i) b).bind fun a1=>(cK a0 a1).bind fun n2=>bif decide (n2<0) then (aN (d.take i) (aA .i64 (b+1))).bind fun a3=>(cK a3 (k,l,m,n,o)).bind fun n4=>bif decide (0<=n4) then (bZ (f,g,h,i,j,a,k,l,m,n,o,d,e)).bind fun a5=>bif a5.1.length==c0.2.2.2.2.2.2.2.2.2.2.2.1.length then bif a5.2.length==c0.2.2.2.2.2.2.2.2.2.2.2.2.length then some (.done (.done a5)) else none else none else (aN (d.take i) (aA .i64 (b+1))).bind fun a6=>(bZ (f,g,h,i,j,a,a6.1,a6.2.1,a6.2.2.1,a6.2.2.2.1,a6.2.2.2.2,d,e)).bind fun a7=>some (.next (aA .i64 (b+1),aA .i64 ((aA .i64 (2*(aA .i64 (b+1))))+1),a7.1,a7.2,(f,g,h,i,j,k,l,m,n,o))) else (aN (d.take i) b).bind fun a8=>(cK a8 (k,l,m,n,o)).bind fun n9=>bif decide (0<=n9) then (bZ (f,g,h,i,j,a,k,l,m,n,o,d,e)).bind fun a10=>bif a10.1.length==c0.2.2.2.2.2.2.2.2.2.2.2.1.length then bif a10.2.length==c0.2.2.2.2.2.2.2.2.2.2.2.2.length then some (.done (.done a10)) else none else none else (aN (d.take i) b).bind fun a11=>(bZ (f,g,h,i,j,a,a11.1,a11.2.1,a11.2.2.1,a11.2.2.2.1,a11.2.2.2.2,d,e)).bind fun a12=>some (.next (b,aA .i64 ((aA .i64 (2*b))+1),a12.1,a12.2,(f,g,h,i,j,k,l,m,n,o))) else (aN (d.take i) b).bind fun a13=>(cK a13 (k,l,m,n,o)).bind fun n14=>bif decide (0<=n14) then (bZ (f,g,h,i,j,a,k,l,m,n,o,d,e)).bind fun a15=>bif a15.1.length==c0.2.2.2.2.2.2.2.2.2.2.2.1.length then bif a15.2.length==c0.2.2.2.2.2.2.2.2.2.2.2.2.length then some (.done (.done a15)) else none else none else (aN (d.take i) b).bind fun a16=>(bZ (f,g,h,i,j,a,a16.1,a16.2.1,a16.2.2.1,a16.2.2.2.1,a16.2.2.2.2,d,e)).bind fun a17=>some (.next (b,aA .i64 ((aA .i64 (2*b))+1),a17.1,a17.2,(f,g,h,i,j,k,l,m,n,o))) else (bZ (f,g,h,i,j,a,k,l,m,n,o,d,e)).bind fun a18=>bif a18.1.length==c0.2.2.2.2.2.2.2.2.2.2.2.1.length then bif a18.2.length==c0.2.2.2.2.2.2.2.2.2.2.2.2.length then some (.done (.done a18)) else none else none
def eY (c0:aK0) (s:aT7):Option aT8:=bif decide (0<s.1) then (aN (s.2.1.take s.2.2.2.2.2.2.1) (aA .i64 (Int.tdiv (aA .i64 (s.1-1)) 2))).bind fun a0=>(cK s.2.2.2.2.2.2.2.2 a0).bind fun n1=>bif decide (n1<0) then (aN (s.2.1.take s.2.2.2.2.2.2.1) (aA .i64 (Int.tdiv (aA .i64 (s.1-1)) 2))).bind fun a2=>(bZ (s.2.2.2.1,s.2.2.2.2.1,s.2.2.2.2.2.1,s.2.2.2.2.2.2.1,s.2.2.2.2.2.2.2.1,s.1,a2.1,a2.2.1,a2.2.2.1,a2.2.2.2.1,a2.2.2.2.2,s.2.1,s.2.2.1)).bind fun a3=>some (.next (aA .i64 (Int.tdiv (aA .i64 (s.1-1)) 2),a3.1,a3.2,s.2.2.2)) else aH (gF c0) (s.1,aA .i64 ((aA .i64 (2*s.1))+1),s.2) else aH (gF c0) (s.1,aA .i64 ((aA .i64 (2*s.1))+1),s.2)
def kY (a:aK0):Option QP:=aH (eY a) (a.2.2.2.2.2.1,a.2.2.2.2.2.2.2.2.2.2.2.1,a.2.2.2.2.2.2.2.2.2.2.2.2,a.1,a.2.1,a.2.2.1,a.2.2.2.1,a.2.2.2.2.1,a.2.2.2.2.2.2.1,a.2.2.2.2.2.2.2.1,a.2.2.2.2.2.2.2.2.1,a.2.2.2.2.2.2.2.2.2.1,a.2.2.2.2.2.2.2.2.2.2.1)
def UC:eG:=⟨[.l [.i .i64],.l [.b],.l [.i .i64],.n,.n,.i,.i,.i,.i,.i,.i,.l [.i .i64,.i .i64,.i .i64,.i .i64,.i .i64],.l [.i .i64]],[.agg [.sl [.i .i64] [],.sl [.b] [],.sl [.i .i64] [],.pre 0 0 0 false,.own 1 false],.int .i64 0,.agg [.int .i64 0,.int .i64 0,.int .i64 0,.int .i64 0,.int .i64 0]],[.arr [.i .i64,.i .i64,.i .i64,.i .i64,.i .i64] [],.arr [.i .i64] []],[.l [.i .i64,.i .i64,.i .i64,.i .i64,.i .i64],.l [.i .i64]],.tup [],[.arr [.i .i64,.i .i64,.i .i64,.i .i64,.i .i64] [],.arr [.i .i64] []],fun a=>kY a⟩
theorem KS:mU tab 287 UC:=mU.of aBw (wd:=false) (cx:=(mT aG [(196,aLj)] [(306,aAe)] [] [])) (jY.make ⟨T8,trivial⟩ ⟨R0,trivial⟩ trivial) (fun a=>by kernel_rfl)
def uB (p0:aP) (p1:Int):Option (aP×(Int×Int×Int×Int×Int)×Int):=(aN p0.heap p1).bind fun a0=>(FH p0.slots a0.2.2.2).bind fun a1=>bif a1.2 !=0 then some (aP.mk (aZ.mk [] [] []) [] [],(0,0,0,0,0),a1.2) else (bX p0.heap).bind fun l2=>(bX p0.where_).bind fun l3=>(aN l2 (aA .i64 ((Int.ofNat l2.length) -1))).bind fun a4=>(jI l2 0 (aA .i64 ((Int.ofNat l2.length) -1))).bind fun _=>(aN l3 a0.2.2.2.1).bind fun _=>bif decide (p1<(aA .i64 ((Int.ofNat l2.length) -1))) then (kY (a1.1.uses,a1.1.used,a1.1.free,(aA .i64 ((Int.ofNat l2.length) -1)).toNat,l2.length,p1,a4.1,a4.2.1,a4.2.2.1,a4.2.2.2.1,a4.2.2.2.2,l2,cR l3 a0.2.2.2.1 (-1))).bind fun a7=>some (aP.mk a1.1 (a7.1.take ((aA .i64 ((Int.ofNat l2.length) -1)).toNat)) a7.2,a0,0) else some (aP.mk a1.1 (l2.take ((aA .i64 ((Int.ofNat l2.length) -1)).toNat)) (cR l3 a0.2.2.2.1 (-1)),a0,0)
def aUY:bK:=⟨aC.cons (aK.agg dF) (aC.one (aK.int .i64)),aK.tup (aC.cons (aK.agg dF) (aC.cons (aK.agg (cH.row jZ)) (aC.one (aK.int .i64)))),fun a=>uB a.1 a.2,.frz,false⟩
theorem aLK:aI tab 239 aUY:=aI.of aKl (cx:=(mT aG [(285,aUX),(183,bK.clone jZ),(67,bK.clone ki)] [(287,UC)] [(286,aCR)] [])) rfl (jY.make ⟨aLJ,xM,rI,trivial⟩ ⟨KS,trivial⟩ ⟨T2,trivial⟩) (fun a=>by kernel_rfl)
def nA (p0:aP) (p1:Int×Int):Option (aP×(Int×Int×Int×Int×Int)×Int):=(rO p0 p1).bind fun a0=>bif a0.2 !=0 then some (aP.mk (aZ.mk [] [] []) [] [],(0,0,0,0,0),a0.2) else (uB p0 a0.1).bind fun a1=>some a1
def aSC:bK:=⟨aC.cons (aK.agg dF) (aC.one (aK.agg (cH.row iA))),aK.tup (aC.cons (aK.agg dF) (aC.cons (aK.agg (cH.row jZ)) (aC.one (aK.int .i64)))),fun a=>nA a.1 a.2,.frz,false⟩
theorem aBR:aI tab 176 aSC:=Oc aJF rfl aG [(238,aSB),(239,aUY)] ⟨aBQ,aLK,trivial⟩ fun a=>by kernel_rfl
def mI (a:aEE):Option (Nat×Nat×bY):= eI a
def aEQ:eG:=⟨[.i,.i,.l [.i .i64,.i .i64,.i .i64]],[.own 0 false,.int .i64 0,.int .i64 0],[.arr [.i .i64,.i .i64,.i .i64] []],[.n,.n,.l [.i .i64,.i .i64,.i .i64]],.pre 0 0 0 false,[.arr [.i .i64,.i .i64,.i .i64] []],fun a=>mI a⟩
theorem aC0:mU tab 177 aEQ:=mU.of aJG (wd:=true) (cx:=(mT aG [] [] [] [])) (jY.make trivial trivial trivial) (fun a=>by kernel_rfl)
def mJ (p0:aO) (p1:Int):Option (aO×(Int×Int)×Int):=(zA p0.certs p1).bind fun a0=>bif a0.2.2 !=0 then some (gO,a0.2) else (kO p0).bind fun r1=>(qL p0.due p1).bind fun a2=>bif a2.2 then (aN p0.due a2.1).bind fun a3=>(nA p0.agenda a3.2).bind fun a4=>bif a4.2.2 !=0 then some (gO,a0.2.1,a4.2.2) else (mI (a2.1,aA .i64 (a2.1+1),r1.due)).bind fun a5=>some (aO.mk r1.now r1.field a0.1 a4.1 (a5.2.2.take a5.1),a0.2.1,0) else some (aO.mk r1.now r1.field a0.1 r1.agenda r1.due,a0.2.1,0)
def aSD:bK:=⟨aC.cons (aK.agg bJ) (aC.one (aK.int .i64)),aK.tup (aC.cons (aK.agg bJ) (aC.cons (aK.agg (cH.row iA)) (aC.one (aK.int .i64)))),fun a=>mJ a.1 a.2,.frz,false⟩
theorem aBS:aI tab 112 aSD:=aI.of aI2 (cx:=(mT aG [(174,aUU),(114,aEP),(114,W9),(175,aSz),(176,aSC)] [(177,aEQ)] [] [])) rfl (jY.make ⟨aLG,MR,I8,aBO,aBR,trivial⟩ ⟨aC0,trivial⟩ trivial) (fun a=>by kernel_rfl)
def tC (p0:aO) (p1:Int×Int):Option (aO×(Int×Int×Int×Int×Int)×(Int×Int)×Int):=(vE p0 p1).bind fun a0=>bif a0.2==0 then bif !a0.1 then some (gO,(0,0,0,0,0),(0,0),6) else bif a0.2 !=0 then some (gO,(0,0,0,0,0),(0,0),a0.2) else (aN p0.agenda.heap 0).bind fun a1=>(mJ p0 a1.2.2.1).bind fun a2=>bif a2.2.2 !=0 then some (gO,(0,0,0,0,0),(0,0),a2.2.2) else some (aO.mk (a1.1,a1.2.1) a2.1.field a2.1.certs a2.1.agenda a2.1.due,a1,a2.2.1,0) else bif a0.2 !=0 then some (gO,(0,0,0,0,0),(0,0),a0.2) else (aN p0.agenda.heap 0).bind fun a3=>(mJ p0 a3.2.2.1).bind fun a4=>bif a4.2.2 !=0 then some (gO,(0,0,0,0,0),(0,0),a4.2.2) else some (aO.mk (a3.1,a3.2.1) a4.1.field a4.1.certs a4.1.agenda a4.1.due,a3,a4.2.1,0)
def c51:bK:=⟨aC.cons (aK.agg bJ) (aC.one (aK.agg (cH.row iA))),aK.tup (aC.cons (aK.agg bJ) (aC.cons (aK.agg (cH.row jZ)) (aC.cons (aK.agg (cH.row iA)) (aC.one (aK.int .i64))))),fun a=>tC a.1 a.2,.frz,false⟩
theorem aSE:aI tab 51 c51:=Oc aRu rfl aG [(111,aSy),(112,aSD)] ⟨aBN,aBS,trivial⟩ fun a=>by kernel_rfl
def CI (p0:Int×Int×Int) (p1:Int):Option Int:=(eW p0.1 p1).bind fun n0=>some n0
def aUZ:bK:=⟨aC.cons (aK.agg (cH.row fG)) (aC.one (aK.int .i64)),aK.int .i64,fun a=>CI a.1 a.2,.pure,false⟩
theorem aLL:aI tab 307 aUZ:=Oc aKS rfl aG [(232,WW)] ⟨CF,trivial⟩ fun a=>by kernel_rfl
def jM (s:QQ):Option aEB:=bif decide (s.2.2.2.1<s.2.2.2.2) then (aN s.1 (aA .i64 (rG .u64 (aA .u64 (aA .i64 (s.2.2.2.1+s.2.2.2.2))) 1))).bind fun a0=>(CI a0 s.2.1).bind fun n1=>bif decide (n1<0) then some (.next (s.1,s.2.1,s.2.2.1,aA .i64 ((aA .i64 (rG .u64 (aA .u64 (aA .i64 (s.2.2.2.1+s.2.2.2.2))) 1))+1),s.2.2.2.2)) else some (.next (s.1,s.2.1,s.2.2.1,s.2.2.2.1,aA .i64 (rG .u64 (aA .u64 (aA .i64 (s.2.2.2.1+s.2.2.2.2))) 1))) else bif decide (s.2.2.2.1<s.2.2.1) then (aN s.1 s.2.2.2.1).bind fun a2=>(CI a2 s.2.1).bind fun n3=>some (.done (s.2.2.2.1,n3==0)) else some (.done (s.2.2.2.1,false))
def dG (p0:List (Int×Int×Int)) (p1:Int) (_:Unit):Option (Int×Bool):=aH jM (p0,p1,Int.ofNat p0.length,0,Int.ofNat p0.length)
def XC:bK:=⟨aC.cons (aK.sl fG) (aC.cons (aK.int .i64) (aC.one (aK.clo 307 aC.nil))),aK.tup (aC.cons (aK.int .i64) (aC.one aK.bool)),fun a=>dG a.1 a.2.1 a.2.2,.pure,false⟩
theorem XD:aI tab 253 XC:=Oc T1 rfl aG [(307,aUZ)] ⟨aLL,trivial⟩ fun a=>by kernel_rfl
def HC (p0:Field) (p1:Int):Option (Int×Bool):=(dG p0.points p1 ()).bind fun a0=>some a0
def aU0:bK:=⟨aC.cons (aK.agg cM) (aC.one (aK.int .i64)),aK.tup (aC.cons (aK.int .i64) (aC.one aK.bool)),fun a=>HC a.1 a.2,.pure,false⟩
theorem aLM:aI tab 288 aU0:=Oc aKI rfl aG [(253,XC)] ⟨XD,trivial⟩ fun a=>by kernel_rfl
def EO (p0:Field) (p1:Int):Option (Int×Int):=(gL p0).bind fun n0=>bif n0 !=0 then some (0,n0) else (HC p0 p1).bind fun a1=>bif !a1.2 then some (0,6) else some (a1.1,0)
def aU1:bK:=⟨aC.cons (aK.agg cM) (aC.one (aK.int .i64)),aK.tup (aC.cons (aK.int .i64) (aC.one (aK.int .i64))),fun a=>EO a.1 a.2,.pure,false⟩
theorem aLN:aI tab 240 aU1:=Oc aKm rfl aG [(122,aCW),(288,aU0)] ⟨I6,aLM,trivial⟩ fun a=>by kernel_rfl
def xR (p0:Field) (p1:Int):Option ((Int×Int×Int)×Int):=(EO p0 p1).bind fun a0=>bif a0.2 !=0 then some ((0,0,0),a0.2) else (aN p0.points a0.1).bind fun a1=>some (a1,0)
def aU2:bK:=⟨aC.cons (aK.agg cM) (aC.one (aK.int .i64)),aK.tup (aC.cons (aK.agg (cH.row fG)) (aC.one (aK.int .i64))),fun a=>xR a.1 a.2,.pure,false⟩
theorem aLO:aI tab 178 aU2:=Oc aJH rfl aG [(240,aU1)] ⟨aLN,trivial⟩ fun a=>by kernel_rfl
def xS (p0:aO):Option aO:=(bX p0.field.points).bind fun l0=>(bX p0.certs.list).bind fun l1=>(bX p0.due).bind fun l2=>(bX p0.agenda.heap).bind fun l3=>(bX p0.agenda.where_).bind fun l4=>(bX p0.agenda.slots.uses).bind fun l5=>(bX p0.agenda.slots.used).bind fun l6=>(bX p0.agenda.slots.free).bind fun l7=>some (aO.mk p0.now (Field.mk l0) (bI.mk p0.certs.next_ l1) (aP.mk (aZ.mk l5 l6 l7) l3 l4) l2)
def aU3:bK:=⟨aC.one (aK.agg bJ),aK.agg bJ,fun a=>xS a,.own,true⟩
def aNt:bK:=⟨aC.one (aK.agg bJ),aK.agg bJ,fun a=>xS a,.frz,false⟩
theorem aLP:aI tab 180 aU3:=Oc aBt rfl aG [(124,bK.clone fG),(181,bK.clone fG),(182,bK.clone fG),(183,bK.clone jZ),(67,bK.clone ki),(184,bK.clone kb)] ⟨EF,BA,I2,xM,rI,xL,trivial⟩ fun a=>by kernel_rfl
theorem aER:aI tab 180 aNt:=Oc aBt rfl aG [(124,bK.clone fG),(181,bK.clone fG),(182,bK.clone fG),(183,bK.clone jZ),(67,bK.clone ki),(184,bK.clone kb)] ⟨EF,BA,I2,xM,rI,xL,trivial⟩ fun a=>by kernel_rfl
def wO (p0:aO) (p1:Int):Option (aO×Int):=(gM p0).bind fun n0=>bif n0 !=0 then some (gO,n0) else (mJ p0 p1).bind fun a1=>some (a1.1,a1.2.2)
def aU4:bK:=⟨aC.cons (aK.agg bJ) (aC.one (aK.int .i64)),aK.tup (aC.cons (aK.agg bJ) (aC.one (aK.int .i64))),fun a=>wO a.1 a.2,.frz,false⟩
theorem aLQ:aI tab 241 aU4:=Oc aKn rfl aG [(65,c65),(112,aSD)] ⟨KP,aBS,trivial⟩ fun a=>by kernel_rfl
def jU (s:(bY×bY×Int×Int)):Option (bT (bY×bY×Int×Int) Bool):=bif decide (s.2.2.2<s.2.2.1) then (aN s.1 s.2.2.2).bind fun a0=>(aN s.2.1 s.2.2.2).bind fun a1=>bif !((a0.1==a1.1)&&((a0.2.1==a1.2.1)&&(a0.2.2==a1.2.2))) then some (.done false) else some (.next (s.1,s.2.1,s.2.2.1,aA .i64 (s.2.2.2+1))) else some (.done true)
def mK (p0:List (Int×Int×Int)) (p1:List (Int×Int×Int)):Option Bool:=bif (Int.ofNat p0.length) !=(Int.ofNat p1.length) then some false else aH jU (p0,p1,Int.ofNat p0.length,0)
def aU5:bK:=⟨aC.cons (aK.sl fG) (aC.one (aK.sl fG)),aK.bool,fun a=>mK a.1 a.2,.pure,false⟩
theorem aLR:aI tab 242 aU5:=Oc aKo rfl aG [] trivial fun a=>by kernel_rfl
def cA (a:aK1):Option QP:=(aN a.2.2.2.2.2.2.2.2.2.1 a.2.2.2.1).bind fun _=>(aN a.2.2.2.2.2.2.2.2.2.2 a.2.2.2.2.2.2.2.1).bind fun _=>bif ((cR a.2.2.2.2.2.2.2.2.2.1 a.2.2.2.1 (a.2.2.2.2.1,a.2.2.2.2.2.1,a.2.2.2.2.2.2.1,a.2.2.2.2.2.2.2.1,a.2.2.2.2.2.2.2.2.1)).length)==a.2.2.2.2.2.2.2.2.2.1.length then bif ((cR a.2.2.2.2.2.2.2.2.2.2 a.2.2.2.2.2.2.2.1 a.2.2.2.1).length)==a.2.2.2.2.2.2.2.2.2.2.length then some (cR a.2.2.2.2.2.2.2.2.2.1 a.2.2.2.1 (a.2.2.2.2.1,a.2.2.2.2.2.1,a.2.2.2.2.2.2.1,a.2.2.2.2.2.2.2.1,a.2.2.2.2.2.2.2.2.1),cR a.2.2.2.2.2.2.2.2.2.2 a.2.2.2.2.2.2.2.1 a.2.2.2.1) else none else none
def aES:eG:=⟨[.l [.i .i64],.l [.b],.l [.i .i64],.i,.i,.i,.i,.i,.i,.l [.i .i64,.i .i64,.i .i64,.i .i64,.i .i64],.l [.i .i64]],[.agg [.sl [.i .i64] [],.sl [.b] [],.sl [.i .i64] [],.own 0 false,.own 1 false],.int .i64 0,.agg [.int .i64 0,.int .i64 0,.int .i64 0,.int .i64 0,.int .i64 0]],[.arr [.i .i64,.i .i64,.i .i64,.i .i64,.i .i64] [],.arr [.i .i64] []],[.l [.i .i64,.i .i64,.i .i64,.i .i64,.i .i64],.l [.i .i64]],.tup [],[.arr [.i .i64,.i .i64,.i .i64,.i .i64,.i .i64] [],.arr [.i .i64] []],fun a=>cA a⟩
theorem aC1:mU tab 306 aES:=mU.of aBy (wd:=false) (cx:=(mT aG [] [] [] [])) (jY.make trivial trivial trivial) (fun a=>by kernel_rfl)
def gG (c0:aK1) (s:aUf):Option (bT aUf aUa):=match s with |(a,b,d,e,f,g,h,i,j,k,l,m)=>bif decide (b<(Int.ofNat d.length)) then bif decide ((aA .i64 (b+1))<(Int.ofNat d.length)) then (aN d (aA .i64 (b+1))).bind fun a0=>(aN d b).bind fun a1=>(cK a0 a1).bind fun n2=>bif decide (n2<0) then (aN d (aA .i64 (b+1))).bind fun a3=>(cK a3 (i,j,k,l,m)).bind fun n4=>bif decide (0<=n4) then (cA (f,g,h,a,i,j,k,l,m,d,e)).bind fun a5=>bif a5.1.length==c0.2.2.2.2.2.2.2.2.2.1.length then bif a5.2.length==c0.2.2.2.2.2.2.2.2.2.2.length then some (.done (.done a5)) else none else none else (aN d (aA .i64 (b+1))).bind fun a6=>(cA (f,g,h,a,a6.1,a6.2.1,a6.2.2.1,a6.2.2.2.1,a6.2.2.2.2,d,e)).bind fun a7=>some (.next (aA .i64 (b+1),aA .i64 ((aA .i64 (2*(aA .i64 (b+1))))+1),a7.1,a7.2,(f,g,h,i,j,k,l,m))) else (aN d b).bind fun a8=>(cK a8 (i,j,k,l,m)).bind fun n9=>bif decide (0<=n9) then (cA (f,g,h,a,i,j,k,l,m,d,e)).bind fun a10=>bif a10.1.length==c0.2.2.2.2.2.2.2.2.2.1.length then bif a10.2.length==c0.2.2.2.2.2.2.2.2.2.2.length then some (.done (.done a10)) else none else none else (aN d b).bind fun a11=>(cA (f,g,h,a,a11.1,a11.2.1,a11.2.2.1,a11.2.2.2.1,a11.2.2.2.2,d,e)).bind fun a12=>some (.next (b,aA .i64 ((aA .i64 (2*b))+1),a12.1,a12.2,(f,g,h,i,j,k,l,m))) else (aN d b).bind fun a13=>(cK a13 (i,j,k,l,m)).bind fun n14=>bif decide (0<=n14) then (cA (f,g,h,a,i,j,k,l,m,d,e)).bind fun a15=>bif a15.1.length==c0.2.2.2.2.2.2.2.2.2.1.length then bif a15.2.length==c0.2.2.2.2.2.2.2.2.2.2.length then some (.done (.done a15)) else none else none else (aN d b).bind fun a16=>(cA (f,g,h,a,a16.1,a16.2.1,a16.2.2.1,a16.2.2.2.1,a16.2.2.2.2,d,e)).bind fun a17=>some (.next (b,aA .i64 ((aA .i64 (2*b))+1),a17.1,a17.2,(f,g,h,i,j,k,l,m))) else (cA (f,g,h,a,i,j,k,l,m,d,e)).bind fun a18=>bif a18.1.length==c0.2.2.2.2.2.2.2.2.2.1.length then bif a18.2.length==c0.2.2.2.2.2.2.2.2.2.2.length then some (.done (.done a18)) else none else none
def eZ (c0:aK1) (s:aT9):Option aUa:=bif decide (0<s.1) then (aN s.2.1 (aA .i64 (Int.tdiv (aA .i64 (s.1-1)) 2))).bind fun a0=>(cK s.2.2.2.2.2.2 a0).bind fun n1=>bif decide (n1<0) then (aN s.2.1 (aA .i64 (Int.tdiv (aA .i64 (s.1-1)) 2))).bind fun a2=>(cA (s.2.2.2.1,s.2.2.2.2.1,s.2.2.2.2.2.1,s.1,a2.1,a2.2.1,a2.2.2.1,a2.2.2.2.1,a2.2.2.2.2,s.2.1,s.2.2.1)).bind fun a3=>some (.next (aA .i64 (Int.tdiv (aA .i64 (s.1-1)) 2),a3.1,a3.2,s.2.2.2)) else aH (gG c0) (s.1,aA .i64 ((aA .i64 (2*s.1))+1),s.2) else aH (gG c0) (s.1,aA .i64 ((aA .i64 (2*s.1))+1),s.2)
def fH (a:aK1):Option QP:=aH (eZ a) (a.2.2.2.1,a.2.2.2.2.2.2.2.2.2.1,a.2.2.2.2.2.2.2.2.2.2,a.1,a.2.1,a.2.2.1,a.2.2.2.2.1,a.2.2.2.2.2.1,a.2.2.2.2.2.2.1,a.2.2.2.2.2.2.2.1,a.2.2.2.2.2.2.2.2.1)
def aAf:eG:=⟨[.l [.i .i64],.l [.b],.l [.i .i64],.i,.i,.i,.i,.i,.i,.l [.i .i64,.i .i64,.i .i64,.i .i64,.i .i64],.l [.i .i64]],[.agg [.sl [.i .i64] [],.sl [.b] [],.sl [.i .i64] [],.own 0 false,.own 1 false],.int .i64 0,.agg [.int .i64 0,.int .i64 0,.int .i64 0,.int .i64 0,.int .i64 0]],[.arr [.i .i64,.i .i64,.i .i64,.i .i64,.i .i64] [],.arr [.i .i64] []],[.l [.i .i64,.i .i64,.i .i64,.i .i64,.i .i64],.l [.i .i64]],.tup [],[.arr [.i .i64,.i .i64,.i .i64,.i .i64,.i .i64] [],.arr [.i .i64] []],fun a=>fH a⟩
theorem R2:mU tab 287 aAf:=mU.of aBw (wd:=false) (cx:=(mT aG [(196,aLj)] [(306,aAe),(306,aES)] [] [])) (jY.make ⟨T8,trivial⟩ ⟨R0,aC1,trivial⟩ trivial) (fun a=>by kernel_rfl)
def wP (p0:aP) (p1:Int×Int) (p2:Int×Int):Option (aP×Int):=(kI p0).bind fun n0=>(fS p2).bind fun n1=>bif (if n1>n0 then n1 else n0) !=0 then some (aP.mk (aZ.mk [] [] []) [] [],if n1>n0 then n1 else n0) else (rO p0 p1).bind fun a2=>bif a2.2 !=0 then some (aP.mk (aZ.mk [] [] []) [] [],a2.2) else (bX p0.heap).bind fun l3=>(bX p0.where_).bind fun l4=>(aN l3 a2.1).bind fun a5=>(fH (p0.slots.uses,p0.slots.used,p0.slots.free,a2.1,p2.1,p2.2,a5.2.2.1,a5.2.2.2.1,a5.2.2.2.2,l3,l4)).bind fun a6=>some (aP.mk p0.slots a6.1 a6.2,0)
def aU6:bK:=⟨aC.cons (aK.agg dF) (aC.cons (aK.agg (cH.row iA)) (aC.one (aK.agg (cH.row iA)))),aK.tup (aC.cons (aK.agg dF) (aC.one (aK.int .i64))),fun a=>wP a.1 a.2.1 a.2.2,.frz,false⟩
theorem aLS:aI tab 289 aU6:=aI.of aKJ (cx:=(mT aG [(129,aCX),(49,c49),(238,aSB),(183,bK.clone jZ),(67,bK.clone ki)] [(287,UC),(287,aAf)] [(286,aCR)] [])) rfl (jY.make ⟨I7,CD,aBQ,xM,rI,trivial⟩ ⟨KS,R2,trivial⟩ ⟨T2,trivial⟩) (fun a=>by kernel_rfl)
def AH (p0:Int×Int×Int×Int×Int) (p1:Int):Option Bool:=some (p0.2.2.1==p1)
def aU7:bK:=⟨aC.cons (aK.agg (cH.row jZ)) (aC.one (aK.ref (cH.int .i64))),aK.bool,fun a=>AH a.1 a.2,.pure,false⟩
theorem aLT:aI tab 309 aU7:=Oc aBz rfl aG [] trivial fun a=>by kernel_rfl
def cX (s:(kG×Int×Int×Int)):Option (bT (kG×Int×Int×Int) Int):=bif decide (s.2.2.2<s.2.2.1) then (aN s.1 s.2.2.2).bind fun a0=>(AH a0 s.2.1).bind fun b1=>bif b1 then some (.done s.2.2.2) else some (.next (s.1,s.2.1,s.2.2.1,aA .i64 (s.2.2.2+1))) else some (.done (-1))
def fA (p0:List (Int×Int×Int×Int×Int)) (p1:Int):Option Int:=aH cX (p0,p1,Int.ofNat p0.length,0)
def XE:bK:=⟨aC.cons (aK.sl jZ) (aC.one (aK.clo 309 (aC.one (aK.ref (cH.int .i64))))),aK.int .i64,fun a=>fA a.1 a.2,.pure,false⟩
theorem XF:aI tab 316 XE:=aI.of aKX (cx:=(mT aG [(309,aU7)] [] [(309,aIF)] [])) rfl (jY.make ⟨aLT,trivial⟩ trivial ⟨aBz,trivial⟩) (fun a=>by kernel_rfl)
def cY (p0:List (Int×Int×Int×Int×Int)) (p1:Int):Option Bool:=(fA p0 p1).bind fun n0=>some (decide (0<=n0))
def XG:bK:=⟨aC.cons (aK.sl jZ) (aC.one (aK.clo 309 (aC.one (aK.ref (cH.int .i64))))),aK.bool,fun a=>cY a.1 a.2,.pure,false⟩
theorem XH:aI tab 308 XG:=Oc aKT rfl aG [(316,XE)] ⟨XF,trivial⟩ fun a=>by kernel_rfl
def xT (p0:List Int):Option ((List Int)×Int):=(jI p0 0 (aA .i64 ((Int.ofNat p0.length) -1))).bind fun l0=>(bX l0).bind fun l1=>(aN p0 (aA .i64 ((Int.ofNat p0.length) -1))).bind fun n2=>some (l1,n2)
def aU8:bK:=⟨aC.one (aK.sl ki),aK.tup (aC.cons (aK.sl ki) (aC.one (aK.int .i64))),fun a=>xT a,.frz,false⟩
theorem aLU:aI tab 317 aU8:=Oc aKY rfl aG [(315,bK.clone ki)] ⟨WT,trivial⟩ fun a=>by kernel_rfl
def FI (p0:aZ):Option (aZ×(Int×Int)×Int):=(sX p0).bind fun n0=>bif n0 !=0 then some (aZ.mk [] [] [],(0,0),n0) else bif (Int.ofNat p0.free.length)==0 then some (aZ.mk [] [] [],(0,0),18) else (xT p0.free).bind fun a1=>(aN p0.uses a1.2).bind fun n2=>bif n2==1000000 then some (aZ.mk [] [] [],(0,0),18) else (bX p0.uses).bind fun l3=>(bX p0.used).bind fun l4=>(aN l4 a1.2).bind fun _=>(aN l3 a1.2).bind fun n6=>(aN l3 a1.2).bind fun _=>(aN (cR l3 a1.2 (aA .i64 (n6+1))) a1.2).bind fun n8=>some (aZ.mk (cR l3 a1.2 (aA .i64 (n6+1))) (cR l4 a1.2 true) a1.1,(a1.2,n8),0)
def aU9:bK:=⟨aC.one (aK.agg gQ),aK.tup (aC.cons (aK.agg gQ) (aC.cons (aK.agg (cH.row iA)) (aC.one (aK.int .i64)))),fun a=>FI a,.frz,false⟩
theorem aLV:aI tab 310 aU9:=aI.of aKU (cx:=(mT aG [(195,aLb),(317,aU8),(67,bK.clone ki),(184,bK.clone kb)] [] [(304,aEu)] [])) rfl (jY.make ⟨T7,aLU,rI,xL,trivial⟩ trivial ⟨aBx,trivial⟩) (fun a=>by kernel_rfl)
def mC (p0:aP) (p1:Int×Int) (p2:Int):Option (aP×(Int×Int)×Int):=(kI p0).bind fun n0=>(fS p1).bind fun n1=>bif (if n1>n0 then n1 else n0) !=0 then some (aP.mk (aZ.mk [] [] []) [] [],(0,0),if n1>n0 then n1 else n0) else bif decide (p2<0) then some (aP.mk (aZ.mk [] [] []) [] [],(0,0),2) else bif decide (1000000<p2) then some (aP.mk (aZ.mk [] [] []) [] [],(0,0),2) else (cY p0.heap p2).bind fun b2=>bif b2 then some (aP.mk (aZ.mk [] [] []) [] [],(0,0),14) else (FI p0.slots).bind fun a3=>bif a3.2.2 !=0 then some (aP.mk (aZ.mk [] [] []) [] [],(0,0),a3.2.2) else (bX p0.heap).bind fun l4=>(bX p0.where_).bind fun l5=>(bV l4 [(p1.1,p1.2,p2,a3.2.1)]).bind fun l6=>(fH (a3.1.uses,a3.1.used,a3.1.free,aA .i64 ((Int.ofNat l6.length) -1),p1.1,p1.2,p2,a3.2.1.1,a3.2.1.2,l6,l5)).bind fun a7=>some (aP.mk a3.1 a7.1 a7.2,a3.2.1,0)
def aSF:bK:=⟨aC.cons (aK.agg dF) (aC.cons (aK.agg (cH.row iA)) (aC.one (aK.int .i64))),aK.tup (aC.cons (aK.agg dF) (aC.cons (aK.agg (cH.row iA)) (aC.one (aK.int .i64)))),fun a=>mC a.1 a.2.1 a.2.2,.frz,false⟩
theorem aBT:aI tab 290 aSF:=aI.of aKK (cx:=(mT aG [(129,aCX),(49,c49),(308,XG),(310,aU9),(183,bK.clone jZ),(67,bK.clone ki)] [(287,UC),(287,aAf)] [(286,aCR)] [])) rfl (jY.make ⟨I7,CD,XH,aLV,xM,rI,trivial⟩ ⟨KS,R2,trivial⟩ ⟨T2,trivial⟩) (fun a=>by kernel_rfl)
def dQ (s:Zt3):Option (bT Zt3 Zt7):=match s with |(a,b,d,e,f,g,h,i,j,k,l,m,n,o,q,r,t,u,v,w,x,y,z,A,B,C,D,E,F)=>bif decide (d<b) then (aN a d).bind fun a0=>(tB (Field.mk q) a0.2 (e,f)).bind fun a1=>(qL o a0.1).bind fun a2=>bif a1.2.1 then bif a2.2 then (aN o a2.1).bind fun a3=>(wP (aP.mk (aZ.mk z A B) C D) a3.2 a1.1).bind fun a4=>(aN o a2.1).bind fun a5=>(bV F [a5]).bind fun l6=>bif a4.2 !=0 then some (.done (.done (gO,a4.2))) else some (.next (a,b,aA .i64 (d+1),e,f,g,h,i,j,k,l,m,n,o,q,r,t,u,v,w,x,y,a4.1.slots.uses,a4.1.slots.used,a4.1.slots.free,a4.1.heap,a4.1.where_,E,l6)) else bif a1.2.1 then (mC (aP.mk (aZ.mk z A B) C D) a1.1 a0.1).bind fun a7=>(bV F [(a0.1,a7.2.1)]).bind fun l8=>bif a7.2.2 !=0 then some (.done (.done (gO,a7.2.2))) else some (.next (a,b,aA .i64 (d+1),e,f,g,h,i,j,k,l,m,n,o,q,r,t,u,v,w,x,y,a7.1.slots.uses,a7.1.slots.used,a7.1.slots.free,a7.1.heap,a7.1.where_,E,l8)) else bif a2.2 then (aN o a2.1).bind fun a9=>(nA (aP.mk (aZ.mk z A B) C D) a9.2).bind fun a10=>bif a10.2.2 !=0 then some (.done (.done (gO,a10.2.2))) else some (.next (a,b,aA .i64 (d+1),e,f,g,h,i,j,k,l,m,n,o,q,r,t,u,v,w,x,y,a10.1.slots.uses,a10.1.slots.used,a10.1.slots.free,a10.1.heap,a10.1.where_,(E,F))) else bif a1.2.2 !=0 then some (.done (.done (gO,a1.2.2))) else some (.next (a,b,aA .i64 (d+1),(e,f,g,h,i,j,k,l,m,n,o,q,r,t,u,v,w,x,y,z,A,B,C,D,E,F))) else bif a1.2.1 then (mC (aP.mk (aZ.mk z A B) C D) a1.1 a0.1).bind fun a11=>(bV F [(a0.1,a11.2.1)]).bind fun l12=>bif a11.2.2 !=0 then some (.done (.done (gO,a11.2.2))) else some (.next (a,b,aA .i64 (d+1),e,f,g,h,i,j,k,l,m,n,o,q,r,t,u,v,w,x,y,a11.1.slots.uses,a11.1.slots.used,a11.1.slots.free,a11.1.heap,a11.1.where_,E,l12)) else bif a2.2 then (aN o a2.1).bind fun a13=>(nA (aP.mk (aZ.mk z A B) C D) a13.2).bind fun a14=>bif a14.2.2 !=0 then some (.done (.done (gO,a14.2.2))) else some (.next (a,b,aA .i64 (d+1),e,f,g,h,i,j,k,l,m,n,o,q,r,t,u,v,w,x,y,a14.1.slots.uses,a14.1.slots.used,a14.1.slots.free,a14.1.heap,a14.1.where_,(E,F))) else bif a1.2.2 !=0 then some (.done (.done (gO,a1.2.2))) else some (.next (a,b,aA .i64 (d+1),(e,f,g,h,i,j,k,l,m,n,o,q,r,t,u,v,w,x,y,z,A,B,C,D,E,F))) else some (.done (.done (aO.mk (v,w) (Field.mk E) (bI.mk x y) (aP.mk (aZ.mk z A B) C D) F,0)))
def lJ (s:aT0):Option Zt7:=match s with |(a,b,d,e,f,g,h,i,j,k,l,m,n,o,q,r,t,u)=>bif decide (d<b) then (aN a d).bind fun a0=>(kJ (Field.mk q) a0.2.1).bind fun a1=>bif decide (a1.1<0) then some (.done (gO,6)) else (kJ (Field.mk q) a0.2.2).bind fun a2=>bif decide (a2.1<0) then some (.done (gO,6)) else some (.next (a,b,aA .i64 (d+1),(e,f,g,h,i,j,k,l,m,n,o,q,r,t,u))) else (kO (aO.mk (e,f) (Field.mk g) (bI.mk h i) (aP.mk (aZ.mk j k l) m n) o)).bind fun r3=>(bX q).bind fun l4=>aH dQ (i,Int.ofNat i.length,0,e,f,g,h,i,j,k,l,m,n,o,q,r,t,u,r3.now.1,r3.now.2,r3.certs.next_,r3.certs.list,r3.agenda.slots.uses,r3.agenda.slots.used,r3.agenda.slots.free,r3.agenda.heap,r3.agenda.where_,l4,[])
def qM (p0:aO) (p1:Field):Option (aO×Int):=(gM p0).bind fun n0=>bif n0 !=0 then some (gO,n0) else (gL p1).bind fun n1=>bif n1 !=0 then some (gO,n1) else aH lJ (p0.certs.list,Int.ofNat p0.certs.list.length,0,p0.now.1,p0.now.2,p0.field.points,p0.certs.next_,p0.certs.list,p0.agenda.slots.uses,p0.agenda.slots.used,p0.agenda.slots.free,p0.agenda.heap,p0.agenda.where_,p0.due,p1.points,0,0,0)
def aVa:bK:=⟨aC.cons (aK.agg bJ) (aC.one (aK.agg cM)),aK.tup (aC.cons (aK.agg bJ) (aC.one (aK.int .i64))),fun a=>qM a.1 a.2,.frz,false⟩
theorem aLW:aI tab 243 aVa:=Oc aKp rfl aG [(65,c65),(122,aCW),(198,aLl),(114,aEP),(114,W9),(124,bK.clone fG),(130,aLs),(175,aSz),(289,aU6),(290,aSF),(176,aSC)] ⟨KP,I6,T9,MR,I8,EF,UB,aBO,aLS,aBT,aBR,trivial⟩ fun a=>by kernel_rfl
def GE (p0:Int×Int×Int) (p1:Int×Int):Option Bool:=some ((p0.2.1==p1.1)&&(p0.2.2==p1.2))
def aVb:bK:=⟨aC.cons (aK.agg (cH.row fG)) (aC.one (aK.ref (cH.row iA))),aK.bool,fun a=>GE a.1 a.2,.pure,false⟩
theorem aLX:aI tab 244 aVb:=Oc aBv rfl aG [] trivial fun a=>by kernel_rfl
def nK (s:QQ):Option (bT QQ Int):=bif decide (s.2.2.2.2<s.2.2.2.1) then (aN s.1 s.2.2.2.2).bind fun a0=>(GE a0 (s.2.1,s.2.2.1)).bind fun b1=>bif b1 then some (.done s.2.2.2.2) else some (.next (s.1,s.2.1,s.2.2.1,s.2.2.2.1,aA .i64 (s.2.2.2.2+1))) else some (.done (-1))
def iT (p0:List (Int×Int×Int)) (p1:(Int×Int)):Option Int:=aH nK (p0,p1.1,p1.2,Int.ofNat p0.length,0)
def XI:bK:=⟨aC.cons (aK.sl fG) (aC.one (aK.clo 244 (aC.one (aK.ref (cH.row iA))))),aK.int .i64,fun a=>iT a.1 a.2,.pure,false⟩
theorem XJ:aI tab 214 XI:=aI.of T0 (cx:=(mT aG [(244,aVb)] [] [(244,aH3)] [])) rfl (jY.make ⟨aLX,trivial⟩ trivial ⟨aBv,trivial⟩) (fun a=>by kernel_rfl)
def eF (p0:List (Int×Int×Int)) (p1:(Int×Int)):Option Bool:=(iT p0 p1).bind fun n0=>some (decide (0<=n0))
def XK:bK:=⟨aC.cons (aK.sl fG) (aC.one (aK.clo 244 (aC.one (aK.ref (cH.row iA))))),aK.bool,fun a=>eF a.1 a.2,.pure,false⟩
theorem XL:aI tab 139 XK:=Oc TW rfl aG [(214,XI)] ⟨XJ,trivial⟩ fun a=>by kernel_rfl
def dP (p0:Int):Option (aO×Int×Int):=some (gO,0,p0)
def aVc:bK:=⟨aC.one (aK.int .i64),aK.tup (aC.cons (aK.agg bJ) (aC.cons (aK.int .i64) (aC.one (aK.int .i64)))),fun a=>dP a,.frz,false⟩
theorem aLY:aI tab 291 aVc:=Oc aKL rfl aG [] trivial fun a=>by kernel_rfl
def HD (p0:Int×Int×Int) (p1:Int×Int):Option Bool:=some ((p0.2.1==p1.1)&&(p0.2.2==p1.2))
def aVd:bK:=⟨aC.cons (aK.agg (cH.row fG)) (aC.one (aK.ref (cH.row iA))),aK.bool,fun a=>HD a.1 a.2,.pure,false⟩
theorem aLZ:aI tab 311 aVd:=Oc aBA rfl aG [] trivial fun a=>by kernel_rfl
def dO (s:QQ):Option (bT QQ Int):=bif decide (s.2.2.2.2<s.2.2.2.1) then (aN s.1 s.2.2.2.2).bind fun a0=>(HD a0 (s.2.1,s.2.2.1)).bind fun b1=>bif b1 then some (.done s.2.2.2.2) else some (.next (s.1,s.2.1,s.2.2.1,s.2.2.2.1,aA .i64 (s.2.2.2.2+1))) else some (.done (-1))
def fY (p0:List (Int×Int×Int)) (p1:(Int×Int)):Option Int:=aH dO (p0,p1.1,p1.2,Int.ofNat p0.length,0)
def XM:bK:=⟨aC.cons (aK.sl fG) (aC.one (aK.clo 311 (aC.one (aK.ref (cH.row iA))))),aK.int .i64,fun a=>fY a.1 a.2,.pure,false⟩
theorem XN:aI tab 214 XM:=aI.of T0 (cx:=(mT aG [(311,aVd)] [] [(311,aII)] [])) rfl (jY.make ⟨aLZ,trivial⟩ trivial ⟨aBA,trivial⟩) (fun a=>by kernel_rfl)
def cL (p0:List (Int×Int×Int)) (p1:(Int×Int)):Option Bool:=(fY p0 p1).bind fun n0=>some (decide (0<=n0))
def XO:bK:=⟨aC.cons (aK.sl fG) (aC.one (aK.clo 311 (aC.one (aK.ref (cH.row iA))))),aK.bool,fun a=>cL a.1 a.2,.pure,false⟩
theorem XP:aI tab 139 XO:=Oc TW rfl aG [(214,XM)] ⟨XN,trivial⟩ fun a=>by kernel_rfl
def I9 (p0:bI) (p1:Int×Int):Option (bI×Int×Int):=(sW p0).bind fun n0=>bif n0 !=0 then some (bI.mk 0 [],0,n0) else (xN p1).bind fun b1=>bif !b1 then some (bI.mk 0 [],0,8) else (cL p0.list p1).bind fun b2=>bif b2 then some (bI.mk 0 [],0,14) else bif (Int.ofNat p0.list.length)==200 then some (bI.mk 0 [],0,18) else bif p0.next_==1000000 then some (bI.mk 0 [],0,18) else (bX p0.list).bind fun l3=>(bV l3 [(p0.next_,p1)]).bind fun l4=>some (bI.mk (aA .i64 (p0.next_+1)) l4,p0.next_,0)
def aVe:bK:=⟨aC.cons (aK.agg gR) (aC.one (aK.agg (cH.row iA))),aK.tup (aC.cons (aK.agg gR) (aC.cons (aK.int .i64) (aC.one (aK.int .i64)))),fun a=>I9 a.1 a.2,.frz,false⟩
theorem aL0:aI tab 292 aVe:=Oc aKM rfl aG [(128,aK8),(194,aSk),(139,XO),(181,bK.clone fG)] ⟨T6,aBG,XP,BA,trivial⟩ fun a=>by kernel_rfl
def jA (p0:aO) (p1:Int×Int):Option (aO×Int×Int):=(gM p0).bind fun n0=>bif n0 !=0 then (dP n0).bind fun a1=>some a1 else (I9 p0.certs p1).bind fun a2=>bif a2.2.2==8 then (dP a2.2.2).bind fun a3=>some a3 else (kJ p0.field p1.1).bind fun a4=>bif decide (a4.1<0) then (dP 6).bind fun a5=>some a5 else (kJ p0.field p1.2).bind fun a6=>bif decide (a6.1<0) then (dP 6).bind fun a7=>some a7 else bif a2.2.2 !=0 then (dP a2.2.2).bind fun a8=>some a8 else (kO p0).bind fun r9=>(tB p0.field p1 p0.now).bind fun a10=>bif a10.2.2 !=0 then (dP a10.2.2).bind fun a11=>some a11 else bif a10.2.1 then (mC p0.agenda a10.1 a2.2.1).bind fun a12=>bif a12.2.2 !=0 then (dP a12.2.2).bind fun a13=>some a13 else (bV r9.due [(a2.2.1,a12.2.1)]).bind fun l14=>some (aO.mk r9.now r9.field a2.1 a12.1 l14,a2.2.1,0) else some (aO.mk r9.now r9.field a2.1 r9.agenda r9.due,a2.2.1,0)
def aVf:bK:=⟨aC.cons (aK.agg bJ) (aC.one (aK.agg (cH.row iA))),aK.tup (aC.cons (aK.agg bJ) (aC.cons (aK.int .i64) (aC.one (aK.int .i64)))),fun a=>jA a.1 a.2,.frz,false⟩
theorem aL1:aI tab 245 aVf:=Oc aKq rfl aG [(65,c65),(291,aVc),(292,aVe),(198,aLl),(114,aEP),(114,W9),(130,aLs),(290,aSF)] ⟨KP,aLY,aL0,T9,MR,I8,UB,aBT,trivial⟩ fun a=>by kernel_rfl
def fN (s:aT2):Option (bT aT2 Zt6):=match s with |(a,b,d,e,f,g,h,i,j,k,l,m,n,o,q,r,t)=>bif decide (d<b) then (aN a d).bind fun a0=>(eF i a0).bind fun b1=>bif b1 then some (.next (a,b,aA .i64 (d+1),(e,f,g,h,i,j,k,l,m,n,o,q,r,t))) else (jA (aO.mk (e,f) (Field.mk g) (bI.mk h i) (aP.mk (aZ.mk j k l) m n) o) a0).bind fun a2=>bif a2.2.2 !=0 then some (.done (.done (gO,a2.2.2))) else some (.next (a,b,aA .i64 (d+1),a2.1.now.1,a2.1.now.2,a2.1.field.points,a2.1.certs.next_,a2.1.certs.list,a2.1.agenda.slots.uses,a2.1.agenda.slots.used,a2.1.agenda.slots.free,a2.1.agenda.heap,a2.1.agenda.where_,a2.1.due,(q,r,t))) else some (.done (.done (aO.mk (e,f) (Field.mk g) (bI.mk h i) (aP.mk (aZ.mk j k l) m n) o,0)))
def eN (s:aTZ):Option Zt6:=match s with |(a,b,d,e,f,g,h,i,j,k,l,m,n,o,q,r,t,u,v)=>bif decide (e<d) then (aN b e).bind fun a0=>(eM a a0.2).bind fun b1=>bif !b1 then (wO (aO.mk (f,g) (Field.mk h) (bI.mk i j) (aP.mk (aZ.mk k l m) n o) q) a0.1).bind fun a2=>some (.next (a,b,d,aA .i64 (e+1),a2.1.now.1,a2.1.now.2,a2.1.field.points,a2.1.certs.next_,a2.1.certs.list,a2.1.agenda.slots.uses,a2.1.agenda.slots.used,a2.1.agenda.slots.free,a2.1.agenda.heap,a2.1.agenda.where_,a2.1.due,(r,t,u,v))) else some (.next (a,b,d,aA .i64 (e+1),(f,g,h,i,j,k,l,m,n,o,q,r,t,u,v))) else (mK h r).bind fun b3=>bif !b3 then (qM (aO.mk (f,g) (Field.mk h) (bI.mk i j) (aP.mk (aZ.mk k l m) n o) q) (Field.mk r)).bind fun a4=>bif a4.2 !=0 then some (.done (gO,a4.2)) else aH fN (a,Int.ofNat a.length,0,a4.1.now.1,a4.1.now.2,a4.1.field.points,a4.1.certs.next_,a4.1.certs.list,a4.1.agenda.slots.uses,a4.1.agenda.slots.used,a4.1.agenda.slots.free,a4.1.agenda.heap,a4.1.agenda.where_,a4.1.due,(t,u,v)) else aH fN (a,Int.ofNat a.length,0,f,g,h,i,j,k,l,m,n,o,q,(t,u,v))
def vG (p0:aO) (p1:Field) (p2:List (Int×Int)):Option (aO×Int):=aH eN (p2,p0.certs.list,Int.ofNat p0.certs.list.length,0,p0.now.1,p0.now.2,p0.field.points,p0.certs.next_,p0.certs.list,p0.agenda.slots.uses,p0.agenda.slots.used,p0.agenda.slots.free,p0.agenda.heap,p0.agenda.where_,p0.due,p1.points,0,0,0)
def aVg:bK:=⟨aC.cons (aK.agg bJ) (aC.cons (aK.agg cM) (aC.one (aK.sl iA))),aK.tup (aC.cons (aK.agg bJ) (aC.one (aK.int .i64))),fun a=>vG a.1 a.2.1 a.2.2,.frz,false⟩
theorem aL2:aI tab 179 aVg:=Oc aJI rfl aG [(138,aEM),(241,aU4),(242,aU5),(243,aVa),(139,XK),(245,aVf)] ⟨MQ,aLQ,aLR,aLW,XL,aL1,trivial⟩ fun a=>by kernel_rfl
def fO (s:aCT):Option (bT aCT Zt1):=match s with |(a,b,d,e,f,g,h,i,j,k,l,m,n,o,q,r,t,u,v)=>bif decide (e<d) then (aN b e).bind fun a0=>(xR (Field.mk r) a0.1).bind fun a1=>(xR (Field.mk r) a0.2).bind fun a2=>bif a1.2 !=0 then some (.done (.done (.done (gO,6)))) else bif a2.2 !=0 then some (.done (.done (.done (gO,6)))) else some (.next (a,b,d,aA .i64 (e+1),(f,g,h,i,j,k,l,m,n,o,q,r,t,u,v))) else (xS (aO.mk (f,g) (Field.mk h) (bI.mk i j) (aP.mk (aZ.mk k l m) n o) q)).bind fun r3=>(vG r3 (Field.mk r) a).bind fun a4=>some (.done (.done (.done a4)))
def eO (s:aCT):Option Zt1:=bif decide (s.2.2.2.1<s.2.2.1) then (aN s.2.1 s.2.2.2.1).bind fun a0=>(jI s.1 0 s.2.2.2.1).bind fun l1=>(eM l1 a0).bind fun b2=>bif b2 then some (.done (.done (gO,14))) else some (.next (s.1,s.2.1,s.2.2.1,aA .i64 (s.2.2.2.1+1),s.2.2.2.2)) else aH fO (s.1,s.1,Int.ofNat s.1.length,0,s.2.2.2.2)
def eQ (s:aCT):Option aTY:=bif decide (s.2.2.2.1<s.2.2.1) then (aN s.2.1 s.2.2.2.1).bind fun a0=>bif decide (a0.1<0) then some (.done (gO,8)) else bif decide (a0.2<0) then some (.done (gO,8)) else bif decide (65535<a0.1) then some (.done (gO,8)) else bif decide (65535<a0.2) then some (.done (gO,8)) else bif a0.1==a0.2 then some (.done (gO,8)) else some (.next (s.1,s.2.1,s.2.2.1,aA .i64 (s.2.2.2.1+1),s.2.2.2.2)) else aH eO (s.1,s.1,Int.ofNat s.1.length,0,s.2.2.2.2)
def qN (p0:aO) (p1:Field) (p2:List (Int×Int)):Option (aO×Int):=(gM p0).bind fun n0=>bif n0 !=0 then some (gO,n0) else (gL p1).bind fun n1=>bif n1 !=0 then some (gO,n1) else aH eQ (p2,p2,Int.ofNat p2.length,0,p0.now.1,p0.now.2,p0.field.points,p0.certs.next_,p0.certs.list,p0.agenda.slots.uses,p0.agenda.slots.used,p0.agenda.slots.free,p0.agenda.heap,p0.agenda.where_,p0.due,p1.points,0,0,0)
def aVh:bK:=⟨aC.cons (aK.agg bJ) (aC.cons (aK.agg cM) (aC.one (aK.sl iA))),aK.tup (aC.cons (aK.agg bJ) (aC.one (aK.int .i64))),fun a=>qN a.1 a.2.1 a.2.2,.frz,false⟩
theorem aL3:aI tab 113 aVh:=Oc aI3 rfl aG [(65,c65),(122,aCW),(138,aEM),(178,aU2),(180,aU3),(180,aNt),(179,aVg)] ⟨KP,I6,MQ,aLO,aLP,aER,aL2,trivial⟩ fun a=>by kernel_rfl
def lK (p0:aO) (p1:Field) (p2:List Int):Option (cC×Int):=(mB p1 p0.now p2).bind fun a0=>(qN p0 p1 a0.2).bind fun a1=>bif a1.2 !=0 then some (cC.mk gO (bF.mk [] []),a1.2) else some (cC.mk a1.1 a0.1,0)
def c52:bK:=⟨aC.cons (aK.agg bJ) (aC.cons (aK.agg cM) (aC.one (aK.sl ki))),aK.tup (aC.cons (aK.agg fL) (aC.one (aK.int .i64))),fun a=>lK a.1 a.2.1 a.2.2,.frz,false⟩
theorem aSG:aI tab 52 c52:=Oc aRv rfl aG [(54,c54),(113,aVh)] ⟨aAd,aL3,trivial⟩ fun a=>by kernel_rfl
def CJ (p0:aO) (p1:Int×Int):Option (aO×Int):=(vE p0 p1).bind fun a0=>bif a0.2==0 then bif a0.1 then some (gO,36) else bif a0.2 !=0 then some (gO,a0.2) else (kO p0).bind fun r1=>some (aO.mk p1 r1.field r1.certs r1.agenda r1.due,0) else bif a0.2 !=0 then some (gO,a0.2) else (kO p0).bind fun r2=>some (aO.mk p1 r2.field r2.certs r2.agenda r2.due,0)
def c53:bK:=⟨aC.cons (aK.agg bJ) (aC.one (aK.agg (cH.row iA))),aK.tup (aC.cons (aK.agg bJ) (aC.one (aK.int .i64))),fun a=>CJ a.1 a.2,.frz,false⟩
theorem aSH:aI tab 53 c53:=Oc aRw rfl aG [(111,aSy),(114,aEP),(114,W9)] ⟨aBN,MR,I8,trivial⟩ fun a=>by kernel_rfl
def fI (s:Zt8):Option (bT Zt8 aEF):=match s with |(a,b,d,e,f,g,h,i,j,k,l,m,n,o,q,r,t,u,v)=>(tC (aO.mk (a,b) (Field.mk d) (bI.mk e f) (aP.mk (aZ.mk g h i) j k) l) (o,q)).bind fun a0=>bif a0.2.2.2 !=0 then (CJ (aO.mk (a,b) (Field.mk d) (bI.mk e f) (aP.mk (aZ.mk g h i) j k) l) (o,q)).bind fun a1=>(mB a1.1.field (o,q) m).bind fun a2=>some (.done (cC.mk a1.1 a2.1,v,0)) else (lK a0.1 a0.1.field m).bind fun a3=>bif a3.2 !=0 then some (.done (cC.mk gO (bF.mk [] []),[],a3.2)) else (bV v [a0.2.2.1]).bind fun l4=>some (.next (a3.1.clock.now.1,a3.1.clock.now.2,a3.1.clock.field.points,a3.1.clock.certs.next_,a3.1.clock.certs.list,a3.1.clock.agenda.slots.uses,a3.1.clock.agenda.slots.used,a3.1.clock.agenda.slots.free,a3.1.clock.agenda.heap,a3.1.clock.agenda.where_,a3.1.clock.due,a3.1.bracket.places,a3.1.bracket.wins,o,q,r,t,u,l4))
def jN (p0:cC) (p1:Int×Int):Option aEF:=(wN p0).bind fun n0=>bif n0 !=0 then some (cC.mk gO (bF.mk [] []),[],n0) else (fS p1).bind fun n1=>bif n1 !=0 then some (cC.mk gO (bF.mk [] []),[],8) else (sY p1 p0.clock.now).bind fun a2=>bif decide (a2.1<0) then some (cC.mk gO (bF.mk [] []),[],44) else aH fI (p0.clock.now.1,p0.clock.now.2,p0.clock.field.points,p0.clock.certs.next_,p0.clock.certs.list,p0.clock.agenda.slots.uses,p0.clock.agenda.slots.used,p0.clock.agenda.slots.free,p0.clock.agenda.heap,p0.clock.agenda.where_,p0.clock.due,p0.bracket.places,p0.bracket.wins,p1.1,p1.2,0,0,0,[])
def c12:bK:=⟨aC.cons (aK.agg fL) (aC.one (aK.agg (cH.row iA))),aK.tup (aC.cons (aK.agg fL) (aC.cons (aK.sl iA) (aC.one (aK.int .i64)))),fun a=>jN a.1 a.2,.frz,false⟩
theorem aSI:aI tab 12 c12:=Oc aQ9 rfl aG [(23,c23),(49,c49),(50,c50),(51,c51),(52,c52),(53,c53),(54,c54)] ⟨aSx,CD,aAc,aSE,aSG,aSH,aAd,trivial⟩ fun a=>by kernel_rfl
def iM (p0:Int):Option Int:=bif decide (p0<0) then some (aA .u64 ((aA .u64 (aA .i64 (0- (aA .i64 (p0+1)))))+1)) else some (aA .u64 p0)
def c95:bK:=⟨aC.one (aK.int .i64),aK.int .u64,fun a=>iM a,.pure,false⟩
theorem aAg:aI tab 95 c95:=Oc aR4 rfl aG [] trivial fun a=>by kernel_rfl
def pM (s:(Int×Int)):Option (bT (Int×Int) Int):=bif s.2 !=0 then bif s.2==0 then none else some (.next (s.2,Int.tmod s.1 s.2)) else some (.done s.1)
def rQ (p0:Int) (p1:Int):Option Int:=aH pM (p0,p1)
def c94:bK:=⟨aC.cons (aK.int .u64) (aC.one (aK.int .u64)),aK.int .u64,fun a=>rQ a.1 a.2,.pure,false⟩
theorem aET:aI tab 94 c94:=Oc aR3 rfl aG [] trivial fun a=>by kernel_rfl
def qO (p0:Int×Int):Option Int:=bif decide (p0.2<1) then some 8 else bif p0.1==(-9223372036854775808) then some 8 else (iM p0.1).bind fun n0=>(rQ n0 (aA .u64 p0.2)).bind fun n1=>bif n1 !=1 then some 8 else some 0
def c36:bK:=⟨aC.one (aK.agg (cH.row iA)),aK.int .i64,fun a=>qO a,.pure,false⟩
theorem aAh:aI tab 36 c36:=Oc aRk rfl aG [(95,c95),(94,c94)] ⟨aAg,aET,trivial⟩ fun a=>by kernel_rfl
def zB (p0:Int×Int×Int):Option Int:=bif decide (p0.1<0) then some 8 else bif decide (65535<p0.1) then some 8 else bif decide (p0.2.1<(-1048576)) then some 8 else bif decide (1048576<p0.2.1) then some 8 else bif decide (p0.2.2<(-1048576)) then some 8 else bif decide (1048576<p0.2.2) then some 8 else some 0
def c85:bK:=⟨aC.one (aK.agg (cH.row fG)),aK.int .i64,fun a=>zB a,.pure,false⟩
theorem aSJ:aI tab 85 c85:=Oc aRX rfl aG [] trivial fun a=>by kernel_rfl
def jO (s:aEG):Option (bT aEG (bT aEG Int)):=bif decide (s.1<(Int.ofNat s.2.length)) then (aN s.2 (aA .i64 (s.1-1))).bind fun a0=>(aN s.2 s.1).bind fun a1=>bif decide (a1.1<=a0.1) then some (.done (.done 32)) else some (.next (aA .i64 (s.1+1),s.2)) else some (.done (.done 0))
def nW (s:aEG):Option (bT aEG Int):=bif decide (s.1<(Int.ofNat s.2.length)) then (aN s.2 s.1).bind fun a0=>(zB a0).bind fun n1=>bif n1 !=0 then some (.done 8) else some (.next (aA .i64 (s.1+1),s.2)) else aH jO (1,s.2)
def zC (p0:Field):Option Int:=bif decide (64<(Int.ofNat p0.points.length)) then some 4 else aH nW (0,p0.points)
def c29:bK:=⟨aC.one (aK.agg cM),aK.int .i64,fun a=>zC a,.pure,false⟩
theorem aSK:aI tab 29 c29:=Oc aRh rfl aG [(85,c85)] ⟨aSJ,trivial⟩ fun a=>by kernel_rfl
def xU (p0:Int×Int):Option Bool:=bif decide (0<=p0.1) then bif decide (p0.1<=65535) then bif decide (0<=p0.2) then bif decide (p0.2<=65535) then some (p0.1 !=p0.2) else some false else some false else some false else some false
def c96:bK:=⟨aC.one (aK.agg (cH.row iA)),aK.bool,fun a=>xU a,.pure,false⟩
theorem aEU:aI tab 96 c96:=Oc aR5 rfl aG [] trivial fun a=>by kernel_rfl
def gH (s:(Int×Int×Int×bY×Int×Int×Int)):Option (bT (Int×Int×Int×bY×Int×Int×Int) aSb):=bif decide (s.2.1<s.1) then (aN s.2.2.2.1 s.2.1).bind fun a0=>bif (a0.2.1==s.2.2.2.2.2.1)&&(a0.2.2==s.2.2.2.2.2.2) then some (.done (.done 8)) else some (.next (s.1,aA .i64 (s.2.1+1),s.2.2)) else some (.done (.next (aA .i64 (s.1+1),s.2.2.1,s.2.2.2.1)))
def rR (s:aEE):Option aSb:=bif decide (s.1<(Int.ofNat s.2.2.length)) then (aN s.2.2 s.1).bind fun a0=>(xU a0.2).bind fun b1=>bif !b1 then some (.done 8) else bif decide (a0.1<0) then some (.done 8) else bif decide (s.2.1<=a0.1) then some (.done 8) else bif decide (0<s.1) then (aN s.2.2 (aA .i64 (s.1-1))).bind fun a2=>bif decide (a0.1<=a2.1) then some (.done 8) else aH gH (s.1,0,s.2.1,s.2.2,a0) else aH gH (s.1,0,s.2.1,s.2.2,a0) else some (.done 0)
def vH (p0:bI):Option Int:=bif decide (200<(Int.ofNat p0.list.length)) then some 8 else bif decide (p0.next_<0) then some 8 else bif decide (1000000<p0.next_) then some 8 else aH rR (0,p0.next_,p0.list)
def aSL:bK:=⟨aC.one (aK.agg gR),aK.int .i64,fun a=>vH a,.pure,false⟩
theorem aBU:aI tab 140 aSL:=Oc aJi rfl aG [(96,c96)] ⟨aEU,trivial⟩ fun a=>by kernel_rfl
def vI (s:aEE):Option aSb:=bif decide (s.2.1<(Int.ofNat s.2.2.length)) then (aN s.2.2 s.2.1).bind fun a0=>bif a0.1==s.1 then some (.done s.2.1) else some (.next (s.1,aA .i64 (s.2.1+1),s.2.2)) else some (.done (-1))
def hO (p0:Field) (p1:Int):Option Int:=aH vI (p1,0,p0.points)
def c97:bK:=⟨aC.cons (aK.agg cM) (aC.one (aK.int .i64)),aK.int .i64,fun a=>hO a.1 a.2,.pure,false⟩
theorem OR:aI tab 97 c97:=Oc aR6 rfl aG [] trivial fun a=>by kernel_rfl
def rS (s:(Int×Int×bY×bY)):Option (bT (Int×Int×bY×bY) Bool):=bif decide (s.1<(Int.ofNat s.2.2.1.length)) then (aN s.2.2.1 s.1).bind fun a0=>(hO (Field.mk s.2.2.2) a0.2.1).bind fun n1=>bif decide (n1<0) then some (.done false) else (aN s.2.2.1 s.1).bind fun a2=>(hO (Field.mk s.2.2.2) a2.2.2).bind fun n3=>bif decide (n3<0) then some (.done false) else some (.next (aA .i64 (s.1+1),s.2)) else some (.done true)
def zD (p0:bI) (p1:Field):Option Bool:=aH rS (0,p0.next_,p0.list,p1.points)
def aVi:bK:=⟨aC.cons (aK.agg gR) (aC.one (aK.agg cM)),aK.bool,fun a=>zD a.1 a.2,.pure,false⟩
theorem aL4:aI tab 141 aVi:=Oc aJj rfl aG [(97,c97)] ⟨OR,trivial⟩ fun a=>by kernel_rfl
def lL (s:aED):Option (bT aED (bT aED Int)):=bif decide (s.2.1<s.1) then (aN s.2.2.1 s.2.1).bind fun n0=>bif decide (n0<0) then some (.done (.done 8)) else (aN s.2.2.1 s.2.1).bind fun n1=>bif decide (1000000<n1) then some (.done (.done 8)) else (aN s.2.2.2.1 s.2.1).bind fun b2=>(aN s.2.2.2.2.2 s.2.1).bind fun b3=>bif b2==b3 then some (.done (.done 8)) else (aN s.2.2.2.1 s.2.1).bind fun b4=>bif b4 then (aN s.2.2.1 s.2.1).bind fun n5=>bif decide (n5<1) then some (.done (.done 8)) else some (.next (s.1,aA .i64 (s.2.1+1),s.2.2)) else some (.next (s.1,aA .i64 (s.2.1+1),s.2.2)) else some (.done (.done 0))
def rT (s:aED):Option (bT aED Int):=bif decide (s.2.1<(Int.ofNat s.2.2.2.2.1.length)) then (aN s.2.2.2.2.1 s.2.1).bind fun n0=>bif decide (n0<0) then some (.done 8) else (aN s.2.2.2.2.1 s.2.1).bind fun n1=>bif decide (s.1<=n1) then some (.done 8) else (aN s.2.2.2.2.1 s.2.1).bind fun n2=>(aN s.2.2.2.2.2 n2).bind fun b3=>bif b3 then some (.done 8) else (aN s.2.2.2.2.1 s.2.1).bind fun n4=>(aN s.2.2.2.2.2 n4).bind fun _=>some (.next (s.1,aA .i64 (s.2.1+1),s.2.2.1,s.2.2.2.1,s.2.2.2.2.1,cR s.2.2.2.2.2 n4 true)) else aH lL (s.1,0,s.2.2)
def zE (p0:aZ):Option Int:=bif decide ((Int.ofNat p0.uses.length)<1) then some 8 else bif decide (200<(Int.ofNat p0.uses.length)) then some 8 else bif (Int.ofNat p0.used.length) !=(Int.ofNat p0.uses.length) then some 8 else bif decide ((Int.ofNat p0.uses.length)<(Int.ofNat p0.free.length)) then some 8 else bif (Int.ofNat p0.uses.length)==(Int.ofNat p0.uses.length) then (IG (Int.ofNat p0.uses.length) (false:Bool)).bind fun l0=>aH rT (Int.ofNat p0.uses.length,0,p0.uses,p0.used,p0.free,l0) else none
def aVj:bK:=⟨aC.one (aK.agg gQ),aK.int .i64,fun a=>zE a,.pure,false⟩
theorem aL5:aI tab 215 aVj:=Oc aJ0 rfl aG [] trivial fun a=>by kernel_rfl
def xV (p0:aZ) (p1:Int×Int):Option Bool:=bif decide (0<=p1.1) then bif decide (p1.1<(Int.ofNat p0.uses.length)) then (aN p0.used p1.1).bind fun b0=>bif b0 then (aN p0.uses p1.1).bind fun n1=>some (n1==p1.2) else some false else some false else some false
def aSM:bK:=⟨aC.cons (aK.agg gQ) (aC.one (aK.agg (cH.row iA))),aK.bool,fun a=>xV a.1 a.2,.pure,false⟩
theorem aBV:aI tab 219 aSM:=Oc aJ4 rfl aG [] trivial fun a=>by kernel_rfl
def pN (s:aSa):Option (bT aSa Bool):=bif decide (s.2.1<s.1) then (aN s.2.2.2.1 s.2.1).bind fun b0=>bif !b0 then (aN s.2.2.2.2.2.2 s.2.1).bind fun n1=>bif n1 !=(-1) then some (.done false) else some (.next (s.1,aA .i64 (s.2.1+1),s.2.2)) else (aN s.2.2.2.2.2.2 s.2.1).bind fun n2=>bif decide (n2<0) then some (.done false) else bif decide ((Int.ofNat s.2.2.2.2.2.1.length)<=n2) then some (.done false) else (aN s.2.2.2.2.2.1 n2).bind fun a3=>bif a3.2.2.2.1 !=s.2.1 then some (.done false) else (aN s.2.2.2.2.2.1 n2).bind fun a4=>(xV (aZ.mk s.2.2.1 s.2.2.2.1 s.2.2.2.2.1) a4.2.2.2).bind fun b5=>bif !b5 then some (.done false) else some (.next (s.1,aA .i64 (s.2.1+1),s.2.2)) else some (.done true)
def wQ (p0:aP):Option Bool:=bif (Int.ofNat p0.where_.length) !=(Int.ofNat p0.slots.uses.length) then some false else bif (Int.ofNat p0.heap.length) !=(aA .i64 ((Int.ofNat p0.slots.uses.length) - (Int.ofNat p0.slots.free.length))) then some false else aH pN (Int.ofNat p0.slots.uses.length,0,p0.slots.uses,p0.slots.used,p0.slots.free,p0.heap,p0.where_)
def aVk:bK:=⟨aC.one (aK.agg dF),aK.bool,fun a=>wQ a,.pure,false⟩
theorem aL6:aI tab 216 aVk:=Oc aJ1 rfl aG [(219,aSM)] ⟨aBV,trivial⟩ fun a=>by kernel_rfl
def uC (p0:Int) (p1:Int):Option (Bool×Int×Int):=some (false,aA .u64 ((aA .u64 ((aA .u64 ((aA .u64 (Int.tdiv p0 4294967296))*(aA .u64 (Int.tdiv p1 4294967296))))+(aA .u64 (Int.tdiv (aA .u64 ((aA .u64 ((aA .u64 (Int.tdiv p0 4294967296))*(Int.tmod p1 4294967296)))+(aA .u64 (Int.tdiv (aA .u64 ((Int.tmod p0 4294967296)*(Int.tmod p1 4294967296))) 4294967296)))) 4294967296))))+(aA .u64 (Int.tdiv (aA .u64 ((aA .u64 ((Int.tmod p0 4294967296)*(aA .u64 (Int.tdiv p1 4294967296))))+(Int.tmod (aA .u64 ((aA .u64 ((aA .u64 (Int.tdiv p0 4294967296))*(Int.tmod p1 4294967296)))+(aA .u64 (Int.tdiv (aA .u64 ((Int.tmod p0 4294967296)*(Int.tmod p1 4294967296))) 4294967296)))) 4294967296))) 4294967296))),aA .u64 ((aA .u64 ((Int.tmod (aA .u64 ((aA .u64 ((Int.tmod p0 4294967296)*(aA .u64 (Int.tdiv p1 4294967296))))+(Int.tmod (aA .u64 ((aA .u64 ((aA .u64 (Int.tdiv p0 4294967296))*(Int.tmod p1 4294967296)))+(aA .u64 (Int.tdiv (aA .u64 ((Int.tmod p0 4294967296)*(Int.tmod p1 4294967296))) 4294967296)))) 4294967296))) 4294967296)*4294967296))+(Int.tmod (aA .u64 ((Int.tmod p0 4294967296)*(Int.tmod p1 4294967296))) 4294967296)))
def aVl:bK:=⟨aC.cons (aK.int .u64) (aC.one (aK.int .u64)),aK.agg (cH.row EE),fun a=>uC a.1 a.2,.pure,false⟩
theorem aL7:aI tab 152 aVl:=Oc aJr rfl aG [] trivial fun a=>by kernel_rfl
def kQ (p0:Int) (p1:Int):Option (Bool×Int×Int):=(iM p0).bind fun n0=>(iM p1).bind fun n1=>(uC n0 n1).bind fun a2=>bif !((decide (p0<0))==(decide (p1<0))) then bif p0 !=0 then some (p1 !=0,a2.2) else some (false,a2.2) else some (false,a2.2)
def c86:bK:=⟨aC.cons (aK.int .i64) (aC.one (aK.int .i64)),aK.agg (cH.row EE),fun a=>kQ a.1 a.2,.pure,false⟩
theorem aEV:aI tab 86 c86:=Oc aRY rfl aG [(95,c95),(152,aVl)] ⟨aAg,aL7,trivial⟩ fun a=>by kernel_rfl
def mL (p0:Bool×Int×Int):Option Int:=bif p0.2.1==0 then bif p0.2.2==0 then some 0 else bif p0.1 then some (-1) else some 1 else bif p0.1 then some (-1) else some 1
def c87:bK:=⟨aC.one (aK.agg (cH.row EE)),aK.int .i64,fun a=>mL a,.pure,false⟩
theorem aEW:aI tab 87 c87:=Oc aRZ rfl aG [] trivial fun a=>by kernel_rfl
def tD (p0:Bool×Int×Int) (p1:Bool×Int×Int):Option Int:=bif p0.2.1 !=p1.2.1 then bif decide (p0.2.1<p1.2.1) then some (-1) else some 1 else bif p0.2.2 !=p1.2.2 then bif decide (p0.2.2<p1.2.2) then some (-1) else some 1 else some 0
def c88:bK:=⟨aC.cons (aK.agg (cH.row EE)) (aC.one (aK.agg (cH.row EE))),aK.int .i64,fun a=>tD a.1 a.2,.pure,false⟩
theorem aEX:aI tab 88 c88:=Oc aR0 rfl aG [] trivial fun a=>by kernel_rfl
def nB (p0:Int×Int) (p1:Int×Int):Option Int:=(kQ p0.1 p1.2).bind fun a0=>(kQ p1.1 p0.2).bind fun a1=>(mL a0).bind fun n2=>(mL a1).bind fun n3=>bif n2 !=n3 then (mL a0).bind fun n4=>(mL a1).bind fun n5=>bif decide (n4<n5) then some (-1) else some 1 else (mL a0).bind fun n6=>bif decide (n6<0) then (tD a1 a0).bind fun n7=>some n7 else (tD a0 a1).bind fun n8=>some n8
def c31:bK:=⟨aC.cons (aK.agg (cH.row iA)) (aC.one (aK.agg (cH.row iA))),aK.int .i64,fun a=>nB a.1 a.2,.pure,false⟩
theorem aAi:aI tab 31 c31:=Oc aRi rfl aG [(86,c86),(87,c87),(88,c88)] ⟨aEV,aEW,aEX,trivial⟩ fun a=>by kernel_rfl
def eS (p0:Int×Int×Int×Int×Int) (p1:Int×Int×Int×Int×Int):Option Bool:=(nB (p0.1,p0.2.1) (p1.1,p1.2.1)).bind fun n0=>bif decide (n0<0) then some true else bif n0==0 then some (decide (p0.2.2.1<p1.2.2.1)) else some false
def aAj:bK:=⟨aC.cons (aK.agg (cH.row jZ)) (aC.one (aK.agg (cH.row jZ))),aK.bool,fun a=>eS a.1 a.2,.pure,false⟩
theorem FJ:aI tab 217 aAj:=Oc aJ2 rfl aG [(31,c31)] ⟨aAi,trivial⟩ fun a=>by kernel_rfl
def lM (s:aUg):Option (bT aUg aR9):=bif decide (s.2.1<s.1) then (aN s.2.2.2.2.2.1 s.2.1).bind fun a0=>bif a0.2.2.1==s.2.2.2.2.2.2.2.2.2.1 then some (.done (.done 8)) else some (.next (s.1,aA .i64 (s.2.1+1),s.2.2)) else some (.done (.next (aA .i64 (s.1+1),s.2.2.1,s.2.2.2.1,s.2.2.2.2.1,s.2.2.2.2.2.1,s.2.2.2.2.2.2.1)))
def lN (s:I3):Option (bT I3 aR9):=bif decide (s.1<(Int.ofNat s.2.2.2.2.1.length)) then (aN s.2.2.2.2.1 s.1).bind fun a0=>(aN s.2.2.2.2.1 (aA .i64 (Int.tdiv (aA .i64 (s.1-1)) 2))).bind fun a1=>(eS a0 a1).bind fun b2=>bif b2 then some (.done (.done 8)) else some (.next (aA .i64 (s.1+1),s.2)) else some (.done (.done 0))
def rU (s:I3):Option aR9:=bif decide (s.1<(Int.ofNat s.2.2.2.2.1.length)) then (aN s.2.2.2.2.1 s.1).bind fun a0=>(qO (a0.1,a0.2.1)).bind fun n1=>bif n1 !=0 then some (.done 8) else bif decide (a0.2.2.1<0) then some (.done 8) else bif decide (1000000<a0.2.2.1) then some (.done 8) else aH lM (s.1,0,s.2.1,s.2.2.1,s.2.2.2.1,s.2.2.2.2.1,s.2.2.2.2.2,a0) else aH lN (1,s.2)
def vJ (p0:aP):Option Int:=(zE p0.slots).bind fun n0=>bif n0 !=0 then some 8 else (wQ p0).bind fun b1=>bif !b1 then some 8 else aH rU (0,p0.slots.uses,p0.slots.used,p0.slots.free,p0.heap,p0.where_)
def aSN:bK:=⟨aC.one (aK.agg dF),aK.int .i64,fun a=>vJ a,.pure,false⟩
theorem aBW:aI tab 142 aSN:=Oc aJk rfl aG [(215,aVj),(216,aVk),(36,c36),(217,aAj)] ⟨aL5,aL6,aAh,FJ,trivial⟩ fun a=>by kernel_rfl
def vK (p0:Bool×Int×Int) (p1:Bool×Int×Int):Option (Bool×Int×Int):=bif decide (p0.2.2<p1.2.2) then some (false,aA .u64 ((aA .u64 (p0.2.1-p1.2.1)) -1),aA .u64 (p0.2.2-p1.2.2)) else some (false,aA .u64 (p0.2.1-p1.2.1),aA .u64 (p0.2.2-p1.2.2))
def aVm:bK:=⟨aC.cons (aK.agg (cH.row EE)) (aC.one (aK.agg (cH.row EE))),aK.agg (cH.row EE),fun a=>vK a.1 a.2,.pure,false⟩
theorem aL8:aI tab 272 aVm:=Oc aKC rfl aG [] trivial fun a=>by kernel_rfl
def CK (p0:Bool×Int×Int) (p1:Bool×Int×Int):Option (Bool×Int×Int):=bif p0.1==p1.1 then bif decide ((aA .u64 (p0.2.2+p1.2.2))<p0.2.2) then some (p0.1,aA .u64 ((aA .u64 (p0.2.1+p1.2.1))+1),aA .u64 (p0.2.2+p1.2.2)) else some (p0.1,aA .u64 (p0.2.1+p1.2.1),aA .u64 (p0.2.2+p1.2.2)) else (tD p0 p1).bind fun n0=>bif decide (0<=n0) then (vK p0 p1).bind fun a1=>bif p0.1 then bif decide (0<a1.2.1) then some (true,a1.2) else some (decide (0<a1.2.2),a1.2) else some (false,a1.2) else (vK p1 p0).bind fun a2=>some (p1.1,a2.2)
def aVn:bK:=⟨aC.cons (aK.agg (cH.row EE)) (aC.one (aK.agg (cH.row EE))),aK.agg (cH.row EE),fun a=>CK a.1 a.2,.pure,false⟩
theorem aL9:aI tab 227 aVn:=Oc aKb rfl aG [(88,c88),(272,aVm)] ⟨aEX,aL8,trivial⟩ fun a=>by kernel_rfl
def FK (p0:Int×Int×Int) (p1:Int×Int×Int) (p2:Int×Int):Option Int:=(kQ (aA .i64 (p0.2.1-p1.2.1)) p2.2).bind fun a0=>(kQ (aA .i64 (p0.2.2-p1.2.2)) p2.1).bind fun a1=>(CK a0 a1).bind fun a2=>(mL a2).bind fun n3=>some n3
def aVo:bK:=⟨aC.cons (aK.agg (cH.row fG)) (aC.cons (aK.agg (cH.row fG)) (aC.one (aK.agg (cH.row iA)))),aK.int .i64,fun a=>FK a.1 a.2.1 a.2.2,.pure,false⟩
theorem aMa:aI tab 160 aVo:=Oc aJw rfl aG [(86,c86),(227,aVn),(87,c87)] ⟨aEV,aL9,aEW,trivial⟩ fun a=>by kernel_rfl
def qP (p0:Int×Int×Int) (p1:Int×Int×Int) (p2:Int×Int):Option Bool:=(FK p0 p1 p2).bind fun n0=>bif n0 !=0 then some (decide (0<n0)) else bif p0.2.2 !=p1.2.2 then some (decide (p1.2.2<p0.2.2)) else some (decide (p0.1<p1.1))
def c98:bK:=⟨aC.cons (aK.agg (cH.row fG)) (aC.cons (aK.agg (cH.row fG)) (aC.one (aK.agg (cH.row iA)))),aK.bool,fun a=>qP a.1 a.2.1 a.2.2,.pure,false⟩
theorem aAk:aI tab 98 c98:=Oc aR7 rfl aG [(160,aVo)] ⟨aMa,trivial⟩ fun a=>by kernel_rfl
def tF (p0:Bool) (p1:Bool×Int×Int) (p2:Bool×Int×Int):Option ((Int×Int)×Int):=bif decide (0<p1.2.1) then some ((0,0),16) else bif decide (9223372036854775807<p1.2.2) then some ((0,0),16) else bif decide (0<p2.2.1) then some ((0,0),16) else bif decide (9223372036854775807<p2.2.2) then some ((0,0),16) else bif p0 then some ((aA .i64 (0- (aA .i64 p1.2.2)),aA .i64 p2.2.2),0) else some ((aA .i64 p1.2.2,aA .i64 p2.2.2),0)
def aVp:bK:=⟨aC.cons aK.bool (aC.cons (aK.agg (cH.row EE)) (aC.one (aK.agg (cH.row EE)))),aK.tup (aC.cons (aK.agg (cH.row iA)) (aC.one (aK.int .i64))),fun a=>tF a.1 a.2.1 a.2.2,.pure,false⟩
theorem aMb:aI tab 312 aVp:=Oc aKV rfl aG [] trivial fun a=>by kernel_rfl
def nX (p0:Int) (p1:Int):Option ((Int×Int)×Int):=bif p1==0 then some ((0,0),26) else (iM p0).bind fun n0=>(iM p1).bind fun n1=>(rQ n0 n1).bind fun n2=>bif !((decide (p0<0))==(decide (p1<0))) then (iM p0).bind fun n3=>bif n2==0 then none else (iM p1).bind fun n4=>bif n2==0 then none else (tF (p0 !=0) (false,0,aA .u64 (Int.tdiv n3 n2)) (false,0,aA .u64 (Int.tdiv n4 n2))).bind fun a5=>some a5 else (iM p0).bind fun n6=>bif n2==0 then none else (iM p1).bind fun n7=>bif n2==0 then none else (tF false (false,0,aA .u64 (Int.tdiv n6 n2)) (false,0,aA .u64 (Int.tdiv n7 n2))).bind fun a8=>some a8
def aVq:bK:=⟨aC.cons (aK.int .i64) (aC.one (aK.int .i64)),aK.tup (aC.cons (aK.agg (cH.row iA)) (aC.one (aK.int .i64))),fun a=>nX a.1 a.2,.pure,false⟩
theorem aMc:aI tab 296 aVq:=Oc aKP rfl aG [(95,c95),(94,c94),(312,aVp)] ⟨aAg,aET,aMb,trivial⟩ fun a=>by kernel_rfl
def FL (p0:Int×Int×Int) (p1:Int×Int×Int):Option (Int×Int):=(nX (aA .i64 (p0.2.1-p1.2.1)) (aA .i64 (p1.2.2-p0.2.2))).bind fun a0=>some a0.1
def aVr:bK:=⟨aC.cons (aK.agg (cH.row fG)) (aC.one (aK.agg (cH.row fG))),aK.agg (cH.row iA),fun a=>FL a.1 a.2,.pure,false⟩
theorem aMd:aI tab 261 aVr:=Oc aKz rfl aG [(296,aVq)] ⟨aMc,trivial⟩ fun a=>by kernel_rfl
def uD (p0:Int×Int×Int) (p1:Int×Int×Int) (p2:Int×Int):Option ((Int×Int)×Bool):=(qP p1 p0 p2).bind fun b0=>bif b0 then some (p2,true) else bif decide (p0.2.2<p1.2.2) then (FL p0 p1).bind fun a1=>some (a1,true) else some ((0,0),false)
def aVs:bK:=⟨aC.cons (aK.agg (cH.row fG)) (aC.cons (aK.agg (cH.row fG)) (aC.one (aK.agg (cH.row iA)))),aK.tup (aC.cons (aK.agg (cH.row iA)) (aC.one aK.bool)),fun a=>uD a.1 a.2.1 a.2.2,.pure,false⟩
theorem aMe:aI tab 218 aVs:=Oc aJ3 rfl aG [(98,c98),(261,aVr)] ⟨aAk,aMd,trivial⟩ fun a=>by kernel_rfl
def tG (p0:Field) (p1:Int×Int) (p2:Int×Int):Option ((Int×Int)×Bool):=(hO p0 p1.2).bind fun n0=>(aN p0.points n0).bind fun a1=>(hO p0 p1.1).bind fun n2=>(aN p0.points n2).bind fun a3=>(uD a1 a3 p2).bind fun a4=>some a4
def aMf:bK:=⟨aC.cons (aK.agg cM) (aC.cons (aK.agg (cH.row iA)) (aC.one (aK.agg (cH.row iA)))),aK.tup (aC.cons (aK.agg (cH.row iA)) (aC.one aK.bool)),fun a=>tG a.1 a.2.1 a.2.2,.pure,false⟩
theorem UD:aI tab 143 aMf:=Oc aJl rfl aG [(97,c97),(218,aVs)] ⟨OR,aMe,trivial⟩ fun a=>by kernel_rfl
def xW (p0:aP) (p1:Int×Int):Option ((Int×Int×Int×Int×Int)×Int):=(vJ p0).bind fun n0=>bif n0 !=0 then some ((0,0,0,0,0),8) else (xV p0.slots p1).bind fun b1=>bif !b1 then some ((0,0,0,0,0),6) else (aN p0.where_ p1.1).bind fun n2=>(aN p0.heap n2).bind fun a3=>some (a3,0)
def aVt:bK:=⟨aC.cons (aK.agg dF) (aC.one (aK.agg (cH.row iA))),aK.tup (aC.cons (aK.agg (cH.row jZ)) (aC.one (aK.int .i64))),fun a=>xW a.1 a.2,.pure,false⟩
theorem aMg:aI tab 144 aVt:=Oc aJm rfl aG [(142,aSN),(219,aSM)] ⟨aBW,aBV,trivial⟩ fun a=>by kernel_rfl
def dR (s:aR8):Option aT6:=bif decide (s.2.1<(Int.ofNat s.2.2.2.2.2.2.1.length)) then (aN s.2.2.2.2.2.2.1 s.2.1).bind fun a0=>(tG (Field.mk s.2.2.2.2.1) a0.2 (s.2.2.1,s.2.2.2.1)).bind fun a1=>bif !a1.2 then some (.next (s.1,aA .i64 (s.2.1+1),s.2.2)) else bif decide ((Int.ofNat s.2.2.2.2.2.2.2.2.2.2.2.2.length)<=s.1) then some (.done 8) else (aN s.2.2.2.2.2.2.2.2.2.2.2.2 s.1).bind fun a2=>bif a2.1 !=a0.1 then some (.done 8) else (aN s.2.2.2.2.2.2.2.2.2.2.2.2 s.1).bind fun a3=>(xW (aP.mk (aZ.mk s.2.2.2.2.2.2.2.1 s.2.2.2.2.2.2.2.2.1 s.2.2.2.2.2.2.2.2.2.1) s.2.2.2.2.2.2.2.2.2.2.1 s.2.2.2.2.2.2.2.2.2.2.2.1) a3.2).bind fun a4=>bif a4.2 !=0 then some (.done 8) else bif a4.1.2.2.1 !=a0.1 then some (.done 8) else bif !((a4.1.1==a1.1.1)&&(a4.1.2.1==a1.1.2)) then some (.done 8) else some (.next (aA .i64 (s.1+1),aA .i64 (s.2.1+1),s.2.2)) else bif s.1 !=(Int.ofNat s.2.2.2.2.2.2.2.2.2.2.2.2.length) then some (.done 8) else some (.done 0)
def zF (p0:aO):Option Int:=(qO p0.now).bind fun n0=>bif n0 !=0 then some 8 else (zC p0.field).bind fun n1=>bif n1 !=0 then some 8 else (vH p0.certs).bind fun n2=>bif n2 !=0 then some 8 else (zD p0.certs p0.field).bind fun b3=>bif !b3 then some 8 else (vJ p0.agenda).bind fun n4=>bif n4 !=0 then some 8 else bif (Int.ofNat p0.agenda.where_.length) !=200 then some 8 else bif (Int.ofNat p0.agenda.heap.length) !=(Int.ofNat p0.due.length) then some 8 else aH dR (0,0,p0.now.1,p0.now.2,p0.field.points,p0.certs.next_,p0.certs.list,p0.agenda.slots.uses,p0.agenda.slots.used,p0.agenda.slots.free,p0.agenda.heap,p0.agenda.where_,p0.due)
def c75:bK:=⟨aC.one (aK.agg bJ),aK.int .i64,fun a=>zF a,.pure,false⟩
theorem aSO:aI tab 75 c75:=Oc aRN rfl aG [(36,c36),(29,c29),(140,aSL),(141,aVi),(142,aSN),(143,aMf),(144,aVt)] ⟨aAh,aSK,aBU,aL4,aBW,UD,aMg,trivial⟩ fun a=>by kernel_rfl
def rV (s:((List Int)×Int×Int)):Option (bT ((List Int)×Int×Int) (bT ((List Int)×Int) Bool)):=bif decide (s.2.2<s.2.1) then (aN s.1 s.2.1).bind fun n0=>bif decide (0<=n0) then (aN s.1 s.2.2).bind fun n1=>(aN s.1 s.2.1).bind fun n2=>bif n1==n2 then some (.done (.done true)) else some (.next (s.1,s.2.1,aA .i64 (s.2.2+1))) else some (.next (s.1,s.2.1,aA .i64 (s.2.2+1))) else some (.done (.next (s.1,aA .i64 (s.2.1+1))))
def rW (s:((List Int)×Int)):Option (bT ((List Int)×Int) Bool):=bif decide (s.2<(Int.ofNat s.1.length)) then aH rV (s.1,s.2,0) else some (.done false)
def EP (p0:List Int):Option Bool:=aH rW (p0,0)
def aVu:bK:=⟨aC.one (aK.sl ki),aK.bool,fun a=>EP a,.pure,false⟩
theorem aMh:aI tab 145 aVu:=Oc aJn rfl aG [] trivial fun a=>by kernel_rfl
def jP (p0:bF) (p1:Int):Option Int:=bif decide (p1<(Int.ofNat p0.wins.length)) then (aN p0.wins p1).bind fun n0=>some n0 else (aN p0.places (aA .i64 (p1- (Int.ofNat p0.wins.length)))).bind fun n1=>some n1
def c40:bK:=⟨aC.cons (aK.agg eH) (aC.one (aK.int .i64)),aK.int .i64,fun a=>jP a.1 a.2,.pure,false⟩
theorem UE:aI tab 40 c40:=Oc aRm rfl aG [] trivial fun a=>by kernel_rfl
def nY (s:(Int×(List Int)×(List Int))):Option (bT (Int×(List Int)×(List Int)) (bT (Int×Int×(List Int)×(List Int)) Int)):=bif decide (s.1<(Int.ofNat s.2.2.length)) then (jP (bF.mk s.2.1 s.2.2) (aA .i64 ((aA .i64 (2*s.1))+1))).bind fun n0=>(jP (bF.mk s.2.1 s.2.2) (aA .i64 ((aA .i64 (2*s.1))+2))).bind fun n1=>(aN s.2.2 s.1).bind fun n2=>bif n2 !=n0 then (aN s.2.2 s.1).bind fun n3=>bif n3 !=n1 then some (.done (.done 8)) else (aN s.2.2 s.1).bind fun n4=>bif n4==(-1) then bif n0 !=(-1) then some (.done (.done 8)) else bif n1 !=(-1) then some (.done (.done 8)) else some (.next (aA .i64 (s.1+1),s.2)) else some (.next (aA .i64 (s.1+1),s.2)) else (aN s.2.2 s.1).bind fun n5=>bif n5==(-1) then bif n0 !=(-1) then some (.done (.done 8)) else bif n1 !=(-1) then some (.done (.done 8)) else some (.next (aA .i64 (s.1+1),s.2)) else some (.next (aA .i64 (s.1+1),s.2)) else some (.done (.done 0))
def rX (s:(Int×Int×(List Int)×(List Int))):Option (bT (Int×Int×(List Int)×(List Int)) Int):=bif decide (s.2.1<s.1) then (aN s.2.2.1 s.2.1).bind fun n0=>bif decide (n0<(-1)) then some (.done 8) else (aN s.2.2.1 s.2.1).bind fun n1=>bif decide (65535<n1) then some (.done 8) else some (.next (s.1,aA .i64 (s.2.1+1),s.2.2)) else aH nY (0,s.2.2)
def vL (p0:bF):Option Int:=bif decide ((Int.ofNat p0.places.length)<1) then some 8 else bif decide (64<(Int.ofNat p0.places.length)) then some 8 else bif (Int.ofNat p0.wins.length) !=(aA .i64 ((Int.ofNat p0.places.length) -1)) then some 8 else (EP p0.places).bind fun b0=>bif b0 then some 8 else aH rX (Int.ofNat p0.places.length,0,p0.places,p0.wins)
def c76:bK:=⟨aC.one (aK.agg eH),aK.int .i64,fun a=>vL a,.pure,false⟩
theorem aSP:aI tab 76 c76:=Oc aRO rfl aG [(145,aVu),(40,c40)] ⟨aMh,UE,trivial⟩ fun a=>by kernel_rfl
def rY (s:(Int×Int)):Option (bT (Int×Int) Bool):=bif decide (s.2<=64) then bif s.1==s.2 then some (.done true) else some (.next (s.1,aA .i64 (s.2*2))) else some (.done false)
def zG (p0:Int):Option Bool:=aH rY (p0,1)
def c77:bK:=⟨aC.one (aK.int .i64),aK.bool,fun a=>zG a,.pure,false⟩
theorem aSQ:aI tab 77 c77:=Oc aRP rfl aG [] trivial fun a=>by kernel_rfl
def rZ (s:((List Int)×Int×bY)):Option (bT ((List Int)×Int×bY) Bool):=bif decide (s.2.1<(Int.ofNat s.1.length)) then (aN s.1 s.2.1).bind fun n0=>bif n0 !=(-1) then (aN s.1 s.2.1).bind fun n1=>(hO (Field.mk s.2.2) n1).bind fun n2=>bif decide (n2<0) then some (.done false) else some (.next (s.1,aA .i64 (s.2.1+1),s.2.2)) else some (.next (s.1,aA .i64 (s.2.1+1),s.2.2)) else some (.done true)
def zH (p0:Field) (p1:List Int):Option Bool:=aH rZ (p1,0,p0.points)
def c78:bK:=⟨aC.cons (aK.agg cM) (aC.one (aK.sl ki)),aK.bool,fun a=>zH a.1 a.2,.pure,false⟩
theorem aSR:aI tab 78 c78:=Oc aRQ rfl aG [(97,c97)] ⟨OR,trivial⟩ fun a=>by kernel_rfl
def wR (s:((List Int)×Int×(List Int))):Option (bT ((List Int)×Int×(List Int)) (List Int)):=bif decide (s.2.1<(Int.ofNat s.1.length)) then (aN s.1 s.2.1).bind fun n0=>bif decide (0<=n0) then (aN s.1 s.2.1).bind fun n1=>(bV s.2.2 [n1]).bind fun l2=>some (.next (s.1,aA .i64 (s.2.1+1),l2)) else some (.next (s.1,aA .i64 (s.2.1+1),s.2.2)) else some (.done s.2.2)
def FM (p0:List Int):Option (List Int):=aH wR (p0,0,[])
def c79:bK:=⟨aC.one (aK.sl ki),aK.sl ki,fun a=>FM a,.frz,false⟩
theorem aSS:aI tab 79 c79:=Oc aRR rfl aG [] trivial fun a=>by kernel_rfl
def wY (p0:Field) (p1:Int×Int) (p2:Int) (p3:Int):Option Int:=bif decide (p2<0) then some p3 else bif decide (p3<0) then some p2 else (hO p0 p2).bind fun n0=>(aN p0.points n0).bind fun a1=>(hO p0 p3).bind fun n2=>(aN p0.points n2).bind fun a3=>(qP a1 a3 p1).bind fun b4=>bif b4 then some p2 else some p3
def c41:bK:=⟨aC.cons (aK.agg cM) (aC.cons (aK.agg (cH.row iA)) (aC.cons (aK.int .i64) (aC.one (aK.int .i64)))),aK.int .i64,fun a=>wY a.1 a.2.1 a.2.2.1 a.2.2.2,.pure,false⟩
theorem aEY:aI tab 41 c41:=Oc aRn rfl aG [(97,c97),(98,c98)] ⟨OR,aAk,trivial⟩ fun a=>by kernel_rfl
def uE (s:(Int×(List Int)×(List Int)×bY×Int×Int)):Option (bT (Int×(List Int)×(List Int)×bY×Int×Int) Bool):=bif decide (s.1<(Int.ofNat s.2.2.1.length)) then (aN s.2.2.1 s.1).bind fun n0=>(jP (bF.mk s.2.1 s.2.2.1) (aA .i64 ((aA .i64 (2*s.1))+1))).bind fun n1=>(jP (bF.mk s.2.1 s.2.2.1) (aA .i64 ((aA .i64 (2*s.1))+2))).bind fun n2=>(wY (Field.mk s.2.2.2.1) s.2.2.2.2 n1 n2).bind fun n3=>bif n0 !=n3 then some (.done false) else some (.next (aA .i64 (s.1+1),s.2)) else some (.done true)
def xX (p0:bF) (p1:Field) (p2:Int×Int):Option Bool:=aH uE (0,p0.places,p0.wins,p1.points,p2)
def c80:bK:=⟨aC.cons (aK.agg eH) (aC.cons (aK.agg cM) (aC.one (aK.agg (cH.row iA)))),aK.bool,fun a=>xX a.1 a.2.1 a.2.2,.pure,false⟩
theorem aST:aI tab 80 c80:=Oc aRS rfl aG [(40,c40),(41,c41)] ⟨UE,aEY,trivial⟩ fun a=>by kernel_rfl
def zI (s:(Int×(List Int)×(List Int)×qY)):Option (bT (Int×(List Int)×(List Int)×qY) qY):=bif decide (s.1<(Int.ofNat s.2.2.1.length)) then (jP (bF.mk s.2.1 s.2.2.1) (aA .i64 ((aA .i64 (2*s.1))+1))).bind fun n0=>(jP (bF.mk s.2.1 s.2.2.1) (aA .i64 ((aA .i64 (2*s.1))+2))).bind fun n1=>bif decide (n0<0) then some (.next (aA .i64 (s.1+1),s.2)) else bif decide (n1<0) then some (.next (aA .i64 (s.1+1),s.2)) else (aN s.2.2.1 s.1).bind fun n2=>bif n2==n0 then (bV s.2.2.2 [(n1,n0)]).bind fun l3=>some (.next (aA .i64 (s.1+1),s.2.1,s.2.2.1,l3)) else (bV s.2.2.2 [(n0,n1)]).bind fun l4=>some (.next (aA .i64 (s.1+1),s.2.1,s.2.2.1,l4)) else some (.done s.2.2.2)
def BC (p0:bF):Option qY:=aH zI (0,p0.places,p0.wins,[])
def c62:bK:=⟨aC.one (aK.agg eH),aK.sl iA,fun a=>BC a,.frz,false⟩
theorem aEZ:aI tab 62 c62:=Oc aRC rfl aG [(40,c40)] ⟨UE,trivial⟩ fun a=>by kernel_rfl
def wS (s:(Int×Int×bY×Int×Int)):Option (bT (Int×Int×bY×Int×Int) Bool):=bif decide (s.1<(Int.ofNat s.2.2.1.length)) then (aN s.2.2.1 s.1).bind fun a0=>bif (a0.2.1==s.2.2.2.1)&&(a0.2.2==s.2.2.2.2) then some (.done true) else some (.next (aA .i64 (s.1+1),s.2)) else some (.done false)
def wZ (p0:bI) (p1:Int×Int):Option Bool:=aH wS (0,p0.next_,p0.list,p1)
def aMi:bK:=⟨aC.cons (aK.agg gR) (aC.one (aK.agg (cH.row iA))),aK.bool,fun a=>wZ a.1 a.2,.pure,false⟩
theorem UF:aI tab 146 aMi:=Oc aJo rfl aG [] trivial fun a=>by kernel_rfl
def CL (p0:Int×Int) (p1:Field) (p2:Int×Int):Option Bool:=(hO p1 p0.2).bind fun n0=>(aN p1.points n0).bind fun a1=>(hO p1 p0.1).bind fun n2=>(aN p1.points n2).bind fun a3=>(qP a1 a3 p2).bind fun b4=>some b4
def aVw:bK:=⟨aC.cons (aK.agg (cH.row iA)) (aC.cons (aK.agg cM) (aC.one (aK.agg (cH.row iA)))),aK.bool,fun a=>CL a.1 a.2.1 a.2.2,.pure,false⟩
theorem aMj:aI tab 147 aVw:=Oc aJp rfl aG [(97,c97),(98,c98)] ⟨OR,aAk,trivial⟩ fun a=>by kernel_rfl
def uF (s:aT5):Option (bT aT5 Bool):=bif decide (s.2.1<(Int.ofNat s.1.length)) then (aN s.1 s.2.1).bind fun a0=>(wZ (bI.mk s.2.2.2.2.2.1 s.2.2.2.2.2.2.1) a0).bind fun b1=>bif !b1 then some (.done false) else (aN s.1 s.2.1).bind fun a2=>(CL a2 (Field.mk s.2.2.2.2.1) (s.2.2.1,s.2.2.2.1)).bind fun b3=>bif !b3 then some (.done false) else some (.next (s.1,aA .i64 (s.2.1+1),s.2.2)) else some (.done true)
end
end
end Go.Proofs.YtlnclppkepgdmaaGreat
