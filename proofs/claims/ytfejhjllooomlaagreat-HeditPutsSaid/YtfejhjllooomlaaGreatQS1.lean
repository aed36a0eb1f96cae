/- Plain functions for what the functions of the seat compute. Printed by a program. -/
import Derived.Test.YtfejhjllooomlaaGreatVm3
import Derived.Test.YtfejhjllooomlaaGreatQXT
set_option maxRecDepth 100000
namespace Go.Proofs.YtfejhjllooomlaaGreat
open Go.Vm
noncomputable section
theorem Oc {f:FuncId} {x:aQ} {α β:Type} {args:aD α} {res:aN β} {kd:Kd} {fn:α->Option β} {ow:Bool} (hf:aY f=some (.code x)) (ho:aDf kd ow=true) (lp:Option Nat) (l:List (Nat×bM)) (h:FJ aY l) (e: ∀a,aJv (pH lp l [] [] []) x args res kd a=fn a):aM aY f ⟨args,res,fn,kd,ow⟩:=aM.of hf (cx:=pH lp l [] [] []) ho (mK.make h trivial trivial) e
abbrev eF:List PT:=[.i .i64,.i .i64,.i .i64]
abbrev ki:List PT:=[.i .i64]
abbrev kb:List PT:=[.b]
abbrev lW:List PT:=[.i .i64,.i .i64,.i .i64,.i .i64,.i .i64]
abbrev kN:List PT:=[.i .i64,.i .i64]
abbrev CR:List PT:=[.b,.i .u64,.i .u64]
abbrev aPk:List PT:=[.i .i64,.i .i64,.i .i64,.i .i64]
abbrev kiu:List PT:=[.i .i64,.i .u64]
structure Field where
 points:List (Int×Int×Int)
def cC:cP Field:=cP.iso (cP.sl eF) (fun p=>⟨p⟩) (fun c=>c.points) (fun _=>rfl)
structure aR where
 uses:List Int
 used:List Bool
 free:List Int
def gL:cP aR:=cP.iso (cP.prod (cP.sl ki) (cP.prod (cP.sl kb) (cP.sl ki))) (fun p=>⟨p.1,p.2.1,p.2.2⟩) (fun c=>(c.uses,c.used,c.free)) (fun _=>rfl)
structure aG where
 slots:aR
 heap:List (Int×Int×Int×Int×Int)
 where_:List Int
def dE:cP aG:=cP.iso (cP.prod gL (cP.prod (cP.sl lW) (cP.sl ki))) (fun p=>⟨p.1,p.2.1,p.2.2⟩) (fun c=>(c.slots,c.heap,c.where_)) (fun _=>rfl)
structure aU where
 next_:Int
 list:List (Int×Int×Int)
def gS:cP aU:=cP.iso (cP.prod (cP.int .i64) (cP.sl eF)) (fun p=>⟨p.1,p.2⟩) (fun c=>(c.next_,c.list)) (fun _=>rfl)
structure aP where
 now:Int×Int
 field:Field
 certs:aU
 agenda:aG
 due:List (Int×Int×Int)
def bV:cP aP:=cP.iso (cP.prod (cP.row kN) (cP.prod cC (cP.prod gS (cP.prod dE (cP.sl eF))))) (fun p=>⟨p.1,p.2.1,p.2.2.1,p.2.2.2.1,p.2.2.2.2⟩) (fun c=>(c.now,c.field,c.certs,c.agenda,c.due)) (fun _=>rfl)
structure cD where
 clock:aP
 heap:List Int
def gC:cP cD:=cP.iso (cP.prod bV (cP.sl ki)) (fun p=>⟨p.1,p.2⟩) (fun c=>(c.clock,c.heap)) (fun _=>rfl)
theorem wJ:aM aY 173 (bM.clone kb):=aM.clone aGi rfl
theorem aBG:aM aY 275 (bM.add64):=aM.add64 aHd
theorem AZ:aM aY 91 (bM.clone eF):=aM.clone aND rfl
theorem qN:aM aY 64 (bM.clone ki):=aM.clone aNn rfl
theorem zR:aM aY 170 (bM.clone eF):=aM.clone aGf rfl
theorem GT:aM aY 171 (bM.clone eF):=aM.clone aGg rfl
theorem wK:aM aY 172 (bM.clone lW):=aM.clone aGh rfl
theorem SL:aM aY 290 (bM.clone ki):=aM.clone aHl rfl
section
abbrev iK:=List (Int×Int×Int×Int×Int)
abbrev bJ:=List (Int×Int×Int)
abbrev yN:=List (Int×Int)
abbrev Z6:=yN×yN×Int×Int×Int×Int×bJ×Int×bJ×(List Int)×(List Bool)×(List Int)×iK×(List Int)×bJ×bJ×Int×Int×Int
abbrev aPl:=cA Z6 (aP×Int)
abbrev Zt3:=cA Z6 aPl
abbrev Zt5:=bJ×Int×Int×Int×Int×bJ×Int×bJ×(List Int)×(List Bool)×(List Int)×iK×(List Int)×bJ×bJ×Int×Int×Int×Int×Int×Int×bJ×(List Int)×(List Bool)×(List Int)×iK×(List Int)×bJ×bJ
abbrev Zt9:=Int×Int×Int×bJ×Int×bJ×(List Int)×(List Bool)×(List Int)×iK×(List Int)×bJ×(List Int)×Int×Int×Int×Int×Int×Int×bJ×(List Int)×(List Int)×bJ×Int×Int
abbrev aPm:=yN×bJ×Int×Int×Int×Int×bJ×Int×bJ×(List Int)×(List Bool)×(List Int)×iK×(List Int)×bJ×bJ×Int×Int×Int
abbrev aPn:=cA aPm (aP×Int)
abbrev aPo:=bJ×Int×Int×Int×Int×bJ×Int×bJ×(List Int)×(List Bool)×(List Int)×iK×(List Int)×bJ×bJ×Int×Int×Int
abbrev aPp:=cA aPo (aP×Int)
abbrev aPq:=yN×bJ×Int×Int×Int×Int×bJ×Int×bJ×(List Int)×(List Bool)×(List Int)×iK×(List Int)×bJ×(List Int)
abbrev aPr:=bJ×bJ×Int×Int×Int×Int×bJ×Int×bJ×(List Int)×(List Bool)×(List Int)×iK×(List Int)×bJ
abbrev aPs:=bJ×Int×Int×Int×Int×bJ×Int×bJ×(List Int)×(List Bool)×(List Int)×iK×(List Int)×bJ×(List Int)
abbrev aPt:=cA aPs Int
abbrev aPu:=yN×Int×Int×Int×Int×bJ×Int×bJ×(List Int)×(List Bool)×(List Int)×iK×(List Int)×bJ×Int×Int×Int
abbrev aHn:=Int×Int×Int×Int×bJ×Int×bJ×(List Int)×(List Bool)×(List Int)×iK×(List Int)×bJ×(List Int)
abbrev aPv:=cA aHn Int
abbrev aPw:=Int×Int×Int×bJ×Int×bJ×(List Int)×(List Bool)×(List Int)×iK×(List Int)×bJ×(List Int)
abbrev aPx:=cA aPw Int
abbrev aPy:=yN×Int×Int×Int×bJ×Int×bJ×(List Int)×(List Bool)×(List Int)×iK×(List Int)×bJ
abbrev aNL:=Int×Int×Int×Int×bJ×Int×bJ×(List Int)×(List Bool)×(List Int)×iK×(List Int)×bJ
abbrev aPz:=cA aNL Int
abbrev aPA:=Int×iK×(List Int)×(List Int)×(List Bool)×(List Int)×Nat×Nat×Int×Int×Int×Int×Int
abbrev NF:=iK×(List Int)
abbrev aPB:=cA aPA NF
abbrev aPC:=Int×iK×(List Int)×(List Int)×(List Bool)×(List Int)×Int×Int×Int×Int×Int
abbrev aPD:=cA aPC NF
abbrev aPE:=iK×Int×Int×(List Int)×(List Bool)×(List Int)×iK×(List Int)×(List (List Int))
abbrev aPF:=Int×Int×iK×(List Int)×(List Int)×(List Bool)×(List Int)×Nat×Nat×Int×Int×Int×Int×Int
abbrev aHo:=(List Int)×(List Bool)×(List Int)×Nat×Nat×Int×Int×Int×Int×Int×Int×iK×(List Int)
abbrev aPG:=Int×Int×iK×(List Int)×(List Int)×(List Bool)×(List Int)×Int×Int×Int×Int×Int
abbrev aPH:=Int×Int×(List Int)×(List Bool)×(List Int)×iK×(List Int)×Int×Int×Int×Int×Int
abbrev aHp:=(List Int)×(List Bool)×(List Int)×Int×Int×Int×Int×Int×Int×iK×(List Int)
abbrev aPI:=(List Int)×Int×Int×(List Int)×(List Bool)×(List Int)×iK×(List Int)
abbrev aPJ:=cA aPI Int
abbrev aHq:=(List Int)×(List Bool)×(List Int)×Nat×Nat×Int×iK×(List Int)
abbrev aHr:=Int×iK×(List Int)×(List Int)×(List Bool)×(List Int)×Nat×Nat
abbrev GU:=Int×(List Int)×(List Bool)×(List Int)×iK×(List Int)
abbrev aNM:=cA GU Int
abbrev aNN:=Int×Int×(List Int)×(List Bool)×(List Int)×iK×(List Int)
abbrev aPK:=Int×bJ×Int×Int×Int×bJ×(List (List Int))
abbrev aPL:=(List Int)×Int×Int×(List Int)×(List Bool)×(List Int)×Int×(List Bool)
abbrev aPM:=cA aPL Int
abbrev aNO:=(List Int)×(List Bool)×(List Int)×iK×(List Int)
abbrev aPN:=Bool×Int×bJ×Int×Int×Int×bJ
abbrev aPO:=Int×Int×Int×bJ×Int×Int×bJ
abbrev PY:=bJ×Int×Int×Int×Int
abbrev aHs:=cA PY (Int×Bool)
abbrev aBH:=bJ×Int×Int×bJ
abbrev aBI:=Int×Int×(List Int)×(List Bool)×(List Int)×(List Bool)
abbrev aHt:=Int×iK×(List Int)
abbrev aHu:=Int×bJ×Int×Int×(List Int)
abbrev aBJ:=Int×Int×bJ
abbrev aNP:=cA aBJ Int
abbrev aHv:=(List Int)×Int×yN
abbrev aBK:=Int×bJ
variable [LP]
def tY (p0:Field):Option Bool:=
 bif decide (16<(Int.ofNat p0.points.length)) then
  bif decide ((Int.ofNat p0.points.length)<64) then
   some true
  else
   some (decide (70<(Int.ofNat p0.points.length)))
 else
  some (decide (70<(Int.ofNat p0.points.length)))
def c94:bM:=⟨aD.one (aN.agg cC),aN.bool,fun a=>tY a,.pure,false⟩
theorem aNQ:aM aY 94 c94:=Oc aNF rfl aH [] trivial fun a=>by kernel_rfl
def CS (p0:aR):Option Bool:=
 bif decide (210<(Int.ofNat p0.uses.length)) then
  some true
 else
  bif decide (210<(Int.ofNat p0.used.length)) then
   some true
  else
   some (decide (210<(Int.ofNat p0.free.length)))
def aPP:bM:=⟨aD.one (aN.agg gL),aN.bool,fun a=>CS a,.pure,false⟩
theorem aHw:aM aY 154 aPP:=Oc aF0 rfl aH [] trivial fun a=>by kernel_rfl
def CT (p0:aG):Option Bool:=
 (CS p0.slots).bind fun b0=>
 bif b0 then
  some true
 else
  bif decide (210<(Int.ofNat p0.heap.length)) then
   some true
  else
   some (decide (210<(Int.ofNat p0.where_.length)))
def c95:bM:=⟨aD.one (aN.agg dE),aN.bool,fun a=>CT a,.pure,false⟩
theorem aNR:aM aY 95 c95:=Oc aNG rfl aH [(154,aPP)] ⟨aHw,trivial⟩ fun a=>by kernel_rfl
def tZ (p0:aP):Option Bool:=
 bif decide (40<(Int.ofNat p0.certs.list.length)) then
  some true
 else
  bif decide (40<(Int.ofNat p0.due.length)) then
   some true
  else
   (tY p0.field).bind fun b0=>
   bif b0 then
    some true
   else
    (CT p0.agenda).bind fun b1=>
    some b1
def c52:bM:=⟨aD.one (aN.agg bV),aN.bool,fun a=>tZ a,.pure,false⟩
theorem aNS:aM aY 52 c52:=Oc aNe rfl aH [(94,c94),(95,c95)] ⟨aNQ,aNR,trivial⟩ fun a=>by kernel_rfl
def uA (p0:cD):Option Bool:=
 (tZ p0.clock).bind fun b0=>
 bif b0 then
  some true
 else
  some (decide (70<(Int.ofNat p0.heap.length)))
def c11:bM:=⟨aD.one (aN.agg gC),aN.bool,fun a=>uA a,.pure,false⟩
theorem aNT:aM aY 11 c11:=Oc aMT rfl aH [(52,c52)] ⟨aNS,trivial⟩ fun a=>by kernel_rfl
def lX (p0:Field):Option Field:=
 (bR p0.points).bind fun l0=>
 some (Field.mk l0)
def c86:bM:=⟨aD.one (aN.agg cC),aN.agg cC,fun a=>lX a,.own,true⟩
def aBL:bM:=⟨aD.one (aN.agg cC),aN.agg cC,fun a=>lX a,.frz,false⟩
theorem PZ:aM aY 86 c86:=Oc aBF rfl aH [] trivial fun a=>by kernel_rfl
theorem J9:aM aY 86 aBL:=Oc aBF rfl aH [] trivial fun a=>by kernel_rfl
def pJ (p0:aU):Option aU:=
 (bR p0.list).bind fun l0=>
 some (aU.mk p0.next_ l0)
def aHx:bM:=⟨aD.one (aN.agg gS),aN.agg gS,fun a=>pJ a,.own,true⟩
def X1:bM:=⟨aD.one (aN.agg gS),aN.agg gS,fun a=>pJ a,.frz,false⟩
theorem P0:aM aY 136 aHx:=Oc XN rfl aH [] trivial fun a=>by kernel_rfl
theorem L9:aM aY 136 X1:=Oc XN rfl aH [] trivial fun a=>by kernel_rfl
def nI (p0:aR):Option aR:=
 (bR p0.uses).bind fun l0=>
 (bR p0.used).bind fun l1=>
 (bR p0.free).bind fun l2=>
 some (aR.mk l0 l1 l2)
def aBM:bM:=⟨aD.one (aN.agg gL),aN.agg gL,fun a=>nI a,.own,true⟩
def SM:bM:=⟨aD.one (aN.agg gL),aN.agg gL,fun a=>nI a,.frz,false⟩
theorem KA:aM aY 195 aBM:=Oc XV rfl aH [] trivial fun a=>by kernel_rfl
theorem GV:aM aY 195 SM:=Oc XV rfl aH [] trivial fun a=>by kernel_rfl
def lY (p0:aG):Option aG:=
 (nI p0.slots).bind fun r0=>
 (bR p0.heap).bind fun l1=>
 (bR p0.where_).bind fun l2=>
 some (aG.mk r0 l1 l2)
def Z7:bM:=⟨aD.one (aN.agg dE),aN.agg dE,fun a=>lY a,.own,true⟩
def OD:bM:=⟨aD.one (aN.agg dE),aN.agg dE,fun a=>lY a,.frz,false⟩
theorem GW:aM aY 137 Z7:=Oc XO rfl aH [(195,aBM),(195,SM)] ⟨KA,GV,trivial⟩ fun a=>by kernel_rfl
theorem CU:aM aY 137 OD:=Oc XO rfl aH [(195,aBM),(195,SM)] ⟨KA,GV,trivial⟩ fun a=>by kernel_rfl
def jB (p0:aP):Option aP:=
 (lX p0.field).bind fun r0=>
 (pJ p0.certs).bind fun r1=>
 (lY p0.agenda).bind fun r2=>
 (bR p0.due).bind fun l3=>
 some (aP.mk p0.now r0 r1 r2 l3)
def c77:bM:=⟨aD.one (aN.agg bV),aN.agg bV,fun a=>jB a,.own,true⟩
def VG:bM:=⟨aD.one (aN.agg bV),aN.agg bV,fun a=>jB a,.frz,false⟩
theorem IJ:aM aY 77 c77:=Oc aBC rfl aH [(86,c86),(86,aBL),(136,aHx),(136,X1),(137,Z7),(137,OD)] ⟨PZ,J9,P0,L9,GW,CU,trivial⟩ fun a=>by kernel_rfl
theorem DS:aM aY 77 VG:=Oc aBC rfl aH [(86,c86),(86,aBL),(136,aHx),(136,X1),(137,Z7),(137,OD)] ⟨PZ,J9,P0,L9,GW,CU,trivial⟩ fun a=>by kernel_rfl
def wL (p0:cD):Option cD:=
 (jB p0.clock).bind fun r0=>
 (bR p0.heap).bind fun l1=>
 some (cD.mk r0 l1)
def c31:bM:=⟨aD.one (aN.agg gC),aN.agg gC,fun a=>wL a,.own,true⟩
def aPR:bM:=⟨aD.one (aN.agg gC),aN.agg gC,fun a=>wL a,.frz,false⟩
theorem aNV:aM aY 31 c31:=Oc aBA rfl aH [(77,c77),(77,VG)] ⟨IJ,DS,trivial⟩ fun a=>by kernel_rfl
theorem aHy:aM aY 31 aPR:=Oc aBA rfl aH [(77,c77),(77,VG)] ⟨IJ,DS,trivial⟩ fun a=>by kernel_rfl
def mQ (p0:Int):Option Int:=
 bif decide (p0<0) then
  some (aA .u64 (0- (aA .u64 p0)))
 else
  some (aA .u64 p0)
def aHz:bM:=⟨aD.one (aN.int .i64),aN.int .u64,fun a=>mQ a,.pure,false⟩
theorem P1:aM aY 108 aHz:=Oc aFD rfl aH [] trivial fun a=>by kernel_rfl
def vI (s:(Int×Int)):Option (cA (Int×Int) Int):=
 bif decide (0<s.2) then
  bif s.2==0 then
   none
  else
   some (.next (s.2,Int.tmod s.1 s.2))
 else
  some (.done s.1)
def zS (p0:Int) (p1:Int):Option Int:=
 aJ vI (p0,p1)
def aNW:bM:=⟨aD.cons (aN.int .u64) (aD.one (aN.int .u64)),aN.int .u64,fun a=>zS a.1 a.2,.pure,false⟩
theorem X2:aM aY 107 aNW:=Oc aFC rfl aH [] trivial fun a=>by kernel_rfl
def iT (p0:Int×Int):Option Int:=
 bif decide (p0.2<1) then
  some 8
 else
  bif p0.1==(-9223372036854775808) then
   some 8
  else
   (mQ p0.1).bind fun n0=>
   (zS (aA .u64 p0.2) n0).bind fun n1=>
   bif decide (1<n1) then
    some 8
   else
    some 0
def c60:bM:=⟨aD.one (aN.agg (cP.row kN)),aN.int .i64,fun a=>iT a,.pure,false⟩
theorem IK:aM aY 60 c60:=Oc aNl rfl aH [(108,aHz),(107,aNW)] ⟨P1,X2,trivial⟩ fun a=>by kernel_rfl
def qO (p0:Int):Option Bool:=
 bif decide (p0<(-1048576)) then
  some true
 else
  some (decide (1048576<p0))
def aPS:bM:=⟨aD.one (aN.int .i64),aN.bool,fun a=>qO a,.pure,false⟩
theorem aHA:aM aY 148 aPS:=Oc aFX rfl aH [] trivial fun a=>by kernel_rfl
def jX (p0:Int×Int×Int):Option Int:=
 bif decide (p0.1<0) then
  some 8
 else
  bif decide (65535<p0.1) then
   some 8
  else
   (qO p0.2.1).bind fun b0=>
   bif b0 then
    some 8
   else
    (qO p0.2.2).bind fun b1=>
    bif b1 then
     some 8
    else
     some 0
def c88:bM:=⟨aD.one (aN.agg (cP.row eF)),aN.int .i64,fun a=>jX a,.pure,false⟩
theorem P2:aM aY 88 c88:=Oc aNA rfl aH [(148,aPS)] ⟨aHA,trivial⟩ fun a=>by kernel_rfl
def jC (s:aBH):Option (cA aBH (cA aBH Int)):=
 bif decide (s.2.2.1<s.2.1) then
  (aK s.1 s.2.2.1).bind fun a0=>
  bif decide (0<s.2.2.1) then
   (aK s.2.2.2 (aA .i64 (s.2.2.1-1))).bind fun a1=>
   bif decide (a0.1<=a1.1) then
    some (.done (.done 32))
   else
    some (.next (s.1,s.2.1,aA .i64 (s.2.2.1+1),s.2.2.2))
  else
   some (.next (s.1,s.2.1,aA .i64 (s.2.2.1+1),s.2.2.2))
 else
  some (.done (.done 0))
def nJ (s:aBH):Option (cA aBH Int):=
 bif decide (s.2.2.1<s.2.1) then
  (aK s.1 s.2.2.1).bind fun a0=>
  (jX a0).bind fun n1=>
  bif n1 !=0 then
   some (.done n1)
  else
   some (.next (s.1,s.2.1,aA .i64 (s.2.2.1+1),s.2.2.2))
 else
  aJ jC (s.2.2.2,Int.ofNat s.2.2.2.length,0,s.2.2.2)
def dS (p0:Field):Option Int:=
 bif decide (64<(Int.ofNat p0.points.length)) then
  some 4
 else
  aJ nJ (p0.points,Int.ofNat p0.points.length,0,p0.points)
def c87:bM:=⟨aD.one (aN.agg cC),aN.int .i64,fun a=>dS a,.pure,false⟩
theorem IL:aM aY 87 c87:=Oc aNz rfl aH [(88,c88)] ⟨P2,trivial⟩ fun a=>by kernel_rfl
def wM (p0:Int×Int):Option Bool:=
 bif decide (0<=(if p0.2<p0.1 then p0.2 else p0.1)) then
  bif decide ((if p0.2>p0.1 then p0.2 else p0.1)<=65535) then
   some (p0.1 !=p0.2)
  else
   some false
 else
  some false
def aNZ:bM:=⟨aD.one (aN.agg (cP.row kN)),aN.bool,fun a=>wM a,.pure,false⟩
theorem X3:aM aY 206 aNZ:=Oc aGC rfl aH [] trivial fun a=>by kernel_rfl
def sP (s:aPK):Option (cA aPK Int):=
 bif decide (s.2.2.2.1<s.2.2.1) then
  (aK s.2.1 s.2.2.2.1).bind fun a0=>
  (wM a0.2).bind fun b1=>
  bif !b1 then
   some (.done 8)
  else
   (RS s.2.2.2.2.2.2 [a0.2.1,a0.2.2]).bind fun b2=>
   bif b2 then
    some (.done 8)
   else
    bif decide (a0.1<=s.1) then
     some (.done 8)
    else
     bif decide (s.2.2.2.2.1<=a0.1) then
      some (.done 8)
     else
      (RU s.2.2.2.2.2.2 [a0.2.1,a0.2.2]).bind fun l3=>
      some (.next (a0.1,s.2.1,s.2.2.1,aA .i64 (s.2.2.2.1+1),s.2.2.2.2.1,s.2.2.2.2.2.1,l3))
 else
  some (.done 0)
def rW (p0:aU):Option Int:=
 bif decide (200<(Int.ofNat p0.list.length)) then
  some 8
 else
  bif decide (p0.next_<0) then
   some 8
  else
   bif decide (1000000<p0.next_) then
    some 8
   else
    aJ sP (-1,p0.list,Int.ofNat p0.list.length,0,p0.next_,p0.list,[])
def aHB:bM:=⟨aD.one (aN.agg gS),aN.int .i64,fun a=>rW a,.pure,false⟩
theorem P3:aM aY 161 aHB:=Oc aF7 rfl aH [(206,aNZ)] ⟨X3,trivial⟩ fun a=>by kernel_rfl
def gW (s:((List Bool)×Bool×Int×Int)):Option (cA ((List Bool)×Bool×Int×Int) Int):=
 bif decide (s.2.2.2<s.2.2.1) then
  (aK s.1 s.2.2.2).bind fun b0=>
  bif s.2.1==b0 then
   some (.done s.2.2.2)
  else
   some (.next (s.1,s.2.1,s.2.2.1,aA .i64 (s.2.2.2+1)))
 else
  some (.done (-1))
def qP (p0:List Bool) (p1:Bool):Option Int:=
 aJ gW (p0,p1,Int.ofNat p0.length,0)
def aPU:bM:=⟨aD.cons (aN.sl kb) (aD.one aN.bool),aN.int .i64,fun a=>qP a.1 a.2,.pure,false⟩
theorem aHC:aM aY 287 aPU:=Oc aHi rfl aH [] trivial fun a=>by kernel_rfl
def eI (p0:List Bool) (p1:Bool):Option Bool:=
 (qP p0 p1).bind fun n0=>
 some (decide (0<=n0))
def aPV:bM:=⟨aD.cons (aN.sl kb) (aD.one aN.bool),aN.bool,fun a=>eI a.1 a.2,.pure,false⟩
theorem aHD:aM aY 260 aPV:=Oc aG6 rfl aH [(287,aPU)] ⟨aHC,trivial⟩ fun a=>by kernel_rfl
def gT (s:((List Int)×Int×Int×(List Int)×(List Bool)×(List Int))):Option (cA ((List Int)×Int×Int×(List Int)×(List Bool)×(List Int)) aPM):=
 bif decide (s.2.2.1<s.2.1) then
  (aK s.1 s.2.2.1).bind fun n0=>
  bif decide (n0<0) then
   some (.done (.done 8))
  else
   bif decide (1000000<n0) then
    some (.done (.done 8))
   else
    bif n0==0 then
     (aK s.2.2.2.2.1 s.2.2.1).bind fun b1=>
     bif b1 then
      some (.done (.done 8))
     else
      some (.next (s.1,s.2.1,aA .i64 (s.2.2.1+1),s.2.2.2))
    else
     some (.next (s.1,s.2.1,aA .i64 (s.2.2.1+1),s.2.2.2))
 else
  some (.done (.done 0))
def sQ (c0:(List Bool)) (s:aPL):Option aPM:=
 bif decide (s.2.2.1<s.2.1) then
  (aK s.1 s.2.2.1).bind fun n0=>
  bif decide (n0<0) then
   bif s.2.2.2.2.2.2.2.length==s.2.2.2.2.2.2.2.length then
    bif s.2.2.2.2.2.2.2.length==c0.length then
     bif s.2.2.2.2.2.2.2.length==c0.length then
      bif decide (0<=s.2.2.1) then
       some (.done 8)
      else
       (eI s.2.2.2.2.2.2.2 false).bind fun b1=>
       bif b1 then
        some (.done 8)
       else
        aJ gT (s.2.2.2.1,Int.ofNat s.2.2.2.1.length,0,s.2.2.2.1,s.2.2.2.2.1,s.2.2.2.2.2.1)
     else
      none
    else
     none
   else
    none
  else
   bif decide (s.2.2.2.2.2.2.1<=n0) then
    bif s.2.2.2.2.2.2.2.length==s.2.2.2.2.2.2.2.length then
     bif s.2.2.2.2.2.2.2.length==c0.length then
      bif s.2.2.2.2.2.2.2.length==c0.length then
       bif decide (0<=s.2.2.1) then
        some (.done 8)
       else
        (eI s.2.2.2.2.2.2.2 false).bind fun b2=>
        bif b2 then
         some (.done 8)
        else
         aJ gT (s.2.2.2.1,Int.ofNat s.2.2.2.1.length,0,s.2.2.2.1,s.2.2.2.2.1,s.2.2.2.2.2.1)
      else
       none
     else
      none
    else
     none
   else
    (aK s.2.2.2.2.2.2.2 n0).bind fun b3=>
    bif b3 then
     bif s.2.2.2.2.2.2.2.length==s.2.2.2.2.2.2.2.length then
      bif s.2.2.2.2.2.2.2.length==c0.length then
       bif s.2.2.2.2.2.2.2.length==c0.length then
        bif decide (0<=s.2.2.1) then
         some (.done 8)
        else
         (eI s.2.2.2.2.2.2.2 false).bind fun b4=>
         bif b4 then
          some (.done 8)
         else
          aJ gT (s.2.2.2.1,Int.ofNat s.2.2.2.1.length,0,s.2.2.2.1,s.2.2.2.2.1,s.2.2.2.2.2.1)
       else
        none
      else
       none
     else
      none
    else
     (aK s.2.2.2.2.2.2.2 n0).bind fun _=>
     bif ((bN s.2.2.2.2.2.2.2 n0 true).length)==s.2.2.2.2.2.2.2.length then
      some (.next (s.1,s.2.1,aA .i64 (s.2.2.1+1),s.2.2.2.1,s.2.2.2.2.1,s.2.2.2.2.2.1,s.2.2.2.2.2.2.1,bN s.2.2.2.2.2.2.2 n0 true))
     else
      none
 else
  bif s.2.2.2.2.2.2.2.length==c0.length then
   bif s.2.2.2.2.2.2.2.length==c0.length then
    (eI s.2.2.2.2.2.2.2 false).bind fun b6=>
    bif b6 then
     some (.done 8)
    else
     aJ gT (s.2.2.2.1,Int.ofNat s.2.2.2.1.length,0,s.2.2.2.1,s.2.2.2.2.1,s.2.2.2.2.2.1)
   else
    none
  else
   none
def rX (p0:aR):Option Int:=
 bif decide ((Int.ofNat p0.uses.length)<1) then
  some 8
 else
  bif decide (200<(Int.ofNat p0.uses.length)) then
   some 8
  else
   bif (Int.ofNat p0.used.length) !=(Int.ofNat p0.uses.length) then
    some 8
   else
    (bR p0.used).bind fun l0=>
    aJ (sQ l0) (p0.free,Int.ofNat p0.free.length,0,p0.uses,p0.used,p0.free,Int.ofNat p0.uses.length,l0)
def aHE:bM:=⟨aD.one (aN.agg gL),aN.int .i64,fun a=>rX a,.pure,false⟩
theorem P4:aM aY 207 aHE:=aM.of aGD (cx:=(pH aH [(173,bM.clone kb),(260,aPV)] [] [(258,aEZ),(286,aFi),(259,aE1)] [])) rfl (mK.make ⟨wJ,aHD,trivial⟩ trivial ⟨aG4,aHh,aG5,trivial⟩) (fun a=>by kernel_rfl)
def A0 (p0:Int×Int) (p1:Int×Int):Option Int:=
 (iT p0).bind fun n0=>
 (iT p1).bind fun n1=>
 some (if n1>n0 then n1 else n0)
def aPW:bM:=⟨aD.cons (aN.agg (cP.row kN)) (aD.one (aN.agg (cP.row kN))),aN.int .i64,fun a=>A0 a.1 a.2,.pure,false⟩
theorem aHF:aM aY 109 aPW:=Oc aFE rfl aH [(60,c60)] ⟨IK,trivial⟩ fun a=>by kernel_rfl
def oX (p0:Int):Option Bool:=
 some (p0 !=p0)
def aPX:bM:=⟨aD.one (aN.int .i64),aN.bool,fun a=>oX a,.pure,false⟩
theorem aHG:aM aY 165 aPX:=Oc aGb rfl aH [] trivial fun a=>by kernel_rfl
def jY (p0:Int) (p1:Int):Option Int:=
 (oX p0).bind fun b0=>
 (oX p1).bind fun b1=>
 bif b0 then
  bif b1 then
   some 0
  else
   some (-1)
 else
  bif b1 then
   some 1
  else
   bif decide (p0<p1) then
    some (-1)
   else
    bif decide (p1<p0) then
     some 1
    else
     some 0
def aN0:bM:=⟨aD.cons (aN.int .i64) (aD.one (aN.int .i64)),aN.int .i64,fun a=>jY a.1 a.2,.pure,false⟩
theorem X4:aM aY 110 aN0:=Oc aFF rfl aH [(165,aPX)] ⟨aHG,trivial⟩ fun a=>by kernel_rfl
def jP (p0:Int) (p1:Int):Option (Int×Int):=
 some (aA .u64 ((aA .u64 ((aA .u64 ((tT .u64 p0 32)*(tT .u64 p1 32)))+(tT .u64 (aA .u64 ((aA .u64 ((tT .u64 p0 32)*(JY .u64 p1 4294967295)))+(tT .u64 (aA .u64 ((JY .u64 p0 4294967295)*(JY .u64 p1 4294967295))) 32))) 32)))+(tT .u64 (aA .u64 ((JY .u64 (aA .u64 ((aA .u64 ((tT .u64 p0 32)*(JY .u64 p1 4294967295)))+(tT .u64 (aA .u64 ((JY .u64 p0 4294967295)*(JY .u64 p1 4294967295))) 32))) 4294967295)+(aA .u64 ((JY .u64 p0 4294967295)*(tT .u64 p1 32))))) 32)),aA .u64 (p0*p1))
def aN1:bM:=⟨aD.cons (aN.int .u64) (aD.one (aN.int .u64)),aN.tup (aD.cons (aN.int .u64) (aD.one (aN.int .u64))),fun a=>jP a.1 a.2,.pure,false⟩
theorem X5:aM aY 167 aN1:=Oc aGd rfl aH [] trivial fun a=>by kernel_rfl
def uB (p0:Int) (p1:Int):Option (Bool×Int×Int):=
 (mQ p0).bind fun n0=>
 (mQ p1).bind fun n1=>
 (jP n0 n1).bind fun a2=>
 some (!((decide (p0<0))==(decide (p1<0))),a2)
def aPY:bM:=⟨aD.cons (aN.int .i64) (aD.one (aN.int .i64)),aN.agg (cP.row CR),fun a=>uB a.1 a.2,.pure,false⟩
theorem aHH:aM aY 112 aPY:=Oc aFH rfl aH [(108,aHz),(167,aN1)] ⟨P1,X5,trivial⟩ fun a=>by kernel_rfl
def nY (p0:Int):Option Bool:=
 some (p0 !=p0)
def aPZ:bM:=⟨aD.one (aN.int .u64),aN.bool,fun a=>nY a,.pure,false⟩
theorem aHI:aM aY 210 aPZ:=Oc aGG rfl aH [] trivial fun a=>by kernel_rfl
def jD (p0:Int) (p1:Int):Option Int:=
 (nY p0).bind fun b0=>
 (nY p1).bind fun b1=>
 bif b0 then
  bif b1 then
   some 0
  else
   some (-1)
 else
  bif b1 then
   some 1
  else
   bif decide (p0<p1) then
    some (-1)
   else
    bif decide (p1<p0) then
     some 1
    else
     some 0
def aP0:bM:=⟨aD.cons (aN.int .u64) (aD.one (aN.int .u64)),aN.int .i64,fun a=>jD a.1 a.2,.pure,false⟩
theorem aHJ:aM aY 166 aP0:=Oc aGc rfl aH [(210,aPZ)] ⟨aHI,trivial⟩ fun a=>by kernel_rfl
def sR (p0:Bool×Int×Int) (p1:Bool×Int×Int):Option Int:=
 (jD p0.2.1 p1.2.1).bind fun n0=>
 bif n0 !=0 then
  some n0
 else
  (jD p0.2.2 p1.2.2).bind fun n1=>
  some n1
def aP1:bM:=⟨aD.cons (aN.agg (cP.row CR)) (aD.one (aN.agg (cP.row CR))),aN.int .i64,fun a=>sR a.1 a.2,.pure,false⟩
theorem aHK:aM aY 111 aP1:=Oc aFG rfl aH [(166,aP0)] ⟨aHJ,trivial⟩ fun a=>by kernel_rfl
def DT (p0:Int×Int) (p1:Int×Int):Option (Int×Int):=
 (A0 p0 p1).bind fun n0=>
 bif n0 !=0 then
  some (0,n0)
 else
  bif !((decide (p0.1<0))==(decide (p1.1<0))) then
   (jY p0.1 p1.1).bind fun n1=>
   some (n1,0)
  else
   (uB p0.1 p1.2).bind fun a2=>
   (uB p1.1 p0.2).bind fun a3=>
   (sR a2 a3).bind fun n4=>
   bif decide (p0.1<0) then
    some (aA .i64 (0-n4),0)
   else
    some (n4,0)
def c61:bM:=⟨aD.cons (aN.agg (cP.row kN)) (aD.one (aN.agg (cP.row kN))),aN.tup (aD.cons (aN.int .i64) (aD.one (aN.int .i64))),fun a=>DT a.1 a.2,.pure,false⟩
theorem aN2:aM aY 61 c61:=Oc aNm rfl aH [(109,aPW),(110,aN0),(112,aPY),(111,aP1)] ⟨aHF,X4,aHH,aHK,trivial⟩ fun a=>by kernel_rfl
def sS (p0:Int):Option Bool:=
 some (p0 !=p0)
def aP2:bM:=⟨aD.one (aN.int .i64),aN.bool,fun a=>sS a,.pure,false⟩
theorem aHL:aM aY 203 aP2:=Oc aGA rfl aH [] trivial fun a=>by kernel_rfl
def fK (p0:Int) (p1:Int):Option Int:=
 (sS p0).bind fun b0=>
 (sS p1).bind fun b1=>
 bif b0 then
  bif b1 then
   some 0
  else
   some (-1)
 else
  bif b1 then
   some 1
  else
   bif decide (p0<p1) then
    some (-1)
   else
    bif decide (p1<p0) then
     some 1
    else
     some 0
def VH:bM:=⟨aD.cons (aN.int .i64) (aD.one (aN.int .i64)),aN.int .i64,fun a=>fK a.1 a.2,.pure,false⟩
theorem DU:aM aY 151 VH:=Oc aFZ rfl aH [(203,aP2)] ⟨aHL,trivial⟩ fun a=>by kernel_rfl
def yO (s:(Int×(List Int)×Int×Int)):Option (cA (Int×(List Int)×Int×Int) Int):=
 bif decide (s.2.2.2<s.2.2.1) then
  (aK s.2.1 s.2.2.2).bind fun n0=>
  bif n0 !=s.1 then
   some (.done n0)
  else
   some (.next (s.1,s.2.1,s.2.2.1,aA .i64 (s.2.2.2+1)))
 else
  some (.done s.1)
def wN (p0:List Int):Option Int:=
 aJ yO (0,p0,Int.ofNat p0.length,0)
def aN3:bM:=⟨aD.one (aN.sl ki),aN.int .i64,fun a=>wN a,.pure,false⟩
theorem X6:aM aY 194 aN3:=Oc aGw rfl aH [] trivial fun a=>by kernel_rfl
def cH (p0:Int×Int×Int×Int×Int) (p1:Int×Int×Int×Int×Int):Option Int:=
 (DT (p0.1,p0.2.1) (p1.1,p1.2.1)).bind fun a0=>
 (fK p0.2.2.1 p1.2.2.1).bind fun n1=>
 (wN [a0.1,n1]).bind fun n2=>
 some n2
def aHM:bM:=⟨aD.cons (aN.agg (cP.row lW)) (aD.one (aN.agg (cP.row lW))),aN.int .i64,fun a=>cH a.1 a.2,.pure,false⟩
theorem P5:aM aY 208 aHM:=Oc aGE rfl aH [(61,c61),(151,VH),(194,aN3)] ⟨aN2,DU,X6,trivial⟩ fun a=>by kernel_rfl
def jQ (s:aPE):Option (cA aPE aPJ):=
 bif decide (s.2.2.1<s.2.1) then
  (aK s.1 s.2.2.1).bind fun a0=>
  (iT (a0.1,a0.2.1)).bind fun n1=>
  bif n1 !=0 then
   some (.done (.done 8))
  else
   bif decide (a0.2.2.1<0) then
    some (.done (.done 8))
   else
    bif decide (1000000<a0.2.2.1) then
     some (.done (.done 8))
    else
     (RS s.2.2.2.2.2.2.2.2 [a0.2.2.1]).bind fun b2=>
     bif b2 then
      some (.done (.done 8))
     else
      (RU s.2.2.2.2.2.2.2.2 [a0.2.2.1]).bind fun l3=>
      bif decide (0<s.2.2.1) then
       (aK s.2.2.2.2.2.2.1 (aA .i64 (Int.tdiv (aA .i64 (s.2.2.1-1)) 2))).bind fun a4=>
       (cH a0 a4).bind fun n5=>
       bif decide (n5<0) then
        some (.done (.done 8))
       else
        some (.next (s.1,s.2.1,aA .i64 (s.2.2.1+1),s.2.2.2.1,s.2.2.2.2.1,s.2.2.2.2.2.1,s.2.2.2.2.2.2.1,s.2.2.2.2.2.2.2.1,l3))
      else
       some (.next (s.1,s.2.1,aA .i64 (s.2.2.1+1),s.2.2.2.1,s.2.2.2.2.1,s.2.2.2.2.2.1,s.2.2.2.2.2.2.1,s.2.2.2.2.2.2.2.1,l3))
 else
  some (.done (.done 0))
def mL (s:aPI):Option aPJ:=
 bif decide (s.2.2.1<s.2.1) then
  (aK s.1 s.2.2.1).bind fun n0=>
  (aK s.2.2.2.2.1 s.2.2.1).bind fun b1=>
  bif !b1 then
   bif n0 !=(-1) then
    some (.done 8)
   else
    some (.next (s.1,s.2.1,aA .i64 (s.2.2.1+1),s.2.2.2))
  else
   bif decide (n0<0) then
    some (.done 8)
   else
    bif decide ((Int.ofNat s.2.2.2.2.2.2.1.length)<=n0) then
     some (.done 8)
    else
     (aK s.2.2.2.2.2.2.1 n0).bind fun a2=>
     (aK s.2.2.2.1 s.2.2.1).bind fun n3=>
     bif !((a2.2.2.2.1==s.2.2.1)&&(a2.2.2.2.2==n3)) then
      some (.done 8)
     else
      some (.next (s.1,s.2.1,aA .i64 (s.2.2.1+1),s.2.2.2))
 else
  aJ jQ (s.2.2.2.2.2.2.1,Int.ofNat s.2.2.2.2.2.2.1.length,0,s.2.2.2.1,s.2.2.2.2.1,s.2.2.2.2.2.1,s.2.2.2.2.2.2.1,s.2.2.2.2.2.2.2,[])
def lZ (p0:aG):Option Int:=
 (rX p0.slots).bind fun n0=>
 bif n0 !=0 then
  some 8
 else
  bif (Int.ofNat p0.where_.length) !=(Int.ofNat p0.slots.used.length) then
   some 8
  else
   bif (Int.ofNat p0.heap.length) !=(aA .i64 ((Int.ofNat p0.slots.used.length) - (Int.ofNat p0.slots.free.length))) then
    some 8
   else
    aJ mL (p0.where_,Int.ofNat p0.where_.length,0,p0.slots.uses,p0.slots.used,p0.slots.free,p0.heap,p0.where_)
def aBN:bM:=⟨aD.one (aN.agg dE),aN.int .i64,fun a=>lZ a,.pure,false⟩
theorem KB:aM aY 162 aBN:=Oc aF8 rfl aH [(207,aHE),(60,c60),(208,aHM)] ⟨P4,IK,P5,trivial⟩ fun a=>by kernel_rfl
def yP (p0:Int×Int×Int) (p1:Int):Option Int:=
 (fK p0.1 p1).bind fun n0=>
 some n0
def aP3:bM:=⟨aD.cons (aN.agg (cP.row eF)) (aD.one (aN.int .i64)),aN.int .i64,fun a=>yP a.1 a.2,.pure,false⟩
theorem aHN:aM aY 215 aP3:=Oc aGK rfl aH [(151,VH)] ⟨DU,trivial⟩ fun a=>by kernel_rfl
def iW (s:PY):Option aHs:=
 bif decide (s.2.2.2.1<s.2.2.2.2) then
  (aK s.1 (aA .i64 (tT .u64 (aA .u64 (aA .i64 (s.2.2.2.1+s.2.2.2.2))) 1))).bind fun a0=>
  (yP a0 s.2.1).bind fun n1=>
  bif decide (n1<0) then
   some (.next (s.1,s.2.1,s.2.2.1,aA .i64 ((aA .i64 (tT .u64 (aA .u64 (aA .i64 (s.2.2.2.1+s.2.2.2.2))) 1))+1),s.2.2.2.2))
  else
   some (.next (s.1,s.2.1,s.2.2.1,s.2.2.2.1,aA .i64 (tT .u64 (aA .u64 (aA .i64 (s.2.2.2.1+s.2.2.2.2))) 1)))
 else
  bif decide (s.2.2.2.1<s.2.2.1) then
   (aK s.1 s.2.2.2.1).bind fun a2=>
   (yP a2 s.2.1).bind fun n3=>
   some (.done (s.2.2.2.1,n3==0))
  else
   some (.done (s.2.2.2.1,false))
def cX (p0:List (Int×Int×Int)) (p1:Int) (_:Unit):Option (Int×Bool):=
 aJ iW (p0,p1,Int.ofNat p0.length,0,Int.ofNat p0.length)
def SN:bM:=⟨aD.cons (aN.sl eF) (aD.cons (aN.int .i64) (aD.one (aN.clo 215 aD.nil))),aN.tup (aD.cons (aN.int .i64) (aD.one aN.bool)),fun a=>cX a.1 a.2.1 a.2.2,.pure,false⟩
theorem SO:aM aY 149 SN:=Oc XT rfl aH [(215,aP3)] ⟨aHN,trivial⟩ fun a=>by kernel_rfl
def jZ (p0:Field) (p1:Int):Option (Int×Int×Int):=
 (cX p0.points p1 ()).bind fun a0=>
 bif !a0.2 then
  some (-1,0,0)
 else
  (aK p0.points a0.1).bind fun a1=>
  some a1
def aHO:bM:=⟨aD.cons (aN.agg cC) (aD.one (aN.int .i64)),aN.agg (cP.row eF),fun a=>jZ a.1 a.2,.pure,false⟩
theorem P6:aM aY 178 aHO:=Oc aGl rfl aH [(149,SN)] ⟨SO,trivial⟩ fun a=>by kernel_rfl
def rY (p0:Int×Int×Int) (p1:Int×Int×Int) (p2:Int×Int):Option Int:=
 (jX p0).bind fun n0=>
 (jX p1).bind fun n1=>
 (iT p2).bind fun n2=>
 bif (if n2>(if n1>n0 then n1 else n0) then n2 else if n1>n0 then n1 else n0) !=0 then
  some (if n2>(if n1>n0 then n1 else n0) then n2 else if n1>n0 then n1 else n0)
 else
  bif p0.1==p1.1 then
   some 2
  else
   some 0
def aHP:bM:=⟨aD.cons (aN.agg (cP.row eF)) (aD.cons (aN.agg (cP.row eF)) (aD.one (aN.agg (cP.row kN)))),aN.int .i64,fun a=>rY a.1 a.2.1 a.2.2,.pure,false⟩
theorem P7:aM aY 189 aHP:=Oc aGt rfl aH [(88,c88),(60,c60)] ⟨P2,IK,trivial⟩ fun a=>by kernel_rfl
def oQ (s:(Int×Int×Int×Int×Int×Int×Int×Int×Int)):Option (cA (Int×Int×Int×Int×Int×Int×Int×Int×Int) (Int×Int)):=
 bif decide (s.2.2.2.2.1<2) then
  bif s.2.2.2.2.1==0 then
   (jP (aA .u64 s.1) (aA .u64 s.2.1)).bind fun a0=>
   bif decide (s.1<0) then
    bif decide (s.2.1<0) then
     (rV s.2.2.2.2.2.2.2.2 a0.2 0).bind fun a1=>
     some (.next (s.1,s.2.1,s.2.2.1,s.2.2.2.1,aA .i64 (s.2.2.2.2.1+1),s.2.2.2.2.2.1,s.2.2.2.2.2.2.1,aA .i64 ((aA .i64 (s.2.2.2.2.2.2.2.1+(aA .i64 ((aA .i64 ((aA .i64 a0.1) -s.2.1)) -s.1))))+(aA .i64 a1.2)),a1.1))
    else
     (rV s.2.2.2.2.2.2.2.2 a0.2 0).bind fun a2=>
     some (.next (s.1,s.2.1,s.2.2.1,s.2.2.2.1,aA .i64 (s.2.2.2.2.1+1),s.2.2.2.2.2.1,s.2.2.2.2.2.2.1,aA .i64 ((aA .i64 (s.2.2.2.2.2.2.2.1+(aA .i64 ((aA .i64 a0.1) -s.2.1))))+(aA .i64 a2.2)),a2.1))
   else
    bif decide (s.2.1<0) then
     (rV s.2.2.2.2.2.2.2.2 a0.2 0).bind fun a3=>
     some (.next (s.1,s.2.1,s.2.2.1,s.2.2.2.1,aA .i64 (s.2.2.2.2.1+1),s.2.2.2.2.2.1,s.2.2.2.2.2.2.1,aA .i64 ((aA .i64 (s.2.2.2.2.2.2.2.1+(aA .i64 ((aA .i64 a0.1) -s.1))))+(aA .i64 a3.2)),a3.1))
    else
     (rV s.2.2.2.2.2.2.2.2 a0.2 0).bind fun a4=>
     some (.next (s.1,s.2.1,s.2.2.1,s.2.2.2.1,aA .i64 (s.2.2.2.2.1+1),s.2.2.2.2.2.1,s.2.2.2.2.2.2.1,aA .i64 ((aA .i64 (s.2.2.2.2.2.2.2.1+(aA .i64 a0.1)))+(aA .i64 a4.2)),a4.1))
  else
   bif s.2.2.2.2.1==1 then
    (jP (aA .u64 s.2.2.1) (aA .u64 s.2.2.2.1)).bind fun a5=>
    bif decide (s.2.2.1<0) then
     bif decide (s.2.2.2.1<0) then
      (rV s.2.2.2.2.2.2.2.2 a5.2 0).bind fun a6=>
      some (.next (s.1,s.2.1,s.2.2.1,s.2.2.2.1,aA .i64 (s.2.2.2.2.1+1),s.2.2.2.2.2.1,s.2.2.2.2.2.2.1,aA .i64 ((aA .i64 (s.2.2.2.2.2.2.2.1+(aA .i64 ((aA .i64 ((aA .i64 a5.1) -s.2.2.2.1)) -s.2.2.1))))+(aA .i64 a6.2)),a6.1))
     else
      (rV s.2.2.2.2.2.2.2.2 a5.2 0).bind fun a7=>
      some (.next (s.1,s.2.1,s.2.2.1,s.2.2.2.1,aA .i64 (s.2.2.2.2.1+1),s.2.2.2.2.2.1,s.2.2.2.2.2.2.1,aA .i64 ((aA .i64 (s.2.2.2.2.2.2.2.1+(aA .i64 ((aA .i64 a5.1) -s.2.2.2.1))))+(aA .i64 a7.2)),a7.1))
    else
     bif decide (s.2.2.2.1<0) then
      (rV s.2.2.2.2.2.2.2.2 a5.2 0).bind fun a8=>
      some (.next (s.1,s.2.1,s.2.2.1,s.2.2.2.1,aA .i64 (s.2.2.2.2.1+1),s.2.2.2.2.2.1,s.2.2.2.2.2.2.1,aA .i64 ((aA .i64 (s.2.2.2.2.2.2.2.1+(aA .i64 ((aA .i64 a5.1) -s.2.2.1))))+(aA .i64 a8.2)),a8.1))
     else
      (rV s.2.2.2.2.2.2.2.2 a5.2 0).bind fun a9=>
      some (.next (s.1,s.2.1,s.2.2.1,s.2.2.2.1,aA .i64 (s.2.2.2.2.1+1),s.2.2.2.2.2.1,s.2.2.2.2.2.2.1,aA .i64 ((aA .i64 (s.2.2.2.2.2.2.2.1+(aA .i64 a5.1)))+(aA .i64 a9.2)),a9.1))
   else
    none
 else
  some (.done s.2.2.2.2.2.2.2)
def A2 (p0:Int×Int×Int×Int):Option (Int×Int):=
 aJ oQ (p0.1,p0.2.1,p0.2.2.1,p0.2.2.2,0,0,0,0,0)
def aP4:bM:=⟨aD.one (aN.agg (cP.row aPk)),aN.agg (cP.row kiu),fun a=>A2 a,.pure,false⟩
theorem aHQ:aM aY 237 aP4:=Oc aGU rfl aH [(167,aN1),(275,bM.add64)] ⟨X5,aBG,trivial⟩ fun a=>by kernel_rfl
def nK (p0:Int×Int×Int) (p1:Int×Int×Int) (p2:Int×Int):Option Int:=
 (A2 (aA .i64 (p0.2.1-p1.2.1),p2.2,aA .i64 (p0.2.2-p1.2.2),p2.1)).bind fun a0=>
 bif !((a0.1==0)&&(a0.2==0)) then
  bif decide (a0.1<0) then
   some (-1)
  else
   some 1
 else
  (jY p0.2.2 p1.2.2).bind fun n1=>
  (fK p1.1 p0.1).bind fun n2=>
  (wN [n1,n2]).bind fun n3=>
  some n3
def aN4:bM:=⟨aD.cons (aN.agg (cP.row eF)) (aD.cons (aN.agg (cP.row eF)) (aD.one (aN.agg (cP.row kN)))),aN.int .i64,fun a=>nK a.1 a.2.1 a.2.2,.pure,false⟩
theorem X7:aM aY 190 aN4:=Oc aGu rfl aH [(237,aP4),(110,aN0),(151,VH),(194,aN3)] ⟨aHQ,X4,DU,X6,trivial⟩ fun a=>by kernel_rfl
def CV (p0:Bool×Int×Int) (p1:Int) (p2:Int):Option ((Int×Int)×Int):=
 bif decide (0<p0.2.1) then
  some ((0,0),16)
 else
  bif decide (9223372036854775807<p0.2.2) then
   some ((0,0),16)
  else
   bif decide (0<p1) then
    some ((0,0),16)
   else
    bif decide (9223372036854775807<p2) then
     some ((0,0),16)
    else
     bif p0.1 then
      some ((aA .i64 (0- (aA .i64 p0.2.2)),aA .i64 p2),0)
     else
      some ((aA .i64 p0.2.2,aA .i64 p2),0)
def aP5:bM:=⟨aD.cons (aN.agg (cP.row CR)) (aD.cons (aN.int .u64) (aD.one (aN.int .u64))),aN.tup (aD.cons (aN.agg (cP.row kN)) (aD.one (aN.int .i64))),fun a=>CV a.1 a.2.1 a.2.2,.pure,false⟩
theorem aHR:aM aY 238 aP5:=Oc aGV rfl aH [] trivial fun a=>by kernel_rfl
def A3 (p0:Int) (p1:Int):Option ((Int×Int)×Int):=
 bif p1==0 then
  some ((0,0),26)
 else
  (mQ p0).bind fun n0=>
  (mQ p1).bind fun n1=>
  (zS n0 n1).bind fun n2=>
  (mQ p0).bind fun n3=>
  bif n2==0 then
   none
  else
   (mQ p1).bind fun n4=>
   bif n2==0 then
    none
   else
    (CV (!((decide (p0<0))==(decide (p1<0))),0,aA .u64 (Int.tdiv n3 n2)) 0 (aA .u64 (Int.tdiv n4 n2))).bind fun a5=>
    some a5
def aP6:bM:=⟨aD.cons (aN.int .i64) (aD.one (aN.int .i64)),aN.tup (aD.cons (aN.agg (cP.row kN)) (aD.one (aN.int .i64))),fun a=>A3 a.1 a.2,.pure,false⟩
theorem aHS:aM aY 192 aP6:=Oc aGv rfl aH [(108,aHz),(107,aNW),(238,aP5)] ⟨P1,X2,aHR,trivial⟩ fun a=>by kernel_rfl
def CW (p0:Int×Int×Int) (p1:Int×Int×Int):Option ((Int×Int)×Int):=
 (rY p0 p1 (0,1)).bind fun n0=>
 bif n0 !=0 then
  some ((0,0),n0)
 else
  bif p0.2.2==p1.2.2 then
   some ((0,0),6)
  else
   (A3 (aA .i64 (p0.2.1-p1.2.1)) (aA .i64 (p1.2.2-p0.2.2))).bind fun a1=>
   some a1
def aP7:bM:=⟨aD.cons (aN.agg (cP.row eF)) (aD.one (aN.agg (cP.row eF))),aN.tup (aD.cons (aN.agg (cP.row kN)) (aD.one (aN.int .i64))),fun a=>CW a.1 a.2,.pure,false⟩
theorem aHT:aM aY 131 aP7:=Oc aFR rfl aH [(189,aHP),(192,aP6)] ⟨P7,aHS,trivial⟩ fun a=>by kernel_rfl
def vJ (p0:Int×Int×Int) (p1:Int×Int×Int) (p2:Int×Int):Option ((Int×Int)×Bool×Int):=
 (rY p0 p1 p2).bind fun n0=>
 bif n0 !=0 then
  some ((0,0),false,n0)
 else
  (nK p1 p0 p2).bind fun n1=>
  bif decide (0<n1) then
   some (p2,true,0)
  else
   bif decide (p1.2.2<=p0.2.2) then
    some ((0,0),false,0)
   else
    (CW p0 p1).bind fun a2=>
    some (a2.1,a2.2==0,a2.2)
def aP8:bM:=⟨aD.cons (aN.agg (cP.row eF)) (aD.cons (aN.agg (cP.row eF)) (aD.one (aN.agg (cP.row kN)))),aN.tup (aD.cons (aN.agg (cP.row kN)) (aD.cons aN.bool (aD.one (aN.int .i64)))),fun a=>vJ a.1 a.2.1 a.2.2,.pure,false⟩
theorem aHU:aM aY 209 aP8:=Oc aGF rfl aH [(189,aHP),(190,aN4),(131,aP7)] ⟨P7,X7,aHT,trivial⟩ fun a=>by kernel_rfl
def rZ (p0:Field) (p1:Int×Int) (p2:Int×Int):Option ((Int×Int)×Bool×Int):=
 (jZ p0 p1.2).bind fun a0=>
 (jZ p0 p1.1).bind fun a1=>
 (vJ a0 a1 p2).bind fun a2=>
 some a2
def aHV:bM:=⟨aD.cons (aN.agg cC) (aD.cons (aN.agg (cP.row kN)) (aD.one (aN.agg (cP.row kN)))),aN.tup (aD.cons (aN.agg (cP.row kN)) (aD.cons aN.bool (aD.one (aN.int .i64)))),fun a=>rZ a.1 a.2.1 a.2.2,.pure,false⟩
theorem P8:aM aY 163 aHV:=Oc aF9 rfl aH [(178,aHO),(209,aP8)] ⟨P6,aHU,trivial⟩ fun a=>by kernel_rfl
def cR (s:aPr):Option (cA aPr aPv):=
 bif decide (s.2.2.2.1<s.2.2.1) then
  (aK s.2.1 s.2.2.2.1).bind fun a0=>
  (rZ (Field.mk s.2.2.2.2.2.2.1) a0.2 (s.2.2.2.2.1,s.2.2.2.2.2.1)).bind fun a1=>
  bif a1.2.2 !=0 then
   some (.done (.done 8))
  else
   bif !a1.2.1 then
    some (.next (s.1,s.2.1,s.2.2.1,aA .i64 (s.2.2.2.1+1),s.2.2.2.2))
   else
    bif (Int.ofNat s.1.length)==0 then
     some (.done (.done 8))
    else
     (aK s.1 0).bind fun a2=>
     bif a2.1 !=a0.1 then
      some (.done (.done 8))
     else
      (aK s.1 0).bind fun a3=>
      bif decide (a3.2.1<0) then
       some (.done (.done 8))
      else
       bif decide (200<=a3.2.1) then
        some (.done (.done 8))
       else
        (aK s.2.2.2.2.2.2.2.2.2.2.2.2.2.1 a3.2.1).bind fun n4=>
        bif decide (n4<0) then
         some (.done (.done 8))
        else
         (aK s.2.2.2.2.2.2.2.2.2.2.2.2.2.1 a3.2.1).bind fun n5=>
         (aK s.2.2.2.2.2.2.2.2.2.2.2.2.1 n5).bind fun a6=>
         bif !((a6.1==a1.1.1)&&((a6.2.1==a1.1.2)&&((a6.2.2.1==a0.1)&&((a6.2.2.2.1==a3.2.1)&&(a6.2.2.2.2==a3.2.2))))) then
          some (.done (.done 8))
         else
          (jM s.1 1 (Int.ofNat s.1.length)).bind fun l7=>
          some (.next (l7,s.2.1,s.2.2.1,aA .i64 (s.2.2.2.1+1),s.2.2.2.2))
 else
  bif decide (0<(Int.ofNat s.1.length)) then
   some (.done (.done 8))
  else
   some (.done (.done 0))
def fE (s:aHn):Option aPv:=
 bif decide (s.2.1<s.1) then
  (aK s.2.2.2.2.2.2.2.2.2.2.2.2.2 s.2.1).bind fun n0=>
  bif n0 !=0 then
   some (.done 8)
  else
   some (.next (s.1,aA .i64 (s.2.1+1),s.2.2))
 else
  bif (Int.ofNat s.2.2.2.2.2.2.2.2.2.2.2.1.length) !=200 then
   some (.done 8)
  else
   bif (Int.ofNat s.2.2.2.2.2.2.2.2.2.2.1.length) !=(Int.ofNat s.2.2.2.2.2.2.2.2.2.2.2.2.1.length) then
    some (.done 8)
   else
    aJ cR (s.2.2.2.2.2.2.2.2.2.2.2.2.1,s.2.2.2.2.2.2.1,Int.ofNat s.2.2.2.2.2.2.1.length,0,s.2.2.1,s.2.2.2.1,s.2.2.2.2.1,s.2.2.2.2.2.1,s.2.2.2.2.2.2.1,s.2.2.2.2.2.2.2.1,s.2.2.2.2.2.2.2.2.1,s.2.2.2.2.2.2.2.2.2.1,s.2.2.2.2.2.2.2.2.2.2.1,s.2.2.2.2.2.2.2.2.2.2.2.1,s.2.2.2.2.2.2.2.2.2.2.2.2.1)
def gX (p0:aP):Option Int:=
 (iT p0.now).bind fun n0=>
 (dS p0.field).bind fun n1=>
 (rW p0.certs).bind fun n2=>
 (lZ p0.agenda).bind fun n3=>
 aJ fE (Int.ofNat ([n0,n1,n2,n3].length),0,p0.now.1,p0.now.2,p0.field.points,p0.certs.next_,p0.certs.list,p0.agenda.slots.uses,p0.agenda.slots.used,p0.agenda.slots.free,p0.agenda.heap,p0.agenda.where_,p0.due,[n0,n1,n2,n3])
def Z8:bM:=⟨aD.one (aN.agg bV),aN.int .i64,fun a=>gX a,.pure,false⟩
theorem GX:aM aY 103 Z8:=Oc aFy rfl aH [(60,c60),(87,c87),(161,aHB),(162,aBN),(163,aHV)] ⟨IK,IL,P3,KB,P8,trivial⟩ fun a=>by kernel_rfl
def kQ (s:((List Int)×Int×Int×Int)):Option (cA ((List Int)×Int×Int×Int) Int):=
 bif decide (s.2.2.2<s.2.2.1) then
  (aK s.1 s.2.2.2).bind fun n0=>
  bif s.2.1==n0 then
   some (.done s.2.2.2)
  else
   some (.next (s.1,s.2.1,s.2.2.1,aA .i64 (s.2.2.2+1)))
 else
  some (.done (-1))
def iX (p0:List Int) (p1:Int):Option Int:=
 aJ kQ (p0,p1,Int.ofNat p0.length,0)
def c83:bM:=⟨aD.cons (aN.sl ki) (aD.one (aN.int .i64)),aN.int .i64,fun a=>iX a.1 a.2,.pure,false⟩
theorem aBO:aM aY 83 c83:=Oc aNx rfl aH [] trivial fun a=>by kernel_rfl
def kS (p0:List Int) (p1:Int):Option Bool:=
 (iX p0 p1).bind fun n0=>
 some (decide (0<=n0))
def aP9:bM:=⟨aD.cons (aN.sl ki) (aD.one (aN.int .i64)),aN.bool,fun a=>kS a.1 a.2,.pure,false⟩
theorem aHW:aM aY 104 aP9:=Oc aFz rfl aH [(83,c83)] ⟨aBO,trivial⟩ fun a=>by kernel_rfl
def qQ (s:aHv):Option (cA aHv yN):=
 bif decide (s.2.1<(Int.ofNat s.1.length)) then
  (aK s.1 s.2.1).bind fun n0=>
  (aK s.1 (aA .i64 (Int.tdiv (aA .i64 (s.2.1-1)) 2))).bind fun n1=>
  (bO s.2.2 [(n0,n1)]).bind fun l2=>
  some (.next (s.1,aA .i64 (s.2.1+1),l2))
 else
  some (.done s.2.2)
def xR (p0:List Int):Option yN:=
 aJ qQ (p0,1,[])
def c69:bM:=⟨aD.one (aN.sl ki),aN.sl kN,fun a=>xR a,.frz,false⟩
theorem aN5:aM aY 69 c69:=Oc aNq rfl aH [] trivial fun a=>by kernel_rfl
def kB (s:(yN×Int×Int×Int×Int)):Option (cA (yN×Int×Int×Int×Int) Int):=
 bif decide (s.2.2.1<s.2.1) then
  (aK s.1 s.2.2.1).bind fun a0=>
  bif (s.2.2.2.1==a0.1)&&(s.2.2.2.2==a0.2) then
   some (.done s.2.2.1)
  else
   some (.next (s.1,s.2.1,aA .i64 (s.2.2.1+1),s.2.2.2))
 else
  some (.done (-1))
def qR (p0:List (Int×Int)) (p1:Int×Int):Option Int:=
 aJ kB (p0,Int.ofNat p0.length,0,p1)
def aQa:bM:=⟨aD.cons (aN.sl kN) (aD.one (aN.agg (cP.row kN))),aN.int .i64,fun a=>qR a.1 a.2,.pure,false⟩
theorem aHX:aM aY 164 aQa:=Oc aGa rfl aH [] trivial fun a=>by kernel_rfl
def fP (p0:List (Int×Int)) (p1:Int×Int):Option Bool:=
 (qR p0 p1).bind fun n0=>
 some (decide (0<=n0))
def aHY:bM:=⟨aD.cons (aN.sl kN) (aD.one (aN.agg (cP.row kN))),aN.bool,fun a=>fP a.1 a.2,.pure,false⟩
theorem P9:aM aY 105 aHY:=Oc aFA rfl aH [(164,aQa)] ⟨aHX,trivial⟩ fun a=>by kernel_rfl
def A4 (p0:Int×Int×Int) (p1:Int):Option Int:=
 (fK p0.1 p1).bind fun n0=>
 some n0
def aQb:bM:=⟨aD.cons (aN.agg (cP.row eF)) (aD.one (aN.int .i64)),aN.int .i64,fun a=>A4 a.1 a.2,.pure,false⟩
theorem aHZ:aM aY 150 aQb:=Oc aFY rfl aH [(151,VH)] ⟨DU,trivial⟩ fun a=>by kernel_rfl
def jE (s:PY):Option aHs:=
 bif decide (s.2.2.2.1<s.2.2.2.2) then
  (aK s.1 (aA .i64 (tT .u64 (aA .u64 (aA .i64 (s.2.2.2.1+s.2.2.2.2))) 1))).bind fun a0=>
  (A4 a0 s.2.1).bind fun n1=>
  bif decide (n1<0) then
   some (.next (s.1,s.2.1,s.2.2.1,aA .i64 ((aA .i64 (tT .u64 (aA .u64 (aA .i64 (s.2.2.2.1+s.2.2.2.2))) 1))+1),s.2.2.2.2))
  else
   some (.next (s.1,s.2.1,s.2.2.1,s.2.2.2.1,aA .i64 (tT .u64 (aA .u64 (aA .i64 (s.2.2.2.1+s.2.2.2.2))) 1)))
 else
  bif decide (s.2.2.2.1<s.2.2.1) then
   (aK s.1 s.2.2.2.1).bind fun a2=>
   (A4 a2 s.2.1).bind fun n3=>
   some (.done (s.2.2.2.1,n3==0))
  else
   some (.done (s.2.2.2.1,false))
def dB (p0:List (Int×Int×Int)) (p1:Int) (_:Unit):Option (Int×Bool):=
 aJ jE (p0,p1,Int.ofNat p0.length,0,Int.ofNat p0.length)
def SP:bM:=⟨aD.cons (aN.sl eF) (aD.cons (aN.int .i64) (aD.one (aN.clo 150 aD.nil))),aN.tup (aD.cons (aN.int .i64) (aD.one aN.bool)),fun a=>dB a.1 a.2.1 a.2.2,.pure,false⟩
theorem SQ:aM aY 149 SP:=Oc XT rfl aH [(150,aQb)] ⟨aHZ,trivial⟩ fun a=>by kernel_rfl
def jF (p0:Field) (p1:Int):Option (Int×Bool):=
 (dB p0.points p1 ()).bind fun a0=>
 some a0
def c89:bM:=⟨aD.cons (aN.agg cC) (aD.one (aN.int .i64)),aN.tup (aD.cons (aN.int .i64) (aD.one aN.bool)),fun a=>jF a.1 a.2,.pure,false⟩
theorem aBP:aM aY 89 c89:=Oc aNB rfl aH [(149,SP)] ⟨SQ,trivial⟩ fun a=>by kernel_rfl
def kC (p0:Field) (p1:Int):Option (Int×Int):=
 (dS p0).bind fun n0=>
 bif n0 !=0 then
  some (0,n0)
 else
  (jF p0 p1).bind fun a1=>
  bif !a1.2 then
   some (0,6)
  else
   some (a1.1,0)
def c92:bM:=⟨aD.cons (aN.agg cC) (aD.one (aN.int .i64)),aN.tup (aD.cons (aN.int .i64) (aD.one (aN.int .i64))),fun a=>kC a.1 a.2,.pure,false⟩
theorem aBQ:aM aY 92 c92:=Oc aNE rfl aH [(87,c87),(89,c89)] ⟨IL,aBP,trivial⟩ fun a=>by kernel_rfl
def eJ (p0:Field) (p1:Int):Option ((Int×Int×Int)×Int):=
 (kC p0 p1).bind fun a0=>
 bif a0.2 !=0 then
  some ((0,0,0),a0.2)
 else
  (aK p0.points a0.1).bind fun a1=>
  some (a1,0)
def aBR:bM:=⟨aD.cons (aN.agg cC) (aD.one (aN.int .i64)),aN.tup (aD.cons (aN.agg (cP.row eF)) (aD.one (aN.int .i64))),fun a=>eJ a.1 a.2,.pure,false⟩
theorem KC:aM aY 139 aBR:=Oc aFS rfl aH [(92,c92)] ⟨aBQ,trivial⟩ fun a=>by kernel_rfl
def gU (p0:Int×Int×Int) (p1:Int×Int×Int) (p2:Int×Int):Option (Bool×Int):=
 (rY p0 p1 p2).bind fun n0=>
 bif n0 !=0 then
  some (false,n0)
 else
  (nK p0 p1 p2).bind fun n1=>
  some (decide (0<n1),0)
def aH0:bM:=⟨aD.cons (aN.agg (cP.row eF)) (aD.cons (aN.agg (cP.row eF)) (aD.one (aN.agg (cP.row kN)))),aN.tup (aD.cons aN.bool (aD.one (aN.int .i64))),fun a=>gU a.1 a.2.1 a.2.2,.pure,false⟩
theorem QA:aM aY 128 aH0:=Oc aFQ rfl aH [(189,aHP),(190,aN4)] ⟨P7,X7,trivial⟩ fun a=>by kernel_rfl
def xS (p0:Field) (p1:Int×Int) (p2:Int) (p3:Int):Option Bool:=
 (eJ p0 p2).bind fun a0=>
 (eJ p0 p3).bind fun a1=>
 (gU a0.1 a1.1 p1).bind fun a2=>
 some a2.1
def aQc:bM:=⟨aD.cons (aN.agg cC) (aD.cons (aN.agg (cP.row kN)) (aD.cons (aN.int .i64) (aD.one (aN.int .i64)))),aN.bool,fun a=>xS a.1 a.2.1 a.2.2.1 a.2.2.2,.pure,false⟩
theorem aH1:aM aY 106 aQc:=Oc aFB rfl aH [(139,aBR),(128,aH0)] ⟨KC,QA,trivial⟩ fun a=>by kernel_rfl
def qS (s:aPq):Option (cA aPq aPt):=
 bif decide (s.2.2.2.1<s.2.2.1) then
  (aK s.2.1 s.2.2.2.1).bind fun a0=>
  (fP s.1 a0.2).bind fun b1=>
  bif !b1 then
   some (.done (.done 8))
  else
   (xS (Field.mk s.2.2.2.2.2.2.1) (s.2.2.2.2.1,s.2.2.2.2.2.1) a0.2.2 a0.2.1).bind fun b2=>
   bif !b2 then
    some (.done (.done 8))
   else
    some (.next (s.1,s.2.1,s.2.2.1,aA .i64 (s.2.2.2.1+1),s.2.2.2.2))
 else
  some (.done (.done 0))
def qT (s:aPs):Option aPt:=
 bif decide (s.2.2.1<s.2.1) then
  (aK s.1 s.2.2.1).bind fun a0=>
  (kS s.2.2.2.2.2.2.2.2.2.2.2.2.2.2 a0.1).bind fun b1=>
  bif !b1 then
   some (.done 8)
  else
   some (.next (s.1,s.2.1,aA .i64 (s.2.2.1+1),s.2.2.2))
 else
  (xR s.2.2.2.2.2.2.2.2.2.2.2.2.2.2).bind fun l2=>
  bif (Int.ofNat l2.length) !=(Int.ofNat s.2.2.2.2.2.2.2.1.length) then
   some (.done 8)
  else
   aJ qS (l2,s.2.2.2.2.2.2.2.1,Int.ofNat s.2.2.2.2.2.2.2.1.length,0,s.2.2.2)
def uC (p0:cD):Option Int:=
 (gX p0.clock).bind fun n0=>
 bif n0 !=0 then
  some 8
 else
  bif (Int.ofNat p0.heap.length) !=(Int.ofNat p0.clock.field.points.length) then
   some 8
  else
   aJ qT (p0.clock.field.points,Int.ofNat p0.clock.field.points.length,0,p0.clock.now.1,p0.clock.now.2,p0.clock.field.points,p0.clock.certs.next_,p0.clock.certs.list,p0.clock.agenda.slots.uses,p0.clock.agenda.slots.used,p0.clock.agenda.slots.free,p0.clock.agenda.heap,p0.clock.agenda.where_,p0.clock.due,p0.heap)
def c59:bM:=⟨aD.one (aN.agg gC),aN.int .i64,fun a=>uC a,.pure,false⟩
theorem aBS:aM aY 59 c59:=Oc aNk rfl aH [(103,Z8),(104,aP9),(69,c69),(105,aHY),(106,aQc)] ⟨GX,aHW,aN5,P9,aH1,trivial⟩ fun a=>by kernel_rfl
def mR (p0:Field) (p1:Int×Int×Int):Option (Field×Int):=
 (dS p0).bind fun n0=>
 bif n0 !=0 then
  some (Field.mk [],n0)
 else
  (jX p1).bind fun n1=>
  bif n1 !=0 then
   some (Field.mk [],n1)
  else
   (jF p0 p1.1).bind fun a2=>
   bif a2.2 then
    some (Field.mk [],14)
   else
    bif (Int.ofNat p0.points.length)==64 then
     some (Field.mk [],18)
    else
     (bR p0.points).bind fun l3=>
     (DL l3 a2.1 [p1]).bind fun l4=>
     some (Field.mk l4,0)
def c45:bM:=⟨aD.cons (aN.agg cC) (aD.one (aN.agg (cP.row eF))),aN.tup (aD.cons (aN.agg cC) (aD.one (aN.int .i64))),fun a=>mR a.1 a.2,.frz,false⟩
theorem aN6:aM aY 45 c45:=aM.of aNb (cx:=(pH aH [(87,c87),(88,c88),(89,c89),(91,bM.clone eF)] [] [(90,.ins 3)] [])) rfl (mK.make ⟨IL,P2,aBP,AZ,trivial⟩ trivial ⟨aNC,trivial⟩) (fun a=>by kernel_rfl)
def nL (s:((List Int)×Int×Int×yN)):Option (cA ((List Int)×Int×Int×yN) yN):=
 bif decide (s.2.2.1<s.2.1) then
  (aK s.1 (aA .i64 (s.2.2.1+1))).bind fun n0=>
  (aK s.1 (aA .i64 (Int.tdiv s.2.2.1 2))).bind fun n1=>
  (bO s.2.2.2 [(n0,n1)]).bind fun l2=>
  some (.next (s.1,s.2.1,aA .i64 (s.2.2.1+1),l2))
 else
  some (.done s.2.2.2)
def xT (p0:List Int):Option yN:=
 aJ nL (p0,aA .i64 ((Int.ofNat p0.length) - (if (Int.ofNat p0.length)<1 then Int.ofNat p0.length else 1)),0,[])
def aQd:bM:=⟨aD.one (aN.sl ki),aN.sl kN,fun a=>xT a,.frz,false⟩
theorem aH2:aM aY 143 aQd:=Oc aFU rfl aH [] trivial fun a=>by kernel_rfl
def wO (p0:aP):Option aP:=
 (bR p0.field.points).bind fun l0=>
 (bR p0.certs.list).bind fun l1=>
 (bR p0.due).bind fun l2=>
 (bR p0.agenda.heap).bind fun l3=>
 (bR p0.agenda.where_).bind fun l4=>
 (bR p0.agenda.slots.uses).bind fun l5=>
 (bR p0.agenda.slots.used).bind fun l6=>
 (bR p0.agenda.slots.free).bind fun l7=>
 some (aP.mk p0.now (Field.mk l0) (aU.mk p0.certs.next_ l1) (aG.mk (aR.mk l5 l6 l7) l3 l4) l2)
def aQe:bM:=⟨aD.one (aN.agg bV),aN.agg bV,fun a=>wO a,.own,true⟩
def aJB:bM:=⟨aD.one (aN.agg bV),aN.agg bV,fun a=>wO a,.frz,false⟩
theorem aH3:aM aY 196 aQe:=Oc XW rfl aH [(91,bM.clone eF),(170,bM.clone eF),(171,bM.clone eF),(172,bM.clone lW),(64,bM.clone ki),(173,bM.clone kb)] ⟨AZ,zR,GT,wK,qN,wJ,trivial⟩ fun a=>by kernel_rfl
theorem aBT:aM aY 196 aJB:=Oc XW rfl aH [(91,bM.clone eF),(170,bM.clone eF),(171,bM.clone eF),(172,bM.clone lW),(64,bM.clone ki),(173,bM.clone kb)] ⟨AZ,zR,GT,wK,qN,wJ,trivial⟩ fun a=>by kernel_rfl
def uD (p0:Int×Int×Int) (p1:Int):Option Int:=
 (fK p0.1 p1).bind fun n0=>
 some n0
def aQf:bM:=⟨aD.cons (aN.agg (cP.row eF)) (aD.one (aN.int .i64)),aN.int .i64,fun a=>uD a.1 a.2,.pure,false⟩
theorem aH4:aM aY 289 aQf:=Oc aHk rfl aH [(151,VH)] ⟨DU,trivial⟩ fun a=>by kernel_rfl
def aT (s:PY):Option aHs:=
 bif decide (s.2.2.2.1<s.2.2.2.2) then
  (aK s.1 (aA .i64 (tT .u64 (aA .u64 (aA .i64 (s.2.2.2.1+s.2.2.2.2))) 1))).bind fun a0=>
  (uD a0 s.2.1).bind fun n1=>
  bif decide (n1<0) then
   some (.next (s.1,s.2.1,s.2.2.1,aA .i64 ((aA .i64 (tT .u64 (aA .u64 (aA .i64 (s.2.2.2.1+s.2.2.2.2))) 1))+1),s.2.2.2.2))
  else
   some (.next (s.1,s.2.1,s.2.2.1,s.2.2.2.1,aA .i64 (tT .u64 (aA .u64 (aA .i64 (s.2.2.2.1+s.2.2.2.2))) 1)))
 else
  bif decide (s.2.2.2.1<s.2.2.1) then
   (aK s.1 s.2.2.2.1).bind fun a2=>
   (uD a2 s.2.1).bind fun n3=>
   some (.done (s.2.2.2.1,n3==0))
  else
   some (.done (s.2.2.2.1,false))
def aW (p0:List (Int×Int×Int)) (p1:Int) (_:Unit):Option (Int×Bool):=
 aJ aT (p0,p1,Int.ofNat p0.length,0,Int.ofNat p0.length)
def SS:bM:=⟨aD.cons (aN.sl eF) (aD.cons (aN.int .i64) (aD.one (aN.clo 289 aD.nil))),aN.tup (aD.cons (aN.int .i64) (aD.one aN.bool)),fun a=>aW a.1 a.2.1 a.2.2,.pure,false⟩
theorem ST:aM aY 288 SS:=Oc aHj rfl aH [(289,aQf)] ⟨aH4,trivial⟩ fun a=>by kernel_rfl
def IM (p0:aU) (p1:Int):Option (Int×Int):=
 (rW p0).bind fun n0=>
 bif n0 !=0 then
  some (0,n0)
 else
  (aW p0.list p1 ()).bind fun a1=>
  bif !a1.2 then
   some (0,6)
  else
   some (a1.1,0)
def aQg:bM:=⟨aD.cons (aN.agg gS) (aD.one (aN.int .i64)),aN.tup (aD.cons (aN.int .i64) (aD.one (aN.int .i64))),fun a=>IM a.1 a.2,.pure,false⟩
theorem aH5:aM aY 261 aQg:=Oc aG7 rfl aH [(161,aHB),(288,SS)] ⟨P3,ST,trivial⟩ fun a=>by kernel_rfl
def fQ (a:aBJ):Option (Nat×Nat×bJ):=
 bif (((decide (0<=a.1))&&(decide (a.1<=a.2.1)))&&(decide (a.2.1<=(Int.ofNat a.2.2.length))))&&(decide ((Int.ofNat a.2.2.length)<=(Int.ofNat a.2.2.length))) then
  bif a.1==a.2.1 then
   bif a.2.2.length==a.2.2.length then
    some (a.2.2.length,a.2.2.length,a.2.2)
   else
    none
  else
   (jM a.2.2 0 a.1).bind fun _=>
   bif ((decide (0<=a.2.1))&&(decide (a.2.1<=(Int.ofNat a.2.2.length))))&&(decide ((Int.ofNat a.2.2.length)<=(Int.ofNat a.2.2.length))) then
    bif ((a.2.2.drop (0+a.2.1.toNat)).take (((Int.ofNat a.2.2.length).toNat) -a.2.1.toNat)).isEmpty then
     bif ((decide (0<=(Int.ofNat a.1.toNat)))&&(decide ((Int.ofNat a.1.toNat)<=(Int.ofNat a.2.2.length))))&&(decide ((Int.ofNat a.2.2.length)<=(Int.ofNat a.2.2.length))) then
      bif Nat.beq (((Int.ofNat a.2.2.length).toNat) - ((Int.ofNat a.1.toNat).toNat)) 0 then
       bif a.2.2.length==a.2.2.length then
        some (a.1.toNat,a.2.2.length,a.2.2)
       else
        none
      else
       bif (Nat.ble ((0+((Int.ofNat a.1.toNat).toNat))+(((Int.ofNat a.2.2.length).toNat) - ((Int.ofNat a.1.toNat).toNat))) a.2.2.length)&&(!false) then
        bif ((iV a.2.2 (0+((Int.ofNat a.1.toNat).toNat)) (List.replicate (((Int.ofNat a.2.2.length).toNat) - ((Int.ofNat a.1.toNat).toNat)) (0,0,0))).length)==a.2.2.length then
         some (a.1.toNat,a.2.2.length,iV a.2.2 (0+((Int.ofNat a.1.toNat).toNat)) (List.replicate (((Int.ofNat a.2.2.length).toNat) - ((Int.ofNat a.1.toNat).toNat)) (0,0,0)))
        else
         none
       else
        none
     else
      none
    else
     bif Nat.ble (a.1.toNat+(((a.2.2.drop (0+a.2.1.toNat)).take (((Int.ofNat a.2.2.length).toNat) -a.2.1.toNat)).length)) a.2.2.length then
      bif (Nat.ble (a.1.toNat+(((a.2.2.drop (0+a.2.1.toNat)).take (((Int.ofNat a.2.2.length).toNat) -a.2.1.toNat)).length)) a.2.2.length)&&(!false) then
       bif ((decide (0<=(Int.ofNat (a.1.toNat+(((a.2.2.drop (0+a.2.1.toNat)).take (((Int.ofNat a.2.2.length).toNat) -a.2.1.toNat)).length)))))&&(decide ((Int.ofNat (a.1.toNat+(((a.2.2.drop (0+a.2.1.toNat)).take (((Int.ofNat a.2.2.length).toNat) -a.2.1.toNat)).length)))<=(Int.ofNat a.2.2.length))))&&(decide ((Int.ofNat a.2.2.length)<=(Int.ofNat a.2.2.length))) then
        bif Nat.beq (((Int.ofNat a.2.2.length).toNat) - ((Int.ofNat (a.1.toNat+(((a.2.2.drop (0+a.2.1.toNat)).take (((Int.ofNat a.2.2.length).toNat) -a.2.1.toNat)).length))).toNat)) 0 then
         bif ((iV a.2.2 a.1.toNat ((a.2.2.drop (0+a.2.1.toNat)).take (((Int.ofNat a.2.2.length).toNat) -a.2.1.toNat))).length)==a.2.2.length then
          some (a.1.toNat+(((a.2.2.drop (0+a.2.1.toNat)).take (((Int.ofNat a.2.2.length).toNat) -a.2.1.toNat)).length),a.2.2.length,iV a.2.2 a.1.toNat ((a.2.2.drop (0+a.2.1.toNat)).take (((Int.ofNat a.2.2.length).toNat) -a.2.1.toNat)))
         else
          none
        else
         bif (Nat.ble ((0+((Int.ofNat (a.1.toNat+(((a.2.2.drop (0+a.2.1.toNat)).take (((Int.ofNat a.2.2.length).toNat) -a.2.1.toNat)).length))).toNat))+(((Int.ofNat a.2.2.length).toNat) - ((Int.ofNat (a.1.toNat+(((a.2.2.drop (0+a.2.1.toNat)).take (((Int.ofNat a.2.2.length).toNat) -a.2.1.toNat)).length))).toNat))) ((iV a.2.2 a.1.toNat ((a.2.2.drop (0+a.2.1.toNat)).take (((Int.ofNat a.2.2.length).toNat) -a.2.1.toNat))).length))&&(!false) then
          bif ((iV (iV a.2.2 a.1.toNat ((a.2.2.drop (0+a.2.1.toNat)).take (((Int.ofNat a.2.2.length).toNat) -a.2.1.toNat))) (0+((Int.ofNat (a.1.toNat+(((a.2.2.drop (0+a.2.1.toNat)).take (((Int.ofNat a.2.2.length).toNat) -a.2.1.toNat)).length))).toNat)) (List.replicate (((Int.ofNat a.2.2.length).toNat) - ((Int.ofNat (a.1.toNat+(((a.2.2.drop (0+a.2.1.toNat)).take (((Int.ofNat a.2.2.length).toNat) -a.2.1.toNat)).length))).toNat)) (0,0,0))).length)==a.2.2.length then
           some (a.1.toNat+(((a.2.2.drop (0+a.2.1.toNat)).take (((Int.ofNat a.2.2.length).toNat) -a.2.1.toNat)).length),a.2.2.length,iV (iV a.2.2 a.1.toNat ((a.2.2.drop (0+a.2.1.toNat)).take (((Int.ofNat a.2.2.length).toNat) -a.2.1.toNat))) (0+((Int.ofNat (a.1.toNat+(((a.2.2.drop (0+a.2.1.toNat)).take (((Int.ofNat a.2.2.length).toNat) -a.2.1.toNat)).length))).toNat)) (List.replicate (((Int.ofNat a.2.2.length).toNat) - ((Int.ofNat (a.1.toNat+(((a.2.2.drop (0+a.2.1.toNat)).take (((Int.ofNat a.2.2.length).toNat) -a.2.1.toNat)).length))).toNat)) (0,0,0)))
          else
           none
         else
          none
       else
        none
      else
       none
     else
      none
   else
    none
 else
  none
def aBU:eH:=⟨[.i,.i,.l [.i .i64,.i .i64,.i .i64]],[.own 0 false,.int .i64 0,.int .i64 0],[.arr [.i .i64,.i .i64,.i .i64] []],[.n,.n,.l [.i .i64,.i .i64,.i .i64]],.pre 0 0 0 false,[.arr [.i .i64,.i .i64,.i .i64] []],fun a=>fQ a⟩
theorem Z9:nB aY 262 aBU:=nB.of aG8 (wd:=true) (cx:=(pH aH [] [] [] [])) (mK.make trivial trivial trivial) (fun a=>by kernel_rfl)
def xU (p0:aU) (p1:Int):Option (aU×(Int×Int)×Int):=
 (IM p0 p1).bind fun a0=>
 bif a0.2 !=0 then
  some (aU.mk 0 [],(0,0),a0.2)
 else
  (bR p0.list).bind fun l1=>
  (fQ (a0.1,aA .i64 (a0.1+1),l1)).bind fun a2=>
  (aK p0.list a0.1).bind fun a3=>
  some (aU.mk p0.next_ (a2.2.2.take a2.1),a3.2,0)
def aQh:bM:=⟨aD.cons (aN.agg gS) (aD.one (aN.int .i64)),aN.tup (aD.cons (aN.agg gS) (aD.cons (aN.agg (cP.row kN)) (aD.one (aN.int .i64)))),fun a=>xU a.1 a.2,.frz,false⟩
theorem aH6:aM aY 211 aQh:=aM.of aGH (cx:=(pH aH [(261,aQg),(170,bM.clone eF)] [(262,aBU)] [] [])) rfl (mK.make ⟨aH5,zR,trivial⟩ ⟨Z9,trivial⟩ trivial) (fun a=>by kernel_rfl)
def nM (p0:aP):Option aP:=
 (bR p0.field.points).bind fun l0=>
 (bR p0.certs.list).bind fun l1=>
 (bR p0.due).bind fun l2=>
 (bR p0.agenda.heap).bind fun l3=>
 (bR p0.agenda.where_).bind fun l4=>
 (bR p0.agenda.slots.uses).bind fun l5=>
 (bR p0.agenda.slots.used).bind fun l6=>
 (bR p0.agenda.slots.free).bind fun l7=>
 some (aP.mk p0.now (Field.mk l0) (aU.mk p0.certs.next_ l1) (aG.mk (aR.mk l5 l6 l7) l3 l4) l2)
def aH7:bM:=⟨aD.one (aN.agg bV),aN.agg bV,fun a=>nM a,.own,true⟩
def X8:bM:=⟨aD.one (aN.agg bV),aN.agg bV,fun a=>nM a,.frz,false⟩
theorem QB:aM aY 115 aH7:=Oc XL rfl aH [(91,bM.clone eF),(170,bM.clone eF),(171,bM.clone eF),(172,bM.clone lW),(64,bM.clone ki),(173,bM.clone kb)] ⟨AZ,zR,GT,wK,qN,wJ,trivial⟩ fun a=>by kernel_rfl
theorem MA:aM aY 115 X8:=Oc XL rfl aH [(91,bM.clone eF),(170,bM.clone eF),(171,bM.clone eF),(172,bM.clone lW),(64,bM.clone ki),(173,bM.clone kb)] ⟨AZ,zR,GT,wK,qN,wJ,trivial⟩ fun a=>by kernel_rfl
def yQ (p0:Int×Int×Int) (p1:Int):Option Int:=
 (fK p0.1 p1).bind fun n0=>
 some n0
def aQi:bM:=⟨aD.cons (aN.agg (cP.row eF)) (aD.one (aN.int .i64)),aN.int .i64,fun a=>yQ a.1 a.2,.pure,false⟩
theorem aH8:aM aY 217 aQi:=Oc aGM rfl aH [(151,VH)] ⟨DU,trivial⟩ fun a=>by kernel_rfl
def jK (s:PY):Option aHs:=
 bif decide (s.2.2.2.1<s.2.2.2.2) then
  (aK s.1 (aA .i64 (tT .u64 (aA .u64 (aA .i64 (s.2.2.2.1+s.2.2.2.2))) 1))).bind fun a0=>
  (yQ a0 s.2.1).bind fun n1=>
  bif decide (n1<0) then
   some (.next (s.1,s.2.1,s.2.2.1,aA .i64 ((aA .i64 (tT .u64 (aA .u64 (aA .i64 (s.2.2.2.1+s.2.2.2.2))) 1))+1),s.2.2.2.2))
  else
   some (.next (s.1,s.2.1,s.2.2.1,s.2.2.2.1,aA .i64 (tT .u64 (aA .u64 (aA .i64 (s.2.2.2.1+s.2.2.2.2))) 1)))
 else
  bif decide (s.2.2.2.1<s.2.2.1) then
   (aK s.1 s.2.2.2.1).bind fun a2=>
   (yQ a2 s.2.1).bind fun n3=>
   some (.done (s.2.2.2.1,n3==0))
  else
   some (.done (s.2.2.2.1,false))
def dC (p0:List (Int×Int×Int)) (p1:Int) (_:Unit):Option (Int×Bool):=
 aJ jK (p0,p1,Int.ofNat p0.length,0,Int.ofNat p0.length)
def SU:bM:=⟨aD.cons (aN.sl eF) (aD.cons (aN.int .i64) (aD.one (aN.clo 217 aD.nil))),aN.tup (aD.cons (aN.int .i64) (aD.one aN.bool)),fun a=>dC a.1 a.2.1 a.2.2,.pure,false⟩
theorem SW:aM aY 216 SU:=Oc aGL rfl aH [(217,aQi)] ⟨aH8,trivial⟩ fun a=>by kernel_rfl
def pV (p0:List (Int×Int×Int)) (p1:Int):Option (Int×Bool):=
 (dC p0 p1 ()).bind fun a0=>
 some a0
def aN7:bM:=⟨aD.cons (aN.sl eF) (aD.one (aN.int .i64)),aN.tup (aD.cons (aN.int .i64) (aD.one aN.bool)),fun a=>pV a.1 a.2,.pure,false⟩
theorem X9:aM aY 179 aN7:=Oc aGm rfl aH [(216,SU)] ⟨SW,trivial⟩ fun a=>by kernel_rfl
def CX (p0:aR) (p1:Int×Int):Option (Bool×Int):=
 (rX p0).bind fun n0=>
 bif n0 !=0 then
  some (false,n0)
 else
  bif decide (0<=p1.1) then
   bif decide (p1.1<(Int.ofNat p0.used.length)) then
    (aK p0.used p1.1).bind fun b1=>
    bif b1 then
     (aK p0.uses p1.1).bind fun n2=>
     some (n2==p1.2,0)
    else
     some (false,0)
   else
    some (false,0)
  else
   some (false,0)
def aN8:bM:=⟨aD.cons (aN.agg gL) (aD.one (aN.agg (cP.row kN))),aN.tup (aD.cons aN.bool (aD.one (aN.int .i64))),fun a=>CX a.1 a.2,.pure,false⟩
theorem YA:aM aY 264 aN8:=Oc aG9 rfl aH [(207,aHE)] ⟨P4,trivial⟩ fun a=>by kernel_rfl
def qU (p0:aG) (p1:Int×Int):Option (Int×Int):=
 (lZ p0).bind fun n0=>
 bif n0 !=0 then
  some (0,n0)
 else
  (CX p0.slots p1).bind fun a1=>
  bif a1.2 !=0 then
   some (0,6)
  else
   bif !a1.1 then
    some (0,6)
   else
    (aK p0.where_ p1.1).bind fun n2=>
    some (n2,0)
def aN9:bM:=⟨aD.cons (aN.agg dE) (aD.one (aN.agg (cP.row kN))),aN.tup (aD.cons (aN.int .i64) (aD.one (aN.int .i64))),fun a=>qU a.1 a.2,.pure,false⟩
theorem YB:aM aY 218 aN9:=Oc aGN rfl aH [(162,aBN),(264,aN8)] ⟨KB,YA,trivial⟩ fun a=>by kernel_rfl
def uT (p0:List Int) (p1:Int):Option (List Int):=
 (bR p0).bind fun l0=>
 (bO l0 [p1]).bind fun l1=>
 some l1
def aQj:bM:=⟨aD.cons (aN.sl ki) (aD.one (aN.int .i64)),aN.sl ki,fun a=>uT a.1 a.2,.frz,false⟩
theorem aH9:aM aY 291 aQj:=Oc aHm rfl aH [(290,bM.clone ki)] ⟨SL,trivial⟩ fun a=>by kernel_rfl
def DV (p0:aR) (p1:Int×Int):Option (aR×Int):=
 (CX p0 p1).bind fun a0=>
 bif a0.2 !=0 then
  some (aR.mk [] [] [],a0.2)
 else
  bif !a0.1 then
   some (aR.mk [] [] [],6)
  else
   (bR p0.uses).bind fun l1=>
   (bR p0.used).bind fun l2=>
   (uT p0.free p1.1).bind fun l3=>
   (aK l2 p1.1).bind fun _=>
   some (aR.mk l1 (bN l2 p1.1 false) l3,0)
def aQk:bM:=⟨aD.cons (aN.agg gL) (aD.one (aN.agg (cP.row kN))),aN.tup (aD.cons (aN.agg gL) (aD.one (aN.int .i64))),fun a=>DV a.1 a.2,.frz,false⟩
theorem aIa:aM aY 269 aQk:=aM.of aHc (cx:=(pH aH [(264,aN8),(64,bM.clone ki),(173,bM.clone kb),(291,aQj)] [] [(268,aBx)] [])) rfl (mK.make ⟨YA,qN,wJ,aH9,trivial⟩ trivial ⟨XZ,trivial⟩) (fun a=>by kernel_rfl)
def bW (a:aHo):Option NF:=
 (aK (a.2.2.2.2.2.2.2.2.2.2.2.1.take a.2.2.2.1) a.2.2.2.2.2.1).bind fun _=>
 (aK a.2.2.2.2.2.2.2.2.2.2.2.2 a.2.2.2.2.2.2.2.2.2.1).bind fun _=>
 bif ((bN a.2.2.2.2.2.2.2.2.2.2.2.1 a.2.2.2.2.2.1 (a.2.2.2.2.2.2.1,a.2.2.2.2.2.2.2.1,a.2.2.2.2.2.2.2.2.1,a.2.2.2.2.2.2.2.2.2.1,a.2.2.2.2.2.2.2.2.2.2.1)).length)==a.2.2.2.2.2.2.2.2.2.2.2.1.length then
  bif ((bN a.2.2.2.2.2.2.2.2.2.2.2.2 a.2.2.2.2.2.2.2.2.2.1 a.2.2.2.2.2.1).length)==a.2.2.2.2.2.2.2.2.2.2.2.2.length then
   some (bN a.2.2.2.2.2.2.2.2.2.2.2.1 a.2.2.2.2.2.1 (a.2.2.2.2.2.2.1,a.2.2.2.2.2.2.2.1,a.2.2.2.2.2.2.2.2.1,a.2.2.2.2.2.2.2.2.2.1,a.2.2.2.2.2.2.2.2.2.2.1),bN a.2.2.2.2.2.2.2.2.2.2.2.2 a.2.2.2.2.2.2.2.2.2.1 a.2.2.2.2.2.1)
  else
   none
 else
  none
def VI:eH:=⟨[.l [.i .i64],.l [.b],.l [.i .i64],.n,.n,.i,.i,.i,.i,.i,.i,.l [.i .i64,.i .i64,.i .i64,.i .i64,.i .i64],.l [.i .i64]],[.agg [.sl [.i .i64] [],.sl [.b] [],.sl [.i .i64] [],.pre 0 0 0 false,.own 1 false],.int .i64 0,.agg [.int .i64 0,.int .i64 0,.int .i64 0,.int .i64 0,.int .i64 0]],[.arr [.i .i64,.i .i64,.i .i64,.i .i64,.i .i64] [],.arr [.i .i64] []],[.l [.i .i64,.i .i64,.i .i64,.i .i64,.i .i64],.l [.i .i64]],.tup [],[.arr [.i .i64,.i .i64,.i .i64,.i .i64,.i .i64] [],.arr [.i .i64] []],fun a=>bW a⟩
theorem OE:nB aY 265 VI:=nB.of XY (wd:=false) (cx:=(pH aH [] [] [] [])) (mK.make trivial trivial trivial) (fun a=>by kernel_rfl)
def gD (c0:aHo) (s:aPF):Option (cA aPF aPB):=
 match s with
 |(a,b,d,e,f,g,h,i,j,k,l,m,n,o)=>
  bif decide (b<(Int.ofNat i)) then
   bif decide ((aA .i64 (b+1))<(Int.ofNat i)) then
    (aK (d.take i) (aA .i64 (b+1))).bind fun a0=>
    (aK (d.take i) b).bind fun a1=>
    (cH a0 a1).bind fun n2=>
    bif decide (n2<0) then
     (aK (d.take i) (aA .i64 (b+1))).bind fun a3=>
     (cH a3 (k,l,m,n,o)).bind fun n4=>
     bif decide (0<=n4) then
      (bW (f,g,h,i,j,a,k,l,m,n,o,d,e)).bind fun a5=>
      bif a5.1.length==c0.2.2.2.2.2.2.2.2.2.2.2.1.length then
       bif a5.2.length==c0.2.2.2.2.2.2.2.2.2.2.2.2.length then
        some (.done (.done a5))
       else
        none
      else
       none
     else
      (aK (d.take i) (aA .i64 (b+1))).bind fun a6=>
      (bW (f,g,h,i,j,a,a6.1,a6.2.1,a6.2.2.1,a6.2.2.2.1,a6.2.2.2.2,d,e)).bind fun a7=>
      some (.next (aA .i64 (b+1),aA .i64 ((aA .i64 (2*(aA .i64 (b+1))))+1),a7.1,a7.2,(f,g,h,i,j,k,l,m,n,o)))
    else
     (aK (d.take i) b).bind fun a8=>
     (cH a8 (k,l,m,n,o)).bind fun n9=>
     bif decide (0<=n9) then
      (bW (f,g,h,i,j,a,k,l,m,n,o,d,e)).bind fun a10=>
      bif a10.1.length==c0.2.2.2.2.2.2.2.2.2.2.2.1.length then
       bif a10.2.length==c0.2.2.2.2.2.2.2.2.2.2.2.2.length then
        some (.done (.done a10))
       else
        none
      else
       none
     else
      (aK (d.take i) b).bind fun a11=>
      (bW (f,g,h,i,j,a,a11.1,a11.2.1,a11.2.2.1,a11.2.2.2.1,a11.2.2.2.2,d,e)).bind fun a12=>
      some (.next (b,aA .i64 ((aA .i64 (2*b))+1),a12.1,a12.2,(f,g,h,i,j,k,l,m,n,o)))
   else
    (aK (d.take i) b).bind fun a13=>
    (cH a13 (k,l,m,n,o)).bind fun n14=>
    bif decide (0<=n14) then
     (bW (f,g,h,i,j,a,k,l,m,n,o,d,e)).bind fun a15=>
     bif a15.1.length==c0.2.2.2.2.2.2.2.2.2.2.2.1.length then
      bif a15.2.length==c0.2.2.2.2.2.2.2.2.2.2.2.2.length then
       some (.done (.done a15))
      else
       none
     else
      none
    else
     (aK (d.take i) b).bind fun a16=>
     (bW (f,g,h,i,j,a,a16.1,a16.2.1,a16.2.2.1,a16.2.2.2.1,a16.2.2.2.2,d,e)).bind fun a17=>
     some (.next (b,aA .i64 ((aA .i64 (2*b))+1),a17.1,a17.2,(f,g,h,i,j,k,l,m,n,o)))
  else
   (bW (f,g,h,i,j,a,k,l,m,n,o,d,e)).bind fun a18=>
   bif a18.1.length==c0.2.2.2.2.2.2.2.2.2.2.2.1.length then
    bif a18.2.length==c0.2.2.2.2.2.2.2.2.2.2.2.2.length then
     some (.done (.done a18))
    else
     none
   else
    none
def eQ (c0:aHo) (s:aPA):Option aPB:=
 bif decide (0<s.1) then
  (aK (s.2.1.take s.2.2.2.2.2.2.1) (aA .i64 (Int.tdiv (aA .i64 (s.1-1)) 2))).bind fun a0=>
  (cH s.2.2.2.2.2.2.2.2 a0).bind fun n1=>
  bif decide (n1<0) then
   (aK (s.2.1.take s.2.2.2.2.2.2.1) (aA .i64 (Int.tdiv (aA .i64 (s.1-1)) 2))).bind fun a2=>
   (bW (s.2.2.2.1,s.2.2.2.2.1,s.2.2.2.2.2.1,s.2.2.2.2.2.2.1,s.2.2.2.2.2.2.2.1,s.1,a2.1,a2.2.1,a2.2.2.1,a2.2.2.2.1,a2.2.2.2.2,s.2.1,s.2.2.1)).bind fun a3=>
   some (.next (aA .i64 (Int.tdiv (aA .i64 (s.1-1)) 2),a3.1,a3.2,s.2.2.2))
  else
   aJ (gD c0) (s.1,aA .i64 ((aA .i64 (2*s.1))+1),s.2)
 else
  aJ (gD c0) (s.1,aA .i64 ((aA .i64 (2*s.1))+1),s.2)
def kT (a:aHo):Option NF:=
 aJ (eQ a) (a.2.2.2.2.2.1,a.2.2.2.2.2.2.2.2.2.2.2.1,a.2.2.2.2.2.2.2.2.2.2.2.2,a.1,a.2.1,a.2.2.1,a.2.2.2.1,a.2.2.2.2.1,a.2.2.2.2.2.2.1,a.2.2.2.2.2.2.2.1,a.2.2.2.2.2.2.2.2.1,a.2.2.2.2.2.2.2.2.2.1,a.2.2.2.2.2.2.2.2.2.2.1)
def QC:eH:=⟨[.l [.i .i64],.l [.b],.l [.i .i64],.n,.n,.i,.i,.i,.i,.i,.i,.l [.i .i64,.i .i64,.i .i64,.i .i64,.i .i64],.l [.i .i64]],[.agg [.sl [.i .i64] [],.sl [.b] [],.sl [.i .i64] [],.pre 0 0 0 false,.own 1 false],.int .i64 0,.agg [.int .i64 0,.int .i64 0,.int .i64 0,.int .i64 0,.int .i64 0]],[.arr [.i .i64,.i .i64,.i .i64,.i .i64,.i .i64] [],.arr [.i .i64] []],[.l [.i .i64,.i .i64,.i .i64,.i .i64,.i .i64],.l [.i .i64]],.tup [],[.arr [.i .i64,.i .i64,.i .i64,.i .i64,.i .i64] [],.arr [.i .i64] []],fun a=>kT a⟩
theorem IN:nB aY 220 QC:=nB.of XX (wd:=false) (cx:=(pH aH [(208,aHM)] [(265,VI)] [] [])) (mK.make ⟨P5,trivial⟩ ⟨OE,trivial⟩ trivial) (fun a=>by kernel_rfl)
def sU (p0:aG) (p1:Int):Option (aG×(Int×Int×Int×Int×Int)×Int):=
 (aK p0.heap p1).bind fun a0=>
 (DV p0.slots a0.2.2.2).bind fun a1=>
 bif a1.2 !=0 then
  some (aG.mk (aR.mk [] [] []) [] [],(0,0,0,0,0),a1.2)
 else
  (bR p0.heap).bind fun l2=>
  (bR p0.where_).bind fun l3=>
  (aK l2 (aA .i64 ((Int.ofNat l2.length) -1))).bind fun a4=>
  (jM l2 0 (aA .i64 ((Int.ofNat l2.length) -1))).bind fun _=>
  (aK l3 a0.2.2.2.1).bind fun _=>
  bif decide (p1<(aA .i64 ((Int.ofNat l2.length) -1))) then
   (kT (a1.1.uses,a1.1.used,a1.1.free,(aA .i64 ((Int.ofNat l2.length) -1)).toNat,l2.length,p1,a4.1,a4.2.1,a4.2.2.1,a4.2.2.2.1,a4.2.2.2.2,l2,bN l3 a0.2.2.2.1 (-1))).bind fun a7=>
   some (aG.mk a1.1 (a7.1.take ((aA .i64 ((Int.ofNat l2.length) -1)).toNat)) a7.2,a0,0)
  else
   some (aG.mk a1.1 (l2.take ((aA .i64 ((Int.ofNat l2.length) -1)).toNat)) (bN l3 a0.2.2.2.1 (-1)),a0,0)
def aQl:bM:=⟨aD.cons (aN.agg dE) (aD.one (aN.int .i64)),aN.tup (aD.cons (aN.agg dE) (aD.cons (aN.agg (cP.row lW)) (aD.one (aN.int .i64)))),fun a=>sU a.1 a.2,.frz,false⟩
theorem aIb:aM aY 224 aQl:=aM.of aGR (cx:=(pH aH [(269,aQk),(172,bM.clone lW),(64,bM.clone ki)] [(220,QC)] [(219,Z4)] [])) rfl (mK.make ⟨aIa,wK,qN,trivial⟩ ⟨IN,trivial⟩ ⟨PU,trivial⟩) (fun a=>by kernel_rfl)
def mS (p0:aG) (p1:Int×Int):Option (aG×(Int×Int×Int×Int×Int)×Int):=
 (qU p0 p1).bind fun a0=>
 bif a0.2 !=0 then
  some (aG.mk (aR.mk [] [] []) [] [],(0,0,0,0,0),a0.2)
 else
  (sU p0 a0.1).bind fun a1=>
  some a1
def aOa:bM:=⟨aD.cons (aN.agg dE) (aD.one (aN.agg (cP.row kN))),aN.tup (aD.cons (aN.agg dE) (aD.cons (aN.agg (cP.row lW)) (aD.one (aN.int .i64)))),fun a=>mS a.1 a.2,.frz,false⟩
theorem YC:aM aY 182 aOa:=Oc aGp rfl aH [(218,aN9),(224,aQl)] ⟨YB,aIb,trivial⟩ fun a=>by kernel_rfl
def mA (a:aBJ):Option (Nat×Nat×bJ):=
 bif (((decide (0<=a.1))&&(decide (a.1<=a.2.1)))&&(decide (a.2.1<=(Int.ofNat a.2.2.length))))&&(decide ((Int.ofNat a.2.2.length)<=(Int.ofNat a.2.2.length))) then
  bif a.1==a.2.1 then
   bif a.2.2.length==a.2.2.length then
    some (a.2.2.length,a.2.2.length,a.2.2)
   else
    none
  else
   (jM a.2.2 0 a.1).bind fun _=>
   bif ((decide (0<=a.2.1))&&(decide (a.2.1<=(Int.ofNat a.2.2.length))))&&(decide ((Int.ofNat a.2.2.length)<=(Int.ofNat a.2.2.length))) then
    bif ((a.2.2.drop (0+a.2.1.toNat)).take (((Int.ofNat a.2.2.length).toNat) -a.2.1.toNat)).isEmpty then
     bif ((decide (0<=(Int.ofNat a.1.toNat)))&&(decide ((Int.ofNat a.1.toNat)<=(Int.ofNat a.2.2.length))))&&(decide ((Int.ofNat a.2.2.length)<=(Int.ofNat a.2.2.length))) then
      bif Nat.beq (((Int.ofNat a.2.2.length).toNat) - ((Int.ofNat a.1.toNat).toNat)) 0 then
       bif a.2.2.length==a.2.2.length then
        some (a.1.toNat,a.2.2.length,a.2.2)
       else
        none
      else
       bif (Nat.ble ((0+((Int.ofNat a.1.toNat).toNat))+(((Int.ofNat a.2.2.length).toNat) - ((Int.ofNat a.1.toNat).toNat))) a.2.2.length)&&(!false) then
        bif ((iV a.2.2 (0+((Int.ofNat a.1.toNat).toNat)) (List.replicate (((Int.ofNat a.2.2.length).toNat) - ((Int.ofNat a.1.toNat).toNat)) (0,0,0))).length)==a.2.2.length then
         some (a.1.toNat,a.2.2.length,iV a.2.2 (0+((Int.ofNat a.1.toNat).toNat)) (List.replicate (((Int.ofNat a.2.2.length).toNat) - ((Int.ofNat a.1.toNat).toNat)) (0,0,0)))
        else
         none
       else
        none
     else
      none
    else
     bif Nat.ble (a.1.toNat+(((a.2.2.drop (0+a.2.1.toNat)).take (((Int.ofNat a.2.2.length).toNat) -a.2.1.toNat)).length)) a.2.2.length then
      bif (Nat.ble (a.1.toNat+(((a.2.2.drop (0+a.2.1.toNat)).take (((Int.ofNat a.2.2.length).toNat) -a.2.1.toNat)).length)) a.2.2.length)&&(!false) then
       bif ((decide (0<=(Int.ofNat (a.1.toNat+(((a.2.2.drop (0+a.2.1.toNat)).take (((Int.ofNat a.2.2.length).toNat) -a.2.1.toNat)).length)))))&&(decide ((Int.ofNat (a.1.toNat+(((a.2.2.drop (0+a.2.1.toNat)).take (((Int.ofNat a.2.2.length).toNat) -a.2.1.toNat)).length)))<=(Int.ofNat a.2.2.length))))&&(decide ((Int.ofNat a.2.2.length)<=(Int.ofNat a.2.2.length))) then
        bif Nat.beq (((Int.ofNat a.2.2.length).toNat) - ((Int.ofNat (a.1.toNat+(((a.2.2.drop (0+a.2.1.toNat)).take (((Int.ofNat a.2.2.length).toNat) -a.2.1.toNat)).length))).toNat)) 0 then
         bif ((iV a.2.2 a.1.toNat ((a.2.2.drop (0+a.2.1.toNat)).take (((Int.ofNat a.2.2.length).toNat) -a.2.1.toNat))).length)==a.2.2.length then
          some (a.1.toNat+(((a.2.2.drop (0+a.2.1.toNat)).take (((Int.ofNat a.2.2.length).toNat) -a.2.1.toNat)).length),a.2.2.length,iV a.2.2 a.1.toNat ((a.2.2.drop (0+a.2.1.toNat)).take (((Int.ofNat a.2.2.length).toNat) -a.2.1.toNat)))
         else
          none
        else
         bif (Nat.ble ((0+((Int.ofNat (a.1.toNat+(((a.2.2.drop (0+a.2.1.toNat)).take (((Int.ofNat a.2.2.length).toNat) -a.2.1.toNat)).length))).toNat))+(((Int.ofNat a.2.2.length).toNat) - ((Int.ofNat (a.1.toNat+(((a.2.2.drop (0+a.2.1.toNat)).take (((Int.ofNat a.2.2.length).toNat) -a.2.1.toNat)).length))).toNat))) ((iV a.2.2 a.1.toNat ((a.2.2.drop (0+a.2.1.toNat)).take (((Int.ofNat a.2.2.length).toNat) -a.2.1.toNat))).length))&&(!false) then
          bif ((iV (iV a.2.2 a.1.toNat ((a.2.2.drop (0+a.2.1.toNat)).take (((Int.ofNat a.2.2.length).toNat) -a.2.1.toNat))) (0+((Int.ofNat (a.1.toNat+(((a.2.2.drop (0+a.2.1.toNat)).take (((Int.ofNat a.2.2.length).toNat) -a.2.1.toNat)).length))).toNat)) (List.replicate (((Int.ofNat a.2.2.length).toNat) - ((Int.ofNat (a.1.toNat+(((a.2.2.drop (0+a.2.1.toNat)).take (((Int.ofNat a.2.2.length).toNat) -a.2.1.toNat)).length))).toNat)) (0,0,0))).length)==a.2.2.length then
           some (a.1.toNat+(((a.2.2.drop (0+a.2.1.toNat)).take (((Int.ofNat a.2.2.length).toNat) -a.2.1.toNat)).length),a.2.2.length,iV (iV a.2.2 a.1.toNat ((a.2.2.drop (0+a.2.1.toNat)).take (((Int.ofNat a.2.2.length).toNat) -a.2.1.toNat))) (0+((Int.ofNat (a.1.toNat+(((a.2.2.drop (0+a.2.1.toNat)).take (((Int.ofNat a.2.2.length).toNat) -a.2.1.toNat)).length))).toNat)) (List.replicate (((Int.ofNat a.2.2.length).toNat) - ((Int.ofNat (a.1.toNat+(((a.2.2.drop (0+a.2.1.toNat)).take (((Int.ofNat a.2.2.length).toNat) -a.2.1.toNat)).length))).toNat)) (0,0,0)))
          else
           none
         else
          none
       else
        none
      else
       none
     else
      none
   else
    none
 else
  none
def aBV:eH:=⟨[.i,.i,.l [.i .i64,.i .i64,.i .i64]],[.own 0 false,.int .i64 0,.int .i64 0],[.arr [.i .i64,.i .i64,.i .i64] []],[.n,.n,.l [.i .i64,.i .i64,.i .i64]],.pre 0 0 0 false,[.arr [.i .i64,.i .i64,.i .i64] []],fun a=>mA a⟩
theorem aAa:nB aY 212 aBV:=nB.of aGI (wd:=true) (cx:=(pH aH [] [] [] [])) (mK.make trivial trivial trivial) (fun a=>by kernel_rfl)
def sA (p0:aP) (p1:Int):Option (aP×(Int×Int)×Int):=
 (xU p0.certs p1).bind fun a0=>
 bif a0.2.2 !=0 then
  some (aP.mk (0,0) (Field.mk []) (aU.mk 0 []) (aG.mk (aR.mk [] [] []) [] []) [],a0.2)
 else
  (nM p0).bind fun r1=>
  (pV p0.due p1).bind fun a2=>
  bif a2.2 then
   (aK p0.due a2.1).bind fun a3=>
   (mS p0.agenda a3.2).bind fun a4=>
   bif a4.2.2 !=0 then
    some (aP.mk (0,0) (Field.mk []) (aU.mk 0 []) (aG.mk (aR.mk [] [] []) [] []) [],a0.2.1,a4.2.2)
   else
    (mA (a2.1,aA .i64 (a2.1+1),r1.due)).bind fun a5=>
    some (aP.mk r1.now r1.field a0.1 a4.1 (a5.2.2.take a5.1),a0.2.1,0)
  else
   some (aP.mk r1.now r1.field a0.1 r1.agenda r1.due,a0.2.1,0)
def aQm:bM:=⟨aD.cons (aN.agg bV) (aD.one (aN.int .i64)),aN.tup (aD.cons (aN.agg bV) (aD.cons (aN.agg (cP.row kN)) (aD.one (aN.int .i64)))),fun a=>sA a.1 a.2,.frz,false⟩
theorem aIc:aM aY 168 aQm:=aM.of aGe (cx:=(pH aH [(211,aQh),(115,aH7),(115,X8),(179,aN7),(182,aOa)] [(212,aBV)] [] [])) rfl (mK.make ⟨aH6,QB,MA,X9,YC,trivial⟩ ⟨aAa,trivial⟩ trivial) (fun a=>by kernel_rfl)
def vK (p0:aP) (p1:Int):Option (aP×Int):=
 (gX p0).bind fun n0=>
 bif n0 !=0 then
  some (aP.mk (0,0) (Field.mk []) (aU.mk 0 []) (aG.mk (aR.mk [] [] []) [] []) [],n0)
 else
  (sA p0 p1).bind fun a1=>
  some (a1.1,a1.2.2)
def aQn:bM:=⟨aD.cons (aN.agg bV) (aD.one (aN.int .i64)),aN.tup (aD.cons (aN.agg bV) (aD.one (aN.int .i64))),fun a=>vK a.1 a.2,.frz,false⟩
theorem aId:aM aY 119 aQn:=Oc aFK rfl aH [(103,Z8),(168,aQm)] ⟨GX,aIc,trivial⟩ fun a=>by kernel_rfl
def jJ (s:(bJ×bJ×Int×Int)):Option (cA (bJ×bJ×Int×Int) Bool):=
 bif decide (s.2.2.2<s.2.2.1) then
  (aK s.1 s.2.2.2).bind fun a0=>
  (aK s.2.1 s.2.2.2).bind fun a1=>
  bif !((a0.1==a1.1)&&((a0.2.1==a1.2.1)&&(a0.2.2==a1.2.2))) then
   some (.done false)
  else
   some (.next (s.1,s.2.1,s.2.2.1,aA .i64 (s.2.2.2+1)))
 else
  some (.done true)
def mB (p0:List (Int×Int×Int)) (p1:List (Int×Int×Int)):Option Bool:=
 bif (Int.ofNat p0.length) !=(Int.ofNat p1.length) then
  some false
 else
  aJ jJ (p0,p1,Int.ofNat p0.length,0)
def aQo:bM:=⟨aD.cons (aN.sl eF) (aD.one (aN.sl eF)),aN.bool,fun a=>mB a.1 a.2,.pure,false⟩
theorem aIe:aM aY 120 aQo:=Oc aFL rfl aH [] trivial fun a=>by kernel_rfl
def bX (a:aHp):Option NF:=
 (aK a.2.2.2.2.2.2.2.2.2.1 a.2.2.2.1).bind fun _=>
 (aK a.2.2.2.2.2.2.2.2.2.2 a.2.2.2.2.2.2.2.1).bind fun _=>
 bif ((bN a.2.2.2.2.2.2.2.2.2.1 a.2.2.2.1 (a.2.2.2.2.1,a.2.2.2.2.2.1,a.2.2.2.2.2.2.1,a.2.2.2.2.2.2.2.1,a.2.2.2.2.2.2.2.2.1)).length)==a.2.2.2.2.2.2.2.2.2.1.length then
  bif ((bN a.2.2.2.2.2.2.2.2.2.2 a.2.2.2.2.2.2.2.1 a.2.2.2.1).length)==a.2.2.2.2.2.2.2.2.2.2.length then
   some (bN a.2.2.2.2.2.2.2.2.2.1 a.2.2.2.1 (a.2.2.2.2.1,a.2.2.2.2.2.1,a.2.2.2.2.2.2.1,a.2.2.2.2.2.2.2.1,a.2.2.2.2.2.2.2.2.1),bN a.2.2.2.2.2.2.2.2.2.2 a.2.2.2.2.2.2.2.1 a.2.2.2.1)
  else
   none
 else
  none
def aBW:eH:=⟨[.l [.i .i64],.l [.b],.l [.i .i64],.i,.i,.i,.i,.i,.i,.l [.i .i64,.i .i64,.i .i64,.i .i64,.i .i64],.l [.i .i64]],[.agg [.sl [.i .i64] [],.sl [.b] [],.sl [.i .i64] [],.own 0 false,.own 1 false],.int .i64 0,.agg [.int .i64 0,.int .i64 0,.int .i64 0,.int .i64 0,.int .i64 0]],[.arr [.i .i64,.i .i64,.i .i64,.i .i64,.i .i64] [],.arr [.i .i64] []],[.l [.i .i64,.i .i64,.i .i64,.i .i64,.i .i64],.l [.i .i64]],.tup [],[.arr [.i .i64,.i .i64,.i .i64,.i .i64,.i .i64] [],.arr [.i .i64] []],fun a=>bX a⟩
theorem aAb:nB aY 265 aBW:=nB.of XY (wd:=false) (cx:=(pH aH [] [] [] [])) (mK.make trivial trivial trivial) (fun a=>by kernel_rfl)
def gE (c0:aHp) (s:aPG):Option (cA aPG aPD):=
 match s with
 |(a,b,d,e,f,g,h,i,j,k,l,m)=>
  bif decide (b<(Int.ofNat d.length)) then
   bif decide ((aA .i64 (b+1))<(Int.ofNat d.length)) then
    (aK d (aA .i64 (b+1))).bind fun a0=>
    (aK d b).bind fun a1=>
    (cH a0 a1).bind fun n2=>
    bif decide (n2<0) then
     (aK d (aA .i64 (b+1))).bind fun a3=>
     (cH a3 (i,j,k,l,m)).bind fun n4=>
     bif decide (0<=n4) then
      (bX (f,g,h,a,i,j,k,l,m,d,e)).bind fun a5=>
      bif a5.1.length==c0.2.2.2.2.2.2.2.2.2.1.length then
       bif a5.2.length==c0.2.2.2.2.2.2.2.2.2.2.length then
        some (.done (.done a5))
       else
        none
      else
       none
     else
      (aK d (aA .i64 (b+1))).bind fun a6=>
      (bX (f,g,h,a,a6.1,a6.2.1,a6.2.2.1,a6.2.2.2.1,a6.2.2.2.2,d,e)).bind fun a7=>
      some (.next (aA .i64 (b+1),aA .i64 ((aA .i64 (2*(aA .i64 (b+1))))+1),a7.1,a7.2,(f,g,h,i,j,k,l,m)))
    else
     (aK d b).bind fun a8=>
     (cH a8 (i,j,k,l,m)).bind fun n9=>
     bif decide (0<=n9) then
      (bX (f,g,h,a,i,j,k,l,m,d,e)).bind fun a10=>
      bif a10.1.length==c0.2.2.2.2.2.2.2.2.2.1.length then
       bif a10.2.length==c0.2.2.2.2.2.2.2.2.2.2.length then
        some (.done (.done a10))
       else
        none
      else
       none
     else
      (aK d b).bind fun a11=>
      (bX (f,g,h,a,a11.1,a11.2.1,a11.2.2.1,a11.2.2.2.1,a11.2.2.2.2,d,e)).bind fun a12=>
      some (.next (b,aA .i64 ((aA .i64 (2*b))+1),a12.1,a12.2,(f,g,h,i,j,k,l,m)))
   else
    (aK d b).bind fun a13=>
    (cH a13 (i,j,k,l,m)).bind fun n14=>
    bif decide (0<=n14) then
     (bX (f,g,h,a,i,j,k,l,m,d,e)).bind fun a15=>
     bif a15.1.length==c0.2.2.2.2.2.2.2.2.2.1.length then
      bif a15.2.length==c0.2.2.2.2.2.2.2.2.2.2.length then
       some (.done (.done a15))
      else
       none
     else
      none
    else
     (aK d b).bind fun a16=>
     (bX (f,g,h,a,a16.1,a16.2.1,a16.2.2.1,a16.2.2.2.1,a16.2.2.2.2,d,e)).bind fun a17=>
     some (.next (b,aA .i64 ((aA .i64 (2*b))+1),a17.1,a17.2,(f,g,h,i,j,k,l,m)))
  else
   (bX (f,g,h,a,i,j,k,l,m,d,e)).bind fun a18=>
   bif a18.1.length==c0.2.2.2.2.2.2.2.2.2.1.length then
    bif a18.2.length==c0.2.2.2.2.2.2.2.2.2.2.length then
     some (.done (.done a18))
    else
     none
   else
    none
def eS (c0:aHp) (s:aPC):Option aPD:=
 bif decide (0<s.1) then
  (aK s.2.1 (aA .i64 (Int.tdiv (aA .i64 (s.1-1)) 2))).bind fun a0=>
  (cH s.2.2.2.2.2.2 a0).bind fun n1=>
  bif decide (n1<0) then
   (aK s.2.1 (aA .i64 (Int.tdiv (aA .i64 (s.1-1)) 2))).bind fun a2=>
   (bX (s.2.2.2.1,s.2.2.2.2.1,s.2.2.2.2.2.1,s.1,a2.1,a2.2.1,a2.2.2.1,a2.2.2.2.1,a2.2.2.2.2,s.2.1,s.2.2.1)).bind fun a3=>
   some (.next (aA .i64 (Int.tdiv (aA .i64 (s.1-1)) 2),a3.1,a3.2,s.2.2.2))
  else
   aJ (gE c0) (s.1,aA .i64 ((aA .i64 (2*s.1))+1),s.2)
 else
  aJ (gE c0) (s.1,aA .i64 ((aA .i64 (2*s.1))+1),s.2)
def eY (a:aHp):Option NF:=
 aJ (eS a) (a.2.2.2.1,a.2.2.2.2.2.2.2.2.2.1,a.2.2.2.2.2.2.2.2.2.2,a.1,a.2.1,a.2.2.1,a.2.2.2.2.1,a.2.2.2.2.2.1,a.2.2.2.2.2.2.1,a.2.2.2.2.2.2.2.1,a.2.2.2.2.2.2.2.2.1)
def VJ:eH:=⟨[.l [.i .i64],.l [.b],.l [.i .i64],.i,.i,.i,.i,.i,.i,.l [.i .i64,.i .i64,.i .i64,.i .i64,.i .i64],.l [.i .i64]],[.agg [.sl [.i .i64] [],.sl [.b] [],.sl [.i .i64] [],.own 0 false,.own 1 false],.int .i64 0,.agg [.int .i64 0,.int .i64 0,.int .i64 0,.int .i64 0,.int .i64 0]],[.arr [.i .i64,.i .i64,.i .i64,.i .i64,.i .i64] [],.arr [.i .i64] []],[.l [.i .i64,.i .i64,.i .i64,.i .i64,.i .i64],.l [.i .i64]],.tup [],[.arr [.i .i64,.i .i64,.i .i64,.i .i64,.i .i64] [],.arr [.i .i64] []],fun a=>eY a⟩
theorem OF:nB aY 220 VJ:=nB.of XX (wd:=false) (cx:=(pH aH [(208,aHM)] [(265,VI),(265,aBW)] [] [])) (mK.make ⟨P5,trivial⟩ ⟨OE,aAb,trivial⟩ trivial) (fun a=>by kernel_rfl)
def vL (p0:aG) (p1:Int×Int) (p2:Int×Int):Option (aG×Int):=
 (lZ p0).bind fun n0=>
 (iT p2).bind fun n1=>
 bif (if n1>n0 then n1 else n0) !=0 then
  some (aG.mk (aR.mk [] [] []) [] [],if n1>n0 then n1 else n0)
 else
  (qU p0 p1).bind fun a2=>
  bif a2.2 !=0 then
   some (aG.mk (aR.mk [] [] []) [] [],a2.2)
  else
   (bR p0.heap).bind fun l3=>
   (bR p0.where_).bind fun l4=>
   (aK l3 a2.1).bind fun a5=>
   (eY (p0.slots.uses,p0.slots.used,p0.slots.free,a2.1,p2.1,p2.2,a5.2.2.1,a5.2.2.2.1,a5.2.2.2.2,l3,l4)).bind fun a6=>
   some (aG.mk p0.slots a6.1 a6.2,0)
def aQp:bM:=⟨aD.cons (aN.agg dE) (aD.cons (aN.agg (cP.row kN)) (aD.one (aN.agg (cP.row kN)))),aN.tup (aD.cons (aN.agg dE) (aD.one (aN.int .i64))),fun a=>vL a.1 a.2.1 a.2.2,.frz,false⟩
theorem aIf:aM aY 180 aQp:=aM.of aGn (cx:=(pH aH [(162,aBN),(60,c60),(218,aN9),(172,bM.clone lW),(64,bM.clone ki)] [(220,QC),(220,VJ)] [(219,Z4)] [])) rfl (mK.make ⟨KB,IK,YB,wK,qN,trivial⟩ ⟨IN,OF,trivial⟩ ⟨PU,trivial⟩) (fun a=>by kernel_rfl)
def yR (p0:Int×Int×Int×Int×Int) (p1:Int):Option Bool:=
 some (p0.2.2.1==p1)
def aQq:bM:=⟨aD.cons (aN.agg (cP.row lW)) (aD.one (aN.ref (cP.int .i64))),aN.bool,fun a=>yR a.1 a.2,.pure,false⟩
theorem aIg:aM aY 222 aQq:=Oc aGP rfl aH [] trivial fun a=>by kernel_rfl
def cT (s:(iK×Int×Int×Int)):Option (cA (iK×Int×Int×Int) Int):=
 bif decide (s.2.2.2<s.2.2.1) then
  (aK s.1 s.2.2.2).bind fun a0=>
  (yR a0 s.2.1).bind fun b1=>
  bif b1 then
   some (.done s.2.2.2)
  else
   some (.next (s.1,s.2.1,s.2.2.1,aA .i64 (s.2.2.2+1)))
 else
  some (.done (-1))
def eT (p0:List (Int×Int×Int×Int×Int)) (p1:Int):Option Int:=
 aJ cT (p0,p1,Int.ofNat p0.length,0)
def SX:bM:=⟨aD.cons (aN.sl lW) (aD.one (aN.clo 222 (aD.one (aN.ref (cP.int .i64))))),aN.int .i64,fun a=>eT a.1 a.2,.pure,false⟩
theorem SY:aM aY 266 SX:=Oc aHa rfl aH [(222,aQq)] ⟨aIg,trivial⟩ fun a=>by kernel_rfl
def cU (p0:List (Int×Int×Int×Int×Int)) (p1:Int):Option Bool:=
 (eT p0 p1).bind fun n0=>
 some (decide (0<=n0))
def SZ:bM:=⟨aD.cons (aN.sl lW) (aD.one (aN.clo 222 (aD.one (aN.ref (cP.int .i64))))),aN.bool,fun a=>cU a.1 a.2,.pure,false⟩
theorem S0:aM aY 221 SZ:=Oc aGO rfl aH [(266,SX)] ⟨SY,trivial⟩ fun a=>by kernel_rfl
def wP (p0:List Int):Option ((List Int)×Int):=
 (jM p0 0 (aA .i64 ((Int.ofNat p0.length) -1))).bind fun l0=>
 (bR l0).bind fun l1=>
 (aK p0 (aA .i64 ((Int.ofNat p0.length) -1))).bind fun n2=>
 some (l1,n2)
def aQr:bM:=⟨aD.one (aN.sl ki),aN.tup (aD.cons (aN.sl ki) (aD.one (aN.int .i64))),fun a=>wP a,.frz,false⟩
theorem aIh:aM aY 267 aQr:=Oc aHb rfl aH [(290,bM.clone ki)] ⟨SL,trivial⟩ fun a=>by kernel_rfl
def DW (p0:aR):Option (aR×(Int×Int)×Int):=
 (rX p0).bind fun n0=>
 bif n0 !=0 then
  some (aR.mk [] [] [],(0,0),n0)
 else
  bif (Int.ofNat p0.free.length)==0 then
   some (aR.mk [] [] [],(0,0),18)
  else
   (wP p0.free).bind fun a1=>
   (aK p0.uses a1.2).bind fun n2=>
   bif n2==1000000 then
    some (aR.mk [] [] [],(0,0),18)
   else
    (bR p0.uses).bind fun l3=>
    (bR p0.used).bind fun l4=>
    (aK l4 a1.2).bind fun _=>
    (aK l3 a1.2).bind fun n6=>
    (aK l3 a1.2).bind fun _=>
    (aK (bN l3 a1.2 (aA .i64 (n6+1))) a1.2).bind fun n8=>
    some (aR.mk (bN l3 a1.2 (aA .i64 (n6+1))) (bN l4 a1.2 true) a1.1,(a1.2,n8),0)
def aQs:bM:=⟨aD.one (aN.agg gL),aN.tup (aD.cons (aN.agg gL) (aD.cons (aN.agg (cP.row kN)) (aD.one (aN.int .i64)))),fun a=>DW a,.frz,false⟩
theorem aIi:aM aY 223 aQs:=aM.of aGQ (cx:=(pH aH [(207,aHE),(267,aQr),(64,bM.clone ki),(173,bM.clone kb)] [] [(268,aBx)] [])) rfl (mK.make ⟨P4,aIh,qN,wJ,trivial⟩ trivial ⟨XZ,trivial⟩) (fun a=>by kernel_rfl)
def lP (p0:aG) (p1:Int×Int) (p2:Int):Option (aG×(Int×Int)×Int):=
 (lZ p0).bind fun n0=>
 (iT p1).bind fun n1=>
 bif (if n1>n0 then n1 else n0) !=0 then
  some (aG.mk (aR.mk [] [] []) [] [],(0,0),if n1>n0 then n1 else n0)
 else
  bif decide (p2<0) then
   some (aG.mk (aR.mk [] [] []) [] [],(0,0),2)
  else
   bif decide (1000000<p2) then
    some (aG.mk (aR.mk [] [] []) [] [],(0,0),2)
   else
    (cU p0.heap p2).bind fun b2=>
    bif b2 then
     some (aG.mk (aR.mk [] [] []) [] [],(0,0),14)
    else
     (DW p0.slots).bind fun a3=>
     bif a3.2.2 !=0 then
      some (aG.mk (aR.mk [] [] []) [] [],(0,0),a3.2.2)
     else
      (bR p0.heap).bind fun l4=>
      (bR p0.where_).bind fun l5=>
      (bO l4 [(p1.1,p1.2,p2,a3.2.1)]).bind fun l6=>
      (eY (a3.1.uses,a3.1.used,a3.1.free,aA .i64 ((Int.ofNat l6.length) -1),p1.1,p1.2,p2,a3.2.1.1,a3.2.1.2,l6,l5)).bind fun a7=>
      some (aG.mk a3.1 a7.1 a7.2,a3.2.1,0)
def aOb:bM:=⟨aD.cons (aN.agg dE) (aD.cons (aN.agg (cP.row kN)) (aD.one (aN.int .i64))),aN.tup (aD.cons (aN.agg dE) (aD.cons (aN.agg (cP.row kN)) (aD.one (aN.int .i64)))),fun a=>lP a.1 a.2.1 a.2.2,.frz,false⟩
theorem YD:aM aY 181 aOb:=aM.of aGo (cx:=(pH aH [(162,aBN),(60,c60),(221,SZ),(223,aQs),(172,bM.clone lW),(64,bM.clone ki)] [(220,QC),(220,VJ)] [(219,Z4)] [])) rfl (mK.make ⟨KB,IK,S0,aIi,wK,qN,trivial⟩ ⟨IN,OF,trivial⟩ ⟨PU,trivial⟩) (fun a=>by kernel_rfl)
def dL (s:Zt5):Option (cA Zt5 aPp):=
 match s with
 |(a,b,d,e,f,g,h,i,j,k,l,m,n,o,q,r,t,u,v,w,x,y,z,A,B,C,D,E,F)=>
  bif decide (d<b) then
   (aK a d).bind fun a0=>
   (rZ (Field.mk q) a0.2 (e,f)).bind fun a1=>
   (pV o a0.1).bind fun a2=>
   bif a1.2.1 then
    bif a2.2 then
     (aK o a2.1).bind fun a3=>
     (vL (aG.mk (aR.mk z A B) C D) a3.2 a1.1).bind fun a4=>
     (aK o a2.1).bind fun a5=>
     (bO F [a5]).bind fun l6=>
     bif a4.2 !=0 then
      some (.done (.done (aP.mk (0,0) (Field.mk []) (aU.mk 0 []) (aG.mk (aR.mk [] [] []) [] []) [],a4.2)))
     else
      some (.next (a,b,aA .i64 (d+1),e,f,g,h,i,j,k,l,m,n,o,q,r,t,u,v,w,x,y,a4.1.slots.uses,a4.1.slots.used,a4.1.slots.free,a4.1.heap,a4.1.where_,E,l6))
    else
     bif a1.2.1 then
      (lP (aG.mk (aR.mk z A B) C D) a1.1 a0.1).bind fun a7=>
      (bO F [(a0.1,a7.2.1)]).bind fun l8=>
      bif a7.2.2 !=0 then
       some (.done (.done (aP.mk (0,0) (Field.mk []) (aU.mk 0 []) (aG.mk (aR.mk [] [] []) [] []) [],a7.2.2)))
      else
       some (.next (a,b,aA .i64 (d+1),e,f,g,h,i,j,k,l,m,n,o,q,r,t,u,v,w,x,y,a7.1.slots.uses,a7.1.slots.used,a7.1.slots.free,a7.1.heap,a7.1.where_,E,l8))
     else
      bif a2.2 then
       (aK o a2.1).bind fun a9=>
       (mS (aG.mk (aR.mk z A B) C D) a9.2).bind fun a10=>
       bif a10.2.2 !=0 then
        some (.done (.done (aP.mk (0,0) (Field.mk []) (aU.mk 0 []) (aG.mk (aR.mk [] [] []) [] []) [],a10.2.2)))
       else
        some (.next (a,b,aA .i64 (d+1),e,f,g,h,i,j,k,l,m,n,o,q,r,t,u,v,w,x,y,a10.1.slots.uses,a10.1.slots.used,a10.1.slots.free,a10.1.heap,a10.1.where_,(E,F)))
      else
       bif a1.2.2 !=0 then
        some (.done (.done (aP.mk (0,0) (Field.mk []) (aU.mk 0 []) (aG.mk (aR.mk [] [] []) [] []) [],a1.2.2)))
       else
        some (.next (a,b,aA .i64 (d+1),(e,f,g,h,i,j,k,l,m,n,o,q,r,t,u,v,w,x,y,z,A,B,C,D,E,F)))
   else
    bif a1.2.1 then
     (lP (aG.mk (aR.mk z A B) C D) a1.1 a0.1).bind fun a11=>
     (bO F [(a0.1,a11.2.1)]).bind fun l12=>
     bif a11.2.2 !=0 then
      some (.done (.done (aP.mk (0,0) (Field.mk []) (aU.mk 0 []) (aG.mk (aR.mk [] [] []) [] []) [],a11.2.2)))
     else
      some (.next (a,b,aA .i64 (d+1),e,f,g,h,i,j,k,l,m,n,o,q,r,t,u,v,w,x,y,a11.1.slots.uses,a11.1.slots.used,a11.1.slots.free,a11.1.heap,a11.1.where_,E,l12))
    else
     bif a2.2 then
      (aK o a2.1).bind fun a13=>
      (mS (aG.mk (aR.mk z A B) C D) a13.2).bind fun a14=>
      bif a14.2.2 !=0 then
       some (.done (.done (aP.mk (0,0) (Field.mk []) (aU.mk 0 []) (aG.mk (aR.mk [] [] []) [] []) [],a14.2.2)))
      else
       some (.next (a,b,aA .i64 (d+1),e,f,g,h,i,j,k,l,m,n,o,q,r,t,u,v,w,x,y,a14.1.slots.uses,a14.1.slots.used,a14.1.slots.free,a14.1.heap,a14.1.where_,(E,F)))
     else
      bif a1.2.2 !=0 then
       some (.done (.done (aP.mk (0,0) (Field.mk []) (aU.mk 0 []) (aG.mk (aR.mk [] [] []) [] []) [],a1.2.2)))
      else
       some (.next (a,b,aA .i64 (d+1),(e,f,g,h,i,j,k,l,m,n,o,q,r,t,u,v,w,x,y,z,A,B,C,D,E,F)))
  else
   some (.done (.done (aP.mk (v,w) (Field.mk E) (aU.mk x y) (aG.mk (aR.mk z A B) C D) F,0)))
def lB (s:aPo):Option aPp:=
 bif decide (s.2.2.1<s.2.1) then
  (aK s.1 s.2.2.1).bind fun a0=>
  (jZ (Field.mk s.2.2.2.2.2.2.2.2.2.2.2.2.2.2.1) a0.2.1).bind fun a1=>
  bif decide (a1.1<0) then
   some (.done (aP.mk (0,0) (Field.mk []) (aU.mk 0 []) (aG.mk (aR.mk [] [] []) [] []) [],6))
  else
   (jZ (Field.mk s.2.2.2.2.2.2.2.2.2.2.2.2.2.2.1) a0.2.2).bind fun a2=>
   bif decide (a2.1<0) then
    some (.done (aP.mk (0,0) (Field.mk []) (aU.mk 0 []) (aG.mk (aR.mk [] [] []) [] []) [],6))
   else
    some (.next (s.1,s.2.1,aA .i64 (s.2.2.1+1),s.2.2.2))
 else
  (nM (aP.mk (s.2.2.2.1,s.2.2.2.2.1) (Field.mk s.2.2.2.2.2.1) (aU.mk s.2.2.2.2.2.2.1 s.2.2.2.2.2.2.2.1) (aG.mk (aR.mk s.2.2.2.2.2.2.2.2.1 s.2.2.2.2.2.2.2.2.2.1 s.2.2.2.2.2.2.2.2.2.2.1) s.2.2.2.2.2.2.2.2.2.2.2.1 s.2.2.2.2.2.2.2.2.2.2.2.2.1) s.2.2.2.2.2.2.2.2.2.2.2.2.2.1)).bind fun r3=>
  (bR s.2.2.2.2.2.2.2.2.2.2.2.2.2.2.1).bind fun l4=>
  aJ dL (s.2.2.2.2.2.2.2.1,Int.ofNat s.2.2.2.2.2.2.2.1.length,0,s.2.2.2.1,s.2.2.2.2.1,s.2.2.2.2.2.1,s.2.2.2.2.2.2.1,s.2.2.2.2.2.2.2.1,s.2.2.2.2.2.2.2.2.1,s.2.2.2.2.2.2.2.2.2.1,s.2.2.2.2.2.2.2.2.2.2.1,s.2.2.2.2.2.2.2.2.2.2.2.1,s.2.2.2.2.2.2.2.2.2.2.2.2.1,s.2.2.2.2.2.2.2.2.2.2.2.2.2.1,s.2.2.2.2.2.2.2.2.2.2.2.2.2.2.1,s.2.2.2.2.2.2.2.2.2.2.2.2.2.2.2.1,s.2.2.2.2.2.2.2.2.2.2.2.2.2.2.2.2.1,s.2.2.2.2.2.2.2.2.2.2.2.2.2.2.2.2.2,r3.now.1,r3.now.2,r3.certs.next_,r3.certs.list,r3.agenda.slots.uses,r3.agenda.slots.used,r3.agenda.slots.free,r3.agenda.heap,r3.agenda.where_,l4,[])
def pW (p0:aP) (p1:Field):Option (aP×Int):=
 (gX p0).bind fun n0=>
 bif n0 !=0 then
  some (aP.mk (0,0) (Field.mk []) (aU.mk 0 []) (aG.mk (aR.mk [] [] []) [] []) [],n0)
 else
  (dS p1).bind fun n1=>
  bif n1 !=0 then
   some (aP.mk (0,0) (Field.mk []) (aU.mk 0 []) (aG.mk (aR.mk [] [] []) [] []) [],n1)
  else
   aJ lB (p0.certs.list,Int.ofNat p0.certs.list.length,0,p0.now.1,p0.now.2,p0.field.points,p0.certs.next_,p0.certs.list,p0.agenda.slots.uses,p0.agenda.slots.used,p0.agenda.slots.free,p0.agenda.heap,p0.agenda.where_,p0.due,p1.points,0,0,0)
def aQt:bM:=⟨aD.cons (aN.agg bV) (aD.one (aN.agg cC)),aN.tup (aD.cons (aN.agg bV) (aD.one (aN.int .i64))),fun a=>pW a.1 a.2,.frz,false⟩
theorem aIj:aM aY 121 aQt:=Oc aFM rfl aH [(103,Z8),(87,c87),(178,aHO),(115,aH7),(115,X8),(91,bM.clone eF),(163,aHV),(179,aN7),(180,aQp),(181,aOb),(182,aOa)] ⟨GX,IL,P6,QB,MA,AZ,P8,X9,aIf,YD,YC,trivial⟩ fun a=>by kernel_rfl
def EQ (p0:Int×Int×Int) (p1:Int×Int):Option Bool:=
 some ((p0.2.1==p1.1)&&(p0.2.2==p1.2))
def aQu:bM:=⟨aD.cons (aN.agg (cP.row eF)) (aD.one (aN.ref (cP.row kN))),aN.bool,fun a=>EQ a.1 a.2,.pure,false⟩
theorem aIk:aM aY 123 aQu:=Oc aFN rfl aH [] trivial fun a=>by kernel_rfl
def nC (s:PY):Option (cA PY Int):=
 bif decide (s.2.2.2.2<s.2.2.2.1) then
  (aK s.1 s.2.2.2.2).bind fun a0=>
  (EQ a0 (s.2.1,s.2.2.1)).bind fun b1=>
  bif b1 then
   some (.done s.2.2.2.2)
  else
   some (.next (s.1,s.2.1,s.2.2.1,s.2.2.2.1,aA .i64 (s.2.2.2.2+1)))
 else
  some (.done (-1))
def iL (p0:List (Int×Int×Int)) (p1:(Int×Int)):Option Int:=
 aJ nC (p0,p1.1,p1.2,Int.ofNat p0.length,0)
def S1:bM:=⟨aD.cons (aN.sl eF) (aD.one (aN.clo 123 (aD.one (aN.ref (cP.row kN))))),aN.int .i64,fun a=>iL a.1 a.2,.pure,false⟩
theorem S2:aM aY 183 S1:=Oc XU rfl aH [(123,aQu)] ⟨aIk,trivial⟩ fun a=>by kernel_rfl
def eC (p0:List (Int×Int×Int)) (p1:(Int×Int)):Option Bool:=
 (iL p0 p1).bind fun n0=>
 some (decide (0<=n0))
def S3:bM:=⟨aD.cons (aN.sl eF) (aD.one (aN.clo 123 (aD.one (aN.ref (cP.row kN))))),aN.bool,fun a=>eC a.1 a.2,.pure,false⟩
theorem S4:aM aY 122 S3:=Oc XM rfl aH [(183,S1)] ⟨S2,trivial⟩ fun a=>by kernel_rfl
def dI (p0:Int):Option (aP×Int×Int):=
 some (aP.mk (0,0) (Field.mk []) (aU.mk 0 []) (aG.mk (aR.mk [] [] []) [] []) [],0,p0)
def aQv:bM:=⟨aD.one (aN.int .i64),aN.tup (aD.cons (aN.agg bV) (aD.cons (aN.int .i64) (aD.one (aN.int .i64)))),fun a=>dI a,.frz,false⟩
theorem aIl:aM aY 184 aQv:=Oc aGq rfl aH [] trivial fun a=>by kernel_rfl
def FL (p0:Int×Int×Int) (p1:Int×Int):Option Bool:=
 some ((p0.2.1==p1.1)&&(p0.2.2==p1.2))
def aQw:bM:=⟨aD.cons (aN.agg (cP.row eF)) (aD.one (aN.ref (cP.row kN))),aN.bool,fun a=>FL a.1 a.2,.pure,false⟩
theorem aIm:aM aY 225 aQw:=Oc aGS rfl aH [] trivial fun a=>by kernel_rfl
def dG (s:PY):Option (cA PY Int):=
 bif decide (s.2.2.2.2<s.2.2.2.1) then
  (aK s.1 s.2.2.2.2).bind fun a0=>
  (FL a0 (s.2.1,s.2.2.1)).bind fun b1=>
  bif b1 then
   some (.done s.2.2.2.2)
  else
   some (.next (s.1,s.2.1,s.2.2.1,s.2.2.2.1,aA .i64 (s.2.2.2.2+1)))
 else
  some (.done (-1))
def fW (p0:List (Int×Int×Int)) (p1:(Int×Int)):Option Int:=
 aJ dG (p0,p1.1,p1.2,Int.ofNat p0.length,0)
def S5:bM:=⟨aD.cons (aN.sl eF) (aD.one (aN.clo 225 (aD.one (aN.ref (cP.row kN))))),aN.int .i64,fun a=>fW a.1 a.2,.pure,false⟩
theorem S6:aM aY 183 S5:=Oc XU rfl aH [(225,aQw)] ⟨aIm,trivial⟩ fun a=>by kernel_rfl
def cI (p0:List (Int×Int×Int)) (p1:(Int×Int)):Option Bool:=
 (fW p0 p1).bind fun n0=>
 some (decide (0<=n0))
def S7:bM:=⟨aD.cons (aN.sl eF) (aD.one (aN.clo 225 (aD.one (aN.ref (cP.row kN))))),aN.bool,fun a=>cI a.1 a.2,.pure,false⟩
theorem S8:aM aY 122 S7:=Oc XM rfl aH [(183,S5)] ⟨S6,trivial⟩ fun a=>by kernel_rfl
def GY (p0:aU) (p1:Int×Int):Option (aU×Int×Int):=
 (rW p0).bind fun n0=>
 bif n0 !=0 then
  some (aU.mk 0 [],0,n0)
 else
  (wM p1).bind fun b1=>
  bif !b1 then
   some (aU.mk 0 [],0,8)
  else
   (cI p0.list p1).bind fun b2=>
   bif b2 then
    some (aU.mk 0 [],0,14)
   else
    bif (Int.ofNat p0.list.length)==200 then
     some (aU.mk 0 [],0,18)
    else
     bif p0.next_==1000000 then
      some (aU.mk 0 [],0,18)
     else
      (bR p0.list).bind fun l3=>
      (bO l3 [(p0.next_,p1)]).bind fun l4=>
      some (aU.mk (aA .i64 (p0.next_+1)) l4,p0.next_,0)
def aQx:bM:=⟨aD.cons (aN.agg gS) (aD.one (aN.agg (cP.row kN))),aN.tup (aD.cons (aN.agg gS) (aD.cons (aN.int .i64) (aD.one (aN.int .i64)))),fun a=>GY a.1 a.2,.frz,false⟩
theorem aIn:aM aY 185 aQx:=Oc aGr rfl aH [(161,aHB),(206,aNZ),(122,S7),(170,bM.clone eF)] ⟨P3,X3,S8,zR,trivial⟩ fun a=>by kernel_rfl
def iU (p0:aP) (p1:Int×Int):Option (aP×Int×Int):=
 (gX p0).bind fun n0=>
 bif n0 !=0 then
  (dI n0).bind fun a1=>
  some a1
 else
  (GY p0.certs p1).bind fun a2=>
  bif a2.2.2==8 then
   (dI a2.2.2).bind fun a3=>
   some a3
  else
   (jZ p0.field p1.1).bind fun a4=>
   bif decide (a4.1<0) then
    (dI 6).bind fun a5=>
    some a5
   else
    (jZ p0.field p1.2).bind fun a6=>
    bif decide (a6.1<0) then
     (dI 6).bind fun a7=>
     some a7
    else
     bif a2.2.2 !=0 then
      (dI a2.2.2).bind fun a8=>
      some a8
     else
      (nM p0).bind fun r9=>
      (rZ p0.field p1 p0.now).bind fun a10=>
      bif a10.2.2 !=0 then
       (dI a10.2.2).bind fun a11=>
       some a11
      else
       bif a10.2.1 then
        (lP p0.agenda a10.1 a2.2.1).bind fun a12=>
        bif a12.2.2 !=0 then
         (dI a12.2.2).bind fun a13=>
         some a13
        else
         (bO r9.due [(a2.2.1,a12.2.1)]).bind fun l14=>
         some (aP.mk r9.now r9.field a2.1 a12.1 l14,a2.2.1,0)
       else
        some (aP.mk r9.now r9.field a2.1 r9.agenda r9.due,a2.2.1,0)
def aQy:bM:=⟨aD.cons (aN.agg bV) (aD.one (aN.agg (cP.row kN))),aN.tup (aD.cons (aN.agg bV) (aD.cons (aN.int .i64) (aD.one (aN.int .i64)))),fun a=>iU a.1 a.2,.frz,false⟩
theorem aIo:aM aY 124 aQy:=Oc aFO rfl aH [(103,Z8),(184,aQv),(185,aQx),(178,aHO),(115,aH7),(115,X8),(163,aHV),(181,aOb)] ⟨GX,aIl,aIn,P6,QB,MA,P8,YD,trivial⟩ fun a=>by kernel_rfl
def fF (s:aPu):Option (cA aPu aPn):=
 bif decide (s.2.2.1<s.2.1) then
  (aK s.1 s.2.2.1).bind fun a0=>
  (eC s.2.2.2.2.2.2.2.1 a0).bind fun b1=>
  bif b1 then
   some (.next (s.1,s.2.1,aA .i64 (s.2.2.1+1),s.2.2.2))
  else
   (iU (aP.mk (s.2.2.2.1,s.2.2.2.2.1) (Field.mk s.2.2.2.2.2.1) (aU.mk s.2.2.2.2.2.2.1 s.2.2.2.2.2.2.2.1) (aG.mk (aR.mk s.2.2.2.2.2.2.2.2.1 s.2.2.2.2.2.2.2.2.2.1 s.2.2.2.2.2.2.2.2.2.2.1) s.2.2.2.2.2.2.2.2.2.2.2.1 s.2.2.2.2.2.2.2.2.2.2.2.2.1) s.2.2.2.2.2.2.2.2.2.2.2.2.2.1) a0).bind fun a2=>
   bif a2.2.2 !=0 then
    some (.done (.done (aP.mk (0,0) (Field.mk []) (aU.mk 0 []) (aG.mk (aR.mk [] [] []) [] []) [],a2.2.2)))
   else
    some (.next (s.1,s.2.1,aA .i64 (s.2.2.1+1),a2.1.now.1,a2.1.now.2,a2.1.field.points,a2.1.certs.next_,a2.1.certs.list,a2.1.agenda.slots.uses,a2.1.agenda.slots.used,a2.1.agenda.slots.free,a2.1.agenda.heap,a2.1.agenda.where_,a2.1.due,s.2.2.2.2.2.2.2.2.2.2.2.2.2.2))
 else
  some (.done (.done (aP.mk (s.2.2.2.1,s.2.2.2.2.1) (Field.mk s.2.2.2.2.2.1) (aU.mk s.2.2.2.2.2.2.1 s.2.2.2.2.2.2.2.1) (aG.mk (aR.mk s.2.2.2.2.2.2.2.2.1 s.2.2.2.2.2.2.2.2.2.1 s.2.2.2.2.2.2.2.2.2.2.1) s.2.2.2.2.2.2.2.2.2.2.2.1 s.2.2.2.2.2.2.2.2.2.2.2.2.1) s.2.2.2.2.2.2.2.2.2.2.2.2.2.1,0)))
def eK (s:aPm):Option aPn:=
 match s with
 |(a,b,d,e,f,g,h,i,j,k,l,m,n,o,q,r,t,u,v)=>
  bif decide (e<d) then
   (aK b e).bind fun a0=>
   (fP a a0.2).bind fun b1=>
   bif !b1 then
    (vK (aP.mk (f,g) (Field.mk h) (aU.mk i j) (aG.mk (aR.mk k l m) n o) q) a0.1).bind fun a2=>
    some (.next (a,b,d,aA .i64 (e+1),a2.1.now.1,a2.1.now.2,a2.1.field.points,a2.1.certs.next_,a2.1.certs.list,a2.1.agenda.slots.uses,a2.1.agenda.slots.used,a2.1.agenda.slots.free,a2.1.agenda.heap,a2.1.agenda.where_,a2.1.due,(r,t,u,v)))
   else
    some (.next (a,b,d,aA .i64 (e+1),(f,g,h,i,j,k,l,m,n,o,q,r,t,u,v)))
  else
   (mB h r).bind fun b3=>
   bif !b3 then
    (pW (aP.mk (f,g) (Field.mk h) (aU.mk i j) (aG.mk (aR.mk k l m) n o) q) (Field.mk r)).bind fun a4=>
    bif a4.2 !=0 then
     some (.done (aP.mk (0,0) (Field.mk []) (aU.mk 0 []) (aG.mk (aR.mk [] [] []) [] []) [],a4.2))
    else
     aJ fF (a,Int.ofNat a.length,0,a4.1.now.1,a4.1.now.2,a4.1.field.points,a4.1.certs.next_,a4.1.certs.list,a4.1.agenda.slots.uses,a4.1.agenda.slots.used,a4.1.agenda.slots.free,a4.1.agenda.heap,a4.1.agenda.where_,a4.1.due,(t,u,v))
   else
    aJ fF (a,Int.ofNat a.length,0,f,g,h,i,j,k,l,m,n,o,q,(t,u,v))
def uE (p0:aP) (p1:Field) (p2:List (Int×Int)):Option (aP×Int):=
 aJ eK (p2,p0.certs.list,Int.ofNat p0.certs.list.length,0,p0.now.1,p0.now.2,p0.field.points,p0.certs.next_,p0.certs.list,p0.agenda.slots.uses,p0.agenda.slots.used,p0.agenda.slots.free,p0.agenda.heap,p0.agenda.where_,p0.due,p1.points,0,0,0)
def c68:bM:=⟨aD.cons (aN.agg bV) (aD.cons (aN.agg cC) (aD.one (aN.sl kN))),aN.tup (aD.cons (aN.agg bV) (aD.one (aN.int .i64))),fun a=>uE a.1 a.2.1 a.2.2,.frz,false⟩
theorem aOc:aM aY 68 c68:=Oc aNp rfl aH [(105,aHY),(119,aQn),(120,aQo),(121,aQt),(122,S3),(124,aQy)] ⟨P9,aId,aIe,aIj,S4,aIo,trivial⟩ fun a=>by kernel_rfl
def fG (s:Z6):Option (cA Z6 Zt3):=
 bif decide (s.2.2.2.1<s.2.2.1) then
  (aK s.2.1 s.2.2.2.1).bind fun a0=>
  (eJ (Field.mk s.2.2.2.2.2.2.2.2.2.2.2.2.2.2.2.1) a0.1).bind fun a1=>
  (eJ (Field.mk s.2.2.2.2.2.2.2.2.2.2.2.2.2.2.2.1) a0.2).bind fun a2=>
  bif a1.2 !=0 then
   some (.done (.done (.done (aP.mk (0,0) (Field.mk []) (aU.mk 0 []) (aG.mk (aR.mk [] [] []) [] []) [],6))))
  else
   bif a2.2 !=0 then
    some (.done (.done (.done (aP.mk (0,0) (Field.mk []) (aU.mk 0 []) (aG.mk (aR.mk [] [] []) [] []) [],6))))
   else
    some (.next (s.1,s.2.1,s.2.2.1,aA .i64 (s.2.2.2.1+1),s.2.2.2.2))
 else
  (wO (aP.mk (s.2.2.2.2.1,s.2.2.2.2.2.1) (Field.mk s.2.2.2.2.2.2.1) (aU.mk s.2.2.2.2.2.2.2.1 s.2.2.2.2.2.2.2.2.1) (aG.mk (aR.mk s.2.2.2.2.2.2.2.2.2.1 s.2.2.2.2.2.2.2.2.2.2.1 s.2.2.2.2.2.2.2.2.2.2.2.1) s.2.2.2.2.2.2.2.2.2.2.2.2.1 s.2.2.2.2.2.2.2.2.2.2.2.2.2.1) s.2.2.2.2.2.2.2.2.2.2.2.2.2.2.1)).bind fun r3=>
  (uE r3 (Field.mk s.2.2.2.2.2.2.2.2.2.2.2.2.2.2.2.1) s.1).bind fun a4=>
  some (.done (.done (.done a4)))
def eL (s:Z6):Option Zt3:=
 bif decide (s.2.2.2.1<s.2.2.1) then
  (aK s.2.1 s.2.2.2.1).bind fun a0=>
  (jM s.1 0 s.2.2.2.1).bind fun l1=>
  (fP l1 a0).bind fun b2=>
  bif b2 then
   some (.done (.done (aP.mk (0,0) (Field.mk []) (aU.mk 0 []) (aG.mk (aR.mk [] [] []) [] []) [],14)))
  else
   some (.next (s.1,s.2.1,s.2.2.1,aA .i64 (s.2.2.2.1+1),s.2.2.2.2))
 else
  aJ fG (s.1,s.1,Int.ofNat s.1.length,0,s.2.2.2.2)
def eM (s:Z6):Option aPl:=
 bif decide (s.2.2.2.1<s.2.2.1) then
  (aK s.2.1 s.2.2.2.1).bind fun a0=>
  bif decide (a0.1<0) then
   some (.done (aP.mk (0,0) (Field.mk []) (aU.mk 0 []) (aG.mk (aR.mk [] [] []) [] []) [],8))
  else
   bif decide (a0.2<0) then
    some (.done (aP.mk (0,0) (Field.mk []) (aU.mk 0 []) (aG.mk (aR.mk [] [] []) [] []) [],8))
   else
    bif decide (65535<a0.1) then
     some (.done (aP.mk (0,0) (Field.mk []) (aU.mk 0 []) (aG.mk (aR.mk [] [] []) [] []) [],8))
    else
     bif decide (65535<a0.2) then
      some (.done (aP.mk (0,0) (Field.mk []) (aU.mk 0 []) (aG.mk (aR.mk [] [] []) [] []) [],8))
     else
      bif a0.1==a0.2 then
       some (.done (aP.mk (0,0) (Field.mk []) (aU.mk 0 []) (aG.mk (aR.mk [] [] []) [] []) [],8))
      else
       some (.next (s.1,s.2.1,s.2.2.1,aA .i64 (s.2.2.2.1+1),s.2.2.2.2))
 else
  aJ eL (s.1,s.1,Int.ofNat s.1.length,0,s.2.2.2.2)
def uF (p0:aP) (p1:Field) (p2:List (Int×Int)):Option (aP×Int):=
 (gX p0).bind fun n0=>
 bif n0 !=0 then
  some (aP.mk (0,0) (Field.mk []) (aU.mk 0 []) (aG.mk (aR.mk [] [] []) [] []) [],n0)
 else
  (dS p1).bind fun n1=>
  bif n1 !=0 then
   some (aP.mk (0,0) (Field.mk []) (aU.mk 0 []) (aG.mk (aR.mk [] [] []) [] []) [],n1)
  else
   aJ eM (p2,p2,Int.ofNat p2.length,0,p0.now.1,p0.now.2,p0.field.points,p0.certs.next_,p0.certs.list,p0.agenda.slots.uses,p0.agenda.slots.used,p0.agenda.slots.free,p0.agenda.heap,p0.agenda.where_,p0.due,p1.points,0,0,0)
def aQz:bM:=⟨aD.cons (aN.agg bV) (aD.cons (aN.agg cC) (aD.one (aN.sl kN))),aN.tup (aD.cons (aN.agg bV) (aD.one (aN.int .i64))),fun a=>uF a.1 a.2.1 a.2.2,.frz,false⟩
theorem aIp:aM aY 142 aQz:=Oc aFT rfl aH [(103,Z8),(87,c87),(105,aHY),(139,aBR),(196,aQe),(196,aJB),(68,c68)] ⟨GX,IL,P9,KC,aH3,aBT,aOc,trivial⟩ fun a=>by kernel_rfl
def bZ (p0:aP) (p1:Field) (p2:List Int):Option (cD×Int):=
 (xT p2).bind fun l0=>
 (uF p0 p1 l0).bind fun a1=>
 bif a1.2 !=0 then
  some (cD.mk (aP.mk (0,0) (Field.mk []) (aU.mk 0 []) (aG.mk (aR.mk [] [] []) [] []) []) [],a1.2)
 else
  some (cD.mk a1.1 p2,0)
def c79:bM:=⟨aD.cons (aN.agg bV) (aD.cons (aN.agg cC) (aD.one (aN.sl ki))),aN.tup (aD.cons (aN.agg gC) (aD.one (aN.int .i64))),fun a=>bZ a.1 a.2.1 a.2.2,.frz,false⟩
theorem aBX:aM aY 79 c79:=Oc aNu rfl aH [(143,aQd),(142,aQz)] ⟨aH2,aIp,trivial⟩ fun a=>by kernel_rfl
def qV (c0:(Int×Int×Int)) (c1:(List Int)) (s:Zt9):Option (cA Zt9 (cD×Int)):=
 match s with
 |(a,b,d,e,f,g,h,i,j,k,l,m,n,o,q,r,t,u,v,w,x,y,z,A,B)=>
  bif decide (0<a) then
   (aK y a).bind fun n0=>
   (eJ (Field.mk z) n0).bind fun a1=>
   (aK y (aA .i64 (Int.tdiv (aA .i64 (a-1)) 2))).bind fun n2=>
   (eJ (Field.mk z) n2).bind fun a3=>
   (gU a1.1 a3.1 (A,B)).bind fun a4=>
   bif x.length==x.length then
    bif y.length==y.length then
     bif a4.1 then
      (aK y (aA .i64 (Int.tdiv (aA .i64 (a-1)) 2))).bind fun n5=>
      (aK y a).bind fun n6=>
      (aK y a).bind fun _=>
      (aK (bN y a n5) (aA .i64 (Int.tdiv (aA .i64 (a-1)) 2))).bind fun _=>
      some (.next (aA .i64 (Int.tdiv (aA .i64 (a-1)) 2),b,d,e,f,g,h,i,j,k,l,m,n,o,q,r,t,u,v,w,x,bN (bN y a n5) (aA .i64 (Int.tdiv (aA .i64 (a-1)) 2)) n6,(z,A,B)))
     else
      bif x.length==[c0.1].length then
       bif y.length==c1.length then
        (bZ (aP.mk (b,d) (Field.mk e) (aU.mk f g) (aG.mk (aR.mk h i j) k l) m) (Field.mk w) y).bind fun a9=>
        some (.done a9)
       else
        none
      else
       none
    else
     none
   else
    none
  else
   bif x.length==[c0.1].length then
    bif y.length==c1.length then
     (bZ (aP.mk (b,d) (Field.mk e) (aU.mk f g) (aG.mk (aR.mk h i j) k l) m) (Field.mk w) y).bind fun a10=>
     some (.done a10)
    else
     none
   else
    none
def vU (p0:cD) (p1:Int×Int×Int):Option (cD×Int):=
 (uC p0).bind fun n0=>
 bif n0 !=0 then
  some (cD.mk (aP.mk (0,0) (Field.mk []) (aU.mk 0 []) (aG.mk (aR.mk [] [] []) [] []) []) [],n0)
 else
  (mR p0.clock.field p1).bind fun a1=>
  bif a1.2 !=0 then
   some (cD.mk (aP.mk (0,0) (Field.mk []) (aU.mk 0 []) (aG.mk (aR.mk [] [] []) [] []) []) [],a1.2)
  else
   (bR p0.heap).bind fun l2=>
   (bO l2 [p1.1]).bind fun l3=>
   bif l3.length==l3.length then
    aJ (qV p1 l3) (aA .i64 ((Int.ofNat l3.length) -1),p0.clock.now.1,p0.clock.now.2,p0.clock.field.points,p0.clock.certs.next_,p0.clock.certs.list,p0.clock.agenda.slots.uses,p0.clock.agenda.slots.used,p0.clock.agenda.slots.free,p0.clock.agenda.heap,p0.clock.agenda.where_,p0.clock.due,p0.heap,p1.1,p1.2.1,p1.2.2,0,0,0,a1.1.points,[p1.1],l3,a1.1.points,p0.clock.now)
   else
    none
def c32:bM:=⟨aD.cons (aN.agg gC) (aD.one (aN.agg (cP.row eF))),aN.tup (aD.cons (aN.agg gC) (aD.one (aN.int .i64))),fun a=>vU a.1 a.2,.frz,false⟩
theorem aOd:aM aY 32 c32:=aM.of aM3 (cx:=(pH aH [(59,c59),(45,c45),(64,bM.clone ki),(139,aBR),(128,aH0),(79,c79)] [] [(78,x78),(138,aBu),(140,aBv),(141,aBw)] [])) rfl (mK.make ⟨aBS,aN6,qN,KC,QA,aBX,trivial⟩ trivial ⟨aBD,XP,XQ,XS,trivial⟩) (fun a=>by kernel_rfl)
def iF (p0:Int):Option Int:=
 bif decide (p0<0) then
  some (aA .u64 ((aA .u64 (aA .i64 (0- (aA .i64 (p0+1)))))+1))
 else
  some (aA .u64 p0)
def c73:bM:=⟨aD.one (aN.int .i64),aN.int .u64,fun a=>iF a,.pure,false⟩
theorem VK:aM aY 73 c73:=Oc aNt rfl aH [] trivial fun a=>by kernel_rfl
def oY (s:(Int×Int)):Option (cA (Int×Int) Int):=
 bif s.2 !=0 then
  bif s.2==0 then
   none
  else
   some (.next (s.2,Int.tmod s.1 s.2))
 else
  some (.done s.1)
def qW (p0:Int) (p1:Int):Option Int:=
 aJ oY (p0,p1)
def c72:bM:=⟨aD.cons (aN.int .u64) (aD.one (aN.int .u64)),aN.int .u64,fun a=>qW a.1 a.2,.pure,false⟩
theorem aBY:aM aY 72 c72:=Oc aNs rfl aH [] trivial fun a=>by kernel_rfl
def uG (p0:Int×Int):Option Int:=
 bif decide (p0.2<1) then
  some 8
 else
  bif p0.1==(-9223372036854775808) then
   some 8
  else
   (iF p0.1).bind fun n0=>
   (qW n0 (aA .u64 p0.2)).bind fun n1=>
   bif n1 !=1 then
    some 8
   else
    some 0
def c26:bM:=⟨aD.one (aN.agg (cP.row kN)),aN.int .i64,fun a=>uG a,.pure,false⟩
theorem aBZ:aM aY 26 c26:=Oc aM0 rfl aH [(73,c73),(72,c72)] ⟨VK,aBY,trivial⟩ fun a=>by kernel_rfl
def pX (p0:Int×Int×Int):Option Int:=
 bif decide (p0.1<0) then
  some 8
 else
  bif decide (65535<p0.1) then
   some 8
  else
   bif decide (p0.2.1<(-1048576)) then
    some 8
   else
    bif decide (1048576<p0.2.1) then
     some 8
    else
     bif decide (p0.2.2<(-1048576)) then
      some 8
     else
      bif decide (1048576<p0.2.2) then
       some 8
      else
       some 0
def c44:bM:=⟨aD.one (aN.agg (cP.row eF)),aN.int .i64,fun a=>pX a,.pure,false⟩
theorem VL:aM aY 44 c44:=Oc aNa rfl aH [] trivial fun a=>by kernel_rfl
def jG (s:aBK):Option (cA aBK (cA aBK Int)):=
 bif decide (s.1<(Int.ofNat s.2.length)) then
  (aK s.2 (aA .i64 (s.1-1))).bind fun a0=>
  (aK s.2 s.1).bind fun a1=>
  bif decide (a1.1<=a0.1) then
   some (.done (.done 32))
  else
   some (.next (aA .i64 (s.1+1),s.2))
 else
  some (.done (.done 0))
def nN (s:aBK):Option (cA aBK Int):=
 bif decide (s.1<(Int.ofNat s.2.length)) then
  (aK s.2 s.1).bind fun a0=>
  (pX a0).bind fun n1=>
  bif n1 !=0 then
   some (.done 8)
  else
   some (.next (aA .i64 (s.1+1),s.2))
 else
  aJ jG (1,s.2)
def lQ (p0:Field):Option Int:=
 bif decide (64<(Int.ofNat p0.points.length)) then
  some 4
 else
  aJ nN (0,p0.points)
def c19:bM:=⟨aD.one (aN.agg cC),aN.int .i64,fun a=>lQ a,.pure,false⟩
theorem VM:aM aY 19 c19:=Oc aMX rfl aH [(44,c44)] ⟨VL,trivial⟩ fun a=>by kernel_rfl
def wQ (p0:Int×Int):Option Bool:=
 bif decide (0<=p0.1) then
  bif decide (p0.1<=65535) then
   bif decide (0<=p0.2) then
    bif decide (p0.2<=65535) then
     some (p0.1 !=p0.2)
    else
     some false
   else
    some false
  else
   some false
 else
  some false
def aOe:bM:=⟨aD.one (aN.agg (cP.row kN)),aN.bool,fun a=>wQ a,.pure,false⟩
theorem YE:aM aY 155 aOe:=Oc aF1 rfl aH [] trivial fun a=>by kernel_rfl
def gF (s:(Int×Int×Int×bJ×Int×Int×Int)):Option (cA (Int×Int×Int×bJ×Int×Int×Int) aNP):=
 bif decide (s.2.1<s.1) then
  (aK s.2.2.2.1 s.2.1).bind fun a0=>
  bif (a0.2.1==s.2.2.2.2.2.1)&&(a0.2.2==s.2.2.2.2.2.2) then
   some (.done (.done 8))
  else
   some (.next (s.1,aA .i64 (s.2.1+1),s.2.2))
 else
  some (.done (.next (aA .i64 (s.1+1),s.2.2.1,s.2.2.2.1)))
def qX (s:aBJ):Option aNP:=
 bif decide (s.1<(Int.ofNat s.2.2.length)) then
  (aK s.2.2 s.1).bind fun a0=>
  (wQ a0.2).bind fun b1=>
  bif !b1 then
   some (.done 8)
  else
   bif decide (a0.1<0) then
    some (.done 8)
   else
    bif decide (s.2.1<=a0.1) then
     some (.done 8)
    else
     bif decide (0<s.1) then
      (aK s.2.2 (aA .i64 (s.1-1))).bind fun a2=>
      bif decide (a0.1<=a2.1) then
       some (.done 8)
      else
       aJ gF (s.1,0,s.2.1,s.2.2,a0)
     else
      aJ gF (s.1,0,s.2.1,s.2.2,a0)
 else
  some (.done 0)
def uH (p0:aU):Option Int:=
 bif decide (200<(Int.ofNat p0.list.length)) then
  some 8
 else
  bif decide (p0.next_<0) then
   some 8
  else
   bif decide (1000000<p0.next_) then
    some 8
   else
    aJ qX (0,p0.next_,p0.list)
def c96:bM:=⟨aD.one (aN.agg gS),aN.int .i64,fun a=>uH a,.pure,false⟩
theorem aB0:aM aY 96 c96:=Oc aNH rfl aH [(155,aOe)] ⟨YE,trivial⟩ fun a=>by kernel_rfl
def uI (s:aBJ):Option aNP:=
 bif decide (s.2.1<(Int.ofNat s.2.2.length)) then
  (aK s.2.2 s.2.1).bind fun a0=>
  bif a0.1==s.1 then
   some (.done s.2.1)
  else
   some (.next (s.1,aA .i64 (s.2.1+1),s.2.2))
 else
  some (.done (-1))
def gG (p0:Field) (p1:Int):Option Int:=
 aJ uI (p1,0,p0.points)
def c40:bM:=⟨aD.cons (aN.agg cC) (aD.one (aN.int .i64)),aN.int .i64,fun a=>gG a.1 a.2,.pure,false⟩
theorem FM:aM aY 40 c40:=Oc aM7 rfl aH [] trivial fun a=>by kernel_rfl
def qY (s:(Int×Int×bJ×bJ)):Option (cA (Int×Int×bJ×bJ) Bool):=
 bif decide (s.1<(Int.ofNat s.2.2.1.length)) then
  (aK s.2.2.1 s.1).bind fun a0=>
  (gG (Field.mk s.2.2.2) a0.2.1).bind fun n1=>
  bif decide (n1<0) then
   some (.done false)
  else
   (aK s.2.2.1 s.1).bind fun a2=>
   (gG (Field.mk s.2.2.2) a2.2.2).bind fun n3=>
   bif decide (n3<0) then
    some (.done false)
   else
    some (.next (aA .i64 (s.1+1),s.2))
 else
  some (.done true)
def xV (p0:aU) (p1:Field):Option Bool:=
 aJ qY (0,p0.next_,p0.list,p1.points)
def c97:bM:=⟨aD.cons (aN.agg gS) (aD.one (aN.agg cC)),aN.bool,fun a=>xV a.1 a.2,.pure,false⟩
theorem aOf:aM aY 97 c97:=Oc aNI rfl aH [(40,c40)] ⟨FM,trivial⟩ fun a=>by kernel_rfl
def lC (s:aBI):Option (cA aBI (cA aBI Int)):=
 bif decide (s.2.1<s.1) then
  (aK s.2.2.1 s.2.1).bind fun n0=>
  bif decide (n0<0) then
   some (.done (.done 8))
  else
   (aK s.2.2.1 s.2.1).bind fun n1=>
   bif decide (1000000<n1) then
    some (.done (.done 8))
   else
    (aK s.2.2.2.1 s.2.1).bind fun b2=>
    (aK s.2.2.2.2.2 s.2.1).bind fun b3=>
    bif b2==b3 then
     some (.done (.done 8))
    else
     (aK s.2.2.2.1 s.2.1).bind fun b4=>
     bif b4 then
      (aK s.2.2.1 s.2.1).bind fun n5=>
      bif decide (n5<1) then
       some (.done (.done 8))
      else
       some (.next (s.1,aA .i64 (s.2.1+1),s.2.2))
     else
      some (.next (s.1,aA .i64 (s.2.1+1),s.2.2))
 else
  some (.done (.done 0))
def qZ (s:aBI):Option (cA aBI Int):=
 bif decide (s.2.1<(Int.ofNat s.2.2.2.2.1.length)) then
  (aK s.2.2.2.2.1 s.2.1).bind fun n0=>
  bif decide (n0<0) then
   some (.done 8)
  else
   (aK s.2.2.2.2.1 s.2.1).bind fun n1=>
   bif decide (s.1<=n1) then
    some (.done 8)
   else
    (aK s.2.2.2.2.1 s.2.1).bind fun n2=>
    (aK s.2.2.2.2.2 n2).bind fun b3=>
    bif b3 then
     some (.done 8)
    else
     (aK s.2.2.2.2.1 s.2.1).bind fun n4=>
     (aK s.2.2.2.2.2 n4).bind fun _=>
     some (.next (s.1,aA .i64 (s.2.1+1),s.2.2.1,s.2.2.2.1,s.2.2.2.2.1,bN s.2.2.2.2.2 n4 true))
 else
  aJ lC (s.1,0,s.2.2)
def xW (p0:aR):Option Int:=
 bif decide ((Int.ofNat p0.uses.length)<1) then
  some 8
 else
  bif decide (200<(Int.ofNat p0.uses.length)) then
   some 8
  else
   bif (Int.ofNat p0.used.length) !=(Int.ofNat p0.uses.length) then
    some 8
   else
    bif decide ((Int.ofNat p0.uses.length)<(Int.ofNat p0.free.length)) then
     some 8
    else
     bif (Int.ofNat p0.uses.length)==(Int.ofNat p0.uses.length) then
      (RR (Int.ofNat p0.uses.length) (false:Bool)).bind fun l0=>
      aJ qZ (Int.ofNat p0.uses.length,0,p0.uses,p0.used,p0.free,l0)
     else
      none
def aQA:bM:=⟨aD.one (aN.agg gL),aN.int .i64,fun a=>xW a,.pure,false⟩
theorem aIq:aM aY 156 aQA:=Oc aF2 rfl aH [] trivial fun a=>by kernel_rfl
def wR (p0:aR) (p1:Int×Int):Option Bool:=
 bif decide (0<=p1.1) then
  bif decide (p1.1<(Int.ofNat p0.uses.length)) then
   (aK p0.used p1.1).bind fun b0=>
   bif b0 then
    (aK p0.uses p1.1).bind fun n1=>
    some (n1==p1.2)
   else
    some false
  else
   some false
 else
  some false
def aOg:bM:=⟨aD.cons (aN.agg gL) (aD.one (aN.agg (cP.row kN))),aN.bool,fun a=>wR a.1 a.2,.pure,false⟩
theorem YF:aM aY 160 aOg:=Oc aF6 rfl aH [] trivial fun a=>by kernel_rfl
def oZ (s:aNN):Option (cA aNN Bool):=
 bif decide (s.2.1<s.1) then
  (aK s.2.2.2.1 s.2.1).bind fun b0=>
  bif !b0 then
   (aK s.2.2.2.2.2.2 s.2.1).bind fun n1=>
   bif n1 !=(-1) then
    some (.done false)
   else
    some (.next (s.1,aA .i64 (s.2.1+1),s.2.2))
  else
   (aK s.2.2.2.2.2.2 s.2.1).bind fun n2=>
   bif decide (n2<0) then
    some (.done false)
   else
    bif decide ((Int.ofNat s.2.2.2.2.2.1.length)<=n2) then
     some (.done false)
    else
     (aK s.2.2.2.2.2.1 n2).bind fun a3=>
     bif a3.2.2.2.1 !=s.2.1 then
      some (.done false)
     else
      (aK s.2.2.2.2.2.1 n2).bind fun a4=>
      (wR (aR.mk s.2.2.1 s.2.2.2.1 s.2.2.2.2.1) a4.2.2.2).bind fun b5=>
      bif !b5 then
       some (.done false)
      else
       some (.next (s.1,aA .i64 (s.2.1+1),s.2.2))
 else
  some (.done true)
def vM (p0:aG):Option Bool:=
 bif (Int.ofNat p0.where_.length) !=(Int.ofNat p0.slots.uses.length) then
  some false
 else
  bif (Int.ofNat p0.heap.length) !=(aA .i64 ((Int.ofNat p0.slots.uses.length) - (Int.ofNat p0.slots.free.length))) then
   some false
  else
   aJ oZ (Int.ofNat p0.slots.uses.length,0,p0.slots.uses,p0.slots.used,p0.slots.free,p0.heap,p0.where_)
def aQB:bM:=⟨aD.one (aN.agg dE),aN.bool,fun a=>vM a,.pure,false⟩
theorem aIr:aM aY 157 aQB:=Oc aF3 rfl aH [(160,aOg)] ⟨YF,trivial⟩ fun a=>by kernel_rfl
def sV (p0:Int) (p1:Int):Option (Bool×Int×Int):=
 some (false,aA .u64 ((aA .u64 ((aA .u64 ((aA .u64 (Int.tdiv p0 4294967296))*(aA .u64 (Int.tdiv p1 4294967296))))+(aA .u64 (Int.tdiv (aA .u64 ((aA .u64 ((aA .u64 (Int.tdiv p0 4294967296))*(Int.tmod p1 4294967296)))+(aA .u64 (Int.tdiv (aA .u64 ((Int.tmod p0 4294967296)*(Int.tmod p1 4294967296))) 4294967296)))) 4294967296))))+(aA .u64 (Int.tdiv (aA .u64 ((aA .u64 ((Int.tmod p0 4294967296)*(aA .u64 (Int.tdiv p1 4294967296))))+(Int.tmod (aA .u64 ((aA .u64 ((aA .u64 (Int.tdiv p0 4294967296))*(Int.tmod p1 4294967296)))+(aA .u64 (Int.tdiv (aA .u64 ((Int.tmod p0 4294967296)*(Int.tmod p1 4294967296))) 4294967296)))) 4294967296))) 4294967296))),aA .u64 ((aA .u64 ((Int.tmod (aA .u64 ((aA .u64 ((Int.tmod p0 4294967296)*(aA .u64 (Int.tdiv p1 4294967296))))+(Int.tmod (aA .u64 ((aA .u64 ((aA .u64 (Int.tdiv p0 4294967296))*(Int.tmod p1 4294967296)))+(aA .u64 (Int.tdiv (aA .u64 ((Int.tmod p0 4294967296)*(Int.tmod p1 4294967296))) 4294967296)))) 4294967296))) 4294967296)*4294967296))+(Int.tmod (aA .u64 ((Int.tmod p0 4294967296)*(Int.tmod p1 4294967296))) 4294967296)))
def aQC:bM:=⟨aD.cons (aN.int .u64) (aD.one (aN.int .u64)),aN.agg (cP.row CR),fun a=>sV a.1 a.2,.pure,false⟩
theorem aIs:aM aY 102 aQC:=Oc aFx rfl aH [] trivial fun a=>by kernel_rfl
def kD (p0:Int) (p1:Int):Option (Bool×Int×Int):=
 (iF p0).bind fun n0=>
 (iF p1).bind fun n1=>
 (sV n0 n1).bind fun a2=>
 bif !((decide (p0<0))==(decide (p1<0))) then
  bif p0 !=0 then
   some (p1 !=0,a2.2)
  else
   some (false,a2.2)
 else
  some (false,a2.2)
def c56:bM:=⟨aD.cons (aN.int .i64) (aD.one (aN.int .i64)),aN.agg (cP.row CR),fun a=>kD a.1 a.2,.pure,false⟩
theorem aB1:aM aY 56 c56:=Oc aNh rfl aH [(73,c73),(102,aQC)] ⟨VK,aIs,trivial⟩ fun a=>by kernel_rfl
def mC (p0:Bool×Int×Int):Option Int:=
 bif p0.2.1==0 then
  bif p0.2.2==0 then
   some 0
  else
   bif p0.1 then
    some (-1)
   else
    some 1
 else
  bif p0.1 then
   some (-1)
  else
   some 1
def c57:bM:=⟨aD.one (aN.agg (cP.row CR)),aN.int .i64,fun a=>mC a,.pure,false⟩
theorem aB2:aM aY 57 c57:=Oc aNi rfl aH [] trivial fun a=>by kernel_rfl
def sB (p0:Bool×Int×Int) (p1:Bool×Int×Int):Option Int:=
 bif p0.2.1 !=p1.2.1 then
  bif decide (p0.2.1<p1.2.1) then
   some (-1)
  else
   some 1
 else
  bif p0.2.2 !=p1.2.2 then
   bif decide (p0.2.2<p1.2.2) then
    some (-1)
   else
    some 1
  else
   some 0
def c58:bM:=⟨aD.cons (aN.agg (cP.row CR)) (aD.one (aN.agg (cP.row CR))),aN.int .i64,fun a=>sB a.1 a.2,.pure,false⟩
theorem aB3:aM aY 58 c58:=Oc aNj rfl aH [] trivial fun a=>by kernel_rfl
def sW (p0:Int×Int) (p1:Int×Int):Option Int:=
 (kD p0.1 p1.2).bind fun a0=>
 (kD p1.1 p0.2).bind fun a1=>
 (mC a0).bind fun n2=>
 (mC a1).bind fun n3=>
 bif n2 !=n3 then
  (mC a0).bind fun n4=>
  (mC a1).bind fun n5=>
  bif decide (n4<n5) then
   some (-1)
  else
   some 1
 else
  (mC a0).bind fun n6=>
  bif decide (n6<0) then
   (sB a1 a0).bind fun n7=>
   some n7
  else
   (sB a0 a1).bind fun n8=>
   some n8
def c15:bM:=⟨aD.cons (aN.agg (cP.row kN)) (aD.one (aN.agg (cP.row kN))),aN.int .i64,fun a=>sW a.1 a.2,.pure,false⟩
theorem aOh:aM aY 15 c15:=Oc aMV rfl aH [(56,c56),(57,c57),(58,c58)] ⟨aB1,aB2,aB3,trivial⟩ fun a=>by kernel_rfl
def eN (p0:Int×Int×Int×Int×Int) (p1:Int×Int×Int×Int×Int):Option Bool:=
 (sW (p0.1,p0.2.1) (p1.1,p1.2.1)).bind fun n0=>
 bif decide (n0<0) then
  some true
 else
  bif n0==0 then
   some (decide (p0.2.2.1<p1.2.2.1))
  else
   some false
def VN:bM:=⟨aD.cons (aN.agg (cP.row lW)) (aD.one (aN.agg (cP.row lW))),aN.bool,fun a=>eN a.1 a.2,.pure,false⟩
theorem DX:aM aY 158 VN:=Oc aF4 rfl aH [(15,c15)] ⟨aOh,trivial⟩ fun a=>by kernel_rfl
def lD (s:aPH):Option (cA aPH aNM):=
 bif decide (s.2.1<s.1) then
  (aK s.2.2.2.2.2.1 s.2.1).bind fun a0=>
  bif a0.2.2.1==s.2.2.2.2.2.2.2.2.2.1 then
   some (.done (.done 8))
  else
   some (.next (s.1,aA .i64 (s.2.1+1),s.2.2))
 else
  some (.done (.next (aA .i64 (s.1+1),s.2.2.1,s.2.2.2.1,s.2.2.2.2.1,s.2.2.2.2.2.1,s.2.2.2.2.2.2.1)))
def lE (s:GU):Option (cA GU aNM):=
 bif decide (s.1<(Int.ofNat s.2.2.2.2.1.length)) then
  (aK s.2.2.2.2.1 s.1).bind fun a0=>
  (aK s.2.2.2.2.1 (aA .i64 (Int.tdiv (aA .i64 (s.1-1)) 2))).bind fun a1=>
  (eN a0 a1).bind fun b2=>
  bif b2 then
   some (.done (.done 8))
  else
   some (.next (aA .i64 (s.1+1),s.2))
 else
  some (.done (.done 0))
def rA (s:GU):Option aNM:=
 bif decide (s.1<(Int.ofNat s.2.2.2.2.1.length)) then
  (aK s.2.2.2.2.1 s.1).bind fun a0=>
  (uG (a0.1,a0.2.1)).bind fun n1=>
  bif n1 !=0 then
   some (.done 8)
  else
   bif decide (a0.2.2.1<0) then
    some (.done 8)
   else
    bif decide (1000000<a0.2.2.1) then
     some (.done 8)
    else
     aJ lD (s.1,0,s.2.1,s.2.2.1,s.2.2.2.1,s.2.2.2.2.1,s.2.2.2.2.2,a0)
 else
  aJ lE (1,s.2)
def uK (p0:aG):Option Int:=
 (xW p0.slots).bind fun n0=>
 bif n0 !=0 then
  some 8
 else
  (vM p0).bind fun b1=>
  bif !b1 then
   some 8
  else
   aJ rA (0,p0.slots.uses,p0.slots.used,p0.slots.free,p0.heap,p0.where_)
def c98:bM:=⟨aD.one (aN.agg dE),aN.int .i64,fun a=>uK a,.pure,false⟩
theorem aB4:aM aY 98 c98:=Oc aNJ rfl aH [(156,aQA),(157,aQB),(26,c26),(158,VN)] ⟨aIq,aIr,aBZ,DX,trivial⟩ fun a=>by kernel_rfl
def uL (p0:Bool×Int×Int) (p1:Bool×Int×Int):Option (Bool×Int×Int):=
 bif decide (p0.2.2<p1.2.2) then
  some (false,aA .u64 ((aA .u64 (p0.2.1-p1.2.1)) -1),aA .u64 (p0.2.2-p1.2.2))
 else
  some (false,aA .u64 (p0.2.1-p1.2.1),aA .u64 (p0.2.2-p1.2.2))
def aQD:bM:=⟨aD.cons (aN.agg (cP.row CR)) (aD.one (aN.agg (cP.row CR))),aN.agg (cP.row CR),fun a=>uL a.1 a.2,.pure,false⟩
theorem aIt:aM aY 226 aQD:=Oc aGT rfl aH [] trivial fun a=>by kernel_rfl
def A5 (p0:Bool×Int×Int) (p1:Bool×Int×Int):Option (Bool×Int×Int):=
 bif p0.1==p1.1 then
  bif decide ((aA .u64 (p0.2.2+p1.2.2))<p0.2.2) then
   some (p0.1,aA .u64 ((aA .u64 (p0.2.1+p1.2.1))+1),aA .u64 (p0.2.2+p1.2.2))
  else
   some (p0.1,aA .u64 (p0.2.1+p1.2.1),aA .u64 (p0.2.2+p1.2.2))
 else
  (sB p0 p1).bind fun n0=>
  bif decide (0<=n0) then
   (uL p0 p1).bind fun a1=>
   bif p0.1 then
    bif decide (0<a1.2.1) then
     some (true,a1.2)
    else
     some (decide (0<a1.2.2),a1.2)
   else
    some (false,a1.2)
  else
   (uL p1 p0).bind fun a2=>
   some (p1.1,a2.2)
def aQE:bM:=⟨aD.cons (aN.agg (cP.row CR)) (aD.one (aN.agg (cP.row CR))),aN.agg (cP.row CR),fun a=>A5 a.1 a.2,.pure,false⟩
theorem aIu:aM aY 186 aQE:=Oc aGs rfl aH [(58,c58),(226,aQD)] ⟨aB3,aIt,trivial⟩ fun a=>by kernel_rfl
def DY (p0:Int×Int×Int) (p1:Int×Int×Int) (p2:Int×Int):Option Int:=
 (kD (aA .i64 (p0.2.1-p1.2.1)) p2.2).bind fun a0=>
 (kD (aA .i64 (p0.2.2-p1.2.2)) p2.1).bind fun a1=>
 (A5 a0 a1).bind fun a2=>
 (mC a2).bind fun n3=>
 some n3
def aQF:bM:=⟨aD.cons (aN.agg (cP.row eF)) (aD.cons (aN.agg (cP.row eF)) (aD.one (aN.agg (cP.row kN)))),aN.int .i64,fun a=>DY a.1 a.2.1 a.2.2,.pure,false⟩
theorem aIv:aM aY 125 aQF:=Oc aFP rfl aH [(56,c56),(186,aQE),(57,c57)] ⟨aB1,aIu,aB2,trivial⟩ fun a=>by kernel_rfl
def pY (p0:Int×Int×Int) (p1:Int×Int×Int) (p2:Int×Int):Option Bool:=
 (DY p0 p1 p2).bind fun n0=>
 bif n0 !=0 then
  some (decide (0<n0))
 else
  bif p0.2.2 !=p1.2.2 then
   some (decide (p1.2.2<p0.2.2))
  else
   some (decide (p0.1<p1.1))
def c70:bM:=⟨aD.cons (aN.agg (cP.row eF)) (aD.cons (aN.agg (cP.row eF)) (aD.one (aN.agg (cP.row kN)))),aN.bool,fun a=>pY a.1 a.2.1 a.2.2,.pure,false⟩
theorem VO:aM aY 70 c70:=Oc aNr rfl aH [(125,aQF)] ⟨aIv,trivial⟩ fun a=>by kernel_rfl
def sC (p0:Bool) (p1:Bool×Int×Int) (p2:Bool×Int×Int):Option ((Int×Int)×Int):=
 bif decide (0<p1.2.1) then
  some ((0,0),16)
 else
  bif decide (9223372036854775807<p1.2.2) then
   some ((0,0),16)
  else
   bif decide (0<p2.2.1) then
    some ((0,0),16)
   else
    bif decide (9223372036854775807<p2.2.2) then
     some ((0,0),16)
    else
     bif p0 then
      some ((aA .i64 (0- (aA .i64 p1.2.2)),aA .i64 p2.2.2),0)
     else
      some ((aA .i64 p1.2.2,aA .i64 p2.2.2),0)
def aQG:bM:=⟨aD.cons aN.bool (aD.cons (aN.agg (cP.row CR)) (aD.one (aN.agg (cP.row CR)))),aN.tup (aD.cons (aN.agg (cP.row kN)) (aD.one (aN.int .i64))),fun a=>sC a.1 a.2.1 a.2.2,.pure,false⟩
theorem aIw:aM aY 285 aQG:=Oc aHg rfl aH [] trivial fun a=>by kernel_rfl
def nO (p0:Int) (p1:Int):Option ((Int×Int)×Int):=
 bif p1==0 then
  some ((0,0),26)
 else
  (iF p0).bind fun n0=>
  (iF p1).bind fun n1=>
  (qW n0 n1).bind fun n2=>
  bif !((decide (p0<0))==(decide (p1<0))) then
   (iF p0).bind fun n3=>
   bif n2==0 then
    none
   else
    (iF p1).bind fun n4=>
    bif n2==0 then
     none
    else
     (sC (p0 !=0) (false,0,aA .u64 (Int.tdiv n3 n2)) (false,0,aA .u64 (Int.tdiv n4 n2))).bind fun a5=>
     some a5
  else
   (iF p0).bind fun n6=>
   bif n2==0 then
    none
   else
    (iF p1).bind fun n7=>
    bif n2==0 then
     none
    else
     (sC false (false,0,aA .u64 (Int.tdiv n6 n2)) (false,0,aA .u64 (Int.tdiv n7 n2))).bind fun a8=>
     some a8
def aQH:bM:=⟨aD.cons (aN.int .i64) (aD.one (aN.int .i64)),aN.tup (aD.cons (aN.agg (cP.row kN)) (aD.one (aN.int .i64))),fun a=>nO a.1 a.2,.pure,false⟩
theorem aIx:aM aY 257 aQH:=Oc aG3 rfl aH [(73,c73),(72,c72),(285,aQG)] ⟨VK,aBY,aIw,trivial⟩ fun a=>by kernel_rfl
def DZ (p0:Int×Int×Int) (p1:Int×Int×Int):Option (Int×Int):=
 (nO (aA .i64 (p0.2.1-p1.2.1)) (aA .i64 (p1.2.2-p0.2.2))).bind fun a0=>
 some a0.1
def aQI:bM:=⟨aD.cons (aN.agg (cP.row eF)) (aD.one (aN.agg (cP.row eF))),aN.agg (cP.row kN),fun a=>DZ a.1 a.2,.pure,false⟩
theorem aIy:aM aY 205 aQI:=Oc aGB rfl aH [(257,aQH)] ⟨aIx,trivial⟩ fun a=>by kernel_rfl
def sX (p0:Int×Int×Int) (p1:Int×Int×Int) (p2:Int×Int):Option ((Int×Int)×Bool):=
 (pY p1 p0 p2).bind fun b0=>
 bif b0 then
  some (p2,true)
 else
  bif decide (p0.2.2<p1.2.2) then
   (DZ p0 p1).bind fun a1=>
   some (a1,true)
  else
   some ((0,0),false)
def aQJ:bM:=⟨aD.cons (aN.agg (cP.row eF)) (aD.cons (aN.agg (cP.row eF)) (aD.one (aN.agg (cP.row kN)))),aN.tup (aD.cons (aN.agg (cP.row kN)) (aD.one aN.bool)),fun a=>sX a.1 a.2.1 a.2.2,.pure,false⟩
theorem aIz:aM aY 159 aQJ:=Oc aF5 rfl aH [(70,c70),(205,aQI)] ⟨VO,aIy,trivial⟩ fun a=>by kernel_rfl
def sD (p0:Field) (p1:Int×Int) (p2:Int×Int):Option ((Int×Int)×Bool):=
 (gG p0 p1.2).bind fun n0=>
 (aK p0.points n0).bind fun a1=>
 (gG p0 p1.1).bind fun n2=>
 (aK p0.points n2).bind fun a3=>
 (sX a1 a3 p2).bind fun a4=>
 some a4
def c99:bM:=⟨aD.cons (aN.agg cC) (aD.cons (aN.agg (cP.row kN)) (aD.one (aN.agg (cP.row kN)))),aN.tup (aD.cons (aN.agg (cP.row kN)) (aD.one aN.bool)),fun a=>sD a.1 a.2.1 a.2.2,.pure,false⟩
theorem VP:aM aY 99 c99:=Oc aNK rfl aH [(40,c40),(159,aQJ)] ⟨FM,aIz,trivial⟩ fun a=>by kernel_rfl
def wS (p0:aG) (p1:Int×Int):Option ((Int×Int×Int×Int×Int)×Int):=
 (uK p0).bind fun n0=>
 bif n0 !=0 then
  some ((0,0,0,0,0),8)
 else
  (wR p0.slots p1).bind fun b1=>
  bif !b1 then
   some ((0,0,0,0,0),6)
  else
   (aK p0.where_ p1.1).bind fun n2=>
   (aK p0.heap n2).bind fun a3=>
   some (a3,0)
def aQK:bM:=⟨aD.cons (aN.agg dE) (aD.one (aN.agg (cP.row kN))),aN.tup (aD.cons (aN.agg (cP.row lW)) (aD.one (aN.int .i64))),fun a=>wS a.1 a.2,.pure,false⟩
theorem aIA:aM aY 100 aQK:=Oc aFv rfl aH [(98,c98),(160,aOg)] ⟨aB4,YF,trivial⟩ fun a=>by kernel_rfl
def dM (s:aNL):Option aPz:=
 bif decide (s.2.1<(Int.ofNat s.2.2.2.2.2.2.1.length)) then
  (aK s.2.2.2.2.2.2.1 s.2.1).bind fun a0=>
  (sD (Field.mk s.2.2.2.2.1) a0.2 (s.2.2.1,s.2.2.2.1)).bind fun a1=>
  bif !a1.2 then
   some (.next (s.1,aA .i64 (s.2.1+1),s.2.2))
  else
   bif decide ((Int.ofNat s.2.2.2.2.2.2.2.2.2.2.2.2.length)<=s.1) then
    some (.done 8)
   else
    (aK s.2.2.2.2.2.2.2.2.2.2.2.2 s.1).bind fun a2=>
    bif a2.1 !=a0.1 then
     some (.done 8)
    else
     (aK s.2.2.2.2.2.2.2.2.2.2.2.2 s.1).bind fun a3=>
     (wS (aG.mk (aR.mk s.2.2.2.2.2.2.2.1 s.2.2.2.2.2.2.2.2.1 s.2.2.2.2.2.2.2.2.2.1) s.2.2.2.2.2.2.2.2.2.2.1 s.2.2.2.2.2.2.2.2.2.2.2.1) a3.2).bind fun a4=>
     bif a4.2 !=0 then
      some (.done 8)
     else
      bif a4.1.2.2.1 !=a0.1 then
       some (.done 8)
      else
       bif !((a4.1.1==a1.1.1)&&(a4.1.2.1==a1.1.2)) then
        some (.done 8)
       else
        some (.next (aA .i64 (s.1+1),aA .i64 (s.2.1+1),s.2.2))
 else
  bif s.1 !=(Int.ofNat s.2.2.2.2.2.2.2.2.2.2.2.2.length) then
   some (.done 8)
  else
   some (.done 0)
def xX (p0:aP):Option Int:=
 (uG p0.now).bind fun n0=>
 bif n0 !=0 then
  some 8
 else
  (lQ p0.field).bind fun n1=>
  bif n1 !=0 then
   some 8
  else
   (uH p0.certs).bind fun n2=>
   bif n2 !=0 then
    some 8
   else
    (xV p0.certs p0.field).bind fun b3=>
    bif !b3 then
     some 8
    else
     (uK p0.agenda).bind fun n4=>
     bif n4 !=0 then
      some 8
     else
      bif (Int.ofNat p0.agenda.where_.length) !=200 then
       some 8
      else
       bif (Int.ofNat p0.agenda.heap.length) !=(Int.ofNat p0.due.length) then
        some 8
       else
        aJ dM (0,0,p0.now.1,p0.now.2,p0.field.points,p0.certs.next_,p0.certs.list,p0.agenda.slots.uses,p0.agenda.slots.used,p0.agenda.slots.free,p0.agenda.heap,p0.agenda.where_,p0.due)
def c53:bM:=⟨aD.one (aN.agg bV),aN.int .i64,fun a=>xX a,.pure,false⟩
theorem aOi:aM aY 53 c53:=Oc aNf rfl aH [(26,c26),(19,c19),(96,c96),(97,c97),(98,c98),(99,c99),(100,aQK)] ⟨aBZ,VM,aB0,aOf,aB4,VP,aIA,trivial⟩ fun a=>by kernel_rfl
def S9 (s:aHv):Option (cA aHv yN):=
 bif decide (s.2.1<(Int.ofNat s.1.length)) then
  (aK s.1 s.2.1).bind fun n0=>
  (aK s.1 (aA .i64 (Int.tdiv (aA .i64 (s.2.1-1)) 2))).bind fun n1=>
  (bO s.2.2 [(n0,n1)]).bind fun l2=>
  some (.next (s.1,aA .i64 (s.2.1+1),l2))
 else
  some (.done s.2.2)
def CY (p0:List Int):Option yN:=
 aJ S9 (p0,1,[])
def c55:bM:=⟨aD.one (aN.sl ki),aN.sl kN,fun a=>CY a,.own,true⟩
def aOj:bM:=⟨aD.one (aN.sl ki),aN.sl kN,fun a=>CY a,.frz,false⟩
theorem aB5:aM aY 55 c55:=Oc aBB rfl aH [] trivial fun a=>by kernel_rfl
theorem YG:aM aY 55 aOj:=Oc aBB rfl aH [] trivial fun a=>by kernel_rfl
def vN (s:(Int×Int×bJ×Int×Int)):Option (cA (Int×Int×bJ×Int×Int) Bool):=
 bif decide (s.1<(Int.ofNat s.2.2.1.length)) then
  (aK s.2.2.1 s.1).bind fun a0=>
  bif (a0.2.1==s.2.2.2.1)&&(a0.2.2==s.2.2.2.2) then
   some (.done true)
  else
   some (.next (aA .i64 (s.1+1),s.2))
 else
  some (.done false)
def vV (p0:aU) (p1:Int×Int):Option Bool:=
 aJ vN (0,p0.next_,p0.list,p1)
def aIB:bM:=⟨aD.cons (aN.agg gS) (aD.one (aN.agg (cP.row kN))),aN.bool,fun a=>vV a.1 a.2,.pure,false⟩
theorem QD:aM aY 101 aIB:=Oc aFw rfl aH [] trivial fun a=>by kernel_rfl
def A6 (p0:Int×Int) (p1:Field) (p2:Int×Int):Option Bool:=
 (gG p1 p0.2).bind fun n0=>
 (aK p1.points n0).bind fun a1=>
 (gG p1 p0.1).bind fun n2=>
 (aK p1.points n2).bind fun a3=>
 (pY a1 a3 p2).bind fun b4=>
 some b4
def c30:bM:=⟨aD.cons (aN.agg (cP.row kN)) (aD.cons (aN.agg cC) (aD.one (aN.agg (cP.row kN)))),aN.bool,fun a=>A6 a.1 a.2.1 a.2.2,.pure,false⟩
theorem aOk:aM aY 30 c30:=Oc aM2 rfl aH [(40,c40),(70,c70)] ⟨FM,VO,trivial⟩ fun a=>by kernel_rfl
def sY (s:aPy):Option (cA aPy Bool):=
 bif decide (s.2.1<(Int.ofNat s.1.length)) then
  (aK s.1 s.2.1).bind fun a0=>
  (vV (aU.mk s.2.2.2.2.2.1 s.2.2.2.2.2.2.1) a0).bind fun b1=>
  bif !b1 then
   some (.done false)
  else
   (aK s.1 s.2.1).bind fun a2=>
   (A6 a2 (Field.mk s.2.2.2.2.1) (s.2.2.1,s.2.2.2.1)).bind fun b3=>
   bif !b3 then
    some (.done false)
   else
    some (.next (s.1,aA .i64 (s.2.1+1),s.2.2))
 else
  some (.done true)
def A7 (p0:aP) (p1:List (Int×Int)):Option Bool:=
 bif (Int.ofNat p0.certs.list.length) !=(Int.ofNat p1.length) then
  some false
 else
  aJ sY (p1,0,p0.now.1,p0.now.2,p0.field.points,p0.certs.next_,p0.certs.list,p0.agenda.slots.uses,p0.agenda.slots.used,p0.agenda.slots.free,p0.agenda.heap,p0.agenda.where_,p0.due)
def c54:bM:=⟨aD.cons (aN.agg bV) (aD.one (aN.sl kN)),aN.bool,fun a=>A7 a.1 a.2,.pure,false⟩
theorem aOl:aM aY 54 c54:=Oc aNg rfl aH [(101,aIB),(30,c30)] ⟨QD,aOk,trivial⟩ fun a=>by kernel_rfl
def rB (s:aHn):Option (cA aHn aPx):=
 bif decide (s.2.1<s.1) then
  (aK s.2.2.2.2.2.2.2.2.2.2.2.2.2 s.2.1).bind fun n0=>
  (aK s.2.2.2.2.2.2.2.2.2.2.2.2.2 s.1).bind fun n1=>
  bif n0==n1 then
   some (.done (.done 8))
  else
   some (.next (s.1,aA .i64 (s.2.1+1),s.2.2))
 else
  some (.done (.next (aA .i64 (s.1+1),s.2.2)))
def jH (s:aPw):Option aPx:=
 bif decide (s.1<(Int.ofNat s.2.2.2.2.2.2.2.2.2.2.2.2.length)) then
  (aK s.2.2.2.2.2.2.2.2.2.2.2.2 s.1).bind fun n0=>
  (gG (Field.mk s.2.2.2.1) n0).bind fun n1=>
  bif decide (n1<0) then
   some (.done 8)
  else
   aJ rB (s.1,0,s.2)
 else
  (CY s.2.2.2.2.2.2.2.2.2.2.2.2).bind fun l2=>
  (A7 (aP.mk (s.2.1,s.2.2.1) (Field.mk s.2.2.2.1) (aU.mk s.2.2.2.2.1 s.2.2.2.2.2.1) (aG.mk (aR.mk s.2.2.2.2.2.2.1 s.2.2.2.2.2.2.2.1 s.2.2.2.2.2.2.2.2.1) s.2.2.2.2.2.2.2.2.2.1 s.2.2.2.2.2.2.2.2.2.2.1) s.2.2.2.2.2.2.2.2.2.2.2.1) l2).bind fun b3=>
  bif !b3 then
   some (.done 8)
  else
   some (.done 0)
def nP (p0:cD):Option Int:=
 (xX p0.clock).bind fun n0=>
 bif n0 !=0 then
  some 8
 else
  bif (Int.ofNat p0.heap.length) !=(Int.ofNat p0.clock.field.points.length) then
   some 8
  else
   aJ jH (0,p0.clock.now.1,p0.clock.now.2,p0.clock.field.points,p0.clock.certs.next_,p0.clock.certs.list,p0.clock.agenda.slots.uses,p0.clock.agenda.slots.used,p0.clock.agenda.slots.free,p0.clock.agenda.heap,p0.clock.agenda.where_,p0.clock.due,p0.heap)
def c13:bM:=⟨aD.one (aN.agg gC),aN.int .i64,fun a=>nP a,.pure,false⟩
theorem aB6:aM aY 13 c13:=Oc aMU rfl aH [(53,c53),(40,c40),(55,c55),(55,aOj),(54,c54)] ⟨aOi,FM,aB5,YG,aOl,trivial⟩ fun a=>by kernel_rfl
def fL (s:aPN):Option (cA aPN (Field×Int)):=
 bif decide (s.2.1<(Int.ofNat s.2.2.1.length)) then
  bif !s.1 then
   (aK s.2.2.1 s.2.1).bind fun a0=>
   bif decide (s.2.2.2.1<a0.1) then
    (bO s.2.2.2.2.2.2 [(s.2.2.2.1,s.2.2.2.2.1,s.2.2.2.2.2.1)]).bind fun l1=>
    (aK s.2.2.1 s.2.1).bind fun a2=>
    (bO l1 [a2]).bind fun l3=>
    some (.next (true,aA .i64 (s.2.1+1),s.2.2.1,s.2.2.2.1,s.2.2.2.2.1,s.2.2.2.2.2.1,l3))
   else
    (aK s.2.2.1 s.2.1).bind fun a4=>
    (bO s.2.2.2.2.2.2 [a4]).bind fun l5=>
    some (.next (s.1,aA .i64 (s.2.1+1),s.2.2.1,s.2.2.2.1,s.2.2.2.2.1,s.2.2.2.2.2.1,l5))
  else
   (aK s.2.2.1 s.2.1).bind fun a6=>
   (bO s.2.2.2.2.2.2 [a6]).bind fun l7=>
   some (.next (s.1,aA .i64 (s.2.1+1),s.2.2.1,s.2.2.2.1,s.2.2.2.2.1,s.2.2.2.2.2.1,l7))
 else
  bif !s.1 then
   (bO s.2.2.2.2.2.2 [(s.2.2.2.1,s.2.2.2.2.1,s.2.2.2.2.2.1)]).bind fun l8=>
   some (.done (Field.mk l8,0))
  else
   some (.done (Field.mk s.2.2.2.2.2.2,0))
def mT (p0:Field) (p1:Int×Int×Int):Option (Field×Int):=
 (lQ p0).bind fun n0=>
 bif n0 !=0 then
  some (Field.mk [],n0)
 else
  (pX p1).bind fun n1=>
  bif n1 !=0 then
   some (Field.mk [],8)
  else
   (gG p0 p1.1).bind fun n2=>
   bif decide (0<=n2) then
    some (Field.mk [],14)
   else
    bif (Int.ofNat p0.points.length)==64 then
     some (Field.mk [],18)
    else
     aJ fL (false,0,p0.points,p1.1,p1.2.1,p1.2.2,[])
def c80:bM:=⟨aD.cons (aN.agg cC) (aD.one (aN.agg (cP.row eF))),aN.tup (aD.cons (aN.agg cC) (aD.one (aN.int .i64))),fun a=>mT a.1 a.2,.frz,false⟩
theorem aOm:aM aY 80 c80:=Oc aNv rfl aH [(19,c19),(44,c44),(40,c40)] ⟨VM,VL,FM,trivial⟩ fun a=>by kernel_rfl
def lR (p0:Field) (p1:Int×Int) (p2:Int) (p3:Int):Option Bool:=
 (gG p0 p2).bind fun n0=>
 (aK p0.points n0).bind fun a1=>
 (gG p0 p3).bind fun n2=>
 (aK p0.points n2).bind fun a3=>
 (pY a1 a3 p1).bind fun b4=>
 some b4
def c22:bM:=⟨aD.cons (aN.agg cC) (aD.cons (aN.agg (cP.row kN)) (aD.cons (aN.int .i64) (aD.one (aN.int .i64)))),aN.bool,fun a=>lR a.1 a.2.1 a.2.2.1 a.2.2.2,.pure,false⟩
theorem VQ:aM aY 22 c22:=Oc aMZ rfl aH [(40,c40),(70,c70)] ⟨FM,VO,trivial⟩ fun a=>by kernel_rfl
def nQ (s:aHu):Option (cA aHu (List Int)):=
 bif decide (0<s.1) then
  (aK s.2.2.2.2 s.1).bind fun n0=>
  (aK s.2.2.2.2 (aA .i64 (Int.tdiv (aA .i64 (s.1-1)) 2))).bind fun n1=>
  (lR (Field.mk s.2.1) (s.2.2.1,s.2.2.2.1) n0 n1).bind fun b2=>
  bif b2 then
   (aK s.2.2.2.2 (aA .i64 (Int.tdiv (aA .i64 (s.1-1)) 2))).bind fun n3=>
   (aK s.2.2.2.2 s.1).bind fun n4=>
   (aK s.2.2.2.2 s.1).bind fun _=>
   (aK (bN s.2.2.2.2 s.1 n3) (aA .i64 (Int.tdiv (aA .i64 (s.1-1)) 2))).bind fun _=>
   some (.next (aA .i64 (Int.tdiv (aA .i64 (s.1-1)) 2),s.2.1,s.2.2.1,s.2.2.2.1,bN (bN s.2.2.2.2 s.1 n3) (aA .i64 (Int.tdiv (aA .i64 (s.1-1)) 2)) n4))
  else
   some (.done s.2.2.2.2)
 else
  some (.done s.2.2.2.2)
def pZ (p0:Field) (p1:Int×Int) (p2:List Int) (p3:Int):Option (List Int):=
 (bR p2).bind fun l0=>
 aJ nQ (p3,p0.points,p1.1,p1.2,l0)
def c82:bM:=⟨aD.cons (aN.agg cC) (aD.cons (aN.agg (cP.row kN)) (aD.cons (aN.sl ki) (aD.one (aN.int .i64)))),aN.sl ki,fun a=>pZ a.1 a.2.1 a.2.2.1 a.2.2.2,.own,true⟩
def aOn:bM:=⟨aD.cons (aN.agg cC) (aD.cons (aN.agg (cP.row kN)) (aD.cons (aN.sl ki) (aD.one (aN.int .i64)))),aN.sl ki,fun a=>pZ a.1 a.2.1 a.2.2.1 a.2.2.2,.frz,false⟩
theorem aB7:aM aY 82 c82:=Oc aBE rfl aH [(22,c22)] ⟨VQ,trivial⟩ fun a=>by kernel_rfl
theorem YH:aM aY 82 aOn:=Oc aBE rfl aH [(22,c22)] ⟨VQ,trivial⟩ fun a=>by kernel_rfl
def xY (s:(yN×Int×Int×Int)):Option (cA (yN×Int×Int×Int) Bool):=
 bif decide (s.2.1<(Int.ofNat s.1.length)) then
  (aK s.1 s.2.1).bind fun a0=>
  bif (a0.1==s.2.2.1)&&(a0.2==s.2.2.2) then
   some (.done true)
  else
   some (.next (s.1,aA .i64 (s.2.1+1),s.2.2))
 else
  some (.done false)
def GZ (p0:List (Int×Int)) (p1:Int×Int):Option Bool:=
 aJ xY (p0,0,p1)
def c29:bM:=⟨aD.cons (aN.sl kN) (aD.one (aN.agg (cP.row kN))),aN.bool,fun a=>GZ a.1 a.2,.pure,false⟩
theorem aOo:aM aY 29 c29:=Oc aM1 rfl aH [] trivial fun a=>by kernel_rfl
def lF (s:aPO):Option (cA aPO aU):=
 bif decide (s.2.1<(Int.ofNat s.2.2.2.1.length)) then
  (aK s.2.2.2.1 s.2.1).bind fun a0=>
  bif a0.1 !=s.1 then
   (aK s.2.2.2.1 s.2.1).bind fun a1=>
   (bO s.2.2.2.2.2.2 [a1]).bind fun l2=>
   some (.next (s.1,aA .i64 (s.2.1+1),s.2.2.1,s.2.2.2.1,s.2.2.2.2.1,s.2.2.2.2.2.1,l2))
  else
   some (.next (s.1,aA .i64 (s.2.1+1),s.2.2))
 else
  some (.done (aU.mk s.2.2.2.2.2.1 s.2.2.2.2.2.2))
def sZ (p0:aU) (p1:Int):Option aU:=
 aJ lF (p1,0,p0.next_,p0.list,0,p0.next_,[])
def aQL:bM:=⟨aD.cons (aN.agg gS) (aD.one (aN.int .i64)),aN.agg gS,fun a=>sZ a.1 a.2,.frz,false⟩
theorem aIC:aM aY 247 aQL:=Oc aGW rfl aH [] trivial fun a=>by kernel_rfl
def rC (s:aNL):Option aPz:=
 bif decide (s.2.1<(Int.ofNat s.2.2.2.2.2.2.2.2.2.2.2.2.length)) then
  (aK s.2.2.2.2.2.2.2.2.2.2.2.2 s.2.1).bind fun a0=>
  bif a0.1==s.1 then
   some (.done s.2.1)
  else
   some (.next (s.1,aA .i64 (s.2.1+1),s.2.2))
 else
  some (.done (-1))
def qA (p0:aP) (p1:Int):Option Int:=
 aJ rC (p1,0,p0.now.1,p0.now.2,p0.field.points,p0.certs.next_,p0.certs.list,p0.agenda.slots.uses,p0.agenda.slots.used,p0.agenda.slots.free,p0.agenda.heap,p0.agenda.where_,p0.due)
def aOp:bM:=⟨aD.cons (aN.agg bV) (aD.one (aN.int .i64)),aN.int .i64,fun a=>qA a.1 a.2,.pure,false⟩
theorem YI:aM aY 248 aOp:=Oc aGX rfl aH [] trivial fun a=>by kernel_rfl
def qB (p0:aR) (p1:Int×Int):Option aR:=
 (nI p0).bind fun r0=>
 (aK r0.used p1.1).bind fun _=>
 (bO r0.free [p1.1]).bind fun l2=>
 some (aR.mk r0.uses (bN r0.used p1.1 false) l2)
def aQM:bM:=⟨aD.cons (aN.agg gL) (aD.one (aN.agg (cP.row kN))),aN.agg gL,fun a=>qB a.1 a.2,.frz,false⟩
theorem aID:aM aY 280 aQM:=Oc aHe rfl aH [(195,aBM),(195,SM)] ⟨KA,GV,trivial⟩ fun a=>by kernel_rfl
def fR (a:aNN):Option aNO:=
 (aK a.2.2.2.2.2.1 a.2.1).bind fun a0=>
 (aK a.2.2.2.2.2.1 a.1).bind fun a1=>
 (aK a.2.2.2.2.2.1 a.1).bind fun _=>
 (aK (bN a.2.2.2.2.2.1 a.1 a0) a.2.1).bind fun _=>
 (aK (bN (bN a.2.2.2.2.2.1 a.1 a0) a.2.1 a1) a.1).bind fun a4=>
 (aK (bN (bN a.2.2.2.2.2.1 a.1 a0) a.2.1 a1) a.2.1).bind fun a5=>
 (aK a.2.2.2.2.2.2 a4.2.2.2.1).bind fun _=>
 (aK (bN a.2.2.2.2.2.2 a4.2.2.2.1 a.1) a5.2.2.2.1).bind fun _=>
 bif a.2.2.1.length==a.2.2.1.length then
  bif a.2.2.2.1.length==a.2.2.2.1.length then
   bif a.2.2.2.2.1.length==a.2.2.2.2.1.length then
    bif ((bN (bN a.2.2.2.2.2.1 a.1 a0) a.2.1 a1).length)==a.2.2.2.2.2.1.length then
     bif ((bN (bN a.2.2.2.2.2.2 a4.2.2.2.1 a.1) a5.2.2.2.1 a.2.1).length)==a.2.2.2.2.2.2.length then
      some (a.2.2.1,a.2.2.2.1,a.2.2.2.2.1,bN (bN a.2.2.2.2.2.1 a.1 a0) a.2.1 a1,bN (bN a.2.2.2.2.2.2 a4.2.2.2.1 a.1) a5.2.2.2.1 a.2.1)
     else
      none
    else
     none
   else
    none
  else
   none
 else
  none
def FN:eH:=⟨[.i,.i,.l [.i .i64],.l [.b],.l [.i .i64],.l [.i .i64,.i .i64,.i .i64,.i .i64,.i .i64],.l [.i .i64]],[.agg [.own 0 false,.own 1 false,.own 2 false,.own 3 false,.own 4 false],.int .i64 0,.int .i64 0],[.arr [.i .i64] [],.arr [.b] [],.arr [.i .i64] [],.arr [.i .i64,.i .i64,.i .i64,.i .i64,.i .i64] [],.arr [.i .i64] []],[.l [.i .i64],.l [.b],.l [.i .i64],.l [.i .i64,.i .i64,.i .i64,.i .i64,.i .i64],.l [.i .i64]],.tup [],[.arr [.i .i64] [],.arr [.b] [],.arr [.i .i64] [],.arr [.i .i64,.i .i64,.i .i64,.i .i64,.i .i64] [],.arr [.i .i64] []],fun a=>fR a⟩
theorem vW:nB aY 279 FN:=nB.of PW (wd:=false) (cx:=(pH aH [] [] [] [])) (mK.make trivial trivial trivial) (fun a=>by kernel_rfl)
def gQ (a:((List Int)×(List Bool)×(List Int)×Nat×Nat×Int×Int×iK×(List Int))):Option NF:=
 (aK (a.2.2.2.2.2.2.2.1.take a.2.2.2.1) a.2.2.2.2.2.2.1).bind fun a0=>
 (aK (a.2.2.2.2.2.2.2.1.take a.2.2.2.1) a.2.2.2.2.2.1).bind fun a1=>
 (aK (a.2.2.2.2.2.2.2.1.take a.2.2.2.1) a.2.2.2.2.2.1).bind fun _=>
 (aK ((bN a.2.2.2.2.2.2.2.1 a.2.2.2.2.2.1 a0).take a.2.2.2.1) a.2.2.2.2.2.2.1).bind fun _=>
 (aK ((bN (bN a.2.2.2.2.2.2.2.1 a.2.2.2.2.2.1 a0) a.2.2.2.2.2.2.1 a1).take a.2.2.2.1) a.2.2.2.2.2.1).bind fun a4=>
 (aK ((bN (bN a.2.2.2.2.2.2.2.1 a.2.2.2.2.2.1 a0) a.2.2.2.2.2.2.1 a1).take a.2.2.2.1) a.2.2.2.2.2.2.1).bind fun a5=>
 (aK a.2.2.2.2.2.2.2.2 a4.2.2.2.1).bind fun _=>
 (aK (bN a.2.2.2.2.2.2.2.2 a4.2.2.2.1 a.2.2.2.2.2.1) a5.2.2.2.1).bind fun _=>
 bif ((bN (bN a.2.2.2.2.2.2.2.1 a.2.2.2.2.2.1 a0) a.2.2.2.2.2.2.1 a1).length)==a.2.2.2.2.2.2.2.1.length then
  bif ((bN (bN a.2.2.2.2.2.2.2.2 a4.2.2.2.1 a.2.2.2.2.2.1) a5.2.2.2.1 a.2.2.2.2.2.2.1).length)==a.2.2.2.2.2.2.2.2.length then
   some (bN (bN a.2.2.2.2.2.2.2.1 a.2.2.2.2.2.1 a0) a.2.2.2.2.2.2.1 a1,bN (bN a.2.2.2.2.2.2.2.2 a4.2.2.2.1 a.2.2.2.2.2.1) a5.2.2.2.1 a.2.2.2.2.2.2.1)
  else
   none
 else
  none
def FO:eH:=⟨[.l [.i .i64],.l [.b],.l [.i .i64],.n,.n,.i,.i,.l [.i .i64,.i .i64,.i .i64,.i .i64,.i .i64],.l [.i .i64]],[.agg [.sl [.i .i64] [],.sl [.b] [],.sl [.i .i64] [],.pre 0 0 0 false,.own 1 false],.int .i64 0,.int .i64 0],[.arr [.i .i64,.i .i64,.i .i64,.i .i64,.i .i64] [],.arr [.i .i64] []],[.l [.i .i64,.i .i64,.i .i64,.i .i64,.i .i64],.l [.i .i64]],.tup [],[.arr [.i .i64,.i .i64,.i .i64,.i .i64,.i .i64] [],.arr [.i .i64] []],fun a=>gQ a⟩
theorem vX:nB aY 279 FO:=nB.of PW (wd:=false) (cx:=(pH aH [] [] [] [])) (mK.make trivial trivial trivial) (fun a=>by kernel_rfl)
def hZ (c0:aHq) (s:aHr):Option (cA aHr aHt):=
 bif decide (0<s.1) then
  (aK (s.2.1.take s.2.2.2.2.2.2.1) s.1).bind fun a0=>
  (aK (s.2.1.take s.2.2.2.2.2.2.1) (aA .i64 (Int.tdiv (aA .i64 (s.1-1)) 2))).bind fun a1=>
  (eN a0 a1).bind fun b2=>
  bif b2 then
   (gQ (s.2.2.2.1,s.2.2.2.2.1,s.2.2.2.2.2.1,s.2.2.2.2.2.2.1,s.2.2.2.2.2.2.2,s.1,aA .i64 (Int.tdiv (aA .i64 (s.1-1)) 2),s.2.1,s.2.2.1)).bind fun a3=>
   some (.next (aA .i64 (Int.tdiv (aA .i64 (s.1-1)) 2),a3.1,a3.2,s.2.2.2))
  else
   bif s.2.1.length==c0.2.2.2.2.2.2.1.length then
    bif s.2.2.1.length==c0.2.2.2.2.2.2.2.length then
     some (.done (s.1,s.2.1,s.2.2.1))
    else
     none
   else
    none
 else
  bif s.2.1.length==c0.2.2.2.2.2.2.1.length then
   bif s.2.2.1.length==c0.2.2.2.2.2.2.2.length then
    some (.done (s.1,s.2.1,s.2.2.1))
   else
    none
  else
   none
def nR (a:aHq):Option aHt:=
 aJ (hZ a) (a.2.2.2.2.2.1,a.2.2.2.2.2.2.1,a.2.2.2.2.2.2.2,a.1,a.2.1,a.2.2.1,a.2.2.2.1,a.2.2.2.2.1)
def QE:eH:=⟨[.l [.i .i64],.l [.b],.l [.i .i64],.n,.n,.i,.l [.i .i64,.i .i64,.i .i64,.i .i64,.i .i64],.l [.i .i64]],[.agg [.sl [.i .i64] [],.sl [.b] [],.sl [.i .i64] [],.pre 0 0 0 false,.own 1 false],.int .i64 0],[.arr [.i .i64,.i .i64,.i .i64,.i .i64,.i .i64] [],.arr [.i .i64] []],[.i,.l [.i .i64,.i .i64,.i .i64,.i .i64,.i .i64],.l [.i .i64]],.int .i64 0,[.arr [.i .i64,.i .i64,.i .i64,.i .i64,.i .i64] [],.arr [.i .i64] []],fun a=>nR a⟩
theorem IP:nB aY 282 QE:=nB.of PX (wd:=true) (cx:=(pH aH [(158,VN)] [(279,FN),(279,FO)] [] [])) (mK.make ⟨DX,trivial⟩ ⟨vW,vX,trivial⟩ trivial) (fun a=>by kernel_rfl)
def kU (c0:aHq) (s:aHr):Option (cA aHr NF):=
 bif decide ((Int.ofNat s.2.2.2.2.2.2.1)<=(aA .i64 ((aA .i64 (2*s.1))+1))) then
  bif s.2.1.length==c0.2.2.2.2.2.2.1.length then
   bif s.2.2.1.length==c0.2.2.2.2.2.2.2.length then
    some (.done (s.2.1,s.2.2.1))
   else
    none
  else
   none
 else
  bif decide ((aA .i64 ((aA .i64 ((aA .i64 (2*s.1))+1))+1))<(Int.ofNat s.2.2.2.2.2.2.1)) then
   (aK (s.2.1.take s.2.2.2.2.2.2.1) (aA .i64 ((aA .i64 ((aA .i64 (2*s.1))+1))+1))).bind fun a0=>
   (aK (s.2.1.take s.2.2.2.2.2.2.1) (aA .i64 ((aA .i64 (2*s.1))+1))).bind fun a1=>
   (eN a0 a1).bind fun b2=>
   bif b2 then
    (aK (s.2.1.take s.2.2.2.2.2.2.1) (aA .i64 ((aA .i64 ((aA .i64 (2*s.1))+1))+1))).bind fun a3=>
    (aK (s.2.1.take s.2.2.2.2.2.2.1) s.1).bind fun a4=>
    (eN a3 a4).bind fun b5=>
    bif !b5 then
     bif s.2.1.length==c0.2.2.2.2.2.2.1.length then
      bif s.2.2.1.length==c0.2.2.2.2.2.2.2.length then
       some (.done (s.2.1,s.2.2.1))
      else
       none
     else
      none
    else
     (gQ (s.2.2.2.1,s.2.2.2.2.1,s.2.2.2.2.2.1,s.2.2.2.2.2.2.1,s.2.2.2.2.2.2.2,s.1,aA .i64 ((aA .i64 ((aA .i64 (2*s.1))+1))+1),s.2.1,s.2.2.1)).bind fun a6=>
     some (.next (aA .i64 ((aA .i64 ((aA .i64 (2*s.1))+1))+1),a6.1,a6.2,s.2.2.2))
   else
    (aK (s.2.1.take s.2.2.2.2.2.2.1) (aA .i64 ((aA .i64 (2*s.1))+1))).bind fun a7=>
    (aK (s.2.1.take s.2.2.2.2.2.2.1) s.1).bind fun a8=>
    (eN a7 a8).bind fun b9=>
    bif !b9 then
     bif s.2.1.length==c0.2.2.2.2.2.2.1.length then
      bif s.2.2.1.length==c0.2.2.2.2.2.2.2.length then
       some (.done (s.2.1,s.2.2.1))
      else
       none
     else
      none
    else
     (gQ (s.2.2.2.1,s.2.2.2.2.1,s.2.2.2.2.2.1,s.2.2.2.2.2.2.1,s.2.2.2.2.2.2.2,s.1,aA .i64 ((aA .i64 (2*s.1))+1),s.2.1,s.2.2.1)).bind fun a10=>
     some (.next (aA .i64 ((aA .i64 (2*s.1))+1),a10.1,a10.2,s.2.2.2))
  else
   (aK (s.2.1.take s.2.2.2.2.2.2.1) (aA .i64 ((aA .i64 (2*s.1))+1))).bind fun a11=>
   (aK (s.2.1.take s.2.2.2.2.2.2.1) s.1).bind fun a12=>
   (eN a11 a12).bind fun b13=>
   bif !b13 then
    bif s.2.1.length==c0.2.2.2.2.2.2.1.length then
     bif s.2.2.1.length==c0.2.2.2.2.2.2.2.length then
      some (.done (s.2.1,s.2.2.1))
     else
      none
    else
     none
   else
    (gQ (s.2.2.2.1,s.2.2.2.2.1,s.2.2.2.2.2.1,s.2.2.2.2.2.2.1,s.2.2.2.2.2.2.2,s.1,aA .i64 ((aA .i64 (2*s.1))+1),s.2.1,s.2.2.1)).bind fun a14=>
    some (.next (aA .i64 ((aA .i64 (2*s.1))+1),a14.1,a14.2,s.2.2.2))
def lG (a:aHq):Option NF:=
 aJ (kU a) (a.2.2.2.2.2.1,a.2.2.2.2.2.2.1,a.2.2.2.2.2.2.2,a.1,a.2.1,a.2.2.1,a.2.2.2.1,a.2.2.2.2.1)
def VS:eH:=⟨[.l [.i .i64],.l [.b],.l [.i .i64],.n,.n,.i,.l [.i .i64,.i .i64,.i .i64,.i .i64,.i .i64],.l [.i .i64]],[.agg [.sl [.i .i64] [],.sl [.b] [],.sl [.i .i64] [],.pre 0 0 0 false,.own 1 false],.int .i64 0],[.arr [.i .i64,.i .i64,.i .i64,.i .i64,.i .i64] [],.arr [.i .i64] []],[.l [.i .i64,.i .i64,.i .i64,.i .i64,.i .i64],.l [.i .i64]],.tup [],[.arr [.i .i64,.i .i64,.i .i64,.i .i64,.i .i64] [],.arr [.i .i64] []],fun a=>lG a⟩
theorem OG:nB aY 281 VS:=nB.of X0 (wd:=false) (cx:=(pH aH [(158,VN)] [(279,FN),(279,FO)] [] [])) (mK.make ⟨DX,trivial⟩ ⟨vW,vX,trivial⟩ trivial) (fun a=>by kernel_rfl)
def kE (p0:aG) (p1:Int×Int):Option aG:=
 (lY p0).bind fun r0=>
 (aK r0.where_ p1.1).bind fun n1=>
 bif n1 !=(aA .i64 ((Int.ofNat r0.heap.length) -1)) then
  (fR (n1,aA .i64 ((Int.ofNat r0.heap.length) -1),r0.slots.uses,r0.slots.used,r0.slots.free,r0.heap,r0.where_)).bind fun a2=>
  (jM a2.2.2.2.1 0 (aA .i64 ((Int.ofNat r0.heap.length) -1))).bind fun _=>
  (aK a2.2.2.2.2 p1.1).bind fun _=>
  (qB (aR.mk a2.1 a2.2.1 a2.2.2.1) p1).bind fun r5=>
  bif n1 !=(aA .i64 ((Int.ofNat r0.heap.length) -1)) then
   (nR (r5.uses,r5.used,r5.free,(aA .i64 ((Int.ofNat r0.heap.length) -1)).toNat,a2.2.2.2.1.length,n1,a2.2.2.2.1,bN a2.2.2.2.2 p1.1 (-1))).bind fun a6=>
   (lG (r5.uses,r5.used,r5.free,(aA .i64 ((Int.ofNat r0.heap.length) -1)).toNat,a2.2.2.2.1.length,a6)).bind fun a7=>
   some (aG.mk r5 (a7.1.take ((aA .i64 ((Int.ofNat r0.heap.length) -1)).toNat)) a7.2)
  else
   some (aG.mk r5 (a2.2.2.2.1.take ((aA .i64 ((Int.ofNat r0.heap.length) -1)).toNat)) (bN a2.2.2.2.2 p1.1 (-1)))
 else
  (jM r0.heap 0 (aA .i64 ((Int.ofNat r0.heap.length) -1))).bind fun _=>
  (aK r0.where_ p1.1).bind fun _=>
  (qB r0.slots p1).bind fun r10=>
  bif n1 !=(aA .i64 ((Int.ofNat r0.heap.length) -1)) then
   (nR (r10.uses,r10.used,r10.free,(aA .i64 ((Int.ofNat r0.heap.length) -1)).toNat,r0.heap.length,n1,r0.heap,bN r0.where_ p1.1 (-1))).bind fun a11=>
   (lG (r10.uses,r10.used,r10.free,(aA .i64 ((Int.ofNat r0.heap.length) -1)).toNat,r0.heap.length,a11)).bind fun a12=>
   some (aG.mk r10 (a12.1.take ((aA .i64 ((Int.ofNat r0.heap.length) -1)).toNat)) a12.2)
  else
   some (aG.mk r10 (r0.heap.take ((aA .i64 ((Int.ofNat r0.heap.length) -1)).toNat)) (bN r0.where_ p1.1 (-1)))
def aOq:bM:=⟨aD.cons (aN.agg dE) (aD.one (aN.agg (cP.row kN))),aN.agg dE,fun a=>kE a.1 a.2,.frz,false⟩
theorem YJ:aM aY 249 aOq:=aM.of aGY (cx:=(pH aH [(137,Z7),(137,OD),(280,aQM)] [(279,FN),(279,FO),(282,QE),(281,VS)] [] [])) rfl (mK.make ⟨GW,CU,aID,trivial⟩ ⟨vW,vX,IP,OG,trivial⟩ trivial) (fun a=>by kernel_rfl)
def wT (p0:aP) (p1:Int):Option aP:=
 (jB p0).bind fun r0=>
 (sZ p0.certs p1).bind fun r1=>
 (qA p0 p1).bind fun n2=>
 bif decide (0<=n2) then
  (aK p0.due n2).bind fun a3=>
  (kE p0.agenda a3.2).bind fun r4=>
  (jM p0.due 0 n2).bind fun l5=>
  (bR l5).bind fun l6=>
  (jM p0.due (aA .i64 (n2+1)) (Int.ofNat p0.due.length)).bind fun l7=>
  bif l7.isEmpty then
   some (aP.mk r0.now r0.field r1 r4 l6)
  else
   (bO l6 l7).bind fun l8=>
   some (aP.mk r0.now r0.field r1 r4 l8)
 else
  some (aP.mk r0.now r0.field r1 r0.agenda r0.due)
def aQN:bM:=⟨aD.cons (aN.agg bV) (aD.one (aN.int .i64)),aN.agg bV,fun a=>wT a.1 a.2,.frz,false⟩
theorem aIE:aM aY 197 aQN:=Oc aGx rfl aH [(77,c77),(77,VG),(247,aQL),(248,aOp),(249,aOq)] ⟨IJ,DS,aIC,YI,YJ,trivial⟩ fun a=>by kernel_rfl
def tB (s:(Int×bJ×bJ)):Option (cA (Int×bJ×bJ) Bool):=
 bif decide (s.1<(Int.ofNat s.2.1.length)) then
  (aK s.2.1 s.1).bind fun a0=>
  (aK s.2.2 s.1).bind fun a1=>
  bif !((a0.1==a1.1)&&((a0.2.1==a1.2.1)&&(a0.2.2==a1.2.2))) then
   some (.done false)
  else
   some (.next (aA .i64 (s.1+1),s.2))
 else
  some (.done true)
def wU (p0:Field) (p1:Field):Option Bool:=
 bif (Int.ofNat p0.points.length) !=(Int.ofNat p1.points.length) then
  some false
 else
  aJ tB (0,p0.points,p1.points)
def c21:bM:=⟨aD.cons (aN.agg cC) (aD.one (aN.agg cC)),aN.bool,fun a=>wU a.1 a.2,.pure,false⟩
theorem aB8:aM aY 21 c21:=Oc aMY rfl aH [] trivial fun a=>by kernel_rfl
def iA (c0:GU) (s:GU):Option (cA GU GU):=
 bif decide (0<s.1) then
  (aK s.2.2.2.2.1 s.1).bind fun a0=>
  (aK s.2.2.2.2.1 (aA .i64 (Int.tdiv (aA .i64 (s.1-1)) 2))).bind fun a1=>
  (eN a0 a1).bind fun b2=>
  bif b2 then
   (fR (s.1,aA .i64 (Int.tdiv (aA .i64 (s.1-1)) 2),s.2)).bind fun a3=>
   some (.next (aA .i64 (Int.tdiv (aA .i64 (s.1-1)) 2),a3))
  else
   bif s.2.1.length==c0.2.1.length then
    bif s.2.2.1.length==c0.2.2.1.length then
     bif s.2.2.2.1.length==c0.2.2.2.1.length then
      bif s.2.2.2.2.1.length==c0.2.2.2.2.1.length then
       bif s.2.2.2.2.2.length==c0.2.2.2.2.2.length then
        some (.done s)
       else
        none
      else
       none
     else
      none
    else
     none
   else
    none
 else
  bif s.2.1.length==c0.2.1.length then
   bif s.2.2.1.length==c0.2.2.1.length then
    bif s.2.2.2.1.length==c0.2.2.2.1.length then
     bif s.2.2.2.2.1.length==c0.2.2.2.2.1.length then
      bif s.2.2.2.2.2.length==c0.2.2.2.2.2.length then
       some (.done s)
      else
       none
     else
      none
    else
     none
   else
    none
  else
   none
def rD (a:GU):Option GU:=
 aJ (iA a) a
def VT:eH:=⟨[.i,.l [.i .i64],.l [.b],.l [.i .i64],.l [.i .i64,.i .i64,.i .i64,.i .i64,.i .i64],.l [.i .i64]],[.agg [.own 0 false,.own 1 false,.own 2 false,.own 3 false,.own 4 false],.int .i64 0],[.arr [.i .i64] [],.arr [.b] [],.arr [.i .i64] [],.arr [.i .i64,.i .i64,.i .i64,.i .i64,.i .i64] [],.arr [.i .i64] []],[.i,.l [.i .i64],.l [.b],.l [.i .i64],.l [.i .i64,.i .i64,.i .i64,.i .i64,.i .i64],.l [.i .i64]],.int .i64 0,[.arr [.i .i64] [],.arr [.b] [],.arr [.i .i64] [],.arr [.i .i64,.i .i64,.i .i64,.i .i64,.i .i64] [],.arr [.i .i64] []],fun a=>rD a⟩
theorem OH:nB aY 282 VT:=nB.of PX (wd:=false) (cx:=(pH aH [(158,VN)] [(279,FN),(279,FO)] [] [])) (mK.make ⟨DX,trivial⟩ ⟨vW,vX,trivial⟩ trivial) (fun a=>by kernel_rfl)
def kV (c0:GU) (s:GU):Option (cA GU aNO):=
 bif decide ((Int.ofNat s.2.2.2.2.1.length)<=(aA .i64 ((aA .i64 (2*s.1))+1))) then
  bif s.2.1.length==c0.2.1.length then
   bif s.2.2.1.length==c0.2.2.1.length then
    bif s.2.2.2.1.length==c0.2.2.2.1.length then
     bif s.2.2.2.2.1.length==c0.2.2.2.2.1.length then
      bif s.2.2.2.2.2.length==c0.2.2.2.2.2.length then
       some (.done s.2)
      else
       none
     else
      none
    else
     none
   else
    none
  else
   none
 else
  bif decide ((aA .i64 ((aA .i64 ((aA .i64 (2*s.1))+1))+1))<(Int.ofNat s.2.2.2.2.1.length)) then
   (aK s.2.2.2.2.1 (aA .i64 ((aA .i64 ((aA .i64 (2*s.1))+1))+1))).bind fun a0=>
   (aK s.2.2.2.2.1 (aA .i64 ((aA .i64 (2*s.1))+1))).bind fun a1=>
   (eN a0 a1).bind fun b2=>
   bif b2 then
    (aK s.2.2.2.2.1 (aA .i64 ((aA .i64 ((aA .i64 (2*s.1))+1))+1))).bind fun a3=>
    (aK s.2.2.2.2.1 s.1).bind fun a4=>
    (eN a3 a4).bind fun b5=>
    bif !b5 then
     bif s.2.1.length==c0.2.1.length then
      bif s.2.2.1.length==c0.2.2.1.length then
       bif s.2.2.2.1.length==c0.2.2.2.1.length then
        bif s.2.2.2.2.1.length==c0.2.2.2.2.1.length then
         bif s.2.2.2.2.2.length==c0.2.2.2.2.2.length then
          some (.done s.2)
         else
          none
        else
         none
       else
        none
      else
       none
     else
      none
    else
     (fR (s.1,aA .i64 ((aA .i64 ((aA .i64 (2*s.1))+1))+1),s.2)).bind fun a6=>
     some (.next (aA .i64 ((aA .i64 ((aA .i64 (2*s.1))+1))+1),a6))
   else
    (aK s.2.2.2.2.1 (aA .i64 ((aA .i64 (2*s.1))+1))).bind fun a7=>
    (aK s.2.2.2.2.1 s.1).bind fun a8=>
    (eN a7 a8).bind fun b9=>
    bif !b9 then
     bif s.2.1.length==c0.2.1.length then
      bif s.2.2.1.length==c0.2.2.1.length then
       bif s.2.2.2.1.length==c0.2.2.2.1.length then
        bif s.2.2.2.2.1.length==c0.2.2.2.2.1.length then
         bif s.2.2.2.2.2.length==c0.2.2.2.2.2.length then
          some (.done s.2)
         else
          none
        else
         none
       else
        none
      else
       none
     else
      none
    else
     (fR (s.1,aA .i64 ((aA .i64 (2*s.1))+1),s.2)).bind fun a10=>
     some (.next (aA .i64 ((aA .i64 (2*s.1))+1),a10))
  else
   (aK s.2.2.2.2.1 (aA .i64 ((aA .i64 (2*s.1))+1))).bind fun a11=>
   (aK s.2.2.2.2.1 s.1).bind fun a12=>
   (eN a11 a12).bind fun b13=>
   bif !b13 then
    bif s.2.1.length==c0.2.1.length then
     bif s.2.2.1.length==c0.2.2.1.length then
      bif s.2.2.2.1.length==c0.2.2.2.1.length then
       bif s.2.2.2.2.1.length==c0.2.2.2.2.1.length then
        bif s.2.2.2.2.2.length==c0.2.2.2.2.2.length then
         some (.done s.2)
        else
         none
       else
        none
      else
       none
     else
      none
    else
     none
   else
    (fR (s.1,aA .i64 ((aA .i64 (2*s.1))+1),s.2)).bind fun a14=>
    some (.next (aA .i64 ((aA .i64 (2*s.1))+1),a14))
def nZ (a:GU):Option aNO:=
 aJ (kV a) a
def aB9:eH:=⟨[.i,.l [.i .i64],.l [.b],.l [.i .i64],.l [.i .i64,.i .i64,.i .i64,.i .i64,.i .i64],.l [.i .i64]],[.agg [.own 0 false,.own 1 false,.own 2 false,.own 3 false,.own 4 false],.int .i64 0],[.arr [.i .i64] [],.arr [.b] [],.arr [.i .i64] [],.arr [.i .i64,.i .i64,.i .i64,.i .i64,.i .i64] [],.arr [.i .i64] []],[.l [.i .i64],.l [.b],.l [.i .i64],.l [.i .i64,.i .i64,.i .i64,.i .i64,.i .i64],.l [.i .i64]],.tup [],[.arr [.i .i64] [],.arr [.b] [],.arr [.i .i64] [],.arr [.i .i64,.i .i64,.i .i64,.i .i64,.i .i64] [],.arr [.i .i64] []],fun a=>nZ a⟩
theorem aAc:nB aY 281 aB9:=nB.of X0 (wd:=false) (cx:=(pH aH [(158,VN)] [(279,FN),(279,FO)] [] [])) (mK.make ⟨DX,trivial⟩ ⟨vW,vX,trivial⟩ trivial) (fun a=>by kernel_rfl)
end
end
end Go.Proofs.YtfejhjllooomlaaGreat
