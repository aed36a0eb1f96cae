/- Plain functions for what the functions of the seat compute. Printed by a program. -/
import Derived.Test.YtfejhjllooomlaaGreatBVm3
import Derived.Test.YtfejhjllooomlaaGreatBQXT
set_option maxRecDepth 100000
namespace Go.Proofs.YtfejhjllooomlaaGreat
open Go.Vm
noncomputable section
theorem Oc {f:FuncId} {x:aQ} {α β:Type} {args:aD α} {res:aN β} {kd:Kd} {fn:α->Option β} {ow:Bool} (hf:tab f=some (.code x)) (ho:aDn kd ow=true) (lp:Option Nat) (l:List (Nat×bL)) (h:FJ tab l) (e: ∀a,aJF (pG lp l [] [] []) x args res kd a=fn a):aM tab f ⟨args,res,fn,kd,ow⟩:=aM.of hf (cx:=pG lp l [] [] []) ho (mK.make h trivial trivial) e
abbrev eF:List PT:=[.i .i64,.i .i64,.i .i64]
abbrev ki:List PT:=[.i .i64]
abbrev kb:List PT:=[.b]
abbrev lW:List PT:=[.i .i64,.i .i64,.i .i64,.i .i64,.i .i64]
abbrev kM:List PT:=[.i .i64,.i .i64]
abbrev CR:List PT:=[.b,.i .u64,.i .u64]
abbrev aPt:List PT:=[.i .i64,.i .i64,.i .i64,.i .i64]
abbrev kiu:List PT:=[.i .i64,.i .u64]
structure Field where
 points:List (Int×Int×Int)
def cB:cO Field:=cO.iso (cO.sl eF) (fun p=>⟨p⟩) (fun c=>c.points) (fun _=>rfl)
structure aR where
 uses:List Int
 used:List Bool
 free:List Int
def gL:cO aR:=cO.iso (cO.prod (cO.sl ki) (cO.prod (cO.sl kb) (cO.sl ki))) (fun p=>⟨p.1,p.2.1,p.2.2⟩) (fun c=>(c.uses,c.used,c.free)) (fun _=>rfl)
structure aG where
 slots:aR
 heap:List (Int×Int×Int×Int×Int)
 where_:List Int
def dD:cO aG:=cO.iso (cO.prod gL (cO.prod (cO.sl lW) (cO.sl ki))) (fun p=>⟨p.1,p.2.1,p.2.2⟩) (fun c=>(c.slots,c.heap,c.where_)) (fun _=>rfl)
structure aU where
 next_:Int
 list:List (Int×Int×Int)
def gT:cO aU:=cO.iso (cO.prod (cO.int .i64) (cO.sl eF)) (fun p=>⟨p.1,p.2⟩) (fun c=>(c.next_,c.list)) (fun _=>rfl)
structure aP where
 now:Int×Int
 field:Field
 certs:aU
 agenda:aG
 due:List (Int×Int×Int)
def bU:cO aP:=cO.iso (cO.prod (cO.row kM) (cO.prod cB (cO.prod gT (cO.prod dD (cO.sl eF))))) (fun p=>⟨p.1,p.2.1,p.2.2.1,p.2.2.2.1,p.2.2.2.2⟩) (fun c=>(c.now,c.field,c.certs,c.agenda,c.due)) (fun _=>rfl)
structure cC where
 clock:aP
 heap:List Int
def gC:cO cC:=cO.iso (cO.prod bU (cO.sl ki)) (fun p=>⟨p.1,p.2⟩) (fun c=>(c.clock,c.heap)) (fun _=>rfl)
theorem wJ:aM tab 173 (bL.clone kb):=aM.clone aGq rfl
theorem aBN:aM tab 275 (bL.add64):=aM.add64 aHl
theorem AZ:aM tab 91 (bL.clone eF):=aM.clone aNN rfl
theorem qM:aM tab 64 (bL.clone ki):=aM.clone aNx rfl
theorem zR:aM tab 170 (bL.clone eF):=aM.clone aGn rfl
theorem GT:aM tab 171 (bL.clone eF):=aM.clone aGo rfl
theorem wK:aM tab 172 (bL.clone lW):=aM.clone aGp rfl
theorem SP:aM tab 290 (bL.clone ki):=aM.clone aHt rfl
section
abbrev iM:=List (Int×Int×Int×Int×Int)
abbrev bI:=List (Int×Int×Int)
abbrev yO:=List (Int×Int)
abbrev aAc:=yO×yO×Int×Int×Int×Int×bI×Int×bI×(List Int)×(List Bool)×(List Int)×iM×(List Int)×bI×bI×Int×Int×Int
abbrev aPu:=cA aAc (aP×Int)
abbrev Zt3:=cA aAc aPu
abbrev Zt5:=bI×Int×Int×Int×Int×bI×Int×bI×(List Int)×(List Bool)×(List Int)×iM×(List Int)×bI×bI×Int×Int×Int×Int×Int×Int×bI×(List Int)×(List Bool)×(List Int)×iM×(List Int)×bI×bI
abbrev Zt9:=Int×Int×Int×bI×Int×bI×(List Int)×(List Bool)×(List Int)×iM×(List Int)×bI×(List Int)×Int×Int×Int×Int×Int×Int×bI×(List Int)×(List Int)×bI×Int×Int
abbrev aPv:=yO×bI×Int×Int×Int×Int×bI×Int×bI×(List Int)×(List Bool)×(List Int)×iM×(List Int)×bI×bI×Int×Int×Int
abbrev aPw:=cA aPv (aP×Int)
abbrev aPx:=bI×Int×Int×Int×Int×bI×Int×bI×(List Int)×(List Bool)×(List Int)×iM×(List Int)×bI×bI×Int×Int×Int
abbrev aPy:=cA aPx (aP×Int)
abbrev aPz:=yO×bI×Int×Int×Int×Int×bI×Int×bI×(List Int)×(List Bool)×(List Int)×iM×(List Int)×bI×(List Int)
abbrev aPA:=bI×bI×Int×Int×Int×Int×bI×Int×bI×(List Int)×(List Bool)×(List Int)×iM×(List Int)×bI
abbrev aPB:=bI×Int×Int×Int×Int×bI×Int×bI×(List Int)×(List Bool)×(List Int)×iM×(List Int)×bI×(List Int)
abbrev aPC:=cA aPB Int
abbrev aPD:=yO×Int×Int×Int×Int×bI×Int×bI×(List Int)×(List Bool)×(List Int)×iM×(List Int)×bI×Int×Int×Int
abbrev aHv:=Int×Int×Int×Int×bI×Int×bI×(List Int)×(List Bool)×(List Int)×iM×(List Int)×bI×(List Int)
abbrev aPE:=cA aHv Int
abbrev aPF:=Int×Int×Int×bI×Int×bI×(List Int)×(List Bool)×(List Int)×iM×(List Int)×bI×(List Int)
abbrev aPG:=cA aPF Int
abbrev aPH:=yO×Int×Int×Int×bI×Int×bI×(List Int)×(List Bool)×(List Int)×iM×(List Int)×bI
abbrev aNV:=Int×Int×Int×Int×bI×Int×bI×(List Int)×(List Bool)×(List Int)×iM×(List Int)×bI
abbrev aPI:=cA aNV Int
abbrev aPJ:=Int×iM×(List Int)×(List Int)×(List Bool)×(List Int)×Nat×Nat×Int×Int×Int×Int×Int
abbrev NK:=iM×(List Int)
abbrev aPK:=cA aPJ NK
abbrev aPL:=Int×iM×(List Int)×(List Int)×(List Bool)×(List Int)×Int×Int×Int×Int×Int
abbrev aPM:=cA aPL NK
abbrev aPN:=iM×Int×Int×(List Int)×(List Bool)×(List Int)×iM×(List Int)×(List (List Int))
abbrev aPO:=Int×Int×iM×(List Int)×(List Int)×(List Bool)×(List Int)×Nat×Nat×Int×Int×Int×Int×Int
abbrev aHw:=(List Int)×(List Bool)×(List Int)×Nat×Nat×Int×Int×Int×Int×Int×Int×iM×(List Int)
abbrev aPP:=Int×Int×iM×(List Int)×(List Int)×(List Bool)×(List Int)×Int×Int×Int×Int×Int
abbrev aPQ:=Int×Int×(List Int)×(List Bool)×(List Int)×iM×(List Int)×Int×Int×Int×Int×Int
abbrev aHx:=(List Int)×(List Bool)×(List Int)×Int×Int×Int×Int×Int×Int×iM×(List Int)
abbrev aPR:=(List Int)×Int×Int×(List Int)×(List Bool)×(List Int)×iM×(List Int)
abbrev aPS:=cA aPR Int
abbrev aHy:=(List Int)×(List Bool)×(List Int)×Nat×Nat×Int×iM×(List Int)
abbrev aHz:=Int×iM×(List Int)×(List Int)×(List Bool)×(List Int)×Nat×Nat
abbrev GU:=Int×(List Int)×(List Bool)×(List Int)×iM×(List Int)
abbrev aNW:=cA GU Int
abbrev aNX:=Int×Int×(List Int)×(List Bool)×(List Int)×iM×(List Int)
abbrev aPT:=Int×bI×Int×Int×Int×bI×(List (List Int))
abbrev aPU:=(List Int)×Int×Int×(List Int)×(List Bool)×(List Int)×Int×(List Bool)
abbrev aPV:=cA aPU Int
abbrev aNY:=(List Int)×(List Bool)×(List Int)×iM×(List Int)
abbrev aPW:=Bool×Int×bI×Int×Int×Int×bI
abbrev aPX:=Int×Int×Int×bI×Int×Int×bI
abbrev P3:=bI×Int×Int×Int×Int
abbrev aHA:=cA P3 (Int×Bool)
abbrev aBO:=bI×Int×Int×bI
abbrev aBP:=Int×Int×(List Int)×(List Bool)×(List Int)×(List Bool)
abbrev aHB:=Int×iM×(List Int)
abbrev aHC:=Int×bI×Int×Int×(List Int)
abbrev aBQ:=Int×Int×bI
abbrev aNZ:=cA aBQ Int
abbrev aHD:=(List Int)×Int×yO
abbrev aBR:=Int×bI
variable [LP]
def tX (p0:Field):Option Bool:=
 bif decide (16<(Int.ofNat p0.points.length)) then
  bif decide ((Int.ofNat p0.points.length)<64) then
   some true
  else
   some (decide (70<(Int.ofNat p0.points.length)))
 else
  some (decide (70<(Int.ofNat p0.points.length)))
def c94:bL:=⟨aD.one (aN.agg cB),aN.bool,fun a=>tX a,.pure,false⟩
theorem aN0:aM tab 94 c94:=Oc aNP rfl aH [] trivial fun a=>by kernel_rfl
def CS (p0:aR):Option Bool:=
 bif decide (210<(Int.ofNat p0.uses.length)) then
  some true
 else
  bif decide (210<(Int.ofNat p0.used.length)) then
   some true
  else
   some (decide (210<(Int.ofNat p0.free.length)))
def aPY:bL:=⟨aD.one (aN.agg gL),aN.bool,fun a=>CS a,.pure,false⟩
theorem aHE:aM tab 154 aPY:=Oc aF8 rfl aH [] trivial fun a=>by kernel_rfl
def CT (p0:aG):Option Bool:=
 (CS p0.slots).bind fun b0=>
 bif b0 then
  some true
 else
  bif decide (210<(Int.ofNat p0.heap.length)) then
   some true
  else
   some (decide (210<(Int.ofNat p0.where_.length)))
def c95:bL:=⟨aD.one (aN.agg dD),aN.bool,fun a=>CT a,.pure,false⟩
theorem aN1:aM tab 95 c95:=Oc aNQ rfl aH [(154,aPY)] ⟨aHE,trivial⟩ fun a=>by kernel_rfl
def tY (p0:aP):Option Bool:=
 bif decide (40<(Int.ofNat p0.certs.list.length)) then
  some true
 else
  bif decide (40<(Int.ofNat p0.due.length)) then
   some true
  else
   (tX p0.field).bind fun b0=>
   bif b0 then
    some true
   else
    (CT p0.agenda).bind fun b1=>
    some b1
def c52:bL:=⟨aD.one (aN.agg bU),aN.bool,fun a=>tY a,.pure,false⟩
theorem aN2:aM tab 52 c52:=Oc aNo rfl aH [(94,c94),(95,c95)] ⟨aN0,aN1,trivial⟩ fun a=>by kernel_rfl
def tZ (p0:cC):Option Bool:=
 (tY p0.clock).bind fun b0=>
 bif b0 then
  some true
 else
  some (decide (70<(Int.ofNat p0.heap.length)))
def c11:bL:=⟨aD.one (aN.agg gC),aN.bool,fun a=>tZ a,.pure,false⟩
theorem aN3:aM tab 11 c11:=Oc aM3 rfl aH [(52,c52)] ⟨aN2,trivial⟩ fun a=>by kernel_rfl
def lX (p0:Field):Option Field:=
 (bR p0.points).bind fun l0=>
 some (Field.mk l0)
def c86:bL:=⟨aD.one (aN.agg cB),aN.agg cB,fun a=>lX a,.own,true⟩
def aBS:bL:=⟨aD.one (aN.agg cB),aN.agg cB,fun a=>lX a,.frz,false⟩
theorem P4:aM tab 86 c86:=Oc aBM rfl aH [] trivial fun a=>by kernel_rfl
theorem KC:aM tab 86 aBS:=Oc aBM rfl aH [] trivial fun a=>by kernel_rfl
def pI (p0:aU):Option aU:=
 (bR p0.list).bind fun l0=>
 some (aU.mk p0.next_ l0)
def aHF:bL:=⟨aD.one (aN.agg gT),aN.agg gT,fun a=>pI a,.own,true⟩
def X7:bL:=⟨aD.one (aN.agg gT),aN.agg gT,fun a=>pI a,.frz,false⟩
theorem P5:aM tab 136 aHF:=Oc XU rfl aH [] trivial fun a=>by kernel_rfl
theorem ME:aM tab 136 X7:=Oc XU rfl aH [] trivial fun a=>by kernel_rfl
def nJ (p0:aR):Option aR:=
 (bR p0.uses).bind fun l0=>
 (bR p0.used).bind fun l1=>
 (bR p0.free).bind fun l2=>
 some (aR.mk l0 l1 l2)
def aBT:bL:=⟨aD.one (aN.agg gL),aN.agg gL,fun a=>nJ a,.own,true⟩
def SQ:bL:=⟨aD.one (aN.agg gL),aN.agg gL,fun a=>nJ a,.frz,false⟩
theorem KD:aM tab 195 aBT:=Oc X1 rfl aH [] trivial fun a=>by kernel_rfl
theorem GV:aM tab 195 SQ:=Oc X1 rfl aH [] trivial fun a=>by kernel_rfl
def lY (p0:aG):Option aG:=
 (nJ p0.slots).bind fun r0=>
 (bR p0.heap).bind fun l1=>
 (bR p0.where_).bind fun l2=>
 some (aG.mk r0 l1 l2)
def aAd:bL:=⟨aD.one (aN.agg dD),aN.agg dD,fun a=>lY a,.own,true⟩
def OI:bL:=⟨aD.one (aN.agg dD),aN.agg dD,fun a=>lY a,.frz,false⟩
theorem GW:aM tab 137 aAd:=Oc XV rfl aH [(195,aBT),(195,SQ)] ⟨KD,GV,trivial⟩ fun a=>by kernel_rfl
theorem CU:aM tab 137 OI:=Oc XV rfl aH [(195,aBT),(195,SQ)] ⟨KD,GV,trivial⟩ fun a=>by kernel_rfl
def jD (p0:aP):Option aP:=
 (lX p0.field).bind fun r0=>
 (pI p0.certs).bind fun r1=>
 (lY p0.agenda).bind fun r2=>
 (bR p0.due).bind fun l3=>
 some (aP.mk p0.now r0 r1 r2 l3)
def c77:bL:=⟨aD.one (aN.agg bU),aN.agg bU,fun a=>jD a,.own,true⟩
def VK:bL:=⟨aD.one (aN.agg bU),aN.agg bU,fun a=>jD a,.frz,false⟩
theorem IJ:aM tab 77 c77:=Oc aBJ rfl aH [(86,c86),(86,aBS),(136,aHF),(136,X7),(137,aAd),(137,OI)] ⟨P4,KC,P5,ME,GW,CU,trivial⟩ fun a=>by kernel_rfl
theorem DS:aM tab 77 VK:=Oc aBJ rfl aH [(86,c86),(86,aBS),(136,aHF),(136,X7),(137,aAd),(137,OI)] ⟨P4,KC,P5,ME,GW,CU,trivial⟩ fun a=>by kernel_rfl
def wL (p0:cC):Option cC:=
 (jD p0.clock).bind fun r0=>
 (bR p0.heap).bind fun l1=>
 some (cC.mk r0 l1)
def c31:bL:=⟨aD.one (aN.agg gC),aN.agg gC,fun a=>wL a,.own,true⟩
def aP0:bL:=⟨aD.one (aN.agg gC),aN.agg gC,fun a=>wL a,.frz,false⟩
theorem aN5:aM tab 31 c31:=Oc aBH rfl aH [(77,c77),(77,VK)] ⟨IJ,DS,trivial⟩ fun a=>by kernel_rfl
theorem aHG:aM tab 31 aP0:=Oc aBH rfl aH [(77,c77),(77,VK)] ⟨IJ,DS,trivial⟩ fun a=>by kernel_rfl
def mQ (p0:Int):Option Int:=
 bif decide (p0<0) then
  some (aA .u64 (0- (aA .u64 p0)))
 else
  some (aA .u64 p0)
def aHH:bL:=⟨aD.one (aN.int .i64),aN.int .u64,fun a=>mQ a,.pure,false⟩
theorem P6:aM tab 108 aHH:=Oc aFL rfl aH [] trivial fun a=>by kernel_rfl
def vI (s:(Int×Int)):Option (cA (Int×Int) Int):=
 bif decide (0<s.2) then
  bif s.2==0 then
   none
  else
   some (.next (s.2,Int.tmod s.1 s.2))
 else
  some (.done s.1)
def zS (p0:Int) (p1:Int):Option Int:=
 aJ vI (p0,p1)
def aN6:bL:=⟨aD.cons (aN.int .u64) (aD.one (aN.int .u64)),aN.int .u64,fun a=>zS a.1 a.2,.pure,false⟩
theorem X8:aM tab 107 aN6:=Oc aFK rfl aH [] trivial fun a=>by kernel_rfl
def iV (p0:Int×Int):Option Int:=
 bif decide (p0.2<1) then
  some 8
 else
  bif p0.1==(-9223372036854775808) then
   some 8
  else
   (mQ p0.1).bind fun n0=>
   (zS (aA .u64 p0.2) n0).bind fun n1=>
   bif decide (1<n1) then
    some 8
   else
    some 0
def c60:bL:=⟨aD.one (aN.agg (cO.row kM)),aN.int .i64,fun a=>iV a,.pure,false⟩
theorem IK:aM tab 60 c60:=Oc aNv rfl aH [(108,aHH),(107,aN6)] ⟨P6,X8,trivial⟩ fun a=>by kernel_rfl
def qN (p0:Int):Option Bool:=
 bif decide (p0<(-1048576)) then
  some true
 else
  some (decide (1048576<p0))
def aP1:bL:=⟨aD.one (aN.int .i64),aN.bool,fun a=>qN a,.pure,false⟩
theorem aHI:aM tab 148 aP1:=Oc aF5 rfl aH [] trivial fun a=>by kernel_rfl
def jW (p0:Int×Int×Int):Option Int:=
 bif decide (p0.1<0) then
  some 8
 else
  bif decide (65535<p0.1) then
   some 8
  else
   (qN p0.2.1).bind fun b0=>
   bif b0 then
    some 8
   else
    (qN p0.2.2).bind fun b1=>
    bif b1 then
     some 8
    else
     some 0
def c88:bL:=⟨aD.one (aN.agg (cO.row eF)),aN.int .i64,fun a=>jW a,.pure,false⟩
theorem P7:aM tab 88 c88:=Oc aNK rfl aH [(148,aP1)] ⟨aHI,trivial⟩ fun a=>by kernel_rfl
def jE (s:aBO):Option (cA aBO (cA aBO Int)):=
 bif decide (s.2.2.1<s.2.1) then
  (aK s.1 s.2.2.1).bind fun a0=>
  bif decide (0<s.2.2.1) then
   (aK s.2.2.2 (aA .i64 (s.2.2.1-1))).bind fun a1=>
   bif decide (a0.1<=a1.1) then
    some (.done (.done 32))
   else
    some (.next (s.1,s.2.1,aA .i64 (s.2.2.1+1),s.2.2.2))
  else
   some (.next (s.1,s.2.1,aA .i64 (s.2.2.1+1),s.2.2.2))
 else
  some (.done (.done 0))
def nK (s:aBO):Option (cA aBO Int):=
 bif decide (s.2.2.1<s.2.1) then
  (aK s.1 s.2.2.1).bind fun a0=>
  (jW a0).bind fun n1=>
  bif n1 !=0 then
   some (.done n1)
  else
   some (.next (s.1,s.2.1,aA .i64 (s.2.2.1+1),s.2.2.2))
 else
  aJ jE (s.2.2.2,Int.ofNat s.2.2.2.length,0,s.2.2.2)
def dS (p0:Field):Option Int:=
 bif decide (64<(Int.ofNat p0.points.length)) then
  some 4
 else
  aJ nK (p0.points,Int.ofNat p0.points.length,0,p0.points)
def c87:bL:=⟨aD.one (aN.agg cB),aN.int .i64,fun a=>dS a,.pure,false⟩
theorem IL:aM tab 87 c87:=Oc aNJ rfl aH [(88,c88)] ⟨P7,trivial⟩ fun a=>by kernel_rfl
def wM (p0:Int×Int):Option Bool:=
 bif decide (0<=(if p0.2<p0.1 then p0.2 else p0.1)) then
  bif decide ((if p0.2>p0.1 then p0.2 else p0.1)<=65535) then
   some (p0.1 !=p0.2)
  else
   some false
 else
  some false
def aN9:bL:=⟨aD.one (aN.agg (cO.row kM)),aN.bool,fun a=>wM a,.pure,false⟩
theorem X9:aM tab 206 aN9:=Oc aGK rfl aH [] trivial fun a=>by kernel_rfl
def sO (s:aPT):Option (cA aPT Int):=
 bif decide (s.2.2.2.1<s.2.2.1) then
  (aK s.2.1 s.2.2.2.1).bind fun a0=>
  (wM a0.2).bind fun b1=>
  bif !b1 then
   some (.done 8)
  else
   (RY s.2.2.2.2.2.2 [a0.2.1,a0.2.2]).bind fun b2=>
   bif b2 then
    some (.done 8)
   else
    bif decide (a0.1<=s.1) then
     some (.done 8)
    else
     bif decide (s.2.2.2.2.1<=a0.1) then
      some (.done 8)
     else
      (RZ s.2.2.2.2.2.2 [a0.2.1,a0.2.2]).bind fun l3=>
      some (.next (a0.1,s.2.1,s.2.2.1,aA .i64 (s.2.2.2.1+1),s.2.2.2.2.1,s.2.2.2.2.2.1,l3))
 else
  some (.done 0)
def rV (p0:aU):Option Int:=
 bif decide (200<(Int.ofNat p0.list.length)) then
  some 8
 else
  bif decide (p0.next_<0) then
   some 8
  else
   bif decide (1000000<p0.next_) then
    some 8
   else
    aJ sO (-1,p0.list,Int.ofNat p0.list.length,0,p0.next_,p0.list,[])
def aHJ:bL:=⟨aD.one (aN.agg gT),aN.int .i64,fun a=>rV a,.pure,false⟩
theorem P8:aM tab 161 aHJ:=Oc aGf rfl aH [(206,aN9)] ⟨X9,trivial⟩ fun a=>by kernel_rfl
def gY (s:((List Bool)×Bool×Int×Int)):Option (cA ((List Bool)×Bool×Int×Int) Int):=
 bif decide (s.2.2.2<s.2.2.1) then
  (aK s.1 s.2.2.2).bind fun b0=>
  bif s.2.1==b0 then
   some (.done s.2.2.2)
  else
   some (.next (s.1,s.2.1,s.2.2.1,aA .i64 (s.2.2.2+1)))
 else
  some (.done (-1))
def qO (p0:List Bool) (p1:Bool):Option Int:=
 aJ gY (p0,p1,Int.ofNat p0.length,0)
def aP3:bL:=⟨aD.cons (aN.sl kb) (aD.one aN.bool),aN.int .i64,fun a=>qO a.1 a.2,.pure,false⟩
theorem aHK:aM tab 287 aP3:=Oc aHq rfl aH [] trivial fun a=>by kernel_rfl
def eI (p0:List Bool) (p1:Bool):Option Bool:=
 (qO p0 p1).bind fun n0=>
 some (decide (0<=n0))
def aP4:bL:=⟨aD.cons (aN.sl kb) (aD.one aN.bool),aN.bool,fun a=>eI a.1 a.2,.pure,false⟩
theorem aHL:aM tab 260 aP4:=Oc aHe rfl aH [(287,aP3)] ⟨aHK,trivial⟩ fun a=>by kernel_rfl
def gU (s:((List Int)×Int×Int×(List Int)×(List Bool)×(List Int))):Option (cA ((List Int)×Int×Int×(List Int)×(List Bool)×(List Int)) aPV):=
 bif decide (s.2.2.1<s.2.1) then
  (aK s.1 s.2.2.1).bind fun n0=>
  bif decide (n0<0) then
   some (.done (.done 8))
  else
   bif decide (1000000<n0) then
    some (.done (.done 8))
   else
    bif n0==0 then
     (aK s.2.2.2.2.1 s.2.2.1).bind fun b1=>
     bif b1 then
      some (.done (.done 8))
     else
      some (.next (s.1,s.2.1,aA .i64 (s.2.2.1+1),s.2.2.2))
    else
     some (.next (s.1,s.2.1,aA .i64 (s.2.2.1+1),s.2.2.2))
 else
  some (.done (.done 0))
def sP (c0:(List Bool)) (s:aPU):Option aPV:=
 bif decide (s.2.2.1<s.2.1) then
  (aK s.1 s.2.2.1).bind fun n0=>
  bif decide (n0<0) then
   bif s.2.2.2.2.2.2.2.length==s.2.2.2.2.2.2.2.length then
    bif s.2.2.2.2.2.2.2.length==c0.length then
     bif s.2.2.2.2.2.2.2.length==c0.length then
      bif decide (0<=s.2.2.1) then
       some (.done 8)
      else
       (eI s.2.2.2.2.2.2.2 false).bind fun b1=>
       bif b1 then
        some (.done 8)
       else
        aJ gU (s.2.2.2.1,Int.ofNat s.2.2.2.1.length,0,s.2.2.2.1,s.2.2.2.2.1,s.2.2.2.2.2.1)
     else
      none
    else
     none
   else
    none
  else
   bif decide (s.2.2.2.2.2.2.1<=n0) then
    bif s.2.2.2.2.2.2.2.length==s.2.2.2.2.2.2.2.length then
     bif s.2.2.2.2.2.2.2.length==c0.length then
      bif s.2.2.2.2.2.2.2.length==c0.length then
       bif decide (0<=s.2.2.1) then
        some (.done 8)
       else
        (eI s.2.2.2.2.2.2.2 false).bind fun b2=>
        bif b2 then
         some (.done 8)
        else
         aJ gU (s.2.2.2.1,Int.ofNat s.2.2.2.1.length,0,s.2.2.2.1,s.2.2.2.2.1,s.2.2.2.2.2.1)
      else
       none
     else
      none
    else
     none
   else
    (aK s.2.2.2.2.2.2.2 n0).bind fun b3=>
    bif b3 then
     bif s.2.2.2.2.2.2.2.length==s.2.2.2.2.2.2.2.length then
      bif s.2.2.2.2.2.2.2.length==c0.length then
       bif s.2.2.2.2.2.2.2.length==c0.length then
        bif decide (0<=s.2.2.1) then
         some (.done 8)
        else
         (eI s.2.2.2.2.2.2.2 false).bind fun b4=>
         bif b4 then
          some (.done 8)
         else
          aJ gU (s.2.2.2.1,Int.ofNat s.2.2.2.1.length,0,s.2.2.2.1,s.2.2.2.2.1,s.2.2.2.2.2.1)
       else
        none
      else
       none
     else
      none
    else
     (aK s.2.2.2.2.2.2.2 n0).bind fun _=>
     bif ((bM s.2.2.2.2.2.2.2 n0 true).length)==s.2.2.2.2.2.2.2.length then
      some (.next (s.1,s.2.1,aA .i64 (s.2.2.1+1),s.2.2.2.1,s.2.2.2.2.1,s.2.2.2.2.2.1,s.2.2.2.2.2.2.1,bM s.2.2.2.2.2.2.2 n0 true))
     else
      none
 else
  bif s.2.2.2.2.2.2.2.length==c0.length then
   bif s.2.2.2.2.2.2.2.length==c0.length then
    (eI s.2.2.2.2.2.2.2 false).bind fun b6=>
    bif b6 then
     some (.done 8)
    else
     aJ gU (s.2.2.2.1,Int.ofNat s.2.2.2.1.length,0,s.2.2.2.1,s.2.2.2.2.1,s.2.2.2.2.2.1)
   else
    none
  else
   none
def rW (p0:aR):Option Int:=
 bif decide ((Int.ofNat p0.uses.length)<1) then
  some 8
 else
  bif decide (200<(Int.ofNat p0.uses.length)) then
   some 8
  else
   bif (Int.ofNat p0.used.length) !=(Int.ofNat p0.uses.length) then
    some 8
   else
    (bR p0.used).bind fun l0=>
    aJ (sP l0) (p0.free,Int.ofNat p0.free.length,0,p0.uses,p0.used,p0.free,Int.ofNat p0.uses.length,l0)
def aHM:bL:=⟨aD.one (aN.agg gL),aN.int .i64,fun a=>rW a,.pure,false⟩
theorem P9:aM tab 207 aHM:=aM.of aGL (cx:=(pG aH [(173,bL.clone kb),(260,aP4)] [] [(258,aE7),(286,aFq),(259,aE9)] [])) rfl (mK.make ⟨wJ,aHL,trivial⟩ trivial ⟨aHc,aHp,aHd,trivial⟩) (fun a=>by kernel_rfl)
def A0 (p0:Int×Int) (p1:Int×Int):Option Int:=
 (iV p0).bind fun n0=>
 (iV p1).bind fun n1=>
 some (if n1>n0 then n1 else n0)
def aP5:bL:=⟨aD.cons (aN.agg (cO.row kM)) (aD.one (aN.agg (cO.row kM))),aN.int .i64,fun a=>A0 a.1 a.2,.pure,false⟩
theorem aHN:aM tab 109 aP5:=Oc aFM rfl aH [(60,c60)] ⟨IK,trivial⟩ fun a=>by kernel_rfl
def oW (p0:Int):Option Bool:=
 some (p0 !=p0)
def aP6:bL:=⟨aD.one (aN.int .i64),aN.bool,fun a=>oW a,.pure,false⟩
theorem aHO:aM tab 165 aP6:=Oc aGj rfl aH [] trivial fun a=>by kernel_rfl
def jX (p0:Int) (p1:Int):Option Int:=
 (oW p0).bind fun b0=>
 (oW p1).bind fun b1=>
 bif b0 then
  bif b1 then
   some 0
  else
   some (-1)
 else
  bif b1 then
   some 1
  else
   bif decide (p0<p1) then
    some (-1)
   else
    bif decide (p1<p0) then
     some 1
    else
     some 0
def aOa:bL:=⟨aD.cons (aN.int .i64) (aD.one (aN.int .i64)),aN.int .i64,fun a=>jX a.1 a.2,.pure,false⟩
theorem YA:aM tab 110 aOa:=Oc aFN rfl aH [(165,aP6)] ⟨aHO,trivial⟩ fun a=>by kernel_rfl
def jP (p0:Int) (p1:Int):Option (Int×Int):=
 some (aA .u64 ((aA .u64 ((aA .u64 ((tR .u64 p0 32)*(tR .u64 p1 32)))+(tR .u64 (aA .u64 ((aA .u64 ((tR .u64 p0 32)*(J0 .u64 p1 4294967295)))+(tR .u64 (aA .u64 ((J0 .u64 p0 4294967295)*(J0 .u64 p1 4294967295))) 32))) 32)))+(tR .u64 (aA .u64 ((J0 .u64 (aA .u64 ((aA .u64 ((tR .u64 p0 32)*(J0 .u64 p1 4294967295)))+(tR .u64 (aA .u64 ((J0 .u64 p0 4294967295)*(J0 .u64 p1 4294967295))) 32))) 4294967295)+(aA .u64 ((J0 .u64 p0 4294967295)*(tR .u64 p1 32))))) 32)),aA .u64 (p0*p1))
def aOb:bL:=⟨aD.cons (aN.int .u64) (aD.one (aN.int .u64)),aN.tup (aD.cons (aN.int .u64) (aD.one (aN.int .u64))),fun a=>jP a.1 a.2,.pure,false⟩
theorem YB:aM tab 167 aOb:=Oc aGl rfl aH [] trivial fun a=>by kernel_rfl
def uA (p0:Int) (p1:Int):Option (Bool×Int×Int):=
 (mQ p0).bind fun n0=>
 (mQ p1).bind fun n1=>
 (jP n0 n1).bind fun a2=>
 some (!((decide (p0<0))==(decide (p1<0))),a2)
def aP7:bL:=⟨aD.cons (aN.int .i64) (aD.one (aN.int .i64)),aN.agg (cO.row CR),fun a=>uA a.1 a.2,.pure,false⟩
theorem aHP:aM tab 112 aP7:=Oc aFP rfl aH [(108,aHH),(167,aOb)] ⟨P6,YB,trivial⟩ fun a=>by kernel_rfl
def nZ (p0:Int):Option Bool:=
 some (p0 !=p0)
def aP8:bL:=⟨aD.one (aN.int .u64),aN.bool,fun a=>nZ a,.pure,false⟩
theorem aHQ:aM tab 210 aP8:=Oc aGO rfl aH [] trivial fun a=>by kernel_rfl
def jF (p0:Int) (p1:Int):Option Int:=
 (nZ p0).bind fun b0=>
 (nZ p1).bind fun b1=>
 bif b0 then
  bif b1 then
   some 0
  else
   some (-1)
 else
  bif b1 then
   some 1
  else
   bif decide (p0<p1) then
    some (-1)
   else
    bif decide (p1<p0) then
     some 1
    else
     some 0
def aP9:bL:=⟨aD.cons (aN.int .u64) (aD.one (aN.int .u64)),aN.int .i64,fun a=>jF a.1 a.2,.pure,false⟩
theorem aHR:aM tab 166 aP9:=Oc aGk rfl aH [(210,aP8)] ⟨aHQ,trivial⟩ fun a=>by kernel_rfl
def sQ (p0:Bool×Int×Int) (p1:Bool×Int×Int):Option Int:=
 (jF p0.2.1 p1.2.1).bind fun n0=>
 bif n0 !=0 then
  some n0
 else
  (jF p0.2.2 p1.2.2).bind fun n1=>
  some n1
def aQa:bL:=⟨aD.cons (aN.agg (cO.row CR)) (aD.one (aN.agg (cO.row CR))),aN.int .i64,fun a=>sQ a.1 a.2,.pure,false⟩
theorem aHS:aM tab 111 aQa:=Oc aFO rfl aH [(166,aP9)] ⟨aHR,trivial⟩ fun a=>by kernel_rfl
def DT (p0:Int×Int) (p1:Int×Int):Option (Int×Int):=
 (A0 p0 p1).bind fun n0=>
 bif n0 !=0 then
  some (0,n0)
 else
  bif !((decide (p0.1<0))==(decide (p1.1<0))) then
   (jX p0.1 p1.1).bind fun n1=>
   some (n1,0)
  else
   (uA p0.1 p1.2).bind fun a2=>
   (uA p1.1 p0.2).bind fun a3=>
   (sQ a2 a3).bind fun n4=>
   bif decide (p0.1<0) then
    some (aA .i64 (0-n4),0)
   else
    some (n4,0)
def c61:bL:=⟨aD.cons (aN.agg (cO.row kM)) (aD.one (aN.agg (cO.row kM))),aN.tup (aD.cons (aN.int .i64) (aD.one (aN.int .i64))),fun a=>DT a.1 a.2,.pure,false⟩
theorem aOc:aM tab 61 c61:=Oc aNw rfl aH [(109,aP5),(110,aOa),(112,aP7),(111,aQa)] ⟨aHN,YA,aHP,aHS,trivial⟩ fun a=>by kernel_rfl
def sR (p0:Int):Option Bool:=
 some (p0 !=p0)
def aQb:bL:=⟨aD.one (aN.int .i64),aN.bool,fun a=>sR a,.pure,false⟩
theorem aHT:aM tab 203 aQb:=Oc aGI rfl aH [] trivial fun a=>by kernel_rfl
def fJ (p0:Int) (p1:Int):Option Int:=
 (sR p0).bind fun b0=>
 (sR p1).bind fun b1=>
 bif b0 then
  bif b1 then
   some 0
  else
   some (-1)
 else
  bif b1 then
   some 1
  else
   bif decide (p0<p1) then
    some (-1)
   else
    bif decide (p1<p0) then
     some 1
    else
     some 0
def VL:bL:=⟨aD.cons (aN.int .i64) (aD.one (aN.int .i64)),aN.int .i64,fun a=>fJ a.1 a.2,.pure,false⟩
theorem DU:aM tab 151 VL:=Oc aF7 rfl aH [(203,aQb)] ⟨aHT,trivial⟩ fun a=>by kernel_rfl
def yP (s:(Int×(List Int)×Int×Int)):Option (cA (Int×(List Int)×Int×Int) Int):=
 bif decide (s.2.2.2<s.2.2.1) then
  (aK s.2.1 s.2.2.2).bind fun n0=>
  bif n0 !=s.1 then
   some (.done n0)
  else
   some (.next (s.1,s.2.1,s.2.2.1,aA .i64 (s.2.2.2+1)))
 else
  some (.done s.1)
def wN (p0:List Int):Option Int:=
 aJ yP (0,p0,Int.ofNat p0.length,0)
def aOd:bL:=⟨aD.one (aN.sl ki),aN.int .i64,fun a=>wN a,.pure,false⟩
theorem YC:aM tab 194 aOd:=Oc aGE rfl aH [] trivial fun a=>by kernel_rfl
def cE (p0:Int×Int×Int×Int×Int) (p1:Int×Int×Int×Int×Int):Option Int:=
 (DT (p0.1,p0.2.1) (p1.1,p1.2.1)).bind fun a0=>
 (fJ p0.2.2.1 p1.2.2.1).bind fun n1=>
 (wN [a0.1,n1]).bind fun n2=>
 some n2
def aHU:bL:=⟨aD.cons (aN.agg (cO.row lW)) (aD.one (aN.agg (cO.row lW))),aN.int .i64,fun a=>cE a.1 a.2,.pure,false⟩
theorem QA:aM tab 208 aHU:=Oc aGM rfl aH [(61,c61),(151,VL),(194,aOd)] ⟨aOc,DU,YC,trivial⟩ fun a=>by kernel_rfl
def jQ (s:aPN):Option (cA aPN aPS):=
 bif decide (s.2.2.1<s.2.1) then
  (aK s.1 s.2.2.1).bind fun a0=>
  (iV (a0.1,a0.2.1)).bind fun n1=>
  bif n1 !=0 then
   some (.done (.done 8))
  else
   bif decide (a0.2.2.1<0) then
    some (.done (.done 8))
   else
    bif decide (1000000<a0.2.2.1) then
     some (.done (.done 8))
    else
     (RY s.2.2.2.2.2.2.2.2 [a0.2.2.1]).bind fun b2=>
     bif b2 then
      some (.done (.done 8))
     else
      (RZ s.2.2.2.2.2.2.2.2 [a0.2.2.1]).bind fun l3=>
      bif decide (0<s.2.2.1) then
       (aK s.2.2.2.2.2.2.1 (aA .i64 (Int.tdiv (aA .i64 (s.2.2.1-1)) 2))).bind fun a4=>
       (cE a0 a4).bind fun n5=>
       bif decide (n5<0) then
        some (.done (.done 8))
       else
        some (.next (s.1,s.2.1,aA .i64 (s.2.2.1+1),s.2.2.2.1,s.2.2.2.2.1,s.2.2.2.2.2.1,s.2.2.2.2.2.2.1,s.2.2.2.2.2.2.2.1,l3))
      else
       some (.next (s.1,s.2.1,aA .i64 (s.2.2.1+1),s.2.2.2.1,s.2.2.2.2.1,s.2.2.2.2.2.1,s.2.2.2.2.2.2.1,s.2.2.2.2.2.2.2.1,l3))
 else
  some (.done (.done 0))
def mL (s:aPR):Option aPS:=
 bif decide (s.2.2.1<s.2.1) then
  (aK s.1 s.2.2.1).bind fun n0=>
  (aK s.2.2.2.2.1 s.2.2.1).bind fun b1=>
  bif !b1 then
   bif n0 !=(-1) then
    some (.done 8)
   else
    some (.next (s.1,s.2.1,aA .i64 (s.2.2.1+1),s.2.2.2))
  else
   bif decide (n0<0) then
    some (.done 8)
   else
    bif decide ((Int.ofNat s.2.2.2.2.2.2.1.length)<=n0) then
     some (.done 8)
    else
     (aK s.2.2.2.2.2.2.1 n0).bind fun a2=>
     (aK s.2.2.2.1 s.2.2.1).bind fun n3=>
     bif !((a2.2.2.2.1==s.2.2.1)&&(a2.2.2.2.2==n3)) then
      some (.done 8)
     else
      some (.next (s.1,s.2.1,aA .i64 (s.2.2.1+1),s.2.2.2))
 else
  aJ jQ (s.2.2.2.2.2.2.1,Int.ofNat s.2.2.2.2.2.2.1.length,0,s.2.2.2.1,s.2.2.2.2.1,s.2.2.2.2.2.1,s.2.2.2.2.2.2.1,s.2.2.2.2.2.2.2,[])
def lZ (p0:aG):Option Int:=
 (rW p0.slots).bind fun n0=>
 bif n0 !=0 then
  some 8
 else
  bif (Int.ofNat p0.where_.length) !=(Int.ofNat p0.slots.used.length) then
   some 8
  else
   bif (Int.ofNat p0.heap.length) !=(aA .i64 ((Int.ofNat p0.slots.used.length) - (Int.ofNat p0.slots.free.length))) then
    some 8
   else
    aJ mL (p0.where_,Int.ofNat p0.where_.length,0,p0.slots.uses,p0.slots.used,p0.slots.free,p0.heap,p0.where_)
def aBU:bL:=⟨aD.one (aN.agg dD),aN.int .i64,fun a=>lZ a,.pure,false⟩
theorem KE:aM tab 162 aBU:=Oc aGg rfl aH [(207,aHM),(60,c60),(208,aHU)] ⟨P9,IK,QA,trivial⟩ fun a=>by kernel_rfl
def yQ (p0:Int×Int×Int) (p1:Int):Option Int:=
 (fJ p0.1 p1).bind fun n0=>
 some n0
def aQc:bL:=⟨aD.cons (aN.agg (cO.row eF)) (aD.one (aN.int .i64)),aN.int .i64,fun a=>yQ a.1 a.2,.pure,false⟩
theorem aHV:aM tab 215 aQc:=Oc aGS rfl aH [(151,VL)] ⟨DU,trivial⟩ fun a=>by kernel_rfl
def iY (s:P3):Option aHA:=
 bif decide (s.2.2.2.1<s.2.2.2.2) then
  (aK s.1 (aA .i64 (tR .u64 (aA .u64 (aA .i64 (s.2.2.2.1+s.2.2.2.2))) 1))).bind fun a0=>
  (yQ a0 s.2.1).bind fun n1=>
  bif decide (n1<0) then
   some (.next (s.1,s.2.1,s.2.2.1,aA .i64 ((aA .i64 (tR .u64 (aA .u64 (aA .i64 (s.2.2.2.1+s.2.2.2.2))) 1))+1),s.2.2.2.2))
  else
   some (.next (s.1,s.2.1,s.2.2.1,s.2.2.2.1,aA .i64 (tR .u64 (aA .u64 (aA .i64 (s.2.2.2.1+s.2.2.2.2))) 1)))
 else
  bif decide (s.2.2.2.1<s.2.2.1) then
   (aK s.1 s.2.2.2.1).bind fun a2=>
   (yQ a2 s.2.1).bind fun n3=>
   some (.done (s.2.2.2.1,n3==0))
  else
   some (.done (s.2.2.2.1,false))
def cX (p0:List (Int×Int×Int)) (p1:Int) (_:Unit):Option (Int×Bool):=
 aJ iY (p0,p1,Int.ofNat p0.length,0,Int.ofNat p0.length)
def SS:bL:=⟨aD.cons (aN.sl eF) (aD.cons (aN.int .i64) (aD.one (aN.clo 215 aD.nil))),aN.tup (aD.cons (aN.int .i64) (aD.one aN.bool)),fun a=>cX a.1 a.2.1 a.2.2,.pure,false⟩
theorem ST:aM tab 149 SS:=Oc XZ rfl aH [(215,aQc)] ⟨aHV,trivial⟩ fun a=>by kernel_rfl
def jY (p0:Field) (p1:Int):Option (Int×Int×Int):=
 (cX p0.points p1 ()).bind fun a0=>
 bif !a0.2 then
  some (-1,0,0)
 else
  (aK p0.points a0.1).bind fun a1=>
  some a1
def aHW:bL:=⟨aD.cons (aN.agg cB) (aD.one (aN.int .i64)),aN.agg (cO.row eF),fun a=>jY a.1 a.2,.pure,false⟩
theorem QB:aM tab 178 aHW:=Oc aGt rfl aH [(149,SS)] ⟨ST,trivial⟩ fun a=>by kernel_rfl
def rX (p0:Int×Int×Int) (p1:Int×Int×Int) (p2:Int×Int):Option Int:=
 (jW p0).bind fun n0=>
 (jW p1).bind fun n1=>
 (iV p2).bind fun n2=>
 bif (if n2>(if n1>n0 then n1 else n0) then n2 else if n1>n0 then n1 else n0) !=0 then
  some (if n2>(if n1>n0 then n1 else n0) then n2 else if n1>n0 then n1 else n0)
 else
  bif p0.1==p1.1 then
   some 2
  else
   some 0
def aHX:bL:=⟨aD.cons (aN.agg (cO.row eF)) (aD.cons (aN.agg (cO.row eF)) (aD.one (aN.agg (cO.row kM)))),aN.int .i64,fun a=>rX a.1 a.2.1 a.2.2,.pure,false⟩
theorem QC:aM tab 189 aHX:=Oc aGB rfl aH [(88,c88),(60,c60)] ⟨P7,IK,trivial⟩ fun a=>by kernel_rfl
def oP (s:(Int×Int×Int×Int×Int×Int×Int×Int×Int)):Option (cA (Int×Int×Int×Int×Int×Int×Int×Int×Int) (Int×Int)):=
 bif decide (s.2.2.2.2.1<2) then
  bif s.2.2.2.2.1==0 then
   (jP (aA .u64 s.1) (aA .u64 s.2.1)).bind fun a0=>
   bif decide (s.1<0) then
    bif decide (s.2.1<0) then
     (rU s.2.2.2.2.2.2.2.2 a0.2 0).bind fun a1=>
     some (.next (s.1,s.2.1,s.2.2.1,s.2.2.2.1,aA .i64 (s.2.2.2.2.1+1),s.2.2.2.2.2.1,s.2.2.2.2.2.2.1,aA .i64 ((aA .i64 (s.2.2.2.2.2.2.2.1+(aA .i64 ((aA .i64 ((aA .i64 a0.1) -s.2.1)) -s.1))))+(aA .i64 a1.2)),a1.1))
    else
     (rU s.2.2.2.2.2.2.2.2 a0.2 0).bind fun a2=>
     some (.next (s.1,s.2.1,s.2.2.1,s.2.2.2.1,aA .i64 (s.2.2.2.2.1+1),s.2.2.2.2.2.1,s.2.2.2.2.2.2.1,aA .i64 ((aA .i64 (s.2.2.2.2.2.2.2.1+(aA .i64 ((aA .i64 a0.1) -s.2.1))))+(aA .i64 a2.2)),a2.1))
   else
    bif decide (s.2.1<0) then
     (rU s.2.2.2.2.2.2.2.2 a0.2 0).bind fun a3=>
     some (.next (s.1,s.2.1,s.2.2.1,s.2.2.2.1,aA .i64 (s.2.2.2.2.1+1),s.2.2.2.2.2.1,s.2.2.2.2.2.2.1,aA .i64 ((aA .i64 (s.2.2.2.2.2.2.2.1+(aA .i64 ((aA .i64 a0.1) -s.1))))+(aA .i64 a3.2)),a3.1))
    else
     (rU s.2.2.2.2.2.2.2.2 a0.2 0).bind fun a4=>
     some (.next (s.1,s.2.1,s.2.2.1,s.2.2.2.1,aA .i64 (s.2.2.2.2.1+1),s.2.2.2.2.2.1,s.2.2.2.2.2.2.1,aA .i64 ((aA .i64 (s.2.2.2.2.2.2.2.1+(aA .i64 a0.1)))+(aA .i64 a4.2)),a4.1))
  else
   bif s.2.2.2.2.1==1 then
    (jP (aA .u64 s.2.2.1) (aA .u64 s.2.2.2.1)).bind fun a5=>
    bif decide (s.2.2.1<0) then
     bif decide (s.2.2.2.1<0) then
      (rU s.2.2.2.2.2.2.2.2 a5.2 0).bind fun a6=>
      some (.next (s.1,s.2.1,s.2.2.1,s.2.2.2.1,aA .i64 (s.2.2.2.2.1+1),s.2.2.2.2.2.1,s.2.2.2.2.2.2.1,aA .i64 ((aA .i64 (s.2.2.2.2.2.2.2.1+(aA .i64 ((aA .i64 ((aA .i64 a5.1) -s.2.2.2.1)) -s.2.2.1))))+(aA .i64 a6.2)),a6.1))
     else
      (rU s.2.2.2.2.2.2.2.2 a5.2 0).bind fun a7=>
      some (.next (s.1,s.2.1,s.2.2.1,s.2.2.2.1,aA .i64 (s.2.2.2.2.1+1),s.2.2.2.2.2.1,s.2.2.2.2.2.2.1,aA .i64 ((aA .i64 (s.2.2.2.2.2.2.2.1+(aA .i64 ((aA .i64 a5.1) -s.2.2.2.1))))+(aA .i64 a7.2)),a7.1))
    else
     bif decide (s.2.2.2.1<0) then
      (rU s.2.2.2.2.2.2.2.2 a5.2 0).bind fun a8=>
      some (.next (s.1,s.2.1,s.2.2.1,s.2.2.2.1,aA .i64 (s.2.2.2.2.1+1),s.2.2.2.2.2.1,s.2.2.2.2.2.2.1,aA .i64 ((aA .i64 (s.2.2.2.2.2.2.2.1+(aA .i64 ((aA .i64 a5.1) -s.2.2.1))))+(aA .i64 a8.2)),a8.1))
     else
      (rU s.2.2.2.2.2.2.2.2 a5.2 0).bind fun a9=>
      some (.next (s.1,s.2.1,s.2.2.1,s.2.2.2.1,aA .i64 (s.2.2.2.2.1+1),s.2.2.2.2.2.1,s.2.2.2.2.2.2.1,aA .i64 ((aA .i64 (s.2.2.2.2.2.2.2.1+(aA .i64 a5.1)))+(aA .i64 a9.2)),a9.1))
   else
    none
 else
  some (.done s.2.2.2.2.2.2.2)
def A2 (p0:Int×Int×Int×Int):Option (Int×Int):=
 aJ oP (p0.1,p0.2.1,p0.2.2.1,p0.2.2.2,0,0,0,0,0)
def aQd:bL:=⟨aD.one (aN.agg (cO.row aPt)),aN.agg (cO.row kiu),fun a=>A2 a,.pure,false⟩
theorem aHY:aM tab 237 aQd:=Oc aG2 rfl aH [(167,aOb),(275,bL.add64)] ⟨YB,aBN,trivial⟩ fun a=>by kernel_rfl
def nL (p0:Int×Int×Int) (p1:Int×Int×Int) (p2:Int×Int):Option Int:=
 (A2 (aA .i64 (p0.2.1-p1.2.1),p2.2,aA .i64 (p0.2.2-p1.2.2),p2.1)).bind fun a0=>
 bif !((a0.1==0)&&(a0.2==0)) then
  bif decide (a0.1<0) then
   some (-1)
  else
   some 1
 else
  (jX p0.2.2 p1.2.2).bind fun n1=>
  (fJ p1.1 p0.1).bind fun n2=>
  (wN [n1,n2]).bind fun n3=>
  some n3
def aOe:bL:=⟨aD.cons (aN.agg (cO.row eF)) (aD.cons (aN.agg (cO.row eF)) (aD.one (aN.agg (cO.row kM)))),aN.int .i64,fun a=>nL a.1 a.2.1 a.2.2,.pure,false⟩
theorem YD:aM tab 190 aOe:=Oc aGC rfl aH [(237,aQd),(110,aOa),(151,VL),(194,aOd)] ⟨aHY,YA,DU,YC,trivial⟩ fun a=>by kernel_rfl
def CV (p0:Bool×Int×Int) (p1:Int) (p2:Int):Option ((Int×Int)×Int):=
 bif decide (0<p0.2.1) then
  some ((0,0),16)
 else
  bif decide (9223372036854775807<p0.2.2) then
   some ((0,0),16)
  else
   bif decide (0<p1) then
    some ((0,0),16)
   else
    bif decide (9223372036854775807<p2) then
     some ((0,0),16)
    else
     bif p0.1 then
      some ((aA .i64 (0- (aA .i64 p0.2.2)),aA .i64 p2),0)
     else
      some ((aA .i64 p0.2.2,aA .i64 p2),0)
def aQe:bL:=⟨aD.cons (aN.agg (cO.row CR)) (aD.cons (aN.int .u64) (aD.one (aN.int .u64))),aN.tup (aD.cons (aN.agg (cO.row kM)) (aD.one (aN.int .i64))),fun a=>CV a.1 a.2.1 a.2.2,.pure,false⟩
theorem aHZ:aM tab 238 aQe:=Oc aG3 rfl aH [] trivial fun a=>by kernel_rfl
def A3 (p0:Int) (p1:Int):Option ((Int×Int)×Int):=
 bif p1==0 then
  some ((0,0),26)
 else
  (mQ p0).bind fun n0=>
  (mQ p1).bind fun n1=>
  (zS n0 n1).bind fun n2=>
  (mQ p0).bind fun n3=>
  bif n2==0 then
   none
  else
   (mQ p1).bind fun n4=>
   bif n2==0 then
    none
   else
    (CV (!((decide (p0<0))==(decide (p1<0))),0,aA .u64 (Int.tdiv n3 n2)) 0 (aA .u64 (Int.tdiv n4 n2))).bind fun a5=>
    some a5
def aQf:bL:=⟨aD.cons (aN.int .i64) (aD.one (aN.int .i64)),aN.tup (aD.cons (aN.agg (cO.row kM)) (aD.one (aN.int .i64))),fun a=>A3 a.1 a.2,.pure,false⟩
theorem aH0:aM tab 192 aQf:=Oc aGD rfl aH [(108,aHH),(107,aN6),(238,aQe)] ⟨P6,X8,aHZ,trivial⟩ fun a=>by kernel_rfl
def CW (p0:Int×Int×Int) (p1:Int×Int×Int):Option ((Int×Int)×Int):=
 (rX p0 p1 (0,1)).bind fun n0=>
 bif n0 !=0 then
  some ((0,0),n0)
 else
  bif p0.2.2==p1.2.2 then
   some ((0,0),6)
  else
   (A3 (aA .i64 (p0.2.1-p1.2.1)) (aA .i64 (p1.2.2-p0.2.2))).bind fun a1=>
   some a1
def aQg:bL:=⟨aD.cons (aN.agg (cO.row eF)) (aD.one (aN.agg (cO.row eF))),aN.tup (aD.cons (aN.agg (cO.row kM)) (aD.one (aN.int .i64))),fun a=>CW a.1 a.2,.pure,false⟩
theorem aH1:aM tab 131 aQg:=Oc aFZ rfl aH [(189,aHX),(192,aQf)] ⟨QC,aH0,trivial⟩ fun a=>by kernel_rfl
def vJ (p0:Int×Int×Int) (p1:Int×Int×Int) (p2:Int×Int):Option ((Int×Int)×Bool×Int):=
 (rX p0 p1 p2).bind fun n0=>
 bif n0 !=0 then
  some ((0,0),false,n0)
 else
  (nL p1 p0 p2).bind fun n1=>
  bif decide (0<n1) then
   some (p2,true,0)
  else
   bif decide (p1.2.2<=p0.2.2) then
    some ((0,0),false,0)
   else
    (CW p0 p1).bind fun a2=>
    some (a2.1,a2.2==0,a2.2)
def aQh:bL:=⟨aD.cons (aN.agg (cO.row eF)) (aD.cons (aN.agg (cO.row eF)) (aD.one (aN.agg (cO.row kM)))),aN.tup (aD.cons (aN.agg (cO.row kM)) (aD.cons aN.bool (aD.one (aN.int .i64)))),fun a=>vJ a.1 a.2.1 a.2.2,.pure,false⟩
theorem aH2:aM tab 209 aQh:=Oc aGN rfl aH [(189,aHX),(190,aOe),(131,aQg)] ⟨QC,YD,aH1,trivial⟩ fun a=>by kernel_rfl
def rY (p0:Field) (p1:Int×Int) (p2:Int×Int):Option ((Int×Int)×Bool×Int):=
 (jY p0 p1.2).bind fun a0=>
 (jY p0 p1.1).bind fun a1=>
 (vJ a0 a1 p2).bind fun a2=>
 some a2
def aH3:bL:=⟨aD.cons (aN.agg cB) (aD.cons (aN.agg (cO.row kM)) (aD.one (aN.agg (cO.row kM)))),aN.tup (aD.cons (aN.agg (cO.row kM)) (aD.cons aN.bool (aD.one (aN.int .i64)))),fun a=>rY a.1 a.2.1 a.2.2,.pure,false⟩
theorem QD:aM tab 163 aH3:=Oc aGh rfl aH [(178,aHW),(209,aQh)] ⟨QB,aH2,trivial⟩ fun a=>by kernel_rfl
def cQ (s:aPA):Option (cA aPA aPE):=
 bif decide (s.2.2.2.1<s.2.2.1) then
  (aK s.2.1 s.2.2.2.1).bind fun a0=>
  (rY (Field.mk s.2.2.2.2.2.2.1) a0.2 (s.2.2.2.2.1,s.2.2.2.2.2.1)).bind fun a1=>
  bif a1.2.2 !=0 then
   some (.done (.done 8))
  else
   bif !a1.2.1 then
    some (.next (s.1,s.2.1,s.2.2.1,aA .i64 (s.2.2.2.1+1),s.2.2.2.2))
   else
    bif (Int.ofNat s.1.length)==0 then
     some (.done (.done 8))
    else
     (aK s.1 0).bind fun a2=>
     bif a2.1 !=a0.1 then
      some (.done (.done 8))
     else
      (aK s.1 0).bind fun a3=>
      bif decide (a3.2.1<0) then
       some (.done (.done 8))
      else
       bif decide (200<=a3.2.1) then
        some (.done (.done 8))
       else
        (aK s.2.2.2.2.2.2.2.2.2.2.2.2.2.1 a3.2.1).bind fun n4=>
        bif decide (n4<0) then
         some (.done (.done 8))
        else
         (aK s.2.2.2.2.2.2.2.2.2.2.2.2.2.1 a3.2.1).bind fun n5=>
         (aK s.2.2.2.2.2.2.2.2.2.2.2.2.1 n5).bind fun a6=>
         bif !((a6.1==a1.1.1)&&((a6.2.1==a1.1.2)&&((a6.2.2.1==a0.1)&&((a6.2.2.2.1==a3.2.1)&&(a6.2.2.2.2==a3.2.2))))) then
          some (.done (.done 8))
         else
          (jO s.1 1 (Int.ofNat s.1.length)).bind fun l7=>
          some (.next (l7,s.2.1,s.2.2.1,aA .i64 (s.2.2.2.1+1),s.2.2.2.2))
 else
  bif decide (0<(Int.ofNat s.1.length)) then
   some (.done (.done 8))
  else
   some (.done (.done 0))
def fD (s:aHv):Option aPE:=
 bif decide (s.2.1<s.1) then
  (aK s.2.2.2.2.2.2.2.2.2.2.2.2.2 s.2.1).bind fun n0=>
  bif n0 !=0 then
   some (.done 8)
  else
   some (.next (s.1,aA .i64 (s.2.1+1),s.2.2))
 else
  bif (Int.ofNat s.2.2.2.2.2.2.2.2.2.2.2.1.length) !=200 then
   some (.done 8)
  else
   bif (Int.ofNat s.2.2.2.2.2.2.2.2.2.2.1.length) !=(Int.ofNat s.2.2.2.2.2.2.2.2.2.2.2.2.1.length) then
    some (.done 8)
   else
    aJ cQ (s.2.2.2.2.2.2.2.2.2.2.2.2.1,s.2.2.2.2.2.2.1,Int.ofNat s.2.2.2.2.2.2.1.length,0,s.2.2.1,s.2.2.2.1,s.2.2.2.2.1,s.2.2.2.2.2.1,s.2.2.2.2.2.2.1,s.2.2.2.2.2.2.2.1,s.2.2.2.2.2.2.2.2.1,s.2.2.2.2.2.2.2.2.2.1,s.2.2.2.2.2.2.2.2.2.2.1,s.2.2.2.2.2.2.2.2.2.2.2.1,s.2.2.2.2.2.2.2.2.2.2.2.2.1)
def gZ (p0:aP):Option Int:=
 (iV p0.now).bind fun n0=>
 (dS p0.field).bind fun n1=>
 (rV p0.certs).bind fun n2=>
 (lZ p0.agenda).bind fun n3=>
 aJ fD (Int.ofNat ([n0,n1,n2,n3].length),0,p0.now.1,p0.now.2,p0.field.points,p0.certs.next_,p0.certs.list,p0.agenda.slots.uses,p0.agenda.slots.used,p0.agenda.slots.free,p0.agenda.heap,p0.agenda.where_,p0.due,[n0,n1,n2,n3])
def aAe:bL:=⟨aD.one (aN.agg bU),aN.int .i64,fun a=>gZ a,.pure,false⟩
theorem GX:aM tab 103 aAe:=Oc aFG rfl aH [(60,c60),(87,c87),(161,aHJ),(162,aBU),(163,aH3)] ⟨IK,IL,P8,KE,QD,trivial⟩ fun a=>by kernel_rfl
def kO (s:((List Int)×Int×Int×Int)):Option (cA ((List Int)×Int×Int×Int) Int):=
 bif decide (s.2.2.2<s.2.2.1) then
  (aK s.1 s.2.2.2).bind fun n0=>
  bif s.2.1==n0 then
   some (.done s.2.2.2)
  else
   some (.next (s.1,s.2.1,s.2.2.1,aA .i64 (s.2.2.2+1)))
 else
  some (.done (-1))
def iZ (p0:List Int) (p1:Int):Option Int:=
 aJ kO (p0,p1,Int.ofNat p0.length,0)
def c83:bL:=⟨aD.cons (aN.sl ki) (aD.one (aN.int .i64)),aN.int .i64,fun a=>iZ a.1 a.2,.pure,false⟩
theorem aBV:aM tab 83 c83:=Oc aNH rfl aH [] trivial fun a=>by kernel_rfl
def kQ (p0:List Int) (p1:Int):Option Bool:=
 (iZ p0 p1).bind fun n0=>
 some (decide (0<=n0))
def aQi:bL:=⟨aD.cons (aN.sl ki) (aD.one (aN.int .i64)),aN.bool,fun a=>kQ a.1 a.2,.pure,false⟩
theorem aH4:aM tab 104 aQi:=Oc aFH rfl aH [(83,c83)] ⟨aBV,trivial⟩ fun a=>by kernel_rfl
def qP (s:aHD):Option (cA aHD yO):=
 bif decide (s.2.1<(Int.ofNat s.1.length)) then
  (aK s.1 s.2.1).bind fun n0=>
  (aK s.1 (aA .i64 (Int.tdiv (aA .i64 (s.2.1-1)) 2))).bind fun n1=>
  (bO s.2.2 [(n0,n1)]).bind fun l2=>
  some (.next (s.1,aA .i64 (s.2.1+1),l2))
 else
  some (.done s.2.2)
def xS (p0:List Int):Option yO:=
 aJ qP (p0,1,[])
def c69:bL:=⟨aD.one (aN.sl ki),aN.sl kM,fun a=>xS a,.frz,false⟩
theorem aOf:aM tab 69 c69:=Oc aNA rfl aH [] trivial fun a=>by kernel_rfl
def jZ (s:(yO×Int×Int×Int×Int)):Option (cA (yO×Int×Int×Int×Int) Int):=
 bif decide (s.2.2.1<s.2.1) then
  (aK s.1 s.2.2.1).bind fun a0=>
  bif (s.2.2.2.1==a0.1)&&(s.2.2.2.2==a0.2) then
   some (.done s.2.2.1)
  else
   some (.next (s.1,s.2.1,aA .i64 (s.2.2.1+1),s.2.2.2))
 else
  some (.done (-1))
def qQ (p0:List (Int×Int)) (p1:Int×Int):Option Int:=
 aJ jZ (p0,Int.ofNat p0.length,0,p1)
def aQj:bL:=⟨aD.cons (aN.sl kM) (aD.one (aN.agg (cO.row kM))),aN.int .i64,fun a=>qQ a.1 a.2,.pure,false⟩
theorem aH5:aM tab 164 aQj:=Oc aGi rfl aH [] trivial fun a=>by kernel_rfl
def fO (p0:List (Int×Int)) (p1:Int×Int):Option Bool:=
 (qQ p0 p1).bind fun n0=>
 some (decide (0<=n0))
def aH6:bL:=⟨aD.cons (aN.sl kM) (aD.one (aN.agg (cO.row kM))),aN.bool,fun a=>fO a.1 a.2,.pure,false⟩
theorem QE:aM tab 105 aH6:=Oc aFI rfl aH [(164,aQj)] ⟨aH5,trivial⟩ fun a=>by kernel_rfl
def A4 (p0:Int×Int×Int) (p1:Int):Option Int:=
 (fJ p0.1 p1).bind fun n0=>
 some n0
def aQk:bL:=⟨aD.cons (aN.agg (cO.row eF)) (aD.one (aN.int .i64)),aN.int .i64,fun a=>A4 a.1 a.2,.pure,false⟩
theorem aH7:aM tab 150 aQk:=Oc aF6 rfl aH [(151,VL)] ⟨DU,trivial⟩ fun a=>by kernel_rfl
def jG (s:P3):Option aHA:=
 bif decide (s.2.2.2.1<s.2.2.2.2) then
  (aK s.1 (aA .i64 (tR .u64 (aA .u64 (aA .i64 (s.2.2.2.1+s.2.2.2.2))) 1))).bind fun a0=>
  (A4 a0 s.2.1).bind fun n1=>
  bif decide (n1<0) then
   some (.next (s.1,s.2.1,s.2.2.1,aA .i64 ((aA .i64 (tR .u64 (aA .u64 (aA .i64 (s.2.2.2.1+s.2.2.2.2))) 1))+1),s.2.2.2.2))
  else
   some (.next (s.1,s.2.1,s.2.2.1,s.2.2.2.1,aA .i64 (tR .u64 (aA .u64 (aA .i64 (s.2.2.2.1+s.2.2.2.2))) 1)))
 else
  bif decide (s.2.2.2.1<s.2.2.1) then
   (aK s.1 s.2.2.2.1).bind fun a2=>
   (A4 a2 s.2.1).bind fun n3=>
   some (.done (s.2.2.2.1,n3==0))
  else
   some (.done (s.2.2.2.1,false))
def dA (p0:List (Int×Int×Int)) (p1:Int) (_:Unit):Option (Int×Bool):=
 aJ jG (p0,p1,Int.ofNat p0.length,0,Int.ofNat p0.length)
def SU:bL:=⟨aD.cons (aN.sl eF) (aD.cons (aN.int .i64) (aD.one (aN.clo 150 aD.nil))),aN.tup (aD.cons (aN.int .i64) (aD.one aN.bool)),fun a=>dA a.1 a.2.1 a.2.2,.pure,false⟩
theorem SW:aM tab 149 SU:=Oc XZ rfl aH [(150,aQk)] ⟨aH7,trivial⟩ fun a=>by kernel_rfl
def jH (p0:Field) (p1:Int):Option (Int×Bool):=
 (dA p0.points p1 ()).bind fun a0=>
 some a0
def c89:bL:=⟨aD.cons (aN.agg cB) (aD.one (aN.int .i64)),aN.tup (aD.cons (aN.int .i64) (aD.one aN.bool)),fun a=>jH a.1 a.2,.pure,false⟩
theorem aBW:aM tab 89 c89:=Oc aNL rfl aH [(149,SU)] ⟨SW,trivial⟩ fun a=>by kernel_rfl
def kB (p0:Field) (p1:Int):Option (Int×Int):=
 (dS p0).bind fun n0=>
 bif n0 !=0 then
  some (0,n0)
 else
  (jH p0 p1).bind fun a1=>
  bif !a1.2 then
   some (0,6)
  else
   some (a1.1,0)
def c92:bL:=⟨aD.cons (aN.agg cB) (aD.one (aN.int .i64)),aN.tup (aD.cons (aN.int .i64) (aD.one (aN.int .i64))),fun a=>kB a.1 a.2,.pure,false⟩
theorem aBX:aM tab 92 c92:=Oc aNO rfl aH [(87,c87),(89,c89)] ⟨IL,aBW,trivial⟩ fun a=>by kernel_rfl
def eJ (p0:Field) (p1:Int):Option ((Int×Int×Int)×Int):=
 (kB p0 p1).bind fun a0=>
 bif a0.2 !=0 then
  some ((0,0,0),a0.2)
 else
  (aK p0.points a0.1).bind fun a1=>
  some (a1,0)
def aBY:bL:=⟨aD.cons (aN.agg cB) (aD.one (aN.int .i64)),aN.tup (aD.cons (aN.agg (cO.row eF)) (aD.one (aN.int .i64))),fun a=>eJ a.1 a.2,.pure,false⟩
theorem KF:aM tab 139 aBY:=Oc aF0 rfl aH [(92,c92)] ⟨aBX,trivial⟩ fun a=>by kernel_rfl
def gV (p0:Int×Int×Int) (p1:Int×Int×Int) (p2:Int×Int):Option (Bool×Int):=
 (rX p0 p1 p2).bind fun n0=>
 bif n0 !=0 then
  some (false,n0)
 else
  (nL p0 p1 p2).bind fun n1=>
  some (decide (0<n1),0)
def aH8:bL:=⟨aD.cons (aN.agg (cO.row eF)) (aD.cons (aN.agg (cO.row eF)) (aD.one (aN.agg (cO.row kM)))),aN.tup (aD.cons aN.bool (aD.one (aN.int .i64))),fun a=>gV a.1 a.2.1 a.2.2,.pure,false⟩
theorem QF:aM tab 128 aH8:=Oc aFY rfl aH [(189,aHX),(190,aOe)] ⟨QC,YD,trivial⟩ fun a=>by kernel_rfl
def xT (p0:Field) (p1:Int×Int) (p2:Int) (p3:Int):Option Bool:=
 (eJ p0 p2).bind fun a0=>
 (eJ p0 p3).bind fun a1=>
 (gV a0.1 a1.1 p1).bind fun a2=>
 some a2.1
def aQl:bL:=⟨aD.cons (aN.agg cB) (aD.cons (aN.agg (cO.row kM)) (aD.cons (aN.int .i64) (aD.one (aN.int .i64)))),aN.bool,fun a=>xT a.1 a.2.1 a.2.2.1 a.2.2.2,.pure,false⟩
theorem aH9:aM tab 106 aQl:=Oc aFJ rfl aH [(139,aBY),(128,aH8)] ⟨KF,QF,trivial⟩ fun a=>by kernel_rfl
def qR (s:aPz):Option (cA aPz aPC):=
 bif decide (s.2.2.2.1<s.2.2.1) then
  (aK s.2.1 s.2.2.2.1).bind fun a0=>
  (fO s.1 a0.2).bind fun b1=>
  bif !b1 then
   some (.done (.done 8))
  else
   (xT (Field.mk s.2.2.2.2.2.2.1) (s.2.2.2.2.1,s.2.2.2.2.2.1) a0.2.2 a0.2.1).bind fun b2=>
   bif !b2 then
    some (.done (.done 8))
   else
    some (.next (s.1,s.2.1,s.2.2.1,aA .i64 (s.2.2.2.1+1),s.2.2.2.2))
 else
  some (.done (.done 0))
def qS (s:aPB):Option aPC:=
 bif decide (s.2.2.1<s.2.1) then
  (aK s.1 s.2.2.1).bind fun a0=>
  (kQ s.2.2.2.2.2.2.2.2.2.2.2.2.2.2 a0.1).bind fun b1=>
  bif !b1 then
   some (.done 8)
  else
   some (.next (s.1,s.2.1,aA .i64 (s.2.2.1+1),s.2.2.2))
 else
  (xS s.2.2.2.2.2.2.2.2.2.2.2.2.2.2).bind fun l2=>
  bif (Int.ofNat l2.length) !=(Int.ofNat s.2.2.2.2.2.2.2.1.length) then
   some (.done 8)
  else
   aJ qR (l2,s.2.2.2.2.2.2.2.1,Int.ofNat s.2.2.2.2.2.2.2.1.length,0,s.2.2.2)
def uB (p0:cC):Option Int:=
 (gZ p0.clock).bind fun n0=>
 bif n0 !=0 then
  some 8
 else
  bif (Int.ofNat p0.heap.length) !=(Int.ofNat p0.clock.field.points.length) then
   some 8
  else
   aJ qS (p0.clock.field.points,Int.ofNat p0.clock.field.points.length,0,p0.clock.now.1,p0.clock.now.2,p0.clock.field.points,p0.clock.certs.next_,p0.clock.certs.list,p0.clock.agenda.slots.uses,p0.clock.agenda.slots.used,p0.clock.agenda.slots.free,p0.clock.agenda.heap,p0.clock.agenda.where_,p0.clock.due,p0.heap)
def c59:bL:=⟨aD.one (aN.agg gC),aN.int .i64,fun a=>uB a,.pure,false⟩
theorem aBZ:aM tab 59 c59:=Oc aNu rfl aH [(103,aAe),(104,aQi),(69,c69),(105,aH6),(106,aQl)] ⟨GX,aH4,aOf,QE,aH9,trivial⟩ fun a=>by kernel_rfl
def mR (p0:Field) (p1:Int×Int×Int):Option (Field×Int):=
 (dS p0).bind fun n0=>
 bif n0 !=0 then
  some (Field.mk [],n0)
 else
  (jW p1).bind fun n1=>
  bif n1 !=0 then
   some (Field.mk [],n1)
  else
   (jH p0 p1.1).bind fun a2=>
   bif a2.2 then
    some (Field.mk [],14)
   else
    bif (Int.ofNat p0.points.length)==64 then
     some (Field.mk [],18)
    else
     (bR p0.points).bind fun l3=>
     (DL l3 a2.1 [p1]).bind fun l4=>
     some (Field.mk l4,0)
def c45:bL:=⟨aD.cons (aN.agg cB) (aD.one (aN.agg (cO.row eF))),aN.tup (aD.cons (aN.agg cB) (aD.one (aN.int .i64))),fun a=>mR a.1 a.2,.frz,false⟩
theorem aOg:aM tab 45 c45:=aM.of aNl (cx:=(pG aH [(87,c87),(88,c88),(89,c89),(91,bL.clone eF)] [] [(90,.ins 3)] [])) rfl (mK.make ⟨IL,P7,aBW,AZ,trivial⟩ trivial ⟨aNM,trivial⟩) (fun a=>by kernel_rfl)
def nM (s:((List Int)×Int×Int×yO)):Option (cA ((List Int)×Int×Int×yO) yO):=
 bif decide (s.2.2.1<s.2.1) then
  (aK s.1 (aA .i64 (s.2.2.1+1))).bind fun n0=>
  (aK s.1 (aA .i64 (Int.tdiv s.2.2.1 2))).bind fun n1=>
  (bO s.2.2.2 [(n0,n1)]).bind fun l2=>
  some (.next (s.1,s.2.1,aA .i64 (s.2.2.1+1),l2))
 else
  some (.done s.2.2.2)
def xU (p0:List Int):Option yO:=
 aJ nM (p0,aA .i64 ((Int.ofNat p0.length) - (if (Int.ofNat p0.length)<1 then Int.ofNat p0.length else 1)),0,[])
def aQm:bL:=⟨aD.one (aN.sl ki),aN.sl kM,fun a=>xU a,.frz,false⟩
theorem aIa:aM tab 143 aQm:=Oc aF2 rfl aH [] trivial fun a=>by kernel_rfl
def wO (p0:aP):Option aP:=
 (bR p0.field.points).bind fun l0=>
 (bR p0.certs.list).bind fun l1=>
 (bR p0.due).bind fun l2=>
 (bR p0.agenda.heap).bind fun l3=>
 (bR p0.agenda.where_).bind fun l4=>
 (bR p0.agenda.slots.uses).bind fun l5=>
 (bR p0.agenda.slots.used).bind fun l6=>
 (bR p0.agenda.slots.free).bind fun l7=>
 some (aP.mk p0.now (Field.mk l0) (aU.mk p0.certs.next_ l1) (aG.mk (aR.mk l5 l6 l7) l3 l4) l2)
def aQn:bL:=⟨aD.one (aN.agg bU),aN.agg bU,fun a=>wO a,.own,true⟩
def aJL:bL:=⟨aD.one (aN.agg bU),aN.agg bU,fun a=>wO a,.frz,false⟩
theorem aIb:aM tab 196 aQn:=Oc X2 rfl aH [(91,bL.clone eF),(170,bL.clone eF),(171,bL.clone eF),(172,bL.clone lW),(64,bL.clone ki),(173,bL.clone kb)] ⟨AZ,zR,GT,wK,qM,wJ,trivial⟩ fun a=>by kernel_rfl
theorem aB0:aM tab 196 aJL:=Oc X2 rfl aH [(91,bL.clone eF),(170,bL.clone eF),(171,bL.clone eF),(172,bL.clone lW),(64,bL.clone ki),(173,bL.clone kb)] ⟨AZ,zR,GT,wK,qM,wJ,trivial⟩ fun a=>by kernel_rfl
def uC (p0:Int×Int×Int) (p1:Int):Option Int:=
 (fJ p0.1 p1).bind fun n0=>
 some n0
def aQo:bL:=⟨aD.cons (aN.agg (cO.row eF)) (aD.one (aN.int .i64)),aN.int .i64,fun a=>uC a.1 a.2,.pure,false⟩
theorem aIc:aM tab 289 aQo:=Oc aHs rfl aH [(151,VL)] ⟨DU,trivial⟩ fun a=>by kernel_rfl
def aT (s:P3):Option aHA:=
 bif decide (s.2.2.2.1<s.2.2.2.2) then
  (aK s.1 (aA .i64 (tR .u64 (aA .u64 (aA .i64 (s.2.2.2.1+s.2.2.2.2))) 1))).bind fun a0=>
  (uC a0 s.2.1).bind fun n1=>
  bif decide (n1<0) then
   some (.next (s.1,s.2.1,s.2.2.1,aA .i64 ((aA .i64 (tR .u64 (aA .u64 (aA .i64 (s.2.2.2.1+s.2.2.2.2))) 1))+1),s.2.2.2.2))
  else
   some (.next (s.1,s.2.1,s.2.2.1,s.2.2.2.1,aA .i64 (tR .u64 (aA .u64 (aA .i64 (s.2.2.2.1+s.2.2.2.2))) 1)))
 else
  bif decide (s.2.2.2.1<s.2.2.1) then
   (aK s.1 s.2.2.2.1).bind fun a2=>
   (uC a2 s.2.1).bind fun n3=>
   some (.done (s.2.2.2.1,n3==0))
  else
   some (.done (s.2.2.2.1,false))
def aW (p0:List (Int×Int×Int)) (p1:Int) (_:Unit):Option (Int×Bool):=
 aJ aT (p0,p1,Int.ofNat p0.length,0,Int.ofNat p0.length)
def SX:bL:=⟨aD.cons (aN.sl eF) (aD.cons (aN.int .i64) (aD.one (aN.clo 289 aD.nil))),aN.tup (aD.cons (aN.int .i64) (aD.one aN.bool)),fun a=>aW a.1 a.2.1 a.2.2,.pure,false⟩
theorem SY:aM tab 288 SX:=Oc aHr rfl aH [(289,aQo)] ⟨aIc,trivial⟩ fun a=>by kernel_rfl
def IM (p0:aU) (p1:Int):Option (Int×Int):=
 (rV p0).bind fun n0=>
 bif n0 !=0 then
  some (0,n0)
 else
  (aW p0.list p1 ()).bind fun a1=>
  bif !a1.2 then
   some (0,6)
  else
   some (a1.1,0)
def aQp:bL:=⟨aD.cons (aN.agg gT) (aD.one (aN.int .i64)),aN.tup (aD.cons (aN.int .i64) (aD.one (aN.int .i64))),fun a=>IM a.1 a.2,.pure,false⟩
theorem aId:aM tab 261 aQp:=Oc aHf rfl aH [(161,aHJ),(288,SX)] ⟨P8,SY,trivial⟩ fun a=>by kernel_rfl
def fP (a:aBQ):Option (Nat×Nat×bI):=
 bif (((decide (0<=a.1))&&(decide (a.1<=a.2.1)))&&(decide (a.2.1<=(Int.ofNat a.2.2.length))))&&(decide ((Int.ofNat a.2.2.length)<=(Int.ofNat a.2.2.length))) then
  bif a.1==a.2.1 then
   bif a.2.2.length==a.2.2.length then
    some (a.2.2.length,a.2.2.length,a.2.2)
   else
    none
  else
   (jO a.2.2 0 a.1).bind fun _=>
   bif ((decide (0<=a.2.1))&&(decide (a.2.1<=(Int.ofNat a.2.2.length))))&&(decide ((Int.ofNat a.2.2.length)<=(Int.ofNat a.2.2.length))) then
    bif ((a.2.2.drop (0+a.2.1.toNat)).take (((Int.ofNat a.2.2.length).toNat) -a.2.1.toNat)).isEmpty then
     bif ((decide (0<=(Int.ofNat a.1.toNat)))&&(decide ((Int.ofNat a.1.toNat)<=(Int.ofNat a.2.2.length))))&&(decide ((Int.ofNat a.2.2.length)<=(Int.ofNat a.2.2.length))) then
      bif Nat.beq (((Int.ofNat a.2.2.length).toNat) - ((Int.ofNat a.1.toNat).toNat)) 0 then
       bif a.2.2.length==a.2.2.length then
        some (a.1.toNat,a.2.2.length,a.2.2)
       else
        none
      else
       bif (Nat.ble ((0+((Int.ofNat a.1.toNat).toNat))+(((Int.ofNat a.2.2.length).toNat) - ((Int.ofNat a.1.toNat).toNat))) a.2.2.length)&&(!false) then
        bif ((iX a.2.2 (0+((Int.ofNat a.1.toNat).toNat)) (List.replicate (((Int.ofNat a.2.2.length).toNat) - ((Int.ofNat a.1.toNat).toNat)) (0,0,0))).length)==a.2.2.length then
         some (a.1.toNat,a.2.2.length,iX a.2.2 (0+((Int.ofNat a.1.toNat).toNat)) (List.replicate (((Int.ofNat a.2.2.length).toNat) - ((Int.ofNat a.1.toNat).toNat)) (0,0,0)))
        else
         none
       else
        none
     else
      none
    else
     bif Nat.ble (a.1.toNat+(((a.2.2.drop (0+a.2.1.toNat)).take (((Int.ofNat a.2.2.length).toNat) -a.2.1.toNat)).length)) a.2.2.length then
      bif (Nat.ble (a.1.toNat+(((a.2.2.drop (0+a.2.1.toNat)).take (((Int.ofNat a.2.2.length).toNat) -a.2.1.toNat)).length)) a.2.2.length)&&(!false) then
       bif ((decide (0<=(Int.ofNat (a.1.toNat+(((a.2.2.drop (0+a.2.1.toNat)).take (((Int.ofNat a.2.2.length).toNat) -a.2.1.toNat)).length)))))&&(decide ((Int.ofNat (a.1.toNat+(((a.2.2.drop (0+a.2.1.toNat)).take (((Int.ofNat a.2.2.length).toNat) -a.2.1.toNat)).length)))<=(Int.ofNat a.2.2.length))))&&(decide ((Int.ofNat a.2.2.length)<=(Int.ofNat a.2.2.length))) then
        bif Nat.beq (((Int.ofNat a.2.2.length).toNat) - ((Int.ofNat (a.1.toNat+(((a.2.2.drop (0+a.2.1.toNat)).take (((Int.ofNat a.2.2.length).toNat) -a.2.1.toNat)).length))).toNat)) 0 then
         bif ((iX a.2.2 a.1.toNat ((a.2.2.drop (0+a.2.1.toNat)).take (((Int.ofNat a.2.2.length).toNat) -a.2.1.toNat))).length)==a.2.2.length then
          some (a.1.toNat+(((a.2.2.drop (0+a.2.1.toNat)).take (((Int.ofNat a.2.2.length).toNat) -a.2.1.toNat)).length),a.2.2.length,iX a.2.2 a.1.toNat ((a.2.2.drop (0+a.2.1.toNat)).take (((Int.ofNat a.2.2.length).toNat) -a.2.1.toNat)))
         else
          none
        else
         bif (Nat.ble ((0+((Int.ofNat (a.1.toNat+(((a.2.2.drop (0+a.2.1.toNat)).take (((Int.ofNat a.2.2.length).toNat) -a.2.1.toNat)).length))).toNat))+(((Int.ofNat a.2.2.length).toNat) - ((Int.ofNat (a.1.toNat+(((a.2.2.drop (0+a.2.1.toNat)).take (((Int.ofNat a.2.2.length).toNat) -a.2.1.toNat)).length))).toNat))) ((iX a.2.2 a.1.toNat ((a.2.2.drop (0+a.2.1.toNat)).take (((Int.ofNat a.2.2.length).toNat) -a.2.1.toNat))).length))&&(!false) then
          bif ((iX (iX a.2.2 a.1.toNat ((a.2.2.drop (0+a.2.1.toNat)).take (((Int.ofNat a.2.2.length).toNat) -a.2.1.toNat))) (0+((Int.ofNat (a.1.toNat+(((a.2.2.drop (0+a.2.1.toNat)).take (((Int.ofNat a.2.2.length).toNat) -a.2.1.toNat)).length))).toNat)) (List.replicate (((Int.ofNat a.2.2.length).toNat) - ((Int.ofNat (a.1.toNat+(((a.2.2.drop (0+a.2.1.toNat)).take (((Int.ofNat a.2.2.length).toNat) -a.2.1.toNat)).length))).toNat)) (0,0,0))).length)==a.2.2.length then
           some (a.1.toNat+(((a.2.2.drop (0+a.2.1.toNat)).take (((Int.ofNat a.2.2.length).toNat) -a.2.1.toNat)).length),a.2.2.length,iX (iX a.2.2 a.1.toNat ((a.2.2.drop (0+a.2.1.toNat)).take (((Int.ofNat a.2.2.length).toNat) -a.2.1.toNat))) (0+((Int.ofNat (a.1.toNat+(((a.2.2.drop (0+a.2.1.toNat)).take (((Int.ofNat a.2.2.length).toNat) -a.2.1.toNat)).length))).toNat)) (List.replicate (((Int.ofNat a.2.2.length).toNat) - ((Int.ofNat (a.1.toNat+(((a.2.2.drop (0+a.2.1.toNat)).take (((Int.ofNat a.2.2.length).toNat) -a.2.1.toNat)).length))).toNat)) (0,0,0)))
          else
           none
         else
          none
       else
        none
      else
       none
     else
      none
   else
    none
 else
  none
def aB1:eH:=⟨[.i,.i,.l [.i .i64,.i .i64,.i .i64]],[.own 0 false,.int .i64 0,.int .i64 0],[.arr [.i .i64,.i .i64,.i .i64] []],[.n,.n,.l [.i .i64,.i .i64,.i .i64]],.pre 0 0 0 false,[.arr [.i .i64,.i .i64,.i .i64] []],fun a=>fP a⟩
theorem aAf:nB tab 262 aB1:=nB.of aHg (wd:=true) (cx:=(pG aH [] [] [] [])) (mK.make trivial trivial trivial) (fun a=>by kernel_rfl)
def xV (p0:aU) (p1:Int):Option (aU×(Int×Int)×Int):=
 (IM p0 p1).bind fun a0=>
 bif a0.2 !=0 then
  some (aU.mk 0 [],(0,0),a0.2)
 else
  (bR p0.list).bind fun l1=>
  (fP (a0.1,aA .i64 (a0.1+1),l1)).bind fun a2=>
  (aK p0.list a0.1).bind fun a3=>
  some (aU.mk p0.next_ (a2.2.2.take a2.1),a3.2,0)
def aQq:bL:=⟨aD.cons (aN.agg gT) (aD.one (aN.int .i64)),aN.tup (aD.cons (aN.agg gT) (aD.cons (aN.agg (cO.row kM)) (aD.one (aN.int .i64)))),fun a=>xV a.1 a.2,.frz,false⟩
theorem aIe:aM tab 211 aQq:=aM.of aGP (cx:=(pG aH [(261,aQp),(170,bL.clone eF)] [(262,aB1)] [] [])) rfl (mK.make ⟨aId,zR,trivial⟩ ⟨aAf,trivial⟩ trivial) (fun a=>by kernel_rfl)
def nN (p0:aP):Option aP:=
 (bR p0.field.points).bind fun l0=>
 (bR p0.certs.list).bind fun l1=>
 (bR p0.due).bind fun l2=>
 (bR p0.agenda.heap).bind fun l3=>
 (bR p0.agenda.where_).bind fun l4=>
 (bR p0.agenda.slots.uses).bind fun l5=>
 (bR p0.agenda.slots.used).bind fun l6=>
 (bR p0.agenda.slots.free).bind fun l7=>
 some (aP.mk p0.now (Field.mk l0) (aU.mk p0.certs.next_ l1) (aG.mk (aR.mk l5 l6 l7) l3 l4) l2)
def aIf:bL:=⟨aD.one (aN.agg bU),aN.agg bU,fun a=>nN a,.own,true⟩
def YE:bL:=⟨aD.one (aN.agg bU),aN.agg bU,fun a=>nN a,.frz,false⟩
theorem QG:aM tab 115 aIf:=Oc XS rfl aH [(91,bL.clone eF),(170,bL.clone eF),(171,bL.clone eF),(172,bL.clone lW),(64,bL.clone ki),(173,bL.clone kb)] ⟨AZ,zR,GT,wK,qM,wJ,trivial⟩ fun a=>by kernel_rfl
theorem MF:aM tab 115 YE:=Oc XS rfl aH [(91,bL.clone eF),(170,bL.clone eF),(171,bL.clone eF),(172,bL.clone lW),(64,bL.clone ki),(173,bL.clone kb)] ⟨AZ,zR,GT,wK,qM,wJ,trivial⟩ fun a=>by kernel_rfl
def yR (p0:Int×Int×Int) (p1:Int):Option Int:=
 (fJ p0.1 p1).bind fun n0=>
 some n0
def aQr:bL:=⟨aD.cons (aN.agg (cO.row eF)) (aD.one (aN.int .i64)),aN.int .i64,fun a=>yR a.1 a.2,.pure,false⟩
theorem aIg:aM tab 217 aQr:=Oc aGU rfl aH [(151,VL)] ⟨DU,trivial⟩ fun a=>by kernel_rfl
def jM (s:P3):Option aHA:=
 bif decide (s.2.2.2.1<s.2.2.2.2) then
  (aK s.1 (aA .i64 (tR .u64 (aA .u64 (aA .i64 (s.2.2.2.1+s.2.2.2.2))) 1))).bind fun a0=>
  (yR a0 s.2.1).bind fun n1=>
  bif decide (n1<0) then
   some (.next (s.1,s.2.1,s.2.2.1,aA .i64 ((aA .i64 (tR .u64 (aA .u64 (aA .i64 (s.2.2.2.1+s.2.2.2.2))) 1))+1),s.2.2.2.2))
  else
   some (.next (s.1,s.2.1,s.2.2.1,s.2.2.2.1,aA .i64 (tR .u64 (aA .u64 (aA .i64 (s.2.2.2.1+s.2.2.2.2))) 1)))
 else
  bif decide (s.2.2.2.1<s.2.2.1) then
   (aK s.1 s.2.2.2.1).bind fun a2=>
   (yR a2 s.2.1).bind fun n3=>
   some (.done (s.2.2.2.1,n3==0))
  else
   some (.done (s.2.2.2.1,false))
def dB (p0:List (Int×Int×Int)) (p1:Int) (_:Unit):Option (Int×Bool):=
 aJ jM (p0,p1,Int.ofNat p0.length,0,Int.ofNat p0.length)
def SZ:bL:=⟨aD.cons (aN.sl eF) (aD.cons (aN.int .i64) (aD.one (aN.clo 217 aD.nil))),aN.tup (aD.cons (aN.int .i64) (aD.one aN.bool)),fun a=>dB a.1 a.2.1 a.2.2,.pure,false⟩
theorem S0:aM tab 216 SZ:=Oc aGT rfl aH [(217,aQr)] ⟨aIg,trivial⟩ fun a=>by kernel_rfl
def pU (p0:List (Int×Int×Int)) (p1:Int):Option (Int×Bool):=
 (dB p0 p1 ()).bind fun a0=>
 some a0
def aOh:bL:=⟨aD.cons (aN.sl eF) (aD.one (aN.int .i64)),aN.tup (aD.cons (aN.int .i64) (aD.one aN.bool)),fun a=>pU a.1 a.2,.pure,false⟩
theorem YF:aM tab 179 aOh:=Oc aGu rfl aH [(216,SZ)] ⟨S0,trivial⟩ fun a=>by kernel_rfl
def CX (p0:aR) (p1:Int×Int):Option (Bool×Int):=
 (rW p0).bind fun n0=>
 bif n0 !=0 then
  some (false,n0)
 else
  bif decide (0<=p1.1) then
   bif decide (p1.1<(Int.ofNat p0.used.length)) then
    (aK p0.used p1.1).bind fun b1=>
    bif b1 then
     (aK p0.uses p1.1).bind fun n2=>
     some (n2==p1.2,0)
    else
     some (false,0)
   else
    some (false,0)
  else
   some (false,0)
def aOi:bL:=⟨aD.cons (aN.agg gL) (aD.one (aN.agg (cO.row kM))),aN.tup (aD.cons aN.bool (aD.one (aN.int .i64))),fun a=>CX a.1 a.2,.pure,false⟩
theorem YG:aM tab 264 aOi:=Oc aHh rfl aH [(207,aHM)] ⟨P9,trivial⟩ fun a=>by kernel_rfl
def qT (p0:aG) (p1:Int×Int):Option (Int×Int):=
 (lZ p0).bind fun n0=>
 bif n0 !=0 then
  some (0,n0)
 else
  (CX p0.slots p1).bind fun a1=>
  bif a1.2 !=0 then
   some (0,6)
  else
   bif !a1.1 then
    some (0,6)
   else
    (aK p0.where_ p1.1).bind fun n2=>
    some (n2,0)
def aOj:bL:=⟨aD.cons (aN.agg dD) (aD.one (aN.agg (cO.row kM))),aN.tup (aD.cons (aN.int .i64) (aD.one (aN.int .i64))),fun a=>qT a.1 a.2,.pure,false⟩
theorem YH:aM tab 218 aOj:=Oc aGV rfl aH [(162,aBU),(264,aOi)] ⟨KE,YG,trivial⟩ fun a=>by kernel_rfl
def uT (p0:List Int) (p1:Int):Option (List Int):=
 (bR p0).bind fun l0=>
 (bO l0 [p1]).bind fun l1=>
 some l1
def aQs:bL:=⟨aD.cons (aN.sl ki) (aD.one (aN.int .i64)),aN.sl ki,fun a=>uT a.1 a.2,.frz,false⟩
theorem aIh:aM tab 291 aQs:=Oc aHu rfl aH [(290,bL.clone ki)] ⟨SP,trivial⟩ fun a=>by kernel_rfl
def DV (p0:aR) (p1:Int×Int):Option (aR×Int):=
 (CX p0 p1).bind fun a0=>
 bif a0.2 !=0 then
  some (aR.mk [] [] [],a0.2)
 else
  bif !a0.1 then
   some (aR.mk [] [] [],6)
  else
   (bR p0.uses).bind fun l1=>
   (bR p0.used).bind fun l2=>
   (uT p0.free p1.1).bind fun l3=>
   (aK l2 p1.1).bind fun _=>
   some (aR.mk l1 (bM l2 p1.1 false) l3,0)
def aQt:bL:=⟨aD.cons (aN.agg gL) (aD.one (aN.agg (cO.row kM))),aN.tup (aD.cons (aN.agg gL) (aD.one (aN.int .i64))),fun a=>DV a.1 a.2,.frz,false⟩
theorem aIi:aM tab 269 aQt:=aM.of aHk (cx:=(pG aH [(264,aOi),(64,bL.clone ki),(173,bL.clone kb),(291,aQs)] [] [(268,aBE)] [])) rfl (mK.make ⟨YG,qM,wJ,aIh,trivial⟩ trivial ⟨X5,trivial⟩) (fun a=>by kernel_rfl)
def bV (a:aHw):Option NK:=
 (aK (a.2.2.2.2.2.2.2.2.2.2.2.1.take a.2.2.2.1) a.2.2.2.2.2.1).bind fun _=>
 (aK a.2.2.2.2.2.2.2.2.2.2.2.2 a.2.2.2.2.2.2.2.2.2.1).bind fun _=>
 bif ((bM a.2.2.2.2.2.2.2.2.2.2.2.1 a.2.2.2.2.2.1 (a.2.2.2.2.2.2.1,a.2.2.2.2.2.2.2.1,a.2.2.2.2.2.2.2.2.1,a.2.2.2.2.2.2.2.2.2.1,a.2.2.2.2.2.2.2.2.2.2.1)).length)==a.2.2.2.2.2.2.2.2.2.2.2.1.length then
  bif ((bM a.2.2.2.2.2.2.2.2.2.2.2.2 a.2.2.2.2.2.2.2.2.2.1 a.2.2.2.2.2.1).length)==a.2.2.2.2.2.2.2.2.2.2.2.2.length then
   some (bM a.2.2.2.2.2.2.2.2.2.2.2.1 a.2.2.2.2.2.1 (a.2.2.2.2.2.2.1,a.2.2.2.2.2.2.2.1,a.2.2.2.2.2.2.2.2.1,a.2.2.2.2.2.2.2.2.2.1,a.2.2.2.2.2.2.2.2.2.2.1),bM a.2.2.2.2.2.2.2.2.2.2.2.2 a.2.2.2.2.2.2.2.2.2.1 a.2.2.2.2.2.1)
  else
   none
 else
  none
def VM:eH:=⟨[.l [.i .i64],.l [.b],.l [.i .i64],.n,.n,.i,.i,.i,.i,.i,.i,.l [.i .i64,.i .i64,.i .i64,.i .i64,.i .i64],.l [.i .i64]],[.agg [.sl [.i .i64] [],.sl [.b] [],.sl [.i .i64] [],.pre 0 0 0 false,.own 1 false],.int .i64 0,.agg [.int .i64 0,.int .i64 0,.int .i64 0,.int .i64 0,.int .i64 0]],[.arr [.i .i64,.i .i64,.i .i64,.i .i64,.i .i64] [],.arr [.i .i64] []],[.l [.i .i64,.i .i64,.i .i64,.i .i64,.i .i64],.l [.i .i64]],.tup [],[.arr [.i .i64,.i .i64,.i .i64,.i .i64,.i .i64] [],.arr [.i .i64] []],fun a=>bV a⟩
theorem OJ:nB tab 265 VM:=nB.of X4 (wd:=false) (cx:=(pG aH [] [] [] [])) (mK.make trivial trivial trivial) (fun a=>by kernel_rfl)
def gD (c0:aHw) (s:aPO):Option (cA aPO aPK):=
 match s with
 |(a,b,d,e,f,g,h,i,j,k,l,m,n,o)=>
  bif decide (b<(Int.ofNat i)) then
   bif decide ((aA .i64 (b+1))<(Int.ofNat i)) then
    (aK (d.take i) (aA .i64 (b+1))).bind fun a0=>
    (aK (d.take i) b).bind fun a1=>
    (cE a0 a1).bind fun n2=>
    bif decide (n2<0) then
     (aK (d.take i) (aA .i64 (b+1))).bind fun a3=>
     (cE a3 (k,l,m,n,o)).bind fun n4=>
     bif decide (0<=n4) then
      (bV (f,g,h,i,j,a,k,l,m,n,o,d,e)).bind fun a5=>
      bif a5.1.length==c0.2.2.2.2.2.2.2.2.2.2.2.1.length then
       bif a5.2.length==c0.2.2.2.2.2.2.2.2.2.2.2.2.length then
        some (.done (.done a5))
       else
        none
      else
       none
     else
      (aK (d.take i) (aA .i64 (b+1))).bind fun a6=>
      (bV (f,g,h,i,j,a,a6.1,a6.2.1,a6.2.2.1,a6.2.2.2.1,a6.2.2.2.2,d,e)).bind fun a7=>
      some (.next (aA .i64 (b+1),aA .i64 ((aA .i64 (2*(aA .i64 (b+1))))+1),a7.1,a7.2,(f,g,h,i,j,k,l,m,n,o)))
    else
     (aK (d.take i) b).bind fun a8=>
     (cE a8 (k,l,m,n,o)).bind fun n9=>
     bif decide (0<=n9) then
      (bV (f,g,h,i,j,a,k,l,m,n,o,d,e)).bind fun a10=>
      bif a10.1.length==c0.2.2.2.2.2.2.2.2.2.2.2.1.length then
       bif a10.2.length==c0.2.2.2.2.2.2.2.2.2.2.2.2.length then
        some (.done (.done a10))
       else
        none
      else
       none
     else
      (aK (d.take i) b).bind fun a11=>
      (bV (f,g,h,i,j,a,a11.1,a11.2.1,a11.2.2.1,a11.2.2.2.1,a11.2.2.2.2,d,e)).bind fun a12=>
      some (.next (b,aA .i64 ((aA .i64 (2*b))+1),a12.1,a12.2,(f,g,h,i,j,k,l,m,n,o)))
   else
    (aK (d.take i) b).bind fun a13=>
    (cE a13 (k,l,m,n,o)).bind fun n14=>
    bif decide (0<=n14) then
     (bV (f,g,h,i,j,a,k,l,m,n,o,d,e)).bind fun a15=>
     bif a15.1.length==c0.2.2.2.2.2.2.2.2.2.2.2.1.length then
      bif a15.2.length==c0.2.2.2.2.2.2.2.2.2.2.2.2.length then
       some (.done (.done a15))
      else
       none
     else
      none
    else
     (aK (d.take i) b).bind fun a16=>
     (bV (f,g,h,i,j,a,a16.1,a16.2.1,a16.2.2.1,a16.2.2.2.1,a16.2.2.2.2,d,e)).bind fun a17=>
     some (.next (b,aA .i64 ((aA .i64 (2*b))+1),a17.1,a17.2,(f,g,h,i,j,k,l,m,n,o)))
  else
   (bV (f,g,h,i,j,a,k,l,m,n,o,d,e)).bind fun a18=>
   bif a18.1.length==c0.2.2.2.2.2.2.2.2.2.2.2.1.length then
    bif a18.2.length==c0.2.2.2.2.2.2.2.2.2.2.2.2.length then
     some (.done (.done a18))
    else
     none
   else
    none
def eQ (c0:aHw) (s:aPJ):Option aPK:=
 bif decide (0<s.1) then
  (aK (s.2.1.take s.2.2.2.2.2.2.1) (aA .i64 (Int.tdiv (aA .i64 (s.1-1)) 2))).bind fun a0=>
  (cE s.2.2.2.2.2.2.2.2 a0).bind fun n1=>
  bif decide (n1<0) then
   (aK (s.2.1.take s.2.2.2.2.2.2.1) (aA .i64 (Int.tdiv (aA .i64 (s.1-1)) 2))).bind fun a2=>
   (bV (s.2.2.2.1,s.2.2.2.2.1,s.2.2.2.2.2.1,s.2.2.2.2.2.2.1,s.2.2.2.2.2.2.2.1,s.1,a2.1,a2.2.1,a2.2.2.1,a2.2.2.2.1,a2.2.2.2.2,s.2.1,s.2.2.1)).bind fun a3=>
   some (.next (aA .i64 (Int.tdiv (aA .i64 (s.1-1)) 2),a3.1,a3.2,s.2.2.2))
  else
   aJ (gD c0) (s.1,aA .i64 ((aA .i64 (2*s.1))+1),s.2)
 else
  aJ (gD c0) (s.1,aA .i64 ((aA .i64 (2*s.1))+1),s.2)
def kS (a:aHw):Option NK:=
 aJ (eQ a) (a.2.2.2.2.2.1,a.2.2.2.2.2.2.2.2.2.2.2.1,a.2.2.2.2.2.2.2.2.2.2.2.2,a.1,a.2.1,a.2.2.1,a.2.2.2.1,a.2.2.2.2.1,a.2.2.2.2.2.2.1,a.2.2.2.2.2.2.2.1,a.2.2.2.2.2.2.2.2.1,a.2.2.2.2.2.2.2.2.2.1,a.2.2.2.2.2.2.2.2.2.2.1)
def QH:eH:=⟨[.l [.i .i64],.l [.b],.l [.i .i64],.n,.n,.i,.i,.i,.i,.i,.i,.l [.i .i64,.i .i64,.i .i64,.i .i64,.i .i64],.l [.i .i64]],[.agg [.sl [.i .i64] [],.sl [.b] [],.sl [.i .i64] [],.pre 0 0 0 false,.own 1 false],.int .i64 0,.agg [.int .i64 0,.int .i64 0,.int .i64 0,.int .i64 0,.int .i64 0]],[.arr [.i .i64,.i .i64,.i .i64,.i .i64,.i .i64] [],.arr [.i .i64] []],[.l [.i .i64,.i .i64,.i .i64,.i .i64,.i .i64],.l [.i .i64]],.tup [],[.arr [.i .i64,.i .i64,.i .i64,.i .i64,.i .i64] [],.arr [.i .i64] []],fun a=>kS a⟩
theorem IN:nB tab 220 QH:=nB.of X3 (wd:=false) (cx:=(pG aH [(208,aHU)] [(265,VM)] [] [])) (mK.make ⟨QA,trivial⟩ ⟨OJ,trivial⟩ trivial) (fun a=>by kernel_rfl)
def sS (p0:aG) (p1:Int):Option (aG×(Int×Int×Int×Int×Int)×Int):=
 (aK p0.heap p1).bind fun a0=>
 (DV p0.slots a0.2.2.2).bind fun a1=>
 bif a1.2 !=0 then
  some (aG.mk (aR.mk [] [] []) [] [],(0,0,0,0,0),a1.2)
 else
  (bR p0.heap).bind fun l2=>
  (bR p0.where_).bind fun l3=>
  (aK l2 (aA .i64 ((Int.ofNat l2.length) -1))).bind fun a4=>
  (jO l2 0 (aA .i64 ((Int.ofNat l2.length) -1))).bind fun _=>
  (aK l3 a0.2.2.2.1).bind fun _=>
  bif decide (p1<(aA .i64 ((Int.ofNat l2.length) -1))) then
   (kS (a1.1.uses,a1.1.used,a1.1.free,(aA .i64 ((Int.ofNat l2.length) -1)).toNat,l2.length,p1,a4.1,a4.2.1,a4.2.2.1,a4.2.2.2.1,a4.2.2.2.2,l2,bM l3 a0.2.2.2.1 (-1))).bind fun a7=>
   some (aG.mk a1.1 (a7.1.take ((aA .i64 ((Int.ofNat l2.length) -1)).toNat)) a7.2,a0,0)
  else
   some (aG.mk a1.1 (l2.take ((aA .i64 ((Int.ofNat l2.length) -1)).toNat)) (bM l3 a0.2.2.2.1 (-1)),a0,0)
def aQu:bL:=⟨aD.cons (aN.agg dD) (aD.one (aN.int .i64)),aN.tup (aD.cons (aN.agg dD) (aD.cons (aN.agg (cO.row lW)) (aD.one (aN.int .i64)))),fun a=>sS a.1 a.2,.frz,false⟩
theorem aIj:aM tab 224 aQu:=aM.of aGZ (cx:=(pG aH [(269,aQt),(172,bL.clone lW),(64,bL.clone ki)] [(220,QH)] [(219,aAa)] [])) rfl (mK.make ⟨aIi,wK,qM,trivial⟩ ⟨IN,trivial⟩ ⟨P0,trivial⟩) (fun a=>by kernel_rfl)
def mS (p0:aG) (p1:Int×Int):Option (aG×(Int×Int×Int×Int×Int)×Int):=
 (qT p0 p1).bind fun a0=>
 bif a0.2 !=0 then
  some (aG.mk (aR.mk [] [] []) [] [],(0,0,0,0,0),a0.2)
 else
  (sS p0 a0.1).bind fun a1=>
  some a1
def aOk:bL:=⟨aD.cons (aN.agg dD) (aD.one (aN.agg (cO.row kM))),aN.tup (aD.cons (aN.agg dD) (aD.cons (aN.agg (cO.row lW)) (aD.one (aN.int .i64)))),fun a=>mS a.1 a.2,.frz,false⟩
theorem YI:aM tab 182 aOk:=Oc aGx rfl aH [(218,aOj),(224,aQu)] ⟨YH,aIj,trivial⟩ fun a=>by kernel_rfl
def mA (a:aBQ):Option (Nat×Nat×bI):=
 bif (((decide (0<=a.1))&&(decide (a.1<=a.2.1)))&&(decide (a.2.1<=(Int.ofNat a.2.2.length))))&&(decide ((Int.ofNat a.2.2.length)<=(Int.ofNat a.2.2.length))) then
  bif a.1==a.2.1 then
   bif a.2.2.length==a.2.2.length then
    some (a.2.2.length,a.2.2.length,a.2.2)
   else
    none
  else
   (jO a.2.2 0 a.1).bind fun _=>
   bif ((decide (0<=a.2.1))&&(decide (a.2.1<=(Int.ofNat a.2.2.length))))&&(decide ((Int.ofNat a.2.2.length)<=(Int.ofNat a.2.2.length))) then
    bif ((a.2.2.drop (0+a.2.1.toNat)).take (((Int.ofNat a.2.2.length).toNat) -a.2.1.toNat)).isEmpty then
     bif ((decide (0<=(Int.ofNat a.1.toNat)))&&(decide ((Int.ofNat a.1.toNat)<=(Int.ofNat a.2.2.length))))&&(decide ((Int.ofNat a.2.2.length)<=(Int.ofNat a.2.2.length))) then
      bif Nat.beq (((Int.ofNat a.2.2.length).toNat) - ((Int.ofNat a.1.toNat).toNat)) 0 then
       bif a.2.2.length==a.2.2.length then
        some (a.1.toNat,a.2.2.length,a.2.2)
       else
        none
      else
       bif (Nat.ble ((0+((Int.ofNat a.1.toNat).toNat))+(((Int.ofNat a.2.2.length).toNat) - ((Int.ofNat a.1.toNat).toNat))) a.2.2.length)&&(!false) then
        bif ((iX a.2.2 (0+((Int.ofNat a.1.toNat).toNat)) (List.replicate (((Int.ofNat a.2.2.length).toNat) - ((Int.ofNat a.1.toNat).toNat)) (0,0,0))).length)==a.2.2.length then
         some (a.1.toNat,a.2.2.length,iX a.2.2 (0+((Int.ofNat a.1.toNat).toNat)) (List.replicate (((Int.ofNat a.2.2.length).toNat) - ((Int.ofNat a.1.toNat).toNat)) (0,0,0)))
        else
         none
       else
        none
     else
      none
    else
     bif Nat.ble (a.1.toNat+(((a.2.2.drop (0+a.2.1.toNat)).take (((Int.ofNat a.2.2.length).toNat) -a.2.1.toNat)).length)) a.2.2.length then
      bif (Nat.ble (a.1.toNat+(((a.2.2.drop (0+a.2.1.toNat)).take (((Int.ofNat a.2.2.length).toNat) -a.2.1.toNat)).length)) a.2.2.length)&&(!false) then
       bif ((decide (0<=(Int.ofNat (a.1.toNat+(((a.2.2.drop (0+a.2.1.toNat)).take (((Int.ofNat a.2.2.length).toNat) -a.2.1.toNat)).length)))))&&(decide ((Int.ofNat (a.1.toNat+(((a.2.2.drop (0+a.2.1.toNat)).take (((Int.ofNat a.2.2.length).toNat) -a.2.1.toNat)).length)))<=(Int.ofNat a.2.2.length))))&&(decide ((Int.ofNat a.2.2.length)<=(Int.ofNat a.2.2.length))) then
        bif Nat.beq (((Int.ofNat a.2.2.length).toNat) - ((Int.ofNat (a.1.toNat+(((a.2.2.drop (0+a.2.1.toNat)).take (((Int.ofNat a.2.2.length).toNat) -a.2.1.toNat)).length))).toNat)) 0 then
         bif ((iX a.2.2 a.1.toNat ((a.2.2.drop (0+a.2.1.toNat)).take (((Int.ofNat a.2.2.length).toNat) -a.2.1.toNat))).length)==a.2.2.length then
          some (a.1.toNat+(((a.2.2.drop (0+a.2.1.toNat)).take (((Int.ofNat a.2.2.length).toNat) -a.2.1.toNat)).length),a.2.2.length,iX a.2.2 a.1.toNat ((a.2.2.drop (0+a.2.1.toNat)).take (((Int.ofNat a.2.2.length).toNat) -a.2.1.toNat)))
         else
          none
        else
         bif (Nat.ble ((0+((Int.ofNat (a.1.toNat+(((a.2.2.drop (0+a.2.1.toNat)).take (((Int.ofNat a.2.2.length).toNat) -a.2.1.toNat)).length))).toNat))+(((Int.ofNat a.2.2.length).toNat) - ((Int.ofNat (a.1.toNat+(((a.2.2.drop (0+a.2.1.toNat)).take (((Int.ofNat a.2.2.length).toNat) -a.2.1.toNat)).length))).toNat))) ((iX a.2.2 a.1.toNat ((a.2.2.drop (0+a.2.1.toNat)).take (((Int.ofNat a.2.2.length).toNat) -a.2.1.toNat))).length))&&(!false) then
          bif ((iX (iX a.2.2 a.1.toNat ((a.2.2.drop (0+a.2.1.toNat)).take (((Int.ofNat a.2.2.length).toNat) -a.2.1.toNat))) (0+((Int.ofNat (a.1.toNat+(((a.2.2.drop (0+a.2.1.toNat)).take (((Int.ofNat a.2.2.length).toNat) -a.2.1.toNat)).length))).toNat)) (List.replicate (((Int.ofNat a.2.2.length).toNat) - ((Int.ofNat (a.1.toNat+(((a.2.2.drop (0+a.2.1.toNat)).take (((Int.ofNat a.2.2.length).toNat) -a.2.1.toNat)).length))).toNat)) (0,0,0))).length)==a.2.2.length then
           some (a.1.toNat+(((a.2.2.drop (0+a.2.1.toNat)).take (((Int.ofNat a.2.2.length).toNat) -a.2.1.toNat)).length),a.2.2.length,iX (iX a.2.2 a.1.toNat ((a.2.2.drop (0+a.2.1.toNat)).take (((Int.ofNat a.2.2.length).toNat) -a.2.1.toNat))) (0+((Int.ofNat (a.1.toNat+(((a.2.2.drop (0+a.2.1.toNat)).take (((Int.ofNat a.2.2.length).toNat) -a.2.1.toNat)).length))).toNat)) (List.replicate (((Int.ofNat a.2.2.length).toNat) - ((Int.ofNat (a.1.toNat+(((a.2.2.drop (0+a.2.1.toNat)).take (((Int.ofNat a.2.2.length).toNat) -a.2.1.toNat)).length))).toNat)) (0,0,0)))
          else
           none
         else
          none
       else
        none
      else
       none
     else
      none
   else
    none
 else
  none
def aB2:eH:=⟨[.i,.i,.l [.i .i64,.i .i64,.i .i64]],[.own 0 false,.int .i64 0,.int .i64 0],[.arr [.i .i64,.i .i64,.i .i64] []],[.n,.n,.l [.i .i64,.i .i64,.i .i64]],.pre 0 0 0 false,[.arr [.i .i64,.i .i64,.i .i64] []],fun a=>mA a⟩
theorem aAg:nB tab 212 aB2:=nB.of aGQ (wd:=true) (cx:=(pG aH [] [] [] [])) (mK.make trivial trivial trivial) (fun a=>by kernel_rfl)
def rZ (p0:aP) (p1:Int):Option (aP×(Int×Int)×Int):=
 (xV p0.certs p1).bind fun a0=>
 bif a0.2.2 !=0 then
  some (aP.mk (0,0) (Field.mk []) (aU.mk 0 []) (aG.mk (aR.mk [] [] []) [] []) [],a0.2)
 else
  (nN p0).bind fun r1=>
  (pU p0.due p1).bind fun a2=>
  bif a2.2 then
   (aK p0.due a2.1).bind fun a3=>
   (mS p0.agenda a3.2).bind fun a4=>
   bif a4.2.2 !=0 then
    some (aP.mk (0,0) (Field.mk []) (aU.mk 0 []) (aG.mk (aR.mk [] [] []) [] []) [],a0.2.1,a4.2.2)
   else
    (mA (a2.1,aA .i64 (a2.1+1),r1.due)).bind fun a5=>
    some (aP.mk r1.now r1.field a0.1 a4.1 (a5.2.2.take a5.1),a0.2.1,0)
  else
   some (aP.mk r1.now r1.field a0.1 r1.agenda r1.due,a0.2.1,0)
def aQv:bL:=⟨aD.cons (aN.agg bU) (aD.one (aN.int .i64)),aN.tup (aD.cons (aN.agg bU) (aD.cons (aN.agg (cO.row kM)) (aD.one (aN.int .i64)))),fun a=>rZ a.1 a.2,.frz,false⟩
theorem aIk:aM tab 168 aQv:=aM.of aGm (cx:=(pG aH [(211,aQq),(115,aIf),(115,YE),(179,aOh),(182,aOk)] [(212,aB2)] [] [])) rfl (mK.make ⟨aIe,QG,MF,YF,YI,trivial⟩ ⟨aAg,trivial⟩ trivial) (fun a=>by kernel_rfl)
def vK (p0:aP) (p1:Int):Option (aP×Int):=
 (gZ p0).bind fun n0=>
 bif n0 !=0 then
  some (aP.mk (0,0) (Field.mk []) (aU.mk 0 []) (aG.mk (aR.mk [] [] []) [] []) [],n0)
 else
  (rZ p0 p1).bind fun a1=>
  some (a1.1,a1.2.2)
def aQw:bL:=⟨aD.cons (aN.agg bU) (aD.one (aN.int .i64)),aN.tup (aD.cons (aN.agg bU) (aD.one (aN.int .i64))),fun a=>vK a.1 a.2,.frz,false⟩
theorem aIl:aM tab 119 aQw:=Oc aFS rfl aH [(103,aAe),(168,aQv)] ⟨GX,aIk,trivial⟩ fun a=>by kernel_rfl
def jL (s:(bI×bI×Int×Int)):Option (cA (bI×bI×Int×Int) Bool):=
 bif decide (s.2.2.2<s.2.2.1) then
  (aK s.1 s.2.2.2).bind fun a0=>
  (aK s.2.1 s.2.2.2).bind fun a1=>
  bif !((a0.1==a1.1)&&((a0.2.1==a1.2.1)&&(a0.2.2==a1.2.2))) then
   some (.done false)
  else
   some (.next (s.1,s.2.1,s.2.2.1,aA .i64 (s.2.2.2+1)))
 else
  some (.done true)
def mB (p0:List (Int×Int×Int)) (p1:List (Int×Int×Int)):Option Bool:=
 bif (Int.ofNat p0.length) !=(Int.ofNat p1.length) then
  some false
 else
  aJ jL (p0,p1,Int.ofNat p0.length,0)
def aQx:bL:=⟨aD.cons (aN.sl eF) (aD.one (aN.sl eF)),aN.bool,fun a=>mB a.1 a.2,.pure,false⟩
theorem aIm:aM tab 120 aQx:=Oc aFT rfl aH [] trivial fun a=>by kernel_rfl
def bW (a:aHx):Option NK:=
 (aK a.2.2.2.2.2.2.2.2.2.1 a.2.2.2.1).bind fun _=>
 (aK a.2.2.2.2.2.2.2.2.2.2 a.2.2.2.2.2.2.2.1).bind fun _=>
 bif ((bM a.2.2.2.2.2.2.2.2.2.1 a.2.2.2.1 (a.2.2.2.2.1,a.2.2.2.2.2.1,a.2.2.2.2.2.2.1,a.2.2.2.2.2.2.2.1,a.2.2.2.2.2.2.2.2.1)).length)==a.2.2.2.2.2.2.2.2.2.1.length then
  bif ((bM a.2.2.2.2.2.2.2.2.2.2 a.2.2.2.2.2.2.2.1 a.2.2.2.1).length)==a.2.2.2.2.2.2.2.2.2.2.length then
   some (bM a.2.2.2.2.2.2.2.2.2.1 a.2.2.2.1 (a.2.2.2.2.1,a.2.2.2.2.2.1,a.2.2.2.2.2.2.1,a.2.2.2.2.2.2.2.1,a.2.2.2.2.2.2.2.2.1),bM a.2.2.2.2.2.2.2.2.2.2 a.2.2.2.2.2.2.2.1 a.2.2.2.1)
  else
   none
 else
  none
def aB3:eH:=⟨[.l [.i .i64],.l [.b],.l [.i .i64],.i,.i,.i,.i,.i,.i,.l [.i .i64,.i .i64,.i .i64,.i .i64,.i .i64],.l [.i .i64]],[.agg [.sl [.i .i64] [],.sl [.b] [],.sl [.i .i64] [],.own 0 false,.own 1 false],.int .i64 0,.agg [.int .i64 0,.int .i64 0,.int .i64 0,.int .i64 0,.int .i64 0]],[.arr [.i .i64,.i .i64,.i .i64,.i .i64,.i .i64] [],.arr [.i .i64] []],[.l [.i .i64,.i .i64,.i .i64,.i .i64,.i .i64],.l [.i .i64]],.tup [],[.arr [.i .i64,.i .i64,.i .i64,.i .i64,.i .i64] [],.arr [.i .i64] []],fun a=>bW a⟩
theorem aAh:nB tab 265 aB3:=nB.of X4 (wd:=false) (cx:=(pG aH [] [] [] [])) (mK.make trivial trivial trivial) (fun a=>by kernel_rfl)
def gE (c0:aHx) (s:aPP):Option (cA aPP aPM):=
 match s with
 |(a,b,d,e,f,g,h,i,j,k,l,m)=>
  bif decide (b<(Int.ofNat d.length)) then
   bif decide ((aA .i64 (b+1))<(Int.ofNat d.length)) then
    (aK d (aA .i64 (b+1))).bind fun a0=>
    (aK d b).bind fun a1=>
    (cE a0 a1).bind fun n2=>
    bif decide (n2<0) then
     (aK d (aA .i64 (b+1))).bind fun a3=>
     (cE a3 (i,j,k,l,m)).bind fun n4=>
     bif decide (0<=n4) then
      (bW (f,g,h,a,i,j,k,l,m,d,e)).bind fun a5=>
      bif a5.1.length==c0.2.2.2.2.2.2.2.2.2.1.length then
       bif a5.2.length==c0.2.2.2.2.2.2.2.2.2.2.length then
        some (.done (.done a5))
       else
        none
      else
       none
     else
      (aK d (aA .i64 (b+1))).bind fun a6=>
      (bW (f,g,h,a,a6.1,a6.2.1,a6.2.2.1,a6.2.2.2.1,a6.2.2.2.2,d,e)).bind fun a7=>
      some (.next (aA .i64 (b+1),aA .i64 ((aA .i64 (2*(aA .i64 (b+1))))+1),a7.1,a7.2,(f,g,h,i,j,k,l,m)))
    else
     (aK d b).bind fun a8=>
     (cE a8 (i,j,k,l,m)).bind fun n9=>
     bif decide (0<=n9) then
      (bW (f,g,h,a,i,j,k,l,m,d,e)).bind fun a10=>
      bif a10.1.length==c0.2.2.2.2.2.2.2.2.2.1.length then
       bif a10.2.length==c0.2.2.2.2.2.2.2.2.2.2.length then
        some (.done (.done a10))
       else
        none
      else
       none
     else
      (aK d b).bind fun a11=>
      (bW (f,g,h,a,a11.1,a11.2.1,a11.2.2.1,a11.2.2.2.1,a11.2.2.2.2,d,e)).bind fun a12=>
      some (.next (b,aA .i64 ((aA .i64 (2*b))+1),a12.1,a12.2,(f,g,h,i,j,k,l,m)))
   else
    (aK d b).bind fun a13=>
    (cE a13 (i,j,k,l,m)).bind fun n14=>
    bif decide (0<=n14) then
     (bW (f,g,h,a,i,j,k,l,m,d,e)).bind fun a15=>
     bif a15.1.length==c0.2.2.2.2.2.2.2.2.2.1.length then
      bif a15.2.length==c0.2.2.2.2.2.2.2.2.2.2.length then
       some (.done (.done a15))
      else
       none
     else
      none
    else
     (aK d b).bind fun a16=>
     (bW (f,g,h,a,a16.1,a16.2.1,a16.2.2.1,a16.2.2.2.1,a16.2.2.2.2,d,e)).bind fun a17=>
     some (.next (b,aA .i64 ((aA .i64 (2*b))+1),a17.1,a17.2,(f,g,h,i,j,k,l,m)))
  else
   (bW (f,g,h,a,i,j,k,l,m,d,e)).bind fun a18=>
   bif a18.1.length==c0.2.2.2.2.2.2.2.2.2.1.length then
    bif a18.2.length==c0.2.2.2.2.2.2.2.2.2.2.length then
     some (.done (.done a18))
    else
     none
   else
    none
def eS (c0:aHx) (s:aPL):Option aPM:=
 bif decide (0<s.1) then
  (aK s.2.1 (aA .i64 (Int.tdiv (aA .i64 (s.1-1)) 2))).bind fun a0=>
  (cE s.2.2.2.2.2.2 a0).bind fun n1=>
  bif decide (n1<0) then
   (aK s.2.1 (aA .i64 (Int.tdiv (aA .i64 (s.1-1)) 2))).bind fun a2=>
   (bW (s.2.2.2.1,s.2.2.2.2.1,s.2.2.2.2.2.1,s.1,a2.1,a2.2.1,a2.2.2.1,a2.2.2.2.1,a2.2.2.2.2,s.2.1,s.2.2.1)).bind fun a3=>
   some (.next (aA .i64 (Int.tdiv (aA .i64 (s.1-1)) 2),a3.1,a3.2,s.2.2.2))
  else
   aJ (gE c0) (s.1,aA .i64 ((aA .i64 (2*s.1))+1),s.2)
 else
  aJ (gE c0) (s.1,aA .i64 ((aA .i64 (2*s.1))+1),s.2)
def eX (a:aHx):Option NK:=
 aJ (eS a) (a.2.2.2.1,a.2.2.2.2.2.2.2.2.2.1,a.2.2.2.2.2.2.2.2.2.2,a.1,a.2.1,a.2.2.1,a.2.2.2.2.1,a.2.2.2.2.2.1,a.2.2.2.2.2.2.1,a.2.2.2.2.2.2.2.1,a.2.2.2.2.2.2.2.2.1)
def VN:eH:=⟨[.l [.i .i64],.l [.b],.l [.i .i64],.i,.i,.i,.i,.i,.i,.l [.i .i64,.i .i64,.i .i64,.i .i64,.i .i64],.l [.i .i64]],[.agg [.sl [.i .i64] [],.sl [.b] [],.sl [.i .i64] [],.own 0 false,.own 1 false],.int .i64 0,.agg [.int .i64 0,.int .i64 0,.int .i64 0,.int .i64 0,.int .i64 0]],[.arr [.i .i64,.i .i64,.i .i64,.i .i64,.i .i64] [],.arr [.i .i64] []],[.l [.i .i64,.i .i64,.i .i64,.i .i64,.i .i64],.l [.i .i64]],.tup [],[.arr [.i .i64,.i .i64,.i .i64,.i .i64,.i .i64] [],.arr [.i .i64] []],fun a=>eX a⟩
theorem OK:nB tab 220 VN:=nB.of X3 (wd:=false) (cx:=(pG aH [(208,aHU)] [(265,VM),(265,aB3)] [] [])) (mK.make ⟨QA,trivial⟩ ⟨OJ,aAh,trivial⟩ trivial) (fun a=>by kernel_rfl)
def vL (p0:aG) (p1:Int×Int) (p2:Int×Int):Option (aG×Int):=
 (lZ p0).bind fun n0=>
 (iV p2).bind fun n1=>
 bif (if n1>n0 then n1 else n0) !=0 then
  some (aG.mk (aR.mk [] [] []) [] [],if n1>n0 then n1 else n0)
 else
  (qT p0 p1).bind fun a2=>
  bif a2.2 !=0 then
   some (aG.mk (aR.mk [] [] []) [] [],a2.2)
  else
   (bR p0.heap).bind fun l3=>
   (bR p0.where_).bind fun l4=>
   (aK l3 a2.1).bind fun a5=>
   (eX (p0.slots.uses,p0.slots.used,p0.slots.free,a2.1,p2.1,p2.2,a5.2.2.1,a5.2.2.2.1,a5.2.2.2.2,l3,l4)).bind fun a6=>
   some (aG.mk p0.slots a6.1 a6.2,0)
def aQy:bL:=⟨aD.cons (aN.agg dD) (aD.cons (aN.agg (cO.row kM)) (aD.one (aN.agg (cO.row kM)))),aN.tup (aD.cons (aN.agg dD) (aD.one (aN.int .i64))),fun a=>vL a.1 a.2.1 a.2.2,.frz,false⟩
theorem aIn:aM tab 180 aQy:=aM.of aGv (cx:=(pG aH [(162,aBU),(60,c60),(218,aOj),(172,bL.clone lW),(64,bL.clone ki)] [(220,QH),(220,VN)] [(219,aAa)] [])) rfl (mK.make ⟨KE,IK,YH,wK,qM,trivial⟩ ⟨IN,OK,trivial⟩ ⟨P0,trivial⟩) (fun a=>by kernel_rfl)
def yS (p0:Int×Int×Int×Int×Int) (p1:Int):Option Bool:=
 some (p0.2.2.1==p1)
def aQz:bL:=⟨aD.cons (aN.agg (cO.row lW)) (aD.one (aN.ref (cO.int .i64))),aN.bool,fun a=>yS a.1 a.2,.pure,false⟩
theorem aIo:aM tab 222 aQz:=Oc aGX rfl aH [] trivial fun a=>by kernel_rfl
def cS (s:(iM×Int×Int×Int)):Option (cA (iM×Int×Int×Int) Int):=
 bif decide (s.2.2.2<s.2.2.1) then
  (aK s.1 s.2.2.2).bind fun a0=>
  (yS a0 s.2.1).bind fun b1=>
  bif b1 then
   some (.done s.2.2.2)
  else
   some (.next (s.1,s.2.1,s.2.2.1,aA .i64 (s.2.2.2+1)))
 else
  some (.done (-1))
def eT (p0:List (Int×Int×Int×Int×Int)) (p1:Int):Option Int:=
 aJ cS (p0,p1,Int.ofNat p0.length,0)
def S1:bL:=⟨aD.cons (aN.sl lW) (aD.one (aN.clo 222 (aD.one (aN.ref (cO.int .i64))))),aN.int .i64,fun a=>eT a.1 a.2,.pure,false⟩
theorem S2:aM tab 266 S1:=Oc aHi rfl aH [(222,aQz)] ⟨aIo,trivial⟩ fun a=>by kernel_rfl
def cT (p0:List (Int×Int×Int×Int×Int)) (p1:Int):Option Bool:=
 (eT p0 p1).bind fun n0=>
 some (decide (0<=n0))
def S3:bL:=⟨aD.cons (aN.sl lW) (aD.one (aN.clo 222 (aD.one (aN.ref (cO.int .i64))))),aN.bool,fun a=>cT a.1 a.2,.pure,false⟩
theorem S4:aM tab 221 S3:=Oc aGW rfl aH [(266,S1)] ⟨S2,trivial⟩ fun a=>by kernel_rfl
def wP (p0:List Int):Option ((List Int)×Int):=
 (jO p0 0 (aA .i64 ((Int.ofNat p0.length) -1))).bind fun l0=>
 (bR l0).bind fun l1=>
 (aK p0 (aA .i64 ((Int.ofNat p0.length) -1))).bind fun n2=>
 some (l1,n2)
def aQA:bL:=⟨aD.one (aN.sl ki),aN.tup (aD.cons (aN.sl ki) (aD.one (aN.int .i64))),fun a=>wP a,.frz,false⟩
theorem aIp:aM tab 267 aQA:=Oc aHj rfl aH [(290,bL.clone ki)] ⟨SP,trivial⟩ fun a=>by kernel_rfl
def DW (p0:aR):Option (aR×(Int×Int)×Int):=
 (rW p0).bind fun n0=>
 bif n0 !=0 then
  some (aR.mk [] [] [],(0,0),n0)
 else
  bif (Int.ofNat p0.free.length)==0 then
   some (aR.mk [] [] [],(0,0),18)
  else
   (wP p0.free).bind fun a1=>
   (aK p0.uses a1.2).bind fun n2=>
   bif n2==1000000 then
    some (aR.mk [] [] [],(0,0),18)
   else
    (bR p0.uses).bind fun l3=>
    (bR p0.used).bind fun l4=>
    (aK l4 a1.2).bind fun _=>
    (aK l3 a1.2).bind fun n6=>
    (aK l3 a1.2).bind fun _=>
    (aK (bM l3 a1.2 (aA .i64 (n6+1))) a1.2).bind fun n8=>
    some (aR.mk (bM l3 a1.2 (aA .i64 (n6+1))) (bM l4 a1.2 true) a1.1,(a1.2,n8),0)
def aQB:bL:=⟨aD.one (aN.agg gL),aN.tup (aD.cons (aN.agg gL) (aD.cons (aN.agg (cO.row kM)) (aD.one (aN.int .i64)))),fun a=>DW a,.frz,false⟩
theorem aIq:aM tab 223 aQB:=aM.of aGY (cx:=(pG aH [(207,aHM),(267,aQA),(64,bL.clone ki),(173,bL.clone kb)] [] [(268,aBE)] [])) rfl (mK.make ⟨P9,aIp,qM,wJ,trivial⟩ trivial ⟨X5,trivial⟩) (fun a=>by kernel_rfl)
def lP (p0:aG) (p1:Int×Int) (p2:Int):Option (aG×(Int×Int)×Int):=
 (lZ p0).bind fun n0=>
 (iV p1).bind fun n1=>
 bif (if n1>n0 then n1 else n0) !=0 then
  some (aG.mk (aR.mk [] [] []) [] [],(0,0),if n1>n0 then n1 else n0)
 else
  bif decide (p2<0) then
   some (aG.mk (aR.mk [] [] []) [] [],(0,0),2)
  else
   bif decide (1000000<p2) then
    some (aG.mk (aR.mk [] [] []) [] [],(0,0),2)
   else
    (cT p0.heap p2).bind fun b2=>
    bif b2 then
     some (aG.mk (aR.mk [] [] []) [] [],(0,0),14)
    else
     (DW p0.slots).bind fun a3=>
     bif a3.2.2 !=0 then
      some (aG.mk (aR.mk [] [] []) [] [],(0,0),a3.2.2)
     else
      (bR p0.heap).bind fun l4=>
      (bR p0.where_).bind fun l5=>
      (bO l4 [(p1.1,p1.2,p2,a3.2.1)]).bind fun l6=>
      (eX (a3.1.uses,a3.1.used,a3.1.free,aA .i64 ((Int.ofNat l6.length) -1),p1.1,p1.2,p2,a3.2.1.1,a3.2.1.2,l6,l5)).bind fun a7=>
      some (aG.mk a3.1 a7.1 a7.2,a3.2.1,0)
def aOl:bL:=⟨aD.cons (aN.agg dD) (aD.cons (aN.agg (cO.row kM)) (aD.one (aN.int .i64))),aN.tup (aD.cons (aN.agg dD) (aD.cons (aN.agg (cO.row kM)) (aD.one (aN.int .i64)))),fun a=>lP a.1 a.2.1 a.2.2,.frz,false⟩
theorem YJ:aM tab 181 aOl:=aM.of aGw (cx:=(pG aH [(162,aBU),(60,c60),(221,S3),(223,aQB),(172,bL.clone lW),(64,bL.clone ki)] [(220,QH),(220,VN)] [(219,aAa)] [])) rfl (mK.make ⟨KE,IK,S4,aIq,wK,qM,trivial⟩ ⟨IN,OK,trivial⟩ ⟨P0,trivial⟩) (fun a=>by kernel_rfl)
def dK (s:Zt5):Option (cA Zt5 aPy):=
 match s with
 |(a,b,d,e,f,g,h,i,j,k,l,m,n,o,q,r,t,u,v,w,x,y,z,A,B,C,D,E,F)=>
  bif decide (d<b) then
   (aK a d).bind fun a0=>
   (rY (Field.mk q) a0.2 (e,f)).bind fun a1=>
   (pU o a0.1).bind fun a2=>
   bif a1.2.1 then
    bif a2.2 then
     (aK o a2.1).bind fun a3=>
     (vL (aG.mk (aR.mk z A B) C D) a3.2 a1.1).bind fun a4=>
     (aK o a2.1).bind fun a5=>
     (bO F [a5]).bind fun l6=>
     bif a4.2 !=0 then
      some (.done (.done (aP.mk (0,0) (Field.mk []) (aU.mk 0 []) (aG.mk (aR.mk [] [] []) [] []) [],a4.2)))
     else
      some (.next (a,b,aA .i64 (d+1),e,f,g,h,i,j,k,l,m,n,o,q,r,t,u,v,w,x,y,a4.1.slots.uses,a4.1.slots.used,a4.1.slots.free,a4.1.heap,a4.1.where_,E,l6))
    else
     bif a1.2.1 then
      (lP (aG.mk (aR.mk z A B) C D) a1.1 a0.1).bind fun a7=>
      (bO F [(a0.1,a7.2.1)]).bind fun l8=>
      bif a7.2.2 !=0 then
       some (.done (.done (aP.mk (0,0) (Field.mk []) (aU.mk 0 []) (aG.mk (aR.mk [] [] []) [] []) [],a7.2.2)))
      else
       some (.next (a,b,aA .i64 (d+1),e,f,g,h,i,j,k,l,m,n,o,q,r,t,u,v,w,x,y,a7.1.slots.uses,a7.1.slots.used,a7.1.slots.free,a7.1.heap,a7.1.where_,E,l8))
     else
      bif a2.2 then
       (aK o a2.1).bind fun a9=>
       (mS (aG.mk (aR.mk z A B) C D) a9.2).bind fun a10=>
       bif a10.2.2 !=0 then
        some (.done (.done (aP.mk (0,0) (Field.mk []) (aU.mk 0 []) (aG.mk (aR.mk [] [] []) [] []) [],a10.2.2)))
       else
        some (.next (a,b,aA .i64 (d+1),e,f,g,h,i,j,k,l,m,n,o,q,r,t,u,v,w,x,y,a10.1.slots.uses,a10.1.slots.used,a10.1.slots.free,a10.1.heap,a10.1.where_,(E,F)))
      else
       bif a1.2.2 !=0 then
        some (.done (.done (aP.mk (0,0) (Field.mk []) (aU.mk 0 []) (aG.mk (aR.mk [] [] []) [] []) [],a1.2.2)))
       else
        some (.next (a,b,aA .i64 (d+1),(e,f,g,h,i,j,k,l,m,n,o,q,r,t,u,v,w,x,y,z,A,B,C,D,E,F)))
   else
    bif a1.2.1 then
     (lP (aG.mk (aR.mk z A B) C D) a1.1 a0.1).bind fun a11=>
     (bO F [(a0.1,a11.2.1)]).bind fun l12=>
     bif a11.2.2 !=0 then
      some (.done (.done (aP.mk (0,0) (Field.mk []) (aU.mk 0 []) (aG.mk (aR.mk [] [] []) [] []) [],a11.2.2)))
     else
      some (.next (a,b,aA .i64 (d+1),e,f,g,h,i,j,k,l,m,n,o,q,r,t,u,v,w,x,y,a11.1.slots.uses,a11.1.slots.used,a11.1.slots.free,a11.1.heap,a11.1.where_,E,l12))
    else
     bif a2.2 then
      (aK o a2.1).bind fun a13=>
      (mS (aG.mk (aR.mk z A B) C D) a13.2).bind fun a14=>
      bif a14.2.2 !=0 then
       some (.done (.done (aP.mk (0,0) (Field.mk []) (aU.mk 0 []) (aG.mk (aR.mk [] [] []) [] []) [],a14.2.2)))
      else
       some (.next (a,b,aA .i64 (d+1),e,f,g,h,i,j,k,l,m,n,o,q,r,t,u,v,w,x,y,a14.1.slots.uses,a14.1.slots.used,a14.1.slots.free,a14.1.heap,a14.1.where_,(E,F)))
     else
      bif a1.2.2 !=0 then
       some (.done (.done (aP.mk (0,0) (Field.mk []) (aU.mk 0 []) (aG.mk (aR.mk [] [] []) [] []) [],a1.2.2)))
      else
       some (.next (a,b,aA .i64 (d+1),(e,f,g,h,i,j,k,l,m,n,o,q,r,t,u,v,w,x,y,z,A,B,C,D,E,F)))
  else
   some (.done (.done (aP.mk (v,w) (Field.mk E) (aU.mk x y) (aG.mk (aR.mk z A B) C D) F,0)))
def lB (s:aPx):Option aPy:=
 bif decide (s.2.2.1<s.2.1) then
  (aK s.1 s.2.2.1).bind fun a0=>
  (jY (Field.mk s.2.2.2.2.2.2.2.2.2.2.2.2.2.2.1) a0.2.1).bind fun a1=>
  bif decide (a1.1<0) then
   some (.done (aP.mk (0,0) (Field.mk []) (aU.mk 0 []) (aG.mk (aR.mk [] [] []) [] []) [],6))
  else
   (jY (Field.mk s.2.2.2.2.2.2.2.2.2.2.2.2.2.2.1) a0.2.2).bind fun a2=>
   bif decide (a2.1<0) then
    some (.done (aP.mk (0,0) (Field.mk []) (aU.mk 0 []) (aG.mk (aR.mk [] [] []) [] []) [],6))
   else
    some (.next (s.1,s.2.1,aA .i64 (s.2.2.1+1),s.2.2.2))
 else
  (nN (aP.mk (s.2.2.2.1,s.2.2.2.2.1) (Field.mk s.2.2.2.2.2.1) (aU.mk s.2.2.2.2.2.2.1 s.2.2.2.2.2.2.2.1) (aG.mk (aR.mk s.2.2.2.2.2.2.2.2.1 s.2.2.2.2.2.2.2.2.2.1 s.2.2.2.2.2.2.2.2.2.2.1) s.2.2.2.2.2.2.2.2.2.2.2.1 s.2.2.2.2.2.2.2.2.2.2.2.2.1) s.2.2.2.2.2.2.2.2.2.2.2.2.2.1)).bind fun r3=>
  (bR s.2.2.2.2.2.2.2.2.2.2.2.2.2.2.1).bind fun l4=>
  aJ dK (s.2.2.2.2.2.2.2.1,Int.ofNat s.2.2.2.2.2.2.2.1.length,0,s.2.2.2.1,s.2.2.2.2.1,s.2.2.2.2.2.1,s.2.2.2.2.2.2.1,s.2.2.2.2.2.2.2.1,s.2.2.2.2.2.2.2.2.1,s.2.2.2.2.2.2.2.2.2.1,s.2.2.2.2.2.2.2.2.2.2.1,s.2.2.2.2.2.2.2.2.2.2.2.1,s.2.2.2.2.2.2.2.2.2.2.2.2.1,s.2.2.2.2.2.2.2.2.2.2.2.2.2.1,s.2.2.2.2.2.2.2.2.2.2.2.2.2.2.1,s.2.2.2.2.2.2.2.2.2.2.2.2.2.2.2.1,s.2.2.2.2.2.2.2.2.2.2.2.2.2.2.2.2.1,s.2.2.2.2.2.2.2.2.2.2.2.2.2.2.2.2.2,r3.now.1,r3.now.2,r3.certs.next_,r3.certs.list,r3.agenda.slots.uses,r3.agenda.slots.used,r3.agenda.slots.free,r3.agenda.heap,r3.agenda.where_,l4,[])
def pV (p0:aP) (p1:Field):Option (aP×Int):=
 (gZ p0).bind fun n0=>
 bif n0 !=0 then
  some (aP.mk (0,0) (Field.mk []) (aU.mk 0 []) (aG.mk (aR.mk [] [] []) [] []) [],n0)
 else
  (dS p1).bind fun n1=>
  bif n1 !=0 then
   some (aP.mk (0,0) (Field.mk []) (aU.mk 0 []) (aG.mk (aR.mk [] [] []) [] []) [],n1)
  else
   aJ lB (p0.certs.list,Int.ofNat p0.certs.list.length,0,p0.now.1,p0.now.2,p0.field.points,p0.certs.next_,p0.certs.list,p0.agenda.slots.uses,p0.agenda.slots.used,p0.agenda.slots.free,p0.agenda.heap,p0.agenda.where_,p0.due,p1.points,0,0,0)
def aQC:bL:=⟨aD.cons (aN.agg bU) (aD.one (aN.agg cB)),aN.tup (aD.cons (aN.agg bU) (aD.one (aN.int .i64))),fun a=>pV a.1 a.2,.frz,false⟩
theorem aIr:aM tab 121 aQC:=Oc aFU rfl aH [(103,aAe),(87,c87),(178,aHW),(115,aIf),(115,YE),(91,bL.clone eF),(163,aH3),(179,aOh),(180,aQy),(181,aOl),(182,aOk)] ⟨GX,IL,QB,QG,MF,AZ,QD,YF,aIn,YJ,YI,trivial⟩ fun a=>by kernel_rfl
def EQ (p0:Int×Int×Int) (p1:Int×Int):Option Bool:=
 some ((p0.2.1==p1.1)&&(p0.2.2==p1.2))
def aQD:bL:=⟨aD.cons (aN.agg (cO.row eF)) (aD.one (aN.ref (cO.row kM))),aN.bool,fun a=>EQ a.1 a.2,.pure,false⟩
theorem aIs:aM tab 123 aQD:=Oc aFV rfl aH [] trivial fun a=>by kernel_rfl
def nC (s:P3):Option (cA P3 Int):=
 bif decide (s.2.2.2.2<s.2.2.2.1) then
  (aK s.1 s.2.2.2.2).bind fun a0=>
  (EQ a0 (s.2.1,s.2.2.1)).bind fun b1=>
  bif b1 then
   some (.done s.2.2.2.2)
  else
   some (.next (s.1,s.2.1,s.2.2.1,s.2.2.2.1,aA .i64 (s.2.2.2.2+1)))
 else
  some (.done (-1))
def iN (p0:List (Int×Int×Int)) (p1:(Int×Int)):Option Int:=
 aJ nC (p0,p1.1,p1.2,Int.ofNat p0.length,0)
def S5:bL:=⟨aD.cons (aN.sl eF) (aD.one (aN.clo 123 (aD.one (aN.ref (cO.row kM))))),aN.int .i64,fun a=>iN a.1 a.2,.pure,false⟩
theorem S6:aM tab 183 S5:=Oc X0 rfl aH [(123,aQD)] ⟨aIs,trivial⟩ fun a=>by kernel_rfl
def eC (p0:List (Int×Int×Int)) (p1:(Int×Int)):Option Bool:=
 (iN p0 p1).bind fun n0=>
 some (decide (0<=n0))
def S7:bL:=⟨aD.cons (aN.sl eF) (aD.one (aN.clo 123 (aD.one (aN.ref (cO.row kM))))),aN.bool,fun a=>eC a.1 a.2,.pure,false⟩
theorem S8:aM tab 122 S7:=Oc XT rfl aH [(183,S5)] ⟨S6,trivial⟩ fun a=>by kernel_rfl
def dH (p0:Int):Option (aP×Int×Int):=
 some (aP.mk (0,0) (Field.mk []) (aU.mk 0 []) (aG.mk (aR.mk [] [] []) [] []) [],0,p0)
def aQE:bL:=⟨aD.one (aN.int .i64),aN.tup (aD.cons (aN.agg bU) (aD.cons (aN.int .i64) (aD.one (aN.int .i64)))),fun a=>dH a,.frz,false⟩
theorem aIt:aM tab 184 aQE:=Oc aGy rfl aH [] trivial fun a=>by kernel_rfl
def FL (p0:Int×Int×Int) (p1:Int×Int):Option Bool:=
 some ((p0.2.1==p1.1)&&(p0.2.2==p1.2))
def aQF:bL:=⟨aD.cons (aN.agg (cO.row eF)) (aD.one (aN.ref (cO.row kM))),aN.bool,fun a=>FL a.1 a.2,.pure,false⟩
theorem aIu:aM tab 225 aQF:=Oc aG0 rfl aH [] trivial fun a=>by kernel_rfl
def dF (s:P3):Option (cA P3 Int):=
 bif decide (s.2.2.2.2<s.2.2.2.1) then
  (aK s.1 s.2.2.2.2).bind fun a0=>
  (FL a0 (s.2.1,s.2.2.1)).bind fun b1=>
  bif b1 then
   some (.done s.2.2.2.2)
  else
   some (.next (s.1,s.2.1,s.2.2.1,s.2.2.2.1,aA .i64 (s.2.2.2.2+1)))
 else
  some (.done (-1))
def fW (p0:List (Int×Int×Int)) (p1:(Int×Int)):Option Int:=
 aJ dF (p0,p1.1,p1.2,Int.ofNat p0.length,0)
def S9:bL:=⟨aD.cons (aN.sl eF) (aD.one (aN.clo 225 (aD.one (aN.ref (cO.row kM))))),aN.int .i64,fun a=>fW a.1 a.2,.pure,false⟩
theorem TA:aM tab 183 S9:=Oc X0 rfl aH [(225,aQF)] ⟨aIu,trivial⟩ fun a=>by kernel_rfl
def cH (p0:List (Int×Int×Int)) (p1:(Int×Int)):Option Bool:=
 (fW p0 p1).bind fun n0=>
 some (decide (0<=n0))
def TB:bL:=⟨aD.cons (aN.sl eF) (aD.one (aN.clo 225 (aD.one (aN.ref (cO.row kM))))),aN.bool,fun a=>cH a.1 a.2,.pure,false⟩
theorem TC:aM tab 122 TB:=Oc XT rfl aH [(183,S9)] ⟨TA,trivial⟩ fun a=>by kernel_rfl
def GY (p0:aU) (p1:Int×Int):Option (aU×Int×Int):=
 (rV p0).bind fun n0=>
 bif n0 !=0 then
  some (aU.mk 0 [],0,n0)
 else
  (wM p1).bind fun b1=>
  bif !b1 then
   some (aU.mk 0 [],0,8)
  else
   (cH p0.list p1).bind fun b2=>
   bif b2 then
    some (aU.mk 0 [],0,14)
   else
    bif (Int.ofNat p0.list.length)==200 then
     some (aU.mk 0 [],0,18)
    else
     bif p0.next_==1000000 then
      some (aU.mk 0 [],0,18)
     else
      (bR p0.list).bind fun l3=>
      (bO l3 [(p0.next_,p1)]).bind fun l4=>
      some (aU.mk (aA .i64 (p0.next_+1)) l4,p0.next_,0)
def aQG:bL:=⟨aD.cons (aN.agg gT) (aD.one (aN.agg (cO.row kM))),aN.tup (aD.cons (aN.agg gT) (aD.cons (aN.int .i64) (aD.one (aN.int .i64)))),fun a=>GY a.1 a.2,.frz,false⟩
theorem aIv:aM tab 185 aQG:=Oc aGz rfl aH [(161,aHJ),(206,aN9),(122,TB),(170,bL.clone eF)] ⟨P8,X9,TC,zR,trivial⟩ fun a=>by kernel_rfl
def iW (p0:aP) (p1:Int×Int):Option (aP×Int×Int):=
 (gZ p0).bind fun n0=>
 bif n0 !=0 then
  (dH n0).bind fun a1=>
  some a1
 else
  (GY p0.certs p1).bind fun a2=>
  bif a2.2.2==8 then
   (dH a2.2.2).bind fun a3=>
   some a3
  else
   (jY p0.field p1.1).bind fun a4=>
   bif decide (a4.1<0) then
    (dH 6).bind fun a5=>
    some a5
   else
    (jY p0.field p1.2).bind fun a6=>
    bif decide (a6.1<0) then
     (dH 6).bind fun a7=>
     some a7
    else
     bif a2.2.2 !=0 then
      (dH a2.2.2).bind fun a8=>
      some a8
     else
      (nN p0).bind fun r9=>
      (rY p0.field p1 p0.now).bind fun a10=>
      bif a10.2.2 !=0 then
       (dH a10.2.2).bind fun a11=>
       some a11
      else
       bif a10.2.1 then
        (lP p0.agenda a10.1 a2.2.1).bind fun a12=>
        bif a12.2.2 !=0 then
         (dH a12.2.2).bind fun a13=>
         some a13
        else
         (bO r9.due [(a2.2.1,a12.2.1)]).bind fun l14=>
         some (aP.mk r9.now r9.field a2.1 a12.1 l14,a2.2.1,0)
       else
        some (aP.mk r9.now r9.field a2.1 r9.agenda r9.due,a2.2.1,0)
def aQH:bL:=⟨aD.cons (aN.agg bU) (aD.one (aN.agg (cO.row kM))),aN.tup (aD.cons (aN.agg bU) (aD.cons (aN.int .i64) (aD.one (aN.int .i64)))),fun a=>iW a.1 a.2,.frz,false⟩
theorem aIw:aM tab 124 aQH:=Oc aFW rfl aH [(103,aAe),(184,aQE),(185,aQG),(178,aHW),(115,aIf),(115,YE),(163,aH3),(181,aOl)] ⟨GX,aIt,aIv,QB,QG,MF,QD,YJ,trivial⟩ fun a=>by kernel_rfl
def fE (s:aPD):Option (cA aPD aPw):=
 bif decide (s.2.2.1<s.2.1) then
  (aK s.1 s.2.2.1).bind fun a0=>
  (eC s.2.2.2.2.2.2.2.1 a0).bind fun b1=>
  bif b1 then
   some (.next (s.1,s.2.1,aA .i64 (s.2.2.1+1),s.2.2.2))
  else
   (iW (aP.mk (s.2.2.2.1,s.2.2.2.2.1) (Field.mk s.2.2.2.2.2.1) (aU.mk s.2.2.2.2.2.2.1 s.2.2.2.2.2.2.2.1) (aG.mk (aR.mk s.2.2.2.2.2.2.2.2.1 s.2.2.2.2.2.2.2.2.2.1 s.2.2.2.2.2.2.2.2.2.2.1) s.2.2.2.2.2.2.2.2.2.2.2.1 s.2.2.2.2.2.2.2.2.2.2.2.2.1) s.2.2.2.2.2.2.2.2.2.2.2.2.2.1) a0).bind fun a2=>
   bif a2.2.2 !=0 then
    some (.done (.done (aP.mk (0,0) (Field.mk []) (aU.mk 0 []) (aG.mk (aR.mk [] [] []) [] []) [],a2.2.2)))
   else
    some (.next (s.1,s.2.1,aA .i64 (s.2.2.1+1),a2.1.now.1,a2.1.now.2,a2.1.field.points,a2.1.certs.next_,a2.1.certs.list,a2.1.agenda.slots.uses,a2.1.agenda.slots.used,a2.1.agenda.slots.free,a2.1.agenda.heap,a2.1.agenda.where_,a2.1.due,s.2.2.2.2.2.2.2.2.2.2.2.2.2.2))
 else
  some (.done (.done (aP.mk (s.2.2.2.1,s.2.2.2.2.1) (Field.mk s.2.2.2.2.2.1) (aU.mk s.2.2.2.2.2.2.1 s.2.2.2.2.2.2.2.1) (aG.mk (aR.mk s.2.2.2.2.2.2.2.2.1 s.2.2.2.2.2.2.2.2.2.1 s.2.2.2.2.2.2.2.2.2.2.1) s.2.2.2.2.2.2.2.2.2.2.2.1 s.2.2.2.2.2.2.2.2.2.2.2.2.1) s.2.2.2.2.2.2.2.2.2.2.2.2.2.1,0)))
def eK (s:aPv):Option aPw:=
 match s with
 |(a,b,d,e,f,g,h,i,j,k,l,m,n,o,q,r,t,u,v)=>
  bif decide (e<d) then
   (aK b e).bind fun a0=>
   (fO a a0.2).bind fun b1=>
   bif !b1 then
    (vK (aP.mk (f,g) (Field.mk h) (aU.mk i j) (aG.mk (aR.mk k l m) n o) q) a0.1).bind fun a2=>
    some (.next (a,b,d,aA .i64 (e+1),a2.1.now.1,a2.1.now.2,a2.1.field.points,a2.1.certs.next_,a2.1.certs.list,a2.1.agenda.slots.uses,a2.1.agenda.slots.used,a2.1.agenda.slots.free,a2.1.agenda.heap,a2.1.agenda.where_,a2.1.due,(r,t,u,v)))
   else
    some (.next (a,b,d,aA .i64 (e+1),(f,g,h,i,j,k,l,m,n,o,q,r,t,u,v)))
  else
   (mB h r).bind fun b3=>
   bif !b3 then
    (pV (aP.mk (f,g) (Field.mk h) (aU.mk i j) (aG.mk (aR.mk k l m) n o) q) (Field.mk r)).bind fun a4=>
    bif a4.2 !=0 then
     some (.done (aP.mk (0,0) (Field.mk []) (aU.mk 0 []) (aG.mk (aR.mk [] [] []) [] []) [],a4.2))
    else
     aJ fE (a,Int.ofNat a.length,0,a4.1.now.1,a4.1.now.2,a4.1.field.points,a4.1.certs.next_,a4.1.certs.list,a4.1.agenda.slots.uses,a4.1.agenda.slots.used,a4.1.agenda.slots.free,a4.1.agenda.heap,a4.1.agenda.where_,a4.1.due,(t,u,v))
   else
    aJ fE (a,Int.ofNat a.length,0,f,g,h,i,j,k,l,m,n,o,q,(t,u,v))
def uD (p0:aP) (p1:Field) (p2:List (Int×Int)):Option (aP×Int):=
 aJ eK (p2,p0.certs.list,Int.ofNat p0.certs.list.length,0,p0.now.1,p0.now.2,p0.field.points,p0.certs.next_,p0.certs.list,p0.agenda.slots.uses,p0.agenda.slots.used,p0.agenda.slots.free,p0.agenda.heap,p0.agenda.where_,p0.due,p1.points,0,0,0)
def c68:bL:=⟨aD.cons (aN.agg bU) (aD.cons (aN.agg cB) (aD.one (aN.sl kM))),aN.tup (aD.cons (aN.agg bU) (aD.one (aN.int .i64))),fun a=>uD a.1 a.2.1 a.2.2,.frz,false⟩
theorem aOm:aM tab 68 c68:=Oc aNz rfl aH [(105,aH6),(119,aQw),(120,aQx),(121,aQC),(122,S7),(124,aQH)] ⟨QE,aIl,aIm,aIr,S8,aIw,trivial⟩ fun a=>by kernel_rfl
def fF (s:aAc):Option (cA aAc Zt3):=
 bif decide (s.2.2.2.1<s.2.2.1) then
  (aK s.2.1 s.2.2.2.1).bind fun a0=>
  (eJ (Field.mk s.2.2.2.2.2.2.2.2.2.2.2.2.2.2.2.1) a0.1).bind fun a1=>
  (eJ (Field.mk s.2.2.2.2.2.2.2.2.2.2.2.2.2.2.2.1) a0.2).bind fun a2=>
  bif a1.2 !=0 then
   some (.done (.done (.done (aP.mk (0,0) (Field.mk []) (aU.mk 0 []) (aG.mk (aR.mk [] [] []) [] []) [],6))))
  else
   bif a2.2 !=0 then
    some (.done (.done (.done (aP.mk (0,0) (Field.mk []) (aU.mk 0 []) (aG.mk (aR.mk [] [] []) [] []) [],6))))
   else
    some (.next (s.1,s.2.1,s.2.2.1,aA .i64 (s.2.2.2.1+1),s.2.2.2.2))
 else
  (wO (aP.mk (s.2.2.2.2.1,s.2.2.2.2.2.1) (Field.mk s.2.2.2.2.2.2.1) (aU.mk s.2.2.2.2.2.2.2.1 s.2.2.2.2.2.2.2.2.1) (aG.mk (aR.mk s.2.2.2.2.2.2.2.2.2.1 s.2.2.2.2.2.2.2.2.2.2.1 s.2.2.2.2.2.2.2.2.2.2.2.1) s.2.2.2.2.2.2.2.2.2.2.2.2.1 s.2.2.2.2.2.2.2.2.2.2.2.2.2.1) s.2.2.2.2.2.2.2.2.2.2.2.2.2.2.1)).bind fun r3=>
  (uD r3 (Field.mk s.2.2.2.2.2.2.2.2.2.2.2.2.2.2.2.1) s.1).bind fun a4=>
  some (.done (.done (.done a4)))
def eL (s:aAc):Option Zt3:=
 bif decide (s.2.2.2.1<s.2.2.1) then
  (aK s.2.1 s.2.2.2.1).bind fun a0=>
  (jO s.1 0 s.2.2.2.1).bind fun l1=>
  (fO l1 a0).bind fun b2=>
  bif b2 then
   some (.done (.done (aP.mk (0,0) (Field.mk []) (aU.mk 0 []) (aG.mk (aR.mk [] [] []) [] []) [],14)))
  else
   some (.next (s.1,s.2.1,s.2.2.1,aA .i64 (s.2.2.2.1+1),s.2.2.2.2))
 else
  aJ fF (s.1,s.1,Int.ofNat s.1.length,0,s.2.2.2.2)
def eM (s:aAc):Option aPu:=
 bif decide (s.2.2.2.1<s.2.2.1) then
  (aK s.2.1 s.2.2.2.1).bind fun a0=>
  bif decide (a0.1<0) then
   some (.done (aP.mk (0,0) (Field.mk []) (aU.mk 0 []) (aG.mk (aR.mk [] [] []) [] []) [],8))
  else
   bif decide (a0.2<0) then
    some (.done (aP.mk (0,0) (Field.mk []) (aU.mk 0 []) (aG.mk (aR.mk [] [] []) [] []) [],8))
   else
    bif decide (65535<a0.1) then
     some (.done (aP.mk (0,0) (Field.mk []) (aU.mk 0 []) (aG.mk (aR.mk [] [] []) [] []) [],8))
    else
     bif decide (65535<a0.2) then
      some (.done (aP.mk (0,0) (Field.mk []) (aU.mk 0 []) (aG.mk (aR.mk [] [] []) [] []) [],8))
     else
      bif a0.1==a0.2 then
       some (.done (aP.mk (0,0) (Field.mk []) (aU.mk 0 []) (aG.mk (aR.mk [] [] []) [] []) [],8))
      else
       some (.next (s.1,s.2.1,s.2.2.1,aA .i64 (s.2.2.2.1+1),s.2.2.2.2))
 else
  aJ eL (s.1,s.1,Int.ofNat s.1.length,0,s.2.2.2.2)
def uE (p0:aP) (p1:Field) (p2:List (Int×Int)):Option (aP×Int):=
 (gZ p0).bind fun n0=>
 bif n0 !=0 then
  some (aP.mk (0,0) (Field.mk []) (aU.mk 0 []) (aG.mk (aR.mk [] [] []) [] []) [],n0)
 else
  (dS p1).bind fun n1=>
  bif n1 !=0 then
   some (aP.mk (0,0) (Field.mk []) (aU.mk 0 []) (aG.mk (aR.mk [] [] []) [] []) [],n1)
  else
   aJ eM (p2,p2,Int.ofNat p2.length,0,p0.now.1,p0.now.2,p0.field.points,p0.certs.next_,p0.certs.list,p0.agenda.slots.uses,p0.agenda.slots.used,p0.agenda.slots.free,p0.agenda.heap,p0.agenda.where_,p0.due,p1.points,0,0,0)
def aQI:bL:=⟨aD.cons (aN.agg bU) (aD.cons (aN.agg cB) (aD.one (aN.sl kM))),aN.tup (aD.cons (aN.agg bU) (aD.one (aN.int .i64))),fun a=>uE a.1 a.2.1 a.2.2,.frz,false⟩
theorem aIx:aM tab 142 aQI:=Oc aF1 rfl aH [(103,aAe),(87,c87),(105,aH6),(139,aBY),(196,aQn),(196,aJL),(68,c68)] ⟨GX,IL,QE,KF,aIb,aB0,aOm,trivial⟩ fun a=>by kernel_rfl
def bZ (p0:aP) (p1:Field) (p2:List Int):Option (cC×Int):=
 (xU p2).bind fun l0=>
 (uE p0 p1 l0).bind fun a1=>
 bif a1.2 !=0 then
  some (cC.mk (aP.mk (0,0) (Field.mk []) (aU.mk 0 []) (aG.mk (aR.mk [] [] []) [] []) []) [],a1.2)
 else
  some (cC.mk a1.1 p2,0)
def c79:bL:=⟨aD.cons (aN.agg bU) (aD.cons (aN.agg cB) (aD.one (aN.sl ki))),aN.tup (aD.cons (aN.agg gC) (aD.one (aN.int .i64))),fun a=>bZ a.1 a.2.1 a.2.2,.frz,false⟩
theorem aB4:aM tab 79 c79:=Oc aNE rfl aH [(143,aQm),(142,aQI)] ⟨aIa,aIx,trivial⟩ fun a=>by kernel_rfl
def qU (c0:(Int×Int×Int)) (c1:(List Int)) (s:Zt9):Option (cA Zt9 (cC×Int)):=
 match s with
 |(a,b,d,e,f,g,h,i,j,k,l,m,n,o,q,r,t,u,v,w,x,y,z,A,B)=>
  bif decide (0<a) then
   (aK y a).bind fun n0=>
   (eJ (Field.mk z) n0).bind fun a1=>
   (aK y (aA .i64 (Int.tdiv (aA .i64 (a-1)) 2))).bind fun n2=>
   (eJ (Field.mk z) n2).bind fun a3=>
   (gV a1.1 a3.1 (A,B)).bind fun a4=>
   bif x.length==x.length then
    bif y.length==y.length then
     bif a4.1 then
      (aK y (aA .i64 (Int.tdiv (aA .i64 (a-1)) 2))).bind fun n5=>
      (aK y a).bind fun n6=>
      (aK y a).bind fun _=>
      (aK (bM y a n5) (aA .i64 (Int.tdiv (aA .i64 (a-1)) 2))).bind fun _=>
      some (.next (aA .i64 (Int.tdiv (aA .i64 (a-1)) 2),b,d,e,f,g,h,i,j,k,l,m,n,o,q,r,t,u,v,w,x,bM (bM y a n5) (aA .i64 (Int.tdiv (aA .i64 (a-1)) 2)) n6,(z,A,B)))
     else
      bif x.length==[c0.1].length then
       bif y.length==c1.length then
        (bZ (aP.mk (b,d) (Field.mk e) (aU.mk f g) (aG.mk (aR.mk h i j) k l) m) (Field.mk w) y).bind fun a9=>
        some (.done a9)
       else
        none
      else
       none
    else
     none
   else
    none
  else
   bif x.length==[c0.1].length then
    bif y.length==c1.length then
     (bZ (aP.mk (b,d) (Field.mk e) (aU.mk f g) (aG.mk (aR.mk h i j) k l) m) (Field.mk w) y).bind fun a10=>
     some (.done a10)
    else
     none
   else
    none
def vV (p0:cC) (p1:Int×Int×Int):Option (cC×Int):=
 (uB p0).bind fun n0=>
 bif n0 !=0 then
  some (cC.mk (aP.mk (0,0) (Field.mk []) (aU.mk 0 []) (aG.mk (aR.mk [] [] []) [] []) []) [],n0)
 else
  (mR p0.clock.field p1).bind fun a1=>
  bif a1.2 !=0 then
   some (cC.mk (aP.mk (0,0) (Field.mk []) (aU.mk 0 []) (aG.mk (aR.mk [] [] []) [] []) []) [],a1.2)
  else
   (bR p0.heap).bind fun l2=>
   (bO l2 [p1.1]).bind fun l3=>
   bif l3.length==l3.length then
    aJ (qU p1 l3) (aA .i64 ((Int.ofNat l3.length) -1),p0.clock.now.1,p0.clock.now.2,p0.clock.field.points,p0.clock.certs.next_,p0.clock.certs.list,p0.clock.agenda.slots.uses,p0.clock.agenda.slots.used,p0.clock.agenda.slots.free,p0.clock.agenda.heap,p0.clock.agenda.where_,p0.clock.due,p0.heap,p1.1,p1.2.1,p1.2.2,0,0,0,a1.1.points,[p1.1],l3,a1.1.points,p0.clock.now)
   else
    none
def c32:bL:=⟨aD.cons (aN.agg gC) (aD.one (aN.agg (cO.row eF))),aN.tup (aD.cons (aN.agg gC) (aD.one (aN.int .i64))),fun a=>vV a.1 a.2,.frz,false⟩
theorem aOn:aM tab 32 c32:=aM.of aNd (cx:=(pG aH [(59,c59),(45,c45),(64,bL.clone ki),(139,aBY),(128,aH8),(79,c79)] [] [(78,x78),(138,aBB),(140,aBC),(141,aBD)] [])) rfl (mK.make ⟨aBZ,aOg,qM,KF,QF,aB4,trivial⟩ trivial ⟨aBK,XW,XX,XY,trivial⟩) (fun a=>by kernel_rfl)
def iH (p0:Int):Option Int:=
 bif decide (p0<0) then
  some (aA .u64 ((aA .u64 (aA .i64 (0- (aA .i64 (p0+1)))))+1))
 else
  some (aA .u64 p0)
def c73:bL:=⟨aD.one (aN.int .i64),aN.int .u64,fun a=>iH a,.pure,false⟩
theorem VO:aM tab 73 c73:=Oc aND rfl aH [] trivial fun a=>by kernel_rfl
def oX (s:(Int×Int)):Option (cA (Int×Int) Int):=
 bif s.2 !=0 then
  bif s.2==0 then
   none
  else
   some (.next (s.2,Int.tmod s.1 s.2))
 else
  some (.done s.1)
def qV (p0:Int) (p1:Int):Option Int:=
 aJ oX (p0,p1)
def c72:bL:=⟨aD.cons (aN.int .u64) (aD.one (aN.int .u64)),aN.int .u64,fun a=>qV a.1 a.2,.pure,false⟩
theorem aB5:aM tab 72 c72:=Oc aNC rfl aH [] trivial fun a=>by kernel_rfl
def uF (p0:Int×Int):Option Int:=
 bif decide (p0.2<1) then
  some 8
 else
  bif p0.1==(-9223372036854775808) then
   some 8
  else
   (iH p0.1).bind fun n0=>
   (qV n0 (aA .u64 p0.2)).bind fun n1=>
   bif n1 !=1 then
    some 8
   else
    some 0
def c26:bL:=⟨aD.one (aN.agg (cO.row kM)),aN.int .i64,fun a=>uF a,.pure,false⟩
theorem aB6:aM tab 26 c26:=Oc aNa rfl aH [(73,c73),(72,c72)] ⟨VO,aB5,trivial⟩ fun a=>by kernel_rfl
def pW (p0:Int×Int×Int):Option Int:=
 bif decide (p0.1<0) then
  some 8
 else
  bif decide (65535<p0.1) then
   some 8
  else
   bif decide (p0.2.1<(-1048576)) then
    some 8
   else
    bif decide (1048576<p0.2.1) then
     some 8
    else
     bif decide (p0.2.2<(-1048576)) then
      some 8
     else
      bif decide (1048576<p0.2.2) then
       some 8
      else
       some 0
def c44:bL:=⟨aD.one (aN.agg (cO.row eF)),aN.int .i64,fun a=>pW a,.pure,false⟩
theorem VP:aM tab 44 c44:=Oc aNk rfl aH [] trivial fun a=>by kernel_rfl
def jI (s:aBR):Option (cA aBR (cA aBR Int)):=
 bif decide (s.1<(Int.ofNat s.2.length)) then
  (aK s.2 (aA .i64 (s.1-1))).bind fun a0=>
  (aK s.2 s.1).bind fun a1=>
  bif decide (a1.1<=a0.1) then
   some (.done (.done 32))
  else
   some (.next (aA .i64 (s.1+1),s.2))
 else
  some (.done (.done 0))
def nO (s:aBR):Option (cA aBR Int):=
 bif decide (s.1<(Int.ofNat s.2.length)) then
  (aK s.2 s.1).bind fun a0=>
  (pW a0).bind fun n1=>
  bif n1 !=0 then
   some (.done 8)
  else
   some (.next (aA .i64 (s.1+1),s.2))
 else
  aJ jI (1,s.2)
def lQ (p0:Field):Option Int:=
 bif decide (64<(Int.ofNat p0.points.length)) then
  some 4
 else
  aJ nO (0,p0.points)
def c19:bL:=⟨aD.one (aN.agg cB),aN.int .i64,fun a=>lQ a,.pure,false⟩
theorem VQ:aM tab 19 c19:=Oc aM7 rfl aH [(44,c44)] ⟨VP,trivial⟩ fun a=>by kernel_rfl
def wQ (p0:Int×Int):Option Bool:=
 bif decide (0<=p0.1) then
  bif decide (p0.1<=65535) then
   bif decide (0<=p0.2) then
    bif decide (p0.2<=65535) then
     some (p0.1 !=p0.2)
    else
     some false
   else
    some false
  else
   some false
 else
  some false
def aOo:bL:=⟨aD.one (aN.agg (cO.row kM)),aN.bool,fun a=>wQ a,.pure,false⟩
theorem YK:aM tab 155 aOo:=Oc aF9 rfl aH [] trivial fun a=>by kernel_rfl
def gF (s:(Int×Int×Int×bI×Int×Int×Int)):Option (cA (Int×Int×Int×bI×Int×Int×Int) aNZ):=
 bif decide (s.2.1<s.1) then
  (aK s.2.2.2.1 s.2.1).bind fun a0=>
  bif (a0.2.1==s.2.2.2.2.2.1)&&(a0.2.2==s.2.2.2.2.2.2) then
   some (.done (.done 8))
  else
   some (.next (s.1,aA .i64 (s.2.1+1),s.2.2))
 else
  some (.done (.next (aA .i64 (s.1+1),s.2.2.1,s.2.2.2.1)))
def qW (s:aBQ):Option aNZ:=
 bif decide (s.1<(Int.ofNat s.2.2.length)) then
  (aK s.2.2 s.1).bind fun a0=>
  (wQ a0.2).bind fun b1=>
  bif !b1 then
   some (.done 8)
  else
   bif decide (a0.1<0) then
    some (.done 8)
   else
    bif decide (s.2.1<=a0.1) then
     some (.done 8)
    else
     bif decide (0<s.1) then
      (aK s.2.2 (aA .i64 (s.1-1))).bind fun a2=>
      bif decide (a0.1<=a2.1) then
       some (.done 8)
      else
       aJ gF (s.1,0,s.2.1,s.2.2,a0)
     else
      aJ gF (s.1,0,s.2.1,s.2.2,a0)
 else
  some (.done 0)
def uG (p0:aU):Option Int:=
 bif decide (200<(Int.ofNat p0.list.length)) then
  some 8
 else
  bif decide (p0.next_<0) then
   some 8
  else
   bif decide (1000000<p0.next_) then
    some 8
   else
    aJ qW (0,p0.next_,p0.list)
def c96:bL:=⟨aD.one (aN.agg gT),aN.int .i64,fun a=>uG a,.pure,false⟩
theorem aB7:aM tab 96 c96:=Oc aNR rfl aH [(155,aOo)] ⟨YK,trivial⟩ fun a=>by kernel_rfl
def uH (s:aBQ):Option aNZ:=
 bif decide (s.2.1<(Int.ofNat s.2.2.length)) then
  (aK s.2.2 s.2.1).bind fun a0=>
  bif a0.1==s.1 then
   some (.done s.2.1)
  else
   some (.next (s.1,aA .i64 (s.2.1+1),s.2.2))
 else
  some (.done (-1))
def gG (p0:Field) (p1:Int):Option Int:=
 aJ uH (p1,0,p0.points)
def c40:bL:=⟨aD.cons (aN.agg cB) (aD.one (aN.int .i64)),aN.int .i64,fun a=>gG a.1 a.2,.pure,false⟩
theorem FM:aM tab 40 c40:=Oc aNh rfl aH [] trivial fun a=>by kernel_rfl
def qX (s:(Int×Int×bI×bI)):Option (cA (Int×Int×bI×bI) Bool):=
 bif decide (s.1<(Int.ofNat s.2.2.1.length)) then
  (aK s.2.2.1 s.1).bind fun a0=>
  (gG (Field.mk s.2.2.2) a0.2.1).bind fun n1=>
  bif decide (n1<0) then
   some (.done false)
  else
   (aK s.2.2.1 s.1).bind fun a2=>
   (gG (Field.mk s.2.2.2) a2.2.2).bind fun n3=>
   bif decide (n3<0) then
    some (.done false)
   else
    some (.next (aA .i64 (s.1+1),s.2))
 else
  some (.done true)
def xW (p0:aU) (p1:Field):Option Bool:=
 aJ qX (0,p0.next_,p0.list,p1.points)
def c97:bL:=⟨aD.cons (aN.agg gT) (aD.one (aN.agg cB)),aN.bool,fun a=>xW a.1 a.2,.pure,false⟩
theorem aOp:aM tab 97 c97:=Oc aNS rfl aH [(40,c40)] ⟨FM,trivial⟩ fun a=>by kernel_rfl
def lC (s:aBP):Option (cA aBP (cA aBP Int)):=
 bif decide (s.2.1<s.1) then
  (aK s.2.2.1 s.2.1).bind fun n0=>
  bif decide (n0<0) then
   some (.done (.done 8))
  else
   (aK s.2.2.1 s.2.1).bind fun n1=>
   bif decide (1000000<n1) then
    some (.done (.done 8))
   else
    (aK s.2.2.2.1 s.2.1).bind fun b2=>
    (aK s.2.2.2.2.2 s.2.1).bind fun b3=>
    bif b2==b3 then
     some (.done (.done 8))
    else
     (aK s.2.2.2.1 s.2.1).bind fun b4=>
     bif b4 then
      (aK s.2.2.1 s.2.1).bind fun n5=>
      bif decide (n5<1) then
       some (.done (.done 8))
      else
       some (.next (s.1,aA .i64 (s.2.1+1),s.2.2))
     else
      some (.next (s.1,aA .i64 (s.2.1+1),s.2.2))
 else
  some (.done (.done 0))
def qY (s:aBP):Option (cA aBP Int):=
 bif decide (s.2.1<(Int.ofNat s.2.2.2.2.1.length)) then
  (aK s.2.2.2.2.1 s.2.1).bind fun n0=>
  bif decide (n0<0) then
   some (.done 8)
  else
   (aK s.2.2.2.2.1 s.2.1).bind fun n1=>
   bif decide (s.1<=n1) then
    some (.done 8)
   else
    (aK s.2.2.2.2.1 s.2.1).bind fun n2=>
    (aK s.2.2.2.2.2 n2).bind fun b3=>
    bif b3 then
     some (.done 8)
    else
     (aK s.2.2.2.2.1 s.2.1).bind fun n4=>
     (aK s.2.2.2.2.2 n4).bind fun _=>
     some (.next (s.1,aA .i64 (s.2.1+1),s.2.2.1,s.2.2.2.1,s.2.2.2.2.1,bM s.2.2.2.2.2 n4 true))
 else
  aJ lC (s.1,0,s.2.2)
def xX (p0:aR):Option Int:=
 bif decide ((Int.ofNat p0.uses.length)<1) then
  some 8
 else
  bif decide (200<(Int.ofNat p0.uses.length)) then
   some 8
  else
   bif (Int.ofNat p0.used.length) !=(Int.ofNat p0.uses.length) then
    some 8
   else
    bif decide ((Int.ofNat p0.uses.length)<(Int.ofNat p0.free.length)) then
     some 8
    else
     bif (Int.ofNat p0.uses.length)==(Int.ofNat p0.uses.length) then
      (RX (Int.ofNat p0.uses.length) (false:Bool)).bind fun l0=>
      aJ qY (Int.ofNat p0.uses.length,0,p0.uses,p0.used,p0.free,l0)
     else
      none
def aQJ:bL:=⟨aD.one (aN.agg gL),aN.int .i64,fun a=>xX a,.pure,false⟩
theorem aIy:aM tab 156 aQJ:=Oc aGa rfl aH [] trivial fun a=>by kernel_rfl
def wR (p0:aR) (p1:Int×Int):Option Bool:=
 bif decide (0<=p1.1) then
  bif decide (p1.1<(Int.ofNat p0.uses.length)) then
   (aK p0.used p1.1).bind fun b0=>
   bif b0 then
    (aK p0.uses p1.1).bind fun n1=>
    some (n1==p1.2)
   else
    some false
  else
   some false
 else
  some false
def aOq:bL:=⟨aD.cons (aN.agg gL) (aD.one (aN.agg (cO.row kM))),aN.bool,fun a=>wR a.1 a.2,.pure,false⟩
theorem YL:aM tab 160 aOq:=Oc aGe rfl aH [] trivial fun a=>by kernel_rfl
def oY (s:aNX):Option (cA aNX Bool):=
 bif decide (s.2.1<s.1) then
  (aK s.2.2.2.1 s.2.1).bind fun b0=>
  bif !b0 then
   (aK s.2.2.2.2.2.2 s.2.1).bind fun n1=>
   bif n1 !=(-1) then
    some (.done false)
   else
    some (.next (s.1,aA .i64 (s.2.1+1),s.2.2))
  else
   (aK s.2.2.2.2.2.2 s.2.1).bind fun n2=>
   bif decide (n2<0) then
    some (.done false)
   else
    bif decide ((Int.ofNat s.2.2.2.2.2.1.length)<=n2) then
     some (.done false)
    else
     (aK s.2.2.2.2.2.1 n2).bind fun a3=>
     bif a3.2.2.2.1 !=s.2.1 then
      some (.done false)
     else
      (aK s.2.2.2.2.2.1 n2).bind fun a4=>
      (wR (aR.mk s.2.2.1 s.2.2.2.1 s.2.2.2.2.1) a4.2.2.2).bind fun b5=>
      bif !b5 then
       some (.done false)
      else
       some (.next (s.1,aA .i64 (s.2.1+1),s.2.2))
 else
  some (.done true)
def vM (p0:aG):Option Bool:=
 bif (Int.ofNat p0.where_.length) !=(Int.ofNat p0.slots.uses.length) then
  some false
 else
  bif (Int.ofNat p0.heap.length) !=(aA .i64 ((Int.ofNat p0.slots.uses.length) - (Int.ofNat p0.slots.free.length))) then
   some false
  else
   aJ oY (Int.ofNat p0.slots.uses.length,0,p0.slots.uses,p0.slots.used,p0.slots.free,p0.heap,p0.where_)
def aQK:bL:=⟨aD.one (aN.agg dD),aN.bool,fun a=>vM a,.pure,false⟩
theorem aIz:aM tab 157 aQK:=Oc aGb rfl aH [(160,aOq)] ⟨YL,trivial⟩ fun a=>by kernel_rfl
def sU (p0:Int) (p1:Int):Option (Bool×Int×Int):=
 some (false,aA .u64 ((aA .u64 ((aA .u64 ((aA .u64 (Int.tdiv p0 4294967296))*(aA .u64 (Int.tdiv p1 4294967296))))+(aA .u64 (Int.tdiv (aA .u64 ((aA .u64 ((aA .u64 (Int.tdiv p0 4294967296))*(Int.tmod p1 4294967296)))+(aA .u64 (Int.tdiv (aA .u64 ((Int.tmod p0 4294967296)*(Int.tmod p1 4294967296))) 4294967296)))) 4294967296))))+(aA .u64 (Int.tdiv (aA .u64 ((aA .u64 ((Int.tmod p0 4294967296)*(aA .u64 (Int.tdiv p1 4294967296))))+(Int.tmod (aA .u64 ((aA .u64 ((aA .u64 (Int.tdiv p0 4294967296))*(Int.tmod p1 4294967296)))+(aA .u64 (Int.tdiv (aA .u64 ((Int.tmod p0 4294967296)*(Int.tmod p1 4294967296))) 4294967296)))) 4294967296))) 4294967296))),aA .u64 ((aA .u64 ((Int.tmod (aA .u64 ((aA .u64 ((Int.tmod p0 4294967296)*(aA .u64 (Int.tdiv p1 4294967296))))+(Int.tmod (aA .u64 ((aA .u64 ((aA .u64 (Int.tdiv p0 4294967296))*(Int.tmod p1 4294967296)))+(aA .u64 (Int.tdiv (aA .u64 ((Int.tmod p0 4294967296)*(Int.tmod p1 4294967296))) 4294967296)))) 4294967296))) 4294967296)*4294967296))+(Int.tmod (aA .u64 ((Int.tmod p0 4294967296)*(Int.tmod p1 4294967296))) 4294967296)))
def aQL:bL:=⟨aD.cons (aN.int .u64) (aD.one (aN.int .u64)),aN.agg (cO.row CR),fun a=>sU a.1 a.2,.pure,false⟩
theorem aIA:aM tab 102 aQL:=Oc aFF rfl aH [] trivial fun a=>by kernel_rfl
def kC (p0:Int) (p1:Int):Option (Bool×Int×Int):=
 (iH p0).bind fun n0=>
 (iH p1).bind fun n1=>
 (sU n0 n1).bind fun a2=>
 bif !((decide (p0<0))==(decide (p1<0))) then
  bif p0 !=0 then
   some (p1 !=0,a2.2)
  else
   some (false,a2.2)
 else
  some (false,a2.2)
def c56:bL:=⟨aD.cons (aN.int .i64) (aD.one (aN.int .i64)),aN.agg (cO.row CR),fun a=>kC a.1 a.2,.pure,false⟩
theorem aB8:aM tab 56 c56:=Oc aNr rfl aH [(73,c73),(102,aQL)] ⟨VO,aIA,trivial⟩ fun a=>by kernel_rfl
def mC (p0:Bool×Int×Int):Option Int:=
 bif p0.2.1==0 then
  bif p0.2.2==0 then
   some 0
  else
   bif p0.1 then
    some (-1)
   else
    some 1
 else
  bif p0.1 then
   some (-1)
  else
   some 1
def c57:bL:=⟨aD.one (aN.agg (cO.row CR)),aN.int .i64,fun a=>mC a,.pure,false⟩
theorem aB9:aM tab 57 c57:=Oc aNs rfl aH [] trivial fun a=>by kernel_rfl
def sA (p0:Bool×Int×Int) (p1:Bool×Int×Int):Option Int:=
 bif p0.2.1 !=p1.2.1 then
  bif decide (p0.2.1<p1.2.1) then
   some (-1)
  else
   some 1
 else
  bif p0.2.2 !=p1.2.2 then
   bif decide (p0.2.2<p1.2.2) then
    some (-1)
   else
    some 1
  else
   some 0
def c58:bL:=⟨aD.cons (aN.agg (cO.row CR)) (aD.one (aN.agg (cO.row CR))),aN.int .i64,fun a=>sA a.1 a.2,.pure,false⟩
theorem aCa:aM tab 58 c58:=Oc aNt rfl aH [] trivial fun a=>by kernel_rfl
def sV (p0:Int×Int) (p1:Int×Int):Option Int:=
 (kC p0.1 p1.2).bind fun a0=>
 (kC p1.1 p0.2).bind fun a1=>
 (mC a0).bind fun n2=>
 (mC a1).bind fun n3=>
 bif n2 !=n3 then
  (mC a0).bind fun n4=>
  (mC a1).bind fun n5=>
  bif decide (n4<n5) then
   some (-1)
  else
   some 1
 else
  (mC a0).bind fun n6=>
  bif decide (n6<0) then
   (sA a1 a0).bind fun n7=>
   some n7
  else
   (sA a0 a1).bind fun n8=>
   some n8
def c15:bL:=⟨aD.cons (aN.agg (cO.row kM)) (aD.one (aN.agg (cO.row kM))),aN.int .i64,fun a=>sV a.1 a.2,.pure,false⟩
theorem aOr:aM tab 15 c15:=Oc aM5 rfl aH [(56,c56),(57,c57),(58,c58)] ⟨aB8,aB9,aCa,trivial⟩ fun a=>by kernel_rfl
def eN (p0:Int×Int×Int×Int×Int) (p1:Int×Int×Int×Int×Int):Option Bool:=
 (sV (p0.1,p0.2.1) (p1.1,p1.2.1)).bind fun n0=>
 bif decide (n0<0) then
  some true
 else
  bif n0==0 then
   some (decide (p0.2.2.1<p1.2.2.1))
  else
   some false
def VS:bL:=⟨aD.cons (aN.agg (cO.row lW)) (aD.one (aN.agg (cO.row lW))),aN.bool,fun a=>eN a.1 a.2,.pure,false⟩
theorem DX:aM tab 158 VS:=Oc aGc rfl aH [(15,c15)] ⟨aOr,trivial⟩ fun a=>by kernel_rfl
def lD (s:aPQ):Option (cA aPQ aNW):=
 bif decide (s.2.1<s.1) then
  (aK s.2.2.2.2.2.1 s.2.1).bind fun a0=>
  bif a0.2.2.1==s.2.2.2.2.2.2.2.2.2.1 then
   some (.done (.done 8))
  else
   some (.next (s.1,aA .i64 (s.2.1+1),s.2.2))
 else
  some (.done (.next (aA .i64 (s.1+1),s.2.2.1,s.2.2.2.1,s.2.2.2.2.1,s.2.2.2.2.2.1,s.2.2.2.2.2.2.1)))
def lE (s:GU):Option (cA GU aNW):=
 bif decide (s.1<(Int.ofNat s.2.2.2.2.1.length)) then
  (aK s.2.2.2.2.1 s.1).bind fun a0=>
  (aK s.2.2.2.2.1 (aA .i64 (Int.tdiv (aA .i64 (s.1-1)) 2))).bind fun a1=>
  (eN a0 a1).bind fun b2=>
  bif b2 then
   some (.done (.done 8))
  else
   some (.next (aA .i64 (s.1+1),s.2))
 else
  some (.done (.done 0))
def qZ (s:GU):Option aNW:=
 bif decide (s.1<(Int.ofNat s.2.2.2.2.1.length)) then
  (aK s.2.2.2.2.1 s.1).bind fun a0=>
  (uF (a0.1,a0.2.1)).bind fun n1=>
  bif n1 !=0 then
   some (.done 8)
  else
   bif decide (a0.2.2.1<0) then
    some (.done 8)
   else
    bif decide (1000000<a0.2.2.1) then
     some (.done 8)
    else
     aJ lD (s.1,0,s.2.1,s.2.2.1,s.2.2.2.1,s.2.2.2.2.1,s.2.2.2.2.2,a0)
 else
  aJ lE (1,s.2)
def uI (p0:aG):Option Int:=
 (xX p0.slots).bind fun n0=>
 bif n0 !=0 then
  some 8
 else
  (vM p0).bind fun b1=>
  bif !b1 then
   some 8
  else
   aJ qZ (0,p0.slots.uses,p0.slots.used,p0.slots.free,p0.heap,p0.where_)
def c98:bL:=⟨aD.one (aN.agg dD),aN.int .i64,fun a=>uI a,.pure,false⟩
theorem aCb:aM tab 98 c98:=Oc aNT rfl aH [(156,aQJ),(157,aQK),(26,c26),(158,VS)] ⟨aIy,aIz,aB6,DX,trivial⟩ fun a=>by kernel_rfl
def uK (p0:Bool×Int×Int) (p1:Bool×Int×Int):Option (Bool×Int×Int):=
 bif decide (p0.2.2<p1.2.2) then
  some (false,aA .u64 ((aA .u64 (p0.2.1-p1.2.1)) -1),aA .u64 (p0.2.2-p1.2.2))
 else
  some (false,aA .u64 (p0.2.1-p1.2.1),aA .u64 (p0.2.2-p1.2.2))
def aQM:bL:=⟨aD.cons (aN.agg (cO.row CR)) (aD.one (aN.agg (cO.row CR))),aN.agg (cO.row CR),fun a=>uK a.1 a.2,.pure,false⟩
theorem aIB:aM tab 226 aQM:=Oc aG1 rfl aH [] trivial fun a=>by kernel_rfl
def A5 (p0:Bool×Int×Int) (p1:Bool×Int×Int):Option (Bool×Int×Int):=
 bif p0.1==p1.1 then
  bif decide ((aA .u64 (p0.2.2+p1.2.2))<p0.2.2) then
   some (p0.1,aA .u64 ((aA .u64 (p0.2.1+p1.2.1))+1),aA .u64 (p0.2.2+p1.2.2))
  else
   some (p0.1,aA .u64 (p0.2.1+p1.2.1),aA .u64 (p0.2.2+p1.2.2))
 else
  (sA p0 p1).bind fun n0=>
  bif decide (0<=n0) then
   (uK p0 p1).bind fun a1=>
   bif p0.1 then
    bif decide (0<a1.2.1) then
     some (true,a1.2)
    else
     some (decide (0<a1.2.2),a1.2)
   else
    some (false,a1.2)
  else
   (uK p1 p0).bind fun a2=>
   some (p1.1,a2.2)
def aQN:bL:=⟨aD.cons (aN.agg (cO.row CR)) (aD.one (aN.agg (cO.row CR))),aN.agg (cO.row CR),fun a=>A5 a.1 a.2,.pure,false⟩
theorem aIC:aM tab 186 aQN:=Oc aGA rfl aH [(58,c58),(226,aQM)] ⟨aCa,aIB,trivial⟩ fun a=>by kernel_rfl
def DY (p0:Int×Int×Int) (p1:Int×Int×Int) (p2:Int×Int):Option Int:=
 (kC (aA .i64 (p0.2.1-p1.2.1)) p2.2).bind fun a0=>
 (kC (aA .i64 (p0.2.2-p1.2.2)) p2.1).bind fun a1=>
 (A5 a0 a1).bind fun a2=>
 (mC a2).bind fun n3=>
 some n3
def aQO:bL:=⟨aD.cons (aN.agg (cO.row eF)) (aD.cons (aN.agg (cO.row eF)) (aD.one (aN.agg (cO.row kM)))),aN.int .i64,fun a=>DY a.1 a.2.1 a.2.2,.pure,false⟩
theorem aID:aM tab 125 aQO:=Oc aFX rfl aH [(56,c56),(186,aQN),(57,c57)] ⟨aB8,aIC,aB9,trivial⟩ fun a=>by kernel_rfl
def pX (p0:Int×Int×Int) (p1:Int×Int×Int) (p2:Int×Int):Option Bool:=
 (DY p0 p1 p2).bind fun n0=>
 bif n0 !=0 then
  some (decide (0<n0))
 else
  bif p0.2.2 !=p1.2.2 then
   some (decide (p1.2.2<p0.2.2))
  else
   some (decide (p0.1<p1.1))
def c70:bL:=⟨aD.cons (aN.agg (cO.row eF)) (aD.cons (aN.agg (cO.row eF)) (aD.one (aN.agg (cO.row kM)))),aN.bool,fun a=>pX a.1 a.2.1 a.2.2,.pure,false⟩
theorem VT:aM tab 70 c70:=Oc aNB rfl aH [(125,aQO)] ⟨aID,trivial⟩ fun a=>by kernel_rfl
def sB (p0:Bool) (p1:Bool×Int×Int) (p2:Bool×Int×Int):Option ((Int×Int)×Int):=
 bif decide (0<p1.2.1) then
  some ((0,0),16)
 else
  bif decide (9223372036854775807<p1.2.2) then
   some ((0,0),16)
  else
   bif decide (0<p2.2.1) then
    some ((0,0),16)
   else
    bif decide (9223372036854775807<p2.2.2) then
     some ((0,0),16)
    else
     bif p0 then
      some ((aA .i64 (0- (aA .i64 p1.2.2)),aA .i64 p2.2.2),0)
     else
      some ((aA .i64 p1.2.2,aA .i64 p2.2.2),0)
def aQP:bL:=⟨aD.cons aN.bool (aD.cons (aN.agg (cO.row CR)) (aD.one (aN.agg (cO.row CR)))),aN.tup (aD.cons (aN.agg (cO.row kM)) (aD.one (aN.int .i64))),fun a=>sB a.1 a.2.1 a.2.2,.pure,false⟩
theorem aIE:aM tab 285 aQP:=Oc aHo rfl aH [] trivial fun a=>by kernel_rfl
def nP (p0:Int) (p1:Int):Option ((Int×Int)×Int):=
 bif p1==0 then
  some ((0,0),26)
 else
  (iH p0).bind fun n0=>
  (iH p1).bind fun n1=>
  (qV n0 n1).bind fun n2=>
  bif !((decide (p0<0))==(decide (p1<0))) then
   (iH p0).bind fun n3=>
   bif n2==0 then
    none
   else
    (iH p1).bind fun n4=>
    bif n2==0 then
     none
    else
     (sB (p0 !=0) (false,0,aA .u64 (Int.tdiv n3 n2)) (false,0,aA .u64 (Int.tdiv n4 n2))).bind fun a5=>
     some a5
  else
   (iH p0).bind fun n6=>
   bif n2==0 then
    none
   else
    (iH p1).bind fun n7=>
    bif n2==0 then
     none
    else
     (sB false (false,0,aA .u64 (Int.tdiv n6 n2)) (false,0,aA .u64 (Int.tdiv n7 n2))).bind fun a8=>
     some a8
def aQQ:bL:=⟨aD.cons (aN.int .i64) (aD.one (aN.int .i64)),aN.tup (aD.cons (aN.agg (cO.row kM)) (aD.one (aN.int .i64))),fun a=>nP a.1 a.2,.pure,false⟩
theorem aIF:aM tab 257 aQQ:=Oc aHb rfl aH [(73,c73),(72,c72),(285,aQP)] ⟨VO,aB5,aIE,trivial⟩ fun a=>by kernel_rfl
def DZ (p0:Int×Int×Int) (p1:Int×Int×Int):Option (Int×Int):=
 (nP (aA .i64 (p0.2.1-p1.2.1)) (aA .i64 (p1.2.2-p0.2.2))).bind fun a0=>
 some a0.1
def aQR:bL:=⟨aD.cons (aN.agg (cO.row eF)) (aD.one (aN.agg (cO.row eF))),aN.agg (cO.row kM),fun a=>DZ a.1 a.2,.pure,false⟩
theorem aIG:aM tab 205 aQR:=Oc aGJ rfl aH [(257,aQQ)] ⟨aIF,trivial⟩ fun a=>by kernel_rfl
def sW (p0:Int×Int×Int) (p1:Int×Int×Int) (p2:Int×Int):Option ((Int×Int)×Bool):=
 (pX p1 p0 p2).bind fun b0=>
 bif b0 then
  some (p2,true)
 else
  bif decide (p0.2.2<p1.2.2) then
   (DZ p0 p1).bind fun a1=>
   some (a1,true)
  else
   some ((0,0),false)
def aQS:bL:=⟨aD.cons (aN.agg (cO.row eF)) (aD.cons (aN.agg (cO.row eF)) (aD.one (aN.agg (cO.row kM)))),aN.tup (aD.cons (aN.agg (cO.row kM)) (aD.one aN.bool)),fun a=>sW a.1 a.2.1 a.2.2,.pure,false⟩
theorem aIH:aM tab 159 aQS:=Oc aGd rfl aH [(70,c70),(205,aQR)] ⟨VT,aIG,trivial⟩ fun a=>by kernel_rfl
def sC (p0:Field) (p1:Int×Int) (p2:Int×Int):Option ((Int×Int)×Bool):=
 (gG p0 p1.2).bind fun n0=>
 (aK p0.points n0).bind fun a1=>
 (gG p0 p1.1).bind fun n2=>
 (aK p0.points n2).bind fun a3=>
 (sW a1 a3 p2).bind fun a4=>
 some a4
def c99:bL:=⟨aD.cons (aN.agg cB) (aD.cons (aN.agg (cO.row kM)) (aD.one (aN.agg (cO.row kM)))),aN.tup (aD.cons (aN.agg (cO.row kM)) (aD.one aN.bool)),fun a=>sC a.1 a.2.1 a.2.2,.pure,false⟩
theorem VU:aM tab 99 c99:=Oc aNU rfl aH [(40,c40),(159,aQS)] ⟨FM,aIH,trivial⟩ fun a=>by kernel_rfl
def wS (p0:aG) (p1:Int×Int):Option ((Int×Int×Int×Int×Int)×Int):=
 (uI p0).bind fun n0=>
 bif n0 !=0 then
  some ((0,0,0,0,0),8)
 else
  (wR p0.slots p1).bind fun b1=>
  bif !b1 then
   some ((0,0,0,0,0),6)
  else
   (aK p0.where_ p1.1).bind fun n2=>
   (aK p0.heap n2).bind fun a3=>
   some (a3,0)
def aQT:bL:=⟨aD.cons (aN.agg dD) (aD.one (aN.agg (cO.row kM))),aN.tup (aD.cons (aN.agg (cO.row lW)) (aD.one (aN.int .i64))),fun a=>wS a.1 a.2,.pure,false⟩
theorem aII:aM tab 100 aQT:=Oc aFD rfl aH [(98,c98),(160,aOq)] ⟨aCb,YL,trivial⟩ fun a=>by kernel_rfl
def dL (s:aNV):Option aPI:=
 bif decide (s.2.1<(Int.ofNat s.2.2.2.2.2.2.1.length)) then
  (aK s.2.2.2.2.2.2.1 s.2.1).bind fun a0=>
  (sC (Field.mk s.2.2.2.2.1) a0.2 (s.2.2.1,s.2.2.2.1)).bind fun a1=>
  bif !a1.2 then
   some (.next (s.1,aA .i64 (s.2.1+1),s.2.2))
  else
   bif decide ((Int.ofNat s.2.2.2.2.2.2.2.2.2.2.2.2.length)<=s.1) then
    some (.done 8)
   else
    (aK s.2.2.2.2.2.2.2.2.2.2.2.2 s.1).bind fun a2=>
    bif a2.1 !=a0.1 then
     some (.done 8)
    else
     (aK s.2.2.2.2.2.2.2.2.2.2.2.2 s.1).bind fun a3=>
     (wS (aG.mk (aR.mk s.2.2.2.2.2.2.2.1 s.2.2.2.2.2.2.2.2.1 s.2.2.2.2.2.2.2.2.2.1) s.2.2.2.2.2.2.2.2.2.2.1 s.2.2.2.2.2.2.2.2.2.2.2.1) a3.2).bind fun a4=>
     bif a4.2 !=0 then
      some (.done 8)
     else
      bif a4.1.2.2.1 !=a0.1 then
       some (.done 8)
      else
       bif !((a4.1.1==a1.1.1)&&(a4.1.2.1==a1.1.2)) then
        some (.done 8)
       else
        some (.next (aA .i64 (s.1+1),aA .i64 (s.2.1+1),s.2.2))
 else
  bif s.1 !=(Int.ofNat s.2.2.2.2.2.2.2.2.2.2.2.2.length) then
   some (.done 8)
  else
   some (.done 0)
def xY (p0:aP):Option Int:=
 (uF p0.now).bind fun n0=>
 bif n0 !=0 then
  some 8
 else
  (lQ p0.field).bind fun n1=>
  bif n1 !=0 then
   some 8
  else
   (uG p0.certs).bind fun n2=>
   bif n2 !=0 then
    some 8
   else
    (xW p0.certs p0.field).bind fun b3=>
    bif !b3 then
     some 8
    else
     (uI p0.agenda).bind fun n4=>
     bif n4 !=0 then
      some 8
     else
      bif (Int.ofNat p0.agenda.where_.length) !=200 then
       some 8
      else
       bif (Int.ofNat p0.agenda.heap.length) !=(Int.ofNat p0.due.length) then
        some 8
       else
        aJ dL (0,0,p0.now.1,p0.now.2,p0.field.points,p0.certs.next_,p0.certs.list,p0.agenda.slots.uses,p0.agenda.slots.used,p0.agenda.slots.free,p0.agenda.heap,p0.agenda.where_,p0.due)
def c53:bL:=⟨aD.one (aN.agg bU),aN.int .i64,fun a=>xY a,.pure,false⟩
theorem aOs:aM tab 53 c53:=Oc aNp rfl aH [(26,c26),(19,c19),(96,c96),(97,c97),(98,c98),(99,c99),(100,aQT)] ⟨aB6,VQ,aB7,aOp,aCb,VU,aII,trivial⟩ fun a=>by kernel_rfl
def TD (s:aHD):Option (cA aHD yO):=
 bif decide (s.2.1<(Int.ofNat s.1.length)) then
  (aK s.1 s.2.1).bind fun n0=>
  (aK s.1 (aA .i64 (Int.tdiv (aA .i64 (s.2.1-1)) 2))).bind fun n1=>
  (bO s.2.2 [(n0,n1)]).bind fun l2=>
  some (.next (s.1,aA .i64 (s.2.1+1),l2))
 else
  some (.done s.2.2)
def CY (p0:List Int):Option yO:=
 aJ TD (p0,1,[])
def c55:bL:=⟨aD.one (aN.sl ki),aN.sl kM,fun a=>CY a,.own,true⟩
def aOt:bL:=⟨aD.one (aN.sl ki),aN.sl kM,fun a=>CY a,.frz,false⟩
theorem aCc:aM tab 55 c55:=Oc aBI rfl aH [] trivial fun a=>by kernel_rfl
theorem YM:aM tab 55 aOt:=Oc aBI rfl aH [] trivial fun a=>by kernel_rfl
def vN (s:(Int×Int×bI×Int×Int)):Option (cA (Int×Int×bI×Int×Int) Bool):=
 bif decide (s.1<(Int.ofNat s.2.2.1.length)) then
  (aK s.2.2.1 s.1).bind fun a0=>
  bif (a0.2.1==s.2.2.2.1)&&(a0.2.2==s.2.2.2.2) then
   some (.done true)
  else
   some (.next (aA .i64 (s.1+1),s.2))
 else
  some (.done false)
def vW (p0:aU) (p1:Int×Int):Option Bool:=
 aJ vN (0,p0.next_,p0.list,p1)
def aIJ:bL:=⟨aD.cons (aN.agg gT) (aD.one (aN.agg (cO.row kM))),aN.bool,fun a=>vW a.1 a.2,.pure,false⟩
theorem QI:aM tab 101 aIJ:=Oc aFE rfl aH [] trivial fun a=>by kernel_rfl
def A6 (p0:Int×Int) (p1:Field) (p2:Int×Int):Option Bool:=
 (gG p1 p0.2).bind fun n0=>
 (aK p1.points n0).bind fun a1=>
 (gG p1 p0.1).bind fun n2=>
 (aK p1.points n2).bind fun a3=>
 (pX a1 a3 p2).bind fun b4=>
 some b4
def c30:bL:=⟨aD.cons (aN.agg (cO.row kM)) (aD.cons (aN.agg cB) (aD.one (aN.agg (cO.row kM)))),aN.bool,fun a=>A6 a.1 a.2.1 a.2.2,.pure,false⟩
theorem aOu:aM tab 30 c30:=Oc aNc rfl aH [(40,c40),(70,c70)] ⟨FM,VT,trivial⟩ fun a=>by kernel_rfl
def sX (s:aPH):Option (cA aPH Bool):=
 bif decide (s.2.1<(Int.ofNat s.1.length)) then
  (aK s.1 s.2.1).bind fun a0=>
  (vW (aU.mk s.2.2.2.2.2.1 s.2.2.2.2.2.2.1) a0).bind fun b1=>
  bif !b1 then
   some (.done false)
  else
   (aK s.1 s.2.1).bind fun a2=>
   (A6 a2 (Field.mk s.2.2.2.2.1) (s.2.2.1,s.2.2.2.1)).bind fun b3=>
   bif !b3 then
    some (.done false)
   else
    some (.next (s.1,aA .i64 (s.2.1+1),s.2.2))
 else
  some (.done true)
def A7 (p0:aP) (p1:List (Int×Int)):Option Bool:=
 bif (Int.ofNat p0.certs.list.length) !=(Int.ofNat p1.length) then
  some false
 else
  aJ sX (p1,0,p0.now.1,p0.now.2,p0.field.points,p0.certs.next_,p0.certs.list,p0.agenda.slots.uses,p0.agenda.slots.used,p0.agenda.slots.free,p0.agenda.heap,p0.agenda.where_,p0.due)
def c54:bL:=⟨aD.cons (aN.agg bU) (aD.one (aN.sl kM)),aN.bool,fun a=>A7 a.1 a.2,.pure,false⟩
theorem aOv:aM tab 54 c54:=Oc aNq rfl aH [(101,aIJ),(30,c30)] ⟨QI,aOu,trivial⟩ fun a=>by kernel_rfl
def rA (s:aHv):Option (cA aHv aPG):=
 bif decide (s.2.1<s.1) then
  (aK s.2.2.2.2.2.2.2.2.2.2.2.2.2 s.2.1).bind fun n0=>
  (aK s.2.2.2.2.2.2.2.2.2.2.2.2.2 s.1).bind fun n1=>
  bif n0==n1 then
   some (.done (.done 8))
  else
   some (.next (s.1,aA .i64 (s.2.1+1),s.2.2))
 else
  some (.done (.next (aA .i64 (s.1+1),s.2.2)))
def jJ (s:aPF):Option aPG:=
 bif decide (s.1<(Int.ofNat s.2.2.2.2.2.2.2.2.2.2.2.2.length)) then
  (aK s.2.2.2.2.2.2.2.2.2.2.2.2 s.1).bind fun n0=>
  (gG (Field.mk s.2.2.2.1) n0).bind fun n1=>
  bif decide (n1<0) then
   some (.done 8)
  else
   aJ rA (s.1,0,s.2)
 else
  (CY s.2.2.2.2.2.2.2.2.2.2.2.2).bind fun l2=>
  (A7 (aP.mk (s.2.1,s.2.2.1) (Field.mk s.2.2.2.1) (aU.mk s.2.2.2.2.1 s.2.2.2.2.2.1) (aG.mk (aR.mk s.2.2.2.2.2.2.1 s.2.2.2.2.2.2.2.1 s.2.2.2.2.2.2.2.2.1) s.2.2.2.2.2.2.2.2.2.1 s.2.2.2.2.2.2.2.2.2.2.1) s.2.2.2.2.2.2.2.2.2.2.2.1) l2).bind fun b3=>
  bif !b3 then
   some (.done 8)
  else
   some (.done 0)
def nQ (p0:cC):Option Int:=
 (xY p0.clock).bind fun n0=>
 bif n0 !=0 then
  some 8
 else
  bif (Int.ofNat p0.heap.length) !=(Int.ofNat p0.clock.field.points.length) then
   some 8
  else
   aJ jJ (0,p0.clock.now.1,p0.clock.now.2,p0.clock.field.points,p0.clock.certs.next_,p0.clock.certs.list,p0.clock.agenda.slots.uses,p0.clock.agenda.slots.used,p0.clock.agenda.slots.free,p0.clock.agenda.heap,p0.clock.agenda.where_,p0.clock.due,p0.heap)
def c13:bL:=⟨aD.one (aN.agg gC),aN.int .i64,fun a=>nQ a,.pure,false⟩
theorem aCd:aM tab 13 c13:=Oc aM4 rfl aH [(53,c53),(40,c40),(55,c55),(55,aOt),(54,c54)] ⟨aOs,FM,aCc,YM,aOv,trivial⟩ fun a=>by kernel_rfl
def fK (s:aPW):Option (cA aPW (Field×Int)):=
 bif decide (s.2.1<(Int.ofNat s.2.2.1.length)) then
  bif !s.1 then
   (aK s.2.2.1 s.2.1).bind fun a0=>
   bif decide (s.2.2.2.1<a0.1) then
    (bO s.2.2.2.2.2.2 [(s.2.2.2.1,s.2.2.2.2.1,s.2.2.2.2.2.1)]).bind fun l1=>
    (aK s.2.2.1 s.2.1).bind fun a2=>
    (bO l1 [a2]).bind fun l3=>
    some (.next (true,aA .i64 (s.2.1+1),s.2.2.1,s.2.2.2.1,s.2.2.2.2.1,s.2.2.2.2.2.1,l3))
   else
    (aK s.2.2.1 s.2.1).bind fun a4=>
    (bO s.2.2.2.2.2.2 [a4]).bind fun l5=>
    some (.next (s.1,aA .i64 (s.2.1+1),s.2.2.1,s.2.2.2.1,s.2.2.2.2.1,s.2.2.2.2.2.1,l5))
  else
   (aK s.2.2.1 s.2.1).bind fun a6=>
   (bO s.2.2.2.2.2.2 [a6]).bind fun l7=>
   some (.next (s.1,aA .i64 (s.2.1+1),s.2.2.1,s.2.2.2.1,s.2.2.2.2.1,s.2.2.2.2.2.1,l7))
 else
  bif !s.1 then
   (bO s.2.2.2.2.2.2 [(s.2.2.2.1,s.2.2.2.2.1,s.2.2.2.2.2.1)]).bind fun l8=>
   some (.done (Field.mk l8,0))
  else
   some (.done (Field.mk s.2.2.2.2.2.2,0))
def mT (p0:Field) (p1:Int×Int×Int):Option (Field×Int):=
 (lQ p0).bind fun n0=>
 bif n0 !=0 then
  some (Field.mk [],n0)
 else
  (pW p1).bind fun n1=>
  bif n1 !=0 then
   some (Field.mk [],8)
  else
   (gG p0 p1.1).bind fun n2=>
   bif decide (0<=n2) then
    some (Field.mk [],14)
   else
    bif (Int.ofNat p0.points.length)==64 then
     some (Field.mk [],18)
    else
     aJ fK (false,0,p0.points,p1.1,p1.2.1,p1.2.2,[])
def c80:bL:=⟨aD.cons (aN.agg cB) (aD.one (aN.agg (cO.row eF))),aN.tup (aD.cons (aN.agg cB) (aD.one (aN.int .i64))),fun a=>mT a.1 a.2,.frz,false⟩
theorem aOw:aM tab 80 c80:=Oc aNF rfl aH [(19,c19),(44,c44),(40,c40)] ⟨VQ,VP,FM,trivial⟩ fun a=>by kernel_rfl
def lR (p0:Field) (p1:Int×Int) (p2:Int) (p3:Int):Option Bool:=
 (gG p0 p2).bind fun n0=>
 (aK p0.points n0).bind fun a1=>
 (gG p0 p3).bind fun n2=>
 (aK p0.points n2).bind fun a3=>
 (pX a1 a3 p1).bind fun b4=>
 some b4
def c22:bL:=⟨aD.cons (aN.agg cB) (aD.cons (aN.agg (cO.row kM)) (aD.cons (aN.int .i64) (aD.one (aN.int .i64)))),aN.bool,fun a=>lR a.1 a.2.1 a.2.2.1 a.2.2.2,.pure,false⟩
theorem VV:aM tab 22 c22:=Oc aM9 rfl aH [(40,c40),(70,c70)] ⟨FM,VT,trivial⟩ fun a=>by kernel_rfl
def nR (s:aHC):Option (cA aHC (List Int)):=
 bif decide (0<s.1) then
  (aK s.2.2.2.2 s.1).bind fun n0=>
  (aK s.2.2.2.2 (aA .i64 (Int.tdiv (aA .i64 (s.1-1)) 2))).bind fun n1=>
  (lR (Field.mk s.2.1) (s.2.2.1,s.2.2.2.1) n0 n1).bind fun b2=>
  bif b2 then
   (aK s.2.2.2.2 (aA .i64 (Int.tdiv (aA .i64 (s.1-1)) 2))).bind fun n3=>
   (aK s.2.2.2.2 s.1).bind fun n4=>
   (aK s.2.2.2.2 s.1).bind fun _=>
   (aK (bM s.2.2.2.2 s.1 n3) (aA .i64 (Int.tdiv (aA .i64 (s.1-1)) 2))).bind fun _=>
   some (.next (aA .i64 (Int.tdiv (aA .i64 (s.1-1)) 2),s.2.1,s.2.2.1,s.2.2.2.1,bM (bM s.2.2.2.2 s.1 n3) (aA .i64 (Int.tdiv (aA .i64 (s.1-1)) 2)) n4))
  else
   some (.done s.2.2.2.2)
 else
  some (.done s.2.2.2.2)
def pY (p0:Field) (p1:Int×Int) (p2:List Int) (p3:Int):Option (List Int):=
 (bR p2).bind fun l0=>
 aJ nR (p3,p0.points,p1.1,p1.2,l0)
def c82:bL:=⟨aD.cons (aN.agg cB) (aD.cons (aN.agg (cO.row kM)) (aD.cons (aN.sl ki) (aD.one (aN.int .i64)))),aN.sl ki,fun a=>pY a.1 a.2.1 a.2.2.1 a.2.2.2,.own,true⟩
def aOx:bL:=⟨aD.cons (aN.agg cB) (aD.cons (aN.agg (cO.row kM)) (aD.cons (aN.sl ki) (aD.one (aN.int .i64)))),aN.sl ki,fun a=>pY a.1 a.2.1 a.2.2.1 a.2.2.2,.frz,false⟩
theorem aCe:aM tab 82 c82:=Oc aBL rfl aH [(22,c22)] ⟨VV,trivial⟩ fun a=>by kernel_rfl
theorem YN:aM tab 82 aOx:=Oc aBL rfl aH [(22,c22)] ⟨VV,trivial⟩ fun a=>by kernel_rfl
def xZ (s:(yO×Int×Int×Int)):Option (cA (yO×Int×Int×Int) Bool):=
 bif decide (s.2.1<(Int.ofNat s.1.length)) then
  (aK s.1 s.2.1).bind fun a0=>
  bif (a0.1==s.2.2.1)&&(a0.2==s.2.2.2) then
   some (.done true)
  else
   some (.next (s.1,aA .i64 (s.2.1+1),s.2.2))
 else
  some (.done false)
def GZ (p0:List (Int×Int)) (p1:Int×Int):Option Bool:=
 aJ xZ (p0,0,p1)
def c29:bL:=⟨aD.cons (aN.sl kM) (aD.one (aN.agg (cO.row kM))),aN.bool,fun a=>GZ a.1 a.2,.pure,false⟩
theorem aOy:aM tab 29 c29:=Oc aNb rfl aH [] trivial fun a=>by kernel_rfl
def lF (s:aPX):Option (cA aPX aU):=
 bif decide (s.2.1<(Int.ofNat s.2.2.2.1.length)) then
  (aK s.2.2.2.1 s.2.1).bind fun a0=>
  bif a0.1 !=s.1 then
   (aK s.2.2.2.1 s.2.1).bind fun a1=>
   (bO s.2.2.2.2.2.2 [a1]).bind fun l2=>
   some (.next (s.1,aA .i64 (s.2.1+1),s.2.2.1,s.2.2.2.1,s.2.2.2.2.1,s.2.2.2.2.2.1,l2))
  else
   some (.next (s.1,aA .i64 (s.2.1+1),s.2.2))
 else
  some (.done (aU.mk s.2.2.2.2.2.1 s.2.2.2.2.2.2))
def sY (p0:aU) (p1:Int):Option aU:=
 aJ lF (p1,0,p0.next_,p0.list,0,p0.next_,[])
def aQU:bL:=⟨aD.cons (aN.agg gT) (aD.one (aN.int .i64)),aN.agg gT,fun a=>sY a.1 a.2,.frz,false⟩
theorem aIK:aM tab 247 aQU:=Oc aG4 rfl aH [] trivial fun a=>by kernel_rfl
def rB (s:aNV):Option aPI:=
 bif decide (s.2.1<(Int.ofNat s.2.2.2.2.2.2.2.2.2.2.2.2.length)) then
  (aK s.2.2.2.2.2.2.2.2.2.2.2.2 s.2.1).bind fun a0=>
  bif a0.1==s.1 then
   some (.done s.2.1)
  else
   some (.next (s.1,aA .i64 (s.2.1+1),s.2.2))
 else
  some (.done (-1))
def pZ (p0:aP) (p1:Int):Option Int:=
 aJ rB (p1,0,p0.now.1,p0.now.2,p0.field.points,p0.certs.next_,p0.certs.list,p0.agenda.slots.uses,p0.agenda.slots.used,p0.agenda.slots.free,p0.agenda.heap,p0.agenda.where_,p0.due)
def aOz:bL:=⟨aD.cons (aN.agg bU) (aD.one (aN.int .i64)),aN.int .i64,fun a=>pZ a.1 a.2,.pure,false⟩
theorem YO:aM tab 248 aOz:=Oc aG5 rfl aH [] trivial fun a=>by kernel_rfl
def qA (p0:aR) (p1:Int×Int):Option aR:=
 (nJ p0).bind fun r0=>
 (aK r0.used p1.1).bind fun _=>
 (bO r0.free [p1.1]).bind fun l2=>
 some (aR.mk r0.uses (bM r0.used p1.1 false) l2)
def aQV:bL:=⟨aD.cons (aN.agg gL) (aD.one (aN.agg (cO.row kM))),aN.agg gL,fun a=>qA a.1 a.2,.frz,false⟩
theorem aIL:aM tab 280 aQV:=Oc aHm rfl aH [(195,aBT),(195,SQ)] ⟨KD,GV,trivial⟩ fun a=>by kernel_rfl
def fQ (a:aNX):Option aNY:=
 (aK a.2.2.2.2.2.1 a.2.1).bind fun a0=>
 (aK a.2.2.2.2.2.1 a.1).bind fun a1=>
 (aK a.2.2.2.2.2.1 a.1).bind fun _=>
 (aK (bM a.2.2.2.2.2.1 a.1 a0) a.2.1).bind fun _=>
 (aK (bM (bM a.2.2.2.2.2.1 a.1 a0) a.2.1 a1) a.1).bind fun a4=>
 (aK (bM (bM a.2.2.2.2.2.1 a.1 a0) a.2.1 a1) a.2.1).bind fun a5=>
 (aK a.2.2.2.2.2.2 a4.2.2.2.1).bind fun _=>
 (aK (bM a.2.2.2.2.2.2 a4.2.2.2.1 a.1) a5.2.2.2.1).bind fun _=>
 bif a.2.2.1.length==a.2.2.1.length then
  bif a.2.2.2.1.length==a.2.2.2.1.length then
   bif a.2.2.2.2.1.length==a.2.2.2.2.1.length then
    bif ((bM (bM a.2.2.2.2.2.1 a.1 a0) a.2.1 a1).length)==a.2.2.2.2.2.1.length then
     bif ((bM (bM a.2.2.2.2.2.2 a4.2.2.2.1 a.1) a5.2.2.2.1 a.2.1).length)==a.2.2.2.2.2.2.length then
      some (a.2.2.1,a.2.2.2.1,a.2.2.2.2.1,bM (bM a.2.2.2.2.2.1 a.1 a0) a.2.1 a1,bM (bM a.2.2.2.2.2.2 a4.2.2.2.1 a.1) a5.2.2.2.1 a.2.1)
     else
      none
    else
     none
   else
    none
  else
   none
 else
  none
def FN:eH:=⟨[.i,.i,.l [.i .i64],.l [.b],.l [.i .i64],.l [.i .i64,.i .i64,.i .i64,.i .i64,.i .i64],.l [.i .i64]],[.agg [.own 0 false,.own 1 false,.own 2 false,.own 3 false,.own 4 false],.int .i64 0,.int .i64 0],[.arr [.i .i64] [],.arr [.b] [],.arr [.i .i64] [],.arr [.i .i64,.i .i64,.i .i64,.i .i64,.i .i64] [],.arr [.i .i64] []],[.l [.i .i64],.l [.b],.l [.i .i64],.l [.i .i64,.i .i64,.i .i64,.i .i64,.i .i64],.l [.i .i64]],.tup [],[.arr [.i .i64] [],.arr [.b] [],.arr [.i .i64] [],.arr [.i .i64,.i .i64,.i .i64,.i .i64,.i .i64] [],.arr [.i .i64] []],fun a=>fQ a⟩
theorem vX:nB tab 279 FN:=nB.of P1 (wd:=false) (cx:=(pG aH [] [] [] [])) (mK.make trivial trivial trivial) (fun a=>by kernel_rfl)
def gR (a:((List Int)×(List Bool)×(List Int)×Nat×Nat×Int×Int×iM×(List Int))):Option NK:=
 (aK (a.2.2.2.2.2.2.2.1.take a.2.2.2.1) a.2.2.2.2.2.2.1).bind fun a0=>
 (aK (a.2.2.2.2.2.2.2.1.take a.2.2.2.1) a.2.2.2.2.2.1).bind fun a1=>
 (aK (a.2.2.2.2.2.2.2.1.take a.2.2.2.1) a.2.2.2.2.2.1).bind fun _=>
 (aK ((bM a.2.2.2.2.2.2.2.1 a.2.2.2.2.2.1 a0).take a.2.2.2.1) a.2.2.2.2.2.2.1).bind fun _=>
 (aK ((bM (bM a.2.2.2.2.2.2.2.1 a.2.2.2.2.2.1 a0) a.2.2.2.2.2.2.1 a1).take a.2.2.2.1) a.2.2.2.2.2.1).bind fun a4=>
 (aK ((bM (bM a.2.2.2.2.2.2.2.1 a.2.2.2.2.2.1 a0) a.2.2.2.2.2.2.1 a1).take a.2.2.2.1) a.2.2.2.2.2.2.1).bind fun a5=>
 (aK a.2.2.2.2.2.2.2.2 a4.2.2.2.1).bind fun _=>
 (aK (bM a.2.2.2.2.2.2.2.2 a4.2.2.2.1 a.2.2.2.2.2.1) a5.2.2.2.1).bind fun _=>
 bif ((bM (bM a.2.2.2.2.2.2.2.1 a.2.2.2.2.2.1 a0) a.2.2.2.2.2.2.1 a1).length)==a.2.2.2.2.2.2.2.1.length then
  bif ((bM (bM a.2.2.2.2.2.2.2.2 a4.2.2.2.1 a.2.2.2.2.2.1) a5.2.2.2.1 a.2.2.2.2.2.2.1).length)==a.2.2.2.2.2.2.2.2.length then
   some (bM (bM a.2.2.2.2.2.2.2.1 a.2.2.2.2.2.1 a0) a.2.2.2.2.2.2.1 a1,bM (bM a.2.2.2.2.2.2.2.2 a4.2.2.2.1 a.2.2.2.2.2.1) a5.2.2.2.1 a.2.2.2.2.2.2.1)
  else
   none
 else
  none
def FO:eH:=⟨[.l [.i .i64],.l [.b],.l [.i .i64],.n,.n,.i,.i,.l [.i .i64,.i .i64,.i .i64,.i .i64,.i .i64],.l [.i .i64]],[.agg [.sl [.i .i64] [],.sl [.b] [],.sl [.i .i64] [],.pre 0 0 0 false,.own 1 false],.int .i64 0,.int .i64 0],[.arr [.i .i64,.i .i64,.i .i64,.i .i64,.i .i64] [],.arr [.i .i64] []],[.l [.i .i64,.i .i64,.i .i64,.i .i64,.i .i64],.l [.i .i64]],.tup [],[.arr [.i .i64,.i .i64,.i .i64,.i .i64,.i .i64] [],.arr [.i .i64] []],fun a=>gR a⟩
theorem vY:nB tab 279 FO:=nB.of P1 (wd:=false) (cx:=(pG aH [] [] [] [])) (mK.make trivial trivial trivial) (fun a=>by kernel_rfl)
def iB (c0:aHy) (s:aHz):Option (cA aHz aHB):=
 bif decide (0<s.1) then
  (aK (s.2.1.take s.2.2.2.2.2.2.1) s.1).bind fun a0=>
  (aK (s.2.1.take s.2.2.2.2.2.2.1) (aA .i64 (Int.tdiv (aA .i64 (s.1-1)) 2))).bind fun a1=>
  (eN a0 a1).bind fun b2=>
  bif b2 then
   (gR (s.2.2.2.1,s.2.2.2.2.1,s.2.2.2.2.2.1,s.2.2.2.2.2.2.1,s.2.2.2.2.2.2.2,s.1,aA .i64 (Int.tdiv (aA .i64 (s.1-1)) 2),s.2.1,s.2.2.1)).bind fun a3=>
   some (.next (aA .i64 (Int.tdiv (aA .i64 (s.1-1)) 2),a3.1,a3.2,s.2.2.2))
  else
   bif s.2.1.length==c0.2.2.2.2.2.2.1.length then
    bif s.2.2.1.length==c0.2.2.2.2.2.2.2.length then
     some (.done (s.1,s.2.1,s.2.2.1))
    else
     none
   else
    none
 else
  bif s.2.1.length==c0.2.2.2.2.2.2.1.length then
   bif s.2.2.1.length==c0.2.2.2.2.2.2.2.length then
    some (.done (s.1,s.2.1,s.2.2.1))
   else
    none
  else
   none
def nS (a:aHy):Option aHB:=
 aJ (iB a) (a.2.2.2.2.2.1,a.2.2.2.2.2.2.1,a.2.2.2.2.2.2.2,a.1,a.2.1,a.2.2.1,a.2.2.2.1,a.2.2.2.2.1)
def QJ:eH:=⟨[.l [.i .i64],.l [.b],.l [.i .i64],.n,.n,.i,.l [.i .i64,.i .i64,.i .i64,.i .i64,.i .i64],.l [.i .i64]],[.agg [.sl [.i .i64] [],.sl [.b] [],.sl [.i .i64] [],.pre 0 0 0 false,.own 1 false],.int .i64 0],[.arr [.i .i64,.i .i64,.i .i64,.i .i64,.i .i64] [],.arr [.i .i64] []],[.i,.l [.i .i64,.i .i64,.i .i64,.i .i64,.i .i64],.l [.i .i64]],.int .i64 0,[.arr [.i .i64,.i .i64,.i .i64,.i .i64,.i .i64] [],.arr [.i .i64] []],fun a=>nS a⟩
theorem IP:nB tab 282 QJ:=nB.of P2 (wd:=true) (cx:=(pG aH [(158,VS)] [(279,FN),(279,FO)] [] [])) (mK.make ⟨DX,trivial⟩ ⟨vX,vY,trivial⟩ trivial) (fun a=>by kernel_rfl)
def kT (c0:aHy) (s:aHz):Option (cA aHz NK):=
 bif decide ((Int.ofNat s.2.2.2.2.2.2.1)<=(aA .i64 ((aA .i64 (2*s.1))+1))) then
  bif s.2.1.length==c0.2.2.2.2.2.2.1.length then
   bif s.2.2.1.length==c0.2.2.2.2.2.2.2.length then
    some (.done (s.2.1,s.2.2.1))
   else
    none
  else
   none
 else
  bif decide ((aA .i64 ((aA .i64 ((aA .i64 (2*s.1))+1))+1))<(Int.ofNat s.2.2.2.2.2.2.1)) then
   (aK (s.2.1.take s.2.2.2.2.2.2.1) (aA .i64 ((aA .i64 ((aA .i64 (2*s.1))+1))+1))).bind fun a0=>
   (aK (s.2.1.take s.2.2.2.2.2.2.1) (aA .i64 ((aA .i64 (2*s.1))+1))).bind fun a1=>
   (eN a0 a1).bind fun b2=>
   bif b2 then
    (aK (s.2.1.take s.2.2.2.2.2.2.1) (aA .i64 ((aA .i64 ((aA .i64 (2*s.1))+1))+1))).bind fun a3=>
    (aK (s.2.1.take s.2.2.2.2.2.2.1) s.1).bind fun a4=>
    (eN a3 a4).bind fun b5=>
    bif !b5 then
     bif s.2.1.length==c0.2.2.2.2.2.2.1.length then
      bif s.2.2.1.length==c0.2.2.2.2.2.2.2.length then
       some (.done (s.2.1,s.2.2.1))
      else
       none
     else
      none
    else
     (gR (s.2.2.2.1,s.2.2.2.2.1,s.2.2.2.2.2.1,s.2.2.2.2.2.2.1,s.2.2.2.2.2.2.2,s.1,aA .i64 ((aA .i64 ((aA .i64 (2*s.1))+1))+1),s.2.1,s.2.2.1)).bind fun a6=>
     some (.next (aA .i64 ((aA .i64 ((aA .i64 (2*s.1))+1))+1),a6.1,a6.2,s.2.2.2))
   else
    (aK (s.2.1.take s.2.2.2.2.2.2.1) (aA .i64 ((aA .i64 (2*s.1))+1))).bind fun a7=>
    (aK (s.2.1.take s.2.2.2.2.2.2.1) s.1).bind fun a8=>
    (eN a7 a8).bind fun b9=>
    bif !b9 then
     bif s.2.1.length==c0.2.2.2.2.2.2.1.length then
      bif s.2.2.1.length==c0.2.2.2.2.2.2.2.length then
       some (.done (s.2.1,s.2.2.1))
      else
       none
     else
      none
    else
     (gR (s.2.2.2.1,s.2.2.2.2.1,s.2.2.2.2.2.1,s.2.2.2.2.2.2.1,s.2.2.2.2.2.2.2,s.1,aA .i64 ((aA .i64 (2*s.1))+1),s.2.1,s.2.2.1)).bind fun a10=>
     some (.next (aA .i64 ((aA .i64 (2*s.1))+1),a10.1,a10.2,s.2.2.2))
  else
   (aK (s.2.1.take s.2.2.2.2.2.2.1) (aA .i64 ((aA .i64 (2*s.1))+1))).bind fun a11=>
   (aK (s.2.1.take s.2.2.2.2.2.2.1) s.1).bind fun a12=>
   (eN a11 a12).bind fun b13=>
   bif !b13 then
    bif s.2.1.length==c0.2.2.2.2.2.2.1.length then
     bif s.2.2.1.length==c0.2.2.2.2.2.2.2.length then
      some (.done (s.2.1,s.2.2.1))
     else
      none
    else
     none
   else
    (gR (s.2.2.2.1,s.2.2.2.2.1,s.2.2.2.2.2.1,s.2.2.2.2.2.2.1,s.2.2.2.2.2.2.2,s.1,aA .i64 ((aA .i64 (2*s.1))+1),s.2.1,s.2.2.1)).bind fun a14=>
    some (.next (aA .i64 ((aA .i64 (2*s.1))+1),a14.1,a14.2,s.2.2.2))
def lG (a:aHy):Option NK:=
 aJ (kT a) (a.2.2.2.2.2.1,a.2.2.2.2.2.2.1,a.2.2.2.2.2.2.2,a.1,a.2.1,a.2.2.1,a.2.2.2.1,a.2.2.2.2.1)
def VW:eH:=⟨[.l [.i .i64],.l [.b],.l [.i .i64],.n,.n,.i,.l [.i .i64,.i .i64,.i .i64,.i .i64,.i .i64],.l [.i .i64]],[.agg [.sl [.i .i64] [],.sl [.b] [],.sl [.i .i64] [],.pre 0 0 0 false,.own 1 false],.int .i64 0],[.arr [.i .i64,.i .i64,.i .i64,.i .i64,.i .i64] [],.arr [.i .i64] []],[.l [.i .i64,.i .i64,.i .i64,.i .i64,.i .i64],.l [.i .i64]],.tup [],[.arr [.i .i64,.i .i64,.i .i64,.i .i64,.i .i64] [],.arr [.i .i64] []],fun a=>lG a⟩
theorem OL:nB tab 281 VW:=nB.of X6 (wd:=false) (cx:=(pG aH [(158,VS)] [(279,FN),(279,FO)] [] [])) (mK.make ⟨DX,trivial⟩ ⟨vX,vY,trivial⟩ trivial) (fun a=>by kernel_rfl)
def kD (p0:aG) (p1:Int×Int):Option aG:=
 (lY p0).bind fun r0=>
 (aK r0.where_ p1.1).bind fun n1=>
 bif n1 !=(aA .i64 ((Int.ofNat r0.heap.length) -1)) then
  (fQ (n1,aA .i64 ((Int.ofNat r0.heap.length) -1),r0.slots.uses,r0.slots.used,r0.slots.free,r0.heap,r0.where_)).bind fun a2=>
  (jO a2.2.2.2.1 0 (aA .i64 ((Int.ofNat r0.heap.length) -1))).bind fun _=>
  (aK a2.2.2.2.2 p1.1).bind fun _=>
  (qA (aR.mk a2.1 a2.2.1 a2.2.2.1) p1).bind fun r5=>
  bif n1 !=(aA .i64 ((Int.ofNat r0.heap.length) -1)) then
   (nS (r5.uses,r5.used,r5.free,(aA .i64 ((Int.ofNat r0.heap.length) -1)).toNat,a2.2.2.2.1.length,n1,a2.2.2.2.1,bM a2.2.2.2.2 p1.1 (-1))).bind fun a6=>
   (lG (r5.uses,r5.used,r5.free,(aA .i64 ((Int.ofNat r0.heap.length) -1)).toNat,a2.2.2.2.1.length,a6)).bind fun a7=>
   some (aG.mk r5 (a7.1.take ((aA .i64 ((Int.ofNat r0.heap.length) -1)).toNat)) a7.2)
  else
   some (aG.mk r5 (a2.2.2.2.1.take ((aA .i64 ((Int.ofNat r0.heap.length) -1)).toNat)) (bM a2.2.2.2.2 p1.1 (-1)))
 else
  (jO r0.heap 0 (aA .i64 ((Int.ofNat r0.heap.length) -1))).bind fun _=>
  (aK r0.where_ p1.1).bind fun _=>
  (qA r0.slots p1).bind fun r10=>
  bif n1 !=(aA .i64 ((Int.ofNat r0.heap.length) -1)) then
   (nS (r10.uses,r10.used,r10.free,(aA .i64 ((Int.ofNat r0.heap.length) -1)).toNat,r0.heap.length,n1,r0.heap,bM r0.where_ p1.1 (-1))).bind fun a11=>
   (lG (r10.uses,r10.used,r10.free,(aA .i64 ((Int.ofNat r0.heap.length) -1)).toNat,r0.heap.length,a11)).bind fun a12=>
   some (aG.mk r10 (a12.1.take ((aA .i64 ((Int.ofNat r0.heap.length) -1)).toNat)) a12.2)
  else
   some (aG.mk r10 (r0.heap.take ((aA .i64 ((Int.ofNat r0.heap.length) -1)).toNat)) (bM r0.where_ p1.1 (-1)))
def aOA:bL:=⟨aD.cons (aN.agg dD) (aD.one (aN.agg (cO.row kM))),aN.agg dD,fun a=>kD a.1 a.2,.frz,false⟩
theorem YP:aM tab 249 aOA:=aM.of aG6 (cx:=(pG aH [(137,aAd),(137,OI),(280,aQV)] [(279,FN),(279,FO),(282,QJ),(281,VW)] [] [])) rfl (mK.make ⟨GW,CU,aIL,trivial⟩ ⟨vX,vY,IP,OL,trivial⟩ trivial) (fun a=>by kernel_rfl)
def wT (p0:aP) (p1:Int):Option aP:=
 (jD p0).bind fun r0=>
 (sY p0.certs p1).bind fun r1=>
 (pZ p0 p1).bind fun n2=>
 bif decide (0<=n2) then
  (aK p0.due n2).bind fun a3=>
  (kD p0.agenda a3.2).bind fun r4=>
  (jO p0.due 0 n2).bind fun l5=>
  (bR l5).bind fun l6=>
  (jO p0.due (aA .i64 (n2+1)) (Int.ofNat p0.due.length)).bind fun l7=>
  bif l7.isEmpty then
   some (aP.mk r0.now r0.field r1 r4 l6)
  else
   (bO l6 l7).bind fun l8=>
   some (aP.mk r0.now r0.field r1 r4 l8)
 else
  some (aP.mk r0.now r0.field r1 r0.agenda r0.due)
def aQW:bL:=⟨aD.cons (aN.agg bU) (aD.one (aN.int .i64)),aN.agg bU,fun a=>wT a.1 a.2,.frz,false⟩
theorem aIM:aM tab 197 aQW:=Oc aGF rfl aH [(77,c77),(77,VK),(247,aQU),(248,aOz),(249,aOA)] ⟨IJ,DS,aIK,YO,YP,trivial⟩ fun a=>by kernel_rfl
def sZ (s:(Int×bI×bI)):Option (cA (Int×bI×bI) Bool):=
 bif decide (s.1<(Int.ofNat s.2.1.length)) then
  (aK s.2.1 s.1).bind fun a0=>
  (aK s.2.2 s.1).bind fun a1=>
  bif !((a0.1==a1.1)&&((a0.2.1==a1.2.1)&&(a0.2.2==a1.2.2))) then
   some (.done false)
  else
   some (.next (aA .i64 (s.1+1),s.2))
 else
  some (.done true)
def wU (p0:Field) (p1:Field):Option Bool:=
 bif (Int.ofNat p0.points.length) !=(Int.ofNat p1.points.length) then
  some false
 else
  aJ sZ (0,p0.points,p1.points)
def c21:bL:=⟨aD.cons (aN.agg cB) (aD.one (aN.agg cB)),aN.bool,fun a=>wU a.1 a.2,.pure,false⟩
theorem aCf:aM tab 21 c21:=Oc aM8 rfl aH [] trivial fun a=>by kernel_rfl
def iC (c0:GU) (s:GU):Option (cA GU GU):=
 bif decide (0<s.1) then
  (aK s.2.2.2.2.1 s.1).bind fun a0=>
  (aK s.2.2.2.2.1 (aA .i64 (Int.tdiv (aA .i64 (s.1-1)) 2))).bind fun a1=>
  (eN a0 a1).bind fun b2=>
  bif b2 then
   (fQ (s.1,aA .i64 (Int.tdiv (aA .i64 (s.1-1)) 2),s.2)).bind fun a3=>
   some (.next (aA .i64 (Int.tdiv (aA .i64 (s.1-1)) 2),a3))
  else
   bif s.2.1.length==c0.2.1.length then
    bif s.2.2.1.length==c0.2.2.1.length then
     bif s.2.2.2.1.length==c0.2.2.2.1.length then
      bif s.2.2.2.2.1.length==c0.2.2.2.2.1.length then
       bif s.2.2.2.2.2.length==c0.2.2.2.2.2.length then
        some (.done s)
       else
        none
      else
       none
     else
      none
    else
     none
   else
    none
 else
  bif s.2.1.length==c0.2.1.length then
   bif s.2.2.1.length==c0.2.2.1.length then
    bif s.2.2.2.1.length==c0.2.2.2.1.length then
     bif s.2.2.2.2.1.length==c0.2.2.2.2.1.length then
      bif s.2.2.2.2.2.length==c0.2.2.2.2.2.length then
       some (.done s)
      else
       none
     else
      none
    else
     none
   else
    none
  else
   none
def rC (a:GU):Option GU:=
 aJ (iC a) a
def VX:eH:=⟨[.i,.l [.i .i64],.l [.b],.l [.i .i64],.l [.i .i64,.i .i64,.i .i64,.i .i64,.i .i64],.l [.i .i64]],[.agg [.own 0 false,.own 1 false,.own 2 false,.own 3 false,.own 4 false],.int .i64 0],[.arr [.i .i64] [],.arr [.b] [],.arr [.i .i64] [],.arr [.i .i64,.i .i64,.i .i64,.i .i64,.i .i64] [],.arr [.i .i64] []],[.i,.l [.i .i64],.l [.b],.l [.i .i64],.l [.i .i64,.i .i64,.i .i64,.i .i64,.i .i64],.l [.i .i64]],.int .i64 0,[.arr [.i .i64] [],.arr [.b] [],.arr [.i .i64] [],.arr [.i .i64,.i .i64,.i .i64,.i .i64,.i .i64] [],.arr [.i .i64] []],fun a=>rC a⟩
theorem OM:nB tab 282 VX:=nB.of P2 (wd:=false) (cx:=(pG aH [(158,VS)] [(279,FN),(279,FO)] [] [])) (mK.make ⟨DX,trivial⟩ ⟨vX,vY,trivial⟩ trivial) (fun a=>by kernel_rfl)
def kU (c0:GU) (s:GU):Option (cA GU aNY):=
 bif decide ((Int.ofNat s.2.2.2.2.1.length)<=(aA .i64 ((aA .i64 (2*s.1))+1))) then
  bif s.2.1.length==c0.2.1.length then
   bif s.2.2.1.length==c0.2.2.1.length then
    bif s.2.2.2.1.length==c0.2.2.2.1.length then
     bif s.2.2.2.2.1.length==c0.2.2.2.2.1.length then
      bif s.2.2.2.2.2.length==c0.2.2.2.2.2.length then
       some (.done s.2)
      else
       none
     else
      none
    else
     none
   else
    none
  else
   none
 else
  bif decide ((aA .i64 ((aA .i64 ((aA .i64 (2*s.1))+1))+1))<(Int.ofNat s.2.2.2.2.1.length)) then
   (aK s.2.2.2.2.1 (aA .i64 ((aA .i64 ((aA .i64 (2*s.1))+1))+1))).bind fun a0=>
   (aK s.2.2.2.2.1 (aA .i64 ((aA .i64 (2*s.1))+1))).bind fun a1=>
   (eN a0 a1).bind fun b2=>
   bif b2 then
    (aK s.2.2.2.2.1 (aA .i64 ((aA .i64 ((aA .i64 (2*s.1))+1))+1))).bind fun a3=>
    (aK s.2.2.2.2.1 s.1).bind fun a4=>
    (eN a3 a4).bind fun b5=>
    bif !b5 then
     bif s.2.1.length==c0.2.1.length then
      bif s.2.2.1.length==c0.2.2.1.length then
       bif s.2.2.2.1.length==c0.2.2.2.1.length then
        bif s.2.2.2.2.1.length==c0.2.2.2.2.1.length then
         bif s.2.2.2.2.2.length==c0.2.2.2.2.2.length then
          some (.done s.2)
         else
          none
        else
         none
       else
        none
      else
       none
     else
      none
    else
     (fQ (s.1,aA .i64 ((aA .i64 ((aA .i64 (2*s.1))+1))+1),s.2)).bind fun a6=>
     some (.next (aA .i64 ((aA .i64 ((aA .i64 (2*s.1))+1))+1),a6))
   else
    (aK s.2.2.2.2.1 (aA .i64 ((aA .i64 (2*s.1))+1))).bind fun a7=>
    (aK s.2.2.2.2.1 s.1).bind fun a8=>
    (eN a7 a8).bind fun b9=>
    bif !b9 then
     bif s.2.1.length==c0.2.1.length then
      bif s.2.2.1.length==c0.2.2.1.length then
       bif s.2.2.2.1.length==c0.2.2.2.1.length then
        bif s.2.2.2.2.1.length==c0.2.2.2.2.1.length then
         bif s.2.2.2.2.2.length==c0.2.2.2.2.2.length then
          some (.done s.2)
         else
          none
        else
         none
       else
        none
      else
       none
     else
      none
    else
     (fQ (s.1,aA .i64 ((aA .i64 (2*s.1))+1),s.2)).bind fun a10=>
     some (.next (aA .i64 ((aA .i64 (2*s.1))+1),a10))
  else
   (aK s.2.2.2.2.1 (aA .i64 ((aA .i64 (2*s.1))+1))).bind fun a11=>
   (aK s.2.2.2.2.1 s.1).bind fun a12=>
   (eN a11 a12).bind fun b13=>
   bif !b13 then
    bif s.2.1.length==c0.2.1.length then
     bif s.2.2.1.length==c0.2.2.1.length then
      bif s.2.2.2.1.length==c0.2.2.2.1.length then
       bif s.2.2.2.2.1.length==c0.2.2.2.2.1.length then
        bif s.2.2.2.2.2.length==c0.2.2.2.2.2.length then
         some (.done s.2)
        else
         none
       else
        none
      else
       none
     else
      none
    else
     none
   else
    (fQ (s.1,aA .i64 ((aA .i64 (2*s.1))+1),s.2)).bind fun a14=>
    some (.next (aA .i64 ((aA .i64 (2*s.1))+1),a14))
def oA (a:GU):Option aNY:=
 aJ (kU a) a
def aCg:eH:=⟨[.i,.l [.i .i64],.l [.b],.l [.i .i64],.l [.i .i64,.i .i64,.i .i64,.i .i64,.i .i64],.l [.i .i64]],[.agg [.own 0 false,.own 1 false,.own 2 false,.own 3 false,.own 4 false],.int .i64 0],[.arr [.i .i64] [],.arr [.b] [],.arr [.i .i64] [],.arr [.i .i64,.i .i64,.i .i64,.i .i64,.i .i64] [],.arr [.i .i64] []],[.l [.i .i64],.l [.b],.l [.i .i64],.l [.i .i64,.i .i64,.i .i64,.i .i64,.i .i64],.l [.i .i64]],.tup [],[.arr [.i .i64] [],.arr [.b] [],.arr [.i .i64] [],.arr [.i .i64,.i .i64,.i .i64,.i .i64,.i .i64] [],.arr [.i .i64] []],fun a=>oA a⟩
theorem aAi:nB tab 281 aCg:=nB.of X6 (wd:=false) (cx:=(pG aH [(158,VS)] [(279,FN),(279,FO)] [] [])) (mK.make ⟨DX,trivial⟩ ⟨vX,vY,trivial⟩ trivial) (fun a=>by kernel_rfl)
end
end
end Go.Proofs.YtfejhjllooomlaaGreat
