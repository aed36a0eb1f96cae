/- Plain functions for what the functions of the seat compute. Printed by a program. -/
import Derived.Test.YthljmpcakagceaaGreatBVm3
import Derived.Test.YthljmpcakagceaaGreatBQXT
set_option maxRecDepth 100000
namespace Go.Proofs.YthljmpcakagceaaGreat
open Go.Vm
noncomputable section
theorem Oc {f:FuncId} {x:aP} {α β:Type} {args:aC α} {res:aM β} {kd:Kd} {fn:α->Option β} {ow:Bool} (hf:tab f=some (.code x)) (ho:aDn kd ow=true) (lp:Option Nat) (l:List (Nat×bK)) (h:FH tab l) (e: ∀a,aKc (pK lp l [] [] []) x args res kd a=fn a):aK tab f ⟨args,res,fn,kd,ow⟩:=aK.of hf (cx:=pK lp l [] [] []) ho (mL.make h trivial trivial) e
abbrev dO:List PT:=[.i .i64,.i .i64,.i .i64]
abbrev ki:List PT:=[.i .i64]
abbrev kb:List PT:=[.b]
abbrev lY:List PT:=[.i .i64,.i .i64,.i .i64,.i .i64,.i .i64]
abbrev kB:List PT:=[.i .i64,.i .i64]
abbrev CR:List PT:=[.b,.i .u64,.i .u64]
abbrev aP3:List PT:=[.i .i64,.i .i64,.i .i64,.i .i64]
abbrev kiu:List PT:=[.i .i64,.i .u64]
structure Field where
 points:List (Int×Int×Int)
def bT:cI Field:=cI.iso (cI.sl dO) (fun p=>⟨p⟩) (fun c=>c.points) (fun _=>rfl)
structure aS where
 uses:List Int
 used:List Bool
 free:List Int
def gJ:cI aS:=cI.iso (cI.prod (cI.sl ki) (cI.prod (cI.sl kb) (cI.sl ki))) (fun p=>⟨p.1,p.2.1,p.2.2⟩) (fun c=>(c.uses,c.used,c.free)) (fun _=>rfl)
structure aI where
 slots:aS
 heap:List (Int×Int×Int×Int×Int)
 where_:List Int
def dD:cI aI:=cI.iso (cI.prod gJ (cI.prod (cI.sl lY) (cI.sl ki))) (fun p=>⟨p.1,p.2.1,p.2.2⟩) (fun c=>(c.slots,c.heap,c.where_)) (fun _=>rfl)
structure aV where
 next_:Int
 list:List (Int×Int×Int)
def gR:cI aV:=cI.iso (cI.prod (cI.int .i64) (cI.sl dO)) (fun p=>⟨p.1,p.2⟩) (fun c=>(c.next_,c.list)) (fun _=>rfl)
structure aQ where
 now:Int×Int
 field:Field
 certs:aV
 agenda:aI
 due:List (Int×Int×Int)
def bU:cI aQ:=cI.iso (cI.prod (cI.row kB) (cI.prod bT (cI.prod gR (cI.prod dD (cI.sl dO))))) (fun p=>⟨p.1,p.2.1,p.2.2.1,p.2.2.2.1,p.2.2.2.2⟩) (fun c=>(c.now,c.field,c.certs,c.agenda,c.due)) (fun _=>rfl)
structure mM where
 root:Int
 nodes:List (Int×Int×Int)
def pM:cI mM:=cI.iso (cI.prod (cI.int .i64) (cI.sl dO)) (fun p=>⟨p.1,p.2⟩) (fun c=>(c.root,c.nodes)) (fun _=>rfl)
structure bO where
 clock:aQ
 tree:mM
def dS:cI bO:=cI.iso (cI.prod bU pM) (fun p=>⟨p.1,p.2⟩) (fun c=>(c.clock,c.tree)) (fun _=>rfl)
theorem wG:aK tab 186 (bK.clone kb):=aK.clone aGK rfl
theorem aBU:aK tab 242 (bK.add64):=aK.add64 aHl
theorem wH:aK tab 103 (bK.clone dO):=aK.clone aFS rfl
theorem zP:aK tab 182 (bK.clone dO):=aK.clone aGG rfl
theorem GS:aK tab 183 (bK.clone dO):=aK.clone aGH rfl
theorem wI:aK tab 184 (bK.clone lY):=aK.clone aGI rfl
theorem qP:aK tab 185 (bK.clone ki):=aK.clone aGJ rfl
theorem ST:aK tab 306 (bK.clone ki):=aK.clone aHU rfl
section
abbrev kJ:=List (Int×Int×Int×Int×Int)
abbrev bN:=List (Int×Int×Int)
abbrev rW:=List (Int×Int)
abbrev aAl:=rW×rW×Int×Int×Int×Int×bN×Int×bN×(List Int)×(List Bool)×(List Int)×kJ×(List Int)×bN×bN×Int×Int×Int
abbrev aP4:=cL aAl (aQ×Int)
abbrev Zt1:=cL aAl aP4
abbrev Zt3:=bN×Int×Int×Int×Int×bN×Int×bN×(List Int)×(List Bool)×(List Int)×kJ×(List Int)×bN×bN×Int×Int×Int×Int×Int×Int×bN×(List Int)×(List Bool)×(List Int)×kJ×(List Int)×bN×bN
abbrev aP5:=rW×bN×Int×Int×Int×Int×bN×Int×bN×(List Int)×(List Bool)×(List Int)×kJ×(List Int)×bN×bN×Int×Int×Int
abbrev Zt6:=cL aP5 (aQ×Int)
abbrev aP6:=bN×Int×Int×Int×Int×bN×Int×bN×(List Int)×(List Bool)×(List Int)×kJ×(List Int)×bN×bN×Int×Int×Int
abbrev Zt7:=cL aP6 (aQ×Int)
abbrev Zt8:=bN×bN×Int×Int×Int×Int×bN×Int×bN×(List Int)×(List Bool)×(List Int)×kJ×(List Int)×bN
abbrev Zt9:=rW×Int×Int×Int×Int×bN×Int×bN×(List Int)×(List Bool)×(List Int)×kJ×(List Int)×bN×Int×Int×Int
abbrev aP7:=Int×Int×Int×Int×bN×Int×bN×(List Int)×(List Bool)×(List Int)×kJ×(List Int)×bN×(List Int)
abbrev aP8:=cL aP7 Int
abbrev aP9:=rW×Int×Int×Int×bN×Int×bN×(List Int)×(List Bool)×(List Int)×kJ×(List Int)×bN
abbrev aOn:=Int×Int×Int×Int×bN×Int×bN×(List Int)×(List Bool)×(List Int)×kJ×(List Int)×bN
abbrev aQa:=cL aOn Int
abbrev aQb:=Int×kJ×(List Int)×(List Int)×(List Bool)×(List Int)×Nat×Nat×Int×Int×Int×Int×Int
abbrev NG:=kJ×(List Int)
abbrev aQc:=cL aQb NG
abbrev aQd:=cL (Int×Int×Int×Int×bN×(List Int)) (mM×rW)
abbrev aQe:=bN×Int×Int×Int×Int×bN×(List Int)
abbrev aOo:=cL aQe aQd
abbrev aQf:=Int×kJ×(List Int)×(List Int)×(List Bool)×(List Int)×Int×Int×Int×Int×Int
abbrev aQg:=cL aQf NG
abbrev aQh:=Nat×Nat×Int×bN×Int×Int×bN×Int×Int×Int×Int×bN×(List Int)×Int×Int×Int×Int×Int×Int
abbrev aQi:=kJ×Int×Int×(List Int)×(List Bool)×(List Int)×kJ×(List Int)×(List (List Int))
abbrev aQj:=Nat×Nat×bN×Int×Int×bN×Int×Int×Int×Int×bN×(List Int)
abbrev aQk:=cL aQj (mM×Int)
abbrev aQl:=Int×Int×kJ×(List Int)×(List Int)×(List Bool)×(List Int)×Nat×Nat×Int×Int×Int×Int×Int
abbrev aHV:=(List Int)×(List Bool)×(List Int)×Nat×Nat×Int×Int×Int×Int×Int×Int×kJ×(List Int)
abbrev aQm:=Int×Int×kJ×(List Int)×(List Int)×(List Bool)×(List Int)×Int×Int×Int×Int×Int
abbrev aQn:=Int×Int×(List Int)×(List Bool)×(List Int)×kJ×(List Int)×Int×Int×Int×Int×Int
abbrev aHW:=(List Int)×(List Bool)×(List Int)×Int×Int×Int×Int×Int×Int×kJ×(List Int)
abbrev aQo:=(List Int)×Int×Int×(List Int)×(List Bool)×(List Int)×kJ×(List Int)
abbrev aQp:=cL aQo Int
abbrev aQq:=Int×bN×Int×Int×Int×Int×Int×Int×Int×bN×(List Int)
abbrev aQr:=bN×Int×Int×Int×Int×bN×(List Int)×rW
abbrev aQs:=bN×Int×Int×Int×bN×(List Int)
abbrev aOp:=cL aQs rW
abbrev aHX:=(List Int)×(List Bool)×(List Int)×Nat×Nat×Int×kJ×(List Int)
abbrev aHY:=Int×kJ×(List Int)×(List Int)×(List Bool)×(List Int)×Nat×Nat
abbrev aQt:=Int×bN×Int×Int×Int×Int×Int×Int×bN×(List Int)
abbrev GT:=Int×(List Int)×(List Bool)×(List Int)×kJ×(List Int)
abbrev aOq:=cL GT Int
abbrev aQu:=bN×Int×Int×Int×bN×(List Int)×rW
abbrev aOr:=Int×Int×(List Int)×(List Bool)×(List Int)×kJ×(List Int)
abbrev aQv:=Int×bN×Int×Int×Int×bN×(List (List Int))
abbrev aQw:=(List Int)×Int×Int×(List Int)×(List Bool)×(List Int)×Int×(List Bool)
abbrev aQx:=cL aQw Int
abbrev aOs:=(List Int)×(List Bool)×(List Int)×kJ×(List Int)
abbrev aQy:=cL (Int×Int×bN×rW) rW
abbrev aQz:=Bool×Int×bN×Int×Int×Int×bN
abbrev aHZ:=bN×Int×Int×Int×Int×Int×bN
abbrev aQA:=Int×bN×Int×Int×Int×Int×bN
abbrev aQB:=Int×Int×Int×bN×Int×Int×bN
abbrev aOt:=Int×Int×bN×Int×bN
abbrev aQC:=cL aOt Bool
abbrev aOu:=bN×bN×Int×Int
abbrev aQD:=cL aOu Bool
abbrev P7:=bN×Int×Int×Int×Int
abbrev aH0:=cL P7 (Int×Bool)
abbrev aBV:=bN×Int×Int×bN
abbrev aBW:=Int×Int×(List Int)×(List Bool)×(List Int)×(List Bool)
abbrev aH1:=Int×kJ×(List Int)
abbrev aBX:=Int×Int×bN
abbrev aOv:=cL aBX Int
abbrev P8:=Int×bN
variable [LP]
def tZ (p0:Field):Option Bool:=
 bif decide (16<(Int.ofNat p0.points.length)) then
  bif decide ((Int.ofNat p0.points.length)<64) then
   some true
  else
   some (decide (70<(Int.ofNat p0.points.length)))
 else
  some (decide (70<(Int.ofNat p0.points.length)))
def c11:bK:=⟨aC.one (aM.agg bT),aM.bool,fun a=>tZ a,.pure,false⟩
theorem aOw:aK tab 11 c11:=Oc aNE rfl aG [] trivial fun a=>by kernel_rfl
def CS (p0:aS):Option Bool:=
 bif decide (210<(Int.ofNat p0.uses.length)) then
  some true
 else
  bif decide (210<(Int.ofNat p0.used.length)) then
   some true
  else
   some (decide (210<(Int.ofNat p0.free.length)))
def aQE:bK:=⟨aC.one (aM.agg gJ),aM.bool,fun a=>CS a,.pure,false⟩
theorem aH2:aK tab 201 aQE:=Oc aGV rfl aG [] trivial fun a=>by kernel_rfl
def CT (p0:aI):Option Bool:=
 (CS p0.slots).bind fun b0=>
 bif b0 then
  some true
 else
  bif decide (210<(Int.ofNat p0.heap.length)) then
   some true
  else
   some (decide (210<(Int.ofNat p0.where_.length)))
def aQF:bK:=⟨aC.one (aM.agg dD),aM.bool,fun a=>CT a,.pure,false⟩
theorem aH3:aK tab 146 aQF:=Oc aGk rfl aG [(201,aQE)] ⟨aH2,trivial⟩ fun a=>by kernel_rfl
def uA (p0:aQ):Option Bool:=
 bif decide (40<(Int.ofNat p0.certs.list.length)) then
  some true
 else
  bif decide (40<(Int.ofNat p0.due.length)) then
   some true
  else
   (tZ p0.field).bind fun b0=>
   bif b0 then
    some true
   else
    (CT p0.agenda).bind fun b1=>
    some b1
def c87:bK:=⟨aC.one (aM.agg bU),aM.bool,fun a=>uA a,.pure,false⟩
theorem aOx:aK tab 87 c87:=Oc aOf rfl aG [(11,c11),(146,aQF)] ⟨aOw,aH3,trivial⟩ fun a=>by kernel_rfl
def CU (p0:mM):Option Bool:=
 some (decide (70<(Int.ofNat p0.nodes.length)))
def c88:bK:=⟨aC.one (aM.agg pM),aM.bool,fun a=>CU a,.pure,false⟩
theorem aOy:aK tab 88 c88:=Oc aOg rfl aG [] trivial fun a=>by kernel_rfl
def uB (p0:bO):Option Bool:=
 (uA p0.clock).bind fun b0=>
 bif b0 then
  some true
 else
  (CU p0.tree).bind fun b1=>
  some b1
def c36:bK:=⟨aC.one (aM.agg dS),aM.bool,fun a=>uB a,.pure,false⟩
theorem aOz:aK tab 36 c36:=Oc aNO rfl aG [(87,c87),(88,c88)] ⟨aOx,aOy,trivial⟩ fun a=>by kernel_rfl
def lZ (p0:Field):Option Field:=
 (cB p0.points).bind fun l0=>
 some (Field.mk l0)
def aBY:bK:=⟨aC.one (aM.agg bT),aM.agg bT,fun a=>lZ a,.own,true⟩
def SU:bK:=⟨aC.one (aM.agg bT),aM.agg bT,fun a=>lZ a,.frz,false⟩
theorem J7:aK tab 147 aBY:=Oc X0 rfl aG [] trivial fun a=>by kernel_rfl
theorem GU:aK tab 147 SU:=Oc X0 rfl aG [] trivial fun a=>by kernel_rfl
def pN (p0:aV):Option aV:=
 (cB p0.list).bind fun l0=>
 some (aV.mk p0.next_ l0)
def aH4:bK:=⟨aC.one (aM.agg gR),aM.agg gR,fun a=>pN a,.own,true⟩
def YA:bK:=⟨aC.one (aM.agg gR),aM.agg gR,fun a=>pN a,.frz,false⟩
theorem P9:aK tab 148 aH4:=Oc X1 rfl aG [] trivial fun a=>by kernel_rfl
theorem L9:aK tab 148 YA:=Oc X1 rfl aG [] trivial fun a=>by kernel_rfl
def nM (p0:aS):Option aS:=
 (cB p0.uses).bind fun l0=>
 (cB p0.used).bind fun l1=>
 (cB p0.free).bind fun l2=>
 some (aS.mk l0 l1 l2)
def aBZ:bK:=⟨aC.one (aM.agg gJ),aM.agg gJ,fun a=>nM a,.own,true⟩
def SW:bK:=⟨aC.one (aM.agg gJ),aM.agg gJ,fun a=>nM a,.frz,false⟩
theorem J8:aK tab 202 aBZ:=Oc X5 rfl aG [] trivial fun a=>by kernel_rfl
theorem GV:aK tab 202 SW:=Oc X5 rfl aG [] trivial fun a=>by kernel_rfl
def mA (p0:aI):Option aI:=
 (nM p0.slots).bind fun r0=>
 (cB p0.heap).bind fun l1=>
 (cB p0.where_).bind fun l2=>
 some (aI.mk r0 l1 l2)
def aAm:bK:=⟨aC.one (aM.agg dD),aM.agg dD,fun a=>mA a,.own,true⟩
def OI:bK:=⟨aC.one (aM.agg dD),aM.agg dD,fun a=>mA a,.frz,false⟩
theorem GW:aK tab 149 aAm:=Oc X2 rfl aG [(202,aBZ),(202,SW)] ⟨J8,GV,trivial⟩ fun a=>by kernel_rfl
theorem CV:aK tab 149 OI:=Oc X2 rfl aG [(202,aBZ),(202,SW)] ⟨J8,GV,trivial⟩ fun a=>by kernel_rfl
def iZ (p0:aQ):Option aQ:=
 (lZ p0.field).bind fun r0=>
 (pN p0.certs).bind fun r1=>
 (mA p0.agenda).bind fun r2=>
 (cB p0.due).bind fun l3=>
 some (aQ.mk p0.now r0 r1 r2 l3)
def c89:bK:=⟨aC.one (aM.agg bU),aM.agg bU,fun a=>iZ a,.own,true⟩
def VP:bK:=⟨aC.one (aM.agg bU),aM.agg bU,fun a=>iZ a,.frz,false⟩
theorem IM:aK tab 89 c89:=Oc aBR rfl aG [(147,aBY),(147,SU),(148,aH4),(148,YA),(149,aAm),(149,OI)] ⟨J7,GU,P9,L9,GW,CV,trivial⟩ fun a=>by kernel_rfl
theorem DS:aK tab 89 VP:=Oc aBR rfl aG [(147,aBY),(147,SU),(148,aH4),(148,YA),(149,aAm),(149,OI)] ⟨J7,GU,P9,L9,GW,CV,trivial⟩ fun a=>by kernel_rfl
def AV (p0:mM):Option mM:=
 (cB p0.nodes).bind fun l0=>
 some (mM.mk p0.root l0)
def c90:bK:=⟨aC.one (aM.agg pM),aM.agg pM,fun a=>AV a,.own,true⟩
def aOB:bK:=⟨aC.one (aM.agg pM),aM.agg pM,fun a=>AV a,.frz,false⟩
theorem aB0:aK tab 90 c90:=Oc aBS rfl aG [] trivial fun a=>by kernel_rfl
theorem YB:aK tab 90 aOB:=Oc aBS rfl aG [] trivial fun a=>by kernel_rfl
def wJ (p0:bO):Option bO:=
 (iZ p0.clock).bind fun r0=>
 (AV p0.tree).bind fun r1=>
 some (bO.mk r0 r1)
def c37:bK:=⟨aC.one (aM.agg dS),aM.agg dS,fun a=>wJ a,.own,true⟩
def aQG:bK:=⟨aC.one (aM.agg dS),aM.agg dS,fun a=>wJ a,.frz,false⟩
theorem aOC:aK tab 37 c37:=Oc aBQ rfl aG [(89,c89),(89,VP),(90,c90),(90,aOB)] ⟨IM,DS,aB0,YB,trivial⟩ fun a=>by kernel_rfl
theorem aH5:aK tab 37 aQG:=Oc aBQ rfl aG [(89,c89),(89,VP),(90,c90),(90,aOB)] ⟨IM,DS,aB0,YB,trivial⟩ fun a=>by kernel_rfl
def mU (p0:Int):Option Int:=
 bif decide (p0<0) then
  some (aA .u64 (0- (aA .u64 p0)))
 else
  some (aA .u64 p0)
def aH6:bK:=⟨aC.one (aM.int .i64),aM.int .u64,fun a=>mU a,.pure,false⟩
theorem QA:aK tab 118 aH6:=Oc aF2 rfl aG [] trivial fun a=>by kernel_rfl
def vI (s:(Int×Int)):Option (cL (Int×Int) Int):=
 bif decide (0<s.2) then
  bif s.2==0 then
   none
  else
   some (.next (s.2,Int.tmod s.1 s.2))
 else
  some (.done s.1)
def zQ (p0:Int) (p1:Int):Option Int:=
 aH vI (p0,p1)
def aOD:bK:=⟨aC.cons (aM.int .u64) (aC.one (aM.int .u64)),aM.int .u64,fun a=>zQ a.1 a.2,.pure,false⟩
theorem YC:aK tab 117 aOD:=Oc aF1 rfl aG [] trivial fun a=>by kernel_rfl
def gW (p0:Int×Int):Option Int:=
 bif decide (p0.2<1) then
  some 8
 else
  bif p0.1==(-9223372036854775808) then
   some 8
  else
   (mU p0.1).bind fun n0=>
   (zQ (aA .u64 p0.2) n0).bind fun n1=>
   bif decide (1<n1) then
    some 8
   else
    some 0
def c72:bK:=⟨aC.one (aM.agg (cI.row kB)),aM.int .i64,fun a=>gW a,.pure,false⟩
theorem FJ:aK tab 72 c72:=Oc aN6 rfl aG [(118,aH6),(117,aOD)] ⟨QA,YC,trivial⟩ fun a=>by kernel_rfl
def qQ (p0:Int):Option Bool:=
 bif decide (p0<(-1048576)) then
  some true
 else
  some (decide (1048576<p0))
def aQH:bK:=⟨aC.one (aM.int .i64),aM.bool,fun a=>qQ a,.pure,false⟩
theorem aH7:aK tab 154 aQH:=Oc aGn rfl aG [] trivial fun a=>by kernel_rfl
def jV (p0:Int×Int×Int):Option Int:=
 bif decide (p0.1<0) then
  some 8
 else
  bif decide (65535<p0.1) then
   some 8
  else
   (qQ p0.2.1).bind fun b0=>
   bif b0 then
    some 8
   else
    (qQ p0.2.2).bind fun b1=>
    bif b1 then
     some 8
    else
     some 0
def aB1:bK:=⟨aC.one (aM.agg (cI.row dO)),aM.int .i64,fun a=>jV a,.pure,false⟩
theorem J9:aK tab 100 aB1:=Oc aFP rfl aG [(154,aQH)] ⟨aH7,trivial⟩ fun a=>by kernel_rfl
def jA (s:aBV):Option (cL aBV (cL aBV Int)):=
 bif decide (s.2.2.1<s.2.1) then
  (aO s.1 s.2.2.1).bind fun a0=>
  bif decide (0<s.2.2.1) then
   (aO s.2.2.2 (aA .i64 (s.2.2.1-1))).bind fun a1=>
   bif decide (a0.1<=a1.1) then
    some (.done (.done 32))
   else
    some (.next (s.1,s.2.1,aA .i64 (s.2.2.1+1),s.2.2.2))
  else
   some (.next (s.1,s.2.1,aA .i64 (s.2.2.1+1),s.2.2.2))
 else
  some (.done (.done 0))
def nN (s:aBV):Option (cL aBV Int):=
 bif decide (s.2.2.1<s.2.1) then
  (aO s.1 s.2.2.1).bind fun a0=>
  (jV a0).bind fun n1=>
  bif n1 !=0 then
   some (.done n1)
  else
   some (.next (s.1,s.2.1,aA .i64 (s.2.2.1+1),s.2.2.2))
 else
  aH jA (s.2.2.2,Int.ofNat s.2.2.2.length,0,s.2.2.2)
def dE (p0:Field):Option Int:=
 bif decide (64<(Int.ofNat p0.points.length)) then
  some 4
 else
  aH nN (p0.points,Int.ofNat p0.points.length,0,p0.points)
def c99:bK:=⟨aC.one (aM.agg bT),aM.int .i64,fun a=>dE a,.pure,false⟩
theorem FK:aK tab 99 c99:=Oc aOm rfl aG [(100,aB1)] ⟨J9,trivial⟩ fun a=>by kernel_rfl
def wK (p0:Int×Int):Option Bool:=
 bif decide (0<=(if p0.2<p0.1 then p0.2 else p0.1)) then
  bif decide ((if p0.2>p0.1 then p0.2 else p0.1)<=65535) then
   some (p0.1 !=p0.2)
  else
   some false
 else
  some false
def aOE:bK:=⟨aC.one (aM.agg (cI.row kB)),aM.bool,fun a=>wK a,.pure,false⟩
theorem YD:aK tab 217 aOE:=Oc aG7 rfl aG [] trivial fun a=>by kernel_rfl
def sR (s:aQv):Option (cL aQv Int):=
 bif decide (s.2.2.2.1<s.2.2.1) then
  (aO s.2.1 s.2.2.2.1).bind fun a0=>
  (wK a0.2).bind fun b1=>
  bif !b1 then
   some (.done 8)
  else
   (R0 s.2.2.2.2.2.2 [a0.2.1,a0.2.2]).bind fun b2=>
   bif b2 then
    some (.done 8)
   else
    bif decide (a0.1<=s.1) then
     some (.done 8)
    else
     bif decide (s.2.2.2.2.1<=a0.1) then
      some (.done 8)
     else
      (R1 s.2.2.2.2.2.2 [a0.2.1,a0.2.2]).bind fun l3=>
      some (.next (a0.1,s.2.1,s.2.2.1,aA .i64 (s.2.2.2.1+1),s.2.2.2.2.1,s.2.2.2.2.2.1,l3))
 else
  some (.done 0)
def rX (p0:aV):Option Int:=
 bif decide (200<(Int.ofNat p0.list.length)) then
  some 8
 else
  bif decide (p0.next_<0) then
   some 8
  else
   bif decide (1000000<p0.next_) then
    some 8
   else
    aH sR (-1,p0.list,Int.ofNat p0.list.length,0,p0.next_,p0.list,[])
def aH8:bK:=⟨aC.one (aM.agg gR),aM.int .i64,fun a=>rX a,.pure,false⟩
theorem QB:aK tab 167 aH8:=Oc aGu rfl aG [(217,aOE)] ⟨YD,trivial⟩ fun a=>by kernel_rfl
def gX (s:((List Bool)×Bool×Int×Int)):Option (cL ((List Bool)×Bool×Int×Int) Int):=
 bif decide (s.2.2.2<s.2.2.1) then
  (aO s.1 s.2.2.2).bind fun b0=>
  bif s.2.1==b0 then
   some (.done s.2.2.2)
  else
   some (.next (s.1,s.2.1,s.2.2.1,aA .i64 (s.2.2.2+1)))
 else
  some (.done (-1))
def qR (p0:List Bool) (p1:Bool):Option Int:=
 aH gX (p0,p1,Int.ofNat p0.length,0)
def aQI:bK:=⟨aC.cons (aM.sl kb) (aC.one aM.bool),aM.int .i64,fun a=>qR a.1 a.2,.pure,false⟩
theorem aH9:aK tab 297 aQI:=Oc aHP rfl aG [] trivial fun a=>by kernel_rfl
def eG (p0:List Bool) (p1:Bool):Option Bool:=
 (qR p0 p1).bind fun n0=>
 some (decide (0<=n0))
def aQJ:bK:=⟨aC.cons (aM.sl kb) (aC.one aM.bool),aM.bool,fun a=>eG a.1 a.2,.pure,false⟩
theorem aIa:aK tab 269 aQJ:=Oc aHB rfl aG [(297,aQI)] ⟨aH9,trivial⟩ fun a=>by kernel_rfl
def gS (s:((List Int)×Int×Int×(List Int)×(List Bool)×(List Int))):Option (cL ((List Int)×Int×Int×(List Int)×(List Bool)×(List Int)) aQx):=
 bif decide (s.2.2.1<s.2.1) then
  (aO s.1 s.2.2.1).bind fun n0=>
  bif decide (n0<0) then
   some (.done (.done 8))
  else
   bif decide (1000000<n0) then
    some (.done (.done 8))
   else
    bif n0==0 then
     (aO s.2.2.2.2.1 s.2.2.1).bind fun b1=>
     bif b1 then
      some (.done (.done 8))
     else
      some (.next (s.1,s.2.1,aA .i64 (s.2.2.1+1),s.2.2.2))
    else
     some (.next (s.1,s.2.1,aA .i64 (s.2.2.1+1),s.2.2.2))
 else
  some (.done (.done 0))
def sS (c0:(List Bool)) (s:aQw):Option aQx:=
 bif decide (s.2.2.1<s.2.1) then
  (aO s.1 s.2.2.1).bind fun n0=>
  bif decide (n0<0) then
   bif s.2.2.2.2.2.2.2.length==s.2.2.2.2.2.2.2.length then
    bif s.2.2.2.2.2.2.2.length==c0.length then
     bif s.2.2.2.2.2.2.2.length==c0.length then
      bif decide (0<=s.2.2.1) then
       some (.done 8)
      else
       (eG s.2.2.2.2.2.2.2 false).bind fun b1=>
       bif b1 then
        some (.done 8)
       else
        aH gS (s.2.2.2.1,Int.ofNat s.2.2.2.1.length,0,s.2.2.2.1,s.2.2.2.2.1,s.2.2.2.2.2.1)
     else
      none
    else
     none
   else
    none
  else
   bif decide (s.2.2.2.2.2.2.1<=n0) then
    bif s.2.2.2.2.2.2.2.length==s.2.2.2.2.2.2.2.length then
     bif s.2.2.2.2.2.2.2.length==c0.length then
      bif s.2.2.2.2.2.2.2.length==c0.length then
       bif decide (0<=s.2.2.1) then
        some (.done 8)
       else
        (eG s.2.2.2.2.2.2.2 false).bind fun b2=>
        bif b2 then
         some (.done 8)
        else
         aH gS (s.2.2.2.1,Int.ofNat s.2.2.2.1.length,0,s.2.2.2.1,s.2.2.2.2.1,s.2.2.2.2.2.1)
      else
       none
     else
      none
    else
     none
   else
    (aO s.2.2.2.2.2.2.2 n0).bind fun b3=>
    bif b3 then
     bif s.2.2.2.2.2.2.2.length==s.2.2.2.2.2.2.2.length then
      bif s.2.2.2.2.2.2.2.length==c0.length then
       bif s.2.2.2.2.2.2.2.length==c0.length then
        bif decide (0<=s.2.2.1) then
         some (.done 8)
        else
         (eG s.2.2.2.2.2.2.2 false).bind fun b4=>
         bif b4 then
          some (.done 8)
         else
          aH gS (s.2.2.2.1,Int.ofNat s.2.2.2.1.length,0,s.2.2.2.1,s.2.2.2.2.1,s.2.2.2.2.2.1)
       else
        none
      else
       none
     else
      none
    else
     (aO s.2.2.2.2.2.2.2 n0).bind fun _=>
     bif ((cA s.2.2.2.2.2.2.2 n0 true).length)==s.2.2.2.2.2.2.2.length then
      some (.next (s.1,s.2.1,aA .i64 (s.2.2.1+1),s.2.2.2.1,s.2.2.2.2.1,s.2.2.2.2.2.1,s.2.2.2.2.2.2.1,cA s.2.2.2.2.2.2.2 n0 true))
     else
      none
 else
  bif s.2.2.2.2.2.2.2.length==c0.length then
   bif s.2.2.2.2.2.2.2.length==c0.length then
    (eG s.2.2.2.2.2.2.2 false).bind fun b6=>
    bif b6 then
     some (.done 8)
    else
     aH gS (s.2.2.2.1,Int.ofNat s.2.2.2.1.length,0,s.2.2.2.1,s.2.2.2.2.1,s.2.2.2.2.2.1)
   else
    none
  else
   none
def rY (p0:aS):Option Int:=
 bif decide ((Int.ofNat p0.uses.length)<1) then
  some 8
 else
  bif decide (200<(Int.ofNat p0.uses.length)) then
   some 8
  else
   bif (Int.ofNat p0.used.length) !=(Int.ofNat p0.uses.length) then
    some 8
   else
    (cB p0.used).bind fun l0=>
    aH (sS l0) (p0.free,Int.ofNat p0.free.length,0,p0.uses,p0.used,p0.free,Int.ofNat p0.uses.length,l0)
def aIb:bK:=⟨aC.one (aM.agg gJ),aM.int .i64,fun a=>rY a,.pure,false⟩
theorem QC:aK tab 218 aIb:=aK.of aG8 (cx:=(pK aG [(186,bK.clone kb),(269,aQJ)] [] [(267,aFa),(296,aFw),(268,aFc)] [])) rfl (mL.make ⟨wG,aIa,trivial⟩ trivial ⟨aHz,aHO,aHA,trivial⟩) (fun a=>by kernel_rfl)
def AW (p0:Int×Int) (p1:Int×Int):Option Int:=
 (gW p0).bind fun n0=>
 (gW p1).bind fun n1=>
 some (if n1>n0 then n1 else n0)
def aQK:bK:=⟨aC.cons (aM.agg (cI.row kB)) (aC.one (aM.agg (cI.row kB))),aM.int .i64,fun a=>AW a.1 a.2,.pure,false⟩
theorem aIc:aK tab 119 aQK:=Oc aF3 rfl aG [(72,c72)] ⟨FJ,trivial⟩ fun a=>by kernel_rfl
def pC (p0:Int):Option Bool:=
 some (p0 !=p0)
def aQL:bK:=⟨aC.one (aM.int .i64),aM.bool,fun a=>pC a,.pure,false⟩
theorem aId:aK tab 174 aQL:=Oc aGz rfl aG [] trivial fun a=>by kernel_rfl
def jW (p0:Int) (p1:Int):Option Int:=
 (pC p0).bind fun b0=>
 (pC p1).bind fun b1=>
 bif b0 then
  bif b1 then
   some 0
  else
   some (-1)
 else
  bif b1 then
   some 1
  else
   bif decide (p0<p1) then
    some (-1)
   else
    bif decide (p1<p0) then
     some 1
    else
     some 0
def aOF:bK:=⟨aC.cons (aM.int .i64) (aC.one (aM.int .i64)),aM.int .i64,fun a=>jW a.1 a.2,.pure,false⟩
theorem YE:aK tab 120 aOF:=Oc aF4 rfl aG [(174,aQL)] ⟨aId,trivial⟩ fun a=>by kernel_rfl
def jN (p0:Int) (p1:Int):Option (Int×Int):=
 some (aA .u64 ((aA .u64 ((aA .u64 ((tU .u64 p0 32)*(tU .u64 p1 32)))+(tU .u64 (aA .u64 ((aA .u64 ((tU .u64 p0 32)*(JT .u64 p1 4294967295)))+(tU .u64 (aA .u64 ((JT .u64 p0 4294967295)*(JT .u64 p1 4294967295))) 32))) 32)))+(tU .u64 (aA .u64 ((JT .u64 (aA .u64 ((aA .u64 ((tU .u64 p0 32)*(JT .u64 p1 4294967295)))+(tU .u64 (aA .u64 ((JT .u64 p0 4294967295)*(JT .u64 p1 4294967295))) 32))) 4294967295)+(aA .u64 ((JT .u64 p0 4294967295)*(tU .u64 p1 32))))) 32)),aA .u64 (p0*p1))
def aOG:bK:=⟨aC.cons (aM.int .u64) (aC.one (aM.int .u64)),aM.tup (aC.cons (aM.int .u64) (aC.one (aM.int .u64))),fun a=>jN a.1 a.2,.pure,false⟩
theorem YF:aK tab 176 aOG:=Oc aGB rfl aG [] trivial fun a=>by kernel_rfl
def uC (p0:Int) (p1:Int):Option (Bool×Int×Int):=
 (mU p0).bind fun n0=>
 (mU p1).bind fun n1=>
 (jN n0 n1).bind fun a2=>
 some (!((decide (p0<0))==(decide (p1<0))),a2)
def aQM:bK:=⟨aC.cons (aM.int .i64) (aC.one (aM.int .i64)),aM.agg (cI.row CR),fun a=>uC a.1 a.2,.pure,false⟩
theorem aIe:aK tab 122 aQM:=Oc aF6 rfl aG [(118,aH6),(176,aOG)] ⟨QA,YF,trivial⟩ fun a=>by kernel_rfl
def oF (p0:Int):Option Bool:=
 some (p0 !=p0)
def aQN:bK:=⟨aC.one (aM.int .u64),aM.bool,fun a=>oF a,.pure,false⟩
theorem aIf:aK tab 224 aQN:=Oc aHd rfl aG [] trivial fun a=>by kernel_rfl
def jB (p0:Int) (p1:Int):Option Int:=
 (oF p0).bind fun b0=>
 (oF p1).bind fun b1=>
 bif b0 then
  bif b1 then
   some 0
  else
   some (-1)
 else
  bif b1 then
   some 1
  else
   bif decide (p0<p1) then
    some (-1)
   else
    bif decide (p1<p0) then
     some 1
    else
     some 0
def aQO:bK:=⟨aC.cons (aM.int .u64) (aC.one (aM.int .u64)),aM.int .i64,fun a=>jB a.1 a.2,.pure,false⟩
theorem aIg:aK tab 175 aQO:=Oc aGA rfl aG [(224,aQN)] ⟨aIf,trivial⟩ fun a=>by kernel_rfl
def sU (p0:Bool×Int×Int) (p1:Bool×Int×Int):Option Int:=
 (jB p0.2.1 p1.2.1).bind fun n0=>
 bif n0 !=0 then
  some n0
 else
  (jB p0.2.2 p1.2.2).bind fun n1=>
  some n1
def aQP:bK:=⟨aC.cons (aM.agg (cI.row CR)) (aC.one (aM.agg (cI.row CR))),aM.int .i64,fun a=>sU a.1 a.2,.pure,false⟩
theorem aIh:aK tab 121 aQP:=Oc aF5 rfl aG [(175,aQO)] ⟨aIg,trivial⟩ fun a=>by kernel_rfl
def DT (p0:Int×Int) (p1:Int×Int):Option (Int×Int):=
 (AW p0 p1).bind fun n0=>
 bif n0 !=0 then
  some (0,n0)
 else
  bif !((decide (p0.1<0))==(decide (p1.1<0))) then
   (jW p0.1 p1.1).bind fun n1=>
   some (n1,0)
  else
   (uC p0.1 p1.2).bind fun a2=>
   (uC p1.1 p0.2).bind fun a3=>
   (sU a2 a3).bind fun n4=>
   bif decide (p0.1<0) then
    some (aA .i64 (0-n4),0)
   else
    some (n4,0)
def c73:bK:=⟨aC.cons (aM.agg (cI.row kB)) (aC.one (aM.agg (cI.row kB))),aM.tup (aC.cons (aM.int .i64) (aC.one (aM.int .i64))),fun a=>DT a.1 a.2,.pure,false⟩
theorem aOH:aK tab 73 c73:=Oc aN7 rfl aG [(119,aQK),(120,aOF),(122,aQM),(121,aQP)] ⟨aIc,YE,aIe,aIh,trivial⟩ fun a=>by kernel_rfl
def sV (p0:Int):Option Bool:=
 some (p0 !=p0)
def aQQ:bK:=⟨aC.one (aM.int .i64),aM.bool,fun a=>sV a,.pure,false⟩
theorem aIi:aK tab 207 aQQ:=Oc aGZ rfl aG [] trivial fun a=>by kernel_rfl
def fG (p0:Int) (p1:Int):Option Int:=
 (sV p0).bind fun b0=>
 (sV p1).bind fun b1=>
 bif b0 then
  bif b1 then
   some 0
  else
   some (-1)
 else
  bif b1 then
   some 1
  else
   bif decide (p0<p1) then
    some (-1)
   else
    bif decide (p1<p0) then
     some 1
    else
     some 0
def VQ:bK:=⟨aC.cons (aM.int .i64) (aC.one (aM.int .i64)),aM.int .i64,fun a=>fG a.1 a.2,.pure,false⟩
theorem DU:aK tab 157 VQ:=Oc aGp rfl aG [(207,aQQ)] ⟨aIi,trivial⟩ fun a=>by kernel_rfl
def yM (s:(Int×(List Int)×Int×Int)):Option (cL (Int×(List Int)×Int×Int) Int):=
 bif decide (s.2.2.2<s.2.2.1) then
  (aO s.2.1 s.2.2.2).bind fun n0=>
  bif n0 !=s.1 then
   some (.done n0)
  else
   some (.next (s.1,s.2.1,s.2.2.1,aA .i64 (s.2.2.2+1)))
 else
  some (.done s.1)
def wL (p0:List Int):Option Int:=
 aH yM (0,p0,Int.ofNat p0.length,0)
def aOI:bK:=⟨aC.one (aM.sl ki),aM.int .i64,fun a=>wL a,.pure,false⟩
theorem YG:aK tab 195 aOI:=Oc aGR rfl aG [] trivial fun a=>by kernel_rfl
def cJ (p0:Int×Int×Int×Int×Int) (p1:Int×Int×Int×Int×Int):Option Int:=
 (DT (p0.1,p0.2.1) (p1.1,p1.2.1)).bind fun a0=>
 (fG p0.2.2.1 p1.2.2.1).bind fun n1=>
 (wL [a0.1,n1]).bind fun n2=>
 some n2
def aIj:bK:=⟨aC.cons (aM.agg (cI.row lY)) (aC.one (aM.agg (cI.row lY))),aM.int .i64,fun a=>cJ a.1 a.2,.pure,false⟩
theorem QD:aK tab 219 aIj:=Oc aG9 rfl aG [(73,c73),(157,VQ),(195,aOI)] ⟨aOH,DU,YG,trivial⟩ fun a=>by kernel_rfl
def jO (s:aQi):Option (cL aQi aQp):=
 bif decide (s.2.2.1<s.2.1) then
  (aO s.1 s.2.2.1).bind fun a0=>
  (gW (a0.1,a0.2.1)).bind fun n1=>
  bif n1 !=0 then
   some (.done (.done 8))
  else
   bif decide (a0.2.2.1<0) then
    some (.done (.done 8))
   else
    bif decide (1000000<a0.2.2.1) then
     some (.done (.done 8))
    else
     (R0 s.2.2.2.2.2.2.2.2 [a0.2.2.1]).bind fun b2=>
     bif b2 then
      some (.done (.done 8))
     else
      (R1 s.2.2.2.2.2.2.2.2 [a0.2.2.1]).bind fun l3=>
      bif decide (0<s.2.2.1) then
       (aO s.2.2.2.2.2.2.1 (aA .i64 (Int.tdiv (aA .i64 (s.2.2.1-1)) 2))).bind fun a4=>
       (cJ a0 a4).bind fun n5=>
       bif decide (n5<0) then
        some (.done (.done 8))
       else
        some (.next (s.1,s.2.1,aA .i64 (s.2.2.1+1),s.2.2.2.1,s.2.2.2.2.1,s.2.2.2.2.2.1,s.2.2.2.2.2.2.1,s.2.2.2.2.2.2.2.1,l3))
      else
       some (.next (s.1,s.2.1,aA .i64 (s.2.2.1+1),s.2.2.2.1,s.2.2.2.2.1,s.2.2.2.2.2.1,s.2.2.2.2.2.2.1,s.2.2.2.2.2.2.2.1,l3))
 else
  some (.done (.done 0))
def mN (s:aQo):Option aQp:=
 bif decide (s.2.2.1<s.2.1) then
  (aO s.1 s.2.2.1).bind fun n0=>
  (aO s.2.2.2.2.1 s.2.2.1).bind fun b1=>
  bif !b1 then
   bif n0 !=(-1) then
    some (.done 8)
   else
    some (.next (s.1,s.2.1,aA .i64 (s.2.2.1+1),s.2.2.2))
  else
   bif decide (n0<0) then
    some (.done 8)
   else
    bif decide ((Int.ofNat s.2.2.2.2.2.2.1.length)<=n0) then
     some (.done 8)
    else
     (aO s.2.2.2.2.2.2.1 n0).bind fun a2=>
     (aO s.2.2.2.1 s.2.2.1).bind fun n3=>
     bif !((a2.2.2.2.1==s.2.2.1)&&(a2.2.2.2.2==n3)) then
      some (.done 8)
     else
      some (.next (s.1,s.2.1,aA .i64 (s.2.2.1+1),s.2.2.2))
 else
  aH jO (s.2.2.2.2.2.2.1,Int.ofNat s.2.2.2.2.2.2.1.length,0,s.2.2.2.1,s.2.2.2.2.1,s.2.2.2.2.2.1,s.2.2.2.2.2.2.1,s.2.2.2.2.2.2.2,[])
def mB (p0:aI):Option Int:=
 (rY p0.slots).bind fun n0=>
 bif n0 !=0 then
  some 8
 else
  bif (Int.ofNat p0.where_.length) !=(Int.ofNat p0.slots.used.length) then
   some 8
  else
   bif (Int.ofNat p0.heap.length) !=(aA .i64 ((Int.ofNat p0.slots.used.length) - (Int.ofNat p0.slots.free.length))) then
    some 8
   else
    aH mN (p0.where_,Int.ofNat p0.where_.length,0,p0.slots.uses,p0.slots.used,p0.slots.free,p0.heap,p0.where_)
def aB2:bK:=⟨aC.one (aM.agg dD),aM.int .i64,fun a=>mB a,.pure,false⟩
theorem KA:aK tab 168 aB2:=Oc aGv rfl aG [(218,aIb),(72,c72),(219,aIj)] ⟨QC,FJ,QD,trivial⟩ fun a=>by kernel_rfl
def yN (p0:Int×Int×Int) (p1:Int):Option Int:=
 (fG p0.1 p1).bind fun n0=>
 some n0
def aQR:bK:=⟨aC.cons (aM.agg (cI.row dO)) (aC.one (aM.int .i64)),aM.int .i64,fun a=>yN a.1 a.2,.pure,false⟩
theorem aIk:aK tab 270 aQR:=Oc aHC rfl aG [(157,VQ)] ⟨DU,trivial⟩ fun a=>by kernel_rfl
def iV (s:P7):Option aH0:=
 bif decide (s.2.2.2.1<s.2.2.2.2) then
  (aO s.1 (aA .i64 (tU .u64 (aA .u64 (aA .i64 (s.2.2.2.1+s.2.2.2.2))) 1))).bind fun a0=>
  (yN a0 s.2.1).bind fun n1=>
  bif decide (n1<0) then
   some (.next (s.1,s.2.1,s.2.2.1,aA .i64 ((aA .i64 (tU .u64 (aA .u64 (aA .i64 (s.2.2.2.1+s.2.2.2.2))) 1))+1),s.2.2.2.2))
  else
   some (.next (s.1,s.2.1,s.2.2.1,s.2.2.2.1,aA .i64 (tU .u64 (aA .u64 (aA .i64 (s.2.2.2.1+s.2.2.2.2))) 1)))
 else
  bif decide (s.2.2.2.1<s.2.2.1) then
   (aO s.1 s.2.2.2.1).bind fun a2=>
   (yN a2 s.2.1).bind fun n3=>
   some (.done (s.2.2.2.1,n3==0))
  else
   some (.done (s.2.2.2.1,false))
def cW (p0:List (Int×Int×Int)) (p1:Int) (_:Unit):Option (Int×Bool):=
 aH iV (p0,p1,Int.ofNat p0.length,0,Int.ofNat p0.length)
def SX:bK:=⟨aC.cons (aM.sl dO) (aC.cons (aM.int .i64) (aC.one (aM.clo 270 aC.nil))),aM.tup (aC.cons (aM.int .i64) (aC.one aM.bool)),fun a=>cW a.1 a.2.1 a.2.2,.pure,false⟩
theorem SY:aK tab 155 SX:=Oc X3 rfl aG [(270,aQR)] ⟨aIk,trivial⟩ fun a=>by kernel_rfl
def jX (p0:Field) (p1:Int):Option (Int×Int×Int):=
 (cW p0.points p1 ()).bind fun a0=>
 bif !a0.2 then
  some (-1,0,0)
 else
  (aO p0.points a0.1).bind fun a1=>
  some a1
def aIl:bK:=⟨aC.cons (aM.agg bT) (aC.one (aM.int .i64)),aM.agg (cI.row dO),fun a=>jX a.1 a.2,.pure,false⟩
theorem QE:aK tab 221 aIl:=Oc aHb rfl aG [(155,SX)] ⟨SY,trivial⟩ fun a=>by kernel_rfl
def rZ (p0:Int×Int×Int) (p1:Int×Int×Int) (p2:Int×Int):Option Int:=
 (jV p0).bind fun n0=>
 (jV p1).bind fun n1=>
 (gW p2).bind fun n2=>
 bif (if n2>(if n1>n0 then n1 else n0) then n2 else if n1>n0 then n1 else n0) !=0 then
  some (if n2>(if n1>n0 then n1 else n0) then n2 else if n1>n0 then n1 else n0)
 else
  bif p0.1==p1.1 then
   some 2
  else
   some 0
def aIm:bK:=⟨aC.cons (aM.agg (cI.row dO)) (aC.cons (aM.agg (cI.row dO)) (aC.one (aM.agg (cI.row kB)))),aM.int .i64,fun a=>rZ a.1 a.2.1 a.2.2,.pure,false⟩
theorem QF:aK tab 135 aIm:=Oc aGf rfl aG [(100,aB1),(72,c72)] ⟨J9,FJ,trivial⟩ fun a=>by kernel_rfl
def oW (s:(Int×Int×Int×Int×Int×Int×Int×Int×Int)):Option (cL (Int×Int×Int×Int×Int×Int×Int×Int×Int) (Int×Int)):=
 bif decide (s.2.2.2.2.1<2) then
  bif s.2.2.2.2.1==0 then
   (jN (aA .u64 s.1) (aA .u64 s.2.1)).bind fun a0=>
   bif decide (s.1<0) then
    bif decide (s.2.1<0) then
     (rV s.2.2.2.2.2.2.2.2 a0.2 0).bind fun a1=>
     some (.next (s.1,s.2.1,s.2.2.1,s.2.2.2.1,aA .i64 (s.2.2.2.2.1+1),s.2.2.2.2.2.1,s.2.2.2.2.2.2.1,aA .i64 ((aA .i64 (s.2.2.2.2.2.2.2.1+(aA .i64 ((aA .i64 ((aA .i64 a0.1) -s.2.1)) -s.1))))+(aA .i64 a1.2)),a1.1))
    else
     (rV s.2.2.2.2.2.2.2.2 a0.2 0).bind fun a2=>
     some (.next (s.1,s.2.1,s.2.2.1,s.2.2.2.1,aA .i64 (s.2.2.2.2.1+1),s.2.2.2.2.2.1,s.2.2.2.2.2.2.1,aA .i64 ((aA .i64 (s.2.2.2.2.2.2.2.1+(aA .i64 ((aA .i64 a0.1) -s.2.1))))+(aA .i64 a2.2)),a2.1))
   else
    bif decide (s.2.1<0) then
     (rV s.2.2.2.2.2.2.2.2 a0.2 0).bind fun a3=>
     some (.next (s.1,s.2.1,s.2.2.1,s.2.2.2.1,aA .i64 (s.2.2.2.2.1+1),s.2.2.2.2.2.1,s.2.2.2.2.2.2.1,aA .i64 ((aA .i64 (s.2.2.2.2.2.2.2.1+(aA .i64 ((aA .i64 a0.1) -s.1))))+(aA .i64 a3.2)),a3.1))
    else
     (rV s.2.2.2.2.2.2.2.2 a0.2 0).bind fun a4=>
     some (.next (s.1,s.2.1,s.2.2.1,s.2.2.2.1,aA .i64 (s.2.2.2.2.1+1),s.2.2.2.2.2.1,s.2.2.2.2.2.2.1,aA .i64 ((aA .i64 (s.2.2.2.2.2.2.2.1+(aA .i64 a0.1)))+(aA .i64 a4.2)),a4.1))
  else
   bif s.2.2.2.2.1==1 then
    (jN (aA .u64 s.2.2.1) (aA .u64 s.2.2.2.1)).bind fun a5=>
    bif decide (s.2.2.1<0) then
     bif decide (s.2.2.2.1<0) then
      (rV s.2.2.2.2.2.2.2.2 a5.2 0).bind fun a6=>
      some (.next (s.1,s.2.1,s.2.2.1,s.2.2.2.1,aA .i64 (s.2.2.2.2.1+1),s.2.2.2.2.2.1,s.2.2.2.2.2.2.1,aA .i64 ((aA .i64 (s.2.2.2.2.2.2.2.1+(aA .i64 ((aA .i64 ((aA .i64 a5.1) -s.2.2.2.1)) -s.2.2.1))))+(aA .i64 a6.2)),a6.1))
     else
      (rV s.2.2.2.2.2.2.2.2 a5.2 0).bind fun a7=>
      some (.next (s.1,s.2.1,s.2.2.1,s.2.2.2.1,aA .i64 (s.2.2.2.2.1+1),s.2.2.2.2.2.1,s.2.2.2.2.2.2.1,aA .i64 ((aA .i64 (s.2.2.2.2.2.2.2.1+(aA .i64 ((aA .i64 a5.1) -s.2.2.2.1))))+(aA .i64 a7.2)),a7.1))
    else
     bif decide (s.2.2.2.1<0) then
      (rV s.2.2.2.2.2.2.2.2 a5.2 0).bind fun a8=>
      some (.next (s.1,s.2.1,s.2.2.1,s.2.2.2.1,aA .i64 (s.2.2.2.2.1+1),s.2.2.2.2.2.1,s.2.2.2.2.2.2.1,aA .i64 ((aA .i64 (s.2.2.2.2.2.2.2.1+(aA .i64 ((aA .i64 a5.1) -s.2.2.1))))+(aA .i64 a8.2)),a8.1))
     else
      (rV s.2.2.2.2.2.2.2.2 a5.2 0).bind fun a9=>
      some (.next (s.1,s.2.1,s.2.2.1,s.2.2.2.1,aA .i64 (s.2.2.2.2.1+1),s.2.2.2.2.2.1,s.2.2.2.2.2.2.1,aA .i64 ((aA .i64 (s.2.2.2.2.2.2.2.1+(aA .i64 a5.1)))+(aA .i64 a9.2)),a9.1))
   else
    none
 else
  some (.done s.2.2.2.2.2.2.2)
def AX (p0:Int×Int×Int×Int):Option (Int×Int):=
 aH oW (p0.1,p0.2.1,p0.2.2.1,p0.2.2.2,0,0,0,0,0)
def aQS:bK:=⟨aC.one (aM.agg (cI.row aP3)),aM.agg (cI.row kiu),fun a=>AX a,.pure,false⟩
theorem aIn:aK tab 194 aQS:=Oc aGQ rfl aG [(176,aOG),(242,bK.add64)] ⟨YF,aBU,trivial⟩ fun a=>by kernel_rfl
def nO (p0:Int×Int×Int) (p1:Int×Int×Int) (p2:Int×Int):Option Int:=
 (AX (aA .i64 (p0.2.1-p1.2.1),p2.2,aA .i64 (p0.2.2-p1.2.2),p2.1)).bind fun a0=>
 bif !((a0.1==0)&&(a0.2==0)) then
  bif decide (a0.1<0) then
   some (-1)
  else
   some 1
 else
  (jW p0.2.2 p1.2.2).bind fun n1=>
  (fG p1.1 p0.1).bind fun n2=>
  (wL [n1,n2]).bind fun n3=>
  some n3
def aOJ:bK:=⟨aC.cons (aM.agg (cI.row dO)) (aC.cons (aM.agg (cI.row dO)) (aC.one (aM.agg (cI.row kB)))),aM.int .i64,fun a=>nO a.1 a.2.1 a.2.2,.pure,false⟩
theorem YH:aK tab 136 aOJ:=Oc aGg rfl aG [(194,aQS),(120,aOF),(157,VQ),(195,aOI)] ⟨aIn,YE,DU,YG,trivial⟩ fun a=>by kernel_rfl
def CW (p0:Bool×Int×Int) (p1:Int) (p2:Int):Option ((Int×Int)×Int):=
 bif decide (0<p0.2.1) then
  some ((0,0),16)
 else
  bif decide (9223372036854775807<p0.2.2) then
   some ((0,0),16)
  else
   bif decide (0<p1) then
    some ((0,0),16)
   else
    bif decide (9223372036854775807<p2) then
     some ((0,0),16)
    else
     bif p0.1 then
      some ((aA .i64 (0- (aA .i64 p0.2.2)),aA .i64 p2),0)
     else
      some ((aA .i64 p0.2.2,aA .i64 p2),0)
def aQT:bK:=⟨aC.cons (aM.agg (cI.row CR)) (aC.cons (aM.int .u64) (aC.one (aM.int .u64))),aM.tup (aC.cons (aM.agg (cI.row kB)) (aC.one (aM.int .i64))),fun a=>CW a.1 a.2.1 a.2.2,.pure,false⟩
theorem aIo:aK tab 243 aQT:=Oc aHm rfl aG [] trivial fun a=>by kernel_rfl
def AY (p0:Int) (p1:Int):Option ((Int×Int)×Int):=
 bif p1==0 then
  some ((0,0),26)
 else
  (mU p0).bind fun n0=>
  (mU p1).bind fun n1=>
  (zQ n0 n1).bind fun n2=>
  (mU p0).bind fun n3=>
  bif n2==0 then
   none
  else
   (mU p1).bind fun n4=>
   bif n2==0 then
    none
   else
    (CW (!((decide (p0<0))==(decide (p1<0))),0,aA .u64 (Int.tdiv n3 n2)) 0 (aA .u64 (Int.tdiv n4 n2))).bind fun a5=>
    some a5
def aQU:bK:=⟨aC.cons (aM.int .i64) (aC.one (aM.int .i64)),aM.tup (aC.cons (aM.agg (cI.row kB)) (aC.one (aM.int .i64))),fun a=>AY a.1 a.2,.pure,false⟩
theorem aIp:aK tab 197 aQU:=Oc aGS rfl aG [(118,aH6),(117,aOD),(243,aQT)] ⟨QA,YC,aIo,trivial⟩ fun a=>by kernel_rfl
def CX (p0:Int×Int×Int) (p1:Int×Int×Int):Option ((Int×Int)×Int):=
 (rZ p0 p1 (0,1)).bind fun n0=>
 bif n0 !=0 then
  some ((0,0),n0)
 else
  bif p0.2.2==p1.2.2 then
   some ((0,0),6)
  else
   (AY (aA .i64 (p0.2.1-p1.2.1)) (aA .i64 (p1.2.2-p0.2.2))).bind fun a1=>
   some a1
def aQV:bK:=⟨aC.cons (aM.agg (cI.row dO)) (aC.one (aM.agg (cI.row dO))),aM.tup (aC.cons (aM.agg (cI.row kB)) (aC.one (aM.int .i64))),fun a=>CX a.1 a.2,.pure,false⟩
theorem aIq:aK tab 139 aQV:=Oc aGh rfl aG [(135,aIm),(197,aQU)] ⟨QF,aIp,trivial⟩ fun a=>by kernel_rfl
def vJ (p0:Int×Int×Int) (p1:Int×Int×Int) (p2:Int×Int):Option ((Int×Int)×Bool×Int):=
 (rZ p0 p1 p2).bind fun n0=>
 bif n0 !=0 then
  some ((0,0),false,n0)
 else
  (nO p1 p0 p2).bind fun n1=>
  bif decide (0<n1) then
   some (p2,true,0)
  else
   bif decide (p1.2.2<=p0.2.2) then
    some ((0,0),false,0)
   else
    (CX p0 p1).bind fun a2=>
    some (a2.1,a2.2==0,a2.2)
def aQW:bK:=⟨aC.cons (aM.agg (cI.row dO)) (aC.cons (aM.agg (cI.row dO)) (aC.one (aM.agg (cI.row kB)))),aM.tup (aC.cons (aM.agg (cI.row kB)) (aC.cons aM.bool (aC.one (aM.int .i64)))),fun a=>vJ a.1 a.2.1 a.2.2,.pure,false⟩
theorem aIr:aK tab 220 aQW:=Oc aHa rfl aG [(135,aIm),(136,aOJ),(139,aQV)] ⟨QF,YH,aIq,trivial⟩ fun a=>by kernel_rfl
def sA (p0:Field) (p1:Int×Int) (p2:Int×Int):Option ((Int×Int)×Bool×Int):=
 (jX p0 p1.2).bind fun a0=>
 (jX p0 p1.1).bind fun a1=>
 (vJ a0 a1 p2).bind fun a2=>
 some a2
def aIs:bK:=⟨aC.cons (aM.agg bT) (aC.cons (aM.agg (cI.row kB)) (aC.one (aM.agg (cI.row kB)))),aM.tup (aC.cons (aM.agg (cI.row kB)) (aC.cons aM.bool (aC.one (aM.int .i64)))),fun a=>sA a.1 a.2.1 a.2.2,.pure,false⟩
theorem QG:aK tab 169 aIs:=Oc aGw rfl aG [(221,aIl),(220,aQW)] ⟨QE,aIr,trivial⟩ fun a=>by kernel_rfl
def cR (s:Zt8):Option (cL Zt8 aP8):=
 bif decide (s.2.2.2.1<s.2.2.1) then
  (aO s.2.1 s.2.2.2.1).bind fun a0=>
  (sA (Field.mk s.2.2.2.2.2.2.1) a0.2 (s.2.2.2.2.1,s.2.2.2.2.2.1)).bind fun a1=>
  bif a1.2.2 !=0 then
   some (.done (.done 8))
  else
   bif !a1.2.1 then
    some (.next (s.1,s.2.1,s.2.2.1,aA .i64 (s.2.2.2.1+1),s.2.2.2.2))
   else
    bif (Int.ofNat s.1.length)==0 then
     some (.done (.done 8))
    else
     (aO s.1 0).bind fun a2=>
     bif a2.1 !=a0.1 then
      some (.done (.done 8))
     else
      (aO s.1 0).bind fun a3=>
      bif decide (a3.2.1<0) then
       some (.done (.done 8))
      else
       bif decide (200<=a3.2.1) then
        some (.done (.done 8))
       else
        (aO s.2.2.2.2.2.2.2.2.2.2.2.2.2.1 a3.2.1).bind fun n4=>
        bif decide (n4<0) then
         some (.done (.done 8))
        else
         (aO s.2.2.2.2.2.2.2.2.2.2.2.2.2.1 a3.2.1).bind fun n5=>
         (aO s.2.2.2.2.2.2.2.2.2.2.2.2.1 n5).bind fun a6=>
         bif !((a6.1==a1.1.1)&&((a6.2.1==a1.1.2)&&((a6.2.2.1==a0.1)&&((a6.2.2.2.1==a3.2.1)&&(a6.2.2.2.2==a3.2.2))))) then
          some (.done (.done 8))
         else
          (jM s.1 1 (Int.ofNat s.1.length)).bind fun l7=>
          some (.next (l7,s.2.1,s.2.2.1,aA .i64 (s.2.2.2.1+1),s.2.2.2.2))
 else
  bif decide (0<(Int.ofNat s.1.length)) then
   some (.done (.done 8))
  else
   some (.done (.done 0))
def fC (s:aP7):Option aP8:=
 bif decide (s.2.1<s.1) then
  (aO s.2.2.2.2.2.2.2.2.2.2.2.2.2 s.2.1).bind fun n0=>
  bif n0 !=0 then
   some (.done 8)
  else
   some (.next (s.1,aA .i64 (s.2.1+1),s.2.2))
 else
  bif (Int.ofNat s.2.2.2.2.2.2.2.2.2.2.2.1.length) !=200 then
   some (.done 8)
  else
   bif (Int.ofNat s.2.2.2.2.2.2.2.2.2.2.1.length) !=(Int.ofNat s.2.2.2.2.2.2.2.2.2.2.2.2.1.length) then
    some (.done 8)
   else
    aH cR (s.2.2.2.2.2.2.2.2.2.2.2.2.1,s.2.2.2.2.2.2.1,Int.ofNat s.2.2.2.2.2.2.1.length,0,s.2.2.1,s.2.2.2.1,s.2.2.2.2.1,s.2.2.2.2.2.1,s.2.2.2.2.2.2.1,s.2.2.2.2.2.2.2.1,s.2.2.2.2.2.2.2.2.1,s.2.2.2.2.2.2.2.2.2.1,s.2.2.2.2.2.2.2.2.2.2.1,s.2.2.2.2.2.2.2.2.2.2.2.1,s.2.2.2.2.2.2.2.2.2.2.2.2.1)
def gY (p0:aQ):Option Int:=
 (gW p0.now).bind fun n0=>
 (dE p0.field).bind fun n1=>
 (rX p0.certs).bind fun n2=>
 (mB p0.agenda).bind fun n3=>
 aH fC (Int.ofNat ([n0,n1,n2,n3].length),0,p0.now.1,p0.now.2,p0.field.points,p0.certs.next_,p0.certs.list,p0.agenda.slots.uses,p0.agenda.slots.used,p0.agenda.slots.free,p0.agenda.heap,p0.agenda.where_,p0.due,[n0,n1,n2,n3])
def aAn:bK:=⟨aC.one (aM.agg bU),aM.int .i64,fun a=>gY a,.pure,false⟩
theorem GX:aK tab 109 aAn:=Oc aFW rfl aG [(72,c72),(99,c99),(167,aH8),(168,aB2),(169,aIs)] ⟨FJ,FK,QB,KA,QG,trivial⟩ fun a=>by kernel_rfl
def AZ (p0:Field) (p1:Int×Int):Option Int:=
 (dE p0).bind fun n0=>
 bif n0 !=0 then
  some n0
 else
  (gW p1).bind fun n1=>
  some n1
def c81:bK:=⟨aC.cons (aM.agg bT) (aC.one (aM.agg (cI.row kB))),aM.int .i64,fun a=>AZ a.1 a.2,.pure,false⟩
theorem aOK:aK tab 81 c81:=Oc aOc rfl aG [(99,c99),(72,c72)] ⟨FK,FJ,trivial⟩ fun a=>by kernel_rfl
def oG (p0:Int×Int×Int) (p1:Int×Int×Int) (p2:Int×Int):Option (Bool×Int):=
 (rZ p0 p1 p2).bind fun n0=>
 bif n0 !=0 then
  some (false,n0)
 else
  (nO p0 p1 p2).bind fun n1=>
  some (decide (0<n1),0)
def c82:bK:=⟨aC.cons (aM.agg (cI.row dO)) (aC.cons (aM.agg (cI.row dO)) (aC.one (aM.agg (cI.row kB)))),aM.tup (aC.cons aM.bool (aC.one (aM.int .i64))),fun a=>oG a.1 a.2.1 a.2.2,.pure,false⟩
theorem aOL:aK tab 82 c82:=Oc aOd rfl aG [(135,aIm),(136,aOJ)] ⟨QF,YH,trivial⟩ fun a=>by kernel_rfl
def qS (s:aQh):Option (cL aQh aQk):=
 match s with
 |(a,b,d,e,f,g,h,i,j,k,l,m,n,o,q,r,t,u,v)=>
  bif decide (0<(Int.ofNat a)) then
   (aO (n.take a) (aA .i64 ((Int.ofNat a) -1))).bind fun n0=>
   (aO h n0).bind fun a1=>
   (oG a1 (o,q,r) (i,j)).bind fun a2=>
   bif a2.1 then
    bif decide (0<(Int.ofNat a)) then
     (aO (n.take a) (aA .i64 ((Int.ofNat a) -1))).bind fun n3=>
     (aO m n3).bind fun a4=>
     (bE (cA m n3 (a4.1,a4.2.1,d)) [(t,u,v)]).bind fun l5=>
     bif Nat.ble (a+[d].length) b then
      bif (Nat.ble (a+[d].length) n.length)&&(!false) then
       some (.done (.next (a+[d].length,b,e,f,aA .i64 (g+1),h,i,j,k,l,l5,fY n a [d])))
      else
       none
     else
      (bE (n.take a) [d]).bind fun l6=>
      bif Nat.ble a n.length then
       some (.done (.next (l6.length,l6.length,e,f,aA .i64 (g+1),h,i,j,k,l,l5,l6)))
      else
       none
    else
     (bE m [(t,u,v)]).bind fun l7=>
     bif Nat.ble (a+[d].length) b then
      bif (Nat.ble (a+[d].length) n.length)&&(!false) then
       some (.done (.next (a+[d].length,b,e,f,aA .i64 (g+1),h,i,j,k,d,l7,fY n a [d])))
      else
       none
     else
      (bE (n.take a) [d]).bind fun l8=>
      bif Nat.ble a n.length then
       some (.done (.next (l8.length,l8.length,e,f,aA .i64 (g+1),h,i,j,k,d,l7,l8)))
      else
       none
   else
    bif (decide (0<=(aA .i64 ((Int.ofNat a) -1))))&&(decide ((aA .i64 ((Int.ofNat a) -1))<=(Int.ofNat b))) then
     some (.next ((aA .i64 ((Int.ofNat a) -1)).toNat,b,d,e,f,g,h,i,j,k,l,m,n,o,q,r,t,n0,v))
    else
     none
  else
   bif decide (0<(Int.ofNat a)) then
    (aO (n.take a) (aA .i64 ((Int.ofNat a) -1))).bind fun n9=>
    (aO m n9).bind fun a10=>
    (bE (cA m n9 (a10.1,a10.2.1,d)) [(t,u,v)]).bind fun l11=>
    bif Nat.ble (a+[d].length) b then
     bif (Nat.ble (a+[d].length) n.length)&&(!false) then
      some (.done (.next (a+[d].length,b,e,f,aA .i64 (g+1),h,i,j,k,l,l11,fY n a [d])))
     else
      none
    else
     (bE (n.take a) [d]).bind fun l12=>
     bif Nat.ble a n.length then
      some (.done (.next (l12.length,l12.length,e,f,aA .i64 (g+1),h,i,j,k,l,l11,l12)))
     else
      none
   else
    (bE m [(t,u,v)]).bind fun l13=>
    bif Nat.ble (a+[d].length) b then
     bif (Nat.ble (a+[d].length) n.length)&&(!false) then
      some (.done (.next (a+[d].length,b,e,f,aA .i64 (g+1),h,i,j,k,d,l13,fY n a [d])))
     else
      none
    else
     (bE (n.take a) [d]).bind fun l14=>
     bif Nat.ble a n.length then
      some (.done (.next (l14.length,l14.length,e,f,aA .i64 (g+1),h,i,j,k,d,l13,l14)))
     else
      none
def oH (s:aQj):Option aQk:=
 bif decide (s.2.2.2.2.1<s.2.2.2.1) then
  (aO s.2.2.1 s.2.2.2.2.1).bind fun a0=>
  aH qS (s.1,s.2.1,s.2.2.2.2.1,s.2.2.1,s.2.2.2.1,s.2.2.2.2.1,s.2.2.2.2.2.1,s.2.2.2.2.2.2.1,s.2.2.2.2.2.2.2.1,s.2.2.2.2.2.2.2.2.1,s.2.2.2.2.2.2.2.2.2.1,s.2.2.2.2.2.2.2.2.2.2.1,s.2.2.2.2.2.2.2.2.2.2.2,a0.1,a0.2.1,a0.2.2,a0.1,-1,-1)
 else
  some (.done (mM.mk s.2.2.2.2.2.2.2.2.2.1 s.2.2.2.2.2.2.2.2.2.2.1,0))
def oI (p0:Field) (p1:Int×Int):Option (mM×Int):=
 (AZ p0 p1).bind fun n0=>
 bif n0 !=0 then
  some (mM.mk 0 [],n0)
 else
  aH oH (0,0,p0.points,Int.ofNat p0.points.length,0,p0.points,p1.1,p1.2,0,-1,[],[])
def c29:bK:=⟨aC.cons (aM.agg bT) (aC.one (aM.agg (cI.row kB))),aM.tup (aC.cons (aM.agg pM) (aC.one (aM.int .i64))),fun a=>oI a.1 a.2,.frz,false⟩
theorem VS:aK tab 29 c29:=Oc aNK rfl aG [(81,c81),(82,c82)] ⟨aOK,aOL,trivial⟩ fun a=>by kernel_rfl
def jC (s:aQq):Option (cL aQq aOo):=
 bif decide (s.2.2.2.2.2.2.1<2) then
  bif s.2.2.2.2.2.2.1==0 then
   bif decide (0<=s.2.2.2.2.1) then
    (aO s.2.2.2.2.2.2.2.2.2.2 s.2.2.2.2.1).bind fun _=>
    some (.next (s.1,s.2.1,s.2.2.1,s.2.2.2.1,s.2.2.2.2.1,s.2.2.2.2.2.1,aA .i64 (s.2.2.2.2.2.2.1+1),s.2.2.2.2.2.2.2.1,s.2.2.2.2.2.2.2.2.1,s.2.2.2.2.2.2.2.2.2.1,cA s.2.2.2.2.2.2.2.2.2.2 s.2.2.2.2.1 s.1))
   else
    some (.next (s.1,s.2.1,s.2.2.1,s.2.2.2.1,s.2.2.2.2.1,s.2.2.2.2.2.1,aA .i64 (s.2.2.2.2.2.2.1+1),s.2.2.2.2.2.2.2))
  else
   bif s.2.2.2.2.2.2.1==1 then
    bif decide (0<=s.2.2.2.2.2.1) then
     (aO s.2.2.2.2.2.2.2.2.2.2 s.2.2.2.2.2.1).bind fun _=>
     some (.next (s.1,s.2.1,s.2.2.1,s.2.2.2.1,s.2.2.2.2.1,s.2.2.2.2.2.1,aA .i64 (s.2.2.2.2.2.2.1+1),s.2.2.2.2.2.2.2.1,s.2.2.2.2.2.2.2.2.1,s.2.2.2.2.2.2.2.2.2.1,cA s.2.2.2.2.2.2.2.2.2.2 s.2.2.2.2.2.1 s.1))
    else
     some (.next (s.1,s.2.1,s.2.2.1,s.2.2.2.1,s.2.2.2.2.1,s.2.2.2.2.2.1,aA .i64 (s.2.2.2.2.2.2.1+1),s.2.2.2.2.2.2.2))
   else
    none
 else
  some (.done (.next (s.2.1,s.2.2.1,aA .i64 (s.2.2.2.1+1),s.2.2.2.2.2.2.2)))
def kW (s:aQr):Option (cL aQr aOo):=
 bif decide (s.2.2.1<s.2.1) then
  (aO s.1 s.2.2.1).bind fun a0=>
  (aO s.2.2.2.2.2.2.1 s.2.2.1).bind fun n1=>
  bif decide (0<=n1) then
   (aO s.2.2.2.2.2.2.1 s.2.2.1).bind fun n2=>
   (aO s.2.2.2.2.2.1 n2).bind fun a3=>
   (bE s.2.2.2.2.2.2.2 [(a0.1,a3.1)]).bind fun l4=>
   some (.next (s.1,s.2.1,aA .i64 (s.2.2.1+1),s.2.2.2.1,s.2.2.2.2.1,s.2.2.2.2.2.1,s.2.2.2.2.2.2.1,l4))
  else
   some (.next (s.1,s.2.1,aA .i64 (s.2.2.1+1),s.2.2.2))
 else
  some (.done (.done (.done (mM.mk s.2.2.2.2.1 s.2.2.2.2.2.1,s.2.2.2.2.2.2.2))))
def kX (s:aQe):Option aOo:=
 bif decide (s.2.2.1<s.2.1) then
  (aO s.1 s.2.2.1).bind fun a0=>
  aH jC (s.2.2.1,s.1,s.2.1,s.2.2.1,a0.2.1,a0.2.2,0,s.2.2.2)
 else
  aH kW (s.2.2.2.2.2.1,Int.ofNat s.2.2.2.2.2.1.length,0,s.2.2.2.1,s.2.2.2.2.1,s.2.2.2.2.2.1,s.2.2.2.2.2.2,[])
def kY (s:(Int×Int×Int×Int×bN×(List Int))):Option aQd:=
 bif decide (s.2.1<s.1) then
  (aO s.2.2.2.2.2 s.2.1).bind fun _=>
  some (.next (s.1,aA .i64 (s.2.1+1),s.2.2.1,s.2.2.2.1,s.2.2.2.2.1,cA s.2.2.2.2.2 s.2.1 (-1)))
 else
  aH kX (s.2.2.2.2.1,Int.ofNat s.2.2.2.2.1.length,0,s.2.2)
def uD (p0:Field) (p1:Int×Int):Option (mM×rW):=
 (oI p0 p1).bind fun a0=>
 bif (Int.ofNat a0.1.nodes.length)==(Int.ofNat a0.1.nodes.length) then
  (CH (Int.ofNat a0.1.nodes.length) (0:Int)).bind fun l1=>
  aH kY (Int.ofNat l1.length,0,0,a0.1.root,a0.1.nodes,l1)
 else
  none
def c58:bK:=⟨aC.cons (aM.agg bT) (aC.one (aM.agg (cI.row kB))),aM.tup (aC.cons (aM.agg pM) (aC.one (aM.sl kB))),fun a=>uD a.1 a.2,.frz,false⟩
theorem aOM:aK tab 58 c58:=Oc aN0 rfl aG [(29,c29)] ⟨VS,trivial⟩ fun a=>by kernel_rfl
def CY (s:aOu):Option aQD:=
 bif decide (s.2.2.2<s.2.2.1) then
  (aO s.1 s.2.2.2).bind fun a0=>
  (aO s.2.1 s.2.2.2).bind fun a1=>
  bif !((a0.1==a1.1)&&((a0.2.1==a1.2.1)&&(a0.2.2==a1.2.2))) then
   some (.done false)
  else
   some (.next (s.1,s.2.1,s.2.2.1,aA .i64 (s.2.2.2+1)))
 else
  some (.done true)
def qT (p0:List (Int×Int×Int)) (p1:List (Int×Int×Int)):Option Bool:=
 bif (Int.ofNat p0.length) !=(Int.ofNat p1.length) then
  some false
 else
  aH CY (p0,p1,Int.ofNat p0.length,0)
def aQX:bK:=⟨aC.cons (aM.sl dO) (aC.one (aM.sl dO)),aM.bool,fun a=>qT a.1 a.2,.pure,false⟩
theorem aIt:aK tab 110 aQX:=Oc aFX rfl aG [] trivial fun a=>by kernel_rfl
def jY (s:(rW×Int×Int×Int×Int)):Option (cL (rW×Int×Int×Int×Int) Int):=
 bif decide (s.2.2.1<s.2.1) then
  (aO s.1 s.2.2.1).bind fun a0=>
  bif (s.2.2.2.1==a0.1)&&(s.2.2.2.2==a0.2) then
   some (.done s.2.2.1)
  else
   some (.next (s.1,s.2.1,aA .i64 (s.2.2.1+1),s.2.2.2))
 else
  some (.done (-1))
def qU (p0:List (Int×Int)) (p1:Int×Int):Option Int:=
 aH jY (p0,Int.ofNat p0.length,0,p1)
def aQY:bK:=⟨aC.cons (aM.sl kB) (aC.one (aM.agg (cI.row kB))),aM.int .i64,fun a=>qU a.1 a.2,.pure,false⟩
theorem aIu:aK tab 211 aQY:=Oc aG1 rfl aG [] trivial fun a=>by kernel_rfl
def fL (p0:List (Int×Int)) (p1:Int×Int):Option Bool:=
 (qU p0 p1).bind fun n0=>
 some (decide (0<=n0))
def aIv:bK:=⟨aC.cons (aM.sl kB) (aC.one (aM.agg (cI.row kB))),aM.bool,fun a=>fL a.1 a.2,.pure,false⟩
theorem QH:aK tab 163 aIv:=Oc aGr rfl aG [(211,aQY)] ⟨aIu,trivial⟩ fun a=>by kernel_rfl
def yO (p0:Int×Int×Int) (p1:List (Int×Int)):Option Bool:=
 (fL p1 p0.2).bind fun b0=>
 some (!b0)
def aQZ:bK:=⟨aC.cons (aM.agg (cI.row dO)) (aC.one (aM.ref (cI.sl kB))),aM.bool,fun a=>yO a.1 a.2,.pure,false⟩
theorem aIw:aK tab 170 aQZ:=Oc aGx rfl aG [(163,aIv)] ⟨QH,trivial⟩ fun a=>by kernel_rfl
def bL (s:(bN×rW×Int×Int)):Option (cL (bN×rW×Int×Int) Int):=
 bif decide (s.2.2.2<s.2.2.1) then
  (aO s.1 s.2.2.2).bind fun a0=>
  (yO a0 s.2.1).bind fun b1=>
  bif b1 then
   some (.done s.2.2.2)
  else
   some (.next (s.1,s.2.1,s.2.2.1,aA .i64 (s.2.2.2+1)))
 else
  some (.done (-1))
def eW (p0:List (Int×Int×Int)) (p1:rW):Option Int:=
 aH bL (p0,p1,Int.ofNat p0.length,0)
def SZ:bK:=⟨aC.cons (aM.sl dO) (aC.one (aM.clo 170 (aC.one (aM.ref (cI.sl kB))))),aM.int .i64,fun a=>eW a.1 a.2,.pure,false⟩
theorem S0:aK tab 222 SZ:=Oc P3 rfl aG [(170,aQZ)] ⟨aIw,trivial⟩ fun a=>by kernel_rfl
def eC (p0:List (Int×Int×Int)) (p1:rW):Option Bool:=
 (eW p0 p1).bind fun n0=>
 some (decide (0<=n0))
def S1:bK:=⟨aC.cons (aM.sl dO) (aC.one (aM.clo 170 (aC.one (aM.ref (cI.sl kB))))),aM.bool,fun a=>eC a.1 a.2,.pure,false⟩
theorem S2:aK tab 171 S1:=Oc P2 rfl aG [(222,SZ)] ⟨S0,trivial⟩ fun a=>by kernel_rfl
def uE (p0:aQ) (p1:List (Int×Int)):Option Bool:=
 bif (Int.ofNat p1.length)==(Int.ofNat p0.certs.list.length) then
  (eC p0.certs.list p1).bind fun b0=>
  some (!b0)
 else
  some false
def aQ0:bK:=⟨aC.cons (aM.agg bU) (aC.one (aM.sl kB)),aM.bool,fun a=>uE a.1 a.2,.pure,false⟩
theorem aIx:aK tab 111 aQ0:=Oc aFY rfl aG [(171,S1)] ⟨S2,trivial⟩ fun a=>by kernel_rfl
def qV (p0:bO):Option Int:=
 (gY p0.clock).bind fun n0=>
 bif n0 !=0 then
  some 8
 else
  (uD p0.clock.field p0.clock.now).bind fun a1=>
  bif a1.1.root !=p0.tree.root then
   some 8
  else
   (qT a1.1.nodes p0.tree.nodes).bind fun b2=>
   bif !b2 then
    some 8
   else
    (uE p0.clock a1.2).bind fun b3=>
    bif !b3 then
     some 8
    else
     some 0
def c57:bK:=⟨aC.one (aM.agg dS),aM.int .i64,fun a=>qV a,.pure,false⟩
theorem aB3:aK tab 57 c57:=Oc aNZ rfl aG [(109,aAn),(58,c58),(110,aQX),(111,aQ0)] ⟨GX,aOM,aIt,aIx,trivial⟩ fun a=>by kernel_rfl
def A0 (p0:Int×Int×Int) (p1:Int):Option Int:=
 (fG p0.1 p1).bind fun n0=>
 some n0
def aQ1:bK:=⟨aC.cons (aM.agg (cI.row dO)) (aC.one (aM.int .i64)),aM.int .i64,fun a=>A0 a.1 a.2,.pure,false⟩
theorem aIy:aK tab 156 aQ1:=Oc aGo rfl aG [(157,VQ)] ⟨DU,trivial⟩ fun a=>by kernel_rfl
def jD (s:P7):Option aH0:=
 bif decide (s.2.2.2.1<s.2.2.2.2) then
  (aO s.1 (aA .i64 (tU .u64 (aA .u64 (aA .i64 (s.2.2.2.1+s.2.2.2.2))) 1))).bind fun a0=>
  (A0 a0 s.2.1).bind fun n1=>
  bif decide (n1<0) then
   some (.next (s.1,s.2.1,s.2.2.1,aA .i64 ((aA .i64 (tU .u64 (aA .u64 (aA .i64 (s.2.2.2.1+s.2.2.2.2))) 1))+1),s.2.2.2.2))
  else
   some (.next (s.1,s.2.1,s.2.2.1,s.2.2.2.1,aA .i64 (tU .u64 (aA .u64 (aA .i64 (s.2.2.2.1+s.2.2.2.2))) 1)))
 else
  bif decide (s.2.2.2.1<s.2.2.1) then
   (aO s.1 s.2.2.2.1).bind fun a2=>
   (A0 a2 s.2.1).bind fun n3=>
   some (.done (s.2.2.2.1,n3==0))
  else
   some (.done (s.2.2.2.1,false))
def cZ (p0:List (Int×Int×Int)) (p1:Int) (_:Unit):Option (Int×Bool):=
 aH jD (p0,p1,Int.ofNat p0.length,0,Int.ofNat p0.length)
def S3:bK:=⟨aC.cons (aM.sl dO) (aC.cons (aM.int .i64) (aC.one (aM.clo 156 aC.nil))),aM.tup (aC.cons (aM.int .i64) (aC.one aM.bool)),fun a=>cZ a.1 a.2.1 a.2.2,.pure,false⟩
theorem S4:aK tab 155 S3:=Oc X3 rfl aG [(156,aQ1)] ⟨aIy,trivial⟩ fun a=>by kernel_rfl
def kC (p0:Field) (p1:Int):Option (Int×Bool):=
 (cZ p0.points p1 ()).bind fun a0=>
 some a0
def aON:bK:=⟨aC.cons (aM.agg bT) (aC.one (aM.int .i64)),aM.tup (aC.cons (aM.int .i64) (aC.one aM.bool)),fun a=>kC a.1 a.2,.pure,false⟩
theorem YI:aK tab 101 aON:=Oc aFQ rfl aG [(155,S3)] ⟨S4,trivial⟩ fun a=>by kernel_rfl
def mV (p0:Field) (p1:Int×Int×Int):Option (Field×Int):=
 (dE p0).bind fun n0=>
 bif n0 !=0 then
  some (Field.mk [],n0)
 else
  (jV p1).bind fun n1=>
  bif n1 !=0 then
   some (Field.mk [],n1)
  else
   (kC p0 p1.1).bind fun a2=>
   bif a2.2 then
    some (Field.mk [],14)
   else
    bif (Int.ofNat p0.points.length)==64 then
     some (Field.mk [],18)
    else
     (cB p0.points).bind fun l3=>
     (DL l3 a2.1 [p1]).bind fun l4=>
     some (Field.mk l4,0)
def c46:bK:=⟨aC.cons (aM.agg bT) (aC.one (aM.agg (cI.row dO))),aM.tup (aC.cons (aM.agg bT) (aC.one (aM.int .i64))),fun a=>mV a.1 a.2,.frz,false⟩
theorem aOO:aK tab 46 c46:=aK.of aNU (cx:=(pK aG [(99,c99),(100,aB1),(101,aON),(103,bK.clone dO)] [] [(102,.ins 3)] [])) rfl (mL.make ⟨FK,J9,YI,wH,trivial⟩ trivial ⟨aFR,trivial⟩) (fun a=>by kernel_rfl)
def xR (p0:Field) (p1:Int×Int×Int):Option (Field×Int):=
 (mV p0 p1).bind fun a0=>
 some a0
def c92:bK:=⟨aC.cons (aM.agg bT) (aC.one (aM.ref (cI.row dO))),aM.tup (aC.cons (aM.agg bT) (aC.one (aM.int .i64))),fun a=>xR a.1 a.2,.frz,false⟩
theorem aOP:aK tab 92 c92:=Oc aOh rfl aG [(46,c46)] ⟨aOO,trivial⟩ fun a=>by kernel_rfl
def jE (s:aQt):Option (cL aQt aOp):=
 bif decide (s.2.2.2.2.2.2.1<2) then
  bif s.2.2.2.2.2.2.1==0 then
   bif decide (0<=s.2.2.2.2.1) then
    (aO s.2.2.2.2.2.2.2.2.2 s.2.2.2.2.1).bind fun _=>
    some (.next (s.1,s.2.1,s.2.2.1,s.2.2.2.1,s.2.2.2.2.1,s.2.2.2.2.2.1,aA .i64 (s.2.2.2.2.2.2.1+1),s.2.2.2.2.2.2.2.1,s.2.2.2.2.2.2.2.2.1,cA s.2.2.2.2.2.2.2.2.2 s.2.2.2.2.1 s.1))
   else
    some (.next (s.1,s.2.1,s.2.2.1,s.2.2.2.1,s.2.2.2.2.1,s.2.2.2.2.2.1,aA .i64 (s.2.2.2.2.2.2.1+1),s.2.2.2.2.2.2.2))
  else
   bif s.2.2.2.2.2.2.1==1 then
    bif decide (0<=s.2.2.2.2.2.1) then
     (aO s.2.2.2.2.2.2.2.2.2 s.2.2.2.2.2.1).bind fun _=>
     some (.next (s.1,s.2.1,s.2.2.1,s.2.2.2.1,s.2.2.2.2.1,s.2.2.2.2.2.1,aA .i64 (s.2.2.2.2.2.2.1+1),s.2.2.2.2.2.2.2.1,s.2.2.2.2.2.2.2.2.1,cA s.2.2.2.2.2.2.2.2.2 s.2.2.2.2.2.1 s.1))
    else
     some (.next (s.1,s.2.1,s.2.2.1,s.2.2.2.1,s.2.2.2.2.1,s.2.2.2.2.2.1,aA .i64 (s.2.2.2.2.2.2.1+1),s.2.2.2.2.2.2.2))
   else
    none
 else
  some (.done (.next (s.2.1,s.2.2.1,aA .i64 (s.2.2.2.1+1),s.2.2.2.2.2.2.2)))
def kZ (s:aQu):Option (cL aQu aOp):=
 bif decide (s.2.2.1<s.2.1) then
  (aO s.1 s.2.2.1).bind fun a0=>
  bif s.2.2.1 !=s.2.2.2.1 then
   (aO s.2.2.2.2.2.1 s.2.2.1).bind fun n1=>
   (aO s.2.2.2.2.1 n1).bind fun a2=>
   (bE s.2.2.2.2.2.2 [(a0.1,a2.1)]).bind fun l3=>
   some (.next (s.1,s.2.1,aA .i64 (s.2.2.1+1),s.2.2.2.1,s.2.2.2.2.1,s.2.2.2.2.2.1,l3))
  else
   some (.next (s.1,s.2.1,aA .i64 (s.2.2.1+1),s.2.2.2))
 else
  some (.done (.done s.2.2.2.2.2.2))
def nP (s:aQs):Option aOp:=
 bif decide (s.2.2.1<s.2.1) then
  (aO s.1 s.2.2.1).bind fun a0=>
  aH jE (s.2.2.1,s.1,s.2.1,s.2.2.1,a0.2.1,a0.2.2,0,s.2.2.2)
 else
  aH kZ (s.2.2.2.2.1,Int.ofNat s.2.2.2.2.1.length,0,s.2.2.2.1,s.2.2.2.2.1,s.2.2.2.2.2,[])
def jZ (p0:mM):Option rW:=
 bif (Int.ofNat p0.nodes.length)==(Int.ofNat p0.nodes.length) then
  (CH (Int.ofNat p0.nodes.length) (0:Int)).bind fun l0=>
  aH nP (p0.nodes,Int.ofNat p0.nodes.length,0,p0.root,p0.nodes,l0)
 else
  none
def aOQ:bK:=⟨aC.one (aM.agg pM),aM.sl kB,fun a=>jZ a,.frz,false⟩
theorem YJ:aK tab 150 aOQ:=Oc aGl rfl aG [] trivial fun a=>by kernel_rfl
def lR (p0:Field) (p1:Int):Option (Int×Int):=
 (dE p0).bind fun n0=>
 bif n0 !=0 then
  some (0,n0)
 else
  (kC p0 p1).bind fun a1=>
  bif !a1.2 then
   some (0,6)
  else
   some (a1.1,0)
def aOR:bK:=⟨aC.cons (aM.agg bT) (aC.one (aM.int .i64)),aM.tup (aC.cons (aM.int .i64) (aC.one (aM.int .i64))),fun a=>lR a.1 a.2,.pure,false⟩
theorem YK:aK tab 104 aOR:=Oc aFT rfl aG [(99,c99),(101,aON)] ⟨FK,YI,trivial⟩ fun a=>by kernel_rfl
def wM (p0:Field) (p1:Int):Option ((Int×Int×Int)×Int):=
 (lR p0 p1).bind fun a0=>
 bif a0.2 !=0 then
  some ((0,0,0),a0.2)
 else
  (aO p0.points a0.1).bind fun a1=>
  some (a1,0)
def aQ2:bK:=⟨aC.cons (aM.agg bT) (aC.one (aM.int .i64)),aM.tup (aC.cons (aM.agg (cI.row dO)) (aC.one (aM.int .i64))),fun a=>wM a.1 a.2,.pure,false⟩
theorem aIz:aK tab 164 aQ2:=Oc aGs rfl aG [(104,aOR)] ⟨YK,trivial⟩ fun a=>by kernel_rfl
def wN (p0:aQ):Option aQ:=
 (cB p0.field.points).bind fun l0=>
 (cB p0.certs.list).bind fun l1=>
 (cB p0.due).bind fun l2=>
 (cB p0.agenda.heap).bind fun l3=>
 (cB p0.agenda.where_).bind fun l4=>
 (cB p0.agenda.slots.uses).bind fun l5=>
 (cB p0.agenda.slots.used).bind fun l6=>
 (cB p0.agenda.slots.free).bind fun l7=>
 some (aQ.mk p0.now (Field.mk l0) (aV.mk p0.certs.next_ l1) (aI.mk (aS.mk l5 l6 l7) l3 l4) l2)
def aQ3:bK:=⟨aC.one (aM.agg bU),aM.agg bU,fun a=>wN a,.own,true⟩
def aKk:bK:=⟨aC.one (aM.agg bU),aM.agg bU,fun a=>wN a,.frz,false⟩
theorem aIA:aK tab 166 aQ3:=Oc X4 rfl aG [(103,bK.clone dO),(182,bK.clone dO),(183,bK.clone dO),(184,bK.clone lY),(185,bK.clone ki),(186,bK.clone kb)] ⟨wH,zP,GS,wI,qP,wG,trivial⟩ fun a=>by kernel_rfl
theorem aB4:aK tab 166 aKk:=Oc X4 rfl aG [(103,bK.clone dO),(182,bK.clone dO),(183,bK.clone dO),(184,bK.clone lY),(185,bK.clone ki),(186,bK.clone kb)] ⟨wH,zP,GS,wI,qP,wG,trivial⟩ fun a=>by kernel_rfl
def uF (p0:Int×Int×Int) (p1:Int):Option Int:=
 (fG p0.1 p1).bind fun n0=>
 some n0
def aQ4:bK:=⟨aC.cons (aM.agg (cI.row dO)) (aC.one (aM.int .i64)),aM.int .i64,fun a=>uF a.1 a.2,.pure,false⟩
theorem aIB:aK tab 272 aQ4:=Oc aHE rfl aG [(157,VQ)] ⟨DU,trivial⟩ fun a=>by kernel_rfl
def aT (s:P7):Option aH0:=
 bif decide (s.2.2.2.1<s.2.2.2.2) then
  (aO s.1 (aA .i64 (tU .u64 (aA .u64 (aA .i64 (s.2.2.2.1+s.2.2.2.2))) 1))).bind fun a0=>
  (uF a0 s.2.1).bind fun n1=>
  bif decide (n1<0) then
   some (.next (s.1,s.2.1,s.2.2.1,aA .i64 ((aA .i64 (tU .u64 (aA .u64 (aA .i64 (s.2.2.2.1+s.2.2.2.2))) 1))+1),s.2.2.2.2))
  else
   some (.next (s.1,s.2.1,s.2.2.1,s.2.2.2.1,aA .i64 (tU .u64 (aA .u64 (aA .i64 (s.2.2.2.1+s.2.2.2.2))) 1)))
 else
  bif decide (s.2.2.2.1<s.2.2.1) then
   (aO s.1 s.2.2.2.1).bind fun a2=>
   (uF a2 s.2.1).bind fun n3=>
   some (.done (s.2.2.2.1,n3==0))
  else
   some (.done (s.2.2.2.1,false))
def aU (p0:List (Int×Int×Int)) (p1:Int) (_:Unit):Option (Int×Bool):=
 aH aT (p0,p1,Int.ofNat p0.length,0,Int.ofNat p0.length)
def S5:bK:=⟨aC.cons (aM.sl dO) (aC.cons (aM.int .i64) (aC.one (aM.clo 272 aC.nil))),aM.tup (aC.cons (aM.int .i64) (aC.one aM.bool)),fun a=>aU a.1 a.2.1 a.2.2,.pure,false⟩
theorem S6:aK tab 271 S5:=Oc aHD rfl aG [(272,aQ4)] ⟨aIB,trivial⟩ fun a=>by kernel_rfl
def IN (p0:aV) (p1:Int):Option (Int×Int):=
 (rX p0).bind fun n0=>
 bif n0 !=0 then
  some (0,n0)
 else
  (aU p0.list p1 ()).bind fun a1=>
  bif !a1.2 then
   some (0,6)
  else
   some (a1.1,0)
def aQ5:bK:=⟨aC.cons (aM.agg gR) (aC.one (aM.int .i64)),aM.tup (aC.cons (aM.int .i64) (aC.one (aM.int .i64))),fun a=>IN a.1 a.2,.pure,false⟩
theorem aIC:aK tab 225 aQ5:=Oc aHe rfl aG [(167,aH8),(271,S5)] ⟨QB,S6,trivial⟩ fun a=>by kernel_rfl
def fM (a:aBX):Option (Nat×Nat×bN):=
 bif (((decide (0<=a.1))&&(decide (a.1<=a.2.1)))&&(decide (a.2.1<=(Int.ofNat a.2.2.length))))&&(decide ((Int.ofNat a.2.2.length)<=(Int.ofNat a.2.2.length))) then
  bif a.1==a.2.1 then
   bif a.2.2.length==a.2.2.length then
    some (a.2.2.length,a.2.2.length,a.2.2)
   else
    none
  else
   (jM a.2.2 0 a.1).bind fun _=>
   bif ((decide (0<=a.2.1))&&(decide (a.2.1<=(Int.ofNat a.2.2.length))))&&(decide ((Int.ofNat a.2.2.length)<=(Int.ofNat a.2.2.length))) then
    bif ((a.2.2.drop (0+a.2.1.toNat)).take (((Int.ofNat a.2.2.length).toNat) -a.2.1.toNat)).isEmpty then
     bif ((decide (0<=(Int.ofNat a.1.toNat)))&&(decide ((Int.ofNat a.1.toNat)<=(Int.ofNat a.2.2.length))))&&(decide ((Int.ofNat a.2.2.length)<=(Int.ofNat a.2.2.length))) then
      bif Nat.beq (((Int.ofNat a.2.2.length).toNat) - ((Int.ofNat a.1.toNat).toNat)) 0 then
       bif a.2.2.length==a.2.2.length then
        some (a.1.toNat,a.2.2.length,a.2.2)
       else
        none
      else
       bif (Nat.ble ((0+((Int.ofNat a.1.toNat).toNat))+(((Int.ofNat a.2.2.length).toNat) - ((Int.ofNat a.1.toNat).toNat))) a.2.2.length)&&(!false) then
        bif ((fY a.2.2 (0+((Int.ofNat a.1.toNat).toNat)) (List.replicate (((Int.ofNat a.2.2.length).toNat) - ((Int.ofNat a.1.toNat).toNat)) (0,0,0))).length)==a.2.2.length then
         some (a.1.toNat,a.2.2.length,fY a.2.2 (0+((Int.ofNat a.1.toNat).toNat)) (List.replicate (((Int.ofNat a.2.2.length).toNat) - ((Int.ofNat a.1.toNat).toNat)) (0,0,0)))
        else
         none
       else
        none
     else
      none
    else
     bif Nat.ble (a.1.toNat+(((a.2.2.drop (0+a.2.1.toNat)).take (((Int.ofNat a.2.2.length).toNat) -a.2.1.toNat)).length)) a.2.2.length then
      bif (Nat.ble (a.1.toNat+(((a.2.2.drop (0+a.2.1.toNat)).take (((Int.ofNat a.2.2.length).toNat) -a.2.1.toNat)).length)) a.2.2.length)&&(!false) then
       bif ((decide (0<=(Int.ofNat (a.1.toNat+(((a.2.2.drop (0+a.2.1.toNat)).take (((Int.ofNat a.2.2.length).toNat) -a.2.1.toNat)).length)))))&&(decide ((Int.ofNat (a.1.toNat+(((a.2.2.drop (0+a.2.1.toNat)).take (((Int.ofNat a.2.2.length).toNat) -a.2.1.toNat)).length)))<=(Int.ofNat a.2.2.length))))&&(decide ((Int.ofNat a.2.2.length)<=(Int.ofNat a.2.2.length))) then
        bif Nat.beq (((Int.ofNat a.2.2.length).toNat) - ((Int.ofNat (a.1.toNat+(((a.2.2.drop (0+a.2.1.toNat)).take (((Int.ofNat a.2.2.length).toNat) -a.2.1.toNat)).length))).toNat)) 0 then
         bif ((fY a.2.2 a.1.toNat ((a.2.2.drop (0+a.2.1.toNat)).take (((Int.ofNat a.2.2.length).toNat) -a.2.1.toNat))).length)==a.2.2.length then
          some (a.1.toNat+(((a.2.2.drop (0+a.2.1.toNat)).take (((Int.ofNat a.2.2.length).toNat) -a.2.1.toNat)).length),a.2.2.length,fY a.2.2 a.1.toNat ((a.2.2.drop (0+a.2.1.toNat)).take (((Int.ofNat a.2.2.length).toNat) -a.2.1.toNat)))
         else
          none
        else
         bif (Nat.ble ((0+((Int.ofNat (a.1.toNat+(((a.2.2.drop (0+a.2.1.toNat)).take (((Int.ofNat a.2.2.length).toNat) -a.2.1.toNat)).length))).toNat))+(((Int.ofNat a.2.2.length).toNat) - ((Int.ofNat (a.1.toNat+(((a.2.2.drop (0+a.2.1.toNat)).take (((Int.ofNat a.2.2.length).toNat) -a.2.1.toNat)).length))).toNat))) ((fY a.2.2 a.1.toNat ((a.2.2.drop (0+a.2.1.toNat)).take (((Int.ofNat a.2.2.length).toNat) -a.2.1.toNat))).length))&&(!false) then
          bif ((fY (fY a.2.2 a.1.toNat ((a.2.2.drop (0+a.2.1.toNat)).take (((Int.ofNat a.2.2.length).toNat) -a.2.1.toNat))) (0+((Int.ofNat (a.1.toNat+(((a.2.2.drop (0+a.2.1.toNat)).take (((Int.ofNat a.2.2.length).toNat) -a.2.1.toNat)).length))).toNat)) (List.replicate (((Int.ofNat a.2.2.length).toNat) - ((Int.ofNat (a.1.toNat+(((a.2.2.drop (0+a.2.1.toNat)).take (((Int.ofNat a.2.2.length).toNat) -a.2.1.toNat)).length))).toNat)) (0,0,0))).length)==a.2.2.length then
           some (a.1.toNat+(((a.2.2.drop (0+a.2.1.toNat)).take (((Int.ofNat a.2.2.length).toNat) -a.2.1.toNat)).length),a.2.2.length,fY (fY a.2.2 a.1.toNat ((a.2.2.drop (0+a.2.1.toNat)).take (((Int.ofNat a.2.2.length).toNat) -a.2.1.toNat))) (0+((Int.ofNat (a.1.toNat+(((a.2.2.drop (0+a.2.1.toNat)).take (((Int.ofNat a.2.2.length).toNat) -a.2.1.toNat)).length))).toNat)) (List.replicate (((Int.ofNat a.2.2.length).toNat) - ((Int.ofNat (a.1.toNat+(((a.2.2.drop (0+a.2.1.toNat)).take (((Int.ofNat a.2.2.length).toNat) -a.2.1.toNat)).length))).toNat)) (0,0,0)))
          else
           none
         else
          none
       else
        none
      else
       none
     else
      none
   else
    none
 else
  none
def aB5:eE:=⟨[.i,.i,.l [.i .i64,.i .i64,.i .i64]],[.own 0 false,.int .i64 0,.int .i64 0],[.arr [.i .i64,.i .i64,.i .i64] []],[.n,.n,.l [.i .i64,.i .i64,.i .i64]],.pre 0 0 0 false,[.arr [.i .i64,.i .i64,.i .i64] []],fun a=>fM a⟩
theorem aAo:lN tab 226 aB5:=lN.of aHf (wd:=true) (cx:=(pK aG [] [] [] [])) (mL.make trivial trivial trivial) (fun a=>by kernel_rfl)
def xS (p0:aV) (p1:Int):Option (aV×(Int×Int)×Int):=
 (IN p0 p1).bind fun a0=>
 bif a0.2 !=0 then
  some (aV.mk 0 [],(0,0),a0.2)
 else
  (cB p0.list).bind fun l1=>
  (fM (a0.1,aA .i64 (a0.1+1),l1)).bind fun a2=>
  (aO p0.list a0.1).bind fun a3=>
  some (aV.mk p0.next_ (a2.2.2.take a2.1),a3.2,0)
def aQ6:bK:=⟨aC.cons (aM.agg gR) (aC.one (aM.int .i64)),aM.tup (aC.cons (aM.agg gR) (aC.cons (aM.agg (cI.row kB)) (aC.one (aM.int .i64)))),fun a=>xS a.1 a.2,.frz,false⟩
theorem aID:aK tab 178 aQ6:=aK.of aGC (cx:=(pK aG [(225,aQ5),(182,bK.clone dO)] [(226,aB5)] [] [])) rfl (mL.make ⟨aIC,zP,trivial⟩ ⟨aAo,trivial⟩ trivial) (fun a=>by kernel_rfl)
def nQ (p0:aQ):Option aQ:=
 (cB p0.field.points).bind fun l0=>
 (cB p0.certs.list).bind fun l1=>
 (cB p0.due).bind fun l2=>
 (cB p0.agenda.heap).bind fun l3=>
 (cB p0.agenda.where_).bind fun l4=>
 (cB p0.agenda.slots.uses).bind fun l5=>
 (cB p0.agenda.slots.used).bind fun l6=>
 (cB p0.agenda.slots.free).bind fun l7=>
 some (aQ.mk p0.now (Field.mk l0) (aV.mk p0.certs.next_ l1) (aI.mk (aS.mk l5 l6 l7) l3 l4) l2)
def aIE:bK:=⟨aC.one (aM.agg bU),aM.agg bU,fun a=>nQ a,.own,true⟩
def YL:bK:=⟨aC.one (aM.agg bU),aM.agg bU,fun a=>nQ a,.frz,false⟩
theorem QI:aK tab 125 aIE:=Oc XZ rfl aG [(103,bK.clone dO),(182,bK.clone dO),(183,bK.clone dO),(184,bK.clone lY),(185,bK.clone ki),(186,bK.clone kb)] ⟨wH,zP,GS,wI,qP,wG,trivial⟩ fun a=>by kernel_rfl
theorem MA:aK tab 125 YL:=Oc XZ rfl aG [(103,bK.clone dO),(182,bK.clone dO),(183,bK.clone dO),(184,bK.clone lY),(185,bK.clone ki),(186,bK.clone kb)] ⟨wH,zP,GS,wI,qP,wG,trivial⟩ fun a=>by kernel_rfl
def yP (p0:Int×Int×Int) (p1:Int):Option Int:=
 (fG p0.1 p1).bind fun n0=>
 some n0
def aQ7:bK:=⟨aC.cons (aM.agg (cI.row dO)) (aC.one (aM.int .i64)),aM.int .i64,fun a=>yP a.1 a.2,.pure,false⟩
theorem aIF:aK tab 228 aQ7:=Oc aHh rfl aG [(157,VQ)] ⟨DU,trivial⟩ fun a=>by kernel_rfl
def jK (s:P7):Option aH0:=
 bif decide (s.2.2.2.1<s.2.2.2.2) then
  (aO s.1 (aA .i64 (tU .u64 (aA .u64 (aA .i64 (s.2.2.2.1+s.2.2.2.2))) 1))).bind fun a0=>
  (yP a0 s.2.1).bind fun n1=>
  bif decide (n1<0) then
   some (.next (s.1,s.2.1,s.2.2.1,aA .i64 ((aA .i64 (tU .u64 (aA .u64 (aA .i64 (s.2.2.2.1+s.2.2.2.2))) 1))+1),s.2.2.2.2))
  else
   some (.next (s.1,s.2.1,s.2.2.1,s.2.2.2.1,aA .i64 (tU .u64 (aA .u64 (aA .i64 (s.2.2.2.1+s.2.2.2.2))) 1)))
 else
  bif decide (s.2.2.2.1<s.2.2.1) then
   (aO s.1 s.2.2.2.1).bind fun a2=>
   (yP a2 s.2.1).bind fun n3=>
   some (.done (s.2.2.2.1,n3==0))
  else
   some (.done (s.2.2.2.1,false))
def dA (p0:List (Int×Int×Int)) (p1:Int) (_:Unit):Option (Int×Bool):=
 aH jK (p0,p1,Int.ofNat p0.length,0,Int.ofNat p0.length)
def S7:bK:=⟨aC.cons (aM.sl dO) (aC.cons (aM.int .i64) (aC.one (aM.clo 228 aC.nil))),aM.tup (aC.cons (aM.int .i64) (aC.one aM.bool)),fun a=>dA a.1 a.2.1 a.2.2,.pure,false⟩
theorem S8:aK tab 227 S7:=Oc aHg rfl aG [(228,aQ7)] ⟨aIF,trivial⟩ fun a=>by kernel_rfl
def pW (p0:List (Int×Int×Int)) (p1:Int):Option (Int×Bool):=
 (dA p0 p1 ()).bind fun a0=>
 some a0
def aOS:bK:=⟨aC.cons (aM.sl dO) (aC.one (aM.int .i64)),aM.tup (aC.cons (aM.int .i64) (aC.one aM.bool)),fun a=>pW a.1 a.2,.pure,false⟩
theorem YM:aK tab 179 aOS:=Oc aGD rfl aG [(227,S7)] ⟨S8,trivial⟩ fun a=>by kernel_rfl
def CZ (p0:aS) (p1:Int×Int):Option (Bool×Int):=
 (rY p0).bind fun n0=>
 bif n0 !=0 then
  some (false,n0)
 else
  bif decide (0<=p1.1) then
   bif decide (p1.1<(Int.ofNat p0.used.length)) then
    (aO p0.used p1.1).bind fun b1=>
    bif b1 then
     (aO p0.uses p1.1).bind fun n2=>
     some (n2==p1.2,0)
    else
     some (false,0)
   else
    some (false,0)
  else
   some (false,0)
def aOT:bK:=⟨aC.cons (aM.agg gJ) (aC.one (aM.agg (cI.row kB))),aM.tup (aC.cons aM.bool (aC.one (aM.int .i64))),fun a=>CZ a.1 a.2,.pure,false⟩
theorem YN:aK tab 273 aOT:=Oc aHF rfl aG [(218,aIb)] ⟨QC,trivial⟩ fun a=>by kernel_rfl
def qW (p0:aI) (p1:Int×Int):Option (Int×Int):=
 (mB p0).bind fun n0=>
 bif n0 !=0 then
  some (0,n0)
 else
  (CZ p0.slots p1).bind fun a1=>
  bif a1.2 !=0 then
   some (0,6)
  else
   bif !a1.1 then
    some (0,6)
   else
    (aO p0.where_ p1.1).bind fun n2=>
    some (n2,0)
def aOU:bK:=⟨aC.cons (aM.agg dD) (aC.one (aM.agg (cI.row kB))),aM.tup (aC.cons (aM.int .i64) (aC.one (aM.int .i64))),fun a=>qW a.1 a.2,.pure,false⟩
theorem YO:aK tab 229 aOU:=Oc aHi rfl aG [(168,aB2),(273,aOT)] ⟨KA,YN,trivial⟩ fun a=>by kernel_rfl
def uV (p0:List Int) (p1:Int):Option (List Int):=
 (cB p0).bind fun l0=>
 (bE l0 [p1]).bind fun l1=>
 some l1
def aQ8:bK:=⟨aC.cons (aM.sl ki) (aC.one (aM.int .i64)),aM.sl ki,fun a=>uV a.1 a.2,.frz,false⟩
theorem aIG:aK tab 299 aQ8:=Oc aHQ rfl aG [(306,bK.clone ki)] ⟨ST,trivial⟩ fun a=>by kernel_rfl
def DV (p0:aS) (p1:Int×Int):Option (aS×Int):=
 (CZ p0 p1).bind fun a0=>
 bif a0.2 !=0 then
  some (aS.mk [] [] [],a0.2)
 else
  bif !a0.1 then
   some (aS.mk [] [] [],6)
  else
   (cB p0.uses).bind fun l1=>
   (cB p0.used).bind fun l2=>
   (uV p0.free p1.1).bind fun l3=>
   (aO l2 p1.1).bind fun _=>
   some (aS.mk l1 (cA l2 p1.1 false) l3,0)
def aQ9:bK:=⟨aC.cons (aM.agg gJ) (aC.one (aM.agg (cI.row kB))),aM.tup (aC.cons (aM.agg gJ) (aC.one (aM.int .i64))),fun a=>DV a.1 a.2,.frz,false⟩
theorem aIH:aK tab 274 aQ9:=aK.of aHG (cx:=(pK aG [(273,aOT),(185,bK.clone ki),(186,bK.clone kb),(299,aQ8)] [] [(298,aBN)] [])) rfl (mL.make ⟨YN,qP,wG,aIG,trivial⟩ trivial ⟨X8,trivial⟩) (fun a=>by kernel_rfl)
def bW (a:aHV):Option NG:=
 (aO (a.2.2.2.2.2.2.2.2.2.2.2.1.take a.2.2.2.1) a.2.2.2.2.2.1).bind fun _=>
 (aO a.2.2.2.2.2.2.2.2.2.2.2.2 a.2.2.2.2.2.2.2.2.2.1).bind fun _=>
 bif ((cA a.2.2.2.2.2.2.2.2.2.2.2.1 a.2.2.2.2.2.1 (a.2.2.2.2.2.2.1,a.2.2.2.2.2.2.2.1,a.2.2.2.2.2.2.2.2.1,a.2.2.2.2.2.2.2.2.2.1,a.2.2.2.2.2.2.2.2.2.2.1)).length)==a.2.2.2.2.2.2.2.2.2.2.2.1.length then
  bif ((cA a.2.2.2.2.2.2.2.2.2.2.2.2 a.2.2.2.2.2.2.2.2.2.1 a.2.2.2.2.2.1).length)==a.2.2.2.2.2.2.2.2.2.2.2.2.length then
   some (cA a.2.2.2.2.2.2.2.2.2.2.2.1 a.2.2.2.2.2.1 (a.2.2.2.2.2.2.1,a.2.2.2.2.2.2.2.1,a.2.2.2.2.2.2.2.2.1,a.2.2.2.2.2.2.2.2.2.1,a.2.2.2.2.2.2.2.2.2.2.1),cA a.2.2.2.2.2.2.2.2.2.2.2.2 a.2.2.2.2.2.2.2.2.2.1 a.2.2.2.2.2.1)
  else
   none
 else
  none
def VT:eE:=⟨[.l [.i .i64],.l [.b],.l [.i .i64],.n,.n,.i,.i,.i,.i,.i,.i,.l [.i .i64,.i .i64,.i .i64,.i .i64,.i .i64],.l [.i .i64]],[.agg [.sl [.i .i64] [],.sl [.b] [],.sl [.i .i64] [],.pre 0 0 0 false,.own 1 false],.int .i64 0,.agg [.int .i64 0,.int .i64 0,.int .i64 0,.int .i64 0,.int .i64 0]],[.arr [.i .i64,.i .i64,.i .i64,.i .i64,.i .i64] [],.arr [.i .i64] []],[.l [.i .i64,.i .i64,.i .i64,.i .i64,.i .i64],.l [.i .i64]],.tup [],[.arr [.i .i64,.i .i64,.i .i64,.i .i64,.i .i64] [],.arr [.i .i64] []],fun a=>bW a⟩
theorem OJ:lN tab 300 VT:=lN.of X9 (wd:=false) (cx:=(pK aG [] [] [] [])) (mL.make trivial trivial trivial) (fun a=>by kernel_rfl)
def fZ (c0:aHV) (s:aQl):Option (cL aQl aQc):=
 match s with
 |(a,b,d,e,f,g,h,i,j,k,l,m,n,o)=>
  bif decide (b<(Int.ofNat i)) then
   bif decide ((aA .i64 (b+1))<(Int.ofNat i)) then
    (aO (d.take i) (aA .i64 (b+1))).bind fun a0=>
    (aO (d.take i) b).bind fun a1=>
    (cJ a0 a1).bind fun n2=>
    bif decide (n2<0) then
     (aO (d.take i) (aA .i64 (b+1))).bind fun a3=>
     (cJ a3 (k,l,m,n,o)).bind fun n4=>
     bif decide (0<=n4) then
      (bW (f,g,h,i,j,a,k,l,m,n,o,d,e)).bind fun a5=>
      bif a5.1.length==c0.2.2.2.2.2.2.2.2.2.2.2.1.length then
       bif a5.2.length==c0.2.2.2.2.2.2.2.2.2.2.2.2.length then
        some (.done (.done a5))
       else
        none
      else
       none
     else
      (aO (d.take i) (aA .i64 (b+1))).bind fun a6=>
      (bW (f,g,h,i,j,a,a6.1,a6.2.1,a6.2.2.1,a6.2.2.2.1,a6.2.2.2.2,d,e)).bind fun a7=>
      some (.next (aA .i64 (b+1),aA .i64 ((aA .i64 (2*(aA .i64 (b+1))))+1),a7.1,a7.2,(f,g,h,i,j,k,l,m,n,o)))
    else
     (aO (d.take i) b).bind fun a8=>
     (cJ a8 (k,l,m,n,o)).bind fun n9=>
     bif decide (0<=n9) then
      (bW (f,g,h,i,j,a,k,l,m,n,o,d,e)).bind fun a10=>
      bif a10.1.length==c0.2.2.2.2.2.2.2.2.2.2.2.1.length then
       bif a10.2.length==c0.2.2.2.2.2.2.2.2.2.2.2.2.length then
        some (.done (.done a10))
       else
        none
      else
       none
     else
      (aO (d.take i) b).bind fun a11=>
      (bW (f,g,h,i,j,a,a11.1,a11.2.1,a11.2.2.1,a11.2.2.2.1,a11.2.2.2.2,d,e)).bind fun a12=>
      some (.next (b,aA .i64 ((aA .i64 (2*b))+1),a12.1,a12.2,(f,g,h,i,j,k,l,m,n,o)))
   else
    (aO (d.take i) b).bind fun a13=>
    (cJ a13 (k,l,m,n,o)).bind fun n14=>
    bif decide (0<=n14) then
     (bW (f,g,h,i,j,a,k,l,m,n,o,d,e)).bind fun a15=>
     bif a15.1.length==c0.2.2.2.2.2.2.2.2.2.2.2.1.length then
      bif a15.2.length==c0.2.2.2.2.2.2.2.2.2.2.2.2.length then
       some (.done (.done a15))
      else
       none
     else
      none
    else
     (aO (d.take i) b).bind fun a16=>
     (bW (f,g,h,i,j,a,a16.1,a16.2.1,a16.2.2.1,a16.2.2.2.1,a16.2.2.2.2,d,e)).bind fun a17=>
     some (.next (b,aA .i64 ((aA .i64 (2*b))+1),a17.1,a17.2,(f,g,h,i,j,k,l,m,n,o)))
  else
   (bW (f,g,h,i,j,a,k,l,m,n,o,d,e)).bind fun a18=>
   bif a18.1.length==c0.2.2.2.2.2.2.2.2.2.2.2.1.length then
    bif a18.2.length==c0.2.2.2.2.2.2.2.2.2.2.2.2.length then
     some (.done (.done a18))
    else
     none
   else
    none
def eO (c0:aHV) (s:aQb):Option aQc:=
 bif decide (0<s.1) then
  (aO (s.2.1.take s.2.2.2.2.2.2.1) (aA .i64 (Int.tdiv (aA .i64 (s.1-1)) 2))).bind fun a0=>
  (cJ s.2.2.2.2.2.2.2.2 a0).bind fun n1=>
  bif decide (n1<0) then
   (aO (s.2.1.take s.2.2.2.2.2.2.1) (aA .i64 (Int.tdiv (aA .i64 (s.1-1)) 2))).bind fun a2=>
   (bW (s.2.2.2.1,s.2.2.2.2.1,s.2.2.2.2.2.1,s.2.2.2.2.2.2.1,s.2.2.2.2.2.2.2.1,s.1,a2.1,a2.2.1,a2.2.2.1,a2.2.2.2.1,a2.2.2.2.2,s.2.1,s.2.2.1)).bind fun a3=>
   some (.next (aA .i64 (Int.tdiv (aA .i64 (s.1-1)) 2),a3.1,a3.2,s.2.2.2))
  else
   aH (fZ c0) (s.1,aA .i64 ((aA .i64 (2*s.1))+1),s.2)
 else
  aH (fZ c0) (s.1,aA .i64 ((aA .i64 (2*s.1))+1),s.2)
def kL (a:aHV):Option NG:=
 aH (eO a) (a.2.2.2.2.2.1,a.2.2.2.2.2.2.2.2.2.2.2.1,a.2.2.2.2.2.2.2.2.2.2.2.2,a.1,a.2.1,a.2.2.1,a.2.2.2.1,a.2.2.2.2.1,a.2.2.2.2.2.2.1,a.2.2.2.2.2.2.2.1,a.2.2.2.2.2.2.2.2.1,a.2.2.2.2.2.2.2.2.2.1,a.2.2.2.2.2.2.2.2.2.2.1)
def QJ:eE:=⟨[.l [.i .i64],.l [.b],.l [.i .i64],.n,.n,.i,.i,.i,.i,.i,.i,.l [.i .i64,.i .i64,.i .i64,.i .i64,.i .i64],.l [.i .i64]],[.agg [.sl [.i .i64] [],.sl [.b] [],.sl [.i .i64] [],.pre 0 0 0 false,.own 1 false],.int .i64 0,.agg [.int .i64 0,.int .i64 0,.int .i64 0,.int .i64 0,.int .i64 0]],[.arr [.i .i64,.i .i64,.i .i64,.i .i64,.i .i64] [],.arr [.i .i64] []],[.l [.i .i64,.i .i64,.i .i64,.i .i64,.i .i64],.l [.i .i64]],.tup [],[.arr [.i .i64,.i .i64,.i .i64,.i .i64,.i .i64] [],.arr [.i .i64] []],fun a=>kL a⟩
theorem IP:lN tab 276 QJ:=lN.of X6 (wd:=false) (cx:=(pK aG [(219,aIj)] [(300,VT)] [] [])) (mL.make ⟨QD,trivial⟩ ⟨OJ,trivial⟩ trivial) (fun a=>by kernel_rfl)
def sW (p0:aI) (p1:Int):Option (aI×(Int×Int×Int×Int×Int)×Int):=
 (aO p0.heap p1).bind fun a0=>
 (DV p0.slots a0.2.2.2).bind fun a1=>
 bif a1.2 !=0 then
  some (aI.mk (aS.mk [] [] []) [] [],(0,0,0,0,0),a1.2)
 else
  (cB p0.heap).bind fun l2=>
  (cB p0.where_).bind fun l3=>
  (aO l2 (aA .i64 ((Int.ofNat l2.length) -1))).bind fun a4=>
  (jM l2 0 (aA .i64 ((Int.ofNat l2.length) -1))).bind fun _=>
  (aO l3 a0.2.2.2.1).bind fun _=>
  bif decide (p1<(aA .i64 ((Int.ofNat l2.length) -1))) then
   (kL (a1.1.uses,a1.1.used,a1.1.free,(aA .i64 ((Int.ofNat l2.length) -1)).toNat,l2.length,p1,a4.1,a4.2.1,a4.2.2.1,a4.2.2.2.1,a4.2.2.2.2,l2,cA l3 a0.2.2.2.1 (-1))).bind fun a7=>
   some (aI.mk a1.1 (a7.1.take ((aA .i64 ((Int.ofNat l2.length) -1)).toNat)) a7.2,a0,0)
  else
   some (aI.mk a1.1 (l2.take ((aA .i64 ((Int.ofNat l2.length) -1)).toNat)) (cA l3 a0.2.2.2.1 (-1)),a0,0)
def aRa:bK:=⟨aC.cons (aM.agg dD) (aC.one (aM.int .i64)),aM.tup (aC.cons (aM.agg dD) (aC.cons (aM.agg (cI.row lY)) (aC.one (aM.int .i64)))),fun a=>sW a.1 a.2,.frz,false⟩
theorem aII:aK tab 230 aRa:=aK.of aHj (cx:=(pK aG [(274,aQ9),(184,bK.clone lY),(185,bK.clone ki)] [(276,QJ)] [(275,aAj)] [])) rfl (mL.make ⟨aIH,wI,qP,trivial⟩ ⟨IP,trivial⟩ ⟨P4,trivial⟩) (fun a=>by kernel_rfl)
def mW (p0:aI) (p1:Int×Int):Option (aI×(Int×Int×Int×Int×Int)×Int):=
 (qW p0 p1).bind fun a0=>
 bif a0.2 !=0 then
  some (aI.mk (aS.mk [] [] []) [] [],(0,0,0,0,0),a0.2)
 else
  (sW p0 a0.1).bind fun a1=>
  some a1
def aOV:bK:=⟨aC.cons (aM.agg dD) (aC.one (aM.agg (cI.row kB))),aM.tup (aC.cons (aM.agg dD) (aC.cons (aM.agg (cI.row lY)) (aC.one (aM.int .i64)))),fun a=>mW a.1 a.2,.frz,false⟩
theorem YP:aK tab 180 aOV:=Oc aGE rfl aG [(229,aOU),(230,aRa)] ⟨YO,aII,trivial⟩ fun a=>by kernel_rfl
def mC (a:aBX):Option (Nat×Nat×bN):=
 bif (((decide (0<=a.1))&&(decide (a.1<=a.2.1)))&&(decide (a.2.1<=(Int.ofNat a.2.2.length))))&&(decide ((Int.ofNat a.2.2.length)<=(Int.ofNat a.2.2.length))) then
  bif a.1==a.2.1 then
   bif a.2.2.length==a.2.2.length then
    some (a.2.2.length,a.2.2.length,a.2.2)
   else
    none
  else
   (jM a.2.2 0 a.1).bind fun _=>
   bif ((decide (0<=a.2.1))&&(decide (a.2.1<=(Int.ofNat a.2.2.length))))&&(decide ((Int.ofNat a.2.2.length)<=(Int.ofNat a.2.2.length))) then
    bif ((a.2.2.drop (0+a.2.1.toNat)).take (((Int.ofNat a.2.2.length).toNat) -a.2.1.toNat)).isEmpty then
     bif ((decide (0<=(Int.ofNat a.1.toNat)))&&(decide ((Int.ofNat a.1.toNat)<=(Int.ofNat a.2.2.length))))&&(decide ((Int.ofNat a.2.2.length)<=(Int.ofNat a.2.2.length))) then
      bif Nat.beq (((Int.ofNat a.2.2.length).toNat) - ((Int.ofNat a.1.toNat).toNat)) 0 then
       bif a.2.2.length==a.2.2.length then
        some (a.1.toNat,a.2.2.length,a.2.2)
       else
        none
      else
       bif (Nat.ble ((0+((Int.ofNat a.1.toNat).toNat))+(((Int.ofNat a.2.2.length).toNat) - ((Int.ofNat a.1.toNat).toNat))) a.2.2.length)&&(!false) then
        bif ((fY a.2.2 (0+((Int.ofNat a.1.toNat).toNat)) (List.replicate (((Int.ofNat a.2.2.length).toNat) - ((Int.ofNat a.1.toNat).toNat)) (0,0,0))).length)==a.2.2.length then
         some (a.1.toNat,a.2.2.length,fY a.2.2 (0+((Int.ofNat a.1.toNat).toNat)) (List.replicate (((Int.ofNat a.2.2.length).toNat) - ((Int.ofNat a.1.toNat).toNat)) (0,0,0)))
        else
         none
       else
        none
     else
      none
    else
     bif Nat.ble (a.1.toNat+(((a.2.2.drop (0+a.2.1.toNat)).take (((Int.ofNat a.2.2.length).toNat) -a.2.1.toNat)).length)) a.2.2.length then
      bif (Nat.ble (a.1.toNat+(((a.2.2.drop (0+a.2.1.toNat)).take (((Int.ofNat a.2.2.length).toNat) -a.2.1.toNat)).length)) a.2.2.length)&&(!false) then
       bif ((decide (0<=(Int.ofNat (a.1.toNat+(((a.2.2.drop (0+a.2.1.toNat)).take (((Int.ofNat a.2.2.length).toNat) -a.2.1.toNat)).length)))))&&(decide ((Int.ofNat (a.1.toNat+(((a.2.2.drop (0+a.2.1.toNat)).take (((Int.ofNat a.2.2.length).toNat) -a.2.1.toNat)).length)))<=(Int.ofNat a.2.2.length))))&&(decide ((Int.ofNat a.2.2.length)<=(Int.ofNat a.2.2.length))) then
        bif Nat.beq (((Int.ofNat a.2.2.length).toNat) - ((Int.ofNat (a.1.toNat+(((a.2.2.drop (0+a.2.1.toNat)).take (((Int.ofNat a.2.2.length).toNat) -a.2.1.toNat)).length))).toNat)) 0 then
         bif ((fY a.2.2 a.1.toNat ((a.2.2.drop (0+a.2.1.toNat)).take (((Int.ofNat a.2.2.length).toNat) -a.2.1.toNat))).length)==a.2.2.length then
          some (a.1.toNat+(((a.2.2.drop (0+a.2.1.toNat)).take (((Int.ofNat a.2.2.length).toNat) -a.2.1.toNat)).length),a.2.2.length,fY a.2.2 a.1.toNat ((a.2.2.drop (0+a.2.1.toNat)).take (((Int.ofNat a.2.2.length).toNat) -a.2.1.toNat)))
         else
          none
        else
         bif (Nat.ble ((0+((Int.ofNat (a.1.toNat+(((a.2.2.drop (0+a.2.1.toNat)).take (((Int.ofNat a.2.2.length).toNat) -a.2.1.toNat)).length))).toNat))+(((Int.ofNat a.2.2.length).toNat) - ((Int.ofNat (a.1.toNat+(((a.2.2.drop (0+a.2.1.toNat)).take (((Int.ofNat a.2.2.length).toNat) -a.2.1.toNat)).length))).toNat))) ((fY a.2.2 a.1.toNat ((a.2.2.drop (0+a.2.1.toNat)).take (((Int.ofNat a.2.2.length).toNat) -a.2.1.toNat))).length))&&(!false) then
          bif ((fY (fY a.2.2 a.1.toNat ((a.2.2.drop (0+a.2.1.toNat)).take (((Int.ofNat a.2.2.length).toNat) -a.2.1.toNat))) (0+((Int.ofNat (a.1.toNat+(((a.2.2.drop (0+a.2.1.toNat)).take (((Int.ofNat a.2.2.length).toNat) -a.2.1.toNat)).length))).toNat)) (List.replicate (((Int.ofNat a.2.2.length).toNat) - ((Int.ofNat (a.1.toNat+(((a.2.2.drop (0+a.2.1.toNat)).take (((Int.ofNat a.2.2.length).toNat) -a.2.1.toNat)).length))).toNat)) (0,0,0))).length)==a.2.2.length then
           some (a.1.toNat+(((a.2.2.drop (0+a.2.1.toNat)).take (((Int.ofNat a.2.2.length).toNat) -a.2.1.toNat)).length),a.2.2.length,fY (fY a.2.2 a.1.toNat ((a.2.2.drop (0+a.2.1.toNat)).take (((Int.ofNat a.2.2.length).toNat) -a.2.1.toNat))) (0+((Int.ofNat (a.1.toNat+(((a.2.2.drop (0+a.2.1.toNat)).take (((Int.ofNat a.2.2.length).toNat) -a.2.1.toNat)).length))).toNat)) (List.replicate (((Int.ofNat a.2.2.length).toNat) - ((Int.ofNat (a.1.toNat+(((a.2.2.drop (0+a.2.1.toNat)).take (((Int.ofNat a.2.2.length).toNat) -a.2.1.toNat)).length))).toNat)) (0,0,0)))
          else
           none
         else
          none
       else
        none
      else
       none
     else
      none
   else
    none
 else
  none
def aB6:eE:=⟨[.i,.i,.l [.i .i64,.i .i64,.i .i64]],[.own 0 false,.int .i64 0,.int .i64 0],[.arr [.i .i64,.i .i64,.i .i64] []],[.n,.n,.l [.i .i64,.i .i64,.i .i64]],.pre 0 0 0 false,[.arr [.i .i64,.i .i64,.i .i64] []],fun a=>mC a⟩
theorem aAp:lN tab 181 aB6:=lN.of aGF (wd:=true) (cx:=(pK aG [] [] [] [])) (mL.make trivial trivial trivial) (fun a=>by kernel_rfl)
def sB (p0:aQ) (p1:Int):Option (aQ×(Int×Int)×Int):=
 (xS p0.certs p1).bind fun a0=>
 bif a0.2.2 !=0 then
  some (aQ.mk (0,0) (Field.mk []) (aV.mk 0 []) (aI.mk (aS.mk [] [] []) [] []) [],a0.2)
 else
  (nQ p0).bind fun r1=>
  (pW p0.due p1).bind fun a2=>
  bif a2.2 then
   (aO p0.due a2.1).bind fun a3=>
   (mW p0.agenda a3.2).bind fun a4=>
   bif a4.2.2 !=0 then
    some (aQ.mk (0,0) (Field.mk []) (aV.mk 0 []) (aI.mk (aS.mk [] [] []) [] []) [],a0.2.1,a4.2.2)
   else
    (mC (a2.1,aA .i64 (a2.1+1),r1.due)).bind fun a5=>
    some (aQ.mk r1.now r1.field a0.1 a4.1 (a5.2.2.take a5.1),a0.2.1,0)
  else
   some (aQ.mk r1.now r1.field a0.1 r1.agenda r1.due,a0.2.1,0)
def aRb:bK:=⟨aC.cons (aM.agg bU) (aC.one (aM.int .i64)),aM.tup (aC.cons (aM.agg bU) (aC.cons (aM.agg (cI.row kB)) (aC.one (aM.int .i64)))),fun a=>sB a.1 a.2,.frz,false⟩
theorem aIJ:aK tab 124 aRb:=aK.of aF7 (cx:=(pK aG [(178,aQ6),(125,aIE),(125,YL),(179,aOS),(180,aOV)] [(181,aB6)] [] [])) rfl (mL.make ⟨aID,QI,MA,YM,YP,trivial⟩ ⟨aAp,trivial⟩ trivial) (fun a=>by kernel_rfl)
def vK (p0:aQ) (p1:Int):Option (aQ×Int):=
 (gY p0).bind fun n0=>
 bif n0 !=0 then
  some (aQ.mk (0,0) (Field.mk []) (aV.mk 0 []) (aI.mk (aS.mk [] [] []) [] []) [],n0)
 else
  (sB p0 p1).bind fun a1=>
  some (a1.1,a1.2.2)
def aRc:bK:=⟨aC.cons (aM.agg bU) (aC.one (aM.int .i64)),aM.tup (aC.cons (aM.agg bU) (aC.one (aM.int .i64))),fun a=>vK a.1 a.2,.frz,false⟩
theorem aIK:aK tab 212 aRc:=Oc aG2 rfl aG [(109,aAn),(124,aRb)] ⟨GX,aIJ,trivial⟩ fun a=>by kernel_rfl
def jJ (s:aOu):Option aQD:=
 bif decide (s.2.2.2<s.2.2.1) then
  (aO s.1 s.2.2.2).bind fun a0=>
  (aO s.2.1 s.2.2.2).bind fun a1=>
  bif !((a0.1==a1.1)&&((a0.2.1==a1.2.1)&&(a0.2.2==a1.2.2))) then
   some (.done false)
  else
   some (.next (s.1,s.2.1,s.2.2.1,aA .i64 (s.2.2.2+1)))
 else
  some (.done true)
def jF (p0:List (Int×Int×Int)) (p1:List (Int×Int×Int)):Option Bool:=
 bif (Int.ofNat p0.length) !=(Int.ofNat p1.length) then
  some false
 else
  aH jJ (p0,p1,Int.ofNat p0.length,0)
def aRd:bK:=⟨aC.cons (aM.sl dO) (aC.one (aM.sl dO)),aM.bool,fun a=>jF a.1 a.2,.pure,false⟩
theorem aIL:aK tab 213 aRd:=Oc aG3 rfl aG [] trivial fun a=>by kernel_rfl
def bX (a:aHW):Option NG:=
 (aO a.2.2.2.2.2.2.2.2.2.1 a.2.2.2.1).bind fun _=>
 (aO a.2.2.2.2.2.2.2.2.2.2 a.2.2.2.2.2.2.2.1).bind fun _=>
 bif ((cA a.2.2.2.2.2.2.2.2.2.1 a.2.2.2.1 (a.2.2.2.2.1,a.2.2.2.2.2.1,a.2.2.2.2.2.2.1,a.2.2.2.2.2.2.2.1,a.2.2.2.2.2.2.2.2.1)).length)==a.2.2.2.2.2.2.2.2.2.1.length then
  bif ((cA a.2.2.2.2.2.2.2.2.2.2 a.2.2.2.2.2.2.2.1 a.2.2.2.1).length)==a.2.2.2.2.2.2.2.2.2.2.length then
   some (cA a.2.2.2.2.2.2.2.2.2.1 a.2.2.2.1 (a.2.2.2.2.1,a.2.2.2.2.2.1,a.2.2.2.2.2.2.1,a.2.2.2.2.2.2.2.1,a.2.2.2.2.2.2.2.2.1),cA a.2.2.2.2.2.2.2.2.2.2 a.2.2.2.2.2.2.2.1 a.2.2.2.1)
  else
   none
 else
  none
def aB7:eE:=⟨[.l [.i .i64],.l [.b],.l [.i .i64],.i,.i,.i,.i,.i,.i,.l [.i .i64,.i .i64,.i .i64,.i .i64,.i .i64],.l [.i .i64]],[.agg [.sl [.i .i64] [],.sl [.b] [],.sl [.i .i64] [],.own 0 false,.own 1 false],.int .i64 0,.agg [.int .i64 0,.int .i64 0,.int .i64 0,.int .i64 0,.int .i64 0]],[.arr [.i .i64,.i .i64,.i .i64,.i .i64,.i .i64] [],.arr [.i .i64] []],[.l [.i .i64,.i .i64,.i .i64,.i .i64,.i .i64],.l [.i .i64]],.tup [],[.arr [.i .i64,.i .i64,.i .i64,.i .i64,.i .i64] [],.arr [.i .i64] []],fun a=>bX a⟩
theorem aAq:lN tab 300 aB7:=lN.of X9 (wd:=false) (cx:=(pK aG [] [] [] [])) (mL.make trivial trivial trivial) (fun a=>by kernel_rfl)
def gA (c0:aHW) (s:aQm):Option (cL aQm aQg):=
 match s with
 |(a,b,d,e,f,g,h,i,j,k,l,m)=>
  bif decide (b<(Int.ofNat d.length)) then
   bif decide ((aA .i64 (b+1))<(Int.ofNat d.length)) then
    (aO d (aA .i64 (b+1))).bind fun a0=>
    (aO d b).bind fun a1=>
    (cJ a0 a1).bind fun n2=>
    bif decide (n2<0) then
     (aO d (aA .i64 (b+1))).bind fun a3=>
     (cJ a3 (i,j,k,l,m)).bind fun n4=>
     bif decide (0<=n4) then
      (bX (f,g,h,a,i,j,k,l,m,d,e)).bind fun a5=>
      bif a5.1.length==c0.2.2.2.2.2.2.2.2.2.1.length then
       bif a5.2.length==c0.2.2.2.2.2.2.2.2.2.2.length then
        some (.done (.done a5))
       else
        none
      else
       none
     else
      (aO d (aA .i64 (b+1))).bind fun a6=>
      (bX (f,g,h,a,a6.1,a6.2.1,a6.2.2.1,a6.2.2.2.1,a6.2.2.2.2,d,e)).bind fun a7=>
      some (.next (aA .i64 (b+1),aA .i64 ((aA .i64 (2*(aA .i64 (b+1))))+1),a7.1,a7.2,(f,g,h,i,j,k,l,m)))
    else
     (aO d b).bind fun a8=>
     (cJ a8 (i,j,k,l,m)).bind fun n9=>
     bif decide (0<=n9) then
      (bX (f,g,h,a,i,j,k,l,m,d,e)).bind fun a10=>
      bif a10.1.length==c0.2.2.2.2.2.2.2.2.2.1.length then
       bif a10.2.length==c0.2.2.2.2.2.2.2.2.2.2.length then
        some (.done (.done a10))
       else
        none
      else
       none
     else
      (aO d b).bind fun a11=>
      (bX (f,g,h,a,a11.1,a11.2.1,a11.2.2.1,a11.2.2.2.1,a11.2.2.2.2,d,e)).bind fun a12=>
      some (.next (b,aA .i64 ((aA .i64 (2*b))+1),a12.1,a12.2,(f,g,h,i,j,k,l,m)))
   else
    (aO d b).bind fun a13=>
    (cJ a13 (i,j,k,l,m)).bind fun n14=>
    bif decide (0<=n14) then
     (bX (f,g,h,a,i,j,k,l,m,d,e)).bind fun a15=>
     bif a15.1.length==c0.2.2.2.2.2.2.2.2.2.1.length then
      bif a15.2.length==c0.2.2.2.2.2.2.2.2.2.2.length then
       some (.done (.done a15))
      else
       none
     else
      none
    else
     (aO d b).bind fun a16=>
     (bX (f,g,h,a,a16.1,a16.2.1,a16.2.2.1,a16.2.2.2.1,a16.2.2.2.2,d,e)).bind fun a17=>
     some (.next (b,aA .i64 ((aA .i64 (2*b))+1),a17.1,a17.2,(f,g,h,i,j,k,l,m)))
  else
   (bX (f,g,h,a,i,j,k,l,m,d,e)).bind fun a18=>
   bif a18.1.length==c0.2.2.2.2.2.2.2.2.2.1.length then
    bif a18.2.length==c0.2.2.2.2.2.2.2.2.2.2.length then
     some (.done (.done a18))
    else
     none
   else
    none
def eQ (c0:aHW) (s:aQf):Option aQg:=
 bif decide (0<s.1) then
  (aO s.2.1 (aA .i64 (Int.tdiv (aA .i64 (s.1-1)) 2))).bind fun a0=>
  (cJ s.2.2.2.2.2.2 a0).bind fun n1=>
  bif decide (n1<0) then
   (aO s.2.1 (aA .i64 (Int.tdiv (aA .i64 (s.1-1)) 2))).bind fun a2=>
   (bX (s.2.2.2.1,s.2.2.2.2.1,s.2.2.2.2.2.1,s.1,a2.1,a2.2.1,a2.2.2.1,a2.2.2.2.1,a2.2.2.2.2,s.2.1,s.2.2.1)).bind fun a3=>
   some (.next (aA .i64 (Int.tdiv (aA .i64 (s.1-1)) 2),a3.1,a3.2,s.2.2.2))
  else
   aH (gA c0) (s.1,aA .i64 ((aA .i64 (2*s.1))+1),s.2)
 else
  aH (gA c0) (s.1,aA .i64 ((aA .i64 (2*s.1))+1),s.2)
def eX (a:aHW):Option NG:=
 aH (eQ a) (a.2.2.2.1,a.2.2.2.2.2.2.2.2.2.1,a.2.2.2.2.2.2.2.2.2.2,a.1,a.2.1,a.2.2.1,a.2.2.2.2.1,a.2.2.2.2.2.1,a.2.2.2.2.2.2.1,a.2.2.2.2.2.2.2.1,a.2.2.2.2.2.2.2.2.1)
def VU:eE:=⟨[.l [.i .i64],.l [.b],.l [.i .i64],.i,.i,.i,.i,.i,.i,.l [.i .i64,.i .i64,.i .i64,.i .i64,.i .i64],.l [.i .i64]],[.agg [.sl [.i .i64] [],.sl [.b] [],.sl [.i .i64] [],.own 0 false,.own 1 false],.int .i64 0,.agg [.int .i64 0,.int .i64 0,.int .i64 0,.int .i64 0,.int .i64 0]],[.arr [.i .i64,.i .i64,.i .i64,.i .i64,.i .i64] [],.arr [.i .i64] []],[.l [.i .i64,.i .i64,.i .i64,.i .i64,.i .i64],.l [.i .i64]],.tup [],[.arr [.i .i64,.i .i64,.i .i64,.i .i64,.i .i64] [],.arr [.i .i64] []],fun a=>eX a⟩
theorem OK:lN tab 276 VU:=lN.of X6 (wd:=false) (cx:=(pK aG [(219,aIj)] [(300,VT),(300,aB7)] [] [])) (mL.make ⟨QD,trivial⟩ ⟨OJ,aAq,trivial⟩ trivial) (fun a=>by kernel_rfl)
def vL (p0:aI) (p1:Int×Int) (p2:Int×Int):Option (aI×Int):=
 (mB p0).bind fun n0=>
 (gW p2).bind fun n1=>
 bif (if n1>n0 then n1 else n0) !=0 then
  some (aI.mk (aS.mk [] [] []) [] [],if n1>n0 then n1 else n0)
 else
  (qW p0 p1).bind fun a2=>
  bif a2.2 !=0 then
   some (aI.mk (aS.mk [] [] []) [] [],a2.2)
  else
   (cB p0.heap).bind fun l3=>
   (cB p0.where_).bind fun l4=>
   (aO l3 a2.1).bind fun a5=>
   (eX (p0.slots.uses,p0.slots.used,p0.slots.free,a2.1,p2.1,p2.2,a5.2.2.1,a5.2.2.2.1,a5.2.2.2.2,l3,l4)).bind fun a6=>
   some (aI.mk p0.slots a6.1 a6.2,0)
def aRe:bK:=⟨aC.cons (aM.agg dD) (aC.cons (aM.agg (cI.row kB)) (aC.one (aM.agg (cI.row kB)))),aM.tup (aC.cons (aM.agg dD) (aC.one (aM.int .i64))),fun a=>vL a.1 a.2.1 a.2.2,.frz,false⟩
theorem aIM:aK tab 263 aRe:=aK.of aHv (cx:=(pK aG [(168,aB2),(72,c72),(229,aOU),(184,bK.clone lY),(185,bK.clone ki)] [(276,QJ),(276,VU)] [(275,aAj)] [])) rfl (mL.make ⟨KA,FJ,YO,wI,qP,trivial⟩ ⟨IP,OK,trivial⟩ ⟨P4,trivial⟩) (fun a=>by kernel_rfl)
def yQ (p0:Int×Int×Int×Int×Int) (p1:Int):Option Bool:=
 some (p0.2.2.1==p1)
def aRf:bK:=⟨aC.cons (aM.agg (cI.row lY)) (aC.one (aM.ref (cI.int .i64))),aM.bool,fun a=>yQ a.1 a.2,.pure,false⟩
theorem aIN:aK tab 293 aRf:=Oc aHL rfl aG [] trivial fun a=>by kernel_rfl
def cS (s:(kJ×Int×Int×Int)):Option (cL (kJ×Int×Int×Int) Int):=
 bif decide (s.2.2.2<s.2.2.1) then
  (aO s.1 s.2.2.2).bind fun a0=>
  (yQ a0 s.2.1).bind fun b1=>
  bif b1 then
   some (.done s.2.2.2)
  else
   some (.next (s.1,s.2.1,s.2.2.1,aA .i64 (s.2.2.2+1)))
 else
  some (.done (-1))
def eS (p0:List (Int×Int×Int×Int×Int)) (p1:Int):Option Int:=
 aH cS (p0,p1,Int.ofNat p0.length,0)
def S9:bK:=⟨aC.cons (aM.sl lY) (aC.one (aM.clo 293 (aC.one (aM.ref (cI.int .i64))))),aM.int .i64,fun a=>eS a.1 a.2,.pure,false⟩
theorem TA:aK tab 304 S9:=Oc aHS rfl aG [(293,aRf)] ⟨aIN,trivial⟩ fun a=>by kernel_rfl
def cT (p0:List (Int×Int×Int×Int×Int)) (p1:Int):Option Bool:=
 (eS p0 p1).bind fun n0=>
 some (decide (0<=n0))
def TB:bK:=⟨aC.cons (aM.sl lY) (aC.one (aM.clo 293 (aC.one (aM.ref (cI.int .i64))))),aM.bool,fun a=>cT a.1 a.2,.pure,false⟩
theorem TC:aK tab 292 TB:=Oc aHK rfl aG [(304,S9)] ⟨TA,trivial⟩ fun a=>by kernel_rfl
def wO (p0:List Int):Option ((List Int)×Int):=
 (jM p0 0 (aA .i64 ((Int.ofNat p0.length) -1))).bind fun l0=>
 (cB l0).bind fun l1=>
 (aO p0 (aA .i64 ((Int.ofNat p0.length) -1))).bind fun n2=>
 some (l1,n2)
def aRg:bK:=⟨aC.one (aM.sl ki),aM.tup (aC.cons (aM.sl ki) (aC.one (aM.int .i64))),fun a=>wO a,.frz,false⟩
theorem aIO:aK tab 305 aRg:=Oc aHT rfl aG [(306,bK.clone ki)] ⟨ST,trivial⟩ fun a=>by kernel_rfl
def DW (p0:aS):Option (aS×(Int×Int)×Int):=
 (rY p0).bind fun n0=>
 bif n0 !=0 then
  some (aS.mk [] [] [],(0,0),n0)
 else
  bif (Int.ofNat p0.free.length)==0 then
   some (aS.mk [] [] [],(0,0),18)
  else
   (wO p0.free).bind fun a1=>
   (aO p0.uses a1.2).bind fun n2=>
   bif n2==1000000 then
    some (aS.mk [] [] [],(0,0),18)
   else
    (cB p0.uses).bind fun l3=>
    (cB p0.used).bind fun l4=>
    (aO l4 a1.2).bind fun _=>
    (aO l3 a1.2).bind fun n6=>
    (aO l3 a1.2).bind fun _=>
    (aO (cA l3 a1.2 (aA .i64 (n6+1))) a1.2).bind fun n8=>
    some (aS.mk (cA l3 a1.2 (aA .i64 (n6+1))) (cA l4 a1.2 true) a1.1,(a1.2,n8),0)
def aRh:bK:=⟨aC.one (aM.agg gJ),aM.tup (aC.cons (aM.agg gJ) (aC.cons (aM.agg (cI.row kB)) (aC.one (aM.int .i64)))),fun a=>DW a,.frz,false⟩
theorem aIP:aK tab 294 aRh:=aK.of aHM (cx:=(pK aG [(218,aIb),(305,aRg),(185,bK.clone ki),(186,bK.clone kb)] [] [(298,aBN)] [])) rfl (mL.make ⟨QC,aIO,qP,wG,trivial⟩ trivial ⟨X8,trivial⟩) (fun a=>by kernel_rfl)
def lS (p0:aI) (p1:Int×Int) (p2:Int):Option (aI×(Int×Int)×Int):=
 (mB p0).bind fun n0=>
 (gW p1).bind fun n1=>
 bif (if n1>n0 then n1 else n0) !=0 then
  some (aI.mk (aS.mk [] [] []) [] [],(0,0),if n1>n0 then n1 else n0)
 else
  bif decide (p2<0) then
   some (aI.mk (aS.mk [] [] []) [] [],(0,0),2)
  else
   bif decide (1000000<p2) then
    some (aI.mk (aS.mk [] [] []) [] [],(0,0),2)
   else
    (cT p0.heap p2).bind fun b2=>
    bif b2 then
     some (aI.mk (aS.mk [] [] []) [] [],(0,0),14)
    else
     (DW p0.slots).bind fun a3=>
     bif a3.2.2 !=0 then
      some (aI.mk (aS.mk [] [] []) [] [],(0,0),a3.2.2)
     else
      (cB p0.heap).bind fun l4=>
      (cB p0.where_).bind fun l5=>
      (bE l4 [(p1.1,p1.2,p2,a3.2.1)]).bind fun l6=>
      (eX (a3.1.uses,a3.1.used,a3.1.free,aA .i64 ((Int.ofNat l6.length) -1),p1.1,p1.2,p2,a3.2.1.1,a3.2.1.2,l6,l5)).bind fun a7=>
      some (aI.mk a3.1 a7.1 a7.2,a3.2.1,0)
def aOW:bK:=⟨aC.cons (aM.agg dD) (aC.cons (aM.agg (cI.row kB)) (aC.one (aM.int .i64))),aM.tup (aC.cons (aM.agg dD) (aC.cons (aM.agg (cI.row kB)) (aC.one (aM.int .i64)))),fun a=>lS a.1 a.2.1 a.2.2,.frz,false⟩
theorem YQ:aK tab 264 aOW:=aK.of aHw (cx:=(pK aG [(168,aB2),(72,c72),(292,TB),(294,aRh),(184,bK.clone lY),(185,bK.clone ki)] [(276,QJ),(276,VU)] [(275,aAj)] [])) rfl (mL.make ⟨KA,FJ,TC,aIP,wI,qP,trivial⟩ ⟨IP,OK,trivial⟩ ⟨P4,trivial⟩) (fun a=>by kernel_rfl)
def dK (s:Zt3):Option (cL Zt3 Zt7):=
 match s with
 |(a,b,d,e,f,g,h,i,j,k,l,m,n,o,q,r,t,u,v,w,x,y,z,A,B,C,D,E,F)=>
  bif decide (d<b) then
   (aO a d).bind fun a0=>
   (sA (Field.mk q) a0.2 (e,f)).bind fun a1=>
   (pW o a0.1).bind fun a2=>
   bif a1.2.1 then
    bif a2.2 then
     (aO o a2.1).bind fun a3=>
     (vL (aI.mk (aS.mk z A B) C D) a3.2 a1.1).bind fun a4=>
     (aO o a2.1).bind fun a5=>
     (bE F [a5]).bind fun l6=>
     bif a4.2 !=0 then
      some (.done (.done (aQ.mk (0,0) (Field.mk []) (aV.mk 0 []) (aI.mk (aS.mk [] [] []) [] []) [],a4.2)))
     else
      some (.next (a,b,aA .i64 (d+1),e,f,g,h,i,j,k,l,m,n,o,q,r,t,u,v,w,x,y,a4.1.slots.uses,a4.1.slots.used,a4.1.slots.free,a4.1.heap,a4.1.where_,E,l6))
    else
     bif a1.2.1 then
      (lS (aI.mk (aS.mk z A B) C D) a1.1 a0.1).bind fun a7=>
      (bE F [(a0.1,a7.2.1)]).bind fun l8=>
      bif a7.2.2 !=0 then
       some (.done (.done (aQ.mk (0,0) (Field.mk []) (aV.mk 0 []) (aI.mk (aS.mk [] [] []) [] []) [],a7.2.2)))
      else
       some (.next (a,b,aA .i64 (d+1),e,f,g,h,i,j,k,l,m,n,o,q,r,t,u,v,w,x,y,a7.1.slots.uses,a7.1.slots.used,a7.1.slots.free,a7.1.heap,a7.1.where_,E,l8))
     else
      bif a2.2 then
       (aO o a2.1).bind fun a9=>
       (mW (aI.mk (aS.mk z A B) C D) a9.2).bind fun a10=>
       bif a10.2.2 !=0 then
        some (.done (.done (aQ.mk (0,0) (Field.mk []) (aV.mk 0 []) (aI.mk (aS.mk [] [] []) [] []) [],a10.2.2)))
       else
        some (.next (a,b,aA .i64 (d+1),e,f,g,h,i,j,k,l,m,n,o,q,r,t,u,v,w,x,y,a10.1.slots.uses,a10.1.slots.used,a10.1.slots.free,a10.1.heap,a10.1.where_,(E,F)))
      else
       bif a1.2.2 !=0 then
        some (.done (.done (aQ.mk (0,0) (Field.mk []) (aV.mk 0 []) (aI.mk (aS.mk [] [] []) [] []) [],a1.2.2)))
       else
        some (.next (a,b,aA .i64 (d+1),(e,f,g,h,i,j,k,l,m,n,o,q,r,t,u,v,w,x,y,z,A,B,C,D,E,F)))
   else
    bif a1.2.1 then
     (lS (aI.mk (aS.mk z A B) C D) a1.1 a0.1).bind fun a11=>
     (bE F [(a0.1,a11.2.1)]).bind fun l12=>
     bif a11.2.2 !=0 then
      some (.done (.done (aQ.mk (0,0) (Field.mk []) (aV.mk 0 []) (aI.mk (aS.mk [] [] []) [] []) [],a11.2.2)))
     else
      some (.next (a,b,aA .i64 (d+1),e,f,g,h,i,j,k,l,m,n,o,q,r,t,u,v,w,x,y,a11.1.slots.uses,a11.1.slots.used,a11.1.slots.free,a11.1.heap,a11.1.where_,E,l12))
    else
     bif a2.2 then
      (aO o a2.1).bind fun a13=>
      (mW (aI.mk (aS.mk z A B) C D) a13.2).bind fun a14=>
      bif a14.2.2 !=0 then
       some (.done (.done (aQ.mk (0,0) (Field.mk []) (aV.mk 0 []) (aI.mk (aS.mk [] [] []) [] []) [],a14.2.2)))
      else
       some (.next (a,b,aA .i64 (d+1),e,f,g,h,i,j,k,l,m,n,o,q,r,t,u,v,w,x,y,a14.1.slots.uses,a14.1.slots.used,a14.1.slots.free,a14.1.heap,a14.1.where_,(E,F)))
     else
      bif a1.2.2 !=0 then
       some (.done (.done (aQ.mk (0,0) (Field.mk []) (aV.mk 0 []) (aI.mk (aS.mk [] [] []) [] []) [],a1.2.2)))
      else
       some (.next (a,b,aA .i64 (d+1),(e,f,g,h,i,j,k,l,m,n,o,q,r,t,u,v,w,x,y,z,A,B,C,D,E,F)))
  else
   some (.done (.done (aQ.mk (v,w) (Field.mk E) (aV.mk x y) (aI.mk (aS.mk z A B) C D) F,0)))
def lA (s:aP6):Option Zt7:=
 bif decide (s.2.2.1<s.2.1) then
  (aO s.1 s.2.2.1).bind fun a0=>
  (jX (Field.mk s.2.2.2.2.2.2.2.2.2.2.2.2.2.2.1) a0.2.1).bind fun a1=>
  bif decide (a1.1<0) then
   some (.done (aQ.mk (0,0) (Field.mk []) (aV.mk 0 []) (aI.mk (aS.mk [] [] []) [] []) [],6))
  else
   (jX (Field.mk s.2.2.2.2.2.2.2.2.2.2.2.2.2.2.1) a0.2.2).bind fun a2=>
   bif decide (a2.1<0) then
    some (.done (aQ.mk (0,0) (Field.mk []) (aV.mk 0 []) (aI.mk (aS.mk [] [] []) [] []) [],6))
   else
    some (.next (s.1,s.2.1,aA .i64 (s.2.2.1+1),s.2.2.2))
 else
  (nQ (aQ.mk (s.2.2.2.1,s.2.2.2.2.1) (Field.mk s.2.2.2.2.2.1) (aV.mk s.2.2.2.2.2.2.1 s.2.2.2.2.2.2.2.1) (aI.mk (aS.mk s.2.2.2.2.2.2.2.2.1 s.2.2.2.2.2.2.2.2.2.1 s.2.2.2.2.2.2.2.2.2.2.1) s.2.2.2.2.2.2.2.2.2.2.2.1 s.2.2.2.2.2.2.2.2.2.2.2.2.1) s.2.2.2.2.2.2.2.2.2.2.2.2.2.1)).bind fun r3=>
  (cB s.2.2.2.2.2.2.2.2.2.2.2.2.2.2.1).bind fun l4=>
  aH dK (s.2.2.2.2.2.2.2.1,Int.ofNat s.2.2.2.2.2.2.2.1.length,0,s.2.2.2.1,s.2.2.2.2.1,s.2.2.2.2.2.1,s.2.2.2.2.2.2.1,s.2.2.2.2.2.2.2.1,s.2.2.2.2.2.2.2.2.1,s.2.2.2.2.2.2.2.2.2.1,s.2.2.2.2.2.2.2.2.2.2.1,s.2.2.2.2.2.2.2.2.2.2.2.1,s.2.2.2.2.2.2.2.2.2.2.2.2.1,s.2.2.2.2.2.2.2.2.2.2.2.2.2.1,s.2.2.2.2.2.2.2.2.2.2.2.2.2.2.1,s.2.2.2.2.2.2.2.2.2.2.2.2.2.2.2.1,s.2.2.2.2.2.2.2.2.2.2.2.2.2.2.2.2.1,s.2.2.2.2.2.2.2.2.2.2.2.2.2.2.2.2.2,r3.now.1,r3.now.2,r3.certs.next_,r3.certs.list,r3.agenda.slots.uses,r3.agenda.slots.used,r3.agenda.slots.free,r3.agenda.heap,r3.agenda.where_,l4,[])
def pX (p0:aQ) (p1:Field):Option (aQ×Int):=
 (gY p0).bind fun n0=>
 bif n0 !=0 then
  some (aQ.mk (0,0) (Field.mk []) (aV.mk 0 []) (aI.mk (aS.mk [] [] []) [] []) [],n0)
 else
  (dE p1).bind fun n1=>
  bif n1 !=0 then
   some (aQ.mk (0,0) (Field.mk []) (aV.mk 0 []) (aI.mk (aS.mk [] [] []) [] []) [],n1)
  else
   aH lA (p0.certs.list,Int.ofNat p0.certs.list.length,0,p0.now.1,p0.now.2,p0.field.points,p0.certs.next_,p0.certs.list,p0.agenda.slots.uses,p0.agenda.slots.used,p0.agenda.slots.free,p0.agenda.heap,p0.agenda.where_,p0.due,p1.points,0,0,0)
def aRi:bK:=⟨aC.cons (aM.agg bU) (aC.one (aM.agg bT)),aM.tup (aC.cons (aM.agg bU) (aC.one (aM.int .i64))),fun a=>pX a.1 a.2,.frz,false⟩
theorem aIQ:aK tab 214 aRi:=Oc aG4 rfl aG [(109,aAn),(99,c99),(221,aIl),(125,aIE),(125,YL),(103,bK.clone dO),(169,aIs),(179,aOS),(263,aRe),(264,aOW),(180,aOV)] ⟨GX,FK,QE,QI,MA,wH,QG,YM,aIM,YQ,YP,trivial⟩ fun a=>by kernel_rfl
def EO (p0:Int×Int×Int) (p1:Int×Int):Option Bool:=
 some ((p0.2.1==p1.1)&&(p0.2.2==p1.2))
def aRj:bK:=⟨aC.cons (aM.agg (cI.row dO)) (aC.one (aM.ref (cI.row kB))),aM.bool,fun a=>EO a.1 a.2,.pure,false⟩
theorem aIR:aK tab 215 aRj:=Oc aG5 rfl aG [] trivial fun a=>by kernel_rfl
def nF (s:P7):Option (cL P7 Int):=
 bif decide (s.2.2.2.2<s.2.2.2.1) then
  (aO s.1 s.2.2.2.2).bind fun a0=>
  (EO a0 (s.2.1,s.2.2.1)).bind fun b1=>
  bif b1 then
   some (.done s.2.2.2.2)
  else
   some (.next (s.1,s.2.1,s.2.2.1,s.2.2.2.1,aA .i64 (s.2.2.2.2+1)))
 else
  some (.done (-1))
def iJ (p0:List (Int×Int×Int)) (p1:(Int×Int)):Option Int:=
 aH nF (p0,p1.1,p1.2,Int.ofNat p0.length,0)
def TD:bK:=⟨aC.cons (aM.sl dO) (aC.one (aM.clo 215 (aC.one (aM.ref (cI.row kB))))),aM.int .i64,fun a=>iJ a.1 a.2,.pure,false⟩
theorem TE:aK tab 222 TD:=Oc P3 rfl aG [(215,aRj)] ⟨aIR,trivial⟩ fun a=>by kernel_rfl
def eD (p0:List (Int×Int×Int)) (p1:(Int×Int)):Option Bool:=
 (iJ p0 p1).bind fun n0=>
 some (decide (0<=n0))
def TF:bK:=⟨aC.cons (aM.sl dO) (aC.one (aM.clo 215 (aC.one (aM.ref (cI.row kB))))),aM.bool,fun a=>eD a.1 a.2,.pure,false⟩
theorem TG:aK tab 171 TF:=Oc P2 rfl aG [(222,TD)] ⟨TE,trivial⟩ fun a=>by kernel_rfl
def dH (p0:Int):Option (aQ×Int×Int):=
 some (aQ.mk (0,0) (Field.mk []) (aV.mk 0 []) (aI.mk (aS.mk [] [] []) [] []) [],0,p0)
def aRk:bK:=⟨aC.one (aM.int .i64),aM.tup (aC.cons (aM.agg bU) (aC.cons (aM.int .i64) (aC.one (aM.int .i64)))),fun a=>dH a,.frz,false⟩
theorem aIS:aK tab 265 aRk:=Oc aHx rfl aG [] trivial fun a=>by kernel_rfl
def FL (p0:Int×Int×Int) (p1:Int×Int):Option Bool:=
 some ((p0.2.1==p1.1)&&(p0.2.2==p1.2))
def aRl:bK:=⟨aC.cons (aM.agg (cI.row dO)) (aC.one (aM.ref (cI.row kB))),aM.bool,fun a=>FL a.1 a.2,.pure,false⟩
theorem aIT:aK tab 295 aRl:=Oc aHN rfl aG [] trivial fun a=>by kernel_rfl
def dG (s:P7):Option (cL P7 Int):=
 bif decide (s.2.2.2.2<s.2.2.2.1) then
  (aO s.1 s.2.2.2.2).bind fun a0=>
  (FL a0 (s.2.1,s.2.2.1)).bind fun b1=>
  bif b1 then
   some (.done s.2.2.2.2)
  else
   some (.next (s.1,s.2.1,s.2.2.1,s.2.2.2.1,aA .i64 (s.2.2.2.2+1)))
 else
  some (.done (-1))
def fS (p0:List (Int×Int×Int)) (p1:(Int×Int)):Option Int:=
 aH dG (p0,p1.1,p1.2,Int.ofNat p0.length,0)
def TH:bK:=⟨aC.cons (aM.sl dO) (aC.one (aM.clo 295 (aC.one (aM.ref (cI.row kB))))),aM.int .i64,fun a=>fS a.1 a.2,.pure,false⟩
theorem TI:aK tab 222 TH:=Oc P3 rfl aG [(295,aRl)] ⟨aIT,trivial⟩ fun a=>by kernel_rfl
def cK (p0:List (Int×Int×Int)) (p1:(Int×Int)):Option Bool:=
 (fS p0 p1).bind fun n0=>
 some (decide (0<=n0))
def TJ:bK:=⟨aC.cons (aM.sl dO) (aC.one (aM.clo 295 (aC.one (aM.ref (cI.row kB))))),aM.bool,fun a=>cK a.1 a.2,.pure,false⟩
theorem TK:aK tab 171 TJ:=Oc P2 rfl aG [(222,TH)] ⟨TI,trivial⟩ fun a=>by kernel_rfl
def GY (p0:aV) (p1:Int×Int):Option (aV×Int×Int):=
 (rX p0).bind fun n0=>
 bif n0 !=0 then
  some (aV.mk 0 [],0,n0)
 else
  (wK p1).bind fun b1=>
  bif !b1 then
   some (aV.mk 0 [],0,8)
  else
   (cK p0.list p1).bind fun b2=>
   bif b2 then
    some (aV.mk 0 [],0,14)
   else
    bif (Int.ofNat p0.list.length)==200 then
     some (aV.mk 0 [],0,18)
    else
     bif p0.next_==1000000 then
      some (aV.mk 0 [],0,18)
     else
      (cB p0.list).bind fun l3=>
      (bE l3 [(p0.next_,p1)]).bind fun l4=>
      some (aV.mk (aA .i64 (p0.next_+1)) l4,p0.next_,0)
def aRm:bK:=⟨aC.cons (aM.agg gR) (aC.one (aM.agg (cI.row kB))),aM.tup (aC.cons (aM.agg gR) (aC.cons (aM.int .i64) (aC.one (aM.int .i64)))),fun a=>GY a.1 a.2,.frz,false⟩
theorem aIU:aK tab 266 aRm:=Oc aHy rfl aG [(167,aH8),(217,aOE),(171,TJ),(182,bK.clone dO)] ⟨QB,YD,TK,zP,trivial⟩ fun a=>by kernel_rfl
def iT (p0:aQ) (p1:Int×Int):Option (aQ×Int×Int):=
 (gY p0).bind fun n0=>
 bif n0 !=0 then
  (dH n0).bind fun a1=>
  some a1
 else
  (GY p0.certs p1).bind fun a2=>
  bif a2.2.2==8 then
   (dH a2.2.2).bind fun a3=>
   some a3
  else
   (jX p0.field p1.1).bind fun a4=>
   bif decide (a4.1<0) then
    (dH 6).bind fun a5=>
    some a5
   else
    (jX p0.field p1.2).bind fun a6=>
    bif decide (a6.1<0) then
     (dH 6).bind fun a7=>
     some a7
    else
     bif a2.2.2 !=0 then
      (dH a2.2.2).bind fun a8=>
      some a8
     else
      (nQ p0).bind fun r9=>
      (sA p0.field p1 p0.now).bind fun a10=>
      bif a10.2.2 !=0 then
       (dH a10.2.2).bind fun a11=>
       some a11
      else
       bif a10.2.1 then
        (lS p0.agenda a10.1 a2.2.1).bind fun a12=>
        bif a12.2.2 !=0 then
         (dH a12.2.2).bind fun a13=>
         some a13
        else
         (bE r9.due [(a2.2.1,a12.2.1)]).bind fun l14=>
         some (aQ.mk r9.now r9.field a2.1 a12.1 l14,a2.2.1,0)
       else
        some (aQ.mk r9.now r9.field a2.1 r9.agenda r9.due,a2.2.1,0)
def aRn:bK:=⟨aC.cons (aM.agg bU) (aC.one (aM.agg (cI.row kB))),aM.tup (aC.cons (aM.agg bU) (aC.cons (aM.int .i64) (aC.one (aM.int .i64)))),fun a=>iT a.1 a.2,.frz,false⟩
theorem aIV:aK tab 216 aRn:=Oc aG6 rfl aG [(109,aAn),(265,aRk),(266,aRm),(221,aIl),(125,aIE),(125,YL),(169,aIs),(264,aOW)] ⟨GX,aIS,aIU,QE,QI,MA,QG,YQ,trivial⟩ fun a=>by kernel_rfl
def fD (s:Zt9):Option (cL Zt9 Zt6):=
 bif decide (s.2.2.1<s.2.1) then
  (aO s.1 s.2.2.1).bind fun a0=>
  (eD s.2.2.2.2.2.2.2.1 a0).bind fun b1=>
  bif b1 then
   some (.next (s.1,s.2.1,aA .i64 (s.2.2.1+1),s.2.2.2))
  else
   (iT (aQ.mk (s.2.2.2.1,s.2.2.2.2.1) (Field.mk s.2.2.2.2.2.1) (aV.mk s.2.2.2.2.2.2.1 s.2.2.2.2.2.2.2.1) (aI.mk (aS.mk s.2.2.2.2.2.2.2.2.1 s.2.2.2.2.2.2.2.2.2.1 s.2.2.2.2.2.2.2.2.2.2.1) s.2.2.2.2.2.2.2.2.2.2.2.1 s.2.2.2.2.2.2.2.2.2.2.2.2.1) s.2.2.2.2.2.2.2.2.2.2.2.2.2.1) a0).bind fun a2=>
   bif a2.2.2 !=0 then
    some (.done (.done (aQ.mk (0,0) (Field.mk []) (aV.mk 0 []) (aI.mk (aS.mk [] [] []) [] []) [],a2.2.2)))
   else
    some (.next (s.1,s.2.1,aA .i64 (s.2.2.1+1),a2.1.now.1,a2.1.now.2,a2.1.field.points,a2.1.certs.next_,a2.1.certs.list,a2.1.agenda.slots.uses,a2.1.agenda.slots.used,a2.1.agenda.slots.free,a2.1.agenda.heap,a2.1.agenda.where_,a2.1.due,s.2.2.2.2.2.2.2.2.2.2.2.2.2.2))
 else
  some (.done (.done (aQ.mk (s.2.2.2.1,s.2.2.2.2.1) (Field.mk s.2.2.2.2.2.1) (aV.mk s.2.2.2.2.2.2.1 s.2.2.2.2.2.2.2.1) (aI.mk (aS.mk s.2.2.2.2.2.2.2.2.1 s.2.2.2.2.2.2.2.2.2.1 s.2.2.2.2.2.2.2.2.2.2.1) s.2.2.2.2.2.2.2.2.2.2.2.1 s.2.2.2.2.2.2.2.2.2.2.2.2.1) s.2.2.2.2.2.2.2.2.2.2.2.2.2.1,0)))
def eH (s:aP5):Option Zt6:=
 match s with
 |(a,b,d,e,f,g,h,i,j,k,l,m,n,o,q,r,t,u,v)=>
  bif decide (e<d) then
   (aO b e).bind fun a0=>
   (fL a a0.2).bind fun b1=>
   bif !b1 then
    (vK (aQ.mk (f,g) (Field.mk h) (aV.mk i j) (aI.mk (aS.mk k l m) n o) q) a0.1).bind fun a2=>
    some (.next (a,b,d,aA .i64 (e+1),a2.1.now.1,a2.1.now.2,a2.1.field.points,a2.1.certs.next_,a2.1.certs.list,a2.1.agenda.slots.uses,a2.1.agenda.slots.used,a2.1.agenda.slots.free,a2.1.agenda.heap,a2.1.agenda.where_,a2.1.due,(r,t,u,v)))
   else
    some (.next (a,b,d,aA .i64 (e+1),(f,g,h,i,j,k,l,m,n,o,q,r,t,u,v)))
  else
   (jF h r).bind fun b3=>
   bif !b3 then
    (pX (aQ.mk (f,g) (Field.mk h) (aV.mk i j) (aI.mk (aS.mk k l m) n o) q) (Field.mk r)).bind fun a4=>
    bif a4.2 !=0 then
     some (.done (aQ.mk (0,0) (Field.mk []) (aV.mk 0 []) (aI.mk (aS.mk [] [] []) [] []) [],a4.2))
    else
     aH fD (a,Int.ofNat a.length,0,a4.1.now.1,a4.1.now.2,a4.1.field.points,a4.1.certs.next_,a4.1.certs.list,a4.1.agenda.slots.uses,a4.1.agenda.slots.used,a4.1.agenda.slots.free,a4.1.agenda.heap,a4.1.agenda.where_,a4.1.due,(t,u,v))
   else
    aH fD (a,Int.ofNat a.length,0,f,g,h,i,j,k,l,m,n,o,q,(t,u,v))
def uG (p0:aQ) (p1:Field) (p2:List (Int×Int)):Option (aQ×Int):=
 aH eH (p2,p0.certs.list,Int.ofNat p0.certs.list.length,0,p0.now.1,p0.now.2,p0.field.points,p0.certs.next_,p0.certs.list,p0.agenda.slots.uses,p0.agenda.slots.used,p0.agenda.slots.free,p0.agenda.heap,p0.agenda.where_,p0.due,p1.points,0,0,0)
def aRo:bK:=⟨aC.cons (aM.agg bU) (aC.cons (aM.agg bT) (aC.one (aM.sl kB))),aM.tup (aC.cons (aM.agg bU) (aC.one (aM.int .i64))),fun a=>uG a.1 a.2.1 a.2.2,.frz,false⟩
theorem aIW:aK tab 165 aRo:=Oc aGt rfl aG [(163,aIv),(212,aRc),(213,aRd),(214,aRi),(171,TF),(216,aRn)] ⟨QH,aIK,aIL,aIQ,TG,aIV,trivial⟩ fun a=>by kernel_rfl
def fE (s:aAl):Option (cL aAl Zt1):=
 bif decide (s.2.2.2.1<s.2.2.1) then
  (aO s.2.1 s.2.2.2.1).bind fun a0=>
  (wM (Field.mk s.2.2.2.2.2.2.2.2.2.2.2.2.2.2.2.1) a0.1).bind fun a1=>
  (wM (Field.mk s.2.2.2.2.2.2.2.2.2.2.2.2.2.2.2.1) a0.2).bind fun a2=>
  bif a1.2 !=0 then
   some (.done (.done (.done (aQ.mk (0,0) (Field.mk []) (aV.mk 0 []) (aI.mk (aS.mk [] [] []) [] []) [],6))))
  else
   bif a2.2 !=0 then
    some (.done (.done (.done (aQ.mk (0,0) (Field.mk []) (aV.mk 0 []) (aI.mk (aS.mk [] [] []) [] []) [],6))))
   else
    some (.next (s.1,s.2.1,s.2.2.1,aA .i64 (s.2.2.2.1+1),s.2.2.2.2))
 else
  (wN (aQ.mk (s.2.2.2.2.1,s.2.2.2.2.2.1) (Field.mk s.2.2.2.2.2.2.1) (aV.mk s.2.2.2.2.2.2.2.1 s.2.2.2.2.2.2.2.2.1) (aI.mk (aS.mk s.2.2.2.2.2.2.2.2.2.1 s.2.2.2.2.2.2.2.2.2.2.1 s.2.2.2.2.2.2.2.2.2.2.2.1) s.2.2.2.2.2.2.2.2.2.2.2.2.1 s.2.2.2.2.2.2.2.2.2.2.2.2.2.1) s.2.2.2.2.2.2.2.2.2.2.2.2.2.2.1)).bind fun r3=>
  (uG r3 (Field.mk s.2.2.2.2.2.2.2.2.2.2.2.2.2.2.2.1) s.1).bind fun a4=>
  some (.done (.done (.done a4)))
def eJ (s:aAl):Option Zt1:=
 bif decide (s.2.2.2.1<s.2.2.1) then
  (aO s.2.1 s.2.2.2.1).bind fun a0=>
  (jM s.1 0 s.2.2.2.1).bind fun l1=>
  (fL l1 a0).bind fun b2=>
  bif b2 then
   some (.done (.done (aQ.mk (0,0) (Field.mk []) (aV.mk 0 []) (aI.mk (aS.mk [] [] []) [] []) [],14)))
  else
   some (.next (s.1,s.2.1,s.2.2.1,aA .i64 (s.2.2.2.1+1),s.2.2.2.2))
 else
  aH fE (s.1,s.1,Int.ofNat s.1.length,0,s.2.2.2.2)
def eK (s:aAl):Option aP4:=
 bif decide (s.2.2.2.1<s.2.2.1) then
  (aO s.2.1 s.2.2.2.1).bind fun a0=>
  bif decide (a0.1<0) then
   some (.done (aQ.mk (0,0) (Field.mk []) (aV.mk 0 []) (aI.mk (aS.mk [] [] []) [] []) [],8))
  else
   bif decide (a0.2<0) then
    some (.done (aQ.mk (0,0) (Field.mk []) (aV.mk 0 []) (aI.mk (aS.mk [] [] []) [] []) [],8))
   else
    bif decide (65535<a0.1) then
     some (.done (aQ.mk (0,0) (Field.mk []) (aV.mk 0 []) (aI.mk (aS.mk [] [] []) [] []) [],8))
    else
     bif decide (65535<a0.2) then
      some (.done (aQ.mk (0,0) (Field.mk []) (aV.mk 0 []) (aI.mk (aS.mk [] [] []) [] []) [],8))
     else
      bif a0.1==a0.2 then
       some (.done (aQ.mk (0,0) (Field.mk []) (aV.mk 0 []) (aI.mk (aS.mk [] [] []) [] []) [],8))
      else
       some (.next (s.1,s.2.1,s.2.2.1,aA .i64 (s.2.2.2.1+1),s.2.2.2.2))
 else
  aH eJ (s.1,s.1,Int.ofNat s.1.length,0,s.2.2.2.2)
def iU (p0:aQ) (p1:Field) (p2:List (Int×Int)):Option (aQ×Int):=
 (gY p0).bind fun n0=>
 bif n0 !=0 then
  some (aQ.mk (0,0) (Field.mk []) (aV.mk 0 []) (aI.mk (aS.mk [] [] []) [] []) [],n0)
 else
  (dE p1).bind fun n1=>
  bif n1 !=0 then
   some (aQ.mk (0,0) (Field.mk []) (aV.mk 0 []) (aI.mk (aS.mk [] [] []) [] []) [],n1)
  else
   aH eK (p2,p2,Int.ofNat p2.length,0,p0.now.1,p0.now.2,p0.field.points,p0.certs.next_,p0.certs.list,p0.agenda.slots.uses,p0.agenda.slots.used,p0.agenda.slots.free,p0.agenda.heap,p0.agenda.where_,p0.due,p1.points,0,0,0)
def aOX:bK:=⟨aC.cons (aM.agg bU) (aC.cons (aM.agg bT) (aC.one (aM.sl kB))),aM.tup (aC.cons (aM.agg bU) (aC.one (aM.int .i64))),fun a=>iU a.1 a.2.1 a.2.2,.frz,false⟩
theorem YR:aK tab 108 aOX:=Oc aFV rfl aG [(109,aAn),(99,c99),(163,aIv),(164,aQ2),(166,aQ3),(166,aKk),(165,aRo)] ⟨GX,FK,QH,aIz,aIA,aB4,aIW,trivial⟩ fun a=>by kernel_rfl
def eL (p0:bO) (p1:(Int×Int×Int)):Option (bO×Int):=
 (qV p0).bind fun n0=>
 bif n0 !=0 then
  some (bO.mk (aQ.mk (0,0) (Field.mk []) (aV.mk 0 []) (aI.mk (aS.mk [] [] []) [] []) []) (mM.mk 0 []),n0)
 else
  (xR p0.clock.field p1).bind fun a1=>
  bif a1.2 !=0 then
   some (bO.mk (aQ.mk (0,0) (Field.mk []) (aV.mk 0 []) (aI.mk (aS.mk [] [] []) [] []) []) (mM.mk 0 []),a1.2)
  else
   (oI a1.1 p0.clock.now).bind fun a2=>
   (jZ a2.1).bind fun l3=>
   (iU p0.clock a1.1 l3).bind fun a4=>
   bif a4.2 !=0 then
    some (bO.mk (aQ.mk (0,0) (Field.mk []) (aV.mk 0 []) (aI.mk (aS.mk [] [] []) [] []) []) (mM.mk 0 []),a4.2)
   else
    some (bO.mk a4.1 a2.1,0)
def aB8:bK:=⟨aC.cons (aM.agg dS) (aC.one (aM.clo 92 (aC.one (aM.ref (cI.row dO))))),aM.tup (aC.cons (aM.agg dS) (aC.one (aM.int .i64))),fun a=>eL a.1 a.2,.frz,false⟩
theorem aAr:aK tab 91 aB8:=Oc aBT rfl aG [(57,c57),(92,c92),(29,c29),(150,aOQ),(108,aOX)] ⟨aB3,aOP,VS,YJ,YR,trivial⟩ fun a=>by kernel_rfl
def vS (p0:bO) (p1:Int×Int×Int):Option (bO×Int):=
 (eL p0 p1).bind fun a0=>
 some a0
def c38:bK:=⟨aC.cons (aM.agg dS) (aC.one (aM.agg (cI.row dO))),aM.tup (aC.cons (aM.agg dS) (aC.one (aM.int .i64))),fun a=>vS a.1 a.2,.frz,false⟩
theorem aOY:aK tab 38 c38:=Oc aNP rfl aG [(91,aB8)] ⟨aAr,trivial⟩ fun a=>by kernel_rfl
def iH (p0:Int):Option Int:=
 bif decide (p0<0) then
  some (aA .u64 ((aA .u64 (aA .i64 (0- (aA .i64 (p0+1)))))+1))
 else
  some (aA .u64 p0)
def c54:bK:=⟨aC.one (aM.int .i64),aM.int .u64,fun a=>iH a,.pure,false⟩
theorem VV:aK tab 54 c54:=Oc aNY rfl aG [] trivial fun a=>by kernel_rfl
def pD (s:(Int×Int)):Option (cL (Int×Int) Int):=
 bif s.2 !=0 then
  bif s.2==0 then
   none
  else
   some (.next (s.2,Int.tmod s.1 s.2))
 else
  some (.done s.1)
def qX (p0:Int) (p1:Int):Option Int:=
 aH pD (p0,p1)
def c53:bK:=⟨aC.cons (aM.int .u64) (aC.one (aM.int .u64)),aM.int .u64,fun a=>qX a.1 a.2,.pure,false⟩
theorem aB9:aK tab 53 c53:=Oc aNX rfl aG [] trivial fun a=>by kernel_rfl
def uH (p0:Int×Int):Option Int:=
 bif decide (p0.2<1) then
  some 8
 else
  bif p0.1==(-9223372036854775808) then
   some 8
  else
   (iH p0.1).bind fun n0=>
   (qX n0 (aA .u64 p0.2)).bind fun n1=>
   bif n1 !=1 then
    some 8
   else
    some 0
def c13:bK:=⟨aC.one (aM.agg (cI.row kB)),aM.int .i64,fun a=>uH a,.pure,false⟩
theorem aCa:aK tab 13 c13:=Oc aNG rfl aG [(54,c54),(53,c53)] ⟨VV,aB9,trivial⟩ fun a=>by kernel_rfl
def pY (p0:Int×Int×Int):Option Int:=
 bif decide (p0.1<0) then
  some 8
 else
  bif decide (65535<p0.1) then
   some 8
  else
   bif decide (p0.2.1<(-1048576)) then
    some 8
   else
    bif decide (1048576<p0.2.1) then
     some 8
    else
     bif decide (p0.2.2<(-1048576)) then
      some 8
     else
      bif decide (1048576<p0.2.2) then
       some 8
      else
       some 0
def c52:bK:=⟨aC.one (aM.agg (cI.row dO)),aM.int .i64,fun a=>pY a,.pure,false⟩
theorem VW:aK tab 52 c52:=Oc aNW rfl aG [] trivial fun a=>by kernel_rfl
def jG (s:P8):Option (cL P8 (cL P8 Int)):=
 bif decide (s.1<(Int.ofNat s.2.length)) then
  (aO s.2 (aA .i64 (s.1-1))).bind fun a0=>
  (aO s.2 s.1).bind fun a1=>
  bif decide (a1.1<=a0.1) then
   some (.done (.done 32))
  else
   some (.next (aA .i64 (s.1+1),s.2))
 else
  some (.done (.done 0))
def nR (s:P8):Option (cL P8 Int):=
 bif decide (s.1<(Int.ofNat s.2.length)) then
  (aO s.2 s.1).bind fun a0=>
  (pY a0).bind fun n1=>
  bif n1 !=0 then
   some (.done 8)
  else
   some (.next (aA .i64 (s.1+1),s.2))
 else
  aH jG (1,s.2)
def lT (p0:Field):Option Int:=
 bif decide (64<(Int.ofNat p0.points.length)) then
  some 4
 else
  aH nR (0,p0.points)
def c12:bK:=⟨aC.one (aM.agg bT),aM.int .i64,fun a=>lT a,.pure,false⟩
theorem VX:aK tab 12 c12:=Oc aNF rfl aG [(52,c52)] ⟨VW,trivial⟩ fun a=>by kernel_rfl
def wP (p0:Int×Int):Option Bool:=
 bif decide (0<=p0.1) then
  bif decide (p0.1<=65535) then
   bif decide (0<=p0.2) then
    bif decide (p0.2<=65535) then
     some (p0.1 !=p0.2)
    else
     some false
   else
    some false
  else
   some false
 else
  some false
def c66:bK:=⟨aC.one (aM.agg (cI.row kB)),aM.bool,fun a=>wP a,.pure,false⟩
theorem aCb:aK tab 66 c66:=Oc aN1 rfl aG [] trivial fun a=>by kernel_rfl
def gB (s:(Int×Int×Int×bN×Int×Int×Int)):Option (cL (Int×Int×Int×bN×Int×Int×Int) aOv):=
 bif decide (s.2.1<s.1) then
  (aO s.2.2.2.1 s.2.1).bind fun a0=>
  bif (a0.2.1==s.2.2.2.2.2.1)&&(a0.2.2==s.2.2.2.2.2.2) then
   some (.done (.done 8))
  else
   some (.next (s.1,aA .i64 (s.2.1+1),s.2.2))
 else
  some (.done (.next (aA .i64 (s.1+1),s.2.2.1,s.2.2.2.1)))
def qY (s:aBX):Option aOv:=
 bif decide (s.1<(Int.ofNat s.2.2.length)) then
  (aO s.2.2 s.1).bind fun a0=>
  (wP a0.2).bind fun b1=>
  bif !b1 then
   some (.done 8)
  else
   bif decide (a0.1<0) then
    some (.done 8)
   else
    bif decide (s.2.1<=a0.1) then
     some (.done 8)
    else
     bif decide (0<s.1) then
      (aO s.2.2 (aA .i64 (s.1-1))).bind fun a2=>
      bif decide (a0.1<=a2.1) then
       some (.done 8)
      else
       aH gB (s.1,0,s.2.1,s.2.2,a0)
     else
      aH gB (s.1,0,s.2.1,s.2.2,a0)
 else
  some (.done 0)
def uI (p0:aV):Option Int:=
 bif decide (200<(Int.ofNat p0.list.length)) then
  some 8
 else
  bif decide (p0.next_<0) then
   some 8
  else
   bif decide (1000000<p0.next_) then
    some 8
   else
    aH qY (0,p0.next_,p0.list)
def aOZ:bK:=⟨aC.one (aM.agg gR),aM.int .i64,fun a=>uI a,.pure,false⟩
theorem YS:aK tab 128 aOZ:=Oc aF8 rfl aG [(66,c66)] ⟨aCb,trivial⟩ fun a=>by kernel_rfl
def uJ (s:aBX):Option aOv:=
 bif decide (s.2.1<(Int.ofNat s.2.2.length)) then
  (aO s.2.2 s.2.1).bind fun a0=>
  bif a0.1==s.1 then
   some (.done s.2.1)
  else
   some (.next (s.1,aA .i64 (s.2.1+1),s.2.2))
 else
  some (.done (-1))
def iK (p0:Field) (p1:Int):Option Int:=
 aH uJ (p1,0,p0.points)
def c21:bK:=⟨aC.cons (aM.agg bT) (aC.one (aM.int .i64)),aM.int .i64,fun a=>iK a.1 a.2,.pure,false⟩
theorem MB:aK tab 21 c21:=Oc aNH rfl aG [] trivial fun a=>by kernel_rfl
def qZ (s:(Int×Int×bN×bN)):Option (cL (Int×Int×bN×bN) Bool):=
 bif decide (s.1<(Int.ofNat s.2.2.1.length)) then
  (aO s.2.2.1 s.1).bind fun a0=>
  (iK (Field.mk s.2.2.2) a0.2.1).bind fun n1=>
  bif decide (n1<0) then
   some (.done false)
  else
   (aO s.2.2.1 s.1).bind fun a2=>
   (iK (Field.mk s.2.2.2) a2.2.2).bind fun n3=>
   bif decide (n3<0) then
    some (.done false)
   else
    some (.next (aA .i64 (s.1+1),s.2))
 else
  some (.done true)
def xT (p0:aV) (p1:Field):Option Bool:=
 aH qZ (0,p0.next_,p0.list,p1.points)
def aRp:bK:=⟨aC.cons (aM.agg gR) (aC.one (aM.agg bT)),aM.bool,fun a=>xT a.1 a.2,.pure,false⟩
theorem aIX:aK tab 129 aRp:=Oc aF9 rfl aG [(21,c21)] ⟨MB,trivial⟩ fun a=>by kernel_rfl
def lB (s:aBW):Option (cL aBW (cL aBW Int)):=
 bif decide (s.2.1<s.1) then
  (aO s.2.2.1 s.2.1).bind fun n0=>
  bif decide (n0<0) then
   some (.done (.done 8))
  else
   (aO s.2.2.1 s.2.1).bind fun n1=>
   bif decide (1000000<n1) then
    some (.done (.done 8))
   else
    (aO s.2.2.2.1 s.2.1).bind fun b2=>
    (aO s.2.2.2.2.2 s.2.1).bind fun b3=>
    bif b2==b3 then
     some (.done (.done 8))
    else
     (aO s.2.2.2.1 s.2.1).bind fun b4=>
     bif b4 then
      (aO s.2.2.1 s.2.1).bind fun n5=>
      bif decide (n5<1) then
       some (.done (.done 8))
      else
       some (.next (s.1,aA .i64 (s.2.1+1),s.2.2))
     else
      some (.next (s.1,aA .i64 (s.2.1+1),s.2.2))
 else
  some (.done (.done 0))
def rA (s:aBW):Option (cL aBW Int):=
 bif decide (s.2.1<(Int.ofNat s.2.2.2.2.1.length)) then
  (aO s.2.2.2.2.1 s.2.1).bind fun n0=>
  bif decide (n0<0) then
   some (.done 8)
  else
   (aO s.2.2.2.2.1 s.2.1).bind fun n1=>
   bif decide (s.1<=n1) then
    some (.done 8)
   else
    (aO s.2.2.2.2.1 s.2.1).bind fun n2=>
    (aO s.2.2.2.2.2 n2).bind fun b3=>
    bif b3 then
     some (.done 8)
    else
     (aO s.2.2.2.2.1 s.2.1).bind fun n4=>
     (aO s.2.2.2.2.2 n4).bind fun _=>
     some (.next (s.1,aA .i64 (s.2.1+1),s.2.2.1,s.2.2.2.1,s.2.2.2.2.1,cA s.2.2.2.2.2 n4 true))
 else
  aH lB (s.1,0,s.2.2)
def xU (p0:aS):Option Int:=
 bif decide ((Int.ofNat p0.uses.length)<1) then
  some 8
 else
  bif decide (200<(Int.ofNat p0.uses.length)) then
   some 8
  else
   bif (Int.ofNat p0.used.length) !=(Int.ofNat p0.uses.length) then
    some 8
   else
    bif decide ((Int.ofNat p0.uses.length)<(Int.ofNat p0.free.length)) then
     some 8
    else
     bif (Int.ofNat p0.uses.length)==(Int.ofNat p0.uses.length) then
      (CH (Int.ofNat p0.uses.length) (false:Bool)).bind fun l0=>
      aH rA (Int.ofNat p0.uses.length,0,p0.uses,p0.used,p0.free,l0)
     else
      none
def aRq:bK:=⟨aC.one (aM.agg gJ),aM.int .i64,fun a=>xU a,.pure,false⟩
theorem aIY:aK tab 189 aRq:=Oc aGL rfl aG [] trivial fun a=>by kernel_rfl
def wQ (p0:aS) (p1:Int×Int):Option Bool:=
 bif decide (0<=p1.1) then
  bif decide (p1.1<(Int.ofNat p0.uses.length)) then
   (aO p0.used p1.1).bind fun b0=>
   bif b0 then
    (aO p0.uses p1.1).bind fun n1=>
    some (n1==p1.2)
   else
    some false
  else
   some false
 else
  some false
def aO0:bK:=⟨aC.cons (aM.agg gJ) (aC.one (aM.agg (cI.row kB))),aM.bool,fun a=>wQ a.1 a.2,.pure,false⟩
theorem YT:aK tab 193 aO0:=Oc aGP rfl aG [] trivial fun a=>by kernel_rfl
def pE (s:aOr):Option (cL aOr Bool):=
 bif decide (s.2.1<s.1) then
  (aO s.2.2.2.1 s.2.1).bind fun b0=>
  bif !b0 then
   (aO s.2.2.2.2.2.2 s.2.1).bind fun n1=>
   bif n1 !=(-1) then
    some (.done false)
   else
    some (.next (s.1,aA .i64 (s.2.1+1),s.2.2))
  else
   (aO s.2.2.2.2.2.2 s.2.1).bind fun n2=>
   bif decide (n2<0) then
    some (.done false)
   else
    bif decide ((Int.ofNat s.2.2.2.2.2.1.length)<=n2) then
     some (.done false)
    else
     (aO s.2.2.2.2.2.1 n2).bind fun a3=>
     bif a3.2.2.2.1 !=s.2.1 then
      some (.done false)
     else
      (aO s.2.2.2.2.2.1 n2).bind fun a4=>
      (wQ (aS.mk s.2.2.1 s.2.2.2.1 s.2.2.2.2.1) a4.2.2.2).bind fun b5=>
      bif !b5 then
       some (.done false)
      else
       some (.next (s.1,aA .i64 (s.2.1+1),s.2.2))
 else
  some (.done true)
def vM (p0:aI):Option Bool:=
 bif (Int.ofNat p0.where_.length) !=(Int.ofNat p0.slots.uses.length) then
  some false
 else
  bif (Int.ofNat p0.heap.length) !=(aA .i64 ((Int.ofNat p0.slots.uses.length) - (Int.ofNat p0.slots.free.length))) then
   some false
  else
   aH pE (Int.ofNat p0.slots.uses.length,0,p0.slots.uses,p0.slots.used,p0.slots.free,p0.heap,p0.where_)
def aRr:bK:=⟨aC.one (aM.agg dD),aM.bool,fun a=>vM a,.pure,false⟩
theorem aIZ:aK tab 190 aRr:=Oc aGM rfl aG [(193,aO0)] ⟨YT,trivial⟩ fun a=>by kernel_rfl
def sX (p0:Int) (p1:Int):Option (Bool×Int×Int):=
 some (false,aA .u64 ((aA .u64 ((aA .u64 ((aA .u64 (Int.tdiv p0 4294967296))*(aA .u64 (Int.tdiv p1 4294967296))))+(aA .u64 (Int.tdiv (aA .u64 ((aA .u64 ((aA .u64 (Int.tdiv p0 4294967296))*(Int.tmod p1 4294967296)))+(aA .u64 (Int.tdiv (aA .u64 ((Int.tmod p0 4294967296)*(Int.tmod p1 4294967296))) 4294967296)))) 4294967296))))+(aA .u64 (Int.tdiv (aA .u64 ((aA .u64 ((Int.tmod p0 4294967296)*(aA .u64 (Int.tdiv p1 4294967296))))+(Int.tmod (aA .u64 ((aA .u64 ((aA .u64 (Int.tdiv p0 4294967296))*(Int.tmod p1 4294967296)))+(aA .u64 (Int.tdiv (aA .u64 ((Int.tmod p0 4294967296)*(Int.tmod p1 4294967296))) 4294967296)))) 4294967296))) 4294967296))),aA .u64 ((aA .u64 ((Int.tmod (aA .u64 ((aA .u64 ((Int.tmod p0 4294967296)*(aA .u64 (Int.tdiv p1 4294967296))))+(Int.tmod (aA .u64 ((aA .u64 ((aA .u64 (Int.tdiv p0 4294967296))*(Int.tmod p1 4294967296)))+(aA .u64 (Int.tdiv (aA .u64 ((Int.tmod p0 4294967296)*(Int.tmod p1 4294967296))) 4294967296)))) 4294967296))) 4294967296)*4294967296))+(Int.tmod (aA .u64 ((Int.tmod p0 4294967296)*(Int.tmod p1 4294967296))) 4294967296)))
def aRs:bK:=⟨aC.cons (aM.int .u64) (aC.one (aM.int .u64)),aM.agg (cI.row CR),fun a=>sX a.1 a.2,.pure,false⟩
theorem aI0:aK tab 116 aRs:=Oc aF0 rfl aG [] trivial fun a=>by kernel_rfl
def kD (p0:Int) (p1:Int):Option (Bool×Int×Int):=
 (iH p0).bind fun n0=>
 (iH p1).bind fun n1=>
 (sX n0 n1).bind fun a2=>
 bif !((decide (p0<0))==(decide (p1<0))) then
  bif p0 !=0 then
   some (p1 !=0,a2.2)
  else
   some (false,a2.2)
 else
  some (false,a2.2)
def c69:bK:=⟨aC.cons (aM.int .i64) (aC.one (aM.int .i64)),aM.agg (cI.row CR),fun a=>kD a.1 a.2,.pure,false⟩
theorem aCc:aK tab 69 c69:=Oc aN3 rfl aG [(54,c54),(116,aRs)] ⟨VV,aI0,trivial⟩ fun a=>by kernel_rfl
def mD (p0:Bool×Int×Int):Option Int:=
 bif p0.2.1==0 then
  bif p0.2.2==0 then
   some 0
  else
   bif p0.1 then
    some (-1)
   else
    some 1
 else
  bif p0.1 then
   some (-1)
  else
   some 1
def c70:bK:=⟨aC.one (aM.agg (cI.row CR)),aM.int .i64,fun a=>mD a,.pure,false⟩
theorem aCd:aK tab 70 c70:=Oc aN4 rfl aG [] trivial fun a=>by kernel_rfl
def sC (p0:Bool×Int×Int) (p1:Bool×Int×Int):Option Int:=
 bif p0.2.1 !=p1.2.1 then
  bif decide (p0.2.1<p1.2.1) then
   some (-1)
  else
   some 1
 else
  bif p0.2.2 !=p1.2.2 then
   bif decide (p0.2.2<p1.2.2) then
    some (-1)
   else
    some 1
  else
   some 0
def c71:bK:=⟨aC.cons (aM.agg (cI.row CR)) (aC.one (aM.agg (cI.row CR))),aM.int .i64,fun a=>sC a.1 a.2,.pure,false⟩
theorem aCe:aK tab 71 c71:=Oc aN5 rfl aG [] trivial fun a=>by kernel_rfl
def sY (p0:Int×Int) (p1:Int×Int):Option Int:=
 (kD p0.1 p1.2).bind fun a0=>
 (kD p1.1 p0.2).bind fun a1=>
 (mD a0).bind fun n2=>
 (mD a1).bind fun n3=>
 bif n2 !=n3 then
  (mD a0).bind fun n4=>
  (mD a1).bind fun n5=>
  bif decide (n4<n5) then
   some (-1)
  else
   some 1
 else
  (mD a0).bind fun n6=>
  bif decide (n6<0) then
   (sC a1 a0).bind fun n7=>
   some n7
  else
   (sC a0 a1).bind fun n8=>
   some n8
def c23:bK:=⟨aC.cons (aM.agg (cI.row kB)) (aC.one (aM.agg (cI.row kB))),aM.int .i64,fun a=>sY a.1 a.2,.pure,false⟩
theorem aO1:aK tab 23 c23:=Oc aNI rfl aG [(69,c69),(70,c70),(71,c71)] ⟨aCc,aCd,aCe,trivial⟩ fun a=>by kernel_rfl
def eM (p0:Int×Int×Int×Int×Int) (p1:Int×Int×Int×Int×Int):Option Bool:=
 (sY (p0.1,p0.2.1) (p1.1,p1.2.1)).bind fun n0=>
 bif decide (n0<0) then
  some true
 else
  bif n0==0 then
   some (decide (p0.2.2.1<p1.2.2.1))
  else
   some false
def VY:bK:=⟨aC.cons (aM.agg (cI.row lY)) (aC.one (aM.agg (cI.row lY))),aM.bool,fun a=>eM a.1 a.2,.pure,false⟩
theorem DX:aK tab 191 VY:=Oc aGN rfl aG [(23,c23)] ⟨aO1,trivial⟩ fun a=>by kernel_rfl
def lC (s:aQn):Option (cL aQn aOq):=
 bif decide (s.2.1<s.1) then
  (aO s.2.2.2.2.2.1 s.2.1).bind fun a0=>
  bif a0.2.2.1==s.2.2.2.2.2.2.2.2.2.1 then
   some (.done (.done 8))
  else
   some (.next (s.1,aA .i64 (s.2.1+1),s.2.2))
 else
  some (.done (.next (aA .i64 (s.1+1),s.2.2.1,s.2.2.2.1,s.2.2.2.2.1,s.2.2.2.2.2.1,s.2.2.2.2.2.2.1)))
def lD (s:GT):Option (cL GT aOq):=
 bif decide (s.1<(Int.ofNat s.2.2.2.2.1.length)) then
  (aO s.2.2.2.2.1 s.1).bind fun a0=>
  (aO s.2.2.2.2.1 (aA .i64 (Int.tdiv (aA .i64 (s.1-1)) 2))).bind fun a1=>
  (eM a0 a1).bind fun b2=>
  bif b2 then
   some (.done (.done 8))
  else
   some (.next (aA .i64 (s.1+1),s.2))
 else
  some (.done (.done 0))
def rB (s:GT):Option aOq:=
 bif decide (s.1<(Int.ofNat s.2.2.2.2.1.length)) then
  (aO s.2.2.2.2.1 s.1).bind fun a0=>
  (uH (a0.1,a0.2.1)).bind fun n1=>
  bif n1 !=0 then
   some (.done 8)
  else
   bif decide (a0.2.2.1<0) then
    some (.done 8)
   else
    bif decide (1000000<a0.2.2.1) then
     some (.done 8)
    else
     aH lC (s.1,0,s.2.1,s.2.2.1,s.2.2.2.1,s.2.2.2.2.1,s.2.2.2.2.2,a0)
 else
  aH lD (1,s.2)
def uK (p0:aI):Option Int:=
 (xU p0.slots).bind fun n0=>
 bif n0 !=0 then
  some 8
 else
  (vM p0).bind fun b1=>
  bif !b1 then
   some 8
  else
   aH rB (0,p0.slots.uses,p0.slots.used,p0.slots.free,p0.heap,p0.where_)
def aO2:bK:=⟨aC.one (aM.agg dD),aM.int .i64,fun a=>uK a,.pure,false⟩
theorem YU:aK tab 130 aO2:=Oc aGa rfl aG [(189,aRq),(190,aRr),(13,c13),(191,VY)] ⟨aIY,aIZ,aCa,DX,trivial⟩ fun a=>by kernel_rfl
def uL (p0:Bool×Int×Int) (p1:Bool×Int×Int):Option (Bool×Int×Int):=
 bif decide (p0.2.2<p1.2.2) then
  some (false,aA .u64 ((aA .u64 (p0.2.1-p1.2.1)) -1),aA .u64 (p0.2.2-p1.2.2))
 else
  some (false,aA .u64 (p0.2.1-p1.2.1),aA .u64 (p0.2.2-p1.2.2))
def aRt:bK:=⟨aC.cons (aM.agg (cI.row CR)) (aC.one (aM.agg (cI.row CR))),aM.agg (cI.row CR),fun a=>uL a.1 a.2,.pure,false⟩
theorem aI1:aK tab 223 aRt:=Oc aHc rfl aG [] trivial fun a=>by kernel_rfl
def A2 (p0:Bool×Int×Int) (p1:Bool×Int×Int):Option (Bool×Int×Int):=
 bif p0.1==p1.1 then
  bif decide ((aA .u64 (p0.2.2+p1.2.2))<p0.2.2) then
   some (p0.1,aA .u64 ((aA .u64 (p0.2.1+p1.2.1))+1),aA .u64 (p0.2.2+p1.2.2))
  else
   some (p0.1,aA .u64 (p0.2.1+p1.2.1),aA .u64 (p0.2.2+p1.2.2))
 else
  (sC p0 p1).bind fun n0=>
  bif decide (0<=n0) then
   (uL p0 p1).bind fun a1=>
   bif p0.1 then
    bif decide (0<a1.2.1) then
     some (true,a1.2)
    else
     some (decide (0<a1.2.2),a1.2)
   else
    some (false,a1.2)
  else
   (uL p1 p0).bind fun a2=>
   some (p1.1,a2.2)
def aRu:bK:=⟨aC.cons (aM.agg (cI.row CR)) (aC.one (aM.agg (cI.row CR))),aM.agg (cI.row CR),fun a=>A2 a.1 a.2,.pure,false⟩
theorem aI2:aK tab 173 aRu:=Oc aGy rfl aG [(71,c71),(223,aRt)] ⟨aCe,aI1,trivial⟩ fun a=>by kernel_rfl
def DY (p0:Int×Int×Int) (p1:Int×Int×Int) (p2:Int×Int):Option Int:=
 (kD (aA .i64 (p0.2.1-p1.2.1)) p2.2).bind fun a0=>
 (kD (aA .i64 (p0.2.2-p1.2.2)) p2.1).bind fun a1=>
 (A2 a0 a1).bind fun a2=>
 (mD a2).bind fun n3=>
 some n3
def aRv:bK:=⟨aC.cons (aM.agg (cI.row dO)) (aC.cons (aM.agg (cI.row dO)) (aC.one (aM.agg (cI.row kB)))),aM.int .i64,fun a=>DY a.1 a.2.1 a.2.2,.pure,false⟩
theorem aI3:aK tab 115 aRv:=Oc aFZ rfl aG [(69,c69),(173,aRu),(70,c70)] ⟨aCc,aI2,aCd,trivial⟩ fun a=>by kernel_rfl
def pZ (p0:Int×Int×Int) (p1:Int×Int×Int) (p2:Int×Int):Option Bool:=
 (DY p0 p1 p2).bind fun n0=>
 bif n0 !=0 then
  some (decide (0<n0))
 else
  bif p0.2.2 !=p1.2.2 then
   some (decide (p1.2.2<p0.2.2))
  else
   some (decide (p0.1<p1.1))
def c67:bK:=⟨aC.cons (aM.agg (cI.row dO)) (aC.cons (aM.agg (cI.row dO)) (aC.one (aM.agg (cI.row kB)))),aM.bool,fun a=>pZ a.1 a.2.1 a.2.2,.pure,false⟩
theorem VZ:aK tab 67 c67:=Oc aN2 rfl aG [(115,aRv)] ⟨aI3,trivial⟩ fun a=>by kernel_rfl
def sD (p0:Bool) (p1:Bool×Int×Int) (p2:Bool×Int×Int):Option ((Int×Int)×Int):=
 bif decide (0<p1.2.1) then
  some ((0,0),16)
 else
  bif decide (9223372036854775807<p1.2.2) then
   some ((0,0),16)
  else
   bif decide (0<p2.2.1) then
    some ((0,0),16)
   else
    bif decide (9223372036854775807<p2.2.2) then
     some ((0,0),16)
    else
     bif p0 then
      some ((aA .i64 (0- (aA .i64 p1.2.2)),aA .i64 p2.2.2),0)
     else
      some ((aA .i64 p1.2.2,aA .i64 p2.2.2),0)
def aRw:bK:=⟨aC.cons aM.bool (aC.cons (aM.agg (cI.row CR)) (aC.one (aM.agg (cI.row CR)))),aM.tup (aC.cons (aM.agg (cI.row kB)) (aC.one (aM.int .i64))),fun a=>sD a.1 a.2.1 a.2.2,.pure,false⟩
theorem aI4:aK tab 302 aRw:=Oc aHR rfl aG [] trivial fun a=>by kernel_rfl
def nS (p0:Int) (p1:Int):Option ((Int×Int)×Int):=
 bif p1==0 then
  some ((0,0),26)
 else
  (iH p0).bind fun n0=>
  (iH p1).bind fun n1=>
  (qX n0 n1).bind fun n2=>
  bif !((decide (p0<0))==(decide (p1<0))) then
   (iH p0).bind fun n3=>
   bif n2==0 then
    none
   else
    (iH p1).bind fun n4=>
    bif n2==0 then
     none
    else
     (sD (p0 !=0) (false,0,aA .u64 (Int.tdiv n3 n2)) (false,0,aA .u64 (Int.tdiv n4 n2))).bind fun a5=>
     some a5
  else
   (iH p0).bind fun n6=>
   bif n2==0 then
    none
   else
    (iH p1).bind fun n7=>
    bif n2==0 then
     none
    else
     (sD false (false,0,aA .u64 (Int.tdiv n6 n2)) (false,0,aA .u64 (Int.tdiv n7 n2))).bind fun a8=>
     some a8
def aRx:bK:=⟨aC.cons (aM.int .i64) (aC.one (aM.int .i64)),aM.tup (aC.cons (aM.agg (cI.row kB)) (aC.one (aM.int .i64))),fun a=>nS a.1 a.2,.pure,false⟩
theorem aI5:aK tab 282 aRx:=Oc aHH rfl aG [(54,c54),(53,c53),(302,aRw)] ⟨VV,aB9,aI4,trivial⟩ fun a=>by kernel_rfl
def DZ (p0:Int×Int×Int) (p1:Int×Int×Int):Option (Int×Int):=
 (nS (aA .i64 (p0.2.1-p1.2.1)) (aA .i64 (p1.2.2-p0.2.2))).bind fun a0=>
 some a0.1
def aRy:bK:=⟨aC.cons (aM.agg (cI.row dO)) (aC.one (aM.agg (cI.row dO))),aM.agg (cI.row kB),fun a=>DZ a.1 a.2,.pure,false⟩
theorem aI6:aK tab 241 aRy:=Oc aHk rfl aG [(282,aRx)] ⟨aI5,trivial⟩ fun a=>by kernel_rfl
def sZ (p0:Int×Int×Int) (p1:Int×Int×Int) (p2:Int×Int):Option ((Int×Int)×Bool):=
 (pZ p1 p0 p2).bind fun b0=>
 bif b0 then
  some (p2,true)
 else
  bif decide (p0.2.2<p1.2.2) then
   (DZ p0 p1).bind fun a1=>
   some (a1,true)
  else
   some ((0,0),false)
def aRz:bK:=⟨aC.cons (aM.agg (cI.row dO)) (aC.cons (aM.agg (cI.row dO)) (aC.one (aM.agg (cI.row kB)))),aM.tup (aC.cons (aM.agg (cI.row kB)) (aC.one aM.bool)),fun a=>sZ a.1 a.2.1 a.2.2,.pure,false⟩
theorem aI7:aK tab 192 aRz:=Oc aGO rfl aG [(67,c67),(241,aRy)] ⟨VZ,aI6,trivial⟩ fun a=>by kernel_rfl
def sE (p0:Field) (p1:Int×Int) (p2:Int×Int):Option ((Int×Int)×Bool):=
 (iK p0 p1.2).bind fun n0=>
 (aO p0.points n0).bind fun a1=>
 (iK p0 p1.1).bind fun n2=>
 (aO p0.points n2).bind fun a3=>
 (sZ a1 a3 p2).bind fun a4=>
 some a4
def aI8:bK:=⟨aC.cons (aM.agg bT) (aC.cons (aM.agg (cI.row kB)) (aC.one (aM.agg (cI.row kB)))),aM.tup (aC.cons (aM.agg (cI.row kB)) (aC.one aM.bool)),fun a=>sE a.1 a.2.1 a.2.2,.pure,false⟩
theorem QK:aK tab 131 aI8:=Oc aGb rfl aG [(21,c21),(192,aRz)] ⟨MB,aI7,trivial⟩ fun a=>by kernel_rfl
def wR (p0:aI) (p1:Int×Int):Option ((Int×Int×Int×Int×Int)×Int):=
 (uK p0).bind fun n0=>
 bif n0 !=0 then
  some ((0,0,0,0,0),8)
 else
  (wQ p0.slots p1).bind fun b1=>
  bif !b1 then
   some ((0,0,0,0,0),6)
  else
   (aO p0.where_ p1.1).bind fun n2=>
   (aO p0.heap n2).bind fun a3=>
   some (a3,0)
def aRA:bK:=⟨aC.cons (aM.agg dD) (aC.one (aM.agg (cI.row kB))),aM.tup (aC.cons (aM.agg (cI.row lY)) (aC.one (aM.int .i64))),fun a=>wR a.1 a.2,.pure,false⟩
theorem aI9:aK tab 132 aRA:=Oc aGc rfl aG [(130,aO2),(193,aO0)] ⟨YU,YT,trivial⟩ fun a=>by kernel_rfl
def dL (s:aOn):Option aQa:=
 bif decide (s.2.1<(Int.ofNat s.2.2.2.2.2.2.1.length)) then
  (aO s.2.2.2.2.2.2.1 s.2.1).bind fun a0=>
  (sE (Field.mk s.2.2.2.2.1) a0.2 (s.2.2.1,s.2.2.2.1)).bind fun a1=>
  bif !a1.2 then
   some (.next (s.1,aA .i64 (s.2.1+1),s.2.2))
  else
   bif decide ((Int.ofNat s.2.2.2.2.2.2.2.2.2.2.2.2.length)<=s.1) then
    some (.done 8)
   else
    (aO s.2.2.2.2.2.2.2.2.2.2.2.2 s.1).bind fun a2=>
    bif a2.1 !=a0.1 then
     some (.done 8)
    else
     (aO s.2.2.2.2.2.2.2.2.2.2.2.2 s.1).bind fun a3=>
     (wR (aI.mk (aS.mk s.2.2.2.2.2.2.2.1 s.2.2.2.2.2.2.2.2.1 s.2.2.2.2.2.2.2.2.2.1) s.2.2.2.2.2.2.2.2.2.2.1 s.2.2.2.2.2.2.2.2.2.2.2.1) a3.2).bind fun a4=>
     bif a4.2 !=0 then
      some (.done 8)
     else
      bif a4.1.2.2.1 !=a0.1 then
       some (.done 8)
      else
       bif !((a4.1.1==a1.1.1)&&(a4.1.2.1==a1.1.2)) then
        some (.done 8)
       else
        some (.next (aA .i64 (s.1+1),aA .i64 (s.2.1+1),s.2.2))
 else
  bif s.1 !=(Int.ofNat s.2.2.2.2.2.2.2.2.2.2.2.2.length) then
   some (.done 8)
  else
   some (.done 0)
def xV (p0:aQ):Option Int:=
 (uH p0.now).bind fun n0=>
 bif n0 !=0 then
  some 8
 else
  (lT p0.field).bind fun n1=>
  bif n1 !=0 then
   some 8
  else
   (uI p0.certs).bind fun n2=>
   bif n2 !=0 then
    some 8
   else
    (xT p0.certs p0.field).bind fun b3=>
    bif !b3 then
     some 8
    else
     (uK p0.agenda).bind fun n4=>
     bif n4 !=0 then
      some 8
     else
      bif (Int.ofNat p0.agenda.where_.length) !=200 then
       some 8
      else
       bif (Int.ofNat p0.agenda.heap.length) !=(Int.ofNat p0.due.length) then
        some 8
       else
        aH dL (0,0,p0.now.1,p0.now.2,p0.field.points,p0.certs.next_,p0.certs.list,p0.agenda.slots.uses,p0.agenda.slots.used,p0.agenda.slots.free,p0.agenda.heap,p0.agenda.where_,p0.due)
def c77:bK:=⟨aC.one (aM.agg bU),aM.int .i64,fun a=>xV a,.pure,false⟩
theorem aO3:aK tab 77 c77:=Oc aN8 rfl aG [(13,c13),(12,c12),(128,aOZ),(129,aRp),(130,aO2),(131,aI8),(132,aRA)] ⟨aCa,VX,YS,aIX,YU,QK,aI9,trivial⟩ fun a=>by kernel_rfl
def kA (s:(Int×Int×Int×bN×Int×Int)):Option (cL (Int×Int×Int×bN×Int×Int) Int):=
 bif decide (s.2.2.1<s.1) then
  bif decide (s.2.1<0) then
   some (.next (s.1,s.2.2.1,aA .i64 (s.2.2.1+1),s.2.2.2))
  else
   (aO s.2.2.2.1 s.2.2.1).bind fun a0=>
   (aO s.2.2.2.1 s.2.1).bind fun a1=>
   (pZ a0 a1 s.2.2.2.2).bind fun b2=>
   bif b2 then
    some (.next (s.1,s.2.2.1,aA .i64 (s.2.2.1+1),s.2.2.2))
   else
    some (.next (s.1,s.2.1,aA .i64 (s.2.2.1+1),s.2.2.2))
 else
  some (.done s.2.1)
def vT (p0:Field) (p1:Int×Int) (p2:Int) (p3:Int):Option Int:=
 aH kA (p3,-1,p2,p0.points,p1)
def aRB:bK:=⟨aC.cons (aM.agg bT) (aC.cons (aM.agg (cI.row kB)) (aC.cons (aM.int .i64) (aC.one (aM.int .i64)))),aM.int .i64,fun a=>vT a.1 a.2.1 a.2.2.1 a.2.2.2,.pure,false⟩
theorem aJa:aK tab 209 aRB:=Oc aG0 rfl aG [(67,c67)] ⟨VZ,trivial⟩ fun a=>by kernel_rfl
def fK (self:aHZ->Option P8) (a:aHZ):Option P8:=
 (vT (Field.mk a.1) (a.2.1,a.2.2.1) a.2.2.2.2.1 a.2.2.2.2.2.1).bind fun n0=>
 bif decide (0<=n0) then
  (self (a.1,a.2.1,a.2.2.1,a.2.2.2.1,a.2.2.2.2.1,n0,a.2.2.2.2.2.2)).bind fun a1=>
  (aO a1.2 n0).bind fun a2=>
  (self (a.1,a.2.1,a.2.2.1,a.2.2.2.1,aA .i64 (n0+1),a.2.2.2.2.2.1,cA a1.2 n0 (a2.1,a1.1,a2.2.2))).bind fun a3=>
  (aO a3.2 n0).bind fun a4=>
  bif ((cA a3.2 n0 (a4.1,a4.2.1,a3.1)).length)==a.2.2.2.2.2.2.length then
   some (n0,cA a3.2 n0 (a4.1,a4.2.1,a3.1))
  else
   none
 else
  bif a.2.2.2.2.2.2.length==a.2.2.2.2.2.2.length then
   some (n0,a.2.2.2.2.2.2)
  else
   none
def jH:Nat->aHZ->Option P8
 |0,_=>none
 |n+1,a=>fK (jH n) a
def sF (a:aHZ):Option P8:=jH 1000000 a
def aCf:eE:=⟨[.l [.i .i64,.i .i64,.i .i64],.i,.i,.i,.i,.i,.l [.i .i64,.i .i64,.i .i64]],[.agg [.sl [.i .i64,.i .i64,.i .i64] []],.agg [.int .i64 0,.int .i64 0],.agg [.int .i64 0,.own 0 false],.int .i64 0,.int .i64 0],[.arr [.i .i64,.i .i64,.i .i64] []],[.i,.l [.i .i64,.i .i64,.i .i64]],.int .i64 0,[.arr [.i .i64,.i .i64,.i .i64] []],fun a=>sF a⟩
theorem MC: ∀n,lN tab 160 ⟨[.l [.i .i64,.i .i64,.i .i64],.i,.i,.i,.i,.i,.l [.i .i64,.i .i64,.i .i64]],[.agg [.sl [.i .i64,.i .i64,.i .i64] []],.agg [.int .i64 0,.int .i64 0],.agg [.int .i64 0,.own 0 false],.int .i64 0,.int .i64 0],[.arr [.i .i64,.i .i64,.i .i64] []],[.i,.l [.i .i64,.i .i64,.i .i64]],.int .i64 0,[.arr [.i .i64,.i .i64,.i .i64] []],fun a=>jH n a⟩
 |0=>lN.zero (fun _=>rfl)
 |n+1=>lN.of aGq (wd:=false) (cx:=(pK aG [(209,aRB)] [(160,⟨[.l [.i .i64,.i .i64,.i .i64],.i,.i,.i,.i,.i,.l [.i .i64,.i .i64,.i .i64]],[.agg [.sl [.i .i64,.i .i64,.i .i64] []],.agg [.int .i64 0,.int .i64 0],.agg [.int .i64 0,.own 0 false],.int .i64 0,.int .i64 0],[.arr [.i .i64,.i .i64,.i .i64] []],[.i,.l [.i .i64,.i .i64,.i .i64]],.int .i64 0,[.arr [.i .i64,.i .i64,.i .i64] []],fun a=>jH n a⟩)] [] [])) (mL.make ⟨aJa,trivial⟩ ⟨(MC n),trivial⟩ trivial) (fun a=>by kernel_rfl)
theorem aAs:lN tab 160 aCf:=MC 1000000
def oX (s:aQA):Option (cL aQA mM):=
 bif decide (s.1<(Int.ofNat s.2.1.length)) then
  (aO s.2.1 s.1).bind fun a0=>
  (bE s.2.2.2.2.2.2 [(a0.1,0,0)]).bind fun l1=>
  some (.next (aA .i64 (s.1+1),s.2.1,s.2.2.1,s.2.2.2.1,s.2.2.2.2.1,s.2.2.2.2.2.1,l1))
 else
  (sF (s.2.1,s.2.2.1,s.2.2.2.1,s.2.2.2.2.2.1,0,Int.ofNat s.2.1.length,s.2.2.2.2.2.2)).bind fun a2=>
  some (.done (mM.mk a2.1 a2.2))
def FM (p0:Field) (p1:Int×Int):Option mM:=
 aH oX (0,p0.points,p1.1,p1.2,0,0,[])
def aRC:bK:=⟨aC.cons (aM.agg bT) (aC.one (aM.agg (cI.row kB))),aM.agg pM,fun a=>FM a.1 a.2,.frz,false⟩
theorem aJb:aK tab 106 aRC:=aK.of aFU (cx:=(pK aG [] [(160,aCf)] [] [])) rfl (mL.make trivial ⟨aAs,trivial⟩ trivial) (fun a=>by kernel_rfl)
def sG (p0:Field) (p1:Int×Int):Option mM:=
 (FM p0 p1).bind fun r0=>
 some r0
def c78:bK:=⟨aC.cons (aM.agg bT) (aC.one (aM.agg (cI.row kB))),aM.agg pM,fun a=>sG a.1 a.2,.frz,false⟩
theorem aCg:aK tab 78 c78:=Oc aN9 rfl aG [(106,aRC)] ⟨aJb,trivial⟩ fun a=>by kernel_rfl
def rC (s:aOt):Option aQC:=
 bif decide (s.1<(Int.ofNat s.2.2.1.length)) then
  (aO s.2.2.1 s.1).bind fun a0=>
  (aO s.2.2.2.2 s.1).bind fun a1=>
  bif !((a0.1==a1.1)&&((a0.2.1==a1.2.1)&&(a0.2.2==a1.2.2))) then
   some (.done false)
  else
   some (.next (aA .i64 (s.1+1),s.2))
 else
  some (.done true)
def qA (p0:mM) (p1:mM):Option Bool:=
 bif p0.root !=p1.root then
  some false
 else
  bif (Int.ofNat p0.nodes.length) !=(Int.ofNat p1.nodes.length) then
   some false
  else
   aH rC (0,p0.root,p0.nodes,p1.root,p1.nodes)
def c30:bK:=⟨aC.cons (aM.agg pM) (aC.one (aM.agg pM)),aM.bool,fun a=>qA a.1 a.2,.pure,false⟩
theorem aCh:aK tab 30 c30:=Oc aNL rfl aG [] trivial fun a=>by kernel_rfl
def qB (s:(Int×Int×Int×bN×rW)):Option (cL (Int×Int×Int×bN×rW) aQy):=
 bif decide (s.2.1<(Int.ofNat s.2.2.2.1.length)) then
  (aO s.2.2.2.1 s.2.1).bind fun a0=>
  bif a0.2.1==s.1 then
   (aO s.2.2.2.1 s.1).bind fun a1=>
   (aO s.2.2.2.1 s.2.1).bind fun a2=>
   (bE s.2.2.2.2 [(a1.1,a2.1)]).bind fun l3=>
   some (.next (s.1,aA .i64 (s.2.1+1),s.2.2.1,s.2.2.2.1,l3))
  else
   (aO s.2.2.2.1 s.2.1).bind fun a4=>
   bif a4.2.2==s.1 then
    (aO s.2.2.2.1 s.1).bind fun a5=>
    (aO s.2.2.2.1 s.2.1).bind fun a6=>
    (bE s.2.2.2.2 [(a5.1,a6.1)]).bind fun l7=>
    some (.next (s.1,aA .i64 (s.2.1+1),s.2.2.1,s.2.2.2.1,l7))
   else
    some (.next (s.1,aA .i64 (s.2.1+1),s.2.2))
 else
  some (.done (.next (aA .i64 (s.1+1),s.2.2)))
def uM (s:(Int×Int×bN×rW)):Option aQy:=
 bif decide (s.1<(Int.ofNat s.2.2.1.length)) then
  aH qB (s.1,0,s.2)
 else
  some (.done s.2.2.2)
def C0 (p0:mM):Option rW:=
 aH uM (0,p0.root,p0.nodes,[])
def c80:bK:=⟨aC.one (aM.agg pM),aM.sl kB,fun a=>C0 a,.frz,false⟩
theorem aCi:aK tab 80 c80:=Oc aOb rfl aG [] trivial fun a=>by kernel_rfl
def vN (s:(Int×Int×bN×Int×Int)):Option (cL (Int×Int×bN×Int×Int) Bool):=
 bif decide (s.1<(Int.ofNat s.2.2.1.length)) then
  (aO s.2.2.1 s.1).bind fun a0=>
  bif (a0.2.1==s.2.2.2.1)&&(a0.2.2==s.2.2.2.2) then
   some (.done true)
  else
   some (.next (aA .i64 (s.1+1),s.2))
 else
  some (.done false)
def vU (p0:aV) (p1:Int×Int):Option Bool:=
 aH vN (0,p0.next_,p0.list,p1)
def aJc:bK:=⟨aC.cons (aM.agg gR) (aC.one (aM.agg (cI.row kB))),aM.bool,fun a=>vU a.1 a.2,.pure,false⟩
theorem QL:aK tab 133 aJc:=Oc aGd rfl aG [] trivial fun a=>by kernel_rfl
def A3 (p0:Int×Int) (p1:Field) (p2:Int×Int):Option Bool:=
 (iK p1 p0.2).bind fun n0=>
 (aO p1.points n0).bind fun a1=>
 (iK p1 p0.1).bind fun n2=>
 (aO p1.points n2).bind fun a3=>
 (pZ a1 a3 p2).bind fun b4=>
 some b4
def aRD:bK:=⟨aC.cons (aM.agg (cI.row kB)) (aC.cons (aM.agg bT) (aC.one (aM.agg (cI.row kB)))),aM.bool,fun a=>A3 a.1 a.2.1 a.2.2,.pure,false⟩
theorem aJd:aK tab 134 aRD:=Oc aGe rfl aG [(21,c21),(67,c67)] ⟨MB,VZ,trivial⟩ fun a=>by kernel_rfl
def tB (s:aP9):Option (cL aP9 Bool):=
 bif decide (s.2.1<(Int.ofNat s.1.length)) then
  (aO s.1 s.2.1).bind fun a0=>
  (vU (aV.mk s.2.2.2.2.2.1 s.2.2.2.2.2.2.1) a0).bind fun b1=>
  bif !b1 then
   some (.done false)
  else
   (aO s.1 s.2.1).bind fun a2=>
   (A3 a2 (Field.mk s.2.2.2.2.1) (s.2.2.1,s.2.2.2.1)).bind fun b3=>
   bif !b3 then
    some (.done false)
   else
    some (.next (s.1,aA .i64 (s.2.1+1),s.2.2))
 else
  some (.done true)
def A4 (p0:aQ) (p1:List (Int×Int)):Option Bool:=
 bif (Int.ofNat p0.certs.list.length) !=(Int.ofNat p1.length) then
  some false
 else
  aH tB (p1,0,p0.now.1,p0.now.2,p0.field.points,p0.certs.next_,p0.certs.list,p0.agenda.slots.uses,p0.agenda.slots.used,p0.agenda.slots.free,p0.agenda.heap,p0.agenda.where_,p0.due)
def c79:bK:=⟨aC.cons (aM.agg bU) (aC.one (aM.sl kB)),aM.bool,fun a=>A4 a.1 a.2,.pure,false⟩
theorem aO4:aK tab 79 c79:=Oc aOa rfl aG [(133,aJc),(134,aRD)] ⟨QL,aJd,trivial⟩ fun a=>by kernel_rfl
def nT (p0:bO):Option Int:=
 (xV p0.clock).bind fun n0=>
 bif n0 !=0 then
  some 8
 else
  (sG p0.clock.field p0.clock.now).bind fun r1=>
  (qA r1 p0.tree).bind fun b2=>
  bif !b2 then
   some 8
  else
   (C0 r1).bind fun l3=>
   (A4 p0.clock l3).bind fun b4=>
   bif !b4 then
    some 8
   else
    some 0
def c27:bK:=⟨aC.one (aM.agg dS),aM.int .i64,fun a=>nT a,.pure,false⟩
theorem aCj:aK tab 27 c27:=Oc aNJ rfl aG [(77,c77),(78,c78),(30,c30),(80,c80),(79,c79)] ⟨aO3,aCg,aCh,aCi,aO4,trivial⟩ fun a=>by kernel_rfl
def fH (s:aQz):Option (cL aQz (Field×Int)):=
 bif decide (s.2.1<(Int.ofNat s.2.2.1.length)) then
  bif !s.1 then
   (aO s.2.2.1 s.2.1).bind fun a0=>
   bif decide (s.2.2.2.1<a0.1) then
    (bE s.2.2.2.2.2.2 [(s.2.2.2.1,s.2.2.2.2.1,s.2.2.2.2.2.1)]).bind fun l1=>
    (aO s.2.2.1 s.2.1).bind fun a2=>
    (bE l1 [a2]).bind fun l3=>
    some (.next (true,aA .i64 (s.2.1+1),s.2.2.1,s.2.2.2.1,s.2.2.2.2.1,s.2.2.2.2.2.1,l3))
   else
    (aO s.2.2.1 s.2.1).bind fun a4=>
    (bE s.2.2.2.2.2.2 [a4]).bind fun l5=>
    some (.next (s.1,aA .i64 (s.2.1+1),s.2.2.1,s.2.2.2.1,s.2.2.2.2.1,s.2.2.2.2.2.1,l5))
  else
   (aO s.2.2.1 s.2.1).bind fun a6=>
   (bE s.2.2.2.2.2.2 [a6]).bind fun l7=>
   some (.next (s.1,aA .i64 (s.2.1+1),s.2.2.1,s.2.2.2.1,s.2.2.2.2.1,s.2.2.2.2.2.1,l7))
 else
  bif !s.1 then
   (bE s.2.2.2.2.2.2 [(s.2.2.2.1,s.2.2.2.2.1,s.2.2.2.2.2.1)]).bind fun l8=>
   some (.done (Field.mk l8,0))
  else
   some (.done (Field.mk s.2.2.2.2.2.2,0))
def mX (p0:Field) (p1:Int×Int×Int):Option (Field×Int):=
 (lT p0).bind fun n0=>
 bif n0 !=0 then
  some (Field.mk [],n0)
 else
  (pY p1).bind fun n1=>
  bif n1 !=0 then
   some (Field.mk [],8)
  else
   (iK p0 p1.1).bind fun n2=>
   bif decide (0<=n2) then
    some (Field.mk [],14)
   else
    bif (Int.ofNat p0.points.length)==64 then
     some (Field.mk [],18)
    else
     aH fH (false,0,p0.points,p1.1,p1.2.1,p1.2.2,[])
def c93:bK:=⟨aC.cons (aM.agg bT) (aC.one (aM.agg (cI.row dO))),aM.tup (aC.cons (aM.agg bT) (aC.one (aM.int .i64))),fun a=>mX a.1 a.2,.frz,false⟩
theorem aO5:aK tab 93 c93:=Oc aOi rfl aG [(12,c12),(52,c52),(21,c21)] ⟨VX,VW,MB,trivial⟩ fun a=>by kernel_rfl
def xW (s:(rW×Int×Int×Int)):Option (cL (rW×Int×Int×Int) Bool):=
 bif decide (s.2.1<(Int.ofNat s.1.length)) then
  (aO s.1 s.2.1).bind fun a0=>
  bif (a0.1==s.2.2.1)&&(a0.2==s.2.2.2) then
   some (.done true)
  else
   some (.next (s.1,aA .i64 (s.2.1+1),s.2.2))
 else
  some (.done false)
def GZ (p0:List (Int×Int)) (p1:Int×Int):Option Bool:=
 aH xW (p0,0,p1)
def c35:bK:=⟨aC.cons (aM.sl kB) (aC.one (aM.agg (cI.row kB))),aM.bool,fun a=>GZ a.1 a.2,.pure,false⟩
theorem aO6:aK tab 35 c35:=Oc aNN rfl aG [] trivial fun a=>by kernel_rfl
def lF (s:aQB):Option (cL aQB aV):=
 bif decide (s.2.1<(Int.ofNat s.2.2.2.1.length)) then
  (aO s.2.2.2.1 s.2.1).bind fun a0=>
  bif a0.1 !=s.1 then
   (aO s.2.2.2.1 s.2.1).bind fun a1=>
   (bE s.2.2.2.2.2.2 [a1]).bind fun l2=>
   some (.next (s.1,aA .i64 (s.2.1+1),s.2.2.1,s.2.2.2.1,s.2.2.2.2.1,s.2.2.2.2.2.1,l2))
  else
   some (.next (s.1,aA .i64 (s.2.1+1),s.2.2))
 else
  some (.done (aV.mk s.2.2.2.2.2.1 s.2.2.2.2.2.2))
def tC (p0:aV) (p1:Int):Option aV:=
 aH lF (p1,0,p0.next_,p0.list,0,p0.next_,[])
def aRE:bK:=⟨aC.cons (aM.agg gR) (aC.one (aM.int .i64)),aM.agg gR,fun a=>tC a.1 a.2,.frz,false⟩
theorem aJe:aK tab 253 aRE:=Oc aHo rfl aG [] trivial fun a=>by kernel_rfl
def rD (s:aOn):Option aQa:=
 bif decide (s.2.1<(Int.ofNat s.2.2.2.2.2.2.2.2.2.2.2.2.length)) then
  (aO s.2.2.2.2.2.2.2.2.2.2.2.2 s.2.1).bind fun a0=>
  bif a0.1==s.1 then
   some (.done s.2.1)
  else
   some (.next (s.1,aA .i64 (s.2.1+1),s.2.2))
 else
  some (.done (-1))
def qC (p0:aQ) (p1:Int):Option Int:=
 aH rD (p1,0,p0.now.1,p0.now.2,p0.field.points,p0.certs.next_,p0.certs.list,p0.agenda.slots.uses,p0.agenda.slots.used,p0.agenda.slots.free,p0.agenda.heap,p0.agenda.where_,p0.due)
def aO7:bK:=⟨aC.cons (aM.agg bU) (aC.one (aM.int .i64)),aM.int .i64,fun a=>qC a.1 a.2,.pure,false⟩
theorem YV:aK tab 254 aO7:=Oc aHp rfl aG [] trivial fun a=>by kernel_rfl
def qD (p0:aS) (p1:Int×Int):Option aS:=
 (nM p0).bind fun r0=>
 (aO r0.used p1.1).bind fun _=>
 (bE r0.free [p1.1]).bind fun l2=>
 some (aS.mk r0.uses (cA r0.used p1.1 false) l2)
def aRF:bK:=⟨aC.cons (aM.agg gJ) (aC.one (aM.agg (cI.row kB))),aM.agg gJ,fun a=>qD a.1 a.2,.frz,false⟩
theorem aJf:aK tab 287 aRF:=Oc aHI rfl aG [(202,aBZ),(202,SW)] ⟨J8,GV,trivial⟩ fun a=>by kernel_rfl
def fN (a:aOr):Option aOs:=
 (aO a.2.2.2.2.2.1 a.2.1).bind fun a0=>
 (aO a.2.2.2.2.2.1 a.1).bind fun a1=>
 (aO a.2.2.2.2.2.1 a.1).bind fun _=>
 (aO (cA a.2.2.2.2.2.1 a.1 a0) a.2.1).bind fun _=>
 (aO (cA (cA a.2.2.2.2.2.1 a.1 a0) a.2.1 a1) a.1).bind fun a4=>
 (aO (cA (cA a.2.2.2.2.2.1 a.1 a0) a.2.1 a1) a.2.1).bind fun a5=>
 (aO a.2.2.2.2.2.2 a4.2.2.2.1).bind fun _=>
 (aO (cA a.2.2.2.2.2.2 a4.2.2.2.1 a.1) a5.2.2.2.1).bind fun _=>
 bif a.2.2.1.length==a.2.2.1.length then
  bif a.2.2.2.1.length==a.2.2.2.1.length then
   bif a.2.2.2.2.1.length==a.2.2.2.2.1.length then
    bif ((cA (cA a.2.2.2.2.2.1 a.1 a0) a.2.1 a1).length)==a.2.2.2.2.2.1.length then
     bif ((cA (cA a.2.2.2.2.2.2 a4.2.2.2.1 a.1) a5.2.2.2.1 a.2.1).length)==a.2.2.2.2.2.2.length then
      some (a.2.2.1,a.2.2.2.1,a.2.2.2.2.1,cA (cA a.2.2.2.2.2.1 a.1 a0) a.2.1 a1,cA (cA a.2.2.2.2.2.2 a4.2.2.2.1 a.1) a5.2.2.2.1 a.2.1)
     else
      none
    else
     none
   else
    none
  else
   none
 else
  none
def FN:eE:=⟨[.i,.i,.l [.i .i64],.l [.b],.l [.i .i64],.l [.i .i64,.i .i64,.i .i64,.i .i64,.i .i64],.l [.i .i64]],[.agg [.own 0 false,.own 1 false,.own 2 false,.own 3 false,.own 4 false],.int .i64 0,.int .i64 0],[.arr [.i .i64] [],.arr [.b] [],.arr [.i .i64] [],.arr [.i .i64,.i .i64,.i .i64,.i .i64,.i .i64] [],.arr [.i .i64] []],[.l [.i .i64],.l [.b],.l [.i .i64],.l [.i .i64,.i .i64,.i .i64,.i .i64,.i .i64],.l [.i .i64]],.tup [],[.arr [.i .i64] [],.arr [.b] [],.arr [.i .i64] [],.arr [.i .i64,.i .i64,.i .i64,.i .i64,.i .i64] [],.arr [.i .i64] []],fun a=>fN a⟩
theorem vV:lN tab 286 FN:=lN.of P5 (wd:=false) (cx:=(pK aG [] [] [] [])) (mL.make trivial trivial trivial) (fun a=>by kernel_rfl)
def gP (a:((List Int)×(List Bool)×(List Int)×Nat×Nat×Int×Int×kJ×(List Int))):Option NG:=
 (aO (a.2.2.2.2.2.2.2.1.take a.2.2.2.1) a.2.2.2.2.2.2.1).bind fun a0=>
 (aO (a.2.2.2.2.2.2.2.1.take a.2.2.2.1) a.2.2.2.2.2.1).bind fun a1=>
 (aO (a.2.2.2.2.2.2.2.1.take a.2.2.2.1) a.2.2.2.2.2.1).bind fun _=>
 (aO ((cA a.2.2.2.2.2.2.2.1 a.2.2.2.2.2.1 a0).take a.2.2.2.1) a.2.2.2.2.2.2.1).bind fun _=>
 (aO ((cA (cA a.2.2.2.2.2.2.2.1 a.2.2.2.2.2.1 a0) a.2.2.2.2.2.2.1 a1).take a.2.2.2.1) a.2.2.2.2.2.1).bind fun a4=>
 (aO ((cA (cA a.2.2.2.2.2.2.2.1 a.2.2.2.2.2.1 a0) a.2.2.2.2.2.2.1 a1).take a.2.2.2.1) a.2.2.2.2.2.2.1).bind fun a5=>
 (aO a.2.2.2.2.2.2.2.2 a4.2.2.2.1).bind fun _=>
 (aO (cA a.2.2.2.2.2.2.2.2 a4.2.2.2.1 a.2.2.2.2.2.1) a5.2.2.2.1).bind fun _=>
 bif ((cA (cA a.2.2.2.2.2.2.2.1 a.2.2.2.2.2.1 a0) a.2.2.2.2.2.2.1 a1).length)==a.2.2.2.2.2.2.2.1.length then
  bif ((cA (cA a.2.2.2.2.2.2.2.2 a4.2.2.2.1 a.2.2.2.2.2.1) a5.2.2.2.1 a.2.2.2.2.2.2.1).length)==a.2.2.2.2.2.2.2.2.length then
   some (cA (cA a.2.2.2.2.2.2.2.1 a.2.2.2.2.2.1 a0) a.2.2.2.2.2.2.1 a1,cA (cA a.2.2.2.2.2.2.2.2 a4.2.2.2.1 a.2.2.2.2.2.1) a5.2.2.2.1 a.2.2.2.2.2.2.1)
  else
   none
 else
  none
def FO:eE:=⟨[.l [.i .i64],.l [.b],.l [.i .i64],.n,.n,.i,.i,.l [.i .i64,.i .i64,.i .i64,.i .i64,.i .i64],.l [.i .i64]],[.agg [.sl [.i .i64] [],.sl [.b] [],.sl [.i .i64] [],.pre 0 0 0 false,.own 1 false],.int .i64 0,.int .i64 0],[.arr [.i .i64,.i .i64,.i .i64,.i .i64,.i .i64] [],.arr [.i .i64] []],[.l [.i .i64,.i .i64,.i .i64,.i .i64,.i .i64],.l [.i .i64]],.tup [],[.arr [.i .i64,.i .i64,.i .i64,.i .i64,.i .i64] [],.arr [.i .i64] []],fun a=>gP a⟩
theorem vW:lN tab 286 FO:=lN.of P5 (wd:=false) (cx:=(pK aG [] [] [] [])) (mL.make trivial trivial trivial) (fun a=>by kernel_rfl)
def iC (c0:aHX) (s:aHY):Option (cL aHY aH1):=
 bif decide (0<s.1) then
  (aO (s.2.1.take s.2.2.2.2.2.2.1) s.1).bind fun a0=>
  (aO (s.2.1.take s.2.2.2.2.2.2.1) (aA .i64 (Int.tdiv (aA .i64 (s.1-1)) 2))).bind fun a1=>
  (eM a0 a1).bind fun b2=>
  bif b2 then
   (gP (s.2.2.2.1,s.2.2.2.2.1,s.2.2.2.2.2.1,s.2.2.2.2.2.2.1,s.2.2.2.2.2.2.2,s.1,aA .i64 (Int.tdiv (aA .i64 (s.1-1)) 2),s.2.1,s.2.2.1)).bind fun a3=>
   some (.next (aA .i64 (Int.tdiv (aA .i64 (s.1-1)) 2),a3.1,a3.2,s.2.2.2))
  else
   bif s.2.1.length==c0.2.2.2.2.2.2.1.length then
    bif s.2.2.1.length==c0.2.2.2.2.2.2.2.length then
     some (.done (s.1,s.2.1,s.2.2.1))
    else
     none
   else
    none
 else
  bif s.2.1.length==c0.2.2.2.2.2.2.1.length then
   bif s.2.2.1.length==c0.2.2.2.2.2.2.2.length then
    some (.done (s.1,s.2.1,s.2.2.1))
   else
    none
  else
   none
def nU (a:aHX):Option aH1:=
 aH (iC a) (a.2.2.2.2.2.1,a.2.2.2.2.2.2.1,a.2.2.2.2.2.2.2,a.1,a.2.1,a.2.2.1,a.2.2.2.1,a.2.2.2.2.1)
def QM:eE:=⟨[.l [.i .i64],.l [.b],.l [.i .i64],.n,.n,.i,.l [.i .i64,.i .i64,.i .i64,.i .i64,.i .i64],.l [.i .i64]],[.agg [.sl [.i .i64] [],.sl [.b] [],.sl [.i .i64] [],.pre 0 0 0 false,.own 1 false],.int .i64 0],[.arr [.i .i64,.i .i64,.i .i64,.i .i64,.i .i64] [],.arr [.i .i64] []],[.i,.l [.i .i64,.i .i64,.i .i64,.i .i64,.i .i64],.l [.i .i64]],.int .i64 0,[.arr [.i .i64,.i .i64,.i .i64,.i .i64,.i .i64] [],.arr [.i .i64] []],fun a=>nU a⟩
theorem IQ:lN tab 289 QM:=lN.of P6 (wd:=true) (cx:=(pK aG [(191,VY)] [(286,FN),(286,FO)] [] [])) (mL.make ⟨DX,trivial⟩ ⟨vV,vW,trivial⟩ trivial) (fun a=>by kernel_rfl)
end
end
end Go.Proofs.YthljmpcakagceaaGreat
