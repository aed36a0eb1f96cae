/- Plain functions for what the functions of the seat compute. Printed by a program. -/
import Derived.Test.YticklbjcnimggaaGreatBVm3
import Derived.Test.YticklbjcnimggaaGreatBQXT
set_option maxRecDepth 100000
namespace Go.Proofs.YticklbjcnimggaaGreat
open Go.Vm
noncomputable section
theorem Oc {f:FuncId} {x:aN} {α β:Type} {args:aB α} {res:aK β} {kd:Kd} {fn:α->Option β} {ow:Bool} (hf:aV f=some (.code x)) (ho:aCE kd ow=true) (lp:Option Nat) (l:List (Nat×bJ)) (h:EU aV l) (e: ∀a,aIM (pW lp l [] [] []) x args res kd a=fn a):aJ aV f ⟨args,res,fn,kd,ow⟩:=aJ.of hf (cx:=pW lp l [] [] []) ho (mK.make h trivial trivial) e
abbrev eM:List PT:=[.i .i64,.i .i64,.i .i64]
abbrev ki:List PT:=[.i .i64]
abbrev kb:List PT:=[.b]
abbrev lJ:List PT:=[.i .i64,.i .i64,.i .i64,.i .i64,.i .i64]
abbrev iE:List PT:=[.i .i64,.i .i64]
abbrev aO9:List PT:=[.i .i64,.i .i64,.i .i64,.i .i64]
abbrev kiu:List PT:=[.i .i64,.i .u64]
abbrev CA:List PT:=[.b,.i .u64,.i .u64]
structure Field where
 points:List (Int×Int×Int)
def bW:cI Field:=cI.iso (cI.sl eM) (fun p=>⟨p⟩) (fun c=>c.points) (fun _=>rfl)
structure aR where
 uses:List Int
 used:List Bool
 free:List Int
def fK:cI aR:=cI.iso (cI.prod (cI.sl ki) (cI.prod (cI.sl kb) (cI.sl ki))) (fun p=>⟨p.1,p.2.1,p.2.2⟩) (fun c=>(c.uses,c.used,c.free)) (fun _=>rfl)
structure aI where
 slots:aR
 heap:List (Int×Int×Int×Int×Int)
 where_:List Int
def cS:cI aI:=cI.iso (cI.prod fK (cI.prod (cI.sl lJ) (cI.sl ki))) (fun p=>⟨p.1,p.2.1,p.2.2⟩) (fun c=>(c.slots,c.heap,c.where_)) (fun _=>rfl)
structure aW where
 next_:Int
 list:List (Int×Int×Int)
def gH:cI aW:=cI.iso (cI.prod (cI.int .i64) (cI.sl eM)) (fun p=>⟨p.1,p.2⟩) (fun c=>(c.next_,c.list)) (fun _=>rfl)
structure aQ where
 now:Int×Int
 field:Field
 certs:aW
 agenda:aI
 due:List (Int×Int×Int)
def bN:cI aQ:=cI.iso (cI.prod (cI.row iE) (cI.prod bW (cI.prod gH (cI.prod cS (cI.sl eM))))) (fun p=>⟨p.1,p.2.1,p.2.2.1,p.2.2.2.1,p.2.2.2.2⟩) (fun c=>(c.now,c.field,c.certs,c.agenda,c.due)) (fun _=>rfl)
structure rO where
 root:Int
 nodes:List (Int×Int×Int)
def xW:cI rO:=cI.iso (cI.prod (cI.int .i64) (cI.sl eM)) (fun p=>⟨p.1,p.2⟩) (fun c=>(c.root,c.nodes)) (fun _=>rfl)
structure dX where
 clock:aQ
 tree:rO
def gL:cI dX:=cI.iso (cI.prod bN xW) (fun p=>⟨p.1,p.2⟩) (fun c=>(c.clock,c.tree)) (fun _=>rfl)
def pJ (p0:Field):Option Bool:=
 bif decide (16<(Int.ofNat p0.points.length)) then
  bif decide ((Int.ofNat p0.points.length)<64) then
   some true
  else
   some (decide (70<(Int.ofNat p0.points.length)))
 else
  some (decide (70<(Int.ofNat p0.points.length)))
def c15:bJ:=⟨aB.one (aK.agg bW),aK.bool,fun a=>pJ a,.pure,false⟩
theorem aBd:aJ aV 15 c15:=Oc aMi rfl aG [] trivial fun a=>by kernel_rfl
def CB (p0:aR):Option Bool:=
 bif decide (210<(Int.ofNat p0.uses.length)) then
  some true
 else
  bif decide (210<(Int.ofNat p0.used.length)) then
   some true
  else
   some (decide (210<(Int.ofNat p0.free.length)))
def aPa:bJ:=⟨aB.one (aK.agg fK),aK.bool,fun a=>CB a,.pure,false⟩
theorem aGD:aJ aV 105 aPa:=Oc aER rfl aG [] trivial fun a=>by kernel_rfl
def CC (p0:aI):Option Bool:=
 (CB p0.slots).bind fun b0=>
 bif b0 then
  some true
 else
  bif decide (210<(Int.ofNat p0.heap.length)) then
   some true
  else
   some (decide (210<(Int.ofNat p0.where_.length)))
def c55:bJ:=⟨aB.one (aK.agg cS),aK.bool,fun a=>CC a,.pure,false⟩
theorem aNj:aJ aV 55 c55:=Oc aMM rfl aG [(105,aPa)] ⟨aGD,trivial⟩ fun a=>by kernel_rfl
def tM (p0:aQ):Option Bool:=
 bif decide (40<(Int.ofNat p0.certs.list.length)) then
  some true
 else
  bif decide (40<(Int.ofNat p0.due.length)) then
   some true
  else
   (pJ p0.field).bind fun b0=>
   bif b0 then
    some true
   else
    (CC p0.agenda).bind fun b1=>
    some b1
def c24:bJ:=⟨aB.one (aK.agg bN),aK.bool,fun a=>tM a,.pure,false⟩
theorem aNk:aJ aV 24 c24:=Oc aMr rfl aG [(15,c15),(55,c55)] ⟨aBd,aNj,trivial⟩ fun a=>by kernel_rfl
def CD (p0:rO):Option Bool:=
 some (decide (70<(Int.ofNat p0.nodes.length)))
def c25:bJ:=⟨aB.one (aK.agg xW),aK.bool,fun a=>CD a,.pure,false⟩
theorem aNl:aJ aV 25 c25:=Oc aMs rfl aG [] trivial fun a=>by kernel_rfl
def tN (p0:dX):Option Bool:=
 (tM p0.clock).bind fun b0=>
 bif b0 then
  some true
 else
  (CD p0.tree).bind fun b1=>
  some b1
def c6:bJ:=⟨aB.one (aK.agg gL),aK.bool,fun a=>tN a,.pure,false⟩
theorem aPb:aJ aV 6 c6:=Oc aO8 rfl aG [(24,c24),(25,c25)] ⟨aNk,aNl,trivial⟩ fun a=>by kernel_rfl
def qE (p0:Int):Option Bool:=
 bif decide (p0<(-1048576)) then
  some true
 else
  some (decide (1048576<p0))
def aPc:bJ:=⟨aB.one (aK.int .i64),aK.bool,fun a=>qE a,.pure,false⟩
theorem aGE:aJ aV 181 aPc:=Oc aFY rfl aG [] trivial fun a=>by kernel_rfl
def nO (p0:Int×Int×Int):Option Int:=
 bif decide (p0.1<0) then
  some 8
 else
  bif decide (65535<p0.1) then
   some 8
  else
   (qE p0.2.1).bind fun b0=>
   bif b0 then
    some 8
   else
    (qE p0.2.2).bind fun b1=>
    bif b1 then
     some 8
    else
     some 0
def aNm:bJ:=⟨aB.one (aK.agg (cI.row eM)),aK.int .i64,fun a=>nO a,.pure,false⟩
theorem XF:aJ aV 136 aNm:=Oc aFi rfl aG [(181,aPc)] ⟨aGE,trivial⟩ fun a=>by kernel_rfl
abbrev bO:=List (Int×Int×Int)
abbrev aBe:=bO×Int×Int×bO
def iK (s:aBe):Option (cE aBe (cE aBe Int)):=
 bif decide (s.2.2.1<s.2.1) then
  (aO s.1 s.2.2.1).bind fun a0=>
  bif decide (0<s.2.2.1) then
   (aO s.2.2.2 (aA .i64 (s.2.2.1-1))).bind fun a1=>
   bif decide (a0.1<=a1.1) then
    some (.done (.done 32))
   else
    some (.next (s.1,s.2.1,aA .i64 (s.2.2.1+1),s.2.2.2))
  else
   some (.next (s.1,s.2.1,aA .i64 (s.2.2.1+1),s.2.2.2))
 else
  some (.done (.done 0))
def mU (s:aBe):Option (cE aBe Int):=
 bif decide (s.2.2.1<s.2.1) then
  (aO s.1 s.2.2.1).bind fun a0=>
  (nO a0).bind fun n1=>
  bif n1 !=0 then
   some (.done n1)
  else
   some (.next (s.1,s.2.1,aA .i64 (s.2.2.1+1),s.2.2.2))
 else
  aH iK (s.2.2.2,Int.ofNat s.2.2.2.length,0,s.2.2.2)
def fE (p0:Field):Option Int:=
 bif decide (64<(Int.ofNat p0.points.length)) then
  some 4
 else
  aH mU (p0.points,Int.ofNat p0.points.length,0,p0.points)
def c84:bJ:=⟨aB.one (aK.agg bW),aK.int .i64,fun a=>fE a,.pure,false⟩
theorem HT:aJ aV 84 c84:=Oc aM4 rfl aG [(136,aNm)] ⟨XF,trivial⟩ fun a=>by kernel_rfl
def mD (p0:Int):Option Int:=
 bif decide (p0<0) then
  some (aA .u64 (0- (aA .u64 p0)))
 else
  some (aA .u64 p0)
def c72:bJ:=⟨aB.one (aK.int .i64),aK.int .u64,fun a=>mD a,.pure,false⟩
theorem UO:aJ aV 72 c72:=Oc aMX rfl aG [] trivial fun a=>by kernel_rfl
def uR (s:(Int×Int)):Option (cE (Int×Int) Int):=
 bif decide (0<s.2) then
  bif s.2==0 then
   none
  else
   some (.next (s.2,Int.tmod s.1 s.2))
 else
  some (.done s.1)
def zA (p0:Int) (p1:Int):Option Int:=
 aH uR (p0,p1)
def c71:bJ:=⟨aB.cons (aK.int .u64) (aB.one (aK.int .u64)),aK.int .u64,fun a=>zA a.1 a.2,.pure,false⟩
theorem aBf:aJ aV 71 c71:=Oc aMW rfl aG [] trivial fun a=>by kernel_rfl
def gA (p0:Int×Int):Option Int:=
 bif decide (p0.2<1) then
  some 8
 else
  bif p0.1==(-9223372036854775808) then
   some 8
  else
   (mD p0.1).bind fun n0=>
   (zA (aA .u64 p0.2) n0).bind fun n1=>
   bif decide (1<n1) then
    some 8
   else
    some 0
def c35:bJ:=⟨aB.one (aK.agg (cI.row iE)),aK.int .i64,fun a=>gA a,.pure,false⟩
theorem CE:aJ aV 35 c35:=Oc aMw rfl aG [(72,c72),(71,c71)] ⟨UO,aBf,trivial⟩ fun a=>by kernel_rfl
def IV (s:(Int×Int×Int×(List Int)×(List Bool)×(List Int))):Option (cE (Int×Int×Int×(List Int)×(List Bool)×(List Int)) (aR×Int)):=
 bif decide (s.2.2.1<s.2.1) then
  (aO s.2.2.2.2.2 s.2.2.1).bind fun _=>
  some (.next (s.1,s.2.1,aA .i64 (s.2.2.1+1),s.2.2.2.1,s.2.2.2.2.1,bX s.2.2.2.2.2 s.2.2.1 (aA .i64 ((aA .i64 (s.1-1)) -s.2.2.1))))
 else
  some (.done (aR.mk s.2.2.2.1 s.2.2.2.2.1 s.2.2.2.2.2,0))
def F7 (p0:Int):Option (aR×Int):=
 bif decide (p0<1) then
  some (aR.mk [] [] [],2)
 else
  bif decide (200<p0) then
   some (aR.mk [] [] [],2)
  else
   bif p0==p0 then
    (tJ p0 (0:Int)).bind fun l0=>
    bif p0==p0 then
     (tJ p0 (false:Bool)).bind fun l1=>
     bif p0==p0 then
      (tJ p0 (0:Int)).bind fun l2=>
      aH IV (p0,p0,0,l0,l1,l2)
     else
      none
    else
     none
   else
    none
def aPd:bJ:=⟨aB.one (aK.int .i64),aK.tup (aB.cons (aK.agg fK) (aB.one (aK.int .i64))),fun a=>F7 a,.frz,false⟩
theorem aGG:aJ aV 137 aPd:=Oc aFj rfl aG [] trivial fun a=>by kernel_rfl
def JB (p0:Int) (p1:Int):Option (Int×Int):=
 some (aA .u32 (rL .u64 (aA .u64 ((aA .u64 p0)*(aA .u64 p1))) 32),aA .u32 (aA .u64 ((aA .u64 p0)*(aA .u64 p1))))
def aPe:bJ:=⟨aB.cons (aK.int .u32) (aB.one (aK.int .u32)),aK.tup (aB.cons (aK.int .u32) (aB.one (aK.int .u32))),fun a=>JB a.1 a.2,.pure,false⟩
theorem aGH:aJ aV 209 aPe:=Oc aGl rfl aG [] trivial fun a=>by kernel_rfl
def gB (p0:Int) (p1:Int):Option (Int×Int):=
 some (aA .u64 ((aA .u64 ((aA .u64 ((rL .u64 p0 32)*(rL .u64 p1 32)))+(rL .u64 (aA .u64 ((aA .u64 ((rL .u64 p0 32)*(I9 .u64 p1 4294967295)))+(rL .u64 (aA .u64 ((I9 .u64 p0 4294967295)*(I9 .u64 p1 4294967295))) 32))) 32)))+(rL .u64 (aA .u64 ((I9 .u64 (aA .u64 ((aA .u64 ((rL .u64 p0 32)*(I9 .u64 p1 4294967295)))+(rL .u64 (aA .u64 ((I9 .u64 p0 4294967295)*(I9 .u64 p1 4294967295))) 32))) 4294967295)+(aA .u64 ((I9 .u64 p0 4294967295)*(rL .u64 p1 32))))) 32)),aA .u64 (p0*p1))
def aGI:bJ:=⟨aB.cons (aK.int .u64) (aB.one (aK.int .u64)),aK.tup (aB.cons (aK.int .u64) (aB.one (aK.int .u64))),fun a=>gB a.1 a.2,.pure,false⟩
theorem PC:aJ aV 121 aGI:=Oc aE5 rfl aG [] trivial fun a=>by kernel_rfl
def xX (p0:Int) (p1:Int):Option (Int×Int):=
 (gB p0 p1).bind fun a0=>
 some a0
def aNo:bJ:=⟨aB.cons (aK.int .u64) (aB.one (aK.int .u64)),aK.tup (aB.cons (aK.int .u64) (aB.one (aK.int .u64))),fun a=>xX a.1 a.2,.pure,false⟩
theorem XG:aJ aV 182 aNo:=Oc aFZ rfl aG [(209,aPe),(121,aGI)] ⟨aGH,PC,trivial⟩ fun a=>by kernel_rfl
def mV (s:(Int×(List Int))):Option (cE (Int×(List Int)) (List Int)):=
 bif decide (s.1<(Int.ofNat s.2.length)) then
  bif ((decide (0<=s.1))&&(decide (s.1<=(Int.ofNat s.2.length))))&&(decide ((Int.ofNat s.2.length)<=(Int.ofNat s.2.length))) then
   (iI s.2 0 s.1).bind fun _=>
   bif ((s.2.take s.1.toNat).take (((Int.ofNat s.2.length).toNat) -s.1.toNat)).isEmpty then
    some (.next (aA .i64 (s.1+0),s.2))
   else
    bif (Nat.ble ((0+s.1.toNat)+(((s.2.take s.1.toNat).take (((Int.ofNat s.2.length).toNat) -s.1.toNat)).length)) s.2.length)&&(!false) then
     some (.next (aA .i64 (s.1+(Int.ofNat (((s.2.take s.1.toNat).take (((Int.ofNat s.2.length).toNat) -s.1.toNat)).length))),fL s.2 (0+s.1.toNat) ((s.2.take s.1.toNat).take (((Int.ofNat s.2.length).toNat) -s.1.toNat))))
    else
     none
  else
   none
 else
  some (.done s.2)
def jE (p0:List Int) (p1:Int):Option (List Int):=
 bif decide (p1<0) then
  none
 else
  (xX (aA .u64 (Int.ofNat p0.length)) (aA .u64 p1)).bind fun a0=>
  bif decide (0<a0.1) then
   none
  else
   bif decide (9223372036854775807<a0.2) then
    none
   else
    bif (aA .i64 a0.2)==(aA .i64 a0.2) then
     (tJ (aA .i64 a0.2) (0:Int)).bind fun l1=>
     bif (p0.take l1.length).isEmpty then
      aH mV (0,l1)
     else
      bif (Nat.ble (0+((p0.take l1.length).length)) l1.length)&&(!false) then
       aH mV (Int.ofNat ((p0.take l1.length).length),fL l1 0 (p0.take l1.length))
      else
       none
    else
     none
def aPf:bJ:=⟨aB.cons (aK.sl ki) (aB.one (aK.int .i64)),aK.sl ki,fun a=>jE a.1 a.2,.own,true⟩
def aIS:bJ:=⟨aB.cons (aK.sl ki) (aB.one (aK.int .i64)),aK.sl ki,fun a=>jE a.1 a.2,.frz,false⟩
theorem aGJ:aJ aV 138 aPf:=Oc W9 rfl aG [(182,aNo)] ⟨XG,trivial⟩ fun a=>by kernel_rfl
theorem aBg:aJ aV 138 aIS:=Oc W9 rfl aG [(182,aNo)] ⟨XG,trivial⟩ fun a=>by kernel_rfl
def AL (p0:Int):Option (aI×Int):=
 (F7 p0).bind fun a0=>
 bif a0.2 !=0 then
  some (aI.mk (aR.mk [] [] []) [] [],a0.2)
 else
  (jE [-1] p0).bind fun l1=>
  some (aI.mk a0.1 [] l1,0)
def c85:bJ:=⟨aB.one (aK.int .i64),aK.tup (aB.cons (aK.agg cS) (aB.one (aK.int .i64))),fun a=>AL a,.frz,false⟩
theorem aNp:aJ aV 85 c85:=Oc aM5 rfl aG [(137,aPd),(138,aPf),(138,aIS)] ⟨aGG,aGJ,aBg,trivial⟩ fun a=>by kernel_rfl
theorem C5:aJ aV 64 (bJ.clone eM):=aJ.clone aMQ rfl
def C6 (p0:Field) (p1:Int×Int):Option (aQ×Int):=
 (fE p0).bind fun n0=>
 bif n0 !=0 then
  some (aQ.mk (0,0) (Field.mk []) (aW.mk 0 []) (aI.mk (aR.mk [] [] []) [] []) [],n0)
 else
  (gA p1).bind fun n1=>
  bif n1 !=0 then
   some (aQ.mk (0,0) (Field.mk []) (aW.mk 0 []) (aI.mk (aR.mk [] [] []) [] []) [],n1)
  else
   (AL 200).bind fun a2=>
   (cB p0.points).bind fun l3=>
   some (aQ.mk p1 (Field.mk l3) (aW.mk 0 []) a2.1 [],a2.2)
def c43:bJ:=⟨aB.cons (aK.agg bW) (aB.one (aK.agg (cI.row iE))),aK.tup (aB.cons (aK.agg bN) (aB.one (aK.int .i64))),fun a=>C6 a.1 a.2,.frz,false⟩
theorem aNq:aJ aV 43 c43:=Oc aMA rfl aG [(84,c84),(35,c35),(85,c85),(64,bJ.clone eM)] ⟨HT,CE,aNp,C5,trivial⟩ fun a=>by kernel_rfl
def AM (p0:Field) (p1:Int×Int):Option Int:=
 (fE p0).bind fun n0=>
 bif n0 !=0 then
  some n0
 else
  (gA p1).bind fun n1=>
  some n1
def aPg:bJ:=⟨aB.cons (aK.agg bW) (aB.one (aK.agg (cI.row iE))),aK.int .i64,fun a=>AM a.1 a.2,.pure,false⟩
theorem aGK:aJ aV 107 aPg:=Oc aES rfl aG [(84,c84),(35,c35)] ⟨HT,CE,trivial⟩ fun a=>by kernel_rfl
def rQ (p0:Int×Int×Int) (p1:Int×Int×Int) (p2:Int×Int):Option Int:=
 (nO p0).bind fun n0=>
 (nO p1).bind fun n1=>
 (gA p2).bind fun n2=>
 bif (if n2>(if n1>n0 then n1 else n0) then n2 else if n1>n0 then n1 else n0) !=0 then
  some (if n2>(if n1>n0 then n1 else n0) then n2 else if n1>n0 then n1 else n0)
 else
  bif p0.1==p1.1 then
   some 2
  else
   some 0
def aGL:bJ:=⟨aB.cons (aK.agg (cI.row eM)) (aB.cons (aK.agg (cI.row eM)) (aB.one (aK.agg (cI.row iE)))),aK.int .i64,fun a=>rQ a.1 a.2.1 a.2.2,.pure,false⟩
theorem PD:aJ aV 155 aGL:=Oc aFz rfl aG [(136,aNm),(35,c35)] ⟨XF,CE,trivial⟩ fun a=>by kernel_rfl
theorem aBh:aJ aV 215 (bJ.add64):=aJ.add64 aGr
def oI (s:(Int×Int×Int×Int×Int×Int×Int×Int×Int)):Option (cE (Int×Int×Int×Int×Int×Int×Int×Int×Int) (Int×Int)):=
 bif decide (s.2.2.2.2.1<2) then
  bif s.2.2.2.2.1==0 then
   (gB (aA .u64 s.1) (aA .u64 s.2.1)).bind fun a0=>
   bif decide (s.1<0) then
    bif decide (s.2.1<0) then
     (rN s.2.2.2.2.2.2.2.2 a0.2 0).bind fun a1=>
     some (.next (s.1,s.2.1,s.2.2.1,s.2.2.2.1,aA .i64 (s.2.2.2.2.1+1),s.2.2.2.2.2.1,s.2.2.2.2.2.2.1,aA .i64 ((aA .i64 (s.2.2.2.2.2.2.2.1+(aA .i64 ((aA .i64 ((aA .i64 a0.1) -s.2.1)) -s.1))))+(aA .i64 a1.2)),a1.1))
    else
     (rN s.2.2.2.2.2.2.2.2 a0.2 0).bind fun a2=>
     some (.next (s.1,s.2.1,s.2.2.1,s.2.2.2.1,aA .i64 (s.2.2.2.2.1+1),s.2.2.2.2.2.1,s.2.2.2.2.2.2.1,aA .i64 ((aA .i64 (s.2.2.2.2.2.2.2.1+(aA .i64 ((aA .i64 a0.1) -s.2.1))))+(aA .i64 a2.2)),a2.1))
   else
    bif decide (s.2.1<0) then
     (rN s.2.2.2.2.2.2.2.2 a0.2 0).bind fun a3=>
     some (.next (s.1,s.2.1,s.2.2.1,s.2.2.2.1,aA .i64 (s.2.2.2.2.1+1),s.2.2.2.2.2.1,s.2.2.2.2.2.2.1,aA .i64 ((aA .i64 (s.2.2.2.2.2.2.2.1+(aA .i64 ((aA .i64 a0.1) -s.1))))+(aA .i64 a3.2)),a3.1))
    else
     (rN s.2.2.2.2.2.2.2.2 a0.2 0).bind fun a4=>
     some (.next (s.1,s.2.1,s.2.2.1,s.2.2.2.1,aA .i64 (s.2.2.2.2.1+1),s.2.2.2.2.2.1,s.2.2.2.2.2.2.1,aA .i64 ((aA .i64 (s.2.2.2.2.2.2.2.1+(aA .i64 a0.1)))+(aA .i64 a4.2)),a4.1))
  else
   bif s.2.2.2.2.1==1 then
    (gB (aA .u64 s.2.2.1) (aA .u64 s.2.2.2.1)).bind fun a5=>
    bif decide (s.2.2.1<0) then
     bif decide (s.2.2.2.1<0) then
      (rN s.2.2.2.2.2.2.2.2 a5.2 0).bind fun a6=>
      some (.next (s.1,s.2.1,s.2.2.1,s.2.2.2.1,aA .i64 (s.2.2.2.2.1+1),s.2.2.2.2.2.1,s.2.2.2.2.2.2.1,aA .i64 ((aA .i64 (s.2.2.2.2.2.2.2.1+(aA .i64 ((aA .i64 ((aA .i64 a5.1) -s.2.2.2.1)) -s.2.2.1))))+(aA .i64 a6.2)),a6.1))
     else
      (rN s.2.2.2.2.2.2.2.2 a5.2 0).bind fun a7=>
      some (.next (s.1,s.2.1,s.2.2.1,s.2.2.2.1,aA .i64 (s.2.2.2.2.1+1),s.2.2.2.2.2.1,s.2.2.2.2.2.2.1,aA .i64 ((aA .i64 (s.2.2.2.2.2.2.2.1+(aA .i64 ((aA .i64 a5.1) -s.2.2.2.1))))+(aA .i64 a7.2)),a7.1))
    else
     bif decide (s.2.2.2.1<0) then
      (rN s.2.2.2.2.2.2.2.2 a5.2 0).bind fun a8=>
      some (.next (s.1,s.2.1,s.2.2.1,s.2.2.2.1,aA .i64 (s.2.2.2.2.1+1),s.2.2.2.2.2.1,s.2.2.2.2.2.2.1,aA .i64 ((aA .i64 (s.2.2.2.2.2.2.2.1+(aA .i64 ((aA .i64 a5.1) -s.2.2.1))))+(aA .i64 a8.2)),a8.1))
     else
      (rN s.2.2.2.2.2.2.2.2 a5.2 0).bind fun a9=>
      some (.next (s.1,s.2.1,s.2.2.1,s.2.2.2.1,aA .i64 (s.2.2.2.2.1+1),s.2.2.2.2.2.1,s.2.2.2.2.2.2.1,aA .i64 ((aA .i64 (s.2.2.2.2.2.2.2.1+(aA .i64 a5.1)))+(aA .i64 a9.2)),a9.1))
   else
    none
 else
  some (.done s.2.2.2.2.2.2.2)
def AN (p0:Int×Int×Int×Int):Option (Int×Int):=
 aH oI (p0.1,p0.2.1,p0.2.2.1,p0.2.2.2,0,0,0,0,0)
def aPh:bJ:=⟨aB.one (aK.agg (cI.row aO9)),aK.agg (cI.row kiu),fun a=>AN a,.pure,false⟩
theorem aGM:aJ aV 192 aPh:=Oc aF9 rfl aG [(121,aGI),(215,bJ.add64)] ⟨PC,aBh,trivial⟩ fun a=>by kernel_rfl
def oR (p0:Int):Option Bool:=
 some (p0 !=p0)
def aPi:bJ:=⟨aB.one (aK.int .i64),aK.bool,fun a=>oR a,.pure,false⟩
theorem aGN:aJ aV 119 aPi:=Oc aE3 rfl aG [] trivial fun a=>by kernel_rfl
def jF (p0:Int) (p1:Int):Option Int:=
 (oR p0).bind fun b0=>
 (oR p1).bind fun b1=>
 bif b0 then
  bif b1 then
   some 0
  else
   some (-1)
 else
  bif b1 then
   some 1
  else
   bif decide (p0<p1) then
    some (-1)
   else
    bif decide (p1<p0) then
     some 1
    else
     some 0
def c74:bJ:=⟨aB.cons (aK.int .i64) (aB.one (aK.int .i64)),aK.int .i64,fun a=>jF a.1 a.2,.pure,false⟩
theorem aBi:aJ aV 74 c74:=Oc aMZ rfl aG [(119,aPi)] ⟨aGN,trivial⟩ fun a=>by kernel_rfl
def sJ (p0:Int):Option Bool:=
 some (p0 !=p0)
def aPj:bJ:=⟨aB.one (aK.int .i64),aK.bool,fun a=>sJ a,.pure,false⟩
theorem aGO:aJ aV 197 aPj:=Oc aGe rfl aG [] trivial fun a=>by kernel_rfl
def fB (p0:Int) (p1:Int):Option Int:=
 (sJ p0).bind fun b0=>
 (sJ p1).bind fun b1=>
 bif b0 then
  bif b1 then
   some 0
  else
   some (-1)
 else
  bif b1 then
   some 1
  else
   bif decide (p0<p1) then
    some (-1)
   else
    bif decide (p1<p0) then
     some 1
    else
     some 0
def UP:bJ:=⟨aB.cons (aK.int .i64) (aB.one (aK.int .i64)),aK.int .i64,fun a=>fB a.1 a.2,.pure,false⟩
theorem C7:aJ aV 164 UP:=Oc aFH rfl aG [(197,aPj)] ⟨aGO,trivial⟩ fun a=>by kernel_rfl
def xY (s:(Int×(List Int)×Int×Int)):Option (cE (Int×(List Int)×Int×Int) Int):=
 bif decide (s.2.2.2<s.2.2.1) then
  (aO s.2.1 s.2.2.2).bind fun n0=>
  bif n0 !=s.1 then
   some (.done n0)
  else
   some (.next (s.1,s.2.1,s.2.2.1,aA .i64 (s.2.2.2+1)))
 else
  some (.done s.1)
def vO (p0:List Int):Option Int:=
 aH xY (0,p0,Int.ofNat p0.length,0)
def aNr:bJ:=⟨aB.one (aK.sl ki),aK.int .i64,fun a=>vO a,.pure,false⟩
theorem XH:aJ aV 187 aNr:=Oc aF4 rfl aG [] trivial fun a=>by kernel_rfl
def mW (p0:Int×Int×Int) (p1:Int×Int×Int) (p2:Int×Int):Option Int:=
 (AN (aA .i64 (p0.2.1-p1.2.1),p2.2,aA .i64 (p0.2.2-p1.2.2),p2.1)).bind fun a0=>
 bif !((a0.1==0)&&(a0.2==0)) then
  bif decide (a0.1<0) then
   some (-1)
  else
   some 1
 else
  (jF p0.2.2 p1.2.2).bind fun n1=>
  (fB p1.1 p0.1).bind fun n2=>
  (vO [n1,n2]).bind fun n3=>
  some n3
def aNs:bJ:=⟨aB.cons (aK.agg (cI.row eM)) (aB.cons (aK.agg (cI.row eM)) (aB.one (aK.agg (cI.row iE)))),aK.int .i64,fun a=>mW a.1 a.2.1 a.2.2,.pure,false⟩
theorem XI:aJ aV 156 aNs:=Oc aFA rfl aG [(192,aPh),(74,c74),(164,UP),(187,aNr)] ⟨aGM,aBi,C7,XH,trivial⟩ fun a=>by kernel_rfl
def nP (p0:Int×Int×Int) (p1:Int×Int×Int) (p2:Int×Int):Option (Bool×Int):=
 (rQ p0 p1 p2).bind fun n0=>
 bif n0 !=0 then
  some (false,n0)
 else
  (mW p0 p1 p2).bind fun n1=>
  some (decide (0<n1),0)
def aPk:bJ:=⟨aB.cons (aK.agg (cI.row eM)) (aB.cons (aK.agg (cI.row eM)) (aB.one (aK.agg (cI.row iE)))),aK.tup (aB.cons aK.bool (aB.one (aK.int .i64))),fun a=>nP a.1 a.2.1 a.2.2,.pure,false⟩
theorem aGP:aJ aV 108 aPk:=Oc aET rfl aG [(155,aGL),(156,aNs)] ⟨PD,XI,trivial⟩ fun a=>by kernel_rfl
abbrev aPl:=Nat×Nat×Int×bO×Int×Int×bO×Int×Int×Int×Int×bO×(List Int)×Int×Int×Int×Int×Int×Int
abbrev aPm:=Nat×Nat×bO×Int×Int×bO×Int×Int×Int×Int×bO×(List Int)
abbrev aPn:=cE aPm (rO×Int)
def qF (s:aPl):Option (cE aPl aPn):=
 match s with
 |(a,b,d,e,f,g,h,i,j,k,l,m,n,o,q,r,t,u,v)=>
  bif decide (0<(Int.ofNat a)) then
   (aO (n.take a) (aA .i64 ((Int.ofNat a) -1))).bind fun n0=>
   (aO h n0).bind fun a1=>
   (nP a1 (o,q,r) (i,j)).bind fun a2=>
   bif a2.1 then
    bif decide (0<(Int.ofNat a)) then
     (aO (n.take a) (aA .i64 ((Int.ofNat a) -1))).bind fun n3=>
     (aO m n3).bind fun a4=>
     (bH (bX m n3 (a4.1,a4.2.1,d)) [(t,u,v)]).bind fun l5=>
     bif Nat.ble (a+[d].length) b then
      bif (Nat.ble (a+[d].length) n.length)&&(!false) then
       some (.done (.next (a+[d].length,b,e,f,aA .i64 (g+1),h,i,j,k,l,l5,fL n a [d])))
      else
       none
     else
      (bH (n.take a) [d]).bind fun l6=>
      bif Nat.ble a n.length then
       some (.done (.next (l6.length,l6.length,e,f,aA .i64 (g+1),h,i,j,k,l,l5,l6)))
      else
       none
    else
     (bH m [(t,u,v)]).bind fun l7=>
     bif Nat.ble (a+[d].length) b then
      bif (Nat.ble (a+[d].length) n.length)&&(!false) then
       some (.done (.next (a+[d].length,b,e,f,aA .i64 (g+1),h,i,j,k,d,l7,fL n a [d])))
      else
       none
     else
      (bH (n.take a) [d]).bind fun l8=>
      bif Nat.ble a n.length then
       some (.done (.next (l8.length,l8.length,e,f,aA .i64 (g+1),h,i,j,k,d,l7,l8)))
      else
       none
   else
    bif (decide (0<=(aA .i64 ((Int.ofNat a) -1))))&&(decide ((aA .i64 ((Int.ofNat a) -1))<=(Int.ofNat b))) then
     some (.next ((aA .i64 ((Int.ofNat a) -1)).toNat,b,d,e,f,g,h,i,j,k,l,m,n,o,q,r,t,n0,v))
    else
     none
  else
   bif decide (0<(Int.ofNat a)) then
    (aO (n.take a) (aA .i64 ((Int.ofNat a) -1))).bind fun n9=>
    (aO m n9).bind fun a10=>
    (bH (bX m n9 (a10.1,a10.2.1,d)) [(t,u,v)]).bind fun l11=>
    bif Nat.ble (a+[d].length) b then
     bif (Nat.ble (a+[d].length) n.length)&&(!false) then
      some (.done (.next (a+[d].length,b,e,f,aA .i64 (g+1),h,i,j,k,l,l11,fL n a [d])))
     else
      none
    else
     (bH (n.take a) [d]).bind fun l12=>
     bif Nat.ble a n.length then
      some (.done (.next (l12.length,l12.length,e,f,aA .i64 (g+1),h,i,j,k,l,l11,l12)))
     else
      none
   else
    (bH m [(t,u,v)]).bind fun l13=>
    bif Nat.ble (a+[d].length) b then
     bif (Nat.ble (a+[d].length) n.length)&&(!false) then
      some (.done (.next (a+[d].length,b,e,f,aA .i64 (g+1),h,i,j,k,d,l13,fL n a [d])))
     else
      none
    else
     (bH (n.take a) [d]).bind fun l14=>
     bif Nat.ble a n.length then
      some (.done (.next (l14.length,l14.length,e,f,aA .i64 (g+1),h,i,j,k,d,l13,l14)))
     else
      none
def nQ (s:aPm):Option aPn:=
 bif decide (s.2.2.2.2.1<s.2.2.2.1) then
  (aO s.2.2.1 s.2.2.2.2.1).bind fun a0=>
  aH qF (s.1,s.2.1,s.2.2.2.2.1,s.2.2.1,s.2.2.2.1,s.2.2.2.2.1,s.2.2.2.2.2.1,s.2.2.2.2.2.2.1,s.2.2.2.2.2.2.2.1,s.2.2.2.2.2.2.2.2.1,s.2.2.2.2.2.2.2.2.2.1,s.2.2.2.2.2.2.2.2.2.2.1,s.2.2.2.2.2.2.2.2.2.2.2,a0.1,a0.2.1,a0.2.2,a0.1,-1,-1)
 else
  some (.done (rO.mk s.2.2.2.2.2.2.2.2.2.1 s.2.2.2.2.2.2.2.2.2.2.1,0))
def C8 (p0:Field) (p1:Int×Int):Option (rO×Int):=
 (AM p0 p1).bind fun n0=>
 bif n0 !=0 then
  some (rO.mk 0 [],n0)
 else
  aH nQ (0,0,p0.points,Int.ofNat p0.points.length,0,p0.points,p1.1,p1.2,0,-1,[],[])
def c59:bJ:=⟨aB.cons (aK.agg bW) (aB.one (aK.agg (cI.row iE))),aK.tup (aB.cons (aK.agg xW) (aB.one (aK.int .i64))),fun a=>C8 a.1 a.2,.frz,false⟩
theorem aNt:aJ aV 59 c59:=Oc aMN rfl aG [(107,aPg),(108,aPk)] ⟨aGK,aGP,trivial⟩ fun a=>by kernel_rfl
abbrev pX:=List (Int×Int)
abbrev aPo:=cE (Int×Int×Int×Int×bO×(List Int)) (rO×pX)
abbrev aPp:=bO×Int×Int×Int×Int×bO×(List Int)
abbrev aNu:=cE aPp aPo
abbrev aPq:=Int×bO×Int×Int×Int×Int×Int×Int×Int×bO×(List Int)
def iL (s:aPq):Option (cE aPq aNu):=
 bif decide (s.2.2.2.2.2.2.1<2) then
  bif s.2.2.2.2.2.2.1==0 then
   bif decide (0<=s.2.2.2.2.1) then
    (aO s.2.2.2.2.2.2.2.2.2.2 s.2.2.2.2.1).bind fun _=>
    some (.next (s.1,s.2.1,s.2.2.1,s.2.2.2.1,s.2.2.2.2.1,s.2.2.2.2.2.1,aA .i64 (s.2.2.2.2.2.2.1+1),s.2.2.2.2.2.2.2.1,s.2.2.2.2.2.2.2.2.1,s.2.2.2.2.2.2.2.2.2.1,bX s.2.2.2.2.2.2.2.2.2.2 s.2.2.2.2.1 s.1))
   else
    some (.next (s.1,s.2.1,s.2.2.1,s.2.2.2.1,s.2.2.2.2.1,s.2.2.2.2.2.1,aA .i64 (s.2.2.2.2.2.2.1+1),s.2.2.2.2.2.2.2))
  else
   bif s.2.2.2.2.2.2.1==1 then
    bif decide (0<=s.2.2.2.2.2.1) then
     (aO s.2.2.2.2.2.2.2.2.2.2 s.2.2.2.2.2.1).bind fun _=>
     some (.next (s.1,s.2.1,s.2.2.1,s.2.2.2.1,s.2.2.2.2.1,s.2.2.2.2.2.1,aA .i64 (s.2.2.2.2.2.2.1+1),s.2.2.2.2.2.2.2.1,s.2.2.2.2.2.2.2.2.1,s.2.2.2.2.2.2.2.2.2.1,bX s.2.2.2.2.2.2.2.2.2.2 s.2.2.2.2.2.1 s.1))
    else
     some (.next (s.1,s.2.1,s.2.2.1,s.2.2.2.1,s.2.2.2.2.1,s.2.2.2.2.2.1,aA .i64 (s.2.2.2.2.2.2.1+1),s.2.2.2.2.2.2.2))
   else
    none
 else
  some (.done (.next (s.2.1,s.2.2.1,aA .i64 (s.2.2.2.1+1),s.2.2.2.2.2.2.2)))
abbrev aPr:=bO×Int×Int×Int×Int×bO×(List Int)×pX
def kE (s:aPr):Option (cE aPr aNu):=
 bif decide (s.2.2.1<s.2.1) then
  (aO s.1 s.2.2.1).bind fun a0=>
  (aO s.2.2.2.2.2.2.1 s.2.2.1).bind fun n1=>
  bif decide (0<=n1) then
   (aO s.2.2.2.2.2.2.1 s.2.2.1).bind fun n2=>
   (aO s.2.2.2.2.2.1 n2).bind fun a3=>
   (bH s.2.2.2.2.2.2.2 [(a0.1,a3.1)]).bind fun l4=>
   some (.next (s.1,s.2.1,aA .i64 (s.2.2.1+1),s.2.2.2.1,s.2.2.2.2.1,s.2.2.2.2.2.1,s.2.2.2.2.2.2.1,l4))
  else
   some (.next (s.1,s.2.1,aA .i64 (s.2.2.1+1),s.2.2.2))
 else
  some (.done (.done (.done (rO.mk s.2.2.2.2.1 s.2.2.2.2.2.1,s.2.2.2.2.2.2.2))))
def kF (s:aPp):Option aNu:=
 bif decide (s.2.2.1<s.2.1) then
  (aO s.1 s.2.2.1).bind fun a0=>
  aH iL (s.2.2.1,s.1,s.2.1,s.2.2.1,a0.2.1,a0.2.2,0,s.2.2.2)
 else
  aH kE (s.2.2.2.2.2.1,Int.ofNat s.2.2.2.2.2.1.length,0,s.2.2.2.1,s.2.2.2.2.1,s.2.2.2.2.2.1,s.2.2.2.2.2.2,[])
def kG (s:(Int×Int×Int×Int×bO×(List Int))):Option aPo:=
 bif decide (s.2.1<s.1) then
  (aO s.2.2.2.2.2 s.2.1).bind fun _=>
  some (.next (s.1,aA .i64 (s.2.1+1),s.2.2.1,s.2.2.2.1,s.2.2.2.2.1,bX s.2.2.2.2.2 s.2.1 (-1)))
 else
  aH kF (s.2.2.2.2.1,Int.ofNat s.2.2.2.2.1.length,0,s.2.2)
def lC (p0:Field) (p1:Int×Int):Option (rO×pX):=
 (C8 p0 p1).bind fun a0=>
 bif (Int.ofNat a0.1.nodes.length)==(Int.ofNat a0.1.nodes.length) then
  (tJ (Int.ofNat a0.1.nodes.length) (0:Int)).bind fun l1=>
  aH kG (Int.ofNat l1.length,0,0,a0.1.root,a0.1.nodes,l1)
 else
  none
def c40:bJ:=⟨aB.cons (aK.agg bW) (aB.one (aK.agg (cI.row iE))),aK.tup (aB.cons (aK.agg xW) (aB.one (aK.sl iE))),fun a=>lC a.1 a.2,.frz,false⟩
theorem UQ:aJ aV 40 c40:=Oc aMz rfl aG [(59,c59)] ⟨aNt,trivial⟩ fun a=>by kernel_rfl
def vP (p0:Int×Int):Option Bool:=
 bif decide (0<=(if p0.2<p0.1 then p0.2 else p0.1)) then
  bif decide ((if p0.2>p0.1 then p0.2 else p0.1)<=65535) then
   some (p0.1 !=p0.2)
  else
   some false
 else
  some false
def aNv:bJ:=⟨aB.one (aK.agg (cI.row iE)),aK.bool,fun a=>vP a,.pure,false⟩
theorem XJ:aJ aV 141 aNv:=Oc aFm rfl aG [] trivial fun a=>by kernel_rfl
abbrev aPs:=Int×bO×Int×Int×Int×bO×(List (List Int))
def sK (s:aPs):Option (cE aPs Int):=
 bif decide (s.2.2.2.1<s.2.2.1) then
  (aO s.2.1 s.2.2.2.1).bind fun a0=>
  (vP a0.2).bind fun b1=>
  bif !b1 then
   some (.done 8)
  else
   (Q8 s.2.2.2.2.2.2 [a0.2.1,a0.2.2]).bind fun b2=>
   bif b2 then
    some (.done 8)
   else
    bif decide (a0.1<=s.1) then
     some (.done 8)
    else
     bif decide (s.2.2.2.2.1<=a0.1) then
      some (.done 8)
     else
      (Q9 s.2.2.2.2.2.2 [a0.2.1,a0.2.2]).bind fun l3=>
      some (.next (a0.1,s.2.1,s.2.2.1,aA .i64 (s.2.2.2.1+1),s.2.2.2.2.1,s.2.2.2.2.2.1,l3))
 else
  some (.done 0)
def rR (p0:aW):Option Int:=
 bif decide (200<(Int.ofNat p0.list.length)) then
  some 8
 else
  bif decide (p0.next_<0) then
   some 8
  else
   bif decide (1000000<p0.next_) then
    some 8
   else
    aH sK (-1,p0.list,Int.ofNat p0.list.length,0,p0.next_,p0.list,[])
def c91:bJ:=⟨aB.one (aK.agg gH),aK.int .i64,fun a=>rR a,.pure,false⟩
theorem UR:aJ aV 91 c91:=Oc aNb rfl aG [(141,aNv)] ⟨XJ,trivial⟩ fun a=>by kernel_rfl
theorem vQ:aJ aV 131 (bJ.clone kb):=aJ.clone aFe rfl
def gM (s:((List Bool)×Bool×Int×Int)):Option (cE ((List Bool)×Bool×Int×Int) Int):=
 bif decide (s.2.2.2<s.2.2.1) then
  (aO s.1 s.2.2.2).bind fun b0=>
  bif s.2.1==b0 then
   some (.done s.2.2.2)
  else
   some (.next (s.1,s.2.1,s.2.2.1,aA .i64 (s.2.2.2+1)))
 else
  some (.done (-1))
def qG (p0:List Bool) (p1:Bool):Option Int:=
 aH gM (p0,p1,Int.ofNat p0.length,0)
def aPt:bJ:=⟨aB.cons (aK.sl kb) (aB.one aK.bool),aK.int .i64,fun a=>qG a.1 a.2,.pure,false⟩
theorem aGQ:aJ aV 212 aPt:=Oc aGo rfl aG [] trivial fun a=>by kernel_rfl
def dY (p0:List Bool) (p1:Bool):Option Bool:=
 (qG p0 p1).bind fun n0=>
 some (decide (0<=n0))
def aPu:bJ:=⟨aB.cons (aK.sl kb) (aB.one aK.bool),aK.bool,fun a=>dY a.1 a.2,.pure,false⟩
theorem aGR:aJ aV 186 aPu:=Oc aF3 rfl aG [(212,aPt)] ⟨aGQ,trivial⟩ fun a=>by kernel_rfl
abbrev aPv:=(List Int)×Int×Int×(List Int)×(List Bool)×(List Int)×Int×(List Bool)
abbrev aPw:=cE aPv Int
def gI (s:((List Int)×Int×Int×(List Int)×(List Bool)×(List Int))):Option (cE ((List Int)×Int×Int×(List Int)×(List Bool)×(List Int)) aPw):=
 bif decide (s.2.2.1<s.2.1) then
  (aO s.1 s.2.2.1).bind fun n0=>
  bif decide (n0<0) then
   some (.done (.done 8))
  else
   bif decide (1000000<n0) then
    some (.done (.done 8))
   else
    bif n0==0 then
     (aO s.2.2.2.2.1 s.2.2.1).bind fun b1=>
     bif b1 then
      some (.done (.done 8))
     else
      some (.next (s.1,s.2.1,aA .i64 (s.2.2.1+1),s.2.2.2))
    else
     some (.next (s.1,s.2.1,aA .i64 (s.2.2.1+1),s.2.2.2))
 else
  some (.done (.done 0))
def sL (c0:(List Bool)) (s:aPv):Option aPw:=
 bif decide (s.2.2.1<s.2.1) then
  (aO s.1 s.2.2.1).bind fun n0=>
  bif decide (n0<0) then
   bif s.2.2.2.2.2.2.2.length==s.2.2.2.2.2.2.2.length then
    bif s.2.2.2.2.2.2.2.length==c0.length then
     bif s.2.2.2.2.2.2.2.length==c0.length then
      bif decide (0<=s.2.2.1) then
       some (.done 8)
      else
       (dY s.2.2.2.2.2.2.2 false).bind fun b1=>
       bif b1 then
        some (.done 8)
       else
        aH gI (s.2.2.2.1,Int.ofNat s.2.2.2.1.length,0,s.2.2.2.1,s.2.2.2.2.1,s.2.2.2.2.2.1)
     else
      none
    else
     none
   else
    none
  else
   bif decide (s.2.2.2.2.2.2.1<=n0) then
    bif s.2.2.2.2.2.2.2.length==s.2.2.2.2.2.2.2.length then
     bif s.2.2.2.2.2.2.2.length==c0.length then
      bif s.2.2.2.2.2.2.2.length==c0.length then
       bif decide (0<=s.2.2.1) then
        some (.done 8)
       else
        (dY s.2.2.2.2.2.2.2 false).bind fun b2=>
        bif b2 then
         some (.done 8)
        else
         aH gI (s.2.2.2.1,Int.ofNat s.2.2.2.1.length,0,s.2.2.2.1,s.2.2.2.2.1,s.2.2.2.2.2.1)
      else
       none
     else
      none
    else
     none
   else
    (aO s.2.2.2.2.2.2.2 n0).bind fun b3=>
    bif b3 then
     bif s.2.2.2.2.2.2.2.length==s.2.2.2.2.2.2.2.length then
      bif s.2.2.2.2.2.2.2.length==c0.length then
       bif s.2.2.2.2.2.2.2.length==c0.length then
        bif decide (0<=s.2.2.1) then
         some (.done 8)
        else
         (dY s.2.2.2.2.2.2.2 false).bind fun b4=>
         bif b4 then
          some (.done 8)
         else
          aH gI (s.2.2.2.1,Int.ofNat s.2.2.2.1.length,0,s.2.2.2.1,s.2.2.2.2.1,s.2.2.2.2.2.1)
       else
        none
      else
       none
     else
      none
    else
     (aO s.2.2.2.2.2.2.2 n0).bind fun _=>
     bif ((bX s.2.2.2.2.2.2.2 n0 true).length)==s.2.2.2.2.2.2.2.length then
      some (.next (s.1,s.2.1,aA .i64 (s.2.2.1+1),s.2.2.2.1,s.2.2.2.2.1,s.2.2.2.2.2.1,s.2.2.2.2.2.2.1,bX s.2.2.2.2.2.2.2 n0 true))
     else
      none
 else
  bif s.2.2.2.2.2.2.2.length==c0.length then
   bif s.2.2.2.2.2.2.2.length==c0.length then
    (dY s.2.2.2.2.2.2.2 false).bind fun b6=>
    bif b6 then
     some (.done 8)
    else
     aH gI (s.2.2.2.1,Int.ofNat s.2.2.2.1.length,0,s.2.2.2.1,s.2.2.2.2.1,s.2.2.2.2.2.1)
   else
    none
  else
   none
def rS (p0:aR):Option Int:=
 bif decide ((Int.ofNat p0.uses.length)<1) then
  some 8
 else
  bif decide (200<(Int.ofNat p0.uses.length)) then
   some 8
  else
   bif (Int.ofNat p0.used.length) !=(Int.ofNat p0.uses.length) then
    some 8
   else
    (cB p0.used).bind fun l0=>
    aH (sL l0) (p0.free,Int.ofNat p0.free.length,0,p0.uses,p0.used,p0.free,Int.ofNat p0.uses.length,l0)
def aGS:bJ:=⟨aB.one (aK.agg fK),aK.int .i64,fun a=>rS a,.pure,false⟩
theorem PE:aJ aV 142 aGS:=aJ.of aFn (cx:=(pW aG [(131,bJ.clone kb),(186,aPu)] [] [(184,aDV),(211,aEo),(185,aDX)] [])) rfl (mK.make ⟨vQ,aGR,trivial⟩ trivial ⟨aF1,aGn,aF2,trivial⟩) (fun a=>by kernel_rfl)
def AO (p0:Int×Int) (p1:Int×Int):Option Int:=
 (gA p0).bind fun n0=>
 (gA p1).bind fun n1=>
 some (if n1>n0 then n1 else n0)
def c73:bJ:=⟨aB.cons (aK.agg (cI.row iE)) (aB.one (aK.agg (cI.row iE))),aK.int .i64,fun a=>AO a.1 a.2,.pure,false⟩
theorem aNw:aJ aV 73 c73:=Oc aMY rfl aG [(35,c35)] ⟨CE,trivial⟩ fun a=>by kernel_rfl
def tO (p0:Int) (p1:Int):Option (Bool×Int×Int):=
 (mD p0).bind fun n0=>
 (mD p1).bind fun n1=>
 (gB n0 n1).bind fun a2=>
 some (!((decide (p0<0))==(decide (p1<0))),a2)
def c76:bJ:=⟨aB.cons (aK.int .i64) (aB.one (aK.int .i64)),aK.agg (cI.row CA),fun a=>tO a.1 a.2,.pure,false⟩
theorem aNx:aJ aV 76 c76:=Oc aM1 rfl aG [(72,c72),(121,aGI)] ⟨UO,PC,trivial⟩ fun a=>by kernel_rfl
def nR (p0:Int):Option Bool:=
 some (p0 !=p0)
def aPx:bJ:=⟨aB.one (aK.int .u64),aK.bool,fun a=>nR a,.pure,false⟩
theorem aGT:aJ aV 173 aPx:=Oc aFQ rfl aG [] trivial fun a=>by kernel_rfl
def iM (p0:Int) (p1:Int):Option Int:=
 (nR p0).bind fun b0=>
 (nR p1).bind fun b1=>
 bif b0 then
  bif b1 then
   some 0
  else
   some (-1)
 else
  bif b1 then
   some 1
  else
   bif decide (p0<p1) then
    some (-1)
   else
    bif decide (p1<p0) then
     some 1
    else
     some 0
def aPy:bJ:=⟨aB.cons (aK.int .u64) (aB.one (aK.int .u64)),aK.int .i64,fun a=>iM a.1 a.2,.pure,false⟩
theorem aGU:aJ aV 120 aPy:=Oc aE4 rfl aG [(173,aPx)] ⟨aGT,trivial⟩ fun a=>by kernel_rfl
def sM (p0:Bool×Int×Int) (p1:Bool×Int×Int):Option Int:=
 (iM p0.2.1 p1.2.1).bind fun n0=>
 bif n0 !=0 then
  some n0
 else
  (iM p0.2.2 p1.2.2).bind fun n1=>
  some n1
def c75:bJ:=⟨aB.cons (aK.agg (cI.row CA)) (aB.one (aK.agg (cI.row CA))),aK.int .i64,fun a=>sM a.1 a.2,.pure,false⟩
theorem aNy:aJ aV 75 c75:=Oc aM0 rfl aG [(120,aPy)] ⟨aGU,trivial⟩ fun a=>by kernel_rfl
def C9 (p0:Int×Int) (p1:Int×Int):Option (Int×Int):=
 (AO p0 p1).bind fun n0=>
 bif n0 !=0 then
  some (0,n0)
 else
  bif !((decide (p0.1<0))==(decide (p1.1<0))) then
   (jF p0.1 p1.1).bind fun n1=>
   some (n1,0)
  else
   (tO p0.1 p1.2).bind fun a2=>
   (tO p1.1 p0.2).bind fun a3=>
   (sM a2 a3).bind fun n4=>
   bif decide (p0.1<0) then
    some (aA .i64 (0-n4),0)
   else
    some (n4,0)
def c36:bJ:=⟨aB.cons (aK.agg (cI.row iE)) (aB.one (aK.agg (cI.row iE))),aK.tup (aB.cons (aK.int .i64) (aB.one (aK.int .i64))),fun a=>C9 a.1 a.2,.pure,false⟩
theorem aNz:aJ aV 36 c36:=Oc aMx rfl aG [(73,c73),(74,c74),(76,c76),(75,c75)] ⟨aNw,aBi,aNx,aNy,trivial⟩ fun a=>by kernel_rfl
def cC (p0:Int×Int×Int×Int×Int) (p1:Int×Int×Int×Int×Int):Option Int:=
 (C9 (p0.1,p0.2.1) (p1.1,p1.2.1)).bind fun a0=>
 (fB p0.2.2.1 p1.2.2.1).bind fun n1=>
 (vO [a0.1,n1]).bind fun n2=>
 some n2
def aGV:bJ:=⟨aB.cons (aK.agg (cI.row lJ)) (aB.one (aK.agg (cI.row lJ))),aK.int .i64,fun a=>cC a.1 a.2,.pure,false⟩
theorem PF:aJ aV 143 aGV:=Oc aFo rfl aG [(36,c36),(164,UP),(187,aNr)] ⟨aNz,C7,XH,trivial⟩ fun a=>by kernel_rfl
abbrev jV:=List (Int×Int×Int×Int×Int)
abbrev aPz:=jV×Int×Int×(List Int)×(List Bool)×(List Int)×jV×(List Int)×(List (List Int))
abbrev aPA:=(List Int)×Int×Int×(List Int)×(List Bool)×(List Int)×jV×(List Int)
abbrev aPB:=cE aPA Int
def iZ (s:aPz):Option (cE aPz aPB):=
 bif decide (s.2.2.1<s.2.1) then
  (aO s.1 s.2.2.1).bind fun a0=>
  (gA (a0.1,a0.2.1)).bind fun n1=>
  bif n1 !=0 then
   some (.done (.done 8))
  else
   bif decide (a0.2.2.1<0) then
    some (.done (.done 8))
   else
    bif decide (1000000<a0.2.2.1) then
     some (.done (.done 8))
    else
     (Q8 s.2.2.2.2.2.2.2.2 [a0.2.2.1]).bind fun b2=>
     bif b2 then
      some (.done (.done 8))
     else
      (Q9 s.2.2.2.2.2.2.2.2 [a0.2.2.1]).bind fun l3=>
      bif decide (0<s.2.2.1) then
       (aO s.2.2.2.2.2.2.1 (aA .i64 (Int.tdiv (aA .i64 (s.2.2.1-1)) 2))).bind fun a4=>
       (cC a0 a4).bind fun n5=>
       bif decide (n5<0) then
        some (.done (.done 8))
       else
        some (.next (s.1,s.2.1,aA .i64 (s.2.2.1+1),s.2.2.2.1,s.2.2.2.2.1,s.2.2.2.2.2.1,s.2.2.2.2.2.2.1,s.2.2.2.2.2.2.2.1,l3))
      else
       some (.next (s.1,s.2.1,aA .i64 (s.2.2.1+1),s.2.2.2.1,s.2.2.2.2.1,s.2.2.2.2.2.1,s.2.2.2.2.2.2.1,s.2.2.2.2.2.2.2.1,l3))
 else
  some (.done (.done 0))
def lX (s:aPA):Option aPB:=
 bif decide (s.2.2.1<s.2.1) then
  (aO s.1 s.2.2.1).bind fun n0=>
  (aO s.2.2.2.2.1 s.2.2.1).bind fun b1=>
  bif !b1 then
   bif n0 !=(-1) then
    some (.done 8)
   else
    some (.next (s.1,s.2.1,aA .i64 (s.2.2.1+1),s.2.2.2))
  else
   bif decide (n0<0) then
    some (.done 8)
   else
    bif decide ((Int.ofNat s.2.2.2.2.2.2.1.length)<=n0) then
     some (.done 8)
    else
     (aO s.2.2.2.2.2.2.1 n0).bind fun a2=>
     (aO s.2.2.2.1 s.2.2.1).bind fun n3=>
     bif !((a2.2.2.2.1==s.2.2.1)&&(a2.2.2.2.2==n3)) then
      some (.done 8)
     else
      some (.next (s.1,s.2.1,aA .i64 (s.2.2.1+1),s.2.2.2))
 else
  aH iZ (s.2.2.2.2.2.2.1,Int.ofNat s.2.2.2.2.2.2.1.length,0,s.2.2.2.1,s.2.2.2.2.1,s.2.2.2.2.2.1,s.2.2.2.2.2.2.1,s.2.2.2.2.2.2.2,[])
def lK (p0:aI):Option Int:=
 (rS p0.slots).bind fun n0=>
 bif n0 !=0 then
  some 8
 else
  bif (Int.ofNat p0.where_.length) !=(Int.ofNat p0.slots.used.length) then
   some 8
  else
   bif (Int.ofNat p0.heap.length) !=(aA .i64 ((Int.ofNat p0.slots.used.length) - (Int.ofNat p0.slots.free.length))) then
    some 8
   else
    aH lX (p0.where_,Int.ofNat p0.where_.length,0,p0.slots.uses,p0.slots.used,p0.slots.free,p0.heap,p0.where_)
def c92:bJ:=⟨aB.one (aK.agg cS),aK.int .i64,fun a=>lK a,.pure,false⟩
theorem PG:aJ aV 92 c92:=Oc aNc rfl aG [(142,aGS),(35,c35),(143,aGV)] ⟨PE,CE,PF,trivial⟩ fun a=>by kernel_rfl
def xZ (p0:Int×Int×Int) (p1:Int):Option Int:=
 (fB p0.1 p1).bind fun n0=>
 some n0
def aPD:bJ:=⟨aB.cons (aK.agg (cI.row eM)) (aB.one (aK.int .i64)),aK.int .i64,fun a=>xZ a.1 a.2,.pure,false⟩
theorem aGW:aJ aV 189 aPD:=Oc aF6 rfl aG [(164,UP)] ⟨C7,trivial⟩ fun a=>by kernel_rfl
abbrev PH:=bO×Int×Int×Int×Int
abbrev aGX:=cE PH (Int×Bool)
def iG (s:PH):Option aGX:=
 bif decide (s.2.2.2.1<s.2.2.2.2) then
  (aO s.1 (aA .i64 (rL .u64 (aA .u64 (aA .i64 (s.2.2.2.1+s.2.2.2.2))) 1))).bind fun a0=>
  (xZ a0 s.2.1).bind fun n1=>
  bif decide (n1<0) then
   some (.next (s.1,s.2.1,s.2.2.1,aA .i64 ((aA .i64 (rL .u64 (aA .u64 (aA .i64 (s.2.2.2.1+s.2.2.2.2))) 1))+1),s.2.2.2.2))
  else
   some (.next (s.1,s.2.1,s.2.2.1,s.2.2.2.1,aA .i64 (rL .u64 (aA .u64 (aA .i64 (s.2.2.2.1+s.2.2.2.2))) 1)))
 else
  bif decide (s.2.2.2.1<s.2.2.1) then
   (aO s.1 s.2.2.2.1).bind fun a2=>
   (xZ a2 s.2.1).bind fun n3=>
   some (.done (s.2.2.2.1,n3==0))
  else
   some (.done (s.2.2.2.1,false))
def cT (p0:List (Int×Int×Int)) (p1:Int) (_:Unit):Option (Int×Bool):=
 aH iG (p0,p1,Int.ofNat p0.length,0,Int.ofNat p0.length)
def R1:bJ:=⟨aB.cons (aK.sl eM) (aB.cons (aK.int .i64) (aB.one (aK.clo 189 aB.nil))),aK.tup (aB.cons (aK.int .i64) (aB.one aK.bool)),fun a=>cT a.1 a.2.1 a.2.2,.pure,false⟩
theorem R2:aJ aV 162 R1:=Oc XA rfl aG [(189,aPD)] ⟨aGW,trivial⟩ fun a=>by kernel_rfl
def jG (p0:Field) (p1:Int):Option (Int×Int×Int):=
 (cT p0.points p1 ()).bind fun a0=>
 bif !a0.2 then
  some (-1,0,0)
 else
  (aO p0.points a0.1).bind fun a1=>
  some a1
def aGY:bJ:=⟨aB.cons (aK.agg bW) (aB.one (aK.int .i64)),aK.agg (cI.row eM),fun a=>jG a.1 a.2,.pure,false⟩
theorem PI:aJ aV 145 aGY:=Oc aFq rfl aG [(162,R1)] ⟨R2,trivial⟩ fun a=>by kernel_rfl
def CF (p0:Bool×Int×Int) (p1:Int) (p2:Int):Option ((Int×Int)×Int):=
 bif decide (0<p0.2.1) then
  some ((0,0),16)
 else
  bif decide (9223372036854775807<p0.2.2) then
   some ((0,0),16)
  else
   bif decide (0<p1) then
    some ((0,0),16)
   else
    bif decide (9223372036854775807<p2) then
     some ((0,0),16)
    else
     bif p0.1 then
      some ((aA .i64 (0- (aA .i64 p0.2.2)),aA .i64 p2),0)
     else
      some ((aA .i64 p0.2.2,aA .i64 p2),0)
def aPE:bJ:=⟨aB.cons (aK.agg (cI.row CA)) (aB.cons (aK.int .u64) (aB.one (aK.int .u64))),aK.tup (aB.cons (aK.agg (cI.row iE)) (aB.one (aK.int .i64))),fun a=>CF a.1 a.2.1 a.2.2,.pure,false⟩
theorem aGZ:aJ aV 224 aPE:=Oc aGy rfl aG [] trivial fun a=>by kernel_rfl
def AP (p0:Int) (p1:Int):Option ((Int×Int)×Int):=
 bif p1==0 then
  some ((0,0),26)
 else
  (mD p0).bind fun n0=>
  (mD p1).bind fun n1=>
  (zA n0 n1).bind fun n2=>
  (mD p0).bind fun n3=>
  bif n2==0 then
   none
  else
   (mD p1).bind fun n4=>
   bif n2==0 then
    none
   else
    (CF (!((decide (p0<0))==(decide (p1<0))),0,aA .u64 (Int.tdiv n3 n2)) 0 (aA .u64 (Int.tdiv n4 n2))).bind fun a5=>
    some a5
def aPF:bJ:=⟨aB.cons (aK.int .i64) (aB.one (aK.int .i64)),aK.tup (aB.cons (aK.agg (cI.row iE)) (aB.one (aK.int .i64))),fun a=>AP a.1 a.2,.pure,false⟩
theorem aG0:aJ aV 213 aPF:=Oc aGp rfl aG [(72,c72),(71,c71),(224,aPE)] ⟨UO,aBf,aGZ,trivial⟩ fun a=>by kernel_rfl
def CG (p0:Int×Int×Int) (p1:Int×Int×Int):Option ((Int×Int)×Int):=
 (rQ p0 p1 (0,1)).bind fun n0=>
 bif n0 !=0 then
  some ((0,0),n0)
 else
  bif p0.2.2==p1.2.2 then
   some ((0,0),6)
  else
   (AP (aA .i64 (p0.2.1-p1.2.1)) (aA .i64 (p1.2.2-p0.2.2))).bind fun a1=>
   some a1
def aPG:bJ:=⟨aB.cons (aK.agg (cI.row eM)) (aB.one (aK.agg (cI.row eM))),aK.tup (aB.cons (aK.agg (cI.row iE)) (aB.one (aK.int .i64))),fun a=>CG a.1 a.2,.pure,false⟩
theorem aG1:aJ aV 188 aPG:=Oc aF5 rfl aG [(155,aGL),(213,aPF)] ⟨PD,aG0,trivial⟩ fun a=>by kernel_rfl
def uS (p0:Int×Int×Int) (p1:Int×Int×Int) (p2:Int×Int):Option ((Int×Int)×Bool×Int):=
 (rQ p0 p1 p2).bind fun n0=>
 bif n0 !=0 then
  some ((0,0),false,n0)
 else
  (mW p1 p0 p2).bind fun n1=>
  bif decide (0<n1) then
   some (p2,true,0)
  else
   bif decide (p1.2.2<=p0.2.2) then
    some ((0,0),false,0)
   else
    (CG p0 p1).bind fun a2=>
    some (a2.1,a2.2==0,a2.2)
def aPH:bJ:=⟨aB.cons (aK.agg (cI.row eM)) (aB.cons (aK.agg (cI.row eM)) (aB.one (aK.agg (cI.row iE)))),aK.tup (aB.cons (aK.agg (cI.row iE)) (aB.cons aK.bool (aB.one (aK.int .i64)))),fun a=>uS a.1 a.2.1 a.2.2,.pure,false⟩
theorem aG2:aJ aV 144 aPH:=Oc aFp rfl aG [(155,aGL),(156,aNs),(188,aPG)] ⟨PD,XI,aG1,trivial⟩ fun a=>by kernel_rfl
def rT (p0:Field) (p1:Int×Int) (p2:Int×Int):Option ((Int×Int)×Bool×Int):=
 (jG p0 p1.2).bind fun a0=>
 (jG p0 p1.1).bind fun a1=>
 (uS a0 a1 p2).bind fun a2=>
 some a2
def c93:bJ:=⟨aB.cons (aK.agg bW) (aB.cons (aK.agg (cI.row iE)) (aB.one (aK.agg (cI.row iE)))),aK.tup (aB.cons (aK.agg (cI.row iE)) (aB.cons aK.bool (aB.one (aK.int .i64)))),fun a=>rT a.1 a.2.1 a.2.2,.pure,false⟩
theorem US:aJ aV 93 c93:=Oc aNd rfl aG [(145,aGY),(144,aPH)] ⟨PI,aG2,trivial⟩ fun a=>by kernel_rfl
abbrev Zt8:=bO×bO×Int×Int×Int×Int×bO×Int×bO×(List Int)×(List Bool)×(List Int)×jV×(List Int)×bO
abbrev aPI:=Int×Int×Int×Int×bO×Int×bO×(List Int)×(List Bool)×(List Int)×jV×(List Int)×bO×(List Int)
abbrev aPJ:=cE aPI Int
def cM (s:Zt8):Option (cE Zt8 aPJ):=
 bif decide (s.2.2.2.1<s.2.2.1) then
  (aO s.2.1 s.2.2.2.1).bind fun a0=>
  (rT (Field.mk s.2.2.2.2.2.2.1) a0.2 (s.2.2.2.2.1,s.2.2.2.2.2.1)).bind fun a1=>
  bif a1.2.2 !=0 then
   some (.done (.done 8))
  else
   bif !a1.2.1 then
    some (.next (s.1,s.2.1,s.2.2.1,aA .i64 (s.2.2.2.1+1),s.2.2.2.2))
   else
    bif (Int.ofNat s.1.length)==0 then
     some (.done (.done 8))
    else
     (aO s.1 0).bind fun a2=>
     bif a2.1 !=a0.1 then
      some (.done (.done 8))
     else
      (aO s.1 0).bind fun a3=>
      bif decide (a3.2.1<0) then
       some (.done (.done 8))
      else
       bif decide (200<=a3.2.1) then
        some (.done (.done 8))
       else
        (aO s.2.2.2.2.2.2.2.2.2.2.2.2.2.1 a3.2.1).bind fun n4=>
        bif decide (n4<0) then
         some (.done (.done 8))
        else
         (aO s.2.2.2.2.2.2.2.2.2.2.2.2.2.1 a3.2.1).bind fun n5=>
         (aO s.2.2.2.2.2.2.2.2.2.2.2.2.1 n5).bind fun a6=>
         bif !((a6.1==a1.1.1)&&((a6.2.1==a1.1.2)&&((a6.2.2.1==a0.1)&&((a6.2.2.2.1==a3.2.1)&&(a6.2.2.2.2==a3.2.2))))) then
          some (.done (.done 8))
         else
          (iI s.1 1 (Int.ofNat s.1.length)).bind fun l7=>
          some (.next (l7,s.2.1,s.2.2.1,aA .i64 (s.2.2.2.1+1),s.2.2.2.2))
 else
  bif decide (0<(Int.ofNat s.1.length)) then
   some (.done (.done 8))
  else
   some (.done (.done 0))
def eW (s:aPI):Option aPJ:=
 bif decide (s.2.1<s.1) then
  (aO s.2.2.2.2.2.2.2.2.2.2.2.2.2 s.2.1).bind fun n0=>
  bif n0 !=0 then
   some (.done 8)
  else
   some (.next (s.1,aA .i64 (s.2.1+1),s.2.2))
 else
  bif (Int.ofNat s.2.2.2.2.2.2.2.2.2.2.2.1.length) !=200 then
   some (.done 8)
  else
   bif (Int.ofNat s.2.2.2.2.2.2.2.2.2.2.1.length) !=(Int.ofNat s.2.2.2.2.2.2.2.2.2.2.2.2.1.length) then
    some (.done 8)
   else
    aH cM (s.2.2.2.2.2.2.2.2.2.2.2.2.1,s.2.2.2.2.2.2.1,Int.ofNat s.2.2.2.2.2.2.1.length,0,s.2.2.1,s.2.2.2.1,s.2.2.2.2.1,s.2.2.2.2.2.1,s.2.2.2.2.2.2.1,s.2.2.2.2.2.2.2.1,s.2.2.2.2.2.2.2.2.1,s.2.2.2.2.2.2.2.2.2.1,s.2.2.2.2.2.2.2.2.2.2.1,s.2.2.2.2.2.2.2.2.2.2.2.1,s.2.2.2.2.2.2.2.2.2.2.2.2.1)
def gN (p0:aQ):Option Int:=
 (gA p0.now).bind fun n0=>
 (fE p0.field).bind fun n1=>
 (rR p0.certs).bind fun n2=>
 (lK p0.agenda).bind fun n3=>
 aH eW (Int.ofNat ([n0,n1,n2,n3].length),0,p0.now.1,p0.now.2,p0.field.points,p0.certs.next_,p0.certs.list,p0.agenda.slots.uses,p0.agenda.slots.used,p0.agenda.slots.free,p0.agenda.heap,p0.agenda.where_,p0.due,[n0,n1,n2,n3])
def c49:bJ:=⟨aB.one (aK.agg bN),aK.int .i64,fun a=>gN a,.pure,false⟩
theorem LQ:aJ aV 49 c49:=Oc aMG rfl aG [(35,c35),(84,c84),(91,c91),(92,c92),(93,c93)] ⟨CE,HT,UR,PG,US,trivial⟩ fun a=>by kernel_rfl
def jH (s:(pX×Int×Int×Int×Int)):Option (cE (pX×Int×Int×Int×Int) Int):=
 bif decide (s.2.2.1<s.2.1) then
  (aO s.1 s.2.2.1).bind fun a0=>
  bif (s.2.2.2.1==a0.1)&&(s.2.2.2.2==a0.2) then
   some (.done s.2.2.1)
  else
   some (.next (s.1,s.2.1,aA .i64 (s.2.2.1+1),s.2.2.2))
 else
  some (.done (-1))
def qH (p0:List (Int×Int)) (p1:Int×Int):Option Int:=
 aH jH (p0,Int.ofNat p0.length,0,p1)
def aPK:bJ:=⟨aB.cons (aK.sl iE) (aB.one (aK.agg (cI.row iE))),aK.int .i64,fun a=>qH a.1 a.2,.pure,false⟩
theorem aG3:aJ aV 146 aPK:=Oc aFr rfl aG [] trivial fun a=>by kernel_rfl
def fF (p0:List (Int×Int)) (p1:Int×Int):Option Bool:=
 (qH p0 p1).bind fun n0=>
 some (decide (0<=n0))
def c95:bJ:=⟨aB.cons (aK.sl iE) (aB.one (aK.agg (cI.row iE))),aK.bool,fun a=>fF a.1 a.2,.pure,false⟩
theorem UT:aJ aV 95 c95:=Oc aNf rfl aG [(146,aPK)] ⟨aG3,trivial⟩ fun a=>by kernel_rfl
def AQ (p0:Int×Int×Int) (p1:Int):Option Int:=
 (fB p0.1 p1).bind fun n0=>
 some n0
def aPL:bJ:=⟨aB.cons (aK.agg (cI.row eM)) (aB.one (aK.int .i64)),aK.int .i64,fun a=>AQ a.1 a.2,.pure,false⟩
theorem aG4:aJ aV 163 aPL:=Oc aFG rfl aG [(164,UP)] ⟨C7,trivial⟩ fun a=>by kernel_rfl
def iN (s:PH):Option aGX:=
 bif decide (s.2.2.2.1<s.2.2.2.2) then
  (aO s.1 (aA .i64 (rL .u64 (aA .u64 (aA .i64 (s.2.2.2.1+s.2.2.2.2))) 1))).bind fun a0=>
  (AQ a0 s.2.1).bind fun n1=>
  bif decide (n1<0) then
   some (.next (s.1,s.2.1,s.2.2.1,aA .i64 ((aA .i64 (rL .u64 (aA .u64 (aA .i64 (s.2.2.2.1+s.2.2.2.2))) 1))+1),s.2.2.2.2))
  else
   some (.next (s.1,s.2.1,s.2.2.1,s.2.2.2.1,aA .i64 (rL .u64 (aA .u64 (aA .i64 (s.2.2.2.1+s.2.2.2.2))) 1)))
 else
  bif decide (s.2.2.2.1<s.2.2.1) then
   (aO s.1 s.2.2.2.1).bind fun a2=>
   (AQ a2 s.2.1).bind fun n3=>
   some (.done (s.2.2.2.1,n3==0))
  else
   some (.done (s.2.2.2.1,false))
def cW (p0:List (Int×Int×Int)) (p1:Int) (_:Unit):Option (Int×Bool):=
 aH iN (p0,p1,Int.ofNat p0.length,0,Int.ofNat p0.length)
def R3:bJ:=⟨aB.cons (aK.sl eM) (aB.cons (aK.int .i64) (aB.one (aK.clo 163 aB.nil))),aK.tup (aB.cons (aK.int .i64) (aB.one aK.bool)),fun a=>cW a.1 a.2.1 a.2.2,.pure,false⟩
theorem R4:aJ aV 162 R3:=Oc XA rfl aG [(163,aPL)] ⟨aG4,trivial⟩ fun a=>by kernel_rfl
def EW (p0:Field) (p1:Int):Option (Int×Bool):=
 (cW p0.points p1 ()).bind fun a0=>
 some a0
def aPM:bJ:=⟨aB.cons (aK.agg bW) (aB.one (aK.int .i64)),aK.tup (aB.cons (aK.int .i64) (aB.one aK.bool)),fun a=>EW a.1 a.2,.pure,false⟩
theorem aG5:aJ aV 112 aPM:=Oc aEW rfl aG [(162,R3)] ⟨R4,trivial⟩ fun a=>by kernel_rfl
def CH (p0:Field) (p1:Int):Option (Int×Int):=
 (fE p0).bind fun n0=>
 bif n0 !=0 then
  some (0,n0)
 else
  (EW p0 p1).bind fun a1=>
  bif !a1.2 then
   some (0,6)
  else
   some (a1.1,0)
def c62:bJ:=⟨aB.cons (aK.agg bW) (aB.one (aK.int .i64)),aK.tup (aB.cons (aK.int .i64) (aB.one (aK.int .i64))),fun a=>CH a.1 a.2,.pure,false⟩
theorem aNA:aJ aV 62 c62:=Oc aMP rfl aG [(84,c84),(112,aPM)] ⟨HT,aG5,trivial⟩ fun a=>by kernel_rfl
def vR (p0:Field) (p1:Int):Option ((Int×Int×Int)×Int):=
 (CH p0 p1).bind fun a0=>
 bif a0.2 !=0 then
  some ((0,0,0),a0.2)
 else
  (aO p0.points a0.1).bind fun a1=>
  some (a1,0)
def aPN:bJ:=⟨aB.cons (aK.agg bW) (aB.one (aK.int .i64)),aK.tup (aB.cons (aK.agg (cI.row eM)) (aB.one (aK.int .i64))),fun a=>vR a.1 a.2,.pure,false⟩
theorem aG6:aJ aV 109 aPN:=Oc aEU rfl aG [(62,c62)] ⟨aNA,trivial⟩ fun a=>by kernel_rfl
theorem zB:aJ aV 127 (bJ.clone eM):=aJ.clone aFa rfl
theorem F8:aJ aV 128 (bJ.clone eM):=aJ.clone aFb rfl
theorem vS:aJ aV 129 (bJ.clone lJ):=aJ.clone aFc rfl
theorem qI:aJ aV 130 (bJ.clone ki):=aJ.clone aFd rfl
def vT (p0:aQ):Option aQ:=
 (cB p0.field.points).bind fun l0=>
 (cB p0.certs.list).bind fun l1=>
 (cB p0.due).bind fun l2=>
 (cB p0.agenda.heap).bind fun l3=>
 (cB p0.agenda.where_).bind fun l4=>
 (cB p0.agenda.slots.uses).bind fun l5=>
 (cB p0.agenda.slots.used).bind fun l6=>
 (cB p0.agenda.slots.free).bind fun l7=>
 some (aQ.mk p0.now (Field.mk l0) (aW.mk p0.certs.next_ l1) (aI.mk (aR.mk l5 l6 l7) l3 l4) l2)
def aPO:bJ:=⟨aB.one (aK.agg bN),aK.agg bN,fun a=>vT a,.own,true⟩
def aIT:bJ:=⟨aB.one (aK.agg bN),aK.agg bN,fun a=>vT a,.frz,false⟩
theorem aG7:aJ aV 111 aPO:=Oc W8 rfl aG [(64,bJ.clone eM),(127,bJ.clone eM),(128,bJ.clone eM),(129,bJ.clone lJ),(130,bJ.clone ki),(131,bJ.clone kb)] ⟨C5,zB,F8,vS,qI,vQ,trivial⟩ fun a=>by kernel_rfl
theorem aBj:aJ aV 111 aIT:=Oc W8 rfl aG [(64,bJ.clone eM),(127,bJ.clone eM),(128,bJ.clone eM),(129,bJ.clone lJ),(130,bJ.clone ki),(131,bJ.clone kb)] ⟨C5,zB,F8,vS,qI,vQ,trivial⟩ fun a=>by kernel_rfl
def tP (p0:Int×Int×Int) (p1:Int):Option Int:=
 (fB p0.1 p1).bind fun n0=>
 some n0
def aPP:bJ:=⟨aB.cons (aK.agg (cI.row eM)) (aB.one (aK.int .i64)),aK.int .i64,fun a=>tP a.1 a.2,.pure,false⟩
theorem aG8:aJ aV 204 aPP:=Oc aGi rfl aG [(164,UP)] ⟨C7,trivial⟩ fun a=>by kernel_rfl
def aT (s:PH):Option aGX:=
 bif decide (s.2.2.2.1<s.2.2.2.2) then
  (aO s.1 (aA .i64 (rL .u64 (aA .u64 (aA .i64 (s.2.2.2.1+s.2.2.2.2))) 1))).bind fun a0=>
  (tP a0 s.2.1).bind fun n1=>
  bif decide (n1<0) then
   some (.next (s.1,s.2.1,s.2.2.1,aA .i64 ((aA .i64 (rL .u64 (aA .u64 (aA .i64 (s.2.2.2.1+s.2.2.2.2))) 1))+1),s.2.2.2.2))
  else
   some (.next (s.1,s.2.1,s.2.2.1,s.2.2.2.1,aA .i64 (rL .u64 (aA .u64 (aA .i64 (s.2.2.2.1+s.2.2.2.2))) 1)))
 else
  bif decide (s.2.2.2.1<s.2.2.1) then
   (aO s.1 s.2.2.2.1).bind fun a2=>
   (tP a2 s.2.1).bind fun n3=>
   some (.done (s.2.2.2.1,n3==0))
  else
   some (.done (s.2.2.2.1,false))
def aU (p0:List (Int×Int×Int)) (p1:Int) (_:Unit):Option (Int×Bool):=
 aH aT (p0,p1,Int.ofNat p0.length,0,Int.ofNat p0.length)
def R5:bJ:=⟨aB.cons (aK.sl eM) (aB.cons (aK.int .i64) (aB.one (aK.clo 204 aB.nil))),aK.tup (aB.cons (aK.int .i64) (aB.one aK.bool)),fun a=>aU a.1 a.2.1 a.2.2,.pure,false⟩
theorem R6:aJ aV 203 R5:=Oc aGh rfl aG [(204,aPP)] ⟨aG8,trivial⟩ fun a=>by kernel_rfl
def HU (p0:aW) (p1:Int):Option (Int×Int):=
 (rR p0).bind fun n0=>
 bif n0 !=0 then
  some (0,n0)
 else
  (aU p0.list p1 ()).bind fun a1=>
  bif !a1.2 then
   some (0,6)
  else
   some (a1.1,0)
def aPQ:bJ:=⟨aB.cons (aK.agg gH) (aB.one (aK.int .i64)),aK.tup (aB.cons (aK.int .i64) (aB.one (aK.int .i64))),fun a=>HU a.1 a.2,.pure,false⟩
theorem aG9:aJ aV 174 aPQ:=Oc aFR rfl aG [(91,c91),(203,R5)] ⟨UR,R6,trivial⟩ fun a=>by kernel_rfl
abbrev aBk:=Int×Int×bO
def fG (a:aBk):Option (Nat×Nat×bO):=
 bif (((decide (0<=a.1))&&(decide (a.1<=a.2.1)))&&(decide (a.2.1<=(Int.ofNat a.2.2.length))))&&(decide ((Int.ofNat a.2.2.length)<=(Int.ofNat a.2.2.length))) then
  bif a.1==a.2.1 then
   bif a.2.2.length==a.2.2.length then
    some (a.2.2.length,a.2.2.length,a.2.2)
   else
    none
  else
   (iI a.2.2 0 a.1).bind fun _=>
   bif ((decide (0<=a.2.1))&&(decide (a.2.1<=(Int.ofNat a.2.2.length))))&&(decide ((Int.ofNat a.2.2.length)<=(Int.ofNat a.2.2.length))) then
    bif ((a.2.2.drop (0+a.2.1.toNat)).take (((Int.ofNat a.2.2.length).toNat) -a.2.1.toNat)).isEmpty then
     bif ((decide (0<=(Int.ofNat a.1.toNat)))&&(decide ((Int.ofNat a.1.toNat)<=(Int.ofNat a.2.2.length))))&&(decide ((Int.ofNat a.2.2.length)<=(Int.ofNat a.2.2.length))) then
      bif Nat.beq (((Int.ofNat a.2.2.length).toNat) - ((Int.ofNat a.1.toNat).toNat)) 0 then
       bif a.2.2.length==a.2.2.length then
        some (a.1.toNat,a.2.2.length,a.2.2)
       else
        none
      else
       bif (Nat.ble ((0+((Int.ofNat a.1.toNat).toNat))+(((Int.ofNat a.2.2.length).toNat) - ((Int.ofNat a.1.toNat).toNat))) a.2.2.length)&&(!false) then
        bif ((fL a.2.2 (0+((Int.ofNat a.1.toNat).toNat)) (List.replicate (((Int.ofNat a.2.2.length).toNat) - ((Int.ofNat a.1.toNat).toNat)) (0,0,0))).length)==a.2.2.length then
         some (a.1.toNat,a.2.2.length,fL a.2.2 (0+((Int.ofNat a.1.toNat).toNat)) (List.replicate (((Int.ofNat a.2.2.length).toNat) - ((Int.ofNat a.1.toNat).toNat)) (0,0,0)))
        else
         none
       else
        none
     else
      none
    else
     bif Nat.ble (a.1.toNat+(((a.2.2.drop (0+a.2.1.toNat)).take (((Int.ofNat a.2.2.length).toNat) -a.2.1.toNat)).length)) a.2.2.length then
      bif (Nat.ble (a.1.toNat+(((a.2.2.drop (0+a.2.1.toNat)).take (((Int.ofNat a.2.2.length).toNat) -a.2.1.toNat)).length)) a.2.2.length)&&(!false) then
       bif ((decide (0<=(Int.ofNat (a.1.toNat+(((a.2.2.drop (0+a.2.1.toNat)).take (((Int.ofNat a.2.2.length).toNat) -a.2.1.toNat)).length)))))&&(decide ((Int.ofNat (a.1.toNat+(((a.2.2.drop (0+a.2.1.toNat)).take (((Int.ofNat a.2.2.length).toNat) -a.2.1.toNat)).length)))<=(Int.ofNat a.2.2.length))))&&(decide ((Int.ofNat a.2.2.length)<=(Int.ofNat a.2.2.length))) then
        bif Nat.beq (((Int.ofNat a.2.2.length).toNat) - ((Int.ofNat (a.1.toNat+(((a.2.2.drop (0+a.2.1.toNat)).take (((Int.ofNat a.2.2.length).toNat) -a.2.1.toNat)).length))).toNat)) 0 then
         bif ((fL a.2.2 a.1.toNat ((a.2.2.drop (0+a.2.1.toNat)).take (((Int.ofNat a.2.2.length).toNat) -a.2.1.toNat))).length)==a.2.2.length then
          some (a.1.toNat+(((a.2.2.drop (0+a.2.1.toNat)).take (((Int.ofNat a.2.2.length).toNat) -a.2.1.toNat)).length),a.2.2.length,fL a.2.2 a.1.toNat ((a.2.2.drop (0+a.2.1.toNat)).take (((Int.ofNat a.2.2.length).toNat) -a.2.1.toNat)))
         else
          none
        else
         bif (Nat.ble ((0+((Int.ofNat (a.1.toNat+(((a.2.2.drop (0+a.2.1.toNat)).take (((Int.ofNat a.2.2.length).toNat) -a.2.1.toNat)).length))).toNat))+(((Int.ofNat a.2.2.length).toNat) - ((Int.ofNat (a.1.toNat+(((a.2.2.drop (0+a.2.1.toNat)).take (((Int.ofNat a.2.2.length).toNat) -a.2.1.toNat)).length))).toNat))) ((fL a.2.2 a.1.toNat ((a.2.2.drop (0+a.2.1.toNat)).take (((Int.ofNat a.2.2.length).toNat) -a.2.1.toNat))).length))&&(!false) then
          bif ((fL (fL a.2.2 a.1.toNat ((a.2.2.drop (0+a.2.1.toNat)).take (((Int.ofNat a.2.2.length).toNat) -a.2.1.toNat))) (0+((Int.ofNat (a.1.toNat+(((a.2.2.drop (0+a.2.1.toNat)).take (((Int.ofNat a.2.2.length).toNat) -a.2.1.toNat)).length))).toNat)) (List.replicate (((Int.ofNat a.2.2.length).toNat) - ((Int.ofNat (a.1.toNat+(((a.2.2.drop (0+a.2.1.toNat)).take (((Int.ofNat a.2.2.length).toNat) -a.2.1.toNat)).length))).toNat)) (0,0,0))).length)==a.2.2.length then
           some (a.1.toNat+(((a.2.2.drop (0+a.2.1.toNat)).take (((Int.ofNat a.2.2.length).toNat) -a.2.1.toNat)).length),a.2.2.length,fL (fL a.2.2 a.1.toNat ((a.2.2.drop (0+a.2.1.toNat)).take (((Int.ofNat a.2.2.length).toNat) -a.2.1.toNat))) (0+((Int.ofNat (a.1.toNat+(((a.2.2.drop (0+a.2.1.toNat)).take (((Int.ofNat a.2.2.length).toNat) -a.2.1.toNat)).length))).toNat)) (List.replicate (((Int.ofNat a.2.2.length).toNat) - ((Int.ofNat (a.1.toNat+(((a.2.2.drop (0+a.2.1.toNat)).take (((Int.ofNat a.2.2.length).toNat) -a.2.1.toNat)).length))).toNat)) (0,0,0)))
          else
           none
         else
          none
       else
        none
      else
       none
     else
      none
   else
    none
 else
  none
def aBl:dV:=⟨[.i,.i,.l [.i .i64,.i .i64,.i .i64]],[.own 0 false,.int .i64 0,.int .i64 0],[.arr [.i .i64,.i .i64,.i .i64] []],[.n,.n,.l [.i .i64,.i .i64,.i .i64]],.pre 0 0 0 false,[.arr [.i .i64,.i .i64,.i .i64] []],fun a=>fG a⟩
theorem ZH:kW aV 175 aBl:=kW.of aFS (wd:=true) (cx:=(pW aG [] [] [] [])) (mK.make trivial trivial trivial) (fun a=>by kernel_rfl)
def xA (p0:aW) (p1:Int):Option (aW×(Int×Int)×Int):=
 (HU p0 p1).bind fun a0=>
 bif a0.2 !=0 then
  some (aW.mk 0 [],(0,0),a0.2)
 else
  (cB p0.list).bind fun l1=>
  (fG (a0.1,aA .i64 (a0.1+1),l1)).bind fun a2=>
  (aO p0.list a0.1).bind fun a3=>
  some (aW.mk p0.next_ (a2.2.2.take a2.1),a3.2,0)
def aPR:bJ:=⟨aB.cons (aK.agg gH) (aB.one (aK.int .i64)),aK.tup (aB.cons (aK.agg gH) (aB.cons (aK.agg (cI.row iE)) (aB.one (aK.int .i64)))),fun a=>xA a.1 a.2,.frz,false⟩
theorem aHa:aJ aV 123 aPR:=aJ.of aE6 (cx:=(pW aG [(174,aPQ),(127,bJ.clone eM)] [(175,aBl)] [] [])) rfl (mK.make ⟨aG9,zB,trivial⟩ ⟨ZH,trivial⟩ trivial) (fun a=>by kernel_rfl)
def mX (p0:aQ):Option aQ:=
 (cB p0.field.points).bind fun l0=>
 (cB p0.certs.list).bind fun l1=>
 (cB p0.due).bind fun l2=>
 (cB p0.agenda.heap).bind fun l3=>
 (cB p0.agenda.where_).bind fun l4=>
 (cB p0.agenda.slots.uses).bind fun l5=>
 (cB p0.agenda.slots.used).bind fun l6=>
 (cB p0.agenda.slots.free).bind fun l7=>
 some (aQ.mk p0.now (Field.mk l0) (aW.mk p0.certs.next_ l1) (aI.mk (aR.mk l5 l6 l7) l3 l4) l2)
def c79:bJ:=⟨aB.one (aK.agg bN),aK.agg bN,fun a=>mX a,.own,true⟩
def aHb:bJ:=⟨aB.one (aK.agg bN),aK.agg bN,fun a=>mX a,.frz,false⟩
theorem UU:aJ aV 79 c79:=Oc aBc rfl aG [(64,bJ.clone eM),(127,bJ.clone eM),(128,bJ.clone eM),(129,bJ.clone lJ),(130,bJ.clone ki),(131,bJ.clone kb)] ⟨C5,zB,F8,vS,qI,vQ,trivial⟩ fun a=>by kernel_rfl
theorem PJ:aJ aV 79 aHb:=Oc aBc rfl aG [(64,bJ.clone eM),(127,bJ.clone eM),(128,bJ.clone eM),(129,bJ.clone lJ),(130,bJ.clone ki),(131,bJ.clone kb)] ⟨C5,zB,F8,vS,qI,vQ,trivial⟩ fun a=>by kernel_rfl
def yA (p0:Int×Int×Int) (p1:Int):Option Int:=
 (fB p0.1 p1).bind fun n0=>
 some n0
def aPS:bJ:=⟨aB.cons (aK.agg (cI.row eM)) (aB.one (aK.int .i64)),aK.int .i64,fun a=>yA a.1 a.2,.pure,false⟩
theorem aHc:aJ aV 177 aPS:=Oc aFU rfl aG [(164,UP)] ⟨C7,trivial⟩ fun a=>by kernel_rfl
def iW (s:PH):Option aGX:=
 bif decide (s.2.2.2.1<s.2.2.2.2) then
  (aO s.1 (aA .i64 (rL .u64 (aA .u64 (aA .i64 (s.2.2.2.1+s.2.2.2.2))) 1))).bind fun a0=>
  (yA a0 s.2.1).bind fun n1=>
  bif decide (n1<0) then
   some (.next (s.1,s.2.1,s.2.2.1,aA .i64 ((aA .i64 (rL .u64 (aA .u64 (aA .i64 (s.2.2.2.1+s.2.2.2.2))) 1))+1),s.2.2.2.2))
  else
   some (.next (s.1,s.2.1,s.2.2.1,s.2.2.2.1,aA .i64 (rL .u64 (aA .u64 (aA .i64 (s.2.2.2.1+s.2.2.2.2))) 1)))
 else
  bif decide (s.2.2.2.1<s.2.2.1) then
   (aO s.1 s.2.2.2.1).bind fun a2=>
   (yA a2 s.2.1).bind fun n3=>
   some (.done (s.2.2.2.1,n3==0))
  else
   some (.done (s.2.2.2.1,false))
def cZ (p0:List (Int×Int×Int)) (p1:Int) (_:Unit):Option (Int×Bool):=
 aH iW (p0,p1,Int.ofNat p0.length,0,Int.ofNat p0.length)
def R7:bJ:=⟨aB.cons (aK.sl eM) (aB.cons (aK.int .i64) (aB.one (aK.clo 177 aB.nil))),aK.tup (aB.cons (aK.int .i64) (aB.one aK.bool)),fun a=>cZ a.1 a.2.1 a.2.2,.pure,false⟩
theorem R8:aJ aV 176 R7:=Oc aFT rfl aG [(177,aPS)] ⟨aHc,trivial⟩ fun a=>by kernel_rfl
def pK (p0:List (Int×Int×Int)) (p1:Int):Option (Int×Bool):=
 (cZ p0 p1 ()).bind fun a0=>
 some a0
def aNB:bJ:=⟨aB.cons (aK.sl eM) (aB.one (aK.int .i64)),aK.tup (aB.cons (aK.int .i64) (aB.one aK.bool)),fun a=>pK a.1 a.2,.pure,false⟩
theorem XK:aJ aV 124 aNB:=Oc aE7 rfl aG [(176,R7)] ⟨R8,trivial⟩ fun a=>by kernel_rfl
def CI (p0:aR) (p1:Int×Int):Option (Bool×Int):=
 (rS p0).bind fun n0=>
 bif n0 !=0 then
  some (false,n0)
 else
  bif decide (0<=p1.1) then
   bif decide (p1.1<(Int.ofNat p0.used.length)) then
    (aO p0.used p1.1).bind fun b1=>
    bif b1 then
     (aO p0.uses p1.1).bind fun n2=>
     some (n2==p1.2,0)
    else
     some (false,0)
   else
    some (false,0)
  else
   some (false,0)
def aNC:bJ:=⟨aB.cons (aK.agg fK) (aB.one (aK.agg (cI.row iE))),aK.tup (aB.cons aK.bool (aB.one (aK.int .i64))),fun a=>CI a.1 a.2,.pure,false⟩
theorem XL:aJ aV 205 aNC:=Oc aGj rfl aG [(142,aGS)] ⟨PE,trivial⟩ fun a=>by kernel_rfl
def qJ (p0:aI) (p1:Int×Int):Option (Int×Int):=
 (lK p0).bind fun n0=>
 bif n0 !=0 then
  some (0,n0)
 else
  (CI p0.slots p1).bind fun a1=>
  bif a1.2 !=0 then
   some (0,6)
  else
   bif !a1.1 then
    some (0,6)
   else
    (aO p0.where_ p1.1).bind fun n2=>
    some (n2,0)
def aND:bJ:=⟨aB.cons (aK.agg cS) (aB.one (aK.agg (cI.row iE))),aK.tup (aB.cons (aK.int .i64) (aB.one (aK.int .i64))),fun a=>qJ a.1 a.2,.pure,false⟩
theorem XM:aJ aV 178 aND:=Oc aFV rfl aG [(92,c92),(205,aNC)] ⟨PG,XL,trivial⟩ fun a=>by kernel_rfl
theorem R9:aJ aV 228 (bJ.clone ki):=aJ.clone aGC rfl
def uE (p0:List Int) (p1:Int):Option (List Int):=
 (cB p0).bind fun l0=>
 (bH l0 [p1]).bind fun l1=>
 some l1
def aPT:bJ:=⟨aB.cons (aK.sl ki) (aB.one (aK.int .i64)),aK.sl ki,fun a=>uE a.1 a.2,.frz,false⟩
theorem aHd:aJ aV 221 aPT:=Oc aGw rfl aG [(228,bJ.clone ki)] ⟨R9,trivial⟩ fun a=>by kernel_rfl
def DA (p0:aR) (p1:Int×Int):Option (aR×Int):=
 (CI p0 p1).bind fun a0=>
 bif a0.2 !=0 then
  some (aR.mk [] [] [],a0.2)
 else
  bif !a0.1 then
   some (aR.mk [] [] [],6)
  else
   (cB p0.uses).bind fun l1=>
   (cB p0.used).bind fun l2=>
   (uE p0.free p1.1).bind fun l3=>
   (aO l2 p1.1).bind fun _=>
   some (aR.mk l1 (bX l2 p1.1 false) l3,0)
def aPU:bJ:=⟨aB.cons (aK.agg fK) (aB.one (aK.agg (cI.row iE))),aK.tup (aB.cons (aK.agg fK) (aB.one (aK.int .i64))),fun a=>DA a.1 a.2,.frz,false⟩
theorem aHe:aJ aV 206 aPU:=aJ.of aGk (cx:=(pW aG [(205,aNC),(130,bJ.clone ki),(131,bJ.clone kb),(221,aPT)] [] [(220,aA7)] [])) rfl (mK.make ⟨XL,qI,vQ,aHd,trivial⟩ trivial ⟨XD,trivial⟩) (fun a=>by kernel_rfl)
abbrev aHf:=(List Int)×(List Bool)×(List Int)×Nat×Nat×Int×Int×Int×Int×Int×Int×jV×(List Int)
abbrev MW:=jV×(List Int)
def bS (a:aHf):Option MW:=
 (aO (a.2.2.2.2.2.2.2.2.2.2.2.1.take a.2.2.2.1) a.2.2.2.2.2.1).bind fun _=>
 (aO a.2.2.2.2.2.2.2.2.2.2.2.2 a.2.2.2.2.2.2.2.2.2.1).bind fun _=>
 bif ((bX a.2.2.2.2.2.2.2.2.2.2.2.1 a.2.2.2.2.2.1 (a.2.2.2.2.2.2.1,a.2.2.2.2.2.2.2.1,a.2.2.2.2.2.2.2.2.1,a.2.2.2.2.2.2.2.2.2.1,a.2.2.2.2.2.2.2.2.2.2.1)).length)==a.2.2.2.2.2.2.2.2.2.2.2.1.length then
  bif ((bX a.2.2.2.2.2.2.2.2.2.2.2.2 a.2.2.2.2.2.2.2.2.2.1 a.2.2.2.2.2.1).length)==a.2.2.2.2.2.2.2.2.2.2.2.2.length then
   some (bX a.2.2.2.2.2.2.2.2.2.2.2.1 a.2.2.2.2.2.1 (a.2.2.2.2.2.2.1,a.2.2.2.2.2.2.2.1,a.2.2.2.2.2.2.2.2.1,a.2.2.2.2.2.2.2.2.2.1,a.2.2.2.2.2.2.2.2.2.2.1),bX a.2.2.2.2.2.2.2.2.2.2.2.2 a.2.2.2.2.2.2.2.2.2.1 a.2.2.2.2.2.1)
  else
   none
 else
  none
def UV:dV:=⟨[.l [.i .i64],.l [.b],.l [.i .i64],.n,.n,.i,.i,.i,.i,.i,.i,.l [.i .i64,.i .i64,.i .i64,.i .i64,.i .i64],.l [.i .i64]],[.agg [.sl [.i .i64] [],.sl [.b] [],.sl [.i .i64] [],.pre 0 0 0 false,.own 1 false],.int .i64 0,.agg [.int .i64 0,.int .i64 0,.int .i64 0,.int .i64 0,.int .i64 0]],[.arr [.i .i64,.i .i64,.i .i64,.i .i64,.i .i64] [],.arr [.i .i64] []],[.l [.i .i64,.i .i64,.i .i64,.i .i64,.i .i64],.l [.i .i64]],.tup [],[.arr [.i .i64,.i .i64,.i .i64,.i .i64,.i .i64] [],.arr [.i .i64] []],fun a=>bS a⟩
theorem NT:kW aV 222 UV:=kW.of XE (wd:=false) (cx:=(pW aG [] [] [] [])) (mK.make trivial trivial trivial) (fun a=>by kernel_rfl)
abbrev aPV:=Int×jV×(List Int)×(List Int)×(List Bool)×(List Int)×Nat×Nat×Int×Int×Int×Int×Int
abbrev aPW:=cE aPV MW
abbrev aPX:=Int×Int×jV×(List Int)×(List Int)×(List Bool)×(List Int)×Nat×Nat×Int×Int×Int×Int×Int
def fT (c0:aHf) (s:aPX):Option (cE aPX aPW):=
 match s with
 |(a,b,d,e,f,g,h,i,j,k,l,m,n,o)=>
  bif decide (b<(Int.ofNat i)) then
   bif decide ((aA .i64 (b+1))<(Int.ofNat i)) then
    (aO (d.take i) (aA .i64 (b+1))).bind fun a0=>
    (aO (d.take i) b).bind fun a1=>
    (cC a0 a1).bind fun n2=>
    bif decide (n2<0) then
     (aO (d.take i) (aA .i64 (b+1))).bind fun a3=>
     (cC a3 (k,l,m,n,o)).bind fun n4=>
     bif decide (0<=n4) then
      (bS (f,g,h,i,j,a,k,l,m,n,o,d,e)).bind fun a5=>
      bif a5.1.length==c0.2.2.2.2.2.2.2.2.2.2.2.1.length then
       bif a5.2.length==c0.2.2.2.2.2.2.2.2.2.2.2.2.length then
        some (.done (.done a5))
       else
        none
      else
       none
     else
      (aO (d.take i) (aA .i64 (b+1))).bind fun a6=>
      (bS (f,g,h,i,j,a,a6.1,a6.2.1,a6.2.2.1,a6.2.2.2.1,a6.2.2.2.2,d,e)).bind fun a7=>
      some (.next (aA .i64 (b+1),aA .i64 ((aA .i64 (2*(aA .i64 (b+1))))+1),a7.1,a7.2,(f,g,h,i,j,k,l,m,n,o)))
    else
     (aO (d.take i) b).bind fun a8=>
     (cC a8 (k,l,m,n,o)).bind fun n9=>
     bif decide (0<=n9) then
      (bS (f,g,h,i,j,a,k,l,m,n,o,d,e)).bind fun a10=>
      bif a10.1.length==c0.2.2.2.2.2.2.2.2.2.2.2.1.length then
       bif a10.2.length==c0.2.2.2.2.2.2.2.2.2.2.2.2.length then
        some (.done (.done a10))
       else
        none
      else
       none
     else
      (aO (d.take i) b).bind fun a11=>
      (bS (f,g,h,i,j,a,a11.1,a11.2.1,a11.2.2.1,a11.2.2.2.1,a11.2.2.2.2,d,e)).bind fun a12=>
      some (.next (b,aA .i64 ((aA .i64 (2*b))+1),a12.1,a12.2,(f,g,h,i,j,k,l,m,n,o)))
   else
    (aO (d.take i) b).bind fun a13=>
    (cC a13 (k,l,m,n,o)).bind fun n14=>
    bif decide (0<=n14) then
     (bS (f,g,h,i,j,a,k,l,m,n,o,d,e)).bind fun a15=>
     bif a15.1.length==c0.2.2.2.2.2.2.2.2.2.2.2.1.length then
      bif a15.2.length==c0.2.2.2.2.2.2.2.2.2.2.2.2.length then
       some (.done (.done a15))
      else
       none
     else
      none
    else
     (aO (d.take i) b).bind fun a16=>
     (bS (f,g,h,i,j,a,a16.1,a16.2.1,a16.2.2.1,a16.2.2.2.1,a16.2.2.2.2,d,e)).bind fun a17=>
     some (.next (b,aA .i64 ((aA .i64 (2*b))+1),a17.1,a17.2,(f,g,h,i,j,k,l,m,n,o)))
  else
   (bS (f,g,h,i,j,a,k,l,m,n,o,d,e)).bind fun a18=>
   bif a18.1.length==c0.2.2.2.2.2.2.2.2.2.2.2.1.length then
    bif a18.2.length==c0.2.2.2.2.2.2.2.2.2.2.2.2.length then
     some (.done (.done a18))
    else
     none
   else
    none
def eE (c0:aHf) (s:aPV):Option aPW:=
 bif decide (0<s.1) then
  (aO (s.2.1.take s.2.2.2.2.2.2.1) (aA .i64 (Int.tdiv (aA .i64 (s.1-1)) 2))).bind fun a0=>
  (cC s.2.2.2.2.2.2.2.2 a0).bind fun n1=>
  bif decide (n1<0) then
   (aO (s.2.1.take s.2.2.2.2.2.2.1) (aA .i64 (Int.tdiv (aA .i64 (s.1-1)) 2))).bind fun a2=>
   (bS (s.2.2.2.1,s.2.2.2.2.1,s.2.2.2.2.2.1,s.2.2.2.2.2.2.1,s.2.2.2.2.2.2.2.1,s.1,a2.1,a2.2.1,a2.2.2.1,a2.2.2.2.1,a2.2.2.2.2,s.2.1,s.2.2.1)).bind fun a3=>
   some (.next (aA .i64 (Int.tdiv (aA .i64 (s.1-1)) 2),a3.1,a3.2,s.2.2.2))
  else
   aH (fT c0) (s.1,aA .i64 ((aA .i64 (2*s.1))+1),s.2)
 else
  aH (fT c0) (s.1,aA .i64 ((aA .i64 (2*s.1))+1),s.2)
def jX (a:aHf):Option MW:=
 aH (eE a) (a.2.2.2.2.2.1,a.2.2.2.2.2.2.2.2.2.2.2.1,a.2.2.2.2.2.2.2.2.2.2.2.2,a.1,a.2.1,a.2.2.1,a.2.2.2.1,a.2.2.2.2.1,a.2.2.2.2.2.2.1,a.2.2.2.2.2.2.2.1,a.2.2.2.2.2.2.2.2.1,a.2.2.2.2.2.2.2.2.2.1,a.2.2.2.2.2.2.2.2.2.2.1)
def PK:dV:=⟨[.l [.i .i64],.l [.b],.l [.i .i64],.n,.n,.i,.i,.i,.i,.i,.i,.l [.i .i64,.i .i64,.i .i64,.i .i64,.i .i64],.l [.i .i64]],[.agg [.sl [.i .i64] [],.sl [.b] [],.sl [.i .i64] [],.pre 0 0 0 false,.own 1 false],.int .i64 0,.agg [.int .i64 0,.int .i64 0,.int .i64 0,.int .i64 0,.int .i64 0]],[.arr [.i .i64,.i .i64,.i .i64,.i .i64,.i .i64] [],.arr [.i .i64] []],[.l [.i .i64,.i .i64,.i .i64,.i .i64,.i .i64],.l [.i .i64]],.tup [],[.arr [.i .i64,.i .i64,.i .i64,.i .i64,.i .i64] [],.arr [.i .i64] []],fun a=>jX a⟩
theorem HV:kW aV 208 PK:=kW.of XC (wd:=false) (cx:=(pW aG [(143,aGV)] [(222,UV)] [] [])) (mK.make ⟨PF,trivial⟩ ⟨NT,trivial⟩ trivial) (fun a=>by kernel_rfl)
def sN (p0:aI) (p1:Int):Option (aI×(Int×Int×Int×Int×Int)×Int):=
 (aO p0.heap p1).bind fun a0=>
 (DA p0.slots a0.2.2.2).bind fun a1=>
 bif a1.2 !=0 then
  some (aI.mk (aR.mk [] [] []) [] [],(0,0,0,0,0),a1.2)
 else
  (cB p0.heap).bind fun l2=>
  (cB p0.where_).bind fun l3=>
  (aO l2 (aA .i64 ((Int.ofNat l2.length) -1))).bind fun a4=>
  (iI l2 0 (aA .i64 ((Int.ofNat l2.length) -1))).bind fun _=>
  (aO l3 a0.2.2.2.1).bind fun _=>
  bif decide (p1<(aA .i64 ((Int.ofNat l2.length) -1))) then
   (jX (a1.1.uses,a1.1.used,a1.1.free,(aA .i64 ((Int.ofNat l2.length) -1)).toNat,l2.length,p1,a4.1,a4.2.1,a4.2.2.1,a4.2.2.2.1,a4.2.2.2.2,l2,bX l3 a0.2.2.2.1 (-1))).bind fun a7=>
   some (aI.mk a1.1 (a7.1.take ((aA .i64 ((Int.ofNat l2.length) -1)).toNat)) a7.2,a0,0)
  else
   some (aI.mk a1.1 (l2.take ((aA .i64 ((Int.ofNat l2.length) -1)).toNat)) (bX l3 a0.2.2.2.1 (-1)),a0,0)
def aPY:bJ:=⟨aB.cons (aK.agg cS) (aB.one (aK.int .i64)),aK.tup (aB.cons (aK.agg cS) (aB.cons (aK.agg (cI.row lJ)) (aB.one (aK.int .i64)))),fun a=>sN a.1 a.2,.frz,false⟩
theorem aHg:aJ aV 179 aPY:=aJ.of aFW (cx:=(pW aG [(206,aPU),(129,bJ.clone lJ),(130,bJ.clone ki)] [(208,PK)] [(207,ZG)] [])) rfl (mK.make ⟨aHe,vS,qI,trivial⟩ ⟨HV,trivial⟩ ⟨PB,trivial⟩) (fun a=>by kernel_rfl)
def mE (p0:aI) (p1:Int×Int):Option (aI×(Int×Int×Int×Int×Int)×Int):=
 (qJ p0 p1).bind fun a0=>
 bif a0.2 !=0 then
  some (aI.mk (aR.mk [] [] []) [] [],(0,0,0,0,0),a0.2)
 else
  (sN p0 a0.1).bind fun a1=>
  some a1
def aNE:bJ:=⟨aB.cons (aK.agg cS) (aB.one (aK.agg (cI.row iE))),aK.tup (aB.cons (aK.agg cS) (aB.cons (aK.agg (cI.row lJ)) (aB.one (aK.int .i64)))),fun a=>mE a.1 a.2,.frz,false⟩
theorem XN:aJ aV 125 aNE:=Oc aE8 rfl aG [(178,aND),(179,aPY)] ⟨XM,aHg,trivial⟩ fun a=>by kernel_rfl
def lL (a:aBk):Option (Nat×Nat×bO):=
 bif (((decide (0<=a.1))&&(decide (a.1<=a.2.1)))&&(decide (a.2.1<=(Int.ofNat a.2.2.length))))&&(decide ((Int.ofNat a.2.2.length)<=(Int.ofNat a.2.2.length))) then
  bif a.1==a.2.1 then
   bif a.2.2.length==a.2.2.length then
    some (a.2.2.length,a.2.2.length,a.2.2)
   else
    none
  else
   (iI a.2.2 0 a.1).bind fun _=>
   bif ((decide (0<=a.2.1))&&(decide (a.2.1<=(Int.ofNat a.2.2.length))))&&(decide ((Int.ofNat a.2.2.length)<=(Int.ofNat a.2.2.length))) then
    bif ((a.2.2.drop (0+a.2.1.toNat)).take (((Int.ofNat a.2.2.length).toNat) -a.2.1.toNat)).isEmpty then
     bif ((decide (0<=(Int.ofNat a.1.toNat)))&&(decide ((Int.ofNat a.1.toNat)<=(Int.ofNat a.2.2.length))))&&(decide ((Int.ofNat a.2.2.length)<=(Int.ofNat a.2.2.length))) then
      bif Nat.beq (((Int.ofNat a.2.2.length).toNat) - ((Int.ofNat a.1.toNat).toNat)) 0 then
       bif a.2.2.length==a.2.2.length then
        some (a.1.toNat,a.2.2.length,a.2.2)
       else
        none
      else
       bif (Nat.ble ((0+((Int.ofNat a.1.toNat).toNat))+(((Int.ofNat a.2.2.length).toNat) - ((Int.ofNat a.1.toNat).toNat))) a.2.2.length)&&(!false) then
        bif ((fL a.2.2 (0+((Int.ofNat a.1.toNat).toNat)) (List.replicate (((Int.ofNat a.2.2.length).toNat) - ((Int.ofNat a.1.toNat).toNat)) (0,0,0))).length)==a.2.2.length then
         some (a.1.toNat,a.2.2.length,fL a.2.2 (0+((Int.ofNat a.1.toNat).toNat)) (List.replicate (((Int.ofNat a.2.2.length).toNat) - ((Int.ofNat a.1.toNat).toNat)) (0,0,0)))
        else
         none
       else
        none
     else
      none
    else
     bif Nat.ble (a.1.toNat+(((a.2.2.drop (0+a.2.1.toNat)).take (((Int.ofNat a.2.2.length).toNat) -a.2.1.toNat)).length)) a.2.2.length then
      bif (Nat.ble (a.1.toNat+(((a.2.2.drop (0+a.2.1.toNat)).take (((Int.ofNat a.2.2.length).toNat) -a.2.1.toNat)).length)) a.2.2.length)&&(!false) then
       bif ((decide (0<=(Int.ofNat (a.1.toNat+(((a.2.2.drop (0+a.2.1.toNat)).take (((Int.ofNat a.2.2.length).toNat) -a.2.1.toNat)).length)))))&&(decide ((Int.ofNat (a.1.toNat+(((a.2.2.drop (0+a.2.1.toNat)).take (((Int.ofNat a.2.2.length).toNat) -a.2.1.toNat)).length)))<=(Int.ofNat a.2.2.length))))&&(decide ((Int.ofNat a.2.2.length)<=(Int.ofNat a.2.2.length))) then
        bif Nat.beq (((Int.ofNat a.2.2.length).toNat) - ((Int.ofNat (a.1.toNat+(((a.2.2.drop (0+a.2.1.toNat)).take (((Int.ofNat a.2.2.length).toNat) -a.2.1.toNat)).length))).toNat)) 0 then
         bif ((fL a.2.2 a.1.toNat ((a.2.2.drop (0+a.2.1.toNat)).take (((Int.ofNat a.2.2.length).toNat) -a.2.1.toNat))).length)==a.2.2.length then
          some (a.1.toNat+(((a.2.2.drop (0+a.2.1.toNat)).take (((Int.ofNat a.2.2.length).toNat) -a.2.1.toNat)).length),a.2.2.length,fL a.2.2 a.1.toNat ((a.2.2.drop (0+a.2.1.toNat)).take (((Int.ofNat a.2.2.length).toNat) -a.2.1.toNat)))
         else
          none
        else
         bif (Nat.ble ((0+((Int.ofNat (a.1.toNat+(((a.2.2.drop (0+a.2.1.toNat)).take (((Int.ofNat a.2.2.length).toNat) -a.2.1.toNat)).length))).toNat))+(((Int.ofNat a.2.2.length).toNat) - ((Int.ofNat (a.1.toNat+(((a.2.2.drop (0+a.2.1.toNat)).take (((Int.ofNat a.2.2.length).toNat) -a.2.1.toNat)).length))).toNat))) ((fL a.2.2 a.1.toNat ((a.2.2.drop (0+a.2.1.toNat)).take (((Int.ofNat a.2.2.length).toNat) -a.2.1.toNat))).length))&&(!false) then
          bif ((fL (fL a.2.2 a.1.toNat ((a.2.2.drop (0+a.2.1.toNat)).take (((Int.ofNat a.2.2.length).toNat) -a.2.1.toNat))) (0+((Int.ofNat (a.1.toNat+(((a.2.2.drop (0+a.2.1.toNat)).take (((Int.ofNat a.2.2.length).toNat) -a.2.1.toNat)).length))).toNat)) (List.replicate (((Int.ofNat a.2.2.length).toNat) - ((Int.ofNat (a.1.toNat+(((a.2.2.drop (0+a.2.1.toNat)).take (((Int.ofNat a.2.2.length).toNat) -a.2.1.toNat)).length))).toNat)) (0,0,0))).length)==a.2.2.length then
           some (a.1.toNat+(((a.2.2.drop (0+a.2.1.toNat)).take (((Int.ofNat a.2.2.length).toNat) -a.2.1.toNat)).length),a.2.2.length,fL (fL a.2.2 a.1.toNat ((a.2.2.drop (0+a.2.1.toNat)).take (((Int.ofNat a.2.2.length).toNat) -a.2.1.toNat))) (0+((Int.ofNat (a.1.toNat+(((a.2.2.drop (0+a.2.1.toNat)).take (((Int.ofNat a.2.2.length).toNat) -a.2.1.toNat)).length))).toNat)) (List.replicate (((Int.ofNat a.2.2.length).toNat) - ((Int.ofNat (a.1.toNat+(((a.2.2.drop (0+a.2.1.toNat)).take (((Int.ofNat a.2.2.length).toNat) -a.2.1.toNat)).length))).toNat)) (0,0,0)))
          else
           none
         else
          none
       else
        none
      else
       none
     else
      none
   else
    none
 else
  none
def aBm:dV:=⟨[.i,.i,.l [.i .i64,.i .i64,.i .i64]],[.own 0 false,.int .i64 0,.int .i64 0],[.arr [.i .i64,.i .i64,.i .i64] []],[.n,.n,.l [.i .i64,.i .i64,.i .i64]],.pre 0 0 0 false,[.arr [.i .i64,.i .i64,.i .i64] []],fun a=>lL a⟩
theorem ZI:kW aV 126 aBm:=kW.of aE9 (wd:=true) (cx:=(pW aG [] [] [] [])) (mK.make trivial trivial trivial) (fun a=>by kernel_rfl)
def rU (p0:aQ) (p1:Int):Option (aQ×(Int×Int)×Int):=
 (xA p0.certs p1).bind fun a0=>
 bif a0.2.2 !=0 then
  some (aQ.mk (0,0) (Field.mk []) (aW.mk 0 []) (aI.mk (aR.mk [] [] []) [] []) [],a0.2)
 else
  (mX p0).bind fun r1=>
  (pK p0.due p1).bind fun a2=>
  bif a2.2 then
   (aO p0.due a2.1).bind fun a3=>
   (mE p0.agenda a3.2).bind fun a4=>
   bif a4.2.2 !=0 then
    some (aQ.mk (0,0) (Field.mk []) (aW.mk 0 []) (aI.mk (aR.mk [] [] []) [] []) [],a0.2.1,a4.2.2)
   else
    (lL (a2.1,aA .i64 (a2.1+1),r1.due)).bind fun a5=>
    some (aQ.mk r1.now r1.field a0.1 a4.1 (a5.2.2.take a5.1),a0.2.1,0)
  else
   some (aQ.mk r1.now r1.field a0.1 r1.agenda r1.due,a0.2.1,0)
def c78:bJ:=⟨aB.cons (aK.agg bN) (aB.one (aK.int .i64)),aK.tup (aB.cons (aK.agg bN) (aB.cons (aK.agg (cI.row iE)) (aB.one (aK.int .i64)))),fun a=>rU a.1 a.2,.frz,false⟩
theorem aNF:aJ aV 78 c78:=aJ.of aM2 (cx:=(pW aG [(123,aPR),(79,c79),(79,aHb),(124,aNB),(125,aNE)] [(126,aBm)] [] [])) rfl (mK.make ⟨aHa,UU,PJ,XK,XN,trivial⟩ ⟨ZI,trivial⟩ trivial) (fun a=>by kernel_rfl)
def uT (p0:aQ) (p1:Int):Option (aQ×Int):=
 (gN p0).bind fun n0=>
 bif n0 !=0 then
  some (aQ.mk (0,0) (Field.mk []) (aW.mk 0 []) (aI.mk (aR.mk [] [] []) [] []) [],n0)
 else
  (rU p0 p1).bind fun a1=>
  some (a1.1,a1.2.2)
def aPZ:bJ:=⟨aB.cons (aK.agg bN) (aB.one (aK.int .i64)),aK.tup (aB.cons (aK.agg bN) (aB.one (aK.int .i64))),fun a=>uT a.1 a.2,.frz,false⟩
theorem aHh:aJ aV 157 aPZ:=Oc aFB rfl aG [(49,c49),(78,c78)] ⟨LQ,aNF,trivial⟩ fun a=>by kernel_rfl
abbrev aNG:=bO×bO×Int×Int
abbrev aP0:=cE aNG Bool
def iU (s:aNG):Option aP0:=
 bif decide (s.2.2.2<s.2.2.1) then
  (aO s.1 s.2.2.2).bind fun a0=>
  (aO s.2.1 s.2.2.2).bind fun a1=>
  bif !((a0.1==a1.1)&&((a0.2.1==a1.2.1)&&(a0.2.2==a1.2.2))) then
   some (.done false)
  else
   some (.next (s.1,s.2.1,s.2.2.1,aA .i64 (s.2.2.2+1)))
 else
  some (.done true)
def iO (p0:List (Int×Int×Int)) (p1:List (Int×Int×Int)):Option Bool:=
 bif (Int.ofNat p0.length) !=(Int.ofNat p1.length) then
  some false
 else
  aH iU (p0,p1,Int.ofNat p0.length,0)
def aP1:bJ:=⟨aB.cons (aK.sl eM) (aB.one (aK.sl eM)),aK.bool,fun a=>iO a.1 a.2,.pure,false⟩
theorem aHi:aJ aV 158 aP1:=Oc aFC rfl aG [] trivial fun a=>by kernel_rfl
abbrev aHj:=(List Int)×(List Bool)×(List Int)×Int×Int×Int×Int×Int×Int×jV×(List Int)
def bT (a:aHj):Option MW:=
 (aO a.2.2.2.2.2.2.2.2.2.1 a.2.2.2.1).bind fun _=>
 (aO a.2.2.2.2.2.2.2.2.2.2 a.2.2.2.2.2.2.2.1).bind fun _=>
 bif ((bX a.2.2.2.2.2.2.2.2.2.1 a.2.2.2.1 (a.2.2.2.2.1,a.2.2.2.2.2.1,a.2.2.2.2.2.2.1,a.2.2.2.2.2.2.2.1,a.2.2.2.2.2.2.2.2.1)).length)==a.2.2.2.2.2.2.2.2.2.1.length then
  bif ((bX a.2.2.2.2.2.2.2.2.2.2 a.2.2.2.2.2.2.2.1 a.2.2.2.1).length)==a.2.2.2.2.2.2.2.2.2.2.length then
   some (bX a.2.2.2.2.2.2.2.2.2.1 a.2.2.2.1 (a.2.2.2.2.1,a.2.2.2.2.2.1,a.2.2.2.2.2.2.1,a.2.2.2.2.2.2.2.1,a.2.2.2.2.2.2.2.2.1),bX a.2.2.2.2.2.2.2.2.2.2 a.2.2.2.2.2.2.2.1 a.2.2.2.1)
  else
   none
 else
  none
def aBn:dV:=⟨[.l [.i .i64],.l [.b],.l [.i .i64],.i,.i,.i,.i,.i,.i,.l [.i .i64,.i .i64,.i .i64,.i .i64,.i .i64],.l [.i .i64]],[.agg [.sl [.i .i64] [],.sl [.b] [],.sl [.i .i64] [],.own 0 false,.own 1 false],.int .i64 0,.agg [.int .i64 0,.int .i64 0,.int .i64 0,.int .i64 0,.int .i64 0]],[.arr [.i .i64,.i .i64,.i .i64,.i .i64,.i .i64] [],.arr [.i .i64] []],[.l [.i .i64,.i .i64,.i .i64,.i .i64,.i .i64],.l [.i .i64]],.tup [],[.arr [.i .i64,.i .i64,.i .i64,.i .i64,.i .i64] [],.arr [.i .i64] []],fun a=>bT a⟩
theorem ZJ:kW aV 222 aBn:=kW.of XE (wd:=false) (cx:=(pW aG [] [] [] [])) (mK.make trivial trivial trivial) (fun a=>by kernel_rfl)
abbrev aP2:=Int×jV×(List Int)×(List Int)×(List Bool)×(List Int)×Int×Int×Int×Int×Int
abbrev aP3:=cE aP2 MW
abbrev aP4:=Int×Int×jV×(List Int)×(List Int)×(List Bool)×(List Int)×Int×Int×Int×Int×Int
def fU (c0:aHj) (s:aP4):Option (cE aP4 aP3):=
 match s with
 |(a,b,d,e,f,g,h,i,j,k,l,m)=>
  bif decide (b<(Int.ofNat d.length)) then
   bif decide ((aA .i64 (b+1))<(Int.ofNat d.length)) then
    (aO d (aA .i64 (b+1))).bind fun a0=>
    (aO d b).bind fun a1=>
    (cC a0 a1).bind fun n2=>
    bif decide (n2<0) then
     (aO d (aA .i64 (b+1))).bind fun a3=>
     (cC a3 (i,j,k,l,m)).bind fun n4=>
     bif decide (0<=n4) then
      (bT (f,g,h,a,i,j,k,l,m,d,e)).bind fun a5=>
      bif a5.1.length==c0.2.2.2.2.2.2.2.2.2.1.length then
       bif a5.2.length==c0.2.2.2.2.2.2.2.2.2.2.length then
        some (.done (.done a5))
       else
        none
      else
       none
     else
      (aO d (aA .i64 (b+1))).bind fun a6=>
      (bT (f,g,h,a,a6.1,a6.2.1,a6.2.2.1,a6.2.2.2.1,a6.2.2.2.2,d,e)).bind fun a7=>
      some (.next (aA .i64 (b+1),aA .i64 ((aA .i64 (2*(aA .i64 (b+1))))+1),a7.1,a7.2,(f,g,h,i,j,k,l,m)))
    else
     (aO d b).bind fun a8=>
     (cC a8 (i,j,k,l,m)).bind fun n9=>
     bif decide (0<=n9) then
      (bT (f,g,h,a,i,j,k,l,m,d,e)).bind fun a10=>
      bif a10.1.length==c0.2.2.2.2.2.2.2.2.2.1.length then
       bif a10.2.length==c0.2.2.2.2.2.2.2.2.2.2.length then
        some (.done (.done a10))
       else
        none
      else
       none
     else
      (aO d b).bind fun a11=>
      (bT (f,g,h,a,a11.1,a11.2.1,a11.2.2.1,a11.2.2.2.1,a11.2.2.2.2,d,e)).bind fun a12=>
      some (.next (b,aA .i64 ((aA .i64 (2*b))+1),a12.1,a12.2,(f,g,h,i,j,k,l,m)))
   else
    (aO d b).bind fun a13=>
    (cC a13 (i,j,k,l,m)).bind fun n14=>
    bif decide (0<=n14) then
     (bT (f,g,h,a,i,j,k,l,m,d,e)).bind fun a15=>
     bif a15.1.length==c0.2.2.2.2.2.2.2.2.2.1.length then
      bif a15.2.length==c0.2.2.2.2.2.2.2.2.2.2.length then
       some (.done (.done a15))
      else
       none
     else
      none
    else
     (aO d b).bind fun a16=>
     (bT (f,g,h,a,a16.1,a16.2.1,a16.2.2.1,a16.2.2.2.1,a16.2.2.2.2,d,e)).bind fun a17=>
     some (.next (b,aA .i64 ((aA .i64 (2*b))+1),a17.1,a17.2,(f,g,h,i,j,k,l,m)))
  else
   (bT (f,g,h,a,i,j,k,l,m,d,e)).bind fun a18=>
   bif a18.1.length==c0.2.2.2.2.2.2.2.2.2.1.length then
    bif a18.2.length==c0.2.2.2.2.2.2.2.2.2.2.length then
     some (.done (.done a18))
    else
     none
   else
    none
def eF (c0:aHj) (s:aP2):Option aP3:=
 bif decide (0<s.1) then
  (aO s.2.1 (aA .i64 (Int.tdiv (aA .i64 (s.1-1)) 2))).bind fun a0=>
  (cC s.2.2.2.2.2.2 a0).bind fun n1=>
  bif decide (n1<0) then
   (aO s.2.1 (aA .i64 (Int.tdiv (aA .i64 (s.1-1)) 2))).bind fun a2=>
   (bT (s.2.2.2.1,s.2.2.2.2.1,s.2.2.2.2.2.1,s.1,a2.1,a2.2.1,a2.2.2.1,a2.2.2.2.1,a2.2.2.2.2,s.2.1,s.2.2.1)).bind fun a3=>
   some (.next (aA .i64 (Int.tdiv (aA .i64 (s.1-1)) 2),a3.1,a3.2,s.2.2.2))
  else
   aH (fU c0) (s.1,aA .i64 ((aA .i64 (2*s.1))+1),s.2)
 else
  aH (fU c0) (s.1,aA .i64 ((aA .i64 (2*s.1))+1),s.2)
def eQ (a:aHj):Option MW:=
 aH (eF a) (a.2.2.2.1,a.2.2.2.2.2.2.2.2.2.1,a.2.2.2.2.2.2.2.2.2.2,a.1,a.2.1,a.2.2.1,a.2.2.2.2.1,a.2.2.2.2.2.1,a.2.2.2.2.2.2.1,a.2.2.2.2.2.2.2.1,a.2.2.2.2.2.2.2.2.1)
def UW:dV:=⟨[.l [.i .i64],.l [.b],.l [.i .i64],.i,.i,.i,.i,.i,.i,.l [.i .i64,.i .i64,.i .i64,.i .i64,.i .i64],.l [.i .i64]],[.agg [.sl [.i .i64] [],.sl [.b] [],.sl [.i .i64] [],.own 0 false,.own 1 false],.int .i64 0,.agg [.int .i64 0,.int .i64 0,.int .i64 0,.int .i64 0,.int .i64 0]],[.arr [.i .i64,.i .i64,.i .i64,.i .i64,.i .i64] [],.arr [.i .i64] []],[.l [.i .i64,.i .i64,.i .i64,.i .i64,.i .i64],.l [.i .i64]],.tup [],[.arr [.i .i64,.i .i64,.i .i64,.i .i64,.i .i64] [],.arr [.i .i64] []],fun a=>eQ a⟩
theorem NU:kW aV 208 UW:=kW.of XC (wd:=false) (cx:=(pW aG [(143,aGV)] [(222,UV),(222,aBn)] [] [])) (mK.make ⟨PF,trivial⟩ ⟨NT,ZJ,trivial⟩ trivial) (fun a=>by kernel_rfl)
def uU (p0:aI) (p1:Int×Int) (p2:Int×Int):Option (aI×Int):=
 (lK p0).bind fun n0=>
 (gA p2).bind fun n1=>
 bif (if n1>n0 then n1 else n0) !=0 then
  some (aI.mk (aR.mk [] [] []) [] [],if n1>n0 then n1 else n0)
 else
  (qJ p0 p1).bind fun a2=>
  bif a2.2 !=0 then
   some (aI.mk (aR.mk [] [] []) [] [],a2.2)
  else
   (cB p0.heap).bind fun l3=>
   (cB p0.where_).bind fun l4=>
   (aO l3 a2.1).bind fun a5=>
   (eQ (p0.slots.uses,p0.slots.used,p0.slots.free,a2.1,p2.1,p2.2,a5.2.2.1,a5.2.2.2.1,a5.2.2.2.2,l3,l4)).bind fun a6=>
   some (aI.mk p0.slots a6.1 a6.2,0)
def aP5:bJ:=⟨aB.cons (aK.agg cS) (aB.cons (aK.agg (cI.row iE)) (aB.one (aK.agg (cI.row iE)))),aK.tup (aB.cons (aK.agg cS) (aB.one (aK.int .i64))),fun a=>uU a.1 a.2.1 a.2.2,.frz,false⟩
theorem aHk:aJ aV 193 aP5:=aJ.of aGa (cx:=(pW aG [(92,c92),(35,c35),(178,aND),(129,bJ.clone lJ),(130,bJ.clone ki)] [(208,PK),(208,UW)] [(207,ZG)] [])) rfl (mK.make ⟨PG,CE,XM,vS,qI,trivial⟩ ⟨HV,NU,trivial⟩ ⟨PB,trivial⟩) (fun a=>by kernel_rfl)
def yB (p0:Int×Int×Int×Int×Int) (p1:Int):Option Bool:=
 some (p0.2.2.1==p1)
def aP6:bJ:=⟨aB.cons (aK.agg (cI.row lJ)) (aB.one (aK.ref (cI.int .i64))),aK.bool,fun a=>yB a.1 a.2,.pure,false⟩
theorem aHl:aJ aV 217 aP6:=Oc aGt rfl aG [] trivial fun a=>by kernel_rfl
def cN (s:(jV×Int×Int×Int)):Option (cE (jV×Int×Int×Int) Int):=
 bif decide (s.2.2.2<s.2.2.1) then
  (aO s.1 s.2.2.2).bind fun a0=>
  (yB a0 s.2.1).bind fun b1=>
  bif b1 then
   some (.done s.2.2.2)
  else
   some (.next (s.1,s.2.1,s.2.2.1,aA .i64 (s.2.2.2+1)))
 else
  some (.done (-1))
def eG (p0:List (Int×Int×Int×Int×Int)) (p1:Int):Option Int:=
 aH cN (p0,p1,Int.ofNat p0.length,0)
def SA:bJ:=⟨aB.cons (aK.sl lJ) (aB.one (aK.clo 217 (aB.one (aK.ref (cI.int .i64))))),aK.int .i64,fun a=>eG a.1 a.2,.pure,false⟩
theorem SC:aJ aV 226 SA:=Oc aGA rfl aG [(217,aP6)] ⟨aHl,trivial⟩ fun a=>by kernel_rfl
def cO (p0:List (Int×Int×Int×Int×Int)) (p1:Int):Option Bool:=
 (eG p0 p1).bind fun n0=>
 some (decide (0<=n0))
def SD:bJ:=⟨aB.cons (aK.sl lJ) (aB.one (aK.clo 217 (aB.one (aK.ref (cI.int .i64))))),aK.bool,fun a=>cO a.1 a.2,.pure,false⟩
theorem SF:aJ aV 216 SD:=Oc aGs rfl aG [(226,SA)] ⟨SC,trivial⟩ fun a=>by kernel_rfl
def vU (p0:List Int):Option ((List Int)×Int):=
 (iI p0 0 (aA .i64 ((Int.ofNat p0.length) -1))).bind fun l0=>
 (cB l0).bind fun l1=>
 (aO p0 (aA .i64 ((Int.ofNat p0.length) -1))).bind fun n2=>
 some (l1,n2)
def aP7:bJ:=⟨aB.one (aK.sl ki),aK.tup (aB.cons (aK.sl ki) (aB.one (aK.int .i64))),fun a=>vU a,.frz,false⟩
theorem aHm:aJ aV 227 aP7:=Oc aGB rfl aG [(228,bJ.clone ki)] ⟨R9,trivial⟩ fun a=>by kernel_rfl
def DB (p0:aR):Option (aR×(Int×Int)×Int):=
 (rS p0).bind fun n0=>
 bif n0 !=0 then
  some (aR.mk [] [] [],(0,0),n0)
 else
  bif (Int.ofNat p0.free.length)==0 then
   some (aR.mk [] [] [],(0,0),18)
  else
   (vU p0.free).bind fun a1=>
   (aO p0.uses a1.2).bind fun n2=>
   bif n2==1000000 then
    some (aR.mk [] [] [],(0,0),18)
   else
    (cB p0.uses).bind fun l3=>
    (cB p0.used).bind fun l4=>
    (aO l4 a1.2).bind fun _=>
    (aO l3 a1.2).bind fun n6=>
    (aO l3 a1.2).bind fun _=>
    (aO (bX l3 a1.2 (aA .i64 (n6+1))) a1.2).bind fun n8=>
    some (aR.mk (bX l3 a1.2 (aA .i64 (n6+1))) (bX l4 a1.2 true) a1.1,(a1.2,n8),0)
def aP8:bJ:=⟨aB.one (aK.agg fK),aK.tup (aB.cons (aK.agg fK) (aB.cons (aK.agg (cI.row iE)) (aB.one (aK.int .i64)))),fun a=>DB a,.frz,false⟩
theorem aHn:aJ aV 218 aP8:=aJ.of aGu (cx:=(pW aG [(142,aGS),(227,aP7),(130,bJ.clone ki),(131,bJ.clone kb)] [] [(220,aA7)] [])) rfl (mK.make ⟨PE,aHm,qI,vQ,trivial⟩ trivial ⟨XD,trivial⟩) (fun a=>by kernel_rfl)
def lD (p0:aI) (p1:Int×Int) (p2:Int):Option (aI×(Int×Int)×Int):=
 (lK p0).bind fun n0=>
 (gA p1).bind fun n1=>
 bif (if n1>n0 then n1 else n0) !=0 then
  some (aI.mk (aR.mk [] [] []) [] [],(0,0),if n1>n0 then n1 else n0)
 else
  bif decide (p2<0) then
   some (aI.mk (aR.mk [] [] []) [] [],(0,0),2)
  else
   bif decide (1000000<p2) then
    some (aI.mk (aR.mk [] [] []) [] [],(0,0),2)
   else
    (cO p0.heap p2).bind fun b2=>
    bif b2 then
     some (aI.mk (aR.mk [] [] []) [] [],(0,0),14)
    else
     (DB p0.slots).bind fun a3=>
     bif a3.2.2 !=0 then
      some (aI.mk (aR.mk [] [] []) [] [],(0,0),a3.2.2)
     else
      (cB p0.heap).bind fun l4=>
      (cB p0.where_).bind fun l5=>
      (bH l4 [(p1.1,p1.2,p2,a3.2.1)]).bind fun l6=>
      (eQ (a3.1.uses,a3.1.used,a3.1.free,aA .i64 ((Int.ofNat l6.length) -1),p1.1,p1.2,p2,a3.2.1.1,a3.2.1.2,l6,l5)).bind fun a7=>
      some (aI.mk a3.1 a7.1 a7.2,a3.2.1,0)
def aNH:bJ:=⟨aB.cons (aK.agg cS) (aB.cons (aK.agg (cI.row iE)) (aB.one (aK.int .i64))),aK.tup (aB.cons (aK.agg cS) (aB.cons (aK.agg (cI.row iE)) (aB.one (aK.int .i64)))),fun a=>lD a.1 a.2.1 a.2.2,.frz,false⟩
theorem XO:aJ aV 194 aNH:=aJ.of aGb (cx:=(pW aG [(92,c92),(35,c35),(216,SD),(218,aP8),(129,bJ.clone lJ),(130,bJ.clone ki)] [(208,PK),(208,UW)] [(207,ZG)] [])) rfl (mK.make ⟨PG,CE,SF,aHn,vS,qI,trivial⟩ ⟨HV,NU,trivial⟩ ⟨PB,trivial⟩) (fun a=>by kernel_rfl)
abbrev Zt3:=bO×Int×Int×Int×Int×bO×Int×bO×(List Int)×(List Bool)×(List Int)×jV×(List Int)×bO×bO×Int×Int×Int×Int×Int×Int×bO×(List Int)×(List Bool)×(List Int)×jV×(List Int)×bO×bO
abbrev aP9:=bO×Int×Int×Int×Int×bO×Int×bO×(List Int)×(List Bool)×(List Int)×jV×(List Int)×bO×bO×Int×Int×Int
abbrev Zt7:=cE aP9 (aQ×Int)
def dF (s:Zt3):Option (cE Zt3 Zt7):=
 match s with
 |(a,b,d,e,f,g,h,i,j,k,l,m,n,o,q,r,t,u,v,w,x,y,z,A,B,C,D,E,F)=>
  bif decide (d<b) then
   (aO a d).bind fun a0=>
   (rT (Field.mk q) a0.2 (e,f)).bind fun a1=>
   (pK o a0.1).bind fun a2=>
   bif a1.2.1 then
    bif a2.2 then
     (aO o a2.1).bind fun a3=>
     (uU (aI.mk (aR.mk z A B) C D) a3.2 a1.1).bind fun a4=>
     (aO o a2.1).bind fun a5=>
     (bH F [a5]).bind fun l6=>
     bif a4.2 !=0 then
      some (.done (.done (aQ.mk (0,0) (Field.mk []) (aW.mk 0 []) (aI.mk (aR.mk [] [] []) [] []) [],a4.2)))
     else
      some (.next (a,b,aA .i64 (d+1),e,f,g,h,i,j,k,l,m,n,o,q,r,t,u,v,w,x,y,a4.1.slots.uses,a4.1.slots.used,a4.1.slots.free,a4.1.heap,a4.1.where_,E,l6))
    else
     bif a1.2.1 then
      (lD (aI.mk (aR.mk z A B) C D) a1.1 a0.1).bind fun a7=>
      (bH F [(a0.1,a7.2.1)]).bind fun l8=>
      bif a7.2.2 !=0 then
       some (.done (.done (aQ.mk (0,0) (Field.mk []) (aW.mk 0 []) (aI.mk (aR.mk [] [] []) [] []) [],a7.2.2)))
      else
       some (.next (a,b,aA .i64 (d+1),e,f,g,h,i,j,k,l,m,n,o,q,r,t,u,v,w,x,y,a7.1.slots.uses,a7.1.slots.used,a7.1.slots.free,a7.1.heap,a7.1.where_,E,l8))
     else
      bif a2.2 then
       (aO o a2.1).bind fun a9=>
       (mE (aI.mk (aR.mk z A B) C D) a9.2).bind fun a10=>
       bif a10.2.2 !=0 then
        some (.done (.done (aQ.mk (0,0) (Field.mk []) (aW.mk 0 []) (aI.mk (aR.mk [] [] []) [] []) [],a10.2.2)))
       else
        some (.next (a,b,aA .i64 (d+1),e,f,g,h,i,j,k,l,m,n,o,q,r,t,u,v,w,x,y,a10.1.slots.uses,a10.1.slots.used,a10.1.slots.free,a10.1.heap,a10.1.where_,(E,F)))
      else
       bif a1.2.2 !=0 then
        some (.done (.done (aQ.mk (0,0) (Field.mk []) (aW.mk 0 []) (aI.mk (aR.mk [] [] []) [] []) [],a1.2.2)))
       else
        some (.next (a,b,aA .i64 (d+1),(e,f,g,h,i,j,k,l,m,n,o,q,r,t,u,v,w,x,y,z,A,B,C,D,E,F)))
   else
    bif a1.2.1 then
     (lD (aI.mk (aR.mk z A B) C D) a1.1 a0.1).bind fun a11=>
     (bH F [(a0.1,a11.2.1)]).bind fun l12=>
     bif a11.2.2 !=0 then
      some (.done (.done (aQ.mk (0,0) (Field.mk []) (aW.mk 0 []) (aI.mk (aR.mk [] [] []) [] []) [],a11.2.2)))
     else
      some (.next (a,b,aA .i64 (d+1),e,f,g,h,i,j,k,l,m,n,o,q,r,t,u,v,w,x,y,a11.1.slots.uses,a11.1.slots.used,a11.1.slots.free,a11.1.heap,a11.1.where_,E,l12))
    else
     bif a2.2 then
      (aO o a2.1).bind fun a13=>
      (mE (aI.mk (aR.mk z A B) C D) a13.2).bind fun a14=>
      bif a14.2.2 !=0 then
       some (.done (.done (aQ.mk (0,0) (Field.mk []) (aW.mk 0 []) (aI.mk (aR.mk [] [] []) [] []) [],a14.2.2)))
      else
       some (.next (a,b,aA .i64 (d+1),e,f,g,h,i,j,k,l,m,n,o,q,r,t,u,v,w,x,y,a14.1.slots.uses,a14.1.slots.used,a14.1.slots.free,a14.1.heap,a14.1.where_,(E,F)))
     else
      bif a1.2.2 !=0 then
       some (.done (.done (aQ.mk (0,0) (Field.mk []) (aW.mk 0 []) (aI.mk (aR.mk [] [] []) [] []) [],a1.2.2)))
      else
       some (.next (a,b,aA .i64 (d+1),(e,f,g,h,i,j,k,l,m,n,o,q,r,t,u,v,w,x,y,z,A,B,C,D,E,F)))
  else
   some (.done (.done (aQ.mk (v,w) (Field.mk E) (aW.mk x y) (aI.mk (aR.mk z A B) C D) F,0)))
def kH (s:aP9):Option Zt7:=
 bif decide (s.2.2.1<s.2.1) then
  (aO s.1 s.2.2.1).bind fun a0=>
  (jG (Field.mk s.2.2.2.2.2.2.2.2.2.2.2.2.2.2.1) a0.2.1).bind fun a1=>
  bif decide (a1.1<0) then
   some (.done (aQ.mk (0,0) (Field.mk []) (aW.mk 0 []) (aI.mk (aR.mk [] [] []) [] []) [],6))
  else
   (jG (Field.mk s.2.2.2.2.2.2.2.2.2.2.2.2.2.2.1) a0.2.2).bind fun a2=>
   bif decide (a2.1<0) then
    some (.done (aQ.mk (0,0) (Field.mk []) (aW.mk 0 []) (aI.mk (aR.mk [] [] []) [] []) [],6))
   else
    some (.next (s.1,s.2.1,aA .i64 (s.2.2.1+1),s.2.2.2))
 else
  (mX (aQ.mk (s.2.2.2.1,s.2.2.2.2.1) (Field.mk s.2.2.2.2.2.1) (aW.mk s.2.2.2.2.2.2.1 s.2.2.2.2.2.2.2.1) (aI.mk (aR.mk s.2.2.2.2.2.2.2.2.1 s.2.2.2.2.2.2.2.2.2.1 s.2.2.2.2.2.2.2.2.2.2.1) s.2.2.2.2.2.2.2.2.2.2.2.1 s.2.2.2.2.2.2.2.2.2.2.2.2.1) s.2.2.2.2.2.2.2.2.2.2.2.2.2.1)).bind fun r3=>
  (cB s.2.2.2.2.2.2.2.2.2.2.2.2.2.2.1).bind fun l4=>
  aH dF (s.2.2.2.2.2.2.2.1,Int.ofNat s.2.2.2.2.2.2.2.1.length,0,s.2.2.2.1,s.2.2.2.2.1,s.2.2.2.2.2.1,s.2.2.2.2.2.2.1,s.2.2.2.2.2.2.2.1,s.2.2.2.2.2.2.2.2.1,s.2.2.2.2.2.2.2.2.2.1,s.2.2.2.2.2.2.2.2.2.2.1,s.2.2.2.2.2.2.2.2.2.2.2.1,s.2.2.2.2.2.2.2.2.2.2.2.2.1,s.2.2.2.2.2.2.2.2.2.2.2.2.2.1,s.2.2.2.2.2.2.2.2.2.2.2.2.2.2.1,s.2.2.2.2.2.2.2.2.2.2.2.2.2.2.2.1,s.2.2.2.2.2.2.2.2.2.2.2.2.2.2.2.2.1,s.2.2.2.2.2.2.2.2.2.2.2.2.2.2.2.2.2,r3.now.1,r3.now.2,r3.certs.next_,r3.certs.list,r3.agenda.slots.uses,r3.agenda.slots.used,r3.agenda.slots.free,r3.agenda.heap,r3.agenda.where_,l4,[])
def pL (p0:aQ) (p1:Field):Option (aQ×Int):=
 (gN p0).bind fun n0=>
 bif n0 !=0 then
  some (aQ.mk (0,0) (Field.mk []) (aW.mk 0 []) (aI.mk (aR.mk [] [] []) [] []) [],n0)
 else
  (fE p1).bind fun n1=>
  bif n1 !=0 then
   some (aQ.mk (0,0) (Field.mk []) (aW.mk 0 []) (aI.mk (aR.mk [] [] []) [] []) [],n1)
  else
   aH kH (p0.certs.list,Int.ofNat p0.certs.list.length,0,p0.now.1,p0.now.2,p0.field.points,p0.certs.next_,p0.certs.list,p0.agenda.slots.uses,p0.agenda.slots.used,p0.agenda.slots.free,p0.agenda.heap,p0.agenda.where_,p0.due,p1.points,0,0,0)
def aQa:bJ:=⟨aB.cons (aK.agg bN) (aB.one (aK.agg bW)),aK.tup (aB.cons (aK.agg bN) (aB.one (aK.int .i64))),fun a=>pL a.1 a.2,.frz,false⟩
theorem aHo:aJ aV 159 aQa:=Oc aFD rfl aG [(49,c49),(84,c84),(145,aGY),(79,c79),(79,aHb),(64,bJ.clone eM),(93,c93),(124,aNB),(193,aP5),(194,aNH),(125,aNE)] ⟨LQ,HT,PI,UU,PJ,C5,US,XK,aHk,XO,XN,trivial⟩ fun a=>by kernel_rfl
def D4 (p0:Int×Int×Int) (p1:Int×Int):Option Bool:=
 some ((p0.2.1==p1.1)&&(p0.2.2==p1.2))
def aQb:bJ:=⟨aB.cons (aK.agg (cI.row eM)) (aB.one (aK.ref (cI.row iE))),aK.bool,fun a=>D4 a.1 a.2,.pure,false⟩
theorem aHp:aJ aV 160 aQb:=Oc aFE rfl aG [] trivial fun a=>by kernel_rfl
def mP (s:PH):Option (cE PH Int):=
 bif decide (s.2.2.2.2<s.2.2.2.1) then
  (aO s.1 s.2.2.2.2).bind fun a0=>
  (D4 a0 (s.2.1,s.2.2.1)).bind fun b1=>
  bif b1 then
   some (.done s.2.2.2.2)
  else
   some (.next (s.1,s.2.1,s.2.2.1,s.2.2.2.1,aA .i64 (s.2.2.2.2+1)))
 else
  some (.done (-1))
def hY (p0:List (Int×Int×Int)) (p1:(Int×Int)):Option Int:=
 aH mP (p0,p1.1,p1.2,Int.ofNat p0.length,0)
def SG:bJ:=⟨aB.cons (aK.sl eM) (aB.one (aK.clo 160 (aB.one (aK.ref (cI.row iE))))),aK.int .i64,fun a=>hY a.1 a.2,.pure,false⟩
theorem SH:aJ aV 147 SG:=Oc O8 rfl aG [(160,aQb)] ⟨aHp,trivial⟩ fun a=>by kernel_rfl
def dT (p0:List (Int×Int×Int)) (p1:(Int×Int)):Option Bool:=
 (hY p0 p1).bind fun n0=>
 some (decide (0<=n0))
def XP:bJ:=⟨aB.cons (aK.sl eM) (aB.one (aK.clo 160 (aB.one (aK.ref (cI.row iE))))),aK.bool,fun a=>dT a.1 a.2,.pure,false⟩
theorem UX:aJ aV 96 XP:=Oc UN rfl aG [(147,SG)] ⟨SH,trivial⟩ fun a=>by kernel_rfl
def dE (p0:Int):Option (aQ×Int×Int):=
 some (aQ.mk (0,0) (Field.mk []) (aW.mk 0 []) (aI.mk (aR.mk [] [] []) [] []) [],0,p0)
def aQc:bJ:=⟨aB.one (aK.int .i64),aK.tup (aB.cons (aK.agg bN) (aB.cons (aK.int .i64) (aB.one (aK.int .i64)))),fun a=>dE a,.frz,false⟩
theorem aHq:aJ aV 195 aQc:=Oc aGc rfl aG [] trivial fun a=>by kernel_rfl
def EX (p0:Int×Int×Int) (p1:Int×Int):Option Bool:=
 some ((p0.2.1==p1.1)&&(p0.2.2==p1.2))
def aQd:bJ:=⟨aB.cons (aK.agg (cI.row eM)) (aB.one (aK.ref (cI.row iE))),aK.bool,fun a=>EX a.1 a.2,.pure,false⟩
theorem aHr:aJ aV 219 aQd:=Oc aGv rfl aG [] trivial fun a=>by kernel_rfl
def dC (s:PH):Option (cE PH Int):=
 bif decide (s.2.2.2.2<s.2.2.2.1) then
  (aO s.1 s.2.2.2.2).bind fun a0=>
  (EX a0 (s.2.1,s.2.2.1)).bind fun b1=>
  bif b1 then
   some (.done s.2.2.2.2)
  else
   some (.next (s.1,s.2.1,s.2.2.1,s.2.2.2.1,aA .i64 (s.2.2.2.2+1)))
 else
  some (.done (-1))
def fM (p0:List (Int×Int×Int)) (p1:(Int×Int)):Option Int:=
 aH dC (p0,p1.1,p1.2,Int.ofNat p0.length,0)
def SI:bJ:=⟨aB.cons (aK.sl eM) (aB.one (aK.clo 219 (aB.one (aK.ref (cI.row iE))))),aK.int .i64,fun a=>fM a.1 a.2,.pure,false⟩
theorem SJ:aJ aV 147 SI:=Oc O8 rfl aG [(219,aQd)] ⟨aHr,trivial⟩ fun a=>by kernel_rfl
def cD (p0:List (Int×Int×Int)) (p1:(Int×Int)):Option Bool:=
 (fM p0 p1).bind fun n0=>
 some (decide (0<=n0))
def XQ:bJ:=⟨aB.cons (aK.sl eM) (aB.one (aK.clo 219 (aB.one (aK.ref (cI.row iE))))),aK.bool,fun a=>cD a.1 a.2,.pure,false⟩
theorem UY:aJ aV 96 XQ:=Oc UN rfl aG [(147,SI)] ⟨SJ,trivial⟩ fun a=>by kernel_rfl
def F9 (p0:aW) (p1:Int×Int):Option (aW×Int×Int):=
 (rR p0).bind fun n0=>
 bif n0 !=0 then
  some (aW.mk 0 [],0,n0)
 else
  (vP p1).bind fun b1=>
  bif !b1 then
   some (aW.mk 0 [],0,8)
  else
   (cD p0.list p1).bind fun b2=>
   bif b2 then
    some (aW.mk 0 [],0,14)
   else
    bif (Int.ofNat p0.list.length)==200 then
     some (aW.mk 0 [],0,18)
    else
     bif p0.next_==1000000 then
      some (aW.mk 0 [],0,18)
     else
      (cB p0.list).bind fun l3=>
      (bH l3 [(p0.next_,p1)]).bind fun l4=>
      some (aW.mk (aA .i64 (p0.next_+1)) l4,p0.next_,0)
def aQe:bJ:=⟨aB.cons (aK.agg gH) (aB.one (aK.agg (cI.row iE))),aK.tup (aB.cons (aK.agg gH) (aB.cons (aK.int .i64) (aB.one (aK.int .i64)))),fun a=>F9 a.1 a.2,.frz,false⟩
theorem aHs:aJ aV 196 aQe:=Oc aGd rfl aG [(91,c91),(141,aNv),(96,XQ),(127,bJ.clone eM)] ⟨UR,XJ,UY,zB,trivial⟩ fun a=>by kernel_rfl
def iF (p0:aQ) (p1:Int×Int):Option (aQ×Int×Int):=
 (gN p0).bind fun n0=>
 bif n0 !=0 then
  (dE n0).bind fun a1=>
  some a1
 else
  (F9 p0.certs p1).bind fun a2=>
  bif a2.2.2==8 then
   (dE a2.2.2).bind fun a3=>
   some a3
  else
   (jG p0.field p1.1).bind fun a4=>
   bif decide (a4.1<0) then
    (dE 6).bind fun a5=>
    some a5
   else
    (jG p0.field p1.2).bind fun a6=>
    bif decide (a6.1<0) then
     (dE 6).bind fun a7=>
     some a7
    else
     bif a2.2.2 !=0 then
      (dE a2.2.2).bind fun a8=>
      some a8
     else
      (mX p0).bind fun r9=>
      (rT p0.field p1 p0.now).bind fun a10=>
      bif a10.2.2 !=0 then
       (dE a10.2.2).bind fun a11=>
       some a11
      else
       bif a10.2.1 then
        (lD p0.agenda a10.1 a2.2.1).bind fun a12=>
        bif a12.2.2 !=0 then
         (dE a12.2.2).bind fun a13=>
         some a13
        else
         (bH r9.due [(a2.2.1,a12.2.1)]).bind fun l14=>
         some (aQ.mk r9.now r9.field a2.1 a12.1 l14,a2.2.1,0)
       else
        some (aQ.mk r9.now r9.field a2.1 r9.agenda r9.due,a2.2.1,0)
def aQf:bJ:=⟨aB.cons (aK.agg bN) (aB.one (aK.agg (cI.row iE))),aK.tup (aB.cons (aK.agg bN) (aB.cons (aK.int .i64) (aB.one (aK.int .i64)))),fun a=>iF a.1 a.2,.frz,false⟩
theorem aHt:aJ aV 161 aQf:=Oc aFF rfl aG [(49,c49),(195,aQc),(196,aQe),(145,aGY),(79,c79),(79,aHb),(93,c93),(194,aNH)] ⟨LQ,aHq,aHs,PI,UU,PJ,US,XO,trivial⟩ fun a=>by kernel_rfl
abbrev aQg:=pX×bO×Int×Int×Int×Int×bO×Int×bO×(List Int)×(List Bool)×(List Int)×jV×(List Int)×bO×bO×Int×Int×Int
abbrev Zt6:=cE aQg (aQ×Int)
abbrev Zt9:=pX×Int×Int×Int×Int×bO×Int×bO×(List Int)×(List Bool)×(List Int)×jV×(List Int)×bO×Int×Int×Int
def eX (s:Zt9):Option (cE Zt9 Zt6):=
 bif decide (s.2.2.1<s.2.1) then
  (aO s.1 s.2.2.1).bind fun a0=>
  (dT s.2.2.2.2.2.2.2.1 a0).bind fun b1=>
  bif b1 then
   some (.next (s.1,s.2.1,aA .i64 (s.2.2.1+1),s.2.2.2))
  else
   (iF (aQ.mk (s.2.2.2.1,s.2.2.2.2.1) (Field.mk s.2.2.2.2.2.1) (aW.mk s.2.2.2.2.2.2.1 s.2.2.2.2.2.2.2.1) (aI.mk (aR.mk s.2.2.2.2.2.2.2.2.1 s.2.2.2.2.2.2.2.2.2.1 s.2.2.2.2.2.2.2.2.2.2.1) s.2.2.2.2.2.2.2.2.2.2.2.1 s.2.2.2.2.2.2.2.2.2.2.2.2.1) s.2.2.2.2.2.2.2.2.2.2.2.2.2.1) a0).bind fun a2=>
   bif a2.2.2 !=0 then
    some (.done (.done (aQ.mk (0,0) (Field.mk []) (aW.mk 0 []) (aI.mk (aR.mk [] [] []) [] []) [],a2.2.2)))
   else
    some (.next (s.1,s.2.1,aA .i64 (s.2.2.1+1),a2.1.now.1,a2.1.now.2,a2.1.field.points,a2.1.certs.next_,a2.1.certs.list,a2.1.agenda.slots.uses,a2.1.agenda.slots.used,a2.1.agenda.slots.free,a2.1.agenda.heap,a2.1.agenda.where_,a2.1.due,s.2.2.2.2.2.2.2.2.2.2.2.2.2.2))
 else
  some (.done (.done (aQ.mk (s.2.2.2.1,s.2.2.2.2.1) (Field.mk s.2.2.2.2.2.1) (aW.mk s.2.2.2.2.2.2.1 s.2.2.2.2.2.2.2.1) (aI.mk (aR.mk s.2.2.2.2.2.2.2.2.1 s.2.2.2.2.2.2.2.2.2.1 s.2.2.2.2.2.2.2.2.2.2.1) s.2.2.2.2.2.2.2.2.2.2.2.1 s.2.2.2.2.2.2.2.2.2.2.2.2.1) s.2.2.2.2.2.2.2.2.2.2.2.2.2.1,0)))
def dZ (s:aQg):Option Zt6:=
 match s with
 |(a,b,d,e,f,g,h,i,j,k,l,m,n,o,q,r,t,u,v)=>
  bif decide (e<d) then
   (aO b e).bind fun a0=>
   (fF a a0.2).bind fun b1=>
   bif !b1 then
    (uT (aQ.mk (f,g) (Field.mk h) (aW.mk i j) (aI.mk (aR.mk k l m) n o) q) a0.1).bind fun a2=>
    some (.next (a,b,d,aA .i64 (e+1),a2.1.now.1,a2.1.now.2,a2.1.field.points,a2.1.certs.next_,a2.1.certs.list,a2.1.agenda.slots.uses,a2.1.agenda.slots.used,a2.1.agenda.slots.free,a2.1.agenda.heap,a2.1.agenda.where_,a2.1.due,(r,t,u,v)))
   else
    some (.next (a,b,d,aA .i64 (e+1),(f,g,h,i,j,k,l,m,n,o,q,r,t,u,v)))
  else
   (iO h r).bind fun b3=>
   bif !b3 then
    (pL (aQ.mk (f,g) (Field.mk h) (aW.mk i j) (aI.mk (aR.mk k l m) n o) q) (Field.mk r)).bind fun a4=>
    bif a4.2 !=0 then
     some (.done (aQ.mk (0,0) (Field.mk []) (aW.mk 0 []) (aI.mk (aR.mk [] [] []) [] []) [],a4.2))
    else
     aH eX (a,Int.ofNat a.length,0,a4.1.now.1,a4.1.now.2,a4.1.field.points,a4.1.certs.next_,a4.1.certs.list,a4.1.agenda.slots.uses,a4.1.agenda.slots.used,a4.1.agenda.slots.free,a4.1.agenda.heap,a4.1.agenda.where_,a4.1.due,(t,u,v))
   else
    aH eX (a,Int.ofNat a.length,0,f,g,h,i,j,k,l,m,n,o,q,(t,u,v))
def tQ (p0:aQ) (p1:Field) (p2:List (Int×Int)):Option (aQ×Int):=
 aH dZ (p2,p0.certs.list,Int.ofNat p0.certs.list.length,0,p0.now.1,p0.now.2,p0.field.points,p0.certs.next_,p0.certs.list,p0.agenda.slots.uses,p0.agenda.slots.used,p0.agenda.slots.free,p0.agenda.heap,p0.agenda.where_,p0.due,p1.points,0,0,0)
def aQh:bJ:=⟨aB.cons (aK.agg bN) (aB.cons (aK.agg bW) (aB.one (aK.sl iE))),aK.tup (aB.cons (aK.agg bN) (aB.one (aK.int .i64))),fun a=>tQ a.1 a.2.1 a.2.2,.frz,false⟩
theorem aHu:aJ aV 110 aQh:=Oc aEV rfl aG [(95,c95),(157,aPZ),(158,aP1),(159,aQa),(96,XP),(161,aQf)] ⟨UT,aHh,aHi,aHo,UX,aHt,trivial⟩ fun a=>by kernel_rfl
abbrev ZK:=pX×pX×Int×Int×Int×Int×bO×Int×bO×(List Int)×(List Bool)×(List Int)×jV×(List Int)×bO×bO×Int×Int×Int
abbrev aQi:=cE ZK (aQ×Int)
abbrev Zt1:=cE ZK aQi
def eY (s:ZK):Option (cE ZK Zt1):=
 bif decide (s.2.2.2.1<s.2.2.1) then
  (aO s.2.1 s.2.2.2.1).bind fun a0=>
  (vR (Field.mk s.2.2.2.2.2.2.2.2.2.2.2.2.2.2.2.1) a0.1).bind fun a1=>
  (vR (Field.mk s.2.2.2.2.2.2.2.2.2.2.2.2.2.2.2.1) a0.2).bind fun a2=>
  bif a1.2 !=0 then
   some (.done (.done (.done (aQ.mk (0,0) (Field.mk []) (aW.mk 0 []) (aI.mk (aR.mk [] [] []) [] []) [],6))))
  else
   bif a2.2 !=0 then
    some (.done (.done (.done (aQ.mk (0,0) (Field.mk []) (aW.mk 0 []) (aI.mk (aR.mk [] [] []) [] []) [],6))))
   else
    some (.next (s.1,s.2.1,s.2.2.1,aA .i64 (s.2.2.2.1+1),s.2.2.2.2))
 else
  (vT (aQ.mk (s.2.2.2.2.1,s.2.2.2.2.2.1) (Field.mk s.2.2.2.2.2.2.1) (aW.mk s.2.2.2.2.2.2.2.1 s.2.2.2.2.2.2.2.2.1) (aI.mk (aR.mk s.2.2.2.2.2.2.2.2.2.1 s.2.2.2.2.2.2.2.2.2.2.1 s.2.2.2.2.2.2.2.2.2.2.2.1) s.2.2.2.2.2.2.2.2.2.2.2.2.1 s.2.2.2.2.2.2.2.2.2.2.2.2.2.1) s.2.2.2.2.2.2.2.2.2.2.2.2.2.2.1)).bind fun r3=>
  (tQ r3 (Field.mk s.2.2.2.2.2.2.2.2.2.2.2.2.2.2.2.1) s.1).bind fun a4=>
  some (.done (.done (.done a4)))
def eA (s:ZK):Option Zt1:=
 bif decide (s.2.2.2.1<s.2.2.1) then
  (aO s.2.1 s.2.2.2.1).bind fun a0=>
  (iI s.1 0 s.2.2.2.1).bind fun l1=>
  (fF l1 a0).bind fun b2=>
  bif b2 then
   some (.done (.done (aQ.mk (0,0) (Field.mk []) (aW.mk 0 []) (aI.mk (aR.mk [] [] []) [] []) [],14)))
  else
   some (.next (s.1,s.2.1,s.2.2.1,aA .i64 (s.2.2.2.1+1),s.2.2.2.2))
 else
  aH eY (s.1,s.1,Int.ofNat s.1.length,0,s.2.2.2.2)
def eB (s:ZK):Option aQi:=
 bif decide (s.2.2.2.1<s.2.2.1) then
  (aO s.2.1 s.2.2.2.1).bind fun a0=>
  bif decide (a0.1<0) then
   some (.done (aQ.mk (0,0) (Field.mk []) (aW.mk 0 []) (aI.mk (aR.mk [] [] []) [] []) [],8))
  else
   bif decide (a0.2<0) then
    some (.done (aQ.mk (0,0) (Field.mk []) (aW.mk 0 []) (aI.mk (aR.mk [] [] []) [] []) [],8))
   else
    bif decide (65535<a0.1) then
     some (.done (aQ.mk (0,0) (Field.mk []) (aW.mk 0 []) (aI.mk (aR.mk [] [] []) [] []) [],8))
    else
     bif decide (65535<a0.2) then
      some (.done (aQ.mk (0,0) (Field.mk []) (aW.mk 0 []) (aI.mk (aR.mk [] [] []) [] []) [],8))
     else
      bif a0.1==a0.2 then
       some (.done (aQ.mk (0,0) (Field.mk []) (aW.mk 0 []) (aI.mk (aR.mk [] [] []) [] []) [],8))
      else
       some (.next (s.1,s.2.1,s.2.2.1,aA .i64 (s.2.2.2.1+1),s.2.2.2.2))
 else
  aH eA (s.1,s.1,Int.ofNat s.1.length,0,s.2.2.2.2)
def pM (p0:aQ) (p1:Field) (p2:List (Int×Int)):Option (aQ×Int):=
 (gN p0).bind fun n0=>
 bif n0 !=0 then
  some (aQ.mk (0,0) (Field.mk []) (aW.mk 0 []) (aI.mk (aR.mk [] [] []) [] []) [],n0)
 else
  (fE p1).bind fun n1=>
  bif n1 !=0 then
   some (aQ.mk (0,0) (Field.mk []) (aW.mk 0 []) (aI.mk (aR.mk [] [] []) [] []) [],n1)
  else
   aH eB (p2,p2,Int.ofNat p2.length,0,p0.now.1,p0.now.2,p0.field.points,p0.certs.next_,p0.certs.list,p0.agenda.slots.uses,p0.agenda.slots.used,p0.agenda.slots.free,p0.agenda.heap,p0.agenda.where_,p0.due,p1.points,0,0,0)
def c60:bJ:=⟨aB.cons (aK.agg bN) (aB.cons (aK.agg bW) (aB.one (aK.sl iE))),aK.tup (aB.cons (aK.agg bN) (aB.one (aK.int .i64))),fun a=>pM a.1 a.2.1 a.2.2,.frz,false⟩
theorem aNI:aJ aV 60 c60:=Oc aMO rfl aG [(49,c49),(84,c84),(95,c95),(109,aPN),(111,aPO),(111,aIT),(110,aQh)] ⟨LQ,HT,UT,aG6,aG7,aBj,aHu,trivial⟩ fun a=>by kernel_rfl
def kI (p0:aQ) (p1:Field):Option (dX×Int):=
 (lC p1 p0.now).bind fun a0=>
 (pM p0 p1 a0.2).bind fun a1=>
 bif a1.2 !=0 then
  some (dX.mk (aQ.mk (0,0) (Field.mk []) (aW.mk 0 []) (aI.mk (aR.mk [] [] []) [] []) []) (rO.mk 0 []),a1.2)
 else
  some (dX.mk a1.1 a0.1,0)
def c38:bJ:=⟨aB.cons (aK.agg bN) (aB.one (aK.agg bW)),aK.tup (aB.cons (aK.agg gL) (aB.one (aK.int .i64))),fun a=>kI a.1 a.2,.frz,false⟩
theorem aNJ:aJ aV 38 c38:=Oc aMy rfl aG [(40,c40),(60,c60)] ⟨UQ,aNI,trivial⟩ fun a=>by kernel_rfl
def nS (p0:Field) (p1:Int×Int):Option (dX×Int):=
 (C6 p0 p1).bind fun a0=>
 bif a0.2 !=0 then
  some (dX.mk (aQ.mk (0,0) (Field.mk []) (aW.mk 0 []) (aI.mk (aR.mk [] [] []) [] []) []) (rO.mk 0 []),a0.2)
 else
  (kI a0.1 p0).bind fun a1=>
  some a1
def c16:bJ:=⟨aB.cons (aK.agg bW) (aB.one (aK.agg (cI.row iE))),aK.tup (aB.cons (aK.agg gL) (aB.one (aK.int .i64))),fun a=>nS a.1 a.2,.frz,false⟩
theorem aNK:aJ aV 16 c16:=Oc aMj rfl aG [(43,c43),(38,c38)] ⟨aNq,aNJ,trivial⟩ fun a=>by kernel_rfl
def xB (p0:Int×Int×Int):Option Int:=
 bif decide (p0.1<0) then
  some 8
 else
  bif decide (65535<p0.1) then
   some 8
  else
   bif decide (p0.2.1<(-1048576)) then
    some 8
   else
    bif decide (1048576<p0.2.1) then
     some 8
    else
     bif decide (p0.2.2<(-1048576)) then
      some 8
     else
      bif decide (1048576<p0.2.2) then
       some 8
      else
       some 0
def c86:bJ:=⟨aB.one (aK.agg (cI.row eM)),aK.int .i64,fun a=>xB a,.pure,false⟩
theorem aNL:aJ aV 86 c86:=Oc aM6 rfl aG [] trivial fun a=>by kernel_rfl
abbrev PL:=Int×bO
def iP (s:PL):Option (cE PL (cE PL Int)):=
 bif decide (s.1<(Int.ofNat s.2.length)) then
  (aO s.2 (aA .i64 (s.1-1))).bind fun a0=>
  (aO s.2 s.1).bind fun a1=>
  bif decide (a1.1<=a0.1) then
   some (.done (.done 32))
  else
   some (.next (aA .i64 (s.1+1),s.2))
 else
  some (.done (.done 0))
def mY (s:PL):Option (cE PL Int):=
 bif decide (s.1<(Int.ofNat s.2.length)) then
  (aO s.2 s.1).bind fun a0=>
  (xB a0).bind fun n1=>
  bif n1 !=0 then
   some (.done 8)
  else
   some (.next (aA .i64 (s.1+1),s.2))
 else
  aH iP (1,s.2)
def pN (p0:Field):Option Int:=
 bif decide (64<(Int.ofNat p0.points.length)) then
  some 4
 else
  aH mY (0,p0.points)
def c44:bJ:=⟨aB.one (aK.agg bW),aK.int .i64,fun a=>pN a,.pure,false⟩
theorem aBo:aJ aV 44 c44:=Oc aMB rfl aG [(86,c86)] ⟨aNL,trivial⟩ fun a=>by kernel_rfl
def hJ (p0:Int):Option Int:=
 bif decide (p0<0) then
  some (aA .u64 ((aA .u64 (aA .i64 (0- (aA .i64 (p0+1)))))+1))
 else
  some (aA .u64 p0)
def c88:bJ:=⟨aB.one (aK.int .i64),aK.int .u64,fun a=>hJ a,.pure,false⟩
theorem UZ:aJ aV 88 c88:=Oc aM8 rfl aG [] trivial fun a=>by kernel_rfl
def oS (s:(Int×Int)):Option (cE (Int×Int) Int):=
 bif s.2 !=0 then
  bif s.2==0 then
   none
  else
   some (.next (s.2,Int.tmod s.1 s.2))
 else
  some (.done s.1)
def qK (p0:Int) (p1:Int):Option Int:=
 aH oS (p0,p1)
def c87:bJ:=⟨aB.cons (aK.int .u64) (aB.one (aK.int .u64)),aK.int .u64,fun a=>qK a.1 a.2,.pure,false⟩
theorem aBp:aJ aV 87 c87:=Oc aM7 rfl aG [] trivial fun a=>by kernel_rfl
def pO (p0:Int×Int):Option Int:=
 bif decide (p0.2<1) then
  some 8
 else
  bif p0.1==(-9223372036854775808) then
   some 8
  else
   (hJ p0.1).bind fun n0=>
   (qK n0 (aA .u64 p0.2)).bind fun n1=>
   bif n1 !=1 then
    some 8
   else
    some 0
def c45:bJ:=⟨aB.one (aK.agg (cI.row iE)),aK.int .i64,fun a=>pO a,.pure,false⟩
theorem U0:aJ aV 45 c45:=Oc aMC rfl aG [(88,c88),(87,c87)] ⟨UZ,aBp,trivial⟩ fun a=>by kernel_rfl
def mZ (p0:Field):Option Field:=
 (cB p0.points).bind fun l0=>
 some (Field.mk l0)
def c56:bJ:=⟨aB.one (aK.agg bW),aK.agg bW,fun a=>mZ a,.own,true⟩
def aBq:bJ:=⟨aB.one (aK.agg bW),aK.agg bW,fun a=>mZ a,.frz,false⟩
theorem PM:aJ aV 56 c56:=Oc aA9 rfl aG [] trivial fun a=>by kernel_rfl
theorem JP:aJ aV 56 aBq:=Oc aA9 rfl aG [] trivial fun a=>by kernel_rfl
def CJ (s:(Int×(List Int)×(List Bool)×(List Int))):Option (cE (Int×(List Int)×(List Bool)×(List Int)) aR):=
 bif decide (0<=s.1) then
  (bH s.2.2.2 [s.1]).bind fun l0=>
  some (.next (aA .i64 (s.1-1),s.2.1,s.2.2.1,l0))
 else
  some (.done (aR.mk s.2.1 s.2.2.1 s.2.2.2))
def xC (p0:Int):Option aR:=
 bif p0==p0 then
  (tJ p0 (0:Int)).bind fun l0=>
  bif p0==p0 then
   (tJ p0 (false:Bool)).bind fun l1=>
   aH CJ (aA .i64 (p0-1),l0,l1,[])
  else
   none
 else
  none
def aQk:bJ:=⟨aB.one (aK.int .i64),aK.agg fK,fun a=>xC a,.frz,false⟩
theorem aHv:aJ aV 139 aQk:=Oc aFk rfl aG [] trivial fun a=>by kernel_rfl
def LR (s:(Int×Int×(List Int)×(List Bool)×(List Int)×(List Int))):Option (cE (Int×Int×(List Int)×(List Bool)×(List Int)×(List Int)) aI):=
 bif decide (s.2.1<s.1) then
  (bH s.2.2.2.2.2 [-1]).bind fun l0=>
  some (.next (s.1,aA .i64 (s.2.1+1),s.2.2.1,s.2.2.2.1,s.2.2.2.2.1,l0))
 else
  some (.done (aI.mk (aR.mk s.2.2.1 s.2.2.2.1 s.2.2.2.2.1) [] s.2.2.2.2.2))
def xD (p0:Int):Option aI:=
 (xC p0).bind fun r0=>
 aH LR (p0,0,r0.uses,r0.used,r0.free,[])
def c89:bJ:=⟨aB.one (aK.int .i64),aK.agg cS,fun a=>xD a,.frz,false⟩
theorem aNM:aJ aV 89 c89:=Oc aM9 rfl aG [(139,aQk)] ⟨aHv,trivial⟩ fun a=>by kernel_rfl
def xE (p0:Field) (p1:Int×Int):Option aQ:=
 (mZ p0).bind fun r0=>
 (xD 200).bind fun r1=>
 some (aQ.mk p1 r0 (aW.mk 0 []) r1 [])
def c46:bJ:=⟨aB.cons (aK.agg bW) (aB.one (aK.agg (cI.row iE))),aK.agg bN,fun a=>xE a.1 a.2,.frz,false⟩
theorem aNN:aJ aV 46 c46:=Oc aMD rfl aG [(56,c56),(56,aBq),(89,c89)] ⟨PM,JP,aNM,trivial⟩ fun a=>by kernel_rfl
def sO (p0:Int) (p1:Int):Option (Bool×Int×Int):=
 some (false,aA .u64 ((aA .u64 ((aA .u64 ((aA .u64 (Int.tdiv p0 4294967296))*(aA .u64 (Int.tdiv p1 4294967296))))+(aA .u64 (Int.tdiv (aA .u64 ((aA .u64 ((aA .u64 (Int.tdiv p0 4294967296))*(Int.tmod p1 4294967296)))+(aA .u64 (Int.tdiv (aA .u64 ((Int.tmod p0 4294967296)*(Int.tmod p1 4294967296))) 4294967296)))) 4294967296))))+(aA .u64 (Int.tdiv (aA .u64 ((aA .u64 ((Int.tmod p0 4294967296)*(aA .u64 (Int.tdiv p1 4294967296))))+(Int.tmod (aA .u64 ((aA .u64 ((aA .u64 (Int.tdiv p0 4294967296))*(Int.tmod p1 4294967296)))+(aA .u64 (Int.tdiv (aA .u64 ((Int.tmod p0 4294967296)*(Int.tmod p1 4294967296))) 4294967296)))) 4294967296))) 4294967296))),aA .u64 ((aA .u64 ((Int.tmod (aA .u64 ((aA .u64 ((Int.tmod p0 4294967296)*(aA .u64 (Int.tdiv p1 4294967296))))+(Int.tmod (aA .u64 ((aA .u64 ((aA .u64 (Int.tdiv p0 4294967296))*(Int.tmod p1 4294967296)))+(aA .u64 (Int.tdiv (aA .u64 ((Int.tmod p0 4294967296)*(Int.tmod p1 4294967296))) 4294967296)))) 4294967296))) 4294967296)*4294967296))+(Int.tmod (aA .u64 ((Int.tmod p0 4294967296)*(Int.tmod p1 4294967296))) 4294967296)))
def aQl:bJ:=⟨aB.cons (aK.int .u64) (aB.one (aK.int .u64)),aK.agg (cI.row CA),fun a=>sO a.1 a.2,.pure,false⟩
theorem aHw:aJ aV 180 aQl:=Oc aFX rfl aG [] trivial fun a=>by kernel_rfl
def jO (p0:Int) (p1:Int):Option (Bool×Int×Int):=
 (hJ p0).bind fun n0=>
 (hJ p1).bind fun n1=>
 (sO n0 n1).bind fun a2=>
 bif !((decide (p0<0))==(decide (p1<0))) then
  bif p0 !=0 then
   some (p1 !=0,a2.2)
  else
   some (false,a2.2)
 else
  some (false,a2.2)
def aNO:bJ:=⟨aB.cons (aK.int .i64) (aB.one (aK.int .i64)),aK.agg (cI.row CA),fun a=>jO a.1 a.2,.pure,false⟩
theorem XS:aJ aV 132 aNO:=Oc aFf rfl aG [(88,c88),(180,aQl)] ⟨UZ,aHw,trivial⟩ fun a=>by kernel_rfl
def rV (p0:Bool×Int×Int) (p1:Bool×Int×Int):Option Int:=
 bif p0.2.1 !=p1.2.1 then
  bif decide (p0.2.1<p1.2.1) then
   some (-1)
  else
   some 1
 else
  bif p0.2.2 !=p1.2.2 then
   bif decide (p0.2.2<p1.2.2) then
    some (-1)
   else
    some 1
  else
   some 0
def aNP:bJ:=⟨aB.cons (aK.agg (cI.row CA)) (aB.one (aK.agg (cI.row CA))),aK.int .i64,fun a=>rV a.1 a.2,.pure,false⟩
theorem XT:aJ aV 134 aNP:=Oc aFh rfl aG [] trivial fun a=>by kernel_rfl
def tR (p0:Bool×Int×Int) (p1:Bool×Int×Int):Option (Bool×Int×Int):=
 bif decide (p0.2.2<p1.2.2) then
  some (false,aA .u64 ((aA .u64 (p0.2.1-p1.2.1)) -1),aA .u64 (p0.2.2-p1.2.2))
 else
  some (false,aA .u64 (p0.2.1-p1.2.1),aA .u64 (p0.2.2-p1.2.2))
def aQm:bJ:=⟨aB.cons (aK.agg (cI.row CA)) (aB.one (aK.agg (cI.row CA))),aK.agg (cI.row CA),fun a=>tR a.1 a.2,.pure,false⟩
theorem aHx:aJ aV 223 aQm:=Oc aGx rfl aG [] trivial fun a=>by kernel_rfl
def AR (p0:Bool×Int×Int) (p1:Bool×Int×Int):Option (Bool×Int×Int):=
 bif p0.1==p1.1 then
  bif decide ((aA .u64 (p0.2.2+p1.2.2))<p0.2.2) then
   some (p0.1,aA .u64 ((aA .u64 (p0.2.1+p1.2.1))+1),aA .u64 (p0.2.2+p1.2.2))
  else
   some (p0.1,aA .u64 (p0.2.1+p1.2.1),aA .u64 (p0.2.2+p1.2.2))
 else
  (rV p0 p1).bind fun n0=>
  bif decide (0<=n0) then
   (tR p0 p1).bind fun a1=>
   bif p0.1 then
    bif decide (0<a1.2.1) then
     some (true,a1.2)
    else
     some (decide (0<a1.2.2),a1.2)
   else
    some (false,a1.2)
  else
   (tR p1 p0).bind fun a2=>
   some (p1.1,a2.2)
def aQn:bJ:=⟨aB.cons (aK.agg (cI.row CA)) (aB.one (aK.agg (cI.row CA))),aK.agg (cI.row CA),fun a=>AR a.1 a.2,.pure,false⟩
theorem aHy:aJ aV 210 aQn:=Oc aGm rfl aG [(134,aNP),(223,aQm)] ⟨XT,aHx,trivial⟩ fun a=>by kernel_rfl
def lM (p0:Bool×Int×Int):Option Int:=
 bif p0.2.1==0 then
  bif p0.2.2==0 then
   some 0
  else
   bif p0.1 then
    some (-1)
   else
    some 1
 else
  bif p0.1 then
   some (-1)
  else
   some 1
def aNQ:bJ:=⟨aB.one (aK.agg (cI.row CA)),aK.int .i64,fun a=>lM a,.pure,false⟩
theorem XU:aJ aV 133 aNQ:=Oc aFg rfl aG [] trivial fun a=>by kernel_rfl
def DC (p0:Int×Int×Int) (p1:Int×Int×Int) (p2:Int×Int):Option Int:=
 (jO (aA .i64 (p0.2.1-p1.2.1)) p2.2).bind fun a0=>
 (jO (aA .i64 (p0.2.2-p1.2.2)) p2.1).bind fun a1=>
 (AR a0 a1).bind fun a2=>
 (lM a2).bind fun n3=>
 some n3
def aQo:bJ:=⟨aB.cons (aK.agg (cI.row eM)) (aB.cons (aK.agg (cI.row eM)) (aB.one (aK.agg (cI.row iE)))),aK.int .i64,fun a=>DC a.1 a.2.1 a.2.2,.pure,false⟩
theorem aHz:aJ aV 183 aQo:=Oc aF0 rfl aG [(132,aNO),(210,aQn),(133,aNQ)] ⟨XS,aHy,XU,trivial⟩ fun a=>by kernel_rfl
def nA (p0:Int×Int×Int) (p1:Int×Int×Int) (p2:Int×Int):Option Bool:=
 (DC p0 p1 p2).bind fun n0=>
 bif n0 !=0 then
  some (decide (0<n0))
 else
  bif p0.2.2 !=p1.2.2 then
   some (decide (p1.2.2<p0.2.2))
  else
   some (decide (p0.1<p1.1))
def aBr:bJ:=⟨aB.cons (aK.agg (cI.row eM)) (aB.cons (aK.agg (cI.row eM)) (aB.one (aK.agg (cI.row iE)))),aK.bool,fun a=>nA a.1 a.2.1 a.2.2,.pure,false⟩
theorem JQ:aJ aV 140 aBr:=Oc aFl rfl aG [(183,aQo)] ⟨aHz,trivial⟩ fun a=>by kernel_rfl
def jI (s:(Int×Int×Int×bO×Int×Int)):Option (cE (Int×Int×Int×bO×Int×Int) Int):=
 bif decide (s.2.2.1<s.1) then
  bif decide (s.2.1<0) then
   some (.next (s.1,s.2.2.1,aA .i64 (s.2.2.1+1),s.2.2.2))
  else
   (aO s.2.2.2.1 s.2.2.1).bind fun a0=>
   (aO s.2.2.2.1 s.2.1).bind fun a1=>
   (nA a0 a1 s.2.2.2.2).bind fun b2=>
   bif b2 then
    some (.next (s.1,s.2.2.1,aA .i64 (s.2.2.1+1),s.2.2.2))
   else
    some (.next (s.1,s.2.1,aA .i64 (s.2.2.1+1),s.2.2.2))
 else
  some (.done s.2.1)
def uZ (p0:Field) (p1:Int×Int) (p2:Int) (p3:Int):Option Int:=
 aH jI (p3,-1,p2,p0.points,p1)
def aQp:bJ:=⟨aB.cons (aK.agg bW) (aB.cons (aK.agg (cI.row iE)) (aB.cons (aK.int .i64) (aB.one (aK.int .i64)))),aK.int .i64,fun a=>uZ a.1 a.2.1 a.2.2.1 a.2.2.2,.pure,false⟩
theorem aHA:aJ aV 191 aQp:=Oc aF8 rfl aG [(140,aBr)] ⟨JQ,trivial⟩ fun a=>by kernel_rfl
abbrev aHB:=bO×Int×Int×Int×Int×Int×bO
def fD (self:aHB->Option PL) (a:aHB):Option PL:=
 (uZ (Field.mk a.1) (a.2.1,a.2.2.1) a.2.2.2.2.1 a.2.2.2.2.2.1).bind fun n0=>
 bif decide (0<=n0) then
  (self (a.1,a.2.1,a.2.2.1,a.2.2.2.1,a.2.2.2.2.1,n0,a.2.2.2.2.2.2)).bind fun a1=>
  (aO a1.2 n0).bind fun a2=>
  (self (a.1,a.2.1,a.2.2.1,a.2.2.2.1,aA .i64 (n0+1),a.2.2.2.2.2.1,bX a1.2 n0 (a2.1,a1.1,a2.2.2))).bind fun a3=>
  (aO a3.2 n0).bind fun a4=>
  bif ((bX a3.2 n0 (a4.1,a4.2.1,a3.1)).length)==a.2.2.2.2.2.2.length then
   some (n0,bX a3.2 n0 (a4.1,a4.2.1,a3.1))
  else
   none
 else
  bif a.2.2.2.2.2.2.length==a.2.2.2.2.2.2.length then
   some (n0,a.2.2.2.2.2.2)
  else
   none
def iQ:Nat->aHB->Option PL
 |0,_=>none
 |n+1,a=>fD (iQ n) a
def rW (a:aHB):Option PL:=iQ 1000000 a
def aBs:dV:=⟨[.l [.i .i64,.i .i64,.i .i64],.i,.i,.i,.i,.i,.l [.i .i64,.i .i64,.i .i64]],[.agg [.sl [.i .i64,.i .i64,.i .i64] []],.agg [.int .i64 0,.int .i64 0],.agg [.int .i64 0,.own 0 false],.int .i64 0,.int .i64 0],[.arr [.i .i64,.i .i64,.i .i64] []],[.i,.l [.i .i64,.i .i64,.i .i64]],.int .i64 0,[.arr [.i .i64,.i .i64,.i .i64] []],fun a=>rW a⟩
theorem LS: ∀n,kW aV 154 ⟨[.l [.i .i64,.i .i64,.i .i64],.i,.i,.i,.i,.i,.l [.i .i64,.i .i64,.i .i64]],[.agg [.sl [.i .i64,.i .i64,.i .i64] []],.agg [.int .i64 0,.int .i64 0],.agg [.int .i64 0,.own 0 false],.int .i64 0,.int .i64 0],[.arr [.i .i64,.i .i64,.i .i64] []],[.i,.l [.i .i64,.i .i64,.i .i64]],.int .i64 0,[.arr [.i .i64,.i .i64,.i .i64] []],fun a=>iQ n a⟩
 |0=>kW.zero (fun _=>rfl)
 |n+1=>kW.of aFy (wd:=false) (cx:=(pW aG [(191,aQp)] [(154,⟨[.l [.i .i64,.i .i64,.i .i64],.i,.i,.i,.i,.i,.l [.i .i64,.i .i64,.i .i64]],[.agg [.sl [.i .i64,.i .i64,.i .i64] []],.agg [.int .i64 0,.int .i64 0],.agg [.int .i64 0,.own 0 false],.int .i64 0,.int .i64 0],[.arr [.i .i64,.i .i64,.i .i64] []],[.i,.l [.i .i64,.i .i64,.i .i64]],.int .i64 0,[.arr [.i .i64,.i .i64,.i .i64] []],fun a=>iQ n a⟩)] [] [])) (mK.make ⟨aHA,trivial⟩ ⟨(LS n),trivial⟩ trivial) (fun a=>by kernel_rfl)
theorem ZL:kW aV 154 aBs:=LS 1000000
abbrev aQq:=Int×bO×Int×Int×Int×Int×bO
def oJ (s:aQq):Option (cE aQq rO):=
 bif decide (s.1<(Int.ofNat s.2.1.length)) then
  (aO s.2.1 s.1).bind fun a0=>
  (bH s.2.2.2.2.2.2 [(a0.1,0,0)]).bind fun l1=>
  some (.next (aA .i64 (s.1+1),s.2.1,s.2.2.1,s.2.2.2.1,s.2.2.2.2.1,s.2.2.2.2.2.1,l1))
 else
  (rW (s.2.1,s.2.2.1,s.2.2.2.1,s.2.2.2.2.2.1,0,Int.ofNat s.2.1.length,s.2.2.2.2.2.2)).bind fun a2=>
  some (.done (rO.mk a2.1 a2.2))
def EY (p0:Field) (p1:Int×Int):Option rO:=
 aH oJ (0,p0.points,p1.1,p1.2,0,0,[])
def aQr:bJ:=⟨aB.cons (aK.agg bW) (aB.one (aK.agg (cI.row iE))),aK.agg xW,fun a=>EY a.1 a.2,.frz,false⟩
theorem aHC:aJ aV 102 aQr:=aJ.of aEO (cx:=(pW aG [] [(154,aBs)] [] [])) rfl (mK.make trivial ⟨ZL,trivial⟩ trivial) (fun a=>by kernel_rfl)
def rX (p0:Field) (p1:Int×Int):Option rO:=
 (EY p0 p1).bind fun r0=>
 some r0
def c53:bJ:=⟨aB.cons (aK.agg bW) (aB.one (aK.agg (cI.row iE))),aK.agg xW,fun a=>rX a.1 a.2,.frz,false⟩
theorem aBt:aJ aV 53 c53:=Oc aMK rfl aG [(102,aQr)] ⟨aHC,trivial⟩ fun a=>by kernel_rfl
abbrev aQs:=cE (Int×Int×bO×pX) pX
def pP (s:(Int×Int×Int×bO×pX)):Option (cE (Int×Int×Int×bO×pX) aQs):=
 bif decide (s.2.1<(Int.ofNat s.2.2.2.1.length)) then
  (aO s.2.2.2.1 s.2.1).bind fun a0=>
  bif a0.2.1==s.1 then
   (aO s.2.2.2.1 s.1).bind fun a1=>
   (aO s.2.2.2.1 s.2.1).bind fun a2=>
   (bH s.2.2.2.2 [(a1.1,a2.1)]).bind fun l3=>
   some (.next (s.1,aA .i64 (s.2.1+1),s.2.2.1,s.2.2.2.1,l3))
  else
   (aO s.2.2.2.1 s.2.1).bind fun a4=>
   bif a4.2.2==s.1 then
    (aO s.2.2.2.1 s.1).bind fun a5=>
    (aO s.2.2.2.1 s.2.1).bind fun a6=>
    (bH s.2.2.2.2 [(a5.1,a6.1)]).bind fun l7=>
    some (.next (s.1,aA .i64 (s.2.1+1),s.2.2.1,s.2.2.2.1,l7))
   else
    some (.next (s.1,aA .i64 (s.2.1+1),s.2.2))
 else
  some (.done (.next (aA .i64 (s.1+1),s.2.2)))
def tS (s:(Int×Int×bO×pX)):Option aQs:=
 bif decide (s.1<(Int.ofNat s.2.2.1.length)) then
  aH pP (s.1,0,s.2)
 else
  some (.done s.2.2.2)
def vV (p0:rO):Option pX:=
 aH tS (0,p0.root,p0.nodes,[])
def c47:bJ:=⟨aB.one (aK.agg xW),aK.sl iE,fun a=>vV a,.frz,false⟩
theorem U1:aJ aV 47 c47:=Oc aME rfl aG [] trivial fun a=>by kernel_rfl
def rY (p0:aW):Option aW:=
 (cB p0.list).bind fun l0=>
 some (aW.mk p0.next_ l0)
def c57:bJ:=⟨aB.one (aK.agg gH),aK.agg gH,fun a=>rY a,.own,true⟩
def aHD:bJ:=⟨aB.one (aK.agg gH),aK.agg gH,fun a=>rY a,.frz,false⟩
theorem U2:aJ aV 57 c57:=Oc aBa rfl aG [] trivial fun a=>by kernel_rfl
theorem PN:aJ aV 57 aHD:=Oc aBa rfl aG [] trivial fun a=>by kernel_rfl
def pB (p0:aR):Option aR:=
 (cB p0.uses).bind fun l0=>
 (cB p0.used).bind fun l1=>
 (cB p0.free).bind fun l2=>
 some (aR.mk l0 l1 l2)
def aBu:bJ:=⟨aB.one (aK.agg fK),aK.agg fK,fun a=>pB a,.own,true⟩
def SK:bJ:=⟨aB.one (aK.agg fK),aK.agg fK,fun a=>pB a,.frz,false⟩
theorem JR:aJ aV 106 aBu:=Oc W7 rfl aG [] trivial fun a=>by kernel_rfl
theorem GA:aJ aV 106 SK:=Oc W7 rfl aG [] trivial fun a=>by kernel_rfl
def nB (p0:aI):Option aI:=
 (pB p0.slots).bind fun r0=>
 (cB p0.heap).bind fun l1=>
 (cB p0.where_).bind fun l2=>
 some (aI.mk r0 l1 l2)
def c58:bJ:=⟨aB.one (aK.agg cS),aK.agg cS,fun a=>nB a,.own,true⟩
def ZM:bJ:=⟨aB.one (aK.agg cS),aK.agg cS,fun a=>nB a,.frz,false⟩
theorem LT:aJ aV 58 c58:=Oc aBb rfl aG [(106,aBu),(106,SK)] ⟨JR,GA,trivial⟩ fun a=>by kernel_rfl
theorem GB:aJ aV 58 ZM:=Oc aBb rfl aG [(106,aBu),(106,SK)] ⟨JR,GA,trivial⟩ fun a=>by kernel_rfl
def nC (p0:aQ):Option aQ:=
 (mZ p0.field).bind fun r0=>
 (rY p0.certs).bind fun r1=>
 (nB p0.agenda).bind fun r2=>
 (cB p0.due).bind fun l3=>
 some (aQ.mk p0.now r0 r1 r2 l3)
def c26:bJ:=⟨aB.one (aK.agg bN),aK.agg bN,fun a=>nC a,.own,true⟩
def aBv:bJ:=⟨aB.one (aK.agg bN),aK.agg bN,fun a=>nC a,.frz,false⟩
theorem PO:aJ aV 26 c26:=Oc aA8 rfl aG [(56,c56),(56,aBq),(57,c57),(57,aHD),(58,c58),(58,ZM)] ⟨PM,JP,U2,PN,LT,GB,trivial⟩ fun a=>by kernel_rfl
theorem JS:aJ aV 26 aBv:=Oc aA8 rfl aG [(56,c56),(56,aBq),(57,c57),(57,aHD),(58,c58),(58,ZM)] ⟨PM,JP,U2,PN,LT,GB,trivial⟩ fun a=>by kernel_rfl
def xF (s:(pX×Int×Int×Int)):Option (cE (pX×Int×Int×Int) Bool):=
 bif decide (s.2.1<(Int.ofNat s.1.length)) then
  (aO s.1 s.2.1).bind fun a0=>
  bif (a0.1==s.2.2.1)&&(a0.2==s.2.2.2) then
   some (.done true)
  else
   some (.next (s.1,aA .i64 (s.2.1+1),s.2.2))
 else
  some (.done false)
def GC (p0:List (Int×Int)) (p1:Int×Int):Option Bool:=
 aH xF (p0,0,p1)
def aQu:bJ:=⟨aB.cons (aK.sl iE) (aB.one (aK.agg (cI.row iE))),aK.bool,fun a=>GC a.1 a.2,.pure,false⟩
theorem aHE:aJ aV 113 aQu:=Oc aEX rfl aG [] trivial fun a=>by kernel_rfl
abbrev aQv:=Int×Int×Int×bO×Int×Int×bO
def kJ (s:aQv):Option (cE aQv aW):=
 bif decide (s.2.1<(Int.ofNat s.2.2.2.1.length)) then
  (aO s.2.2.2.1 s.2.1).bind fun a0=>
  bif a0.1 !=s.1 then
   (aO s.2.2.2.1 s.2.1).bind fun a1=>
   (bH s.2.2.2.2.2.2 [a1]).bind fun l2=>
   some (.next (s.1,aA .i64 (s.2.1+1),s.2.2.1,s.2.2.2.1,s.2.2.2.2.1,s.2.2.2.2.2.1,l2))
  else
   some (.next (s.1,aA .i64 (s.2.1+1),s.2.2))
 else
  some (.done (aW.mk s.2.2.2.2.2.1 s.2.2.2.2.2.2))
def sP (p0:aW) (p1:Int):Option aW:=
 aH kJ (p1,0,p0.next_,p0.list,0,p0.next_,[])
def aQw:bJ:=⟨aB.cons (aK.agg gH) (aB.one (aK.int .i64)),aK.agg gH,fun a=>sP a.1 a.2,.frz,false⟩
theorem aHF:aJ aV 165 aQw:=Oc aFI rfl aG [] trivial fun a=>by kernel_rfl
abbrev aNR:=Int×Int×Int×Int×bO×Int×bO×(List Int)×(List Bool)×(List Int)×jV×(List Int)×bO
abbrev aQx:=cE aNR Int
def qL (s:aNR):Option aQx:=
 bif decide (s.2.1<(Int.ofNat s.2.2.2.2.2.2.2.2.2.2.2.2.length)) then
  (aO s.2.2.2.2.2.2.2.2.2.2.2.2 s.2.1).bind fun a0=>
  bif a0.1==s.1 then
   some (.done s.2.1)
  else
   some (.next (s.1,aA .i64 (s.2.1+1),s.2.2))
 else
  some (.done (-1))
def pQ (p0:aQ) (p1:Int):Option Int:=
 aH qL (p1,0,p0.now.1,p0.now.2,p0.field.points,p0.certs.next_,p0.certs.list,p0.agenda.slots.uses,p0.agenda.slots.used,p0.agenda.slots.free,p0.agenda.heap,p0.agenda.where_,p0.due)
def aNS:bJ:=⟨aB.cons (aK.agg bN) (aB.one (aK.int .i64)),aK.int .i64,fun a=>pQ a.1 a.2,.pure,false⟩
theorem XV:aJ aV 166 aNS:=Oc aFJ rfl aG [] trivial fun a=>by kernel_rfl
def pR (p0:aR) (p1:Int×Int):Option aR:=
 (pB p0).bind fun r0=>
 (aO r0.used p1.1).bind fun _=>
 (bH r0.free [p1.1]).bind fun l2=>
 some (aR.mk r0.uses (bX r0.used p1.1 false) l2)
def aQy:bJ:=⟨aB.cons (aK.agg fK) (aB.one (aK.agg (cI.row iE))),aK.agg fK,fun a=>pR a.1 a.2,.frz,false⟩
theorem aHG:aJ aV 199 aQy:=Oc aGf rfl aG [(106,aBu),(106,SK)] ⟨JR,GA,trivial⟩ fun a=>by kernel_rfl
def sQ (p0:Int×Int) (p1:Int×Int):Option Int:=
 (jO p0.1 p1.2).bind fun a0=>
 (jO p1.1 p0.2).bind fun a1=>
 (lM a0).bind fun n2=>
 (lM a1).bind fun n3=>
 bif n2 !=n3 then
  (lM a0).bind fun n4=>
  (lM a1).bind fun n5=>
  bif decide (n4<n5) then
   some (-1)
  else
   some 1
 else
  (lM a0).bind fun n6=>
  bif decide (n6<0) then
   (rV a1 a0).bind fun n7=>
   some n7
  else
   (rV a0 a1).bind fun n8=>
   some n8
def c80:bJ:=⟨aB.cons (aK.agg (cI.row iE)) (aB.one (aK.agg (cI.row iE))),aK.int .i64,fun a=>sQ a.1 a.2,.pure,false⟩
theorem aNT:aJ aV 80 c80:=Oc aM3 rfl aG [(132,aNO),(133,aNQ),(134,aNP)] ⟨XS,XU,XT,trivial⟩ fun a=>by kernel_rfl
def eC (p0:Int×Int×Int×Int×Int) (p1:Int×Int×Int×Int×Int):Option Bool:=
 (sQ (p0.1,p0.2.1) (p1.1,p1.2.1)).bind fun n0=>
 bif decide (n0<0) then
  some true
 else
  bif n0==0 then
   some (decide (p0.2.2.1<p1.2.2.1))
  else
   some false
def U3:bJ:=⟨aB.cons (aK.agg (cI.row lJ)) (aB.one (aK.agg (cI.row lJ))),aK.bool,fun a=>eC a.1 a.2,.pure,false⟩
theorem DD:aJ aV 151 U3:=Oc aFv rfl aG [(80,c80)] ⟨aNT,trivial⟩ fun a=>by kernel_rfl
abbrev aNU:=Int×Int×(List Int)×(List Bool)×(List Int)×jV×(List Int)
abbrev aNV:=(List Int)×(List Bool)×(List Int)×jV×(List Int)
def fH (a:aNU):Option aNV:=
 (aO a.2.2.2.2.2.1 a.2.1).bind fun a0=>
 (aO a.2.2.2.2.2.1 a.1).bind fun a1=>
 (aO a.2.2.2.2.2.1 a.1).bind fun _=>
 (aO (bX a.2.2.2.2.2.1 a.1 a0) a.2.1).bind fun _=>
 (aO (bX (bX a.2.2.2.2.2.1 a.1 a0) a.2.1 a1) a.1).bind fun a4=>
 (aO (bX (bX a.2.2.2.2.2.1 a.1 a0) a.2.1 a1) a.2.1).bind fun a5=>
 (aO a.2.2.2.2.2.2 a4.2.2.2.1).bind fun _=>
 (aO (bX a.2.2.2.2.2.2 a4.2.2.2.1 a.1) a5.2.2.2.1).bind fun _=>
 bif a.2.2.1.length==a.2.2.1.length then
  bif a.2.2.2.1.length==a.2.2.2.1.length then
   bif a.2.2.2.2.1.length==a.2.2.2.2.1.length then
    bif ((bX (bX a.2.2.2.2.2.1 a.1 a0) a.2.1 a1).length)==a.2.2.2.2.2.1.length then
     bif ((bX (bX a.2.2.2.2.2.2 a4.2.2.2.1 a.1) a5.2.2.2.1 a.2.1).length)==a.2.2.2.2.2.2.length then
      some (a.2.2.1,a.2.2.2.1,a.2.2.2.2.1,bX (bX a.2.2.2.2.2.1 a.1 a0) a.2.1 a1,bX (bX a.2.2.2.2.2.2 a4.2.2.2.1 a.1) a5.2.2.2.1 a.2.1)
     else
      none
    else
     none
   else
    none
  else
   none
 else
  none
def EZ:dV:=⟨[.i,.i,.l [.i .i64],.l [.b],.l [.i .i64],.l [.i .i64,.i .i64,.i .i64,.i .i64,.i .i64],.l [.i .i64]],[.agg [.own 0 false,.own 1 false,.own 2 false,.own 3 false,.own 4 false],.int .i64 0,.int .i64 0],[.arr [.i .i64] [],.arr [.b] [],.arr [.i .i64] [],.arr [.i .i64,.i .i64,.i .i64,.i .i64,.i .i64] [],.arr [.i .i64] []],[.l [.i .i64],.l [.b],.l [.i .i64],.l [.i .i64,.i .i64,.i .i64,.i .i64,.i .i64],.l [.i .i64]],.tup [],[.arr [.i .i64] [],.arr [.b] [],.arr [.i .i64] [],.arr [.i .i64,.i .i64,.i .i64,.i .i64,.i .i64] [],.arr [.i .i64] []],fun a=>fH a⟩
theorem vA:kW aV 198 EZ:=kW.of O9 (wd:=false) (cx:=(pW aG [] [] [] [])) (mK.make trivial trivial trivial) (fun a=>by kernel_rfl)
def gF (a:((List Int)×(List Bool)×(List Int)×Nat×Nat×Int×Int×jV×(List Int))):Option MW:=
 (aO (a.2.2.2.2.2.2.2.1.take a.2.2.2.1) a.2.2.2.2.2.2.1).bind fun a0=>
 (aO (a.2.2.2.2.2.2.2.1.take a.2.2.2.1) a.2.2.2.2.2.1).bind fun a1=>
 (aO (a.2.2.2.2.2.2.2.1.take a.2.2.2.1) a.2.2.2.2.2.1).bind fun _=>
 (aO ((bX a.2.2.2.2.2.2.2.1 a.2.2.2.2.2.1 a0).take a.2.2.2.1) a.2.2.2.2.2.2.1).bind fun _=>
 (aO ((bX (bX a.2.2.2.2.2.2.2.1 a.2.2.2.2.2.1 a0) a.2.2.2.2.2.2.1 a1).take a.2.2.2.1) a.2.2.2.2.2.1).bind fun a4=>
 (aO ((bX (bX a.2.2.2.2.2.2.2.1 a.2.2.2.2.2.1 a0) a.2.2.2.2.2.2.1 a1).take a.2.2.2.1) a.2.2.2.2.2.2.1).bind fun a5=>
 (aO a.2.2.2.2.2.2.2.2 a4.2.2.2.1).bind fun _=>
 (aO (bX a.2.2.2.2.2.2.2.2 a4.2.2.2.1 a.2.2.2.2.2.1) a5.2.2.2.1).bind fun _=>
 bif ((bX (bX a.2.2.2.2.2.2.2.1 a.2.2.2.2.2.1 a0) a.2.2.2.2.2.2.1 a1).length)==a.2.2.2.2.2.2.2.1.length then
  bif ((bX (bX a.2.2.2.2.2.2.2.2 a4.2.2.2.1 a.2.2.2.2.2.1) a5.2.2.2.1 a.2.2.2.2.2.2.1).length)==a.2.2.2.2.2.2.2.2.length then
   some (bX (bX a.2.2.2.2.2.2.2.1 a.2.2.2.2.2.1 a0) a.2.2.2.2.2.2.1 a1,bX (bX a.2.2.2.2.2.2.2.2 a4.2.2.2.1 a.2.2.2.2.2.1) a5.2.2.2.1 a.2.2.2.2.2.2.1)
  else
   none
 else
  none
def E0:dV:=⟨[.l [.i .i64],.l [.b],.l [.i .i64],.n,.n,.i,.i,.l [.i .i64,.i .i64,.i .i64,.i .i64,.i .i64],.l [.i .i64]],[.agg [.sl [.i .i64] [],.sl [.b] [],.sl [.i .i64] [],.pre 0 0 0 false,.own 1 false],.int .i64 0,.int .i64 0],[.arr [.i .i64,.i .i64,.i .i64,.i .i64,.i .i64] [],.arr [.i .i64] []],[.l [.i .i64,.i .i64,.i .i64,.i .i64,.i .i64],.l [.i .i64]],.tup [],[.arr [.i .i64,.i .i64,.i .i64,.i .i64,.i .i64] [],.arr [.i .i64] []],fun a=>gF a⟩
theorem vB:kW aV 198 E0:=kW.of O9 (wd:=false) (cx:=(pW aG [] [] [] [])) (mK.make trivial trivial trivial) (fun a=>by kernel_rfl)
abbrev aHH:=(List Int)×(List Bool)×(List Int)×Nat×Nat×Int×jV×(List Int)
abbrev aHI:=Int×jV×(List Int)×(List Int)×(List Bool)×(List Int)×Nat×Nat
abbrev aHJ:=Int×jV×(List Int)
def gW (c0:aHH) (s:aHI):Option (cE aHI aHJ):=
 bif decide (0<s.1) then
  (aO (s.2.1.take s.2.2.2.2.2.2.1) s.1).bind fun a0=>
  (aO (s.2.1.take s.2.2.2.2.2.2.1) (aA .i64 (Int.tdiv (aA .i64 (s.1-1)) 2))).bind fun a1=>
  (eC a0 a1).bind fun b2=>
  bif b2 then
   (gF (s.2.2.2.1,s.2.2.2.2.1,s.2.2.2.2.2.1,s.2.2.2.2.2.2.1,s.2.2.2.2.2.2.2,s.1,aA .i64 (Int.tdiv (aA .i64 (s.1-1)) 2),s.2.1,s.2.2.1)).bind fun a3=>
   some (.next (aA .i64 (Int.tdiv (aA .i64 (s.1-1)) 2),a3.1,a3.2,s.2.2.2))
  else
   bif s.2.1.length==c0.2.2.2.2.2.2.1.length then
    bif s.2.2.1.length==c0.2.2.2.2.2.2.2.length then
     some (.done (s.1,s.2.1,s.2.2.1))
    else
     none
   else
    none
 else
  bif s.2.1.length==c0.2.2.2.2.2.2.1.length then
   bif s.2.2.1.length==c0.2.2.2.2.2.2.2.length then
    some (.done (s.1,s.2.1,s.2.2.1))
   else
    none
  else
   none
def nD (a:aHH):Option aHJ:=
 aH (gW a) (a.2.2.2.2.2.1,a.2.2.2.2.2.2.1,a.2.2.2.2.2.2.2,a.1,a.2.1,a.2.2.1,a.2.2.2.1,a.2.2.2.2.1)
def PP:dV:=⟨[.l [.i .i64],.l [.b],.l [.i .i64],.n,.n,.i,.l [.i .i64,.i .i64,.i .i64,.i .i64,.i .i64],.l [.i .i64]],[.agg [.sl [.i .i64] [],.sl [.b] [],.sl [.i .i64] [],.pre 0 0 0 false,.own 1 false],.int .i64 0],[.arr [.i .i64,.i .i64,.i .i64,.i .i64,.i .i64] [],.arr [.i .i64] []],[.i,.l [.i .i64,.i .i64,.i .i64,.i .i64,.i .i64],.l [.i .i64]],.int .i64 0,[.arr [.i .i64,.i .i64,.i .i64,.i .i64,.i .i64] [],.arr [.i .i64] []],fun a=>nD a⟩
theorem HW:kW aV 201 PP:=kW.of PA (wd:=true) (cx:=(pW aG [(151,U3)] [(198,EZ),(198,E0)] [] [])) (mK.make ⟨DD,trivial⟩ ⟨vA,vB,trivial⟩ trivial) (fun a=>by kernel_rfl)
def jY (c0:aHH) (s:aHI):Option (cE aHI MW):=
 bif decide ((Int.ofNat s.2.2.2.2.2.2.1)<=(aA .i64 ((aA .i64 (2*s.1))+1))) then
  bif s.2.1.length==c0.2.2.2.2.2.2.1.length then
   bif s.2.2.1.length==c0.2.2.2.2.2.2.2.length then
    some (.done (s.2.1,s.2.2.1))
   else
    none
  else
   none
 else
  bif decide ((aA .i64 ((aA .i64 ((aA .i64 (2*s.1))+1))+1))<(Int.ofNat s.2.2.2.2.2.2.1)) then
   (aO (s.2.1.take s.2.2.2.2.2.2.1) (aA .i64 ((aA .i64 ((aA .i64 (2*s.1))+1))+1))).bind fun a0=>
   (aO (s.2.1.take s.2.2.2.2.2.2.1) (aA .i64 ((aA .i64 (2*s.1))+1))).bind fun a1=>
   (eC a0 a1).bind fun b2=>
   bif b2 then
    (aO (s.2.1.take s.2.2.2.2.2.2.1) (aA .i64 ((aA .i64 ((aA .i64 (2*s.1))+1))+1))).bind fun a3=>
    (aO (s.2.1.take s.2.2.2.2.2.2.1) s.1).bind fun a4=>
    (eC a3 a4).bind fun b5=>
    bif !b5 then
     bif s.2.1.length==c0.2.2.2.2.2.2.1.length then
      bif s.2.2.1.length==c0.2.2.2.2.2.2.2.length then
       some (.done (s.2.1,s.2.2.1))
      else
       none
     else
      none
    else
     (gF (s.2.2.2.1,s.2.2.2.2.1,s.2.2.2.2.2.1,s.2.2.2.2.2.2.1,s.2.2.2.2.2.2.2,s.1,aA .i64 ((aA .i64 ((aA .i64 (2*s.1))+1))+1),s.2.1,s.2.2.1)).bind fun a6=>
     some (.next (aA .i64 ((aA .i64 ((aA .i64 (2*s.1))+1))+1),a6.1,a6.2,s.2.2.2))
   else
    (aO (s.2.1.take s.2.2.2.2.2.2.1) (aA .i64 ((aA .i64 (2*s.1))+1))).bind fun a7=>
    (aO (s.2.1.take s.2.2.2.2.2.2.1) s.1).bind fun a8=>
    (eC a7 a8).bind fun b9=>
    bif !b9 then
     bif s.2.1.length==c0.2.2.2.2.2.2.1.length then
      bif s.2.2.1.length==c0.2.2.2.2.2.2.2.length then
       some (.done (s.2.1,s.2.2.1))
      else
       none
     else
      none
    else
     (gF (s.2.2.2.1,s.2.2.2.2.1,s.2.2.2.2.2.1,s.2.2.2.2.2.2.1,s.2.2.2.2.2.2.2,s.1,aA .i64 ((aA .i64 (2*s.1))+1),s.2.1,s.2.2.1)).bind fun a10=>
     some (.next (aA .i64 ((aA .i64 (2*s.1))+1),a10.1,a10.2,s.2.2.2))
  else
   (aO (s.2.1.take s.2.2.2.2.2.2.1) (aA .i64 ((aA .i64 (2*s.1))+1))).bind fun a11=>
   (aO (s.2.1.take s.2.2.2.2.2.2.1) s.1).bind fun a12=>
   (eC a11 a12).bind fun b13=>
   bif !b13 then
    bif s.2.1.length==c0.2.2.2.2.2.2.1.length then
     bif s.2.2.1.length==c0.2.2.2.2.2.2.2.length then
      some (.done (s.2.1,s.2.2.1))
     else
      none
    else
     none
   else
    (gF (s.2.2.2.1,s.2.2.2.2.1,s.2.2.2.2.2.1,s.2.2.2.2.2.2.1,s.2.2.2.2.2.2.2,s.1,aA .i64 ((aA .i64 (2*s.1))+1),s.2.1,s.2.2.1)).bind fun a14=>
    some (.next (aA .i64 ((aA .i64 (2*s.1))+1),a14.1,a14.2,s.2.2.2))
def kK (a:aHH):Option MW:=
 aH (jY a) (a.2.2.2.2.2.1,a.2.2.2.2.2.2.1,a.2.2.2.2.2.2.2,a.1,a.2.1,a.2.2.1,a.2.2.2.1,a.2.2.2.2.1)
def U4:dV:=⟨[.l [.i .i64],.l [.b],.l [.i .i64],.n,.n,.i,.l [.i .i64,.i .i64,.i .i64,.i .i64,.i .i64],.l [.i .i64]],[.agg [.sl [.i .i64] [],.sl [.b] [],.sl [.i .i64] [],.pre 0 0 0 false,.own 1 false],.int .i64 0],[.arr [.i .i64,.i .i64,.i .i64,.i .i64,.i .i64] [],.arr [.i .i64] []],[.l [.i .i64,.i .i64,.i .i64,.i .i64,.i .i64],.l [.i .i64]],.tup [],[.arr [.i .i64,.i .i64,.i .i64,.i .i64,.i .i64] [],.arr [.i .i64] []],fun a=>kK a⟩
theorem NV:kW aV 200 U4:=kW.of XB (wd:=false) (cx:=(pW aG [(151,U3)] [(198,EZ),(198,E0)] [] [])) (mK.make ⟨DD,trivial⟩ ⟨vA,vB,trivial⟩ trivial) (fun a=>by kernel_rfl)
def jP (p0:aI) (p1:Int×Int):Option aI:=
 (nB p0).bind fun r0=>
 (aO r0.where_ p1.1).bind fun n1=>
 bif n1 !=(aA .i64 ((Int.ofNat r0.heap.length) -1)) then
  (fH (n1,aA .i64 ((Int.ofNat r0.heap.length) -1),r0.slots.uses,r0.slots.used,r0.slots.free,r0.heap,r0.where_)).bind fun a2=>
  (iI a2.2.2.2.1 0 (aA .i64 ((Int.ofNat r0.heap.length) -1))).bind fun _=>
  (aO a2.2.2.2.2 p1.1).bind fun _=>
  (pR (aR.mk a2.1 a2.2.1 a2.2.2.1) p1).bind fun r5=>
  bif n1 !=(aA .i64 ((Int.ofNat r0.heap.length) -1)) then
   (nD (r5.uses,r5.used,r5.free,(aA .i64 ((Int.ofNat r0.heap.length) -1)).toNat,a2.2.2.2.1.length,n1,a2.2.2.2.1,bX a2.2.2.2.2 p1.1 (-1))).bind fun a6=>
   (kK (r5.uses,r5.used,r5.free,(aA .i64 ((Int.ofNat r0.heap.length) -1)).toNat,a2.2.2.2.1.length,a6)).bind fun a7=>
   some (aI.mk r5 (a7.1.take ((aA .i64 ((Int.ofNat r0.heap.length) -1)).toNat)) a7.2)
  else
   some (aI.mk r5 (a2.2.2.2.1.take ((aA .i64 ((Int.ofNat r0.heap.length) -1)).toNat)) (bX a2.2.2.2.2 p1.1 (-1)))
 else
  (iI r0.heap 0 (aA .i64 ((Int.ofNat r0.heap.length) -1))).bind fun _=>
  (aO r0.where_ p1.1).bind fun _=>
  (pR r0.slots p1).bind fun r10=>
  bif n1 !=(aA .i64 ((Int.ofNat r0.heap.length) -1)) then
   (nD (r10.uses,r10.used,r10.free,(aA .i64 ((Int.ofNat r0.heap.length) -1)).toNat,r0.heap.length,n1,r0.heap,bX r0.where_ p1.1 (-1))).bind fun a11=>
   (kK (r10.uses,r10.used,r10.free,(aA .i64 ((Int.ofNat r0.heap.length) -1)).toNat,r0.heap.length,a11)).bind fun a12=>
   some (aI.mk r10 (a12.1.take ((aA .i64 ((Int.ofNat r0.heap.length) -1)).toNat)) a12.2)
  else
   some (aI.mk r10 (r0.heap.take ((aA .i64 ((Int.ofNat r0.heap.length) -1)).toNat)) (bX r0.where_ p1.1 (-1)))
def aNW:bJ:=⟨aB.cons (aK.agg cS) (aB.one (aK.agg (cI.row iE))),aK.agg cS,fun a=>jP a.1 a.2,.frz,false⟩
theorem XW:aJ aV 167 aNW:=aJ.of aFK (cx:=(pW aG [(58,c58),(58,ZM),(199,aQy)] [(198,EZ),(198,E0),(201,PP),(200,U4)] [] [])) rfl (mK.make ⟨LT,GB,aHG,trivial⟩ ⟨vA,vB,HW,NV,trivial⟩ trivial) (fun a=>by kernel_rfl)
def vW (p0:aQ) (p1:Int):Option aQ:=
 (nC p0).bind fun r0=>
 (sP p0.certs p1).bind fun r1=>
 (pQ p0 p1).bind fun n2=>
 bif decide (0<=n2) then
  (aO p0.due n2).bind fun a3=>
  (jP p0.agenda a3.2).bind fun r4=>
  (iI p0.due 0 n2).bind fun l5=>
  (cB l5).bind fun l6=>
  (iI p0.due (aA .i64 (n2+1)) (Int.ofNat p0.due.length)).bind fun l7=>
  bif l7.isEmpty then
   some (aQ.mk r0.now r0.field r1 r4 l6)
  else
   (bH l6 l7).bind fun l8=>
   some (aQ.mk r0.now r0.field r1 r4 l8)
 else
  some (aQ.mk r0.now r0.field r1 r0.agenda r0.due)
def aQz:bJ:=⟨aB.cons (aK.agg bN) (aB.one (aK.int .i64)),aK.agg bN,fun a=>vW a.1 a.2,.frz,false⟩
theorem aHK:aJ aV 114 aQz:=Oc aEY rfl aG [(26,c26),(26,aBv),(165,aQw),(166,aNS),(167,aNW)] ⟨PO,JS,aHF,XV,XW,trivial⟩ fun a=>by kernel_rfl
def sR (s:(Int×bO×bO)):Option (cE (Int×bO×bO) Bool):=
 bif decide (s.1<(Int.ofNat s.2.1.length)) then
  (aO s.2.1 s.1).bind fun a0=>
  (aO s.2.2 s.1).bind fun a1=>
  bif !((a0.1==a1.1)&&((a0.2.1==a1.2.1)&&(a0.2.2==a1.2.2))) then
   some (.done false)
  else
   some (.next (aA .i64 (s.1+1),s.2))
 else
  some (.done true)
def vX (p0:Field) (p1:Field):Option Bool:=
 bif (Int.ofNat p0.points.length) !=(Int.ofNat p1.points.length) then
  some false
 else
  aH sR (0,p0.points,p1.points)
def c68:bJ:=⟨aB.cons (aK.agg bW) (aB.one (aK.agg bW)),aK.bool,fun a=>vX a.1 a.2,.pure,false⟩
theorem aBw:aJ aV 68 c68:=Oc aMT rfl aG [] trivial fun a=>by kernel_rfl
abbrev aNX:=cE aBk Int
def tT (s:aBk):Option aNX:=
 bif decide (s.2.1<(Int.ofNat s.2.2.length)) then
  (aO s.2.2 s.2.1).bind fun a0=>
  bif a0.1==s.1 then
   some (.done s.2.1)
  else
   some (.next (s.1,aA .i64 (s.2.1+1),s.2.2))
 else
  some (.done (-1))
def jJ (p0:Field) (p1:Int):Option Int:=
 aH tT (p1,0,p0.points)
def c65:bJ:=⟨aB.cons (aK.agg bW) (aB.one (aK.int .i64)),aK.int .i64,fun a=>jJ a.1 a.2,.pure,false⟩
theorem U5:aJ aV 65 c65:=Oc aMR rfl aG [] trivial fun a=>by kernel_rfl
def rZ (p0:Bool) (p1:Bool×Int×Int) (p2:Bool×Int×Int):Option ((Int×Int)×Int):=
 bif decide (0<p1.2.1) then
  some ((0,0),16)
 else
  bif decide (9223372036854775807<p1.2.2) then
   some ((0,0),16)
  else
   bif decide (0<p2.2.1) then
    some ((0,0),16)
   else
    bif decide (9223372036854775807<p2.2.2) then
     some ((0,0),16)
    else
     bif p0 then
      some ((aA .i64 (0- (aA .i64 p1.2.2)),aA .i64 p2.2.2),0)
     else
      some ((aA .i64 p1.2.2,aA .i64 p2.2.2),0)
def aQA:bJ:=⟨aB.cons aK.bool (aB.cons (aK.agg (cI.row CA)) (aB.one (aK.agg (cI.row CA)))),aK.tup (aB.cons (aK.agg (cI.row iE)) (aB.one (aK.int .i64))),fun a=>rZ a.1 a.2.1 a.2.2,.pure,false⟩
theorem aHL:aJ aV 225 aQA:=Oc aGz rfl aG [] trivial fun a=>by kernel_rfl
def nE (p0:Int) (p1:Int):Option ((Int×Int)×Int):=
 bif p1==0 then
  some ((0,0),26)
 else
  (hJ p0).bind fun n0=>
  (hJ p1).bind fun n1=>
  (qK n0 n1).bind fun n2=>
  bif !((decide (p0<0))==(decide (p1<0))) then
   (hJ p0).bind fun n3=>
   bif n2==0 then
    none
   else
    (hJ p1).bind fun n4=>
    bif n2==0 then
     none
    else
     (rZ (p0 !=0) (false,0,aA .u64 (Int.tdiv n3 n2)) (false,0,aA .u64 (Int.tdiv n4 n2))).bind fun a5=>
     some a5
  else
   (hJ p0).bind fun n6=>
   bif n2==0 then
    none
   else
    (hJ p1).bind fun n7=>
    bif n2==0 then
     none
    else
     (rZ false (false,0,aA .u64 (Int.tdiv n6 n2)) (false,0,aA .u64 (Int.tdiv n7 n2))).bind fun a8=>
     some a8
def aQB:bJ:=⟨aB.cons (aK.int .i64) (aB.one (aK.int .i64)),aK.tup (aB.cons (aK.agg (cI.row iE)) (aB.one (aK.int .i64))),fun a=>nE a.1 a.2,.pure,false⟩
theorem aHM:aJ aV 214 aQB:=Oc aGq rfl aG [(88,c88),(87,c87),(225,aQA)] ⟨UZ,aBp,aHL,trivial⟩ fun a=>by kernel_rfl
def DE (p0:Int×Int×Int) (p1:Int×Int×Int):Option (Int×Int):=
 (nE (aA .i64 (p0.2.1-p1.2.1)) (aA .i64 (p1.2.2-p0.2.2))).bind fun a0=>
 some a0.1
def aQC:bJ:=⟨aB.cons (aK.agg (cI.row eM)) (aB.one (aK.agg (cI.row eM))),aK.agg (cI.row iE),fun a=>DE a.1 a.2,.pure,false⟩
theorem aHN:aJ aV 190 aQC:=Oc aF7 rfl aG [(214,aQB)] ⟨aHM,trivial⟩ fun a=>by kernel_rfl
def sS (p0:Int×Int×Int) (p1:Int×Int×Int) (p2:Int×Int):Option ((Int×Int)×Bool):=
 (nA p1 p0 p2).bind fun b0=>
 bif b0 then
  some (p2,true)
 else
  bif decide (p0.2.2<p1.2.2) then
   (DE p0 p1).bind fun a1=>
   some (a1,true)
  else
   some ((0,0),false)
def aQD:bJ:=⟨aB.cons (aK.agg (cI.row eM)) (aB.cons (aK.agg (cI.row eM)) (aB.one (aK.agg (cI.row iE)))),aK.tup (aB.cons (aK.agg (cI.row iE)) (aB.one aK.bool)),fun a=>sS a.1 a.2.1 a.2.2,.pure,false⟩
theorem aHO:aJ aV 152 aQD:=Oc aFw rfl aG [(140,aBr),(190,aQC)] ⟨JQ,aHN,trivial⟩ fun a=>by kernel_rfl
def sA (p0:Field) (p1:Int×Int) (p2:Int×Int):Option ((Int×Int)×Bool):=
 (jJ p0 p1.2).bind fun n0=>
 (aO p0.points n0).bind fun a1=>
 (jJ p0 p1.1).bind fun n2=>
 (aO p0.points n2).bind fun a3=>
 (sS a1 a3 p2).bind fun a4=>
 some a4
def aHP:bJ:=⟨aB.cons (aK.agg bW) (aB.cons (aK.agg (cI.row iE)) (aB.one (aK.agg (cI.row iE)))),aK.tup (aB.cons (aK.agg (cI.row iE)) (aB.one aK.bool)),fun a=>sA a.1 a.2.1 a.2.2,.pure,false⟩
theorem PQ:aJ aV 100 aHP:=Oc aEM rfl aG [(65,c65),(152,aQD)] ⟨U5,aHO,trivial⟩ fun a=>by kernel_rfl
abbrev GD:=Int×(List Int)×(List Bool)×(List Int)×jV×(List Int)
def gX (c0:GD) (s:GD):Option (cE GD GD):=
 bif decide (0<s.1) then
  (aO s.2.2.2.2.1 s.1).bind fun a0=>
  (aO s.2.2.2.2.1 (aA .i64 (Int.tdiv (aA .i64 (s.1-1)) 2))).bind fun a1=>
  (eC a0 a1).bind fun b2=>
  bif b2 then
   (fH (s.1,aA .i64 (Int.tdiv (aA .i64 (s.1-1)) 2),s.2)).bind fun a3=>
   some (.next (aA .i64 (Int.tdiv (aA .i64 (s.1-1)) 2),a3))
  else
   bif s.2.1.length==c0.2.1.length then
    bif s.2.2.1.length==c0.2.2.1.length then
     bif s.2.2.2.1.length==c0.2.2.2.1.length then
      bif s.2.2.2.2.1.length==c0.2.2.2.2.1.length then
       bif s.2.2.2.2.2.length==c0.2.2.2.2.2.length then
        some (.done s)
       else
        none
      else
       none
     else
      none
    else
     none
   else
    none
 else
  bif s.2.1.length==c0.2.1.length then
   bif s.2.2.1.length==c0.2.2.1.length then
    bif s.2.2.2.1.length==c0.2.2.2.1.length then
     bif s.2.2.2.2.1.length==c0.2.2.2.2.1.length then
      bif s.2.2.2.2.2.length==c0.2.2.2.2.2.length then
       some (.done s)
      else
       none
     else
      none
    else
     none
   else
    none
  else
   none
def qM (a:GD):Option GD:=
 aH (gX a) a
def U6:dV:=⟨[.i,.l [.i .i64],.l [.b],.l [.i .i64],.l [.i .i64,.i .i64,.i .i64,.i .i64,.i .i64],.l [.i .i64]],[.agg [.own 0 false,.own 1 false,.own 2 false,.own 3 false,.own 4 false],.int .i64 0],[.arr [.i .i64] [],.arr [.b] [],.arr [.i .i64] [],.arr [.i .i64,.i .i64,.i .i64,.i .i64,.i .i64] [],.arr [.i .i64] []],[.i,.l [.i .i64],.l [.b],.l [.i .i64],.l [.i .i64,.i .i64,.i .i64,.i .i64,.i .i64],.l [.i .i64]],.int .i64 0,[.arr [.i .i64] [],.arr [.b] [],.arr [.i .i64] [],.arr [.i .i64,.i .i64,.i .i64,.i .i64,.i .i64] [],.arr [.i .i64] []],fun a=>qM a⟩
theorem NW:kW aV 201 U6:=kW.of PA (wd:=false) (cx:=(pW aG [(151,U3)] [(198,EZ),(198,E0)] [] [])) (mK.make ⟨DD,trivial⟩ ⟨vA,vB,trivial⟩ trivial) (fun a=>by kernel_rfl)
def jZ (c0:GD) (s:GD):Option (cE GD aNV):=
 bif decide ((Int.ofNat s.2.2.2.2.1.length)<=(aA .i64 ((aA .i64 (2*s.1))+1))) then
  bif s.2.1.length==c0.2.1.length then
   bif s.2.2.1.length==c0.2.2.1.length then
    bif s.2.2.2.1.length==c0.2.2.2.1.length then
     bif s.2.2.2.2.1.length==c0.2.2.2.2.1.length then
      bif s.2.2.2.2.2.length==c0.2.2.2.2.2.length then
       some (.done s.2)
      else
       none
     else
      none
    else
     none
   else
    none
  else
   none
 else
  bif decide ((aA .i64 ((aA .i64 ((aA .i64 (2*s.1))+1))+1))<(Int.ofNat s.2.2.2.2.1.length)) then
   (aO s.2.2.2.2.1 (aA .i64 ((aA .i64 ((aA .i64 (2*s.1))+1))+1))).bind fun a0=>
   (aO s.2.2.2.2.1 (aA .i64 ((aA .i64 (2*s.1))+1))).bind fun a1=>
   (eC a0 a1).bind fun b2=>
   bif b2 then
    (aO s.2.2.2.2.1 (aA .i64 ((aA .i64 ((aA .i64 (2*s.1))+1))+1))).bind fun a3=>
    (aO s.2.2.2.2.1 s.1).bind fun a4=>
    (eC a3 a4).bind fun b5=>
    bif !b5 then
     bif s.2.1.length==c0.2.1.length then
      bif s.2.2.1.length==c0.2.2.1.length then
       bif s.2.2.2.1.length==c0.2.2.2.1.length then
        bif s.2.2.2.2.1.length==c0.2.2.2.2.1.length then
         bif s.2.2.2.2.2.length==c0.2.2.2.2.2.length then
          some (.done s.2)
         else
          none
        else
         none
       else
        none
      else
       none
     else
      none
    else
     (fH (s.1,aA .i64 ((aA .i64 ((aA .i64 (2*s.1))+1))+1),s.2)).bind fun a6=>
     some (.next (aA .i64 ((aA .i64 ((aA .i64 (2*s.1))+1))+1),a6))
   else
    (aO s.2.2.2.2.1 (aA .i64 ((aA .i64 (2*s.1))+1))).bind fun a7=>
    (aO s.2.2.2.2.1 s.1).bind fun a8=>
    (eC a7 a8).bind fun b9=>
    bif !b9 then
     bif s.2.1.length==c0.2.1.length then
      bif s.2.2.1.length==c0.2.2.1.length then
       bif s.2.2.2.1.length==c0.2.2.2.1.length then
        bif s.2.2.2.2.1.length==c0.2.2.2.2.1.length then
         bif s.2.2.2.2.2.length==c0.2.2.2.2.2.length then
          some (.done s.2)
         else
          none
        else
         none
       else
        none
      else
       none
     else
      none
    else
     (fH (s.1,aA .i64 ((aA .i64 (2*s.1))+1),s.2)).bind fun a10=>
     some (.next (aA .i64 ((aA .i64 (2*s.1))+1),a10))
  else
   (aO s.2.2.2.2.1 (aA .i64 ((aA .i64 (2*s.1))+1))).bind fun a11=>
   (aO s.2.2.2.2.1 s.1).bind fun a12=>
   (eC a11 a12).bind fun b13=>
   bif !b13 then
    bif s.2.1.length==c0.2.1.length then
     bif s.2.2.1.length==c0.2.2.1.length then
      bif s.2.2.2.1.length==c0.2.2.2.1.length then
       bif s.2.2.2.2.1.length==c0.2.2.2.2.1.length then
        bif s.2.2.2.2.2.length==c0.2.2.2.2.2.length then
         some (.done s.2)
        else
         none
       else
        none
      else
       none
     else
      none
    else
     none
   else
    (fH (s.1,aA .i64 ((aA .i64 (2*s.1))+1),s.2)).bind fun a14=>
    some (.next (aA .i64 ((aA .i64 (2*s.1))+1),a14))
def nT (a:GD):Option aNV:=
 aH (jZ a) a
def aBx:dV:=⟨[.i,.l [.i .i64],.l [.b],.l [.i .i64],.l [.i .i64,.i .i64,.i .i64,.i .i64,.i .i64],.l [.i .i64]],[.agg [.own 0 false,.own 1 false,.own 2 false,.own 3 false,.own 4 false],.int .i64 0],[.arr [.i .i64] [],.arr [.b] [],.arr [.i .i64] [],.arr [.i .i64,.i .i64,.i .i64,.i .i64,.i .i64] [],.arr [.i .i64] []],[.l [.i .i64],.l [.b],.l [.i .i64],.l [.i .i64,.i .i64,.i .i64,.i .i64,.i .i64],.l [.i .i64]],.tup [],[.arr [.i .i64] [],.arr [.b] [],.arr [.i .i64] [],.arr [.i .i64,.i .i64,.i .i64,.i .i64,.i .i64] [],.arr [.i .i64] []],fun a=>nT a⟩
theorem ZN:kW aV 200 aBx:=kW.of XB (wd:=false) (cx:=(pW aG [(151,U3)] [(198,EZ),(198,E0)] [] [])) (mK.make ⟨DD,trivial⟩ ⟨vA,vB,trivial⟩ trivial) (fun a=>by kernel_rfl)
def sT (p0:aI) (p1:Int×Int) (p2:Int×Int):Option aI:=
 (nB p0).bind fun r0=>
 (aO r0.where_ p1.1).bind fun n1=>
 (aO r0.heap n1).bind fun a2=>
 (qM (n1,r0.slots.uses,r0.slots.used,r0.slots.free,bX r0.heap n1 (p2.1,p2.2,a2.2.2),r0.where_)).bind fun a3=>
 (nT a3).bind fun a4=>
 some (aI.mk (aR.mk a4.1 a4.2.1 a4.2.2.1) a4.2.2.2.1 a4.2.2.2.2)
def aQE:bJ:=⟨aB.cons (aK.agg cS) (aB.cons (aK.agg (cI.row iE)) (aB.one (aK.agg (cI.row iE)))),aK.agg cS,fun a=>sT a.1 a.2.1 a.2.2,.frz,false⟩
theorem aHQ:aJ aV 168 aQE:=aJ.of aFL (cx:=(pW aG [(58,c58),(58,ZM)] [(201,PP),(200,U4),(201,U6),(200,aBx)] [] [])) rfl (mK.make ⟨LT,GB,trivial⟩ ⟨HW,NV,NW,ZN,trivial⟩ trivial) (fun a=>by kernel_rfl)
def gG (p0:aR):Option Bool:=
 bif decide (0<(Int.ofNat p0.free.length)) then
  (aO p0.free (aA .i64 ((Int.ofNat p0.free.length) -1))).bind fun n0=>
  (aO p0.uses n0).bind fun n1=>
  some (decide (n1<1000000))
 else
  some false
def aNY:bJ:=⟨aB.one (aK.agg fK),aK.bool,fun a=>gG a,.pure,false⟩
theorem XX:aJ aV 169 aNY:=Oc aFM rfl aG [] trivial fun a=>by kernel_rfl
def xG (p0:aR):Option (aR×(Int×Int)):=
 (pB p0).bind fun r0=>
 (aO r0.free (aA .i64 ((Int.ofNat r0.free.length) -1))).bind fun n1=>
 (iI r0.free 0 (aA .i64 ((Int.ofNat r0.free.length) -1))).bind fun _=>
 (aO r0.uses n1).bind fun n3=>
 (aO r0.uses n1).bind fun _=>
 (aO r0.used n1).bind fun _=>
 (aO (bX r0.uses n1 (aA .i64 (n3+1))) n1).bind fun n6=>
 some (aR.mk (bX r0.uses n1 (aA .i64 (n3+1))) (bX r0.used n1 true) (r0.free.take ((aA .i64 ((Int.ofNat r0.free.length) -1)).toNat)),n1,n6)
def aQF:bJ:=⟨aB.one (aK.agg fK),aK.tup (aB.cons (aK.agg fK) (aB.one (aK.agg (cI.row iE)))),fun a=>xG a,.frz,false⟩
theorem aHR:aJ aV 202 aQF:=Oc aGg rfl aG [(106,aBu),(106,SK)] ⟨JR,GA,trivial⟩ fun a=>by kernel_rfl
def nU (a:((List Int)×(List Bool)×(List Int)×Int×Int×jV×(List Int))):Option MW:=
 (aO a.2.2.2.2.2.1 a.2.2.2.2.1).bind fun a0=>
 (aO a.2.2.2.2.2.1 a.2.2.2.1).bind fun a1=>
 (aO a.2.2.2.2.2.1 a.2.2.2.1).bind fun _=>
 (aO (bX a.2.2.2.2.2.1 a.2.2.2.1 a0) a.2.2.2.2.1).bind fun _=>
 (aO (bX (bX a.2.2.2.2.2.1 a.2.2.2.1 a0) a.2.2.2.2.1 a1) a.2.2.2.1).bind fun a4=>
 (aO (bX (bX a.2.2.2.2.2.1 a.2.2.2.1 a0) a.2.2.2.2.1 a1) a.2.2.2.2.1).bind fun a5=>
 (aO a.2.2.2.2.2.2 a4.2.2.2.1).bind fun _=>
 (aO (bX a.2.2.2.2.2.2 a4.2.2.2.1 a.2.2.2.1) a5.2.2.2.1).bind fun _=>
 bif ((bX (bX a.2.2.2.2.2.1 a.2.2.2.1 a0) a.2.2.2.2.1 a1).length)==a.2.2.2.2.2.1.length then
  bif ((bX (bX a.2.2.2.2.2.2 a4.2.2.2.1 a.2.2.2.1) a5.2.2.2.1 a.2.2.2.2.1).length)==a.2.2.2.2.2.2.length then
   some (bX (bX a.2.2.2.2.2.1 a.2.2.2.1 a0) a.2.2.2.2.1 a1,bX (bX a.2.2.2.2.2.2 a4.2.2.2.1 a.2.2.2.1) a5.2.2.2.1 a.2.2.2.2.1)
  else
   none
 else
  none
def aBy:dV:=⟨[.l [.i .i64],.l [.b],.l [.i .i64],.i,.i,.l [.i .i64,.i .i64,.i .i64,.i .i64,.i .i64],.l [.i .i64]],[.agg [.sl [.i .i64] [],.sl [.b] [],.sl [.i .i64] [],.own 0 false,.own 1 false],.int .i64 0,.int .i64 0],[.arr [.i .i64,.i .i64,.i .i64,.i .i64,.i .i64] [],.arr [.i .i64] []],[.l [.i .i64,.i .i64,.i .i64,.i .i64,.i .i64],.l [.i .i64]],.tup [],[.arr [.i .i64,.i .i64,.i .i64,.i .i64,.i .i64] [],.arr [.i .i64] []],fun a=>nU a⟩
theorem ZO:kW aV 198 aBy:=kW.of O9 (wd:=false) (cx:=(pW aG [] [] [] [])) (mK.make trivial trivial trivial) (fun a=>by kernel_rfl)
abbrev aQG:=(List Int)×(List Bool)×(List Int)×Int×jV×(List Int)
abbrev aQH:=Int×jV×(List Int)×(List Int)×(List Bool)×(List Int)
def gY (c0:aQG) (s:aQH):Option (cE aQH aHJ):=
 bif decide (0<s.1) then
  (aO s.2.1 s.1).bind fun a0=>
  (aO s.2.1 (aA .i64 (Int.tdiv (aA .i64 (s.1-1)) 2))).bind fun a1=>
  (eC a0 a1).bind fun b2=>
  bif b2 then
   (nU (s.2.2.2.1,s.2.2.2.2.1,s.2.2.2.2.2,s.1,aA .i64 (Int.tdiv (aA .i64 (s.1-1)) 2),s.2.1,s.2.2.1)).bind fun a3=>
   some (.next (aA .i64 (Int.tdiv (aA .i64 (s.1-1)) 2),a3.1,a3.2,s.2.2.2))
  else
   bif s.2.1.length==c0.2.2.2.2.1.length then
    bif s.2.2.1.length==c0.2.2.2.2.2.length then
     some (.done (s.1,s.2.1,s.2.2.1))
    else
     none
   else
    none
 else
  bif s.2.1.length==c0.2.2.2.2.1.length then
   bif s.2.2.1.length==c0.2.2.2.2.2.length then
    some (.done (s.1,s.2.1,s.2.2.1))
   else
    none
  else
   none
def qN (a:aQG):Option aHJ:=
 aH (gY a) (a.2.2.2.1,a.2.2.2.2.1,a.2.2.2.2.2,a.1,a.2.1,a.2.2.1)
def aBz:dV:=⟨[.l [.i .i64],.l [.b],.l [.i .i64],.i,.l [.i .i64,.i .i64,.i .i64,.i .i64,.i .i64],.l [.i .i64]],[.agg [.sl [.i .i64] [],.sl [.b] [],.sl [.i .i64] [],.own 0 false,.own 1 false],.int .i64 0],[.arr [.i .i64,.i .i64,.i .i64,.i .i64,.i .i64] [],.arr [.i .i64] []],[.i,.l [.i .i64,.i .i64,.i .i64,.i .i64,.i .i64],.l [.i .i64]],.int .i64 0,[.arr [.i .i64,.i .i64,.i .i64,.i .i64,.i .i64] [],.arr [.i .i64] []],fun a=>qN a⟩
theorem ZP:kW aV 201 aBz:=kW.of PA (wd:=true) (cx:=(pW aG [(151,U3)] [(198,EZ),(198,E0),(198,aBy)] [] [])) (mK.make ⟨DD,trivial⟩ ⟨vA,vB,ZO,trivial⟩ trivial) (fun a=>by kernel_rfl)
def eH (p0:aI) (p1:Int×Int) (p2:Int):Option (aI×(Int×Int)):=
 (nB p0).bind fun r0=>
 (xG r0.slots).bind fun a1=>
 (bH r0.heap [(p1.1,p1.2,p2,a1.2)]).bind fun l2=>
 (aO r0.where_ a1.2.1).bind fun _=>
 (qN (a1.1.uses,a1.1.used,a1.1.free,aA .i64 ((Int.ofNat l2.length) -1),l2,bX r0.where_ a1.2.1 (aA .i64 ((Int.ofNat l2.length) -1)))).bind fun a4=>
 some (aI.mk a1.1 a4.2.1 a4.2.2,a1.2)
def aNZ:bJ:=⟨aB.cons (aK.agg cS) (aB.cons (aK.agg (cI.row iE)) (aB.one (aK.int .i64))),aK.tup (aB.cons (aK.agg cS) (aB.one (aK.agg (cI.row iE)))),fun a=>eH a.1 a.2.1 a.2.2,.frz,false⟩
theorem XY:aJ aV 170 aNZ:=aJ.of aFN (cx:=(pW aG [(58,c58),(58,ZM),(202,aQF)] [(201,PP),(201,U6),(201,aBz)] [] [])) rfl (mK.make ⟨LT,GB,aHR,trivial⟩ ⟨HW,NW,ZP,trivial⟩ trivial) (fun a=>by kernel_rfl)
end
end Go.Proofs.YticklbjcnimggaaGreat
