/- Plain functions for what the functions of the seat compute. Printed by a program. -/
import Derived.Test.YticklbjcnimggaaGreatMVm3
import Derived.Test.YticklbjcnimggaaGreatMQXT
set_option maxRecDepth 100000
namespace Go.Proofs.YticklbjcnimggaaGreat
open Go.Vm
noncomputable section
theorem Oc {f:FuncId} {x:aP} {α β:Type} {args:aC α} {res:aN β} {kd:Kd} {fn:α->Option β} {ow:Bool} (hf:aX f=some (.code x)) (ho:aCA kd ow=true) (lp:Option Nat) (l:List (Nat×bL)) (h:EU aX l) (e: ∀a,aIx (pW lp l [] [] []) x args res kd a=fn a):aM aX f ⟨args,res,fn,kd,ow⟩:=aM.of hf (cx:=pW lp l [] [] []) ho (mM.make h trivial trivial) e
abbrev eX:List PT:=[.i .i64,.i .i64,.i .i64]
abbrev ki:List PT:=[.i .i64]
abbrev kb:List PT:=[.b]
abbrev jD:List PT:=[.i .i64,.i .i64,.i .i64,.i .i64,.i .i64]
abbrev gZ:List PT:=[.i .i64,.i .i64]
abbrev CB:List PT:=[.b,.i .u64,.i .u64]
abbrev aOV:List PT:=[.i .i64,.i .i64,.i .i64,.i .i64]
abbrev kiu:List PT:=[.i .i64,.i .u64]
structure Field where
 points:List (Int×Int×Int)
def dA:bZ Field:=bZ.iso (bZ.sl eX) (fun p=>⟨p⟩) (fun c=>c.points) (fun _=>rfl)
structure aR where
 uses:List Int
 used:List Bool
 free:List Int
def gG:bZ aR:=bZ.iso (bZ.prod (bZ.sl ki) (bZ.prod (bZ.sl kb) (bZ.sl ki))) (fun p=>⟨p.1,p.2.1,p.2.2⟩) (fun c=>(c.uses,c.used,c.free)) (fun _=>rfl)
structure aH where
 slots:aR
 heap:List (Int×Int×Int×Int×Int)
 where_:List Int
def cU:bZ aH:=bZ.iso (bZ.prod gG (bZ.prod (bZ.sl jD) (bZ.sl ki))) (fun p=>⟨p.1,p.2.1,p.2.2⟩) (fun c=>(c.slots,c.heap,c.where_)) (fun _=>rfl)
structure aT where
 next_:Int
 list:List (Int×Int×Int)
def gH:bZ aT:=bZ.iso (bZ.prod (bZ.int .i64) (bZ.sl eX)) (fun p=>⟨p.1,p.2⟩) (fun c=>(c.next_,c.list)) (fun _=>rfl)
structure aJ where
 now:Int×Int
 field:Field
 certs:aT
 agenda:aH
 due:List (Int×Int×Int)
def bJ:bZ aJ:=bZ.iso (bZ.prod (bZ.row gZ) (bZ.prod dA (bZ.prod gH (bZ.prod cU (bZ.sl eX))))) (fun p=>⟨p.1,p.2.1,p.2.2.1,p.2.2.2.1,p.2.2.2.2⟩) (fun c=>(c.now,c.field,c.certs,c.agenda,c.due)) (fun _=>rfl)
structure mW where
 root:Int
 nodes:List (Int×Int×Int)
def qD:bZ mW:=bZ.iso (bZ.prod (bZ.int .i64) (bZ.sl eX)) (fun p=>⟨p.1,p.2⟩) (fun c=>(c.root,c.nodes)) (fun _=>rfl)
structure cE where
 clock:aJ
 tree:mW
def eZ:bZ cE:=bZ.iso (bZ.prod bJ qD) (fun p=>⟨p.1,p.2⟩) (fun c=>(c.clock,c.tree)) (fun _=>rfl)
def tH (p0:Field):Option Bool:=
 bif decide (16<(Int.ofNat p0.points.length)) then
  bif decide ((Int.ofNat p0.points.length)<64) then
   some true
  else
   some (decide (70<(Int.ofNat p0.points.length)))
 else
  some (decide (70<(Int.ofNat p0.points.length)))
def c15:bL:=⟨aC.one (aN.agg dA),aN.bool,fun a=>tH a,.pure,false⟩
theorem aM2:aM aX 15 c15:=Oc aL5 rfl aG [] trivial fun a=>by kernel_rfl
def CC (p0:aR):Option Bool:=
 bif decide (210<(Int.ofNat p0.uses.length)) then
  some true
 else
  bif decide (210<(Int.ofNat p0.used.length)) then
   some true
  else
   some (decide (210<(Int.ofNat p0.free.length)))
def aOW:bL:=⟨aC.one (aN.agg gG),aN.bool,fun a=>CC a,.pure,false⟩
theorem aGu:aM aX 105 aOW:=Oc aEK rfl aG [] trivial fun a=>by kernel_rfl
def CD (p0:aH):Option Bool:=
 (CC p0.slots).bind fun b0=>
 bif b0 then
  some true
 else
  bif decide (210<(Int.ofNat p0.heap.length)) then
   some true
  else
   some (decide (210<(Int.ofNat p0.where_.length)))
def c55:bL:=⟨aC.one (aN.agg cU),aN.bool,fun a=>CD a,.pure,false⟩
theorem aM3:aM aX 55 c55:=Oc aMu rfl aG [(105,aOW)] ⟨aGu,trivial⟩ fun a=>by kernel_rfl
def tI (p0:aJ):Option Bool:=
 bif decide (40<(Int.ofNat p0.certs.list.length)) then
  some true
 else
  bif decide (40<(Int.ofNat p0.due.length)) then
   some true
  else
   (tH p0.field).bind fun b0=>
   bif b0 then
    some true
   else
    (CD p0.agenda).bind fun b1=>
    some b1
def c24:bL:=⟨aC.one (aN.agg bJ),aN.bool,fun a=>tI a,.pure,false⟩
theorem aM4:aM aX 24 c24:=Oc aL8 rfl aG [(15,c15),(55,c55)] ⟨aM2,aM3,trivial⟩ fun a=>by kernel_rfl
def CE (p0:mW):Option Bool:=
 some (decide (70<(Int.ofNat p0.nodes.length)))
def c25:bL:=⟨aC.one (aN.agg qD),aN.bool,fun a=>CE a,.pure,false⟩
theorem aM5:aM aX 25 c25:=Oc aL9 rfl aG [] trivial fun a=>by kernel_rfl
def tJ (p0:cE):Option Bool:=
 (tI p0.clock).bind fun b0=>
 bif b0 then
  some true
 else
  (CE p0.tree).bind fun b1=>
  some b1
def c6:bL:=⟨aC.one (aN.agg eZ),aN.bool,fun a=>tJ a,.pure,false⟩
theorem aOX:aM aX 6 c6:=Oc aOU rfl aG [(24,c24),(25,c25)] ⟨aM4,aM5,trivial⟩ fun a=>by kernel_rfl
def EW (p0:Field):Option Bool:=
 some (decide (10<(Int.ofNat p0.points.length)))
def c11:bL:=⟨aC.one (aN.agg dA),aN.bool,fun a=>EW a,.pure,false⟩
theorem aM6:aM aX 11 c11:=Oc aL1 rfl aG [] trivial fun a=>by kernel_rfl
def oY (p0:Field):Option Field:=
 (cB p0.points).bind fun l0=>
 some (Field.mk l0)
def c56:bL:=⟨aC.one (aN.agg dA),aN.agg dA,fun a=>oY a,.own,true⟩
def aGv:bL:=⟨aC.one (aN.agg dA),aN.agg dA,fun a=>oY a,.frz,false⟩
theorem UI:aM aX 56 c56:=Oc aA0 rfl aG [] trivial fun a=>by kernel_rfl
theorem PD:aM aX 56 aGv:=Oc aA0 rfl aG [] trivial fun a=>by kernel_rfl
def oZ (p0:aT):Option aT:=
 (cB p0.list).bind fun l0=>
 some (aT.mk p0.next_ l0)
def c57:bL:=⟨aC.one (aN.agg gH),aN.agg gH,fun a=>oZ a,.own,true⟩
def aGw:bL:=⟨aC.one (aN.agg gH),aN.agg gH,fun a=>oZ a,.frz,false⟩
theorem UJ:aM aX 57 c57:=Oc aA1 rfl aG [] trivial fun a=>by kernel_rfl
theorem PE:aM aX 57 aGw:=Oc aA1 rfl aG [] trivial fun a=>by kernel_rfl
def mX (p0:aR):Option aR:=
 (cB p0.uses).bind fun l0=>
 (cB p0.used).bind fun l1=>
 (cB p0.free).bind fun l2=>
 some (aR.mk l0 l1 l2)
def aA4:bL:=⟨aC.one (aN.agg gG),aN.agg gG,fun a=>mX a,.own,true⟩
def RW:bL:=⟨aC.one (aN.agg gG),aN.agg gG,fun a=>mX a,.frz,false⟩
theorem JO:aM aX 106 aA4:=Oc WV rfl aG [] trivial fun a=>by kernel_rfl
theorem F7:aM aX 106 RW:=Oc WV rfl aG [] trivial fun a=>by kernel_rfl
def lP (p0:aH):Option aH:=
 (mX p0.slots).bind fun r0=>
 (cB p0.heap).bind fun l1=>
 (cB p0.where_).bind fun l2=>
 some (aH.mk r0 l1 l2)
def c58:bL:=⟨aC.one (aN.agg cU),aN.agg cU,fun a=>lP a,.own,true⟩
def Y8:bL:=⟨aC.one (aN.agg cU),aN.agg cU,fun a=>lP a,.frz,false⟩
theorem LN:aM aX 58 c58:=Oc aA2 rfl aG [(106,aA4),(106,RW)] ⟨JO,F7,trivial⟩ fun a=>by kernel_rfl
theorem F8:aM aX 58 Y8:=Oc aA2 rfl aG [(106,aA4),(106,RW)] ⟨JO,F7,trivial⟩ fun a=>by kernel_rfl
def hZ (p0:aJ):Option aJ:=
 (oY p0.field).bind fun r0=>
 (oZ p0.certs).bind fun r1=>
 (lP p0.agenda).bind fun r2=>
 (cB p0.due).bind fun l3=>
 some (aJ.mk p0.now r0 r1 r2 l3)
def c26:bL:=⟨aC.one (aN.agg bJ),aN.agg bJ,fun a=>hZ a,.own,true⟩
def RX:bL:=⟨aC.one (aN.agg bJ),aN.agg bJ,fun a=>hZ a,.frz,false⟩
theorem EX:aM aX 26 c26:=Oc aAY rfl aG [(56,c56),(56,aGv),(57,c57),(57,aGw),(58,c58),(58,Y8)] ⟨UI,PD,UJ,PE,LN,F8,trivial⟩ fun a=>by kernel_rfl
theorem AG:aM aX 26 RX:=Oc aAY rfl aG [(56,c56),(56,aGv),(57,c57),(57,aGw),(58,c58),(58,Y8)] ⟨UI,PD,UJ,PE,LN,F8,trivial⟩ fun a=>by kernel_rfl
def AH (p0:mW):Option mW:=
 (cB p0.nodes).bind fun l0=>
 some (mW.mk p0.root l0)
def c27:bL:=⟨aC.one (aN.agg qD),aN.agg qD,fun a=>AH a,.own,true⟩
def aM7:bL:=⟨aC.one (aN.agg qD),aN.agg qD,fun a=>AH a,.frz,false⟩
theorem aA5:aM aX 27 c27:=Oc aAZ rfl aG [] trivial fun a=>by kernel_rfl
theorem W4:aM aX 27 aM7:=Oc aAZ rfl aG [] trivial fun a=>by kernel_rfl
def pA (p0:cE):Option cE:=
 (hZ p0.clock).bind fun r0=>
 (AH p0.tree).bind fun r1=>
 some (cE.mk r0 r1)
def c7:bL:=⟨aC.one (aN.agg eZ),aN.agg eZ,fun a=>pA a,.own,true⟩
def c7p:bL:=⟨aC.one (aN.agg eZ),aN.agg eZ,fun a=>pA a,.frz,false⟩
theorem aIF:aM aX 7 c7:=Oc aID rfl aG [(26,c26),(26,RX),(27,c27),(27,aM7)] ⟨EX,AG,aA5,W4,trivial⟩ fun a=>by kernel_rfl
theorem aA6:aM aX 7 c7p:=Oc aID rfl aG [(26,c26),(26,RX),(27,c27),(27,aM7)] ⟨EX,AG,aA5,W4,trivial⟩ fun a=>by kernel_rfl
def mG (p0:Int):Option Int:=
 bif decide (p0<0) then
  some (aA .u64 (0- (aA .u64 p0)))
 else
  some (aA .u64 p0)
def c72:bL:=⟨aC.one (aN.int .i64),aN.int .u64,fun a=>mG a,.pure,false⟩
theorem UK:aM aX 72 c72:=Oc aMF rfl aG [] trivial fun a=>by kernel_rfl
def uO (s:(Int×Int)):Option (cL (Int×Int) Int):=
 bif decide (0<s.2) then
  bif s.2==0 then
   none
  else
   some (.next (s.2,Int.tmod s.1 s.2))
 else
  some (.done s.1)
def yW (p0:Int) (p1:Int):Option Int:=
 aI uO (p0,p1)
def c71:bL:=⟨aC.cons (aN.int .u64) (aC.one (aN.int .u64)),aN.int .u64,fun a=>yW a.1 a.2,.pure,false⟩
theorem aA7:aM aX 71 c71:=Oc aME rfl aG [] trivial fun a=>by kernel_rfl
def fI (p0:Int×Int):Option Int:=
 bif decide (p0.2<1) then
  some 8
 else
  bif p0.1==(-9223372036854775808) then
   some 8
  else
   (mG p0.1).bind fun n0=>
   (yW (aA .u64 p0.2) n0).bind fun n1=>
   bif decide (1<n1) then
    some 8
   else
    some 0
def c35:bL:=⟨aC.one (aN.agg (bZ.row gZ)),aN.int .i64,fun a=>fI a,.pure,false⟩
theorem AI:aM aX 35 c35:=Oc aMd rfl aG [(72,c72),(71,c71)] ⟨UK,aA7,trivial⟩ fun a=>by kernel_rfl
def qE (p0:Int):Option Bool:=
 bif decide (p0<(-1048576)) then
  some true
 else
  some (decide (1048576<p0))
def aOY:bL:=⟨aC.one (aN.int .i64),aN.bool,fun a=>qE a,.pure,false⟩
theorem aGx:aM aX 181 aOY:=Oc aFR rfl aG [] trivial fun a=>by kernel_rfl
def nN (p0:Int×Int×Int):Option Int:=
 bif decide (p0.1<0) then
  some 8
 else
  bif decide (65535<p0.1) then
   some 8
  else
   (qE p0.2.1).bind fun b0=>
   bif b0 then
    some 8
   else
    (qE p0.2.2).bind fun b1=>
    bif b1 then
     some 8
    else
     some 0
def aM8:bL:=⟨aC.one (aN.agg (bZ.row eX)),aN.int .i64,fun a=>nN a,.pure,false⟩
theorem W5:aM aX 136 aM8:=Oc aFd rfl aG [(181,aOY)] ⟨aGx,trivial⟩ fun a=>by kernel_rfl
abbrev bO:=List (Int×Int×Int)
abbrev aA8:=bO×Int×Int×bO
def iN (s:aA8):Option (cL aA8 (cL aA8 Int)):=
 bif decide (s.2.2.1<s.2.1) then
  (aQ s.1 s.2.2.1).bind fun a0=>
  bif decide (0<s.2.2.1) then
   (aQ s.2.2.2 (aA .i64 (s.2.2.1-1))).bind fun a1=>
   bif decide (a0.1<=a1.1) then
    some (.done (.done 32))
   else
    some (.next (s.1,s.2.1,aA .i64 (s.2.2.1+1),s.2.2.2))
  else
   some (.next (s.1,s.2.1,aA .i64 (s.2.2.1+1),s.2.2.2))
 else
  some (.done (.done 0))
def mY (s:aA8):Option (cL aA8 Int):=
 bif decide (s.2.2.1<s.2.1) then
  (aQ s.1 s.2.2.1).bind fun a0=>
  (nN a0).bind fun n1=>
  bif n1 !=0 then
   some (.done n1)
  else
   some (.next (s.1,s.2.1,aA .i64 (s.2.2.1+1),s.2.2.2))
 else
  aI iN (s.2.2.2,Int.ofNat s.2.2.2.length,0,s.2.2.2)
def gE (p0:Field):Option Int:=
 bif decide (64<(Int.ofNat p0.points.length)) then
  some 4
 else
  aI mY (p0.points,Int.ofNat p0.points.length,0,p0.points)
def c84:bL:=⟨aC.one (aN.agg dA),aN.int .i64,fun a=>gE a,.pure,false⟩
theorem LO:aM aX 84 c84:=Oc aMQ rfl aG [(136,aM8)] ⟨W5,trivial⟩ fun a=>by kernel_rfl
def vN (p0:Int×Int):Option Bool:=
 bif decide (0<=(if p0.2<p0.1 then p0.2 else p0.1)) then
  bif decide ((if p0.2>p0.1 then p0.2 else p0.1)<=65535) then
   some (p0.1 !=p0.2)
  else
   some false
 else
  some false
def aM9:bL:=⟨aC.one (aN.agg (bZ.row gZ)),aN.bool,fun a=>vN a,.pure,false⟩
theorem W6:aM aX 141 aM9:=Oc aFf rfl aG [] trivial fun a=>by kernel_rfl
abbrev aOZ:=Int×bO×Int×Int×Int×bO×(List (List Int))
def sF (s:aOZ):Option (cL aOZ Int):=
 bif decide (s.2.2.2.1<s.2.2.1) then
  (aQ s.2.1 s.2.2.2.1).bind fun a0=>
  (vN a0.2).bind fun b1=>
  bif !b1 then
   some (.done 8)
  else
   (Q3 s.2.2.2.2.2.2 [a0.2.1,a0.2.2]).bind fun b2=>
   bif b2 then
    some (.done 8)
   else
    bif decide (a0.1<=s.1) then
     some (.done 8)
    else
     bif decide (s.2.2.2.2.1<=a0.1) then
      some (.done 8)
     else
      (Q4 s.2.2.2.2.2.2 [a0.2.1,a0.2.2]).bind fun l3=>
      some (.next (a0.1,s.2.1,s.2.2.1,aA .i64 (s.2.2.2.1+1),s.2.2.2.2.1,s.2.2.2.2.2.1,l3))
 else
  some (.done 0)
def rL (p0:aT):Option Int:=
 bif decide (200<(Int.ofNat p0.list.length)) then
  some 8
 else
  bif decide (p0.next_<0) then
   some 8
  else
   bif decide (1000000<p0.next_) then
    some 8
   else
    aI sF (-1,p0.list,Int.ofNat p0.list.length,0,p0.next_,p0.list,[])
def c91:bL:=⟨aC.one (aN.agg gH),aN.int .i64,fun a=>rL a,.pure,false⟩
theorem UL:aM aX 91 c91:=Oc aMU rfl aG [(141,aM9)] ⟨W6,trivial⟩ fun a=>by kernel_rfl
theorem vO:aM aX 131 (bL.clone kb):=aM.clone aE8 rfl
def gS (s:((List Bool)×Bool×Int×Int)):Option (cL ((List Bool)×Bool×Int×Int) Int):=
 bif decide (s.2.2.2<s.2.2.1) then
  (aQ s.1 s.2.2.2).bind fun b0=>
  bif s.2.1==b0 then
   some (.done s.2.2.2)
  else
   some (.next (s.1,s.2.1,s.2.2.1,aA .i64 (s.2.2.2+1)))
 else
  some (.done (-1))
def qF (p0:List Bool) (p1:Bool):Option Int:=
 aI gS (p0,p1,Int.ofNat p0.length,0)
def aO0:bL:=⟨aC.cons (aN.sl kb) (aC.one aN.bool),aN.int .i64,fun a=>qF a.1 a.2,.pure,false⟩
theorem aGy:aM aX 212 aO0:=Oc aGf rfl aG [] trivial fun a=>by kernel_rfl
def dY (p0:List Bool) (p1:Bool):Option Bool:=
 (qF p0 p1).bind fun n0=>
 some (decide (0<=n0))
def aO1:bL:=⟨aC.cons (aN.sl kb) (aC.one aN.bool),aN.bool,fun a=>dY a.1 a.2,.pure,false⟩
theorem aGz:aM aX 186 aO1:=Oc aFV rfl aG [(212,aO0)] ⟨aGy,trivial⟩ fun a=>by kernel_rfl
abbrev aO2:=(List Int)×Int×Int×(List Int)×(List Bool)×(List Int)×Int×(List Bool)
abbrev aO3:=cL aO2 Int
def gO (s:((List Int)×Int×Int×(List Int)×(List Bool)×(List Int))):Option (cL ((List Int)×Int×Int×(List Int)×(List Bool)×(List Int)) aO3):=
 bif decide (s.2.2.1<s.2.1) then
  (aQ s.1 s.2.2.1).bind fun n0=>
  bif decide (n0<0) then
   some (.done (.done 8))
  else
   bif decide (1000000<n0) then
    some (.done (.done 8))
   else
    bif n0==0 then
     (aQ s.2.2.2.2.1 s.2.2.1).bind fun b1=>
     bif b1 then
      some (.done (.done 8))
     else
      some (.next (s.1,s.2.1,aA .i64 (s.2.2.1+1),s.2.2.2))
    else
     some (.next (s.1,s.2.1,aA .i64 (s.2.2.1+1),s.2.2.2))
 else
  some (.done (.done 0))
def sG (c0:(List Bool)) (s:aO2):Option aO3:=
 bif decide (s.2.2.1<s.2.1) then
  (aQ s.1 s.2.2.1).bind fun n0=>
  bif decide (n0<0) then
   bif s.2.2.2.2.2.2.2.length==s.2.2.2.2.2.2.2.length then
    bif s.2.2.2.2.2.2.2.length==c0.length then
     bif s.2.2.2.2.2.2.2.length==c0.length then
      bif decide (0<=s.2.2.1) then
       some (.done 8)
      else
       (dY s.2.2.2.2.2.2.2 false).bind fun b1=>
       bif b1 then
        some (.done 8)
       else
        aI gO (s.2.2.2.1,Int.ofNat s.2.2.2.1.length,0,s.2.2.2.1,s.2.2.2.2.1,s.2.2.2.2.2.1)
     else
      none
    else
     none
   else
    none
  else
   bif decide (s.2.2.2.2.2.2.1<=n0) then
    bif s.2.2.2.2.2.2.2.length==s.2.2.2.2.2.2.2.length then
     bif s.2.2.2.2.2.2.2.length==c0.length then
      bif s.2.2.2.2.2.2.2.length==c0.length then
       bif decide (0<=s.2.2.1) then
        some (.done 8)
       else
        (dY s.2.2.2.2.2.2.2 false).bind fun b2=>
        bif b2 then
         some (.done 8)
        else
         aI gO (s.2.2.2.1,Int.ofNat s.2.2.2.1.length,0,s.2.2.2.1,s.2.2.2.2.1,s.2.2.2.2.2.1)
      else
       none
     else
      none
    else
     none
   else
    (aQ s.2.2.2.2.2.2.2 n0).bind fun b3=>
    bif b3 then
     bif s.2.2.2.2.2.2.2.length==s.2.2.2.2.2.2.2.length then
      bif s.2.2.2.2.2.2.2.length==c0.length then
       bif s.2.2.2.2.2.2.2.length==c0.length then
        bif decide (0<=s.2.2.1) then
         some (.done 8)
        else
         (dY s.2.2.2.2.2.2.2 false).bind fun b4=>
         bif b4 then
          some (.done 8)
         else
          aI gO (s.2.2.2.1,Int.ofNat s.2.2.2.1.length,0,s.2.2.2.1,s.2.2.2.2.1,s.2.2.2.2.2.1)
       else
        none
      else
       none
     else
      none
    else
     (aQ s.2.2.2.2.2.2.2 n0).bind fun _=>
     bif ((bY s.2.2.2.2.2.2.2 n0 true).length)==s.2.2.2.2.2.2.2.length then
      some (.next (s.1,s.2.1,aA .i64 (s.2.2.1+1),s.2.2.2.1,s.2.2.2.2.1,s.2.2.2.2.2.1,s.2.2.2.2.2.2.1,bY s.2.2.2.2.2.2.2 n0 true))
     else
      none
 else
  bif s.2.2.2.2.2.2.2.length==c0.length then
   bif s.2.2.2.2.2.2.2.length==c0.length then
    (dY s.2.2.2.2.2.2.2 false).bind fun b6=>
    bif b6 then
     some (.done 8)
    else
     aI gO (s.2.2.2.1,Int.ofNat s.2.2.2.1.length,0,s.2.2.2.1,s.2.2.2.2.1,s.2.2.2.2.2.1)
   else
    none
  else
   none
def rM (p0:aR):Option Int:=
 bif decide ((Int.ofNat p0.uses.length)<1) then
  some 8
 else
  bif decide (200<(Int.ofNat p0.uses.length)) then
   some 8
  else
   bif (Int.ofNat p0.used.length) !=(Int.ofNat p0.uses.length) then
    some 8
   else
    (cB p0.used).bind fun l0=>
    aI (sG l0) (p0.free,Int.ofNat p0.free.length,0,p0.uses,p0.used,p0.free,Int.ofNat p0.uses.length,l0)
def aGA:bL:=⟨aC.one (aN.agg gG),aN.int .i64,fun a=>rM a,.pure,false⟩
theorem PF:aM aX 142 aGA:=aM.of aFg (cx:=(pW aG [(131,bL.clone kb),(186,aO1)] [] [(184,aDP),(211,aEh),(185,aDR)] [])) rfl (mM.make ⟨vO,aGz,trivial⟩ trivial ⟨aFT,aGe,aFU,trivial⟩) (fun a=>by kernel_rfl)
def AJ (p0:Int×Int) (p1:Int×Int):Option Int:=
 (fI p0).bind fun n0=>
 (fI p1).bind fun n1=>
 some (if n1>n0 then n1 else n0)
def c73:bL:=⟨aC.cons (aN.agg (bZ.row gZ)) (aC.one (aN.agg (bZ.row gZ))),aN.int .i64,fun a=>AJ a.1 a.2,.pure,false⟩
theorem aNa:aM aX 73 c73:=Oc aMG rfl aG [(35,c35)] ⟨AI,trivial⟩ fun a=>by kernel_rfl
def oP (p0:Int):Option Bool:=
 some (p0 !=p0)
def aO4:bL:=⟨aC.one (aN.int .i64),aN.bool,fun a=>oP a,.pure,false⟩
theorem aGB:aM aX 119 aO4:=Oc aEW rfl aG [] trivial fun a=>by kernel_rfl
def jL (p0:Int) (p1:Int):Option Int:=
 (oP p0).bind fun b0=>
 (oP p1).bind fun b1=>
 bif b0 then
  bif b1 then
   some 0
  else
   some (-1)
 else
  bif b1 then
   some 1
  else
   bif decide (p0<p1) then
    some (-1)
   else
    bif decide (p1<p0) then
     some 1
    else
     some 0
def c74:bL:=⟨aC.cons (aN.int .i64) (aC.one (aN.int .i64)),aN.int .i64,fun a=>jL a.1 a.2,.pure,false⟩
theorem aA9:aM aX 74 c74:=Oc aMH rfl aG [(119,aO4)] ⟨aGB,trivial⟩ fun a=>by kernel_rfl
def jF (p0:Int) (p1:Int):Option (Int×Int):=
 some (aA .u64 ((aA .u64 ((aA .u64 ((tE .u64 p0 32)*(tE .u64 p1 32)))+(tE .u64 (aA .u64 ((aA .u64 ((tE .u64 p0 32)*(I9 .u64 p1 4294967295)))+(tE .u64 (aA .u64 ((I9 .u64 p0 4294967295)*(I9 .u64 p1 4294967295))) 32))) 32)))+(tE .u64 (aA .u64 ((I9 .u64 (aA .u64 ((aA .u64 ((tE .u64 p0 32)*(I9 .u64 p1 4294967295)))+(tE .u64 (aA .u64 ((I9 .u64 p0 4294967295)*(I9 .u64 p1 4294967295))) 32))) 4294967295)+(aA .u64 ((I9 .u64 p0 4294967295)*(tE .u64 p1 32))))) 32)),aA .u64 (p0*p1))
def aNb:bL:=⟨aC.cons (aN.int .u64) (aC.one (aN.int .u64)),aN.tup (aC.cons (aN.int .u64) (aC.one (aN.int .u64))),fun a=>jF a.1 a.2,.pure,false⟩
theorem W7:aM aX 121 aNb:=Oc aEY rfl aG [] trivial fun a=>by kernel_rfl
def tK (p0:Int) (p1:Int):Option (Bool×Int×Int):=
 (mG p0).bind fun n0=>
 (mG p1).bind fun n1=>
 (jF n0 n1).bind fun a2=>
 some (!((decide (p0<0))==(decide (p1<0))),a2)
def c76:bL:=⟨aC.cons (aN.int .i64) (aC.one (aN.int .i64)),aN.agg (bZ.row CB),fun a=>tK a.1 a.2,.pure,false⟩
theorem aNc:aM aX 76 c76:=Oc aMJ rfl aG [(72,c72),(121,aNb)] ⟨UK,W7,trivial⟩ fun a=>by kernel_rfl
def nO (p0:Int):Option Bool:=
 some (p0 !=p0)
def aO5:bL:=⟨aC.one (aN.int .u64),aN.bool,fun a=>nO a,.pure,false⟩
theorem aGC:aM aX 173 aO5:=Oc aFJ rfl aG [] trivial fun a=>by kernel_rfl
def iO (p0:Int) (p1:Int):Option Int:=
 (nO p0).bind fun b0=>
 (nO p1).bind fun b1=>
 bif b0 then
  bif b1 then
   some 0
  else
   some (-1)
 else
  bif b1 then
   some 1
  else
   bif decide (p0<p1) then
    some (-1)
   else
    bif decide (p1<p0) then
     some 1
    else
     some 0
def aO6:bL:=⟨aC.cons (aN.int .u64) (aC.one (aN.int .u64)),aN.int .i64,fun a=>iO a.1 a.2,.pure,false⟩
theorem aGD:aM aX 120 aO6:=Oc aEX rfl aG [(173,aO5)] ⟨aGC,trivial⟩ fun a=>by kernel_rfl
def sH (p0:Bool×Int×Int) (p1:Bool×Int×Int):Option Int:=
 (iO p0.2.1 p1.2.1).bind fun n0=>
 bif n0 !=0 then
  some n0
 else
  (iO p0.2.2 p1.2.2).bind fun n1=>
  some n1
def c75:bL:=⟨aC.cons (aN.agg (bZ.row CB)) (aC.one (aN.agg (bZ.row CB))),aN.int .i64,fun a=>sH a.1 a.2,.pure,false⟩
theorem aNd:aM aX 75 c75:=Oc aMI rfl aG [(120,aO6)] ⟨aGD,trivial⟩ fun a=>by kernel_rfl
def rN (p0:Int×Int) (p1:Int×Int):Option (Int×Int):=
 (AJ p0 p1).bind fun n0=>
 bif n0 !=0 then
  some (0,n0)
 else
  bif !((decide (p0.1<0))==(decide (p1.1<0))) then
   (jL p0.1 p1.1).bind fun n1=>
   some (n1,0)
  else
   (tK p0.1 p1.2).bind fun a2=>
   (tK p1.1 p0.2).bind fun a3=>
   (sH a2 a3).bind fun n4=>
   bif decide (p0.1<0) then
    some (aA .i64 (0-n4),0)
   else
    some (n4,0)
def c36:bL:=⟨aC.cons (aN.agg (bZ.row gZ)) (aC.one (aN.agg (bZ.row gZ))),aN.tup (aC.cons (aN.int .i64) (aC.one (aN.int .i64))),fun a=>rN a.1 a.2,.pure,false⟩
theorem UM:aM aX 36 c36:=Oc aMe rfl aG [(73,c73),(74,c74),(76,c76),(75,c75)] ⟨aNa,aA9,aNc,aNd,trivial⟩ fun a=>by kernel_rfl
def sI (p0:Int):Option Bool:=
 some (p0 !=p0)
def aO7:bL:=⟨aC.one (aN.int .i64),aN.bool,fun a=>sI a,.pure,false⟩
theorem aGE:aM aX 197 aO7:=Oc aF6 rfl aG [] trivial fun a=>by kernel_rfl
def fE (p0:Int) (p1:Int):Option Int:=
 (sI p0).bind fun b0=>
 (sI p1).bind fun b1=>
 bif b0 then
  bif b1 then
   some 0
  else
   some (-1)
 else
  bif b1 then
   some 1
  else
   bif decide (p0<p1) then
    some (-1)
   else
    bif decide (p1<p0) then
     some 1
    else
     some 0
def UN:bL:=⟨aC.cons (aN.int .i64) (aC.one (aN.int .i64)),aN.int .i64,fun a=>fE a.1 a.2,.pure,false⟩
theorem C7:aM aX 164 UN:=Oc aFA rfl aG [(197,aO7)] ⟨aGE,trivial⟩ fun a=>by kernel_rfl
def xU (s:(Int×(List Int)×Int×Int)):Option (cL (Int×(List Int)×Int×Int) Int):=
 bif decide (s.2.2.2<s.2.2.1) then
  (aQ s.2.1 s.2.2.2).bind fun n0=>
  bif n0 !=s.1 then
   some (.done n0)
  else
   some (.next (s.1,s.2.1,s.2.2.1,aA .i64 (s.2.2.2+1)))
 else
  some (.done s.1)
def vP (p0:List Int):Option Int:=
 aI xU (0,p0,Int.ofNat p0.length,0)
def aNe:bL:=⟨aC.one (aN.sl ki),aN.int .i64,fun a=>vP a,.pure,false⟩
theorem W8:aM aX 187 aNe:=Oc aFW rfl aG [] trivial fun a=>by kernel_rfl
def cC (p0:Int×Int×Int×Int×Int) (p1:Int×Int×Int×Int×Int):Option Int:=
 (rN (p0.1,p0.2.1) (p1.1,p1.2.1)).bind fun a0=>
 (fE p0.2.2.1 p1.2.2.1).bind fun n1=>
 (vP [a0.1,n1]).bind fun n2=>
 some n2
def aGF:bL:=⟨aC.cons (aN.agg (bZ.row jD)) (aC.one (aN.agg (bZ.row jD))),aN.int .i64,fun a=>cC a.1 a.2,.pure,false⟩
theorem PG:aM aX 143 aGF:=Oc aFh rfl aG [(36,c36),(164,UN),(187,aNe)] ⟨UM,C7,W8,trivial⟩ fun a=>by kernel_rfl
abbrev jM:=List (Int×Int×Int×Int×Int)
abbrev aO8:=jM×Int×Int×(List Int)×(List Bool)×(List Int)×jM×(List Int)×(List (List Int))
abbrev aO9:=(List Int)×Int×Int×(List Int)×(List Bool)×(List Int)×jM×(List Int)
abbrev aPa:=cL aO9 Int
def jG (s:aO8):Option (cL aO8 aPa):=
 bif decide (s.2.2.1<s.2.1) then
  (aQ s.1 s.2.2.1).bind fun a0=>
  (fI (a0.1,a0.2.1)).bind fun n1=>
  bif n1 !=0 then
   some (.done (.done 8))
  else
   bif decide (a0.2.2.1<0) then
    some (.done (.done 8))
   else
    bif decide (1000000<a0.2.2.1) then
     some (.done (.done 8))
    else
     (Q3 s.2.2.2.2.2.2.2.2 [a0.2.2.1]).bind fun b2=>
     bif b2 then
      some (.done (.done 8))
     else
      (Q4 s.2.2.2.2.2.2.2.2 [a0.2.2.1]).bind fun l3=>
      bif decide (0<s.2.2.1) then
       (aQ s.2.2.2.2.2.2.1 (aA .i64 (Int.tdiv (aA .i64 (s.2.2.1-1)) 2))).bind fun a4=>
       (cC a0 a4).bind fun n5=>
       bif decide (n5<0) then
        some (.done (.done 8))
       else
        some (.next (s.1,s.2.1,aA .i64 (s.2.2.1+1),s.2.2.2.1,s.2.2.2.2.1,s.2.2.2.2.2.1,s.2.2.2.2.2.2.1,s.2.2.2.2.2.2.2.1,l3))
      else
       some (.next (s.1,s.2.1,aA .i64 (s.2.2.1+1),s.2.2.2.1,s.2.2.2.2.1,s.2.2.2.2.2.1,s.2.2.2.2.2.2.1,s.2.2.2.2.2.2.2.1,l3))
 else
  some (.done (.done 0))
def mC (s:aO9):Option aPa:=
 bif decide (s.2.2.1<s.2.1) then
  (aQ s.1 s.2.2.1).bind fun n0=>
  (aQ s.2.2.2.2.1 s.2.2.1).bind fun b1=>
  bif !b1 then
   bif n0 !=(-1) then
    some (.done 8)
   else
    some (.next (s.1,s.2.1,aA .i64 (s.2.2.1+1),s.2.2.2))
  else
   bif decide (n0<0) then
    some (.done 8)
   else
    bif decide ((Int.ofNat s.2.2.2.2.2.2.1.length)<=n0) then
     some (.done 8)
    else
     (aQ s.2.2.2.2.2.2.1 n0).bind fun a2=>
     (aQ s.2.2.2.1 s.2.2.1).bind fun n3=>
     bif !((a2.2.2.2.1==s.2.2.1)&&(a2.2.2.2.2==n3)) then
      some (.done 8)
     else
      some (.next (s.1,s.2.1,aA .i64 (s.2.2.1+1),s.2.2.2))
 else
  aI jG (s.2.2.2.2.2.2.1,Int.ofNat s.2.2.2.2.2.2.1.length,0,s.2.2.2.1,s.2.2.2.2.1,s.2.2.2.2.2.1,s.2.2.2.2.2.2.1,s.2.2.2.2.2.2.2,[])
def jN (p0:aH):Option Int:=
 (rM p0.slots).bind fun n0=>
 bif n0 !=0 then
  some 8
 else
  bif (Int.ofNat p0.where_.length) !=(Int.ofNat p0.slots.used.length) then
   some 8
  else
   bif (Int.ofNat p0.heap.length) !=(aA .i64 ((Int.ofNat p0.slots.used.length) - (Int.ofNat p0.slots.free.length))) then
    some 8
   else
    aI mC (p0.where_,Int.ofNat p0.where_.length,0,p0.slots.uses,p0.slots.used,p0.slots.free,p0.heap,p0.where_)
def c92:bL:=⟨aC.one (aN.agg cU),aN.int .i64,fun a=>jN a,.pure,false⟩
theorem LP:aM aX 92 c92:=Oc aMV rfl aG [(142,aGA),(35,c35),(143,aGF)] ⟨PF,AI,PG,trivial⟩ fun a=>by kernel_rfl
def xV (p0:Int×Int×Int) (p1:Int):Option Int:=
 (fE p0.1 p1).bind fun n0=>
 some n0
def aPb:bL:=⟨aC.cons (aN.agg (bZ.row eX)) (aC.one (aN.int .i64)),aN.int .i64,fun a=>xV a.1 a.2,.pure,false⟩
theorem aGG:aM aX 189 aPb:=Oc aFY rfl aG [(164,UN)] ⟨C7,trivial⟩ fun a=>by kernel_rfl
abbrev PH:=bO×Int×Int×Int×Int
abbrev aGH:=cL PH (Int×Bool)
def iK (s:PH):Option aGH:=
 bif decide (s.2.2.2.1<s.2.2.2.2) then
  (aQ s.1 (aA .i64 (tE .u64 (aA .u64 (aA .i64 (s.2.2.2.1+s.2.2.2.2))) 1))).bind fun a0=>
  (xV a0 s.2.1).bind fun n1=>
  bif decide (n1<0) then
   some (.next (s.1,s.2.1,s.2.2.1,aA .i64 ((aA .i64 (tE .u64 (aA .u64 (aA .i64 (s.2.2.2.1+s.2.2.2.2))) 1))+1),s.2.2.2.2))
  else
   some (.next (s.1,s.2.1,s.2.2.1,s.2.2.2.1,aA .i64 (tE .u64 (aA .u64 (aA .i64 (s.2.2.2.1+s.2.2.2.2))) 1)))
 else
  bif decide (s.2.2.2.1<s.2.2.1) then
   (aQ s.1 s.2.2.2.1).bind fun a2=>
   (xV a2 s.2.1).bind fun n3=>
   some (.done (s.2.2.2.1,n3==0))
  else
   some (.done (s.2.2.2.1,false))
def cR (p0:List (Int×Int×Int)) (p1:Int) (_:Unit):Option (Int×Bool):=
 aI iK (p0,p1,Int.ofNat p0.length,0,Int.ofNat p0.length)
def RY:bL:=⟨aC.cons (aN.sl eX) (aC.cons (aN.int .i64) (aC.one (aN.clo 189 aC.nil))),aN.tup (aC.cons (aN.int .i64) (aC.one aN.bool)),fun a=>cR a.1 a.2.1 a.2.2,.pure,false⟩
theorem RZ:aM aX 162 RY:=Oc WX rfl aG [(189,aPb)] ⟨aGG,trivial⟩ fun a=>by kernel_rfl
def jO (p0:Field) (p1:Int):Option (Int×Int×Int):=
 (cR p0.points p1 ()).bind fun a0=>
 bif !a0.2 then
  some (-1,0,0)
 else
  (aQ p0.points a0.1).bind fun a1=>
  some a1
def aGI:bL:=⟨aC.cons (aN.agg dA) (aC.one (aN.int .i64)),aN.agg (bZ.row eX),fun a=>jO a.1 a.2,.pure,false⟩
theorem PI:aM aX 145 aGI:=Oc aFj rfl aG [(162,RY)] ⟨RZ,trivial⟩ fun a=>by kernel_rfl
def rO (p0:Int×Int×Int) (p1:Int×Int×Int) (p2:Int×Int):Option Int:=
 (nN p0).bind fun n0=>
 (nN p1).bind fun n1=>
 (fI p2).bind fun n2=>
 bif (if n2>(if n1>n0 then n1 else n0) then n2 else if n1>n0 then n1 else n0) !=0 then
  some (if n2>(if n1>n0 then n1 else n0) then n2 else if n1>n0 then n1 else n0)
 else
  bif p0.1==p1.1 then
   some 2
  else
   some 0
def aGJ:bL:=⟨aC.cons (aN.agg (bZ.row eX)) (aC.cons (aN.agg (bZ.row eX)) (aC.one (aN.agg (bZ.row gZ)))),aN.int .i64,fun a=>rO a.1 a.2.1 a.2.2,.pure,false⟩
theorem PJ:aM aX 155 aGJ:=Oc aFs rfl aG [(136,aM8),(35,c35)] ⟨W5,AI,trivial⟩ fun a=>by kernel_rfl
theorem aBa:aM aX 215 (bL.add64):=aM.add64 aGi
def oH (s:(Int×Int×Int×Int×Int×Int×Int×Int×Int)):Option (cL (Int×Int×Int×Int×Int×Int×Int×Int×Int) (Int×Int)):=
 bif decide (s.2.2.2.2.1<2) then
  bif s.2.2.2.2.1==0 then
   (jF (aA .u64 s.1) (aA .u64 s.2.1)).bind fun a0=>
   bif decide (s.1<0) then
    bif decide (s.2.1<0) then
     (rJ s.2.2.2.2.2.2.2.2 a0.2 0).bind fun a1=>
     some (.next (s.1,s.2.1,s.2.2.1,s.2.2.2.1,aA .i64 (s.2.2.2.2.1+1),s.2.2.2.2.2.1,s.2.2.2.2.2.2.1,aA .i64 ((aA .i64 (s.2.2.2.2.2.2.2.1+(aA .i64 ((aA .i64 ((aA .i64 a0.1) -s.2.1)) -s.1))))+(aA .i64 a1.2)),a1.1))
    else
     (rJ s.2.2.2.2.2.2.2.2 a0.2 0).bind fun a2=>
     some (.next (s.1,s.2.1,s.2.2.1,s.2.2.2.1,aA .i64 (s.2.2.2.2.1+1),s.2.2.2.2.2.1,s.2.2.2.2.2.2.1,aA .i64 ((aA .i64 (s.2.2.2.2.2.2.2.1+(aA .i64 ((aA .i64 a0.1) -s.2.1))))+(aA .i64 a2.2)),a2.1))
   else
    bif decide (s.2.1<0) then
     (rJ s.2.2.2.2.2.2.2.2 a0.2 0).bind fun a3=>
     some (.next (s.1,s.2.1,s.2.2.1,s.2.2.2.1,aA .i64 (s.2.2.2.2.1+1),s.2.2.2.2.2.1,s.2.2.2.2.2.2.1,aA .i64 ((aA .i64 (s.2.2.2.2.2.2.2.1+(aA .i64 ((aA .i64 a0.1) -s.1))))+(aA .i64 a3.2)),a3.1))
    else
     (rJ s.2.2.2.2.2.2.2.2 a0.2 0).bind fun a4=>
     some (.next (s.1,s.2.1,s.2.2.1,s.2.2.2.1,aA .i64 (s.2.2.2.2.1+1),s.2.2.2.2.2.1,s.2.2.2.2.2.2.1,aA .i64 ((aA .i64 (s.2.2.2.2.2.2.2.1+(aA .i64 a0.1)))+(aA .i64 a4.2)),a4.1))
  else
   bif s.2.2.2.2.1==1 then
    (jF (aA .u64 s.2.2.1) (aA .u64 s.2.2.2.1)).bind fun a5=>
    bif decide (s.2.2.1<0) then
     bif decide (s.2.2.2.1<0) then
      (rJ s.2.2.2.2.2.2.2.2 a5.2 0).bind fun a6=>
      some (.next (s.1,s.2.1,s.2.2.1,s.2.2.2.1,aA .i64 (s.2.2.2.2.1+1),s.2.2.2.2.2.1,s.2.2.2.2.2.2.1,aA .i64 ((aA .i64 (s.2.2.2.2.2.2.2.1+(aA .i64 ((aA .i64 ((aA .i64 a5.1) -s.2.2.2.1)) -s.2.2.1))))+(aA .i64 a6.2)),a6.1))
     else
      (rJ s.2.2.2.2.2.2.2.2 a5.2 0).bind fun a7=>
      some (.next (s.1,s.2.1,s.2.2.1,s.2.2.2.1,aA .i64 (s.2.2.2.2.1+1),s.2.2.2.2.2.1,s.2.2.2.2.2.2.1,aA .i64 ((aA .i64 (s.2.2.2.2.2.2.2.1+(aA .i64 ((aA .i64 a5.1) -s.2.2.2.1))))+(aA .i64 a7.2)),a7.1))
    else
     bif decide (s.2.2.2.1<0) then
      (rJ s.2.2.2.2.2.2.2.2 a5.2 0).bind fun a8=>
      some (.next (s.1,s.2.1,s.2.2.1,s.2.2.2.1,aA .i64 (s.2.2.2.2.1+1),s.2.2.2.2.2.1,s.2.2.2.2.2.2.1,aA .i64 ((aA .i64 (s.2.2.2.2.2.2.2.1+(aA .i64 ((aA .i64 a5.1) -s.2.2.1))))+(aA .i64 a8.2)),a8.1))
     else
      (rJ s.2.2.2.2.2.2.2.2 a5.2 0).bind fun a9=>
      some (.next (s.1,s.2.1,s.2.2.1,s.2.2.2.1,aA .i64 (s.2.2.2.2.1+1),s.2.2.2.2.2.1,s.2.2.2.2.2.2.1,aA .i64 ((aA .i64 (s.2.2.2.2.2.2.2.1+(aA .i64 a5.1)))+(aA .i64 a9.2)),a9.1))
   else
    none
 else
  some (.done s.2.2.2.2.2.2.2)
def AL (p0:Int×Int×Int×Int):Option (Int×Int):=
 aI oH (p0.1,p0.2.1,p0.2.2.1,p0.2.2.2,0,0,0,0,0)
def aPc:bL:=⟨aC.one (aN.agg (bZ.row aOV)),aN.agg (bZ.row kiu),fun a=>AL a,.pure,false⟩
theorem aGK:aM aX 192 aPc:=Oc aF1 rfl aG [(121,aNb),(215,bL.add64)] ⟨W7,aBa,trivial⟩ fun a=>by kernel_rfl
def mZ (p0:Int×Int×Int) (p1:Int×Int×Int) (p2:Int×Int):Option Int:=
 (AL (aA .i64 (p0.2.1-p1.2.1),p2.2,aA .i64 (p0.2.2-p1.2.2),p2.1)).bind fun a0=>
 bif !((a0.1==0)&&(a0.2==0)) then
  bif decide (a0.1<0) then
   some (-1)
  else
   some 1
 else
  (jL p0.2.2 p1.2.2).bind fun n1=>
  (fE p1.1 p0.1).bind fun n2=>
  (vP [n1,n2]).bind fun n3=>
  some n3
def aNf:bL:=⟨aC.cons (aN.agg (bZ.row eX)) (aC.cons (aN.agg (bZ.row eX)) (aC.one (aN.agg (bZ.row gZ)))),aN.int .i64,fun a=>mZ a.1 a.2.1 a.2.2,.pure,false⟩
theorem W9:aM aX 156 aNf:=Oc aFt rfl aG [(192,aPc),(74,c74),(164,UN),(187,aNe)] ⟨aGK,aA9,C7,W8,trivial⟩ fun a=>by kernel_rfl
def CF (p0:Bool×Int×Int) (p1:Int) (p2:Int):Option ((Int×Int)×Int):=
 bif decide (0<p0.2.1) then
  some ((0,0),16)
 else
  bif decide (9223372036854775807<p0.2.2) then
   some ((0,0),16)
  else
   bif decide (0<p1) then
    some ((0,0),16)
   else
    bif decide (9223372036854775807<p2) then
     some ((0,0),16)
    else
     bif p0.1 then
      some ((aA .i64 (0- (aA .i64 p0.2.2)),aA .i64 p2),0)
     else
      some ((aA .i64 p0.2.2,aA .i64 p2),0)
def aPd:bL:=⟨aC.cons (aN.agg (bZ.row CB)) (aC.cons (aN.int .u64) (aC.one (aN.int .u64))),aN.tup (aC.cons (aN.agg (bZ.row gZ)) (aC.one (aN.int .i64))),fun a=>CF a.1 a.2.1 a.2.2,.pure,false⟩
theorem aGL:aM aX 224 aPd:=Oc aGp rfl aG [] trivial fun a=>by kernel_rfl
def AM (p0:Int) (p1:Int):Option ((Int×Int)×Int):=
 bif p1==0 then
  some ((0,0),26)
 else
  (mG p0).bind fun n0=>
  (mG p1).bind fun n1=>
  (yW n0 n1).bind fun n2=>
  (mG p0).bind fun n3=>
  bif n2==0 then
   none
  else
   (mG p1).bind fun n4=>
   bif n2==0 then
    none
   else
    (CF (!((decide (p0<0))==(decide (p1<0))),0,aA .u64 (Int.tdiv n3 n2)) 0 (aA .u64 (Int.tdiv n4 n2))).bind fun a5=>
    some a5
def aPe:bL:=⟨aC.cons (aN.int .i64) (aC.one (aN.int .i64)),aN.tup (aC.cons (aN.agg (bZ.row gZ)) (aC.one (aN.int .i64))),fun a=>AM a.1 a.2,.pure,false⟩
theorem aGM:aM aX 213 aPe:=Oc aGg rfl aG [(72,c72),(71,c71),(224,aPd)] ⟨UK,aA7,aGL,trivial⟩ fun a=>by kernel_rfl
def CG (p0:Int×Int×Int) (p1:Int×Int×Int):Option ((Int×Int)×Int):=
 (rO p0 p1 (0,1)).bind fun n0=>
 bif n0 !=0 then
  some ((0,0),n0)
 else
  bif p0.2.2==p1.2.2 then
   some ((0,0),6)
  else
   (AM (aA .i64 (p0.2.1-p1.2.1)) (aA .i64 (p1.2.2-p0.2.2))).bind fun a1=>
   some a1
def aPf:bL:=⟨aC.cons (aN.agg (bZ.row eX)) (aC.one (aN.agg (bZ.row eX))),aN.tup (aC.cons (aN.agg (bZ.row gZ)) (aC.one (aN.int .i64))),fun a=>CG a.1 a.2,.pure,false⟩
theorem aGN:aM aX 188 aPf:=Oc aFX rfl aG [(155,aGJ),(213,aPe)] ⟨PJ,aGM,trivial⟩ fun a=>by kernel_rfl
def uP (p0:Int×Int×Int) (p1:Int×Int×Int) (p2:Int×Int):Option ((Int×Int)×Bool×Int):=
 (rO p0 p1 p2).bind fun n0=>
 bif n0 !=0 then
  some ((0,0),false,n0)
 else
  (mZ p1 p0 p2).bind fun n1=>
  bif decide (0<n1) then
   some (p2,true,0)
  else
   bif decide (p1.2.2<=p0.2.2) then
    some ((0,0),false,0)
   else
    (CG p0 p1).bind fun a2=>
    some (a2.1,a2.2==0,a2.2)
def aPg:bL:=⟨aC.cons (aN.agg (bZ.row eX)) (aC.cons (aN.agg (bZ.row eX)) (aC.one (aN.agg (bZ.row gZ)))),aN.tup (aC.cons (aN.agg (bZ.row gZ)) (aC.cons aN.bool (aC.one (aN.int .i64)))),fun a=>uP a.1 a.2.1 a.2.2,.pure,false⟩
theorem aGO:aM aX 144 aPg:=Oc aFi rfl aG [(155,aGJ),(156,aNf),(188,aPf)] ⟨PJ,W9,aGN,trivial⟩ fun a=>by kernel_rfl
def rQ (p0:Field) (p1:Int×Int) (p2:Int×Int):Option ((Int×Int)×Bool×Int):=
 (jO p0 p1.2).bind fun a0=>
 (jO p0 p1.1).bind fun a1=>
 (uP a0 a1 p2).bind fun a2=>
 some a2
def c93:bL:=⟨aC.cons (aN.agg dA) (aC.cons (aN.agg (bZ.row gZ)) (aC.one (aN.agg (bZ.row gZ)))),aN.tup (aC.cons (aN.agg (bZ.row gZ)) (aC.cons aN.bool (aC.one (aN.int .i64)))),fun a=>rQ a.1 a.2.1 a.2.2,.pure,false⟩
theorem UO:aM aX 93 c93:=Oc aMW rfl aG [(145,aGI),(144,aPg)] ⟨PI,aGO,trivial⟩ fun a=>by kernel_rfl
abbrev aPh:=bO×bO×Int×Int×Int×Int×bO×Int×bO×(List Int)×(List Bool)×(List Int)×jM×(List Int)×bO
abbrev aPi:=Int×Int×Int×Int×bO×Int×bO×(List Int)×(List Bool)×(List Int)×jM×(List Int)×bO×(List Int)
abbrev aPj:=cL aPi Int
def cN (s:aPh):Option (cL aPh aPj):=
 bif decide (s.2.2.2.1<s.2.2.1) then
  (aQ s.2.1 s.2.2.2.1).bind fun a0=>
  (rQ (Field.mk s.2.2.2.2.2.2.1) a0.2 (s.2.2.2.2.1,s.2.2.2.2.2.1)).bind fun a1=>
  bif a1.2.2 !=0 then
   some (.done (.done 8))
  else
   bif !a1.2.1 then
    some (.next (s.1,s.2.1,s.2.2.1,aA .i64 (s.2.2.2.1+1),s.2.2.2.2))
   else
    bif (Int.ofNat s.1.length)==0 then
     some (.done (.done 8))
    else
     (aQ s.1 0).bind fun a2=>
     bif a2.1 !=a0.1 then
      some (.done (.done 8))
     else
      (aQ s.1 0).bind fun a3=>
      bif decide (a3.2.1<0) then
       some (.done (.done 8))
      else
       bif decide (200<=a3.2.1) then
        some (.done (.done 8))
       else
        (aQ s.2.2.2.2.2.2.2.2.2.2.2.2.2.1 a3.2.1).bind fun n4=>
        bif decide (n4<0) then
         some (.done (.done 8))
        else
         (aQ s.2.2.2.2.2.2.2.2.2.2.2.2.2.1 a3.2.1).bind fun n5=>
         (aQ s.2.2.2.2.2.2.2.2.2.2.2.2.1 n5).bind fun a6=>
         bif !((a6.1==a1.1.1)&&((a6.2.1==a1.1.2)&&((a6.2.2.1==a0.1)&&((a6.2.2.2.1==a3.2.1)&&(a6.2.2.2.2==a3.2.2))))) then
          some (.done (.done 8))
         else
          (jC s.1 1 (Int.ofNat s.1.length)).bind fun l7=>
          some (.next (l7,s.2.1,s.2.2.1,aA .i64 (s.2.2.2.1+1),s.2.2.2.2))
 else
  bif decide (0<(Int.ofNat s.1.length)) then
   some (.done (.done 8))
  else
   some (.done (.done 0))
def fA (s:aPi):Option aPj:=
 bif decide (s.2.1<s.1) then
  (aQ s.2.2.2.2.2.2.2.2.2.2.2.2.2 s.2.1).bind fun n0=>
  bif n0 !=0 then
   some (.done 8)
  else
   some (.next (s.1,aA .i64 (s.2.1+1),s.2.2))
 else
  bif (Int.ofNat s.2.2.2.2.2.2.2.2.2.2.2.1.length) !=200 then
   some (.done 8)
  else
   bif (Int.ofNat s.2.2.2.2.2.2.2.2.2.2.1.length) !=(Int.ofNat s.2.2.2.2.2.2.2.2.2.2.2.2.1.length) then
    some (.done 8)
   else
    aI cN (s.2.2.2.2.2.2.2.2.2.2.2.2.1,s.2.2.2.2.2.2.1,Int.ofNat s.2.2.2.2.2.2.1.length,0,s.2.2.1,s.2.2.2.1,s.2.2.2.2.1,s.2.2.2.2.2.1,s.2.2.2.2.2.2.1,s.2.2.2.2.2.2.2.1,s.2.2.2.2.2.2.2.2.1,s.2.2.2.2.2.2.2.2.2.1,s.2.2.2.2.2.2.2.2.2.2.1,s.2.2.2.2.2.2.2.2.2.2.2.1,s.2.2.2.2.2.2.2.2.2.2.2.2.1)
def gF (p0:aJ):Option Int:=
 (fI p0.now).bind fun n0=>
 (gE p0.field).bind fun n1=>
 (rL p0.certs).bind fun n2=>
 (jN p0.agenda).bind fun n3=>
 aI fA (Int.ofNat ([n0,n1,n2,n3].length),0,p0.now.1,p0.now.2,p0.field.points,p0.certs.next_,p0.certs.list,p0.agenda.slots.uses,p0.agenda.slots.used,p0.agenda.slots.free,p0.agenda.heap,p0.agenda.where_,p0.due,[n0,n1,n2,n3])
def c49:bL:=⟨aC.one (aN.agg bJ),aN.int .i64,fun a=>gF a,.pure,false⟩
theorem HN:aM aX 49 c49:=Oc aMo rfl aG [(35,c35),(84,c84),(91,c91),(92,c92),(93,c93)] ⟨AI,LO,UL,LP,UO,trivial⟩ fun a=>by kernel_rfl
def AN (p0:Field) (p1:Int×Int):Option Int:=
 (gE p0).bind fun n0=>
 bif n0 !=0 then
  some n0
 else
  (fI p1).bind fun n1=>
  some n1
def aPk:bL:=⟨aC.cons (aN.agg dA) (aC.one (aN.agg (bZ.row gZ))),aN.int .i64,fun a=>AN a.1 a.2,.pure,false⟩
theorem aGP:aM aX 107 aPk:=Oc aEL rfl aG [(84,c84),(35,c35)] ⟨LO,AI,trivial⟩ fun a=>by kernel_rfl
def nP (p0:Int×Int×Int) (p1:Int×Int×Int) (p2:Int×Int):Option (Bool×Int):=
 (rO p0 p1 p2).bind fun n0=>
 bif n0 !=0 then
  some (false,n0)
 else
  (mZ p0 p1 p2).bind fun n1=>
  some (decide (0<n1),0)
def aPl:bL:=⟨aC.cons (aN.agg (bZ.row eX)) (aC.cons (aN.agg (bZ.row eX)) (aC.one (aN.agg (bZ.row gZ)))),aN.tup (aC.cons aN.bool (aC.one (aN.int .i64))),fun a=>nP a.1 a.2.1 a.2.2,.pure,false⟩
theorem aGQ:aM aX 108 aPl:=Oc aEM rfl aG [(155,aGJ),(156,aNf)] ⟨PJ,W9,trivial⟩ fun a=>by kernel_rfl
abbrev aPm:=Nat×Nat×Int×bO×Int×Int×bO×Int×Int×Int×Int×bO×(List Int)×Int×Int×Int×Int×Int×Int
abbrev aPn:=Nat×Nat×bO×Int×Int×bO×Int×Int×Int×Int×bO×(List Int)
abbrev aPo:=cL aPn (mW×Int)
def qG (s:aPm):Option (cL aPm aPo):=
 match s with
 |(a,b,d,e,f,g,h,i,j,k,l,m,n,o,q,r,t,u,v)=>
  bif decide (0<(Int.ofNat a)) then
   (aQ (n.take a) (aA .i64 ((Int.ofNat a) -1))).bind fun n0=>
   (aQ h n0).bind fun a1=>
   (nP a1 (o,q,r) (i,j)).bind fun a2=>
   bif a2.1 then
    bif decide (0<(Int.ofNat a)) then
     (aQ (n.take a) (aA .i64 ((Int.ofNat a) -1))).bind fun n3=>
     (aQ m n3).bind fun a4=>
     (bI (bY m n3 (a4.1,a4.2.1,d)) [(t,u,v)]).bind fun l5=>
     bif Nat.ble (a+[d].length) b then
      bif (Nat.ble (a+[d].length) n.length)&&(!false) then
       some (.done (.next (a+[d].length,b,e,f,aA .i64 (g+1),h,i,j,k,l,l5,fY n a [d])))
      else
       none
     else
      (bI (n.take a) [d]).bind fun l6=>
      bif Nat.ble a n.length then
       some (.done (.next (l6.length,l6.length,e,f,aA .i64 (g+1),h,i,j,k,l,l5,l6)))
      else
       none
    else
     (bI m [(t,u,v)]).bind fun l7=>
     bif Nat.ble (a+[d].length) b then
      bif (Nat.ble (a+[d].length) n.length)&&(!false) then
       some (.done (.next (a+[d].length,b,e,f,aA .i64 (g+1),h,i,j,k,d,l7,fY n a [d])))
      else
       none
     else
      (bI (n.take a) [d]).bind fun l8=>
      bif Nat.ble a n.length then
       some (.done (.next (l8.length,l8.length,e,f,aA .i64 (g+1),h,i,j,k,d,l7,l8)))
      else
       none
   else
    bif (decide (0<=(aA .i64 ((Int.ofNat a) -1))))&&(decide ((aA .i64 ((Int.ofNat a) -1))<=(Int.ofNat b))) then
     some (.next ((aA .i64 ((Int.ofNat a) -1)).toNat,b,d,e,f,g,h,i,j,k,l,m,n,o,q,r,t,n0,v))
    else
     none
  else
   bif decide (0<(Int.ofNat a)) then
    (aQ (n.take a) (aA .i64 ((Int.ofNat a) -1))).bind fun n9=>
    (aQ m n9).bind fun a10=>
    (bI (bY m n9 (a10.1,a10.2.1,d)) [(t,u,v)]).bind fun l11=>
    bif Nat.ble (a+[d].length) b then
     bif (Nat.ble (a+[d].length) n.length)&&(!false) then
      some (.done (.next (a+[d].length,b,e,f,aA .i64 (g+1),h,i,j,k,l,l11,fY n a [d])))
     else
      none
    else
     (bI (n.take a) [d]).bind fun l12=>
     bif Nat.ble a n.length then
      some (.done (.next (l12.length,l12.length,e,f,aA .i64 (g+1),h,i,j,k,l,l11,l12)))
     else
      none
   else
    (bI m [(t,u,v)]).bind fun l13=>
    bif Nat.ble (a+[d].length) b then
     bif (Nat.ble (a+[d].length) n.length)&&(!false) then
      some (.done (.next (a+[d].length,b,e,f,aA .i64 (g+1),h,i,j,k,d,l13,fY n a [d])))
     else
      none
    else
     (bI (n.take a) [d]).bind fun l14=>
     bif Nat.ble a n.length then
      some (.done (.next (l14.length,l14.length,e,f,aA .i64 (g+1),h,i,j,k,d,l13,l14)))
     else
      none
def nQ (s:aPn):Option aPo:=
 bif decide (s.2.2.2.2.1<s.2.2.2.1) then
  (aQ s.2.2.1 s.2.2.2.2.1).bind fun a0=>
  aI qG (s.1,s.2.1,s.2.2.2.2.1,s.2.2.1,s.2.2.2.1,s.2.2.2.2.1,s.2.2.2.2.2.1,s.2.2.2.2.2.2.1,s.2.2.2.2.2.2.2.1,s.2.2.2.2.2.2.2.2.1,s.2.2.2.2.2.2.2.2.2.1,s.2.2.2.2.2.2.2.2.2.2.1,s.2.2.2.2.2.2.2.2.2.2.2,a0.1,a0.2.1,a0.2.2,a0.1,-1,-1)
 else
  some (.done (mW.mk s.2.2.2.2.2.2.2.2.2.1 s.2.2.2.2.2.2.2.2.2.2.1,0))
def C8 (p0:Field) (p1:Int×Int):Option (mW×Int):=
 (AN p0 p1).bind fun n0=>
 bif n0 !=0 then
  some (mW.mk 0 [],n0)
 else
  aI nQ (0,0,p0.points,Int.ofNat p0.points.length,0,p0.points,p1.1,p1.2,0,-1,[],[])
def c59:bL:=⟨aC.cons (aN.agg dA) (aC.one (aN.agg (bZ.row gZ))),aN.tup (aC.cons (aN.agg qD) (aC.one (aN.int .i64))),fun a=>C8 a.1 a.2,.frz,false⟩
theorem aNh:aM aX 59 c59:=Oc aMv rfl aG [(107,aPk),(108,aPl)] ⟨aGP,aGQ,trivial⟩ fun a=>by kernel_rfl
abbrev pB:=List (Int×Int)
abbrev aPp:=cL (Int×Int×Int×Int×bO×(List Int)) (mW×pB)
abbrev aPq:=bO×Int×Int×Int×Int×bO×(List Int)
abbrev aNi:=cL aPq aPp
abbrev aPr:=Int×bO×Int×Int×Int×Int×Int×Int×Int×bO×(List Int)
def iP (s:aPr):Option (cL aPr aNi):=
 bif decide (s.2.2.2.2.2.2.1<2) then
  bif s.2.2.2.2.2.2.1==0 then
   bif decide (0<=s.2.2.2.2.1) then
    (aQ s.2.2.2.2.2.2.2.2.2.2 s.2.2.2.2.1).bind fun _=>
    some (.next (s.1,s.2.1,s.2.2.1,s.2.2.2.1,s.2.2.2.2.1,s.2.2.2.2.2.1,aA .i64 (s.2.2.2.2.2.2.1+1),s.2.2.2.2.2.2.2.1,s.2.2.2.2.2.2.2.2.1,s.2.2.2.2.2.2.2.2.2.1,bY s.2.2.2.2.2.2.2.2.2.2 s.2.2.2.2.1 s.1))
   else
    some (.next (s.1,s.2.1,s.2.2.1,s.2.2.2.1,s.2.2.2.2.1,s.2.2.2.2.2.1,aA .i64 (s.2.2.2.2.2.2.1+1),s.2.2.2.2.2.2.2))
  else
   bif s.2.2.2.2.2.2.1==1 then
    bif decide (0<=s.2.2.2.2.2.1) then
     (aQ s.2.2.2.2.2.2.2.2.2.2 s.2.2.2.2.2.1).bind fun _=>
     some (.next (s.1,s.2.1,s.2.2.1,s.2.2.2.1,s.2.2.2.2.1,s.2.2.2.2.2.1,aA .i64 (s.2.2.2.2.2.2.1+1),s.2.2.2.2.2.2.2.1,s.2.2.2.2.2.2.2.2.1,s.2.2.2.2.2.2.2.2.2.1,bY s.2.2.2.2.2.2.2.2.2.2 s.2.2.2.2.2.1 s.1))
    else
     some (.next (s.1,s.2.1,s.2.2.1,s.2.2.2.1,s.2.2.2.2.1,s.2.2.2.2.2.1,aA .i64 (s.2.2.2.2.2.2.1+1),s.2.2.2.2.2.2.2))
   else
    none
 else
  some (.done (.next (s.2.1,s.2.2.1,aA .i64 (s.2.2.2.1+1),s.2.2.2.2.2.2.2)))
abbrev aPs:=bO×Int×Int×Int×Int×bO×(List Int)×pB
def kK (s:aPs):Option (cL aPs aNi):=
 bif decide (s.2.2.1<s.2.1) then
  (aQ s.1 s.2.2.1).bind fun a0=>
  (aQ s.2.2.2.2.2.2.1 s.2.2.1).bind fun n1=>
  bif decide (0<=n1) then
   (aQ s.2.2.2.2.2.2.1 s.2.2.1).bind fun n2=>
   (aQ s.2.2.2.2.2.1 n2).bind fun a3=>
   (bI s.2.2.2.2.2.2.2 [(a0.1,a3.1)]).bind fun l4=>
   some (.next (s.1,s.2.1,aA .i64 (s.2.2.1+1),s.2.2.2.1,s.2.2.2.2.1,s.2.2.2.2.2.1,s.2.2.2.2.2.2.1,l4))
  else
   some (.next (s.1,s.2.1,aA .i64 (s.2.2.1+1),s.2.2.2))
 else
  some (.done (.done (.done (mW.mk s.2.2.2.2.1 s.2.2.2.2.2.1,s.2.2.2.2.2.2.2))))
def kL (s:aPq):Option aNi:=
 bif decide (s.2.2.1<s.2.1) then
  (aQ s.1 s.2.2.1).bind fun a0=>
  aI iP (s.2.2.1,s.1,s.2.1,s.2.2.1,a0.2.1,a0.2.2,0,s.2.2.2)
 else
  aI kK (s.2.2.2.2.2.1,Int.ofNat s.2.2.2.2.2.1.length,0,s.2.2.2.1,s.2.2.2.2.1,s.2.2.2.2.2.1,s.2.2.2.2.2.2,[])
def kM (s:(Int×Int×Int×Int×bO×(List Int))):Option aPp:=
 bif decide (s.2.1<s.1) then
  (aQ s.2.2.2.2.2 s.2.1).bind fun _=>
  some (.next (s.1,aA .i64 (s.2.1+1),s.2.2.1,s.2.2.2.1,s.2.2.2.2.1,bY s.2.2.2.2.2 s.2.1 (-1)))
 else
  aI kL (s.2.2.2.2.1,Int.ofNat s.2.2.2.2.1.length,0,s.2.2)
def lI (p0:Field) (p1:Int×Int):Option (mW×pB):=
 (C8 p0 p1).bind fun a0=>
 bif (Int.ofNat a0.1.nodes.length)==(Int.ofNat a0.1.nodes.length) then
  (IL (Int.ofNat a0.1.nodes.length) (0:Int)).bind fun l1=>
  aI kM (Int.ofNat l1.length,0,0,a0.1.root,a0.1.nodes,l1)
 else
  none
def c40:bL:=⟨aC.cons (aN.agg dA) (aC.one (aN.agg (bZ.row gZ))),aN.tup (aC.cons (aN.agg qD) (aC.one (aN.sl gZ))),fun a=>lI a.1 a.2,.frz,false⟩
theorem UP:aM aX 40 c40:=Oc aMi rfl aG [(59,c59)] ⟨aNh,trivial⟩ fun a=>by kernel_rfl
abbrev aNj:=bO×bO×Int×Int
abbrev aPt:=cL aNj Bool
def CH (s:aNj):Option aPt:=
 bif decide (s.2.2.2<s.2.2.1) then
  (aQ s.1 s.2.2.2).bind fun a0=>
  (aQ s.2.1 s.2.2.2).bind fun a1=>
  bif !((a0.1==a1.1)&&((a0.2.1==a1.2.1)&&(a0.2.2==a1.2.2))) then
   some (.done false)
  else
   some (.next (s.1,s.2.1,s.2.2.1,aA .i64 (s.2.2.2+1)))
 else
  some (.done true)
def qH (p0:List (Int×Int×Int)) (p1:List (Int×Int×Int)):Option Bool:=
 bif (Int.ofNat p0.length) !=(Int.ofNat p1.length) then
  some false
 else
  aI CH (p0,p1,Int.ofNat p0.length,0)
def c50:bL:=⟨aC.cons (aN.sl eX) (aC.one (aN.sl eX)),aN.bool,fun a=>qH a.1 a.2,.pure,false⟩
theorem aNk:aM aX 50 c50:=Oc aMp rfl aG [] trivial fun a=>by kernel_rfl
def jP (s:(pB×Int×Int×Int×Int)):Option (cL (pB×Int×Int×Int×Int) Int):=
 bif decide (s.2.2.1<s.2.1) then
  (aQ s.1 s.2.2.1).bind fun a0=>
  bif (s.2.2.2.1==a0.1)&&(s.2.2.2.2==a0.2) then
   some (.done s.2.2.1)
  else
   some (.next (s.1,s.2.1,aA .i64 (s.2.2.1+1),s.2.2.2))
 else
  some (.done (-1))
def qI (p0:List (Int×Int)) (p1:Int×Int):Option Int:=
 aI jP (p0,Int.ofNat p0.length,0,p1)
def aPu:bL:=⟨aC.cons (aN.sl gZ) (aC.one (aN.agg (bZ.row gZ))),aN.int .i64,fun a=>qI a.1 a.2,.pure,false⟩
theorem aGR:aM aX 146 aPu:=Oc aFk rfl aG [] trivial fun a=>by kernel_rfl
def fJ (p0:List (Int×Int)) (p1:Int×Int):Option Bool:=
 (qI p0 p1).bind fun n0=>
 some (decide (0<=n0))
def c95:bL:=⟨aC.cons (aN.sl gZ) (aC.one (aN.agg (bZ.row gZ))),aN.bool,fun a=>fJ a.1 a.2,.pure,false⟩
theorem UQ:aM aX 95 c95:=Oc aMY rfl aG [(146,aPu)] ⟨aGR,trivial⟩ fun a=>by kernel_rfl
def xW (p0:Int×Int×Int) (p1:List (Int×Int)):Option Bool:=
 (fJ p1 p0.2).bind fun b0=>
 some (!b0)
def c94:bL:=⟨aC.cons (aN.agg (bZ.row eX)) (aC.one (aN.ref (bZ.sl gZ))),aN.bool,fun a=>xW a.1 a.2,.pure,false⟩
theorem aNl:aM aX 94 c94:=Oc aMX rfl aG [(95,c95)] ⟨UQ,trivial⟩ fun a=>by kernel_rfl
def bM (s:(bO×pB×Int×Int)):Option (cL (bO×pB×Int×Int) Int):=
 bif decide (s.2.2.2<s.2.2.1) then
  (aQ s.1 s.2.2.2).bind fun a0=>
  (xW a0 s.2.1).bind fun b1=>
  bif b1 then
   some (.done s.2.2.2)
  else
   some (.next (s.1,s.2.1,s.2.2.1,aA .i64 (s.2.2.2+1)))
 else
  some (.done (-1))
def eN (p0:List (Int×Int×Int)) (p1:pB):Option Int:=
 aI bM (p0,p1,Int.ofNat p0.length,0)
def XA:bL:=⟨aC.cons (aN.sl eX) (aC.one (aN.clo 94 (aC.one (aN.ref (bZ.sl gZ))))),aN.int .i64,fun a=>eN a.1 a.2,.pure,false⟩
theorem UR:aM aX 147 XA:=Oc O9 rfl aG [(94,c94)] ⟨aNl,trivial⟩ fun a=>by kernel_rfl
def dU (p0:List (Int×Int×Int)) (p1:pB):Option Bool:=
 (eN p0 p1).bind fun n0=>
 some (decide (0<=n0))
def aBb:bL:=⟨aC.cons (aN.sl eX) (aC.one (aN.clo 94 (aC.one (aN.ref (bZ.sl gZ))))),aN.bool,fun a=>dU a.1 a.2,.pure,false⟩
theorem Y9:aM aX 96 aBb:=Oc UH rfl aG [(147,XA)] ⟨UR,trivial⟩ fun a=>by kernel_rfl
def tL (p0:aJ) (p1:List (Int×Int)):Option Bool:=
 bif (Int.ofNat p1.length)==(Int.ofNat p0.certs.list.length) then
  (dU p0.certs.list p1).bind fun b0=>
  some (!b0)
 else
  some false
def c51:bL:=⟨aC.cons (aN.agg bJ) (aC.one (aN.sl gZ)),aN.bool,fun a=>tL a.1 a.2,.pure,false⟩
theorem aNm:aM aX 51 c51:=Oc aMq rfl aG [(96,aBb)] ⟨Y9,trivial⟩ fun a=>by kernel_rfl
def uQ (p0:cE):Option Int:=
 (gF p0.clock).bind fun n0=>
 bif n0 !=0 then
  some 8
 else
  (lI p0.clock.field p0.clock.now).bind fun a1=>
  bif a1.1.root !=p0.tree.root then
   some 8
  else
   (qH a1.1.nodes p0.tree.nodes).bind fun b2=>
   bif !b2 then
    some 8
   else
    (tL p0.clock a1.2).bind fun b3=>
    bif !b3 then
     some 8
    else
     some 0
def c22:bL:=⟨aC.one (aN.agg eZ),aN.int .i64,fun a=>uQ a,.pure,false⟩
theorem aNn:aM aX 22 c22:=Oc aL6 rfl aG [(49,c49),(40,c40),(50,c50),(51,c51)] ⟨HN,UP,aNk,aNm,trivial⟩ fun a=>by kernel_rfl
def EY (p0:aH):Option ((Int×Int×Int×Int×Int)×Int):=
 (jN p0).bind fun n0=>
 bif n0 !=0 then
  some ((0,0,0,0,0),n0)
 else
  bif (Int.ofNat p0.heap.length)==0 then
   some ((0,0,0,0,0),42)
  else
   (aQ p0.heap 0).bind fun a1=>
   some (a1,0)
def aPv:bL:=⟨aC.one (aN.agg cU),aN.tup (aC.cons (aN.agg (bZ.row jD)) (aC.one (aN.int .i64))),fun a=>EY a,.pure,false⟩
theorem aGS:aM aX 122 aPv:=Oc aEZ rfl aG [(92,c92)] ⟨LP,trivial⟩ fun a=>by kernel_rfl
def tM (p0:aJ) (p1:Int×Int):Option (Bool×Int):=
 (gF p0).bind fun n0=>
 (fI p1).bind fun n1=>
 bif (if n1>n0 then n1 else n0) !=0 then
  some (false,if n1>n0 then n1 else n0)
 else
  (rN p1 p0.now).bind fun a2=>
  bif decide (a2.1<0) then
   some (false,44)
  else
   (EY p0.agenda).bind fun a3=>
   bif a3.2 !=0 then
    some (false,0)
   else
    (rN (a3.1.1,a3.1.2.1) p1).bind fun a4=>
    some (decide (a4.1<=0),0)
def c77:bL:=⟨aC.cons (aN.agg bJ) (aC.one (aN.agg (bZ.row gZ))),aN.tup (aC.cons aN.bool (aC.one (aN.int .i64))),fun a=>tM a.1 a.2,.pure,false⟩
theorem aBc:aM aX 77 c77:=Oc aMK rfl aG [(49,c49),(35,c35),(36,c36),(122,aPv)] ⟨HN,AI,UM,aGS,trivial⟩ fun a=>by kernel_rfl
def tN (p0:Int×Int×Int) (p1:Int):Option Int:=
 (fE p0.1 p1).bind fun n0=>
 some n0
def aPw:bL:=⟨aC.cons (aN.agg (bZ.row eX)) (aC.one (aN.int .i64)),aN.int .i64,fun a=>tN a.1 a.2,.pure,false⟩
theorem aGT:aM aX 204 aPw:=Oc aGa rfl aG [(164,UN)] ⟨C7,trivial⟩ fun a=>by kernel_rfl
def aU (s:PH):Option aGH:=
 bif decide (s.2.2.2.1<s.2.2.2.2) then
  (aQ s.1 (aA .i64 (tE .u64 (aA .u64 (aA .i64 (s.2.2.2.1+s.2.2.2.2))) 1))).bind fun a0=>
  (tN a0 s.2.1).bind fun n1=>
  bif decide (n1<0) then
   some (.next (s.1,s.2.1,s.2.2.1,aA .i64 ((aA .i64 (tE .u64 (aA .u64 (aA .i64 (s.2.2.2.1+s.2.2.2.2))) 1))+1),s.2.2.2.2))
  else
   some (.next (s.1,s.2.1,s.2.2.1,s.2.2.2.1,aA .i64 (tE .u64 (aA .u64 (aA .i64 (s.2.2.2.1+s.2.2.2.2))) 1)))
 else
  bif decide (s.2.2.2.1<s.2.2.1) then
   (aQ s.1 s.2.2.2.1).bind fun a2=>
   (tN a2 s.2.1).bind fun n3=>
   some (.done (s.2.2.2.1,n3==0))
  else
   some (.done (s.2.2.2.1,false))
def aV (p0:List (Int×Int×Int)) (p1:Int) (_:Unit):Option (Int×Bool):=
 aI aU (p0,p1,Int.ofNat p0.length,0,Int.ofNat p0.length)
def R0:bL:=⟨aC.cons (aN.sl eX) (aC.cons (aN.int .i64) (aC.one (aN.clo 204 aC.nil))),aN.tup (aC.cons (aN.int .i64) (aC.one aN.bool)),fun a=>aV a.1 a.2.1 a.2.2,.pure,false⟩
theorem R1:aM aX 203 R0:=Oc aF9 rfl aG [(204,aPw)] ⟨aGT,trivial⟩ fun a=>by kernel_rfl
def HO (p0:aT) (p1:Int):Option (Int×Int):=
 (rL p0).bind fun n0=>
 bif n0 !=0 then
  some (0,n0)
 else
  (aV p0.list p1 ()).bind fun a1=>
  bif !a1.2 then
   some (0,6)
  else
   some (a1.1,0)
def aPx:bL:=⟨aC.cons (aN.agg gH) (aC.one (aN.int .i64)),aN.tup (aC.cons (aN.int .i64) (aC.one (aN.int .i64))),fun a=>HO a.1 a.2,.pure,false⟩
theorem aGU:aM aX 174 aPx:=Oc aFK rfl aG [(91,c91),(203,R0)] ⟨UL,R1,trivial⟩ fun a=>by kernel_rfl
theorem yX:aM aX 127 (bL.clone eX):=aM.clone aE4 rfl
abbrev aBd:=Int×Int×bO
def fK (a:aBd):Option (Nat×Nat×bO):=
 bif (((decide (0<=a.1))&&(decide (a.1<=a.2.1)))&&(decide (a.2.1<=(Int.ofNat a.2.2.length))))&&(decide ((Int.ofNat a.2.2.length)<=(Int.ofNat a.2.2.length))) then
  bif a.1==a.2.1 then
   bif a.2.2.length==a.2.2.length then
    some (a.2.2.length,a.2.2.length,a.2.2)
   else
    none
  else
   (jC a.2.2 0 a.1).bind fun _=>
   bif ((decide (0<=a.2.1))&&(decide (a.2.1<=(Int.ofNat a.2.2.length))))&&(decide ((Int.ofNat a.2.2.length)<=(Int.ofNat a.2.2.length))) then
    bif ((a.2.2.drop (0+a.2.1.toNat)).take (((Int.ofNat a.2.2.length).toNat) -a.2.1.toNat)).isEmpty then
     bif ((decide (0<=(Int.ofNat a.1.toNat)))&&(decide ((Int.ofNat a.1.toNat)<=(Int.ofNat a.2.2.length))))&&(decide ((Int.ofNat a.2.2.length)<=(Int.ofNat a.2.2.length))) then
      bif Nat.beq (((Int.ofNat a.2.2.length).toNat) - ((Int.ofNat a.1.toNat).toNat)) 0 then
       bif a.2.2.length==a.2.2.length then
        some (a.1.toNat,a.2.2.length,a.2.2)
       else
        none
      else
       bif (Nat.ble ((0+((Int.ofNat a.1.toNat).toNat))+(((Int.ofNat a.2.2.length).toNat) - ((Int.ofNat a.1.toNat).toNat))) a.2.2.length)&&(!false) then
        bif ((fY a.2.2 (0+((Int.ofNat a.1.toNat).toNat)) (List.replicate (((Int.ofNat a.2.2.length).toNat) - ((Int.ofNat a.1.toNat).toNat)) (0,0,0))).length)==a.2.2.length then
         some (a.1.toNat,a.2.2.length,fY a.2.2 (0+((Int.ofNat a.1.toNat).toNat)) (List.replicate (((Int.ofNat a.2.2.length).toNat) - ((Int.ofNat a.1.toNat).toNat)) (0,0,0)))
        else
         none
       else
        none
     else
      none
    else
     bif Nat.ble (a.1.toNat+(((a.2.2.drop (0+a.2.1.toNat)).take (((Int.ofNat a.2.2.length).toNat) -a.2.1.toNat)).length)) a.2.2.length then
      bif (Nat.ble (a.1.toNat+(((a.2.2.drop (0+a.2.1.toNat)).take (((Int.ofNat a.2.2.length).toNat) -a.2.1.toNat)).length)) a.2.2.length)&&(!false) then
       bif ((decide (0<=(Int.ofNat (a.1.toNat+(((a.2.2.drop (0+a.2.1.toNat)).take (((Int.ofNat a.2.2.length).toNat) -a.2.1.toNat)).length)))))&&(decide ((Int.ofNat (a.1.toNat+(((a.2.2.drop (0+a.2.1.toNat)).take (((Int.ofNat a.2.2.length).toNat) -a.2.1.toNat)).length)))<=(Int.ofNat a.2.2.length))))&&(decide ((Int.ofNat a.2.2.length)<=(Int.ofNat a.2.2.length))) then
        bif Nat.beq (((Int.ofNat a.2.2.length).toNat) - ((Int.ofNat (a.1.toNat+(((a.2.2.drop (0+a.2.1.toNat)).take (((Int.ofNat a.2.2.length).toNat) -a.2.1.toNat)).length))).toNat)) 0 then
         bif ((fY a.2.2 a.1.toNat ((a.2.2.drop (0+a.2.1.toNat)).take (((Int.ofNat a.2.2.length).toNat) -a.2.1.toNat))).length)==a.2.2.length then
          some (a.1.toNat+(((a.2.2.drop (0+a.2.1.toNat)).take (((Int.ofNat a.2.2.length).toNat) -a.2.1.toNat)).length),a.2.2.length,fY a.2.2 a.1.toNat ((a.2.2.drop (0+a.2.1.toNat)).take (((Int.ofNat a.2.2.length).toNat) -a.2.1.toNat)))
         else
          none
        else
         bif (Nat.ble ((0+((Int.ofNat (a.1.toNat+(((a.2.2.drop (0+a.2.1.toNat)).take (((Int.ofNat a.2.2.length).toNat) -a.2.1.toNat)).length))).toNat))+(((Int.ofNat a.2.2.length).toNat) - ((Int.ofNat (a.1.toNat+(((a.2.2.drop (0+a.2.1.toNat)).take (((Int.ofNat a.2.2.length).toNat) -a.2.1.toNat)).length))).toNat))) ((fY a.2.2 a.1.toNat ((a.2.2.drop (0+a.2.1.toNat)).take (((Int.ofNat a.2.2.length).toNat) -a.2.1.toNat))).length))&&(!false) then
          bif ((fY (fY a.2.2 a.1.toNat ((a.2.2.drop (0+a.2.1.toNat)).take (((Int.ofNat a.2.2.length).toNat) -a.2.1.toNat))) (0+((Int.ofNat (a.1.toNat+(((a.2.2.drop (0+a.2.1.toNat)).take (((Int.ofNat a.2.2.length).toNat) -a.2.1.toNat)).length))).toNat)) (List.replicate (((Int.ofNat a.2.2.length).toNat) - ((Int.ofNat (a.1.toNat+(((a.2.2.drop (0+a.2.1.toNat)).take (((Int.ofNat a.2.2.length).toNat) -a.2.1.toNat)).length))).toNat)) (0,0,0))).length)==a.2.2.length then
           some (a.1.toNat+(((a.2.2.drop (0+a.2.1.toNat)).take (((Int.ofNat a.2.2.length).toNat) -a.2.1.toNat)).length),a.2.2.length,fY (fY a.2.2 a.1.toNat ((a.2.2.drop (0+a.2.1.toNat)).take (((Int.ofNat a.2.2.length).toNat) -a.2.1.toNat))) (0+((Int.ofNat (a.1.toNat+(((a.2.2.drop (0+a.2.1.toNat)).take (((Int.ofNat a.2.2.length).toNat) -a.2.1.toNat)).length))).toNat)) (List.replicate (((Int.ofNat a.2.2.length).toNat) - ((Int.ofNat (a.1.toNat+(((a.2.2.drop (0+a.2.1.toNat)).take (((Int.ofNat a.2.2.length).toNat) -a.2.1.toNat)).length))).toNat)) (0,0,0)))
          else
           none
         else
          none
       else
        none
      else
       none
     else
      none
   else
    none
 else
  none
def aBe:dW:=⟨[.i,.i,.l [.i .i64,.i .i64,.i .i64]],[.own 0 false,.int .i64 0,.int .i64 0],[.arr [.i .i64,.i .i64,.i .i64] []],[.n,.n,.l [.i .i64,.i .i64,.i .i64]],.pre 0 0 0 false,[.arr [.i .i64,.i .i64,.i .i64] []],fun a=>fK a⟩
theorem ZA:lC aX 175 aBe:=lC.of aFL (wd:=true) (cx:=(pW aG [] [] [] [])) (mM.make trivial trivial trivial) (fun a=>by kernel_rfl)
def wX (p0:aT) (p1:Int):Option (aT×(Int×Int)×Int):=
 (HO p0 p1).bind fun a0=>
 bif a0.2 !=0 then
  some (aT.mk 0 [],(0,0),a0.2)
 else
  (cB p0.list).bind fun l1=>
  (fK (a0.1,aA .i64 (a0.1+1),l1)).bind fun a2=>
  (aQ p0.list a0.1).bind fun a3=>
  some (aT.mk p0.next_ (a2.2.2.take a2.1),a3.2,0)
def aPy:bL:=⟨aC.cons (aN.agg gH) (aC.one (aN.int .i64)),aN.tup (aC.cons (aN.agg gH) (aC.cons (aN.agg (bZ.row gZ)) (aC.one (aN.int .i64)))),fun a=>wX a.1 a.2,.frz,false⟩
theorem aGV:aM aX 123 aPy:=aM.of aE0 (cx:=(pW aG [(174,aPx),(127,bL.clone eX)] [(175,aBe)] [] [])) rfl (mM.make ⟨aGU,yX,trivial⟩ ⟨ZA,trivial⟩ trivial) (fun a=>by kernel_rfl)
theorem F9:aM aX 64 (bL.clone eX):=aM.clone aMy rfl
theorem GA:aM aX 128 (bL.clone eX):=aM.clone aE5 rfl
theorem vQ:aM aX 129 (bL.clone jD):=aM.clone aE6 rfl
theorem qJ:aM aX 130 (bL.clone ki):=aM.clone aE7 rfl
def jU (p0:aJ):Option aJ:=
 (cB p0.field.points).bind fun l0=>
 (cB p0.certs.list).bind fun l1=>
 (cB p0.due).bind fun l2=>
 (cB p0.agenda.heap).bind fun l3=>
 (cB p0.agenda.where_).bind fun l4=>
 (cB p0.agenda.slots.uses).bind fun l5=>
 (cB p0.agenda.slots.used).bind fun l6=>
 (cB p0.agenda.slots.free).bind fun l7=>
 some (aJ.mk p0.now (Field.mk l0) (aT.mk p0.certs.next_ l1) (aH.mk (aR.mk l5 l6 l7) l3 l4) l2)
def c79:bL:=⟨aC.one (aN.agg bJ),aN.agg bJ,fun a=>jU a,.own,true⟩
def aBf:bL:=⟨aC.one (aN.agg bJ),aN.agg bJ,fun a=>jU a,.frz,false⟩
theorem PK:aM aX 79 c79:=Oc aA3 rfl aG [(64,bL.clone eX),(127,bL.clone eX),(128,bL.clone eX),(129,bL.clone jD),(130,bL.clone ki),(131,bL.clone kb)] ⟨F9,yX,GA,vQ,qJ,vO,trivial⟩ fun a=>by kernel_rfl
theorem JP:aM aX 79 aBf:=Oc aA3 rfl aG [(64,bL.clone eX),(127,bL.clone eX),(128,bL.clone eX),(129,bL.clone jD),(130,bL.clone ki),(131,bL.clone kb)] ⟨F9,yX,GA,vQ,qJ,vO,trivial⟩ fun a=>by kernel_rfl
def xX (p0:Int×Int×Int) (p1:Int):Option Int:=
 (fE p0.1 p1).bind fun n0=>
 some n0
def aPA:bL:=⟨aC.cons (aN.agg (bZ.row eX)) (aC.one (aN.int .i64)),aN.int .i64,fun a=>xX a.1 a.2,.pure,false⟩
theorem aGW:aM aX 177 aPA:=Oc aFN rfl aG [(164,UN)] ⟨C7,trivial⟩ fun a=>by kernel_rfl
def jA (s:PH):Option aGH:=
 bif decide (s.2.2.2.1<s.2.2.2.2) then
  (aQ s.1 (aA .i64 (tE .u64 (aA .u64 (aA .i64 (s.2.2.2.1+s.2.2.2.2))) 1))).bind fun a0=>
  (xX a0 s.2.1).bind fun n1=>
  bif decide (n1<0) then
   some (.next (s.1,s.2.1,s.2.2.1,aA .i64 ((aA .i64 (tE .u64 (aA .u64 (aA .i64 (s.2.2.2.1+s.2.2.2.2))) 1))+1),s.2.2.2.2))
  else
   some (.next (s.1,s.2.1,s.2.2.1,s.2.2.2.1,aA .i64 (tE .u64 (aA .u64 (aA .i64 (s.2.2.2.1+s.2.2.2.2))) 1)))
 else
  bif decide (s.2.2.2.1<s.2.2.1) then
   (aQ s.1 s.2.2.2.1).bind fun a2=>
   (xX a2 s.2.1).bind fun n3=>
   some (.done (s.2.2.2.1,n3==0))
  else
   some (.done (s.2.2.2.1,false))
def cZ (p0:List (Int×Int×Int)) (p1:Int) (_:Unit):Option (Int×Bool):=
 aI jA (p0,p1,Int.ofNat p0.length,0,Int.ofNat p0.length)
def R2:bL:=⟨aC.cons (aN.sl eX) (aC.cons (aN.int .i64) (aC.one (aN.clo 177 aC.nil))),aN.tup (aC.cons (aN.int .i64) (aC.one aN.bool)),fun a=>cZ a.1 a.2.1 a.2.2,.pure,false⟩
theorem R3:aM aX 176 R2:=Oc aFM rfl aG [(177,aPA)] ⟨aGW,trivial⟩ fun a=>by kernel_rfl
def pL (p0:List (Int×Int×Int)) (p1:Int):Option (Int×Bool):=
 (cZ p0 p1 ()).bind fun a0=>
 some a0
def aNo:bL:=⟨aC.cons (aN.sl eX) (aC.one (aN.int .i64)),aN.tup (aC.cons (aN.int .i64) (aC.one aN.bool)),fun a=>pL a.1 a.2,.pure,false⟩
theorem XB:aM aX 124 aNo:=Oc aE1 rfl aG [(176,R2)] ⟨R3,trivial⟩ fun a=>by kernel_rfl
def CI (p0:aR) (p1:Int×Int):Option (Bool×Int):=
 (rM p0).bind fun n0=>
 bif n0 !=0 then
  some (false,n0)
 else
  bif decide (0<=p1.1) then
   bif decide (p1.1<(Int.ofNat p0.used.length)) then
    (aQ p0.used p1.1).bind fun b1=>
    bif b1 then
     (aQ p0.uses p1.1).bind fun n2=>
     some (n2==p1.2,0)
    else
     some (false,0)
   else
    some (false,0)
  else
   some (false,0)
def aNp:bL:=⟨aC.cons (aN.agg gG) (aC.one (aN.agg (bZ.row gZ))),aN.tup (aC.cons aN.bool (aC.one (aN.int .i64))),fun a=>CI a.1 a.2,.pure,false⟩
theorem XC:aM aX 205 aNp:=Oc aGb rfl aG [(142,aGA)] ⟨PF,trivial⟩ fun a=>by kernel_rfl
def qK (p0:aH) (p1:Int×Int):Option (Int×Int):=
 (jN p0).bind fun n0=>
 bif n0 !=0 then
  some (0,n0)
 else
  (CI p0.slots p1).bind fun a1=>
  bif a1.2 !=0 then
   some (0,6)
  else
   bif !a1.1 then
    some (0,6)
   else
    (aQ p0.where_ p1.1).bind fun n2=>
    some (n2,0)
def aNq:bL:=⟨aC.cons (aN.agg cU) (aC.one (aN.agg (bZ.row gZ))),aN.tup (aC.cons (aN.int .i64) (aC.one (aN.int .i64))),fun a=>qK a.1 a.2,.pure,false⟩
theorem XD:aM aX 178 aNq:=Oc aFO rfl aG [(92,c92),(205,aNp)] ⟨LP,XC,trivial⟩ fun a=>by kernel_rfl
theorem R4:aM aX 228 (bL.clone ki):=aM.clone aGt rfl
def uC (p0:List Int) (p1:Int):Option (List Int):=
 (cB p0).bind fun l0=>
 (bI l0 [p1]).bind fun l1=>
 some l1
def aPB:bL:=⟨aC.cons (aN.sl ki) (aC.one (aN.int .i64)),aN.sl ki,fun a=>uC a.1 a.2,.frz,false⟩
theorem aGX:aM aX 221 aPB:=Oc aGn rfl aG [(228,bL.clone ki)] ⟨R4,trivial⟩ fun a=>by kernel_rfl
def C9 (p0:aR) (p1:Int×Int):Option (aR×Int):=
 (CI p0 p1).bind fun a0=>
 bif a0.2 !=0 then
  some (aR.mk [] [] [],a0.2)
 else
  bif !a0.1 then
   some (aR.mk [] [] [],6)
  else
   (cB p0.uses).bind fun l1=>
   (cB p0.used).bind fun l2=>
   (uC p0.free p1.1).bind fun l3=>
   (aQ l2 p1.1).bind fun _=>
   some (aR.mk l1 (bY l2 p1.1 false) l3,0)
def aPC:bL:=⟨aC.cons (aN.agg gG) (aC.one (aN.agg (bZ.row gZ))),aN.tup (aC.cons (aN.agg gG) (aC.one (aN.int .i64))),fun a=>C9 a.1 a.2,.frz,false⟩
theorem aGY:aM aX 206 aPC:=aM.of aGc (cx:=(pW aG [(205,aNp),(130,bL.clone ki),(131,bL.clone kb),(221,aPB)] [] [(220,aAX)] [])) rfl (mM.make ⟨XC,qJ,vO,aGX,trivial⟩ trivial ⟨W0,trivial⟩) (fun a=>by kernel_rfl)
abbrev aGZ:=(List Int)×(List Bool)×(List Int)×Nat×Nat×Int×Int×Int×Int×Int×Int×jM×(List Int)
abbrev MY:=jM×(List Int)
def bT (a:aGZ):Option MY:=
 (aQ (a.2.2.2.2.2.2.2.2.2.2.2.1.take a.2.2.2.1) a.2.2.2.2.2.1).bind fun _=>
 (aQ a.2.2.2.2.2.2.2.2.2.2.2.2 a.2.2.2.2.2.2.2.2.2.1).bind fun _=>
 bif ((bY a.2.2.2.2.2.2.2.2.2.2.2.1 a.2.2.2.2.2.1 (a.2.2.2.2.2.2.1,a.2.2.2.2.2.2.2.1,a.2.2.2.2.2.2.2.2.1,a.2.2.2.2.2.2.2.2.2.1,a.2.2.2.2.2.2.2.2.2.2.1)).length)==a.2.2.2.2.2.2.2.2.2.2.2.1.length then
  bif ((bY a.2.2.2.2.2.2.2.2.2.2.2.2 a.2.2.2.2.2.2.2.2.2.1 a.2.2.2.2.2.1).length)==a.2.2.2.2.2.2.2.2.2.2.2.2.length then
   some (bY a.2.2.2.2.2.2.2.2.2.2.2.1 a.2.2.2.2.2.1 (a.2.2.2.2.2.2.1,a.2.2.2.2.2.2.2.1,a.2.2.2.2.2.2.2.2.1,a.2.2.2.2.2.2.2.2.2.1,a.2.2.2.2.2.2.2.2.2.2.1),bY a.2.2.2.2.2.2.2.2.2.2.2.2 a.2.2.2.2.2.2.2.2.2.1 a.2.2.2.2.2.1)
  else
   none
 else
  none
def US:dW:=⟨[.l [.i .i64],.l [.b],.l [.i .i64],.n,.n,.i,.i,.i,.i,.i,.i,.l [.i .i64,.i .i64,.i .i64,.i .i64,.i .i64],.l [.i .i64]],[.agg [.sl [.i .i64] [],.sl [.b] [],.sl [.i .i64] [],.pre 0 0 0 false,.own 1 false],.int .i64 0,.agg [.int .i64 0,.int .i64 0,.int .i64 0,.int .i64 0,.int .i64 0]],[.arr [.i .i64,.i .i64,.i .i64,.i .i64,.i .i64] [],.arr [.i .i64] []],[.l [.i .i64,.i .i64,.i .i64,.i .i64,.i .i64],.l [.i .i64]],.tup [],[.arr [.i .i64,.i .i64,.i .i64,.i .i64,.i .i64] [],.arr [.i .i64] []],fun a=>bT a⟩
theorem NU:lC aX 222 US:=lC.of W3 (wd:=false) (cx:=(pW aG [] [] [] [])) (mM.make trivial trivial trivial) (fun a=>by kernel_rfl)
abbrev aPD:=Int×jM×(List Int)×(List Int)×(List Bool)×(List Int)×Nat×Nat×Int×Int×Int×Int×Int
abbrev aPE:=cL aPD MY
abbrev aPF:=Int×Int×jM×(List Int)×(List Int)×(List Bool)×(List Int)×Nat×Nat×Int×Int×Int×Int×Int
def fZ (c0:aGZ) (s:aPF):Option (cL aPF aPE):=
 match s with
 |(a,b,d,e,f,g,h,i,j,k,l,m,n,o)=>
  bif decide (b<(Int.ofNat i)) then
   bif decide ((aA .i64 (b+1))<(Int.ofNat i)) then
    (aQ (d.take i) (aA .i64 (b+1))).bind fun a0=>
    (aQ (d.take i) b).bind fun a1=>
    (cC a0 a1).bind fun n2=>
    bif decide (n2<0) then
     (aQ (d.take i) (aA .i64 (b+1))).bind fun a3=>
     (cC a3 (k,l,m,n,o)).bind fun n4=>
     bif decide (0<=n4) then
      (bT (f,g,h,i,j,a,k,l,m,n,o,d,e)).bind fun a5=>
      bif a5.1.length==c0.2.2.2.2.2.2.2.2.2.2.2.1.length then
       bif a5.2.length==c0.2.2.2.2.2.2.2.2.2.2.2.2.length then
        some (.done (.done a5))
       else
        none
      else
       none
     else
      (aQ (d.take i) (aA .i64 (b+1))).bind fun a6=>
      (bT (f,g,h,i,j,a,a6.1,a6.2.1,a6.2.2.1,a6.2.2.2.1,a6.2.2.2.2,d,e)).bind fun a7=>
      some (.next (aA .i64 (b+1),aA .i64 ((aA .i64 (2*(aA .i64 (b+1))))+1),a7.1,a7.2,(f,g,h,i,j,k,l,m,n,o)))
    else
     (aQ (d.take i) b).bind fun a8=>
     (cC a8 (k,l,m,n,o)).bind fun n9=>
     bif decide (0<=n9) then
      (bT (f,g,h,i,j,a,k,l,m,n,o,d,e)).bind fun a10=>
      bif a10.1.length==c0.2.2.2.2.2.2.2.2.2.2.2.1.length then
       bif a10.2.length==c0.2.2.2.2.2.2.2.2.2.2.2.2.length then
        some (.done (.done a10))
       else
        none
      else
       none
     else
      (aQ (d.take i) b).bind fun a11=>
      (bT (f,g,h,i,j,a,a11.1,a11.2.1,a11.2.2.1,a11.2.2.2.1,a11.2.2.2.2,d,e)).bind fun a12=>
      some (.next (b,aA .i64 ((aA .i64 (2*b))+1),a12.1,a12.2,(f,g,h,i,j,k,l,m,n,o)))
   else
    (aQ (d.take i) b).bind fun a13=>
    (cC a13 (k,l,m,n,o)).bind fun n14=>
    bif decide (0<=n14) then
     (bT (f,g,h,i,j,a,k,l,m,n,o,d,e)).bind fun a15=>
     bif a15.1.length==c0.2.2.2.2.2.2.2.2.2.2.2.1.length then
      bif a15.2.length==c0.2.2.2.2.2.2.2.2.2.2.2.2.length then
       some (.done (.done a15))
      else
       none
     else
      none
    else
     (aQ (d.take i) b).bind fun a16=>
     (bT (f,g,h,i,j,a,a16.1,a16.2.1,a16.2.2.1,a16.2.2.2.1,a16.2.2.2.2,d,e)).bind fun a17=>
     some (.next (b,aA .i64 ((aA .i64 (2*b))+1),a17.1,a17.2,(f,g,h,i,j,k,l,m,n,o)))
  else
   (bT (f,g,h,i,j,a,k,l,m,n,o,d,e)).bind fun a18=>
   bif a18.1.length==c0.2.2.2.2.2.2.2.2.2.2.2.1.length then
    bif a18.2.length==c0.2.2.2.2.2.2.2.2.2.2.2.2.length then
     some (.done (.done a18))
    else
     none
   else
    none
def eE (c0:aGZ) (s:aPD):Option aPE:=
 bif decide (0<s.1) then
  (aQ (s.2.1.take s.2.2.2.2.2.2.1) (aA .i64 (Int.tdiv (aA .i64 (s.1-1)) 2))).bind fun a0=>
  (cC s.2.2.2.2.2.2.2.2 a0).bind fun n1=>
  bif decide (n1<0) then
   (aQ (s.2.1.take s.2.2.2.2.2.2.1) (aA .i64 (Int.tdiv (aA .i64 (s.1-1)) 2))).bind fun a2=>
   (bT (s.2.2.2.1,s.2.2.2.2.1,s.2.2.2.2.2.1,s.2.2.2.2.2.2.1,s.2.2.2.2.2.2.2.1,s.1,a2.1,a2.2.1,a2.2.2.1,a2.2.2.2.1,a2.2.2.2.2,s.2.1,s.2.2.1)).bind fun a3=>
   some (.next (aA .i64 (Int.tdiv (aA .i64 (s.1-1)) 2),a3.1,a3.2,s.2.2.2))
  else
   aI (fZ c0) (s.1,aA .i64 ((aA .i64 (2*s.1))+1),s.2)
 else
  aI (fZ c0) (s.1,aA .i64 ((aA .i64 (2*s.1))+1),s.2)
def kD (a:aGZ):Option MY:=
 aI (eE a) (a.2.2.2.2.2.1,a.2.2.2.2.2.2.2.2.2.2.2.1,a.2.2.2.2.2.2.2.2.2.2.2.2,a.1,a.2.1,a.2.2.1,a.2.2.2.1,a.2.2.2.2.1,a.2.2.2.2.2.2.1,a.2.2.2.2.2.2.2.1,a.2.2.2.2.2.2.2.2.1,a.2.2.2.2.2.2.2.2.2.1,a.2.2.2.2.2.2.2.2.2.2.1)
def PL:dW:=⟨[.l [.i .i64],.l [.b],.l [.i .i64],.n,.n,.i,.i,.i,.i,.i,.i,.l [.i .i64,.i .i64,.i .i64,.i .i64,.i .i64],.l [.i .i64]],[.agg [.sl [.i .i64] [],.sl [.b] [],.sl [.i .i64] [],.pre 0 0 0 false,.own 1 false],.int .i64 0,.agg [.int .i64 0,.int .i64 0,.int .i64 0,.int .i64 0,.int .i64 0]],[.arr [.i .i64,.i .i64,.i .i64,.i .i64,.i .i64] [],.arr [.i .i64] []],[.l [.i .i64,.i .i64,.i .i64,.i .i64,.i .i64],.l [.i .i64]],.tup [],[.arr [.i .i64,.i .i64,.i .i64,.i .i64,.i .i64] [],.arr [.i .i64] []],fun a=>kD a⟩
theorem HP:lC aX 208 PL:=lC.of WZ (wd:=false) (cx:=(pW aG [(143,aGF)] [(222,US)] [] [])) (mM.make ⟨PG,trivial⟩ ⟨NU,trivial⟩ trivial) (fun a=>by kernel_rfl)
def sJ (p0:aH) (p1:Int):Option (aH×(Int×Int×Int×Int×Int)×Int):=
 (aQ p0.heap p1).bind fun a0=>
 (C9 p0.slots a0.2.2.2).bind fun a1=>
 bif a1.2 !=0 then
  some (aH.mk (aR.mk [] [] []) [] [],(0,0,0,0,0),a1.2)
 else
  (cB p0.heap).bind fun l2=>
  (cB p0.where_).bind fun l3=>
  (aQ l2 (aA .i64 ((Int.ofNat l2.length) -1))).bind fun a4=>
  (jC l2 0 (aA .i64 ((Int.ofNat l2.length) -1))).bind fun _=>
  (aQ l3 a0.2.2.2.1).bind fun _=>
  bif decide (p1<(aA .i64 ((Int.ofNat l2.length) -1))) then
   (kD (a1.1.uses,a1.1.used,a1.1.free,(aA .i64 ((Int.ofNat l2.length) -1)).toNat,l2.length,p1,a4.1,a4.2.1,a4.2.2.1,a4.2.2.2.1,a4.2.2.2.2,l2,bY l3 a0.2.2.2.1 (-1))).bind fun a7=>
   some (aH.mk a1.1 (a7.1.take ((aA .i64 ((Int.ofNat l2.length) -1)).toNat)) a7.2,a0,0)
  else
   some (aH.mk a1.1 (l2.take ((aA .i64 ((Int.ofNat l2.length) -1)).toNat)) (bY l3 a0.2.2.2.1 (-1)),a0,0)
def aPG:bL:=⟨aC.cons (aN.agg cU) (aC.one (aN.int .i64)),aN.tup (aC.cons (aN.agg cU) (aC.cons (aN.agg (bZ.row jD)) (aC.one (aN.int .i64)))),fun a=>sJ a.1 a.2,.frz,false⟩
theorem aG0:aM aX 179 aPG:=aM.of aFP (cx:=(pW aG [(206,aPC),(129,bL.clone jD),(130,bL.clone ki)] [(208,PL)] [(207,Y7)] [])) rfl (mM.make ⟨aGY,vQ,qJ,trivial⟩ ⟨HP,trivial⟩ ⟨PC,trivial⟩) (fun a=>by kernel_rfl)
def mH (p0:aH) (p1:Int×Int):Option (aH×(Int×Int×Int×Int×Int)×Int):=
 (qK p0 p1).bind fun a0=>
 bif a0.2 !=0 then
  some (aH.mk (aR.mk [] [] []) [] [],(0,0,0,0,0),a0.2)
 else
  (sJ p0 a0.1).bind fun a1=>
  some a1
def aNr:bL:=⟨aC.cons (aN.agg cU) (aC.one (aN.agg (bZ.row gZ))),aN.tup (aC.cons (aN.agg cU) (aC.cons (aN.agg (bZ.row jD)) (aC.one (aN.int .i64)))),fun a=>mH a.1 a.2,.frz,false⟩
theorem XE:aM aX 125 aNr:=Oc aE2 rfl aG [(178,aNq),(179,aPG)] ⟨XD,aG0,trivial⟩ fun a=>by kernel_rfl
def lQ (a:aBd):Option (Nat×Nat×bO):=
 bif (((decide (0<=a.1))&&(decide (a.1<=a.2.1)))&&(decide (a.2.1<=(Int.ofNat a.2.2.length))))&&(decide ((Int.ofNat a.2.2.length)<=(Int.ofNat a.2.2.length))) then
  bif a.1==a.2.1 then
   bif a.2.2.length==a.2.2.length then
    some (a.2.2.length,a.2.2.length,a.2.2)
   else
    none
  else
   (jC a.2.2 0 a.1).bind fun _=>
   bif ((decide (0<=a.2.1))&&(decide (a.2.1<=(Int.ofNat a.2.2.length))))&&(decide ((Int.ofNat a.2.2.length)<=(Int.ofNat a.2.2.length))) then
    bif ((a.2.2.drop (0+a.2.1.toNat)).take (((Int.ofNat a.2.2.length).toNat) -a.2.1.toNat)).isEmpty then
     bif ((decide (0<=(Int.ofNat a.1.toNat)))&&(decide ((Int.ofNat a.1.toNat)<=(Int.ofNat a.2.2.length))))&&(decide ((Int.ofNat a.2.2.length)<=(Int.ofNat a.2.2.length))) then
      bif Nat.beq (((Int.ofNat a.2.2.length).toNat) - ((Int.ofNat a.1.toNat).toNat)) 0 then
       bif a.2.2.length==a.2.2.length then
        some (a.1.toNat,a.2.2.length,a.2.2)
       else
        none
      else
       bif (Nat.ble ((0+((Int.ofNat a.1.toNat).toNat))+(((Int.ofNat a.2.2.length).toNat) - ((Int.ofNat a.1.toNat).toNat))) a.2.2.length)&&(!false) then
        bif ((fY a.2.2 (0+((Int.ofNat a.1.toNat).toNat)) (List.replicate (((Int.ofNat a.2.2.length).toNat) - ((Int.ofNat a.1.toNat).toNat)) (0,0,0))).length)==a.2.2.length then
         some (a.1.toNat,a.2.2.length,fY a.2.2 (0+((Int.ofNat a.1.toNat).toNat)) (List.replicate (((Int.ofNat a.2.2.length).toNat) - ((Int.ofNat a.1.toNat).toNat)) (0,0,0)))
        else
         none
       else
        none
     else
      none
    else
     bif Nat.ble (a.1.toNat+(((a.2.2.drop (0+a.2.1.toNat)).take (((Int.ofNat a.2.2.length).toNat) -a.2.1.toNat)).length)) a.2.2.length then
      bif (Nat.ble (a.1.toNat+(((a.2.2.drop (0+a.2.1.toNat)).take (((Int.ofNat a.2.2.length).toNat) -a.2.1.toNat)).length)) a.2.2.length)&&(!false) then
       bif ((decide (0<=(Int.ofNat (a.1.toNat+(((a.2.2.drop (0+a.2.1.toNat)).take (((Int.ofNat a.2.2.length).toNat) -a.2.1.toNat)).length)))))&&(decide ((Int.ofNat (a.1.toNat+(((a.2.2.drop (0+a.2.1.toNat)).take (((Int.ofNat a.2.2.length).toNat) -a.2.1.toNat)).length)))<=(Int.ofNat a.2.2.length))))&&(decide ((Int.ofNat a.2.2.length)<=(Int.ofNat a.2.2.length))) then
        bif Nat.beq (((Int.ofNat a.2.2.length).toNat) - ((Int.ofNat (a.1.toNat+(((a.2.2.drop (0+a.2.1.toNat)).take (((Int.ofNat a.2.2.length).toNat) -a.2.1.toNat)).length))).toNat)) 0 then
         bif ((fY a.2.2 a.1.toNat ((a.2.2.drop (0+a.2.1.toNat)).take (((Int.ofNat a.2.2.length).toNat) -a.2.1.toNat))).length)==a.2.2.length then
          some (a.1.toNat+(((a.2.2.drop (0+a.2.1.toNat)).take (((Int.ofNat a.2.2.length).toNat) -a.2.1.toNat)).length),a.2.2.length,fY a.2.2 a.1.toNat ((a.2.2.drop (0+a.2.1.toNat)).take (((Int.ofNat a.2.2.length).toNat) -a.2.1.toNat)))
         else
          none
        else
         bif (Nat.ble ((0+((Int.ofNat (a.1.toNat+(((a.2.2.drop (0+a.2.1.toNat)).take (((Int.ofNat a.2.2.length).toNat) -a.2.1.toNat)).length))).toNat))+(((Int.ofNat a.2.2.length).toNat) - ((Int.ofNat (a.1.toNat+(((a.2.2.drop (0+a.2.1.toNat)).take (((Int.ofNat a.2.2.length).toNat) -a.2.1.toNat)).length))).toNat))) ((fY a.2.2 a.1.toNat ((a.2.2.drop (0+a.2.1.toNat)).take (((Int.ofNat a.2.2.length).toNat) -a.2.1.toNat))).length))&&(!false) then
          bif ((fY (fY a.2.2 a.1.toNat ((a.2.2.drop (0+a.2.1.toNat)).take (((Int.ofNat a.2.2.length).toNat) -a.2.1.toNat))) (0+((Int.ofNat (a.1.toNat+(((a.2.2.drop (0+a.2.1.toNat)).take (((Int.ofNat a.2.2.length).toNat) -a.2.1.toNat)).length))).toNat)) (List.replicate (((Int.ofNat a.2.2.length).toNat) - ((Int.ofNat (a.1.toNat+(((a.2.2.drop (0+a.2.1.toNat)).take (((Int.ofNat a.2.2.length).toNat) -a.2.1.toNat)).length))).toNat)) (0,0,0))).length)==a.2.2.length then
           some (a.1.toNat+(((a.2.2.drop (0+a.2.1.toNat)).take (((Int.ofNat a.2.2.length).toNat) -a.2.1.toNat)).length),a.2.2.length,fY (fY a.2.2 a.1.toNat ((a.2.2.drop (0+a.2.1.toNat)).take (((Int.ofNat a.2.2.length).toNat) -a.2.1.toNat))) (0+((Int.ofNat (a.1.toNat+(((a.2.2.drop (0+a.2.1.toNat)).take (((Int.ofNat a.2.2.length).toNat) -a.2.1.toNat)).length))).toNat)) (List.replicate (((Int.ofNat a.2.2.length).toNat) - ((Int.ofNat (a.1.toNat+(((a.2.2.drop (0+a.2.1.toNat)).take (((Int.ofNat a.2.2.length).toNat) -a.2.1.toNat)).length))).toNat)) (0,0,0)))
          else
           none
         else
          none
       else
        none
      else
       none
     else
      none
   else
    none
 else
  none
def aBg:dW:=⟨[.i,.i,.l [.i .i64,.i .i64,.i .i64]],[.own 0 false,.int .i64 0,.int .i64 0],[.arr [.i .i64,.i .i64,.i .i64] []],[.n,.n,.l [.i .i64,.i .i64,.i .i64]],.pre 0 0 0 false,[.arr [.i .i64,.i .i64,.i .i64] []],fun a=>lQ a⟩
theorem ZB:lC aX 126 aBg:=lC.of aE3 (wd:=true) (cx:=(pW aG [] [] [] [])) (mM.make trivial trivial trivial) (fun a=>by kernel_rfl)
def lR (p0:aJ) (p1:Int):Option (aJ×(Int×Int)×Int):=
 (wX p0.certs p1).bind fun a0=>
 bif a0.2.2 !=0 then
  some (aJ.mk (0,0) (Field.mk []) (aT.mk 0 []) (aH.mk (aR.mk [] [] []) [] []) [],a0.2)
 else
  (jU p0).bind fun r1=>
  (pL p0.due p1).bind fun a2=>
  bif a2.2 then
   (aQ p0.due a2.1).bind fun a3=>
   (mH p0.agenda a3.2).bind fun a4=>
   bif a4.2.2 !=0 then
    some (aJ.mk (0,0) (Field.mk []) (aT.mk 0 []) (aH.mk (aR.mk [] [] []) [] []) [],a0.2.1,a4.2.2)
   else
    (lQ (a2.1,aA .i64 (a2.1+1),r1.due)).bind fun a5=>
    some (aJ.mk r1.now r1.field a0.1 a4.1 (a5.2.2.take a5.1),a0.2.1,0)
  else
   some (aJ.mk r1.now r1.field a0.1 r1.agenda r1.due,a0.2.1,0)
def c78:bL:=⟨aC.cons (aN.agg bJ) (aC.one (aN.int .i64)),aN.tup (aC.cons (aN.agg bJ) (aC.cons (aN.agg (bZ.row gZ)) (aC.one (aN.int .i64)))),fun a=>lR a.1 a.2,.frz,false⟩
theorem aBh:aM aX 78 c78:=aM.of aML (cx:=(pW aG [(123,aPy),(79,c79),(79,aBf),(124,aNo),(125,aNr)] [(126,aBg)] [] [])) rfl (mM.make ⟨aGV,PK,JP,XB,XE,trivial⟩ ⟨ZB,trivial⟩ trivial) (fun a=>by kernel_rfl)
def rR (p0:aJ) (p1:Int×Int):Option (aJ×(Int×Int×Int×Int×Int)×(Int×Int)×Int):=
 (tM p0 p1).bind fun a0=>
 bif a0.2==0 then
  bif !a0.1 then
   some (aJ.mk (0,0) (Field.mk []) (aT.mk 0 []) (aH.mk (aR.mk [] [] []) [] []) [],(0,0,0,0,0),(0,0),6)
  else
   bif a0.2 !=0 then
    some (aJ.mk (0,0) (Field.mk []) (aT.mk 0 []) (aH.mk (aR.mk [] [] []) [] []) [],(0,0,0,0,0),(0,0),a0.2)
   else
    (aQ p0.agenda.heap 0).bind fun a1=>
    (lR p0 a1.2.2.1).bind fun a2=>
    bif a2.2.2 !=0 then
     some (aJ.mk (0,0) (Field.mk []) (aT.mk 0 []) (aH.mk (aR.mk [] [] []) [] []) [],(0,0,0,0,0),(0,0),a2.2.2)
    else
     some (aJ.mk (a1.1,a1.2.1) a2.1.field a2.1.certs a2.1.agenda a2.1.due,a1,a2.2.1,0)
 else
  bif a0.2 !=0 then
   some (aJ.mk (0,0) (Field.mk []) (aT.mk 0 []) (aH.mk (aR.mk [] [] []) [] []) [],(0,0,0,0,0),(0,0),a0.2)
  else
   (aQ p0.agenda.heap 0).bind fun a3=>
   (lR p0 a3.2.2.1).bind fun a4=>
   bif a4.2.2 !=0 then
    some (aJ.mk (0,0) (Field.mk []) (aT.mk 0 []) (aH.mk (aR.mk [] [] []) [] []) [],(0,0,0,0,0),(0,0),a4.2.2)
   else
    some (aJ.mk (a3.1,a3.2.1) a4.1.field a4.1.certs a4.1.agenda a4.1.due,a3,a4.2.1,0)
def c37:bL:=⟨aC.cons (aN.agg bJ) (aC.one (aN.agg (bZ.row gZ))),aN.tup (aC.cons (aN.agg bJ) (aC.cons (aN.agg (bZ.row jD)) (aC.cons (aN.agg (bZ.row gZ)) (aC.one (aN.int .i64))))),fun a=>rR a.1 a.2,.frz,false⟩
theorem aNs:aM aX 37 c37:=Oc aMf rfl aG [(77,c77),(78,c78)] ⟨aBc,aBh,trivial⟩ fun a=>by kernel_rfl
def AO (p0:Int×Int×Int) (p1:Int):Option Int:=
 (fE p0.1 p1).bind fun n0=>
 some n0
def aPH:bL:=⟨aC.cons (aN.agg (bZ.row eX)) (aC.one (aN.int .i64)),aN.int .i64,fun a=>AO a.1 a.2,.pure,false⟩
theorem aG1:aM aX 163 aPH:=Oc aFz rfl aG [(164,UN)] ⟨C7,trivial⟩ fun a=>by kernel_rfl
def iQ (s:PH):Option aGH:=
 bif decide (s.2.2.2.1<s.2.2.2.2) then
  (aQ s.1 (aA .i64 (tE .u64 (aA .u64 (aA .i64 (s.2.2.2.1+s.2.2.2.2))) 1))).bind fun a0=>
  (AO a0 s.2.1).bind fun n1=>
  bif decide (n1<0) then
   some (.next (s.1,s.2.1,s.2.2.1,aA .i64 ((aA .i64 (tE .u64 (aA .u64 (aA .i64 (s.2.2.2.1+s.2.2.2.2))) 1))+1),s.2.2.2.2))
  else
   some (.next (s.1,s.2.1,s.2.2.1,s.2.2.2.1,aA .i64 (tE .u64 (aA .u64 (aA .i64 (s.2.2.2.1+s.2.2.2.2))) 1)))
 else
  bif decide (s.2.2.2.1<s.2.2.1) then
   (aQ s.1 s.2.2.2.1).bind fun a2=>
   (AO a2 s.2.1).bind fun n3=>
   some (.done (s.2.2.2.1,n3==0))
  else
   some (.done (s.2.2.2.1,false))
def cV (p0:List (Int×Int×Int)) (p1:Int) (_:Unit):Option (Int×Bool):=
 aI iQ (p0,p1,Int.ofNat p0.length,0,Int.ofNat p0.length)
def R5:bL:=⟨aC.cons (aN.sl eX) (aC.cons (aN.int .i64) (aC.one (aN.clo 163 aC.nil))),aN.tup (aC.cons (aN.int .i64) (aC.one aN.bool)),fun a=>cV a.1 a.2.1 a.2.2,.pure,false⟩
theorem R6:aM aX 162 R5:=Oc WX rfl aG [(163,aPH)] ⟨aG1,trivial⟩ fun a=>by kernel_rfl
def EZ (p0:Field) (p1:Int):Option (Int×Bool):=
 (cV p0.points p1 ()).bind fun a0=>
 some a0
def aPI:bL:=⟨aC.cons (aN.agg dA) (aC.one (aN.int .i64)),aN.tup (aC.cons (aN.int .i64) (aC.one aN.bool)),fun a=>EZ a.1 a.2,.pure,false⟩
theorem aG2:aM aX 112 aPI:=Oc aEP rfl aG [(162,R5)] ⟨R6,trivial⟩ fun a=>by kernel_rfl
def CJ (p0:Field) (p1:Int):Option (Int×Int):=
 (gE p0).bind fun n0=>
 bif n0 !=0 then
  some (0,n0)
 else
  (EZ p0 p1).bind fun a1=>
  bif !a1.2 then
   some (0,6)
  else
   some (a1.1,0)
def c62:bL:=⟨aC.cons (aN.agg dA) (aC.one (aN.int .i64)),aN.tup (aC.cons (aN.int .i64) (aC.one (aN.int .i64))),fun a=>CJ a.1 a.2,.pure,false⟩
theorem aNt:aM aX 62 c62:=Oc aMx rfl aG [(84,c84),(112,aPI)] ⟨LO,aG2,trivial⟩ fun a=>by kernel_rfl
def vR (p0:Field) (p1:Int):Option ((Int×Int×Int)×Int):=
 (CJ p0 p1).bind fun a0=>
 bif a0.2 !=0 then
  some ((0,0,0),a0.2)
 else
  (aQ p0.points a0.1).bind fun a1=>
  some (a1,0)
def aPJ:bL:=⟨aC.cons (aN.agg dA) (aC.one (aN.int .i64)),aN.tup (aC.cons (aN.agg (bZ.row eX)) (aC.one (aN.int .i64))),fun a=>vR a.1 a.2,.pure,false⟩
theorem aG3:aM aX 109 aPJ:=Oc aEN rfl aG [(62,c62)] ⟨aNt,trivial⟩ fun a=>by kernel_rfl
def vS (p0:aJ):Option aJ:=
 (cB p0.field.points).bind fun l0=>
 (cB p0.certs.list).bind fun l1=>
 (cB p0.due).bind fun l2=>
 (cB p0.agenda.heap).bind fun l3=>
 (cB p0.agenda.where_).bind fun l4=>
 (cB p0.agenda.slots.uses).bind fun l5=>
 (cB p0.agenda.slots.used).bind fun l6=>
 (cB p0.agenda.slots.free).bind fun l7=>
 some (aJ.mk p0.now (Field.mk l0) (aT.mk p0.certs.next_ l1) (aH.mk (aR.mk l5 l6 l7) l3 l4) l2)
def aPK:bL:=⟨aC.one (aN.agg bJ),aN.agg bJ,fun a=>vS a,.own,true⟩
def aIG:bL:=⟨aC.one (aN.agg bJ),aN.agg bJ,fun a=>vS a,.frz,false⟩
theorem aG4:aM aX 111 aPK:=Oc WW rfl aG [(64,bL.clone eX),(127,bL.clone eX),(128,bL.clone eX),(129,bL.clone jD),(130,bL.clone ki),(131,bL.clone kb)] ⟨F9,yX,GA,vQ,qJ,vO,trivial⟩ fun a=>by kernel_rfl
theorem aBi:aM aX 111 aIG:=Oc WW rfl aG [(64,bL.clone eX),(127,bL.clone eX),(128,bL.clone eX),(129,bL.clone jD),(130,bL.clone ki),(131,bL.clone kb)] ⟨F9,yX,GA,vQ,qJ,vO,trivial⟩ fun a=>by kernel_rfl
def uR (p0:aJ) (p1:Int):Option (aJ×Int):=
 (gF p0).bind fun n0=>
 bif n0 !=0 then
  some (aJ.mk (0,0) (Field.mk []) (aT.mk 0 []) (aH.mk (aR.mk [] [] []) [] []) [],n0)
 else
  (lR p0 p1).bind fun a1=>
  some (a1.1,a1.2.2)
def aPL:bL:=⟨aC.cons (aN.agg bJ) (aC.one (aN.int .i64)),aN.tup (aC.cons (aN.agg bJ) (aC.one (aN.int .i64))),fun a=>uR a.1 a.2,.frz,false⟩
theorem aG5:aM aX 157 aPL:=Oc aFu rfl aG [(49,c49),(78,c78)] ⟨HN,aBh,trivial⟩ fun a=>by kernel_rfl
def iY (s:aNj):Option aPt:=
 bif decide (s.2.2.2<s.2.2.1) then
  (aQ s.1 s.2.2.2).bind fun a0=>
  (aQ s.2.1 s.2.2.2).bind fun a1=>
  bif !((a0.1==a1.1)&&((a0.2.1==a1.2.1)&&(a0.2.2==a1.2.2))) then
   some (.done false)
  else
   some (.next (s.1,s.2.1,s.2.2.1,aA .i64 (s.2.2.2+1)))
 else
  some (.done true)
def iR (p0:List (Int×Int×Int)) (p1:List (Int×Int×Int)):Option Bool:=
 bif (Int.ofNat p0.length) !=(Int.ofNat p1.length) then
  some false
 else
  aI iY (p0,p1,Int.ofNat p0.length,0)
def aPM:bL:=⟨aC.cons (aN.sl eX) (aC.one (aN.sl eX)),aN.bool,fun a=>iR a.1 a.2,.pure,false⟩
theorem aG6:aM aX 158 aPM:=Oc aFv rfl aG [] trivial fun a=>by kernel_rfl
abbrev aG7:=(List Int)×(List Bool)×(List Int)×Int×Int×Int×Int×Int×Int×jM×(List Int)
def bU (a:aG7):Option MY:=
 (aQ a.2.2.2.2.2.2.2.2.2.1 a.2.2.2.1).bind fun _=>
 (aQ a.2.2.2.2.2.2.2.2.2.2 a.2.2.2.2.2.2.2.1).bind fun _=>
 bif ((bY a.2.2.2.2.2.2.2.2.2.1 a.2.2.2.1 (a.2.2.2.2.1,a.2.2.2.2.2.1,a.2.2.2.2.2.2.1,a.2.2.2.2.2.2.2.1,a.2.2.2.2.2.2.2.2.1)).length)==a.2.2.2.2.2.2.2.2.2.1.length then
  bif ((bY a.2.2.2.2.2.2.2.2.2.2 a.2.2.2.2.2.2.2.1 a.2.2.2.1).length)==a.2.2.2.2.2.2.2.2.2.2.length then
   some (bY a.2.2.2.2.2.2.2.2.2.1 a.2.2.2.1 (a.2.2.2.2.1,a.2.2.2.2.2.1,a.2.2.2.2.2.2.1,a.2.2.2.2.2.2.2.1,a.2.2.2.2.2.2.2.2.1),bY a.2.2.2.2.2.2.2.2.2.2 a.2.2.2.2.2.2.2.1 a.2.2.2.1)
  else
   none
 else
  none
def aBj:dW:=⟨[.l [.i .i64],.l [.b],.l [.i .i64],.i,.i,.i,.i,.i,.i,.l [.i .i64,.i .i64,.i .i64,.i .i64,.i .i64],.l [.i .i64]],[.agg [.sl [.i .i64] [],.sl [.b] [],.sl [.i .i64] [],.own 0 false,.own 1 false],.int .i64 0,.agg [.int .i64 0,.int .i64 0,.int .i64 0,.int .i64 0,.int .i64 0]],[.arr [.i .i64,.i .i64,.i .i64,.i .i64,.i .i64] [],.arr [.i .i64] []],[.l [.i .i64,.i .i64,.i .i64,.i .i64,.i .i64],.l [.i .i64]],.tup [],[.arr [.i .i64,.i .i64,.i .i64,.i .i64,.i .i64] [],.arr [.i .i64] []],fun a=>bU a⟩
theorem ZC:lC aX 222 aBj:=lC.of W3 (wd:=false) (cx:=(pW aG [] [] [] [])) (mM.make trivial trivial trivial) (fun a=>by kernel_rfl)
abbrev aPN:=Int×jM×(List Int)×(List Int)×(List Bool)×(List Int)×Int×Int×Int×Int×Int
abbrev aPO:=cL aPN MY
abbrev aPP:=Int×Int×jM×(List Int)×(List Int)×(List Bool)×(List Int)×Int×Int×Int×Int×Int
def gA (c0:aG7) (s:aPP):Option (cL aPP aPO):=
 match s with
 |(a,b,d,e,f,g,h,i,j,k,l,m)=>
  bif decide (b<(Int.ofNat d.length)) then
   bif decide ((aA .i64 (b+1))<(Int.ofNat d.length)) then
    (aQ d (aA .i64 (b+1))).bind fun a0=>
    (aQ d b).bind fun a1=>
    (cC a0 a1).bind fun n2=>
    bif decide (n2<0) then
     (aQ d (aA .i64 (b+1))).bind fun a3=>
     (cC a3 (i,j,k,l,m)).bind fun n4=>
     bif decide (0<=n4) then
      (bU (f,g,h,a,i,j,k,l,m,d,e)).bind fun a5=>
      bif a5.1.length==c0.2.2.2.2.2.2.2.2.2.1.length then
       bif a5.2.length==c0.2.2.2.2.2.2.2.2.2.2.length then
        some (.done (.done a5))
       else
        none
      else
       none
     else
      (aQ d (aA .i64 (b+1))).bind fun a6=>
      (bU (f,g,h,a,a6.1,a6.2.1,a6.2.2.1,a6.2.2.2.1,a6.2.2.2.2,d,e)).bind fun a7=>
      some (.next (aA .i64 (b+1),aA .i64 ((aA .i64 (2*(aA .i64 (b+1))))+1),a7.1,a7.2,(f,g,h,i,j,k,l,m)))
    else
     (aQ d b).bind fun a8=>
     (cC a8 (i,j,k,l,m)).bind fun n9=>
     bif decide (0<=n9) then
      (bU (f,g,h,a,i,j,k,l,m,d,e)).bind fun a10=>
      bif a10.1.length==c0.2.2.2.2.2.2.2.2.2.1.length then
       bif a10.2.length==c0.2.2.2.2.2.2.2.2.2.2.length then
        some (.done (.done a10))
       else
        none
      else
       none
     else
      (aQ d b).bind fun a11=>
      (bU (f,g,h,a,a11.1,a11.2.1,a11.2.2.1,a11.2.2.2.1,a11.2.2.2.2,d,e)).bind fun a12=>
      some (.next (b,aA .i64 ((aA .i64 (2*b))+1),a12.1,a12.2,(f,g,h,i,j,k,l,m)))
   else
    (aQ d b).bind fun a13=>
    (cC a13 (i,j,k,l,m)).bind fun n14=>
    bif decide (0<=n14) then
     (bU (f,g,h,a,i,j,k,l,m,d,e)).bind fun a15=>
     bif a15.1.length==c0.2.2.2.2.2.2.2.2.2.1.length then
      bif a15.2.length==c0.2.2.2.2.2.2.2.2.2.2.length then
       some (.done (.done a15))
      else
       none
     else
      none
    else
     (aQ d b).bind fun a16=>
     (bU (f,g,h,a,a16.1,a16.2.1,a16.2.2.1,a16.2.2.2.1,a16.2.2.2.2,d,e)).bind fun a17=>
     some (.next (b,aA .i64 ((aA .i64 (2*b))+1),a17.1,a17.2,(f,g,h,i,j,k,l,m)))
  else
   (bU (f,g,h,a,i,j,k,l,m,d,e)).bind fun a18=>
   bif a18.1.length==c0.2.2.2.2.2.2.2.2.2.1.length then
    bif a18.2.length==c0.2.2.2.2.2.2.2.2.2.2.length then
     some (.done (.done a18))
    else
     none
   else
    none
def eF (c0:aG7) (s:aPN):Option aPO:=
 bif decide (0<s.1) then
  (aQ s.2.1 (aA .i64 (Int.tdiv (aA .i64 (s.1-1)) 2))).bind fun a0=>
  (cC s.2.2.2.2.2.2 a0).bind fun n1=>
  bif decide (n1<0) then
   (aQ s.2.1 (aA .i64 (Int.tdiv (aA .i64 (s.1-1)) 2))).bind fun a2=>
   (bU (s.2.2.2.1,s.2.2.2.2.1,s.2.2.2.2.2.1,s.1,a2.1,a2.2.1,a2.2.2.1,a2.2.2.2.1,a2.2.2.2.2,s.2.1,s.2.2.1)).bind fun a3=>
   some (.next (aA .i64 (Int.tdiv (aA .i64 (s.1-1)) 2),a3.1,a3.2,s.2.2.2))
  else
   aI (gA c0) (s.1,aA .i64 ((aA .i64 (2*s.1))+1),s.2)
 else
  aI (gA c0) (s.1,aA .i64 ((aA .i64 (2*s.1))+1),s.2)
def eO (a:aG7):Option MY:=
 aI (eF a) (a.2.2.2.1,a.2.2.2.2.2.2.2.2.2.1,a.2.2.2.2.2.2.2.2.2.2,a.1,a.2.1,a.2.2.1,a.2.2.2.2.1,a.2.2.2.2.2.1,a.2.2.2.2.2.2.1,a.2.2.2.2.2.2.2.1,a.2.2.2.2.2.2.2.2.1)
def UT:dW:=⟨[.l [.i .i64],.l [.b],.l [.i .i64],.i,.i,.i,.i,.i,.i,.l [.i .i64,.i .i64,.i .i64,.i .i64,.i .i64],.l [.i .i64]],[.agg [.sl [.i .i64] [],.sl [.b] [],.sl [.i .i64] [],.own 0 false,.own 1 false],.int .i64 0,.agg [.int .i64 0,.int .i64 0,.int .i64 0,.int .i64 0,.int .i64 0]],[.arr [.i .i64,.i .i64,.i .i64,.i .i64,.i .i64] [],.arr [.i .i64] []],[.l [.i .i64,.i .i64,.i .i64,.i .i64,.i .i64],.l [.i .i64]],.tup [],[.arr [.i .i64,.i .i64,.i .i64,.i .i64,.i .i64] [],.arr [.i .i64] []],fun a=>eO a⟩
theorem NV:lC aX 208 UT:=lC.of WZ (wd:=false) (cx:=(pW aG [(143,aGF)] [(222,US),(222,aBj)] [] [])) (mM.make ⟨PG,trivial⟩ ⟨NU,ZC,trivial⟩ trivial) (fun a=>by kernel_rfl)
def uS (p0:aH) (p1:Int×Int) (p2:Int×Int):Option (aH×Int):=
 (jN p0).bind fun n0=>
 (fI p2).bind fun n1=>
 bif (if n1>n0 then n1 else n0) !=0 then
  some (aH.mk (aR.mk [] [] []) [] [],if n1>n0 then n1 else n0)
 else
  (qK p0 p1).bind fun a2=>
  bif a2.2 !=0 then
   some (aH.mk (aR.mk [] [] []) [] [],a2.2)
  else
   (cB p0.heap).bind fun l3=>
   (cB p0.where_).bind fun l4=>
   (aQ l3 a2.1).bind fun a5=>
   (eO (p0.slots.uses,p0.slots.used,p0.slots.free,a2.1,p2.1,p2.2,a5.2.2.1,a5.2.2.2.1,a5.2.2.2.2,l3,l4)).bind fun a6=>
   some (aH.mk p0.slots a6.1 a6.2,0)
def aPQ:bL:=⟨aC.cons (aN.agg cU) (aC.cons (aN.agg (bZ.row gZ)) (aC.one (aN.agg (bZ.row gZ)))),aN.tup (aC.cons (aN.agg cU) (aC.one (aN.int .i64))),fun a=>uS a.1 a.2.1 a.2.2,.frz,false⟩
theorem aG8:aM aX 193 aPQ:=aM.of aF2 (cx:=(pW aG [(92,c92),(35,c35),(178,aNq),(129,bL.clone jD),(130,bL.clone ki)] [(208,PL),(208,UT)] [(207,Y7)] [])) rfl (mM.make ⟨LP,AI,XD,vQ,qJ,trivial⟩ ⟨HP,NV,trivial⟩ ⟨PC,trivial⟩) (fun a=>by kernel_rfl)
def xY (p0:Int×Int×Int×Int×Int) (p1:Int):Option Bool:=
 some (p0.2.2.1==p1)
def aPR:bL:=⟨aC.cons (aN.agg (bZ.row jD)) (aC.one (aN.ref (bZ.int .i64))),aN.bool,fun a=>xY a.1 a.2,.pure,false⟩
theorem aG9:aM aX 217 aPR:=Oc aGk rfl aG [] trivial fun a=>by kernel_rfl
def cO (s:(jM×Int×Int×Int)):Option (cL (jM×Int×Int×Int) Int):=
 bif decide (s.2.2.2<s.2.2.1) then
  (aQ s.1 s.2.2.2).bind fun a0=>
  (xY a0 s.2.1).bind fun b1=>
  bif b1 then
   some (.done s.2.2.2)
  else
   some (.next (s.1,s.2.1,s.2.2.1,aA .i64 (s.2.2.2+1)))
 else
  some (.done (-1))
def eG (p0:List (Int×Int×Int×Int×Int)) (p1:Int):Option Int:=
 aI cO (p0,p1,Int.ofNat p0.length,0)
def R7:bL:=⟨aC.cons (aN.sl jD) (aC.one (aN.clo 217 (aC.one (aN.ref (bZ.int .i64))))),aN.int .i64,fun a=>eG a.1 a.2,.pure,false⟩
theorem R8:aM aX 226 R7:=Oc aGr rfl aG [(217,aPR)] ⟨aG9,trivial⟩ fun a=>by kernel_rfl
def cP (p0:List (Int×Int×Int×Int×Int)) (p1:Int):Option Bool:=
 (eG p0 p1).bind fun n0=>
 some (decide (0<=n0))
def R9:bL:=⟨aC.cons (aN.sl jD) (aC.one (aN.clo 217 (aC.one (aN.ref (bZ.int .i64))))),aN.bool,fun a=>cP a.1 a.2,.pure,false⟩
theorem SA:aM aX 216 R9:=Oc aGj rfl aG [(226,R7)] ⟨R8,trivial⟩ fun a=>by kernel_rfl
def vT (p0:List Int):Option ((List Int)×Int):=
 (jC p0 0 (aA .i64 ((Int.ofNat p0.length) -1))).bind fun l0=>
 (cB l0).bind fun l1=>
 (aQ p0 (aA .i64 ((Int.ofNat p0.length) -1))).bind fun n2=>
 some (l1,n2)
def aPS:bL:=⟨aC.one (aN.sl ki),aN.tup (aC.cons (aN.sl ki) (aC.one (aN.int .i64))),fun a=>vT a,.frz,false⟩
theorem aHa:aM aX 227 aPS:=Oc aGs rfl aG [(228,bL.clone ki)] ⟨R4,trivial⟩ fun a=>by kernel_rfl
def DA (p0:aR):Option (aR×(Int×Int)×Int):=
 (rM p0).bind fun n0=>
 bif n0 !=0 then
  some (aR.mk [] [] [],(0,0),n0)
 else
  bif (Int.ofNat p0.free.length)==0 then
   some (aR.mk [] [] [],(0,0),18)
  else
   (vT p0.free).bind fun a1=>
   (aQ p0.uses a1.2).bind fun n2=>
   bif n2==1000000 then
    some (aR.mk [] [] [],(0,0),18)
   else
    (cB p0.uses).bind fun l3=>
    (cB p0.used).bind fun l4=>
    (aQ l4 a1.2).bind fun _=>
    (aQ l3 a1.2).bind fun n6=>
    (aQ l3 a1.2).bind fun _=>
    (aQ (bY l3 a1.2 (aA .i64 (n6+1))) a1.2).bind fun n8=>
    some (aR.mk (bY l3 a1.2 (aA .i64 (n6+1))) (bY l4 a1.2 true) a1.1,(a1.2,n8),0)
def aPT:bL:=⟨aC.one (aN.agg gG),aN.tup (aC.cons (aN.agg gG) (aC.cons (aN.agg (bZ.row gZ)) (aC.one (aN.int .i64)))),fun a=>DA a,.frz,false⟩
theorem aHb:aM aX 218 aPT:=aM.of aGl (cx:=(pW aG [(142,aGA),(227,aPS),(130,bL.clone ki),(131,bL.clone kb)] [] [(220,aAX)] [])) rfl (mM.make ⟨PF,aHa,qJ,vO,trivial⟩ trivial ⟨W0,trivial⟩) (fun a=>by kernel_rfl)
def lJ (p0:aH) (p1:Int×Int) (p2:Int):Option (aH×(Int×Int)×Int):=
 (jN p0).bind fun n0=>
 (fI p1).bind fun n1=>
 bif (if n1>n0 then n1 else n0) !=0 then
  some (aH.mk (aR.mk [] [] []) [] [],(0,0),if n1>n0 then n1 else n0)
 else
  bif decide (p2<0) then
   some (aH.mk (aR.mk [] [] []) [] [],(0,0),2)
  else
   bif decide (1000000<p2) then
    some (aH.mk (aR.mk [] [] []) [] [],(0,0),2)
   else
    (cP p0.heap p2).bind fun b2=>
    bif b2 then
     some (aH.mk (aR.mk [] [] []) [] [],(0,0),14)
    else
     (DA p0.slots).bind fun a3=>
     bif a3.2.2 !=0 then
      some (aH.mk (aR.mk [] [] []) [] [],(0,0),a3.2.2)
     else
      (cB p0.heap).bind fun l4=>
      (cB p0.where_).bind fun l5=>
      (bI l4 [(p1.1,p1.2,p2,a3.2.1)]).bind fun l6=>
      (eO (a3.1.uses,a3.1.used,a3.1.free,aA .i64 ((Int.ofNat l6.length) -1),p1.1,p1.2,p2,a3.2.1.1,a3.2.1.2,l6,l5)).bind fun a7=>
      some (aH.mk a3.1 a7.1 a7.2,a3.2.1,0)
def aNu:bL:=⟨aC.cons (aN.agg cU) (aC.cons (aN.agg (bZ.row gZ)) (aC.one (aN.int .i64))),aN.tup (aC.cons (aN.agg cU) (aC.cons (aN.agg (bZ.row gZ)) (aC.one (aN.int .i64)))),fun a=>lJ a.1 a.2.1 a.2.2,.frz,false⟩
theorem XF:aM aX 194 aNu:=aM.of aF3 (cx:=(pW aG [(92,c92),(35,c35),(216,R9),(218,aPT),(129,bL.clone jD),(130,bL.clone ki)] [(208,PL),(208,UT)] [(207,Y7)] [])) rfl (mM.make ⟨LP,AI,SA,aHb,vQ,qJ,trivial⟩ ⟨HP,NV,trivial⟩ ⟨PC,trivial⟩) (fun a=>by kernel_rfl)
abbrev Zt3:=bO×Int×Int×Int×Int×bO×Int×bO×(List Int)×(List Bool)×(List Int)×jM×(List Int)×bO×bO×Int×Int×Int×Int×Int×Int×bO×(List Int)×(List Bool)×(List Int)×jM×(List Int)×bO×bO
abbrev aPU:=bO×Int×Int×Int×Int×bO×Int×bO×(List Int)×(List Bool)×(List Int)×jM×(List Int)×bO×bO×Int×Int×Int
abbrev Zt7:=cL aPU (aJ×Int)
def dG (s:Zt3):Option (cL Zt3 Zt7):=
 match s with
 |(a,b,d,e,f,g,h,i,j,k,l,m,n,o,q,r,t,u,v,w,x,y,z,A,B,C,D,E,F)=>
  bif decide (d<b) then
   (aQ a d).bind fun a0=>
   (rQ (Field.mk q) a0.2 (e,f)).bind fun a1=>
   (pL o a0.1).bind fun a2=>
   bif a1.2.1 then
    bif a2.2 then
     (aQ o a2.1).bind fun a3=>
     (uS (aH.mk (aR.mk z A B) C D) a3.2 a1.1).bind fun a4=>
     (aQ o a2.1).bind fun a5=>
     (bI F [a5]).bind fun l6=>
     bif a4.2 !=0 then
      some (.done (.done (aJ.mk (0,0) (Field.mk []) (aT.mk 0 []) (aH.mk (aR.mk [] [] []) [] []) [],a4.2)))
     else
      some (.next (a,b,aA .i64 (d+1),e,f,g,h,i,j,k,l,m,n,o,q,r,t,u,v,w,x,y,a4.1.slots.uses,a4.1.slots.used,a4.1.slots.free,a4.1.heap,a4.1.where_,E,l6))
    else
     bif a1.2.1 then
      (lJ (aH.mk (aR.mk z A B) C D) a1.1 a0.1).bind fun a7=>
      (bI F [(a0.1,a7.2.1)]).bind fun l8=>
      bif a7.2.2 !=0 then
       some (.done (.done (aJ.mk (0,0) (Field.mk []) (aT.mk 0 []) (aH.mk (aR.mk [] [] []) [] []) [],a7.2.2)))
      else
       some (.next (a,b,aA .i64 (d+1),e,f,g,h,i,j,k,l,m,n,o,q,r,t,u,v,w,x,y,a7.1.slots.uses,a7.1.slots.used,a7.1.slots.free,a7.1.heap,a7.1.where_,E,l8))
     else
      bif a2.2 then
       (aQ o a2.1).bind fun a9=>
       (mH (aH.mk (aR.mk z A B) C D) a9.2).bind fun a10=>
       bif a10.2.2 !=0 then
        some (.done (.done (aJ.mk (0,0) (Field.mk []) (aT.mk 0 []) (aH.mk (aR.mk [] [] []) [] []) [],a10.2.2)))
       else
        some (.next (a,b,aA .i64 (d+1),e,f,g,h,i,j,k,l,m,n,o,q,r,t,u,v,w,x,y,a10.1.slots.uses,a10.1.slots.used,a10.1.slots.free,a10.1.heap,a10.1.where_,(E,F)))
      else
       bif a1.2.2 !=0 then
        some (.done (.done (aJ.mk (0,0) (Field.mk []) (aT.mk 0 []) (aH.mk (aR.mk [] [] []) [] []) [],a1.2.2)))
       else
        some (.next (a,b,aA .i64 (d+1),(e,f,g,h,i,j,k,l,m,n,o,q,r,t,u,v,w,x,y,z,A,B,C,D,E,F)))
   else
    bif a1.2.1 then
     (lJ (aH.mk (aR.mk z A B) C D) a1.1 a0.1).bind fun a11=>
     (bI F [(a0.1,a11.2.1)]).bind fun l12=>
     bif a11.2.2 !=0 then
      some (.done (.done (aJ.mk (0,0) (Field.mk []) (aT.mk 0 []) (aH.mk (aR.mk [] [] []) [] []) [],a11.2.2)))
     else
      some (.next (a,b,aA .i64 (d+1),e,f,g,h,i,j,k,l,m,n,o,q,r,t,u,v,w,x,y,a11.1.slots.uses,a11.1.slots.used,a11.1.slots.free,a11.1.heap,a11.1.where_,E,l12))
    else
     bif a2.2 then
      (aQ o a2.1).bind fun a13=>
      (mH (aH.mk (aR.mk z A B) C D) a13.2).bind fun a14=>
      bif a14.2.2 !=0 then
       some (.done (.done (aJ.mk (0,0) (Field.mk []) (aT.mk 0 []) (aH.mk (aR.mk [] [] []) [] []) [],a14.2.2)))
      else
       some (.next (a,b,aA .i64 (d+1),e,f,g,h,i,j,k,l,m,n,o,q,r,t,u,v,w,x,y,a14.1.slots.uses,a14.1.slots.used,a14.1.slots.free,a14.1.heap,a14.1.where_,(E,F)))
     else
      bif a1.2.2 !=0 then
       some (.done (.done (aJ.mk (0,0) (Field.mk []) (aT.mk 0 []) (aH.mk (aR.mk [] [] []) [] []) [],a1.2.2)))
      else
       some (.next (a,b,aA .i64 (d+1),(e,f,g,h,i,j,k,l,m,n,o,q,r,t,u,v,w,x,y,z,A,B,C,D,E,F)))
  else
   some (.done (.done (aJ.mk (v,w) (Field.mk E) (aT.mk x y) (aH.mk (aR.mk z A B) C D) F,0)))
def kN (s:aPU):Option Zt7:=
 bif decide (s.2.2.1<s.2.1) then
  (aQ s.1 s.2.2.1).bind fun a0=>
  (jO (Field.mk s.2.2.2.2.2.2.2.2.2.2.2.2.2.2.1) a0.2.1).bind fun a1=>
  bif decide (a1.1<0) then
   some (.done (aJ.mk (0,0) (Field.mk []) (aT.mk 0 []) (aH.mk (aR.mk [] [] []) [] []) [],6))
  else
   (jO (Field.mk s.2.2.2.2.2.2.2.2.2.2.2.2.2.2.1) a0.2.2).bind fun a2=>
   bif decide (a2.1<0) then
    some (.done (aJ.mk (0,0) (Field.mk []) (aT.mk 0 []) (aH.mk (aR.mk [] [] []) [] []) [],6))
   else
    some (.next (s.1,s.2.1,aA .i64 (s.2.2.1+1),s.2.2.2))
 else
  (jU (aJ.mk (s.2.2.2.1,s.2.2.2.2.1) (Field.mk s.2.2.2.2.2.1) (aT.mk s.2.2.2.2.2.2.1 s.2.2.2.2.2.2.2.1) (aH.mk (aR.mk s.2.2.2.2.2.2.2.2.1 s.2.2.2.2.2.2.2.2.2.1 s.2.2.2.2.2.2.2.2.2.2.1) s.2.2.2.2.2.2.2.2.2.2.2.1 s.2.2.2.2.2.2.2.2.2.2.2.2.1) s.2.2.2.2.2.2.2.2.2.2.2.2.2.1)).bind fun r3=>
  (cB s.2.2.2.2.2.2.2.2.2.2.2.2.2.2.1).bind fun l4=>
  aI dG (s.2.2.2.2.2.2.2.1,Int.ofNat s.2.2.2.2.2.2.2.1.length,0,s.2.2.2.1,s.2.2.2.2.1,s.2.2.2.2.2.1,s.2.2.2.2.2.2.1,s.2.2.2.2.2.2.2.1,s.2.2.2.2.2.2.2.2.1,s.2.2.2.2.2.2.2.2.2.1,s.2.2.2.2.2.2.2.2.2.2.1,s.2.2.2.2.2.2.2.2.2.2.2.1,s.2.2.2.2.2.2.2.2.2.2.2.2.1,s.2.2.2.2.2.2.2.2.2.2.2.2.2.1,s.2.2.2.2.2.2.2.2.2.2.2.2.2.2.1,s.2.2.2.2.2.2.2.2.2.2.2.2.2.2.2.1,s.2.2.2.2.2.2.2.2.2.2.2.2.2.2.2.2.1,s.2.2.2.2.2.2.2.2.2.2.2.2.2.2.2.2.2,r3.now.1,r3.now.2,r3.certs.next_,r3.certs.list,r3.agenda.slots.uses,r3.agenda.slots.used,r3.agenda.slots.free,r3.agenda.heap,r3.agenda.where_,l4,[])
def pM (p0:aJ) (p1:Field):Option (aJ×Int):=
 (gF p0).bind fun n0=>
 bif n0 !=0 then
  some (aJ.mk (0,0) (Field.mk []) (aT.mk 0 []) (aH.mk (aR.mk [] [] []) [] []) [],n0)
 else
  (gE p1).bind fun n1=>
  bif n1 !=0 then
   some (aJ.mk (0,0) (Field.mk []) (aT.mk 0 []) (aH.mk (aR.mk [] [] []) [] []) [],n1)
  else
   aI kN (p0.certs.list,Int.ofNat p0.certs.list.length,0,p0.now.1,p0.now.2,p0.field.points,p0.certs.next_,p0.certs.list,p0.agenda.slots.uses,p0.agenda.slots.used,p0.agenda.slots.free,p0.agenda.heap,p0.agenda.where_,p0.due,p1.points,0,0,0)
def aPV:bL:=⟨aC.cons (aN.agg bJ) (aC.one (aN.agg dA)),aN.tup (aC.cons (aN.agg bJ) (aC.one (aN.int .i64))),fun a=>pM a.1 a.2,.frz,false⟩
theorem aHc:aM aX 159 aPV:=Oc aFw rfl aG [(49,c49),(84,c84),(145,aGI),(79,c79),(79,aBf),(64,bL.clone eX),(93,c93),(124,aNo),(193,aPQ),(194,aNu),(125,aNr)] ⟨HN,LO,PI,PK,JP,F9,UO,XB,aG8,XF,XE,trivial⟩ fun a=>by kernel_rfl
def D4 (p0:Int×Int×Int) (p1:Int×Int):Option Bool:=
 some ((p0.2.1==p1.1)&&(p0.2.2==p1.2))
def aPW:bL:=⟨aC.cons (aN.agg (bZ.row eX)) (aC.one (aN.ref (bZ.row gZ))),aN.bool,fun a=>D4 a.1 a.2,.pure,false⟩
theorem aHd:aM aX 160 aPW:=Oc aFx rfl aG [] trivial fun a=>by kernel_rfl
def mR (s:PH):Option (cL PH Int):=
 bif decide (s.2.2.2.2<s.2.2.2.1) then
  (aQ s.1 s.2.2.2.2).bind fun a0=>
  (D4 a0 (s.2.1,s.2.2.1)).bind fun b1=>
  bif b1 then
   some (.done s.2.2.2.2)
  else
   some (.next (s.1,s.2.1,s.2.2.1,s.2.2.2.1,aA .i64 (s.2.2.2.2+1)))
 else
  some (.done (-1))
def iC (p0:List (Int×Int×Int)) (p1:(Int×Int)):Option Int:=
 aI mR (p0,p1.1,p1.2,Int.ofNat p0.length,0)
def SC:bL:=⟨aC.cons (aN.sl eX) (aC.one (aN.clo 160 (aC.one (aN.ref (bZ.row gZ))))),aN.int .i64,fun a=>iC a.1 a.2,.pure,false⟩
theorem SD:aM aX 147 SC:=Oc O9 rfl aG [(160,aPW)] ⟨aHd,trivial⟩ fun a=>by kernel_rfl
def dV (p0:List (Int×Int×Int)) (p1:(Int×Int)):Option Bool:=
 (iC p0 p1).bind fun n0=>
 some (decide (0<=n0))
def XG:bL:=⟨aC.cons (aN.sl eX) (aC.one (aN.clo 160 (aC.one (aN.ref (bZ.row gZ))))),aN.bool,fun a=>dV a.1 a.2,.pure,false⟩
theorem UU:aM aX 96 XG:=Oc UH rfl aG [(147,SC)] ⟨SD,trivial⟩ fun a=>by kernel_rfl
def dF (p0:Int):Option (aJ×Int×Int):=
 some (aJ.mk (0,0) (Field.mk []) (aT.mk 0 []) (aH.mk (aR.mk [] [] []) [] []) [],0,p0)
def aPX:bL:=⟨aC.one (aN.int .i64),aN.tup (aC.cons (aN.agg bJ) (aC.cons (aN.int .i64) (aC.one (aN.int .i64)))),fun a=>dF a,.frz,false⟩
theorem aHe:aM aX 195 aPX:=Oc aF4 rfl aG [] trivial fun a=>by kernel_rfl
def E0 (p0:Int×Int×Int) (p1:Int×Int):Option Bool:=
 some ((p0.2.1==p1.1)&&(p0.2.2==p1.2))
def aPY:bL:=⟨aC.cons (aN.agg (bZ.row eX)) (aC.one (aN.ref (bZ.row gZ))),aN.bool,fun a=>E0 a.1 a.2,.pure,false⟩
theorem aHf:aM aX 219 aPY:=Oc aGm rfl aG [] trivial fun a=>by kernel_rfl
def dE (s:PH):Option (cL PH Int):=
 bif decide (s.2.2.2.2<s.2.2.2.1) then
  (aQ s.1 s.2.2.2.2).bind fun a0=>
  (E0 a0 (s.2.1,s.2.2.1)).bind fun b1=>
  bif b1 then
   some (.done s.2.2.2.2)
  else
   some (.next (s.1,s.2.1,s.2.2.1,s.2.2.2.1,aA .i64 (s.2.2.2.2+1)))
 else
  some (.done (-1))
def fO (p0:List (Int×Int×Int)) (p1:(Int×Int)):Option Int:=
 aI dE (p0,p1.1,p1.2,Int.ofNat p0.length,0)
def SF:bL:=⟨aC.cons (aN.sl eX) (aC.one (aN.clo 219 (aC.one (aN.ref (bZ.row gZ))))),aN.int .i64,fun a=>fO a.1 a.2,.pure,false⟩
theorem SG:aM aX 147 SF:=Oc O9 rfl aG [(219,aPY)] ⟨aHf,trivial⟩ fun a=>by kernel_rfl
def cD (p0:List (Int×Int×Int)) (p1:(Int×Int)):Option Bool:=
 (fO p0 p1).bind fun n0=>
 some (decide (0<=n0))
def XH:bL:=⟨aC.cons (aN.sl eX) (aC.one (aN.clo 219 (aC.one (aN.ref (bZ.row gZ))))),aN.bool,fun a=>cD a.1 a.2,.pure,false⟩
theorem UV:aM aX 96 XH:=Oc UH rfl aG [(147,SF)] ⟨SG,trivial⟩ fun a=>by kernel_rfl
def GB (p0:aT) (p1:Int×Int):Option (aT×Int×Int):=
 (rL p0).bind fun n0=>
 bif n0 !=0 then
  some (aT.mk 0 [],0,n0)
 else
  (vN p1).bind fun b1=>
  bif !b1 then
   some (aT.mk 0 [],0,8)
  else
   (cD p0.list p1).bind fun b2=>
   bif b2 then
    some (aT.mk 0 [],0,14)
   else
    bif (Int.ofNat p0.list.length)==200 then
     some (aT.mk 0 [],0,18)
    else
     bif p0.next_==1000000 then
      some (aT.mk 0 [],0,18)
     else
      (cB p0.list).bind fun l3=>
      (bI l3 [(p0.next_,p1)]).bind fun l4=>
      some (aT.mk (aA .i64 (p0.next_+1)) l4,p0.next_,0)
def aPZ:bL:=⟨aC.cons (aN.agg gH) (aC.one (aN.agg (bZ.row gZ))),aN.tup (aC.cons (aN.agg gH) (aC.cons (aN.int .i64) (aC.one (aN.int .i64)))),fun a=>GB a.1 a.2,.frz,false⟩
theorem aHg:aM aX 196 aPZ:=Oc aF5 rfl aG [(91,c91),(141,aM9),(96,XH),(127,bL.clone eX)] ⟨UL,W6,UV,yX,trivial⟩ fun a=>by kernel_rfl
def iI (p0:aJ) (p1:Int×Int):Option (aJ×Int×Int):=
 (gF p0).bind fun n0=>
 bif n0 !=0 then
  (dF n0).bind fun a1=>
  some a1
 else
  (GB p0.certs p1).bind fun a2=>
  bif a2.2.2==8 then
   (dF a2.2.2).bind fun a3=>
   some a3
  else
   (jO p0.field p1.1).bind fun a4=>
   bif decide (a4.1<0) then
    (dF 6).bind fun a5=>
    some a5
   else
    (jO p0.field p1.2).bind fun a6=>
    bif decide (a6.1<0) then
     (dF 6).bind fun a7=>
     some a7
    else
     bif a2.2.2 !=0 then
      (dF a2.2.2).bind fun a8=>
      some a8
     else
      (jU p0).bind fun r9=>
      (rQ p0.field p1 p0.now).bind fun a10=>
      bif a10.2.2 !=0 then
       (dF a10.2.2).bind fun a11=>
       some a11
      else
       bif a10.2.1 then
        (lJ p0.agenda a10.1 a2.2.1).bind fun a12=>
        bif a12.2.2 !=0 then
         (dF a12.2.2).bind fun a13=>
         some a13
        else
         (bI r9.due [(a2.2.1,a12.2.1)]).bind fun l14=>
         some (aJ.mk r9.now r9.field a2.1 a12.1 l14,a2.2.1,0)
       else
        some (aJ.mk r9.now r9.field a2.1 r9.agenda r9.due,a2.2.1,0)
def aP0:bL:=⟨aC.cons (aN.agg bJ) (aC.one (aN.agg (bZ.row gZ))),aN.tup (aC.cons (aN.agg bJ) (aC.cons (aN.int .i64) (aC.one (aN.int .i64)))),fun a=>iI a.1 a.2,.frz,false⟩
theorem aHh:aM aX 161 aP0:=Oc aFy rfl aG [(49,c49),(195,aPX),(196,aPZ),(145,aGI),(79,c79),(79,aBf),(93,c93),(194,aNu)] ⟨HN,aHe,aHg,PI,PK,JP,UO,XF,trivial⟩ fun a=>by kernel_rfl
abbrev aP1:=pB×bO×Int×Int×Int×Int×bO×Int×bO×(List Int)×(List Bool)×(List Int)×jM×(List Int)×bO×bO×Int×Int×Int
abbrev Zt6:=cL aP1 (aJ×Int)
abbrev aP2:=pB×Int×Int×Int×Int×bO×Int×bO×(List Int)×(List Bool)×(List Int)×jM×(List Int)×bO×Int×Int×Int
def fB (s:aP2):Option (cL aP2 Zt6):=
 bif decide (s.2.2.1<s.2.1) then
  (aQ s.1 s.2.2.1).bind fun a0=>
  (dV s.2.2.2.2.2.2.2.1 a0).bind fun b1=>
  bif b1 then
   some (.next (s.1,s.2.1,aA .i64 (s.2.2.1+1),s.2.2.2))
  else
   (iI (aJ.mk (s.2.2.2.1,s.2.2.2.2.1) (Field.mk s.2.2.2.2.2.1) (aT.mk s.2.2.2.2.2.2.1 s.2.2.2.2.2.2.2.1) (aH.mk (aR.mk s.2.2.2.2.2.2.2.2.1 s.2.2.2.2.2.2.2.2.2.1 s.2.2.2.2.2.2.2.2.2.2.1) s.2.2.2.2.2.2.2.2.2.2.2.1 s.2.2.2.2.2.2.2.2.2.2.2.2.1) s.2.2.2.2.2.2.2.2.2.2.2.2.2.1) a0).bind fun a2=>
   bif a2.2.2 !=0 then
    some (.done (.done (aJ.mk (0,0) (Field.mk []) (aT.mk 0 []) (aH.mk (aR.mk [] [] []) [] []) [],a2.2.2)))
   else
    some (.next (s.1,s.2.1,aA .i64 (s.2.2.1+1),a2.1.now.1,a2.1.now.2,a2.1.field.points,a2.1.certs.next_,a2.1.certs.list,a2.1.agenda.slots.uses,a2.1.agenda.slots.used,a2.1.agenda.slots.free,a2.1.agenda.heap,a2.1.agenda.where_,a2.1.due,s.2.2.2.2.2.2.2.2.2.2.2.2.2.2))
 else
  some (.done (.done (aJ.mk (s.2.2.2.1,s.2.2.2.2.1) (Field.mk s.2.2.2.2.2.1) (aT.mk s.2.2.2.2.2.2.1 s.2.2.2.2.2.2.2.1) (aH.mk (aR.mk s.2.2.2.2.2.2.2.2.1 s.2.2.2.2.2.2.2.2.2.1 s.2.2.2.2.2.2.2.2.2.2.1) s.2.2.2.2.2.2.2.2.2.2.2.1 s.2.2.2.2.2.2.2.2.2.2.2.2.1) s.2.2.2.2.2.2.2.2.2.2.2.2.2.1,0)))
def dZ (s:aP1):Option Zt6:=
 match s with
 |(a,b,d,e,f,g,h,i,j,k,l,m,n,o,q,r,t,u,v)=>
  bif decide (e<d) then
   (aQ b e).bind fun a0=>
   (fJ a a0.2).bind fun b1=>
   bif !b1 then
    (uR (aJ.mk (f,g) (Field.mk h) (aT.mk i j) (aH.mk (aR.mk k l m) n o) q) a0.1).bind fun a2=>
    some (.next (a,b,d,aA .i64 (e+1),a2.1.now.1,a2.1.now.2,a2.1.field.points,a2.1.certs.next_,a2.1.certs.list,a2.1.agenda.slots.uses,a2.1.agenda.slots.used,a2.1.agenda.slots.free,a2.1.agenda.heap,a2.1.agenda.where_,a2.1.due,(r,t,u,v)))
   else
    some (.next (a,b,d,aA .i64 (e+1),(f,g,h,i,j,k,l,m,n,o,q,r,t,u,v)))
  else
   (iR h r).bind fun b3=>
   bif !b3 then
    (pM (aJ.mk (f,g) (Field.mk h) (aT.mk i j) (aH.mk (aR.mk k l m) n o) q) (Field.mk r)).bind fun a4=>
    bif a4.2 !=0 then
     some (.done (aJ.mk (0,0) (Field.mk []) (aT.mk 0 []) (aH.mk (aR.mk [] [] []) [] []) [],a4.2))
    else
     aI fB (a,Int.ofNat a.length,0,a4.1.now.1,a4.1.now.2,a4.1.field.points,a4.1.certs.next_,a4.1.certs.list,a4.1.agenda.slots.uses,a4.1.agenda.slots.used,a4.1.agenda.slots.free,a4.1.agenda.heap,a4.1.agenda.where_,a4.1.due,(t,u,v))
   else
    aI fB (a,Int.ofNat a.length,0,f,g,h,i,j,k,l,m,n,o,q,(t,u,v))
def tO (p0:aJ) (p1:Field) (p2:List (Int×Int)):Option (aJ×Int):=
 aI dZ (p2,p0.certs.list,Int.ofNat p0.certs.list.length,0,p0.now.1,p0.now.2,p0.field.points,p0.certs.next_,p0.certs.list,p0.agenda.slots.uses,p0.agenda.slots.used,p0.agenda.slots.free,p0.agenda.heap,p0.agenda.where_,p0.due,p1.points,0,0,0)
def aP3:bL:=⟨aC.cons (aN.agg bJ) (aC.cons (aN.agg dA) (aC.one (aN.sl gZ))),aN.tup (aC.cons (aN.agg bJ) (aC.one (aN.int .i64))),fun a=>tO a.1 a.2.1 a.2.2,.frz,false⟩
theorem aHi:aM aX 110 aP3:=Oc aEO rfl aG [(95,c95),(157,aPL),(158,aPM),(159,aPV),(96,XG),(161,aP0)] ⟨UQ,aG5,aG6,aHc,UU,aHh,trivial⟩ fun a=>by kernel_rfl
abbrev ZD:=pB×pB×Int×Int×Int×Int×bO×Int×bO×(List Int)×(List Bool)×(List Int)×jM×(List Int)×bO×bO×Int×Int×Int
abbrev aP4:=cL ZD (aJ×Int)
abbrev Zt1:=cL ZD aP4
def fC (s:ZD):Option (cL ZD Zt1):=
 bif decide (s.2.2.2.1<s.2.2.1) then
  (aQ s.2.1 s.2.2.2.1).bind fun a0=>
  (vR (Field.mk s.2.2.2.2.2.2.2.2.2.2.2.2.2.2.2.1) a0.1).bind fun a1=>
  (vR (Field.mk s.2.2.2.2.2.2.2.2.2.2.2.2.2.2.2.1) a0.2).bind fun a2=>
  bif a1.2 !=0 then
   some (.done (.done (.done (aJ.mk (0,0) (Field.mk []) (aT.mk 0 []) (aH.mk (aR.mk [] [] []) [] []) [],6))))
  else
   bif a2.2 !=0 then
    some (.done (.done (.done (aJ.mk (0,0) (Field.mk []) (aT.mk 0 []) (aH.mk (aR.mk [] [] []) [] []) [],6))))
   else
    some (.next (s.1,s.2.1,s.2.2.1,aA .i64 (s.2.2.2.1+1),s.2.2.2.2))
 else
  (vS (aJ.mk (s.2.2.2.2.1,s.2.2.2.2.2.1) (Field.mk s.2.2.2.2.2.2.1) (aT.mk s.2.2.2.2.2.2.2.1 s.2.2.2.2.2.2.2.2.1) (aH.mk (aR.mk s.2.2.2.2.2.2.2.2.2.1 s.2.2.2.2.2.2.2.2.2.2.1 s.2.2.2.2.2.2.2.2.2.2.2.1) s.2.2.2.2.2.2.2.2.2.2.2.2.1 s.2.2.2.2.2.2.2.2.2.2.2.2.2.1) s.2.2.2.2.2.2.2.2.2.2.2.2.2.2.1)).bind fun r3=>
  (tO r3 (Field.mk s.2.2.2.2.2.2.2.2.2.2.2.2.2.2.2.1) s.1).bind fun a4=>
  some (.done (.done (.done a4)))
def eA (s:ZD):Option Zt1:=
 bif decide (s.2.2.2.1<s.2.2.1) then
  (aQ s.2.1 s.2.2.2.1).bind fun a0=>
  (jC s.1 0 s.2.2.2.1).bind fun l1=>
  (fJ l1 a0).bind fun b2=>
  bif b2 then
   some (.done (.done (aJ.mk (0,0) (Field.mk []) (aT.mk 0 []) (aH.mk (aR.mk [] [] []) [] []) [],14)))
  else
   some (.next (s.1,s.2.1,s.2.2.1,aA .i64 (s.2.2.2.1+1),s.2.2.2.2))
 else
  aI fC (s.1,s.1,Int.ofNat s.1.length,0,s.2.2.2.2)
def eB (s:ZD):Option aP4:=
 bif decide (s.2.2.2.1<s.2.2.1) then
  (aQ s.2.1 s.2.2.2.1).bind fun a0=>
  bif decide (a0.1<0) then
   some (.done (aJ.mk (0,0) (Field.mk []) (aT.mk 0 []) (aH.mk (aR.mk [] [] []) [] []) [],8))
  else
   bif decide (a0.2<0) then
    some (.done (aJ.mk (0,0) (Field.mk []) (aT.mk 0 []) (aH.mk (aR.mk [] [] []) [] []) [],8))
   else
    bif decide (65535<a0.1) then
     some (.done (aJ.mk (0,0) (Field.mk []) (aT.mk 0 []) (aH.mk (aR.mk [] [] []) [] []) [],8))
    else
     bif decide (65535<a0.2) then
      some (.done (aJ.mk (0,0) (Field.mk []) (aT.mk 0 []) (aH.mk (aR.mk [] [] []) [] []) [],8))
     else
      bif a0.1==a0.2 then
       some (.done (aJ.mk (0,0) (Field.mk []) (aT.mk 0 []) (aH.mk (aR.mk [] [] []) [] []) [],8))
      else
       some (.next (s.1,s.2.1,s.2.2.1,aA .i64 (s.2.2.2.1+1),s.2.2.2.2))
 else
  aI eA (s.1,s.1,Int.ofNat s.1.length,0,s.2.2.2.2)
def pN (p0:aJ) (p1:Field) (p2:List (Int×Int)):Option (aJ×Int):=
 (gF p0).bind fun n0=>
 bif n0 !=0 then
  some (aJ.mk (0,0) (Field.mk []) (aT.mk 0 []) (aH.mk (aR.mk [] [] []) [] []) [],n0)
 else
  (gE p1).bind fun n1=>
  bif n1 !=0 then
   some (aJ.mk (0,0) (Field.mk []) (aT.mk 0 []) (aH.mk (aR.mk [] [] []) [] []) [],n1)
  else
   aI eB (p2,p2,Int.ofNat p2.length,0,p0.now.1,p0.now.2,p0.field.points,p0.certs.next_,p0.certs.list,p0.agenda.slots.uses,p0.agenda.slots.used,p0.agenda.slots.free,p0.agenda.heap,p0.agenda.where_,p0.due,p1.points,0,0,0)
def c60:bL:=⟨aC.cons (aN.agg bJ) (aC.cons (aN.agg dA) (aC.one (aN.sl gZ))),aN.tup (aC.cons (aN.agg bJ) (aC.one (aN.int .i64))),fun a=>pN a.1 a.2.1 a.2.2,.frz,false⟩
theorem aNv:aM aX 60 c60:=Oc aMw rfl aG [(49,c49),(84,c84),(95,c95),(109,aPJ),(111,aPK),(111,aIG),(110,aP3)] ⟨HN,LO,UQ,aG3,aG4,aBi,aHi,trivial⟩ fun a=>by kernel_rfl
def kO (p0:aJ) (p1:Field):Option (cE×Int):=
 (lI p1 p0.now).bind fun a0=>
 (pN p0 p1 a0.2).bind fun a1=>
 bif a1.2 !=0 then
  some (cE.mk (aJ.mk (0,0) (Field.mk []) (aT.mk 0 []) (aH.mk (aR.mk [] [] []) [] []) []) (mW.mk 0 []),a1.2)
 else
  some (cE.mk a1.1 a0.1,0)
def c38:bL:=⟨aC.cons (aN.agg bJ) (aC.one (aN.agg dA)),aN.tup (aC.cons (aN.agg eZ) (aC.one (aN.int .i64))),fun a=>kO a.1 a.2,.frz,false⟩
theorem aNw:aM aX 38 c38:=Oc aMg rfl aG [(40,c40),(60,c60)] ⟨UP,aNv,trivial⟩ fun a=>by kernel_rfl
def AP (p0:aJ) (p1:Int×Int):Option (aJ×Int):=
 (tM p0 p1).bind fun a0=>
 bif a0.2==0 then
  bif a0.1 then
   some (aJ.mk (0,0) (Field.mk []) (aT.mk 0 []) (aH.mk (aR.mk [] [] []) [] []) [],36)
  else
   bif a0.2 !=0 then
    some (aJ.mk (0,0) (Field.mk []) (aT.mk 0 []) (aH.mk (aR.mk [] [] []) [] []) [],a0.2)
   else
    (jU p0).bind fun r1=>
    some (aJ.mk p1 r1.field r1.certs r1.agenda r1.due,0)
 else
  bif a0.2 !=0 then
   some (aJ.mk (0,0) (Field.mk []) (aT.mk 0 []) (aH.mk (aR.mk [] [] []) [] []) [],a0.2)
  else
   (jU p0).bind fun r2=>
   some (aJ.mk p1 r2.field r2.certs r2.agenda r2.due,0)
def c39:bL:=⟨aC.cons (aN.agg bJ) (aC.one (aN.agg (bZ.row gZ))),aN.tup (aC.cons (aN.agg bJ) (aC.one (aN.int .i64))),fun a=>AP a.1 a.2,.frz,false⟩
theorem aNx:aM aX 39 c39:=Oc aMh rfl aG [(77,c77),(79,c79),(79,aBf)] ⟨aBc,PK,JP,trivial⟩ fun a=>by kernel_rfl
abbrev Zt8:=Int×Int×bO×Int×bO×(List Int)×(List Bool)×(List Int)×jM×(List Int)×bO×Int×bO×Int×Int×Int×Int×Int×Int×pB
abbrev aBk:=cE×pB×Int
def eT (s:Zt8):Option (cL Zt8 aBk):=
 (rR (aJ.mk (s.1,s.2.1) (Field.mk s.2.2.1) (aT.mk s.2.2.2.1 s.2.2.2.2.1) (aH.mk (aR.mk s.2.2.2.2.2.1 s.2.2.2.2.2.2.1 s.2.2.2.2.2.2.2.1) s.2.2.2.2.2.2.2.2.1 s.2.2.2.2.2.2.2.2.2.1) s.2.2.2.2.2.2.2.2.2.2.1) (s.2.2.2.2.2.2.2.2.2.2.2.2.2.1,s.2.2.2.2.2.2.2.2.2.2.2.2.2.2.1)).bind fun a0=>
 bif a0.2.2.2 !=0 then
  (AP (aJ.mk (s.1,s.2.1) (Field.mk s.2.2.1) (aT.mk s.2.2.2.1 s.2.2.2.2.1) (aH.mk (aR.mk s.2.2.2.2.2.1 s.2.2.2.2.2.2.1 s.2.2.2.2.2.2.2.1) s.2.2.2.2.2.2.2.2.1 s.2.2.2.2.2.2.2.2.2.1) s.2.2.2.2.2.2.2.2.2.2.1) (s.2.2.2.2.2.2.2.2.2.2.2.2.2.1,s.2.2.2.2.2.2.2.2.2.2.2.2.2.2.1)).bind fun a1=>
  (lI a1.1.field (s.2.2.2.2.2.2.2.2.2.2.2.2.2.1,s.2.2.2.2.2.2.2.2.2.2.2.2.2.2.1)).bind fun a2=>
  some (.done (cE.mk a1.1 a2.1,s.2.2.2.2.2.2.2.2.2.2.2.2.2.2.2.2.2.2.2,0))
 else
  (kO a0.1 a0.1.field).bind fun a3=>
  bif a3.2 !=0 then
   some (.done (cE.mk (aJ.mk (0,0) (Field.mk []) (aT.mk 0 []) (aH.mk (aR.mk [] [] []) [] []) []) (mW.mk 0 []),[],a3.2))
  else
   (bI s.2.2.2.2.2.2.2.2.2.2.2.2.2.2.2.2.2.2.2 [a0.2.2.1]).bind fun l4=>
   some (.next (a3.1.clock.now.1,a3.1.clock.now.2,a3.1.clock.field.points,a3.1.clock.certs.next_,a3.1.clock.certs.list,a3.1.clock.agenda.slots.uses,a3.1.clock.agenda.slots.used,a3.1.clock.agenda.slots.free,a3.1.clock.agenda.heap,a3.1.clock.agenda.where_,a3.1.clock.due,a3.1.tree.root,a3.1.tree.nodes,s.2.2.2.2.2.2.2.2.2.2.2.2.2.1,s.2.2.2.2.2.2.2.2.2.2.2.2.2.2.1,s.2.2.2.2.2.2.2.2.2.2.2.2.2.2.2.1,s.2.2.2.2.2.2.2.2.2.2.2.2.2.2.2.2.1,s.2.2.2.2.2.2.2.2.2.2.2.2.2.2.2.2.2.1,s.2.2.2.2.2.2.2.2.2.2.2.2.2.2.2.2.2.2.1,l4))
def iS (p0:cE) (p1:Int×Int):Option aBk:=
 (uQ p0).bind fun n0=>
 bif n0 !=0 then
  some (cE.mk (aJ.mk (0,0) (Field.mk []) (aT.mk 0 []) (aH.mk (aR.mk [] [] []) [] []) []) (mW.mk 0 []),[],n0)
 else
  (fI p1).bind fun n1=>
  bif n1 !=0 then
   some (cE.mk (aJ.mk (0,0) (Field.mk []) (aT.mk 0 []) (aH.mk (aR.mk [] [] []) [] []) []) (mW.mk 0 []),[],8)
  else
   (rN p1 p0.clock.now).bind fun a2=>
   bif decide (a2.1<0) then
    some (cE.mk (aJ.mk (0,0) (Field.mk []) (aT.mk 0 []) (aH.mk (aR.mk [] [] []) [] []) []) (mW.mk 0 []),[],44)
   else
    aI eT (p0.clock.now.1,p0.clock.now.2,p0.clock.field.points,p0.clock.certs.next_,p0.clock.certs.list,p0.clock.agenda.slots.uses,p0.clock.agenda.slots.used,p0.clock.agenda.slots.free,p0.clock.agenda.heap,p0.clock.agenda.where_,p0.clock.due,p0.tree.root,p0.tree.nodes,p1.1,p1.2,0,0,0,0,[])
def c12:bL:=⟨aC.cons (aN.agg eZ) (aC.one (aN.agg (bZ.row gZ))),aN.tup (aC.cons (aN.agg eZ) (aC.cons (aN.sl gZ) (aC.one (aN.int .i64)))),fun a=>iS a.1 a.2,.frz,false⟩
theorem aNy:aM aX 12 c12:=Oc aL2 rfl aG [(22,c22),(35,c35),(36,c36),(37,c37),(38,c38),(39,c39),(40,c40)] ⟨aNn,AI,UM,aNs,aNw,aNx,UP,trivial⟩ fun a=>by kernel_rfl
def iA (p0:Int):Option Int:=
 bif decide (p0<0) then
  some (aA .u64 ((aA .u64 (aA .i64 (0- (aA .i64 (p0+1)))))+1))
 else
  some (aA .u64 p0)
def c88:bL:=⟨aC.one (aN.int .i64),aN.int .u64,fun a=>iA a,.pure,false⟩
theorem UW:aM aX 88 c88:=Oc aMT rfl aG [] trivial fun a=>by kernel_rfl
def oQ (s:(Int×Int)):Option (cL (Int×Int) Int):=
 bif s.2 !=0 then
  bif s.2==0 then
   none
  else
   some (.next (s.2,Int.tmod s.1 s.2))
 else
  some (.done s.1)
def qL (p0:Int) (p1:Int):Option Int:=
 aI oQ (p0,p1)
def c87:bL:=⟨aC.cons (aN.int .u64) (aC.one (aN.int .u64)),aN.int .u64,fun a=>qL a.1 a.2,.pure,false⟩
theorem aBl:aM aX 87 c87:=Oc aMS rfl aG [] trivial fun a=>by kernel_rfl
def pO (p0:Int×Int):Option Int:=
 bif decide (p0.2<1) then
  some 8
 else
  bif p0.1==(-9223372036854775808) then
   some 8
  else
   (iA p0.1).bind fun n0=>
   (qL n0 (aA .u64 p0.2)).bind fun n1=>
   bif n1 !=1 then
    some 8
   else
    some 0
def c45:bL:=⟨aC.one (aN.agg (bZ.row gZ)),aN.int .i64,fun a=>pO a,.pure,false⟩
theorem UX:aM aX 45 c45:=Oc aMm rfl aG [(88,c88),(87,c87)] ⟨UW,aBl,trivial⟩ fun a=>by kernel_rfl
def wY (p0:Int×Int×Int):Option Int:=
 bif decide (p0.1<0) then
  some 8
 else
  bif decide (65535<p0.1) then
   some 8
  else
   bif decide (p0.2.1<(-1048576)) then
    some 8
   else
    bif decide (1048576<p0.2.1) then
     some 8
    else
     bif decide (p0.2.2<(-1048576)) then
      some 8
     else
      bif decide (1048576<p0.2.2) then
       some 8
      else
       some 0
def c86:bL:=⟨aC.one (aN.agg (bZ.row eX)),aN.int .i64,fun a=>wY a,.pure,false⟩
theorem aNz:aM aX 86 c86:=Oc aMR rfl aG [] trivial fun a=>by kernel_rfl
abbrev PM:=Int×bO
def iT (s:PM):Option (cL PM (cL PM Int)):=
 bif decide (s.1<(Int.ofNat s.2.length)) then
  (aQ s.2 (aA .i64 (s.1-1))).bind fun a0=>
  (aQ s.2 s.1).bind fun a1=>
  bif decide (a1.1<=a0.1) then
   some (.done (.done 32))
  else
   some (.next (aA .i64 (s.1+1),s.2))
 else
  some (.done (.done 0))
def nA (s:PM):Option (cL PM Int):=
 bif decide (s.1<(Int.ofNat s.2.length)) then
  (aQ s.2 s.1).bind fun a0=>
  (wY a0).bind fun n1=>
  bif n1 !=0 then
   some (.done 8)
  else
   some (.next (aA .i64 (s.1+1),s.2))
 else
  aI iT (1,s.2)
def wZ (p0:Field):Option Int:=
 bif decide (64<(Int.ofNat p0.points.length)) then
  some 4
 else
  aI nA (0,p0.points)
def c44:bL:=⟨aC.one (aN.agg dA),aN.int .i64,fun a=>wZ a,.pure,false⟩
theorem aNA:aM aX 44 c44:=Oc aMl rfl aG [(86,c86)] ⟨aNz,trivial⟩ fun a=>by kernel_rfl
def vU (p0:Int×Int):Option Bool:=
 bif decide (0<=p0.1) then
  bif decide (p0.1<=65535) then
   bif decide (0<=p0.2) then
    bif decide (p0.2<=65535) then
     some (p0.1 !=p0.2)
    else
     some false
   else
    some false
  else
   some false
 else
  some false
def aNB:bL:=⟨aC.one (aN.agg (bZ.row gZ)),aN.bool,fun a=>vU a,.pure,false⟩
theorem XI:aM aX 148 aNB:=Oc aFl rfl aG [] trivial fun a=>by kernel_rfl
abbrev aNC:=cL aBd Int
def gB (s:(Int×Int×Int×bO×Int×Int×Int)):Option (cL (Int×Int×Int×bO×Int×Int×Int) aNC):=
 bif decide (s.2.1<s.1) then
  (aQ s.2.2.2.1 s.2.1).bind fun a0=>
  bif (a0.2.1==s.2.2.2.2.2.1)&&(a0.2.2==s.2.2.2.2.2.2) then
   some (.done (.done 8))
  else
   some (.next (s.1,aA .i64 (s.2.1+1),s.2.2))
 else
  some (.done (.next (aA .i64 (s.1+1),s.2.2.1,s.2.2.2.1)))
def qM (s:aBd):Option aNC:=
 bif decide (s.1<(Int.ofNat s.2.2.length)) then
  (aQ s.2.2 s.1).bind fun a0=>
  (vU a0.2).bind fun b1=>
  bif !b1 then
   some (.done 8)
  else
   bif decide (a0.1<0) then
    some (.done 8)
   else
    bif decide (s.2.1<=a0.1) then
     some (.done 8)
    else
     bif decide (0<s.1) then
      (aQ s.2.2 (aA .i64 (s.1-1))).bind fun a2=>
      bif decide (a0.1<=a2.1) then
       some (.done 8)
      else
       aI gB (s.1,0,s.2.1,s.2.2,a0)
     else
      aI gB (s.1,0,s.2.1,s.2.2,a0)
 else
  some (.done 0)
def tP (p0:aT):Option Int:=
 bif decide (200<(Int.ofNat p0.list.length)) then
  some 8
 else
  bif decide (p0.next_<0) then
   some 8
  else
   bif decide (1000000<p0.next_) then
    some 8
   else
    aI qM (0,p0.next_,p0.list)
def c97:bL:=⟨aC.one (aN.agg gH),aN.int .i64,fun a=>tP a,.pure,false⟩
theorem aBm:aM aX 97 c97:=Oc aMZ rfl aG [(148,aNB)] ⟨XI,trivial⟩ fun a=>by kernel_rfl
def tQ (s:aBd):Option aNC:=
 bif decide (s.2.1<(Int.ofNat s.2.2.length)) then
  (aQ s.2.2 s.2.1).bind fun a0=>
  bif a0.1==s.1 then
   some (.done s.2.1)
  else
   some (.next (s.1,aA .i64 (s.2.1+1),s.2.2))
 else
  some (.done (-1))
def jQ (p0:Field) (p1:Int):Option Int:=
 aI tQ (p1,0,p0.points)
def c65:bL:=⟨aC.cons (aN.agg dA) (aC.one (aN.int .i64)),aN.int .i64,fun a=>jQ a.1 a.2,.pure,false⟩
theorem UY:aM aX 65 c65:=Oc aMz rfl aG [] trivial fun a=>by kernel_rfl
def qN (s:(Int×Int×bO×bO)):Option (cL (Int×Int×bO×bO) Bool):=
 bif decide (s.1<(Int.ofNat s.2.2.1.length)) then
  (aQ s.2.2.1 s.1).bind fun a0=>
  (jQ (Field.mk s.2.2.2) a0.2.1).bind fun n1=>
  bif decide (n1<0) then
   some (.done false)
  else
   (aQ s.2.2.1 s.1).bind fun a2=>
   (jQ (Field.mk s.2.2.2) a2.2.2).bind fun n3=>
   bif decide (n3<0) then
    some (.done false)
   else
    some (.next (aA .i64 (s.1+1),s.2))
 else
  some (.done true)
def xA (p0:aT) (p1:Field):Option Bool:=
 aI qN (0,p0.next_,p0.list,p1.points)
def c98:bL:=⟨aC.cons (aN.agg gH) (aC.one (aN.agg dA)),aN.bool,fun a=>xA a.1 a.2,.pure,false⟩
theorem aND:aM aX 98 c98:=Oc aM0 rfl aG [(65,c65)] ⟨UY,trivial⟩ fun a=>by kernel_rfl
abbrev aBn:=Int×Int×(List Int)×(List Bool)×(List Int)×(List Bool)
def kQ (s:aBn):Option (cL aBn (cL aBn Int)):=
 bif decide (s.2.1<s.1) then
  (aQ s.2.2.1 s.2.1).bind fun n0=>
  bif decide (n0<0) then
   some (.done (.done 8))
  else
   (aQ s.2.2.1 s.2.1).bind fun n1=>
   bif decide (1000000<n1) then
    some (.done (.done 8))
   else
    (aQ s.2.2.2.1 s.2.1).bind fun b2=>
    (aQ s.2.2.2.2.2 s.2.1).bind fun b3=>
    bif b2==b3 then
     some (.done (.done 8))
    else
     (aQ s.2.2.2.1 s.2.1).bind fun b4=>
     bif b4 then
      (aQ s.2.2.1 s.2.1).bind fun n5=>
      bif decide (n5<1) then
       some (.done (.done 8))
      else
       some (.next (s.1,aA .i64 (s.2.1+1),s.2.2))
     else
      some (.next (s.1,aA .i64 (s.2.1+1),s.2.2))
 else
  some (.done (.done 0))
def qO (s:aBn):Option (cL aBn Int):=
 bif decide (s.2.1<(Int.ofNat s.2.2.2.2.1.length)) then
  (aQ s.2.2.2.2.1 s.2.1).bind fun n0=>
  bif decide (n0<0) then
   some (.done 8)
  else
   (aQ s.2.2.2.2.1 s.2.1).bind fun n1=>
   bif decide (s.1<=n1) then
    some (.done 8)
   else
    (aQ s.2.2.2.2.1 s.2.1).bind fun n2=>
    (aQ s.2.2.2.2.2 n2).bind fun b3=>
    bif b3 then
     some (.done 8)
    else
     (aQ s.2.2.2.2.1 s.2.1).bind fun n4=>
     (aQ s.2.2.2.2.2 n4).bind fun _=>
     some (.next (s.1,aA .i64 (s.2.1+1),s.2.2.1,s.2.2.2.1,s.2.2.2.2.1,bY s.2.2.2.2.2 n4 true))
 else
  aI kQ (s.1,0,s.2.2)
def xB (p0:aR):Option Int:=
 bif decide ((Int.ofNat p0.uses.length)<1) then
  some 8
 else
  bif decide (200<(Int.ofNat p0.uses.length)) then
   some 8
  else
   bif (Int.ofNat p0.used.length) !=(Int.ofNat p0.uses.length) then
    some 8
   else
    bif decide ((Int.ofNat p0.uses.length)<(Int.ofNat p0.free.length)) then
     some 8
    else
     bif (Int.ofNat p0.uses.length)==(Int.ofNat p0.uses.length) then
      (IL (Int.ofNat p0.uses.length) (false:Bool)).bind fun l0=>
      aI qO (Int.ofNat p0.uses.length,0,p0.uses,p0.used,p0.free,l0)
     else
      none
def aP5:bL:=⟨aC.one (aN.agg gG),aN.int .i64,fun a=>xB a,.pure,false⟩
theorem aHj:aM aX 149 aP5:=Oc aFm rfl aG [] trivial fun a=>by kernel_rfl
def vV (p0:aR) (p1:Int×Int):Option Bool:=
 bif decide (0<=p1.1) then
  bif decide (p1.1<(Int.ofNat p0.uses.length)) then
   (aQ p0.used p1.1).bind fun b0=>
   bif b0 then
    (aQ p0.uses p1.1).bind fun n1=>
    some (n1==p1.2)
   else
    some false
  else
   some false
 else
  some false
def aNE:bL:=⟨aC.cons (aN.agg gG) (aC.one (aN.agg (bZ.row gZ))),aN.bool,fun a=>vV a.1 a.2,.pure,false⟩
theorem XJ:aM aX 153 aNE:=Oc aFq rfl aG [] trivial fun a=>by kernel_rfl
abbrev aNF:=Int×Int×(List Int)×(List Bool)×(List Int)×jM×(List Int)
def oR (s:aNF):Option (cL aNF Bool):=
 bif decide (s.2.1<s.1) then
  (aQ s.2.2.2.1 s.2.1).bind fun b0=>
  bif !b0 then
   (aQ s.2.2.2.2.2.2 s.2.1).bind fun n1=>
   bif n1 !=(-1) then
    some (.done false)
   else
    some (.next (s.1,aA .i64 (s.2.1+1),s.2.2))
  else
   (aQ s.2.2.2.2.2.2 s.2.1).bind fun n2=>
   bif decide (n2<0) then
    some (.done false)
   else
    bif decide ((Int.ofNat s.2.2.2.2.2.1.length)<=n2) then
     some (.done false)
    else
     (aQ s.2.2.2.2.2.1 n2).bind fun a3=>
     bif a3.2.2.2.1 !=s.2.1 then
      some (.done false)
     else
      (aQ s.2.2.2.2.2.1 n2).bind fun a4=>
      (vV (aR.mk s.2.2.1 s.2.2.2.1 s.2.2.2.2.1) a4.2.2.2).bind fun b5=>
      bif !b5 then
       some (.done false)
      else
       some (.next (s.1,aA .i64 (s.2.1+1),s.2.2))
 else
  some (.done true)
def uT (p0:aH):Option Bool:=
 bif (Int.ofNat p0.where_.length) !=(Int.ofNat p0.slots.uses.length) then
  some false
 else
  bif (Int.ofNat p0.heap.length) !=(aA .i64 ((Int.ofNat p0.slots.uses.length) - (Int.ofNat p0.slots.free.length))) then
   some false
  else
   aI oR (Int.ofNat p0.slots.uses.length,0,p0.slots.uses,p0.slots.used,p0.slots.free,p0.heap,p0.where_)
def aP6:bL:=⟨aC.one (aN.agg cU),aN.bool,fun a=>uT a,.pure,false⟩
theorem aHk:aM aX 150 aP6:=Oc aFn rfl aG [(153,aNE)] ⟨XJ,trivial⟩ fun a=>by kernel_rfl
def sK (p0:Int) (p1:Int):Option (Bool×Int×Int):=
 some (false,aA .u64 ((aA .u64 ((aA .u64 ((aA .u64 (Int.tdiv p0 4294967296))*(aA .u64 (Int.tdiv p1 4294967296))))+(aA .u64 (Int.tdiv (aA .u64 ((aA .u64 ((aA .u64 (Int.tdiv p0 4294967296))*(Int.tmod p1 4294967296)))+(aA .u64 (Int.tdiv (aA .u64 ((Int.tmod p0 4294967296)*(Int.tmod p1 4294967296))) 4294967296)))) 4294967296))))+(aA .u64 (Int.tdiv (aA .u64 ((aA .u64 ((Int.tmod p0 4294967296)*(aA .u64 (Int.tdiv p1 4294967296))))+(Int.tmod (aA .u64 ((aA .u64 ((aA .u64 (Int.tdiv p0 4294967296))*(Int.tmod p1 4294967296)))+(aA .u64 (Int.tdiv (aA .u64 ((Int.tmod p0 4294967296)*(Int.tmod p1 4294967296))) 4294967296)))) 4294967296))) 4294967296))),aA .u64 ((aA .u64 ((Int.tmod (aA .u64 ((aA .u64 ((Int.tmod p0 4294967296)*(aA .u64 (Int.tdiv p1 4294967296))))+(Int.tmod (aA .u64 ((aA .u64 ((aA .u64 (Int.tdiv p0 4294967296))*(Int.tmod p1 4294967296)))+(aA .u64 (Int.tdiv (aA .u64 ((Int.tmod p0 4294967296)*(Int.tmod p1 4294967296))) 4294967296)))) 4294967296))) 4294967296)*4294967296))+(Int.tmod (aA .u64 ((Int.tmod p0 4294967296)*(Int.tmod p1 4294967296))) 4294967296)))
def aP7:bL:=⟨aC.cons (aN.int .u64) (aC.one (aN.int .u64)),aN.agg (bZ.row CB),fun a=>sK a.1 a.2,.pure,false⟩
theorem aHl:aM aX 180 aP7:=Oc aFQ rfl aG [] trivial fun a=>by kernel_rfl
def jV (p0:Int) (p1:Int):Option (Bool×Int×Int):=
 (iA p0).bind fun n0=>
 (iA p1).bind fun n1=>
 (sK n0 n1).bind fun a2=>
 bif !((decide (p0<0))==(decide (p1<0))) then
  bif p0 !=0 then
   some (p1 !=0,a2.2)
  else
   some (false,a2.2)
 else
  some (false,a2.2)
def aNG:bL:=⟨aC.cons (aN.int .i64) (aC.one (aN.int .i64)),aN.agg (bZ.row CB),fun a=>jV a.1 a.2,.pure,false⟩
theorem XK:aM aX 132 aNG:=Oc aE9 rfl aG [(88,c88),(180,aP7)] ⟨UW,aHl,trivial⟩ fun a=>by kernel_rfl
def lS (p0:Bool×Int×Int):Option Int:=
 bif p0.2.1==0 then
  bif p0.2.2==0 then
   some 0
  else
   bif p0.1 then
    some (-1)
   else
    some 1
 else
  bif p0.1 then
   some (-1)
  else
   some 1
def aNH:bL:=⟨aC.one (aN.agg (bZ.row CB)),aN.int .i64,fun a=>lS a,.pure,false⟩
theorem XL:aM aX 133 aNH:=Oc aFa rfl aG [] trivial fun a=>by kernel_rfl
def rS (p0:Bool×Int×Int) (p1:Bool×Int×Int):Option Int:=
 bif p0.2.1 !=p1.2.1 then
  bif decide (p0.2.1<p1.2.1) then
   some (-1)
  else
   some 1
 else
  bif p0.2.2 !=p1.2.2 then
   bif decide (p0.2.2<p1.2.2) then
    some (-1)
   else
    some 1
  else
   some 0
def aNI:bL:=⟨aC.cons (aN.agg (bZ.row CB)) (aC.one (aN.agg (bZ.row CB))),aN.int .i64,fun a=>rS a.1 a.2,.pure,false⟩
theorem XM:aM aX 134 aNI:=Oc aFb rfl aG [] trivial fun a=>by kernel_rfl
def mI (p0:Int×Int) (p1:Int×Int):Option Int:=
 (jV p0.1 p1.2).bind fun a0=>
 (jV p1.1 p0.2).bind fun a1=>
 (lS a0).bind fun n2=>
 (lS a1).bind fun n3=>
 bif n2 !=n3 then
  (lS a0).bind fun n4=>
  (lS a1).bind fun n5=>
  bif decide (n4<n5) then
   some (-1)
  else
   some 1
 else
  (lS a0).bind fun n6=>
  bif decide (n6<0) then
   (rS a1 a0).bind fun n7=>
   some n7
  else
   (rS a0 a1).bind fun n8=>
   some n8
def c80:bL:=⟨aC.cons (aN.agg (bZ.row gZ)) (aC.one (aN.agg (bZ.row gZ))),aN.int .i64,fun a=>mI a.1 a.2,.pure,false⟩
theorem UZ:aM aX 80 c80:=Oc aMM rfl aG [(132,aNG),(133,aNH),(134,aNI)] ⟨XK,XL,XM,trivial⟩ fun a=>by kernel_rfl
def eC (p0:Int×Int×Int×Int×Int) (p1:Int×Int×Int×Int×Int):Option Bool:=
 (mI (p0.1,p0.2.1) (p1.1,p1.2.1)).bind fun n0=>
 bif decide (n0<0) then
  some true
 else
  bif n0==0 then
   some (decide (p0.2.2.1<p1.2.2.1))
  else
   some false
def U0:bL:=⟨aC.cons (aN.agg (bZ.row jD)) (aC.one (aN.agg (bZ.row jD))),aN.bool,fun a=>eC a.1 a.2,.pure,false⟩
theorem DB:aM aX 151 U0:=Oc aFo rfl aG [(80,c80)] ⟨UZ,trivial⟩ fun a=>by kernel_rfl
abbrev aP8:=Int×Int×(List Int)×(List Bool)×(List Int)×jM×(List Int)×Int×Int×Int×Int×Int
abbrev GC:=Int×(List Int)×(List Bool)×(List Int)×jM×(List Int)
abbrev aNJ:=cL GC Int
def kS (s:aP8):Option (cL aP8 aNJ):=
 bif decide (s.2.1<s.1) then
  (aQ s.2.2.2.2.2.1 s.2.1).bind fun a0=>
  bif a0.2.2.1==s.2.2.2.2.2.2.2.2.2.1 then
   some (.done (.done 8))
  else
   some (.next (s.1,aA .i64 (s.2.1+1),s.2.2))
 else
  some (.done (.next (aA .i64 (s.1+1),s.2.2.1,s.2.2.2.1,s.2.2.2.2.1,s.2.2.2.2.2.1,s.2.2.2.2.2.2.1)))
def kT (s:GC):Option (cL GC aNJ):=
 bif decide (s.1<(Int.ofNat s.2.2.2.2.1.length)) then
  (aQ s.2.2.2.2.1 s.1).bind fun a0=>
  (aQ s.2.2.2.2.1 (aA .i64 (Int.tdiv (aA .i64 (s.1-1)) 2))).bind fun a1=>
  (eC a0 a1).bind fun b2=>
  bif b2 then
   some (.done (.done 8))
  else
   some (.next (aA .i64 (s.1+1),s.2))
 else
  some (.done (.done 0))
def qP (s:GC):Option aNJ:=
 bif decide (s.1<(Int.ofNat s.2.2.2.2.1.length)) then
  (aQ s.2.2.2.2.1 s.1).bind fun a0=>
  (pO (a0.1,a0.2.1)).bind fun n1=>
  bif n1 !=0 then
   some (.done 8)
  else
   bif decide (a0.2.2.1<0) then
    some (.done 8)
   else
    bif decide (1000000<a0.2.2.1) then
     some (.done 8)
    else
     aI kS (s.1,0,s.2.1,s.2.2.1,s.2.2.2.1,s.2.2.2.2.1,s.2.2.2.2.2,a0)
 else
  aI kT (1,s.2)
def tR (p0:aH):Option Int:=
 (xB p0.slots).bind fun n0=>
 bif n0 !=0 then
  some 8
 else
  (uT p0).bind fun b1=>
  bif !b1 then
   some 8
  else
   aI qP (0,p0.slots.uses,p0.slots.used,p0.slots.free,p0.heap,p0.where_)
def c99:bL:=⟨aC.one (aN.agg cU),aN.int .i64,fun a=>tR a,.pure,false⟩
theorem aBo:aM aX 99 c99:=Oc aM1 rfl aG [(149,aP5),(150,aP6),(45,c45),(151,U0)] ⟨aHj,aHk,UX,DB,trivial⟩ fun a=>by kernel_rfl
def tS (p0:Bool×Int×Int) (p1:Bool×Int×Int):Option (Bool×Int×Int):=
 bif decide (p0.2.2<p1.2.2) then
  some (false,aA .u64 ((aA .u64 (p0.2.1-p1.2.1)) -1),aA .u64 (p0.2.2-p1.2.2))
 else
  some (false,aA .u64 (p0.2.1-p1.2.1),aA .u64 (p0.2.2-p1.2.2))
def aP9:bL:=⟨aC.cons (aN.agg (bZ.row CB)) (aC.one (aN.agg (bZ.row CB))),aN.agg (bZ.row CB),fun a=>tS a.1 a.2,.pure,false⟩
theorem aHm:aM aX 223 aP9:=Oc aGo rfl aG [] trivial fun a=>by kernel_rfl
def AQ (p0:Bool×Int×Int) (p1:Bool×Int×Int):Option (Bool×Int×Int):=
 bif p0.1==p1.1 then
  bif decide ((aA .u64 (p0.2.2+p1.2.2))<p0.2.2) then
   some (p0.1,aA .u64 ((aA .u64 (p0.2.1+p1.2.1))+1),aA .u64 (p0.2.2+p1.2.2))
  else
   some (p0.1,aA .u64 (p0.2.1+p1.2.1),aA .u64 (p0.2.2+p1.2.2))
 else
  (rS p0 p1).bind fun n0=>
  bif decide (0<=n0) then
   (tS p0 p1).bind fun a1=>
   bif p0.1 then
    bif decide (0<a1.2.1) then
     some (true,a1.2)
    else
     some (decide (0<a1.2.2),a1.2)
   else
    some (false,a1.2)
  else
   (tS p1 p0).bind fun a2=>
   some (p1.1,a2.2)
def aQa:bL:=⟨aC.cons (aN.agg (bZ.row CB)) (aC.one (aN.agg (bZ.row CB))),aN.agg (bZ.row CB),fun a=>AQ a.1 a.2,.pure,false⟩
theorem aHn:aM aX 210 aQa:=Oc aGd rfl aG [(134,aNI),(223,aP9)] ⟨XM,aHm,trivial⟩ fun a=>by kernel_rfl
def DC (p0:Int×Int×Int) (p1:Int×Int×Int) (p2:Int×Int):Option Int:=
 (jV (aA .i64 (p0.2.1-p1.2.1)) p2.2).bind fun a0=>
 (jV (aA .i64 (p0.2.2-p1.2.2)) p2.1).bind fun a1=>
 (AQ a0 a1).bind fun a2=>
 (lS a2).bind fun n3=>
 some n3
def aQb:bL:=⟨aC.cons (aN.agg (bZ.row eX)) (aC.cons (aN.agg (bZ.row eX)) (aC.one (aN.agg (bZ.row gZ)))),aN.int .i64,fun a=>DC a.1 a.2.1 a.2.2,.pure,false⟩
theorem aHo:aM aX 183 aQb:=Oc aFS rfl aG [(132,aNG),(210,aQa),(133,aNH)] ⟨XK,aHn,XL,trivial⟩ fun a=>by kernel_rfl
def pP (p0:Int×Int×Int) (p1:Int×Int×Int) (p2:Int×Int):Option Bool:=
 (DC p0 p1 p2).bind fun n0=>
 bif n0 !=0 then
  some (decide (0<n0))
 else
  bif p0.2.2 !=p1.2.2 then
   some (decide (p1.2.2<p0.2.2))
  else
   some (decide (p0.1<p1.1))
def aHp:bL:=⟨aC.cons (aN.agg (bZ.row eX)) (aC.cons (aN.agg (bZ.row eX)) (aC.one (aN.agg (bZ.row gZ)))),aN.bool,fun a=>pP a.1 a.2.1 a.2.2,.pure,false⟩
theorem PN:aM aX 140 aHp:=Oc aFe rfl aG [(183,aQb)] ⟨aHo,trivial⟩ fun a=>by kernel_rfl
def rT (p0:Bool) (p1:Bool×Int×Int) (p2:Bool×Int×Int):Option ((Int×Int)×Int):=
 bif decide (0<p1.2.1) then
  some ((0,0),16)
 else
  bif decide (9223372036854775807<p1.2.2) then
   some ((0,0),16)
  else
   bif decide (0<p2.2.1) then
    some ((0,0),16)
   else
    bif decide (9223372036854775807<p2.2.2) then
     some ((0,0),16)
    else
     bif p0 then
      some ((aA .i64 (0- (aA .i64 p1.2.2)),aA .i64 p2.2.2),0)
     else
      some ((aA .i64 p1.2.2,aA .i64 p2.2.2),0)
def aQc:bL:=⟨aC.cons aN.bool (aC.cons (aN.agg (bZ.row CB)) (aC.one (aN.agg (bZ.row CB)))),aN.tup (aC.cons (aN.agg (bZ.row gZ)) (aC.one (aN.int .i64))),fun a=>rT a.1 a.2.1 a.2.2,.pure,false⟩
theorem aHq:aM aX 225 aQc:=Oc aGq rfl aG [] trivial fun a=>by kernel_rfl
def nB (p0:Int) (p1:Int):Option ((Int×Int)×Int):=
 bif p1==0 then
  some ((0,0),26)
 else
  (iA p0).bind fun n0=>
  (iA p1).bind fun n1=>
  (qL n0 n1).bind fun n2=>
  bif !((decide (p0<0))==(decide (p1<0))) then
   (iA p0).bind fun n3=>
   bif n2==0 then
    none
   else
    (iA p1).bind fun n4=>
    bif n2==0 then
     none
    else
     (rT (p0 !=0) (false,0,aA .u64 (Int.tdiv n3 n2)) (false,0,aA .u64 (Int.tdiv n4 n2))).bind fun a5=>
     some a5
  else
   (iA p0).bind fun n6=>
   bif n2==0 then
    none
   else
    (iA p1).bind fun n7=>
    bif n2==0 then
     none
    else
     (rT false (false,0,aA .u64 (Int.tdiv n6 n2)) (false,0,aA .u64 (Int.tdiv n7 n2))).bind fun a8=>
     some a8
def aQd:bL:=⟨aC.cons (aN.int .i64) (aC.one (aN.int .i64)),aN.tup (aC.cons (aN.agg (bZ.row gZ)) (aC.one (aN.int .i64))),fun a=>nB a.1 a.2,.pure,false⟩
theorem aHr:aM aX 214 aQd:=Oc aGh rfl aG [(88,c88),(87,c87),(225,aQc)] ⟨UW,aBl,aHq,trivial⟩ fun a=>by kernel_rfl
def DD (p0:Int×Int×Int) (p1:Int×Int×Int):Option (Int×Int):=
 (nB (aA .i64 (p0.2.1-p1.2.1)) (aA .i64 (p1.2.2-p0.2.2))).bind fun a0=>
 some a0.1
def aQe:bL:=⟨aC.cons (aN.agg (bZ.row eX)) (aC.one (aN.agg (bZ.row eX))),aN.agg (bZ.row gZ),fun a=>DD a.1 a.2,.pure,false⟩
theorem aHs:aM aX 190 aQe:=Oc aFZ rfl aG [(214,aQd)] ⟨aHr,trivial⟩ fun a=>by kernel_rfl
def sL (p0:Int×Int×Int) (p1:Int×Int×Int) (p2:Int×Int):Option ((Int×Int)×Bool):=
 (pP p1 p0 p2).bind fun b0=>
 bif b0 then
  some (p2,true)
 else
  bif decide (p0.2.2<p1.2.2) then
   (DD p0 p1).bind fun a1=>
   some (a1,true)
  else
   some ((0,0),false)
def aQf:bL:=⟨aC.cons (aN.agg (bZ.row eX)) (aC.cons (aN.agg (bZ.row eX)) (aC.one (aN.agg (bZ.row gZ)))),aN.tup (aC.cons (aN.agg (bZ.row gZ)) (aC.one aN.bool)),fun a=>sL a.1 a.2.1 a.2.2,.pure,false⟩
theorem aHt:aM aX 152 aQf:=Oc aFp rfl aG [(140,aHp),(190,aQe)] ⟨PN,aHs,trivial⟩ fun a=>by kernel_rfl
def rU (p0:Field) (p1:Int×Int) (p2:Int×Int):Option ((Int×Int)×Bool):=
 (jQ p0 p1.2).bind fun n0=>
 (aQ p0.points n0).bind fun a1=>
 (jQ p0 p1.1).bind fun n2=>
 (aQ p0.points n2).bind fun a3=>
 (sL a1 a3 p2).bind fun a4=>
 some a4
def aHu:bL:=⟨aC.cons (aN.agg dA) (aC.cons (aN.agg (bZ.row gZ)) (aC.one (aN.agg (bZ.row gZ)))),aN.tup (aC.cons (aN.agg (bZ.row gZ)) (aC.one aN.bool)),fun a=>rU a.1 a.2.1 a.2.2,.pure,false⟩
theorem PO:aM aX 100 aHu:=Oc aEF rfl aG [(65,c65),(152,aQf)] ⟨UY,aHt,trivial⟩ fun a=>by kernel_rfl
def vW (p0:aH) (p1:Int×Int):Option ((Int×Int×Int×Int×Int)×Int):=
 (tR p0).bind fun n0=>
 bif n0 !=0 then
  some ((0,0,0,0,0),8)
 else
  (vV p0.slots p1).bind fun b1=>
  bif !b1 then
   some ((0,0,0,0,0),6)
  else
   (aQ p0.where_ p1.1).bind fun n2=>
   (aQ p0.heap n2).bind fun a3=>
   some (a3,0)
def aQg:bL:=⟨aC.cons (aN.agg cU) (aC.one (aN.agg (bZ.row gZ))),aN.tup (aC.cons (aN.agg (bZ.row jD)) (aC.one (aN.int .i64))),fun a=>vW a.1 a.2,.pure,false⟩
theorem aHv:aM aX 101 aQg:=Oc aEG rfl aG [(99,c99),(153,aNE)] ⟨aBo,XJ,trivial⟩ fun a=>by kernel_rfl
abbrev aNK:=Int×Int×Int×Int×bO×Int×bO×(List Int)×(List Bool)×(List Int)×jM×(List Int)×bO
abbrev aQh:=cL aNK Int
def dH (s:aNK):Option aQh:=
 bif decide (s.2.1<(Int.ofNat s.2.2.2.2.2.2.1.length)) then
  (aQ s.2.2.2.2.2.2.1 s.2.1).bind fun a0=>
  (rU (Field.mk s.2.2.2.2.1) a0.2 (s.2.2.1,s.2.2.2.1)).bind fun a1=>
  bif !a1.2 then
   some (.next (s.1,aA .i64 (s.2.1+1),s.2.2))
  else
   bif decide ((Int.ofNat s.2.2.2.2.2.2.2.2.2.2.2.2.length)<=s.1) then
    some (.done 8)
   else
    (aQ s.2.2.2.2.2.2.2.2.2.2.2.2 s.1).bind fun a2=>
    bif a2.1 !=a0.1 then
     some (.done 8)
    else
     (aQ s.2.2.2.2.2.2.2.2.2.2.2.2 s.1).bind fun a3=>
     (vW (aH.mk (aR.mk s.2.2.2.2.2.2.2.1 s.2.2.2.2.2.2.2.2.1 s.2.2.2.2.2.2.2.2.2.1) s.2.2.2.2.2.2.2.2.2.2.1 s.2.2.2.2.2.2.2.2.2.2.2.1) a3.2).bind fun a4=>
     bif a4.2 !=0 then
      some (.done 8)
     else
      bif a4.1.2.2.1 !=a0.1 then
       some (.done 8)
      else
       bif !((a4.1.1==a1.1.1)&&(a4.1.2.1==a1.1.2)) then
        some (.done 8)
       else
        some (.next (aA .i64 (s.1+1),aA .i64 (s.2.1+1),s.2.2))
 else
  bif s.1 !=(Int.ofNat s.2.2.2.2.2.2.2.2.2.2.2.2.length) then
   some (.done 8)
  else
   some (.done 0)
def xC (p0:aJ):Option Int:=
 (pO p0.now).bind fun n0=>
 bif n0 !=0 then
  some 8
 else
  (wZ p0.field).bind fun n1=>
  bif n1 !=0 then
   some 8
  else
   (tP p0.certs).bind fun n2=>
   bif n2 !=0 then
    some 8
   else
    (xA p0.certs p0.field).bind fun b3=>
    bif !b3 then
     some 8
    else
     (tR p0.agenda).bind fun n4=>
     bif n4 !=0 then
      some 8
     else
      bif (Int.ofNat p0.agenda.where_.length) !=200 then
       some 8
      else
       bif (Int.ofNat p0.agenda.heap.length) !=(Int.ofNat p0.due.length) then
        some 8
       else
        aI dH (0,0,p0.now.1,p0.now.2,p0.field.points,p0.certs.next_,p0.certs.list,p0.agenda.slots.uses,p0.agenda.slots.used,p0.agenda.slots.free,p0.agenda.heap,p0.agenda.where_,p0.due)
def c52:bL:=⟨aC.one (aN.agg bJ),aN.int .i64,fun a=>xC a,.pure,false⟩
theorem aNL:aM aX 52 c52:=Oc aMr rfl aG [(45,c45),(44,c44),(97,c97),(98,c98),(99,c99),(100,aHu),(101,aQg)] ⟨UX,aNA,aBm,aND,aBo,PO,aHv,trivial⟩ fun a=>by kernel_rfl
def jR (s:(Int×Int×Int×bO×Int×Int)):Option (cL (Int×Int×Int×bO×Int×Int) Int):=
 bif decide (s.2.2.1<s.1) then
  bif decide (s.2.1<0) then
   some (.next (s.1,s.2.2.1,aA .i64 (s.2.2.1+1),s.2.2.2))
  else
   (aQ s.2.2.2.1 s.2.2.1).bind fun a0=>
   (aQ s.2.2.2.1 s.2.1).bind fun a1=>
   (pP a0 a1 s.2.2.2.2).bind fun b2=>
   bif b2 then
    some (.next (s.1,s.2.2.1,aA .i64 (s.2.2.1+1),s.2.2.2))
   else
    some (.next (s.1,s.2.1,aA .i64 (s.2.2.1+1),s.2.2.2))
 else
  some (.done s.2.1)
def uY (p0:Field) (p1:Int×Int) (p2:Int) (p3:Int):Option Int:=
 aI jR (p3,-1,p2,p0.points,p1)
def aQi:bL:=⟨aC.cons (aN.agg dA) (aC.cons (aN.agg (bZ.row gZ)) (aC.cons (aN.int .i64) (aC.one (aN.int .i64)))),aN.int .i64,fun a=>uY a.1 a.2.1 a.2.2.1 a.2.2.2,.pure,false⟩
theorem aHw:aM aX 191 aQi:=Oc aF0 rfl aG [(140,aHp)] ⟨PN,trivial⟩ fun a=>by kernel_rfl
abbrev aHx:=bO×Int×Int×Int×Int×Int×bO
def fH (self:aHx->Option PM) (a:aHx):Option PM:=
 (uY (Field.mk a.1) (a.2.1,a.2.2.1) a.2.2.2.2.1 a.2.2.2.2.2.1).bind fun n0=>
 bif decide (0<=n0) then
  (self (a.1,a.2.1,a.2.2.1,a.2.2.2.1,a.2.2.2.2.1,n0,a.2.2.2.2.2.2)).bind fun a1=>
  (aQ a1.2 n0).bind fun a2=>
  (self (a.1,a.2.1,a.2.2.1,a.2.2.2.1,aA .i64 (n0+1),a.2.2.2.2.2.1,bY a1.2 n0 (a2.1,a1.1,a2.2.2))).bind fun a3=>
  (aQ a3.2 n0).bind fun a4=>
  bif ((bY a3.2 n0 (a4.1,a4.2.1,a3.1)).length)==a.2.2.2.2.2.2.length then
   some (n0,bY a3.2 n0 (a4.1,a4.2.1,a3.1))
  else
   none
 else
  bif a.2.2.2.2.2.2.length==a.2.2.2.2.2.2.length then
   some (n0,a.2.2.2.2.2.2)
  else
   none
def iU:Nat->aHx->Option PM
 |0,_=>none
 |n+1,a=>fH (iU n) a
def rV (a:aHx):Option PM:=iU 1000000 a
def aBp:dW:=⟨[.l [.i .i64,.i .i64,.i .i64],.i,.i,.i,.i,.i,.l [.i .i64,.i .i64,.i .i64]],[.agg [.sl [.i .i64,.i .i64,.i .i64] []],.agg [.int .i64 0,.int .i64 0],.agg [.int .i64 0,.own 0 false],.int .i64 0,.int .i64 0],[.arr [.i .i64,.i .i64,.i .i64] []],[.i,.l [.i .i64,.i .i64,.i .i64]],.int .i64 0,[.arr [.i .i64,.i .i64,.i .i64] []],fun a=>rV a⟩
theorem LQ: ∀n,lC aX 154 ⟨[.l [.i .i64,.i .i64,.i .i64],.i,.i,.i,.i,.i,.l [.i .i64,.i .i64,.i .i64]],[.agg [.sl [.i .i64,.i .i64,.i .i64] []],.agg [.int .i64 0,.int .i64 0],.agg [.int .i64 0,.own 0 false],.int .i64 0,.int .i64 0],[.arr [.i .i64,.i .i64,.i .i64] []],[.i,.l [.i .i64,.i .i64,.i .i64]],.int .i64 0,[.arr [.i .i64,.i .i64,.i .i64] []],fun a=>iU n a⟩
 |0=>lC.zero (fun _=>rfl)
 |n+1=>lC.of aFr (wd:=false) (cx:=(pW aG [(191,aQi)] [(154,⟨[.l [.i .i64,.i .i64,.i .i64],.i,.i,.i,.i,.i,.l [.i .i64,.i .i64,.i .i64]],[.agg [.sl [.i .i64,.i .i64,.i .i64] []],.agg [.int .i64 0,.int .i64 0],.agg [.int .i64 0,.own 0 false],.int .i64 0,.int .i64 0],[.arr [.i .i64,.i .i64,.i .i64] []],[.i,.l [.i .i64,.i .i64,.i .i64]],.int .i64 0,[.arr [.i .i64,.i .i64,.i .i64] []],fun a=>iU n a⟩)] [] [])) (mM.make ⟨aHw,trivial⟩ ⟨(LQ n),trivial⟩ trivial) (fun a=>by kernel_rfl)
theorem ZE:lC aX 154 aBp:=LQ 1000000
abbrev aQj:=Int×bO×Int×Int×Int×Int×bO
def oI (s:aQj):Option (cL aQj mW):=
 bif decide (s.1<(Int.ofNat s.2.1.length)) then
  (aQ s.2.1 s.1).bind fun a0=>
  (bI s.2.2.2.2.2.2 [(a0.1,0,0)]).bind fun l1=>
  some (.next (aA .i64 (s.1+1),s.2.1,s.2.2.1,s.2.2.2.1,s.2.2.2.2.1,s.2.2.2.2.2.1,l1))
 else
  (rV (s.2.1,s.2.2.1,s.2.2.2.1,s.2.2.2.2.2.1,0,Int.ofNat s.2.1.length,s.2.2.2.2.2.2)).bind fun a2=>
  some (.done (mW.mk a2.1 a2.2))
def E1 (p0:Field) (p1:Int×Int):Option mW:=
 aI oI (0,p0.points,p1.1,p1.2,0,0,[])
def aQk:bL:=⟨aC.cons (aN.agg dA) (aC.one (aN.agg (bZ.row gZ))),aN.agg qD,fun a=>E1 a.1 a.2,.frz,false⟩
theorem aHy:aM aX 102 aQk:=aM.of aEH (cx:=(pW aG [] [(154,aBp)] [] [])) rfl (mM.make trivial ⟨ZE,trivial⟩ trivial) (fun a=>by kernel_rfl)
def rW (p0:Field) (p1:Int×Int):Option mW:=
 (E1 p0 p1).bind fun r0=>
 some r0
def c53:bL:=⟨aC.cons (aN.agg dA) (aC.one (aN.agg (bZ.row gZ))),aN.agg qD,fun a=>rW a.1 a.2,.frz,false⟩
theorem aBq:aM aX 53 c53:=Oc aMs rfl aG [(102,aQk)] ⟨aHy,trivial⟩ fun a=>by kernel_rfl
abbrev aNM:=Int×Int×bO×Int×bO
abbrev aQl:=cL aNM Bool
def qQ (s:aNM):Option aQl:=
 bif decide (s.1<(Int.ofNat s.2.2.1.length)) then
  (aQ s.2.2.1 s.1).bind fun a0=>
  (aQ s.2.2.2.2 s.1).bind fun a1=>
  bif !((a0.1==a1.1)&&((a0.2.1==a1.2.1)&&(a0.2.2==a1.2.2))) then
   some (.done false)
  else
   some (.next (aA .i64 (s.1+1),s.2))
 else
  some (.done true)
def pQ (p0:mW) (p1:mW):Option Bool:=
 bif p0.root !=p1.root then
  some false
 else
  bif (Int.ofNat p0.nodes.length) !=(Int.ofNat p1.nodes.length) then
   some false
  else
   aI qQ (0,p0.root,p0.nodes,p1.root,p1.nodes)
def c34:bL:=⟨aC.cons (aN.agg qD) (aC.one (aN.agg qD)),aN.bool,fun a=>pQ a.1 a.2,.pure,false⟩
theorem aBr:aM aX 34 c34:=Oc aMc rfl aG [] trivial fun a=>by kernel_rfl
abbrev aQm:=cL (Int×Int×bO×pB) pB
def pR (s:(Int×Int×Int×bO×pB)):Option (cL (Int×Int×Int×bO×pB) aQm):=
 bif decide (s.2.1<(Int.ofNat s.2.2.2.1.length)) then
  (aQ s.2.2.2.1 s.2.1).bind fun a0=>
  bif a0.2.1==s.1 then
   (aQ s.2.2.2.1 s.1).bind fun a1=>
   (aQ s.2.2.2.1 s.2.1).bind fun a2=>
   (bI s.2.2.2.2 [(a1.1,a2.1)]).bind fun l3=>
   some (.next (s.1,aA .i64 (s.2.1+1),s.2.2.1,s.2.2.2.1,l3))
  else
   (aQ s.2.2.2.1 s.2.1).bind fun a4=>
   bif a4.2.2==s.1 then
    (aQ s.2.2.2.1 s.1).bind fun a5=>
    (aQ s.2.2.2.1 s.2.1).bind fun a6=>
    (bI s.2.2.2.2 [(a5.1,a6.1)]).bind fun l7=>
    some (.next (s.1,aA .i64 (s.2.1+1),s.2.2.1,s.2.2.2.1,l7))
   else
    some (.next (s.1,aA .i64 (s.2.1+1),s.2.2))
 else
  some (.done (.next (aA .i64 (s.1+1),s.2.2)))
def tT (s:(Int×Int×bO×pB)):Option aQm:=
 bif decide (s.1<(Int.ofNat s.2.2.1.length)) then
  aI pR (s.1,0,s.2)
 else
  some (.done s.2.2.2)
def CK (p0:mW):Option pB:=
 aI tT (0,p0.root,p0.nodes,[])
def c47:bL:=⟨aC.one (aN.agg qD),aN.sl gZ,fun a=>CK a,.frz,false⟩
theorem aBs:aM aX 47 c47:=Oc aMn rfl aG [] trivial fun a=>by kernel_rfl
def uU (s:(Int×Int×bO×Int×Int)):Option (cL (Int×Int×bO×Int×Int) Bool):=
 bif decide (s.1<(Int.ofNat s.2.2.1.length)) then
  (aQ s.2.2.1 s.1).bind fun a0=>
  bif (a0.2.1==s.2.2.2.1)&&(a0.2.2==s.2.2.2.2) then
   some (.done true)
  else
   some (.next (aA .i64 (s.1+1),s.2))
 else
  some (.done false)
def uZ (p0:aT) (p1:Int×Int):Option Bool:=
 aI uU (0,p0.next_,p0.list,p1)
def aHz:bL:=⟨aC.cons (aN.agg gH) (aC.one (aN.agg (bZ.row gZ))),aN.bool,fun a=>uZ a.1 a.2,.pure,false⟩
theorem PP:aM aX 103 aHz:=Oc aEI rfl aG [] trivial fun a=>by kernel_rfl
def AR (p0:Int×Int) (p1:Field) (p2:Int×Int):Option Bool:=
 (jQ p1 p0.2).bind fun n0=>
 (aQ p1.points n0).bind fun a1=>
 (jQ p1 p0.1).bind fun n2=>
 (aQ p1.points n2).bind fun a3=>
 (pP a1 a3 p2).bind fun b4=>
 some b4
def aQn:bL:=⟨aC.cons (aN.agg (bZ.row gZ)) (aC.cons (aN.agg dA) (aC.one (aN.agg (bZ.row gZ)))),aN.bool,fun a=>AR a.1 a.2.1 a.2.2,.pure,false⟩
theorem aHA:aM aX 104 aQn:=Oc aEJ rfl aG [(65,c65),(140,aHp)] ⟨UY,PN,trivial⟩ fun a=>by kernel_rfl
abbrev aQo:=pB×Int×Int×Int×bO×Int×bO×(List Int)×(List Bool)×(List Int)×jM×(List Int)×bO
def sM (s:aQo):Option (cL aQo Bool):=
 bif decide (s.2.1<(Int.ofNat s.1.length)) then
  (aQ s.1 s.2.1).bind fun a0=>
  (uZ (aT.mk s.2.2.2.2.2.1 s.2.2.2.2.2.2.1) a0).bind fun b1=>
  bif !b1 then
   some (.done false)
  else
   (aQ s.1 s.2.1).bind fun a2=>
   (AR a2 (Field.mk s.2.2.2.2.1) (s.2.2.1,s.2.2.2.1)).bind fun b3=>
   bif !b3 then
    some (.done false)
   else
    some (.next (s.1,aA .i64 (s.2.1+1),s.2.2))
 else
  some (.done true)
def AS (p0:aJ) (p1:List (Int×Int)):Option Bool:=
 bif (Int.ofNat p0.certs.list.length) !=(Int.ofNat p1.length) then
  some false
 else
  aI sM (p1,0,p0.now.1,p0.now.2,p0.field.points,p0.certs.next_,p0.certs.list,p0.agenda.slots.uses,p0.agenda.slots.used,p0.agenda.slots.free,p0.agenda.heap,p0.agenda.where_,p0.due)
def c54:bL:=⟨aC.cons (aN.agg bJ) (aC.one (aN.sl gZ)),aN.bool,fun a=>AS a.1 a.2,.pure,false⟩
theorem aNN:aM aX 54 c54:=Oc aMt rfl aG [(103,aHz),(104,aQn)] ⟨PP,aHA,trivial⟩ fun a=>by kernel_rfl
def tU (p0:cE):Option Int:=
 (xC p0.clock).bind fun n0=>
 bif n0 !=0 then
  some 8
 else
  (rW p0.clock.field p0.clock.now).bind fun r1=>
  (pQ r1 p0.tree).bind fun b2=>
  bif !b2 then
   some 8
  else
   (CK r1).bind fun l3=>
   (AS p0.clock l3).bind fun b4=>
   bif !b4 then
    some 8
   else
    some 0
def c23:bL:=⟨aC.one (aN.agg eZ),aN.int .i64,fun a=>tU a,.pure,false⟩
theorem aNO:aM aX 23 c23:=Oc aL7 rfl aG [(52,c52),(53,c53),(34,c34),(47,c47),(54,c54)] ⟨aNL,aBq,aBr,aBs,aNN,trivial⟩ fun a=>by kernel_rfl
def jS (p0:aJ) (p1:Int×Int):Option Int:=
 (pO p1).bind fun n0=>
 bif n0 !=0 then
  some 8
 else
  (mI p1 p0.now).bind fun n1=>
  bif decide (n1<0) then
   some 44
  else
   some 0
def c41:bL:=⟨aC.cons (aN.agg bJ) (aC.one (aN.agg (bZ.row gZ))),aN.int .i64,fun a=>jS a.1 a.2,.pure,false⟩
theorem aNP:aM aX 41 c41:=Oc aMj rfl aG [(45,c45),(80,c80)] ⟨UX,UZ,trivial⟩ fun a=>by kernel_rfl
def xD (p0:aJ) (p1:Int×Int):Option Bool:=
 bif decide (0<(Int.ofNat p0.agenda.heap.length)) then
  (aQ p0.agenda.heap 0).bind fun a0=>
  (mI (a0.1,a0.2.1) p1).bind fun n1=>
  some (decide (n1<=0))
 else
  some false
def c81:bL:=⟨aC.cons (aN.agg bJ) (aC.one (aN.agg (bZ.row gZ))),aN.bool,fun a=>xD a.1 a.2,.pure,false⟩
theorem aNQ:aM aX 81 c81:=Oc aMN rfl aG [(80,c80)] ⟨UZ,trivial⟩ fun a=>by kernel_rfl
def xE (s:(Int×Int×Int×bO)):Option (cL (Int×Int×Int×bO) Int):=
 bif decide (s.2.1<(Int.ofNat s.2.2.2.length)) then
  (aQ s.2.2.2 s.2.1).bind fun a0=>
  bif a0.1==s.1 then
   some (.done s.2.1)
  else
   some (.next (s.1,aA .i64 (s.2.1+1),s.2.2))
 else
  some (.done (-1))
def LR (p0:aT) (p1:Int):Option Int:=
 aI xE (p1,0,p0.next_,p0.list)
def aQp:bL:=⟨aC.cons (aN.agg gH) (aC.one (aN.int .i64)),aN.int .i64,fun a=>LR a.1 a.2,.pure,false⟩
theorem aHB:aM aX 135 aQp:=Oc aFc rfl aG [] trivial fun a=>by kernel_rfl
abbrev aQq:=Int×Int×Int×bO×Int×Int×bO
def kU (s:aQq):Option (cL aQq aT):=
 bif decide (s.2.1<(Int.ofNat s.2.2.2.1.length)) then
  (aQ s.2.2.2.1 s.2.1).bind fun a0=>
  bif a0.1 !=s.1 then
   (aQ s.2.2.2.1 s.2.1).bind fun a1=>
   (bI s.2.2.2.2.2.2 [a1]).bind fun l2=>
   some (.next (s.1,aA .i64 (s.2.1+1),s.2.2.1,s.2.2.2.1,s.2.2.2.2.1,s.2.2.2.2.2.1,l2))
  else
   some (.next (s.1,aA .i64 (s.2.1+1),s.2.2))
 else
  some (.done (aT.mk s.2.2.2.2.2.1 s.2.2.2.2.2.2))
def sN (p0:aT) (p1:Int):Option aT:=
 aI kU (p1,0,p0.next_,p0.list,0,p0.next_,[])
def aQr:bL:=⟨aC.cons (aN.agg gH) (aC.one (aN.int .i64)),aN.agg gH,fun a=>sN a.1 a.2,.frz,false⟩
theorem aHC:aM aX 165 aQr:=Oc aFB rfl aG [] trivial fun a=>by kernel_rfl
def qR (s:aNK):Option aQh:=
 bif decide (s.2.1<(Int.ofNat s.2.2.2.2.2.2.2.2.2.2.2.2.length)) then
  (aQ s.2.2.2.2.2.2.2.2.2.2.2.2 s.2.1).bind fun a0=>
  bif a0.1==s.1 then
   some (.done s.2.1)
  else
   some (.next (s.1,aA .i64 (s.2.1+1),s.2.2))
 else
  some (.done (-1))
def pS (p0:aJ) (p1:Int):Option Int:=
 aI qR (p1,0,p0.now.1,p0.now.2,p0.field.points,p0.certs.next_,p0.certs.list,p0.agenda.slots.uses,p0.agenda.slots.used,p0.agenda.slots.free,p0.agenda.heap,p0.agenda.where_,p0.due)
def aNR:bL:=⟨aC.cons (aN.agg bJ) (aC.one (aN.int .i64)),aN.int .i64,fun a=>pS a.1 a.2,.pure,false⟩
theorem XN:aM aX 166 aNR:=Oc aFC rfl aG [] trivial fun a=>by kernel_rfl
def pT (p0:aR) (p1:Int×Int):Option aR:=
 (mX p0).bind fun r0=>
 (aQ r0.used p1.1).bind fun _=>
 (bI r0.free [p1.1]).bind fun l2=>
 some (aR.mk r0.uses (bY r0.used p1.1 false) l2)
def aQs:bL:=⟨aC.cons (aN.agg gG) (aC.one (aN.agg (bZ.row gZ))),aN.agg gG,fun a=>pT a.1 a.2,.frz,false⟩
theorem aHD:aM aX 199 aQs:=Oc aF7 rfl aG [(106,aA4),(106,RW)] ⟨JO,F7,trivial⟩ fun a=>by kernel_rfl
abbrev aNS:=(List Int)×(List Bool)×(List Int)×jM×(List Int)
def fL (a:aNF):Option aNS:=
 (aQ a.2.2.2.2.2.1 a.2.1).bind fun a0=>
 (aQ a.2.2.2.2.2.1 a.1).bind fun a1=>
 (aQ a.2.2.2.2.2.1 a.1).bind fun _=>
 (aQ (bY a.2.2.2.2.2.1 a.1 a0) a.2.1).bind fun _=>
 (aQ (bY (bY a.2.2.2.2.2.1 a.1 a0) a.2.1 a1) a.1).bind fun a4=>
 (aQ (bY (bY a.2.2.2.2.2.1 a.1 a0) a.2.1 a1) a.2.1).bind fun a5=>
 (aQ a.2.2.2.2.2.2 a4.2.2.2.1).bind fun _=>
 (aQ (bY a.2.2.2.2.2.2 a4.2.2.2.1 a.1) a5.2.2.2.1).bind fun _=>
 bif a.2.2.1.length==a.2.2.1.length then
  bif a.2.2.2.1.length==a.2.2.2.1.length then
   bif a.2.2.2.2.1.length==a.2.2.2.2.1.length then
    bif ((bY (bY a.2.2.2.2.2.1 a.1 a0) a.2.1 a1).length)==a.2.2.2.2.2.1.length then
     bif ((bY (bY a.2.2.2.2.2.2 a4.2.2.2.1 a.1) a5.2.2.2.1 a.2.1).length)==a.2.2.2.2.2.2.length then
      some (a.2.2.1,a.2.2.2.1,a.2.2.2.2.1,bY (bY a.2.2.2.2.2.1 a.1 a0) a.2.1 a1,bY (bY a.2.2.2.2.2.2 a4.2.2.2.1 a.1) a5.2.2.2.1 a.2.1)
     else
      none
    else
     none
   else
    none
  else
   none
 else
  none
def E2:dW:=⟨[.i,.i,.l [.i .i64],.l [.b],.l [.i .i64],.l [.i .i64,.i .i64,.i .i64,.i .i64,.i .i64],.l [.i .i64]],[.agg [.own 0 false,.own 1 false,.own 2 false,.own 3 false,.own 4 false],.int .i64 0,.int .i64 0],[.arr [.i .i64] [],.arr [.b] [],.arr [.i .i64] [],.arr [.i .i64,.i .i64,.i .i64,.i .i64,.i .i64] [],.arr [.i .i64] []],[.l [.i .i64],.l [.b],.l [.i .i64],.l [.i .i64,.i .i64,.i .i64,.i .i64,.i .i64],.l [.i .i64]],.tup [],[.arr [.i .i64] [],.arr [.b] [],.arr [.i .i64] [],.arr [.i .i64,.i .i64,.i .i64,.i .i64,.i .i64] [],.arr [.i .i64] []],fun a=>fL a⟩
theorem vA:lC aX 198 E2:=lC.of PA (wd:=false) (cx:=(pW aG [] [] [] [])) (mM.make trivial trivial trivial) (fun a=>by kernel_rfl)
def gM (a:((List Int)×(List Bool)×(List Int)×Nat×Nat×Int×Int×jM×(List Int))):Option MY:=
 (aQ (a.2.2.2.2.2.2.2.1.take a.2.2.2.1) a.2.2.2.2.2.2.1).bind fun a0=>
 (aQ (a.2.2.2.2.2.2.2.1.take a.2.2.2.1) a.2.2.2.2.2.1).bind fun a1=>
 (aQ (a.2.2.2.2.2.2.2.1.take a.2.2.2.1) a.2.2.2.2.2.1).bind fun _=>
 (aQ ((bY a.2.2.2.2.2.2.2.1 a.2.2.2.2.2.1 a0).take a.2.2.2.1) a.2.2.2.2.2.2.1).bind fun _=>
 (aQ ((bY (bY a.2.2.2.2.2.2.2.1 a.2.2.2.2.2.1 a0) a.2.2.2.2.2.2.1 a1).take a.2.2.2.1) a.2.2.2.2.2.1).bind fun a4=>
 (aQ ((bY (bY a.2.2.2.2.2.2.2.1 a.2.2.2.2.2.1 a0) a.2.2.2.2.2.2.1 a1).take a.2.2.2.1) a.2.2.2.2.2.2.1).bind fun a5=>
 (aQ a.2.2.2.2.2.2.2.2 a4.2.2.2.1).bind fun _=>
 (aQ (bY a.2.2.2.2.2.2.2.2 a4.2.2.2.1 a.2.2.2.2.2.1) a5.2.2.2.1).bind fun _=>
 bif ((bY (bY a.2.2.2.2.2.2.2.1 a.2.2.2.2.2.1 a0) a.2.2.2.2.2.2.1 a1).length)==a.2.2.2.2.2.2.2.1.length then
  bif ((bY (bY a.2.2.2.2.2.2.2.2 a4.2.2.2.1 a.2.2.2.2.2.1) a5.2.2.2.1 a.2.2.2.2.2.2.1).length)==a.2.2.2.2.2.2.2.2.length then
   some (bY (bY a.2.2.2.2.2.2.2.1 a.2.2.2.2.2.1 a0) a.2.2.2.2.2.2.1 a1,bY (bY a.2.2.2.2.2.2.2.2 a4.2.2.2.1 a.2.2.2.2.2.1) a5.2.2.2.1 a.2.2.2.2.2.2.1)
  else
   none
 else
  none
def E3:dW:=⟨[.l [.i .i64],.l [.b],.l [.i .i64],.n,.n,.i,.i,.l [.i .i64,.i .i64,.i .i64,.i .i64,.i .i64],.l [.i .i64]],[.agg [.sl [.i .i64] [],.sl [.b] [],.sl [.i .i64] [],.pre 0 0 0 false,.own 1 false],.int .i64 0,.int .i64 0],[.arr [.i .i64,.i .i64,.i .i64,.i .i64,.i .i64] [],.arr [.i .i64] []],[.l [.i .i64,.i .i64,.i .i64,.i .i64,.i .i64],.l [.i .i64]],.tup [],[.arr [.i .i64,.i .i64,.i .i64,.i .i64,.i .i64] [],.arr [.i .i64] []],fun a=>gM a⟩
theorem vB:lC aX 198 E3:=lC.of PA (wd:=false) (cx:=(pW aG [] [] [] [])) (mM.make trivial trivial trivial) (fun a=>by kernel_rfl)
abbrev aHE:=(List Int)×(List Bool)×(List Int)×Nat×Nat×Int×jM×(List Int)
abbrev aHF:=Int×jM×(List Int)×(List Int)×(List Bool)×(List Int)×Nat×Nat
abbrev aHG:=Int×jM×(List Int)
def hG (c0:aHE) (s:aHF):Option (cL aHF aHG):=
 bif decide (0<s.1) then
  (aQ (s.2.1.take s.2.2.2.2.2.2.1) s.1).bind fun a0=>
  (aQ (s.2.1.take s.2.2.2.2.2.2.1) (aA .i64 (Int.tdiv (aA .i64 (s.1-1)) 2))).bind fun a1=>
  (eC a0 a1).bind fun b2=>
  bif b2 then
   (gM (s.2.2.2.1,s.2.2.2.2.1,s.2.2.2.2.2.1,s.2.2.2.2.2.2.1,s.2.2.2.2.2.2.2,s.1,aA .i64 (Int.tdiv (aA .i64 (s.1-1)) 2),s.2.1,s.2.2.1)).bind fun a3=>
   some (.next (aA .i64 (Int.tdiv (aA .i64 (s.1-1)) 2),a3.1,a3.2,s.2.2.2))
  else
   bif s.2.1.length==c0.2.2.2.2.2.2.1.length then
    bif s.2.2.1.length==c0.2.2.2.2.2.2.2.length then
     some (.done (s.1,s.2.1,s.2.2.1))
    else
     none
   else
    none
 else
  bif s.2.1.length==c0.2.2.2.2.2.2.1.length then
   bif s.2.2.1.length==c0.2.2.2.2.2.2.2.length then
    some (.done (s.1,s.2.1,s.2.2.1))
   else
    none
  else
   none
def nC (a:aHE):Option aHG:=
 aI (hG a) (a.2.2.2.2.2.1,a.2.2.2.2.2.2.1,a.2.2.2.2.2.2.2,a.1,a.2.1,a.2.2.1,a.2.2.2.1,a.2.2.2.2.1)
def PQ:dW:=⟨[.l [.i .i64],.l [.b],.l [.i .i64],.n,.n,.i,.l [.i .i64,.i .i64,.i .i64,.i .i64,.i .i64],.l [.i .i64]],[.agg [.sl [.i .i64] [],.sl [.b] [],.sl [.i .i64] [],.pre 0 0 0 false,.own 1 false],.int .i64 0],[.arr [.i .i64,.i .i64,.i .i64,.i .i64,.i .i64] [],.arr [.i .i64] []],[.i,.l [.i .i64,.i .i64,.i .i64,.i .i64,.i .i64],.l [.i .i64]],.int .i64 0,[.arr [.i .i64,.i .i64,.i .i64,.i .i64,.i .i64] [],.arr [.i .i64] []],fun a=>nC a⟩
theorem HQ:lC aX 201 PQ:=lC.of PB (wd:=true) (cx:=(pW aG [(151,U0)] [(198,E2),(198,E3)] [] [])) (mM.make ⟨DB,trivial⟩ ⟨vA,vB,trivial⟩ trivial) (fun a=>by kernel_rfl)
end
end Go.Proofs.YticklbjcnimggaaGreat
