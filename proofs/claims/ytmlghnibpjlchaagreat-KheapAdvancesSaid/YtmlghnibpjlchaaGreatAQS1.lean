/- Plain functions for what the functions of the seat compute. Printed by a program. -/
import Derived.Test.YtmlghnibpjlchaaGreatAVm3
import Derived.Test.YtmlghnibpjlchaaGreatAQXT
set_option maxRecDepth 100000
namespace Go.Proofs.YtmlghnibpjlchaaGreat
open Go.Vm
noncomputable section
theorem Oc {f:FuncId} {x:aO} {α β:Type} {args:aC α} {res:aK β} {kd:Kd} {fn:α->Option β} {ow:Bool} (hf:aZ f=some (.code x)) (ho:aBa kd ow=true) (lp:Option Nat) (l:List (Nat×bN)) (h:DL aZ l) (e: ∀a,aGT (pP lp l [] [] []) x args res kd a=fn a):aH aZ f ⟨args,res,fn,kd,ow⟩:=aH.of hf (cx:=pP lp l [] [] []) ho (lV.make h trivial trivial) e
abbrev fV:List PT:=[.i .i64,.i .i64,.i .i64]
abbrev ki:List PT:=[.i .i64]
abbrev kb:List PT:=[.b]
abbrev jV:List PT:=[.i .i64,.i .i64,.i .i64,.i .i64,.i .i64]
abbrev hO:List PT:=[.i .i64,.i .i64]
abbrev A6:List PT:=[.b,.i .u64,.i .u64]
abbrev aMF:List PT:=[.i .i64,.i .i64,.i .i64,.i .i64]
abbrev kiu:List PT:=[.i .i64,.i .u64]
structure Field where
 points:List (Int×Int×Int)
def eD:cE Field:=cE.iso (cE.sl fV) (fun p=>⟨p⟩) (fun c=>c.points) (fun _=>rfl)
structure aS where
 uses:List Int
 used:List Bool
 free:List Int
def fL:cE aS:=cE.iso (cE.prod (cE.sl ki) (cE.prod (cE.sl kb) (cE.sl ki))) (fun p=>⟨p.1,p.2.1,p.2.2⟩) (fun c=>(c.uses,c.used,c.free)) (fun _=>rfl)
structure aG where
 slots:aS
 heap:List (Int×Int×Int×Int×Int)
 where_:List Int
def cN:cE aG:=cE.iso (cE.prod fL (cE.prod (cE.sl jV) (cE.sl ki))) (fun p=>⟨p.1,p.2.1,p.2.2⟩) (fun c=>(c.slots,c.heap,c.where_)) (fun _=>rfl)
structure aW where
 next_:Int
 list:List (Int×Int×Int)
def fM:cE aW:=cE.iso (cE.prod (cE.int .i64) (cE.sl fV)) (fun p=>⟨p.1,p.2⟩) (fun c=>(c.next_,c.list)) (fun _=>rfl)
structure aI where
 now:Int×Int
 field:Field
 certs:aW
 agenda:aG
 due:List (Int×Int×Int)
def bL:cE aI:=cE.iso (cE.prod (cE.row hO) (cE.prod eD (cE.prod fM (cE.prod cN (cE.sl fV))))) (fun p=>⟨p.1,p.2.1,p.2.2.1,p.2.2.2.1,p.2.2.2.2⟩) (fun c=>(c.now,c.field,c.certs,c.agenda,c.due)) (fun _=>rfl)
structure dC where
 clock:aI
 heap:List Int
def fW:cE dC:=cE.iso (cE.prod bL (cE.sl ki)) (fun p=>⟨p.1,p.2⟩) (fun c=>(c.clock,c.heap)) (fun _=>rfl)
def sA (p0:Field):Option Bool:=
 bif decide (16<(Int.ofNat p0.points.length)) then
  bif decide ((Int.ofNat p0.points.length)<64) then
   some true
  else
   some (decide (70<(Int.ofNat p0.points.length)))
 else
  some (decide (70<(Int.ofNat p0.points.length)))
def c16:bN:=⟨aC.one (aK.agg eD),aK.bool,fun a=>sA a,.pure,false⟩
theorem aKY:aH aZ 16 c16:=Oc aKd rfl aF [] trivial fun a=>by kernel_rfl
def A7 (p0:aS):Option Bool:=
 bif decide (210<(Int.ofNat p0.uses.length)) then
  some true
 else
  bif decide (210<(Int.ofNat p0.used.length)) then
   some true
  else
   some (decide (210<(Int.ofNat p0.free.length)))
def aMG:bN:=⟨aC.one (aK.agg fL),aK.bool,fun a=>A7 a,.pure,false⟩
theorem aFa:aH aZ 132 aMG:=Oc aDF rfl aF [] trivial fun a=>by kernel_rfl
def A8 (p0:aG):Option Bool:=
 (A7 p0.slots).bind fun b0=>
 bif b0 then
  some true
 else
  bif decide (210<(Int.ofNat p0.heap.length)) then
   some true
  else
   some (decide (210<(Int.ofNat p0.where_.length)))
def c71:bN:=⟨aC.one (aK.agg cN),aK.bool,fun a=>A8 a,.pure,false⟩
theorem aKZ:aH aZ 71 c71:=Oc aKD rfl aF [(132,aMG)] ⟨aFa,trivial⟩ fun a=>by kernel_rfl
def sB (p0:aI):Option Bool:=
 bif decide (40<(Int.ofNat p0.certs.list.length)) then
  some true
 else
  bif decide (40<(Int.ofNat p0.due.length)) then
   some true
  else
   (sA p0.field).bind fun b0=>
   bif b0 then
    some true
   else
    (A8 p0.agenda).bind fun b1=>
    some b1
def c31:bN:=⟨aC.one (aK.agg bL),aK.bool,fun a=>sB a,.pure,false⟩
theorem aK0:aH aZ 31 c31:=Oc aKg rfl aF [(16,c16),(71,c71)] ⟨aKY,aKZ,trivial⟩ fun a=>by kernel_rfl
def sC (p0:dC):Option Bool:=
 (sB p0.clock).bind fun b0=>
 bif b0 then
  some true
 else
  some (decide (70<(Int.ofNat p0.heap.length)))
def c7:bN:=⟨aC.one (aK.agg fW),aK.bool,fun a=>sC a,.pure,false⟩
theorem aMH:aH aZ 7 c7:=Oc aMD rfl aF [(31,c31)] ⟨aK0,trivial⟩ fun a=>by kernel_rfl
def DN (p0:Field):Option Bool:=
 some (decide (10<(Int.ofNat p0.points.length)))
def c8:bN:=⟨aC.one (aK.agg eD),aK.bool,fun a=>DN a,.pure,false⟩
theorem aMI:aH aZ 8 c8:=Oc aME rfl aF [] trivial fun a=>by kernel_rfl
def nP (p0:Field):Option Field:=
 (cK p0.points).bind fun l0=>
 some (Field.mk l0)
def c72:bN:=⟨aC.one (aK.agg eD),aK.agg eD,fun a=>nP a,.own,true⟩
def aFb:bN:=⟨aC.one (aK.agg eD),aK.agg eD,fun a=>nP a,.frz,false⟩
theorem SW:aH aZ 72 c72:=Oc ZM rfl aF [] trivial fun a=>by kernel_rfl
theorem NH:aH aZ 72 aFb:=Oc ZM rfl aF [] trivial fun a=>by kernel_rfl
def nQ (p0:aW):Option aW:=
 (cK p0.list).bind fun l0=>
 some (aW.mk p0.next_ l0)
def c73:bN:=⟨aC.one (aK.agg fM),aK.agg fM,fun a=>nQ a,.own,true⟩
def aFc:bN:=⟨aC.one (aK.agg fM),aK.agg fM,fun a=>nQ a,.frz,false⟩
theorem SX:aH aZ 73 c73:=Oc ZN rfl aF [] trivial fun a=>by kernel_rfl
theorem NI:aH aZ 73 aFc:=Oc ZN rfl aF [] trivial fun a=>by kernel_rfl
def lX (p0:aS):Option aS:=
 (cK p0.uses).bind fun l0=>
 (cK p0.used).bind fun l1=>
 (cK p0.free).bind fun l2=>
 some (aS.mk l0 l1 l2)
def ZQ:bN:=⟨aC.one (aK.agg fL),aK.agg fL,fun a=>lX a,.own,true⟩
def P0:bN:=⟨aC.one (aK.agg fL),aK.agg fL,fun a=>lX a,.frz,false⟩
theorem HQ:aH aZ 133 ZQ:=Oc UV rfl aF [] trivial fun a=>by kernel_rfl
theorem EY:aH aZ 133 P0:=Oc UV rfl aF [] trivial fun a=>by kernel_rfl
def kO (p0:aG):Option aG:=
 (lX p0.slots).bind fun r0=>
 (cK p0.heap).bind fun l1=>
 (cK p0.where_).bind fun l2=>
 some (aG.mk r0 l1 l2)
def c74:bN:=⟨aC.one (aK.agg cN),aK.agg cN,fun a=>kO a,.own,true⟩
def W9:bN:=⟨aC.one (aK.agg cN),aK.agg cN,fun a=>kO a,.frz,false⟩
theorem JX:aH aZ 74 c74:=Oc ZO rfl aF [(133,ZQ),(133,P0)] ⟨HQ,EY,trivial⟩ fun a=>by kernel_rfl
theorem EZ:aH aZ 74 W9:=Oc ZO rfl aF [(133,ZQ),(133,P0)] ⟨HQ,EY,trivial⟩ fun a=>by kernel_rfl
def gP (p0:aI):Option aI:=
 (nP p0.field).bind fun r0=>
 (nQ p0.certs).bind fun r1=>
 (kO p0.agenda).bind fun r2=>
 (cK p0.due).bind fun l3=>
 some (aI.mk p0.now r0 r1 r2 l3)
def c32:bN:=⟨aC.one (aK.agg bL),aK.agg bL,fun a=>gP a,.own,true⟩
def P1:bN:=⟨aC.one (aK.agg bL),aK.agg bL,fun a=>gP a,.frz,false⟩
theorem DO:aH aZ 32 c32:=Oc ZK rfl aF [(72,c72),(72,aFb),(73,c73),(73,aFc),(74,c74),(74,W9)] ⟨SW,NH,SX,NI,JX,EZ,trivial⟩ fun a=>by kernel_rfl
theorem yZ:aH aZ 32 P1:=Oc ZK rfl aF [(72,c72),(72,aFb),(73,c73),(73,aFc),(74,c74),(74,W9)] ⟨SW,NH,SX,NI,JX,EZ,trivial⟩ fun a=>by kernel_rfl
def uF (p0:dC):Option dC:=
 (gP p0.clock).bind fun r0=>
 (cK p0.heap).bind fun l1=>
 some (dC.mk r0 l1)
def c9:bN:=⟨aC.one (aK.agg fW),aK.agg fW,fun a=>uF a,.own,true⟩
def c9p:bN:=⟨aC.one (aK.agg fW),aK.agg fW,fun a=>uF a,.frz,false⟩
theorem aMJ:aH aZ 9 c9:=Oc aGZ rfl aF [(32,c32),(32,P1)] ⟨DO,yZ,trivial⟩ fun a=>by kernel_rfl
theorem aK1:aH aZ 9 c9p:=Oc aGZ rfl aF [(32,c32),(32,P1)] ⟨DO,yZ,trivial⟩ fun a=>by kernel_rfl
def lF (p0:Int):Option Int:=
 bif decide (p0<0) then
  some (aA .u64 (0- (aA .u64 p0)))
 else
  some (aA .u64 p0)
def c76:bN:=⟨aC.one (aK.int .i64),aK.int .u64,fun a=>lF a,.pure,false⟩
theorem SY:aH aZ 76 c76:=Oc aKF rfl aF [] trivial fun a=>by kernel_rfl
def tH (s:(Int×Int)):Option (bQ (Int×Int) Int):=
 bif decide (0<s.2) then
  bif s.2==0 then
   none
  else
   some (.next (s.2,Int.tmod s.1 s.2))
 else
  some (.done s.1)
def xS (p0:Int) (p1:Int):Option Int:=
 aJ tH (p0,p1)
def c75:bN:=⟨aC.cons (aK.int .u64) (aC.one (aK.int .u64)),aK.int .u64,fun a=>xS a.1 a.2,.pure,false⟩
theorem ZR:aH aZ 75 c75:=Oc aKE rfl aF [] trivial fun a=>by kernel_rfl
def fI (p0:Int×Int):Option Int:=
 bif decide (p0.2<1) then
  some 8
 else
  bif p0.1==(-9223372036854775808) then
   some 8
  else
   (lF p0.1).bind fun n0=>
   (xS (aA .u64 p0.2) n0).bind fun n1=>
   bif decide (1<n1) then
    some 8
   else
    some 0
def c33:bN:=⟨aC.one (aK.agg (cE.row hO)),aK.int .i64,fun a=>fI a,.pure,false⟩
theorem A9:aH aZ 33 c33:=Oc aKh rfl aF [(76,c76),(75,c75)] ⟨SY,ZR,trivial⟩ fun a=>by kernel_rfl
def oT (p0:Int):Option Bool:=
 bif decide (p0<(-1048576)) then
  some true
 else
  some (decide (1048576<p0))
def aMK:bN:=⟨aC.one (aK.int .i64),aK.bool,fun a=>oT a,.pure,false⟩
theorem aFe:aH aZ 177 aMK:=Oc aEi rfl aF [] trivial fun a=>by kernel_rfl
def mK (p0:Int×Int×Int):Option Int:=
 bif decide (p0.1<0) then
  some 8
 else
  bif decide (65535<p0.1) then
   some 8
  else
   (oT p0.2.1).bind fun b0=>
   bif b0 then
    some 8
   else
    (oT p0.2.2).bind fun b1=>
    bif b1 then
     some 8
    else
     some 0
def aK2:bN:=⟨aC.one (aK.agg (cE.row fV)),aK.int .i64,fun a=>mK a,.pure,false⟩
theorem U2:aH aZ 128 aK2:=Oc aDD rfl aF [(177,aMK)] ⟨aFe,trivial⟩ fun a=>by kernel_rfl
def iA (s:((List (Int×Int×Int))×Int×Int×(List (Int×Int×Int)))):Option (bQ ((List (Int×Int×Int))×Int×Int×(List (Int×Int×Int))) (bQ ((List (Int×Int×Int))×Int×Int×(List (Int×Int×Int))) Int)):=
 bif decide (s.2.2.1<s.2.1) then
  (aN s.1 s.2.2.1).bind fun a0=>
  bif decide (0<s.2.2.1) then
   (aN s.2.2.2 (aA .i64 (s.2.2.1-1))).bind fun a1=>
   bif decide (a0.1<=a1.1) then
    some (.done (.done 32))
   else
    some (.next (s.1,s.2.1,aA .i64 (s.2.2.1+1),s.2.2.2))
  else
   some (.next (s.1,s.2.1,aA .i64 (s.2.2.1+1),s.2.2.2))
 else
  some (.done (.done 0))
def lY (s:((List (Int×Int×Int))×Int×Int×(List (Int×Int×Int)))):Option (bQ ((List (Int×Int×Int))×Int×Int×(List (Int×Int×Int))) Int):=
 bif decide (s.2.2.1<s.2.1) then
  (aN s.1 s.2.2.1).bind fun a0=>
  (mK a0).bind fun n1=>
  bif n1 !=0 then
   some (.done n1)
  else
   some (.next (s.1,s.2.1,aA .i64 (s.2.2.1+1),s.2.2.2))
 else
  aJ iA (s.2.2.2,Int.ofNat s.2.2.2.length,0,s.2.2.2)
def iT (p0:Field):Option Int:=
 bif decide (64<(Int.ofNat p0.points.length)) then
  some 4
 else
  aJ lY (p0.points,Int.ofNat p0.points.length,0,p0.points)
def aFf:bN:=⟨aC.one (aK.agg eD),aK.int .i64,fun a=>iT a,.pure,false⟩
theorem NJ:aH aZ 104 aFf:=Oc aDi rfl aF [(128,aK2)] ⟨U2,trivial⟩ fun a=>by kernel_rfl
def uG (p0:Int×Int):Option Bool:=
 bif decide (0<=(if p0.2<p0.1 then p0.2 else p0.1)) then
  bif decide ((if p0.2>p0.1 then p0.2 else p0.1)<=65535) then
   some (p0.1 !=p0.2)
  else
   some false
 else
  some false
def aK3:bN:=⟨aC.one (aK.agg (cE.row hO)),aK.bool,fun a=>uG a,.pure,false⟩
theorem U3:aH aZ 166 aK3:=Oc aD7 rfl aF [] trivial fun a=>by kernel_rfl
def qV (s:(Int×(List (Int×Int×Int))×Int×Int×Int×(List (Int×Int×Int))×(List (List Int)))):Option (bQ (Int×(List (Int×Int×Int))×Int×Int×Int×(List (Int×Int×Int))×(List (List Int))) Int):=
 bif decide (s.2.2.2.1<s.2.2.1) then
  (aN s.2.1 s.2.2.2.1).bind fun a0=>
  (uG a0.2).bind fun b1=>
  bif !b1 then
   some (.done 8)
  else
   (PA s.2.2.2.2.2.2 [a0.2.1,a0.2.2]).bind fun b2=>
   bif b2 then
    some (.done 8)
   else
    bif decide (a0.1<=s.1) then
     some (.done 8)
    else
     bif decide (s.2.2.2.2.1<=a0.1) then
      some (.done 8)
     else
      (PB s.2.2.2.2.2.2 [a0.2.1,a0.2.2]).bind fun l3=>
      some (.next (a0.1,s.2.1,s.2.2.1,aA .i64 (s.2.2.2.1+1),s.2.2.2.2.1,s.2.2.2.2.2.1,l3))
 else
  some (.done 0)
def qD (p0:aW):Option Int:=
 bif decide (200<(Int.ofNat p0.list.length)) then
  some 8
 else
  bif decide (p0.next_<0) then
   some 8
  else
   bif decide (1000000<p0.next_) then
    some 8
   else
    aJ qV (-1,p0.list,Int.ofNat p0.list.length,0,p0.next_,p0.list,[])
def aFg:bN:=⟨aC.one (aK.agg fM),aK.int .i64,fun a=>qD a,.pure,false⟩
theorem NK:aH aZ 117 aFg:=Oc aDs rfl aF [(166,aK3)] ⟨U3,trivial⟩ fun a=>by kernel_rfl
theorem BA:aH aZ 141 (bN.clone kb):=aH.clone aDN rfl
def gC (s:((List Bool)×Bool×Int×Int)):Option (bQ ((List Bool)×Bool×Int×Int) Int):=
 bif decide (s.2.2.2<s.2.2.1) then
  (aN s.1 s.2.2.2).bind fun b0=>
  bif s.2.1==b0 then
   some (.done s.2.2.2)
  else
   some (.next (s.1,s.2.1,s.2.2.1,aA .i64 (s.2.2.2+1)))
 else
  some (.done (-1))
def oU (p0:List Bool) (p1:Bool):Option Int:=
 aJ gC (p0,p1,Int.ofNat p0.length,0)
def aML:bN:=⟨aC.cons (aK.sl kb) (aC.one aK.bool),aK.int .i64,fun a=>oU a.1 a.2,.pure,false⟩
theorem aFh:aH aZ 234 aML:=Oc aEZ rfl aF [] trivial fun a=>by kernel_rfl
def dQ (p0:List Bool) (p1:Bool):Option Bool:=
 (oU p0 p1).bind fun n0=>
 some (decide (0<=n0))
def aMM:bN:=⟨aC.cons (aK.sl kb) (aC.one aK.bool),aK.bool,fun a=>dQ a.1 a.2,.pure,false⟩
theorem aFi:aH aZ 212 aMM:=Oc aEK rfl aF [(234,aML)] ⟨aFh,trivial⟩ fun a=>by kernel_rfl
def fX (s:((List Int)×Int×Int×(List Int)×(List Bool)×(List Int))):Option (bQ ((List Int)×Int×Int×(List Int)×(List Bool)×(List Int)) (bQ ((List Int)×Int×Int×(List Int)×(List Bool)×(List Int)×Int×(List Bool)) Int)):=
 bif decide (s.2.2.1<s.2.1) then
  (aN s.1 s.2.2.1).bind fun n0=>
  bif decide (n0<0) then
   some (.done (.done 8))
  else
   bif decide (1000000<n0) then
    some (.done (.done 8))
   else
    bif n0==0 then
     (aN s.2.2.2.2.1 s.2.2.1).bind fun b1=>
     bif b1 then
      some (.done (.done 8))
     else
      some (.next (s.1,s.2.1,aA .i64 (s.2.2.1+1),s.2.2.2))
    else
     some (.next (s.1,s.2.1,aA .i64 (s.2.2.1+1),s.2.2.2))
 else
  some (.done (.done 0))
def qW (c0:(List Bool)) (s:((List Int)×Int×Int×(List Int)×(List Bool)×(List Int)×Int×(List Bool))):Option (bQ ((List Int)×Int×Int×(List Int)×(List Bool)×(List Int)×Int×(List Bool)) Int):=
 bif decide (s.2.2.1<s.2.1) then
  (aN s.1 s.2.2.1).bind fun n0=>
  bif decide (n0<0) then
   bif s.2.2.2.2.2.2.2.length==s.2.2.2.2.2.2.2.length then
    bif s.2.2.2.2.2.2.2.length==c0.length then
     bif s.2.2.2.2.2.2.2.length==c0.length then
      bif decide (0<=s.2.2.1) then
       some (.done 8)
      else
       (dQ s.2.2.2.2.2.2.2 false).bind fun b1=>
       bif b1 then
        some (.done 8)
       else
        aJ fX (s.2.2.2.1,Int.ofNat s.2.2.2.1.length,0,s.2.2.2.1,s.2.2.2.2.1,s.2.2.2.2.2.1)
     else
      none
    else
     none
   else
    none
  else
   bif decide (s.2.2.2.2.2.2.1<=n0) then
    bif s.2.2.2.2.2.2.2.length==s.2.2.2.2.2.2.2.length then
     bif s.2.2.2.2.2.2.2.length==c0.length then
      bif s.2.2.2.2.2.2.2.length==c0.length then
       bif decide (0<=s.2.2.1) then
        some (.done 8)
       else
        (dQ s.2.2.2.2.2.2.2 false).bind fun b2=>
        bif b2 then
         some (.done 8)
        else
         aJ fX (s.2.2.2.1,Int.ofNat s.2.2.2.1.length,0,s.2.2.2.1,s.2.2.2.2.1,s.2.2.2.2.2.1)
      else
       none
     else
      none
    else
     none
   else
    (aN s.2.2.2.2.2.2.2 n0).bind fun b3=>
    bif b3 then
     bif s.2.2.2.2.2.2.2.length==s.2.2.2.2.2.2.2.length then
      bif s.2.2.2.2.2.2.2.length==c0.length then
       bif s.2.2.2.2.2.2.2.length==c0.length then
        bif decide (0<=s.2.2.1) then
         some (.done 8)
        else
         (dQ s.2.2.2.2.2.2.2 false).bind fun b4=>
         bif b4 then
          some (.done 8)
         else
          aJ fX (s.2.2.2.1,Int.ofNat s.2.2.2.1.length,0,s.2.2.2.1,s.2.2.2.2.1,s.2.2.2.2.2.1)
       else
        none
      else
       none
     else
      none
    else
     (aN s.2.2.2.2.2.2.2 n0).bind fun _=>
     bif ((bV s.2.2.2.2.2.2.2 n0 true).length)==s.2.2.2.2.2.2.2.length then
      some (.next (s.1,s.2.1,aA .i64 (s.2.2.1+1),s.2.2.2.1,s.2.2.2.2.1,s.2.2.2.2.2.1,s.2.2.2.2.2.2.1,bV s.2.2.2.2.2.2.2 n0 true))
     else
      none
 else
  bif s.2.2.2.2.2.2.2.length==c0.length then
   bif s.2.2.2.2.2.2.2.length==c0.length then
    (dQ s.2.2.2.2.2.2.2 false).bind fun b6=>
    bif b6 then
     some (.done 8)
    else
     aJ fX (s.2.2.2.1,Int.ofNat s.2.2.2.1.length,0,s.2.2.2.1,s.2.2.2.2.1,s.2.2.2.2.2.1)
   else
    none
  else
   none
def qE (p0:aS):Option Int:=
 bif decide ((Int.ofNat p0.uses.length)<1) then
  some 8
 else
  bif decide (200<(Int.ofNat p0.uses.length)) then
   some 8
  else
   bif (Int.ofNat p0.used.length) !=(Int.ofNat p0.uses.length) then
    some 8
   else
    (cK p0.used).bind fun l0=>
    aJ (qW l0) (p0.free,Int.ofNat p0.free.length,0,p0.uses,p0.used,p0.free,Int.ofNat p0.uses.length,l0)
def aFj:bN:=⟨aC.one (aK.agg fL),aK.int .i64,fun a=>qE a,.pure,false⟩
theorem NL:aH aZ 167 aFj:=aH.of aD8 (cx:=(pP aF [(141,bN.clone kb),(212,aMM)] [] [(210,aCE),(233,aC0),(211,aCG)] [])) rfl (lV.make ⟨BA,aFi,trivial⟩ trivial ⟨aEI,aEY,aEJ,trivial⟩) (fun a=>by kernel_rfl)
def zA (p0:Int×Int) (p1:Int×Int):Option Int:=
 (fI p0).bind fun n0=>
 (fI p1).bind fun n1=>
 some (if n1>n0 then n1 else n0)
def c77:bN:=⟨aC.cons (aK.agg (cE.row hO)) (aC.one (aK.agg (cE.row hO))),aK.int .i64,fun a=>zA a.1 a.2,.pure,false⟩
theorem aK4:aH aZ 77 c77:=Oc aKG rfl aF [(33,c33)] ⟨A9,trivial⟩ fun a=>by kernel_rfl
def nG (p0:Int):Option Bool:=
 some (p0 !=p0)
def aMN:bN:=⟨aC.one (aK.int .i64),aK.bool,fun a=>nG a,.pure,false⟩
theorem aFk:aH aZ 134 aMN:=Oc aDG rfl aF [] trivial fun a=>by kernel_rfl
def iU (p0:Int) (p1:Int):Option Int:=
 (nG p0).bind fun b0=>
 (nG p1).bind fun b1=>
 bif b0 then
  bif b1 then
   some 0
  else
   some (-1)
 else
  bif b1 then
   some 1
  else
   bif decide (p0<p1) then
    some (-1)
   else
    bif decide (p1<p0) then
     some 1
    else
     some 0
def c78:bN:=⟨aC.cons (aK.int .i64) (aC.one (aK.int .i64)),aK.int .i64,fun a=>iU a.1 a.2,.pure,false⟩
theorem ZS:aH aZ 78 c78:=Oc aKH rfl aF [(134,aMN)] ⟨aFk,trivial⟩ fun a=>by kernel_rfl
def iN (p0:Int) (p1:Int):Option (Int×Int):=
 some (aA .u64 ((aA .u64 ((aA .u64 ((rX .u64 p0 32)*(rX .u64 p1 32)))+(rX .u64 (aA .u64 ((aA .u64 ((rX .u64 p0 32)*(HE .u64 p1 4294967295)))+(rX .u64 (aA .u64 ((HE .u64 p0 4294967295)*(HE .u64 p1 4294967295))) 32))) 32)))+(rX .u64 (aA .u64 ((HE .u64 (aA .u64 ((aA .u64 ((rX .u64 p0 32)*(HE .u64 p1 4294967295)))+(rX .u64 (aA .u64 ((HE .u64 p0 4294967295)*(HE .u64 p1 4294967295))) 32))) 4294967295)+(aA .u64 ((HE .u64 p0 4294967295)*(rX .u64 p1 32))))) 32)),aA .u64 (p0*p1))
def aK5:bN:=⟨aC.cons (aK.int .u64) (aC.one (aK.int .u64)),aK.tup (aC.cons (aK.int .u64) (aC.one (aK.int .u64))),fun a=>iN a.1 a.2,.pure,false⟩
theorem U4:aH aZ 136 aK5:=Oc aDI rfl aF [] trivial fun a=>by kernel_rfl
def sD (p0:Int) (p1:Int):Option (Bool×Int×Int):=
 (lF p0).bind fun n0=>
 (lF p1).bind fun n1=>
 (iN n0 n1).bind fun a2=>
 some (!((decide (p0<0))==(decide (p1<0))),a2)
def c80:bN:=⟨aC.cons (aK.int .i64) (aC.one (aK.int .i64)),aK.agg (cE.row A6),fun a=>sD a.1 a.2,.pure,false⟩
theorem aK6:aH aZ 80 c80:=Oc aKJ rfl aF [(76,c76),(136,aK5)] ⟨SY,U4,trivial⟩ fun a=>by kernel_rfl
def mL (p0:Int):Option Bool:=
 some (p0 !=p0)
def aMO:bN:=⟨aC.one (aK.int .u64),aK.bool,fun a=>mL a,.pure,false⟩
theorem aFl:aH aZ 183 aMO:=Oc aEl rfl aF [] trivial fun a=>by kernel_rfl
def iB (p0:Int) (p1:Int):Option Int:=
 (mL p0).bind fun b0=>
 (mL p1).bind fun b1=>
 bif b0 then
  bif b1 then
   some 0
  else
   some (-1)
 else
  bif b1 then
   some 1
  else
   bif decide (p0<p1) then
    some (-1)
   else
    bif decide (p1<p0) then
     some 1
    else
     some 0
def aMP:bN:=⟨aC.cons (aK.int .u64) (aC.one (aK.int .u64)),aK.int .i64,fun a=>iB a.1 a.2,.pure,false⟩
theorem aFm:aH aZ 135 aMP:=Oc aDH rfl aF [(183,aMO)] ⟨aFl,trivial⟩ fun a=>by kernel_rfl
def qX (p0:Bool×Int×Int) (p1:Bool×Int×Int):Option Int:=
 (iB p0.2.1 p1.2.1).bind fun n0=>
 bif n0 !=0 then
  some n0
 else
  (iB p0.2.2 p1.2.2).bind fun n1=>
  some n1
def c79:bN:=⟨aC.cons (aK.agg (cE.row A6)) (aC.one (aK.agg (cE.row A6))),aK.int .i64,fun a=>qX a.1 a.2,.pure,false⟩
theorem aK7:aH aZ 79 c79:=Oc aKI rfl aF [(135,aMP)] ⟨aFm,trivial⟩ fun a=>by kernel_rfl
def qF (p0:Int×Int) (p1:Int×Int):Option (Int×Int):=
 (zA p0 p1).bind fun n0=>
 bif n0 !=0 then
  some (0,n0)
 else
  bif !((decide (p0.1<0))==(decide (p1.1<0))) then
   (iU p0.1 p1.1).bind fun n1=>
   some (n1,0)
  else
   (sD p0.1 p1.2).bind fun a2=>
   (sD p1.1 p0.2).bind fun a3=>
   (qX a2 a3).bind fun n4=>
   bif decide (p0.1<0) then
    some (aA .i64 (0-n4),0)
   else
    some (n4,0)
def c34:bN:=⟨aC.cons (aK.agg (cE.row hO)) (aC.one (aK.agg (cE.row hO))),aK.tup (aC.cons (aK.int .i64) (aC.one (aK.int .i64))),fun a=>qF a.1 a.2,.pure,false⟩
theorem SZ:aH aZ 34 c34:=Oc aKi rfl aF [(77,c77),(78,c78),(80,c80),(79,c79)] ⟨aK4,ZS,aK6,aK7,trivial⟩ fun a=>by kernel_rfl
def qY (p0:Int):Option Bool:=
 some (p0 !=p0)
def aMQ:bN:=⟨aC.one (aK.int .i64),aK.bool,fun a=>qY a,.pure,false⟩
theorem aFn:aH aZ 216 aMQ:=Oc aEO rfl aF [] trivial fun a=>by kernel_rfl
def eL (p0:Int) (p1:Int):Option Int:=
 (qY p0).bind fun b0=>
 (qY p1).bind fun b1=>
 bif b0 then
  bif b1 then
   some 0
  else
   some (-1)
 else
  bif b1 then
   some 1
  else
   bif decide (p0<p1) then
    some (-1)
   else
    bif decide (p1<p0) then
     some 1
    else
     some 0
def S0:bN:=⟨aC.cons (aK.int .i64) (aC.one (aK.int .i64)),aK.int .i64,fun a=>eL a.1 a.2,.pure,false⟩
theorem B1:aH aZ 180 S0:=Oc aEk rfl aF [(216,aMQ)] ⟨aFn,trivial⟩ fun a=>by kernel_rfl
def wO (s:(Int×(List Int)×Int×Int)):Option (bQ (Int×(List Int)×Int×Int) Int):=
 bif decide (s.2.2.2<s.2.2.1) then
  (aN s.2.1 s.2.2.2).bind fun n0=>
  bif n0 !=s.1 then
   some (.done n0)
  else
   some (.next (s.1,s.2.1,s.2.2.1,aA .i64 (s.2.2.2+1)))
 else
  some (.done s.1)
def uH (p0:List Int):Option Int:=
 aJ wO (0,p0,Int.ofNat p0.length,0)
def aK8:bN:=⟨aC.one (aK.sl ki),aK.int .i64,fun a=>uH a,.pure,false⟩
theorem U5:aH aZ 196 aK8:=Oc aEy rfl aF [] trivial fun a=>by kernel_rfl
def bX (p0:Int×Int×Int×Int×Int) (p1:Int×Int×Int×Int×Int):Option Int:=
 (qF (p0.1,p0.2.1) (p1.1,p1.2.1)).bind fun a0=>
 (eL p0.2.2.1 p1.2.2.1).bind fun n1=>
 (uH [a0.1,n1]).bind fun n2=>
 some n2
def aFo:bN:=⟨aC.cons (aK.agg (cE.row jV)) (aC.one (aK.agg (cE.row jV))),aK.int .i64,fun a=>bX a.1 a.2,.pure,false⟩
theorem NM:aH aZ 168 aFo:=Oc aD9 rfl aF [(34,c34),(180,S0),(196,aK8)] ⟨SZ,B1,U5,trivial⟩ fun a=>by kernel_rfl
def iO (s:((List (Int×Int×Int×Int×Int))×Int×Int×(List Int)×(List Bool)×(List Int)×(List (Int×Int×Int×Int×Int))×(List Int)×(List (List Int)))):Option (bQ ((List (Int×Int×Int×Int×Int))×Int×Int×(List Int)×(List Bool)×(List Int)×(List (Int×Int×Int×Int×Int))×(List Int)×(List (List Int))) (bQ ((List Int)×Int×Int×(List Int)×(List Bool)×(List Int)×(List (Int×Int×Int×Int×Int))×(List Int)) Int)):=
 bif decide (s.2.2.1<s.2.1) then
  (aN s.1 s.2.2.1).bind fun a0=>
  (fI (a0.1,a0.2.1)).bind fun n1=>
  bif n1 !=0 then
   some (.done (.done 8))
  else
   bif decide (a0.2.2.1<0) then
    some (.done (.done 8))
   else
    bif decide (1000000<a0.2.2.1) then
     some (.done (.done 8))
    else
     (PA s.2.2.2.2.2.2.2.2 [a0.2.2.1]).bind fun b2=>
     bif b2 then
      some (.done (.done 8))
     else
      (PB s.2.2.2.2.2.2.2.2 [a0.2.2.1]).bind fun l3=>
      bif decide (0<s.2.2.1) then
       (aN s.2.2.2.2.2.2.1 (aA .i64 (Int.tdiv (aA .i64 (s.2.2.1-1)) 2))).bind fun a4=>
       (bX a0 a4).bind fun n5=>
       bif decide (n5<0) then
        some (.done (.done 8))
       else
        some (.next (s.1,s.2.1,aA .i64 (s.2.2.1+1),s.2.2.2.1,s.2.2.2.2.1,s.2.2.2.2.2.1,s.2.2.2.2.2.2.1,s.2.2.2.2.2.2.2.1,l3))
      else
       some (.next (s.1,s.2.1,aA .i64 (s.2.2.1+1),s.2.2.2.1,s.2.2.2.2.1,s.2.2.2.2.2.1,s.2.2.2.2.2.2.1,s.2.2.2.2.2.2.2.1,l3))
 else
  some (.done (.done 0))
def lD (s:((List Int)×Int×Int×(List Int)×(List Bool)×(List Int)×(List (Int×Int×Int×Int×Int))×(List Int))):Option (bQ ((List Int)×Int×Int×(List Int)×(List Bool)×(List Int)×(List (Int×Int×Int×Int×Int))×(List Int)) Int):=
 bif decide (s.2.2.1<s.2.1) then
  (aN s.1 s.2.2.1).bind fun n0=>
  (aN s.2.2.2.2.1 s.2.2.1).bind fun b1=>
  bif !b1 then
   bif n0 !=(-1) then
    some (.done 8)
   else
    some (.next (s.1,s.2.1,aA .i64 (s.2.2.1+1),s.2.2.2))
  else
   bif decide (n0<0) then
    some (.done 8)
   else
    bif decide ((Int.ofNat s.2.2.2.2.2.2.1.length)<=n0) then
     some (.done 8)
    else
     (aN s.2.2.2.2.2.2.1 n0).bind fun a2=>
     (aN s.2.2.2.1 s.2.2.1).bind fun n3=>
     bif !((a2.2.2.2.1==s.2.2.1)&&(a2.2.2.2.2==n3)) then
      some (.done 8)
     else
      some (.next (s.1,s.2.1,aA .i64 (s.2.2.1+1),s.2.2.2))
 else
  aJ iO (s.2.2.2.2.2.2.1,Int.ofNat s.2.2.2.2.2.2.1.length,0,s.2.2.2.1,s.2.2.2.2.1,s.2.2.2.2.2.1,s.2.2.2.2.2.2.1,s.2.2.2.2.2.2.2,[])
def iV (p0:aG):Option Int:=
 (qE p0.slots).bind fun n0=>
 bif n0 !=0 then
  some 8
 else
  bif (Int.ofNat p0.where_.length) !=(Int.ofNat p0.slots.used.length) then
   some 8
  else
   bif (Int.ofNat p0.heap.length) !=(aA .i64 ((Int.ofNat p0.slots.used.length) - (Int.ofNat p0.slots.free.length))) then
    some 8
   else
    aJ lD (p0.where_,Int.ofNat p0.where_.length,0,p0.slots.uses,p0.slots.used,p0.slots.free,p0.heap,p0.where_)
def XA:bN:=⟨aC.one (aK.agg cN),aK.int .i64,fun a=>iV a,.pure,false⟩
theorem E0:aH aZ 118 XA:=Oc aDt rfl aF [(167,aFj),(33,c33),(168,aFo)] ⟨NL,A9,NM,trivial⟩ fun a=>by kernel_rfl
def wP (p0:Int×Int×Int) (p1:Int):Option Int:=
 (eL p0.1 p1).bind fun n0=>
 some n0
def aMR:bN:=⟨aC.cons (aK.agg (cE.row fV)) (aC.one (aK.int .i64)),aK.int .i64,fun a=>wP a.1 a.2,.pure,false⟩
theorem aFp:aH aZ 198 aMR:=Oc aEz rfl aF [(180,S0)] ⟨B1,trivial⟩ fun a=>by kernel_rfl
def hU (s:((List (Int×Int×Int))×Int×Int×Int×Int)):Option (bQ ((List (Int×Int×Int))×Int×Int×Int×Int) (Int×Bool)):=
 bif decide (s.2.2.2.1<s.2.2.2.2) then
  (aN s.1 (aA .i64 (rX .u64 (aA .u64 (aA .i64 (s.2.2.2.1+s.2.2.2.2))) 1))).bind fun a0=>
  (wP a0 s.2.1).bind fun n1=>
  bif decide (n1<0) then
   some (.next (s.1,s.2.1,s.2.2.1,aA .i64 ((aA .i64 (rX .u64 (aA .u64 (aA .i64 (s.2.2.2.1+s.2.2.2.2))) 1))+1),s.2.2.2.2))
  else
   some (.next (s.1,s.2.1,s.2.2.1,s.2.2.2.1,aA .i64 (rX .u64 (aA .u64 (aA .i64 (s.2.2.2.1+s.2.2.2.2))) 1)))
 else
  bif decide (s.2.2.2.1<s.2.2.1) then
   (aN s.1 s.2.2.2.1).bind fun a2=>
   (wP a2 s.2.1).bind fun n3=>
   some (.done (s.2.2.2.1,n3==0))
  else
   some (.done (s.2.2.2.1,false))
def cL (p0:List (Int×Int×Int)) (p1:Int) (_:Unit):Option (Int×Bool):=
 aJ hU (p0,p1,Int.ofNat p0.length,0,Int.ofNat p0.length)
def P2:bN:=⟨aC.cons (aK.sl fV) (aC.cons (aK.int .i64) (aC.one (aK.clo 198 aC.nil))),aK.tup (aC.cons (aK.int .i64) (aC.one aK.bool)),fun a=>cL a.1 a.2.1 a.2.2,.pure,false⟩
theorem P3:aH aZ 178 P2:=Oc UX rfl aF [(198,aMR)] ⟨aFp,trivial⟩ fun a=>by kernel_rfl
def iW (p0:Field) (p1:Int):Option (Int×Int×Int):=
 (cL p0.points p1 ()).bind fun a0=>
 bif !a0.2 then
  some (-1,0,0)
 else
  (aN p0.points a0.1).bind fun a1=>
  some a1
def aFq:bN:=⟨aC.cons (aK.agg eD) (aC.one (aK.int .i64)),aK.agg (cE.row fV),fun a=>iW a.1 a.2,.pure,false⟩
theorem NN:aH aZ 157 aFq:=Oc aD0 rfl aF [(178,P2)] ⟨P3,trivial⟩ fun a=>by kernel_rfl
def qG (p0:Int×Int×Int) (p1:Int×Int×Int) (p2:Int×Int):Option Int:=
 (mK p0).bind fun n0=>
 (mK p1).bind fun n1=>
 (fI p2).bind fun n2=>
 bif (if n2>(if n1>n0 then n1 else n0) then n2 else if n1>n0 then n1 else n0) !=0 then
  some (if n2>(if n1>n0 then n1 else n0) then n2 else if n1>n0 then n1 else n0)
 else
  bif p0.1==p1.1 then
   some 2
  else
   some 0
def aFr:bN:=⟨aC.cons (aK.agg (cE.row fV)) (aC.cons (aK.agg (cE.row fV)) (aC.one (aK.agg (cE.row hO)))),aK.int .i64,fun a=>qG a.1 a.2.1 a.2.2,.pure,false⟩
theorem NO:aH aZ 152 aFr:=Oc aDY rfl aF [(128,aK2),(33,c33)] ⟨U2,A9,trivial⟩ fun a=>by kernel_rfl
theorem ZT:aH aZ 225 (bN.add64):=aH.add64 aET
def nB (s:(Int×Int×Int×Int×Int×Int×Int×Int×Int)):Option (bQ (Int×Int×Int×Int×Int×Int×Int×Int×Int) (Int×Int)):=
 bif decide (s.2.2.2.2.1<2) then
  bif s.2.2.2.2.1==0 then
   (iN (aA .u64 s.1) (aA .u64 s.2.1)).bind fun a0=>
   bif decide (s.1<0) then
    bif decide (s.2.1<0) then
     (qC s.2.2.2.2.2.2.2.2 a0.2 0).bind fun a1=>
     some (.next (s.1,s.2.1,s.2.2.1,s.2.2.2.1,aA .i64 (s.2.2.2.2.1+1),s.2.2.2.2.2.1,s.2.2.2.2.2.2.1,aA .i64 ((aA .i64 (s.2.2.2.2.2.2.2.1+(aA .i64 ((aA .i64 ((aA .i64 a0.1) -s.2.1)) -s.1))))+(aA .i64 a1.2)),a1.1))
    else
     (qC s.2.2.2.2.2.2.2.2 a0.2 0).bind fun a2=>
     some (.next (s.1,s.2.1,s.2.2.1,s.2.2.2.1,aA .i64 (s.2.2.2.2.1+1),s.2.2.2.2.2.1,s.2.2.2.2.2.2.1,aA .i64 ((aA .i64 (s.2.2.2.2.2.2.2.1+(aA .i64 ((aA .i64 a0.1) -s.2.1))))+(aA .i64 a2.2)),a2.1))
   else
    bif decide (s.2.1<0) then
     (qC s.2.2.2.2.2.2.2.2 a0.2 0).bind fun a3=>
     some (.next (s.1,s.2.1,s.2.2.1,s.2.2.2.1,aA .i64 (s.2.2.2.2.1+1),s.2.2.2.2.2.1,s.2.2.2.2.2.2.1,aA .i64 ((aA .i64 (s.2.2.2.2.2.2.2.1+(aA .i64 ((aA .i64 a0.1) -s.1))))+(aA .i64 a3.2)),a3.1))
    else
     (qC s.2.2.2.2.2.2.2.2 a0.2 0).bind fun a4=>
     some (.next (s.1,s.2.1,s.2.2.1,s.2.2.2.1,aA .i64 (s.2.2.2.2.1+1),s.2.2.2.2.2.1,s.2.2.2.2.2.2.1,aA .i64 ((aA .i64 (s.2.2.2.2.2.2.2.1+(aA .i64 a0.1)))+(aA .i64 a4.2)),a4.1))
  else
   bif s.2.2.2.2.1==1 then
    (iN (aA .u64 s.2.2.1) (aA .u64 s.2.2.2.1)).bind fun a5=>
    bif decide (s.2.2.1<0) then
     bif decide (s.2.2.2.1<0) then
      (qC s.2.2.2.2.2.2.2.2 a5.2 0).bind fun a6=>
      some (.next (s.1,s.2.1,s.2.2.1,s.2.2.2.1,aA .i64 (s.2.2.2.2.1+1),s.2.2.2.2.2.1,s.2.2.2.2.2.2.1,aA .i64 ((aA .i64 (s.2.2.2.2.2.2.2.1+(aA .i64 ((aA .i64 ((aA .i64 a5.1) -s.2.2.2.1)) -s.2.2.1))))+(aA .i64 a6.2)),a6.1))
     else
      (qC s.2.2.2.2.2.2.2.2 a5.2 0).bind fun a7=>
      some (.next (s.1,s.2.1,s.2.2.1,s.2.2.2.1,aA .i64 (s.2.2.2.2.1+1),s.2.2.2.2.2.1,s.2.2.2.2.2.2.1,aA .i64 ((aA .i64 (s.2.2.2.2.2.2.2.1+(aA .i64 ((aA .i64 a5.1) -s.2.2.2.1))))+(aA .i64 a7.2)),a7.1))
    else
     bif decide (s.2.2.2.1<0) then
      (qC s.2.2.2.2.2.2.2.2 a5.2 0).bind fun a8=>
      some (.next (s.1,s.2.1,s.2.2.1,s.2.2.2.1,aA .i64 (s.2.2.2.2.1+1),s.2.2.2.2.2.1,s.2.2.2.2.2.2.1,aA .i64 ((aA .i64 (s.2.2.2.2.2.2.2.1+(aA .i64 ((aA .i64 a5.1) -s.2.2.1))))+(aA .i64 a8.2)),a8.1))
     else
      (qC s.2.2.2.2.2.2.2.2 a5.2 0).bind fun a9=>
      some (.next (s.1,s.2.1,s.2.2.1,s.2.2.2.1,aA .i64 (s.2.2.2.2.1+1),s.2.2.2.2.2.1,s.2.2.2.2.2.2.1,aA .i64 ((aA .i64 (s.2.2.2.2.2.2.2.1+(aA .i64 a5.1)))+(aA .i64 a9.2)),a9.1))
   else
    none
 else
  some (.done s.2.2.2.2.2.2.2)
def zB (p0:Int×Int×Int×Int):Option (Int×Int):=
 aJ nB (p0.1,p0.2.1,p0.2.2.1,p0.2.2.2,0,0,0,0,0)
def aMS:bN:=⟨aC.one (aK.agg (cE.row aMF)),aK.agg (cE.row kiu),fun a=>zB a,.pure,false⟩
theorem aFs:aH aZ 195 aMS:=Oc aEx rfl aF [(136,aK5),(225,bN.add64)] ⟨U4,ZT,trivial⟩ fun a=>by kernel_rfl
def lZ (p0:Int×Int×Int) (p1:Int×Int×Int) (p2:Int×Int):Option Int:=
 (zB (aA .i64 (p0.2.1-p1.2.1),p2.2,aA .i64 (p0.2.2-p1.2.2),p2.1)).bind fun a0=>
 bif !((a0.1==0)&&(a0.2==0)) then
  bif decide (a0.1<0) then
   some (-1)
  else
   some 1
 else
  (iU p0.2.2 p1.2.2).bind fun n1=>
  (eL p1.1 p0.1).bind fun n2=>
  (uH [n1,n2]).bind fun n3=>
  some n3
def aK9:bN:=⟨aC.cons (aK.agg (cE.row fV)) (aC.cons (aK.agg (cE.row fV)) (aC.one (aK.agg (cE.row hO)))),aK.int .i64,fun a=>lZ a.1 a.2.1 a.2.2,.pure,false⟩
theorem U6:aH aZ 153 aK9:=Oc aDZ rfl aF [(195,aMS),(78,c78),(180,S0),(196,aK8)] ⟨aFs,ZS,B1,U5,trivial⟩ fun a=>by kernel_rfl
def BB (p0:Bool×Int×Int) (p1:Int) (p2:Int):Option ((Int×Int)×Int):=
 bif decide (0<p0.2.1) then
  some ((0,0),16)
 else
  bif decide (9223372036854775807<p0.2.2) then
   some ((0,0),16)
  else
   bif decide (0<p1) then
    some ((0,0),16)
   else
    bif decide (9223372036854775807<p2) then
     some ((0,0),16)
    else
     bif p0.1 then
      some ((aA .i64 (0- (aA .i64 p0.2.2)),aA .i64 p2),0)
     else
      some ((aA .i64 p0.2.2,aA .i64 p2),0)
def aMT:bN:=⟨aC.cons (aK.agg (cE.row A6)) (aC.cons (aK.int .u64) (aC.one (aK.int .u64))),aK.tup (aC.cons (aK.agg (cE.row hO)) (aC.one (aK.int .i64))),fun a=>BB a.1 a.2.1 a.2.2,.pure,false⟩
theorem aFt:aH aZ 243 aMT:=Oc aE7 rfl aF [] trivial fun a=>by kernel_rfl
def zC (p0:Int) (p1:Int):Option ((Int×Int)×Int):=
 bif p1==0 then
  some ((0,0),26)
 else
  (lF p0).bind fun n0=>
  (lF p1).bind fun n1=>
  (xS n0 n1).bind fun n2=>
  (lF p0).bind fun n3=>
  bif n2==0 then
   none
  else
   (lF p1).bind fun n4=>
   bif n2==0 then
    none
   else
    (BB (!((decide (p0<0))==(decide (p1<0))),0,aA .u64 (Int.tdiv n3 n2)) 0 (aA .u64 (Int.tdiv n4 n2))).bind fun a5=>
    some a5
def aMU:bN:=⟨aC.cons (aK.int .i64) (aC.one (aK.int .i64)),aK.tup (aC.cons (aK.agg (cE.row hO)) (aC.one (aK.int .i64))),fun a=>zC a.1 a.2,.pure,false⟩
theorem aFu:aH aZ 235 aMU:=Oc aE0 rfl aF [(76,c76),(75,c75),(243,aMT)] ⟨SY,ZR,aFt,trivial⟩ fun a=>by kernel_rfl
def BC (p0:Int×Int×Int) (p1:Int×Int×Int):Option ((Int×Int)×Int):=
 (qG p0 p1 (0,1)).bind fun n0=>
 bif n0 !=0 then
  some ((0,0),n0)
 else
  bif p0.2.2==p1.2.2 then
   some ((0,0),6)
  else
   (zC (aA .i64 (p0.2.1-p1.2.1)) (aA .i64 (p1.2.2-p0.2.2))).bind fun a1=>
   some a1
def aMV:bN:=⟨aC.cons (aK.agg (cE.row fV)) (aC.one (aK.agg (cE.row fV))),aK.tup (aC.cons (aK.agg (cE.row hO)) (aC.one (aK.int .i64))),fun a=>BC a.1 a.2,.pure,false⟩
theorem aFv:aH aZ 213 aMV:=Oc aEL rfl aF [(152,aFr),(235,aMU)] ⟨NO,aFu,trivial⟩ fun a=>by kernel_rfl
def tI (p0:Int×Int×Int) (p1:Int×Int×Int) (p2:Int×Int):Option ((Int×Int)×Bool×Int):=
 (qG p0 p1 p2).bind fun n0=>
 bif n0 !=0 then
  some ((0,0),false,n0)
 else
  (lZ p1 p0 p2).bind fun n1=>
  bif decide (0<n1) then
   some (p2,true,0)
  else
   bif decide (p1.2.2<=p0.2.2) then
    some ((0,0),false,0)
   else
    (BC p0 p1).bind fun a2=>
    some (a2.1,a2.2==0,a2.2)
def aMW:bN:=⟨aC.cons (aK.agg (cE.row fV)) (aC.cons (aK.agg (cE.row fV)) (aC.one (aK.agg (cE.row hO)))),aK.tup (aC.cons (aK.agg (cE.row hO)) (aC.cons aK.bool (aC.one (aK.int .i64)))),fun a=>tI a.1 a.2.1 a.2.2,.pure,false⟩
theorem aFw:aH aZ 169 aMW:=Oc aEa rfl aF [(152,aFr),(153,aK9),(213,aMV)] ⟨NO,U6,aFv,trivial⟩ fun a=>by kernel_rfl
def qH (p0:Field) (p1:Int×Int) (p2:Int×Int):Option ((Int×Int)×Bool×Int):=
 (iW p0 p1.2).bind fun a0=>
 (iW p0 p1.1).bind fun a1=>
 (tI a0 a1 p2).bind fun a2=>
 some a2
def aFx:bN:=⟨aC.cons (aK.agg eD) (aC.cons (aK.agg (cE.row hO)) (aC.one (aK.agg (cE.row hO)))),aK.tup (aC.cons (aK.agg (cE.row hO)) (aC.cons aK.bool (aC.one (aK.int .i64)))),fun a=>qH a.1 a.2.1 a.2.2,.pure,false⟩
theorem NP:aH aZ 119 aFx:=Oc aDu rfl aF [(157,aFq),(169,aMW)] ⟨NN,aFw,trivial⟩ fun a=>by kernel_rfl
def cF (s:((List (Int×Int×Int))×(List (Int×Int×Int))×Int×Int×Int×Int×(List (Int×Int×Int))×Int×(List (Int×Int×Int))×(List Int)×(List Bool)×(List Int)×(List (Int×Int×Int×Int×Int))×(List Int)×(List (Int×Int×Int)))):Option (bQ ((List (Int×Int×Int))×(List (Int×Int×Int))×Int×Int×Int×Int×(List (Int×Int×Int))×Int×(List (Int×Int×Int))×(List Int)×(List Bool)×(List Int)×(List (Int×Int×Int×Int×Int))×(List Int)×(List (Int×Int×Int))) (bQ (Int×Int×Int×Int×(List (Int×Int×Int))×Int×(List (Int×Int×Int))×(List Int)×(List Bool)×(List Int)×(List (Int×Int×Int×Int×Int))×(List Int)×(List (Int×Int×Int))×(List Int)) Int)):=
 bif decide (s.2.2.2.1<s.2.2.1) then
  (aN s.2.1 s.2.2.2.1).bind fun a0=>
  (qH (Field.mk s.2.2.2.2.2.2.1) a0.2 (s.2.2.2.2.1,s.2.2.2.2.2.1)).bind fun a1=>
  bif a1.2.2 !=0 then
   some (.done (.done 8))
  else
   bif !a1.2.1 then
    some (.next (s.1,s.2.1,s.2.2.1,aA .i64 (s.2.2.2.1+1),s.2.2.2.2))
   else
    bif (Int.ofNat s.1.length)==0 then
     some (.done (.done 8))
    else
     (aN s.1 0).bind fun a2=>
     bif a2.1 !=a0.1 then
      some (.done (.done 8))
     else
      (aN s.1 0).bind fun a3=>
      bif decide (a3.2.1<0) then
       some (.done (.done 8))
      else
       bif decide (200<=a3.2.1) then
        some (.done (.done 8))
       else
        (aN s.2.2.2.2.2.2.2.2.2.2.2.2.2.1 a3.2.1).bind fun n4=>
        bif decide (n4<0) then
         some (.done (.done 8))
        else
         (aN s.2.2.2.2.2.2.2.2.2.2.2.2.2.1 a3.2.1).bind fun n5=>
         (aN s.2.2.2.2.2.2.2.2.2.2.2.2.1 n5).bind fun a6=>
         bif !((a6.1==a1.1.1)&&((a6.2.1==a1.1.2)&&((a6.2.2.1==a0.1)&&((a6.2.2.2.1==a3.2.1)&&(a6.2.2.2.2==a3.2.2))))) then
          some (.done (.done 8))
         else
          (jB s.1 1 (Int.ofNat s.1.length)).bind fun l7=>
          some (.next (l7,s.2.1,s.2.2.1,aA .i64 (s.2.2.2.1+1),s.2.2.2.2))
 else
  bif decide (0<(Int.ofNat s.1.length)) then
   some (.done (.done 8))
  else
   some (.done (.done 0))
def eI (s:(Int×Int×Int×Int×(List (Int×Int×Int))×Int×(List (Int×Int×Int))×(List Int)×(List Bool)×(List Int)×(List (Int×Int×Int×Int×Int))×(List Int)×(List (Int×Int×Int))×(List Int))):Option (bQ (Int×Int×Int×Int×(List (Int×Int×Int))×Int×(List (Int×Int×Int))×(List Int)×(List Bool)×(List Int)×(List (Int×Int×Int×Int×Int))×(List Int)×(List (Int×Int×Int))×(List Int)) Int):=
 bif decide (s.2.1<s.1) then
  (aN s.2.2.2.2.2.2.2.2.2.2.2.2.2 s.2.1).bind fun n0=>
  bif n0 !=0 then
   some (.done 8)
  else
   some (.next (s.1,aA .i64 (s.2.1+1),s.2.2))
 else
  bif (Int.ofNat s.2.2.2.2.2.2.2.2.2.2.2.1.length) !=200 then
   some (.done 8)
  else
   bif (Int.ofNat s.2.2.2.2.2.2.2.2.2.2.1.length) !=(Int.ofNat s.2.2.2.2.2.2.2.2.2.2.2.2.1.length) then
    some (.done 8)
   else
    aJ cF (s.2.2.2.2.2.2.2.2.2.2.2.2.1,s.2.2.2.2.2.2.1,Int.ofNat s.2.2.2.2.2.2.1.length,0,s.2.2.1,s.2.2.2.1,s.2.2.2.2.1,s.2.2.2.2.2.1,s.2.2.2.2.2.2.1,s.2.2.2.2.2.2.2.1,s.2.2.2.2.2.2.2.2.1,s.2.2.2.2.2.2.2.2.2.1,s.2.2.2.2.2.2.2.2.2.2.1,s.2.2.2.2.2.2.2.2.2.2.2.1,s.2.2.2.2.2.2.2.2.2.2.2.2.1)
def hG (p0:aI):Option Int:=
 (fI p0.now).bind fun n0=>
 (iT p0.field).bind fun n1=>
 (qD p0.certs).bind fun n2=>
 (iV p0.agenda).bind fun n3=>
 aJ eI (Int.ofNat ([n0,n1,n2,n3].length),0,p0.now.1,p0.now.2,p0.field.points,p0.certs.next_,p0.certs.list,p0.agenda.slots.uses,p0.agenda.slots.used,p0.agenda.slots.free,p0.agenda.heap,p0.agenda.where_,p0.due,[n0,n1,n2,n3])
def c59:bN:=⟨aC.one (aK.agg bL),aK.int .i64,fun a=>hG a,.pure,false⟩
theorem JY:aH aZ 59 c59:=Oc aKw rfl aF [(33,c33),(104,aFf),(117,aFg),(118,XA),(119,aFx)] ⟨A9,NJ,NK,E0,NP,trivial⟩ fun a=>by kernel_rfl
def jM (s:((List Int)×Int×Int×Int)):Option (bQ ((List Int)×Int×Int×Int) Int):=
 bif decide (s.2.2.2<s.2.2.1) then
  (aN s.1 s.2.2.2).bind fun n0=>
  bif s.2.1==n0 then
   some (.done s.2.2.2)
  else
   some (.next (s.1,s.2.1,s.2.2.1,aA .i64 (s.2.2.2+1)))
 else
  some (.done (-1))
def fR (p0:List Int) (p1:Int):Option Int:=
 aJ jM (p0,p1,Int.ofNat p0.length,0)
def c43:bN:=⟨aC.cons (aK.sl ki) (aC.one (aK.int .i64)),aK.int .i64,fun a=>fR a.1 a.2,.pure,false⟩
theorem ZU:aH aZ 43 c43:=Oc aKq rfl aF [] trivial fun a=>by kernel_rfl
def jN (p0:List Int) (p1:Int):Option Bool:=
 (fR p0 p1).bind fun n0=>
 some (decide (0<=n0))
def c60:bN:=⟨aC.cons (aK.sl ki) (aC.one (aK.int .i64)),aK.bool,fun a=>jN a.1 a.2,.pure,false⟩
theorem aLa:aH aZ 60 c60:=Oc aKx rfl aF [(43,c43)] ⟨ZU,trivial⟩ fun a=>by kernel_rfl
def oV (s:((List Int)×Int×(List (Int×Int)))):Option (bQ ((List Int)×Int×(List (Int×Int))) (List (Int×Int))):=
 bif decide (s.2.1<(Int.ofNat s.1.length)) then
  (aN s.1 s.2.1).bind fun n0=>
  (aN s.1 (aA .i64 (Int.tdiv (aA .i64 (s.2.1-1)) 2))).bind fun n1=>
  (bT s.2.2 [(n0,n1)]).bind fun l2=>
  some (.next (s.1,aA .i64 (s.2.1+1),l2))
 else
  some (.done s.2.2)
def oB (p0:List Int):Option (List (Int×Int)):=
 aJ oV (p0,1,[])
def c53:bN:=⟨aC.one (aK.sl ki),aK.sl hO,fun a=>oB a,.frz,false⟩
theorem ZV:aH aZ 53 c53:=Oc aKt rfl aF [] trivial fun a=>by kernel_rfl
def iX (s:((List (Int×Int))×Int×Int×Int×Int)):Option (bQ ((List (Int×Int))×Int×Int×Int×Int) Int):=
 bif decide (s.2.2.1<s.2.1) then
  (aN s.1 s.2.2.1).bind fun a0=>
  bif (s.2.2.2.1==a0.1)&&(s.2.2.2.2==a0.2) then
   some (.done s.2.2.1)
  else
   some (.next (s.1,s.2.1,aA .i64 (s.2.2.1+1),s.2.2.2))
 else
  some (.done (-1))
def oW (p0:List (Int×Int)) (p1:Int×Int):Option Int:=
 aJ iX (p0,Int.ofNat p0.length,0,p1)
def aMX:bN:=⟨aC.cons (aK.sl hO) (aC.one (aK.agg (cE.row hO))),aK.int .i64,fun a=>oW a.1 a.2,.pure,false⟩
theorem aFy:aH aZ 120 aMX:=Oc aDv rfl aF [] trivial fun a=>by kernel_rfl
def gD (p0:List (Int×Int)) (p1:Int×Int):Option Bool:=
 (oW p0 p1).bind fun n0=>
 some (decide (0<=n0))
def c61:bN:=⟨aC.cons (aK.sl hO) (aC.one (aK.agg (cE.row hO))),aK.bool,fun a=>gD a.1 a.2,.pure,false⟩
theorem ZW:aH aZ 61 c61:=Oc aKy rfl aF [(120,aMX)] ⟨aFy,trivial⟩ fun a=>by kernel_rfl
def zD (p0:Int×Int×Int) (p1:Int):Option Int:=
 (eL p0.1 p1).bind fun n0=>
 some n0
def aMY:bN:=⟨aC.cons (aK.agg (cE.row fV)) (aC.one (aK.int .i64)),aK.int .i64,fun a=>zD a.1 a.2,.pure,false⟩
theorem aFz:aH aZ 179 aMY:=Oc aEj rfl aF [(180,S0)] ⟨B1,trivial⟩ fun a=>by kernel_rfl
def iC (s:((List (Int×Int×Int))×Int×Int×Int×Int)):Option (bQ ((List (Int×Int×Int))×Int×Int×Int×Int) (Int×Bool)):=
 bif decide (s.2.2.2.1<s.2.2.2.2) then
  (aN s.1 (aA .i64 (rX .u64 (aA .u64 (aA .i64 (s.2.2.2.1+s.2.2.2.2))) 1))).bind fun a0=>
  (zD a0 s.2.1).bind fun n1=>
  bif decide (n1<0) then
   some (.next (s.1,s.2.1,s.2.2.1,aA .i64 ((aA .i64 (rX .u64 (aA .u64 (aA .i64 (s.2.2.2.1+s.2.2.2.2))) 1))+1),s.2.2.2.2))
  else
   some (.next (s.1,s.2.1,s.2.2.1,s.2.2.2.1,aA .i64 (rX .u64 (aA .u64 (aA .i64 (s.2.2.2.1+s.2.2.2.2))) 1)))
 else
  bif decide (s.2.2.2.1<s.2.2.1) then
   (aN s.1 s.2.2.2.1).bind fun a2=>
   (zD a2 s.2.1).bind fun n3=>
   some (.done (s.2.2.2.1,n3==0))
  else
   some (.done (s.2.2.2.1,false))
def cO (p0:List (Int×Int×Int)) (p1:Int) (_:Unit):Option (Int×Bool):=
 aJ iC (p0,p1,Int.ofNat p0.length,0,Int.ofNat p0.length)
def P4:bN:=⟨aC.cons (aK.sl fV) (aC.cons (aK.int .i64) (aC.one (aK.clo 179 aC.nil))),aK.tup (aC.cons (aK.int .i64) (aC.one aK.bool)),fun a=>cO a.1 a.2.1 a.2.2,.pure,false⟩
theorem P5:aH aZ 178 P4:=Oc UX rfl aF [(179,aMY)] ⟨aFz,trivial⟩ fun a=>by kernel_rfl
def zE (p0:Field) (p1:Int):Option (Int×Bool):=
 (cO p0.points p1 ()).bind fun a0=>
 some a0
def aMZ:bN:=⟨aC.cons (aK.agg eD) (aC.one (aK.int .i64)),aK.tup (aC.cons (aK.int .i64) (aC.one aK.bool)),fun a=>zE a.1 a.2,.pure,false⟩
theorem aFA:aH aZ 129 aMZ:=Oc aDE rfl aF [(178,P4)] ⟨P5,trivial⟩ fun a=>by kernel_rfl
def vP (p0:Field) (p1:Int):Option (Int×Int):=
 (iT p0).bind fun n0=>
 bif n0 !=0 then
  some (0,n0)
 else
  (zE p0 p1).bind fun a1=>
  bif !a1.2 then
   some (0,6)
  else
   some (a1.1,0)
def c92:bN:=⟨aC.cons (aK.agg eD) (aC.one (aK.int .i64)),aK.tup (aC.cons (aK.int .i64) (aC.one (aK.int .i64))),fun a=>vP a.1 a.2,.pure,false⟩
theorem aLb:aH aZ 92 c92:=Oc aKU rfl aF [(104,aFf),(129,aMZ)] ⟨NJ,aFA,trivial⟩ fun a=>by kernel_rfl
def nR (p0:Field) (p1:Int):Option ((Int×Int×Int)×Int):=
 (vP p0 p1).bind fun a0=>
 bif a0.2 !=0 then
  some ((0,0,0),a0.2)
 else
  (aN p0.points a0.1).bind fun a1=>
  some (a1,0)
def c96:bN:=⟨aC.cons (aK.agg eD) (aC.one (aK.int .i64)),aK.tup (aC.cons (aK.agg (cE.row fV)) (aC.one (aK.int .i64))),fun a=>nR a.1 a.2,.pure,false⟩
theorem aLc:aH aZ 96 c96:=Oc aKW rfl aF [(92,c92)] ⟨aLb,trivial⟩ fun a=>by kernel_rfl
def oX (p0:Int×Int×Int) (p1:Int×Int×Int) (p2:Int×Int):Option (Bool×Int):=
 (qG p0 p1 p2).bind fun n0=>
 bif n0 !=0 then
  some (false,n0)
 else
  (lZ p0 p1 p2).bind fun n1=>
  some (decide (0<n1),0)
def c97:bN:=⟨aC.cons (aK.agg (cE.row fV)) (aC.cons (aK.agg (cE.row fV)) (aC.one (aK.agg (cE.row hO)))),aK.tup (aC.cons aK.bool (aC.one (aK.int .i64))),fun a=>oX a.1 a.2.1 a.2.2,.pure,false⟩
theorem aLd:aH aZ 97 c97:=Oc aKX rfl aF [(152,aFr),(153,aK9)] ⟨NO,U6,trivial⟩ fun a=>by kernel_rfl
def vQ (p0:Field) (p1:Int×Int) (p2:Int) (p3:Int):Option Bool:=
 (nR p0 p2).bind fun a0=>
 (nR p0 p3).bind fun a1=>
 (oX a0.1 a1.1 p1).bind fun a2=>
 some a2.1
def c62:bN:=⟨aC.cons (aK.agg eD) (aC.cons (aK.agg (cE.row hO)) (aC.cons (aK.int .i64) (aC.one (aK.int .i64)))),aK.bool,fun a=>vQ a.1 a.2.1 a.2.2.1 a.2.2.2,.pure,false⟩
theorem aLe:aH aZ 62 c62:=Oc aKz rfl aF [(96,c96),(97,c97)] ⟨aLc,aLd,trivial⟩ fun a=>by kernel_rfl
def oY (s:((List (Int×Int))×(List (Int×Int×Int))×Int×Int×Int×Int×(List (Int×Int×Int))×Int×(List (Int×Int×Int))×(List Int)×(List Bool)×(List Int)×(List (Int×Int×Int×Int×Int))×(List Int)×(List (Int×Int×Int))×(List Int))):Option (bQ ((List (Int×Int))×(List (Int×Int×Int))×Int×Int×Int×Int×(List (Int×Int×Int))×Int×(List (Int×Int×Int))×(List Int)×(List Bool)×(List Int)×(List (Int×Int×Int×Int×Int))×(List Int)×(List (Int×Int×Int))×(List Int)) (bQ ((List (Int×Int×Int))×Int×Int×Int×Int×(List (Int×Int×Int))×Int×(List (Int×Int×Int))×(List Int)×(List Bool)×(List Int)×(List (Int×Int×Int×Int×Int))×(List Int)×(List (Int×Int×Int))×(List Int)) Int)):=
 bif decide (s.2.2.2.1<s.2.2.1) then
  (aN s.2.1 s.2.2.2.1).bind fun a0=>
  (gD s.1 a0.2).bind fun b1=>
  bif !b1 then
   some (.done (.done 8))
  else
   (vQ (Field.mk s.2.2.2.2.2.2.1) (s.2.2.2.2.1,s.2.2.2.2.2.1) a0.2.2 a0.2.1).bind fun b2=>
   bif !b2 then
    some (.done (.done 8))
   else
    some (.next (s.1,s.2.1,s.2.2.1,aA .i64 (s.2.2.2.1+1),s.2.2.2.2))
 else
  some (.done (.done 0))
def oZ (s:((List (Int×Int×Int))×Int×Int×Int×Int×(List (Int×Int×Int))×Int×(List (Int×Int×Int))×(List Int)×(List Bool)×(List Int)×(List (Int×Int×Int×Int×Int))×(List Int)×(List (Int×Int×Int))×(List Int))):Option (bQ ((List (Int×Int×Int))×Int×Int×Int×Int×(List (Int×Int×Int))×Int×(List (Int×Int×Int))×(List Int)×(List Bool)×(List Int)×(List (Int×Int×Int×Int×Int))×(List Int)×(List (Int×Int×Int))×(List Int)) Int):=
 bif decide (s.2.2.1<s.2.1) then
  (aN s.1 s.2.2.1).bind fun a0=>
  (jN s.2.2.2.2.2.2.2.2.2.2.2.2.2.2 a0.1).bind fun b1=>
  bif !b1 then
   some (.done 8)
  else
   some (.next (s.1,s.2.1,aA .i64 (s.2.2.1+1),s.2.2.2))
 else
  (oB s.2.2.2.2.2.2.2.2.2.2.2.2.2.2).bind fun l2=>
  bif (Int.ofNat l2.length) !=(Int.ofNat s.2.2.2.2.2.2.2.1.length) then
   some (.done 8)
  else
   aJ oY (l2,s.2.2.2.2.2.2.2.1,Int.ofNat s.2.2.2.2.2.2.2.1.length,0,s.2.2.2)
def vR (p0:dC):Option Int:=
 (hG p0.clock).bind fun n0=>
 bif n0 !=0 then
  some 8
 else
  bif (Int.ofNat p0.heap.length) !=(Int.ofNat p0.clock.field.points.length) then
   some 8
  else
   aJ oZ (p0.clock.field.points,Int.ofNat p0.clock.field.points.length,0,p0.clock.now.1,p0.clock.now.2,p0.clock.field.points,p0.clock.certs.next_,p0.clock.certs.list,p0.clock.agenda.slots.uses,p0.clock.agenda.slots.used,p0.clock.agenda.slots.free,p0.clock.agenda.heap,p0.clock.agenda.where_,p0.clock.due,p0.heap)
def c25:bN:=⟨aC.one (aK.agg fW),aK.int .i64,fun a=>vR a,.pure,false⟩
theorem aLf:aH aZ 25 c25:=Oc aKe rfl aF [(59,c59),(60,c60),(53,c53),(61,c61),(62,c62)] ⟨JY,aLa,ZV,ZW,aLe,trivial⟩ fun a=>by kernel_rfl
def DP (p0:aG):Option ((Int×Int×Int×Int×Int)×Int):=
 (iV p0).bind fun n0=>
 bif n0 !=0 then
  some ((0,0,0,0,0),n0)
 else
  bif (Int.ofNat p0.heap.length)==0 then
   some ((0,0,0,0,0),42)
  else
   (aN p0.heap 0).bind fun a1=>
   some (a1,0)
def aM0:bN:=⟨aC.one (aK.agg cN),aK.tup (aC.cons (aK.agg (cE.row jV)) (aC.one (aK.int .i64))),fun a=>DP a,.pure,false⟩
theorem aFB:aH aZ 116 aM0:=Oc aDr rfl aF [(118,XA)] ⟨E0,trivial⟩ fun a=>by kernel_rfl
def sE (p0:aI) (p1:Int×Int):Option (Bool×Int):=
 (hG p0).bind fun n0=>
 (fI p1).bind fun n1=>
 bif (if n1>n0 then n1 else n0) !=0 then
  some (false,if n1>n0 then n1 else n0)
 else
  (qF p1 p0.now).bind fun a2=>
  bif decide (a2.1<0) then
   some (false,44)
  else
   (DP p0.agenda).bind fun a3=>
   bif a3.2 !=0 then
    some (false,0)
   else
    (qF (a3.1.1,a3.1.2.1) p1).bind fun a4=>
    some (decide (a4.1<=0),0)
def c82:bN:=⟨aC.cons (aK.agg bL) (aC.one (aK.agg (cE.row hO))),aK.tup (aC.cons aK.bool (aC.one (aK.int .i64))),fun a=>sE a.1 a.2,.pure,false⟩
theorem ZX:aH aZ 82 c82:=Oc aKL rfl aF [(59,c59),(33,c33),(34,c34),(116,aM0)] ⟨JY,A9,SZ,aFB,trivial⟩ fun a=>by kernel_rfl
def sF (p0:Int×Int×Int) (p1:Int):Option Int:=
 (eL p0.1 p1).bind fun n0=>
 some n0
def aM1:bN:=⟨aC.cons (aK.agg (cE.row fV)) (aC.one (aK.int .i64)),aK.int .i64,fun a=>sF a.1 a.2,.pure,false⟩
theorem aFC:aH aZ 240 aM1:=Oc aE4 rfl aF [(180,S0)] ⟨B1,trivial⟩ fun a=>by kernel_rfl
def aU (s:((List (Int×Int×Int))×Int×Int×Int×Int)):Option (bQ ((List (Int×Int×Int))×Int×Int×Int×Int) (Int×Bool)):=
 bif decide (s.2.2.2.1<s.2.2.2.2) then
  (aN s.1 (aA .i64 (rX .u64 (aA .u64 (aA .i64 (s.2.2.2.1+s.2.2.2.2))) 1))).bind fun a0=>
  (sF a0 s.2.1).bind fun n1=>
  bif decide (n1<0) then
   some (.next (s.1,s.2.1,s.2.2.1,aA .i64 ((aA .i64 (rX .u64 (aA .u64 (aA .i64 (s.2.2.2.1+s.2.2.2.2))) 1))+1),s.2.2.2.2))
  else
   some (.next (s.1,s.2.1,s.2.2.1,s.2.2.2.1,aA .i64 (rX .u64 (aA .u64 (aA .i64 (s.2.2.2.1+s.2.2.2.2))) 1)))
 else
  bif decide (s.2.2.2.1<s.2.2.1) then
   (aN s.1 s.2.2.2.1).bind fun a2=>
   (sF a2 s.2.1).bind fun n3=>
   some (.done (s.2.2.2.1,n3==0))
  else
   some (.done (s.2.2.2.1,false))
def aV (p0:List (Int×Int×Int)) (p1:Int) (_:Unit):Option (Int×Bool):=
 aJ aU (p0,p1,Int.ofNat p0.length,0,Int.ofNat p0.length)
def P6:bN:=⟨aC.cons (aK.sl fV) (aC.cons (aK.int .i64) (aC.one (aK.clo 240 aC.nil))),aK.tup (aC.cons (aK.int .i64) (aC.one aK.bool)),fun a=>aV a.1 a.2.1 a.2.2,.pure,false⟩
theorem P7:aH aZ 239 P6:=Oc aE3 rfl aF [(240,aM1)] ⟨aFC,trivial⟩ fun a=>by kernel_rfl
def F8 (p0:aW) (p1:Int):Option (Int×Int):=
 (qD p0).bind fun n0=>
 bif n0 !=0 then
  some (0,n0)
 else
  (aV p0.list p1 ()).bind fun a1=>
  bif !a1.2 then
   some (0,6)
  else
   some (a1.1,0)
def aM2:bN:=⟨aC.cons (aK.agg fM) (aC.one (aK.int .i64)),aK.tup (aC.cons (aK.int .i64) (aC.one (aK.int .i64))),fun a=>F8 a.1 a.2,.pure,false⟩
theorem aFD:aH aZ 218 aM2:=Oc aEP rfl aF [(117,aFg),(239,P6)] ⟨NK,P7,trivial⟩ fun a=>by kernel_rfl
theorem E1:aH aZ 138 (bN.clone fV):=aH.clone aDK rfl
def eQ (a:(Int×Int×(List (Int×Int×Int)))):Option (Nat×Nat×(List (Int×Int×Int))):=
 bif (((decide (0<=a.1))&&(decide (a.1<=a.2.1)))&&(decide (a.2.1<=(Int.ofNat a.2.2.length))))&&(decide ((Int.ofNat a.2.2.length)<=(Int.ofNat a.2.2.length))) then
  bif a.1==a.2.1 then
   bif a.2.2.length==a.2.2.length then
    some (a.2.2.length,a.2.2.length,a.2.2)
   else
    none
  else
   (jB a.2.2 0 a.1).bind fun _=>
   bif ((decide (0<=a.2.1))&&(decide (a.2.1<=(Int.ofNat a.2.2.length))))&&(decide ((Int.ofNat a.2.2.length)<=(Int.ofNat a.2.2.length))) then
    bif ((a.2.2.drop (0+a.2.1.toNat)).take (((Int.ofNat a.2.2.length).toNat) -a.2.1.toNat)).isEmpty then
     bif ((decide (0<=(Int.ofNat a.1.toNat)))&&(decide ((Int.ofNat a.1.toNat)<=(Int.ofNat a.2.2.length))))&&(decide ((Int.ofNat a.2.2.length)<=(Int.ofNat a.2.2.length))) then
      bif Nat.beq (((Int.ofNat a.2.2.length).toNat) - ((Int.ofNat a.1.toNat).toNat)) 0 then
       bif a.2.2.length==a.2.2.length then
        some (a.1.toNat,a.2.2.length,a.2.2)
       else
        none
      else
       bif (Nat.ble ((0+((Int.ofNat a.1.toNat).toNat))+(((Int.ofNat a.2.2.length).toNat) - ((Int.ofNat a.1.toNat).toNat))) a.2.2.length)&&(!false) then
        bif ((hM a.2.2 (0+((Int.ofNat a.1.toNat).toNat)) (List.replicate (((Int.ofNat a.2.2.length).toNat) - ((Int.ofNat a.1.toNat).toNat)) (0,0,0))).length)==a.2.2.length then
         some (a.1.toNat,a.2.2.length,hM a.2.2 (0+((Int.ofNat a.1.toNat).toNat)) (List.replicate (((Int.ofNat a.2.2.length).toNat) - ((Int.ofNat a.1.toNat).toNat)) (0,0,0)))
        else
         none
       else
        none
     else
      none
    else
     bif Nat.ble (a.1.toNat+(((a.2.2.drop (0+a.2.1.toNat)).take (((Int.ofNat a.2.2.length).toNat) -a.2.1.toNat)).length)) a.2.2.length then
      bif (Nat.ble (a.1.toNat+(((a.2.2.drop (0+a.2.1.toNat)).take (((Int.ofNat a.2.2.length).toNat) -a.2.1.toNat)).length)) a.2.2.length)&&(!false) then
       bif ((decide (0<=(Int.ofNat (a.1.toNat+(((a.2.2.drop (0+a.2.1.toNat)).take (((Int.ofNat a.2.2.length).toNat) -a.2.1.toNat)).length)))))&&(decide ((Int.ofNat (a.1.toNat+(((a.2.2.drop (0+a.2.1.toNat)).take (((Int.ofNat a.2.2.length).toNat) -a.2.1.toNat)).length)))<=(Int.ofNat a.2.2.length))))&&(decide ((Int.ofNat a.2.2.length)<=(Int.ofNat a.2.2.length))) then
        bif Nat.beq (((Int.ofNat a.2.2.length).toNat) - ((Int.ofNat (a.1.toNat+(((a.2.2.drop (0+a.2.1.toNat)).take (((Int.ofNat a.2.2.length).toNat) -a.2.1.toNat)).length))).toNat)) 0 then
         bif ((hM a.2.2 a.1.toNat ((a.2.2.drop (0+a.2.1.toNat)).take (((Int.ofNat a.2.2.length).toNat) -a.2.1.toNat))).length)==a.2.2.length then
          some (a.1.toNat+(((a.2.2.drop (0+a.2.1.toNat)).take (((Int.ofNat a.2.2.length).toNat) -a.2.1.toNat)).length),a.2.2.length,hM a.2.2 a.1.toNat ((a.2.2.drop (0+a.2.1.toNat)).take (((Int.ofNat a.2.2.length).toNat) -a.2.1.toNat)))
         else
          none
        else
         bif (Nat.ble ((0+((Int.ofNat (a.1.toNat+(((a.2.2.drop (0+a.2.1.toNat)).take (((Int.ofNat a.2.2.length).toNat) -a.2.1.toNat)).length))).toNat))+(((Int.ofNat a.2.2.length).toNat) - ((Int.ofNat (a.1.toNat+(((a.2.2.drop (0+a.2.1.toNat)).take (((Int.ofNat a.2.2.length).toNat) -a.2.1.toNat)).length))).toNat))) ((hM a.2.2 a.1.toNat ((a.2.2.drop (0+a.2.1.toNat)).take (((Int.ofNat a.2.2.length).toNat) -a.2.1.toNat))).length))&&(!false) then
          bif ((hM (hM a.2.2 a.1.toNat ((a.2.2.drop (0+a.2.1.toNat)).take (((Int.ofNat a.2.2.length).toNat) -a.2.1.toNat))) (0+((Int.ofNat (a.1.toNat+(((a.2.2.drop (0+a.2.1.toNat)).take (((Int.ofNat a.2.2.length).toNat) -a.2.1.toNat)).length))).toNat)) (List.replicate (((Int.ofNat a.2.2.length).toNat) - ((Int.ofNat (a.1.toNat+(((a.2.2.drop (0+a.2.1.toNat)).take (((Int.ofNat a.2.2.length).toNat) -a.2.1.toNat)).length))).toNat)) (0,0,0))).length)==a.2.2.length then
           some (a.1.toNat+(((a.2.2.drop (0+a.2.1.toNat)).take (((Int.ofNat a.2.2.length).toNat) -a.2.1.toNat)).length),a.2.2.length,hM (hM a.2.2 a.1.toNat ((a.2.2.drop (0+a.2.1.toNat)).take (((Int.ofNat a.2.2.length).toNat) -a.2.1.toNat))) (0+((Int.ofNat (a.1.toNat+(((a.2.2.drop (0+a.2.1.toNat)).take (((Int.ofNat a.2.2.length).toNat) -a.2.1.toNat)).length))).toNat)) (List.replicate (((Int.ofNat a.2.2.length).toNat) - ((Int.ofNat (a.1.toNat+(((a.2.2.drop (0+a.2.1.toNat)).take (((Int.ofNat a.2.2.length).toNat) -a.2.1.toNat)).length))).toNat)) (0,0,0)))
          else
           none
         else
          none
       else
        none
      else
       none
     else
      none
   else
    none
 else
  none
def ZY:dP:=⟨[.i,.i,.l [.i .i64,.i .i64,.i .i64]],[.own 0 false,.int .i64 0,.int .i64 0],[.arr [.i .i64,.i .i64,.i .i64] []],[.n,.n,.l [.i .i64,.i .i64,.i .i64]],.pre 0 0 0 false,[.arr [.i .i64,.i .i64,.i .i64] []],fun a=>eQ a⟩
theorem XB:lR aZ 219 ZY:=lR.of aEQ (wd:=true) (cx:=(pP aF [] [] [] [])) (lV.make trivial trivial trivial) (fun a=>by kernel_rfl)
def vS (p0:aW) (p1:Int):Option (aW×(Int×Int)×Int):=
 (F8 p0 p1).bind fun a0=>
 bif a0.2 !=0 then
  some (aW.mk 0 [],(0,0),a0.2)
 else
  (cK p0.list).bind fun l1=>
  (eQ (a0.1,aA .i64 (a0.1+1),l1)).bind fun a2=>
  (aN p0.list a0.1).bind fun a3=>
  some (aW.mk p0.next_ (a2.2.2.take a2.1),a3.2,0)
def aM3:bN:=⟨aC.cons (aK.agg fM) (aC.one (aK.int .i64)),aK.tup (aC.cons (aK.agg fM) (aC.cons (aK.agg (cE.row hO)) (aC.one (aK.int .i64)))),fun a=>vS a.1 a.2,.frz,false⟩
theorem aFE:aH aZ 184 aM3:=aH.of aEm (cx:=(pP aF [(218,aM2),(138,bN.clone fV)] [(219,ZY)] [] [])) rfl (lV.make ⟨aFD,E1,trivial⟩ ⟨XB,trivial⟩ trivial) (fun a=>by kernel_rfl)
theorem NQ:aH aZ 94 (bN.clone fV):=aH.clone aKV rfl
theorem P8:aH aZ 139 (bN.clone fV):=aH.clone aDL rfl
theorem BD:aH aZ 140 (bN.clone jV):=aH.clone aDM rfl
theorem tJ:aH aZ 37 (bN.clone ki):=aH.clone aKl rfl
def jC (p0:aI):Option aI:=
 (cK p0.field.points).bind fun l0=>
 (cK p0.certs.list).bind fun l1=>
 (cK p0.due).bind fun l2=>
 (cK p0.agenda.heap).bind fun l3=>
 (cK p0.agenda.where_).bind fun l4=>
 (cK p0.agenda.slots.uses).bind fun l5=>
 (cK p0.agenda.slots.used).bind fun l6=>
 (cK p0.agenda.slots.free).bind fun l7=>
 some (aI.mk p0.now (Field.mk l0) (aW.mk p0.certs.next_ l1) (aG.mk (aS.mk l5 l6 l7) l3 l4) l2)
def c83:bN:=⟨aC.one (aK.agg bL),aK.agg bL,fun a=>jC a,.own,true⟩
def ZZ:bN:=⟨aC.one (aK.agg bL),aK.agg bL,fun a=>jC a,.frz,false⟩
theorem NR:aH aZ 83 c83:=Oc ZP rfl aF [(94,bN.clone fV),(138,bN.clone fV),(139,bN.clone fV),(140,bN.clone jV),(37,bN.clone ki),(141,bN.clone kb)] ⟨NQ,E1,P8,BD,tJ,BA,trivial⟩ fun a=>by kernel_rfl
theorem HR:aH aZ 83 ZZ:=Oc ZP rfl aF [(94,bN.clone fV),(138,bN.clone fV),(139,bN.clone fV),(140,bN.clone jV),(37,bN.clone ki),(141,bN.clone kb)] ⟨NQ,E1,P8,BD,tJ,BA,trivial⟩ fun a=>by kernel_rfl
def wQ (p0:Int×Int×Int) (p1:Int):Option Int:=
 (eL p0.1 p1).bind fun n0=>
 some n0
def aM5:bN:=⟨aC.cons (aK.agg (cE.row fV)) (aC.one (aK.int .i64)),aK.int .i64,fun a=>wQ a.1 a.2,.pure,false⟩
theorem aFF:aH aZ 200 aM5:=Oc aEB rfl aF [(180,S0)] ⟨B1,trivial⟩ fun a=>by kernel_rfl
def iK (s:((List (Int×Int×Int))×Int×Int×Int×Int)):Option (bQ ((List (Int×Int×Int))×Int×Int×Int×Int) (Int×Bool)):=
 bif decide (s.2.2.2.1<s.2.2.2.2) then
  (aN s.1 (aA .i64 (rX .u64 (aA .u64 (aA .i64 (s.2.2.2.1+s.2.2.2.2))) 1))).bind fun a0=>
  (wQ a0 s.2.1).bind fun n1=>
  bif decide (n1<0) then
   some (.next (s.1,s.2.1,s.2.2.1,aA .i64 ((aA .i64 (rX .u64 (aA .u64 (aA .i64 (s.2.2.2.1+s.2.2.2.2))) 1))+1),s.2.2.2.2))
  else
   some (.next (s.1,s.2.1,s.2.2.1,s.2.2.2.1,aA .i64 (rX .u64 (aA .u64 (aA .i64 (s.2.2.2.1+s.2.2.2.2))) 1)))
 else
  bif decide (s.2.2.2.1<s.2.2.1) then
   (aN s.1 s.2.2.2.1).bind fun a2=>
   (wQ a2 s.2.1).bind fun n3=>
   some (.done (s.2.2.2.1,n3==0))
  else
   some (.done (s.2.2.2.1,false))
def cS (p0:List (Int×Int×Int)) (p1:Int) (_:Unit):Option (Int×Bool):=
 aJ iK (p0,p1,Int.ofNat p0.length,0,Int.ofNat p0.length)
def P9:bN:=⟨aC.cons (aK.sl fV) (aC.cons (aK.int .i64) (aC.one (aK.clo 200 aC.nil))),aK.tup (aC.cons (aK.int .i64) (aC.one aK.bool)),fun a=>cS a.1 a.2.1 a.2.2,.pure,false⟩
theorem QA:aH aZ 199 P9:=Oc aEA rfl aF [(200,aM5)] ⟨aFF,trivial⟩ fun a=>by kernel_rfl
def oC (p0:List (Int×Int×Int)) (p1:Int):Option (Int×Bool):=
 (cS p0 p1 ()).bind fun a0=>
 some a0
def aLg:bN:=⟨aC.cons (aK.sl fV) (aC.one (aK.int .i64)),aK.tup (aC.cons (aK.int .i64) (aC.one aK.bool)),fun a=>oC a.1 a.2,.pure,false⟩
theorem U7:aH aZ 158 aLg:=Oc aD1 rfl aF [(199,P9)] ⟨QA,trivial⟩ fun a=>by kernel_rfl
def BE (p0:aS) (p1:Int×Int):Option (Bool×Int):=
 (qE p0).bind fun n0=>
 bif n0 !=0 then
  some (false,n0)
 else
  bif decide (0<=p1.1) then
   bif decide (p1.1<(Int.ofNat p0.used.length)) then
    (aN p0.used p1.1).bind fun b1=>
    bif b1 then
     (aN p0.uses p1.1).bind fun n2=>
     some (n2==p1.2,0)
    else
     some (false,0)
   else
    some (false,0)
  else
   some (false,0)
def aLh:bN:=⟨aC.cons (aK.agg fL) (aC.one (aK.agg (cE.row hO))),aK.tup (aC.cons aK.bool (aC.one (aK.int .i64))),fun a=>BE a.1 a.2,.pure,false⟩
theorem U8:aH aZ 227 aLh:=Oc aEU rfl aF [(167,aFj)] ⟨NL,trivial⟩ fun a=>by kernel_rfl
def pA (p0:aG) (p1:Int×Int):Option (Int×Int):=
 (iV p0).bind fun n0=>
 bif n0 !=0 then
  some (0,n0)
 else
  (BE p0.slots p1).bind fun a1=>
  bif a1.2 !=0 then
   some (0,6)
  else
   bif !a1.1 then
    some (0,6)
   else
    (aN p0.where_ p1.1).bind fun n2=>
    some (n2,0)
def aLi:bN:=⟨aC.cons (aK.agg cN) (aC.one (aK.agg (cE.row hO))),aK.tup (aC.cons (aK.int .i64) (aC.one (aK.int .i64))),fun a=>pA a.1 a.2,.pure,false⟩
theorem U9:aH aZ 201 aLi:=Oc aEC rfl aF [(118,XA),(227,aLh)] ⟨E0,U8,trivial⟩ fun a=>by kernel_rfl
theorem QB:aH aZ 241 (bN.clone ki):=aH.clone aE5 rfl
def sT (p0:List Int) (p1:Int):Option (List Int):=
 (cK p0).bind fun l0=>
 (bT l0 [p1]).bind fun l1=>
 some l1
def aM6:bN:=⟨aC.cons (aK.sl ki) (aC.one (aK.int .i64)),aK.sl ki,fun a=>sT a.1 a.2,.frz,false⟩
theorem aFG:aH aZ 242 aM6:=Oc aE6 rfl aF [(241,bN.clone ki)] ⟨QB,trivial⟩ fun a=>by kernel_rfl
def B2 (p0:aS) (p1:Int×Int):Option (aS×Int):=
 (BE p0 p1).bind fun a0=>
 bif a0.2 !=0 then
  some (aS.mk [] [] [],a0.2)
 else
  bif !a0.1 then
   some (aS.mk [] [] [],6)
  else
   (cK p0.uses).bind fun l1=>
   (cK p0.used).bind fun l2=>
   (sT p0.free p1.1).bind fun l3=>
   (aN l2 p1.1).bind fun _=>
   some (aS.mk l1 (bV l2 p1.1 false) l3,0)
def aM7:bN:=⟨aC.cons (aK.agg fL) (aC.one (aK.agg (cE.row hO))),aK.tup (aC.cons (aK.agg fL) (aC.one (aK.int .i64))),fun a=>B2 a.1 a.2,.frz,false⟩
theorem aFH:aH aZ 232 aM7:=aH.of aEX (cx:=(pP aF [(227,aLh),(37,bN.clone ki),(141,bN.clone kb),(242,aM6)] [] [(231,ZJ)] [])) rfl (lV.make ⟨U8,tJ,BA,aFG,trivial⟩ trivial ⟨U1,trivial⟩) (fun a=>by kernel_rfl)
def bR (a:((List Int)×(List Bool)×(List Int)×Nat×Nat×Int×Int×Int×Int×Int×Int×(List (Int×Int×Int×Int×Int))×(List Int))):Option ((List (Int×Int×Int×Int×Int))×(List Int)):=
 (aN (a.2.2.2.2.2.2.2.2.2.2.2.1.take a.2.2.2.1) a.2.2.2.2.2.1).bind fun _=>
 (aN a.2.2.2.2.2.2.2.2.2.2.2.2 a.2.2.2.2.2.2.2.2.2.1).bind fun _=>
 bif ((bV a.2.2.2.2.2.2.2.2.2.2.2.1 a.2.2.2.2.2.1 (a.2.2.2.2.2.2.1,a.2.2.2.2.2.2.2.1,a.2.2.2.2.2.2.2.2.1,a.2.2.2.2.2.2.2.2.2.1,a.2.2.2.2.2.2.2.2.2.2.1)).length)==a.2.2.2.2.2.2.2.2.2.2.2.1.length then
  bif ((bV a.2.2.2.2.2.2.2.2.2.2.2.2 a.2.2.2.2.2.2.2.2.2.1 a.2.2.2.2.2.1).length)==a.2.2.2.2.2.2.2.2.2.2.2.2.length then
   some (bV a.2.2.2.2.2.2.2.2.2.2.2.1 a.2.2.2.2.2.1 (a.2.2.2.2.2.2.1,a.2.2.2.2.2.2.2.1,a.2.2.2.2.2.2.2.2.1,a.2.2.2.2.2.2.2.2.2.1,a.2.2.2.2.2.2.2.2.2.2.1),bV a.2.2.2.2.2.2.2.2.2.2.2.2 a.2.2.2.2.2.2.2.2.2.1 a.2.2.2.2.2.1)
  else
   none
 else
  none
def S1:dP:=⟨[.l [.i .i64],.l [.b],.l [.i .i64],.n,.n,.i,.i,.i,.i,.i,.i,.l [.i .i64,.i .i64,.i .i64,.i .i64,.i .i64],.l [.i .i64]],[.agg [.sl [.i .i64] [],.sl [.b] [],.sl [.i .i64] [],.pre 0 0 0 false,.own 1 false],.int .i64 0,.agg [.int .i64 0,.int .i64 0,.int .i64 0,.int .i64 0,.int .i64 0]],[.arr [.i .i64,.i .i64,.i .i64,.i .i64,.i .i64] [],.arr [.i .i64] []],[.l [.i .i64,.i .i64,.i .i64,.i .i64,.i .i64],.l [.i .i64]],.tup [],[.arr [.i .i64,.i .i64,.i .i64,.i .i64,.i .i64] [],.arr [.i .i64] []],fun a=>bR a⟩
theorem L6:lR aZ 228 S1:=lR.of U0 (wd:=false) (cx:=(pP aF [] [] [] [])) (lV.make trivial trivial trivial) (fun a=>by kernel_rfl)
def fD (c0:((List Int)×(List Bool)×(List Int)×Nat×Nat×Int×Int×Int×Int×Int×Int×(List (Int×Int×Int×Int×Int))×(List Int))) (s:(Int×Int×(List (Int×Int×Int×Int×Int))×(List Int)×(List Int)×(List Bool)×(List Int)×Nat×Nat×Int×Int×Int×Int×Int)):Option (bQ (Int×Int×(List (Int×Int×Int×Int×Int))×(List Int)×(List Int)×(List Bool)×(List Int)×Nat×Nat×Int×Int×Int×Int×Int) (bQ (Int×(List (Int×Int×Int×Int×Int))×(List Int)×(List Int)×(List Bool)×(List Int)×Nat×Nat×Int×Int×Int×Int×Int) ((List (Int×Int×Int×Int×Int))×(List Int)))):=
 bif decide (s.2.1<(Int.ofNat s.2.2.2.2.2.2.2.1)) then
  bif decide ((aA .i64 (s.2.1+1))<(Int.ofNat s.2.2.2.2.2.2.2.1)) then
   (aN (s.2.2.1.take s.2.2.2.2.2.2.2.1) (aA .i64 (s.2.1+1))).bind fun a0=>
   (aN (s.2.2.1.take s.2.2.2.2.2.2.2.1) s.2.1).bind fun a1=>
   (bX a0 a1).bind fun n2=>
   bif decide (n2<0) then
    (aN (s.2.2.1.take s.2.2.2.2.2.2.2.1) (aA .i64 (s.2.1+1))).bind fun a3=>
    (bX a3 s.2.2.2.2.2.2.2.2.2).bind fun n4=>
    bif decide (0<=n4) then
     (bR (s.2.2.2.2.1,s.2.2.2.2.2.1,s.2.2.2.2.2.2.1,s.2.2.2.2.2.2.2.1,s.2.2.2.2.2.2.2.2.1,s.1,s.2.2.2.2.2.2.2.2.2.1,s.2.2.2.2.2.2.2.2.2.2.1,s.2.2.2.2.2.2.2.2.2.2.2.1,s.2.2.2.2.2.2.2.2.2.2.2.2.1,s.2.2.2.2.2.2.2.2.2.2.2.2.2,s.2.2.1,s.2.2.2.1)).bind fun a5=>
     bif a5.1.length==c0.2.2.2.2.2.2.2.2.2.2.2.1.length then
      bif a5.2.length==c0.2.2.2.2.2.2.2.2.2.2.2.2.length then
       some (.done (.done a5))
      else
       none
     else
      none
    else
     (aN (s.2.2.1.take s.2.2.2.2.2.2.2.1) (aA .i64 (s.2.1+1))).bind fun a6=>
     (bR (s.2.2.2.2.1,s.2.2.2.2.2.1,s.2.2.2.2.2.2.1,s.2.2.2.2.2.2.2.1,s.2.2.2.2.2.2.2.2.1,s.1,a6.1,a6.2.1,a6.2.2.1,a6.2.2.2.1,a6.2.2.2.2,s.2.2.1,s.2.2.2.1)).bind fun a7=>
     some (.next (aA .i64 (s.2.1+1),aA .i64 ((aA .i64 (2*(aA .i64 (s.2.1+1))))+1),a7.1,a7.2,s.2.2.2.2))
   else
    (aN (s.2.2.1.take s.2.2.2.2.2.2.2.1) s.2.1).bind fun a8=>
    (bX a8 s.2.2.2.2.2.2.2.2.2).bind fun n9=>
    bif decide (0<=n9) then
     (bR (s.2.2.2.2.1,s.2.2.2.2.2.1,s.2.2.2.2.2.2.1,s.2.2.2.2.2.2.2.1,s.2.2.2.2.2.2.2.2.1,s.1,s.2.2.2.2.2.2.2.2.2.1,s.2.2.2.2.2.2.2.2.2.2.1,s.2.2.2.2.2.2.2.2.2.2.2.1,s.2.2.2.2.2.2.2.2.2.2.2.2.1,s.2.2.2.2.2.2.2.2.2.2.2.2.2,s.2.2.1,s.2.2.2.1)).bind fun a10=>
     bif a10.1.length==c0.2.2.2.2.2.2.2.2.2.2.2.1.length then
      bif a10.2.length==c0.2.2.2.2.2.2.2.2.2.2.2.2.length then
       some (.done (.done a10))
      else
       none
     else
      none
    else
     (aN (s.2.2.1.take s.2.2.2.2.2.2.2.1) s.2.1).bind fun a11=>
     (bR (s.2.2.2.2.1,s.2.2.2.2.2.1,s.2.2.2.2.2.2.1,s.2.2.2.2.2.2.2.1,s.2.2.2.2.2.2.2.2.1,s.1,a11.1,a11.2.1,a11.2.2.1,a11.2.2.2.1,a11.2.2.2.2,s.2.2.1,s.2.2.2.1)).bind fun a12=>
     some (.next (s.2.1,aA .i64 ((aA .i64 (2*s.2.1))+1),a12.1,a12.2,s.2.2.2.2))
  else
   (aN (s.2.2.1.take s.2.2.2.2.2.2.2.1) s.2.1).bind fun a13=>
   (bX a13 s.2.2.2.2.2.2.2.2.2).bind fun n14=>
   bif decide (0<=n14) then
    (bR (s.2.2.2.2.1,s.2.2.2.2.2.1,s.2.2.2.2.2.2.1,s.2.2.2.2.2.2.2.1,s.2.2.2.2.2.2.2.2.1,s.1,s.2.2.2.2.2.2.2.2.2.1,s.2.2.2.2.2.2.2.2.2.2.1,s.2.2.2.2.2.2.2.2.2.2.2.1,s.2.2.2.2.2.2.2.2.2.2.2.2.1,s.2.2.2.2.2.2.2.2.2.2.2.2.2,s.2.2.1,s.2.2.2.1)).bind fun a15=>
    bif a15.1.length==c0.2.2.2.2.2.2.2.2.2.2.2.1.length then
     bif a15.2.length==c0.2.2.2.2.2.2.2.2.2.2.2.2.length then
      some (.done (.done a15))
     else
      none
    else
     none
   else
    (aN (s.2.2.1.take s.2.2.2.2.2.2.2.1) s.2.1).bind fun a16=>
    (bR (s.2.2.2.2.1,s.2.2.2.2.2.1,s.2.2.2.2.2.2.1,s.2.2.2.2.2.2.2.1,s.2.2.2.2.2.2.2.2.1,s.1,a16.1,a16.2.1,a16.2.2.1,a16.2.2.2.1,a16.2.2.2.2,s.2.2.1,s.2.2.2.1)).bind fun a17=>
    some (.next (s.2.1,aA .i64 ((aA .i64 (2*s.2.1))+1),a17.1,a17.2,s.2.2.2.2))
 else
  (bR (s.2.2.2.2.1,s.2.2.2.2.2.1,s.2.2.2.2.2.2.1,s.2.2.2.2.2.2.2.1,s.2.2.2.2.2.2.2.2.1,s.1,s.2.2.2.2.2.2.2.2.2.1,s.2.2.2.2.2.2.2.2.2.2.1,s.2.2.2.2.2.2.2.2.2.2.2.1,s.2.2.2.2.2.2.2.2.2.2.2.2.1,s.2.2.2.2.2.2.2.2.2.2.2.2.2,s.2.2.1,s.2.2.2.1)).bind fun a18=>
  bif a18.1.length==c0.2.2.2.2.2.2.2.2.2.2.2.1.length then
   bif a18.2.length==c0.2.2.2.2.2.2.2.2.2.2.2.2.length then
    some (.done (.done a18))
   else
    none
  else
   none
def dU (c0:((List Int)×(List Bool)×(List Int)×Nat×Nat×Int×Int×Int×Int×Int×Int×(List (Int×Int×Int×Int×Int))×(List Int))) (s:(Int×(List (Int×Int×Int×Int×Int))×(List Int)×(List Int)×(List Bool)×(List Int)×Nat×Nat×Int×Int×Int×Int×Int)):Option (bQ (Int×(List (Int×Int×Int×Int×Int))×(List Int)×(List Int)×(List Bool)×(List Int)×Nat×Nat×Int×Int×Int×Int×Int) ((List (Int×Int×Int×Int×Int))×(List Int))):=
 bif decide (0<s.1) then
  (aN (s.2.1.take s.2.2.2.2.2.2.1) (aA .i64 (Int.tdiv (aA .i64 (s.1-1)) 2))).bind fun a0=>
  (bX s.2.2.2.2.2.2.2.2 a0).bind fun n1=>
  bif decide (n1<0) then
   (aN (s.2.1.take s.2.2.2.2.2.2.1) (aA .i64 (Int.tdiv (aA .i64 (s.1-1)) 2))).bind fun a2=>
   (bR (s.2.2.2.1,s.2.2.2.2.1,s.2.2.2.2.2.1,s.2.2.2.2.2.2.1,s.2.2.2.2.2.2.2.1,s.1,a2.1,a2.2.1,a2.2.2.1,a2.2.2.2.1,a2.2.2.2.2,s.2.1,s.2.2.1)).bind fun a3=>
   some (.next (aA .i64 (Int.tdiv (aA .i64 (s.1-1)) 2),a3.1,a3.2,s.2.2.2))
  else
   aJ (fD c0) (s.1,aA .i64 ((aA .i64 (2*s.1))+1),s.2)
 else
  aJ (fD c0) (s.1,aA .i64 ((aA .i64 (2*s.1))+1),s.2)
def jO (a:((List Int)×(List Bool)×(List Int)×Nat×Nat×Int×Int×Int×Int×Int×Int×(List (Int×Int×Int×Int×Int))×(List Int))):Option ((List (Int×Int×Int×Int×Int))×(List Int)):=
 aJ (dU a) (a.2.2.2.2.2.1,a.2.2.2.2.2.2.2.2.2.2.2.1,a.2.2.2.2.2.2.2.2.2.2.2.2,a.1,a.2.1,a.2.2.1,a.2.2.2.1,a.2.2.2.2.1,a.2.2.2.2.2.2.1,a.2.2.2.2.2.2.2.1,a.2.2.2.2.2.2.2.2.1,a.2.2.2.2.2.2.2.2.2.1,a.2.2.2.2.2.2.2.2.2.2.1)
def NS:dP:=⟨[.l [.i .i64],.l [.b],.l [.i .i64],.n,.n,.i,.i,.i,.i,.i,.i,.l [.i .i64,.i .i64,.i .i64,.i .i64,.i .i64],.l [.i .i64]],[.agg [.sl [.i .i64] [],.sl [.b] [],.sl [.i .i64] [],.pre 0 0 0 false,.own 1 false],.int .i64 0,.agg [.int .i64 0,.int .i64 0,.int .i64 0,.int .i64 0,.int .i64 0]],[.arr [.i .i64,.i .i64,.i .i64,.i .i64,.i .i64] [],.arr [.i .i64] []],[.l [.i .i64,.i .i64,.i .i64,.i .i64,.i .i64],.l [.i .i64]],.tup [],[.arr [.i .i64,.i .i64,.i .i64,.i .i64,.i .i64] [],.arr [.i .i64] []],fun a=>jO a⟩
theorem F9:lR aZ 203 NS:=lR.of UY (wd:=false) (cx:=(pP aF [(168,aFo)] [(228,S1)] [] [])) (lV.make ⟨NM,trivial⟩ ⟨L6,trivial⟩ trivial) (fun a=>by kernel_rfl)
def qZ (p0:aG) (p1:Int):Option (aG×(Int×Int×Int×Int×Int)×Int):=
 (aN p0.heap p1).bind fun a0=>
 (B2 p0.slots a0.2.2.2).bind fun a1=>
 bif a1.2 !=0 then
  some (aG.mk (aS.mk [] [] []) [] [],(0,0,0,0,0),a1.2)
 else
  (cK p0.heap).bind fun l2=>
  (cK p0.where_).bind fun l3=>
  (aN l2 (aA .i64 ((Int.ofNat l2.length) -1))).bind fun a4=>
  (jB l2 0 (aA .i64 ((Int.ofNat l2.length) -1))).bind fun _=>
  (aN l3 a0.2.2.2.1).bind fun _=>
  bif decide (p1<(aA .i64 ((Int.ofNat l2.length) -1))) then
   (jO (a1.1.uses,a1.1.used,a1.1.free,(aA .i64 ((Int.ofNat l2.length) -1)).toNat,l2.length,p1,a4.1,a4.2.1,a4.2.2.1,a4.2.2.2.1,a4.2.2.2.2,l2,bV l3 a0.2.2.2.1 (-1))).bind fun a7=>
   some (aG.mk a1.1 (a7.1.take ((aA .i64 ((Int.ofNat l2.length) -1)).toNat)) a7.2,a0,0)
  else
   some (aG.mk a1.1 (l2.take ((aA .i64 ((Int.ofNat l2.length) -1)).toNat)) (bV l3 a0.2.2.2.1 (-1)),a0,0)
def aM8:bN:=⟨aC.cons (aK.agg cN) (aC.one (aK.int .i64)),aK.tup (aC.cons (aK.agg cN) (aC.cons (aK.agg (cE.row jV)) (aC.one (aK.int .i64)))),fun a=>qZ a.1 a.2,.frz,false⟩
theorem aFI:aH aZ 207 aM8:=aH.of aEG (cx:=(pP aF [(232,aM7),(140,bN.clone jV),(37,bN.clone ki)] [(203,NS)] [(202,W8)] [])) rfl (lV.make ⟨aFH,BD,tJ,trivial⟩ ⟨F9,trivial⟩ ⟨NE,trivial⟩) (fun a=>by kernel_rfl)
def lG (p0:aG) (p1:Int×Int):Option (aG×(Int×Int×Int×Int×Int)×Int):=
 (pA p0 p1).bind fun a0=>
 bif a0.2 !=0 then
  some (aG.mk (aS.mk [] [] []) [] [],(0,0,0,0,0),a0.2)
 else
  (qZ p0 a0.1).bind fun a1=>
  some a1
def aLj:bN:=⟨aC.cons (aK.agg cN) (aC.one (aK.agg (cE.row hO))),aK.tup (aC.cons (aK.agg cN) (aC.cons (aK.agg (cE.row jV)) (aC.one (aK.int .i64)))),fun a=>lG a.1 a.2,.frz,false⟩
theorem VA:aH aZ 161 aLj:=Oc aD4 rfl aF [(201,aLi),(207,aM8)] ⟨U9,aFI,trivial⟩ fun a=>by kernel_rfl
def kQ (a:(Int×Int×(List (Int×Int×Int)))):Option (Nat×Nat×(List (Int×Int×Int))):=
 bif (((decide (0<=a.1))&&(decide (a.1<=a.2.1)))&&(decide (a.2.1<=(Int.ofNat a.2.2.length))))&&(decide ((Int.ofNat a.2.2.length)<=(Int.ofNat a.2.2.length))) then
  bif a.1==a.2.1 then
   bif a.2.2.length==a.2.2.length then
    some (a.2.2.length,a.2.2.length,a.2.2)
   else
    none
  else
   (jB a.2.2 0 a.1).bind fun _=>
   bif ((decide (0<=a.2.1))&&(decide (a.2.1<=(Int.ofNat a.2.2.length))))&&(decide ((Int.ofNat a.2.2.length)<=(Int.ofNat a.2.2.length))) then
    bif ((a.2.2.drop (0+a.2.1.toNat)).take (((Int.ofNat a.2.2.length).toNat) -a.2.1.toNat)).isEmpty then
     bif ((decide (0<=(Int.ofNat a.1.toNat)))&&(decide ((Int.ofNat a.1.toNat)<=(Int.ofNat a.2.2.length))))&&(decide ((Int.ofNat a.2.2.length)<=(Int.ofNat a.2.2.length))) then
      bif Nat.beq (((Int.ofNat a.2.2.length).toNat) - ((Int.ofNat a.1.toNat).toNat)) 0 then
       bif a.2.2.length==a.2.2.length then
        some (a.1.toNat,a.2.2.length,a.2.2)
       else
        none
      else
       bif (Nat.ble ((0+((Int.ofNat a.1.toNat).toNat))+(((Int.ofNat a.2.2.length).toNat) - ((Int.ofNat a.1.toNat).toNat))) a.2.2.length)&&(!false) then
        bif ((hM a.2.2 (0+((Int.ofNat a.1.toNat).toNat)) (List.replicate (((Int.ofNat a.2.2.length).toNat) - ((Int.ofNat a.1.toNat).toNat)) (0,0,0))).length)==a.2.2.length then
         some (a.1.toNat,a.2.2.length,hM a.2.2 (0+((Int.ofNat a.1.toNat).toNat)) (List.replicate (((Int.ofNat a.2.2.length).toNat) - ((Int.ofNat a.1.toNat).toNat)) (0,0,0)))
        else
         none
       else
        none
     else
      none
    else
     bif Nat.ble (a.1.toNat+(((a.2.2.drop (0+a.2.1.toNat)).take (((Int.ofNat a.2.2.length).toNat) -a.2.1.toNat)).length)) a.2.2.length then
      bif (Nat.ble (a.1.toNat+(((a.2.2.drop (0+a.2.1.toNat)).take (((Int.ofNat a.2.2.length).toNat) -a.2.1.toNat)).length)) a.2.2.length)&&(!false) then
       bif ((decide (0<=(Int.ofNat (a.1.toNat+(((a.2.2.drop (0+a.2.1.toNat)).take (((Int.ofNat a.2.2.length).toNat) -a.2.1.toNat)).length)))))&&(decide ((Int.ofNat (a.1.toNat+(((a.2.2.drop (0+a.2.1.toNat)).take (((Int.ofNat a.2.2.length).toNat) -a.2.1.toNat)).length)))<=(Int.ofNat a.2.2.length))))&&(decide ((Int.ofNat a.2.2.length)<=(Int.ofNat a.2.2.length))) then
        bif Nat.beq (((Int.ofNat a.2.2.length).toNat) - ((Int.ofNat (a.1.toNat+(((a.2.2.drop (0+a.2.1.toNat)).take (((Int.ofNat a.2.2.length).toNat) -a.2.1.toNat)).length))).toNat)) 0 then
         bif ((hM a.2.2 a.1.toNat ((a.2.2.drop (0+a.2.1.toNat)).take (((Int.ofNat a.2.2.length).toNat) -a.2.1.toNat))).length)==a.2.2.length then
          some (a.1.toNat+(((a.2.2.drop (0+a.2.1.toNat)).take (((Int.ofNat a.2.2.length).toNat) -a.2.1.toNat)).length),a.2.2.length,hM a.2.2 a.1.toNat ((a.2.2.drop (0+a.2.1.toNat)).take (((Int.ofNat a.2.2.length).toNat) -a.2.1.toNat)))
         else
          none
        else
         bif (Nat.ble ((0+((Int.ofNat (a.1.toNat+(((a.2.2.drop (0+a.2.1.toNat)).take (((Int.ofNat a.2.2.length).toNat) -a.2.1.toNat)).length))).toNat))+(((Int.ofNat a.2.2.length).toNat) - ((Int.ofNat (a.1.toNat+(((a.2.2.drop (0+a.2.1.toNat)).take (((Int.ofNat a.2.2.length).toNat) -a.2.1.toNat)).length))).toNat))) ((hM a.2.2 a.1.toNat ((a.2.2.drop (0+a.2.1.toNat)).take (((Int.ofNat a.2.2.length).toNat) -a.2.1.toNat))).length))&&(!false) then
          bif ((hM (hM a.2.2 a.1.toNat ((a.2.2.drop (0+a.2.1.toNat)).take (((Int.ofNat a.2.2.length).toNat) -a.2.1.toNat))) (0+((Int.ofNat (a.1.toNat+(((a.2.2.drop (0+a.2.1.toNat)).take (((Int.ofNat a.2.2.length).toNat) -a.2.1.toNat)).length))).toNat)) (List.replicate (((Int.ofNat a.2.2.length).toNat) - ((Int.ofNat (a.1.toNat+(((a.2.2.drop (0+a.2.1.toNat)).take (((Int.ofNat a.2.2.length).toNat) -a.2.1.toNat)).length))).toNat)) (0,0,0))).length)==a.2.2.length then
           some (a.1.toNat+(((a.2.2.drop (0+a.2.1.toNat)).take (((Int.ofNat a.2.2.length).toNat) -a.2.1.toNat)).length),a.2.2.length,hM (hM a.2.2 a.1.toNat ((a.2.2.drop (0+a.2.1.toNat)).take (((Int.ofNat a.2.2.length).toNat) -a.2.1.toNat))) (0+((Int.ofNat (a.1.toNat+(((a.2.2.drop (0+a.2.1.toNat)).take (((Int.ofNat a.2.2.length).toNat) -a.2.1.toNat)).length))).toNat)) (List.replicate (((Int.ofNat a.2.2.length).toNat) - ((Int.ofNat (a.1.toNat+(((a.2.2.drop (0+a.2.1.toNat)).take (((Int.ofNat a.2.2.length).toNat) -a.2.1.toNat)).length))).toNat)) (0,0,0)))
          else
           none
         else
          none
       else
        none
      else
       none
     else
      none
   else
    none
 else
  none
def Z0:dP:=⟨[.i,.i,.l [.i .i64,.i .i64,.i .i64]],[.own 0 false,.int .i64 0,.int .i64 0],[.arr [.i .i64,.i .i64,.i .i64] []],[.n,.n,.l [.i .i64,.i .i64,.i .i64]],.pre 0 0 0 false,[.arr [.i .i64,.i .i64,.i .i64] []],fun a=>kQ a⟩
theorem XC:lR aZ 185 Z0:=lR.of aEn (wd:=true) (cx:=(pP aF [] [] [] [])) (lV.make trivial trivial trivial) (fun a=>by kernel_rfl)
def kS (p0:aI) (p1:Int):Option (aI×(Int×Int)×Int):=
 (vS p0.certs p1).bind fun a0=>
 bif a0.2.2 !=0 then
  some (aI.mk (0,0) (Field.mk []) (aW.mk 0 []) (aG.mk (aS.mk [] [] []) [] []) [],a0.2)
 else
  (jC p0).bind fun r1=>
  (oC p0.due p1).bind fun a2=>
  bif a2.2 then
   (aN p0.due a2.1).bind fun a3=>
   (lG p0.agenda a3.2).bind fun a4=>
   bif a4.2.2 !=0 then
    some (aI.mk (0,0) (Field.mk []) (aW.mk 0 []) (aG.mk (aS.mk [] [] []) [] []) [],a0.2.1,a4.2.2)
   else
    (kQ (a2.1,aA .i64 (a2.1+1),r1.due)).bind fun a5=>
    some (aI.mk r1.now r1.field a0.1 a4.1 (a5.2.2.take a5.1),a0.2.1,0)
  else
   some (aI.mk r1.now r1.field a0.1 r1.agenda r1.due,a0.2.1,0)
def aLk:bN:=⟨aC.cons (aK.agg bL) (aC.one (aK.int .i64)),aK.tup (aC.cons (aK.agg bL) (aC.cons (aK.agg (cE.row hO)) (aC.one (aK.int .i64)))),fun a=>kS a.1 a.2,.frz,false⟩
theorem VB:aH aZ 137 aLk:=aH.of aDJ (cx:=(pP aF [(184,aM3),(83,c83),(83,ZZ),(158,aLg),(161,aLj)] [(185,Z0)] [] [])) rfl (lV.make ⟨aFE,NR,HR,U7,VA,trivial⟩ ⟨XC,trivial⟩ trivial) (fun a=>by kernel_rfl)
def qI (p0:aI) (p1:Int×Int):Option (aI×(Int×Int×Int×Int×Int)×(Int×Int)×Int):=
 (sE p0 p1).bind fun a0=>
 bif a0.2==0 then
  bif !a0.1 then
   some (aI.mk (0,0) (Field.mk []) (aW.mk 0 []) (aG.mk (aS.mk [] [] []) [] []) [],(0,0,0,0,0),(0,0),6)
  else
   bif a0.2 !=0 then
    some (aI.mk (0,0) (Field.mk []) (aW.mk 0 []) (aG.mk (aS.mk [] [] []) [] []) [],(0,0,0,0,0),(0,0),a0.2)
   else
    (aN p0.agenda.heap 0).bind fun a1=>
    (kS p0 a1.2.2.1).bind fun a2=>
    bif a2.2.2 !=0 then
     some (aI.mk (0,0) (Field.mk []) (aW.mk 0 []) (aG.mk (aS.mk [] [] []) [] []) [],(0,0,0,0,0),(0,0),a2.2.2)
    else
     some (aI.mk (a1.1,a1.2.1) a2.1.field a2.1.certs a2.1.agenda a2.1.due,a1,a2.2.1,0)
 else
  bif a0.2 !=0 then
   some (aI.mk (0,0) (Field.mk []) (aW.mk 0 []) (aG.mk (aS.mk [] [] []) [] []) [],(0,0,0,0,0),(0,0),a0.2)
  else
   (aN p0.agenda.heap 0).bind fun a3=>
   (kS p0 a3.2.2.1).bind fun a4=>
   bif a4.2.2 !=0 then
    some (aI.mk (0,0) (Field.mk []) (aW.mk 0 []) (aG.mk (aS.mk [] [] []) [] []) [],(0,0,0,0,0),(0,0),a4.2.2)
   else
    some (aI.mk (a3.1,a3.2.1) a4.1.field a4.1.certs a4.1.agenda a4.1.due,a3,a4.2.1,0)
def c81:bN:=⟨aC.cons (aK.agg bL) (aC.one (aK.agg (cE.row hO))),aK.tup (aC.cons (aK.agg bL) (aC.cons (aK.agg (cE.row jV)) (aC.cons (aK.agg (cE.row hO)) (aC.one (aK.int .i64))))),fun a=>qI a.1 a.2,.frz,false⟩
theorem aLl:aH aZ 81 c81:=Oc aKK rfl aF [(82,c82),(137,aLk)] ⟨ZX,VB,trivial⟩ fun a=>by kernel_rfl
def tK (p0:aI) (p1:Int):Option (aI×Int):=
 (hG p0).bind fun n0=>
 bif n0 !=0 then
  some (aI.mk (0,0) (Field.mk []) (aW.mk 0 []) (aG.mk (aS.mk [] [] []) [] []) [],n0)
 else
  (kS p0 p1).bind fun a1=>
  some (a1.1,a1.2.2)
def aM9:bN:=⟨aC.cons (aK.agg bL) (aC.one (aK.int .i64)),aK.tup (aC.cons (aK.agg bL) (aC.one (aK.int .i64))),fun a=>tK a.1 a.2,.frz,false⟩
theorem aFJ:aH aZ 106 aM9:=Oc aDj rfl aF [(59,c59),(137,aLk)] ⟨JY,VB,trivial⟩ fun a=>by kernel_rfl
def iI (s:((List (Int×Int×Int))×(List (Int×Int×Int))×Int×Int)):Option (bQ ((List (Int×Int×Int))×(List (Int×Int×Int))×Int×Int) Bool):=
 bif decide (s.2.2.2<s.2.2.1) then
  (aN s.1 s.2.2.2).bind fun a0=>
  (aN s.2.1 s.2.2.2).bind fun a1=>
  bif !((a0.1==a1.1)&&((a0.2.1==a1.2.1)&&(a0.2.2==a1.2.2))) then
   some (.done false)
  else
   some (.next (s.1,s.2.1,s.2.2.1,aA .i64 (s.2.2.2+1)))
 else
  some (.done true)
def kT (p0:List (Int×Int×Int)) (p1:List (Int×Int×Int)):Option Bool:=
 bif (Int.ofNat p0.length) !=(Int.ofNat p1.length) then
  some false
 else
  aJ iI (p0,p1,Int.ofNat p0.length,0)
def aNa:bN:=⟨aC.cons (aK.sl fV) (aC.one (aK.sl fV)),aK.bool,fun a=>kT a.1 a.2,.pure,false⟩
theorem aFK:aH aZ 107 aNa:=Oc aDk rfl aF [] trivial fun a=>by kernel_rfl
def bS (a:((List Int)×(List Bool)×(List Int)×Int×Int×Int×Int×Int×Int×(List (Int×Int×Int×Int×Int))×(List Int))):Option ((List (Int×Int×Int×Int×Int))×(List Int)):=
 (aN a.2.2.2.2.2.2.2.2.2.1 a.2.2.2.1).bind fun _=>
 (aN a.2.2.2.2.2.2.2.2.2.2 a.2.2.2.2.2.2.2.1).bind fun _=>
 bif ((bV a.2.2.2.2.2.2.2.2.2.1 a.2.2.2.1 (a.2.2.2.2.1,a.2.2.2.2.2.1,a.2.2.2.2.2.2.1,a.2.2.2.2.2.2.2.1,a.2.2.2.2.2.2.2.2.1)).length)==a.2.2.2.2.2.2.2.2.2.1.length then
  bif ((bV a.2.2.2.2.2.2.2.2.2.2 a.2.2.2.2.2.2.2.1 a.2.2.2.1).length)==a.2.2.2.2.2.2.2.2.2.2.length then
   some (bV a.2.2.2.2.2.2.2.2.2.1 a.2.2.2.1 (a.2.2.2.2.1,a.2.2.2.2.2.1,a.2.2.2.2.2.2.1,a.2.2.2.2.2.2.2.1,a.2.2.2.2.2.2.2.2.1),bV a.2.2.2.2.2.2.2.2.2.2 a.2.2.2.2.2.2.2.1 a.2.2.2.1)
  else
   none
 else
  none
def Z1:dP:=⟨[.l [.i .i64],.l [.b],.l [.i .i64],.i,.i,.i,.i,.i,.i,.l [.i .i64,.i .i64,.i .i64,.i .i64,.i .i64],.l [.i .i64]],[.agg [.sl [.i .i64] [],.sl [.b] [],.sl [.i .i64] [],.own 0 false,.own 1 false],.int .i64 0,.agg [.int .i64 0,.int .i64 0,.int .i64 0,.int .i64 0,.int .i64 0]],[.arr [.i .i64,.i .i64,.i .i64,.i .i64,.i .i64] [],.arr [.i .i64] []],[.l [.i .i64,.i .i64,.i .i64,.i .i64,.i .i64],.l [.i .i64]],.tup [],[.arr [.i .i64,.i .i64,.i .i64,.i .i64,.i .i64] [],.arr [.i .i64] []],fun a=>bS a⟩
theorem XD:lR aZ 228 Z1:=lR.of U0 (wd:=false) (cx:=(pP aF [] [] [] [])) (lV.make trivial trivial trivial) (fun a=>by kernel_rfl)
def fE (c0:((List Int)×(List Bool)×(List Int)×Int×Int×Int×Int×Int×Int×(List (Int×Int×Int×Int×Int))×(List Int))) (s:(Int×Int×(List (Int×Int×Int×Int×Int))×(List Int)×(List Int)×(List Bool)×(List Int)×Int×Int×Int×Int×Int)):Option (bQ (Int×Int×(List (Int×Int×Int×Int×Int))×(List Int)×(List Int)×(List Bool)×(List Int)×Int×Int×Int×Int×Int) (bQ (Int×(List (Int×Int×Int×Int×Int))×(List Int)×(List Int)×(List Bool)×(List Int)×Int×Int×Int×Int×Int) ((List (Int×Int×Int×Int×Int))×(List Int)))):=
 bif decide (s.2.1<(Int.ofNat s.2.2.1.length)) then
  bif decide ((aA .i64 (s.2.1+1))<(Int.ofNat s.2.2.1.length)) then
   (aN s.2.2.1 (aA .i64 (s.2.1+1))).bind fun a0=>
   (aN s.2.2.1 s.2.1).bind fun a1=>
   (bX a0 a1).bind fun n2=>
   bif decide (n2<0) then
    (aN s.2.2.1 (aA .i64 (s.2.1+1))).bind fun a3=>
    (bX a3 s.2.2.2.2.2.2.2).bind fun n4=>
    bif decide (0<=n4) then
     (bS (s.2.2.2.2.1,s.2.2.2.2.2.1,s.2.2.2.2.2.2.1,s.1,s.2.2.2.2.2.2.2.1,s.2.2.2.2.2.2.2.2.1,s.2.2.2.2.2.2.2.2.2.1,s.2.2.2.2.2.2.2.2.2.2.1,s.2.2.2.2.2.2.2.2.2.2.2,s.2.2.1,s.2.2.2.1)).bind fun a5=>
     bif a5.1.length==c0.2.2.2.2.2.2.2.2.2.1.length then
      bif a5.2.length==c0.2.2.2.2.2.2.2.2.2.2.length then
       some (.done (.done a5))
      else
       none
     else
      none
    else
     (aN s.2.2.1 (aA .i64 (s.2.1+1))).bind fun a6=>
     (bS (s.2.2.2.2.1,s.2.2.2.2.2.1,s.2.2.2.2.2.2.1,s.1,a6.1,a6.2.1,a6.2.2.1,a6.2.2.2.1,a6.2.2.2.2,s.2.2.1,s.2.2.2.1)).bind fun a7=>
     some (.next (aA .i64 (s.2.1+1),aA .i64 ((aA .i64 (2*(aA .i64 (s.2.1+1))))+1),a7.1,a7.2,s.2.2.2.2))
   else
    (aN s.2.2.1 s.2.1).bind fun a8=>
    (bX a8 s.2.2.2.2.2.2.2).bind fun n9=>
    bif decide (0<=n9) then
     (bS (s.2.2.2.2.1,s.2.2.2.2.2.1,s.2.2.2.2.2.2.1,s.1,s.2.2.2.2.2.2.2.1,s.2.2.2.2.2.2.2.2.1,s.2.2.2.2.2.2.2.2.2.1,s.2.2.2.2.2.2.2.2.2.2.1,s.2.2.2.2.2.2.2.2.2.2.2,s.2.2.1,s.2.2.2.1)).bind fun a10=>
     bif a10.1.length==c0.2.2.2.2.2.2.2.2.2.1.length then
      bif a10.2.length==c0.2.2.2.2.2.2.2.2.2.2.length then
       some (.done (.done a10))
      else
       none
     else
      none
    else
     (aN s.2.2.1 s.2.1).bind fun a11=>
     (bS (s.2.2.2.2.1,s.2.2.2.2.2.1,s.2.2.2.2.2.2.1,s.1,a11.1,a11.2.1,a11.2.2.1,a11.2.2.2.1,a11.2.2.2.2,s.2.2.1,s.2.2.2.1)).bind fun a12=>
     some (.next (s.2.1,aA .i64 ((aA .i64 (2*s.2.1))+1),a12.1,a12.2,s.2.2.2.2))
  else
   (aN s.2.2.1 s.2.1).bind fun a13=>
   (bX a13 s.2.2.2.2.2.2.2).bind fun n14=>
   bif decide (0<=n14) then
    (bS (s.2.2.2.2.1,s.2.2.2.2.2.1,s.2.2.2.2.2.2.1,s.1,s.2.2.2.2.2.2.2.1,s.2.2.2.2.2.2.2.2.1,s.2.2.2.2.2.2.2.2.2.1,s.2.2.2.2.2.2.2.2.2.2.1,s.2.2.2.2.2.2.2.2.2.2.2,s.2.2.1,s.2.2.2.1)).bind fun a15=>
    bif a15.1.length==c0.2.2.2.2.2.2.2.2.2.1.length then
     bif a15.2.length==c0.2.2.2.2.2.2.2.2.2.2.length then
      some (.done (.done a15))
     else
      none
    else
     none
   else
    (aN s.2.2.1 s.2.1).bind fun a16=>
    (bS (s.2.2.2.2.1,s.2.2.2.2.2.1,s.2.2.2.2.2.2.1,s.1,a16.1,a16.2.1,a16.2.2.1,a16.2.2.2.1,a16.2.2.2.2,s.2.2.1,s.2.2.2.1)).bind fun a17=>
    some (.next (s.2.1,aA .i64 ((aA .i64 (2*s.2.1))+1),a17.1,a17.2,s.2.2.2.2))
 else
  (bS (s.2.2.2.2.1,s.2.2.2.2.2.1,s.2.2.2.2.2.2.1,s.1,s.2.2.2.2.2.2.2.1,s.2.2.2.2.2.2.2.2.1,s.2.2.2.2.2.2.2.2.2.1,s.2.2.2.2.2.2.2.2.2.2.1,s.2.2.2.2.2.2.2.2.2.2.2,s.2.2.1,s.2.2.2.1)).bind fun a18=>
  bif a18.1.length==c0.2.2.2.2.2.2.2.2.2.1.length then
   bif a18.2.length==c0.2.2.2.2.2.2.2.2.2.2.length then
    some (.done (.done a18))
   else
    none
  else
   none
def dV (c0:((List Int)×(List Bool)×(List Int)×Int×Int×Int×Int×Int×Int×(List (Int×Int×Int×Int×Int))×(List Int))) (s:(Int×(List (Int×Int×Int×Int×Int))×(List Int)×(List Int)×(List Bool)×(List Int)×Int×Int×Int×Int×Int)):Option (bQ (Int×(List (Int×Int×Int×Int×Int))×(List Int)×(List Int)×(List Bool)×(List Int)×Int×Int×Int×Int×Int) ((List (Int×Int×Int×Int×Int))×(List Int))):=
 bif decide (0<s.1) then
  (aN s.2.1 (aA .i64 (Int.tdiv (aA .i64 (s.1-1)) 2))).bind fun a0=>
  (bX s.2.2.2.2.2.2 a0).bind fun n1=>
  bif decide (n1<0) then
   (aN s.2.1 (aA .i64 (Int.tdiv (aA .i64 (s.1-1)) 2))).bind fun a2=>
   (bS (s.2.2.2.1,s.2.2.2.2.1,s.2.2.2.2.2.1,s.1,a2.1,a2.2.1,a2.2.2.1,a2.2.2.2.1,a2.2.2.2.2,s.2.1,s.2.2.1)).bind fun a3=>
   some (.next (aA .i64 (Int.tdiv (aA .i64 (s.1-1)) 2),a3.1,a3.2,s.2.2.2))
  else
   aJ (fE c0) (s.1,aA .i64 ((aA .i64 (2*s.1))+1),s.2)
 else
  aJ (fE c0) (s.1,aA .i64 ((aA .i64 (2*s.1))+1),s.2)
def eB (a:((List Int)×(List Bool)×(List Int)×Int×Int×Int×Int×Int×Int×(List (Int×Int×Int×Int×Int))×(List Int))):Option ((List (Int×Int×Int×Int×Int))×(List Int)):=
 aJ (dV a) (a.2.2.2.1,a.2.2.2.2.2.2.2.2.2.1,a.2.2.2.2.2.2.2.2.2.2,a.1,a.2.1,a.2.2.1,a.2.2.2.2.1,a.2.2.2.2.2.1,a.2.2.2.2.2.2.1,a.2.2.2.2.2.2.2.1,a.2.2.2.2.2.2.2.2.1)
def S2:dP:=⟨[.l [.i .i64],.l [.b],.l [.i .i64],.i,.i,.i,.i,.i,.i,.l [.i .i64,.i .i64,.i .i64,.i .i64,.i .i64],.l [.i .i64]],[.agg [.sl [.i .i64] [],.sl [.b] [],.sl [.i .i64] [],.own 0 false,.own 1 false],.int .i64 0,.agg [.int .i64 0,.int .i64 0,.int .i64 0,.int .i64 0,.int .i64 0]],[.arr [.i .i64,.i .i64,.i .i64,.i .i64,.i .i64] [],.arr [.i .i64] []],[.l [.i .i64,.i .i64,.i .i64,.i .i64,.i .i64],.l [.i .i64]],.tup [],[.arr [.i .i64,.i .i64,.i .i64,.i .i64,.i .i64] [],.arr [.i .i64] []],fun a=>eB a⟩
theorem L7:lR aZ 203 S2:=lR.of UY (wd:=false) (cx:=(pP aF [(168,aFo)] [(228,S1),(228,Z1)] [] [])) (lV.make ⟨NM,trivial⟩ ⟨L6,XD,trivial⟩ trivial) (fun a=>by kernel_rfl)
def tL (p0:aG) (p1:Int×Int) (p2:Int×Int):Option (aG×Int):=
 (iV p0).bind fun n0=>
 (fI p2).bind fun n1=>
 bif (if n1>n0 then n1 else n0) !=0 then
  some (aG.mk (aS.mk [] [] []) [] [],if n1>n0 then n1 else n0)
 else
  (pA p0 p1).bind fun a2=>
  bif a2.2 !=0 then
   some (aG.mk (aS.mk [] [] []) [] [],a2.2)
  else
   (cK p0.heap).bind fun l3=>
   (cK p0.where_).bind fun l4=>
   (aN l3 a2.1).bind fun a5=>
   (eB (p0.slots.uses,p0.slots.used,p0.slots.free,a2.1,p2.1,p2.2,a5.2.2.1,a5.2.2.2.1,a5.2.2.2.2,l3,l4)).bind fun a6=>
   some (aG.mk p0.slots a6.1 a6.2,0)
def aNb:bN:=⟨aC.cons (aK.agg cN) (aC.cons (aK.agg (cE.row hO)) (aC.one (aK.agg (cE.row hO)))),aK.tup (aC.cons (aK.agg cN) (aC.one (aK.int .i64))),fun a=>tL a.1 a.2.1 a.2.2,.frz,false⟩
theorem aFL:aH aZ 159 aNb:=aH.of aD2 (cx:=(pP aF [(118,XA),(33,c33),(201,aLi),(140,bN.clone jV),(37,bN.clone ki)] [(203,NS),(203,S2)] [(202,W8)] [])) rfl (lV.make ⟨E0,A9,U9,BD,tJ,trivial⟩ ⟨F9,L7,trivial⟩ ⟨NE,trivial⟩) (fun a=>by kernel_rfl)
def wR (p0:Int×Int×Int×Int×Int) (p1:Int):Option Bool:=
 some (p0.2.2.1==p1)
def aNc:bN:=⟨aC.cons (aK.agg (cE.row jV)) (aC.one (aK.ref (cE.int .i64))),aK.bool,fun a=>wR a.1 a.2,.pure,false⟩
theorem aFM:aH aZ 205 aNc:=Oc aEE rfl aF [] trivial fun a=>by kernel_rfl
def cG (s:((List (Int×Int×Int×Int×Int))×Int×Int×Int)):Option (bQ ((List (Int×Int×Int×Int×Int))×Int×Int×Int) Int):=
 bif decide (s.2.2.2<s.2.2.1) then
  (aN s.1 s.2.2.2).bind fun a0=>
  (wR a0 s.2.1).bind fun b1=>
  bif b1 then
   some (.done s.2.2.2)
  else
   some (.next (s.1,s.2.1,s.2.2.1,aA .i64 (s.2.2.2+1)))
 else
  some (.done (-1))
def dW (p0:List (Int×Int×Int×Int×Int)) (p1:Int):Option Int:=
 aJ cG (p0,p1,Int.ofNat p0.length,0)
def QC:bN:=⟨aC.cons (aK.sl jV) (aC.one (aK.clo 205 (aC.one (aK.ref (cE.int .i64))))),aK.int .i64,fun a=>dW a.1 a.2,.pure,false⟩
theorem QD:aH aZ 229 QC:=Oc aEV rfl aF [(205,aNc)] ⟨aFM,trivial⟩ fun a=>by kernel_rfl
def cH (p0:List (Int×Int×Int×Int×Int)) (p1:Int):Option Bool:=
 (dW p0 p1).bind fun n0=>
 some (decide (0<=n0))
def QE:bN:=⟨aC.cons (aK.sl jV) (aC.one (aK.clo 205 (aC.one (aK.ref (cE.int .i64))))),aK.bool,fun a=>cH a.1 a.2,.pure,false⟩
theorem QF:aH aZ 204 QE:=Oc aED rfl aF [(229,QC)] ⟨QD,trivial⟩ fun a=>by kernel_rfl
def uI (p0:List Int):Option ((List Int)×Int):=
 (jB p0 0 (aA .i64 ((Int.ofNat p0.length) -1))).bind fun l0=>
 (cK l0).bind fun l1=>
 (aN p0 (aA .i64 ((Int.ofNat p0.length) -1))).bind fun n2=>
 some (l1,n2)
def aNd:bN:=⟨aC.one (aK.sl ki),aK.tup (aC.cons (aK.sl ki) (aC.one (aK.int .i64))),fun a=>uI a,.frz,false⟩
theorem aFN:aH aZ 230 aNd:=Oc aEW rfl aF [(241,bN.clone ki)] ⟨QB,trivial⟩ fun a=>by kernel_rfl
def B3 (p0:aS):Option (aS×(Int×Int)×Int):=
 (qE p0).bind fun n0=>
 bif n0 !=0 then
  some (aS.mk [] [] [],(0,0),n0)
 else
  bif (Int.ofNat p0.free.length)==0 then
   some (aS.mk [] [] [],(0,0),18)
  else
   (uI p0.free).bind fun a1=>
   (aN p0.uses a1.2).bind fun n2=>
   bif n2==1000000 then
    some (aS.mk [] [] [],(0,0),18)
   else
    (cK p0.uses).bind fun l3=>
    (cK p0.used).bind fun l4=>
    (aN l4 a1.2).bind fun _=>
    (aN l3 a1.2).bind fun n6=>
    (aN l3 a1.2).bind fun _=>
    (aN (bV l3 a1.2 (aA .i64 (n6+1))) a1.2).bind fun n8=>
    some (aS.mk (bV l3 a1.2 (aA .i64 (n6+1))) (bV l4 a1.2 true) a1.1,(a1.2,n8),0)
def aNe:bN:=⟨aC.one (aK.agg fL),aK.tup (aC.cons (aK.agg fL) (aC.cons (aK.agg (cE.row hO)) (aC.one (aK.int .i64)))),fun a=>B3 a,.frz,false⟩
theorem aFO:aH aZ 206 aNe:=aH.of aEF (cx:=(pP aF [(167,aFj),(230,aNd),(37,bN.clone ki),(141,bN.clone kb)] [] [(231,ZJ)] [])) rfl (lV.make ⟨NL,aFN,tJ,BA,trivial⟩ trivial ⟨U1,trivial⟩) (fun a=>by kernel_rfl)
def kJ (p0:aG) (p1:Int×Int) (p2:Int):Option (aG×(Int×Int)×Int):=
 (iV p0).bind fun n0=>
 (fI p1).bind fun n1=>
 bif (if n1>n0 then n1 else n0) !=0 then
  some (aG.mk (aS.mk [] [] []) [] [],(0,0),if n1>n0 then n1 else n0)
 else
  bif decide (p2<0) then
   some (aG.mk (aS.mk [] [] []) [] [],(0,0),2)
  else
   bif decide (1000000<p2) then
    some (aG.mk (aS.mk [] [] []) [] [],(0,0),2)
   else
    (cH p0.heap p2).bind fun b2=>
    bif b2 then
     some (aG.mk (aS.mk [] [] []) [] [],(0,0),14)
    else
     (B3 p0.slots).bind fun a3=>
     bif a3.2.2 !=0 then
      some (aG.mk (aS.mk [] [] []) [] [],(0,0),a3.2.2)
     else
      (cK p0.heap).bind fun l4=>
      (cK p0.where_).bind fun l5=>
      (bT l4 [(p1.1,p1.2,p2,a3.2.1)]).bind fun l6=>
      (eB (a3.1.uses,a3.1.used,a3.1.free,aA .i64 ((Int.ofNat l6.length) -1),p1.1,p1.2,p2,a3.2.1.1,a3.2.1.2,l6,l5)).bind fun a7=>
      some (aG.mk a3.1 a7.1 a7.2,a3.2.1,0)
def aLm:bN:=⟨aC.cons (aK.agg cN) (aC.cons (aK.agg (cE.row hO)) (aC.one (aK.int .i64))),aK.tup (aC.cons (aK.agg cN) (aC.cons (aK.agg (cE.row hO)) (aC.one (aK.int .i64)))),fun a=>kJ a.1 a.2.1 a.2.2,.frz,false⟩
theorem VC:aH aZ 160 aLm:=aH.of aD3 (cx:=(pP aF [(118,XA),(33,c33),(204,QE),(206,aNe),(140,bN.clone jV),(37,bN.clone ki)] [(203,NS),(203,S2)] [(202,W8)] [])) rfl (lV.make ⟨E0,A9,QF,aFO,BD,tJ,trivial⟩ ⟨F9,L7,trivial⟩ ⟨NE,trivial⟩) (fun a=>by kernel_rfl)
def cW (s:((List (Int×Int×Int))×Int×Int×Int×Int×(List (Int×Int×Int))×Int×(List (Int×Int×Int))×(List Int)×(List Bool)×(List Int)×(List (Int×Int×Int×Int×Int))×(List Int)×(List (Int×Int×Int))×(List (Int×Int×Int))×Int×Int×Int×Int×Int×Int×(List (Int×Int×Int))×(List Int)×(List Bool)×(List Int)×(List (Int×Int×Int×Int×Int))×(List Int)×(List (Int×Int×Int))×(List (Int×Int×Int)))):Option (bQ ((List (Int×Int×Int))×Int×Int×Int×Int×(List (Int×Int×Int))×Int×(List (Int×Int×Int))×(List Int)×(List Bool)×(List Int)×(List (Int×Int×Int×Int×Int))×(List Int)×(List (Int×Int×Int))×(List (Int×Int×Int))×Int×Int×Int×Int×Int×Int×(List (Int×Int×Int))×(List Int)×(List Bool)×(List Int)×(List (Int×Int×Int×Int×Int))×(List Int)×(List (Int×Int×Int))×(List (Int×Int×Int))) (bQ ((List (Int×Int×Int))×Int×Int×Int×Int×(List (Int×Int×Int))×Int×(List (Int×Int×Int))×(List Int)×(List Bool)×(List Int)×(List (Int×Int×Int×Int×Int))×(List Int)×(List (Int×Int×Int))×(List (Int×Int×Int))×Int×Int×Int) (aI×Int))):=
 bif decide (s.2.2.1<s.2.1) then
  (aN s.1 s.2.2.1).bind fun a0=>
  (qH (Field.mk s.2.2.2.2.2.2.2.2.2.2.2.2.2.2.1) a0.2 (s.2.2.2.1,s.2.2.2.2.1)).bind fun a1=>
  (oC s.2.2.2.2.2.2.2.2.2.2.2.2.2.1 a0.1).bind fun a2=>
  bif a1.2.1 then
   bif a2.2 then
    (aN s.2.2.2.2.2.2.2.2.2.2.2.2.2.1 a2.1).bind fun a3=>
    (tL (aG.mk (aS.mk s.2.2.2.2.2.2.2.2.2.2.2.2.2.2.2.2.2.2.2.2.2.2.1 s.2.2.2.2.2.2.2.2.2.2.2.2.2.2.2.2.2.2.2.2.2.2.2.1 s.2.2.2.2.2.2.2.2.2.2.2.2.2.2.2.2.2.2.2.2.2.2.2.2.1) s.2.2.2.2.2.2.2.2.2.2.2.2.2.2.2.2.2.2.2.2.2.2.2.2.2.1 s.2.2.2.2.2.2.2.2.2.2.2.2.2.2.2.2.2.2.2.2.2.2.2.2.2.2.1) a3.2 a1.1).bind fun a4=>
    (aN s.2.2.2.2.2.2.2.2.2.2.2.2.2.1 a2.1).bind fun a5=>
    (bT s.2.2.2.2.2.2.2.2.2.2.2.2.2.2.2.2.2.2.2.2.2.2.2.2.2.2.2.2 [a5]).bind fun l6=>
    bif a4.2 !=0 then
     some (.done (.done (aI.mk (0,0) (Field.mk []) (aW.mk 0 []) (aG.mk (aS.mk [] [] []) [] []) [],a4.2)))
    else
     some (.next (s.1,s.2.1,aA .i64 (s.2.2.1+1),s.2.2.2.1,s.2.2.2.2.1,s.2.2.2.2.2.1,s.2.2.2.2.2.2.1,s.2.2.2.2.2.2.2.1,s.2.2.2.2.2.2.2.2.1,s.2.2.2.2.2.2.2.2.2.1,s.2.2.2.2.2.2.2.2.2.2.1,s.2.2.2.2.2.2.2.2.2.2.2.1,s.2.2.2.2.2.2.2.2.2.2.2.2.1,s.2.2.2.2.2.2.2.2.2.2.2.2.2.1,s.2.2.2.2.2.2.2.2.2.2.2.2.2.2.1,s.2.2.2.2.2.2.2.2.2.2.2.2.2.2.2.1,s.2.2.2.2.2.2.2.2.2.2.2.2.2.2.2.2.1,s.2.2.2.2.2.2.2.2.2.2.2.2.2.2.2.2.2.1,s.2.2.2.2.2.2.2.2.2.2.2.2.2.2.2.2.2.2.1,s.2.2.2.2.2.2.2.2.2.2.2.2.2.2.2.2.2.2.2.1,s.2.2.2.2.2.2.2.2.2.2.2.2.2.2.2.2.2.2.2.2.1,s.2.2.2.2.2.2.2.2.2.2.2.2.2.2.2.2.2.2.2.2.2.1,a4.1.slots.uses,a4.1.slots.used,a4.1.slots.free,a4.1.heap,a4.1.where_,s.2.2.2.2.2.2.2.2.2.2.2.2.2.2.2.2.2.2.2.2.2.2.2.2.2.2.2.1,l6))
   else
    bif a1.2.1 then
     (kJ (aG.mk (aS.mk s.2.2.2.2.2.2.2.2.2.2.2.2.2.2.2.2.2.2.2.2.2.2.1 s.2.2.2.2.2.2.2.2.2.2.2.2.2.2.2.2.2.2.2.2.2.2.2.1 s.2.2.2.2.2.2.2.2.2.2.2.2.2.2.2.2.2.2.2.2.2.2.2.2.1) s.2.2.2.2.2.2.2.2.2.2.2.2.2.2.2.2.2.2.2.2.2.2.2.2.2.1 s.2.2.2.2.2.2.2.2.2.2.2.2.2.2.2.2.2.2.2.2.2.2.2.2.2.2.1) a1.1 a0.1).bind fun a7=>
     (bT s.2.2.2.2.2.2.2.2.2.2.2.2.2.2.2.2.2.2.2.2.2.2.2.2.2.2.2.2 [(a0.1,a7.2.1)]).bind fun l8=>
     bif a7.2.2 !=0 then
      some (.done (.done (aI.mk (0,0) (Field.mk []) (aW.mk 0 []) (aG.mk (aS.mk [] [] []) [] []) [],a7.2.2)))
     else
      some (.next (s.1,s.2.1,aA .i64 (s.2.2.1+1),s.2.2.2.1,s.2.2.2.2.1,s.2.2.2.2.2.1,s.2.2.2.2.2.2.1,s.2.2.2.2.2.2.2.1,s.2.2.2.2.2.2.2.2.1,s.2.2.2.2.2.2.2.2.2.1,s.2.2.2.2.2.2.2.2.2.2.1,s.2.2.2.2.2.2.2.2.2.2.2.1,s.2.2.2.2.2.2.2.2.2.2.2.2.1,s.2.2.2.2.2.2.2.2.2.2.2.2.2.1,s.2.2.2.2.2.2.2.2.2.2.2.2.2.2.1,s.2.2.2.2.2.2.2.2.2.2.2.2.2.2.2.1,s.2.2.2.2.2.2.2.2.2.2.2.2.2.2.2.2.1,s.2.2.2.2.2.2.2.2.2.2.2.2.2.2.2.2.2.1,s.2.2.2.2.2.2.2.2.2.2.2.2.2.2.2.2.2.2.1,s.2.2.2.2.2.2.2.2.2.2.2.2.2.2.2.2.2.2.2.1,s.2.2.2.2.2.2.2.2.2.2.2.2.2.2.2.2.2.2.2.2.1,s.2.2.2.2.2.2.2.2.2.2.2.2.2.2.2.2.2.2.2.2.2.1,a7.1.slots.uses,a7.1.slots.used,a7.1.slots.free,a7.1.heap,a7.1.where_,s.2.2.2.2.2.2.2.2.2.2.2.2.2.2.2.2.2.2.2.2.2.2.2.2.2.2.2.1,l8))
    else
     bif a2.2 then
      (aN s.2.2.2.2.2.2.2.2.2.2.2.2.2.1 a2.1).bind fun a9=>
      (lG (aG.mk (aS.mk s.2.2.2.2.2.2.2.2.2.2.2.2.2.2.2.2.2.2.2.2.2.2.1 s.2.2.2.2.2.2.2.2.2.2.2.2.2.2.2.2.2.2.2.2.2.2.2.1 s.2.2.2.2.2.2.2.2.2.2.2.2.2.2.2.2.2.2.2.2.2.2.2.2.1) s.2.2.2.2.2.2.2.2.2.2.2.2.2.2.2.2.2.2.2.2.2.2.2.2.2.1 s.2.2.2.2.2.2.2.2.2.2.2.2.2.2.2.2.2.2.2.2.2.2.2.2.2.2.1) a9.2).bind fun a10=>
      bif a10.2.2 !=0 then
       some (.done (.done (aI.mk (0,0) (Field.mk []) (aW.mk 0 []) (aG.mk (aS.mk [] [] []) [] []) [],a10.2.2)))
      else
       some (.next (s.1,s.2.1,aA .i64 (s.2.2.1+1),s.2.2.2.1,s.2.2.2.2.1,s.2.2.2.2.2.1,s.2.2.2.2.2.2.1,s.2.2.2.2.2.2.2.1,s.2.2.2.2.2.2.2.2.1,s.2.2.2.2.2.2.2.2.2.1,s.2.2.2.2.2.2.2.2.2.2.1,s.2.2.2.2.2.2.2.2.2.2.2.1,s.2.2.2.2.2.2.2.2.2.2.2.2.1,s.2.2.2.2.2.2.2.2.2.2.2.2.2.1,s.2.2.2.2.2.2.2.2.2.2.2.2.2.2.1,s.2.2.2.2.2.2.2.2.2.2.2.2.2.2.2.1,s.2.2.2.2.2.2.2.2.2.2.2.2.2.2.2.2.1,s.2.2.2.2.2.2.2.2.2.2.2.2.2.2.2.2.2.1,s.2.2.2.2.2.2.2.2.2.2.2.2.2.2.2.2.2.2.1,s.2.2.2.2.2.2.2.2.2.2.2.2.2.2.2.2.2.2.2.1,s.2.2.2.2.2.2.2.2.2.2.2.2.2.2.2.2.2.2.2.2.1,s.2.2.2.2.2.2.2.2.2.2.2.2.2.2.2.2.2.2.2.2.2.1,a10.1.slots.uses,a10.1.slots.used,a10.1.slots.free,a10.1.heap,a10.1.where_,s.2.2.2.2.2.2.2.2.2.2.2.2.2.2.2.2.2.2.2.2.2.2.2.2.2.2.2))
     else
      bif a1.2.2 !=0 then
       some (.done (.done (aI.mk (0,0) (Field.mk []) (aW.mk 0 []) (aG.mk (aS.mk [] [] []) [] []) [],a1.2.2)))
      else
       some (.next (s.1,s.2.1,aA .i64 (s.2.2.1+1),s.2.2.2))
  else
   bif a1.2.1 then
    (kJ (aG.mk (aS.mk s.2.2.2.2.2.2.2.2.2.2.2.2.2.2.2.2.2.2.2.2.2.2.1 s.2.2.2.2.2.2.2.2.2.2.2.2.2.2.2.2.2.2.2.2.2.2.2.1 s.2.2.2.2.2.2.2.2.2.2.2.2.2.2.2.2.2.2.2.2.2.2.2.2.1) s.2.2.2.2.2.2.2.2.2.2.2.2.2.2.2.2.2.2.2.2.2.2.2.2.2.1 s.2.2.2.2.2.2.2.2.2.2.2.2.2.2.2.2.2.2.2.2.2.2.2.2.2.2.1) a1.1 a0.1).bind fun a11=>
    (bT s.2.2.2.2.2.2.2.2.2.2.2.2.2.2.2.2.2.2.2.2.2.2.2.2.2.2.2.2 [(a0.1,a11.2.1)]).bind fun l12=>
    bif a11.2.2 !=0 then
     some (.done (.done (aI.mk (0,0) (Field.mk []) (aW.mk 0 []) (aG.mk (aS.mk [] [] []) [] []) [],a11.2.2)))
    else
     some (.next (s.1,s.2.1,aA .i64 (s.2.2.1+1),s.2.2.2.1,s.2.2.2.2.1,s.2.2.2.2.2.1,s.2.2.2.2.2.2.1,s.2.2.2.2.2.2.2.1,s.2.2.2.2.2.2.2.2.1,s.2.2.2.2.2.2.2.2.2.1,s.2.2.2.2.2.2.2.2.2.2.1,s.2.2.2.2.2.2.2.2.2.2.2.1,s.2.2.2.2.2.2.2.2.2.2.2.2.1,s.2.2.2.2.2.2.2.2.2.2.2.2.2.1,s.2.2.2.2.2.2.2.2.2.2.2.2.2.2.1,s.2.2.2.2.2.2.2.2.2.2.2.2.2.2.2.1,s.2.2.2.2.2.2.2.2.2.2.2.2.2.2.2.2.1,s.2.2.2.2.2.2.2.2.2.2.2.2.2.2.2.2.2.1,s.2.2.2.2.2.2.2.2.2.2.2.2.2.2.2.2.2.2.1,s.2.2.2.2.2.2.2.2.2.2.2.2.2.2.2.2.2.2.2.1,s.2.2.2.2.2.2.2.2.2.2.2.2.2.2.2.2.2.2.2.2.1,s.2.2.2.2.2.2.2.2.2.2.2.2.2.2.2.2.2.2.2.2.2.1,a11.1.slots.uses,a11.1.slots.used,a11.1.slots.free,a11.1.heap,a11.1.where_,s.2.2.2.2.2.2.2.2.2.2.2.2.2.2.2.2.2.2.2.2.2.2.2.2.2.2.2.1,l12))
   else
    bif a2.2 then
     (aN s.2.2.2.2.2.2.2.2.2.2.2.2.2.1 a2.1).bind fun a13=>
     (lG (aG.mk (aS.mk s.2.2.2.2.2.2.2.2.2.2.2.2.2.2.2.2.2.2.2.2.2.2.1 s.2.2.2.2.2.2.2.2.2.2.2.2.2.2.2.2.2.2.2.2.2.2.2.1 s.2.2.2.2.2.2.2.2.2.2.2.2.2.2.2.2.2.2.2.2.2.2.2.2.1) s.2.2.2.2.2.2.2.2.2.2.2.2.2.2.2.2.2.2.2.2.2.2.2.2.2.1 s.2.2.2.2.2.2.2.2.2.2.2.2.2.2.2.2.2.2.2.2.2.2.2.2.2.2.1) a13.2).bind fun a14=>
     bif a14.2.2 !=0 then
      some (.done (.done (aI.mk (0,0) (Field.mk []) (aW.mk 0 []) (aG.mk (aS.mk [] [] []) [] []) [],a14.2.2)))
     else
      some (.next (s.1,s.2.1,aA .i64 (s.2.2.1+1),s.2.2.2.1,s.2.2.2.2.1,s.2.2.2.2.2.1,s.2.2.2.2.2.2.1,s.2.2.2.2.2.2.2.1,s.2.2.2.2.2.2.2.2.1,s.2.2.2.2.2.2.2.2.2.1,s.2.2.2.2.2.2.2.2.2.2.1,s.2.2.2.2.2.2.2.2.2.2.2.1,s.2.2.2.2.2.2.2.2.2.2.2.2.1,s.2.2.2.2.2.2.2.2.2.2.2.2.2.1,s.2.2.2.2.2.2.2.2.2.2.2.2.2.2.1,s.2.2.2.2.2.2.2.2.2.2.2.2.2.2.2.1,s.2.2.2.2.2.2.2.2.2.2.2.2.2.2.2.2.1,s.2.2.2.2.2.2.2.2.2.2.2.2.2.2.2.2.2.1,s.2.2.2.2.2.2.2.2.2.2.2.2.2.2.2.2.2.2.1,s.2.2.2.2.2.2.2.2.2.2.2.2.2.2.2.2.2.2.2.1,s.2.2.2.2.2.2.2.2.2.2.2.2.2.2.2.2.2.2.2.2.1,s.2.2.2.2.2.2.2.2.2.2.2.2.2.2.2.2.2.2.2.2.2.1,a14.1.slots.uses,a14.1.slots.used,a14.1.slots.free,a14.1.heap,a14.1.where_,s.2.2.2.2.2.2.2.2.2.2.2.2.2.2.2.2.2.2.2.2.2.2.2.2.2.2.2))
    else
     bif a1.2.2 !=0 then
      some (.done (.done (aI.mk (0,0) (Field.mk []) (aW.mk 0 []) (aG.mk (aS.mk [] [] []) [] []) [],a1.2.2)))
     else
      some (.next (s.1,s.2.1,aA .i64 (s.2.2.1+1),s.2.2.2))
 else
  some (.done (.done (aI.mk (s.2.2.2.2.2.2.2.2.2.2.2.2.2.2.2.2.2.2.1,s.2.2.2.2.2.2.2.2.2.2.2.2.2.2.2.2.2.2.2.1) (Field.mk s.2.2.2.2.2.2.2.2.2.2.2.2.2.2.2.2.2.2.2.2.2.2.2.2.2.2.2.1) (aW.mk s.2.2.2.2.2.2.2.2.2.2.2.2.2.2.2.2.2.2.2.2.1 s.2.2.2.2.2.2.2.2.2.2.2.2.2.2.2.2.2.2.2.2.2.1) (aG.mk (aS.mk s.2.2.2.2.2.2.2.2.2.2.2.2.2.2.2.2.2.2.2.2.2.2.1 s.2.2.2.2.2.2.2.2.2.2.2.2.2.2.2.2.2.2.2.2.2.2.2.1 s.2.2.2.2.2.2.2.2.2.2.2.2.2.2.2.2.2.2.2.2.2.2.2.2.1) s.2.2.2.2.2.2.2.2.2.2.2.2.2.2.2.2.2.2.2.2.2.2.2.2.2.1 s.2.2.2.2.2.2.2.2.2.2.2.2.2.2.2.2.2.2.2.2.2.2.2.2.2.2.1) s.2.2.2.2.2.2.2.2.2.2.2.2.2.2.2.2.2.2.2.2.2.2.2.2.2.2.2.2,0)))
def jW (s:((List (Int×Int×Int))×Int×Int×Int×Int×(List (Int×Int×Int))×Int×(List (Int×Int×Int))×(List Int)×(List Bool)×(List Int)×(List (Int×Int×Int×Int×Int))×(List Int)×(List (Int×Int×Int))×(List (Int×Int×Int))×Int×Int×Int)):Option (bQ ((List (Int×Int×Int))×Int×Int×Int×Int×(List (Int×Int×Int))×Int×(List (Int×Int×Int))×(List Int)×(List Bool)×(List Int)×(List (Int×Int×Int×Int×Int))×(List Int)×(List (Int×Int×Int))×(List (Int×Int×Int))×Int×Int×Int) (aI×Int)):=
 bif decide (s.2.2.1<s.2.1) then
  (aN s.1 s.2.2.1).bind fun a0=>
  (iW (Field.mk s.2.2.2.2.2.2.2.2.2.2.2.2.2.2.1) a0.2.1).bind fun a1=>
  bif decide (a1.1<0) then
   some (.done (aI.mk (0,0) (Field.mk []) (aW.mk 0 []) (aG.mk (aS.mk [] [] []) [] []) [],6))
  else
   (iW (Field.mk s.2.2.2.2.2.2.2.2.2.2.2.2.2.2.1) a0.2.2).bind fun a2=>
   bif decide (a2.1<0) then
    some (.done (aI.mk (0,0) (Field.mk []) (aW.mk 0 []) (aG.mk (aS.mk [] [] []) [] []) [],6))
   else
    some (.next (s.1,s.2.1,aA .i64 (s.2.2.1+1),s.2.2.2))
 else
  (jC (aI.mk (s.2.2.2.1,s.2.2.2.2.1) (Field.mk s.2.2.2.2.2.1) (aW.mk s.2.2.2.2.2.2.1 s.2.2.2.2.2.2.2.1) (aG.mk (aS.mk s.2.2.2.2.2.2.2.2.1 s.2.2.2.2.2.2.2.2.2.1 s.2.2.2.2.2.2.2.2.2.2.1) s.2.2.2.2.2.2.2.2.2.2.2.1 s.2.2.2.2.2.2.2.2.2.2.2.2.1) s.2.2.2.2.2.2.2.2.2.2.2.2.2.1)).bind fun r3=>
  (cK s.2.2.2.2.2.2.2.2.2.2.2.2.2.2.1).bind fun l4=>
  aJ cW (s.2.2.2.2.2.2.2.1,Int.ofNat s.2.2.2.2.2.2.2.1.length,0,s.2.2.2.1,s.2.2.2.2.1,s.2.2.2.2.2.1,s.2.2.2.2.2.2.1,s.2.2.2.2.2.2.2.1,s.2.2.2.2.2.2.2.2.1,s.2.2.2.2.2.2.2.2.2.1,s.2.2.2.2.2.2.2.2.2.2.1,s.2.2.2.2.2.2.2.2.2.2.2.1,s.2.2.2.2.2.2.2.2.2.2.2.2.1,s.2.2.2.2.2.2.2.2.2.2.2.2.2.1,s.2.2.2.2.2.2.2.2.2.2.2.2.2.2.1,s.2.2.2.2.2.2.2.2.2.2.2.2.2.2.2.1,s.2.2.2.2.2.2.2.2.2.2.2.2.2.2.2.2.1,s.2.2.2.2.2.2.2.2.2.2.2.2.2.2.2.2.2,r3.now.1,r3.now.2,r3.certs.next_,r3.certs.list,r3.agenda.slots.uses,r3.agenda.slots.used,r3.agenda.slots.free,r3.agenda.heap,r3.agenda.where_,l4,[])
def oD (p0:aI) (p1:Field):Option (aI×Int):=
 (hG p0).bind fun n0=>
 bif n0 !=0 then
  some (aI.mk (0,0) (Field.mk []) (aW.mk 0 []) (aG.mk (aS.mk [] [] []) [] []) [],n0)
 else
  (iT p1).bind fun n1=>
  bif n1 !=0 then
   some (aI.mk (0,0) (Field.mk []) (aW.mk 0 []) (aG.mk (aS.mk [] [] []) [] []) [],n1)
  else
   aJ jW (p0.certs.list,Int.ofNat p0.certs.list.length,0,p0.now.1,p0.now.2,p0.field.points,p0.certs.next_,p0.certs.list,p0.agenda.slots.uses,p0.agenda.slots.used,p0.agenda.slots.free,p0.agenda.heap,p0.agenda.where_,p0.due,p1.points,0,0,0)
def aNf:bN:=⟨aC.cons (aK.agg bL) (aC.one (aK.agg eD)),aK.tup (aC.cons (aK.agg bL) (aC.one (aK.int .i64))),fun a=>oD a.1 a.2,.frz,false⟩
theorem aFP:aH aZ 108 aNf:=Oc aDl rfl aF [(59,c59),(104,aFf),(157,aFq),(83,c83),(83,ZZ),(94,bN.clone fV),(119,aFx),(158,aLg),(159,aNb),(160,aLm),(161,aLj)] ⟨JY,NJ,NN,NR,HR,NQ,NP,U7,aFL,VC,VA,trivial⟩ fun a=>by kernel_rfl
def CU (p0:Int×Int×Int) (p1:Int×Int):Option Bool:=
 some ((p0.2.1==p1.1)&&(p0.2.2==p1.2))
def aNg:bN:=⟨aC.cons (aK.agg (cE.row fV)) (aC.one (aK.ref (cE.row hO))),aK.bool,fun a=>CU a.1 a.2,.pure,false⟩
theorem aFQ:aH aZ 110 aNg:=Oc aDm rfl aF [] trivial fun a=>by kernel_rfl
def lS (s:((List (Int×Int×Int))×Int×Int×Int×Int)):Option (bQ ((List (Int×Int×Int))×Int×Int×Int×Int) Int):=
 bif decide (s.2.2.2.2<s.2.2.2.1) then
  (aN s.1 s.2.2.2.2).bind fun a0=>
  (CU a0 (s.2.1,s.2.2.1)).bind fun b1=>
  bif b1 then
   some (.done s.2.2.2.2)
  else
   some (.next (s.1,s.2.1,s.2.2.1,s.2.2.2.1,aA .i64 (s.2.2.2.2+1)))
 else
  some (.done (-1))
def gU (p0:List (Int×Int×Int)) (p1:(Int×Int)):Option Int:=
 aJ lS (p0,p1.1,p1.2,Int.ofNat p0.length,0)
def QG:bN:=⟨aC.cons (aK.sl fV) (aC.one (aK.clo 110 (aC.one (aK.ref (cE.row hO))))),aK.int .i64,fun a=>gU a.1 a.2,.pure,false⟩
theorem QH:aH aZ 162 QG:=Oc UW rfl aF [(110,aNg)] ⟨aFQ,trivial⟩ fun a=>by kernel_rfl
def dL (p0:List (Int×Int×Int)) (p1:(Int×Int)):Option Bool:=
 (gU p0 p1).bind fun n0=>
 some (decide (0<=n0))
def QI:bN:=⟨aC.cons (aK.sl fV) (aC.one (aK.clo 110 (aC.one (aK.ref (cE.row hO))))),aK.bool,fun a=>dL a.1 a.2,.pure,false⟩
theorem QJ:aH aZ 109 QI:=Oc UU rfl aF [(162,QG)] ⟨QH,trivial⟩ fun a=>by kernel_rfl
def cV (p0:Int):Option (aI×Int×Int):=
 some (aI.mk (0,0) (Field.mk []) (aW.mk 0 []) (aG.mk (aS.mk [] [] []) [] []) [],0,p0)
def aNh:bN:=⟨aC.one (aK.int .i64),aK.tup (aC.cons (aK.agg bL) (aC.cons (aK.int .i64) (aC.one (aK.int .i64)))),fun a=>cV a,.frz,false⟩
theorem aFR:aH aZ 163 aNh:=Oc aD5 rfl aF [] trivial fun a=>by kernel_rfl
def DQ (p0:Int×Int×Int) (p1:Int×Int):Option Bool:=
 some ((p0.2.1==p1.1)&&(p0.2.2==p1.2))
def aNi:bN:=⟨aC.cons (aK.agg (cE.row fV)) (aC.one (aK.ref (cE.row hO))),aK.bool,fun a=>DQ a.1 a.2,.pure,false⟩
theorem aFS:aH aZ 208 aNi:=Oc aEH rfl aF [] trivial fun a=>by kernel_rfl
def cU (s:((List (Int×Int×Int))×Int×Int×Int×Int)):Option (bQ ((List (Int×Int×Int))×Int×Int×Int×Int) Int):=
 bif decide (s.2.2.2.2<s.2.2.2.1) then
  (aN s.1 s.2.2.2.2).bind fun a0=>
  (DQ a0 (s.2.1,s.2.2.1)).bind fun b1=>
  bif b1 then
   some (.done s.2.2.2.2)
  else
   some (.next (s.1,s.2.1,s.2.2.1,s.2.2.2.1,aA .i64 (s.2.2.2.2+1)))
 else
  some (.done (-1))
def eW (p0:List (Int×Int×Int)) (p1:(Int×Int)):Option Int:=
 aJ cU (p0,p1.1,p1.2,Int.ofNat p0.length,0)
def QK:bN:=⟨aC.cons (aK.sl fV) (aC.one (aK.clo 208 (aC.one (aK.ref (cE.row hO))))),aK.int .i64,fun a=>eW a.1 a.2,.pure,false⟩
theorem QL:aH aZ 162 QK:=Oc UW rfl aF [(208,aNi)] ⟨aFS,trivial⟩ fun a=>by kernel_rfl
def bY (p0:List (Int×Int×Int)) (p1:(Int×Int)):Option Bool:=
 (eW p0 p1).bind fun n0=>
 some (decide (0<=n0))
def QM:bN:=⟨aC.cons (aK.sl fV) (aC.one (aK.clo 208 (aC.one (aK.ref (cE.row hO))))),aK.bool,fun a=>bY a.1 a.2,.pure,false⟩
theorem QN:aH aZ 109 QM:=Oc UU rfl aF [(162,QK)] ⟨QL,trivial⟩ fun a=>by kernel_rfl
def xT (p0:aW) (p1:Int×Int):Option (aW×Int×Int):=
 (qD p0).bind fun n0=>
 bif n0 !=0 then
  some (aW.mk 0 [],0,n0)
 else
  (uG p1).bind fun b1=>
  bif !b1 then
   some (aW.mk 0 [],0,8)
  else
   (bY p0.list p1).bind fun b2=>
   bif b2 then
    some (aW.mk 0 [],0,14)
   else
    bif (Int.ofNat p0.list.length)==200 then
     some (aW.mk 0 [],0,18)
    else
     bif p0.next_==1000000 then
      some (aW.mk 0 [],0,18)
     else
      (cK p0.list).bind fun l3=>
      (bT l3 [(p0.next_,p1)]).bind fun l4=>
      some (aW.mk (aA .i64 (p0.next_+1)) l4,p0.next_,0)
def aNj:bN:=⟨aC.cons (aK.agg fM) (aC.one (aK.agg (cE.row hO))),aK.tup (aC.cons (aK.agg fM) (aC.cons (aK.int .i64) (aC.one (aK.int .i64)))),fun a=>xT a.1 a.2,.frz,false⟩
theorem aFT:aH aZ 164 aNj:=Oc aD6 rfl aF [(117,aFg),(166,aK3),(109,QM),(138,bN.clone fV)] ⟨NK,U3,QN,E1,trivial⟩ fun a=>by kernel_rfl
def hH (p0:aI) (p1:Int×Int):Option (aI×Int×Int):=
 (hG p0).bind fun n0=>
 bif n0 !=0 then
  (cV n0).bind fun a1=>
  some a1
 else
  (xT p0.certs p1).bind fun a2=>
  bif a2.2.2==8 then
   (cV a2.2.2).bind fun a3=>
   some a3
  else
   (iW p0.field p1.1).bind fun a4=>
   bif decide (a4.1<0) then
    (cV 6).bind fun a5=>
    some a5
   else
    (iW p0.field p1.2).bind fun a6=>
    bif decide (a6.1<0) then
     (cV 6).bind fun a7=>
     some a7
    else
     bif a2.2.2 !=0 then
      (cV a2.2.2).bind fun a8=>
      some a8
     else
      (jC p0).bind fun r9=>
      (qH p0.field p1 p0.now).bind fun a10=>
      bif a10.2.2 !=0 then
       (cV a10.2.2).bind fun a11=>
       some a11
      else
       bif a10.2.1 then
        (kJ p0.agenda a10.1 a2.2.1).bind fun a12=>
        bif a12.2.2 !=0 then
         (cV a12.2.2).bind fun a13=>
         some a13
        else
         (bT r9.due [(a2.2.1,a12.2.1)]).bind fun l14=>
         some (aI.mk r9.now r9.field a2.1 a12.1 l14,a2.2.1,0)
       else
        some (aI.mk r9.now r9.field a2.1 r9.agenda r9.due,a2.2.1,0)
def aNk:bN:=⟨aC.cons (aK.agg bL) (aC.one (aK.agg (cE.row hO))),aK.tup (aC.cons (aK.agg bL) (aC.cons (aK.int .i64) (aC.one (aK.int .i64)))),fun a=>hH a.1 a.2,.frz,false⟩
theorem aFU:aH aZ 111 aNk:=Oc aDn rfl aF [(59,c59),(163,aNh),(164,aNj),(157,aFq),(83,c83),(83,ZZ),(119,aFx),(160,aLm)] ⟨JY,aFR,aFT,NN,NR,HR,NP,VC,trivial⟩ fun a=>by kernel_rfl
def eJ (s:((List (Int×Int))×Int×Int×Int×Int×(List (Int×Int×Int))×Int×(List (Int×Int×Int))×(List Int)×(List Bool)×(List Int)×(List (Int×Int×Int×Int×Int))×(List Int)×(List (Int×Int×Int))×Int×Int×Int)):Option (bQ ((List (Int×Int))×Int×Int×Int×Int×(List (Int×Int×Int))×Int×(List (Int×Int×Int))×(List Int)×(List Bool)×(List Int)×(List (Int×Int×Int×Int×Int))×(List Int)×(List (Int×Int×Int))×Int×Int×Int) (bQ ((List (Int×Int))×(List (Int×Int×Int))×Int×Int×Int×Int×(List (Int×Int×Int))×Int×(List (Int×Int×Int))×(List Int)×(List Bool)×(List Int)×(List (Int×Int×Int×Int×Int))×(List Int)×(List (Int×Int×Int))×(List (Int×Int×Int))×Int×Int×Int) (aI×Int))):=
 bif decide (s.2.2.1<s.2.1) then
  (aN s.1 s.2.2.1).bind fun a0=>
  (dL s.2.2.2.2.2.2.2.1 a0).bind fun b1=>
  bif b1 then
   some (.next (s.1,s.2.1,aA .i64 (s.2.2.1+1),s.2.2.2))
  else
   (hH (aI.mk (s.2.2.2.1,s.2.2.2.2.1) (Field.mk s.2.2.2.2.2.1) (aW.mk s.2.2.2.2.2.2.1 s.2.2.2.2.2.2.2.1) (aG.mk (aS.mk s.2.2.2.2.2.2.2.2.1 s.2.2.2.2.2.2.2.2.2.1 s.2.2.2.2.2.2.2.2.2.2.1) s.2.2.2.2.2.2.2.2.2.2.2.1 s.2.2.2.2.2.2.2.2.2.2.2.2.1) s.2.2.2.2.2.2.2.2.2.2.2.2.2.1) a0).bind fun a2=>
   bif a2.2.2 !=0 then
    some (.done (.done (aI.mk (0,0) (Field.mk []) (aW.mk 0 []) (aG.mk (aS.mk [] [] []) [] []) [],a2.2.2)))
   else
    some (.next (s.1,s.2.1,aA .i64 (s.2.2.1+1),a2.1.now.1,a2.1.now.2,a2.1.field.points,a2.1.certs.next_,a2.1.certs.list,a2.1.agenda.slots.uses,a2.1.agenda.slots.used,a2.1.agenda.slots.free,a2.1.agenda.heap,a2.1.agenda.where_,a2.1.due,s.2.2.2.2.2.2.2.2.2.2.2.2.2.2))
 else
  some (.done (.done (aI.mk (s.2.2.2.1,s.2.2.2.2.1) (Field.mk s.2.2.2.2.2.1) (aW.mk s.2.2.2.2.2.2.1 s.2.2.2.2.2.2.2.1) (aG.mk (aS.mk s.2.2.2.2.2.2.2.2.1 s.2.2.2.2.2.2.2.2.2.1 s.2.2.2.2.2.2.2.2.2.2.1) s.2.2.2.2.2.2.2.2.2.2.2.1 s.2.2.2.2.2.2.2.2.2.2.2.2.1) s.2.2.2.2.2.2.2.2.2.2.2.2.2.1,0)))
def dR (s:((List (Int×Int))×(List (Int×Int×Int))×Int×Int×Int×Int×(List (Int×Int×Int))×Int×(List (Int×Int×Int))×(List Int)×(List Bool)×(List Int)×(List (Int×Int×Int×Int×Int))×(List Int)×(List (Int×Int×Int))×(List (Int×Int×Int))×Int×Int×Int)):Option (bQ ((List (Int×Int))×(List (Int×Int×Int))×Int×Int×Int×Int×(List (Int×Int×Int))×Int×(List (Int×Int×Int))×(List Int)×(List Bool)×(List Int)×(List (Int×Int×Int×Int×Int))×(List Int)×(List (Int×Int×Int))×(List (Int×Int×Int))×Int×Int×Int) (aI×Int)):=
 bif decide (s.2.2.2.1<s.2.2.1) then
  (aN s.2.1 s.2.2.2.1).bind fun a0=>
  (gD s.1 a0.2).bind fun b1=>
  bif !b1 then
   (tK (aI.mk (s.2.2.2.2.1,s.2.2.2.2.2.1) (Field.mk s.2.2.2.2.2.2.1) (aW.mk s.2.2.2.2.2.2.2.1 s.2.2.2.2.2.2.2.2.1) (aG.mk (aS.mk s.2.2.2.2.2.2.2.2.2.1 s.2.2.2.2.2.2.2.2.2.2.1 s.2.2.2.2.2.2.2.2.2.2.2.1) s.2.2.2.2.2.2.2.2.2.2.2.2.1 s.2.2.2.2.2.2.2.2.2.2.2.2.2.1) s.2.2.2.2.2.2.2.2.2.2.2.2.2.2.1) a0.1).bind fun a2=>
   some (.next (s.1,s.2.1,s.2.2.1,aA .i64 (s.2.2.2.1+1),a2.1.now.1,a2.1.now.2,a2.1.field.points,a2.1.certs.next_,a2.1.certs.list,a2.1.agenda.slots.uses,a2.1.agenda.slots.used,a2.1.agenda.slots.free,a2.1.agenda.heap,a2.1.agenda.where_,a2.1.due,s.2.2.2.2.2.2.2.2.2.2.2.2.2.2.2))
  else
   some (.next (s.1,s.2.1,s.2.2.1,aA .i64 (s.2.2.2.1+1),s.2.2.2.2))
 else
  (kT s.2.2.2.2.2.2.1 s.2.2.2.2.2.2.2.2.2.2.2.2.2.2.2.1).bind fun b3=>
  bif !b3 then
   (oD (aI.mk (s.2.2.2.2.1,s.2.2.2.2.2.1) (Field.mk s.2.2.2.2.2.2.1) (aW.mk s.2.2.2.2.2.2.2.1 s.2.2.2.2.2.2.2.2.1) (aG.mk (aS.mk s.2.2.2.2.2.2.2.2.2.1 s.2.2.2.2.2.2.2.2.2.2.1 s.2.2.2.2.2.2.2.2.2.2.2.1) s.2.2.2.2.2.2.2.2.2.2.2.2.1 s.2.2.2.2.2.2.2.2.2.2.2.2.2.1) s.2.2.2.2.2.2.2.2.2.2.2.2.2.2.1) (Field.mk s.2.2.2.2.2.2.2.2.2.2.2.2.2.2.2.1)).bind fun a4=>
   bif a4.2 !=0 then
    some (.done (aI.mk (0,0) (Field.mk []) (aW.mk 0 []) (aG.mk (aS.mk [] [] []) [] []) [],a4.2))
   else
    aJ eJ (s.1,Int.ofNat s.1.length,0,a4.1.now.1,a4.1.now.2,a4.1.field.points,a4.1.certs.next_,a4.1.certs.list,a4.1.agenda.slots.uses,a4.1.agenda.slots.used,a4.1.agenda.slots.free,a4.1.agenda.heap,a4.1.agenda.where_,a4.1.due,s.2.2.2.2.2.2.2.2.2.2.2.2.2.2.2.2)
  else
   aJ eJ (s.1,Int.ofNat s.1.length,0,s.2.2.2.2.1,s.2.2.2.2.2.1,s.2.2.2.2.2.2.1,s.2.2.2.2.2.2.2.1,s.2.2.2.2.2.2.2.2.1,s.2.2.2.2.2.2.2.2.2.1,s.2.2.2.2.2.2.2.2.2.2.1,s.2.2.2.2.2.2.2.2.2.2.2.1,s.2.2.2.2.2.2.2.2.2.2.2.2.1,s.2.2.2.2.2.2.2.2.2.2.2.2.2.1,s.2.2.2.2.2.2.2.2.2.2.2.2.2.2.1,s.2.2.2.2.2.2.2.2.2.2.2.2.2.2.2.2)
def sG (p0:aI) (p1:Field) (p2:List (Int×Int)):Option (aI×Int):=
 aJ dR (p2,p0.certs.list,Int.ofNat p0.certs.list.length,0,p0.now.1,p0.now.2,p0.field.points,p0.certs.next_,p0.certs.list,p0.agenda.slots.uses,p0.agenda.slots.used,p0.agenda.slots.free,p0.agenda.heap,p0.agenda.where_,p0.due,p1.points,0,0,0)
def c52:bN:=⟨aC.cons (aK.agg bL) (aC.cons (aK.agg eD) (aC.one (aK.sl hO))),aK.tup (aC.cons (aK.agg bL) (aC.one (aK.int .i64))),fun a=>sG a.1 a.2.1 a.2.2,.frz,false⟩
theorem aLn:aH aZ 52 c52:=Oc aKs rfl aF [(61,c61),(106,aM9),(107,aNa),(108,aNf),(109,QI),(111,aNk)] ⟨ZW,aFJ,aFK,aFP,QJ,aFU,trivial⟩ fun a=>by kernel_rfl
def oE (p0:dC) (p1:Int×Int):Option (dC×(Int×Int)×Int):=
 (qI p0.clock p1).bind fun a0=>
 bif a0.2.2.2 !=0 then
  some (dC.mk (aI.mk (0,0) (Field.mk []) (aW.mk 0 []) (aG.mk (aS.mk [] [] []) [] []) []) [],(0,0),a0.2.2.2)
 else
  (cK p0.heap).bind fun l1=>
  (fR l1 a0.2.2.1.1).bind fun n2=>
  (fR l1 a0.2.2.1.2).bind fun n3=>
  (aN l1 n3).bind fun n4=>
  (aN l1 n2).bind fun n5=>
  (aN l1 n2).bind fun _=>
  (aN (bV l1 n2 n4) n3).bind fun _=>
  (oB (bV (bV l1 n2 n4) n3 n5)).bind fun l8=>
  (sG a0.1 a0.1.field l8).bind fun a9=>
  some (dC.mk a9.1 (bV (bV l1 n2 n4) n3 n5),a0.2.2.1,a9.2)
def c35:bN:=⟨aC.cons (aK.agg fW) (aC.one (aK.agg (cE.row hO))),aK.tup (aC.cons (aK.agg fW) (aC.cons (aK.agg (cE.row hO)) (aC.one (aK.int .i64)))),fun a=>oE a.1 a.2,.frz,false⟩
theorem aLo:aH aZ 35 c35:=Oc aKj rfl aF [(81,c81),(37,bN.clone ki),(43,c43),(53,c53),(52,c52)] ⟨aLl,tJ,ZU,ZV,aLn,trivial⟩ fun a=>by kernel_rfl
def zF (p0:aI) (p1:Int×Int):Option (aI×Int):=
 (sE p0 p1).bind fun a0=>
 bif a0.2==0 then
  bif a0.1 then
   some (aI.mk (0,0) (Field.mk []) (aW.mk 0 []) (aG.mk (aS.mk [] [] []) [] []) [],36)
  else
   bif a0.2 !=0 then
    some (aI.mk (0,0) (Field.mk []) (aW.mk 0 []) (aG.mk (aS.mk [] [] []) [] []) [],a0.2)
   else
    (jC p0).bind fun r1=>
    some (aI.mk p1 r1.field r1.certs r1.agenda r1.due,0)
 else
  bif a0.2 !=0 then
   some (aI.mk (0,0) (Field.mk []) (aW.mk 0 []) (aG.mk (aS.mk [] [] []) [] []) [],a0.2)
  else
   (jC p0).bind fun r2=>
   some (aI.mk p1 r2.field r2.certs r2.agenda r2.due,0)
def c36:bN:=⟨aC.cons (aK.agg bL) (aC.one (aK.agg (cE.row hO))),aK.tup (aC.cons (aK.agg bL) (aC.one (aK.int .i64))),fun a=>zF a.1 a.2,.frz,false⟩
theorem aLp:aH aZ 36 c36:=Oc aKk rfl aF [(82,c82),(83,c83),(83,ZZ)] ⟨ZX,NR,HR,trivial⟩ fun a=>by kernel_rfl
def eS (s:(Int×Int×(List (Int×Int×Int))×Int×(List (Int×Int×Int))×(List Int)×(List Bool)×(List Int)×(List (Int×Int×Int×Int×Int))×(List Int)×(List (Int×Int×Int))×(List Int)×Int×Int×Int×Int×Int×(List (Int×Int)))):Option (bQ (Int×Int×(List (Int×Int×Int))×Int×(List (Int×Int×Int))×(List Int)×(List Bool)×(List Int)×(List (Int×Int×Int×Int×Int))×(List Int)×(List (Int×Int×Int))×(List Int)×Int×Int×Int×Int×Int×(List (Int×Int))) (dC×(List (Int×Int))×Int)):=
 (oE (dC.mk (aI.mk (s.1,s.2.1) (Field.mk s.2.2.1) (aW.mk s.2.2.2.1 s.2.2.2.2.1) (aG.mk (aS.mk s.2.2.2.2.2.1 s.2.2.2.2.2.2.1 s.2.2.2.2.2.2.2.1) s.2.2.2.2.2.2.2.2.1 s.2.2.2.2.2.2.2.2.2.1) s.2.2.2.2.2.2.2.2.2.2.1) s.2.2.2.2.2.2.2.2.2.2.2.1) (s.2.2.2.2.2.2.2.2.2.2.2.2.1,s.2.2.2.2.2.2.2.2.2.2.2.2.2.1)).bind fun a0=>
 bif a0.2.2==6 then
  (zF (aI.mk (s.1,s.2.1) (Field.mk s.2.2.1) (aW.mk s.2.2.2.1 s.2.2.2.2.1) (aG.mk (aS.mk s.2.2.2.2.2.1 s.2.2.2.2.2.2.1 s.2.2.2.2.2.2.2.1) s.2.2.2.2.2.2.2.2.1 s.2.2.2.2.2.2.2.2.2.1) s.2.2.2.2.2.2.2.2.2.2.1) (s.2.2.2.2.2.2.2.2.2.2.2.2.1,s.2.2.2.2.2.2.2.2.2.2.2.2.2.1)).bind fun a1=>
  (cK s.2.2.2.2.2.2.2.2.2.2.2.1).bind fun l2=>
  some (.done (dC.mk a1.1 l2,s.2.2.2.2.2.2.2.2.2.2.2.2.2.2.2.2.2,a1.2))
 else
  bif a0.2.2 !=0 then
   some (.done (dC.mk (aI.mk (0,0) (Field.mk []) (aW.mk 0 []) (aG.mk (aS.mk [] [] []) [] []) []) [],[],a0.2.2))
  else
   (bT s.2.2.2.2.2.2.2.2.2.2.2.2.2.2.2.2.2 [a0.2.1]).bind fun l3=>
   some (.next (a0.1.clock.now.1,a0.1.clock.now.2,a0.1.clock.field.points,a0.1.clock.certs.next_,a0.1.clock.certs.list,a0.1.clock.agenda.slots.uses,a0.1.clock.agenda.slots.used,a0.1.clock.agenda.slots.free,a0.1.clock.agenda.heap,a0.1.clock.agenda.where_,a0.1.clock.due,a0.1.heap,s.2.2.2.2.2.2.2.2.2.2.2.2.1,s.2.2.2.2.2.2.2.2.2.2.2.2.2.1,s.2.2.2.2.2.2.2.2.2.2.2.2.2.2.1,s.2.2.2.2.2.2.2.2.2.2.2.2.2.2.2.1,s.2.2.2.2.2.2.2.2.2.2.2.2.2.2.2.2.1,l3))
def jD (p0:dC) (p1:Int×Int):Option (dC×(List (Int×Int))×Int):=
 (vR p0).bind fun n0=>
 bif n0 !=0 then
  some (dC.mk (aI.mk (0,0) (Field.mk []) (aW.mk 0 []) (aG.mk (aS.mk [] [] []) [] []) []) [],[],n0)
 else
  (fI p1).bind fun n1=>
  bif n1 !=0 then
   some (dC.mk (aI.mk (0,0) (Field.mk []) (aW.mk 0 []) (aG.mk (aS.mk [] [] []) [] []) []) [],[],8)
  else
   (qF p1 p0.clock.now).bind fun a2=>
   bif decide (a2.1<0) then
    some (dC.mk (aI.mk (0,0) (Field.mk []) (aW.mk 0 []) (aG.mk (aS.mk [] [] []) [] []) []) [],[],44)
   else
    aJ eS (p0.clock.now.1,p0.clock.now.2,p0.clock.field.points,p0.clock.certs.next_,p0.clock.certs.list,p0.clock.agenda.slots.uses,p0.clock.agenda.slots.used,p0.clock.agenda.slots.free,p0.clock.agenda.heap,p0.clock.agenda.where_,p0.clock.due,p0.heap,p1.1,p1.2,0,0,0,[])
def c10:bN:=⟨aC.cons (aK.agg fW) (aC.one (aK.agg (cE.row hO))),aK.tup (aC.cons (aK.agg fW) (aC.cons (aK.sl hO) (aC.one (aK.int .i64)))),fun a=>jD a.1 a.2,.frz,false⟩
theorem aLq:aH aZ 10 c10:=Oc aJ9 rfl aF [(25,c25),(33,c33),(34,c34),(35,c35),(36,c36),(37,bN.clone ki)] ⟨aLf,A9,SZ,aLo,aLp,tJ,trivial⟩ fun a=>by kernel_rfl
def gQ (p0:Int):Option Int:=
 bif decide (p0<0) then
  some (aA .u64 ((aA .u64 (aA .i64 (0- (aA .i64 (p0+1)))))+1))
 else
  some (aA .u64 p0)
def aFV:bN:=⟨aC.one (aK.int .i64),aK.int .u64,fun a=>gQ a,.pure,false⟩
theorem NT:aH aZ 114 aFV:=Oc aDq rfl aF [] trivial fun a=>by kernel_rfl
def nH (s:(Int×Int)):Option (bQ (Int×Int) Int):=
 bif s.2 !=0 then
  bif s.2==0 then
   none
  else
   some (.next (s.2,Int.tmod s.1 s.2))
 else
  some (.done s.1)
def pB (p0:Int) (p1:Int):Option Int:=
 aJ nH (p0,p1)
def aLr:bN:=⟨aC.cons (aK.int .u64) (aC.one (aK.int .u64)),aK.int .u64,fun a=>pB a.1 a.2,.pure,false⟩
theorem VD:aH aZ 113 aLr:=Oc aDp rfl aF [] trivial fun a=>by kernel_rfl
def oF (p0:Int×Int):Option Int:=
 bif decide (p0.2<1) then
  some 8
 else
  bif p0.1==(-9223372036854775808) then
   some 8
  else
   (gQ p0.1).bind fun n0=>
   (pB n0 (aA .u64 p0.2)).bind fun n1=>
   bif n1 !=1 then
    some 8
   else
    some 0
def c55:bN:=⟨aC.one (aK.agg (cE.row hO)),aK.int .i64,fun a=>oF a,.pure,false⟩
theorem S3:aH aZ 55 c55:=Oc aKv rfl aF [(114,aFV),(113,aLr)] ⟨NT,VD,trivial⟩ fun a=>by kernel_rfl
def vT (p0:Int×Int×Int):Option Int:=
 bif decide (p0.1<0) then
  some 8
 else
  bif decide (65535<p0.1) then
   some 8
  else
   bif decide (p0.2.1<(-1048576)) then
    some 8
   else
    bif decide (1048576<p0.2.1) then
     some 8
    else
     bif decide (p0.2.2<(-1048576)) then
      some 8
     else
      bif decide (1048576<p0.2.2) then
       some 8
      else
       some 0
def aNl:bN:=⟨aC.one (aK.agg (cE.row fV)),aK.int .i64,fun a=>vT a,.pure,false⟩
theorem aFW:aH aZ 112 aNl:=Oc aDo rfl aF [] trivial fun a=>by kernel_rfl
def iD (s:(Int×(List (Int×Int×Int)))):Option (bQ (Int×(List (Int×Int×Int))) (bQ (Int×(List (Int×Int×Int))) Int)):=
 bif decide (s.1<(Int.ofNat s.2.length)) then
  (aN s.2 (aA .i64 (s.1-1))).bind fun a0=>
  (aN s.2 s.1).bind fun a1=>
  bif decide (a1.1<=a0.1) then
   some (.done (.done 32))
  else
   some (.next (aA .i64 (s.1+1),s.2))
 else
  some (.done (.done 0))
def mA (s:(Int×(List (Int×Int×Int)))):Option (bQ (Int×(List (Int×Int×Int))) Int):=
 bif decide (s.1<(Int.ofNat s.2.length)) then
  (aN s.2 s.1).bind fun a0=>
  (vT a0).bind fun n1=>
  bif n1 !=0 then
   some (.done 8)
  else
   some (.next (aA .i64 (s.1+1),s.2))
 else
  aJ iD (1,s.2)
def vU (p0:Field):Option Int:=
 bif decide (64<(Int.ofNat p0.points.length)) then
  some 4
 else
  aJ mA (0,p0.points)
def c54:bN:=⟨aC.one (aK.agg eD),aK.int .i64,fun a=>vU a,.pure,false⟩
theorem aLs:aH aZ 54 c54:=Oc aKu rfl aF [(112,aNl)] ⟨aFW,trivial⟩ fun a=>by kernel_rfl
def uJ (p0:Int×Int):Option Bool:=
 bif decide (0<=p0.1) then
  bif decide (p0.1<=65535) then
   bif decide (0<=p0.2) then
    bif decide (p0.2<=65535) then
     some (p0.1 !=p0.2)
    else
     some false
   else
    some false
  else
   some false
 else
  some false
def aLt:bN:=⟨aC.one (aK.agg (cE.row hO)),aK.bool,fun a=>uJ a,.pure,false⟩
theorem VE:aH aZ 170 aLt:=Oc aEb rfl aF [] trivial fun a=>by kernel_rfl
def fF (s:(Int×Int×Int×(List (Int×Int×Int))×Int×Int×Int)):Option (bQ (Int×Int×Int×(List (Int×Int×Int))×Int×Int×Int) (bQ (Int×Int×(List (Int×Int×Int))) Int)):=
 bif decide (s.2.1<s.1) then
  (aN s.2.2.2.1 s.2.1).bind fun a0=>
  bif (a0.2.1==s.2.2.2.2.2.1)&&(a0.2.2==s.2.2.2.2.2.2) then
   some (.done (.done 8))
  else
   some (.next (s.1,aA .i64 (s.2.1+1),s.2.2))
 else
  some (.done (.next (aA .i64 (s.1+1),s.2.2.1,s.2.2.2.1)))
def pC (s:(Int×Int×(List (Int×Int×Int)))):Option (bQ (Int×Int×(List (Int×Int×Int))) Int):=
 bif decide (s.1<(Int.ofNat s.2.2.length)) then
  (aN s.2.2 s.1).bind fun a0=>
  (uJ a0.2).bind fun b1=>
  bif !b1 then
   some (.done 8)
  else
   bif decide (a0.1<0) then
    some (.done 8)
   else
    bif decide (s.2.1<=a0.1) then
     some (.done 8)
    else
     bif decide (0<s.1) then
      (aN s.2.2 (aA .i64 (s.1-1))).bind fun a2=>
      bif decide (a0.1<=a2.1) then
       some (.done 8)
      else
       aJ fF (s.1,0,s.2.1,s.2.2,a0)
     else
      aJ fF (s.1,0,s.2.1,s.2.2,a0)
 else
  some (.done 0)
def sH (p0:aW):Option Int:=
 bif decide (200<(Int.ofNat p0.list.length)) then
  some 8
 else
  bif decide (p0.next_<0) then
   some 8
  else
   bif decide (1000000<p0.next_) then
    some 8
   else
    aJ pC (0,p0.next_,p0.list)
def aLu:bN:=⟨aC.one (aK.agg fM),aK.int .i64,fun a=>sH a,.pure,false⟩
theorem VF:aH aZ 121 aLu:=Oc aDw rfl aF [(170,aLt)] ⟨VE,trivial⟩ fun a=>by kernel_rfl
def sI (s:(Int×Int×(List (Int×Int×Int)))):Option (bQ (Int×Int×(List (Int×Int×Int))) Int):=
 bif decide (s.2.1<(Int.ofNat s.2.2.length)) then
  (aN s.2.2 s.2.1).bind fun a0=>
  bif a0.1==s.1 then
   some (.done s.2.1)
  else
   some (.next (s.1,aA .i64 (s.2.1+1),s.2.2))
 else
  some (.done (-1))
def iE (p0:Field) (p1:Int):Option Int:=
 aJ sI (p1,0,p0.points)
def c64:bN:=⟨aC.cons (aK.agg eD) (aC.one (aK.int .i64)),aK.int .i64,fun a=>iE a.1 a.2,.pure,false⟩
theorem NU:aH aZ 64 c64:=Oc aKB rfl aF [] trivial fun a=>by kernel_rfl
def pD (s:(Int×Int×(List (Int×Int×Int))×(List (Int×Int×Int)))):Option (bQ (Int×Int×(List (Int×Int×Int))×(List (Int×Int×Int))) Bool):=
 bif decide (s.1<(Int.ofNat s.2.2.1.length)) then
  (aN s.2.2.1 s.1).bind fun a0=>
  (iE (Field.mk s.2.2.2) a0.2.1).bind fun n1=>
  bif decide (n1<0) then
   some (.done false)
  else
   (aN s.2.2.1 s.1).bind fun a2=>
   (iE (Field.mk s.2.2.2) a2.2.2).bind fun n3=>
   bif decide (n3<0) then
    some (.done false)
   else
    some (.next (aA .i64 (s.1+1),s.2))
 else
  some (.done true)
def vV (p0:aW) (p1:Field):Option Bool:=
 aJ pD (0,p0.next_,p0.list,p1.points)
def aNn:bN:=⟨aC.cons (aK.agg fM) (aC.one (aK.agg eD)),aK.bool,fun a=>vV a.1 a.2,.pure,false⟩
theorem aFX:aH aZ 122 aNn:=Oc aDx rfl aF [(64,c64)] ⟨NU,trivial⟩ fun a=>by kernel_rfl
def jX (s:(Int×Int×(List Int)×(List Bool)×(List Int)×(List Bool))):Option (bQ (Int×Int×(List Int)×(List Bool)×(List Int)×(List Bool)) (bQ (Int×Int×(List Int)×(List Bool)×(List Int)×(List Bool)) Int)):=
 bif decide (s.2.1<s.1) then
  (aN s.2.2.1 s.2.1).bind fun n0=>
  bif decide (n0<0) then
   some (.done (.done 8))
  else
   (aN s.2.2.1 s.2.1).bind fun n1=>
   bif decide (1000000<n1) then
    some (.done (.done 8))
   else
    (aN s.2.2.2.1 s.2.1).bind fun b2=>
    (aN s.2.2.2.2.2 s.2.1).bind fun b3=>
    bif b2==b3 then
     some (.done (.done 8))
    else
     (aN s.2.2.2.1 s.2.1).bind fun b4=>
     bif b4 then
      (aN s.2.2.1 s.2.1).bind fun n5=>
      bif decide (n5<1) then
       some (.done (.done 8))
      else
       some (.next (s.1,aA .i64 (s.2.1+1),s.2.2))
     else
      some (.next (s.1,aA .i64 (s.2.1+1),s.2.2))
 else
  some (.done (.done 0))
def pE (s:(Int×Int×(List Int)×(List Bool)×(List Int)×(List Bool))):Option (bQ (Int×Int×(List Int)×(List Bool)×(List Int)×(List Bool)) Int):=
 bif decide (s.2.1<(Int.ofNat s.2.2.2.2.1.length)) then
  (aN s.2.2.2.2.1 s.2.1).bind fun n0=>
  bif decide (n0<0) then
   some (.done 8)
  else
   (aN s.2.2.2.2.1 s.2.1).bind fun n1=>
   bif decide (s.1<=n1) then
    some (.done 8)
   else
    (aN s.2.2.2.2.1 s.2.1).bind fun n2=>
    (aN s.2.2.2.2.2 n2).bind fun b3=>
    bif b3 then
     some (.done 8)
    else
     (aN s.2.2.2.2.1 s.2.1).bind fun n4=>
     (aN s.2.2.2.2.2 n4).bind fun _=>
     some (.next (s.1,aA .i64 (s.2.1+1),s.2.2.1,s.2.2.2.1,s.2.2.2.2.1,bV s.2.2.2.2.2 n4 true))
 else
  aJ jX (s.1,0,s.2.2)
def vW (p0:aS):Option Int:=
 bif decide ((Int.ofNat p0.uses.length)<1) then
  some 8
 else
  bif decide (200<(Int.ofNat p0.uses.length)) then
   some 8
  else
   bif (Int.ofNat p0.used.length) !=(Int.ofNat p0.uses.length) then
    some 8
   else
    bif decide ((Int.ofNat p0.uses.length)<(Int.ofNat p0.free.length)) then
     some 8
    else
     bif (Int.ofNat p0.uses.length)==(Int.ofNat p0.uses.length) then
      (O9 (Int.ofNat p0.uses.length) (false:Bool)).bind fun l0=>
      aJ pE (Int.ofNat p0.uses.length,0,p0.uses,p0.used,p0.free,l0)
     else
      none
def aNo:bN:=⟨aC.one (aK.agg fL),aK.int .i64,fun a=>vW a,.pure,false⟩
theorem aFY:aH aZ 171 aNo:=Oc aEc rfl aF [] trivial fun a=>by kernel_rfl
def uK (p0:aS) (p1:Int×Int):Option Bool:=
 bif decide (0<=p1.1) then
  bif decide (p1.1<(Int.ofNat p0.uses.length)) then
   (aN p0.used p1.1).bind fun b0=>
   bif b0 then
    (aN p0.uses p1.1).bind fun n1=>
    some (n1==p1.2)
   else
    some false
  else
   some false
 else
  some false
def aLv:bN:=⟨aC.cons (aK.agg fL) (aC.one (aK.agg (cE.row hO))),aK.bool,fun a=>uK a.1 a.2,.pure,false⟩
theorem VG:aH aZ 175 aLv:=Oc aEg rfl aF [] trivial fun a=>by kernel_rfl
def nI (s:(Int×Int×(List Int)×(List Bool)×(List Int)×(List (Int×Int×Int×Int×Int))×(List Int))):Option (bQ (Int×Int×(List Int)×(List Bool)×(List Int)×(List (Int×Int×Int×Int×Int))×(List Int)) Bool):=
 bif decide (s.2.1<s.1) then
  (aN s.2.2.2.1 s.2.1).bind fun b0=>
  bif !b0 then
   (aN s.2.2.2.2.2.2 s.2.1).bind fun n1=>
   bif n1 !=(-1) then
    some (.done false)
   else
    some (.next (s.1,aA .i64 (s.2.1+1),s.2.2))
  else
   (aN s.2.2.2.2.2.2 s.2.1).bind fun n2=>
   bif decide (n2<0) then
    some (.done false)
   else
    bif decide ((Int.ofNat s.2.2.2.2.2.1.length)<=n2) then
     some (.done false)
    else
     (aN s.2.2.2.2.2.1 n2).bind fun a3=>
     bif a3.2.2.2.1 !=s.2.1 then
      some (.done false)
     else
      (aN s.2.2.2.2.2.1 n2).bind fun a4=>
      (uK (aS.mk s.2.2.1 s.2.2.2.1 s.2.2.2.2.1) a4.2.2.2).bind fun b5=>
      bif !b5 then
       some (.done false)
      else
       some (.next (s.1,aA .i64 (s.2.1+1),s.2.2))
 else
  some (.done true)
def tM (p0:aG):Option Bool:=
 bif (Int.ofNat p0.where_.length) !=(Int.ofNat p0.slots.uses.length) then
  some false
 else
  bif (Int.ofNat p0.heap.length) !=(aA .i64 ((Int.ofNat p0.slots.uses.length) - (Int.ofNat p0.slots.free.length))) then
   some false
  else
   aJ nI (Int.ofNat p0.slots.uses.length,0,p0.slots.uses,p0.slots.used,p0.slots.free,p0.heap,p0.where_)
def aNp:bN:=⟨aC.one (aK.agg cN),aK.bool,fun a=>tM a,.pure,false⟩
theorem aFZ:aH aZ 172 aNp:=Oc aEd rfl aF [(175,aLv)] ⟨VG,trivial⟩ fun a=>by kernel_rfl
def rA (p0:Int) (p1:Int):Option (Bool×Int×Int):=
 some (false,aA .u64 ((aA .u64 ((aA .u64 ((aA .u64 (Int.tdiv p0 4294967296))*(aA .u64 (Int.tdiv p1 4294967296))))+(aA .u64 (Int.tdiv (aA .u64 ((aA .u64 ((aA .u64 (Int.tdiv p0 4294967296))*(Int.tmod p1 4294967296)))+(aA .u64 (Int.tdiv (aA .u64 ((Int.tmod p0 4294967296)*(Int.tmod p1 4294967296))) 4294967296)))) 4294967296))))+(aA .u64 (Int.tdiv (aA .u64 ((aA .u64 ((Int.tmod p0 4294967296)*(aA .u64 (Int.tdiv p1 4294967296))))+(Int.tmod (aA .u64 ((aA .u64 ((aA .u64 (Int.tdiv p0 4294967296))*(Int.tmod p1 4294967296)))+(aA .u64 (Int.tdiv (aA .u64 ((Int.tmod p0 4294967296)*(Int.tmod p1 4294967296))) 4294967296)))) 4294967296))) 4294967296))),aA .u64 ((aA .u64 ((Int.tmod (aA .u64 ((aA .u64 ((Int.tmod p0 4294967296)*(aA .u64 (Int.tdiv p1 4294967296))))+(Int.tmod (aA .u64 ((aA .u64 ((aA .u64 (Int.tdiv p0 4294967296))*(Int.tmod p1 4294967296)))+(aA .u64 (Int.tdiv (aA .u64 ((Int.tmod p0 4294967296)*(Int.tmod p1 4294967296))) 4294967296)))) 4294967296))) 4294967296)*4294967296))+(Int.tmod (aA .u64 ((Int.tmod p0 4294967296)*(Int.tmod p1 4294967296))) 4294967296)))
def aNq:bN:=⟨aC.cons (aK.int .u64) (aC.one (aK.int .u64)),aK.agg (cE.row A6),fun a=>rA a.1 a.2,.pure,false⟩
theorem aF0:aH aZ 186 aNq:=Oc aEo rfl aF [] trivial fun a=>by kernel_rfl
def jE (p0:Int) (p1:Int):Option (Bool×Int×Int):=
 (gQ p0).bind fun n0=>
 (gQ p1).bind fun n1=>
 (rA n0 n1).bind fun a2=>
 bif !((decide (p0<0))==(decide (p1<0))) then
  bif p0 !=0 then
   some (p1 !=0,a2.2)
  else
   some (false,a2.2)
 else
  some (false,a2.2)
def aLw:bN:=⟨aC.cons (aK.int .i64) (aC.one (aK.int .i64)),aK.agg (cE.row A6),fun a=>jE a.1 a.2,.pure,false⟩
theorem VH:aH aZ 142 aLw:=Oc aDO rfl aF [(114,aFV),(186,aNq)] ⟨NT,aF0,trivial⟩ fun a=>by kernel_rfl
def kU (p0:Bool×Int×Int):Option Int:=
 bif p0.2.1==0 then
  bif p0.2.2==0 then
   some 0
  else
   bif p0.1 then
    some (-1)
   else
    some 1
 else
  bif p0.1 then
   some (-1)
  else
   some 1
def aLx:bN:=⟨aC.one (aK.agg (cE.row A6)),aK.int .i64,fun a=>kU a,.pure,false⟩
theorem VI:aH aZ 143 aLx:=Oc aDP rfl aF [] trivial fun a=>by kernel_rfl
def qJ (p0:Bool×Int×Int) (p1:Bool×Int×Int):Option Int:=
 bif p0.2.1 !=p1.2.1 then
  bif decide (p0.2.1<p1.2.1) then
   some (-1)
  else
   some 1
 else
  bif p0.2.2 !=p1.2.2 then
   bif decide (p0.2.2<p1.2.2) then
    some (-1)
   else
    some 1
  else
   some 0
def aLy:bN:=⟨aC.cons (aK.agg (cE.row A6)) (aC.one (aK.agg (cE.row A6))),aK.int .i64,fun a=>qJ a.1 a.2,.pure,false⟩
theorem VJ:aH aZ 144 aLy:=Oc aDQ rfl aF [] trivial fun a=>by kernel_rfl
def lH (p0:Int×Int) (p1:Int×Int):Option Int:=
 (jE p0.1 p1.2).bind fun a0=>
 (jE p1.1 p0.2).bind fun a1=>
 (kU a0).bind fun n2=>
 (kU a1).bind fun n3=>
 bif n2 !=n3 then
  (kU a0).bind fun n4=>
  (kU a1).bind fun n5=>
  bif decide (n4<n5) then
   some (-1)
  else
   some 1
 else
  (kU a0).bind fun n6=>
  bif decide (n6<0) then
   (qJ a1 a0).bind fun n7=>
   some n7
  else
   (qJ a0 a1).bind fun n8=>
   some n8
def c84:bN:=⟨aC.cons (aK.agg (cE.row hO)) (aC.one (aK.agg (cE.row hO))),aK.int .i64,fun a=>lH a.1 a.2,.pure,false⟩
theorem S4:aH aZ 84 c84:=Oc aKM rfl aF [(142,aLw),(143,aLx),(144,aLy)] ⟨VH,VI,VJ,trivial⟩ fun a=>by kernel_rfl
def dS (p0:Int×Int×Int×Int×Int) (p1:Int×Int×Int×Int×Int):Option Bool:=
 (lH (p0.1,p0.2.1) (p1.1,p1.2.1)).bind fun n0=>
 bif decide (n0<0) then
  some true
 else
  bif n0==0 then
   some (decide (p0.2.2.1<p1.2.2.1))
  else
   some false
def S5:bN:=⟨aC.cons (aK.agg (cE.row jV)) (aC.one (aK.agg (cE.row jV))),aK.bool,fun a=>dS a.1 a.2,.pure,false⟩
theorem B4:aH aZ 173 S5:=Oc aEe rfl aF [(84,c84)] ⟨S4,trivial⟩ fun a=>by kernel_rfl
def jY (s:(Int×Int×(List Int)×(List Bool)×(List Int)×(List (Int×Int×Int×Int×Int))×(List Int)×Int×Int×Int×Int×Int)):Option (bQ (Int×Int×(List Int)×(List Bool)×(List Int)×(List (Int×Int×Int×Int×Int))×(List Int)×Int×Int×Int×Int×Int) (bQ (Int×(List Int)×(List Bool)×(List Int)×(List (Int×Int×Int×Int×Int))×(List Int)) Int)):=
 bif decide (s.2.1<s.1) then
  (aN s.2.2.2.2.2.1 s.2.1).bind fun a0=>
  bif a0.2.2.1==s.2.2.2.2.2.2.2.2.2.1 then
   some (.done (.done 8))
  else
   some (.next (s.1,aA .i64 (s.2.1+1),s.2.2))
 else
  some (.done (.next (aA .i64 (s.1+1),s.2.2.1,s.2.2.2.1,s.2.2.2.2.1,s.2.2.2.2.2.1,s.2.2.2.2.2.2.1)))
def jZ (s:(Int×(List Int)×(List Bool)×(List Int)×(List (Int×Int×Int×Int×Int))×(List Int))):Option (bQ (Int×(List Int)×(List Bool)×(List Int)×(List (Int×Int×Int×Int×Int))×(List Int)) (bQ (Int×(List Int)×(List Bool)×(List Int)×(List (Int×Int×Int×Int×Int))×(List Int)) Int)):=
 bif decide (s.1<(Int.ofNat s.2.2.2.2.1.length)) then
  (aN s.2.2.2.2.1 s.1).bind fun a0=>
  (aN s.2.2.2.2.1 (aA .i64 (Int.tdiv (aA .i64 (s.1-1)) 2))).bind fun a1=>
  (dS a0 a1).bind fun b2=>
  bif b2 then
   some (.done (.done 8))
  else
   some (.next (aA .i64 (s.1+1),s.2))
 else
  some (.done (.done 0))
def pF (s:(Int×(List Int)×(List Bool)×(List Int)×(List (Int×Int×Int×Int×Int))×(List Int))):Option (bQ (Int×(List Int)×(List Bool)×(List Int)×(List (Int×Int×Int×Int×Int))×(List Int)) Int):=
 bif decide (s.1<(Int.ofNat s.2.2.2.2.1.length)) then
  (aN s.2.2.2.2.1 s.1).bind fun a0=>
  (oF (a0.1,a0.2.1)).bind fun n1=>
  bif n1 !=0 then
   some (.done 8)
  else
   bif decide (a0.2.2.1<0) then
    some (.done 8)
   else
    bif decide (1000000<a0.2.2.1) then
     some (.done 8)
    else
     aJ jY (s.1,0,s.2.1,s.2.2.1,s.2.2.2.1,s.2.2.2.2.1,s.2.2.2.2.2,a0)
 else
  aJ jZ (1,s.2)
def sJ (p0:aG):Option Int:=
 (vW p0.slots).bind fun n0=>
 bif n0 !=0 then
  some 8
 else
  (tM p0).bind fun b1=>
  bif !b1 then
   some 8
  else
   aJ pF (0,p0.slots.uses,p0.slots.used,p0.slots.free,p0.heap,p0.where_)
def aLz:bN:=⟨aC.one (aK.agg cN),aK.int .i64,fun a=>sJ a,.pure,false⟩
theorem VK:aH aZ 123 aLz:=Oc aDy rfl aF [(171,aNo),(172,aNp),(55,c55),(173,S5)] ⟨aFY,aFZ,S3,B4,trivial⟩ fun a=>by kernel_rfl
def sK (p0:Bool×Int×Int) (p1:Bool×Int×Int):Option (Bool×Int×Int):=
 bif decide (p0.2.2<p1.2.2) then
  some (false,aA .u64 ((aA .u64 (p0.2.1-p1.2.1)) -1),aA .u64 (p0.2.2-p1.2.2))
 else
  some (false,aA .u64 (p0.2.1-p1.2.1),aA .u64 (p0.2.2-p1.2.2))
def aNr:bN:=⟨aC.cons (aK.agg (cE.row A6)) (aC.one (aK.agg (cE.row A6))),aK.agg (cE.row A6),fun a=>sK a.1 a.2,.pure,false⟩
theorem aF1:aH aZ 245 aNr:=Oc aE9 rfl aF [] trivial fun a=>by kernel_rfl
def zG (p0:Bool×Int×Int) (p1:Bool×Int×Int):Option (Bool×Int×Int):=
 bif p0.1==p1.1 then
  bif decide ((aA .u64 (p0.2.2+p1.2.2))<p0.2.2) then
   some (p0.1,aA .u64 ((aA .u64 (p0.2.1+p1.2.1))+1),aA .u64 (p0.2.2+p1.2.2))
  else
   some (p0.1,aA .u64 (p0.2.1+p1.2.1),aA .u64 (p0.2.2+p1.2.2))
 else
  (qJ p0 p1).bind fun n0=>
  bif decide (0<=n0) then
   (sK p0 p1).bind fun a1=>
   bif p0.1 then
    bif decide (0<a1.2.1) then
     some (true,a1.2)
    else
     some (decide (0<a1.2.2),a1.2)
   else
    some (false,a1.2)
  else
   (sK p1 p0).bind fun a2=>
   some (p1.1,a2.2)
def aNs:bN:=⟨aC.cons (aK.agg (cE.row A6)) (aC.one (aK.agg (cE.row A6))),aK.agg (cE.row A6),fun a=>zG a.1 a.2,.pure,false⟩
theorem aF2:aH aZ 237 aNs:=Oc aE2 rfl aF [(144,aLy),(245,aNr)] ⟨VJ,aF1,trivial⟩ fun a=>by kernel_rfl
def B5 (p0:Int×Int×Int) (p1:Int×Int×Int) (p2:Int×Int):Option Int:=
 (jE (aA .i64 (p0.2.1-p1.2.1)) p2.2).bind fun a0=>
 (jE (aA .i64 (p0.2.2-p1.2.2)) p2.1).bind fun a1=>
 (zG a0 a1).bind fun a2=>
 (kU a2).bind fun n3=>
 some n3
def aNt:bN:=⟨aC.cons (aK.agg (cE.row fV)) (aC.cons (aK.agg (cE.row fV)) (aC.one (aK.agg (cE.row hO)))),aK.int .i64,fun a=>B5 a.1 a.2.1 a.2.2,.pure,false⟩
theorem aF3:aH aZ 215 aNt:=Oc aEN rfl aF [(142,aLw),(237,aNs),(143,aLx)] ⟨VH,aF2,VI,trivial⟩ fun a=>by kernel_rfl
def sL (p0:Int×Int×Int) (p1:Int×Int×Int) (p2:Int×Int):Option Bool:=
 (B5 p0 p1 p2).bind fun n0=>
 bif n0 !=0 then
  some (decide (0<n0))
 else
  bif p0.2.2 !=p1.2.2 then
   some (decide (p1.2.2<p0.2.2))
  else
   some (decide (p0.1<p1.1))
def aLA:bN:=⟨aC.cons (aK.agg (cE.row fV)) (aC.cons (aK.agg (cE.row fV)) (aC.one (aK.agg (cE.row hO)))),aK.bool,fun a=>sL a.1 a.2.1 a.2.2,.pure,false⟩
theorem VL:aH aZ 176 aLA:=Oc aEh rfl aF [(215,aNt)] ⟨aF3,trivial⟩ fun a=>by kernel_rfl
def qK (p0:Bool) (p1:Bool×Int×Int) (p2:Bool×Int×Int):Option ((Int×Int)×Int):=
 bif decide (0<p1.2.1) then
  some ((0,0),16)
 else
  bif decide (9223372036854775807<p1.2.2) then
   some ((0,0),16)
  else
   bif decide (0<p2.2.1) then
    some ((0,0),16)
   else
    bif decide (9223372036854775807<p2.2.2) then
     some ((0,0),16)
    else
     bif p0 then
      some ((aA .i64 (0- (aA .i64 p1.2.2)),aA .i64 p2.2.2),0)
     else
      some ((aA .i64 p1.2.2,aA .i64 p2.2.2),0)
def aNu:bN:=⟨aC.cons aK.bool (aC.cons (aK.agg (cE.row A6)) (aC.one (aK.agg (cE.row A6)))),aK.tup (aC.cons (aK.agg (cE.row hO)) (aC.one (aK.int .i64))),fun a=>qK a.1 a.2.1 a.2.2,.pure,false⟩
theorem aF4:aH aZ 244 aNu:=Oc aE8 rfl aF [] trivial fun a=>by kernel_rfl
def mB (p0:Int) (p1:Int):Option ((Int×Int)×Int):=
 bif p1==0 then
  some ((0,0),26)
 else
  (gQ p0).bind fun n0=>
  (gQ p1).bind fun n1=>
  (pB n0 n1).bind fun n2=>
  bif !((decide (p0<0))==(decide (p1<0))) then
   (gQ p0).bind fun n3=>
   bif n2==0 then
    none
   else
    (gQ p1).bind fun n4=>
    bif n2==0 then
     none
    else
     (qK (p0 !=0) (false,0,aA .u64 (Int.tdiv n3 n2)) (false,0,aA .u64 (Int.tdiv n4 n2))).bind fun a5=>
     some a5
  else
   (gQ p0).bind fun n6=>
   bif n2==0 then
    none
   else
    (gQ p1).bind fun n7=>
    bif n2==0 then
     none
    else
     (qK false (false,0,aA .u64 (Int.tdiv n6 n2)) (false,0,aA .u64 (Int.tdiv n7 n2))).bind fun a8=>
     some a8
def aNv:bN:=⟨aC.cons (aK.int .i64) (aC.one (aK.int .i64)),aK.tup (aC.cons (aK.agg (cE.row hO)) (aC.one (aK.int .i64))),fun a=>mB a.1 a.2,.pure,false⟩
theorem aF5:aH aZ 236 aNv:=Oc aE1 rfl aF [(114,aFV),(113,aLr),(244,aNu)] ⟨NT,VD,aF4,trivial⟩ fun a=>by kernel_rfl
def B6 (p0:Int×Int×Int) (p1:Int×Int×Int):Option (Int×Int):=
 (mB (aA .i64 (p0.2.1-p1.2.1)) (aA .i64 (p1.2.2-p0.2.2))).bind fun a0=>
 some a0.1
def aNw:bN:=⟨aC.cons (aK.agg (cE.row fV)) (aC.one (aK.agg (cE.row fV))),aK.agg (cE.row hO),fun a=>B6 a.1 a.2,.pure,false⟩
theorem aF6:aH aZ 214 aNw:=Oc aEM rfl aF [(236,aNv)] ⟨aF5,trivial⟩ fun a=>by kernel_rfl
def rB (p0:Int×Int×Int) (p1:Int×Int×Int) (p2:Int×Int):Option ((Int×Int)×Bool):=
 (sL p1 p0 p2).bind fun b0=>
 bif b0 then
  some (p2,true)
 else
  bif decide (p0.2.2<p1.2.2) then
   (B6 p0 p1).bind fun a1=>
   some (a1,true)
  else
   some ((0,0),false)
def aNx:bN:=⟨aC.cons (aK.agg (cE.row fV)) (aC.cons (aK.agg (cE.row fV)) (aC.one (aK.agg (cE.row hO)))),aK.tup (aC.cons (aK.agg (cE.row hO)) (aC.one aK.bool)),fun a=>rB a.1 a.2.1 a.2.2,.pure,false⟩
theorem aF7:aH aZ 174 aNx:=Oc aEf rfl aF [(176,aLA),(214,aNw)] ⟨VL,aF6,trivial⟩ fun a=>by kernel_rfl
def qL (p0:Field) (p1:Int×Int) (p2:Int×Int):Option ((Int×Int)×Bool):=
 (iE p0 p1.2).bind fun n0=>
 (aN p0.points n0).bind fun a1=>
 (iE p0 p1.1).bind fun n2=>
 (aN p0.points n2).bind fun a3=>
 (rB a1 a3 p2).bind fun a4=>
 some a4
def aF8:bN:=⟨aC.cons (aK.agg eD) (aC.cons (aK.agg (cE.row hO)) (aC.one (aK.agg (cE.row hO)))),aK.tup (aC.cons (aK.agg (cE.row hO)) (aC.one aK.bool)),fun a=>qL a.1 a.2.1 a.2.2,.pure,false⟩
theorem NV:aH aZ 124 aF8:=Oc aDz rfl aF [(64,c64),(174,aNx)] ⟨NU,aF7,trivial⟩ fun a=>by kernel_rfl
def uL (p0:aG) (p1:Int×Int):Option ((Int×Int×Int×Int×Int)×Int):=
 (sJ p0).bind fun n0=>
 bif n0 !=0 then
  some ((0,0,0,0,0),8)
 else
  (uK p0.slots p1).bind fun b1=>
  bif !b1 then
   some ((0,0,0,0,0),6)
  else
   (aN p0.where_ p1.1).bind fun n2=>
   (aN p0.heap n2).bind fun a3=>
   some (a3,0)
def aNy:bN:=⟨aC.cons (aK.agg cN) (aC.one (aK.agg (cE.row hO))),aK.tup (aC.cons (aK.agg (cE.row jV)) (aC.one (aK.int .i64))),fun a=>uL a.1 a.2,.pure,false⟩
theorem aF9:aH aZ 125 aNy:=Oc aDA rfl aF [(123,aLz),(175,aLv)] ⟨VK,VG,trivial⟩ fun a=>by kernel_rfl
def cX (s:(Int×Int×Int×Int×(List (Int×Int×Int))×Int×(List (Int×Int×Int))×(List Int)×(List Bool)×(List Int)×(List (Int×Int×Int×Int×Int))×(List Int)×(List (Int×Int×Int)))):Option (bQ (Int×Int×Int×Int×(List (Int×Int×Int))×Int×(List (Int×Int×Int))×(List Int)×(List Bool)×(List Int)×(List (Int×Int×Int×Int×Int))×(List Int)×(List (Int×Int×Int))) Int):=
 bif decide (s.2.1<(Int.ofNat s.2.2.2.2.2.2.1.length)) then
  (aN s.2.2.2.2.2.2.1 s.2.1).bind fun a0=>
  (qL (Field.mk s.2.2.2.2.1) a0.2 (s.2.2.1,s.2.2.2.1)).bind fun a1=>
  bif !a1.2 then
   some (.next (s.1,aA .i64 (s.2.1+1),s.2.2))
  else
   bif decide ((Int.ofNat s.2.2.2.2.2.2.2.2.2.2.2.2.length)<=s.1) then
    some (.done 8)
   else
    (aN s.2.2.2.2.2.2.2.2.2.2.2.2 s.1).bind fun a2=>
    bif a2.1 !=a0.1 then
     some (.done 8)
    else
     (aN s.2.2.2.2.2.2.2.2.2.2.2.2 s.1).bind fun a3=>
     (uL (aG.mk (aS.mk s.2.2.2.2.2.2.2.1 s.2.2.2.2.2.2.2.2.1 s.2.2.2.2.2.2.2.2.2.1) s.2.2.2.2.2.2.2.2.2.2.1 s.2.2.2.2.2.2.2.2.2.2.2.1) a3.2).bind fun a4=>
     bif a4.2 !=0 then
      some (.done 8)
     else
      bif a4.1.2.2.1 !=a0.1 then
       some (.done 8)
      else
       bif !((a4.1.1==a1.1.1)&&(a4.1.2.1==a1.1.2)) then
        some (.done 8)
       else
        some (.next (aA .i64 (s.1+1),aA .i64 (s.2.1+1),s.2.2))
 else
  bif s.1 !=(Int.ofNat s.2.2.2.2.2.2.2.2.2.2.2.2.length) then
   some (.done 8)
  else
   some (.done 0)
def vX (p0:aI):Option Int:=
 (oF p0.now).bind fun n0=>
 bif n0 !=0 then
  some 8
 else
  (vU p0.field).bind fun n1=>
  bif n1 !=0 then
   some 8
  else
   (sH p0.certs).bind fun n2=>
   bif n2 !=0 then
    some 8
   else
    (vV p0.certs p0.field).bind fun b3=>
    bif !b3 then
     some 8
    else
     (sJ p0.agenda).bind fun n4=>
     bif n4 !=0 then
      some 8
     else
      bif (Int.ofNat p0.agenda.where_.length) !=200 then
       some 8
      else
       bif (Int.ofNat p0.agenda.heap.length) !=(Int.ofNat p0.due.length) then
        some 8
       else
        aJ cX (0,0,p0.now.1,p0.now.2,p0.field.points,p0.certs.next_,p0.certs.list,p0.agenda.slots.uses,p0.agenda.slots.used,p0.agenda.slots.free,p0.agenda.heap,p0.agenda.where_,p0.due)
def c63:bN:=⟨aC.one (aK.agg bL),aK.int .i64,fun a=>vX a,.pure,false⟩
theorem aLB:aH aZ 63 c63:=Oc aKA rfl aF [(55,c55),(54,c54),(121,aLu),(122,aNn),(123,aLz),(124,aF8),(125,aNy)] ⟨S3,aLs,VF,aFX,VK,NV,aF9,trivial⟩ fun a=>by kernel_rfl
def QO (s:((List Int)×Int×(List (Int×Int)))):Option (bQ ((List Int)×Int×(List (Int×Int))) (List (Int×Int))):=
 bif decide (s.2.1<(Int.ofNat s.1.length)) then
  (aN s.1 s.2.1).bind fun n0=>
  (aN s.1 (aA .i64 (Int.tdiv (aA .i64 (s.2.1-1)) 2))).bind fun n1=>
  (bT s.2.2 [(n0,n1)]).bind fun l2=>
  some (.next (s.1,aA .i64 (s.2.1+1),l2))
 else
  some (.done s.2.2)
def BF (p0:List Int):Option (List (Int×Int)):=
 aJ QO (p0,1,[])
def c57:bN:=⟨aC.one (aK.sl ki),aK.sl hO,fun a=>BF a,.own,true⟩
def aLC:bN:=⟨aC.one (aK.sl ki),aK.sl hO,fun a=>BF a,.frz,false⟩
theorem Z2:aH aZ 57 c57:=Oc ZL rfl aF [] trivial fun a=>by kernel_rfl
theorem VM:aH aZ 57 aLC:=Oc ZL rfl aF [] trivial fun a=>by kernel_rfl
def tN (s:(Int×Int×(List (Int×Int×Int))×Int×Int)):Option (bQ (Int×Int×(List (Int×Int×Int))×Int×Int) Bool):=
 bif decide (s.1<(Int.ofNat s.2.2.1.length)) then
  (aN s.2.2.1 s.1).bind fun a0=>
  bif (a0.2.1==s.2.2.2.1)&&(a0.2.2==s.2.2.2.2) then
   some (.done true)
  else
   some (.next (aA .i64 (s.1+1),s.2))
 else
  some (.done false)
def tQ (p0:aW) (p1:Int×Int):Option Bool:=
 aJ tN (0,p0.next_,p0.list,p1)
def aGa:bN:=⟨aC.cons (aK.agg fM) (aC.one (aK.agg (cE.row hO))),aK.bool,fun a=>tQ a.1 a.2,.pure,false⟩
theorem NW:aH aZ 126 aGa:=Oc aDB rfl aF [] trivial fun a=>by kernel_rfl
def zH (p0:Int×Int) (p1:Field) (p2:Int×Int):Option Bool:=
 (iE p1 p0.2).bind fun n0=>
 (aN p1.points n0).bind fun a1=>
 (iE p1 p0.1).bind fun n2=>
 (aN p1.points n2).bind fun a3=>
 (sL a1 a3 p2).bind fun b4=>
 some b4
def aNz:bN:=⟨aC.cons (aK.agg (cE.row hO)) (aC.cons (aK.agg eD) (aC.one (aK.agg (cE.row hO)))),aK.bool,fun a=>zH a.1 a.2.1 a.2.2,.pure,false⟩
theorem aGb:aH aZ 127 aNz:=Oc aDC rfl aF [(64,c64),(176,aLA)] ⟨NU,VL,trivial⟩ fun a=>by kernel_rfl
def rC (s:((List (Int×Int))×Int×Int×Int×(List (Int×Int×Int))×Int×(List (Int×Int×Int))×(List Int)×(List Bool)×(List Int)×(List (Int×Int×Int×Int×Int))×(List Int)×(List (Int×Int×Int)))):Option (bQ ((List (Int×Int))×Int×Int×Int×(List (Int×Int×Int))×Int×(List (Int×Int×Int))×(List Int)×(List Bool)×(List Int)×(List (Int×Int×Int×Int×Int))×(List Int)×(List (Int×Int×Int))) Bool):=
 bif decide (s.2.1<(Int.ofNat s.1.length)) then
  (aN s.1 s.2.1).bind fun a0=>
  (tQ (aW.mk s.2.2.2.2.2.1 s.2.2.2.2.2.2.1) a0).bind fun b1=>
  bif !b1 then
   some (.done false)
  else
   (aN s.1 s.2.1).bind fun a2=>
   (zH a2 (Field.mk s.2.2.2.2.1) (s.2.2.1,s.2.2.2.1)).bind fun b3=>
   bif !b3 then
    some (.done false)
   else
    some (.next (s.1,aA .i64 (s.2.1+1),s.2.2))
 else
  some (.done true)
def zI (p0:aI) (p1:List (Int×Int)):Option Bool:=
 bif (Int.ofNat p0.certs.list.length) !=(Int.ofNat p1.length) then
  some false
 else
  aJ rC (p1,0,p0.now.1,p0.now.2,p0.field.points,p0.certs.next_,p0.certs.list,p0.agenda.slots.uses,p0.agenda.slots.used,p0.agenda.slots.free,p0.agenda.heap,p0.agenda.where_,p0.due)
def c65:bN:=⟨aC.cons (aK.agg bL) (aC.one (aK.sl hO)),aK.bool,fun a=>zI a.1 a.2,.pure,false⟩
theorem aLD:aH aZ 65 c65:=Oc aKC rfl aF [(126,aGa),(127,aNz)] ⟨NW,aGb,trivial⟩ fun a=>by kernel_rfl
def pG (s:(Int×Int×Int×Int×(List (Int×Int×Int))×Int×(List (Int×Int×Int))×(List Int)×(List Bool)×(List Int)×(List (Int×Int×Int×Int×Int))×(List Int)×(List (Int×Int×Int))×(List Int))):Option (bQ (Int×Int×Int×Int×(List (Int×Int×Int))×Int×(List (Int×Int×Int))×(List Int)×(List Bool)×(List Int)×(List (Int×Int×Int×Int×Int))×(List Int)×(List (Int×Int×Int))×(List Int)) (bQ (Int×Int×Int×(List (Int×Int×Int))×Int×(List (Int×Int×Int))×(List Int)×(List Bool)×(List Int)×(List (Int×Int×Int×Int×Int))×(List Int)×(List (Int×Int×Int))×(List Int)) Int)):=
 bif decide (s.2.1<s.1) then
  (aN s.2.2.2.2.2.2.2.2.2.2.2.2.2 s.2.1).bind fun n0=>
  (aN s.2.2.2.2.2.2.2.2.2.2.2.2.2 s.1).bind fun n1=>
  bif n0==n1 then
   some (.done (.done 8))
  else
   some (.next (s.1,aA .i64 (s.2.1+1),s.2.2))
 else
  some (.done (.next (aA .i64 (s.1+1),s.2.2)))
def iF (s:(Int×Int×Int×(List (Int×Int×Int))×Int×(List (Int×Int×Int))×(List Int)×(List Bool)×(List Int)×(List (Int×Int×Int×Int×Int))×(List Int)×(List (Int×Int×Int))×(List Int))):Option (bQ (Int×Int×Int×(List (Int×Int×Int))×Int×(List (Int×Int×Int))×(List Int)×(List Bool)×(List Int)×(List (Int×Int×Int×Int×Int))×(List Int)×(List (Int×Int×Int))×(List Int)) Int):=
 bif decide (s.1<(Int.ofNat s.2.2.2.2.2.2.2.2.2.2.2.2.length)) then
  (aN s.2.2.2.2.2.2.2.2.2.2.2.2 s.1).bind fun n0=>
  (iE (Field.mk s.2.2.2.1) n0).bind fun n1=>
  bif decide (n1<0) then
   some (.done 8)
  else
   aJ pG (s.1,0,s.2)
 else
  (BF s.2.2.2.2.2.2.2.2.2.2.2.2).bind fun l2=>
  (zI (aI.mk (s.2.1,s.2.2.1) (Field.mk s.2.2.2.1) (aW.mk s.2.2.2.2.1 s.2.2.2.2.2.1) (aG.mk (aS.mk s.2.2.2.2.2.2.1 s.2.2.2.2.2.2.2.1 s.2.2.2.2.2.2.2.2.1) s.2.2.2.2.2.2.2.2.2.1 s.2.2.2.2.2.2.2.2.2.2.1) s.2.2.2.2.2.2.2.2.2.2.2.1) l2).bind fun b3=>
  bif !b3 then
   some (.done 8)
  else
   some (.done 0)
def sM (p0:dC):Option Int:=
 (vX p0.clock).bind fun n0=>
 bif n0 !=0 then
  some 8
 else
  bif (Int.ofNat p0.heap.length) !=(Int.ofNat p0.clock.field.points.length) then
   some 8
  else
   aJ iF (0,p0.clock.now.1,p0.clock.now.2,p0.clock.field.points,p0.clock.certs.next_,p0.clock.certs.list,p0.clock.agenda.slots.uses,p0.clock.agenda.slots.used,p0.clock.agenda.slots.free,p0.clock.agenda.heap,p0.clock.agenda.where_,p0.clock.due,p0.heap)
def c26:bN:=⟨aC.one (aK.agg fW),aK.int .i64,fun a=>sM a,.pure,false⟩
theorem aLE:aH aZ 26 c26:=Oc aKf rfl aF [(63,c63),(64,c64),(57,c57),(57,aLC),(65,c65)] ⟨aLB,NU,Z2,VM,aLD,trivial⟩ fun a=>by kernel_rfl
def iY (p0:aI) (p1:Int×Int):Option Int:=
 (oF p1).bind fun n0=>
 bif n0 !=0 then
  some 8
 else
  (lH p1 p0.now).bind fun n1=>
  bif decide (n1<0) then
   some 44
  else
   some 0
def c38:bN:=⟨aC.cons (aK.agg bL) (aC.one (aK.agg (cE.row hO))),aK.int .i64,fun a=>iY a.1 a.2,.pure,false⟩
theorem aLF:aH aZ 38 c38:=Oc aKm rfl aF [(55,c55),(84,c84)] ⟨S3,S4,trivial⟩ fun a=>by kernel_rfl
def vY (p0:aI) (p1:Int×Int):Option Bool:=
 bif decide (0<(Int.ofNat p0.agenda.heap.length)) then
  (aN p0.agenda.heap 0).bind fun a0=>
  (lH (a0.1,a0.2.1) p1).bind fun n1=>
  some (decide (n1<=0))
 else
  some false
def c85:bN:=⟨aC.cons (aK.agg bL) (aC.one (aK.agg (cE.row hO))),aK.bool,fun a=>vY a.1 a.2,.pure,false⟩
theorem aLG:aH aZ 85 c85:=Oc aKN rfl aF [(84,c84)] ⟨S4,trivial⟩ fun a=>by kernel_rfl
def vZ (s:(Int×Int×Int×(List (Int×Int×Int)))):Option (bQ (Int×Int×Int×(List (Int×Int×Int))) Int):=
 bif decide (s.2.1<(Int.ofNat s.2.2.2.length)) then
  (aN s.2.2.2 s.2.1).bind fun a0=>
  bif a0.1==s.1 then
   some (.done s.2.1)
  else
   some (.next (s.1,aA .i64 (s.2.1+1),s.2.2))
 else
  some (.done (-1))
def JZ (p0:aW) (p1:Int):Option Int:=
 aJ vZ (p1,0,p0.next_,p0.list)
def aNA:bN:=⟨aC.cons (aK.agg fM) (aC.one (aK.int .i64)),aK.int .i64,fun a=>JZ a.1 a.2,.pure,false⟩
theorem aGc:aH aZ 145 aNA:=Oc aDR rfl aF [] trivial fun a=>by kernel_rfl
def kA (s:(Int×Int×Int×(List (Int×Int×Int))×Int×Int×(List (Int×Int×Int)))):Option (bQ (Int×Int×Int×(List (Int×Int×Int))×Int×Int×(List (Int×Int×Int))) aW):=
 bif decide (s.2.1<(Int.ofNat s.2.2.2.1.length)) then
  (aN s.2.2.2.1 s.2.1).bind fun a0=>
  bif a0.1 !=s.1 then
   (aN s.2.2.2.1 s.2.1).bind fun a1=>
   (bT s.2.2.2.2.2.2 [a1]).bind fun l2=>
   some (.next (s.1,aA .i64 (s.2.1+1),s.2.2.1,s.2.2.2.1,s.2.2.2.2.1,s.2.2.2.2.2.1,l2))
  else
   some (.next (s.1,aA .i64 (s.2.1+1),s.2.2))
 else
  some (.done (aW.mk s.2.2.2.2.2.1 s.2.2.2.2.2.2))
def rD (p0:aW) (p1:Int):Option aW:=
 aJ kA (p1,0,p0.next_,p0.list,0,p0.next_,[])
def aNB:bN:=⟨aC.cons (aK.agg fM) (aC.one (aK.int .i64)),aK.agg fM,fun a=>rD a.1 a.2,.frz,false⟩
theorem aGd:aH aZ 187 aNB:=Oc aEp rfl aF [] trivial fun a=>by kernel_rfl
def pH (s:(Int×Int×Int×Int×(List (Int×Int×Int))×Int×(List (Int×Int×Int))×(List Int)×(List Bool)×(List Int)×(List (Int×Int×Int×Int×Int))×(List Int)×(List (Int×Int×Int)))):Option (bQ (Int×Int×Int×Int×(List (Int×Int×Int))×Int×(List (Int×Int×Int))×(List Int)×(List Bool)×(List Int)×(List (Int×Int×Int×Int×Int))×(List Int)×(List (Int×Int×Int))) Int):=
 bif decide (s.2.1<(Int.ofNat s.2.2.2.2.2.2.2.2.2.2.2.2.length)) then
  (aN s.2.2.2.2.2.2.2.2.2.2.2.2 s.2.1).bind fun a0=>
  bif a0.1==s.1 then
   some (.done s.2.1)
  else
   some (.next (s.1,aA .i64 (s.2.1+1),s.2.2))
 else
  some (.done (-1))
def oG (p0:aI) (p1:Int):Option Int:=
 aJ pH (p1,0,p0.now.1,p0.now.2,p0.field.points,p0.certs.next_,p0.certs.list,p0.agenda.slots.uses,p0.agenda.slots.used,p0.agenda.slots.free,p0.agenda.heap,p0.agenda.where_,p0.due)
def aLH:bN:=⟨aC.cons (aK.agg bL) (aC.one (aK.int .i64)),aK.int .i64,fun a=>oG a.1 a.2,.pure,false⟩
theorem VN:aH aZ 188 aLH:=Oc aEq rfl aF [] trivial fun a=>by kernel_rfl
def oH (p0:aS) (p1:Int×Int):Option aS:=
 (lX p0).bind fun r0=>
 (aN r0.used p1.1).bind fun _=>
 (bT r0.free [p1.1]).bind fun l2=>
 some (aS.mk r0.uses (bV r0.used p1.1 false) l2)
def aNC:bN:=⟨aC.cons (aK.agg fL) (aC.one (aK.agg (cE.row hO))),aK.agg fL,fun a=>oH a.1 a.2,.frz,false⟩
theorem aGe:aH aZ 221 aNC:=Oc aER rfl aF [(133,ZQ),(133,P0)] ⟨HQ,EY,trivial⟩ fun a=>by kernel_rfl
def eT (a:(Int×Int×(List Int)×(List Bool)×(List Int)×(List (Int×Int×Int×Int×Int))×(List Int))):Option ((List Int)×(List Bool)×(List Int)×(List (Int×Int×Int×Int×Int))×(List Int)):=
 (aN a.2.2.2.2.2.1 a.2.1).bind fun a0=>
 (aN a.2.2.2.2.2.1 a.1).bind fun a1=>
 (aN a.2.2.2.2.2.1 a.1).bind fun _=>
 (aN (bV a.2.2.2.2.2.1 a.1 a0) a.2.1).bind fun _=>
 (aN (bV (bV a.2.2.2.2.2.1 a.1 a0) a.2.1 a1) a.1).bind fun a4=>
 (aN (bV (bV a.2.2.2.2.2.1 a.1 a0) a.2.1 a1) a.2.1).bind fun a5=>
 (aN a.2.2.2.2.2.2 a4.2.2.2.1).bind fun _=>
 (aN (bV a.2.2.2.2.2.2 a4.2.2.2.1 a.1) a5.2.2.2.1).bind fun _=>
 bif a.2.2.1.length==a.2.2.1.length then
  bif a.2.2.2.1.length==a.2.2.2.1.length then
   bif a.2.2.2.2.1.length==a.2.2.2.2.1.length then
    bif ((bV (bV a.2.2.2.2.2.1 a.1 a0) a.2.1 a1).length)==a.2.2.2.2.2.1.length then
     bif ((bV (bV a.2.2.2.2.2.2 a4.2.2.2.1 a.1) a5.2.2.2.1 a.2.1).length)==a.2.2.2.2.2.2.length then
      some (a.2.2.1,a.2.2.2.1,a.2.2.2.2.1,bV (bV a.2.2.2.2.2.1 a.1 a0) a.2.1 a1,bV (bV a.2.2.2.2.2.2 a4.2.2.2.1 a.1) a5.2.2.2.1 a.2.1)
     else
      none
    else
     none
   else
    none
  else
   none
 else
  none
def DR:dP:=⟨[.i,.i,.l [.i .i64],.l [.b],.l [.i .i64],.l [.i .i64,.i .i64,.i .i64,.i .i64,.i .i64],.l [.i .i64]],[.agg [.own 0 false,.own 1 false,.own 2 false,.own 3 false,.own 4 false],.int .i64 0,.int .i64 0],[.arr [.i .i64] [],.arr [.b] [],.arr [.i .i64] [],.arr [.i .i64,.i .i64,.i .i64,.i .i64,.i .i64] [],.arr [.i .i64] []],[.l [.i .i64],.l [.b],.l [.i .i64],.l [.i .i64,.i .i64,.i .i64,.i .i64,.i .i64],.l [.i .i64]],.tup [],[.arr [.i .i64] [],.arr [.b] [],.arr [.i .i64] [],.arr [.i .i64,.i .i64,.i .i64,.i .i64,.i .i64] [],.arr [.i .i64] []],fun a=>eT a⟩
theorem tR:lR aZ 220 DR:=lR.of NF (wd:=false) (cx:=(pP aF [] [] [] [])) (lV.make trivial trivial trivial) (fun a=>by kernel_rfl)
def fS (a:((List Int)×(List Bool)×(List Int)×Nat×Nat×Int×Int×(List (Int×Int×Int×Int×Int))×(List Int))):Option ((List (Int×Int×Int×Int×Int))×(List Int)):=
 (aN (a.2.2.2.2.2.2.2.1.take a.2.2.2.1) a.2.2.2.2.2.2.1).bind fun a0=>
 (aN (a.2.2.2.2.2.2.2.1.take a.2.2.2.1) a.2.2.2.2.2.1).bind fun a1=>
 (aN (a.2.2.2.2.2.2.2.1.take a.2.2.2.1) a.2.2.2.2.2.1).bind fun _=>
 (aN ((bV a.2.2.2.2.2.2.2.1 a.2.2.2.2.2.1 a0).take a.2.2.2.1) a.2.2.2.2.2.2.1).bind fun _=>
 (aN ((bV (bV a.2.2.2.2.2.2.2.1 a.2.2.2.2.2.1 a0) a.2.2.2.2.2.2.1 a1).take a.2.2.2.1) a.2.2.2.2.2.1).bind fun a4=>
 (aN ((bV (bV a.2.2.2.2.2.2.2.1 a.2.2.2.2.2.1 a0) a.2.2.2.2.2.2.1 a1).take a.2.2.2.1) a.2.2.2.2.2.2.1).bind fun a5=>
 (aN a.2.2.2.2.2.2.2.2 a4.2.2.2.1).bind fun _=>
 (aN (bV a.2.2.2.2.2.2.2.2 a4.2.2.2.1 a.2.2.2.2.2.1) a5.2.2.2.1).bind fun _=>
 bif ((bV (bV a.2.2.2.2.2.2.2.1 a.2.2.2.2.2.1 a0) a.2.2.2.2.2.2.1 a1).length)==a.2.2.2.2.2.2.2.1.length then
  bif ((bV (bV a.2.2.2.2.2.2.2.2 a4.2.2.2.1 a.2.2.2.2.2.1) a5.2.2.2.1 a.2.2.2.2.2.2.1).length)==a.2.2.2.2.2.2.2.2.length then
   some (bV (bV a.2.2.2.2.2.2.2.1 a.2.2.2.2.2.1 a0) a.2.2.2.2.2.2.1 a1,bV (bV a.2.2.2.2.2.2.2.2 a4.2.2.2.1 a.2.2.2.2.2.1) a5.2.2.2.1 a.2.2.2.2.2.2.1)
  else
   none
 else
  none
def DS:dP:=⟨[.l [.i .i64],.l [.b],.l [.i .i64],.n,.n,.i,.i,.l [.i .i64,.i .i64,.i .i64,.i .i64,.i .i64],.l [.i .i64]],[.agg [.sl [.i .i64] [],.sl [.b] [],.sl [.i .i64] [],.pre 0 0 0 false,.own 1 false],.int .i64 0,.int .i64 0],[.arr [.i .i64,.i .i64,.i .i64,.i .i64,.i .i64] [],.arr [.i .i64] []],[.l [.i .i64,.i .i64,.i .i64,.i .i64,.i .i64],.l [.i .i64]],.tup [],[.arr [.i .i64,.i .i64,.i .i64,.i .i64,.i .i64] [],.arr [.i .i64] []],fun a=>fS a⟩
theorem tS:lR aZ 220 DS:=lR.of NF (wd:=false) (cx:=(pP aF [] [] [] [])) (lV.make trivial trivial trivial) (fun a=>by kernel_rfl)
def gI (c0:((List Int)×(List Bool)×(List Int)×Nat×Nat×Int×(List (Int×Int×Int×Int×Int))×(List Int))) (s:(Int×(List (Int×Int×Int×Int×Int))×(List Int)×(List Int)×(List Bool)×(List Int)×Nat×Nat)):Option (bQ (Int×(List (Int×Int×Int×Int×Int))×(List Int)×(List Int)×(List Bool)×(List Int)×Nat×Nat) (Int×(List (Int×Int×Int×Int×Int))×(List Int))):=
 bif decide (0<s.1) then
  (aN (s.2.1.take s.2.2.2.2.2.2.1) s.1).bind fun a0=>
  (aN (s.2.1.take s.2.2.2.2.2.2.1) (aA .i64 (Int.tdiv (aA .i64 (s.1-1)) 2))).bind fun a1=>
  (dS a0 a1).bind fun b2=>
  bif b2 then
   (fS (s.2.2.2.1,s.2.2.2.2.1,s.2.2.2.2.2.1,s.2.2.2.2.2.2.1,s.2.2.2.2.2.2.2,s.1,aA .i64 (Int.tdiv (aA .i64 (s.1-1)) 2),s.2.1,s.2.2.1)).bind fun a3=>
   some (.next (aA .i64 (Int.tdiv (aA .i64 (s.1-1)) 2),a3.1,a3.2,s.2.2.2))
  else
   bif s.2.1.length==c0.2.2.2.2.2.2.1.length then
    bif s.2.2.1.length==c0.2.2.2.2.2.2.2.length then
     some (.done (s.1,s.2.1,s.2.2.1))
    else
     none
   else
    none
 else
  bif s.2.1.length==c0.2.2.2.2.2.2.1.length then
   bif s.2.2.1.length==c0.2.2.2.2.2.2.2.length then
    some (.done (s.1,s.2.1,s.2.2.1))
   else
    none
  else
   none
def mC (a:((List Int)×(List Bool)×(List Int)×Nat×Nat×Int×(List (Int×Int×Int×Int×Int))×(List Int))):Option (Int×(List (Int×Int×Int×Int×Int))×(List Int)):=
 aJ (gI a) (a.2.2.2.2.2.1,a.2.2.2.2.2.2.1,a.2.2.2.2.2.2.2,a.1,a.2.1,a.2.2.1,a.2.2.2.1,a.2.2.2.2.1)
def NX:dP:=⟨[.l [.i .i64],.l [.b],.l [.i .i64],.n,.n,.i,.l [.i .i64,.i .i64,.i .i64,.i .i64,.i .i64],.l [.i .i64]],[.agg [.sl [.i .i64] [],.sl [.b] [],.sl [.i .i64] [],.pre 0 0 0 false,.own 1 false],.int .i64 0],[.arr [.i .i64,.i .i64,.i .i64,.i .i64,.i .i64] [],.arr [.i .i64] []],[.i,.l [.i .i64,.i .i64,.i .i64,.i .i64,.i .i64],.l [.i .i64]],.int .i64 0,[.arr [.i .i64,.i .i64,.i .i64,.i .i64,.i .i64] [],.arr [.i .i64] []],fun a=>mC a⟩
theorem GA:lR aZ 223 NX:=lR.of NG (wd:=true) (cx:=(pP aF [(173,S5)] [(220,DR),(220,DS)] [] [])) (lV.make ⟨B4,trivial⟩ ⟨tR,tS,trivial⟩ trivial) (fun a=>by kernel_rfl)
def jP (c0:((List Int)×(List Bool)×(List Int)×Nat×Nat×Int×(List (Int×Int×Int×Int×Int))×(List Int))) (s:(Int×(List (Int×Int×Int×Int×Int))×(List Int)×(List Int)×(List Bool)×(List Int)×Nat×Nat)):Option (bQ (Int×(List (Int×Int×Int×Int×Int))×(List Int)×(List Int)×(List Bool)×(List Int)×Nat×Nat) ((List (Int×Int×Int×Int×Int))×(List Int))):=
 bif decide ((Int.ofNat s.2.2.2.2.2.2.1)<=(aA .i64 ((aA .i64 (2*s.1))+1))) then
  bif s.2.1.length==c0.2.2.2.2.2.2.1.length then
   bif s.2.2.1.length==c0.2.2.2.2.2.2.2.length then
    some (.done (s.2.1,s.2.2.1))
   else
    none
  else
   none
 else
  bif decide ((aA .i64 ((aA .i64 ((aA .i64 (2*s.1))+1))+1))<(Int.ofNat s.2.2.2.2.2.2.1)) then
   (aN (s.2.1.take s.2.2.2.2.2.2.1) (aA .i64 ((aA .i64 ((aA .i64 (2*s.1))+1))+1))).bind fun a0=>
   (aN (s.2.1.take s.2.2.2.2.2.2.1) (aA .i64 ((aA .i64 (2*s.1))+1))).bind fun a1=>
   (dS a0 a1).bind fun b2=>
   bif b2 then
    (aN (s.2.1.take s.2.2.2.2.2.2.1) (aA .i64 ((aA .i64 ((aA .i64 (2*s.1))+1))+1))).bind fun a3=>
    (aN (s.2.1.take s.2.2.2.2.2.2.1) s.1).bind fun a4=>
    (dS a3 a4).bind fun b5=>
    bif !b5 then
     bif s.2.1.length==c0.2.2.2.2.2.2.1.length then
      bif s.2.2.1.length==c0.2.2.2.2.2.2.2.length then
       some (.done (s.2.1,s.2.2.1))
      else
       none
     else
      none
    else
     (fS (s.2.2.2.1,s.2.2.2.2.1,s.2.2.2.2.2.1,s.2.2.2.2.2.2.1,s.2.2.2.2.2.2.2,s.1,aA .i64 ((aA .i64 ((aA .i64 (2*s.1))+1))+1),s.2.1,s.2.2.1)).bind fun a6=>
     some (.next (aA .i64 ((aA .i64 ((aA .i64 (2*s.1))+1))+1),a6.1,a6.2,s.2.2.2))
   else
    (aN (s.2.1.take s.2.2.2.2.2.2.1) (aA .i64 ((aA .i64 (2*s.1))+1))).bind fun a7=>
    (aN (s.2.1.take s.2.2.2.2.2.2.1) s.1).bind fun a8=>
    (dS a7 a8).bind fun b9=>
    bif !b9 then
     bif s.2.1.length==c0.2.2.2.2.2.2.1.length then
      bif s.2.2.1.length==c0.2.2.2.2.2.2.2.length then
       some (.done (s.2.1,s.2.2.1))
      else
       none
     else
      none
    else
     (fS (s.2.2.2.1,s.2.2.2.2.1,s.2.2.2.2.2.1,s.2.2.2.2.2.2.1,s.2.2.2.2.2.2.2,s.1,aA .i64 ((aA .i64 (2*s.1))+1),s.2.1,s.2.2.1)).bind fun a10=>
     some (.next (aA .i64 ((aA .i64 (2*s.1))+1),a10.1,a10.2,s.2.2.2))
  else
   (aN (s.2.1.take s.2.2.2.2.2.2.1) (aA .i64 ((aA .i64 (2*s.1))+1))).bind fun a11=>
   (aN (s.2.1.take s.2.2.2.2.2.2.1) s.1).bind fun a12=>
   (dS a11 a12).bind fun b13=>
   bif !b13 then
    bif s.2.1.length==c0.2.2.2.2.2.2.1.length then
     bif s.2.2.1.length==c0.2.2.2.2.2.2.2.length then
      some (.done (s.2.1,s.2.2.1))
     else
      none
    else
     none
   else
    (fS (s.2.2.2.1,s.2.2.2.2.1,s.2.2.2.2.2.1,s.2.2.2.2.2.2.1,s.2.2.2.2.2.2.2,s.1,aA .i64 ((aA .i64 (2*s.1))+1),s.2.1,s.2.2.1)).bind fun a14=>
    some (.next (aA .i64 ((aA .i64 (2*s.1))+1),a14.1,a14.2,s.2.2.2))
def kB (a:((List Int)×(List Bool)×(List Int)×Nat×Nat×Int×(List (Int×Int×Int×Int×Int))×(List Int))):Option ((List (Int×Int×Int×Int×Int))×(List Int)):=
 aJ (jP a) (a.2.2.2.2.2.1,a.2.2.2.2.2.2.1,a.2.2.2.2.2.2.2,a.1,a.2.1,a.2.2.1,a.2.2.2.1,a.2.2.2.2.1)
def S6:dP:=⟨[.l [.i .i64],.l [.b],.l [.i .i64],.n,.n,.i,.l [.i .i64,.i .i64,.i .i64,.i .i64,.i .i64],.l [.i .i64]],[.agg [.sl [.i .i64] [],.sl [.b] [],.sl [.i .i64] [],.pre 0 0 0 false,.own 1 false],.int .i64 0],[.arr [.i .i64,.i .i64,.i .i64,.i .i64,.i .i64] [],.arr [.i .i64] []],[.l [.i .i64,.i .i64,.i .i64,.i .i64,.i .i64],.l [.i .i64]],.tup [],[.arr [.i .i64,.i .i64,.i .i64,.i .i64,.i .i64] [],.arr [.i .i64] []],fun a=>kB a⟩
theorem L8:lR aZ 222 S6:=lR.of UZ (wd:=false) (cx:=(pP aF [(173,S5)] [(220,DR),(220,DS)] [] [])) (lV.make ⟨B4,trivial⟩ ⟨tR,tS,trivial⟩ trivial) (fun a=>by kernel_rfl)
def jF (p0:aG) (p1:Int×Int):Option aG:=
 (kO p0).bind fun r0=>
 (aN r0.where_ p1.1).bind fun n1=>
 bif n1 !=(aA .i64 ((Int.ofNat r0.heap.length) -1)) then
  (eT (n1,aA .i64 ((Int.ofNat r0.heap.length) -1),r0.slots.uses,r0.slots.used,r0.slots.free,r0.heap,r0.where_)).bind fun a2=>
  (jB a2.2.2.2.1 0 (aA .i64 ((Int.ofNat r0.heap.length) -1))).bind fun _=>
  (aN a2.2.2.2.2 p1.1).bind fun _=>
  (oH (aS.mk a2.1 a2.2.1 a2.2.2.1) p1).bind fun r5=>
  bif n1 !=(aA .i64 ((Int.ofNat r0.heap.length) -1)) then
   (mC (r5.uses,r5.used,r5.free,(aA .i64 ((Int.ofNat r0.heap.length) -1)).toNat,a2.2.2.2.1.length,n1,a2.2.2.2.1,bV a2.2.2.2.2 p1.1 (-1))).bind fun a6=>
   (kB (r5.uses,r5.used,r5.free,(aA .i64 ((Int.ofNat r0.heap.length) -1)).toNat,a2.2.2.2.1.length,a6)).bind fun a7=>
   some (aG.mk r5 (a7.1.take ((aA .i64 ((Int.ofNat r0.heap.length) -1)).toNat)) a7.2)
  else
   some (aG.mk r5 (a2.2.2.2.1.take ((aA .i64 ((Int.ofNat r0.heap.length) -1)).toNat)) (bV a2.2.2.2.2 p1.1 (-1)))
 else
  (jB r0.heap 0 (aA .i64 ((Int.ofNat r0.heap.length) -1))).bind fun _=>
  (aN r0.where_ p1.1).bind fun _=>
  (oH r0.slots p1).bind fun r10=>
  bif n1 !=(aA .i64 ((Int.ofNat r0.heap.length) -1)) then
   (mC (r10.uses,r10.used,r10.free,(aA .i64 ((Int.ofNat r0.heap.length) -1)).toNat,r0.heap.length,n1,r0.heap,bV r0.where_ p1.1 (-1))).bind fun a11=>
   (kB (r10.uses,r10.used,r10.free,(aA .i64 ((Int.ofNat r0.heap.length) -1)).toNat,r0.heap.length,a11)).bind fun a12=>
   some (aG.mk r10 (a12.1.take ((aA .i64 ((Int.ofNat r0.heap.length) -1)).toNat)) a12.2)
  else
   some (aG.mk r10 (r0.heap.take ((aA .i64 ((Int.ofNat r0.heap.length) -1)).toNat)) (bV r0.where_ p1.1 (-1)))
def aLI:bN:=⟨aC.cons (aK.agg cN) (aC.one (aK.agg (cE.row hO))),aK.agg cN,fun a=>jF a.1 a.2,.frz,false⟩
theorem VO:aH aZ 189 aLI:=aH.of aEr (cx:=(pP aF [(74,c74),(74,W9),(221,aNC)] [(220,DR),(220,DS),(223,NX),(222,S6)] [] [])) rfl (lV.make ⟨JX,EZ,aGe,trivial⟩ ⟨tR,tS,GA,L8,trivial⟩ trivial) (fun a=>by kernel_rfl)
def nS (p0:aI) (p1:Int):Option aI:=
 (gP p0).bind fun r0=>
 (rD p0.certs p1).bind fun r1=>
 (oG p0 p1).bind fun n2=>
 bif decide (0<=n2) then
  (aN p0.due n2).bind fun a3=>
  (jF p0.agenda a3.2).bind fun r4=>
  (jB p0.due 0 n2).bind fun l5=>
  (cK l5).bind fun l6=>
  (jB p0.due (aA .i64 (n2+1)) (Int.ofNat p0.due.length)).bind fun l7=>
  bif l7.isEmpty then
   some (aI.mk r0.now r0.field r1 r4 l6)
  else
   (bT l6 l7).bind fun l8=>
   some (aI.mk r0.now r0.field r1 r4 l8)
 else
  some (aI.mk r0.now r0.field r1 r0.agenda r0.due)
def aLJ:bN:=⟨aC.cons (aK.agg bL) (aC.one (aK.int .i64)),aK.agg bL,fun a=>nS a.1 a.2,.frz,false⟩
theorem VP:aH aZ 146 aLJ:=Oc aDS rfl aF [(32,c32),(32,P1),(187,aNB),(188,aLH),(189,aLI)] ⟨DO,yZ,aGd,VN,VO,trivial⟩ fun a=>by kernel_rfl
def pI (p0:aI):Option (aI×(Int×Int×Int×Int×Int)×(Int×Int)):=
 (aN p0.agenda.heap 0).bind fun a0=>
 (JZ p0.certs a0.2.2.1).bind fun n1=>
 (aN p0.certs.list n1).bind fun a2=>
 (nS p0 a0.2.2.1).bind fun r3=>
 some (aI.mk (a0.1,a0.2.1) r3.field r3.certs r3.agenda r3.due,a0,a2.2)
def c86:bN:=⟨aC.one (aK.agg bL),aK.tup (aC.cons (aK.agg bL) (aC.cons (aK.agg (cE.row jV)) (aC.one (aK.agg (cE.row hO))))),fun a=>pI a,.frz,false⟩
theorem aLK:aH aZ 86 c86:=Oc aKO rfl aF [(145,aNA),(146,aLJ)] ⟨aGc,VP,trivial⟩ fun a=>by kernel_rfl
def pJ (s:((List Int)×Int×Int)):Option (bQ ((List Int)×Int×Int) Int):=
 bif decide (s.2.2<(Int.ofNat s.1.length)) then
  (aN s.1 s.2.2).bind fun n0=>
  bif n0==s.2.1 then
   some (.done s.2.2)
  else
   some (.next (s.1,s.2.1,aA .i64 (s.2.2+1)))
 else
  some (.done (-1))
def mD (p0:List Int) (p1:Int):Option Int:=
 aJ pJ (p0,p1,0)
def c47:bN:=⟨aC.cons (aK.sl ki) (aC.one (aK.int .i64)),aK.int .i64,fun a=>mD a.1 a.2,.pure,false⟩
theorem aLL:aH aZ 47 c47:=Oc aKr rfl aF [] trivial fun a=>by kernel_rfl
def wB (s:((List (Int×Int))×Int×Int×Int)):Option (bQ ((List (Int×Int))×Int×Int×Int) Bool):=
 bif decide (s.2.1<(Int.ofNat s.1.length)) then
  (aN s.1 s.2.1).bind fun a0=>
  bif (a0.1==s.2.2.1)&&(a0.2==s.2.2.2) then
   some (.done true)
  else
   some (.next (s.1,aA .i64 (s.2.1+1),s.2.2))
 else
  some (.done false)
def E2 (p0:List (Int×Int)) (p1:Int×Int):Option Bool:=
 aJ wB (p0,0,p1)
def aND:bN:=⟨aC.cons (aK.sl hO) (aC.one (aK.agg (cE.row hO))),aK.bool,fun a=>E2 a.1 a.2,.pure,false⟩
theorem aGf:aH aZ 147 aND:=Oc aDT rfl aF [] trivial fun a=>by kernel_rfl
def rE (s:(Int×(List (Int×Int×Int))×(List (Int×Int×Int)))):Option (bQ (Int×(List (Int×Int×Int))×(List (Int×Int×Int))) Bool):=
 bif decide (s.1<(Int.ofNat s.2.1.length)) then
  (aN s.2.1 s.1).bind fun a0=>
  (aN s.2.2 s.1).bind fun a1=>
  bif !((a0.1==a1.1)&&((a0.2.1==a1.2.1)&&(a0.2.2==a1.2.2))) then
   some (.done false)
  else
   some (.next (aA .i64 (s.1+1),s.2))
 else
  some (.done true)
def uM (p0:Field) (p1:Field):Option Bool:=
 bif (Int.ofNat p0.points.length) !=(Int.ofNat p1.points.length) then
  some false
 else
  aJ rE (0,p0.points,p1.points)
def c89:bN:=⟨aC.cons (aK.agg eD) (aC.one (aK.agg eD)),aK.bool,fun a=>uM a.1 a.2,.pure,false⟩
theorem Z3:aH aZ 89 c89:=Oc aKR rfl aF [] trivial fun a=>by kernel_rfl
def gJ (c0:(Int×(List Int)×(List Bool)×(List Int)×(List (Int×Int×Int×Int×Int))×(List Int))) (s:(Int×(List Int)×(List Bool)×(List Int)×(List (Int×Int×Int×Int×Int))×(List Int))):Option (bQ (Int×(List Int)×(List Bool)×(List Int)×(List (Int×Int×Int×Int×Int))×(List Int)) (Int×(List Int)×(List Bool)×(List Int)×(List (Int×Int×Int×Int×Int))×(List Int))):=
 bif decide (0<s.1) then
  (aN s.2.2.2.2.1 s.1).bind fun a0=>
  (aN s.2.2.2.2.1 (aA .i64 (Int.tdiv (aA .i64 (s.1-1)) 2))).bind fun a1=>
  (dS a0 a1).bind fun b2=>
  bif b2 then
   (eT (s.1,aA .i64 (Int.tdiv (aA .i64 (s.1-1)) 2),s.2)).bind fun a3=>
   some (.next (aA .i64 (Int.tdiv (aA .i64 (s.1-1)) 2),a3))
  else
   bif s.2.1.length==c0.2.1.length then
    bif s.2.2.1.length==c0.2.2.1.length then
     bif s.2.2.2.1.length==c0.2.2.2.1.length then
      bif s.2.2.2.2.1.length==c0.2.2.2.2.1.length then
       bif s.2.2.2.2.2.length==c0.2.2.2.2.2.length then
        some (.done s)
       else
        none
      else
       none
     else
      none
    else
     none
   else
    none
 else
  bif s.2.1.length==c0.2.1.length then
   bif s.2.2.1.length==c0.2.2.1.length then
    bif s.2.2.2.1.length==c0.2.2.2.1.length then
     bif s.2.2.2.2.1.length==c0.2.2.2.2.1.length then
      bif s.2.2.2.2.2.length==c0.2.2.2.2.2.length then
       some (.done s)
      else
       none
     else
      none
    else
     none
   else
    none
  else
   none
def pK (a:(Int×(List Int)×(List Bool)×(List Int)×(List (Int×Int×Int×Int×Int))×(List Int))):Option (Int×(List Int)×(List Bool)×(List Int)×(List (Int×Int×Int×Int×Int))×(List Int)):=
 aJ (gJ a) a
def S7:dP:=⟨[.i,.l [.i .i64],.l [.b],.l [.i .i64],.l [.i .i64,.i .i64,.i .i64,.i .i64,.i .i64],.l [.i .i64]],[.agg [.own 0 false,.own 1 false,.own 2 false,.own 3 false,.own 4 false],.int .i64 0],[.arr [.i .i64] [],.arr [.b] [],.arr [.i .i64] [],.arr [.i .i64,.i .i64,.i .i64,.i .i64,.i .i64] [],.arr [.i .i64] []],[.i,.l [.i .i64],.l [.b],.l [.i .i64],.l [.i .i64,.i .i64,.i .i64,.i .i64,.i .i64],.l [.i .i64]],.int .i64 0,[.arr [.i .i64] [],.arr [.b] [],.arr [.i .i64] [],.arr [.i .i64,.i .i64,.i .i64,.i .i64,.i .i64] [],.arr [.i .i64] []],fun a=>pK a⟩
theorem L9:lR aZ 223 S7:=lR.of NG (wd:=false) (cx:=(pP aF [(173,S5)] [(220,DR),(220,DS)] [] [])) (lV.make ⟨B4,trivial⟩ ⟨tR,tS,trivial⟩ trivial) (fun a=>by kernel_rfl)
def jQ (c0:(Int×(List Int)×(List Bool)×(List Int)×(List (Int×Int×Int×Int×Int))×(List Int))) (s:(Int×(List Int)×(List Bool)×(List Int)×(List (Int×Int×Int×Int×Int))×(List Int))):Option (bQ (Int×(List Int)×(List Bool)×(List Int)×(List (Int×Int×Int×Int×Int))×(List Int)) ((List Int)×(List Bool)×(List Int)×(List (Int×Int×Int×Int×Int))×(List Int))):=
 bif decide ((Int.ofNat s.2.2.2.2.1.length)<=(aA .i64 ((aA .i64 (2*s.1))+1))) then
  bif s.2.1.length==c0.2.1.length then
   bif s.2.2.1.length==c0.2.2.1.length then
    bif s.2.2.2.1.length==c0.2.2.2.1.length then
     bif s.2.2.2.2.1.length==c0.2.2.2.2.1.length then
      bif s.2.2.2.2.2.length==c0.2.2.2.2.2.length then
       some (.done s.2)
      else
       none
     else
      none
    else
     none
   else
    none
  else
   none
 else
  bif decide ((aA .i64 ((aA .i64 ((aA .i64 (2*s.1))+1))+1))<(Int.ofNat s.2.2.2.2.1.length)) then
   (aN s.2.2.2.2.1 (aA .i64 ((aA .i64 ((aA .i64 (2*s.1))+1))+1))).bind fun a0=>
   (aN s.2.2.2.2.1 (aA .i64 ((aA .i64 (2*s.1))+1))).bind fun a1=>
   (dS a0 a1).bind fun b2=>
   bif b2 then
    (aN s.2.2.2.2.1 (aA .i64 ((aA .i64 ((aA .i64 (2*s.1))+1))+1))).bind fun a3=>
    (aN s.2.2.2.2.1 s.1).bind fun a4=>
    (dS a3 a4).bind fun b5=>
    bif !b5 then
     bif s.2.1.length==c0.2.1.length then
      bif s.2.2.1.length==c0.2.2.1.length then
       bif s.2.2.2.1.length==c0.2.2.2.1.length then
        bif s.2.2.2.2.1.length==c0.2.2.2.2.1.length then
         bif s.2.2.2.2.2.length==c0.2.2.2.2.2.length then
          some (.done s.2)
         else
          none
        else
         none
       else
        none
      else
       none
     else
      none
    else
     (eT (s.1,aA .i64 ((aA .i64 ((aA .i64 (2*s.1))+1))+1),s.2)).bind fun a6=>
     some (.next (aA .i64 ((aA .i64 ((aA .i64 (2*s.1))+1))+1),a6))
   else
    (aN s.2.2.2.2.1 (aA .i64 ((aA .i64 (2*s.1))+1))).bind fun a7=>
    (aN s.2.2.2.2.1 s.1).bind fun a8=>
    (dS a7 a8).bind fun b9=>
    bif !b9 then
     bif s.2.1.length==c0.2.1.length then
      bif s.2.2.1.length==c0.2.2.1.length then
       bif s.2.2.2.1.length==c0.2.2.2.1.length then
        bif s.2.2.2.2.1.length==c0.2.2.2.2.1.length then
         bif s.2.2.2.2.2.length==c0.2.2.2.2.2.length then
          some (.done s.2)
         else
          none
        else
         none
       else
        none
      else
       none
     else
      none
    else
     (eT (s.1,aA .i64 ((aA .i64 (2*s.1))+1),s.2)).bind fun a10=>
     some (.next (aA .i64 ((aA .i64 (2*s.1))+1),a10))
  else
   (aN s.2.2.2.2.1 (aA .i64 ((aA .i64 (2*s.1))+1))).bind fun a11=>
   (aN s.2.2.2.2.1 s.1).bind fun a12=>
   (dS a11 a12).bind fun b13=>
   bif !b13 then
    bif s.2.1.length==c0.2.1.length then
     bif s.2.2.1.length==c0.2.2.1.length then
      bif s.2.2.2.1.length==c0.2.2.2.1.length then
       bif s.2.2.2.2.1.length==c0.2.2.2.2.1.length then
        bif s.2.2.2.2.2.length==c0.2.2.2.2.2.length then
         some (.done s.2)
        else
         none
       else
        none
      else
       none
     else
      none
    else
     none
   else
    (eT (s.1,aA .i64 ((aA .i64 (2*s.1))+1),s.2)).bind fun a14=>
    some (.next (aA .i64 ((aA .i64 (2*s.1))+1),a14))
def mM (a:(Int×(List Int)×(List Bool)×(List Int)×(List (Int×Int×Int×Int×Int))×(List Int))):Option ((List Int)×(List Bool)×(List Int)×(List (Int×Int×Int×Int×Int))×(List Int)):=
 aJ (jQ a) a
def Z4:dP:=⟨[.i,.l [.i .i64],.l [.b],.l [.i .i64],.l [.i .i64,.i .i64,.i .i64,.i .i64,.i .i64],.l [.i .i64]],[.agg [.own 0 false,.own 1 false,.own 2 false,.own 3 false,.own 4 false],.int .i64 0],[.arr [.i .i64] [],.arr [.b] [],.arr [.i .i64] [],.arr [.i .i64,.i .i64,.i .i64,.i .i64,.i .i64] [],.arr [.i .i64] []],[.l [.i .i64],.l [.b],.l [.i .i64],.l [.i .i64,.i .i64,.i .i64,.i .i64,.i .i64],.l [.i .i64]],.tup [],[.arr [.i .i64] [],.arr [.b] [],.arr [.i .i64] [],.arr [.i .i64,.i .i64,.i .i64,.i .i64,.i .i64] [],.arr [.i .i64] []],fun a=>mM a⟩
theorem XE:lR aZ 222 Z4:=lR.of UZ (wd:=false) (cx:=(pP aF [(173,S5)] [(220,DR),(220,DS)] [] [])) (lV.make ⟨B4,trivial⟩ ⟨tR,tS,trivial⟩ trivial) (fun a=>by kernel_rfl)
def rF (p0:aG) (p1:Int×Int) (p2:Int×Int):Option aG:=
 (kO p0).bind fun r0=>
 (aN r0.where_ p1.1).bind fun n1=>
 (aN r0.heap n1).bind fun a2=>
 (pK (n1,r0.slots.uses,r0.slots.used,r0.slots.free,bV r0.heap n1 (p2.1,p2.2,a2.2.2),r0.where_)).bind fun a3=>
 (mM a3).bind fun a4=>
 some (aG.mk (aS.mk a4.1 a4.2.1 a4.2.2.1) a4.2.2.2.1 a4.2.2.2.2)
def aNE:bN:=⟨aC.cons (aK.agg cN) (aC.cons (aK.agg (cE.row hO)) (aC.one (aK.agg (cE.row hO)))),aK.agg cN,fun a=>rF a.1 a.2.1 a.2.2,.frz,false⟩
theorem aGg:aH aZ 190 aNE:=aH.of aEs (cx:=(pP aF [(74,c74),(74,W9)] [(223,NX),(222,S6),(223,S7),(222,Z4)] [] [])) rfl (lV.make ⟨JX,EZ,trivial⟩ ⟨GA,L8,L9,XE,trivial⟩ trivial) (fun a=>by kernel_rfl)
def fT (p0:aS):Option Bool:=
 bif decide (0<(Int.ofNat p0.free.length)) then
  (aN p0.free (aA .i64 ((Int.ofNat p0.free.length) -1))).bind fun n0=>
  (aN p0.uses n0).bind fun n1=>
  some (decide (n1<1000000))
 else
  some false
def aLM:bN:=⟨aC.one (aK.agg fL),aK.bool,fun a=>fT a,.pure,false⟩
theorem VQ:aH aZ 191 aLM:=Oc aEt rfl aF [] trivial fun a=>by kernel_rfl
def wC (p0:aS):Option (aS×(Int×Int)):=
 (lX p0).bind fun r0=>
 (aN r0.free (aA .i64 ((Int.ofNat r0.free.length) -1))).bind fun n1=>
 (jB r0.free 0 (aA .i64 ((Int.ofNat r0.free.length) -1))).bind fun _=>
 (aN r0.uses n1).bind fun n3=>
 (aN r0.uses n1).bind fun _=>
 (aN r0.used n1).bind fun _=>
 (aN (bV r0.uses n1 (aA .i64 (n3+1))) n1).bind fun n6=>
 some (aS.mk (bV r0.uses n1 (aA .i64 (n3+1))) (bV r0.used n1 true) (r0.free.take ((aA .i64 ((Int.ofNat r0.free.length) -1)).toNat)),n1,n6)
def aNF:bN:=⟨aC.one (aK.agg fL),aK.tup (aC.cons (aK.agg fL) (aC.one (aK.agg (cE.row hO)))),fun a=>wC a,.frz,false⟩
theorem aGh:aH aZ 224 aNF:=Oc aES rfl aF [(133,ZQ),(133,P0)] ⟨HQ,EY,trivial⟩ fun a=>by kernel_rfl
def mN (a:((List Int)×(List Bool)×(List Int)×Int×Int×(List (Int×Int×Int×Int×Int))×(List Int))):Option ((List (Int×Int×Int×Int×Int))×(List Int)):=
 (aN a.2.2.2.2.2.1 a.2.2.2.2.1).bind fun a0=>
 (aN a.2.2.2.2.2.1 a.2.2.2.1).bind fun a1=>
 (aN a.2.2.2.2.2.1 a.2.2.2.1).bind fun _=>
 (aN (bV a.2.2.2.2.2.1 a.2.2.2.1 a0) a.2.2.2.2.1).bind fun _=>
 (aN (bV (bV a.2.2.2.2.2.1 a.2.2.2.1 a0) a.2.2.2.2.1 a1) a.2.2.2.1).bind fun a4=>
 (aN (bV (bV a.2.2.2.2.2.1 a.2.2.2.1 a0) a.2.2.2.2.1 a1) a.2.2.2.2.1).bind fun a5=>
 (aN a.2.2.2.2.2.2 a4.2.2.2.1).bind fun _=>
 (aN (bV a.2.2.2.2.2.2 a4.2.2.2.1 a.2.2.2.1) a5.2.2.2.1).bind fun _=>
 bif ((bV (bV a.2.2.2.2.2.1 a.2.2.2.1 a0) a.2.2.2.2.1 a1).length)==a.2.2.2.2.2.1.length then
  bif ((bV (bV a.2.2.2.2.2.2 a4.2.2.2.1 a.2.2.2.1) a5.2.2.2.1 a.2.2.2.2.1).length)==a.2.2.2.2.2.2.length then
   some (bV (bV a.2.2.2.2.2.1 a.2.2.2.1 a0) a.2.2.2.2.1 a1,bV (bV a.2.2.2.2.2.2 a4.2.2.2.1 a.2.2.2.1) a5.2.2.2.1 a.2.2.2.2.1)
  else
   none
 else
  none
def Z5:dP:=⟨[.l [.i .i64],.l [.b],.l [.i .i64],.i,.i,.l [.i .i64,.i .i64,.i .i64,.i .i64,.i .i64],.l [.i .i64]],[.agg [.sl [.i .i64] [],.sl [.b] [],.sl [.i .i64] [],.own 0 false,.own 1 false],.int .i64 0,.int .i64 0],[.arr [.i .i64,.i .i64,.i .i64,.i .i64,.i .i64] [],.arr [.i .i64] []],[.l [.i .i64,.i .i64,.i .i64,.i .i64,.i .i64],.l [.i .i64]],.tup [],[.arr [.i .i64,.i .i64,.i .i64,.i .i64,.i .i64] [],.arr [.i .i64] []],fun a=>mN a⟩
theorem XF:lR aZ 220 Z5:=lR.of NF (wd:=false) (cx:=(pP aF [] [] [] [])) (lV.make trivial trivial trivial) (fun a=>by kernel_rfl)
def gK (c0:((List Int)×(List Bool)×(List Int)×Int×(List (Int×Int×Int×Int×Int))×(List Int))) (s:(Int×(List (Int×Int×Int×Int×Int))×(List Int)×(List Int)×(List Bool)×(List Int))):Option (bQ (Int×(List (Int×Int×Int×Int×Int))×(List Int)×(List Int)×(List Bool)×(List Int)) (Int×(List (Int×Int×Int×Int×Int))×(List Int))):=
 bif decide (0<s.1) then
  (aN s.2.1 s.1).bind fun a0=>
  (aN s.2.1 (aA .i64 (Int.tdiv (aA .i64 (s.1-1)) 2))).bind fun a1=>
  (dS a0 a1).bind fun b2=>
  bif b2 then
   (mN (s.2.2.2.1,s.2.2.2.2.1,s.2.2.2.2.2,s.1,aA .i64 (Int.tdiv (aA .i64 (s.1-1)) 2),s.2.1,s.2.2.1)).bind fun a3=>
   some (.next (aA .i64 (Int.tdiv (aA .i64 (s.1-1)) 2),a3.1,a3.2,s.2.2.2))
  else
   bif s.2.1.length==c0.2.2.2.2.1.length then
    bif s.2.2.1.length==c0.2.2.2.2.2.length then
     some (.done (s.1,s.2.1,s.2.2.1))
    else
     none
   else
    none
 else
  bif s.2.1.length==c0.2.2.2.2.1.length then
   bif s.2.2.1.length==c0.2.2.2.2.2.length then
    some (.done (s.1,s.2.1,s.2.2.1))
   else
    none
  else
   none
def pL (a:((List Int)×(List Bool)×(List Int)×Int×(List (Int×Int×Int×Int×Int))×(List Int))):Option (Int×(List (Int×Int×Int×Int×Int))×(List Int)):=
 aJ (gK a) (a.2.2.2.1,a.2.2.2.2.1,a.2.2.2.2.2,a.1,a.2.1,a.2.2.1)
def Z6:dP:=⟨[.l [.i .i64],.l [.b],.l [.i .i64],.i,.l [.i .i64,.i .i64,.i .i64,.i .i64,.i .i64],.l [.i .i64]],[.agg [.sl [.i .i64] [],.sl [.b] [],.sl [.i .i64] [],.own 0 false,.own 1 false],.int .i64 0],[.arr [.i .i64,.i .i64,.i .i64,.i .i64,.i .i64] [],.arr [.i .i64] []],[.i,.l [.i .i64,.i .i64,.i .i64,.i .i64,.i .i64],.l [.i .i64]],.int .i64 0,[.arr [.i .i64,.i .i64,.i .i64,.i .i64,.i .i64] [],.arr [.i .i64] []],fun a=>pL a⟩
theorem XG:lR aZ 223 Z6:=lR.of NG (wd:=true) (cx:=(pP aF [(173,S5)] [(220,DR),(220,DS),(220,Z5)] [] [])) (lV.make ⟨B4,trivial⟩ ⟨tR,tS,XF,trivial⟩ trivial) (fun a=>by kernel_rfl)
def dX (p0:aG) (p1:Int×Int) (p2:Int):Option (aG×(Int×Int)):=
 (kO p0).bind fun r0=>
 (wC r0.slots).bind fun a1=>
 (bT r0.heap [(p1.1,p1.2,p2,a1.2)]).bind fun l2=>
 (aN r0.where_ a1.2.1).bind fun _=>
 (pL (a1.1.uses,a1.1.used,a1.1.free,aA .i64 ((Int.ofNat l2.length) -1),l2,bV r0.where_ a1.2.1 (aA .i64 ((Int.ofNat l2.length) -1)))).bind fun a4=>
 some (aG.mk a1.1 a4.2.1 a4.2.2,a1.2)
def aLN:bN:=⟨aC.cons (aK.agg cN) (aC.cons (aK.agg (cE.row hO)) (aC.one (aK.int .i64))),aK.tup (aC.cons (aK.agg cN) (aC.one (aK.agg (cE.row hO)))),fun a=>dX a.1 a.2.1 a.2.2,.frz,false⟩
theorem VS:aH aZ 192 aLN:=aH.of aEu (cx:=(pP aF [(74,c74),(74,W9),(224,aNF)] [(223,NX),(223,S7),(223,Z6)] [] [])) rfl (lV.make ⟨JX,EZ,aGh,trivial⟩ ⟨GA,L9,XG,trivial⟩ trivial) (fun a=>by kernel_rfl)
end
end Go.Proofs.YtmlghnibpjlchaaGreat
