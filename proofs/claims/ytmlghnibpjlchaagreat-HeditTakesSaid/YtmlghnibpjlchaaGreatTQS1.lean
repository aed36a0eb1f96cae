/- Plain functions for what the functions of the seat compute. Printed by a program. -/
import Derived.Test.YtmlghnibpjlchaaGreatTVm3
import Derived.Test.YtmlghnibpjlchaaGreatTQXT
set_option maxRecDepth 100000
namespace Go.Proofs.YtmlghnibpjlchaaGreat
open Go.Vm
noncomputable section
theorem Oc {f:FuncId} {x:aO} {α β:Type} {args:aD α} {res:aM β} {kd:Kd} {fn:α->Option β} {ow:Bool} (hf:aX f=some (.code x)) (ho:aBY kd ow=true) (lp:Option Nat) (l:List (Nat×bM)) (h:ES aX l) (e: ∀a,aH7 (oN lp l [] [] []) x args res kd a=fn a):aK aX f ⟨args,res,fn,kd,ow⟩:=aK.of hf (cx:=oN lp l [] [] []) ho (lX.make h trivial trivial) e
abbrev fL:List PT:=[.i .i64,.i .i64,.i .i64]
abbrev ki:List PT:=[.i .i64]
abbrev kb:List PT:=[.b]
abbrev lK:List PT:=[.i .i64,.i .i64,.i .i64,.i .i64,.i .i64]
abbrev jY:List PT:=[.i .i64,.i .i64]
abbrev B6:List PT:=[.b,.i .u64,.i .u64]
abbrev aNZ:List PT:=[.i .i64,.i .i64,.i .i64,.i .i64]
abbrev kiu:List PT:=[.i .i64,.i .u64]
structure Field where
 points:List (Int×Int×Int)
def cA:cR Field:=cR.iso (cR.sl fL) (fun p=>⟨p⟩) (fun c=>c.points) (fun _=>rfl)
structure aQ where
 uses:List Int
 used:List Bool
 free:List Int
def gC:cR aQ:=cR.iso (cR.prod (cR.sl ki) (cR.prod (cR.sl kb) (cR.sl ki))) (fun p=>⟨p.1,p.2.1,p.2.2⟩) (fun c=>(c.uses,c.used,c.free)) (fun _=>rfl)
structure aG where
 slots:aQ
 heap:List (Int×Int×Int×Int×Int)
 where_:List Int
def cZ:cR aG:=cR.iso (cR.prod gC (cR.prod (cR.sl lK) (cR.sl ki))) (fun p=>⟨p.1,p.2.1,p.2.2⟩) (fun c=>(c.slots,c.heap,c.where_)) (fun _=>rfl)
structure aU where
 next_:Int
 list:List (Int×Int×Int)
def gK:cR aU:=cR.iso (cR.prod (cR.int .i64) (cR.sl fL)) (fun p=>⟨p.1,p.2⟩) (fun c=>(c.next_,c.list)) (fun _=>rfl)
structure aP where
 now:Int×Int
 field:Field
 certs:aU
 agenda:aG
 due:List (Int×Int×Int)
def bR:cR aP:=cR.iso (cR.prod (cR.row jY) (cR.prod cA (cR.prod gK (cR.prod cZ (cR.sl fL))))) (fun p=>⟨p.1,p.2.1,p.2.2.1,p.2.2.2.1,p.2.2.2.2⟩) (fun c=>(c.now,c.field,c.certs,c.agenda,c.due)) (fun _=>rfl)
structure dH where
 clock:aP
 heap:List Int
def iC:cR dH:=cR.iso (cR.prod bR (cR.sl ki)) (fun p=>⟨p.1,p.2⟩) (fun c=>(c.clock,c.heap)) (fun _=>rfl)
def tD (p0:Field):Option Bool:=
 bif decide (16<(Int.ofNat p0.points.length)) then
  bif decide ((Int.ofNat p0.points.length)<64) then
   some true
  else
   some (decide (70<(Int.ofNat p0.points.length)))
 else
  some (decide (70<(Int.ofNat p0.points.length)))
def c16:bM:=⟨aD.one (aM.agg cA),aM.bool,fun a=>tD a,.pure,false⟩
theorem aMi:aK aX 16 c16:=Oc aLw rfl aF [] trivial fun a=>by kernel_rfl
def B7 (p0:aQ):Option Bool:=
 bif decide (210<(Int.ofNat p0.uses.length)) then
  some true
 else
  bif decide (210<(Int.ofNat p0.used.length)) then
   some true
  else
   some (decide (210<(Int.ofNat p0.free.length)))
def aN0:bM:=⟨aD.one (aM.agg gC),aM.bool,fun a=>B7 a,.pure,false⟩
theorem aF5:aK aX 132 aN0:=Oc aEB rfl aF [] trivial fun a=>by kernel_rfl
def B8 (p0:aG):Option Bool:=
 (B7 p0.slots).bind fun b0=>
 bif b0 then
  some true
 else
  bif decide (210<(Int.ofNat p0.heap.length)) then
   some true
  else
   some (decide (210<(Int.ofNat p0.where_.length)))
def c71:bM:=⟨aD.one (aM.agg cZ),aM.bool,fun a=>B8 a,.pure,false⟩
theorem aMj:aK aX 71 c71:=Oc aLY rfl aF [(132,aN0)] ⟨aF5,trivial⟩ fun a=>by kernel_rfl
def tE (p0:aP):Option Bool:=
 bif decide (40<(Int.ofNat p0.certs.list.length)) then
  some true
 else
  bif decide (40<(Int.ofNat p0.due.length)) then
   some true
  else
   (tD p0.field).bind fun b0=>
   bif b0 then
    some true
   else
    (B8 p0.agenda).bind fun b1=>
    some b1
def c31:bM:=⟨aD.one (aM.agg bR),aM.bool,fun a=>tE a,.pure,false⟩
theorem aMk:aK aX 31 c31:=Oc aLz rfl aF [(16,c16),(71,c71)] ⟨aMi,aMj,trivial⟩ fun a=>by kernel_rfl
def tF (p0:dH):Option Bool:=
 (tE p0.clock).bind fun b0=>
 bif b0 then
  some true
 else
  some (decide (70<(Int.ofNat p0.heap.length)))
def c7:bM:=⟨aD.one (aM.agg iC),aM.bool,fun a=>tF a,.pure,false⟩
theorem aN1:aK aX 7 c7:=Oc aNY rfl aF [(31,c31)] ⟨aMk,trivial⟩ fun a=>by kernel_rfl
def oP (p0:Field):Option Field:=
 (bO p0.points).bind fun l0=>
 some (Field.mk l0)
def c72:bM:=⟨aD.one (aM.agg cA),aM.agg cA,fun a=>oP a,.own,true⟩
def aF6:bM:=⟨aD.one (aM.agg cA),aM.agg cA,fun a=>oP a,.frz,false⟩
theorem T6:aK aX 72 c72:=Oc aAs rfl aF [] trivial fun a=>by kernel_rfl
theorem OS:aK aX 72 aF6:=Oc aAs rfl aF [] trivial fun a=>by kernel_rfl
def oQ (p0:aU):Option aU:=
 (bO p0.list).bind fun l0=>
 some (aU.mk p0.next_ l0)
def c73:bM:=⟨aD.one (aM.agg gK),aM.agg gK,fun a=>oQ a,.own,true⟩
def aF7:bM:=⟨aD.one (aM.agg gK),aM.agg gK,fun a=>oQ a,.frz,false⟩
theorem T7:aK aX 73 c73:=Oc aAt rfl aF [] trivial fun a=>by kernel_rfl
theorem OT:aK aX 73 aF7:=Oc aAt rfl aF [] trivial fun a=>by kernel_rfl
def mP (p0:aQ):Option aQ:=
 (bO p0.uses).bind fun l0=>
 (bO p0.used).bind fun l1=>
 (bO p0.free).bind fun l2=>
 some (aQ.mk l0 l1 l2)
def aAw:bM:=⟨aD.one (aM.agg gC),aM.agg gC,fun a=>mP a,.own,true⟩
def RA:bM:=⟨aD.one (aM.agg gC),aM.agg gC,fun a=>mP a,.frz,false⟩
theorem I7:aK aX 133 aAw:=Oc V5 rfl aF [] trivial fun a=>by kernel_rfl
theorem F3:aK aX 133 RA:=Oc V5 rfl aF [] trivial fun a=>by kernel_rfl
def lL (p0:aG):Option aG:=
 (mP p0.slots).bind fun r0=>
 (bO p0.heap).bind fun l1=>
 (bO p0.where_).bind fun l2=>
 some (aG.mk r0 l1 l2)
def c74:bM:=⟨aD.one (aM.agg cZ),aM.agg cZ,fun a=>lL a,.own,true⟩
def YI:bM:=⟨aD.one (aM.agg cZ),aM.agg cZ,fun a=>lL a,.frz,false⟩
theorem K6:aK aX 74 c74:=Oc aAu rfl aF [(133,aAw),(133,RA)] ⟨I7,F3,trivial⟩ fun a=>by kernel_rfl
theorem F4:aK aX 74 YI:=Oc aAu rfl aF [(133,aAw),(133,RA)] ⟨I7,F3,trivial⟩ fun a=>by kernel_rfl
def iO (p0:aP):Option aP:=
 (oP p0.field).bind fun r0=>
 (oQ p0.certs).bind fun r1=>
 (lL p0.agenda).bind fun r2=>
 (bO p0.due).bind fun l3=>
 some (aP.mk p0.now r0 r1 r2 l3)
def c32:bM:=⟨aD.one (aM.agg bR),aM.agg bR,fun a=>iO a,.own,true⟩
def T8:bM:=⟨aD.one (aM.agg bR),aM.agg bR,fun a=>iO a,.frz,false⟩
theorem HE:aK aX 32 c32:=Oc aAp rfl aF [(72,c72),(72,aF6),(73,c73),(73,aF7),(74,c74),(74,YI)] ⟨T6,OS,T7,OT,K6,F4,trivial⟩ fun a=>by kernel_rfl
theorem C2:aK aX 32 T8:=Oc aAp rfl aF [(72,c72),(72,aF6),(73,c73),(73,aF7),(74,c74),(74,YI)] ⟨T6,OS,T7,OT,K6,F4,trivial⟩ fun a=>by kernel_rfl
def vK (p0:dH):Option dH:=
 (iO p0.clock).bind fun r0=>
 (bO p0.heap).bind fun l1=>
 some (dH.mk r0 l1)
def c9:bM:=⟨aD.one (aM.agg iC),aM.agg iC,fun a=>vK a,.own,true⟩
def c9p:bM:=⟨aD.one (aM.agg iC),aM.agg iC,fun a=>vK a,.frz,false⟩
theorem aN2:aK aX 9 c9:=Oc aId rfl aF [(32,c32),(32,T8)] ⟨HE,C2,trivial⟩ fun a=>by kernel_rfl
theorem aMm:aK aX 9 c9p:=Oc aId rfl aF [(32,c32),(32,T8)] ⟨HE,C2,trivial⟩ fun a=>by kernel_rfl
def mB (p0:Int):Option Int:=
 bif decide (p0<0) then
  some (aA .u64 (0- (aA .u64 p0)))
 else
  some (aA .u64 p0)
def c76:bM:=⟨aD.one (aM.int .i64),aM.int .u64,fun a=>mB a,.pure,false⟩
theorem T9:aK aX 76 c76:=Oc aL0 rfl aF [] trivial fun a=>by kernel_rfl
def uN (s:(Int×Int)):Option (bX (Int×Int) Int):=
 bif decide (0<s.2) then
  bif s.2==0 then
   none
  else
   some (.next (s.2,Int.tmod s.1 s.2))
 else
  some (.done s.1)
def yW (p0:Int) (p1:Int):Option Int:=
 aH uN (p0,p1)
def c75:bM:=⟨aD.cons (aM.int .u64) (aD.one (aM.int .u64)),aM.int .u64,fun a=>yW a.1 a.2,.pure,false⟩
theorem aAx:aK aX 75 c75:=Oc aLZ rfl aF [] trivial fun a=>by kernel_rfl
def iG (p0:Int×Int):Option Int:=
 bif decide (p0.2<1) then
  some 8
 else
  bif p0.1==(-9223372036854775808) then
   some 8
  else
   (mB p0.1).bind fun n0=>
   (yW (aA .u64 p0.2) n0).bind fun n1=>
   bif decide (1<n1) then
    some 8
   else
    some 0
def c33:bM:=⟨aD.one (aM.agg (cR.row jY)),aM.int .i64,fun a=>iG a,.pure,false⟩
theorem HF:aK aX 33 c33:=Oc aLA rfl aF [(76,c76),(75,c75)] ⟨T9,aAx,trivial⟩ fun a=>by kernel_rfl
def pP (p0:Int):Option Bool:=
 bif decide (p0<(-1048576)) then
  some true
 else
  some (decide (1048576<p0))
def aN3:bM:=⟨aD.one (aM.int .i64),aM.bool,fun a=>pP a,.pure,false⟩
theorem aF8:aK aX 177 aN3:=Oc aFd rfl aF [] trivial fun a=>by kernel_rfl
def nI (p0:Int×Int×Int):Option Int:=
 bif decide (p0.1<0) then
  some 8
 else
  bif decide (65535<p0.1) then
   some 8
  else
   (pP p0.2.1).bind fun b0=>
   bif b0 then
    some 8
   else
    (pP p0.2.2).bind fun b1=>
    bif b1 then
     some 8
    else
     some 0
def aMo:bM:=⟨aD.one (aM.agg (cR.row fL)),aM.int .i64,fun a=>nI a,.pure,false⟩
theorem WD:aK aX 128 aMo:=Oc aEy rfl aF [(177,aN3)] ⟨aF8,trivial⟩ fun a=>by kernel_rfl
abbrev bN:=List (Int×Int×Int)
abbrev aAy:=bN×Int×Int×bN
def iP (s:aAy):Option (bX aAy (bX aAy Int)):=
 bif decide (s.2.2.1<s.2.1) then
  (aJ s.1 s.2.2.1).bind fun a0=>
  bif decide (0<s.2.2.1) then
   (aJ s.2.2.2 (aA .i64 (s.2.2.1-1))).bind fun a1=>
   bif decide (a0.1<=a1.1) then
    some (.done (.done 32))
   else
    some (.next (s.1,s.2.1,aA .i64 (s.2.2.1+1),s.2.2.2))
  else
   some (.next (s.1,s.2.1,aA .i64 (s.2.2.1+1),s.2.2.2))
 else
  some (.done (.done 0))
def mQ (s:aAy):Option (bX aAy Int):=
 bif decide (s.2.2.1<s.2.1) then
  (aJ s.1 s.2.2.1).bind fun a0=>
  (nI a0).bind fun n1=>
  bif n1 !=0 then
   some (.done n1)
  else
   some (.next (s.1,s.2.1,aA .i64 (s.2.2.1+1),s.2.2.2))
 else
  aH iP (s.2.2.2,Int.ofNat s.2.2.2.length,0,s.2.2.2)
def fF (p0:Field):Option Int:=
 bif decide (64<(Int.ofNat p0.points.length)) then
  some 4
 else
  aH mQ (p0.points,Int.ofNat p0.points.length,0,p0.points)
def aAz:bM:=⟨aD.one (aM.agg cA),aM.int .i64,fun a=>fF a,.pure,false⟩
theorem I8:aK aX 104 aAz:=Oc aEe rfl aF [(128,aMo)] ⟨WD,trivial⟩ fun a=>by kernel_rfl
def vL (p0:Int×Int):Option Bool:=
 bif decide (0<=(if p0.2<p0.1 then p0.2 else p0.1)) then
  bif decide ((if p0.2>p0.1 then p0.2 else p0.1)<=65535) then
   some (p0.1 !=p0.2)
  else
   some false
 else
  some false
def aMp:bM:=⟨aD.one (aM.agg (cR.row jY)),aM.bool,fun a=>vL a,.pure,false⟩
theorem WE:aK aX 166 aMp:=Oc aE2 rfl aF [] trivial fun a=>by kernel_rfl
abbrev aN4:=Int×bN×Int×Int×Int×bN×(List (List Int))
def rV (s:aN4):Option (bX aN4 Int):=
 bif decide (s.2.2.2.1<s.2.2.1) then
  (aJ s.2.1 s.2.2.2.1).bind fun a0=>
  (vL a0.2).bind fun b1=>
  bif !b1 then
   some (.done 8)
  else
   (QM s.2.2.2.2.2.2 [a0.2.1,a0.2.2]).bind fun b2=>
   bif b2 then
    some (.done 8)
   else
    bif decide (a0.1<=s.1) then
     some (.done 8)
    else
     bif decide (s.2.2.2.2.1<=a0.1) then
      some (.done 8)
     else
      (QN s.2.2.2.2.2.2 [a0.2.1,a0.2.2]).bind fun l3=>
      some (.next (a0.1,s.2.1,s.2.2.1,aA .i64 (s.2.2.2.1+1),s.2.2.2.2.1,s.2.2.2.2.2.1,l3))
 else
  some (.done 0)
def qZ (p0:aU):Option Int:=
 bif decide (200<(Int.ofNat p0.list.length)) then
  some 8
 else
  bif decide (p0.next_<0) then
   some 8
  else
   bif decide (1000000<p0.next_) then
    some 8
   else
    aH rV (-1,p0.list,Int.ofNat p0.list.length,0,p0.next_,p0.list,[])
def aF9:bM:=⟨aD.one (aM.agg gK),aM.int .i64,fun a=>qZ a,.pure,false⟩
theorem OU:aK aX 117 aF9:=Oc aEn rfl aF [(166,aMp)] ⟨WE,trivial⟩ fun a=>by kernel_rfl
theorem vM:aK aX 141 (bM.clone kb):=aK.clone aEJ rfl
def gN (s:((List Bool)×Bool×Int×Int)):Option (bX ((List Bool)×Bool×Int×Int) Int):=
 bif decide (s.2.2.2<s.2.2.1) then
  (aJ s.1 s.2.2.2).bind fun b0=>
  bif s.2.1==b0 then
   some (.done s.2.2.2)
  else
   some (.next (s.1,s.2.1,s.2.2.1,aA .i64 (s.2.2.2+1)))
 else
  some (.done (-1))
def pQ (p0:List Bool) (p1:Bool):Option Int:=
 aH gN (p0,p1,Int.ofNat p0.length,0)
def aN5:bM:=⟨aD.cons (aM.sl kb) (aD.one aM.bool),aM.int .i64,fun a=>pQ a.1 a.2,.pure,false⟩
theorem aGa:aK aX 234 aN5:=Oc aFU rfl aF [] trivial fun a=>by kernel_rfl
def dW (p0:List Bool) (p1:Bool):Option Bool:=
 (pQ p0 p1).bind fun n0=>
 some (decide (0<=n0))
def aN6:bM:=⟨aD.cons (aM.sl kb) (aD.one aM.bool),aM.bool,fun a=>dW a.1 a.2,.pure,false⟩
theorem aGb:aK aX 212 aN6:=Oc aFF rfl aF [(234,aN5)] ⟨aGa,trivial⟩ fun a=>by kernel_rfl
abbrev aN7:=(List Int)×Int×Int×(List Int)×(List Bool)×(List Int)×Int×(List Bool)
abbrev aN8:=bX aN7 Int
def gL (s:((List Int)×Int×Int×(List Int)×(List Bool)×(List Int))):Option (bX ((List Int)×Int×Int×(List Int)×(List Bool)×(List Int)) aN8):=
 bif decide (s.2.2.1<s.2.1) then
  (aJ s.1 s.2.2.1).bind fun n0=>
  bif decide (n0<0) then
   some (.done (.done 8))
  else
   bif decide (1000000<n0) then
    some (.done (.done 8))
   else
    bif n0==0 then
     (aJ s.2.2.2.2.1 s.2.2.1).bind fun b1=>
     bif b1 then
      some (.done (.done 8))
     else
      some (.next (s.1,s.2.1,aA .i64 (s.2.2.1+1),s.2.2.2))
    else
     some (.next (s.1,s.2.1,aA .i64 (s.2.2.1+1),s.2.2.2))
 else
  some (.done (.done 0))
def rW (c0:(List Bool)) (s:aN7):Option aN8:=
 bif decide (s.2.2.1<s.2.1) then
  (aJ s.1 s.2.2.1).bind fun n0=>
  bif decide (n0<0) then
   bif s.2.2.2.2.2.2.2.length==s.2.2.2.2.2.2.2.length then
    bif s.2.2.2.2.2.2.2.length==c0.length then
     bif s.2.2.2.2.2.2.2.length==c0.length then
      bif decide (0<=s.2.2.1) then
       some (.done 8)
      else
       (dW s.2.2.2.2.2.2.2 false).bind fun b1=>
       bif b1 then
        some (.done 8)
       else
        aH gL (s.2.2.2.1,Int.ofNat s.2.2.2.1.length,0,s.2.2.2.1,s.2.2.2.2.1,s.2.2.2.2.2.1)
     else
      none
    else
     none
   else
    none
  else
   bif decide (s.2.2.2.2.2.2.1<=n0) then
    bif s.2.2.2.2.2.2.2.length==s.2.2.2.2.2.2.2.length then
     bif s.2.2.2.2.2.2.2.length==c0.length then
      bif s.2.2.2.2.2.2.2.length==c0.length then
       bif decide (0<=s.2.2.1) then
        some (.done 8)
       else
        (dW s.2.2.2.2.2.2.2 false).bind fun b2=>
        bif b2 then
         some (.done 8)
        else
         aH gL (s.2.2.2.1,Int.ofNat s.2.2.2.1.length,0,s.2.2.2.1,s.2.2.2.2.1,s.2.2.2.2.2.1)
      else
       none
     else
      none
    else
     none
   else
    (aJ s.2.2.2.2.2.2.2 n0).bind fun b3=>
    bif b3 then
     bif s.2.2.2.2.2.2.2.length==s.2.2.2.2.2.2.2.length then
      bif s.2.2.2.2.2.2.2.length==c0.length then
       bif s.2.2.2.2.2.2.2.length==c0.length then
        bif decide (0<=s.2.2.1) then
         some (.done 8)
        else
         (dW s.2.2.2.2.2.2.2 false).bind fun b4=>
         bif b4 then
          some (.done 8)
         else
          aH gL (s.2.2.2.1,Int.ofNat s.2.2.2.1.length,0,s.2.2.2.1,s.2.2.2.2.1,s.2.2.2.2.2.1)
       else
        none
      else
       none
     else
      none
    else
     (aJ s.2.2.2.2.2.2.2 n0).bind fun _=>
     bif ((bJ s.2.2.2.2.2.2.2 n0 true).length)==s.2.2.2.2.2.2.2.length then
      some (.next (s.1,s.2.1,aA .i64 (s.2.2.1+1),s.2.2.2.1,s.2.2.2.2.1,s.2.2.2.2.2.1,s.2.2.2.2.2.2.1,bJ s.2.2.2.2.2.2.2 n0 true))
     else
      none
 else
  bif s.2.2.2.2.2.2.2.length==c0.length then
   bif s.2.2.2.2.2.2.2.length==c0.length then
    (dW s.2.2.2.2.2.2.2 false).bind fun b6=>
    bif b6 then
     some (.done 8)
    else
     aH gL (s.2.2.2.1,Int.ofNat s.2.2.2.1.length,0,s.2.2.2.1,s.2.2.2.2.1,s.2.2.2.2.2.1)
   else
    none
  else
   none
def rA (p0:aQ):Option Int:=
 bif decide ((Int.ofNat p0.uses.length)<1) then
  some 8
 else
  bif decide (200<(Int.ofNat p0.uses.length)) then
   some 8
  else
   bif (Int.ofNat p0.used.length) !=(Int.ofNat p0.uses.length) then
    some 8
   else
    (bO p0.used).bind fun l0=>
    aH (rW l0) (p0.free,Int.ofNat p0.free.length,0,p0.uses,p0.used,p0.free,Int.ofNat p0.uses.length,l0)
def aGc:bM:=⟨aD.one (aM.agg gC),aM.int .i64,fun a=>rA a,.pure,false⟩
theorem OV:aK aX 167 aGc:=aK.of aE3 (cx:=(oN aF [(141,bM.clone kb),(212,aN6)] [] [(210,aDw),(233,aDS),(211,aDy)] [])) rfl (lX.make ⟨vM,aGb,trivial⟩ trivial ⟨aFD,aFT,aFE,trivial⟩) (fun a=>by kernel_rfl)
def AE (p0:Int×Int) (p1:Int×Int):Option Int:=
 (iG p0).bind fun n0=>
 (iG p1).bind fun n1=>
 some (if n1>n0 then n1 else n0)
def c77:bM:=⟨aD.cons (aM.agg (cR.row jY)) (aD.one (aM.agg (cR.row jY))),aM.int .i64,fun a=>AE a.1 a.2,.pure,false⟩
theorem aMq:aK aX 77 c77:=Oc aL1 rfl aF [(33,c33)] ⟨HF,trivial⟩ fun a=>by kernel_rfl
def oF (p0:Int):Option Bool:=
 some (p0 !=p0)
def aN9:bM:=⟨aD.one (aM.int .i64),aM.bool,fun a=>oF a,.pure,false⟩
theorem aGd:aK aX 134 aN9:=Oc aEC rfl aF [] trivial fun a=>by kernel_rfl
def jI (p0:Int) (p1:Int):Option Int:=
 (oF p0).bind fun b0=>
 (oF p1).bind fun b1=>
 bif b0 then
  bif b1 then
   some 0
  else
   some (-1)
 else
  bif b1 then
   some 1
  else
   bif decide (p0<p1) then
    some (-1)
   else
    bif decide (p1<p0) then
     some 1
    else
     some 0
def c78:bM:=⟨aD.cons (aM.int .i64) (aD.one (aM.int .i64)),aM.int .i64,fun a=>jI a.1 a.2,.pure,false⟩
theorem aAA:aK aX 78 c78:=Oc aL2 rfl aF [(134,aN9)] ⟨aGd,trivial⟩ fun a=>by kernel_rfl
def jC (p0:Int) (p1:Int):Option (Int×Int):=
 some (aA .u64 ((aA .u64 ((aA .u64 ((sZ .u64 p0 32)*(sZ .u64 p1 32)))+(sZ .u64 (aA .u64 ((aA .u64 ((sZ .u64 p0 32)*(IW .u64 p1 4294967295)))+(sZ .u64 (aA .u64 ((IW .u64 p0 4294967295)*(IW .u64 p1 4294967295))) 32))) 32)))+(sZ .u64 (aA .u64 ((IW .u64 (aA .u64 ((aA .u64 ((sZ .u64 p0 32)*(IW .u64 p1 4294967295)))+(sZ .u64 (aA .u64 ((IW .u64 p0 4294967295)*(IW .u64 p1 4294967295))) 32))) 4294967295)+(aA .u64 ((IW .u64 p0 4294967295)*(sZ .u64 p1 32))))) 32)),aA .u64 (p0*p1))
def aMr:bM:=⟨aD.cons (aM.int .u64) (aD.one (aM.int .u64)),aM.tup (aD.cons (aM.int .u64) (aD.one (aM.int .u64))),fun a=>jC a.1 a.2,.pure,false⟩
theorem WG:aK aX 136 aMr:=Oc aEE rfl aF [] trivial fun a=>by kernel_rfl
def tG (p0:Int) (p1:Int):Option (Bool×Int×Int):=
 (mB p0).bind fun n0=>
 (mB p1).bind fun n1=>
 (jC n0 n1).bind fun a2=>
 some (!((decide (p0<0))==(decide (p1<0))),a2)
def c80:bM:=⟨aD.cons (aM.int .i64) (aD.one (aM.int .i64)),aM.agg (cR.row B6),fun a=>tG a.1 a.2,.pure,false⟩
theorem aMs:aK aX 80 c80:=Oc aL4 rfl aF [(76,c76),(136,aMr)] ⟨T9,WG,trivial⟩ fun a=>by kernel_rfl
def nJ (p0:Int):Option Bool:=
 some (p0 !=p0)
def aOa:bM:=⟨aD.one (aM.int .u64),aM.bool,fun a=>nJ a,.pure,false⟩
theorem aGe:aK aX 183 aOa:=Oc aFg rfl aF [] trivial fun a=>by kernel_rfl
def iQ (p0:Int) (p1:Int):Option Int:=
 (nJ p0).bind fun b0=>
 (nJ p1).bind fun b1=>
 bif b0 then
  bif b1 then
   some 0
  else
   some (-1)
 else
  bif b1 then
   some 1
  else
   bif decide (p0<p1) then
    some (-1)
   else
    bif decide (p1<p0) then
     some 1
    else
     some 0
def aOb:bM:=⟨aD.cons (aM.int .u64) (aD.one (aM.int .u64)),aM.int .i64,fun a=>iQ a.1 a.2,.pure,false⟩
theorem aGf:aK aX 135 aOb:=Oc aED rfl aF [(183,aOa)] ⟨aGe,trivial⟩ fun a=>by kernel_rfl
def rX (p0:Bool×Int×Int) (p1:Bool×Int×Int):Option Int:=
 (iQ p0.2.1 p1.2.1).bind fun n0=>
 bif n0 !=0 then
  some n0
 else
  (iQ p0.2.2 p1.2.2).bind fun n1=>
  some n1
def c79:bM:=⟨aD.cons (aM.agg (cR.row B6)) (aD.one (aM.agg (cR.row B6))),aM.int .i64,fun a=>rX a.1 a.2,.pure,false⟩
theorem aMt:aK aX 79 c79:=Oc aL3 rfl aF [(135,aOb)] ⟨aGf,trivial⟩ fun a=>by kernel_rfl
def C3 (p0:Int×Int) (p1:Int×Int):Option (Int×Int):=
 (AE p0 p1).bind fun n0=>
 bif n0 !=0 then
  some (0,n0)
 else
  bif !((decide (p0.1<0))==(decide (p1.1<0))) then
   (jI p0.1 p1.1).bind fun n1=>
   some (n1,0)
  else
   (tG p0.1 p1.2).bind fun a2=>
   (tG p1.1 p0.2).bind fun a3=>
   (rX a2 a3).bind fun n4=>
   bif decide (p0.1<0) then
    some (aA .i64 (0-n4),0)
   else
    some (n4,0)
def c34:bM:=⟨aD.cons (aM.agg (cR.row jY)) (aD.one (aM.agg (cR.row jY))),aM.tup (aD.cons (aM.int .i64) (aD.one (aM.int .i64))),fun a=>C3 a.1 a.2,.pure,false⟩
theorem aMu:aK aX 34 c34:=Oc aLB rfl aF [(77,c77),(78,c78),(80,c80),(79,c79)] ⟨aMq,aAA,aMs,aMt,trivial⟩ fun a=>by kernel_rfl
def rY (p0:Int):Option Bool:=
 some (p0 !=p0)
def aOc:bM:=⟨aD.one (aM.int .i64),aM.bool,fun a=>rY a,.pure,false⟩
theorem aGg:aK aX 216 aOc:=Oc aFJ rfl aF [] trivial fun a=>by kernel_rfl
def fA (p0:Int) (p1:Int):Option Int:=
 (rY p0).bind fun b0=>
 (rY p1).bind fun b1=>
 bif b0 then
  bif b1 then
   some 0
  else
   some (-1)
 else
  bif b1 then
   some 1
  else
   bif decide (p0<p1) then
    some (-1)
   else
    bif decide (p1<p0) then
     some 1
    else
     some 0
def UA:bM:=⟨aD.cons (aM.int .i64) (aD.one (aM.int .i64)),aM.int .i64,fun a=>fA a.1 a.2,.pure,false⟩
theorem C4:aK aX 180 UA:=Oc aFf rfl aF [(216,aOc)] ⟨aGg,trivial⟩ fun a=>by kernel_rfl
def xS (s:(Int×(List Int)×Int×Int)):Option (bX (Int×(List Int)×Int×Int) Int):=
 bif decide (s.2.2.2<s.2.2.1) then
  (aJ s.2.1 s.2.2.2).bind fun n0=>
  bif n0 !=s.1 then
   some (.done n0)
  else
   some (.next (s.1,s.2.1,s.2.2.1,aA .i64 (s.2.2.2+1)))
 else
  some (.done s.1)
def vN (p0:List Int):Option Int:=
 aH xS (0,p0,Int.ofNat p0.length,0)
def aMv:bM:=⟨aD.one (aM.sl ki),aM.int .i64,fun a=>vN a,.pure,false⟩
theorem WH:aK aX 196 aMv:=Oc aFt rfl aF [] trivial fun a=>by kernel_rfl
def bY (p0:Int×Int×Int×Int×Int) (p1:Int×Int×Int×Int×Int):Option Int:=
 (C3 (p0.1,p0.2.1) (p1.1,p1.2.1)).bind fun a0=>
 (fA p0.2.2.1 p1.2.2.1).bind fun n1=>
 (vN [a0.1,n1]).bind fun n2=>
 some n2
def aGh:bM:=⟨aD.cons (aM.agg (cR.row lK)) (aD.one (aM.agg (cR.row lK))),aM.int .i64,fun a=>bY a.1 a.2,.pure,false⟩
theorem OW:aK aX 168 aGh:=Oc aE4 rfl aF [(34,c34),(180,UA),(196,aMv)] ⟨aMu,C4,WH,trivial⟩ fun a=>by kernel_rfl
abbrev iD:=List (Int×Int×Int×Int×Int)
abbrev aOd:=iD×Int×Int×(List Int)×(List Bool)×(List Int)×iD×(List Int)×(List (List Int))
abbrev aOe:=(List Int)×Int×Int×(List Int)×(List Bool)×(List Int)×iD×(List Int)
abbrev aOf:=bX aOe Int
def jD (s:aOd):Option (bX aOd aOf):=
 bif decide (s.2.2.1<s.2.1) then
  (aJ s.1 s.2.2.1).bind fun a0=>
  (iG (a0.1,a0.2.1)).bind fun n1=>
  bif n1 !=0 then
   some (.done (.done 8))
  else
   bif decide (a0.2.2.1<0) then
    some (.done (.done 8))
   else
    bif decide (1000000<a0.2.2.1) then
     some (.done (.done 8))
    else
     (QM s.2.2.2.2.2.2.2.2 [a0.2.2.1]).bind fun b2=>
     bif b2 then
      some (.done (.done 8))
     else
      (QN s.2.2.2.2.2.2.2.2 [a0.2.2.1]).bind fun l3=>
      bif decide (0<s.2.2.1) then
       (aJ s.2.2.2.2.2.2.1 (aA .i64 (Int.tdiv (aA .i64 (s.2.2.1-1)) 2))).bind fun a4=>
       (bY a0 a4).bind fun n5=>
       bif decide (n5<0) then
        some (.done (.done 8))
       else
        some (.next (s.1,s.2.1,aA .i64 (s.2.2.1+1),s.2.2.2.1,s.2.2.2.2.1,s.2.2.2.2.2.1,s.2.2.2.2.2.2.1,s.2.2.2.2.2.2.2.1,l3))
      else
       some (.next (s.1,s.2.1,aA .i64 (s.2.2.1+1),s.2.2.2.1,s.2.2.2.2.1,s.2.2.2.2.2.1,s.2.2.2.2.2.2.1,s.2.2.2.2.2.2.2.1,l3))
 else
  some (.done (.done 0))
def lY (s:aOe):Option aOf:=
 bif decide (s.2.2.1<s.2.1) then
  (aJ s.1 s.2.2.1).bind fun n0=>
  (aJ s.2.2.2.2.1 s.2.2.1).bind fun b1=>
  bif !b1 then
   bif n0 !=(-1) then
    some (.done 8)
   else
    some (.next (s.1,s.2.1,aA .i64 (s.2.2.1+1),s.2.2.2))
  else
   bif decide (n0<0) then
    some (.done 8)
   else
    bif decide ((Int.ofNat s.2.2.2.2.2.2.1.length)<=n0) then
     some (.done 8)
    else
     (aJ s.2.2.2.2.2.2.1 n0).bind fun a2=>
     (aJ s.2.2.2.1 s.2.2.1).bind fun n3=>
     bif !((a2.2.2.2.1==s.2.2.1)&&(a2.2.2.2.2==n3)) then
      some (.done 8)
     else
      some (.next (s.1,s.2.1,aA .i64 (s.2.2.1+1),s.2.2.2))
 else
  aH jD (s.2.2.2.2.2.2.1,Int.ofNat s.2.2.2.2.2.2.1.length,0,s.2.2.2.1,s.2.2.2.2.1,s.2.2.2.2.2.1,s.2.2.2.2.2.2.1,s.2.2.2.2.2.2.2,[])
def lM (p0:aG):Option Int:=
 (rA p0.slots).bind fun n0=>
 bif n0 !=0 then
  some 8
 else
  bif (Int.ofNat p0.where_.length) !=(Int.ofNat p0.slots.used.length) then
   some 8
  else
   bif (Int.ofNat p0.heap.length) !=(aA .i64 ((Int.ofNat p0.slots.used.length) - (Int.ofNat p0.slots.free.length))) then
    some 8
   else
    aH lY (p0.where_,Int.ofNat p0.where_.length,0,p0.slots.uses,p0.slots.used,p0.slots.free,p0.heap,p0.where_)
def aAB:bM:=⟨aD.one (aM.agg cZ),aM.int .i64,fun a=>lM a,.pure,false⟩
theorem I9:aK aX 118 aAB:=Oc aEo rfl aF [(167,aGc),(33,c33),(168,aGh)] ⟨OV,HF,OW,trivial⟩ fun a=>by kernel_rfl
def xT (p0:Int×Int×Int) (p1:Int):Option Int:=
 (fA p0.1 p1).bind fun n0=>
 some n0
def aOg:bM:=⟨aD.cons (aM.agg (cR.row fL)) (aD.one (aM.int .i64)),aM.int .i64,fun a=>xT a.1 a.2,.pure,false⟩
theorem aGi:aK aX 198 aOg:=Oc aFu rfl aF [(180,UA)] ⟨C4,trivial⟩ fun a=>by kernel_rfl
abbrev OX:=bN×Int×Int×Int×Int
abbrev aGj:=bX OX (Int×Bool)
def iJ (s:OX):Option aGj:=
 bif decide (s.2.2.2.1<s.2.2.2.2) then
  (aJ s.1 (aA .i64 (sZ .u64 (aA .u64 (aA .i64 (s.2.2.2.1+s.2.2.2.2))) 1))).bind fun a0=>
  (xT a0 s.2.1).bind fun n1=>
  bif decide (n1<0) then
   some (.next (s.1,s.2.1,s.2.2.1,aA .i64 ((aA .i64 (sZ .u64 (aA .u64 (aA .i64 (s.2.2.2.1+s.2.2.2.2))) 1))+1),s.2.2.2.2))
  else
   some (.next (s.1,s.2.1,s.2.2.1,s.2.2.2.1,aA .i64 (sZ .u64 (aA .u64 (aA .i64 (s.2.2.2.1+s.2.2.2.2))) 1)))
 else
  bif decide (s.2.2.2.1<s.2.2.1) then
   (aJ s.1 s.2.2.2.1).bind fun a2=>
   (xT a2 s.2.1).bind fun n3=>
   some (.done (s.2.2.2.1,n3==0))
  else
   some (.done (s.2.2.2.1,false))
def cO (p0:List (Int×Int×Int)) (p1:Int) (_:Unit):Option (Int×Bool):=
 aH iJ (p0,p1,Int.ofNat p0.length,0,Int.ofNat p0.length)
def RC:bM:=⟨aD.cons (aM.sl fL) (aD.cons (aM.int .i64) (aD.one (aM.clo 198 aD.nil))),aM.tup (aD.cons (aM.int .i64) (aD.one aM.bool)),fun a=>cO a.1 a.2.1 a.2.2,.pure,false⟩
theorem RD:aK aX 178 RC:=Oc V8 rfl aF [(198,aOg)] ⟨aGi,trivial⟩ fun a=>by kernel_rfl
def jJ (p0:Field) (p1:Int):Option (Int×Int×Int):=
 (cO p0.points p1 ()).bind fun a0=>
 bif !a0.2 then
  some (-1,0,0)
 else
  (aJ p0.points a0.1).bind fun a1=>
  some a1
def aGk:bM:=⟨aD.cons (aM.agg cA) (aD.one (aM.int .i64)),aM.agg (cR.row fL),fun a=>jJ a.1 a.2,.pure,false⟩
theorem OY:aK aX 157 aGk:=Oc aEV rfl aF [(178,RC)] ⟨RD,trivial⟩ fun a=>by kernel_rfl
def rB (p0:Int×Int×Int) (p1:Int×Int×Int) (p2:Int×Int):Option Int:=
 (nI p0).bind fun n0=>
 (nI p1).bind fun n1=>
 (iG p2).bind fun n2=>
 bif (if n2>(if n1>n0 then n1 else n0) then n2 else if n1>n0 then n1 else n0) !=0 then
  some (if n2>(if n1>n0 then n1 else n0) then n2 else if n1>n0 then n1 else n0)
 else
  bif p0.1==p1.1 then
   some 2
  else
   some 0
def aGl:bM:=⟨aD.cons (aM.agg (cR.row fL)) (aD.cons (aM.agg (cR.row fL)) (aD.one (aM.agg (cR.row jY)))),aM.int .i64,fun a=>rB a.1 a.2.1 a.2.2,.pure,false⟩
theorem OZ:aK aX 152 aGl:=Oc aET rfl aF [(128,aMo),(33,c33)] ⟨WD,HF,trivial⟩ fun a=>by kernel_rfl
theorem aAC:aK aX 225 (bM.add64):=aK.add64 aFO
def nY (s:(Int×Int×Int×Int×Int×Int×Int×Int×Int)):Option (bX (Int×Int×Int×Int×Int×Int×Int×Int×Int) (Int×Int)):=
 bif decide (s.2.2.2.2.1<2) then
  bif s.2.2.2.2.1==0 then
   (jC (aA .u64 s.1) (aA .u64 s.2.1)).bind fun a0=>
   bif decide (s.1<0) then
    bif decide (s.2.1<0) then
     (qY s.2.2.2.2.2.2.2.2 a0.2 0).bind fun a1=>
     some (.next (s.1,s.2.1,s.2.2.1,s.2.2.2.1,aA .i64 (s.2.2.2.2.1+1),s.2.2.2.2.2.1,s.2.2.2.2.2.2.1,aA .i64 ((aA .i64 (s.2.2.2.2.2.2.2.1+(aA .i64 ((aA .i64 ((aA .i64 a0.1) -s.2.1)) -s.1))))+(aA .i64 a1.2)),a1.1))
    else
     (qY s.2.2.2.2.2.2.2.2 a0.2 0).bind fun a2=>
     some (.next (s.1,s.2.1,s.2.2.1,s.2.2.2.1,aA .i64 (s.2.2.2.2.1+1),s.2.2.2.2.2.1,s.2.2.2.2.2.2.1,aA .i64 ((aA .i64 (s.2.2.2.2.2.2.2.1+(aA .i64 ((aA .i64 a0.1) -s.2.1))))+(aA .i64 a2.2)),a2.1))
   else
    bif decide (s.2.1<0) then
     (qY s.2.2.2.2.2.2.2.2 a0.2 0).bind fun a3=>
     some (.next (s.1,s.2.1,s.2.2.1,s.2.2.2.1,aA .i64 (s.2.2.2.2.1+1),s.2.2.2.2.2.1,s.2.2.2.2.2.2.1,aA .i64 ((aA .i64 (s.2.2.2.2.2.2.2.1+(aA .i64 ((aA .i64 a0.1) -s.1))))+(aA .i64 a3.2)),a3.1))
    else
     (qY s.2.2.2.2.2.2.2.2 a0.2 0).bind fun a4=>
     some (.next (s.1,s.2.1,s.2.2.1,s.2.2.2.1,aA .i64 (s.2.2.2.2.1+1),s.2.2.2.2.2.1,s.2.2.2.2.2.2.1,aA .i64 ((aA .i64 (s.2.2.2.2.2.2.2.1+(aA .i64 a0.1)))+(aA .i64 a4.2)),a4.1))
  else
   bif s.2.2.2.2.1==1 then
    (jC (aA .u64 s.2.2.1) (aA .u64 s.2.2.2.1)).bind fun a5=>
    bif decide (s.2.2.1<0) then
     bif decide (s.2.2.2.1<0) then
      (qY s.2.2.2.2.2.2.2.2 a5.2 0).bind fun a6=>
      some (.next (s.1,s.2.1,s.2.2.1,s.2.2.2.1,aA .i64 (s.2.2.2.2.1+1),s.2.2.2.2.2.1,s.2.2.2.2.2.2.1,aA .i64 ((aA .i64 (s.2.2.2.2.2.2.2.1+(aA .i64 ((aA .i64 ((aA .i64 a5.1) -s.2.2.2.1)) -s.2.2.1))))+(aA .i64 a6.2)),a6.1))
     else
      (qY s.2.2.2.2.2.2.2.2 a5.2 0).bind fun a7=>
      some (.next (s.1,s.2.1,s.2.2.1,s.2.2.2.1,aA .i64 (s.2.2.2.2.1+1),s.2.2.2.2.2.1,s.2.2.2.2.2.2.1,aA .i64 ((aA .i64 (s.2.2.2.2.2.2.2.1+(aA .i64 ((aA .i64 a5.1) -s.2.2.2.1))))+(aA .i64 a7.2)),a7.1))
    else
     bif decide (s.2.2.2.1<0) then
      (qY s.2.2.2.2.2.2.2.2 a5.2 0).bind fun a8=>
      some (.next (s.1,s.2.1,s.2.2.1,s.2.2.2.1,aA .i64 (s.2.2.2.2.1+1),s.2.2.2.2.2.1,s.2.2.2.2.2.2.1,aA .i64 ((aA .i64 (s.2.2.2.2.2.2.2.1+(aA .i64 ((aA .i64 a5.1) -s.2.2.1))))+(aA .i64 a8.2)),a8.1))
     else
      (qY s.2.2.2.2.2.2.2.2 a5.2 0).bind fun a9=>
      some (.next (s.1,s.2.1,s.2.2.1,s.2.2.2.1,aA .i64 (s.2.2.2.2.1+1),s.2.2.2.2.2.1,s.2.2.2.2.2.2.1,aA .i64 ((aA .i64 (s.2.2.2.2.2.2.2.1+(aA .i64 a5.1)))+(aA .i64 a9.2)),a9.1))
   else
    none
 else
  some (.done s.2.2.2.2.2.2.2)
def AF (p0:Int×Int×Int×Int):Option (Int×Int):=
 aH nY (p0.1,p0.2.1,p0.2.2.1,p0.2.2.2,0,0,0,0,0)
def aOh:bM:=⟨aD.one (aM.agg (cR.row aNZ)),aM.agg (cR.row kiu),fun a=>AF a,.pure,false⟩
theorem aGm:aK aX 195 aOh:=Oc aFs rfl aF [(136,aMr),(225,bM.add64)] ⟨WG,aAC,trivial⟩ fun a=>by kernel_rfl
def mR (p0:Int×Int×Int) (p1:Int×Int×Int) (p2:Int×Int):Option Int:=
 (AF (aA .i64 (p0.2.1-p1.2.1),p2.2,aA .i64 (p0.2.2-p1.2.2),p2.1)).bind fun a0=>
 bif !((a0.1==0)&&(a0.2==0)) then
  bif decide (a0.1<0) then
   some (-1)
  else
   some 1
 else
  (jI p0.2.2 p1.2.2).bind fun n1=>
  (fA p1.1 p0.1).bind fun n2=>
  (vN [n1,n2]).bind fun n3=>
  some n3
def aMw:bM:=⟨aD.cons (aM.agg (cR.row fL)) (aD.cons (aM.agg (cR.row fL)) (aD.one (aM.agg (cR.row jY)))),aM.int .i64,fun a=>mR a.1 a.2.1 a.2.2,.pure,false⟩
theorem WI:aK aX 153 aMw:=Oc aEU rfl aF [(195,aOh),(78,c78),(180,UA),(196,aMv)] ⟨aGm,aAA,C4,WH,trivial⟩ fun a=>by kernel_rfl
def B9 (p0:Bool×Int×Int) (p1:Int) (p2:Int):Option ((Int×Int)×Int):=
 bif decide (0<p0.2.1) then
  some ((0,0),16)
 else
  bif decide (9223372036854775807<p0.2.2) then
   some ((0,0),16)
  else
   bif decide (0<p1) then
    some ((0,0),16)
   else
    bif decide (9223372036854775807<p2) then
     some ((0,0),16)
    else
     bif p0.1 then
      some ((aA .i64 (0- (aA .i64 p0.2.2)),aA .i64 p2),0)
     else
      some ((aA .i64 p0.2.2,aA .i64 p2),0)
def aOi:bM:=⟨aD.cons (aM.agg (cR.row B6)) (aD.cons (aM.int .u64) (aD.one (aM.int .u64))),aM.tup (aD.cons (aM.agg (cR.row jY)) (aD.one (aM.int .i64))),fun a=>B9 a.1 a.2.1 a.2.2,.pure,false⟩
theorem aGn:aK aX 243 aOi:=Oc aF2 rfl aF [] trivial fun a=>by kernel_rfl
def AG (p0:Int) (p1:Int):Option ((Int×Int)×Int):=
 bif p1==0 then
  some ((0,0),26)
 else
  (mB p0).bind fun n0=>
  (mB p1).bind fun n1=>
  (yW n0 n1).bind fun n2=>
  (mB p0).bind fun n3=>
  bif n2==0 then
   none
  else
   (mB p1).bind fun n4=>
   bif n2==0 then
    none
   else
    (B9 (!((decide (p0<0))==(decide (p1<0))),0,aA .u64 (Int.tdiv n3 n2)) 0 (aA .u64 (Int.tdiv n4 n2))).bind fun a5=>
    some a5
def aOj:bM:=⟨aD.cons (aM.int .i64) (aD.one (aM.int .i64)),aM.tup (aD.cons (aM.agg (cR.row jY)) (aD.one (aM.int .i64))),fun a=>AG a.1 a.2,.pure,false⟩
theorem aGo:aK aX 235 aOj:=Oc aFV rfl aF [(76,c76),(75,c75),(243,aOi)] ⟨T9,aAx,aGn,trivial⟩ fun a=>by kernel_rfl
def CA (p0:Int×Int×Int) (p1:Int×Int×Int):Option ((Int×Int)×Int):=
 (rB p0 p1 (0,1)).bind fun n0=>
 bif n0 !=0 then
  some ((0,0),n0)
 else
  bif p0.2.2==p1.2.2 then
   some ((0,0),6)
  else
   (AG (aA .i64 (p0.2.1-p1.2.1)) (aA .i64 (p1.2.2-p0.2.2))).bind fun a1=>
   some a1
def aOk:bM:=⟨aD.cons (aM.agg (cR.row fL)) (aD.one (aM.agg (cR.row fL))),aM.tup (aD.cons (aM.agg (cR.row jY)) (aD.one (aM.int .i64))),fun a=>CA a.1 a.2,.pure,false⟩
theorem aGp:aK aX 213 aOk:=Oc aFG rfl aF [(152,aGl),(235,aOj)] ⟨OZ,aGo,trivial⟩ fun a=>by kernel_rfl
def uO (p0:Int×Int×Int) (p1:Int×Int×Int) (p2:Int×Int):Option ((Int×Int)×Bool×Int):=
 (rB p0 p1 p2).bind fun n0=>
 bif n0 !=0 then
  some ((0,0),false,n0)
 else
  (mR p1 p0 p2).bind fun n1=>
  bif decide (0<n1) then
   some (p2,true,0)
  else
   bif decide (p1.2.2<=p0.2.2) then
    some ((0,0),false,0)
   else
    (CA p0 p1).bind fun a2=>
    some (a2.1,a2.2==0,a2.2)
def aOl:bM:=⟨aD.cons (aM.agg (cR.row fL)) (aD.cons (aM.agg (cR.row fL)) (aD.one (aM.agg (cR.row jY)))),aM.tup (aD.cons (aM.agg (cR.row jY)) (aD.cons aM.bool (aD.one (aM.int .i64)))),fun a=>uO a.1 a.2.1 a.2.2,.pure,false⟩
theorem aGq:aK aX 169 aOl:=Oc aE5 rfl aF [(152,aGl),(153,aMw),(213,aOk)] ⟨OZ,WI,aGp,trivial⟩ fun a=>by kernel_rfl
def rC (p0:Field) (p1:Int×Int) (p2:Int×Int):Option ((Int×Int)×Bool×Int):=
 (jJ p0 p1.2).bind fun a0=>
 (jJ p0 p1.1).bind fun a1=>
 (uO a0 a1 p2).bind fun a2=>
 some a2
def aGr:bM:=⟨aD.cons (aM.agg cA) (aD.cons (aM.agg (cR.row jY)) (aD.one (aM.agg (cR.row jY)))),aM.tup (aD.cons (aM.agg (cR.row jY)) (aD.cons aM.bool (aD.one (aM.int .i64)))),fun a=>rC a.1 a.2.1 a.2.2,.pure,false⟩
theorem O0:aK aX 119 aGr:=Oc aEp rfl aF [(157,aGk),(169,aOl)] ⟨OY,aGq,trivial⟩ fun a=>by kernel_rfl
abbrev aOm:=bN×bN×Int×Int×Int×Int×bN×Int×bN×(List Int)×(List Bool)×(List Int)×iD×(List Int)×bN
abbrev aGs:=Int×Int×Int×Int×bN×Int×bN×(List Int)×(List Bool)×(List Int)×iD×(List Int)×bN×(List Int)
abbrev aOn:=bX aGs Int
def cK (s:aOm):Option (bX aOm aOn):=
 bif decide (s.2.2.2.1<s.2.2.1) then
  (aJ s.2.1 s.2.2.2.1).bind fun a0=>
  (rC (Field.mk s.2.2.2.2.2.2.1) a0.2 (s.2.2.2.2.1,s.2.2.2.2.2.1)).bind fun a1=>
  bif a1.2.2 !=0 then
   some (.done (.done 8))
  else
   bif !a1.2.1 then
    some (.next (s.1,s.2.1,s.2.2.1,aA .i64 (s.2.2.2.1+1),s.2.2.2.2))
   else
    bif (Int.ofNat s.1.length)==0 then
     some (.done (.done 8))
    else
     (aJ s.1 0).bind fun a2=>
     bif a2.1 !=a0.1 then
      some (.done (.done 8))
     else
      (aJ s.1 0).bind fun a3=>
      bif decide (a3.2.1<0) then
       some (.done (.done 8))
      else
       bif decide (200<=a3.2.1) then
        some (.done (.done 8))
       else
        (aJ s.2.2.2.2.2.2.2.2.2.2.2.2.2.1 a3.2.1).bind fun n4=>
        bif decide (n4<0) then
         some (.done (.done 8))
        else
         (aJ s.2.2.2.2.2.2.2.2.2.2.2.2.2.1 a3.2.1).bind fun n5=>
         (aJ s.2.2.2.2.2.2.2.2.2.2.2.2.1 n5).bind fun a6=>
         bif !((a6.1==a1.1.1)&&((a6.2.1==a1.1.2)&&((a6.2.2.1==a0.1)&&((a6.2.2.2.1==a3.2.1)&&(a6.2.2.2.2==a3.2.2))))) then
          some (.done (.done 8))
         else
          (gF s.1 1 (Int.ofNat s.1.length)).bind fun l7=>
          some (.next (l7,s.2.1,s.2.2.1,aA .i64 (s.2.2.2.1+1),s.2.2.2.2))
 else
  bif decide (0<(Int.ofNat s.1.length)) then
   some (.done (.done 8))
  else
   some (.done (.done 0))
def eU (s:aGs):Option aOn:=
 bif decide (s.2.1<s.1) then
  (aJ s.2.2.2.2.2.2.2.2.2.2.2.2.2 s.2.1).bind fun n0=>
  bif n0 !=0 then
   some (.done 8)
  else
   some (.next (s.1,aA .i64 (s.2.1+1),s.2.2))
 else
  bif (Int.ofNat s.2.2.2.2.2.2.2.2.2.2.2.1.length) !=200 then
   some (.done 8)
  else
   bif (Int.ofNat s.2.2.2.2.2.2.2.2.2.2.1.length) !=(Int.ofNat s.2.2.2.2.2.2.2.2.2.2.2.2.1.length) then
    some (.done 8)
   else
    aH cK (s.2.2.2.2.2.2.2.2.2.2.2.2.1,s.2.2.2.2.2.2.1,Int.ofNat s.2.2.2.2.2.2.1.length,0,s.2.2.1,s.2.2.2.1,s.2.2.2.2.1,s.2.2.2.2.2.1,s.2.2.2.2.2.2.1,s.2.2.2.2.2.2.2.1,s.2.2.2.2.2.2.2.2.1,s.2.2.2.2.2.2.2.2.2.1,s.2.2.2.2.2.2.2.2.2.2.1,s.2.2.2.2.2.2.2.2.2.2.2.1,s.2.2.2.2.2.2.2.2.2.2.2.2.1)
def gO (p0:aP):Option Int:=
 (iG p0.now).bind fun n0=>
 (fF p0.field).bind fun n1=>
 (qZ p0.certs).bind fun n2=>
 (lM p0.agenda).bind fun n3=>
 aH eU (Int.ofNat ([n0,n1,n2,n3].length),0,p0.now.1,p0.now.2,p0.field.points,p0.certs.next_,p0.certs.list,p0.agenda.slots.uses,p0.agenda.slots.used,p0.agenda.slots.free,p0.agenda.heap,p0.agenda.where_,p0.due,[n0,n1,n2,n3])
def c59:bM:=⟨aD.one (aM.agg bR),aM.int .i64,fun a=>gO a,.pure,false⟩
theorem K7:aK aX 59 c59:=Oc aLR rfl aF [(33,c33),(104,aAz),(117,aF9),(118,aAB),(119,aGr)] ⟨HF,I8,OU,I9,O0,trivial⟩ fun a=>by kernel_rfl
def kB (s:((List Int)×Int×Int×Int)):Option (bX ((List Int)×Int×Int×Int) Int):=
 bif decide (s.2.2.2<s.2.2.1) then
  (aJ s.1 s.2.2.2).bind fun n0=>
  bif s.2.1==n0 then
   some (.done s.2.2.2)
  else
   some (.next (s.1,s.2.1,s.2.2.1,aA .i64 (s.2.2.2+1)))
 else
  some (.done (-1))
def iK (p0:List Int) (p1:Int):Option Int:=
 aH kB (p0,p1,Int.ofNat p0.length,0)
def c43:bM:=⟨aD.cons (aM.sl ki) (aD.one (aM.int .i64)),aM.int .i64,fun a=>iK a.1 a.2,.pure,false⟩
theorem aAD:aK aX 43 c43:=Oc aLG rfl aF [] trivial fun a=>by kernel_rfl
def kC (p0:List Int) (p1:Int):Option Bool:=
 (iK p0 p1).bind fun n0=>
 some (decide (0<=n0))
def c60:bM:=⟨aD.cons (aM.sl ki) (aD.one (aM.int .i64)),aM.bool,fun a=>kC a.1 a.2,.pure,false⟩
theorem aMx:aK aX 60 c60:=Oc aLS rfl aF [(43,c43)] ⟨aAD,trivial⟩ fun a=>by kernel_rfl
abbrev xU:=List (Int×Int)
abbrev aGt:=(List Int)×Int×xU
def pR (s:aGt):Option (bX aGt xU):=
 bif decide (s.2.1<(Int.ofNat s.1.length)) then
  (aJ s.1 s.2.1).bind fun n0=>
  (aJ s.1 (aA .i64 (Int.tdiv (aA .i64 (s.2.1-1)) 2))).bind fun n1=>
  (bV s.2.2 [(n0,n1)]).bind fun l2=>
  some (.next (s.1,aA .i64 (s.2.1+1),l2))
 else
  some (.done s.2.2)
def wW (p0:List Int):Option xU:=
 aH pR (p0,1,[])
def c53:bM:=⟨aD.one (aM.sl ki),aM.sl jY,fun a=>wW a,.frz,false⟩
theorem aMy:aK aX 53 c53:=Oc aLO rfl aF [] trivial fun a=>by kernel_rfl
def jK (s:(xU×Int×Int×Int×Int)):Option (bX (xU×Int×Int×Int×Int) Int):=
 bif decide (s.2.2.1<s.2.1) then
  (aJ s.1 s.2.2.1).bind fun a0=>
  bif (s.2.2.2.1==a0.1)&&(s.2.2.2.2==a0.2) then
   some (.done s.2.2.1)
  else
   some (.next (s.1,s.2.1,aA .i64 (s.2.2.1+1),s.2.2.2))
 else
  some (.done (-1))
def pS (p0:List (Int×Int)) (p1:Int×Int):Option Int:=
 aH jK (p0,Int.ofNat p0.length,0,p1)
def aOo:bM:=⟨aD.cons (aM.sl jY) (aD.one (aM.agg (cR.row jY))),aM.int .i64,fun a=>pS a.1 a.2,.pure,false⟩
theorem aGu:aK aX 120 aOo:=Oc aEq rfl aF [] trivial fun a=>by kernel_rfl
def fG (p0:List (Int×Int)) (p1:Int×Int):Option Bool:=
 (pS p0 p1).bind fun n0=>
 some (decide (0<=n0))
def c61:bM:=⟨aD.cons (aM.sl jY) (aD.one (aM.agg (cR.row jY))),aM.bool,fun a=>fG a.1 a.2,.pure,false⟩
theorem UB:aK aX 61 c61:=Oc aLT rfl aF [(120,aOo)] ⟨aGu,trivial⟩ fun a=>by kernel_rfl
def AH (p0:Int×Int×Int) (p1:Int):Option Int:=
 (fA p0.1 p1).bind fun n0=>
 some n0
def aOp:bM:=⟨aD.cons (aM.agg (cR.row fL)) (aD.one (aM.int .i64)),aM.int .i64,fun a=>AH a.1 a.2,.pure,false⟩
theorem aGv:aK aX 179 aOp:=Oc aFe rfl aF [(180,UA)] ⟨C4,trivial⟩ fun a=>by kernel_rfl
def iR (s:OX):Option aGj:=
 bif decide (s.2.2.2.1<s.2.2.2.2) then
  (aJ s.1 (aA .i64 (sZ .u64 (aA .u64 (aA .i64 (s.2.2.2.1+s.2.2.2.2))) 1))).bind fun a0=>
  (AH a0 s.2.1).bind fun n1=>
  bif decide (n1<0) then
   some (.next (s.1,s.2.1,s.2.2.1,aA .i64 ((aA .i64 (sZ .u64 (aA .u64 (aA .i64 (s.2.2.2.1+s.2.2.2.2))) 1))+1),s.2.2.2.2))
  else
   some (.next (s.1,s.2.1,s.2.2.1,s.2.2.2.1,aA .i64 (sZ .u64 (aA .u64 (aA .i64 (s.2.2.2.1+s.2.2.2.2))) 1)))
 else
  bif decide (s.2.2.2.1<s.2.2.1) then
   (aJ s.1 s.2.2.2.1).bind fun a2=>
   (AH a2 s.2.1).bind fun n3=>
   some (.done (s.2.2.2.1,n3==0))
  else
   some (.done (s.2.2.2.1,false))
def cT (p0:List (Int×Int×Int)) (p1:Int) (_:Unit):Option (Int×Bool):=
 aH iR (p0,p1,Int.ofNat p0.length,0,Int.ofNat p0.length)
def RE:bM:=⟨aD.cons (aM.sl fL) (aD.cons (aM.int .i64) (aD.one (aM.clo 179 aD.nil))),aM.tup (aD.cons (aM.int .i64) (aD.one aM.bool)),fun a=>cT a.1 a.2.1 a.2.2,.pure,false⟩
theorem RF:aK aX 178 RE:=Oc V8 rfl aF [(179,aOp)] ⟨aGv,trivial⟩ fun a=>by kernel_rfl
def rD (p0:Field) (p1:Int):Option (Int×Bool):=
 (cT p0.points p1 ()).bind fun a0=>
 some a0
def aOq:bM:=⟨aD.cons (aM.agg cA) (aD.one (aM.int .i64)),aM.tup (aD.cons (aM.int .i64) (aD.one aM.bool)),fun a=>rD a.1 a.2,.pure,false⟩
theorem aGw:aK aX 129 aOq:=Oc aEz rfl aF [(178,RE)] ⟨RF,trivial⟩ fun a=>by kernel_rfl
def jL (p0:Field) (p1:Int):Option (Int×Int):=
 (fF p0).bind fun n0=>
 bif n0 !=0 then
  some (0,n0)
 else
  (rD p0 p1).bind fun a1=>
  bif !a1.2 then
   some (0,6)
  else
   some (a1.1,0)
def c92:bM:=⟨aD.cons (aM.agg cA) (aD.one (aM.int .i64)),aM.tup (aD.cons (aM.int .i64) (aD.one (aM.int .i64))),fun a=>jL a.1 a.2,.pure,false⟩
theorem aAE:aK aX 92 c92:=Oc aMa rfl aF [(104,aAz),(129,aOq)] ⟨I8,aGw,trivial⟩ fun a=>by kernel_rfl
def fD (p0:Field) (p1:Int):Option ((Int×Int×Int)×Int):=
 (jL p0 p1).bind fun a0=>
 bif a0.2 !=0 then
  some ((0,0,0),a0.2)
 else
  (aJ p0.points a0.1).bind fun a1=>
  some (a1,0)
def c96:bM:=⟨aD.cons (aM.agg cA) (aD.one (aM.int .i64)),aM.tup (aD.cons (aM.agg (cR.row fL)) (aD.one (aM.int .i64))),fun a=>fD a.1 a.2,.pure,false⟩
theorem UC:aK aX 96 c96:=Oc aMe rfl aF [(92,c92)] ⟨aAE,trivial⟩ fun a=>by kernel_rfl
def iE (p0:Int×Int×Int) (p1:Int×Int×Int) (p2:Int×Int):Option (Bool×Int):=
 (rB p0 p1 p2).bind fun n0=>
 bif n0 !=0 then
  some (false,n0)
 else
  (mR p0 p1 p2).bind fun n1=>
  some (decide (0<n1),0)
def c97:bM:=⟨aD.cons (aM.agg (cR.row fL)) (aD.cons (aM.agg (cR.row fL)) (aD.one (aM.agg (cR.row jY)))),aM.tup (aD.cons aM.bool (aD.one (aM.int .i64))),fun a=>iE a.1 a.2.1 a.2.2,.pure,false⟩
theorem aAF:aK aX 97 c97:=Oc aMf rfl aF [(152,aGl),(153,aMw)] ⟨OZ,WI,trivial⟩ fun a=>by kernel_rfl
def wX (p0:Field) (p1:Int×Int) (p2:Int) (p3:Int):Option Bool:=
 (fD p0 p2).bind fun a0=>
 (fD p0 p3).bind fun a1=>
 (iE a0.1 a1.1 p1).bind fun a2=>
 some a2.1
def c62:bM:=⟨aD.cons (aM.agg cA) (aD.cons (aM.agg (cR.row jY)) (aD.cons (aM.int .i64) (aD.one (aM.int .i64)))),aM.bool,fun a=>wX a.1 a.2.1 a.2.2.1 a.2.2.2,.pure,false⟩
theorem aMz:aK aX 62 c62:=Oc aLU rfl aF [(96,c96),(97,c97)] ⟨UC,aAF,trivial⟩ fun a=>by kernel_rfl
abbrev aOr:=xU×bN×Int×Int×Int×Int×bN×Int×bN×(List Int)×(List Bool)×(List Int)×iD×(List Int)×bN×(List Int)
abbrev aOs:=bN×Int×Int×Int×Int×bN×Int×bN×(List Int)×(List Bool)×(List Int)×iD×(List Int)×bN×(List Int)
abbrev aOt:=bX aOs Int
def pT (s:aOr):Option (bX aOr aOt):=
 bif decide (s.2.2.2.1<s.2.2.1) then
  (aJ s.2.1 s.2.2.2.1).bind fun a0=>
  (fG s.1 a0.2).bind fun b1=>
  bif !b1 then
   some (.done (.done 8))
  else
   (wX (Field.mk s.2.2.2.2.2.2.1) (s.2.2.2.2.1,s.2.2.2.2.2.1) a0.2.2 a0.2.1).bind fun b2=>
   bif !b2 then
    some (.done (.done 8))
   else
    some (.next (s.1,s.2.1,s.2.2.1,aA .i64 (s.2.2.2.1+1),s.2.2.2.2))
 else
  some (.done (.done 0))
def pU (s:aOs):Option aOt:=
 bif decide (s.2.2.1<s.2.1) then
  (aJ s.1 s.2.2.1).bind fun a0=>
  (kC s.2.2.2.2.2.2.2.2.2.2.2.2.2.2 a0.1).bind fun b1=>
  bif !b1 then
   some (.done 8)
  else
   some (.next (s.1,s.2.1,aA .i64 (s.2.2.1+1),s.2.2.2))
 else
  (wW s.2.2.2.2.2.2.2.2.2.2.2.2.2.2).bind fun l2=>
  bif (Int.ofNat l2.length) !=(Int.ofNat s.2.2.2.2.2.2.2.1.length) then
   some (.done 8)
  else
   aH pT (l2,s.2.2.2.2.2.2.2.1,Int.ofNat s.2.2.2.2.2.2.2.1.length,0,s.2.2.2)
def wY (p0:dH):Option Int:=
 (gO p0.clock).bind fun n0=>
 bif n0 !=0 then
  some 8
 else
  bif (Int.ofNat p0.heap.length) !=(Int.ofNat p0.clock.field.points.length) then
   some 8
  else
   aH pU (p0.clock.field.points,Int.ofNat p0.clock.field.points.length,0,p0.clock.now.1,p0.clock.now.2,p0.clock.field.points,p0.clock.certs.next_,p0.clock.certs.list,p0.clock.agenda.slots.uses,p0.clock.agenda.slots.used,p0.clock.agenda.slots.free,p0.clock.agenda.heap,p0.clock.agenda.where_,p0.clock.due,p0.heap)
def c25:bM:=⟨aD.one (aM.agg iC),aM.int .i64,fun a=>wY a,.pure,false⟩
theorem aMA:aK aX 25 c25:=Oc aLx rfl aF [(59,c59),(60,c60),(53,c53),(61,c61),(62,c62)] ⟨K7,aMx,aMy,UB,aMz,trivial⟩ fun a=>by kernel_rfl
theorem C5:aK aX 94 (bM.clone fL):=aK.clone aMc rfl
abbrev YJ:=Int×Int×bN
def jN (a:YJ):Option (Nat×Nat×bN):=
 bif (((decide (0<=a.1))&&(decide (a.1<=a.2.1)))&&(decide (a.2.1<=(Int.ofNat a.2.2.length))))&&(decide ((Int.ofNat a.2.2.length)<=(Int.ofNat a.2.2.length))) then
  bif a.1==a.2.1 then
   bif a.2.2.length==a.2.2.length then
    some (a.2.2.length,a.2.2.length,a.2.2)
   else
    none
  else
   (gF a.2.2 0 a.1).bind fun _=>
   bif ((decide (0<=a.2.1))&&(decide (a.2.1<=(Int.ofNat a.2.2.length))))&&(decide ((Int.ofNat a.2.2.length)<=(Int.ofNat a.2.2.length))) then
    bif ((a.2.2.drop (0+a.2.1.toNat)).take (((Int.ofNat a.2.2.length).toNat) -a.2.1.toNat)).isEmpty then
     bif ((decide (0<=(Int.ofNat a.1.toNat)))&&(decide ((Int.ofNat a.1.toNat)<=(Int.ofNat a.2.2.length))))&&(decide ((Int.ofNat a.2.2.length)<=(Int.ofNat a.2.2.length))) then
      bif Nat.beq (((Int.ofNat a.2.2.length).toNat) - ((Int.ofNat a.1.toNat).toNat)) 0 then
       bif a.2.2.length==a.2.2.length then
        some (a.1.toNat,a.2.2.length,a.2.2)
       else
        none
      else
       bif (Nat.ble ((0+((Int.ofNat a.1.toNat).toNat))+(((Int.ofNat a.2.2.length).toNat) - ((Int.ofNat a.1.toNat).toNat))) a.2.2.length)&&(!false) then
        bif ((gB a.2.2 (0+((Int.ofNat a.1.toNat).toNat)) (List.replicate (((Int.ofNat a.2.2.length).toNat) - ((Int.ofNat a.1.toNat).toNat)) (0,0,0))).length)==a.2.2.length then
         some (a.1.toNat,a.2.2.length,gB a.2.2 (0+((Int.ofNat a.1.toNat).toNat)) (List.replicate (((Int.ofNat a.2.2.length).toNat) - ((Int.ofNat a.1.toNat).toNat)) (0,0,0)))
        else
         none
       else
        none
     else
      none
    else
     bif Nat.ble (a.1.toNat+(((a.2.2.drop (0+a.2.1.toNat)).take (((Int.ofNat a.2.2.length).toNat) -a.2.1.toNat)).length)) a.2.2.length then
      bif (Nat.ble (a.1.toNat+(((a.2.2.drop (0+a.2.1.toNat)).take (((Int.ofNat a.2.2.length).toNat) -a.2.1.toNat)).length)) a.2.2.length)&&(!false) then
       bif ((decide (0<=(Int.ofNat (a.1.toNat+(((a.2.2.drop (0+a.2.1.toNat)).take (((Int.ofNat a.2.2.length).toNat) -a.2.1.toNat)).length)))))&&(decide ((Int.ofNat (a.1.toNat+(((a.2.2.drop (0+a.2.1.toNat)).take (((Int.ofNat a.2.2.length).toNat) -a.2.1.toNat)).length)))<=(Int.ofNat a.2.2.length))))&&(decide ((Int.ofNat a.2.2.length)<=(Int.ofNat a.2.2.length))) then
        bif Nat.beq (((Int.ofNat a.2.2.length).toNat) - ((Int.ofNat (a.1.toNat+(((a.2.2.drop (0+a.2.1.toNat)).take (((Int.ofNat a.2.2.length).toNat) -a.2.1.toNat)).length))).toNat)) 0 then
         bif ((gB a.2.2 a.1.toNat ((a.2.2.drop (0+a.2.1.toNat)).take (((Int.ofNat a.2.2.length).toNat) -a.2.1.toNat))).length)==a.2.2.length then
          some (a.1.toNat+(((a.2.2.drop (0+a.2.1.toNat)).take (((Int.ofNat a.2.2.length).toNat) -a.2.1.toNat)).length),a.2.2.length,gB a.2.2 a.1.toNat ((a.2.2.drop (0+a.2.1.toNat)).take (((Int.ofNat a.2.2.length).toNat) -a.2.1.toNat)))
         else
          none
        else
         bif (Nat.ble ((0+((Int.ofNat (a.1.toNat+(((a.2.2.drop (0+a.2.1.toNat)).take (((Int.ofNat a.2.2.length).toNat) -a.2.1.toNat)).length))).toNat))+(((Int.ofNat a.2.2.length).toNat) - ((Int.ofNat (a.1.toNat+(((a.2.2.drop (0+a.2.1.toNat)).take (((Int.ofNat a.2.2.length).toNat) -a.2.1.toNat)).length))).toNat))) ((gB a.2.2 a.1.toNat ((a.2.2.drop (0+a.2.1.toNat)).take (((Int.ofNat a.2.2.length).toNat) -a.2.1.toNat))).length))&&(!false) then
          bif ((gB (gB a.2.2 a.1.toNat ((a.2.2.drop (0+a.2.1.toNat)).take (((Int.ofNat a.2.2.length).toNat) -a.2.1.toNat))) (0+((Int.ofNat (a.1.toNat+(((a.2.2.drop (0+a.2.1.toNat)).take (((Int.ofNat a.2.2.length).toNat) -a.2.1.toNat)).length))).toNat)) (List.replicate (((Int.ofNat a.2.2.length).toNat) - ((Int.ofNat (a.1.toNat+(((a.2.2.drop (0+a.2.1.toNat)).take (((Int.ofNat a.2.2.length).toNat) -a.2.1.toNat)).length))).toNat)) (0,0,0))).length)==a.2.2.length then
           some (a.1.toNat+(((a.2.2.drop (0+a.2.1.toNat)).take (((Int.ofNat a.2.2.length).toNat) -a.2.1.toNat)).length),a.2.2.length,gB (gB a.2.2 a.1.toNat ((a.2.2.drop (0+a.2.1.toNat)).take (((Int.ofNat a.2.2.length).toNat) -a.2.1.toNat))) (0+((Int.ofNat (a.1.toNat+(((a.2.2.drop (0+a.2.1.toNat)).take (((Int.ofNat a.2.2.length).toNat) -a.2.1.toNat)).length))).toNat)) (List.replicate (((Int.ofNat a.2.2.length).toNat) - ((Int.ofNat (a.1.toNat+(((a.2.2.drop (0+a.2.1.toNat)).take (((Int.ofNat a.2.2.length).toNat) -a.2.1.toNat)).length))).toNat)) (0,0,0)))
          else
           none
         else
          none
       else
        none
      else
       none
     else
      none
   else
    none
 else
  none
def aIe:dT:=⟨[.i,.i,.l [.i .i64,.i .i64,.i .i64]],[.own 0 false,.int .i64 0,.int .i64 0],[.arr [.i .i64,.i .i64,.i .i64] []],[.n,.n,.l [.i .i64,.i .i64,.i .i64]],.pre 0 0 0 false,[.arr [.i .i64,.i .i64,.i .i64] []],fun a=>jN a⟩
theorem aAG:lW aX 93 aIe:=lW.of aMb (wd:=true) (cx:=(oN aF [] [] [] [])) (lX.make trivial trivial trivial) (fun a=>by kernel_rfl)
def mS (p0:Field) (p1:Int):Option (Field×Int):=
 (jL p0 p1).bind fun a0=>
 bif a0.2 !=0 then
  some (Field.mk [],a0.2)
 else
  (bO p0.points).bind fun l1=>
  (jN (a0.1,aA .i64 (a0.1+1),l1)).bind fun a2=>
  some (Field.mk (a2.2.2.take a2.1),0)
def c42:bM:=⟨aD.cons (aM.agg cA) (aD.one (aM.int .i64)),aM.tup (aD.cons (aM.agg cA) (aD.one (aM.int .i64))),fun a=>mS a.1 a.2,.frz,false⟩
theorem aMB:aK aX 42 c42:=aK.of aLF (cx:=(oN aF [(92,c92),(94,bM.clone fL)] [(93,aIe)] [] [])) rfl (lX.make ⟨aAE,C5,trivial⟩ ⟨aAG,trivial⟩ trivial) (fun a=>by kernel_rfl)
theorem rZ:aK aX 37 (bM.clone ki):=aK.clone aLC rfl
def mT (s:((List Int)×Int×Int×xU)):Option (bX ((List Int)×Int×Int×xU) xU):=
 bif decide (s.2.2.1<s.2.1) then
  (aJ s.1 (aA .i64 (s.2.2.1+1))).bind fun n0=>
  (aJ s.1 (aA .i64 (Int.tdiv s.2.2.1 2))).bind fun n1=>
  (bV s.2.2.2 [(n0,n1)]).bind fun l2=>
  some (.next (s.1,s.2.1,aA .i64 (s.2.2.1+1),l2))
 else
  some (.done s.2.2.2)
def wZ (p0:List Int):Option xU:=
 aH mT (p0,aA .i64 ((Int.ofNat p0.length) - (if (Int.ofNat p0.length)<1 then Int.ofNat p0.length else 1)),0,[])
def aOu:bM:=⟨aD.one (aM.sl ki),aM.sl jY,fun a=>wZ a,.frz,false⟩
theorem aGx:aK aX 101 aOu:=Oc aEb rfl aF [] trivial fun a=>by kernel_rfl
theorem yX:aK aX 138 (bM.clone fL):=aK.clone aEG rfl
theorem F5:aK aX 139 (bM.clone fL):=aK.clone aEH rfl
theorem vO:aK aX 140 (bM.clone lK):=aK.clone aEI rfl
def vP (p0:aP):Option aP:=
 (bO p0.field.points).bind fun l0=>
 (bO p0.certs.list).bind fun l1=>
 (bO p0.due).bind fun l2=>
 (bO p0.agenda.heap).bind fun l3=>
 (bO p0.agenda.where_).bind fun l4=>
 (bO p0.agenda.slots.uses).bind fun l5=>
 (bO p0.agenda.slots.used).bind fun l6=>
 (bO p0.agenda.slots.free).bind fun l7=>
 some (aP.mk p0.now (Field.mk l0) (aU.mk p0.certs.next_ l1) (aG.mk (aQ.mk l5 l6 l7) l3 l4) l2)
def aOv:bM:=⟨aD.one (aM.agg bR),aM.agg bR,fun a=>vP a,.own,true⟩
def aIf:bM:=⟨aD.one (aM.agg bR),aM.agg bR,fun a=>vP a,.frz,false⟩
theorem aGy:aK aX 154 aOv:=Oc V6 rfl aF [(94,bM.clone fL),(138,bM.clone fL),(139,bM.clone fL),(140,bM.clone lK),(37,bM.clone ki),(141,bM.clone kb)] ⟨C5,yX,F5,vO,rZ,vM,trivial⟩ fun a=>by kernel_rfl
theorem aAH:aK aX 154 aIf:=Oc V6 rfl aF [(94,bM.clone fL),(138,bM.clone fL),(139,bM.clone fL),(140,bM.clone lK),(37,bM.clone ki),(141,bM.clone kb)] ⟨C5,yX,F5,vO,rZ,vM,trivial⟩ fun a=>by kernel_rfl
def tH (p0:Int×Int×Int) (p1:Int):Option Int:=
 (fA p0.1 p1).bind fun n0=>
 some n0
def aOw:bM:=⟨aD.cons (aM.agg (cR.row fL)) (aD.one (aM.int .i64)),aM.int .i64,fun a=>tH a.1 a.2,.pure,false⟩
theorem aGz:aK aX 240 aOw:=Oc aFZ rfl aF [(180,UA)] ⟨C4,trivial⟩ fun a=>by kernel_rfl
def aS (s:OX):Option aGj:=
 bif decide (s.2.2.2.1<s.2.2.2.2) then
  (aJ s.1 (aA .i64 (sZ .u64 (aA .u64 (aA .i64 (s.2.2.2.1+s.2.2.2.2))) 1))).bind fun a0=>
  (tH a0 s.2.1).bind fun n1=>
  bif decide (n1<0) then
   some (.next (s.1,s.2.1,s.2.2.1,aA .i64 ((aA .i64 (sZ .u64 (aA .u64 (aA .i64 (s.2.2.2.1+s.2.2.2.2))) 1))+1),s.2.2.2.2))
  else
   some (.next (s.1,s.2.1,s.2.2.1,s.2.2.2.1,aA .i64 (sZ .u64 (aA .u64 (aA .i64 (s.2.2.2.1+s.2.2.2.2))) 1)))
 else
  bif decide (s.2.2.2.1<s.2.2.1) then
   (aJ s.1 s.2.2.2.1).bind fun a2=>
   (tH a2 s.2.1).bind fun n3=>
   some (.done (s.2.2.2.1,n3==0))
  else
   some (.done (s.2.2.2.1,false))
def aT (p0:List (Int×Int×Int)) (p1:Int) (_:Unit):Option (Int×Bool):=
 aH aS (p0,p1,Int.ofNat p0.length,0,Int.ofNat p0.length)
def RG:bM:=⟨aD.cons (aM.sl fL) (aD.cons (aM.int .i64) (aD.one (aM.clo 240 aD.nil))),aM.tup (aD.cons (aM.int .i64) (aD.one aM.bool)),fun a=>aT a.1 a.2.1 a.2.2,.pure,false⟩
theorem RH:aK aX 239 RG:=Oc aFY rfl aF [(240,aOw)] ⟨aGz,trivial⟩ fun a=>by kernel_rfl
def HG (p0:aU) (p1:Int):Option (Int×Int):=
 (qZ p0).bind fun n0=>
 bif n0 !=0 then
  some (0,n0)
 else
  (aT p0.list p1 ()).bind fun a1=>
  bif !a1.2 then
   some (0,6)
  else
   some (a1.1,0)
def aOx:bM:=⟨aD.cons (aM.agg gK) (aD.one (aM.int .i64)),aM.tup (aD.cons (aM.int .i64) (aD.one (aM.int .i64))),fun a=>HG a.1 a.2,.pure,false⟩
theorem aGA:aK aX 218 aOx:=Oc aFK rfl aF [(117,aF9),(239,RG)] ⟨OU,RH,trivial⟩ fun a=>by kernel_rfl
def dU (a:YJ):Option (Nat×Nat×bN):=
 bif (((decide (0<=a.1))&&(decide (a.1<=a.2.1)))&&(decide (a.2.1<=(Int.ofNat a.2.2.length))))&&(decide ((Int.ofNat a.2.2.length)<=(Int.ofNat a.2.2.length))) then
  bif a.1==a.2.1 then
   bif a.2.2.length==a.2.2.length then
    some (a.2.2.length,a.2.2.length,a.2.2)
   else
    none
  else
   (gF a.2.2 0 a.1).bind fun _=>
   bif ((decide (0<=a.2.1))&&(decide (a.2.1<=(Int.ofNat a.2.2.length))))&&(decide ((Int.ofNat a.2.2.length)<=(Int.ofNat a.2.2.length))) then
    bif ((a.2.2.drop (0+a.2.1.toNat)).take (((Int.ofNat a.2.2.length).toNat) -a.2.1.toNat)).isEmpty then
     bif ((decide (0<=(Int.ofNat a.1.toNat)))&&(decide ((Int.ofNat a.1.toNat)<=(Int.ofNat a.2.2.length))))&&(decide ((Int.ofNat a.2.2.length)<=(Int.ofNat a.2.2.length))) then
      bif Nat.beq (((Int.ofNat a.2.2.length).toNat) - ((Int.ofNat a.1.toNat).toNat)) 0 then
       bif a.2.2.length==a.2.2.length then
        some (a.1.toNat,a.2.2.length,a.2.2)
       else
        none
      else
       bif (Nat.ble ((0+((Int.ofNat a.1.toNat).toNat))+(((Int.ofNat a.2.2.length).toNat) - ((Int.ofNat a.1.toNat).toNat))) a.2.2.length)&&(!false) then
        bif ((gB a.2.2 (0+((Int.ofNat a.1.toNat).toNat)) (List.replicate (((Int.ofNat a.2.2.length).toNat) - ((Int.ofNat a.1.toNat).toNat)) (0,0,0))).length)==a.2.2.length then
         some (a.1.toNat,a.2.2.length,gB a.2.2 (0+((Int.ofNat a.1.toNat).toNat)) (List.replicate (((Int.ofNat a.2.2.length).toNat) - ((Int.ofNat a.1.toNat).toNat)) (0,0,0)))
        else
         none
       else
        none
     else
      none
    else
     bif Nat.ble (a.1.toNat+(((a.2.2.drop (0+a.2.1.toNat)).take (((Int.ofNat a.2.2.length).toNat) -a.2.1.toNat)).length)) a.2.2.length then
      bif (Nat.ble (a.1.toNat+(((a.2.2.drop (0+a.2.1.toNat)).take (((Int.ofNat a.2.2.length).toNat) -a.2.1.toNat)).length)) a.2.2.length)&&(!false) then
       bif ((decide (0<=(Int.ofNat (a.1.toNat+(((a.2.2.drop (0+a.2.1.toNat)).take (((Int.ofNat a.2.2.length).toNat) -a.2.1.toNat)).length)))))&&(decide ((Int.ofNat (a.1.toNat+(((a.2.2.drop (0+a.2.1.toNat)).take (((Int.ofNat a.2.2.length).toNat) -a.2.1.toNat)).length)))<=(Int.ofNat a.2.2.length))))&&(decide ((Int.ofNat a.2.2.length)<=(Int.ofNat a.2.2.length))) then
        bif Nat.beq (((Int.ofNat a.2.2.length).toNat) - ((Int.ofNat (a.1.toNat+(((a.2.2.drop (0+a.2.1.toNat)).take (((Int.ofNat a.2.2.length).toNat) -a.2.1.toNat)).length))).toNat)) 0 then
         bif ((gB a.2.2 a.1.toNat ((a.2.2.drop (0+a.2.1.toNat)).take (((Int.ofNat a.2.2.length).toNat) -a.2.1.toNat))).length)==a.2.2.length then
          some (a.1.toNat+(((a.2.2.drop (0+a.2.1.toNat)).take (((Int.ofNat a.2.2.length).toNat) -a.2.1.toNat)).length),a.2.2.length,gB a.2.2 a.1.toNat ((a.2.2.drop (0+a.2.1.toNat)).take (((Int.ofNat a.2.2.length).toNat) -a.2.1.toNat)))
         else
          none
        else
         bif (Nat.ble ((0+((Int.ofNat (a.1.toNat+(((a.2.2.drop (0+a.2.1.toNat)).take (((Int.ofNat a.2.2.length).toNat) -a.2.1.toNat)).length))).toNat))+(((Int.ofNat a.2.2.length).toNat) - ((Int.ofNat (a.1.toNat+(((a.2.2.drop (0+a.2.1.toNat)).take (((Int.ofNat a.2.2.length).toNat) -a.2.1.toNat)).length))).toNat))) ((gB a.2.2 a.1.toNat ((a.2.2.drop (0+a.2.1.toNat)).take (((Int.ofNat a.2.2.length).toNat) -a.2.1.toNat))).length))&&(!false) then
          bif ((gB (gB a.2.2 a.1.toNat ((a.2.2.drop (0+a.2.1.toNat)).take (((Int.ofNat a.2.2.length).toNat) -a.2.1.toNat))) (0+((Int.ofNat (a.1.toNat+(((a.2.2.drop (0+a.2.1.toNat)).take (((Int.ofNat a.2.2.length).toNat) -a.2.1.toNat)).length))).toNat)) (List.replicate (((Int.ofNat a.2.2.length).toNat) - ((Int.ofNat (a.1.toNat+(((a.2.2.drop (0+a.2.1.toNat)).take (((Int.ofNat a.2.2.length).toNat) -a.2.1.toNat)).length))).toNat)) (0,0,0))).length)==a.2.2.length then
           some (a.1.toNat+(((a.2.2.drop (0+a.2.1.toNat)).take (((Int.ofNat a.2.2.length).toNat) -a.2.1.toNat)).length),a.2.2.length,gB (gB a.2.2 a.1.toNat ((a.2.2.drop (0+a.2.1.toNat)).take (((Int.ofNat a.2.2.length).toNat) -a.2.1.toNat))) (0+((Int.ofNat (a.1.toNat+(((a.2.2.drop (0+a.2.1.toNat)).take (((Int.ofNat a.2.2.length).toNat) -a.2.1.toNat)).length))).toNat)) (List.replicate (((Int.ofNat a.2.2.length).toNat) - ((Int.ofNat (a.1.toNat+(((a.2.2.drop (0+a.2.1.toNat)).take (((Int.ofNat a.2.2.length).toNat) -a.2.1.toNat)).length))).toNat)) (0,0,0)))
          else
           none
         else
          none
       else
        none
      else
       none
     else
      none
   else
    none
 else
  none
def aAI:dT:=⟨[.i,.i,.l [.i .i64,.i .i64,.i .i64]],[.own 0 false,.int .i64 0,.int .i64 0],[.arr [.i .i64,.i .i64,.i .i64] []],[.n,.n,.l [.i .i64,.i .i64,.i .i64]],.pre 0 0 0 false,[.arr [.i .i64,.i .i64,.i .i64] []],fun a=>dU a⟩
theorem YK:lW aX 219 aAI:=lW.of aFL (wd:=true) (cx:=(oN aF [] [] [] [])) (lX.make trivial trivial trivial) (fun a=>by kernel_rfl)
def xA (p0:aU) (p1:Int):Option (aU×(Int×Int)×Int):=
 (HG p0 p1).bind fun a0=>
 bif a0.2 !=0 then
  some (aU.mk 0 [],(0,0),a0.2)
 else
  (bO p0.list).bind fun l1=>
  (dU (a0.1,aA .i64 (a0.1+1),l1)).bind fun a2=>
  (aJ p0.list a0.1).bind fun a3=>
  some (aU.mk p0.next_ (a2.2.2.take a2.1),a3.2,0)
def aOy:bM:=⟨aD.cons (aM.agg gK) (aD.one (aM.int .i64)),aM.tup (aD.cons (aM.agg gK) (aD.cons (aM.agg (cR.row jY)) (aD.one (aM.int .i64)))),fun a=>xA a.1 a.2,.frz,false⟩
theorem aGB:aK aX 184 aOy:=aK.of aFh (cx:=(oN aF [(218,aOx),(138,bM.clone fL)] [(219,aAI)] [] [])) rfl (lX.make ⟨aGA,yX,trivial⟩ ⟨YK,trivial⟩ trivial) (fun a=>by kernel_rfl)
def mU (p0:aP):Option aP:=
 (bO p0.field.points).bind fun l0=>
 (bO p0.certs.list).bind fun l1=>
 (bO p0.due).bind fun l2=>
 (bO p0.agenda.heap).bind fun l3=>
 (bO p0.agenda.where_).bind fun l4=>
 (bO p0.agenda.slots.uses).bind fun l5=>
 (bO p0.agenda.slots.used).bind fun l6=>
 (bO p0.agenda.slots.free).bind fun l7=>
 some (aP.mk p0.now (Field.mk l0) (aU.mk p0.certs.next_ l1) (aG.mk (aQ.mk l5 l6 l7) l3 l4) l2)
def c83:bM:=⟨aD.one (aM.agg bR),aM.agg bR,fun a=>mU a,.own,true⟩
def aGC:bM:=⟨aD.one (aM.agg bR),aM.agg bR,fun a=>mU a,.frz,false⟩
theorem UD:aK aX 83 c83:=Oc aAv rfl aF [(94,bM.clone fL),(138,bM.clone fL),(139,bM.clone fL),(140,bM.clone lK),(37,bM.clone ki),(141,bM.clone kb)] ⟨C5,yX,F5,vO,rZ,vM,trivial⟩ fun a=>by kernel_rfl
theorem O1:aK aX 83 aGC:=Oc aAv rfl aF [(94,bM.clone fL),(138,bM.clone fL),(139,bM.clone fL),(140,bM.clone lK),(37,bM.clone ki),(141,bM.clone kb)] ⟨C5,yX,F5,vO,rZ,vM,trivial⟩ fun a=>by kernel_rfl
def xV (p0:Int×Int×Int) (p1:Int):Option Int:=
 (fA p0.1 p1).bind fun n0=>
 some n0
def aOz:bM:=⟨aD.cons (aM.agg (cR.row fL)) (aD.one (aM.int .i64)),aM.int .i64,fun a=>xV a.1 a.2,.pure,false⟩
theorem aGD:aK aX 200 aOz:=Oc aFw rfl aF [(180,UA)] ⟨C4,trivial⟩ fun a=>by kernel_rfl
def jA (s:OX):Option aGj:=
 bif decide (s.2.2.2.1<s.2.2.2.2) then
  (aJ s.1 (aA .i64 (sZ .u64 (aA .u64 (aA .i64 (s.2.2.2.1+s.2.2.2.2))) 1))).bind fun a0=>
  (xV a0 s.2.1).bind fun n1=>
  bif decide (n1<0) then
   some (.next (s.1,s.2.1,s.2.2.1,aA .i64 ((aA .i64 (sZ .u64 (aA .u64 (aA .i64 (s.2.2.2.1+s.2.2.2.2))) 1))+1),s.2.2.2.2))
  else
   some (.next (s.1,s.2.1,s.2.2.1,s.2.2.2.1,aA .i64 (sZ .u64 (aA .u64 (aA .i64 (s.2.2.2.1+s.2.2.2.2))) 1)))
 else
  bif decide (s.2.2.2.1<s.2.2.1) then
   (aJ s.1 s.2.2.2.1).bind fun a2=>
   (xV a2 s.2.1).bind fun n3=>
   some (.done (s.2.2.2.1,n3==0))
  else
   some (.done (s.2.2.2.1,false))
def cX (p0:List (Int×Int×Int)) (p1:Int) (_:Unit):Option (Int×Bool):=
 aH jA (p0,p1,Int.ofNat p0.length,0,Int.ofNat p0.length)
def RI:bM:=⟨aD.cons (aM.sl fL) (aD.cons (aM.int .i64) (aD.one (aM.clo 200 aD.nil))),aM.tup (aD.cons (aM.int .i64) (aD.one aM.bool)),fun a=>cX a.1 a.2.1 a.2.2,.pure,false⟩
theorem RJ:aK aX 199 RI:=Oc aFv rfl aF [(200,aOz)] ⟨aGD,trivial⟩ fun a=>by kernel_rfl
def pB (p0:List (Int×Int×Int)) (p1:Int):Option (Int×Bool):=
 (cX p0 p1 ()).bind fun a0=>
 some a0
def aMC:bM:=⟨aD.cons (aM.sl fL) (aD.one (aM.int .i64)),aM.tup (aD.cons (aM.int .i64) (aD.one aM.bool)),fun a=>pB a.1 a.2,.pure,false⟩
theorem WJ:aK aX 158 aMC:=Oc aEW rfl aF [(199,RI)] ⟨RJ,trivial⟩ fun a=>by kernel_rfl
def CB (p0:aQ) (p1:Int×Int):Option (Bool×Int):=
 (rA p0).bind fun n0=>
 bif n0 !=0 then
  some (false,n0)
 else
  bif decide (0<=p1.1) then
   bif decide (p1.1<(Int.ofNat p0.used.length)) then
    (aJ p0.used p1.1).bind fun b1=>
    bif b1 then
     (aJ p0.uses p1.1).bind fun n2=>
     some (n2==p1.2,0)
    else
     some (false,0)
   else
    some (false,0)
  else
   some (false,0)
def aMD:bM:=⟨aD.cons (aM.agg gC) (aD.one (aM.agg (cR.row jY))),aM.tup (aD.cons aM.bool (aD.one (aM.int .i64))),fun a=>CB a.1 a.2,.pure,false⟩
theorem WK:aK aX 227 aMD:=Oc aFP rfl aF [(167,aGc)] ⟨OV,trivial⟩ fun a=>by kernel_rfl
def pV (p0:aG) (p1:Int×Int):Option (Int×Int):=
 (lM p0).bind fun n0=>
 bif n0 !=0 then
  some (0,n0)
 else
  (CB p0.slots p1).bind fun a1=>
  bif a1.2 !=0 then
   some (0,6)
  else
   bif !a1.1 then
    some (0,6)
   else
    (aJ p0.where_ p1.1).bind fun n2=>
    some (n2,0)
def aME:bM:=⟨aD.cons (aM.agg cZ) (aD.one (aM.agg (cR.row jY))),aM.tup (aD.cons (aM.int .i64) (aD.one (aM.int .i64))),fun a=>pV a.1 a.2,.pure,false⟩
theorem WL:aK aX 201 aME:=Oc aFx rfl aF [(118,aAB),(227,aMD)] ⟨I9,WK,trivial⟩ fun a=>by kernel_rfl
theorem RK:aK aX 241 (bM.clone ki):=aK.clone aF0 rfl
def tZ (p0:List Int) (p1:Int):Option (List Int):=
 (bO p0).bind fun l0=>
 (bV l0 [p1]).bind fun l1=>
 some l1
def aOA:bM:=⟨aD.cons (aM.sl ki) (aD.one (aM.int .i64)),aM.sl ki,fun a=>tZ a.1 a.2,.frz,false⟩
theorem aGE:aK aX 242 aOA:=Oc aF1 rfl aF [(241,bM.clone ki)] ⟨RK,trivial⟩ fun a=>by kernel_rfl
def C6 (p0:aQ) (p1:Int×Int):Option (aQ×Int):=
 (CB p0 p1).bind fun a0=>
 bif a0.2 !=0 then
  some (aQ.mk [] [] [],a0.2)
 else
  bif !a0.1 then
   some (aQ.mk [] [] [],6)
  else
   (bO p0.uses).bind fun l1=>
   (bO p0.used).bind fun l2=>
   (tZ p0.free p1.1).bind fun l3=>
   (aJ l2 p1.1).bind fun _=>
   some (aQ.mk l1 (bJ l2 p1.1 false) l3,0)
def aOB:bM:=⟨aD.cons (aM.agg gC) (aD.one (aM.agg (cR.row jY))),aM.tup (aD.cons (aM.agg gC) (aD.one (aM.int .i64))),fun a=>C6 a.1 a.2,.frz,false⟩
theorem aGF:aK aX 232 aOB:=aK.of aFS (cx:=(oN aF [(227,aMD),(37,bM.clone ki),(141,bM.clone kb),(242,aOA)] [] [(231,aAo)] [])) rfl (lX.make ⟨WK,rZ,vM,aGE,trivial⟩ trivial ⟨WC,trivial⟩) (fun a=>by kernel_rfl)
abbrev aGG:=(List Int)×(List Bool)×(List Int)×Nat×Nat×Int×Int×Int×Int×Int×Int×iD×(List Int)
abbrev MG:=iD×(List Int)
def bS (a:aGG):Option MG:=
 (aJ (a.2.2.2.2.2.2.2.2.2.2.2.1.take a.2.2.2.1) a.2.2.2.2.2.1).bind fun _=>
 (aJ a.2.2.2.2.2.2.2.2.2.2.2.2 a.2.2.2.2.2.2.2.2.2.1).bind fun _=>
 bif ((bJ a.2.2.2.2.2.2.2.2.2.2.2.1 a.2.2.2.2.2.1 (a.2.2.2.2.2.2.1,a.2.2.2.2.2.2.2.1,a.2.2.2.2.2.2.2.2.1,a.2.2.2.2.2.2.2.2.2.1,a.2.2.2.2.2.2.2.2.2.2.1)).length)==a.2.2.2.2.2.2.2.2.2.2.2.1.length then
  bif ((bJ a.2.2.2.2.2.2.2.2.2.2.2.2 a.2.2.2.2.2.2.2.2.2.1 a.2.2.2.2.2.1).length)==a.2.2.2.2.2.2.2.2.2.2.2.2.length then
   some (bJ a.2.2.2.2.2.2.2.2.2.2.2.1 a.2.2.2.2.2.1 (a.2.2.2.2.2.2.1,a.2.2.2.2.2.2.2.1,a.2.2.2.2.2.2.2.2.1,a.2.2.2.2.2.2.2.2.2.1,a.2.2.2.2.2.2.2.2.2.2.1),bJ a.2.2.2.2.2.2.2.2.2.2.2.2 a.2.2.2.2.2.2.2.2.2.1 a.2.2.2.2.2.1)
  else
   none
 else
  none
def UE:dT:=⟨[.l [.i .i64],.l [.b],.l [.i .i64],.n,.n,.i,.i,.i,.i,.i,.i,.l [.i .i64,.i .i64,.i .i64,.i .i64,.i .i64],.l [.i .i64]],[.agg [.sl [.i .i64] [],.sl [.b] [],.sl [.i .i64] [],.pre 0 0 0 false,.own 1 false],.int .i64 0,.agg [.int .i64 0,.int .i64 0,.int .i64 0,.int .i64 0,.int .i64 0]],[.arr [.i .i64,.i .i64,.i .i64,.i .i64,.i .i64] [],.arr [.i .i64] []],[.l [.i .i64,.i .i64,.i .i64,.i .i64,.i .i64],.l [.i .i64]],.tup [],[.arr [.i .i64,.i .i64,.i .i64,.i .i64,.i .i64] [],.arr [.i .i64] []],fun a=>bS a⟩
theorem NC:lW aX 228 UE:=lW.of WB (wd:=false) (cx:=(oN aF [] [] [] [])) (lX.make trivial trivial trivial) (fun a=>by kernel_rfl)
abbrev aOC:=Int×iD×(List Int)×(List Int)×(List Bool)×(List Int)×Nat×Nat×Int×Int×Int×Int×Int
abbrev aOD:=bX aOC MG
abbrev aOE:=Int×Int×iD×(List Int)×(List Int)×(List Bool)×(List Int)×Nat×Nat×Int×Int×Int×Int×Int
def fU (c0:aGG) (s:aOE):Option (bX aOE aOD):=
 match s with
 |(a,b,d,e,f,g,h,i,j,k,l,m,n,o)=>
  bif decide (b<(Int.ofNat i)) then
   bif decide ((aA .i64 (b+1))<(Int.ofNat i)) then
    (aJ (d.take i) (aA .i64 (b+1))).bind fun a0=>
    (aJ (d.take i) b).bind fun a1=>
    (bY a0 a1).bind fun n2=>
    bif decide (n2<0) then
     (aJ (d.take i) (aA .i64 (b+1))).bind fun a3=>
     (bY a3 (k,l,m,n,o)).bind fun n4=>
     bif decide (0<=n4) then
      (bS (f,g,h,i,j,a,k,l,m,n,o,d,e)).bind fun a5=>
      bif a5.1.length==c0.2.2.2.2.2.2.2.2.2.2.2.1.length then
       bif a5.2.length==c0.2.2.2.2.2.2.2.2.2.2.2.2.length then
        some (.done (.done a5))
       else
        none
      else
       none
     else
      (aJ (d.take i) (aA .i64 (b+1))).bind fun a6=>
      (bS (f,g,h,i,j,a,a6.1,a6.2.1,a6.2.2.1,a6.2.2.2.1,a6.2.2.2.2,d,e)).bind fun a7=>
      some (.next (aA .i64 (b+1),aA .i64 ((aA .i64 (2*(aA .i64 (b+1))))+1),a7.1,a7.2,(f,g,h,i,j,k,l,m,n,o)))
    else
     (aJ (d.take i) b).bind fun a8=>
     (bY a8 (k,l,m,n,o)).bind fun n9=>
     bif decide (0<=n9) then
      (bS (f,g,h,i,j,a,k,l,m,n,o,d,e)).bind fun a10=>
      bif a10.1.length==c0.2.2.2.2.2.2.2.2.2.2.2.1.length then
       bif a10.2.length==c0.2.2.2.2.2.2.2.2.2.2.2.2.length then
        some (.done (.done a10))
       else
        none
      else
       none
     else
      (aJ (d.take i) b).bind fun a11=>
      (bS (f,g,h,i,j,a,a11.1,a11.2.1,a11.2.2.1,a11.2.2.2.1,a11.2.2.2.2,d,e)).bind fun a12=>
      some (.next (b,aA .i64 ((aA .i64 (2*b))+1),a12.1,a12.2,(f,g,h,i,j,k,l,m,n,o)))
   else
    (aJ (d.take i) b).bind fun a13=>
    (bY a13 (k,l,m,n,o)).bind fun n14=>
    bif decide (0<=n14) then
     (bS (f,g,h,i,j,a,k,l,m,n,o,d,e)).bind fun a15=>
     bif a15.1.length==c0.2.2.2.2.2.2.2.2.2.2.2.1.length then
      bif a15.2.length==c0.2.2.2.2.2.2.2.2.2.2.2.2.length then
       some (.done (.done a15))
      else
       none
     else
      none
    else
     (aJ (d.take i) b).bind fun a16=>
     (bS (f,g,h,i,j,a,a16.1,a16.2.1,a16.2.2.1,a16.2.2.2.1,a16.2.2.2.2,d,e)).bind fun a17=>
     some (.next (b,aA .i64 ((aA .i64 (2*b))+1),a17.1,a17.2,(f,g,h,i,j,k,l,m,n,o)))
  else
   (bS (f,g,h,i,j,a,k,l,m,n,o,d,e)).bind fun a18=>
   bif a18.1.length==c0.2.2.2.2.2.2.2.2.2.2.2.1.length then
    bif a18.2.length==c0.2.2.2.2.2.2.2.2.2.2.2.2.length then
     some (.done (.done a18))
    else
     none
   else
    none
def eD (c0:aGG) (s:aOC):Option aOD:=
 bif decide (0<s.1) then
  (aJ (s.2.1.take s.2.2.2.2.2.2.1) (aA .i64 (Int.tdiv (aA .i64 (s.1-1)) 2))).bind fun a0=>
  (bY s.2.2.2.2.2.2.2.2 a0).bind fun n1=>
  bif decide (n1<0) then
   (aJ (s.2.1.take s.2.2.2.2.2.2.1) (aA .i64 (Int.tdiv (aA .i64 (s.1-1)) 2))).bind fun a2=>
   (bS (s.2.2.2.1,s.2.2.2.2.1,s.2.2.2.2.2.1,s.2.2.2.2.2.2.1,s.2.2.2.2.2.2.2.1,s.1,a2.1,a2.2.1,a2.2.2.1,a2.2.2.2.1,a2.2.2.2.2,s.2.1,s.2.2.1)).bind fun a3=>
   some (.next (aA .i64 (Int.tdiv (aA .i64 (s.1-1)) 2),a3.1,a3.2,s.2.2.2))
  else
   aH (fU c0) (s.1,aA .i64 ((aA .i64 (2*s.1))+1),s.2)
 else
  aH (fU c0) (s.1,aA .i64 ((aA .i64 (2*s.1))+1),s.2)
def kD (a:aGG):Option MG:=
 aH (eD a) (a.2.2.2.2.2.1,a.2.2.2.2.2.2.2.2.2.2.2.1,a.2.2.2.2.2.2.2.2.2.2.2.2,a.1,a.2.1,a.2.2.1,a.2.2.2.1,a.2.2.2.2.1,a.2.2.2.2.2.2.1,a.2.2.2.2.2.2.2.1,a.2.2.2.2.2.2.2.2.1,a.2.2.2.2.2.2.2.2.2.1,a.2.2.2.2.2.2.2.2.2.2.1)
def O2:dT:=⟨[.l [.i .i64],.l [.b],.l [.i .i64],.n,.n,.i,.i,.i,.i,.i,.i,.l [.i .i64,.i .i64,.i .i64,.i .i64,.i .i64],.l [.i .i64]],[.agg [.sl [.i .i64] [],.sl [.b] [],.sl [.i .i64] [],.pre 0 0 0 false,.own 1 false],.int .i64 0,.agg [.int .i64 0,.int .i64 0,.int .i64 0,.int .i64 0,.int .i64 0]],[.arr [.i .i64,.i .i64,.i .i64,.i .i64,.i .i64] [],.arr [.i .i64] []],[.l [.i .i64,.i .i64,.i .i64,.i .i64,.i .i64],.l [.i .i64]],.tup [],[.arr [.i .i64,.i .i64,.i .i64,.i .i64,.i .i64] [],.arr [.i .i64] []],fun a=>kD a⟩
theorem HH:lW aX 203 O2:=lW.of V9 (wd:=false) (cx:=(oN aF [(168,aGh)] [(228,UE)] [] [])) (lX.make ⟨OW,trivial⟩ ⟨NC,trivial⟩ trivial) (fun a=>by kernel_rfl)
def sA (p0:aG) (p1:Int):Option (aG×(Int×Int×Int×Int×Int)×Int):=
 (aJ p0.heap p1).bind fun a0=>
 (C6 p0.slots a0.2.2.2).bind fun a1=>
 bif a1.2 !=0 then
  some (aG.mk (aQ.mk [] [] []) [] [],(0,0,0,0,0),a1.2)
 else
  (bO p0.heap).bind fun l2=>
  (bO p0.where_).bind fun l3=>
  (aJ l2 (aA .i64 ((Int.ofNat l2.length) -1))).bind fun a4=>
  (gF l2 0 (aA .i64 ((Int.ofNat l2.length) -1))).bind fun _=>
  (aJ l3 a0.2.2.2.1).bind fun _=>
  bif decide (p1<(aA .i64 ((Int.ofNat l2.length) -1))) then
   (kD (a1.1.uses,a1.1.used,a1.1.free,(aA .i64 ((Int.ofNat l2.length) -1)).toNat,l2.length,p1,a4.1,a4.2.1,a4.2.2.1,a4.2.2.2.1,a4.2.2.2.2,l2,bJ l3 a0.2.2.2.1 (-1))).bind fun a7=>
   some (aG.mk a1.1 (a7.1.take ((aA .i64 ((Int.ofNat l2.length) -1)).toNat)) a7.2,a0,0)
  else
   some (aG.mk a1.1 (l2.take ((aA .i64 ((Int.ofNat l2.length) -1)).toNat)) (bJ l3 a0.2.2.2.1 (-1)),a0,0)
def aOF:bM:=⟨aD.cons (aM.agg cZ) (aD.one (aM.int .i64)),aM.tup (aD.cons (aM.agg cZ) (aD.cons (aM.agg (cR.row lK)) (aD.one (aM.int .i64)))),fun a=>sA a.1 a.2,.frz,false⟩
theorem aGH:aK aX 207 aOF:=aK.of aFB (cx:=(oN aF [(232,aOB),(140,bM.clone lK),(37,bM.clone ki)] [(203,O2)] [(202,YH)] [])) rfl (lX.make ⟨aGF,vO,rZ,trivial⟩ ⟨HH,trivial⟩ ⟨OP,trivial⟩) (fun a=>by kernel_rfl)
def mC (p0:aG) (p1:Int×Int):Option (aG×(Int×Int×Int×Int×Int)×Int):=
 (pV p0 p1).bind fun a0=>
 bif a0.2 !=0 then
  some (aG.mk (aQ.mk [] [] []) [] [],(0,0,0,0,0),a0.2)
 else
  (sA p0 a0.1).bind fun a1=>
  some a1
def aMF:bM:=⟨aD.cons (aM.agg cZ) (aD.one (aM.agg (cR.row jY))),aM.tup (aD.cons (aM.agg cZ) (aD.cons (aM.agg (cR.row lK)) (aD.one (aM.int .i64)))),fun a=>mC a.1 a.2,.frz,false⟩
theorem WM:aK aX 161 aMF:=Oc aEZ rfl aF [(201,aME),(207,aOF)] ⟨WL,aGH,trivial⟩ fun a=>by kernel_rfl
def lN (a:YJ):Option (Nat×Nat×bN):=
 bif (((decide (0<=a.1))&&(decide (a.1<=a.2.1)))&&(decide (a.2.1<=(Int.ofNat a.2.2.length))))&&(decide ((Int.ofNat a.2.2.length)<=(Int.ofNat a.2.2.length))) then
  bif a.1==a.2.1 then
   bif a.2.2.length==a.2.2.length then
    some (a.2.2.length,a.2.2.length,a.2.2)
   else
    none
  else
   (gF a.2.2 0 a.1).bind fun _=>
   bif ((decide (0<=a.2.1))&&(decide (a.2.1<=(Int.ofNat a.2.2.length))))&&(decide ((Int.ofNat a.2.2.length)<=(Int.ofNat a.2.2.length))) then
    bif ((a.2.2.drop (0+a.2.1.toNat)).take (((Int.ofNat a.2.2.length).toNat) -a.2.1.toNat)).isEmpty then
     bif ((decide (0<=(Int.ofNat a.1.toNat)))&&(decide ((Int.ofNat a.1.toNat)<=(Int.ofNat a.2.2.length))))&&(decide ((Int.ofNat a.2.2.length)<=(Int.ofNat a.2.2.length))) then
      bif Nat.beq (((Int.ofNat a.2.2.length).toNat) - ((Int.ofNat a.1.toNat).toNat)) 0 then
       bif a.2.2.length==a.2.2.length then
        some (a.1.toNat,a.2.2.length,a.2.2)
       else
        none
      else
       bif (Nat.ble ((0+((Int.ofNat a.1.toNat).toNat))+(((Int.ofNat a.2.2.length).toNat) - ((Int.ofNat a.1.toNat).toNat))) a.2.2.length)&&(!false) then
        bif ((gB a.2.2 (0+((Int.ofNat a.1.toNat).toNat)) (List.replicate (((Int.ofNat a.2.2.length).toNat) - ((Int.ofNat a.1.toNat).toNat)) (0,0,0))).length)==a.2.2.length then
         some (a.1.toNat,a.2.2.length,gB a.2.2 (0+((Int.ofNat a.1.toNat).toNat)) (List.replicate (((Int.ofNat a.2.2.length).toNat) - ((Int.ofNat a.1.toNat).toNat)) (0,0,0)))
        else
         none
       else
        none
     else
      none
    else
     bif Nat.ble (a.1.toNat+(((a.2.2.drop (0+a.2.1.toNat)).take (((Int.ofNat a.2.2.length).toNat) -a.2.1.toNat)).length)) a.2.2.length then
      bif (Nat.ble (a.1.toNat+(((a.2.2.drop (0+a.2.1.toNat)).take (((Int.ofNat a.2.2.length).toNat) -a.2.1.toNat)).length)) a.2.2.length)&&(!false) then
       bif ((decide (0<=(Int.ofNat (a.1.toNat+(((a.2.2.drop (0+a.2.1.toNat)).take (((Int.ofNat a.2.2.length).toNat) -a.2.1.toNat)).length)))))&&(decide ((Int.ofNat (a.1.toNat+(((a.2.2.drop (0+a.2.1.toNat)).take (((Int.ofNat a.2.2.length).toNat) -a.2.1.toNat)).length)))<=(Int.ofNat a.2.2.length))))&&(decide ((Int.ofNat a.2.2.length)<=(Int.ofNat a.2.2.length))) then
        bif Nat.beq (((Int.ofNat a.2.2.length).toNat) - ((Int.ofNat (a.1.toNat+(((a.2.2.drop (0+a.2.1.toNat)).take (((Int.ofNat a.2.2.length).toNat) -a.2.1.toNat)).length))).toNat)) 0 then
         bif ((gB a.2.2 a.1.toNat ((a.2.2.drop (0+a.2.1.toNat)).take (((Int.ofNat a.2.2.length).toNat) -a.2.1.toNat))).length)==a.2.2.length then
          some (a.1.toNat+(((a.2.2.drop (0+a.2.1.toNat)).take (((Int.ofNat a.2.2.length).toNat) -a.2.1.toNat)).length),a.2.2.length,gB a.2.2 a.1.toNat ((a.2.2.drop (0+a.2.1.toNat)).take (((Int.ofNat a.2.2.length).toNat) -a.2.1.toNat)))
         else
          none
        else
         bif (Nat.ble ((0+((Int.ofNat (a.1.toNat+(((a.2.2.drop (0+a.2.1.toNat)).take (((Int.ofNat a.2.2.length).toNat) -a.2.1.toNat)).length))).toNat))+(((Int.ofNat a.2.2.length).toNat) - ((Int.ofNat (a.1.toNat+(((a.2.2.drop (0+a.2.1.toNat)).take (((Int.ofNat a.2.2.length).toNat) -a.2.1.toNat)).length))).toNat))) ((gB a.2.2 a.1.toNat ((a.2.2.drop (0+a.2.1.toNat)).take (((Int.ofNat a.2.2.length).toNat) -a.2.1.toNat))).length))&&(!false) then
          bif ((gB (gB a.2.2 a.1.toNat ((a.2.2.drop (0+a.2.1.toNat)).take (((Int.ofNat a.2.2.length).toNat) -a.2.1.toNat))) (0+((Int.ofNat (a.1.toNat+(((a.2.2.drop (0+a.2.1.toNat)).take (((Int.ofNat a.2.2.length).toNat) -a.2.1.toNat)).length))).toNat)) (List.replicate (((Int.ofNat a.2.2.length).toNat) - ((Int.ofNat (a.1.toNat+(((a.2.2.drop (0+a.2.1.toNat)).take (((Int.ofNat a.2.2.length).toNat) -a.2.1.toNat)).length))).toNat)) (0,0,0))).length)==a.2.2.length then
           some (a.1.toNat+(((a.2.2.drop (0+a.2.1.toNat)).take (((Int.ofNat a.2.2.length).toNat) -a.2.1.toNat)).length),a.2.2.length,gB (gB a.2.2 a.1.toNat ((a.2.2.drop (0+a.2.1.toNat)).take (((Int.ofNat a.2.2.length).toNat) -a.2.1.toNat))) (0+((Int.ofNat (a.1.toNat+(((a.2.2.drop (0+a.2.1.toNat)).take (((Int.ofNat a.2.2.length).toNat) -a.2.1.toNat)).length))).toNat)) (List.replicate (((Int.ofNat a.2.2.length).toNat) - ((Int.ofNat (a.1.toNat+(((a.2.2.drop (0+a.2.1.toNat)).take (((Int.ofNat a.2.2.length).toNat) -a.2.1.toNat)).length))).toNat)) (0,0,0)))
          else
           none
         else
          none
       else
        none
      else
       none
     else
      none
   else
    none
 else
  none
def aAJ:dT:=⟨[.i,.i,.l [.i .i64,.i .i64,.i .i64]],[.own 0 false,.int .i64 0,.int .i64 0],[.arr [.i .i64,.i .i64,.i .i64] []],[.n,.n,.l [.i .i64,.i .i64,.i .i64]],.pre 0 0 0 false,[.arr [.i .i64,.i .i64,.i .i64] []],fun a=>lN a⟩
theorem YL:lW aX 185 aAJ:=lW.of aFi (wd:=true) (cx:=(oN aF [] [] [] [])) (lX.make trivial trivial trivial) (fun a=>by kernel_rfl)
def rE (p0:aP) (p1:Int):Option (aP×(Int×Int)×Int):=
 (xA p0.certs p1).bind fun a0=>
 bif a0.2.2 !=0 then
  some (aP.mk (0,0) (Field.mk []) (aU.mk 0 []) (aG.mk (aQ.mk [] [] []) [] []) [],a0.2)
 else
  (mU p0).bind fun r1=>
  (pB p0.due p1).bind fun a2=>
  bif a2.2 then
   (aJ p0.due a2.1).bind fun a3=>
   (mC p0.agenda a3.2).bind fun a4=>
   bif a4.2.2 !=0 then
    some (aP.mk (0,0) (Field.mk []) (aU.mk 0 []) (aG.mk (aQ.mk [] [] []) [] []) [],a0.2.1,a4.2.2)
   else
    (lN (a2.1,aA .i64 (a2.1+1),r1.due)).bind fun a5=>
    some (aP.mk r1.now r1.field a0.1 a4.1 (a5.2.2.take a5.1),a0.2.1,0)
  else
   some (aP.mk r1.now r1.field a0.1 r1.agenda r1.due,a0.2.1,0)
def aOG:bM:=⟨aD.cons (aM.agg bR) (aD.one (aM.int .i64)),aM.tup (aD.cons (aM.agg bR) (aD.cons (aM.agg (cR.row jY)) (aD.one (aM.int .i64)))),fun a=>rE a.1 a.2,.frz,false⟩
theorem aGI:aK aX 137 aOG:=aK.of aEF (cx:=(oN aF [(184,aOy),(83,c83),(83,aGC),(158,aMC),(161,aMF)] [(185,aAJ)] [] [])) rfl (lX.make ⟨aGB,UD,O1,WJ,WM,trivial⟩ ⟨YL,trivial⟩ trivial) (fun a=>by kernel_rfl)
def uP (p0:aP) (p1:Int):Option (aP×Int):=
 (gO p0).bind fun n0=>
 bif n0 !=0 then
  some (aP.mk (0,0) (Field.mk []) (aU.mk 0 []) (aG.mk (aQ.mk [] [] []) [] []) [],n0)
 else
  (rE p0 p1).bind fun a1=>
  some (a1.1,a1.2.2)
def aOH:bM:=⟨aD.cons (aM.agg bR) (aD.one (aM.int .i64)),aM.tup (aD.cons (aM.agg bR) (aD.one (aM.int .i64))),fun a=>uP a.1 a.2,.frz,false⟩
theorem aGJ:aK aX 106 aOH:=Oc aEf rfl aF [(59,c59),(137,aOG)] ⟨K7,aGI,trivial⟩ fun a=>by kernel_rfl
def iY (s:(bN×bN×Int×Int)):Option (bX (bN×bN×Int×Int) Bool):=
 bif decide (s.2.2.2<s.2.2.1) then
  (aJ s.1 s.2.2.2).bind fun a0=>
  (aJ s.2.1 s.2.2.2).bind fun a1=>
  bif !((a0.1==a1.1)&&((a0.2.1==a1.2.1)&&(a0.2.2==a1.2.2))) then
   some (.done false)
  else
   some (.next (s.1,s.2.1,s.2.2.1,aA .i64 (s.2.2.2+1)))
 else
  some (.done true)
def lO (p0:List (Int×Int×Int)) (p1:List (Int×Int×Int)):Option Bool:=
 bif (Int.ofNat p0.length) !=(Int.ofNat p1.length) then
  some false
 else
  aH iY (p0,p1,Int.ofNat p0.length,0)
def aOI:bM:=⟨aD.cons (aM.sl fL) (aD.one (aM.sl fL)),aM.bool,fun a=>lO a.1 a.2,.pure,false⟩
theorem aGK:aK aX 107 aOI:=Oc aEg rfl aF [] trivial fun a=>by kernel_rfl
abbrev aGL:=(List Int)×(List Bool)×(List Int)×Int×Int×Int×Int×Int×Int×iD×(List Int)
def bT (a:aGL):Option MG:=
 (aJ a.2.2.2.2.2.2.2.2.2.1 a.2.2.2.1).bind fun _=>
 (aJ a.2.2.2.2.2.2.2.2.2.2 a.2.2.2.2.2.2.2.1).bind fun _=>
 bif ((bJ a.2.2.2.2.2.2.2.2.2.1 a.2.2.2.1 (a.2.2.2.2.1,a.2.2.2.2.2.1,a.2.2.2.2.2.2.1,a.2.2.2.2.2.2.2.1,a.2.2.2.2.2.2.2.2.1)).length)==a.2.2.2.2.2.2.2.2.2.1.length then
  bif ((bJ a.2.2.2.2.2.2.2.2.2.2 a.2.2.2.2.2.2.2.1 a.2.2.2.1).length)==a.2.2.2.2.2.2.2.2.2.2.length then
   some (bJ a.2.2.2.2.2.2.2.2.2.1 a.2.2.2.1 (a.2.2.2.2.1,a.2.2.2.2.2.1,a.2.2.2.2.2.2.1,a.2.2.2.2.2.2.2.1,a.2.2.2.2.2.2.2.2.1),bJ a.2.2.2.2.2.2.2.2.2.2 a.2.2.2.2.2.2.2.1 a.2.2.2.1)
  else
   none
 else
  none
def aAK:dT:=⟨[.l [.i .i64],.l [.b],.l [.i .i64],.i,.i,.i,.i,.i,.i,.l [.i .i64,.i .i64,.i .i64,.i .i64,.i .i64],.l [.i .i64]],[.agg [.sl [.i .i64] [],.sl [.b] [],.sl [.i .i64] [],.own 0 false,.own 1 false],.int .i64 0,.agg [.int .i64 0,.int .i64 0,.int .i64 0,.int .i64 0,.int .i64 0]],[.arr [.i .i64,.i .i64,.i .i64,.i .i64,.i .i64] [],.arr [.i .i64] []],[.l [.i .i64,.i .i64,.i .i64,.i .i64,.i .i64],.l [.i .i64]],.tup [],[.arr [.i .i64,.i .i64,.i .i64,.i .i64,.i .i64] [],.arr [.i .i64] []],fun a=>bT a⟩
theorem YM:lW aX 228 aAK:=lW.of WB (wd:=false) (cx:=(oN aF [] [] [] [])) (lX.make trivial trivial trivial) (fun a=>by kernel_rfl)
abbrev aOJ:=Int×iD×(List Int)×(List Int)×(List Bool)×(List Int)×Int×Int×Int×Int×Int
abbrev aOK:=bX aOJ MG
abbrev aOL:=Int×Int×iD×(List Int)×(List Int)×(List Bool)×(List Int)×Int×Int×Int×Int×Int
def fV (c0:aGL) (s:aOL):Option (bX aOL aOK):=
 match s with
 |(a,b,d,e,f,g,h,i,j,k,l,m)=>
  bif decide (b<(Int.ofNat d.length)) then
   bif decide ((aA .i64 (b+1))<(Int.ofNat d.length)) then
    (aJ d (aA .i64 (b+1))).bind fun a0=>
    (aJ d b).bind fun a1=>
    (bY a0 a1).bind fun n2=>
    bif decide (n2<0) then
     (aJ d (aA .i64 (b+1))).bind fun a3=>
     (bY a3 (i,j,k,l,m)).bind fun n4=>
     bif decide (0<=n4) then
      (bT (f,g,h,a,i,j,k,l,m,d,e)).bind fun a5=>
      bif a5.1.length==c0.2.2.2.2.2.2.2.2.2.1.length then
       bif a5.2.length==c0.2.2.2.2.2.2.2.2.2.2.length then
        some (.done (.done a5))
       else
        none
      else
       none
     else
      (aJ d (aA .i64 (b+1))).bind fun a6=>
      (bT (f,g,h,a,a6.1,a6.2.1,a6.2.2.1,a6.2.2.2.1,a6.2.2.2.2,d,e)).bind fun a7=>
      some (.next (aA .i64 (b+1),aA .i64 ((aA .i64 (2*(aA .i64 (b+1))))+1),a7.1,a7.2,(f,g,h,i,j,k,l,m)))
    else
     (aJ d b).bind fun a8=>
     (bY a8 (i,j,k,l,m)).bind fun n9=>
     bif decide (0<=n9) then
      (bT (f,g,h,a,i,j,k,l,m,d,e)).bind fun a10=>
      bif a10.1.length==c0.2.2.2.2.2.2.2.2.2.1.length then
       bif a10.2.length==c0.2.2.2.2.2.2.2.2.2.2.length then
        some (.done (.done a10))
       else
        none
      else
       none
     else
      (aJ d b).bind fun a11=>
      (bT (f,g,h,a,a11.1,a11.2.1,a11.2.2.1,a11.2.2.2.1,a11.2.2.2.2,d,e)).bind fun a12=>
      some (.next (b,aA .i64 ((aA .i64 (2*b))+1),a12.1,a12.2,(f,g,h,i,j,k,l,m)))
   else
    (aJ d b).bind fun a13=>
    (bY a13 (i,j,k,l,m)).bind fun n14=>
    bif decide (0<=n14) then
     (bT (f,g,h,a,i,j,k,l,m,d,e)).bind fun a15=>
     bif a15.1.length==c0.2.2.2.2.2.2.2.2.2.1.length then
      bif a15.2.length==c0.2.2.2.2.2.2.2.2.2.2.length then
       some (.done (.done a15))
      else
       none
     else
      none
    else
     (aJ d b).bind fun a16=>
     (bT (f,g,h,a,a16.1,a16.2.1,a16.2.2.1,a16.2.2.2.1,a16.2.2.2.2,d,e)).bind fun a17=>
     some (.next (b,aA .i64 ((aA .i64 (2*b))+1),a17.1,a17.2,(f,g,h,i,j,k,l,m)))
  else
   (bT (f,g,h,a,i,j,k,l,m,d,e)).bind fun a18=>
   bif a18.1.length==c0.2.2.2.2.2.2.2.2.2.1.length then
    bif a18.2.length==c0.2.2.2.2.2.2.2.2.2.2.length then
     some (.done (.done a18))
    else
     none
   else
    none
def eE (c0:aGL) (s:aOJ):Option aOK:=
 bif decide (0<s.1) then
  (aJ s.2.1 (aA .i64 (Int.tdiv (aA .i64 (s.1-1)) 2))).bind fun a0=>
  (bY s.2.2.2.2.2.2 a0).bind fun n1=>
  bif decide (n1<0) then
   (aJ s.2.1 (aA .i64 (Int.tdiv (aA .i64 (s.1-1)) 2))).bind fun a2=>
   (bT (s.2.2.2.1,s.2.2.2.2.1,s.2.2.2.2.2.1,s.1,a2.1,a2.2.1,a2.2.2.1,a2.2.2.2.1,a2.2.2.2.2,s.2.1,s.2.2.1)).bind fun a3=>
   some (.next (aA .i64 (Int.tdiv (aA .i64 (s.1-1)) 2),a3.1,a3.2,s.2.2.2))
  else
   aH (fV c0) (s.1,aA .i64 ((aA .i64 (2*s.1))+1),s.2)
 else
  aH (fV c0) (s.1,aA .i64 ((aA .i64 (2*s.1))+1),s.2)
def eL (a:aGL):Option MG:=
 aH (eE a) (a.2.2.2.1,a.2.2.2.2.2.2.2.2.2.1,a.2.2.2.2.2.2.2.2.2.2,a.1,a.2.1,a.2.2.1,a.2.2.2.2.1,a.2.2.2.2.2.1,a.2.2.2.2.2.2.1,a.2.2.2.2.2.2.2.1,a.2.2.2.2.2.2.2.2.1)
def UF:dT:=⟨[.l [.i .i64],.l [.b],.l [.i .i64],.i,.i,.i,.i,.i,.i,.l [.i .i64,.i .i64,.i .i64,.i .i64,.i .i64],.l [.i .i64]],[.agg [.sl [.i .i64] [],.sl [.b] [],.sl [.i .i64] [],.own 0 false,.own 1 false],.int .i64 0,.agg [.int .i64 0,.int .i64 0,.int .i64 0,.int .i64 0,.int .i64 0]],[.arr [.i .i64,.i .i64,.i .i64,.i .i64,.i .i64] [],.arr [.i .i64] []],[.l [.i .i64,.i .i64,.i .i64,.i .i64,.i .i64],.l [.i .i64]],.tup [],[.arr [.i .i64,.i .i64,.i .i64,.i .i64,.i .i64] [],.arr [.i .i64] []],fun a=>eL a⟩
theorem ND:lW aX 203 UF:=lW.of V9 (wd:=false) (cx:=(oN aF [(168,aGh)] [(228,UE),(228,aAK)] [] [])) (lX.make ⟨OW,trivial⟩ ⟨NC,YM,trivial⟩ trivial) (fun a=>by kernel_rfl)
def uQ (p0:aG) (p1:Int×Int) (p2:Int×Int):Option (aG×Int):=
 (lM p0).bind fun n0=>
 (iG p2).bind fun n1=>
 bif (if n1>n0 then n1 else n0) !=0 then
  some (aG.mk (aQ.mk [] [] []) [] [],if n1>n0 then n1 else n0)
 else
  (pV p0 p1).bind fun a2=>
  bif a2.2 !=0 then
   some (aG.mk (aQ.mk [] [] []) [] [],a2.2)
  else
   (bO p0.heap).bind fun l3=>
   (bO p0.where_).bind fun l4=>
   (aJ l3 a2.1).bind fun a5=>
   (eL (p0.slots.uses,p0.slots.used,p0.slots.free,a2.1,p2.1,p2.2,a5.2.2.1,a5.2.2.2.1,a5.2.2.2.2,l3,l4)).bind fun a6=>
   some (aG.mk p0.slots a6.1 a6.2,0)
def aOM:bM:=⟨aD.cons (aM.agg cZ) (aD.cons (aM.agg (cR.row jY)) (aD.one (aM.agg (cR.row jY)))),aM.tup (aD.cons (aM.agg cZ) (aD.one (aM.int .i64))),fun a=>uQ a.1 a.2.1 a.2.2,.frz,false⟩
theorem aGM:aK aX 159 aOM:=aK.of aEX (cx:=(oN aF [(118,aAB),(33,c33),(201,aME),(140,bM.clone lK),(37,bM.clone ki)] [(203,O2),(203,UF)] [(202,YH)] [])) rfl (lX.make ⟨I9,HF,WL,vO,rZ,trivial⟩ ⟨HH,ND,trivial⟩ ⟨OP,trivial⟩) (fun a=>by kernel_rfl)
def xW (p0:Int×Int×Int×Int×Int) (p1:Int):Option Bool:=
 some (p0.2.2.1==p1)
def aON:bM:=⟨aD.cons (aM.agg (cR.row lK)) (aD.one (aM.ref (cR.int .i64))),aM.bool,fun a=>xW a.1 a.2,.pure,false⟩
theorem aGN:aK aX 205 aON:=Oc aFz rfl aF [] trivial fun a=>by kernel_rfl
def cL (s:(iD×Int×Int×Int)):Option (bX (iD×Int×Int×Int) Int):=
 bif decide (s.2.2.2<s.2.2.1) then
  (aJ s.1 s.2.2.2).bind fun a0=>
  (xW a0 s.2.1).bind fun b1=>
  bif b1 then
   some (.done s.2.2.2)
  else
   some (.next (s.1,s.2.1,s.2.2.1,aA .i64 (s.2.2.2+1)))
 else
  some (.done (-1))
def eF (p0:List (Int×Int×Int×Int×Int)) (p1:Int):Option Int:=
 aH cL (p0,p1,Int.ofNat p0.length,0)
def RM:bM:=⟨aD.cons (aM.sl lK) (aD.one (aM.clo 205 (aD.one (aM.ref (cR.int .i64))))),aM.int .i64,fun a=>eF a.1 a.2,.pure,false⟩
theorem RN:aK aX 229 RM:=Oc aFQ rfl aF [(205,aON)] ⟨aGN,trivial⟩ fun a=>by kernel_rfl
def cM (p0:List (Int×Int×Int×Int×Int)) (p1:Int):Option Bool:=
 (eF p0 p1).bind fun n0=>
 some (decide (0<=n0))
def RO:bM:=⟨aD.cons (aM.sl lK) (aD.one (aM.clo 205 (aD.one (aM.ref (cR.int .i64))))),aM.bool,fun a=>cM a.1 a.2,.pure,false⟩
theorem RP:aK aX 204 RO:=Oc aFy rfl aF [(229,RM)] ⟨RN,trivial⟩ fun a=>by kernel_rfl
def vQ (p0:List Int):Option ((List Int)×Int):=
 (gF p0 0 (aA .i64 ((Int.ofNat p0.length) -1))).bind fun l0=>
 (bO l0).bind fun l1=>
 (aJ p0 (aA .i64 ((Int.ofNat p0.length) -1))).bind fun n2=>
 some (l1,n2)
def aOO:bM:=⟨aD.one (aM.sl ki),aM.tup (aD.cons (aM.sl ki) (aD.one (aM.int .i64))),fun a=>vQ a,.frz,false⟩
theorem aGO:aK aX 230 aOO:=Oc aFR rfl aF [(241,bM.clone ki)] ⟨RK,trivial⟩ fun a=>by kernel_rfl
def C7 (p0:aQ):Option (aQ×(Int×Int)×Int):=
 (rA p0).bind fun n0=>
 bif n0 !=0 then
  some (aQ.mk [] [] [],(0,0),n0)
 else
  bif (Int.ofNat p0.free.length)==0 then
   some (aQ.mk [] [] [],(0,0),18)
  else
   (vQ p0.free).bind fun a1=>
   (aJ p0.uses a1.2).bind fun n2=>
   bif n2==1000000 then
    some (aQ.mk [] [] [],(0,0),18)
   else
    (bO p0.uses).bind fun l3=>
    (bO p0.used).bind fun l4=>
    (aJ l4 a1.2).bind fun _=>
    (aJ l3 a1.2).bind fun n6=>
    (aJ l3 a1.2).bind fun _=>
    (aJ (bJ l3 a1.2 (aA .i64 (n6+1))) a1.2).bind fun n8=>
    some (aQ.mk (bJ l3 a1.2 (aA .i64 (n6+1))) (bJ l4 a1.2 true) a1.1,(a1.2,n8),0)
def aOP:bM:=⟨aD.one (aM.agg gC),aM.tup (aD.cons (aM.agg gC) (aD.cons (aM.agg (cR.row jY)) (aD.one (aM.int .i64)))),fun a=>C7 a,.frz,false⟩
theorem aGP:aK aX 206 aOP:=aK.of aFA (cx:=(oN aF [(167,aGc),(230,aOO),(37,bM.clone ki),(141,bM.clone kb)] [] [(231,aAo)] [])) rfl (lX.make ⟨OV,aGO,rZ,vM,trivial⟩ trivial ⟨WC,trivial⟩) (fun a=>by kernel_rfl)
def lD (p0:aG) (p1:Int×Int) (p2:Int):Option (aG×(Int×Int)×Int):=
 (lM p0).bind fun n0=>
 (iG p1).bind fun n1=>
 bif (if n1>n0 then n1 else n0) !=0 then
  some (aG.mk (aQ.mk [] [] []) [] [],(0,0),if n1>n0 then n1 else n0)
 else
  bif decide (p2<0) then
   some (aG.mk (aQ.mk [] [] []) [] [],(0,0),2)
  else
   bif decide (1000000<p2) then
    some (aG.mk (aQ.mk [] [] []) [] [],(0,0),2)
   else
    (cM p0.heap p2).bind fun b2=>
    bif b2 then
     some (aG.mk (aQ.mk [] [] []) [] [],(0,0),14)
    else
     (C7 p0.slots).bind fun a3=>
     bif a3.2.2 !=0 then
      some (aG.mk (aQ.mk [] [] []) [] [],(0,0),a3.2.2)
     else
      (bO p0.heap).bind fun l4=>
      (bO p0.where_).bind fun l5=>
      (bV l4 [(p1.1,p1.2,p2,a3.2.1)]).bind fun l6=>
      (eL (a3.1.uses,a3.1.used,a3.1.free,aA .i64 ((Int.ofNat l6.length) -1),p1.1,p1.2,p2,a3.2.1.1,a3.2.1.2,l6,l5)).bind fun a7=>
      some (aG.mk a3.1 a7.1 a7.2,a3.2.1,0)
def aMG:bM:=⟨aD.cons (aM.agg cZ) (aD.cons (aM.agg (cR.row jY)) (aD.one (aM.int .i64))),aM.tup (aD.cons (aM.agg cZ) (aD.cons (aM.agg (cR.row jY)) (aD.one (aM.int .i64)))),fun a=>lD a.1 a.2.1 a.2.2,.frz,false⟩
theorem WN:aK aX 160 aMG:=aK.of aEY (cx:=(oN aF [(118,aAB),(33,c33),(204,RO),(206,aOP),(140,bM.clone lK),(37,bM.clone ki)] [(203,O2),(203,UF)] [(202,YH)] [])) rfl (lX.make ⟨I9,HF,RP,aGP,vO,rZ,trivial⟩ ⟨HH,ND,trivial⟩ ⟨OP,trivial⟩) (fun a=>by kernel_rfl)
abbrev Zt5:=bN×Int×Int×Int×Int×bN×Int×bN×(List Int)×(List Bool)×(List Int)×iD×(List Int)×bN×bN×Int×Int×Int×Int×Int×Int×bN×(List Int)×(List Bool)×(List Int)×iD×(List Int)×bN×bN
abbrev aOQ:=bN×Int×Int×Int×Int×bN×Int×bN×(List Int)×(List Bool)×(List Int)×iD×(List Int)×bN×bN×Int×Int×Int
abbrev aOR:=bX aOQ (aP×Int)
def dE (s:Zt5):Option (bX Zt5 aOR):=
 match s with
 |(a,b,d,e,f,g,h,i,j,k,l,m,n,o,q,r,t,u,v,w,x,y,z,A,B,C,D,E,F)=>
  bif decide (d<b) then
   (aJ a d).bind fun a0=>
   (rC (Field.mk q) a0.2 (e,f)).bind fun a1=>
   (pB o a0.1).bind fun a2=>
   bif a1.2.1 then
    bif a2.2 then
     (aJ o a2.1).bind fun a3=>
     (uQ (aG.mk (aQ.mk z A B) C D) a3.2 a1.1).bind fun a4=>
     (aJ o a2.1).bind fun a5=>
     (bV F [a5]).bind fun l6=>
     bif a4.2 !=0 then
      some (.done (.done (aP.mk (0,0) (Field.mk []) (aU.mk 0 []) (aG.mk (aQ.mk [] [] []) [] []) [],a4.2)))
     else
      some (.next (a,b,aA .i64 (d+1),e,f,g,h,i,j,k,l,m,n,o,q,r,t,u,v,w,x,y,a4.1.slots.uses,a4.1.slots.used,a4.1.slots.free,a4.1.heap,a4.1.where_,E,l6))
    else
     bif a1.2.1 then
      (lD (aG.mk (aQ.mk z A B) C D) a1.1 a0.1).bind fun a7=>
      (bV F [(a0.1,a7.2.1)]).bind fun l8=>
      bif a7.2.2 !=0 then
       some (.done (.done (aP.mk (0,0) (Field.mk []) (aU.mk 0 []) (aG.mk (aQ.mk [] [] []) [] []) [],a7.2.2)))
      else
       some (.next (a,b,aA .i64 (d+1),e,f,g,h,i,j,k,l,m,n,o,q,r,t,u,v,w,x,y,a7.1.slots.uses,a7.1.slots.used,a7.1.slots.free,a7.1.heap,a7.1.where_,E,l8))
     else
      bif a2.2 then
       (aJ o a2.1).bind fun a9=>
       (mC (aG.mk (aQ.mk z A B) C D) a9.2).bind fun a10=>
       bif a10.2.2 !=0 then
        some (.done (.done (aP.mk (0,0) (Field.mk []) (aU.mk 0 []) (aG.mk (aQ.mk [] [] []) [] []) [],a10.2.2)))
       else
        some (.next (a,b,aA .i64 (d+1),e,f,g,h,i,j,k,l,m,n,o,q,r,t,u,v,w,x,y,a10.1.slots.uses,a10.1.slots.used,a10.1.slots.free,a10.1.heap,a10.1.where_,(E,F)))
      else
       bif a1.2.2 !=0 then
        some (.done (.done (aP.mk (0,0) (Field.mk []) (aU.mk 0 []) (aG.mk (aQ.mk [] [] []) [] []) [],a1.2.2)))
       else
        some (.next (a,b,aA .i64 (d+1),(e,f,g,h,i,j,k,l,m,n,o,q,r,t,u,v,w,x,y,z,A,B,C,D,E,F)))
   else
    bif a1.2.1 then
     (lD (aG.mk (aQ.mk z A B) C D) a1.1 a0.1).bind fun a11=>
     (bV F [(a0.1,a11.2.1)]).bind fun l12=>
     bif a11.2.2 !=0 then
      some (.done (.done (aP.mk (0,0) (Field.mk []) (aU.mk 0 []) (aG.mk (aQ.mk [] [] []) [] []) [],a11.2.2)))
     else
      some (.next (a,b,aA .i64 (d+1),e,f,g,h,i,j,k,l,m,n,o,q,r,t,u,v,w,x,y,a11.1.slots.uses,a11.1.slots.used,a11.1.slots.free,a11.1.heap,a11.1.where_,E,l12))
    else
     bif a2.2 then
      (aJ o a2.1).bind fun a13=>
      (mC (aG.mk (aQ.mk z A B) C D) a13.2).bind fun a14=>
      bif a14.2.2 !=0 then
       some (.done (.done (aP.mk (0,0) (Field.mk []) (aU.mk 0 []) (aG.mk (aQ.mk [] [] []) [] []) [],a14.2.2)))
      else
       some (.next (a,b,aA .i64 (d+1),e,f,g,h,i,j,k,l,m,n,o,q,r,t,u,v,w,x,y,a14.1.slots.uses,a14.1.slots.used,a14.1.slots.free,a14.1.heap,a14.1.where_,(E,F)))
     else
      bif a1.2.2 !=0 then
       some (.done (.done (aP.mk (0,0) (Field.mk []) (aU.mk 0 []) (aG.mk (aQ.mk [] [] []) [] []) [],a1.2.2)))
      else
       some (.next (a,b,aA .i64 (d+1),(e,f,g,h,i,j,k,l,m,n,o,q,r,t,u,v,w,x,y,z,A,B,C,D,E,F)))
  else
   some (.done (.done (aP.mk (v,w) (Field.mk E) (aU.mk x y) (aG.mk (aQ.mk z A B) C D) F,0)))
def kL (s:aOQ):Option aOR:=
 bif decide (s.2.2.1<s.2.1) then
  (aJ s.1 s.2.2.1).bind fun a0=>
  (jJ (Field.mk s.2.2.2.2.2.2.2.2.2.2.2.2.2.2.1) a0.2.1).bind fun a1=>
  bif decide (a1.1<0) then
   some (.done (aP.mk (0,0) (Field.mk []) (aU.mk 0 []) (aG.mk (aQ.mk [] [] []) [] []) [],6))
  else
   (jJ (Field.mk s.2.2.2.2.2.2.2.2.2.2.2.2.2.2.1) a0.2.2).bind fun a2=>
   bif decide (a2.1<0) then
    some (.done (aP.mk (0,0) (Field.mk []) (aU.mk 0 []) (aG.mk (aQ.mk [] [] []) [] []) [],6))
   else
    some (.next (s.1,s.2.1,aA .i64 (s.2.2.1+1),s.2.2.2))
 else
  (mU (aP.mk (s.2.2.2.1,s.2.2.2.2.1) (Field.mk s.2.2.2.2.2.1) (aU.mk s.2.2.2.2.2.2.1 s.2.2.2.2.2.2.2.1) (aG.mk (aQ.mk s.2.2.2.2.2.2.2.2.1 s.2.2.2.2.2.2.2.2.2.1 s.2.2.2.2.2.2.2.2.2.2.1) s.2.2.2.2.2.2.2.2.2.2.2.1 s.2.2.2.2.2.2.2.2.2.2.2.2.1) s.2.2.2.2.2.2.2.2.2.2.2.2.2.1)).bind fun r3=>
  (bO s.2.2.2.2.2.2.2.2.2.2.2.2.2.2.1).bind fun l4=>
  aH dE (s.2.2.2.2.2.2.2.1,Int.ofNat s.2.2.2.2.2.2.2.1.length,0,s.2.2.2.1,s.2.2.2.2.1,s.2.2.2.2.2.1,s.2.2.2.2.2.2.1,s.2.2.2.2.2.2.2.1,s.2.2.2.2.2.2.2.2.1,s.2.2.2.2.2.2.2.2.2.1,s.2.2.2.2.2.2.2.2.2.2.1,s.2.2.2.2.2.2.2.2.2.2.2.1,s.2.2.2.2.2.2.2.2.2.2.2.2.1,s.2.2.2.2.2.2.2.2.2.2.2.2.2.1,s.2.2.2.2.2.2.2.2.2.2.2.2.2.2.1,s.2.2.2.2.2.2.2.2.2.2.2.2.2.2.2.1,s.2.2.2.2.2.2.2.2.2.2.2.2.2.2.2.2.1,s.2.2.2.2.2.2.2.2.2.2.2.2.2.2.2.2.2,r3.now.1,r3.now.2,r3.certs.next_,r3.certs.list,r3.agenda.slots.uses,r3.agenda.slots.used,r3.agenda.slots.free,r3.agenda.heap,r3.agenda.where_,l4,[])
def pC (p0:aP) (p1:Field):Option (aP×Int):=
 (gO p0).bind fun n0=>
 bif n0 !=0 then
  some (aP.mk (0,0) (Field.mk []) (aU.mk 0 []) (aG.mk (aQ.mk [] [] []) [] []) [],n0)
 else
  (fF p1).bind fun n1=>
  bif n1 !=0 then
   some (aP.mk (0,0) (Field.mk []) (aU.mk 0 []) (aG.mk (aQ.mk [] [] []) [] []) [],n1)
  else
   aH kL (p0.certs.list,Int.ofNat p0.certs.list.length,0,p0.now.1,p0.now.2,p0.field.points,p0.certs.next_,p0.certs.list,p0.agenda.slots.uses,p0.agenda.slots.used,p0.agenda.slots.free,p0.agenda.heap,p0.agenda.where_,p0.due,p1.points,0,0,0)
def aOS:bM:=⟨aD.cons (aM.agg bR) (aD.one (aM.agg cA)),aM.tup (aD.cons (aM.agg bR) (aD.one (aM.int .i64))),fun a=>pC a.1 a.2,.frz,false⟩
theorem aGQ:aK aX 108 aOS:=Oc aEh rfl aF [(59,c59),(104,aAz),(157,aGk),(83,c83),(83,aGC),(94,bM.clone fL),(119,aGr),(158,aMC),(159,aOM),(160,aMG),(161,aMF)] ⟨K7,I8,OY,UD,O1,C5,O0,WJ,aGM,WN,WM,trivial⟩ fun a=>by kernel_rfl
def DZ (p0:Int×Int×Int) (p1:Int×Int):Option Bool:=
 some ((p0.2.1==p1.1)&&(p0.2.2==p1.2))
def aOT:bM:=⟨aD.cons (aM.agg (cR.row fL)) (aD.one (aM.ref (cR.row jY))),aM.bool,fun a=>DZ a.1 a.2,.pure,false⟩
theorem aGR:aK aX 110 aOT:=Oc aEi rfl aF [] trivial fun a=>by kernel_rfl
def mL (s:OX):Option (bX OX Int):=
 bif decide (s.2.2.2.2<s.2.2.2.1) then
  (aJ s.1 s.2.2.2.2).bind fun a0=>
  (DZ a0 (s.2.1,s.2.2.1)).bind fun b1=>
  bif b1 then
   some (.done s.2.2.2.2)
  else
   some (.next (s.1,s.2.1,s.2.2.1,s.2.2.2.1,aA .i64 (s.2.2.2.2+1)))
 else
  some (.done (-1))
def hU (p0:List (Int×Int×Int)) (p1:(Int×Int)):Option Int:=
 aH mL (p0,p1.1,p1.2,Int.ofNat p0.length,0)
def RQ:bM:=⟨aD.cons (aM.sl fL) (aD.one (aM.clo 110 (aD.one (aM.ref (cR.row jY))))),aM.int .i64,fun a=>hU a.1 a.2,.pure,false⟩
theorem RR:aK aX 162 RQ:=Oc V7 rfl aF [(110,aOT)] ⟨aGR,trivial⟩ fun a=>by kernel_rfl
def dR (p0:List (Int×Int×Int)) (p1:(Int×Int)):Option Bool:=
 (hU p0 p1).bind fun n0=>
 some (decide (0<=n0))
def RS:bM:=⟨aD.cons (aM.sl fL) (aD.one (aM.clo 110 (aD.one (aM.ref (cR.row jY))))),aM.bool,fun a=>dR a.1 a.2,.pure,false⟩
theorem RU:aK aX 109 RS:=Oc V4 rfl aF [(162,RQ)] ⟨RR,trivial⟩ fun a=>by kernel_rfl
def dD (p0:Int):Option (aP×Int×Int):=
 some (aP.mk (0,0) (Field.mk []) (aU.mk 0 []) (aG.mk (aQ.mk [] [] []) [] []) [],0,p0)
def aOU:bM:=⟨aD.one (aM.int .i64),aM.tup (aD.cons (aM.agg bR) (aD.cons (aM.int .i64) (aD.one (aM.int .i64)))),fun a=>dD a,.frz,false⟩
theorem aGS:aK aX 163 aOU:=Oc aE0 rfl aF [] trivial fun a=>by kernel_rfl
def EU (p0:Int×Int×Int) (p1:Int×Int):Option Bool:=
 some ((p0.2.1==p1.1)&&(p0.2.2==p1.2))
def aOV:bM:=⟨aD.cons (aM.agg (cR.row fL)) (aD.one (aM.ref (cR.row jY))),aM.bool,fun a=>EU a.1 a.2,.pure,false⟩
theorem aGT:aK aX 208 aOV:=Oc aFC rfl aF [] trivial fun a=>by kernel_rfl
def dB (s:OX):Option (bX OX Int):=
 bif decide (s.2.2.2.2<s.2.2.2.1) then
  (aJ s.1 s.2.2.2.2).bind fun a0=>
  (EU a0 (s.2.1,s.2.2.1)).bind fun b1=>
  bif b1 then
   some (.done s.2.2.2.2)
  else
   some (.next (s.1,s.2.1,s.2.2.1,s.2.2.2.1,aA .i64 (s.2.2.2.2+1)))
 else
  some (.done (-1))
def fM (p0:List (Int×Int×Int)) (p1:(Int×Int)):Option Int:=
 aH dB (p0,p1.1,p1.2,Int.ofNat p0.length,0)
def RW:bM:=⟨aD.cons (aM.sl fL) (aD.one (aM.clo 208 (aD.one (aM.ref (cR.row jY))))),aM.int .i64,fun a=>fM a.1 a.2,.pure,false⟩
theorem RX:aK aX 162 RW:=Oc V7 rfl aF [(208,aOV)] ⟨aGT,trivial⟩ fun a=>by kernel_rfl
def bZ (p0:List (Int×Int×Int)) (p1:(Int×Int)):Option Bool:=
 (fM p0 p1).bind fun n0=>
 some (decide (0<=n0))
def RY:bM:=⟨aD.cons (aM.sl fL) (aD.one (aM.clo 208 (aD.one (aM.ref (cR.row jY))))),aM.bool,fun a=>bZ a.1 a.2,.pure,false⟩
theorem RZ:aK aX 109 RY:=Oc V4 rfl aF [(162,RW)] ⟨RX,trivial⟩ fun a=>by kernel_rfl
def F6 (p0:aU) (p1:Int×Int):Option (aU×Int×Int):=
 (qZ p0).bind fun n0=>
 bif n0 !=0 then
  some (aU.mk 0 [],0,n0)
 else
  (vL p1).bind fun b1=>
  bif !b1 then
   some (aU.mk 0 [],0,8)
  else
   (bZ p0.list p1).bind fun b2=>
   bif b2 then
    some (aU.mk 0 [],0,14)
   else
    bif (Int.ofNat p0.list.length)==200 then
     some (aU.mk 0 [],0,18)
    else
     bif p0.next_==1000000 then
      some (aU.mk 0 [],0,18)
     else
      (bO p0.list).bind fun l3=>
      (bV l3 [(p0.next_,p1)]).bind fun l4=>
      some (aU.mk (aA .i64 (p0.next_+1)) l4,p0.next_,0)
def aOW:bM:=⟨aD.cons (aM.agg gK) (aD.one (aM.agg (cR.row jY))),aM.tup (aD.cons (aM.agg gK) (aD.cons (aM.int .i64) (aD.one (aM.int .i64)))),fun a=>F6 a.1 a.2,.frz,false⟩
theorem aGU:aK aX 164 aOW:=Oc aE1 rfl aF [(117,aF9),(166,aMp),(109,RY),(138,bM.clone fL)] ⟨OU,WE,RZ,yX,trivial⟩ fun a=>by kernel_rfl
def iH (p0:aP) (p1:Int×Int):Option (aP×Int×Int):=
 (gO p0).bind fun n0=>
 bif n0 !=0 then
  (dD n0).bind fun a1=>
  some a1
 else
  (F6 p0.certs p1).bind fun a2=>
  bif a2.2.2==8 then
   (dD a2.2.2).bind fun a3=>
   some a3
  else
   (jJ p0.field p1.1).bind fun a4=>
   bif decide (a4.1<0) then
    (dD 6).bind fun a5=>
    some a5
   else
    (jJ p0.field p1.2).bind fun a6=>
    bif decide (a6.1<0) then
     (dD 6).bind fun a7=>
     some a7
    else
     bif a2.2.2 !=0 then
      (dD a2.2.2).bind fun a8=>
      some a8
     else
      (mU p0).bind fun r9=>
      (rC p0.field p1 p0.now).bind fun a10=>
      bif a10.2.2 !=0 then
       (dD a10.2.2).bind fun a11=>
       some a11
      else
       bif a10.2.1 then
        (lD p0.agenda a10.1 a2.2.1).bind fun a12=>
        bif a12.2.2 !=0 then
         (dD a12.2.2).bind fun a13=>
         some a13
        else
         (bV r9.due [(a2.2.1,a12.2.1)]).bind fun l14=>
         some (aP.mk r9.now r9.field a2.1 a12.1 l14,a2.2.1,0)
       else
        some (aP.mk r9.now r9.field a2.1 r9.agenda r9.due,a2.2.1,0)
def aOX:bM:=⟨aD.cons (aM.agg bR) (aD.one (aM.agg (cR.row jY))),aM.tup (aD.cons (aM.agg bR) (aD.cons (aM.int .i64) (aD.one (aM.int .i64)))),fun a=>iH a.1 a.2,.frz,false⟩
theorem aGV:aK aX 111 aOX:=Oc aEj rfl aF [(59,c59),(163,aOU),(164,aOW),(157,aGk),(83,c83),(83,aGC),(119,aGr),(160,aMG)] ⟨K7,aGS,aGU,OY,UD,O1,O0,WN,trivial⟩ fun a=>by kernel_rfl
abbrev aOY:=xU×bN×Int×Int×Int×Int×bN×Int×bN×(List Int)×(List Bool)×(List Int)×iD×(List Int)×bN×bN×Int×Int×Int
abbrev aOZ:=bX aOY (aP×Int)
abbrev aO0:=xU×Int×Int×Int×Int×bN×Int×bN×(List Int)×(List Bool)×(List Int)×iD×(List Int)×bN×Int×Int×Int
def eV (s:aO0):Option (bX aO0 aOZ):=
 bif decide (s.2.2.1<s.2.1) then
  (aJ s.1 s.2.2.1).bind fun a0=>
  (dR s.2.2.2.2.2.2.2.1 a0).bind fun b1=>
  bif b1 then
   some (.next (s.1,s.2.1,aA .i64 (s.2.2.1+1),s.2.2.2))
  else
   (iH (aP.mk (s.2.2.2.1,s.2.2.2.2.1) (Field.mk s.2.2.2.2.2.1) (aU.mk s.2.2.2.2.2.2.1 s.2.2.2.2.2.2.2.1) (aG.mk (aQ.mk s.2.2.2.2.2.2.2.2.1 s.2.2.2.2.2.2.2.2.2.1 s.2.2.2.2.2.2.2.2.2.2.1) s.2.2.2.2.2.2.2.2.2.2.2.1 s.2.2.2.2.2.2.2.2.2.2.2.2.1) s.2.2.2.2.2.2.2.2.2.2.2.2.2.1) a0).bind fun a2=>
   bif a2.2.2 !=0 then
    some (.done (.done (aP.mk (0,0) (Field.mk []) (aU.mk 0 []) (aG.mk (aQ.mk [] [] []) [] []) [],a2.2.2)))
   else
    some (.next (s.1,s.2.1,aA .i64 (s.2.2.1+1),a2.1.now.1,a2.1.now.2,a2.1.field.points,a2.1.certs.next_,a2.1.certs.list,a2.1.agenda.slots.uses,a2.1.agenda.slots.used,a2.1.agenda.slots.free,a2.1.agenda.heap,a2.1.agenda.where_,a2.1.due,s.2.2.2.2.2.2.2.2.2.2.2.2.2.2))
 else
  some (.done (.done (aP.mk (s.2.2.2.1,s.2.2.2.2.1) (Field.mk s.2.2.2.2.2.1) (aU.mk s.2.2.2.2.2.2.1 s.2.2.2.2.2.2.2.1) (aG.mk (aQ.mk s.2.2.2.2.2.2.2.2.1 s.2.2.2.2.2.2.2.2.2.1 s.2.2.2.2.2.2.2.2.2.2.1) s.2.2.2.2.2.2.2.2.2.2.2.1 s.2.2.2.2.2.2.2.2.2.2.2.2.1) s.2.2.2.2.2.2.2.2.2.2.2.2.2.1,0)))
def dX (s:aOY):Option aOZ:=
 match s with
 |(a,b,d,e,f,g,h,i,j,k,l,m,n,o,q,r,t,u,v)=>
  bif decide (e<d) then
   (aJ b e).bind fun a0=>
   (fG a a0.2).bind fun b1=>
   bif !b1 then
    (uP (aP.mk (f,g) (Field.mk h) (aU.mk i j) (aG.mk (aQ.mk k l m) n o) q) a0.1).bind fun a2=>
    some (.next (a,b,d,aA .i64 (e+1),a2.1.now.1,a2.1.now.2,a2.1.field.points,a2.1.certs.next_,a2.1.certs.list,a2.1.agenda.slots.uses,a2.1.agenda.slots.used,a2.1.agenda.slots.free,a2.1.agenda.heap,a2.1.agenda.where_,a2.1.due,(r,t,u,v)))
   else
    some (.next (a,b,d,aA .i64 (e+1),(f,g,h,i,j,k,l,m,n,o,q,r,t,u,v)))
  else
   (lO h r).bind fun b3=>
   bif !b3 then
    (pC (aP.mk (f,g) (Field.mk h) (aU.mk i j) (aG.mk (aQ.mk k l m) n o) q) (Field.mk r)).bind fun a4=>
    bif a4.2 !=0 then
     some (.done (aP.mk (0,0) (Field.mk []) (aU.mk 0 []) (aG.mk (aQ.mk [] [] []) [] []) [],a4.2))
    else
     aH eV (a,Int.ofNat a.length,0,a4.1.now.1,a4.1.now.2,a4.1.field.points,a4.1.certs.next_,a4.1.certs.list,a4.1.agenda.slots.uses,a4.1.agenda.slots.used,a4.1.agenda.slots.free,a4.1.agenda.heap,a4.1.agenda.where_,a4.1.due,(t,u,v))
   else
    aH eV (a,Int.ofNat a.length,0,f,g,h,i,j,k,l,m,n,o,q,(t,u,v))
def tI (p0:aP) (p1:Field) (p2:List (Int×Int)):Option (aP×Int):=
 aH dX (p2,p0.certs.list,Int.ofNat p0.certs.list.length,0,p0.now.1,p0.now.2,p0.field.points,p0.certs.next_,p0.certs.list,p0.agenda.slots.uses,p0.agenda.slots.used,p0.agenda.slots.free,p0.agenda.heap,p0.agenda.where_,p0.due,p1.points,0,0,0)
def c52:bM:=⟨aD.cons (aM.agg bR) (aD.cons (aM.agg cA) (aD.one (aM.sl jY))),aM.tup (aD.cons (aM.agg bR) (aD.one (aM.int .i64))),fun a=>tI a.1 a.2.1 a.2.2,.frz,false⟩
theorem aMH:aK aX 52 c52:=Oc aLN rfl aF [(61,c61),(106,aOH),(107,aOI),(108,aOS),(109,RS),(111,aOX)] ⟨UB,aGJ,aGK,aGQ,RU,aGV,trivial⟩ fun a=>by kernel_rfl
abbrev YN:=xU×xU×Int×Int×Int×Int×bN×Int×bN×(List Int)×(List Bool)×(List Int)×iD×(List Int)×bN×bN×Int×Int×Int
abbrev aO1:=bX YN (aP×Int)
abbrev Zt3:=bX YN aO1
def eW (s:YN):Option (bX YN Zt3):=
 bif decide (s.2.2.2.1<s.2.2.1) then
  (aJ s.2.1 s.2.2.2.1).bind fun a0=>
  (fD (Field.mk s.2.2.2.2.2.2.2.2.2.2.2.2.2.2.2.1) a0.1).bind fun a1=>
  (fD (Field.mk s.2.2.2.2.2.2.2.2.2.2.2.2.2.2.2.1) a0.2).bind fun a2=>
  bif a1.2 !=0 then
   some (.done (.done (.done (aP.mk (0,0) (Field.mk []) (aU.mk 0 []) (aG.mk (aQ.mk [] [] []) [] []) [],6))))
  else
   bif a2.2 !=0 then
    some (.done (.done (.done (aP.mk (0,0) (Field.mk []) (aU.mk 0 []) (aG.mk (aQ.mk [] [] []) [] []) [],6))))
   else
    some (.next (s.1,s.2.1,s.2.2.1,aA .i64 (s.2.2.2.1+1),s.2.2.2.2))
 else
  (vP (aP.mk (s.2.2.2.2.1,s.2.2.2.2.2.1) (Field.mk s.2.2.2.2.2.2.1) (aU.mk s.2.2.2.2.2.2.2.1 s.2.2.2.2.2.2.2.2.1) (aG.mk (aQ.mk s.2.2.2.2.2.2.2.2.2.1 s.2.2.2.2.2.2.2.2.2.2.1 s.2.2.2.2.2.2.2.2.2.2.2.1) s.2.2.2.2.2.2.2.2.2.2.2.2.1 s.2.2.2.2.2.2.2.2.2.2.2.2.2.1) s.2.2.2.2.2.2.2.2.2.2.2.2.2.2.1)).bind fun r3=>
  (tI r3 (Field.mk s.2.2.2.2.2.2.2.2.2.2.2.2.2.2.2.1) s.1).bind fun a4=>
  some (.done (.done (.done a4)))
def dY (s:YN):Option Zt3:=
 bif decide (s.2.2.2.1<s.2.2.1) then
  (aJ s.2.1 s.2.2.2.1).bind fun a0=>
  (gF s.1 0 s.2.2.2.1).bind fun l1=>
  (fG l1 a0).bind fun b2=>
  bif b2 then
   some (.done (.done (aP.mk (0,0) (Field.mk []) (aU.mk 0 []) (aG.mk (aQ.mk [] [] []) [] []) [],14)))
  else
   some (.next (s.1,s.2.1,s.2.2.1,aA .i64 (s.2.2.2.1+1),s.2.2.2.2))
 else
  aH eW (s.1,s.1,Int.ofNat s.1.length,0,s.2.2.2.2)
def dZ (s:YN):Option aO1:=
 bif decide (s.2.2.2.1<s.2.2.1) then
  (aJ s.2.1 s.2.2.2.1).bind fun a0=>
  bif decide (a0.1<0) then
   some (.done (aP.mk (0,0) (Field.mk []) (aU.mk 0 []) (aG.mk (aQ.mk [] [] []) [] []) [],8))
  else
   bif decide (a0.2<0) then
    some (.done (aP.mk (0,0) (Field.mk []) (aU.mk 0 []) (aG.mk (aQ.mk [] [] []) [] []) [],8))
   else
    bif decide (65535<a0.1) then
     some (.done (aP.mk (0,0) (Field.mk []) (aU.mk 0 []) (aG.mk (aQ.mk [] [] []) [] []) [],8))
    else
     bif decide (65535<a0.2) then
      some (.done (aP.mk (0,0) (Field.mk []) (aU.mk 0 []) (aG.mk (aQ.mk [] [] []) [] []) [],8))
     else
      bif a0.1==a0.2 then
       some (.done (aP.mk (0,0) (Field.mk []) (aU.mk 0 []) (aG.mk (aQ.mk [] [] []) [] []) [],8))
      else
       some (.next (s.1,s.2.1,s.2.2.1,aA .i64 (s.2.2.2.1+1),s.2.2.2.2))
 else
  aH dY (s.1,s.1,Int.ofNat s.1.length,0,s.2.2.2.2)
def tK (p0:aP) (p1:Field) (p2:List (Int×Int)):Option (aP×Int):=
 (gO p0).bind fun n0=>
 bif n0 !=0 then
  some (aP.mk (0,0) (Field.mk []) (aU.mk 0 []) (aG.mk (aQ.mk [] [] []) [] []) [],n0)
 else
  (fF p1).bind fun n1=>
  bif n1 !=0 then
   some (aP.mk (0,0) (Field.mk []) (aU.mk 0 []) (aG.mk (aQ.mk [] [] []) [] []) [],n1)
  else
   aH dZ (p2,p2,Int.ofNat p2.length,0,p0.now.1,p0.now.2,p0.field.points,p0.certs.next_,p0.certs.list,p0.agenda.slots.uses,p0.agenda.slots.used,p0.agenda.slots.free,p0.agenda.heap,p0.agenda.where_,p0.due,p1.points,0,0,0)
def aO2:bM:=⟨aD.cons (aM.agg bR) (aD.cons (aM.agg cA) (aD.one (aM.sl jY))),aM.tup (aD.cons (aM.agg bR) (aD.one (aM.int .i64))),fun a=>tK a.1 a.2.1 a.2.2,.frz,false⟩
theorem aGW:aK aX 100 aO2:=Oc aEa rfl aF [(59,c59),(104,aAz),(61,c61),(96,c96),(154,aOv),(154,aIf),(52,c52)] ⟨K7,I8,UB,UC,aGy,aAH,aMH,trivial⟩ fun a=>by kernel_rfl
def cD (p0:aP) (p1:Field) (p2:List Int):Option (dH×Int):=
 (wZ p2).bind fun l0=>
 (tK p0 p1 l0).bind fun a1=>
 bif a1.2 !=0 then
  some (dH.mk (aP.mk (0,0) (Field.mk []) (aU.mk 0 []) (aG.mk (aQ.mk [] [] []) [] []) []) [],a1.2)
 else
  some (dH.mk a1.1 p2,0)
def c45:bM:=⟨aD.cons (aM.agg bR) (aD.cons (aM.agg cA) (aD.one (aM.sl ki))),aM.tup (aD.cons (aM.agg iC) (aD.one (aM.int .i64))),fun a=>cD a.1 a.2.1 a.2.2,.frz,false⟩
theorem aMI:aK aX 45 c45:=Oc aLI rfl aF [(101,aOu),(100,aO2)] ⟨aGx,aGW,trivial⟩ fun a=>by kernel_rfl
abbrev aO3:=Int×Int×Int×bN×Int×bN×(List Int)×(List Bool)×(List Int)×iD×(List Int)×bN×(List Int)×Int×Int×Int×bN×(List Int)×bN×Int×Int×Nat×Nat×Int×Int×Int×Int×Int×Int
abbrev R0:=Int×Int×Int×bN×Int×bN×(List Int)×(List Bool)×(List Int)×iD×(List Int)×bN×(List Int)×Int×Int×Int×bN×(List Int)×bN×Int×Int×Nat×Nat
abbrev aMJ:=bX R0 (dH×Int)
abbrev Zt1:=bX aO3 aMJ
abbrev Zt8:=Int×Int×Int×Int×Int×bN×Int×bN×(List Int)×(List Bool)×(List Int)×iD×(List Int)×bN×(List Int)×Int×Int×Int×bN×(List Int)×bN×Int×Int×Nat×Nat×Int×Int×Int×Int×Int×Int
def jO (c0:R0) (c1:(List Int)) (s:Zt8):Option (bX Zt8 Zt1):=
 match s with
 |(a,b,d,e,f,g,h,i,j,k,l,m,n,o,q,r,t,u,v,w,x,y,z,A,B,C,D,E,F,G,H)=>
  bif decide (d<=(aA .i64 ((aA .i64 (2*a))+2))) then
   bif decide (d<(Int.ofNat A)) then
    (aJ (w.take A) d).bind fun n0=>
    (fD (Field.mk x) n0).bind fun a1=>
    (aJ (w.take A) b).bind fun n2=>
    (fD (Field.mk x) n2).bind fun a3=>
    (iE a1.1 a3.1 (y,z)).bind fun a4=>
    bif w.length==w.length then
     bif a4.1 then
      some (.next (a,d,aA .i64 (d+1),(e,f,g,h,i,j,k,l,m,n,o,q,r,t,u,v,w,x,y,z,A,B,C,D,E,F,G,H)))
     else
      some (.next (a,b,aA .i64 (d+1),(e,f,g,h,i,j,k,l,m,n,o,q,r,t,u,v,w,x,y,z,A,B,C,D,E,F,G,H)))
    else
     none
   else
    bif b==a then
     bif w.length==c0.2.2.2.2.2.2.2.2.2.2.2.2.2.2.2.2.2.1.length then
      (cD (aP.mk (e,f) (Field.mk g) (aU.mk h i) (aG.mk (aQ.mk j k l) m n) o) (Field.mk v) (w.take ((aA .i64 ((Int.ofNat c1.length) -1)).toNat))).bind fun a5=>
      some (.done (.done (.done a5)))
     else
      none
    else
     (aJ (w.take A) b).bind fun n6=>
     (aJ (w.take A) a).bind fun n7=>
     (aJ (w.take A) a).bind fun _=>
     (aJ ((bJ w a n6).take A) b).bind fun _=>
     some (.done (.next (b,e,f,g,h,i,j,k,l,m,n,o,q,r,t,u,v,bJ (bJ w a n6) b n7,(x,y,z,A,B,C,D,E,F,G,H))))
  else
   bif b==a then
    bif w.length==c0.2.2.2.2.2.2.2.2.2.2.2.2.2.2.2.2.2.1.length then
     (cD (aP.mk (e,f) (Field.mk g) (aU.mk h i) (aG.mk (aQ.mk j k l) m n) o) (Field.mk v) (w.take ((aA .i64 ((Int.ofNat c1.length) -1)).toNat))).bind fun a10=>
     some (.done (.done (.done a10)))
    else
     none
   else
    (aJ (w.take A) b).bind fun n11=>
    (aJ (w.take A) a).bind fun n12=>
    (aJ (w.take A) a).bind fun _=>
    (aJ ((bJ w a n11).take A) b).bind fun _=>
    some (.done (.next (b,e,f,g,h,i,j,k,l,m,n,o,q,r,t,u,v,bJ (bJ w a n11) b n12,(x,y,z,A,B,C,D,E,F,G,H))))
def sB (c0:R0) (c1:(List Int)) (s:aO3):Option Zt1:=
 aH (jO c0 c1) (s.1,s.1,aA .i64 ((aA .i64 (2*s.1))+1),s.2)
abbrev Zt2:=bX R0 aMJ
abbrev Zt9:=Int×Int×Int×Int×Int×bN×Int×bN×(List Int)×(List Bool)×(List Int)×iD×(List Int)×bN×(List Int)×Int×Int×Int×bN×(List Int)×bN×Int×Int×Nat×Nat
def jP (c0:R0) (c1:(List Int)) (s:Zt9):Option (bX Zt9 Zt2):=
 match s with
 |(a,b,d,e,f,g,h,i,j,k,l,m,n,o,q,r,t,u,v,w,x,y,z,A,B)=>
  bif decide (d<=(aA .i64 ((aA .i64 (2*a))+2))) then
   bif decide (d<(Int.ofNat A)) then
    (aJ (w.take A) d).bind fun n0=>
    (fD (Field.mk x) n0).bind fun a1=>
    (aJ (w.take A) b).bind fun n2=>
    (fD (Field.mk x) n2).bind fun a3=>
    (iE a1.1 a3.1 (y,z)).bind fun a4=>
    bif w.length==w.length then
     bif a4.1 then
      some (.next (a,d,aA .i64 (d+1),(e,f,g,h,i,j,k,l,m,n,o,q,r,t,u,v,w,x,y,z,A,B)))
     else
      some (.next (a,b,aA .i64 (d+1),(e,f,g,h,i,j,k,l,m,n,o,q,r,t,u,v,w,x,y,z,A,B)))
    else
     none
   else
    bif b==a then
     bif w.length==c0.2.2.2.2.2.2.2.2.2.2.2.2.2.2.2.2.2.1.length then
      (cD (aP.mk (e,f) (Field.mk g) (aU.mk h i) (aG.mk (aQ.mk j k l) m n) o) (Field.mk v) (w.take ((aA .i64 ((Int.ofNat c1.length) -1)).toNat))).bind fun a5=>
      some (.done (.done (.done a5)))
     else
      none
    else
     (aJ (w.take A) b).bind fun n6=>
     (aJ (w.take A) a).bind fun n7=>
     (aJ (w.take A) a).bind fun _=>
     (aJ ((bJ w a n6).take A) b).bind fun _=>
     some (.done (.next (b,e,f,g,h,i,j,k,l,m,n,o,q,r,t,u,v,bJ (bJ w a n6) b n7,(x,y,z,A,B))))
  else
   bif b==a then
    bif w.length==c0.2.2.2.2.2.2.2.2.2.2.2.2.2.2.2.2.2.1.length then
     (cD (aP.mk (e,f) (Field.mk g) (aU.mk h i) (aG.mk (aQ.mk j k l) m n) o) (Field.mk v) (w.take ((aA .i64 ((Int.ofNat c1.length) -1)).toNat))).bind fun a10=>
     some (.done (.done (.done a10)))
    else
     none
   else
    (aJ (w.take A) b).bind fun n11=>
    (aJ (w.take A) a).bind fun n12=>
    (aJ (w.take A) a).bind fun _=>
    (aJ ((bJ w a n11).take A) b).bind fun _=>
    some (.done (.next (b,e,f,g,h,i,j,k,l,m,n,o,q,r,t,u,v,bJ (bJ w a n11) b n12,(x,y,z,A,B))))
def sC (c0:R0) (c1:(List Int)) (s:R0):Option Zt2:=
 aH (jP c0 c1) (s.1,s.1,aA .i64 ((aA .i64 (2*s.1))+1),s.2)
def nZ (c0:(List Int)) (c1:Int) (c2:Int) (s:R0):Option aMJ:=
 bif decide (0<s.1) then
  (aJ (s.2.2.2.2.2.2.2.2.2.2.2.2.2.2.2.2.2.1.take s.2.2.2.2.2.2.2.2.2.2.2.2.2.2.2.2.2.2.2.2.2.1) s.1).bind fun n0=>
  (fD (Field.mk s.2.2.2.2.2.2.2.2.2.2.2.2.2.2.2.2.2.2.1) n0).bind fun a1=>
  (aJ (s.2.2.2.2.2.2.2.2.2.2.2.2.2.2.2.2.2.1.take s.2.2.2.2.2.2.2.2.2.2.2.2.2.2.2.2.2.2.2.2.2.1) (aA .i64 (Int.tdiv (aA .i64 (s.1-1)) 2))).bind fun n2=>
  (fD (Field.mk s.2.2.2.2.2.2.2.2.2.2.2.2.2.2.2.2.2.2.1) n2).bind fun a3=>
  (iE a1.1 a3.1 (s.2.2.2.2.2.2.2.2.2.2.2.2.2.2.2.2.2.2.2.1,s.2.2.2.2.2.2.2.2.2.2.2.2.2.2.2.2.2.2.2.2.1)).bind fun a4=>
  bif s.2.2.2.2.2.2.2.2.2.2.2.2.2.2.2.2.2.1.length==s.2.2.2.2.2.2.2.2.2.2.2.2.2.2.2.2.2.1.length then
   bif a4.1 then
    (aJ (s.2.2.2.2.2.2.2.2.2.2.2.2.2.2.2.2.2.1.take s.2.2.2.2.2.2.2.2.2.2.2.2.2.2.2.2.2.2.2.2.2.1) (aA .i64 (Int.tdiv (aA .i64 (s.1-1)) 2))).bind fun n5=>
    (aJ (s.2.2.2.2.2.2.2.2.2.2.2.2.2.2.2.2.2.1.take s.2.2.2.2.2.2.2.2.2.2.2.2.2.2.2.2.2.2.2.2.2.1) s.1).bind fun n6=>
    (aJ (s.2.2.2.2.2.2.2.2.2.2.2.2.2.2.2.2.2.1.take s.2.2.2.2.2.2.2.2.2.2.2.2.2.2.2.2.2.2.2.2.2.1) s.1).bind fun _=>
    (aJ ((bJ s.2.2.2.2.2.2.2.2.2.2.2.2.2.2.2.2.2.1 s.1 n5).take s.2.2.2.2.2.2.2.2.2.2.2.2.2.2.2.2.2.2.2.2.2.1) (aA .i64 (Int.tdiv (aA .i64 (s.1-1)) 2))).bind fun _=>
    some (.next (aA .i64 (Int.tdiv (aA .i64 (s.1-1)) 2),s.2.1,s.2.2.1,s.2.2.2.1,s.2.2.2.2.1,s.2.2.2.2.2.1,s.2.2.2.2.2.2.1,s.2.2.2.2.2.2.2.1,s.2.2.2.2.2.2.2.2.1,s.2.2.2.2.2.2.2.2.2.1,s.2.2.2.2.2.2.2.2.2.2.1,s.2.2.2.2.2.2.2.2.2.2.2.1,s.2.2.2.2.2.2.2.2.2.2.2.2.1,s.2.2.2.2.2.2.2.2.2.2.2.2.2.1,s.2.2.2.2.2.2.2.2.2.2.2.2.2.2.1,s.2.2.2.2.2.2.2.2.2.2.2.2.2.2.2.1,s.2.2.2.2.2.2.2.2.2.2.2.2.2.2.2.2.1,bJ (bJ s.2.2.2.2.2.2.2.2.2.2.2.2.2.2.2.2.2.1 s.1 n5) (aA .i64 (Int.tdiv (aA .i64 (s.1-1)) 2)) n6,s.2.2.2.2.2.2.2.2.2.2.2.2.2.2.2.2.2.2))
   else
    bif s.2.2.2.2.2.2.2.2.2.2.2.2.2.2.2.2.2.1.length==((bJ c0 c1 c2).length) then
     aH (sB s c0) (s.1,s.2.1,s.2.2.1,s.2.2.2.1,s.2.2.2.2.1,s.2.2.2.2.2.1,s.2.2.2.2.2.2.1,s.2.2.2.2.2.2.2.1,s.2.2.2.2.2.2.2.2.1,s.2.2.2.2.2.2.2.2.2.1,s.2.2.2.2.2.2.2.2.2.2.1,s.2.2.2.2.2.2.2.2.2.2.2.1,s.2.2.2.2.2.2.2.2.2.2.2.2.1,s.2.2.2.2.2.2.2.2.2.2.2.2.2.1,s.2.2.2.2.2.2.2.2.2.2.2.2.2.2.1,s.2.2.2.2.2.2.2.2.2.2.2.2.2.2.2.1,s.2.2.2.2.2.2.2.2.2.2.2.2.2.2.2.2.1,s.2.2.2.2.2.2.2.2.2.2.2.2.2.2.2.2.2.1,s.2.2.2.2.2.2.2.2.2.2.2.2.2.2.2.2.2.2.1,s.2.2.2.2.2.2.2.2.2.2.2.2.2.2.2.2.2.2.2.1,s.2.2.2.2.2.2.2.2.2.2.2.2.2.2.2.2.2.2.2.2.1,s.2.2.2.2.2.2.2.2.2.2.2.2.2.2.2.2.2.2.2.2.2.1,s.2.2.2.2.2.2.2.2.2.2.2.2.2.2.2.2.2.2.2.2.2.2,a1.1.1,a1.1.2.1,a1.1.2.2,a3.1)
    else
     none
  else
   none
 else
  bif s.2.2.2.2.2.2.2.2.2.2.2.2.2.2.2.2.2.1.length==((bJ c0 c1 c2).length) then
   aH (sC s c0) s
  else
   none
def oR (p0:dH) (p1:Int):Option (dH×Int):=
 (wY p0).bind fun n0=>
 bif n0 !=0 then
  some (dH.mk (aP.mk (0,0) (Field.mk []) (aU.mk 0 []) (aG.mk (aQ.mk [] [] []) [] []) []) [],n0)
 else
  (mS p0.clock.field p1).bind fun a1=>
  bif a1.2 !=0 then
   some (dH.mk (aP.mk (0,0) (Field.mk []) (aU.mk 0 []) (aG.mk (aQ.mk [] [] []) [] []) []) [],a1.2)
  else
   (bO p0.heap).bind fun l2=>
   (iK l2 p1).bind fun n3=>
   (aJ l2 (aA .i64 ((Int.ofNat l2.length) -1))).bind fun n4=>
   (aJ l2 n3).bind fun _=>
   (gF (bJ l2 n3 n4) 0 (aA .i64 ((Int.ofNat l2.length) -1))).bind fun _=>
   bif decide (n3<(aA .i64 ((Int.ofNat l2.length) -1))) then
    bif ((bJ l2 n3 n4).length)==((bJ l2 n3 n4).length) then
     aH (nZ l2 n3 n4) (n3,p0.clock.now.1,p0.clock.now.2,p0.clock.field.points,p0.clock.certs.next_,p0.clock.certs.list,p0.clock.agenda.slots.uses,p0.clock.agenda.slots.used,p0.clock.agenda.slots.free,p0.clock.agenda.heap,p0.clock.agenda.where_,p0.clock.due,p0.heap,0,0,0,a1.1.points,bJ l2 n3 n4,a1.1.points,p0.clock.now.1,p0.clock.now.2,(aA .i64 ((Int.ofNat l2.length) -1)).toNat,(bJ l2 n3 n4).length)
    else
     none
   else
    (cD p0.clock a1.1 ((bJ l2 n3 n4).take ((aA .i64 ((Int.ofNat l2.length) -1)).toNat))).bind fun a7=>
    some a7
def c14:bM:=⟨aD.cons (aM.agg iC) (aD.one (aM.int .i64)),aM.tup (aD.cons (aM.agg iC) (aD.one (aM.int .i64))),fun a=>oR a.1 a.2,.frz,false⟩
theorem aMK:aK aX 14 c14:=aK.of aLu (cx:=(oN aF [(25,c25),(42,c42),(37,bM.clone ki),(43,c43),(96,c96),(97,c97),(45,c45)] [] [(44,x44),(95,x95),(98,x98),(99,x99)] [])) rfl (lX.make ⟨aMA,aMB,rZ,aAD,UC,aAF,aMI,trivial⟩ trivial ⟨aLH,aMd,aMg,aMh,trivial⟩) (fun a=>by kernel_rfl)
def hH (p0:Int):Option Int:=
 bif decide (p0<0) then
  some (aA .u64 ((aA .u64 (aA .i64 (0- (aA .i64 (p0+1)))))+1))
 else
  some (aA .u64 p0)
def aGX:bM:=⟨aD.one (aM.int .i64),aM.int .u64,fun a=>hH a,.pure,false⟩
theorem O3:aK aX 114 aGX:=Oc aEm rfl aF [] trivial fun a=>by kernel_rfl
def oG (s:(Int×Int)):Option (bX (Int×Int) Int):=
 bif s.2 !=0 then
  bif s.2==0 then
   none
  else
   some (.next (s.2,Int.tmod s.1 s.2))
 else
  some (.done s.1)
def pW (p0:Int) (p1:Int):Option Int:=
 aH oG (p0,p1)
def aML:bM:=⟨aD.cons (aM.int .u64) (aD.one (aM.int .u64)),aM.int .u64,fun a=>pW a.1 a.2,.pure,false⟩
theorem WQ:aK aX 113 aML:=Oc aEl rfl aF [] trivial fun a=>by kernel_rfl
def tL (p0:Int×Int):Option Int:=
 bif decide (p0.2<1) then
  some 8
 else
  bif p0.1==(-9223372036854775808) then
   some 8
  else
   (hH p0.1).bind fun n0=>
   (pW n0 (aA .u64 p0.2)).bind fun n1=>
   bif n1 !=1 then
    some 8
   else
    some 0
def c55:bM:=⟨aD.one (aM.agg (cR.row jY)),aM.int .i64,fun a=>tL a,.pure,false⟩
theorem aAL:aK aX 55 c55:=Oc aLQ rfl aF [(114,aGX),(113,aML)] ⟨O3,WQ,trivial⟩ fun a=>by kernel_rfl
def xB (p0:Int×Int×Int):Option Int:=
 bif decide (p0.1<0) then
  some 8
 else
  bif decide (65535<p0.1) then
   some 8
  else
   bif decide (p0.2.1<(-1048576)) then
    some 8
   else
    bif decide (1048576<p0.2.1) then
     some 8
    else
     bif decide (p0.2.2<(-1048576)) then
      some 8
     else
      bif decide (1048576<p0.2.2) then
       some 8
      else
       some 0
def aO4:bM:=⟨aD.one (aM.agg (cR.row fL)),aM.int .i64,fun a=>xB a,.pure,false⟩
theorem aGY:aK aX 112 aO4:=Oc aEk rfl aF [] trivial fun a=>by kernel_rfl
abbrev aAM:=Int×bN
def iS (s:aAM):Option (bX aAM (bX aAM Int)):=
 bif decide (s.1<(Int.ofNat s.2.length)) then
  (aJ s.2 (aA .i64 (s.1-1))).bind fun a0=>
  (aJ s.2 s.1).bind fun a1=>
  bif decide (a1.1<=a0.1) then
   some (.done (.done 32))
  else
   some (.next (aA .i64 (s.1+1),s.2))
 else
  some (.done (.done 0))
def mV (s:aAM):Option (bX aAM Int):=
 bif decide (s.1<(Int.ofNat s.2.length)) then
  (aJ s.2 s.1).bind fun a0=>
  (xB a0).bind fun n1=>
  bif n1 !=0 then
   some (.done 8)
  else
   some (.next (aA .i64 (s.1+1),s.2))
 else
  aH iS (1,s.2)
def mW (p0:Field):Option Int:=
 bif decide (64<(Int.ofNat p0.points.length)) then
  some 4
 else
  aH mV (0,p0.points)
def c54:bM:=⟨aD.one (aM.agg cA),aM.int .i64,fun a=>mW a,.pure,false⟩
theorem aAN:aK aX 54 c54:=Oc aLP rfl aF [(112,aO4)] ⟨aGY,trivial⟩ fun a=>by kernel_rfl
def vR (p0:Int×Int):Option Bool:=
 bif decide (0<=p0.1) then
  bif decide (p0.1<=65535) then
   bif decide (0<=p0.2) then
    bif decide (p0.2<=65535) then
     some (p0.1 !=p0.2)
    else
     some false
   else
    some false
  else
   some false
 else
  some false
def aMM:bM:=⟨aD.one (aM.agg (cR.row jY)),aM.bool,fun a=>vR a,.pure,false⟩
theorem WR:aK aX 170 aMM:=Oc aE6 rfl aF [] trivial fun a=>by kernel_rfl
abbrev aMN:=bX YJ Int
def fW (s:(Int×Int×Int×bN×Int×Int×Int)):Option (bX (Int×Int×Int×bN×Int×Int×Int) aMN):=
 bif decide (s.2.1<s.1) then
  (aJ s.2.2.2.1 s.2.1).bind fun a0=>
  bif (a0.2.1==s.2.2.2.2.2.1)&&(a0.2.2==s.2.2.2.2.2.2) then
   some (.done (.done 8))
  else
   some (.next (s.1,aA .i64 (s.2.1+1),s.2.2))
 else
  some (.done (.next (aA .i64 (s.1+1),s.2.2.1,s.2.2.2.1)))
def pX (s:YJ):Option aMN:=
 bif decide (s.1<(Int.ofNat s.2.2.length)) then
  (aJ s.2.2 s.1).bind fun a0=>
  (vR a0.2).bind fun b1=>
  bif !b1 then
   some (.done 8)
  else
   bif decide (a0.1<0) then
    some (.done 8)
   else
    bif decide (s.2.1<=a0.1) then
     some (.done 8)
    else
     bif decide (0<s.1) then
      (aJ s.2.2 (aA .i64 (s.1-1))).bind fun a2=>
      bif decide (a0.1<=a2.1) then
       some (.done 8)
      else
       aH fW (s.1,0,s.2.1,s.2.2,a0)
     else
      aH fW (s.1,0,s.2.1,s.2.2,a0)
 else
  some (.done 0)
def tM (p0:aU):Option Int:=
 bif decide (200<(Int.ofNat p0.list.length)) then
  some 8
 else
  bif decide (p0.next_<0) then
   some 8
  else
   bif decide (1000000<p0.next_) then
    some 8
   else
    aH pX (0,p0.next_,p0.list)
def aMO:bM:=⟨aD.one (aM.agg gK),aM.int .i64,fun a=>tM a,.pure,false⟩
theorem WT:aK aX 121 aMO:=Oc aEr rfl aF [(170,aMM)] ⟨WR,trivial⟩ fun a=>by kernel_rfl
def tN (s:YJ):Option aMN:=
 bif decide (s.2.1<(Int.ofNat s.2.2.length)) then
  (aJ s.2.2 s.2.1).bind fun a0=>
  bif a0.1==s.1 then
   some (.done s.2.1)
  else
   some (.next (s.1,aA .i64 (s.2.1+1),s.2.2))
 else
  some (.done (-1))
def gD (p0:Field) (p1:Int):Option Int:=
 aH tN (p1,0,p0.points)
def c64:bM:=⟨aD.cons (aM.agg cA) (aD.one (aM.int .i64)),aM.int .i64,fun a=>gD a.1 a.2,.pure,false⟩
theorem HI:aK aX 64 c64:=Oc aLW rfl aF [] trivial fun a=>by kernel_rfl
abbrev aGZ:=Int×Int×bN×bN
def pY (s:aGZ):Option (bX aGZ Bool):=
 bif decide (s.1<(Int.ofNat s.2.2.1.length)) then
  (aJ s.2.2.1 s.1).bind fun a0=>
  (gD (Field.mk s.2.2.2) a0.2.1).bind fun n1=>
  bif decide (n1<0) then
   some (.done false)
  else
   (aJ s.2.2.1 s.1).bind fun a2=>
   (gD (Field.mk s.2.2.2) a2.2.2).bind fun n3=>
   bif decide (n3<0) then
    some (.done false)
   else
    some (.next (aA .i64 (s.1+1),s.2))
 else
  some (.done true)
def xC (p0:aU) (p1:Field):Option Bool:=
 aH pY (0,p0.next_,p0.list,p1.points)
def aO5:bM:=⟨aD.cons (aM.agg gK) (aD.one (aM.agg cA)),aM.bool,fun a=>xC a.1 a.2,.pure,false⟩
theorem aG0:aK aX 122 aO5:=Oc aEs rfl aF [(64,c64)] ⟨HI,trivial⟩ fun a=>by kernel_rfl
abbrev aAO:=Int×Int×(List Int)×(List Bool)×(List Int)×(List Bool)
def kM (s:aAO):Option (bX aAO (bX aAO Int)):=
 bif decide (s.2.1<s.1) then
  (aJ s.2.2.1 s.2.1).bind fun n0=>
  bif decide (n0<0) then
   some (.done (.done 8))
  else
   (aJ s.2.2.1 s.2.1).bind fun n1=>
   bif decide (1000000<n1) then
    some (.done (.done 8))
   else
    (aJ s.2.2.2.1 s.2.1).bind fun b2=>
    (aJ s.2.2.2.2.2 s.2.1).bind fun b3=>
    bif b2==b3 then
     some (.done (.done 8))
    else
     (aJ s.2.2.2.1 s.2.1).bind fun b4=>
     bif b4 then
      (aJ s.2.2.1 s.2.1).bind fun n5=>
      bif decide (n5<1) then
       some (.done (.done 8))
      else
       some (.next (s.1,aA .i64 (s.2.1+1),s.2.2))
     else
      some (.next (s.1,aA .i64 (s.2.1+1),s.2.2))
 else
  some (.done (.done 0))
def pZ (s:aAO):Option (bX aAO Int):=
 bif decide (s.2.1<(Int.ofNat s.2.2.2.2.1.length)) then
  (aJ s.2.2.2.2.1 s.2.1).bind fun n0=>
  bif decide (n0<0) then
   some (.done 8)
  else
   (aJ s.2.2.2.2.1 s.2.1).bind fun n1=>
   bif decide (s.1<=n1) then
    some (.done 8)
   else
    (aJ s.2.2.2.2.1 s.2.1).bind fun n2=>
    (aJ s.2.2.2.2.2 n2).bind fun b3=>
    bif b3 then
     some (.done 8)
    else
     (aJ s.2.2.2.2.1 s.2.1).bind fun n4=>
     (aJ s.2.2.2.2.2 n4).bind fun _=>
     some (.next (s.1,aA .i64 (s.2.1+1),s.2.2.1,s.2.2.2.1,s.2.2.2.2.1,bJ s.2.2.2.2.2 n4 true))
 else
  aH kM (s.1,0,s.2.2)
def xD (p0:aQ):Option Int:=
 bif decide ((Int.ofNat p0.uses.length)<1) then
  some 8
 else
  bif decide (200<(Int.ofNat p0.uses.length)) then
   some 8
  else
   bif (Int.ofNat p0.used.length) !=(Int.ofNat p0.uses.length) then
    some 8
   else
    bif decide ((Int.ofNat p0.uses.length)<(Int.ofNat p0.free.length)) then
     some 8
    else
     bif (Int.ofNat p0.uses.length)==(Int.ofNat p0.uses.length) then
      (QL (Int.ofNat p0.uses.length) (false:Bool)).bind fun l0=>
      aH pZ (Int.ofNat p0.uses.length,0,p0.uses,p0.used,p0.free,l0)
     else
      none
def aO6:bM:=⟨aD.one (aM.agg gC),aM.int .i64,fun a=>xD a,.pure,false⟩
theorem aG1:aK aX 171 aO6:=Oc aE7 rfl aF [] trivial fun a=>by kernel_rfl
def vS (p0:aQ) (p1:Int×Int):Option Bool:=
 bif decide (0<=p1.1) then
  bif decide (p1.1<(Int.ofNat p0.uses.length)) then
   (aJ p0.used p1.1).bind fun b0=>
   bif b0 then
    (aJ p0.uses p1.1).bind fun n1=>
    some (n1==p1.2)
   else
    some false
  else
   some false
 else
  some false
def aMQ:bM:=⟨aD.cons (aM.agg gC) (aD.one (aM.agg (cR.row jY))),aM.bool,fun a=>vS a.1 a.2,.pure,false⟩
theorem WU:aK aX 175 aMQ:=Oc aFb rfl aF [] trivial fun a=>by kernel_rfl
abbrev aMR:=Int×Int×(List Int)×(List Bool)×(List Int)×iD×(List Int)
def oH (s:aMR):Option (bX aMR Bool):=
 bif decide (s.2.1<s.1) then
  (aJ s.2.2.2.1 s.2.1).bind fun b0=>
  bif !b0 then
   (aJ s.2.2.2.2.2.2 s.2.1).bind fun n1=>
   bif n1 !=(-1) then
    some (.done false)
   else
    some (.next (s.1,aA .i64 (s.2.1+1),s.2.2))
  else
   (aJ s.2.2.2.2.2.2 s.2.1).bind fun n2=>
   bif decide (n2<0) then
    some (.done false)
   else
    bif decide ((Int.ofNat s.2.2.2.2.2.1.length)<=n2) then
     some (.done false)
    else
     (aJ s.2.2.2.2.2.1 n2).bind fun a3=>
     bif a3.2.2.2.1 !=s.2.1 then
      some (.done false)
     else
      (aJ s.2.2.2.2.2.1 n2).bind fun a4=>
      (vS (aQ.mk s.2.2.1 s.2.2.2.1 s.2.2.2.2.1) a4.2.2.2).bind fun b5=>
      bif !b5 then
       some (.done false)
      else
       some (.next (s.1,aA .i64 (s.2.1+1),s.2.2))
 else
  some (.done true)
def uR (p0:aG):Option Bool:=
 bif (Int.ofNat p0.where_.length) !=(Int.ofNat p0.slots.uses.length) then
  some false
 else
  bif (Int.ofNat p0.heap.length) !=(aA .i64 ((Int.ofNat p0.slots.uses.length) - (Int.ofNat p0.slots.free.length))) then
   some false
  else
   aH oH (Int.ofNat p0.slots.uses.length,0,p0.slots.uses,p0.slots.used,p0.slots.free,p0.heap,p0.where_)
def aO7:bM:=⟨aD.one (aM.agg cZ),aM.bool,fun a=>uR a,.pure,false⟩
theorem aG2:aK aX 172 aO7:=Oc aE8 rfl aF [(175,aMQ)] ⟨WU,trivial⟩ fun a=>by kernel_rfl
def sD (p0:Int) (p1:Int):Option (Bool×Int×Int):=
 some (false,aA .u64 ((aA .u64 ((aA .u64 ((aA .u64 (Int.tdiv p0 4294967296))*(aA .u64 (Int.tdiv p1 4294967296))))+(aA .u64 (Int.tdiv (aA .u64 ((aA .u64 ((aA .u64 (Int.tdiv p0 4294967296))*(Int.tmod p1 4294967296)))+(aA .u64 (Int.tdiv (aA .u64 ((Int.tmod p0 4294967296)*(Int.tmod p1 4294967296))) 4294967296)))) 4294967296))))+(aA .u64 (Int.tdiv (aA .u64 ((aA .u64 ((Int.tmod p0 4294967296)*(aA .u64 (Int.tdiv p1 4294967296))))+(Int.tmod (aA .u64 ((aA .u64 ((aA .u64 (Int.tdiv p0 4294967296))*(Int.tmod p1 4294967296)))+(aA .u64 (Int.tdiv (aA .u64 ((Int.tmod p0 4294967296)*(Int.tmod p1 4294967296))) 4294967296)))) 4294967296))) 4294967296))),aA .u64 ((aA .u64 ((Int.tmod (aA .u64 ((aA .u64 ((Int.tmod p0 4294967296)*(aA .u64 (Int.tdiv p1 4294967296))))+(Int.tmod (aA .u64 ((aA .u64 ((aA .u64 (Int.tdiv p0 4294967296))*(Int.tmod p1 4294967296)))+(aA .u64 (Int.tdiv (aA .u64 ((Int.tmod p0 4294967296)*(Int.tmod p1 4294967296))) 4294967296)))) 4294967296))) 4294967296)*4294967296))+(Int.tmod (aA .u64 ((Int.tmod p0 4294967296)*(Int.tmod p1 4294967296))) 4294967296)))
def aO8:bM:=⟨aD.cons (aM.int .u64) (aD.one (aM.int .u64)),aM.agg (cR.row B6),fun a=>sD a.1 a.2,.pure,false⟩
theorem aG3:aK aX 186 aO8:=Oc aFj rfl aF [] trivial fun a=>by kernel_rfl
def jQ (p0:Int) (p1:Int):Option (Bool×Int×Int):=
 (hH p0).bind fun n0=>
 (hH p1).bind fun n1=>
 (sD n0 n1).bind fun a2=>
 bif !((decide (p0<0))==(decide (p1<0))) then
  bif p0 !=0 then
   some (p1 !=0,a2.2)
  else
   some (false,a2.2)
 else
  some (false,a2.2)
def aMS:bM:=⟨aD.cons (aM.int .i64) (aD.one (aM.int .i64)),aM.agg (cR.row B6),fun a=>jQ a.1 a.2,.pure,false⟩
theorem WV:aK aX 142 aMS:=Oc aEK rfl aF [(114,aGX),(186,aO8)] ⟨O3,aG3,trivial⟩ fun a=>by kernel_rfl
def lP (p0:Bool×Int×Int):Option Int:=
 bif p0.2.1==0 then
  bif p0.2.2==0 then
   some 0
  else
   bif p0.1 then
    some (-1)
   else
    some 1
 else
  bif p0.1 then
   some (-1)
  else
   some 1
def aMT:bM:=⟨aD.one (aM.agg (cR.row B6)),aM.int .i64,fun a=>lP a,.pure,false⟩
theorem WW:aK aX 143 aMT:=Oc aEL rfl aF [] trivial fun a=>by kernel_rfl
def rF (p0:Bool×Int×Int) (p1:Bool×Int×Int):Option Int:=
 bif p0.2.1 !=p1.2.1 then
  bif decide (p0.2.1<p1.2.1) then
   some (-1)
  else
   some 1
 else
  bif p0.2.2 !=p1.2.2 then
   bif decide (p0.2.2<p1.2.2) then
    some (-1)
   else
    some 1
  else
   some 0
def aMU:bM:=⟨aD.cons (aM.agg (cR.row B6)) (aD.one (aM.agg (cR.row B6))),aM.int .i64,fun a=>rF a.1 a.2,.pure,false⟩
theorem WX:aK aX 144 aMU:=Oc aEM rfl aF [] trivial fun a=>by kernel_rfl
def sE (p0:Int×Int) (p1:Int×Int):Option Int:=
 (jQ p0.1 p1.2).bind fun a0=>
 (jQ p1.1 p0.2).bind fun a1=>
 (lP a0).bind fun n2=>
 (lP a1).bind fun n3=>
 bif n2 !=n3 then
  (lP a0).bind fun n4=>
  (lP a1).bind fun n5=>
  bif decide (n4<n5) then
   some (-1)
  else
   some 1
 else
  (lP a0).bind fun n6=>
  bif decide (n6<0) then
   (rF a1 a0).bind fun n7=>
   some n7
  else
   (rF a0 a1).bind fun n8=>
   some n8
def c84:bM:=⟨aD.cons (aM.agg (cR.row jY)) (aD.one (aM.agg (cR.row jY))),aM.int .i64,fun a=>sE a.1 a.2,.pure,false⟩
theorem aMV:aK aX 84 c84:=Oc aL5 rfl aF [(142,aMS),(143,aMT),(144,aMU)] ⟨WV,WW,WX,trivial⟩ fun a=>by kernel_rfl
def eB (p0:Int×Int×Int×Int×Int) (p1:Int×Int×Int×Int×Int):Option Bool:=
 (sE (p0.1,p0.2.1) (p1.1,p1.2.1)).bind fun n0=>
 bif decide (n0<0) then
  some true
 else
  bif n0==0 then
   some (decide (p0.2.2.1<p1.2.2.1))
  else
   some false
def UG:bM:=⟨aD.cons (aM.agg (cR.row lK)) (aD.one (aM.agg (cR.row lK))),aM.bool,fun a=>eB a.1 a.2,.pure,false⟩
theorem C8:aK aX 173 UG:=Oc aE9 rfl aF [(84,c84)] ⟨aMV,trivial⟩ fun a=>by kernel_rfl
abbrev aO9:=Int×Int×(List Int)×(List Bool)×(List Int)×iD×(List Int)×Int×Int×Int×Int×Int
abbrev F7:=Int×(List Int)×(List Bool)×(List Int)×iD×(List Int)
abbrev aMW:=bX F7 Int
def kN (s:aO9):Option (bX aO9 aMW):=
 bif decide (s.2.1<s.1) then
  (aJ s.2.2.2.2.2.1 s.2.1).bind fun a0=>
  bif a0.2.2.1==s.2.2.2.2.2.2.2.2.2.1 then
   some (.done (.done 8))
  else
   some (.next (s.1,aA .i64 (s.2.1+1),s.2.2))
 else
  some (.done (.next (aA .i64 (s.1+1),s.2.2.1,s.2.2.2.1,s.2.2.2.2.1,s.2.2.2.2.2.1,s.2.2.2.2.2.2.1)))
def kO (s:F7):Option (bX F7 aMW):=
 bif decide (s.1<(Int.ofNat s.2.2.2.2.1.length)) then
  (aJ s.2.2.2.2.1 s.1).bind fun a0=>
  (aJ s.2.2.2.2.1 (aA .i64 (Int.tdiv (aA .i64 (s.1-1)) 2))).bind fun a1=>
  (eB a0 a1).bind fun b2=>
  bif b2 then
   some (.done (.done 8))
  else
   some (.next (aA .i64 (s.1+1),s.2))
 else
  some (.done (.done 0))
def qA (s:F7):Option aMW:=
 bif decide (s.1<(Int.ofNat s.2.2.2.2.1.length)) then
  (aJ s.2.2.2.2.1 s.1).bind fun a0=>
  (tL (a0.1,a0.2.1)).bind fun n1=>
  bif n1 !=0 then
   some (.done 8)
  else
   bif decide (a0.2.2.1<0) then
    some (.done 8)
   else
    bif decide (1000000<a0.2.2.1) then
     some (.done 8)
    else
     aH kN (s.1,0,s.2.1,s.2.2.1,s.2.2.2.1,s.2.2.2.2.1,s.2.2.2.2.2,a0)
 else
  aH kO (1,s.2)
def tO (p0:aG):Option Int:=
 (xD p0.slots).bind fun n0=>
 bif n0 !=0 then
  some 8
 else
  (uR p0).bind fun b1=>
  bif !b1 then
   some 8
  else
   aH qA (0,p0.slots.uses,p0.slots.used,p0.slots.free,p0.heap,p0.where_)
def aMX:bM:=⟨aD.one (aM.agg cZ),aM.int .i64,fun a=>tO a,.pure,false⟩
theorem WY:aK aX 123 aMX:=Oc aEt rfl aF [(171,aO6),(172,aO7),(55,c55),(173,UG)] ⟨aG1,aG2,aAL,C8,trivial⟩ fun a=>by kernel_rfl
def tP (p0:Bool×Int×Int) (p1:Bool×Int×Int):Option (Bool×Int×Int):=
 bif decide (p0.2.2<p1.2.2) then
  some (false,aA .u64 ((aA .u64 (p0.2.1-p1.2.1)) -1),aA .u64 (p0.2.2-p1.2.2))
 else
  some (false,aA .u64 (p0.2.1-p1.2.1),aA .u64 (p0.2.2-p1.2.2))
def aPa:bM:=⟨aD.cons (aM.agg (cR.row B6)) (aD.one (aM.agg (cR.row B6))),aM.agg (cR.row B6),fun a=>tP a.1 a.2,.pure,false⟩
theorem aG4:aK aX 245 aPa:=Oc aF4 rfl aF [] trivial fun a=>by kernel_rfl
def AI (p0:Bool×Int×Int) (p1:Bool×Int×Int):Option (Bool×Int×Int):=
 bif p0.1==p1.1 then
  bif decide ((aA .u64 (p0.2.2+p1.2.2))<p0.2.2) then
   some (p0.1,aA .u64 ((aA .u64 (p0.2.1+p1.2.1))+1),aA .u64 (p0.2.2+p1.2.2))
  else
   some (p0.1,aA .u64 (p0.2.1+p1.2.1),aA .u64 (p0.2.2+p1.2.2))
 else
  (rF p0 p1).bind fun n0=>
  bif decide (0<=n0) then
   (tP p0 p1).bind fun a1=>
   bif p0.1 then
    bif decide (0<a1.2.1) then
     some (true,a1.2)
    else
     some (decide (0<a1.2.2),a1.2)
   else
    some (false,a1.2)
  else
   (tP p1 p0).bind fun a2=>
   some (p1.1,a2.2)
def aPb:bM:=⟨aD.cons (aM.agg (cR.row B6)) (aD.one (aM.agg (cR.row B6))),aM.agg (cR.row B6),fun a=>AI a.1 a.2,.pure,false⟩
theorem aG5:aK aX 237 aPb:=Oc aFX rfl aF [(144,aMU),(245,aPa)] ⟨WX,aG4,trivial⟩ fun a=>by kernel_rfl
def C9 (p0:Int×Int×Int) (p1:Int×Int×Int) (p2:Int×Int):Option Int:=
 (jQ (aA .i64 (p0.2.1-p1.2.1)) p2.2).bind fun a0=>
 (jQ (aA .i64 (p0.2.2-p1.2.2)) p2.1).bind fun a1=>
 (AI a0 a1).bind fun a2=>
 (lP a2).bind fun n3=>
 some n3
def aPc:bM:=⟨aD.cons (aM.agg (cR.row fL)) (aD.cons (aM.agg (cR.row fL)) (aD.one (aM.agg (cR.row jY)))),aM.int .i64,fun a=>C9 a.1 a.2.1 a.2.2,.pure,false⟩
theorem aG6:aK aX 215 aPc:=Oc aFI rfl aF [(142,aMS),(237,aPb),(143,aMT)] ⟨WV,aG5,WW,trivial⟩ fun a=>by kernel_rfl
def pD (p0:Int×Int×Int) (p1:Int×Int×Int) (p2:Int×Int):Option Bool:=
 (C9 p0 p1 p2).bind fun n0=>
 bif n0 !=0 then
  some (decide (0<n0))
 else
  bif p0.2.2 !=p1.2.2 then
   some (decide (p1.2.2<p0.2.2))
  else
   some (decide (p0.1<p1.1))
def aG7:bM:=⟨aD.cons (aM.agg (cR.row fL)) (aD.cons (aM.agg (cR.row fL)) (aD.one (aM.agg (cR.row jY)))),aM.bool,fun a=>pD a.1 a.2.1 a.2.2,.pure,false⟩
theorem O4:aK aX 176 aG7:=Oc aFc rfl aF [(215,aPc)] ⟨aG6,trivial⟩ fun a=>by kernel_rfl
def rG (p0:Bool) (p1:Bool×Int×Int) (p2:Bool×Int×Int):Option ((Int×Int)×Int):=
 bif decide (0<p1.2.1) then
  some ((0,0),16)
 else
  bif decide (9223372036854775807<p1.2.2) then
   some ((0,0),16)
  else
   bif decide (0<p2.2.1) then
    some ((0,0),16)
   else
    bif decide (9223372036854775807<p2.2.2) then
     some ((0,0),16)
    else
     bif p0 then
      some ((aA .i64 (0- (aA .i64 p1.2.2)),aA .i64 p2.2.2),0)
     else
      some ((aA .i64 p1.2.2,aA .i64 p2.2.2),0)
def aPd:bM:=⟨aD.cons aM.bool (aD.cons (aM.agg (cR.row B6)) (aD.one (aM.agg (cR.row B6)))),aM.tup (aD.cons (aM.agg (cR.row jY)) (aD.one (aM.int .i64))),fun a=>rG a.1 a.2.1 a.2.2,.pure,false⟩
theorem aG8:aK aX 244 aPd:=Oc aF3 rfl aF [] trivial fun a=>by kernel_rfl
def mX (p0:Int) (p1:Int):Option ((Int×Int)×Int):=
 bif p1==0 then
  some ((0,0),26)
 else
  (hH p0).bind fun n0=>
  (hH p1).bind fun n1=>
  (pW n0 n1).bind fun n2=>
  bif !((decide (p0<0))==(decide (p1<0))) then
   (hH p0).bind fun n3=>
   bif n2==0 then
    none
   else
    (hH p1).bind fun n4=>
    bif n2==0 then
     none
    else
     (rG (p0 !=0) (false,0,aA .u64 (Int.tdiv n3 n2)) (false,0,aA .u64 (Int.tdiv n4 n2))).bind fun a5=>
     some a5
  else
   (hH p0).bind fun n6=>
   bif n2==0 then
    none
   else
    (hH p1).bind fun n7=>
    bif n2==0 then
     none
    else
     (rG false (false,0,aA .u64 (Int.tdiv n6 n2)) (false,0,aA .u64 (Int.tdiv n7 n2))).bind fun a8=>
     some a8
def aPe:bM:=⟨aD.cons (aM.int .i64) (aD.one (aM.int .i64)),aM.tup (aD.cons (aM.agg (cR.row jY)) (aD.one (aM.int .i64))),fun a=>mX a.1 a.2,.pure,false⟩
theorem aG9:aK aX 236 aPe:=Oc aFW rfl aF [(114,aGX),(113,aML),(244,aPd)] ⟨O3,WQ,aG8,trivial⟩ fun a=>by kernel_rfl
def DA (p0:Int×Int×Int) (p1:Int×Int×Int):Option (Int×Int):=
 (mX (aA .i64 (p0.2.1-p1.2.1)) (aA .i64 (p1.2.2-p0.2.2))).bind fun a0=>
 some a0.1
def aPf:bM:=⟨aD.cons (aM.agg (cR.row fL)) (aD.one (aM.agg (cR.row fL))),aM.agg (cR.row jY),fun a=>DA a.1 a.2,.pure,false⟩
theorem aHa:aK aX 214 aPf:=Oc aFH rfl aF [(236,aPe)] ⟨aG9,trivial⟩ fun a=>by kernel_rfl
def sF (p0:Int×Int×Int) (p1:Int×Int×Int) (p2:Int×Int):Option ((Int×Int)×Bool):=
 (pD p1 p0 p2).bind fun b0=>
 bif b0 then
  some (p2,true)
 else
  bif decide (p0.2.2<p1.2.2) then
   (DA p0 p1).bind fun a1=>
   some (a1,true)
  else
   some ((0,0),false)
def aPg:bM:=⟨aD.cons (aM.agg (cR.row fL)) (aD.cons (aM.agg (cR.row fL)) (aD.one (aM.agg (cR.row jY)))),aM.tup (aD.cons (aM.agg (cR.row jY)) (aD.one aM.bool)),fun a=>sF a.1 a.2.1 a.2.2,.pure,false⟩
theorem aHb:aK aX 174 aPg:=Oc aFa rfl aF [(176,aG7),(214,aPf)] ⟨O4,aHa,trivial⟩ fun a=>by kernel_rfl
def rH (p0:Field) (p1:Int×Int) (p2:Int×Int):Option ((Int×Int)×Bool):=
 (gD p0 p1.2).bind fun n0=>
 (aJ p0.points n0).bind fun a1=>
 (gD p0 p1.1).bind fun n2=>
 (aJ p0.points n2).bind fun a3=>
 (sF a1 a3 p2).bind fun a4=>
 some a4
def aHc:bM:=⟨aD.cons (aM.agg cA) (aD.cons (aM.agg (cR.row jY)) (aD.one (aM.agg (cR.row jY)))),aM.tup (aD.cons (aM.agg (cR.row jY)) (aD.one aM.bool)),fun a=>rH a.1 a.2.1 a.2.2,.pure,false⟩
theorem O5:aK aX 124 aHc:=Oc aEu rfl aF [(64,c64),(174,aPg)] ⟨HI,aHb,trivial⟩ fun a=>by kernel_rfl
def vT (p0:aG) (p1:Int×Int):Option ((Int×Int×Int×Int×Int)×Int):=
 (tO p0).bind fun n0=>
 bif n0 !=0 then
  some ((0,0,0,0,0),8)
 else
  (vS p0.slots p1).bind fun b1=>
  bif !b1 then
   some ((0,0,0,0,0),6)
  else
   (aJ p0.where_ p1.1).bind fun n2=>
   (aJ p0.heap n2).bind fun a3=>
   some (a3,0)
def aPh:bM:=⟨aD.cons (aM.agg cZ) (aD.one (aM.agg (cR.row jY))),aM.tup (aD.cons (aM.agg (cR.row lK)) (aD.one (aM.int .i64))),fun a=>vT a.1 a.2,.pure,false⟩
theorem aHd:aK aX 125 aPh:=Oc aEv rfl aF [(123,aMX),(175,aMQ)] ⟨WY,WU,trivial⟩ fun a=>by kernel_rfl
abbrev aMY:=Int×Int×Int×Int×bN×Int×bN×(List Int)×(List Bool)×(List Int)×iD×(List Int)×bN
abbrev aPi:=bX aMY Int
def dF (s:aMY):Option aPi:=
 bif decide (s.2.1<(Int.ofNat s.2.2.2.2.2.2.1.length)) then
  (aJ s.2.2.2.2.2.2.1 s.2.1).bind fun a0=>
  (rH (Field.mk s.2.2.2.2.1) a0.2 (s.2.2.1,s.2.2.2.1)).bind fun a1=>
  bif !a1.2 then
   some (.next (s.1,aA .i64 (s.2.1+1),s.2.2))
  else
   bif decide ((Int.ofNat s.2.2.2.2.2.2.2.2.2.2.2.2.length)<=s.1) then
    some (.done 8)
   else
    (aJ s.2.2.2.2.2.2.2.2.2.2.2.2 s.1).bind fun a2=>
    bif a2.1 !=a0.1 then
     some (.done 8)
    else
     (aJ s.2.2.2.2.2.2.2.2.2.2.2.2 s.1).bind fun a3=>
     (vT (aG.mk (aQ.mk s.2.2.2.2.2.2.2.1 s.2.2.2.2.2.2.2.2.1 s.2.2.2.2.2.2.2.2.2.1) s.2.2.2.2.2.2.2.2.2.2.1 s.2.2.2.2.2.2.2.2.2.2.2.1) a3.2).bind fun a4=>
     bif a4.2 !=0 then
      some (.done 8)
     else
      bif a4.1.2.2.1 !=a0.1 then
       some (.done 8)
      else
       bif !((a4.1.1==a1.1.1)&&(a4.1.2.1==a1.1.2)) then
        some (.done 8)
       else
        some (.next (aA .i64 (s.1+1),aA .i64 (s.2.1+1),s.2.2))
 else
  bif s.1 !=(Int.ofNat s.2.2.2.2.2.2.2.2.2.2.2.2.length) then
   some (.done 8)
  else
   some (.done 0)
def xE (p0:aP):Option Int:=
 (tL p0.now).bind fun n0=>
 bif n0 !=0 then
  some 8
 else
  (mW p0.field).bind fun n1=>
  bif n1 !=0 then
   some 8
  else
   (tM p0.certs).bind fun n2=>
   bif n2 !=0 then
    some 8
   else
    (xC p0.certs p0.field).bind fun b3=>
    bif !b3 then
     some 8
    else
     (tO p0.agenda).bind fun n4=>
     bif n4 !=0 then
      some 8
     else
      bif (Int.ofNat p0.agenda.where_.length) !=200 then
       some 8
      else
       bif (Int.ofNat p0.agenda.heap.length) !=(Int.ofNat p0.due.length) then
        some 8
       else
        aH dF (0,0,p0.now.1,p0.now.2,p0.field.points,p0.certs.next_,p0.certs.list,p0.agenda.slots.uses,p0.agenda.slots.used,p0.agenda.slots.free,p0.agenda.heap,p0.agenda.where_,p0.due)
def c63:bM:=⟨aD.one (aM.agg bR),aM.int .i64,fun a=>xE a,.pure,false⟩
theorem aMZ:aK aX 63 c63:=Oc aLV rfl aF [(55,c55),(54,c54),(121,aMO),(122,aO5),(123,aMX),(124,aHc),(125,aPh)] ⟨aAL,aAN,WT,aG0,WY,O5,aHd,trivial⟩ fun a=>by kernel_rfl
def R1 (s:aGt):Option (bX aGt xU):=
 bif decide (s.2.1<(Int.ofNat s.1.length)) then
  (aJ s.1 s.2.1).bind fun n0=>
  (aJ s.1 (aA .i64 (Int.tdiv (aA .i64 (s.2.1-1)) 2))).bind fun n1=>
  (bV s.2.2 [(n0,n1)]).bind fun l2=>
  some (.next (s.1,aA .i64 (s.2.1+1),l2))
 else
  some (.done s.2.2)
def CC (p0:List Int):Option xU:=
 aH R1 (p0,1,[])
def c57:bM:=⟨aD.one (aM.sl ki),aM.sl jY,fun a=>CC a,.own,true⟩
def aM0:bM:=⟨aD.one (aM.sl ki),aM.sl jY,fun a=>CC a,.frz,false⟩
theorem aAP:aK aX 57 c57:=Oc aAq rfl aF [] trivial fun a=>by kernel_rfl
theorem WZ:aK aX 57 aM0:=Oc aAq rfl aF [] trivial fun a=>by kernel_rfl
def uS (s:(Int×Int×bN×Int×Int)):Option (bX (Int×Int×bN×Int×Int) Bool):=
 bif decide (s.1<(Int.ofNat s.2.2.1.length)) then
  (aJ s.2.2.1 s.1).bind fun a0=>
  bif (a0.2.1==s.2.2.2.1)&&(a0.2.2==s.2.2.2.2) then
   some (.done true)
  else
   some (.next (aA .i64 (s.1+1),s.2))
 else
  some (.done false)
def uW (p0:aU) (p1:Int×Int):Option Bool:=
 aH uS (0,p0.next_,p0.list,p1)
def aHe:bM:=⟨aD.cons (aM.agg gK) (aD.one (aM.agg (cR.row jY))),aM.bool,fun a=>uW a.1 a.2,.pure,false⟩
theorem O6:aK aX 126 aHe:=Oc aEw rfl aF [] trivial fun a=>by kernel_rfl
def AJ (p0:Int×Int) (p1:Field) (p2:Int×Int):Option Bool:=
 (gD p1 p0.2).bind fun n0=>
 (aJ p1.points n0).bind fun a1=>
 (gD p1 p0.1).bind fun n2=>
 (aJ p1.points n2).bind fun a3=>
 (pD a1 a3 p2).bind fun b4=>
 some b4
def aPj:bM:=⟨aD.cons (aM.agg (cR.row jY)) (aD.cons (aM.agg cA) (aD.one (aM.agg (cR.row jY)))),aM.bool,fun a=>AJ a.1 a.2.1 a.2.2,.pure,false⟩
theorem aHf:aK aX 127 aPj:=Oc aEx rfl aF [(64,c64),(176,aG7)] ⟨HI,O4,trivial⟩ fun a=>by kernel_rfl
abbrev aPk:=xU×Int×Int×Int×bN×Int×bN×(List Int)×(List Bool)×(List Int)×iD×(List Int)×bN
def sG (s:aPk):Option (bX aPk Bool):=
 bif decide (s.2.1<(Int.ofNat s.1.length)) then
  (aJ s.1 s.2.1).bind fun a0=>
  (uW (aU.mk s.2.2.2.2.2.1 s.2.2.2.2.2.2.1) a0).bind fun b1=>
  bif !b1 then
   some (.done false)
  else
   (aJ s.1 s.2.1).bind fun a2=>
   (AJ a2 (Field.mk s.2.2.2.2.1) (s.2.2.1,s.2.2.2.1)).bind fun b3=>
   bif !b3 then
    some (.done false)
   else
    some (.next (s.1,aA .i64 (s.2.1+1),s.2.2))
 else
  some (.done true)
def AL (p0:aP) (p1:List (Int×Int)):Option Bool:=
 bif (Int.ofNat p0.certs.list.length) !=(Int.ofNat p1.length) then
  some false
 else
  aH sG (p1,0,p0.now.1,p0.now.2,p0.field.points,p0.certs.next_,p0.certs.list,p0.agenda.slots.uses,p0.agenda.slots.used,p0.agenda.slots.free,p0.agenda.heap,p0.agenda.where_,p0.due)
def c65:bM:=⟨aD.cons (aM.agg bR) (aD.one (aM.sl jY)),aM.bool,fun a=>AL a.1 a.2,.pure,false⟩
theorem aM1:aK aX 65 c65:=Oc aLX rfl aF [(126,aHe),(127,aPj)] ⟨O6,aHf,trivial⟩ fun a=>by kernel_rfl
abbrev aPl:=Int×Int×Int×bN×Int×bN×(List Int)×(List Bool)×(List Int)×iD×(List Int)×bN×(List Int)
abbrev aPm:=bX aPl Int
def qB (s:aGs):Option (bX aGs aPm):=
 bif decide (s.2.1<s.1) then
  (aJ s.2.2.2.2.2.2.2.2.2.2.2.2.2 s.2.1).bind fun n0=>
  (aJ s.2.2.2.2.2.2.2.2.2.2.2.2.2 s.1).bind fun n1=>
  bif n0==n1 then
   some (.done (.done 8))
  else
   some (.next (s.1,aA .i64 (s.2.1+1),s.2.2))
 else
  some (.done (.next (aA .i64 (s.1+1),s.2.2)))
def iT (s:aPl):Option aPm:=
 bif decide (s.1<(Int.ofNat s.2.2.2.2.2.2.2.2.2.2.2.2.length)) then
  (aJ s.2.2.2.2.2.2.2.2.2.2.2.2 s.1).bind fun n0=>
  (gD (Field.mk s.2.2.2.1) n0).bind fun n1=>
  bif decide (n1<0) then
   some (.done 8)
  else
   aH qB (s.1,0,s.2)
 else
  (CC s.2.2.2.2.2.2.2.2.2.2.2.2).bind fun l2=>
  (AL (aP.mk (s.2.1,s.2.2.1) (Field.mk s.2.2.2.1) (aU.mk s.2.2.2.2.1 s.2.2.2.2.2.1) (aG.mk (aQ.mk s.2.2.2.2.2.2.1 s.2.2.2.2.2.2.2.1 s.2.2.2.2.2.2.2.2.1) s.2.2.2.2.2.2.2.2.2.1 s.2.2.2.2.2.2.2.2.2.2.1) s.2.2.2.2.2.2.2.2.2.2.2.1) l2).bind fun b3=>
  bif !b3 then
   some (.done 8)
  else
   some (.done 0)
def tQ (p0:dH):Option Int:=
 (xE p0.clock).bind fun n0=>
 bif n0 !=0 then
  some 8
 else
  bif (Int.ofNat p0.heap.length) !=(Int.ofNat p0.clock.field.points.length) then
   some 8
  else
   aH iT (0,p0.clock.now.1,p0.clock.now.2,p0.clock.field.points,p0.clock.certs.next_,p0.clock.certs.list,p0.clock.agenda.slots.uses,p0.clock.agenda.slots.used,p0.clock.agenda.slots.free,p0.clock.agenda.heap,p0.clock.agenda.where_,p0.clock.due,p0.heap)
def c26:bM:=⟨aD.one (aM.agg iC),aM.int .i64,fun a=>tQ a,.pure,false⟩
theorem aM2:aK aX 26 c26:=Oc aLy rfl aF [(63,c63),(64,c64),(57,c57),(57,aM0),(65,c65)] ⟨aMZ,HI,aAP,WZ,aM1,trivial⟩ fun a=>by kernel_rfl
def iL (s:aGZ):Option (bX aGZ Field):=
 bif decide (s.2.1<(Int.ofNat s.2.2.1.length)) then
  (aJ s.2.2.1 s.2.1).bind fun a0=>
  bif a0.1 !=s.1 then
   (aJ s.2.2.1 s.2.1).bind fun a1=>
   (bV s.2.2.2 [a1]).bind fun l2=>
   some (.next (s.1,aA .i64 (s.2.1+1),s.2.2.1,l2))
  else
   some (.next (s.1,aA .i64 (s.2.1+1),s.2.2))
 else
  some (.done (Field.mk s.2.2.2))
def xX (p0:Field) (p1:Int):Option Field:=
 aH iL (p1,0,p0.points,[])
def aPn:bM:=⟨aD.cons (aM.agg cA) (aD.one (aM.int .i64)),aM.agg cA,fun a=>xX a.1 a.2,.frz,false⟩
theorem aHg:aK aX 102 aPn:=Oc aEc rfl aF [] trivial fun a=>by kernel_rfl
def mY (p0:Field) (p1:Int):Option (Field×Int):=
 (mW p0).bind fun n0=>
 bif n0 !=0 then
  some (Field.mk [],n0)
 else
  (gD p0 p1).bind fun n1=>
  bif decide (n1<0) then
   some (Field.mk [],6)
  else
   (xX p0 p1).bind fun r2=>
   some (r2,0)
def c46:bM:=⟨aD.cons (aM.agg cA) (aD.one (aM.int .i64)),aM.tup (aD.cons (aM.agg cA) (aD.one (aM.int .i64))),fun a=>mY a.1 a.2,.frz,false⟩
theorem aM3:aK aX 46 c46:=Oc aLJ rfl aF [(54,c54),(64,c64),(102,aPn)] ⟨aAN,HI,aHg,trivial⟩ fun a=>by kernel_rfl
def qC (s:((List Int)×Int×Int)):Option (bX ((List Int)×Int×Int) Int):=
 bif decide (s.2.2<(Int.ofNat s.1.length)) then
  (aJ s.1 s.2.2).bind fun n0=>
  bif n0==s.2.1 then
   some (.done s.2.2)
  else
   some (.next (s.1,s.2.1,aA .i64 (s.2.2+1)))
 else
  some (.done (-1))
def xF (p0:List Int) (p1:Int):Option Int:=
 aH qC (p0,p1,0)
def c47:bM:=⟨aD.cons (aM.sl ki) (aD.one (aM.int .i64)),aM.int .i64,fun a=>xF a.1 a.2,.pure,false⟩
theorem aAQ:aK aX 47 c47:=Oc aLK rfl aF [] trivial fun a=>by kernel_rfl
def lE (p0:Field) (p1:Int×Int) (p2:Int) (p3:Int):Option Bool:=
 (gD p0 p2).bind fun n0=>
 (aJ p0.points n0).bind fun a1=>
 (gD p0 p3).bind fun n2=>
 (aJ p0.points n2).bind fun a3=>
 (pD a1 a3 p1).bind fun b4=>
 some b4
def aHh:bM:=⟨aD.cons (aM.agg cA) (aD.cons (aM.agg (cR.row jY)) (aD.cons (aM.int .i64) (aD.one (aM.int .i64)))),aM.bool,fun a=>lE a.1 a.2.1 a.2.2.1 a.2.2.2,.pure,false⟩
theorem O7:aK aX 131 aHh:=Oc aEA rfl aF [(64,c64),(176,aG7)] ⟨HI,O4,trivial⟩ fun a=>by kernel_rfl
abbrev aHi:=Int×bN×Int×Int×(List Int)
def mZ (s:aHi):Option (bX aHi (List Int)):=
 bif decide (0<s.1) then
  (aJ s.2.2.2.2 s.1).bind fun n0=>
  (aJ s.2.2.2.2 (aA .i64 (Int.tdiv (aA .i64 (s.1-1)) 2))).bind fun n1=>
  (lE (Field.mk s.2.1) (s.2.2.1,s.2.2.2.1) n0 n1).bind fun b2=>
  bif b2 then
   (aJ s.2.2.2.2 (aA .i64 (Int.tdiv (aA .i64 (s.1-1)) 2))).bind fun n3=>
   (aJ s.2.2.2.2 s.1).bind fun n4=>
   (aJ s.2.2.2.2 s.1).bind fun _=>
   (aJ (bJ s.2.2.2.2 s.1 n3) (aA .i64 (Int.tdiv (aA .i64 (s.1-1)) 2))).bind fun _=>
   some (.next (aA .i64 (Int.tdiv (aA .i64 (s.1-1)) 2),s.2.1,s.2.2.1,s.2.2.2.1,bJ (bJ s.2.2.2.2 s.1 n3) (aA .i64 (Int.tdiv (aA .i64 (s.1-1)) 2)) n4))
  else
   some (.done s.2.2.2.2)
 else
  some (.done s.2.2.2.2)
def tR (p0:Field) (p1:Int×Int) (p2:List Int) (p3:Int):Option (List Int):=
 (bO p2).bind fun l0=>
 aH mZ (p3,p0.points,p1.1,p1.2,l0)
def c68:bM:=⟨aD.cons (aM.agg cA) (aD.cons (aM.agg (cR.row jY)) (aD.cons (aM.sl ki) (aD.one (aM.int .i64)))),aM.sl ki,fun a=>tR a.1 a.2.1 a.2.2.1 a.2.2.2,.own,true⟩
def aPo:bM:=⟨aD.cons (aM.agg cA) (aD.cons (aM.agg (cR.row jY)) (aD.cons (aM.sl ki) (aD.one (aM.int .i64)))),aM.sl ki,fun a=>tR a.1 a.2.1 a.2.2.1 a.2.2.2,.frz,false⟩
theorem aM4:aK aX 68 c68:=Oc aAr rfl aF [(131,aHh)] ⟨O7,trivial⟩ fun a=>by kernel_rfl
theorem aHj:aK aX 68 aPo:=Oc aAr rfl aF [(131,aHh)] ⟨O7,trivial⟩ fun a=>by kernel_rfl
def eX (s:aHi):Option (bX aHi (List Int)):=
 bif decide ((aA .i64 ((aA .i64 (2*s.1))+1))<(Int.ofNat s.2.2.2.2.length)) then
  bif decide ((aA .i64 ((aA .i64 ((aA .i64 (2*s.1))+1))+1))<(Int.ofNat s.2.2.2.2.length)) then
   (aJ s.2.2.2.2 (aA .i64 ((aA .i64 ((aA .i64 (2*s.1))+1))+1))).bind fun n0=>
   (aJ s.2.2.2.2 (aA .i64 ((aA .i64 (2*s.1))+1))).bind fun n1=>
   (lE (Field.mk s.2.1) (s.2.2.1,s.2.2.2.1) n0 n1).bind fun b2=>
   bif b2 then
    (aJ s.2.2.2.2 (aA .i64 ((aA .i64 ((aA .i64 (2*s.1))+1))+1))).bind fun n3=>
    (aJ s.2.2.2.2 s.1).bind fun n4=>
    (lE (Field.mk s.2.1) (s.2.2.1,s.2.2.2.1) n3 n4).bind fun b5=>
    bif !b5 then
     some (.done s.2.2.2.2)
    else
     (aJ s.2.2.2.2 (aA .i64 ((aA .i64 ((aA .i64 (2*s.1))+1))+1))).bind fun n6=>
     (aJ s.2.2.2.2 s.1).bind fun n7=>
     (aJ s.2.2.2.2 s.1).bind fun _=>
     (aJ (bJ s.2.2.2.2 s.1 n6) (aA .i64 ((aA .i64 ((aA .i64 (2*s.1))+1))+1))).bind fun _=>
     some (.next (aA .i64 ((aA .i64 ((aA .i64 (2*s.1))+1))+1),s.2.1,s.2.2.1,s.2.2.2.1,bJ (bJ s.2.2.2.2 s.1 n6) (aA .i64 ((aA .i64 ((aA .i64 (2*s.1))+1))+1)) n7))
   else
    (aJ s.2.2.2.2 (aA .i64 ((aA .i64 (2*s.1))+1))).bind fun n10=>
    (aJ s.2.2.2.2 s.1).bind fun n11=>
    (lE (Field.mk s.2.1) (s.2.2.1,s.2.2.2.1) n10 n11).bind fun b12=>
    bif !b12 then
     some (.done s.2.2.2.2)
    else
     (aJ s.2.2.2.2 (aA .i64 ((aA .i64 (2*s.1))+1))).bind fun n13=>
     (aJ s.2.2.2.2 s.1).bind fun n14=>
     (aJ s.2.2.2.2 s.1).bind fun _=>
     (aJ (bJ s.2.2.2.2 s.1 n13) (aA .i64 ((aA .i64 (2*s.1))+1))).bind fun _=>
     some (.next (aA .i64 ((aA .i64 (2*s.1))+1),s.2.1,s.2.2.1,s.2.2.2.1,bJ (bJ s.2.2.2.2 s.1 n13) (aA .i64 ((aA .i64 (2*s.1))+1)) n14))
  else
   (aJ s.2.2.2.2 (aA .i64 ((aA .i64 (2*s.1))+1))).bind fun n17=>
   (aJ s.2.2.2.2 s.1).bind fun n18=>
   (lE (Field.mk s.2.1) (s.2.2.1,s.2.2.2.1) n17 n18).bind fun b19=>
   bif !b19 then
    some (.done s.2.2.2.2)
   else
    (aJ s.2.2.2.2 (aA .i64 ((aA .i64 (2*s.1))+1))).bind fun n20=>
    (aJ s.2.2.2.2 s.1).bind fun n21=>
    (aJ s.2.2.2.2 s.1).bind fun _=>
    (aJ (bJ s.2.2.2.2 s.1 n20) (aA .i64 ((aA .i64 (2*s.1))+1))).bind fun _=>
    some (.next (aA .i64 ((aA .i64 (2*s.1))+1),s.2.1,s.2.2.1,s.2.2.2.1,bJ (bJ s.2.2.2.2 s.1 n20) (aA .i64 ((aA .i64 (2*s.1))+1)) n21))
 else
  some (.done s.2.2.2.2)
def EV (p0:Field) (p1:Int×Int) (p2:List Int) (p3:Int):Option (List Int):=
 (bO p2).bind fun l0=>
 aH eX (p3,p0.points,p1.1,p1.2,l0)
def aPp:bM:=⟨aD.cons (aM.agg cA) (aD.cons (aM.agg (cR.row jY)) (aD.cons (aM.sl ki) (aD.one (aM.int .i64)))),aM.sl ki,fun a=>EV a.1 a.2.1 a.2.2.1 a.2.2.2,.frz,false⟩
theorem aHk:aK aX 103 aPp:=Oc aEd rfl aF [(131,aHh)] ⟨O7,trivial⟩ fun a=>by kernel_rfl
def uT (p0:Field) (p1:Int×Int) (p2:List Int) (p3:Int):Option (List Int):=
 (aJ p2 p3).bind fun n0=>
 (tR p0 p1 p2 p3).bind fun l1=>
 (xF l1 n0).bind fun n2=>
 (EV p0 p1 l1 n2).bind fun l3=>
 some l3
def c48:bM:=⟨aD.cons (aM.agg cA) (aD.cons (aM.agg (cR.row jY)) (aD.cons (aM.sl ki) (aD.one (aM.int .i64)))),aM.sl ki,fun a=>uT a.1 a.2.1 a.2.2.1 a.2.2.2,.frz,false⟩
theorem aM5:aK aX 48 c48:=Oc aLL rfl aF [(68,c68),(68,aPo),(47,c47),(103,aPp)] ⟨aM4,aHj,aAQ,aHk,trivial⟩ fun a=>by kernel_rfl
def xG (s:(xU×Int×Int×Int)):Option (bX (xU×Int×Int×Int) Bool):=
 bif decide (s.2.1<(Int.ofNat s.1.length)) then
  (aJ s.1 s.2.1).bind fun a0=>
  bif (a0.1==s.2.2.1)&&(a0.2==s.2.2.2) then
   some (.done true)
  else
   some (.next (s.1,aA .i64 (s.2.1+1),s.2.2))
 else
  some (.done false)
def F8 (p0:List (Int×Int)) (p1:Int×Int):Option Bool:=
 aH xG (p0,0,p1)
def aPq:bM:=⟨aD.cons (aM.sl jY) (aD.one (aM.agg (cR.row jY))),aM.bool,fun a=>F8 a.1 a.2,.pure,false⟩
theorem aHl:aK aX 147 aPq:=Oc aEO rfl aF [] trivial fun a=>by kernel_rfl
end
end Go.Proofs.YtmlghnibpjlchaaGreat
