/- Plain functions for what the functions of the seat compute. Printed by a program. -/
import Derived.Test.YticklbjcnimggaaGreatEVm3
import Derived.Test.YticklbjcnimggaaGreatEQXT
set_option maxRecDepth 100000
namespace Go.Proofs.YticklbjcnimggaaGreat
open Go.Vm
noncomputable section
theorem Oc {f:FuncId} {x:aO} {α β:Type} {args:aB α} {res:aL β} {kd:Kd} {fn:α->Option β} {ow:Bool} (hf:aU f=some (.code x)) (ho:aBX kd ow=true) (lp:Option Nat) (l:List (Nat×bM)) (h:EN aU l) (e: ∀a,aHN (nZ lp l [] [] []) x args res kd a=fn a):aK aU f ⟨args,res,fn,kd,ow⟩:=aK.of hf (cx:=nZ lp l [] [] []) ho (lG.make h trivial trivial) e
abbrev eL:List PT:=[.i .i64,.i .i64,.i .i64]
abbrev ki:List PT:=[.i .i64]
abbrev kb:List PT:=[.b]
abbrev lH:List PT:=[.i .i64,.i .i64,.i .i64,.i .i64,.i .i64]
abbrev jM:List PT:=[.i .i64,.i .i64]
abbrev B2:List PT:=[.b,.i .u64,.i .u64]
abbrev aNT:List PT:=[.i .i64,.i .i64,.i .i64,.i .i64]
abbrev kiu:List PT:=[.i .i64,.i .u64]
structure Field where
 points:List (Int×Int×Int)
def bZ:cJ Field:=cJ.iso (cJ.sl eL) (fun p=>⟨p⟩) (fun c=>c.points) (fun _=>rfl)
structure aQ where
 uses:List Int
 used:List Bool
 free:List Int
def fY:cJ aQ:=cJ.iso (cJ.prod (cJ.sl ki) (cJ.prod (cJ.sl kb) (cJ.sl ki))) (fun p=>⟨p.1,p.2.1,p.2.2⟩) (fun c=>(c.uses,c.used,c.free)) (fun _=>rfl)
structure aH where
 slots:aQ
 heap:List (Int×Int×Int×Int×Int)
 where_:List Int
def cY:cJ aH:=cJ.iso (cJ.prod fY (cJ.prod (cJ.sl lH) (cJ.sl ki))) (fun p=>⟨p.1,p.2.1,p.2.2⟩) (fun c=>(c.slots,c.heap,c.where_)) (fun _=>rfl)
structure aV where
 next_:Int
 list:List (Int×Int×Int)
def gG:cJ aV:=cJ.iso (cJ.prod (cJ.int .i64) (cJ.sl eL)) (fun p=>⟨p.1,p.2⟩) (fun c=>(c.next_,c.list)) (fun _=>rfl)
structure aP where
 now:Int×Int
 field:Field
 certs:aV
 agenda:aH
 due:List (Int×Int×Int)
def bQ:cJ aP:=cJ.iso (cJ.prod (cJ.row jM) (cJ.prod bZ (cJ.prod gG (cJ.prod cY (cJ.sl eL))))) (fun p=>⟨p.1,p.2.1,p.2.2.1,p.2.2.2.1,p.2.2.2.2⟩) (fun c=>(c.now,c.field,c.certs,c.agenda,c.due)) (fun _=>rfl)
structure oA where
 root:Int
 nodes:List (Int×Int×Int)
def oR:cJ oA:=cJ.iso (cJ.prod (cJ.int .i64) (cJ.sl eL)) (fun p=>⟨p.1,p.2⟩) (fun c=>(c.root,c.nodes)) (fun _=>rfl)
structure dL where
 clock:aP
 tree:oA
def fE:cJ dL:=cJ.iso (cJ.prod bQ oR) (fun p=>⟨p.1,p.2⟩) (fun c=>(c.clock,c.tree)) (fun _=>rfl)
def sX (p0:Field):Option Bool:=
 bif decide (16<(Int.ofNat p0.points.length)) then
  bif decide ((Int.ofNat p0.points.length)<64) then
   some true
  else
   some (decide (70<(Int.ofNat p0.points.length)))
 else
  some (decide (70<(Int.ofNat p0.points.length)))
def c15:bM:=⟨aB.one (aL.agg bZ),aL.bool,fun a=>sX a,.pure,false⟩
theorem aL5:aK aU 15 c15:=Oc aLa rfl aF [] trivial fun a=>by kernel_rfl
def B3 (p0:aQ):Option Bool:=
 bif decide (210<(Int.ofNat p0.uses.length)) then
  some true
 else
  bif decide (210<(Int.ofNat p0.used.length)) then
   some true
  else
   some (decide (210<(Int.ofNat p0.free.length)))
def aNU:bM:=⟨aB.one (aL.agg fY),aL.bool,fun a=>B3 a,.pure,false⟩
theorem aFN:aK aU 105 aNU:=Oc aD5 rfl aF [] trivial fun a=>by kernel_rfl
def B4 (p0:aH):Option Bool:=
 (B3 p0.slots).bind fun b0=>
 bif b0 then
  some true
 else
  bif decide (210<(Int.ofNat p0.heap.length)) then
   some true
  else
   some (decide (210<(Int.ofNat p0.where_.length)))
def c55:bM:=⟨aB.one (aL.agg cY),aL.bool,fun a=>B4 a,.pure,false⟩
theorem aL6:aK aU 55 c55:=Oc aLy rfl aF [(105,aNU)] ⟨aFN,trivial⟩ fun a=>by kernel_rfl
def sY (p0:aP):Option Bool:=
 bif decide (40<(Int.ofNat p0.certs.list.length)) then
  some true
 else
  bif decide (40<(Int.ofNat p0.due.length)) then
   some true
  else
   (sX p0.field).bind fun b0=>
   bif b0 then
    some true
   else
    (B4 p0.agenda).bind fun b1=>
    some b1
def c24:bM:=⟨aB.one (aL.agg bQ),aL.bool,fun a=>sY a,.pure,false⟩
theorem aL7:aK aU 24 c24:=Oc aLd rfl aF [(15,c15),(55,c55)] ⟨aL5,aL6,trivial⟩ fun a=>by kernel_rfl
def B5 (p0:oA):Option Bool:=
 some (decide (70<(Int.ofNat p0.nodes.length)))
def c25:bM:=⟨aB.one (aL.agg oR),aL.bool,fun a=>B5 a,.pure,false⟩
theorem aL8:aK aU 25 c25:=Oc aLe rfl aF [] trivial fun a=>by kernel_rfl
def sZ (p0:dL):Option Bool:=
 (sY p0.clock).bind fun b0=>
 bif b0 then
  some true
 else
  (B5 p0.tree).bind fun b1=>
  some b1
def c6:bM:=⟨aB.one (aL.agg fE),aL.bool,fun a=>sZ a,.pure,false⟩
theorem aNV:aK aU 6 c6:=Oc aNQ rfl aF [(24,c24),(25,c25)] ⟨aL7,aL8,trivial⟩ fun a=>by kernel_rfl
def oS (p0:Field):Option Field:=
 (bX p0.points).bind fun l0=>
 some (Field.mk l0)
def c56:bM:=⟨aB.one (aL.agg bZ),aL.agg bZ,fun a=>oS a,.own,true⟩
def aFO:bM:=⟨aB.one (aL.agg bZ),aL.agg bZ,fun a=>oS a,.frz,false⟩
theorem TY:aK aU 56 c56:=Oc aAs rfl aF [] trivial fun a=>by kernel_rfl
theorem OQ:aK aU 56 aFO:=Oc aAs rfl aF [] trivial fun a=>by kernel_rfl
def oT (p0:aV):Option aV:=
 (bX p0.list).bind fun l0=>
 some (aV.mk p0.next_ l0)
def c57:bM:=⟨aB.one (aL.agg gG),aL.agg gG,fun a=>oT a,.own,true⟩
def aFP:bM:=⟨aB.one (aL.agg gG),aL.agg gG,fun a=>oT a,.frz,false⟩
theorem TZ:aK aU 57 c57:=Oc aAt rfl aF [] trivial fun a=>by kernel_rfl
theorem OR:aK aU 57 aFP:=Oc aAt rfl aF [] trivial fun a=>by kernel_rfl
def mM (p0:aQ):Option aQ:=
 (bX p0.uses).bind fun l0=>
 (bX p0.used).bind fun l1=>
 (bX p0.free).bind fun l2=>
 some (aQ.mk l0 l1 l2)
def aAw:bM:=⟨aB.one (aL.agg fY),aL.agg fY,fun a=>mM a,.own,true⟩
def Q9:bM:=⟨aB.one (aL.agg fY),aL.agg fY,fun a=>mM a,.frz,false⟩
theorem I6:aK aU 106 aAw:=Oc V5 rfl aF [] trivial fun a=>by kernel_rfl
theorem F1:aK aU 106 Q9:=Oc V5 rfl aF [] trivial fun a=>by kernel_rfl
def lI (p0:aH):Option aH:=
 (mM p0.slots).bind fun r0=>
 (bX p0.heap).bind fun l1=>
 (bX p0.where_).bind fun l2=>
 some (aH.mk r0 l1 l2)
def c58:bM:=⟨aB.one (aL.agg cY),aL.agg cY,fun a=>lI a,.own,true⟩
def YJ:bM:=⟨aB.one (aL.agg cY),aL.agg cY,fun a=>lI a,.frz,false⟩
theorem K2:aK aU 58 c58:=Oc aAu rfl aF [(106,aAw),(106,Q9)] ⟨I6,F1,trivial⟩ fun a=>by kernel_rfl
theorem F2:aK aU 58 YJ:=Oc aAu rfl aF [(106,aAw),(106,Q9)] ⟨I6,F1,trivial⟩ fun a=>by kernel_rfl
def iK (p0:aP):Option aP:=
 (oS p0.field).bind fun r0=>
 (oT p0.certs).bind fun r1=>
 (lI p0.agenda).bind fun r2=>
 (bX p0.due).bind fun l3=>
 some (aP.mk p0.now r0 r1 r2 l3)
def c26:bM:=⟨aB.one (aL.agg bQ),aL.agg bQ,fun a=>iK a,.own,true⟩
def T0:bM:=⟨aB.one (aL.agg bQ),aL.agg bQ,fun a=>iK a,.frz,false⟩
theorem HE:aK aU 26 c26:=Oc aAq rfl aF [(56,c56),(56,aFO),(57,c57),(57,aFP),(58,c58),(58,YJ)] ⟨TY,OQ,TZ,OR,K2,F2,trivial⟩ fun a=>by kernel_rfl
theorem CZ:aK aU 26 T0:=Oc aAq rfl aF [(56,c56),(56,aFO),(57,c57),(57,aFP),(58,c58),(58,YJ)] ⟨TY,OQ,TZ,OR,K2,F2,trivial⟩ fun a=>by kernel_rfl
def zY (p0:oA):Option oA:=
 (bX p0.nodes).bind fun l0=>
 some (oA.mk p0.root l0)
def c27:bM:=⟨aB.one (aL.agg oR),aL.agg oR,fun a=>zY a,.own,true⟩
def aMa:bM:=⟨aB.one (aL.agg oR),aL.agg oR,fun a=>zY a,.frz,false⟩
theorem aAx:aK aU 27 c27:=Oc aAr rfl aF [] trivial fun a=>by kernel_rfl
theorem WC:aK aU 27 aMa:=Oc aAr rfl aF [] trivial fun a=>by kernel_rfl
def vD (p0:dL):Option dL:=
 (iK p0.clock).bind fun r0=>
 (zY p0.tree).bind fun r1=>
 some (dL.mk r0 r1)
def c7:bM:=⟨aB.one (aL.agg fE),aL.agg fE,fun a=>vD a,.own,true⟩
def c7p:bM:=⟨aB.one (aL.agg fE),aL.agg fE,fun a=>vD a,.frz,false⟩
theorem aNW:aK aU 7 c7:=Oc aHT rfl aF [(26,c26),(26,T0),(27,c27),(27,aMa)] ⟨HE,CZ,aAx,WC,trivial⟩ fun a=>by kernel_rfl
theorem aMb:aK aU 7 c7p:=Oc aHT rfl aF [(26,c26),(26,T0),(27,c27),(27,aMa)] ⟨HE,CZ,aAx,WC,trivial⟩ fun a=>by kernel_rfl
def lZ (p0:Int):Option Int:=
 bif decide (p0<0) then
  some (aA .u64 (0- (aA .u64 p0)))
 else
  some (aA .u64 p0)
def c72:bM:=⟨aB.one (aL.int .i64),aL.int .u64,fun a=>lZ a,.pure,false⟩
theorem T1:aK aU 72 c72:=Oc aLM rfl aF [] trivial fun a=>by kernel_rfl
def uG (s:(Int×Int)):Option (cH (Int×Int) Int):=
 bif decide (0<s.2) then
  bif s.2==0 then
   none
  else
   some (.next (s.2,Int.tmod s.1 s.2))
 else
  some (.done s.1)
def yQ (p0:Int) (p1:Int):Option Int:=
 aG uG (p0,p1)
def c71:bM:=⟨aB.cons (aL.int .u64) (aB.one (aL.int .u64)),aL.int .u64,fun a=>yQ a.1 a.2,.pure,false⟩
theorem aAy:aK aU 71 c71:=Oc aLL rfl aF [] trivial fun a=>by kernel_rfl
def gJ (p0:Int×Int):Option Int:=
 bif decide (p0.2<1) then
  some 8
 else
  bif p0.1==(-9223372036854775808) then
   some 8
  else
   (lZ p0.1).bind fun n0=>
   (yQ (aA .u64 p0.2) n0).bind fun n1=>
   bif decide (1<n1) then
    some 8
   else
    some 0
def c35:bM:=⟨aB.one (aL.agg (cJ.row jM)),aL.int .i64,fun a=>gJ a,.pure,false⟩
theorem EP:aK aU 35 c35:=Oc aLm rfl aF [(72,c72),(71,c71)] ⟨T1,aAy,trivial⟩ fun a=>by kernel_rfl
def pS (p0:Int):Option Bool:=
 bif decide (p0<(-1048576)) then
  some true
 else
  some (decide (1048576<p0))
def aNX:bM:=⟨aB.one (aL.int .i64),aL.bool,fun a=>pS a,.pure,false⟩
theorem aFQ:aK aU 181 aNX:=Oc aFa rfl aF [] trivial fun a=>by kernel_rfl
def nG (p0:Int×Int×Int):Option Int:=
 bif decide (p0.1<0) then
  some 8
 else
  bif decide (65535<p0.1) then
   some 8
  else
   (pS p0.2.1).bind fun b0=>
   bif b0 then
    some 8
   else
    (pS p0.2.2).bind fun b1=>
    bif b1 then
     some 8
    else
     some 0
def aMc:bM:=⟨aB.one (aL.agg (cJ.row eL)),aL.int .i64,fun a=>nG a,.pure,false⟩
theorem WD:aK aU 136 aMc:=Oc aEw rfl aF [(181,aNX)] ⟨aFQ,trivial⟩ fun a=>by kernel_rfl
abbrev bN:=List (Int×Int×Int)
abbrev aAz:=bN×Int×Int×bN
def iL (s:aAz):Option (cH aAz (cH aAz Int)):=
 bif decide (s.2.2.1<s.2.1) then
  (aN s.1 s.2.2.1).bind fun a0=>
  bif decide (0<s.2.2.1) then
   (aN s.2.2.2 (aA .i64 (s.2.2.1-1))).bind fun a1=>
   bif decide (a0.1<=a1.1) then
    some (.done (.done 32))
   else
    some (.next (s.1,s.2.1,aA .i64 (s.2.2.1+1),s.2.2.2))
  else
   some (.next (s.1,s.2.1,aA .i64 (s.2.2.1+1),s.2.2.2))
 else
  some (.done (.done 0))
def mN (s:aAz):Option (cH aAz Int):=
 bif decide (s.2.2.1<s.2.1) then
  (aN s.1 s.2.2.1).bind fun a0=>
  (nG a0).bind fun n1=>
  bif n1 !=0 then
   some (.done n1)
  else
   some (.next (s.1,s.2.1,aA .i64 (s.2.2.1+1),s.2.2.2))
 else
  aG iL (s.2.2.2,Int.ofNat s.2.2.2.length,0,s.2.2.2)
def eS (p0:Field):Option Int:=
 bif decide (64<(Int.ofNat p0.points.length)) then
  some 4
 else
  aG mN (p0.points,Int.ofNat p0.points.length,0,p0.points)
def c84:bM:=⟨aB.one (aL.agg bZ),aL.int .i64,fun a=>eS a,.pure,false⟩
theorem K3:aK aU 84 c84:=Oc aLT rfl aF [(136,aMc)] ⟨WD,trivial⟩ fun a=>by kernel_rfl
def vE (p0:Int×Int):Option Bool:=
 bif decide (0<=(if p0.2<p0.1 then p0.2 else p0.1)) then
  bif decide ((if p0.2>p0.1 then p0.2 else p0.1)<=65535) then
   some (p0.1 !=p0.2)
  else
   some false
 else
  some false
def aMd:bM:=⟨aB.one (aL.agg (cJ.row jM)),aL.bool,fun a=>vE a,.pure,false⟩
theorem WE:aK aU 141 aMd:=Oc aEy rfl aF [] trivial fun a=>by kernel_rfl
abbrev aNY:=Int×bN×Int×Int×Int×bN×(List (List Int))
def rU (s:aNY):Option (cH aNY Int):=
 bif decide (s.2.2.2.1<s.2.2.1) then
  (aN s.2.1 s.2.2.2.1).bind fun a0=>
  (vE a0.2).bind fun b1=>
  bif !b1 then
   some (.done 8)
  else
   (QK s.2.2.2.2.2.2 [a0.2.1,a0.2.2]).bind fun b2=>
   bif b2 then
    some (.done 8)
   else
    bif decide (a0.1<=s.1) then
     some (.done 8)
    else
     bif decide (s.2.2.2.2.1<=a0.1) then
      some (.done 8)
     else
      (QL s.2.2.2.2.2.2 [a0.2.1,a0.2.2]).bind fun l3=>
      some (.next (a0.1,s.2.1,s.2.2.1,aA .i64 (s.2.2.2.1+1),s.2.2.2.2.1,s.2.2.2.2.2.1,l3))
 else
  some (.done 0)
def qZ (p0:aV):Option Int:=
 bif decide (200<(Int.ofNat p0.list.length)) then
  some 8
 else
  bif decide (p0.next_<0) then
   some 8
  else
   bif decide (1000000<p0.next_) then
    some 8
   else
    aG rU (-1,p0.list,Int.ofNat p0.list.length,0,p0.next_,p0.list,[])
def c91:bM:=⟨aB.one (aL.agg gG),aL.int .i64,fun a=>qZ a,.pure,false⟩
theorem T2:aK aU 91 c91:=Oc aLX rfl aF [(141,aMd)] ⟨WE,trivial⟩ fun a=>by kernel_rfl
theorem vF:aK aU 131 (bM.clone kb):=aK.clone aEs rfl
def gK (s:((List Bool)×Bool×Int×Int)):Option (cH ((List Bool)×Bool×Int×Int) Int):=
 bif decide (s.2.2.2<s.2.2.1) then
  (aN s.1 s.2.2.2).bind fun b0=>
  bif s.2.1==b0 then
   some (.done s.2.2.2)
  else
   some (.next (s.1,s.2.1,s.2.2.1,aA .i64 (s.2.2.2+1)))
 else
  some (.done (-1))
def pT (p0:List Bool) (p1:Bool):Option Int:=
 aG gK (p0,p1,Int.ofNat p0.length,0)
def aNZ:bM:=⟨aB.cons (aL.sl kb) (aB.one aL.bool),aL.int .i64,fun a=>pT a.1 a.2,.pure,false⟩
theorem aFR:aK aU 212 aNZ:=Oc aFy rfl aF [] trivial fun a=>by kernel_rfl
def dW (p0:List Bool) (p1:Bool):Option Bool:=
 (pT p0 p1).bind fun n0=>
 some (decide (0<=n0))
def aN0:bM:=⟨aB.cons (aL.sl kb) (aB.one aL.bool),aL.bool,fun a=>dW a.1 a.2,.pure,false⟩
theorem aFS:aK aU 186 aN0:=Oc aFe rfl aF [(212,aNZ)] ⟨aFR,trivial⟩ fun a=>by kernel_rfl
abbrev aN1:=(List Int)×Int×Int×(List Int)×(List Bool)×(List Int)×Int×(List Bool)
abbrev aN2:=cH aN1 Int
def gH (s:((List Int)×Int×Int×(List Int)×(List Bool)×(List Int))):Option (cH ((List Int)×Int×Int×(List Int)×(List Bool)×(List Int)) aN2):=
 bif decide (s.2.2.1<s.2.1) then
  (aN s.1 s.2.2.1).bind fun n0=>
  bif decide (n0<0) then
   some (.done (.done 8))
  else
   bif decide (1000000<n0) then
    some (.done (.done 8))
   else
    bif n0==0 then
     (aN s.2.2.2.2.1 s.2.2.1).bind fun b1=>
     bif b1 then
      some (.done (.done 8))
     else
      some (.next (s.1,s.2.1,aA .i64 (s.2.2.1+1),s.2.2.2))
    else
     some (.next (s.1,s.2.1,aA .i64 (s.2.2.1+1),s.2.2.2))
 else
  some (.done (.done 0))
def rV (c0:(List Bool)) (s:aN1):Option aN2:=
 bif decide (s.2.2.1<s.2.1) then
  (aN s.1 s.2.2.1).bind fun n0=>
  bif decide (n0<0) then
   bif s.2.2.2.2.2.2.2.length==s.2.2.2.2.2.2.2.length then
    bif s.2.2.2.2.2.2.2.length==c0.length then
     bif s.2.2.2.2.2.2.2.length==c0.length then
      bif decide (0<=s.2.2.1) then
       some (.done 8)
      else
       (dW s.2.2.2.2.2.2.2 false).bind fun b1=>
       bif b1 then
        some (.done 8)
       else
        aG gH (s.2.2.2.1,Int.ofNat s.2.2.2.1.length,0,s.2.2.2.1,s.2.2.2.2.1,s.2.2.2.2.2.1)
     else
      none
    else
     none
   else
    none
  else
   bif decide (s.2.2.2.2.2.2.1<=n0) then
    bif s.2.2.2.2.2.2.2.length==s.2.2.2.2.2.2.2.length then
     bif s.2.2.2.2.2.2.2.length==c0.length then
      bif s.2.2.2.2.2.2.2.length==c0.length then
       bif decide (0<=s.2.2.1) then
        some (.done 8)
       else
        (dW s.2.2.2.2.2.2.2 false).bind fun b2=>
        bif b2 then
         some (.done 8)
        else
         aG gH (s.2.2.2.1,Int.ofNat s.2.2.2.1.length,0,s.2.2.2.1,s.2.2.2.2.1,s.2.2.2.2.2.1)
      else
       none
     else
      none
    else
     none
   else
    (aN s.2.2.2.2.2.2.2 n0).bind fun b3=>
    bif b3 then
     bif s.2.2.2.2.2.2.2.length==s.2.2.2.2.2.2.2.length then
      bif s.2.2.2.2.2.2.2.length==c0.length then
       bif s.2.2.2.2.2.2.2.length==c0.length then
        bif decide (0<=s.2.2.1) then
         some (.done 8)
        else
         (dW s.2.2.2.2.2.2.2 false).bind fun b4=>
         bif b4 then
          some (.done 8)
         else
          aG gH (s.2.2.2.1,Int.ofNat s.2.2.2.1.length,0,s.2.2.2.1,s.2.2.2.2.1,s.2.2.2.2.2.1)
       else
        none
      else
       none
     else
      none
    else
     (aN s.2.2.2.2.2.2.2 n0).bind fun _=>
     bif ((bU s.2.2.2.2.2.2.2 n0 true).length)==s.2.2.2.2.2.2.2.length then
      some (.next (s.1,s.2.1,aA .i64 (s.2.2.1+1),s.2.2.2.1,s.2.2.2.2.1,s.2.2.2.2.2.1,s.2.2.2.2.2.2.1,bU s.2.2.2.2.2.2.2 n0 true))
     else
      none
 else
  bif s.2.2.2.2.2.2.2.length==c0.length then
   bif s.2.2.2.2.2.2.2.length==c0.length then
    (dW s.2.2.2.2.2.2.2 false).bind fun b6=>
    bif b6 then
     some (.done 8)
    else
     aG gH (s.2.2.2.1,Int.ofNat s.2.2.2.1.length,0,s.2.2.2.1,s.2.2.2.2.1,s.2.2.2.2.2.1)
   else
    none
  else
   none
def rA (p0:aQ):Option Int:=
 bif decide ((Int.ofNat p0.uses.length)<1) then
  some 8
 else
  bif decide (200<(Int.ofNat p0.uses.length)) then
   some 8
  else
   bif (Int.ofNat p0.used.length) !=(Int.ofNat p0.uses.length) then
    some 8
   else
    (bX p0.used).bind fun l0=>
    aG (rV l0) (p0.free,Int.ofNat p0.free.length,0,p0.uses,p0.used,p0.free,Int.ofNat p0.uses.length,l0)
def aFT:bM:=⟨aB.one (aL.agg fY),aL.int .i64,fun a=>rA a,.pure,false⟩
theorem OS:aK aU 142 aFT:=aK.of aEz (cx:=(nZ aF [(131,bM.clone kb),(186,aN0)] [] [(184,aDa),(211,aDC),(185,aDc)] [])) rfl (lG.make ⟨vF,aFS,trivial⟩ trivial ⟨aFc,aFx,aFd,trivial⟩) (fun a=>by kernel_rfl)
def zZ (p0:Int×Int) (p1:Int×Int):Option Int:=
 (gJ p0).bind fun n0=>
 (gJ p1).bind fun n1=>
 some (if n1>n0 then n1 else n0)
def c73:bM:=⟨aB.cons (aL.agg (cJ.row jM)) (aB.one (aL.agg (cJ.row jM))),aL.int .i64,fun a=>zZ a.1 a.2,.pure,false⟩
theorem aMe:aK aU 73 c73:=Oc aLN rfl aF [(35,c35)] ⟨EP,trivial⟩ fun a=>by kernel_rfl
def oI (p0:Int):Option Bool:=
 some (p0 !=p0)
def aN3:bM:=⟨aB.one (aL.int .i64),aL.bool,fun a=>oI a,.pure,false⟩
theorem aFU:aK aU 119 aN3:=Oc aEh rfl aF [] trivial fun a=>by kernel_rfl
def jH (p0:Int) (p1:Int):Option Int:=
 (oI p0).bind fun b0=>
 (oI p1).bind fun b1=>
 bif b0 then
  bif b1 then
   some 0
  else
   some (-1)
 else
  bif b1 then
   some 1
  else
   bif decide (p0<p1) then
    some (-1)
   else
    bif decide (p1<p0) then
     some 1
    else
     some 0
def c74:bM:=⟨aB.cons (aL.int .i64) (aB.one (aL.int .i64)),aL.int .i64,fun a=>jH a.1 a.2,.pure,false⟩
theorem aAA:aK aU 74 c74:=Oc aLO rfl aF [(119,aN3)] ⟨aFU,trivial⟩ fun a=>by kernel_rfl
def jB (p0:Int) (p1:Int):Option (Int×Int):=
 some (aA .u64 ((aA .u64 ((aA .u64 ((sU .u64 p0 32)*(sU .u64 p1 32)))+(sU .u64 (aA .u64 ((aA .u64 ((sU .u64 p0 32)*(IS .u64 p1 4294967295)))+(sU .u64 (aA .u64 ((IS .u64 p0 4294967295)*(IS .u64 p1 4294967295))) 32))) 32)))+(sU .u64 (aA .u64 ((IS .u64 (aA .u64 ((aA .u64 ((sU .u64 p0 32)*(IS .u64 p1 4294967295)))+(sU .u64 (aA .u64 ((IS .u64 p0 4294967295)*(IS .u64 p1 4294967295))) 32))) 4294967295)+(aA .u64 ((IS .u64 p0 4294967295)*(sU .u64 p1 32))))) 32)),aA .u64 (p0*p1))
def aMf:bM:=⟨aB.cons (aL.int .u64) (aB.one (aL.int .u64)),aL.tup (aB.cons (aL.int .u64) (aB.one (aL.int .u64))),fun a=>jB a.1 a.2,.pure,false⟩
theorem WG:aK aU 121 aMf:=Oc aEj rfl aF [] trivial fun a=>by kernel_rfl
def tB (p0:Int) (p1:Int):Option (Bool×Int×Int):=
 (lZ p0).bind fun n0=>
 (lZ p1).bind fun n1=>
 (jB n0 n1).bind fun a2=>
 some (!((decide (p0<0))==(decide (p1<0))),a2)
def c76:bM:=⟨aB.cons (aL.int .i64) (aB.one (aL.int .i64)),aL.agg (cJ.row B2),fun a=>tB a.1 a.2,.pure,false⟩
theorem aMg:aK aU 76 c76:=Oc aLQ rfl aF [(72,c72),(121,aMf)] ⟨T1,WG,trivial⟩ fun a=>by kernel_rfl
def nH (p0:Int):Option Bool:=
 some (p0 !=p0)
def aN4:bM:=⟨aB.one (aL.int .u64),aL.bool,fun a=>nH a,.pure,false⟩
theorem aFV:aK aU 173 aN4:=Oc aE2 rfl aF [] trivial fun a=>by kernel_rfl
def iM (p0:Int) (p1:Int):Option Int:=
 (nH p0).bind fun b0=>
 (nH p1).bind fun b1=>
 bif b0 then
  bif b1 then
   some 0
  else
   some (-1)
 else
  bif b1 then
   some 1
  else
   bif decide (p0<p1) then
    some (-1)
   else
    bif decide (p1<p0) then
     some 1
    else
     some 0
def aN5:bM:=⟨aB.cons (aL.int .u64) (aB.one (aL.int .u64)),aL.int .i64,fun a=>iM a.1 a.2,.pure,false⟩
theorem aFW:aK aU 120 aN5:=Oc aEi rfl aF [(173,aN4)] ⟨aFV,trivial⟩ fun a=>by kernel_rfl
def rW (p0:Bool×Int×Int) (p1:Bool×Int×Int):Option Int:=
 (iM p0.2.1 p1.2.1).bind fun n0=>
 bif n0 !=0 then
  some n0
 else
  (iM p0.2.2 p1.2.2).bind fun n1=>
  some n1
def c75:bM:=⟨aB.cons (aL.agg (cJ.row B2)) (aB.one (aL.agg (cJ.row B2))),aL.int .i64,fun a=>rW a.1 a.2,.pure,false⟩
theorem aMh:aK aU 75 c75:=Oc aLP rfl aF [(120,aN5)] ⟨aFW,trivial⟩ fun a=>by kernel_rfl
def C0 (p0:Int×Int) (p1:Int×Int):Option (Int×Int):=
 (zZ p0 p1).bind fun n0=>
 bif n0 !=0 then
  some (0,n0)
 else
  bif !((decide (p0.1<0))==(decide (p1.1<0))) then
   (jH p0.1 p1.1).bind fun n1=>
   some (n1,0)
  else
   (tB p0.1 p1.2).bind fun a2=>
   (tB p1.1 p0.2).bind fun a3=>
   (rW a2 a3).bind fun n4=>
   bif decide (p0.1<0) then
    some (aA .i64 (0-n4),0)
   else
    some (n4,0)
def c36:bM:=⟨aB.cons (aL.agg (cJ.row jM)) (aB.one (aL.agg (cJ.row jM))),aL.tup (aB.cons (aL.int .i64) (aB.one (aL.int .i64))),fun a=>C0 a.1 a.2,.pure,false⟩
theorem aMi:aK aU 36 c36:=Oc aLn rfl aF [(73,c73),(74,c74),(76,c76),(75,c75)] ⟨aMe,aAA,aMg,aMh,trivial⟩ fun a=>by kernel_rfl
def rX (p0:Int):Option Bool:=
 some (p0 !=p0)
def aN6:bM:=⟨aB.one (aL.int .i64),aL.bool,fun a=>rX a,.pure,false⟩
theorem aFX:aK aU 197 aN6:=Oc aFp rfl aF [] trivial fun a=>by kernel_rfl
def fB (p0:Int) (p1:Int):Option Int:=
 (rX p0).bind fun b0=>
 (rX p1).bind fun b1=>
 bif b0 then
  bif b1 then
   some 0
  else
   some (-1)
 else
  bif b1 then
   some 1
  else
   bif decide (p0<p1) then
    some (-1)
   else
    bif decide (p1<p0) then
     some 1
    else
     some 0
def T3:bM:=⟨aB.cons (aL.int .i64) (aB.one (aL.int .i64)),aL.int .i64,fun a=>fB a.1 a.2,.pure,false⟩
theorem C1:aK aU 164 T3:=Oc aET rfl aF [(197,aN6)] ⟨aFX,trivial⟩ fun a=>by kernel_rfl
def xL (s:(Int×(List Int)×Int×Int)):Option (cH (Int×(List Int)×Int×Int) Int):=
 bif decide (s.2.2.2<s.2.2.1) then
  (aN s.2.1 s.2.2.2).bind fun n0=>
  bif n0 !=s.1 then
   some (.done n0)
  else
   some (.next (s.1,s.2.1,s.2.2.1,aA .i64 (s.2.2.2+1)))
 else
  some (.done s.1)
def vG (p0:List Int):Option Int:=
 aG xL (0,p0,Int.ofNat p0.length,0)
def aMj:bM:=⟨aB.one (aL.sl ki),aL.int .i64,fun a=>vG a,.pure,false⟩
theorem WH:aK aU 187 aMj:=Oc aFf rfl aF [] trivial fun a=>by kernel_rfl
def cB (p0:Int×Int×Int×Int×Int) (p1:Int×Int×Int×Int×Int):Option Int:=
 (C0 (p0.1,p0.2.1) (p1.1,p1.2.1)).bind fun a0=>
 (fB p0.2.2.1 p1.2.2.1).bind fun n1=>
 (vG [a0.1,n1]).bind fun n2=>
 some n2
def aFY:bM:=⟨aB.cons (aL.agg (cJ.row lH)) (aB.one (aL.agg (cJ.row lH))),aL.int .i64,fun a=>cB a.1 a.2,.pure,false⟩
theorem OT:aK aU 143 aFY:=Oc aEA rfl aF [(36,c36),(164,T3),(187,aMj)] ⟨aMi,C1,WH,trivial⟩ fun a=>by kernel_rfl
abbrev jW:=List (Int×Int×Int×Int×Int)
abbrev aN7:=jW×Int×Int×(List Int)×(List Bool)×(List Int)×jW×(List Int)×(List (List Int))
abbrev aN8:=(List Int)×Int×Int×(List Int)×(List Bool)×(List Int)×jW×(List Int)
abbrev aN9:=cH aN8 Int
def jC (s:aN7):Option (cH aN7 aN9):=
 bif decide (s.2.2.1<s.2.1) then
  (aN s.1 s.2.2.1).bind fun a0=>
  (gJ (a0.1,a0.2.1)).bind fun n1=>
  bif n1 !=0 then
   some (.done (.done 8))
  else
   bif decide (a0.2.2.1<0) then
    some (.done (.done 8))
   else
    bif decide (1000000<a0.2.2.1) then
     some (.done (.done 8))
    else
     (QK s.2.2.2.2.2.2.2.2 [a0.2.2.1]).bind fun b2=>
     bif b2 then
      some (.done (.done 8))
     else
      (QL s.2.2.2.2.2.2.2.2 [a0.2.2.1]).bind fun l3=>
      bif decide (0<s.2.2.1) then
       (aN s.2.2.2.2.2.2.1 (aA .i64 (Int.tdiv (aA .i64 (s.2.2.1-1)) 2))).bind fun a4=>
       (cB a0 a4).bind fun n5=>
       bif decide (n5<0) then
        some (.done (.done 8))
       else
        some (.next (s.1,s.2.1,aA .i64 (s.2.2.1+1),s.2.2.2.1,s.2.2.2.2.1,s.2.2.2.2.2.1,s.2.2.2.2.2.2.1,s.2.2.2.2.2.2.2.1,l3))
      else
       some (.next (s.1,s.2.1,aA .i64 (s.2.2.1+1),s.2.2.2.1,s.2.2.2.2.1,s.2.2.2.2.2.1,s.2.2.2.2.2.2.1,s.2.2.2.2.2.2.2.1,l3))
 else
  some (.done (.done 0))
def lT (s:aN8):Option aN9:=
 bif decide (s.2.2.1<s.2.1) then
  (aN s.1 s.2.2.1).bind fun n0=>
  (aN s.2.2.2.2.1 s.2.2.1).bind fun b1=>
  bif !b1 then
   bif n0 !=(-1) then
    some (.done 8)
   else
    some (.next (s.1,s.2.1,aA .i64 (s.2.2.1+1),s.2.2.2))
  else
   bif decide (n0<0) then
    some (.done 8)
   else
    bif decide ((Int.ofNat s.2.2.2.2.2.2.1.length)<=n0) then
     some (.done 8)
    else
     (aN s.2.2.2.2.2.2.1 n0).bind fun a2=>
     (aN s.2.2.2.1 s.2.2.1).bind fun n3=>
     bif !((a2.2.2.2.1==s.2.2.1)&&(a2.2.2.2.2==n3)) then
      some (.done 8)
     else
      some (.next (s.1,s.2.1,aA .i64 (s.2.2.1+1),s.2.2.2))
 else
  aG jC (s.2.2.2.2.2.2.1,Int.ofNat s.2.2.2.2.2.2.1.length,0,s.2.2.2.1,s.2.2.2.2.1,s.2.2.2.2.2.1,s.2.2.2.2.2.2.1,s.2.2.2.2.2.2.2,[])
def lJ (p0:aH):Option Int:=
 (rA p0.slots).bind fun n0=>
 bif n0 !=0 then
  some 8
 else
  bif (Int.ofNat p0.where_.length) !=(Int.ofNat p0.slots.used.length) then
   some 8
  else
   bif (Int.ofNat p0.heap.length) !=(aA .i64 ((Int.ofNat p0.slots.used.length) - (Int.ofNat p0.slots.free.length))) then
    some 8
   else
    aG lT (p0.where_,Int.ofNat p0.where_.length,0,p0.slots.uses,p0.slots.used,p0.slots.free,p0.heap,p0.where_)
def c92:bM:=⟨aB.one (aL.agg cY),aL.int .i64,fun a=>lJ a,.pure,false⟩
theorem OU:aK aU 92 c92:=Oc aLY rfl aF [(142,aFT),(35,c35),(143,aFY)] ⟨OS,EP,OT,trivial⟩ fun a=>by kernel_rfl
def xM (p0:Int×Int×Int) (p1:Int):Option Int:=
 (fB p0.1 p1).bind fun n0=>
 some n0
def aOb:bM:=⟨aB.cons (aL.agg (cJ.row eL)) (aB.one (aL.int .i64)),aL.int .i64,fun a=>xM a.1 a.2,.pure,false⟩
theorem aFZ:aK aU 189 aOb:=Oc aFh rfl aF [(164,T3)] ⟨C1,trivial⟩ fun a=>by kernel_rfl
abbrev OV:=bN×Int×Int×Int×Int
abbrev aF0:=cH OV (Int×Bool)
def iF (s:OV):Option aF0:=
 bif decide (s.2.2.2.1<s.2.2.2.2) then
  (aN s.1 (aA .i64 (sU .u64 (aA .u64 (aA .i64 (s.2.2.2.1+s.2.2.2.2))) 1))).bind fun a0=>
  (xM a0 s.2.1).bind fun n1=>
  bif decide (n1<0) then
   some (.next (s.1,s.2.1,s.2.2.1,aA .i64 ((aA .i64 (sU .u64 (aA .u64 (aA .i64 (s.2.2.2.1+s.2.2.2.2))) 1))+1),s.2.2.2.2))
  else
   some (.next (s.1,s.2.1,s.2.2.1,s.2.2.2.1,aA .i64 (sU .u64 (aA .u64 (aA .i64 (s.2.2.2.1+s.2.2.2.2))) 1)))
 else
  bif decide (s.2.2.2.1<s.2.2.1) then
   (aN s.1 s.2.2.2.1).bind fun a2=>
   (xM a2 s.2.1).bind fun n3=>
   some (.done (s.2.2.2.1,n3==0))
  else
   some (.done (s.2.2.2.1,false))
def cO (p0:List (Int×Int×Int)) (p1:Int) (_:Unit):Option (Int×Bool):=
 aG iF (p0,p1,Int.ofNat p0.length,0,Int.ofNat p0.length)
def RA:bM:=⟨aB.cons (aL.sl eL) (aB.cons (aL.int .i64) (aB.one (aL.clo 189 aB.nil))),aL.tup (aB.cons (aL.int .i64) (aB.one aL.bool)),fun a=>cO a.1 a.2.1 a.2.2,.pure,false⟩
theorem RC:aK aU 162 RA:=Oc V7 rfl aF [(189,aOb)] ⟨aFZ,trivial⟩ fun a=>by kernel_rfl
def jI (p0:Field) (p1:Int):Option (Int×Int×Int):=
 (cO p0.points p1 ()).bind fun a0=>
 bif !a0.2 then
  some (-1,0,0)
 else
  (aN p0.points a0.1).bind fun a1=>
  some a1
def aF1:bM:=⟨aB.cons (aL.agg bZ) (aB.one (aL.int .i64)),aL.agg (cJ.row eL),fun a=>jI a.1 a.2,.pure,false⟩
theorem OW:aK aU 145 aF1:=Oc aEC rfl aF [(162,RA)] ⟨RC,trivial⟩ fun a=>by kernel_rfl
def rB (p0:Int×Int×Int) (p1:Int×Int×Int) (p2:Int×Int):Option Int:=
 (nG p0).bind fun n0=>
 (nG p1).bind fun n1=>
 (gJ p2).bind fun n2=>
 bif (if n2>(if n1>n0 then n1 else n0) then n2 else if n1>n0 then n1 else n0) !=0 then
  some (if n2>(if n1>n0 then n1 else n0) then n2 else if n1>n0 then n1 else n0)
 else
  bif p0.1==p1.1 then
   some 2
  else
   some 0
def aF2:bM:=⟨aB.cons (aL.agg (cJ.row eL)) (aB.cons (aL.agg (cJ.row eL)) (aB.one (aL.agg (cJ.row jM)))),aL.int .i64,fun a=>rB a.1 a.2.1 a.2.2,.pure,false⟩
theorem OX:aK aU 155 aF2:=Oc aEL rfl aF [(136,aMc),(35,c35)] ⟨WD,EP,trivial⟩ fun a=>by kernel_rfl
theorem aAB:aK aU 215 (bM.add64):=aK.add64 aFB
def oB (s:(Int×Int×Int×Int×Int×Int×Int×Int×Int)):Option (cH (Int×Int×Int×Int×Int×Int×Int×Int×Int) (Int×Int)):=
 bif decide (s.2.2.2.2.1<2) then
  bif s.2.2.2.2.1==0 then
   (jB (aA .u64 s.1) (aA .u64 s.2.1)).bind fun a0=>
   bif decide (s.1<0) then
    bif decide (s.2.1<0) then
     (qY s.2.2.2.2.2.2.2.2 a0.2 0).bind fun a1=>
     some (.next (s.1,s.2.1,s.2.2.1,s.2.2.2.1,aA .i64 (s.2.2.2.2.1+1),s.2.2.2.2.2.1,s.2.2.2.2.2.2.1,aA .i64 ((aA .i64 (s.2.2.2.2.2.2.2.1+(aA .i64 ((aA .i64 ((aA .i64 a0.1) -s.2.1)) -s.1))))+(aA .i64 a1.2)),a1.1))
    else
     (qY s.2.2.2.2.2.2.2.2 a0.2 0).bind fun a2=>
     some (.next (s.1,s.2.1,s.2.2.1,s.2.2.2.1,aA .i64 (s.2.2.2.2.1+1),s.2.2.2.2.2.1,s.2.2.2.2.2.2.1,aA .i64 ((aA .i64 (s.2.2.2.2.2.2.2.1+(aA .i64 ((aA .i64 a0.1) -s.2.1))))+(aA .i64 a2.2)),a2.1))
   else
    bif decide (s.2.1<0) then
     (qY s.2.2.2.2.2.2.2.2 a0.2 0).bind fun a3=>
     some (.next (s.1,s.2.1,s.2.2.1,s.2.2.2.1,aA .i64 (s.2.2.2.2.1+1),s.2.2.2.2.2.1,s.2.2.2.2.2.2.1,aA .i64 ((aA .i64 (s.2.2.2.2.2.2.2.1+(aA .i64 ((aA .i64 a0.1) -s.1))))+(aA .i64 a3.2)),a3.1))
    else
     (qY s.2.2.2.2.2.2.2.2 a0.2 0).bind fun a4=>
     some (.next (s.1,s.2.1,s.2.2.1,s.2.2.2.1,aA .i64 (s.2.2.2.2.1+1),s.2.2.2.2.2.1,s.2.2.2.2.2.2.1,aA .i64 ((aA .i64 (s.2.2.2.2.2.2.2.1+(aA .i64 a0.1)))+(aA .i64 a4.2)),a4.1))
  else
   bif s.2.2.2.2.1==1 then
    (jB (aA .u64 s.2.2.1) (aA .u64 s.2.2.2.1)).bind fun a5=>
    bif decide (s.2.2.1<0) then
     bif decide (s.2.2.2.1<0) then
      (qY s.2.2.2.2.2.2.2.2 a5.2 0).bind fun a6=>
      some (.next (s.1,s.2.1,s.2.2.1,s.2.2.2.1,aA .i64 (s.2.2.2.2.1+1),s.2.2.2.2.2.1,s.2.2.2.2.2.2.1,aA .i64 ((aA .i64 (s.2.2.2.2.2.2.2.1+(aA .i64 ((aA .i64 ((aA .i64 a5.1) -s.2.2.2.1)) -s.2.2.1))))+(aA .i64 a6.2)),a6.1))
     else
      (qY s.2.2.2.2.2.2.2.2 a5.2 0).bind fun a7=>
      some (.next (s.1,s.2.1,s.2.2.1,s.2.2.2.1,aA .i64 (s.2.2.2.2.1+1),s.2.2.2.2.2.1,s.2.2.2.2.2.2.1,aA .i64 ((aA .i64 (s.2.2.2.2.2.2.2.1+(aA .i64 ((aA .i64 a5.1) -s.2.2.2.1))))+(aA .i64 a7.2)),a7.1))
    else
     bif decide (s.2.2.2.1<0) then
      (qY s.2.2.2.2.2.2.2.2 a5.2 0).bind fun a8=>
      some (.next (s.1,s.2.1,s.2.2.1,s.2.2.2.1,aA .i64 (s.2.2.2.2.1+1),s.2.2.2.2.2.1,s.2.2.2.2.2.2.1,aA .i64 ((aA .i64 (s.2.2.2.2.2.2.2.1+(aA .i64 ((aA .i64 a5.1) -s.2.2.1))))+(aA .i64 a8.2)),a8.1))
     else
      (qY s.2.2.2.2.2.2.2.2 a5.2 0).bind fun a9=>
      some (.next (s.1,s.2.1,s.2.2.1,s.2.2.2.1,aA .i64 (s.2.2.2.2.1+1),s.2.2.2.2.2.1,s.2.2.2.2.2.2.1,aA .i64 ((aA .i64 (s.2.2.2.2.2.2.2.1+(aA .i64 a5.1)))+(aA .i64 a9.2)),a9.1))
   else
    none
 else
  some (.done s.2.2.2.2.2.2.2)
def AA (p0:Int×Int×Int×Int):Option (Int×Int):=
 aG oB (p0.1,p0.2.1,p0.2.2.1,p0.2.2.2,0,0,0,0,0)
def aOc:bM:=⟨aB.one (aL.agg (cJ.row aNT)),aL.agg (cJ.row kiu),fun a=>AA a,.pure,false⟩
theorem aF3:aK aU 192 aOc:=Oc aFk rfl aF [(121,aMf),(215,bM.add64)] ⟨WG,aAB,trivial⟩ fun a=>by kernel_rfl
def mO (p0:Int×Int×Int) (p1:Int×Int×Int) (p2:Int×Int):Option Int:=
 (AA (aA .i64 (p0.2.1-p1.2.1),p2.2,aA .i64 (p0.2.2-p1.2.2),p2.1)).bind fun a0=>
 bif !((a0.1==0)&&(a0.2==0)) then
  bif decide (a0.1<0) then
   some (-1)
  else
   some 1
 else
  (jH p0.2.2 p1.2.2).bind fun n1=>
  (fB p1.1 p0.1).bind fun n2=>
  (vG [n1,n2]).bind fun n3=>
  some n3
def aMk:bM:=⟨aB.cons (aL.agg (cJ.row eL)) (aB.cons (aL.agg (cJ.row eL)) (aB.one (aL.agg (cJ.row jM)))),aL.int .i64,fun a=>mO a.1 a.2.1 a.2.2,.pure,false⟩
theorem WI:aK aU 156 aMk:=Oc aEM rfl aF [(192,aOc),(74,c74),(164,T3),(187,aMj)] ⟨aF3,aAA,C1,WH,trivial⟩ fun a=>by kernel_rfl
def B6 (p0:Bool×Int×Int) (p1:Int) (p2:Int):Option ((Int×Int)×Int):=
 bif decide (0<p0.2.1) then
  some ((0,0),16)
 else
  bif decide (9223372036854775807<p0.2.2) then
   some ((0,0),16)
  else
   bif decide (0<p1) then
    some ((0,0),16)
   else
    bif decide (9223372036854775807<p2) then
     some ((0,0),16)
    else
     bif p0.1 then
      some ((aA .i64 (0- (aA .i64 p0.2.2)),aA .i64 p2),0)
     else
      some ((aA .i64 p0.2.2,aA .i64 p2),0)
def aOd:bM:=⟨aB.cons (aL.agg (cJ.row B2)) (aB.cons (aL.int .u64) (aB.one (aL.int .u64))),aL.tup (aB.cons (aL.agg (cJ.row jM)) (aB.one (aL.int .i64))),fun a=>B6 a.1 a.2.1 a.2.2,.pure,false⟩
theorem aF4:aK aU 224 aOd:=Oc aFI rfl aF [] trivial fun a=>by kernel_rfl
def AB (p0:Int) (p1:Int):Option ((Int×Int)×Int):=
 bif p1==0 then
  some ((0,0),26)
 else
  (lZ p0).bind fun n0=>
  (lZ p1).bind fun n1=>
  (yQ n0 n1).bind fun n2=>
  (lZ p0).bind fun n3=>
  bif n2==0 then
   none
  else
   (lZ p1).bind fun n4=>
   bif n2==0 then
    none
   else
    (B6 (!((decide (p0<0))==(decide (p1<0))),0,aA .u64 (Int.tdiv n3 n2)) 0 (aA .u64 (Int.tdiv n4 n2))).bind fun a5=>
    some a5
def aOe:bM:=⟨aB.cons (aL.int .i64) (aB.one (aL.int .i64)),aL.tup (aB.cons (aL.agg (cJ.row jM)) (aB.one (aL.int .i64))),fun a=>AB a.1 a.2,.pure,false⟩
theorem aF5:aK aU 213 aOe:=Oc aFz rfl aF [(72,c72),(71,c71),(224,aOd)] ⟨T1,aAy,aF4,trivial⟩ fun a=>by kernel_rfl
def B7 (p0:Int×Int×Int) (p1:Int×Int×Int):Option ((Int×Int)×Int):=
 (rB p0 p1 (0,1)).bind fun n0=>
 bif n0 !=0 then
  some ((0,0),n0)
 else
  bif p0.2.2==p1.2.2 then
   some ((0,0),6)
  else
   (AB (aA .i64 (p0.2.1-p1.2.1)) (aA .i64 (p1.2.2-p0.2.2))).bind fun a1=>
   some a1
def aOf:bM:=⟨aB.cons (aL.agg (cJ.row eL)) (aB.one (aL.agg (cJ.row eL))),aL.tup (aB.cons (aL.agg (cJ.row jM)) (aB.one (aL.int .i64))),fun a=>B7 a.1 a.2,.pure,false⟩
theorem aF6:aK aU 188 aOf:=Oc aFg rfl aF [(155,aF2),(213,aOe)] ⟨OX,aF5,trivial⟩ fun a=>by kernel_rfl
def uH (p0:Int×Int×Int) (p1:Int×Int×Int) (p2:Int×Int):Option ((Int×Int)×Bool×Int):=
 (rB p0 p1 p2).bind fun n0=>
 bif n0 !=0 then
  some ((0,0),false,n0)
 else
  (mO p1 p0 p2).bind fun n1=>
  bif decide (0<n1) then
   some (p2,true,0)
  else
   bif decide (p1.2.2<=p0.2.2) then
    some ((0,0),false,0)
   else
    (B7 p0 p1).bind fun a2=>
    some (a2.1,a2.2==0,a2.2)
def aOg:bM:=⟨aB.cons (aL.agg (cJ.row eL)) (aB.cons (aL.agg (cJ.row eL)) (aB.one (aL.agg (cJ.row jM)))),aL.tup (aB.cons (aL.agg (cJ.row jM)) (aB.cons aL.bool (aB.one (aL.int .i64)))),fun a=>uH a.1 a.2.1 a.2.2,.pure,false⟩
theorem aF7:aK aU 144 aOg:=Oc aEB rfl aF [(155,aF2),(156,aMk),(188,aOf)] ⟨OX,WI,aF6,trivial⟩ fun a=>by kernel_rfl
def rC (p0:Field) (p1:Int×Int) (p2:Int×Int):Option ((Int×Int)×Bool×Int):=
 (jI p0 p1.2).bind fun a0=>
 (jI p0 p1.1).bind fun a1=>
 (uH a0 a1 p2).bind fun a2=>
 some a2
def c93:bM:=⟨aB.cons (aL.agg bZ) (aB.cons (aL.agg (cJ.row jM)) (aB.one (aL.agg (cJ.row jM)))),aL.tup (aB.cons (aL.agg (cJ.row jM)) (aB.cons aL.bool (aB.one (aL.int .i64)))),fun a=>rC a.1 a.2.1 a.2.2,.pure,false⟩
theorem T4:aK aU 93 c93:=Oc aLZ rfl aF [(145,aF1),(144,aOg)] ⟨OW,aF7,trivial⟩ fun a=>by kernel_rfl
abbrev Zt8:=bN×bN×Int×Int×Int×Int×bN×Int×bN×(List Int)×(List Bool)×(List Int)×jW×(List Int)×bN
abbrev aOh:=Int×Int×Int×Int×bN×Int×bN×(List Int)×(List Bool)×(List Int)×jW×(List Int)×bN×(List Int)
abbrev aOi:=cH aOh Int
def cK (s:Zt8):Option (cH Zt8 aOi):=
 bif decide (s.2.2.2.1<s.2.2.1) then
  (aN s.2.1 s.2.2.2.1).bind fun a0=>
  (rC (Field.mk s.2.2.2.2.2.2.1) a0.2 (s.2.2.2.2.1,s.2.2.2.2.2.1)).bind fun a1=>
  bif a1.2.2 !=0 then
   some (.done (.done 8))
  else
   bif !a1.2.1 then
    some (.next (s.1,s.2.1,s.2.2.1,aA .i64 (s.2.2.2.1+1),s.2.2.2.2))
   else
    bif (Int.ofNat s.1.length)==0 then
     some (.done (.done 8))
    else
     (aN s.1 0).bind fun a2=>
     bif a2.1 !=a0.1 then
      some (.done (.done 8))
     else
      (aN s.1 0).bind fun a3=>
      bif decide (a3.2.1<0) then
       some (.done (.done 8))
      else
       bif decide (200<=a3.2.1) then
        some (.done (.done 8))
       else
        (aN s.2.2.2.2.2.2.2.2.2.2.2.2.2.1 a3.2.1).bind fun n4=>
        bif decide (n4<0) then
         some (.done (.done 8))
        else
         (aN s.2.2.2.2.2.2.2.2.2.2.2.2.2.1 a3.2.1).bind fun n5=>
         (aN s.2.2.2.2.2.2.2.2.2.2.2.2.1 n5).bind fun a6=>
         bif !((a6.1==a1.1.1)&&((a6.2.1==a1.1.2)&&((a6.2.2.1==a0.1)&&((a6.2.2.2.1==a3.2.1)&&(a6.2.2.2.2==a3.2.2))))) then
          some (.done (.done 8))
         else
          (iI s.1 1 (Int.ofNat s.1.length)).bind fun l7=>
          some (.next (l7,s.2.1,s.2.2.1,aA .i64 (s.2.2.2.1+1),s.2.2.2.2))
 else
  bif decide (0<(Int.ofNat s.1.length)) then
   some (.done (.done 8))
  else
   some (.done (.done 0))
def eX (s:aOh):Option aOi:=
 bif decide (s.2.1<s.1) then
  (aN s.2.2.2.2.2.2.2.2.2.2.2.2.2 s.2.1).bind fun n0=>
  bif n0 !=0 then
   some (.done 8)
  else
   some (.next (s.1,aA .i64 (s.2.1+1),s.2.2))
 else
  bif (Int.ofNat s.2.2.2.2.2.2.2.2.2.2.2.1.length) !=200 then
   some (.done 8)
  else
   bif (Int.ofNat s.2.2.2.2.2.2.2.2.2.2.1.length) !=(Int.ofNat s.2.2.2.2.2.2.2.2.2.2.2.2.1.length) then
    some (.done 8)
   else
    aG cK (s.2.2.2.2.2.2.2.2.2.2.2.2.1,s.2.2.2.2.2.2.1,Int.ofNat s.2.2.2.2.2.2.1.length,0,s.2.2.1,s.2.2.2.1,s.2.2.2.2.1,s.2.2.2.2.2.1,s.2.2.2.2.2.2.1,s.2.2.2.2.2.2.2.1,s.2.2.2.2.2.2.2.2.1,s.2.2.2.2.2.2.2.2.2.1,s.2.2.2.2.2.2.2.2.2.2.1,s.2.2.2.2.2.2.2.2.2.2.2.1,s.2.2.2.2.2.2.2.2.2.2.2.2.1)
def gL (p0:aP):Option Int:=
 (gJ p0.now).bind fun n0=>
 (eS p0.field).bind fun n1=>
 (qZ p0.certs).bind fun n2=>
 (lJ p0.agenda).bind fun n3=>
 aG eX (Int.ofNat ([n0,n1,n2,n3].length),0,p0.now.1,p0.now.2,p0.field.points,p0.certs.next_,p0.certs.list,p0.agenda.slots.uses,p0.agenda.slots.used,p0.agenda.slots.free,p0.agenda.heap,p0.agenda.where_,p0.due,[n0,n1,n2,n3])
def c49:bM:=⟨aB.one (aL.agg bQ),aL.int .i64,fun a=>gL a,.pure,false⟩
theorem K4:aK aU 49 c49:=Oc aLs rfl aF [(35,c35),(84,c84),(91,c91),(92,c92),(93,c93)] ⟨EP,K3,T2,OU,T4,trivial⟩ fun a=>by kernel_rfl
def AC (p0:Field) (p1:Int×Int):Option Int:=
 (eS p0).bind fun n0=>
 bif n0 !=0 then
  some n0
 else
  (gJ p1).bind fun n1=>
  some n1
def aOj:bM:=⟨aB.cons (aL.agg bZ) (aB.one (aL.agg (cJ.row jM))),aL.int .i64,fun a=>AC a.1 a.2,.pure,false⟩
theorem aF8:aK aU 107 aOj:=Oc aD6 rfl aF [(84,c84),(35,c35)] ⟨K3,EP,trivial⟩ fun a=>by kernel_rfl
def nI (p0:Int×Int×Int) (p1:Int×Int×Int) (p2:Int×Int):Option (Bool×Int):=
 (rB p0 p1 p2).bind fun n0=>
 bif n0 !=0 then
  some (false,n0)
 else
  (mO p0 p1 p2).bind fun n1=>
  some (decide (0<n1),0)
def aOk:bM:=⟨aB.cons (aL.agg (cJ.row eL)) (aB.cons (aL.agg (cJ.row eL)) (aB.one (aL.agg (cJ.row jM)))),aL.tup (aB.cons aL.bool (aB.one (aL.int .i64))),fun a=>nI a.1 a.2.1 a.2.2,.pure,false⟩
theorem aF9:aK aU 108 aOk:=Oc aD7 rfl aF [(155,aF2),(156,aMk)] ⟨OX,WI,trivial⟩ fun a=>by kernel_rfl
abbrev aOl:=Nat×Nat×Int×bN×Int×Int×bN×Int×Int×Int×Int×bN×(List Int)×Int×Int×Int×Int×Int×Int
abbrev aOm:=Nat×Nat×bN×Int×Int×bN×Int×Int×Int×Int×bN×(List Int)
abbrev aOn:=cH aOm (oA×Int)
def pU (s:aOl):Option (cH aOl aOn):=
 match s with
 |(a,b,d,e,f,g,h,i,j,k,l,m,n,o,q,r,t,u,v)=>
  bif decide (0<(Int.ofNat a)) then
   (aN (n.take a) (aA .i64 ((Int.ofNat a) -1))).bind fun n0=>
   (aN h n0).bind fun a1=>
   (nI a1 (o,q,r) (i,j)).bind fun a2=>
   bif a2.1 then
    bif decide (0<(Int.ofNat a)) then
     (aN (n.take a) (aA .i64 ((Int.ofNat a) -1))).bind fun n3=>
     (aN m n3).bind fun a4=>
     (bH (bU m n3 (a4.1,a4.2.1,d)) [(t,u,v)]).bind fun l5=>
     bif Nat.ble (a+[d].length) b then
      bif (Nat.ble (a+[d].length) n.length)&&(!false) then
       some (.done (.next (a+[d].length,b,e,f,aA .i64 (g+1),h,i,j,k,l,l5,eH n a [d])))
      else
       none
     else
      (bH (n.take a) [d]).bind fun l6=>
      bif Nat.ble a n.length then
       some (.done (.next (l6.length,l6.length,e,f,aA .i64 (g+1),h,i,j,k,l,l5,l6)))
      else
       none
    else
     (bH m [(t,u,v)]).bind fun l7=>
     bif Nat.ble (a+[d].length) b then
      bif (Nat.ble (a+[d].length) n.length)&&(!false) then
       some (.done (.next (a+[d].length,b,e,f,aA .i64 (g+1),h,i,j,k,d,l7,eH n a [d])))
      else
       none
     else
      (bH (n.take a) [d]).bind fun l8=>
      bif Nat.ble a n.length then
       some (.done (.next (l8.length,l8.length,e,f,aA .i64 (g+1),h,i,j,k,d,l7,l8)))
      else
       none
   else
    bif (decide (0<=(aA .i64 ((Int.ofNat a) -1))))&&(decide ((aA .i64 ((Int.ofNat a) -1))<=(Int.ofNat b))) then
     some (.next ((aA .i64 ((Int.ofNat a) -1)).toNat,b,d,e,f,g,h,i,j,k,l,m,n,o,q,r,t,n0,v))
    else
     none
  else
   bif decide (0<(Int.ofNat a)) then
    (aN (n.take a) (aA .i64 ((Int.ofNat a) -1))).bind fun n9=>
    (aN m n9).bind fun a10=>
    (bH (bU m n9 (a10.1,a10.2.1,d)) [(t,u,v)]).bind fun l11=>
    bif Nat.ble (a+[d].length) b then
     bif (Nat.ble (a+[d].length) n.length)&&(!false) then
      some (.done (.next (a+[d].length,b,e,f,aA .i64 (g+1),h,i,j,k,l,l11,eH n a [d])))
     else
      none
    else
     (bH (n.take a) [d]).bind fun l12=>
     bif Nat.ble a n.length then
      some (.done (.next (l12.length,l12.length,e,f,aA .i64 (g+1),h,i,j,k,l,l11,l12)))
     else
      none
   else
    (bH m [(t,u,v)]).bind fun l13=>
    bif Nat.ble (a+[d].length) b then
     bif (Nat.ble (a+[d].length) n.length)&&(!false) then
      some (.done (.next (a+[d].length,b,e,f,aA .i64 (g+1),h,i,j,k,d,l13,eH n a [d])))
     else
      none
    else
     (bH (n.take a) [d]).bind fun l14=>
     bif Nat.ble a n.length then
      some (.done (.next (l14.length,l14.length,e,f,aA .i64 (g+1),h,i,j,k,d,l13,l14)))
     else
      none
def nJ (s:aOm):Option aOn:=
 bif decide (s.2.2.2.2.1<s.2.2.2.1) then
  (aN s.2.2.1 s.2.2.2.2.1).bind fun a0=>
  aG pU (s.1,s.2.1,s.2.2.2.2.1,s.2.2.1,s.2.2.2.1,s.2.2.2.2.1,s.2.2.2.2.2.1,s.2.2.2.2.2.2.1,s.2.2.2.2.2.2.2.1,s.2.2.2.2.2.2.2.2.1,s.2.2.2.2.2.2.2.2.2.1,s.2.2.2.2.2.2.2.2.2.2.1,s.2.2.2.2.2.2.2.2.2.2.2,a0.1,a0.2.1,a0.2.2,a0.1,-1,-1)
 else
  some (.done (oA.mk s.2.2.2.2.2.2.2.2.2.1 s.2.2.2.2.2.2.2.2.2.2.1,0))
def yR (p0:Field) (p1:Int×Int):Option (oA×Int):=
 (AC p0 p1).bind fun n0=>
 bif n0 !=0 then
  some (oA.mk 0 [],n0)
 else
  aG nJ (0,0,p0.points,Int.ofNat p0.points.length,0,p0.points,p1.1,p1.2,0,-1,[],[])
def c59:bM:=⟨aB.cons (aL.agg bZ) (aB.one (aL.agg (cJ.row jM))),aL.tup (aB.cons (aL.agg oR) (aB.one (aL.int .i64))),fun a=>yR a.1 a.2,.frz,false⟩
theorem aAC:aK aU 59 c59:=Oc aLz rfl aF [(107,aOj),(108,aOk)] ⟨aF8,aF9,trivial⟩ fun a=>by kernel_rfl
abbrev rD:=List (Int×Int)
abbrev aOo:=cH (Int×Int×Int×Int×bN×(List Int)) (oA×rD)
abbrev aOp:=bN×Int×Int×Int×Int×bN×(List Int)
abbrev aMl:=cH aOp aOo
abbrev aOq:=Int×bN×Int×Int×Int×Int×Int×Int×Int×bN×(List Int)
def iN (s:aOq):Option (cH aOq aMl):=
 bif decide (s.2.2.2.2.2.2.1<2) then
  bif s.2.2.2.2.2.2.1==0 then
   bif decide (0<=s.2.2.2.2.1) then
    (aN s.2.2.2.2.2.2.2.2.2.2 s.2.2.2.2.1).bind fun _=>
    some (.next (s.1,s.2.1,s.2.2.1,s.2.2.2.1,s.2.2.2.2.1,s.2.2.2.2.2.1,aA .i64 (s.2.2.2.2.2.2.1+1),s.2.2.2.2.2.2.2.1,s.2.2.2.2.2.2.2.2.1,s.2.2.2.2.2.2.2.2.2.1,bU s.2.2.2.2.2.2.2.2.2.2 s.2.2.2.2.1 s.1))
   else
    some (.next (s.1,s.2.1,s.2.2.1,s.2.2.2.1,s.2.2.2.2.1,s.2.2.2.2.2.1,aA .i64 (s.2.2.2.2.2.2.1+1),s.2.2.2.2.2.2.2))
  else
   bif s.2.2.2.2.2.2.1==1 then
    bif decide (0<=s.2.2.2.2.2.1) then
     (aN s.2.2.2.2.2.2.2.2.2.2 s.2.2.2.2.2.1).bind fun _=>
     some (.next (s.1,s.2.1,s.2.2.1,s.2.2.2.1,s.2.2.2.2.1,s.2.2.2.2.2.1,aA .i64 (s.2.2.2.2.2.2.1+1),s.2.2.2.2.2.2.2.1,s.2.2.2.2.2.2.2.2.1,s.2.2.2.2.2.2.2.2.2.1,bU s.2.2.2.2.2.2.2.2.2.2 s.2.2.2.2.2.1 s.1))
    else
     some (.next (s.1,s.2.1,s.2.2.1,s.2.2.2.1,s.2.2.2.2.1,s.2.2.2.2.2.1,aA .i64 (s.2.2.2.2.2.2.1+1),s.2.2.2.2.2.2.2))
   else
    none
 else
  some (.done (.next (s.2.1,s.2.2.1,aA .i64 (s.2.2.2.1+1),s.2.2.2.2.2.2.2)))
abbrev aOr:=bN×Int×Int×Int×Int×bN×(List Int)×rD
def kF (s:aOr):Option (cH aOr aMl):=
 bif decide (s.2.2.1<s.2.1) then
  (aN s.1 s.2.2.1).bind fun a0=>
  (aN s.2.2.2.2.2.2.1 s.2.2.1).bind fun n1=>
  bif decide (0<=n1) then
   (aN s.2.2.2.2.2.2.1 s.2.2.1).bind fun n2=>
   (aN s.2.2.2.2.2.1 n2).bind fun a3=>
   (bH s.2.2.2.2.2.2.2 [(a0.1,a3.1)]).bind fun l4=>
   some (.next (s.1,s.2.1,aA .i64 (s.2.2.1+1),s.2.2.2.1,s.2.2.2.2.1,s.2.2.2.2.2.1,s.2.2.2.2.2.2.1,l4))
  else
   some (.next (s.1,s.2.1,aA .i64 (s.2.2.1+1),s.2.2.2))
 else
  some (.done (.done (.done (oA.mk s.2.2.2.2.1 s.2.2.2.2.2.1,s.2.2.2.2.2.2.2))))
def kG (s:aOp):Option aMl:=
 bif decide (s.2.2.1<s.2.1) then
  (aN s.1 s.2.2.1).bind fun a0=>
  aG iN (s.2.2.1,s.1,s.2.1,s.2.2.1,a0.2.1,a0.2.2,0,s.2.2.2)
 else
  aG kF (s.2.2.2.2.2.1,Int.ofNat s.2.2.2.2.2.1.length,0,s.2.2.2.1,s.2.2.2.2.1,s.2.2.2.2.2.1,s.2.2.2.2.2.2,[])
def kH (s:(Int×Int×Int×Int×bN×(List Int))):Option aOo:=
 bif decide (s.2.1<s.1) then
  (aN s.2.2.2.2.2 s.2.1).bind fun _=>
  some (.next (s.1,aA .i64 (s.2.1+1),s.2.2.1,s.2.2.2.1,s.2.2.2.2.1,bU s.2.2.2.2.2 s.2.1 (-1)))
 else
  aG kG (s.2.2.2.2.1,Int.ofNat s.2.2.2.2.1.length,0,s.2.2)
def tC (p0:Field) (p1:Int×Int):Option (oA×rD):=
 (yR p0 p1).bind fun a0=>
 bif (Int.ofNat a0.1.nodes.length)==(Int.ofNat a0.1.nodes.length) then
  (BS (Int.ofNat a0.1.nodes.length) (0:Int)).bind fun l1=>
  aG kH (Int.ofNat l1.length,0,0,a0.1.root,a0.1.nodes,l1)
 else
  none
def c40:bM:=⟨aB.cons (aL.agg bZ) (aB.one (aL.agg (cJ.row jM))),aL.tup (aB.cons (aL.agg oR) (aB.one (aL.sl jM))),fun a=>tC a.1 a.2,.frz,false⟩
theorem aMm:aK aU 40 c40:=Oc aLo rfl aF [(59,c59)] ⟨aAC,trivial⟩ fun a=>by kernel_rfl
abbrev aMn:=bN×bN×Int×Int
abbrev aOs:=cH aMn Bool
def B8 (s:aMn):Option aOs:=
 bif decide (s.2.2.2<s.2.2.1) then
  (aN s.1 s.2.2.2).bind fun a0=>
  (aN s.2.1 s.2.2.2).bind fun a1=>
  bif !((a0.1==a1.1)&&((a0.2.1==a1.2.1)&&(a0.2.2==a1.2.2))) then
   some (.done false)
  else
   some (.next (s.1,s.2.1,s.2.2.1,aA .i64 (s.2.2.2+1)))
 else
  some (.done true)
def pV (p0:List (Int×Int×Int)) (p1:List (Int×Int×Int)):Option Bool:=
 bif (Int.ofNat p0.length) !=(Int.ofNat p1.length) then
  some false
 else
  aG B8 (p0,p1,Int.ofNat p0.length,0)
def c50:bM:=⟨aB.cons (aL.sl eL) (aB.one (aL.sl eL)),aL.bool,fun a=>pV a.1 a.2,.pure,false⟩
theorem aMo:aK aU 50 c50:=Oc aLt rfl aF [] trivial fun a=>by kernel_rfl
def jJ (s:(rD×Int×Int×Int×Int)):Option (cH (rD×Int×Int×Int×Int) Int):=
 bif decide (s.2.2.1<s.2.1) then
  (aN s.1 s.2.2.1).bind fun a0=>
  bif (s.2.2.2.1==a0.1)&&(s.2.2.2.2==a0.2) then
   some (.done s.2.2.1)
  else
   some (.next (s.1,s.2.1,aA .i64 (s.2.2.1+1),s.2.2.2))
 else
  some (.done (-1))
def pW (p0:List (Int×Int)) (p1:Int×Int):Option Int:=
 aG jJ (p0,Int.ofNat p0.length,0,p1)
def aOt:bM:=⟨aB.cons (aL.sl jM) (aB.one (aL.agg (cJ.row jM))),aL.int .i64,fun a=>pW a.1 a.2,.pure,false⟩
theorem aGa:aK aU 146 aOt:=Oc aED rfl aF [] trivial fun a=>by kernel_rfl
def fF (p0:List (Int×Int)) (p1:Int×Int):Option Bool:=
 (pW p0 p1).bind fun n0=>
 some (decide (0<=n0))
def c95:bM:=⟨aB.cons (aL.sl jM) (aB.one (aL.agg (cJ.row jM))),aL.bool,fun a=>fF a.1 a.2,.pure,false⟩
theorem T5:aK aU 95 c95:=Oc aL1 rfl aF [(146,aOt)] ⟨aGa,trivial⟩ fun a=>by kernel_rfl
def xN (p0:Int×Int×Int) (p1:List (Int×Int)):Option Bool:=
 (fF p1 p0.2).bind fun b0=>
 some (!b0)
def c94:bM:=⟨aB.cons (aL.agg (cJ.row eL)) (aB.one (aL.ref (cJ.sl jM))),aL.bool,fun a=>xN a.1 a.2,.pure,false⟩
theorem aMp:aK aU 94 c94:=Oc aL0 rfl aF [(95,c95)] ⟨T5,trivial⟩ fun a=>by kernel_rfl
def bK (s:(bN×rD×Int×Int)):Option (cH (bN×rD×Int×Int) Int):=
 bif decide (s.2.2.2<s.2.2.1) then
  (aN s.1 s.2.2.2).bind fun a0=>
  (xN a0 s.2.1).bind fun b1=>
  bif b1 then
   some (.done s.2.2.2)
  else
   some (.next (s.1,s.2.1,s.2.2.1,aA .i64 (s.2.2.2+1)))
 else
  some (.done (-1))
def eM (p0:List (Int×Int×Int)) (p1:rD):Option Int:=
 aG bK (p0,p1,Int.ofNat p0.length,0)
def WJ:bM:=⟨aB.cons (aL.sl eL) (aB.one (aL.clo 94 (aB.one (aL.ref (cJ.sl jM))))),aL.int .i64,fun a=>eM a.1 a.2,.pure,false⟩
theorem T6:aK aU 147 WJ:=Oc OM rfl aF [(94,c94)] ⟨aMp,trivial⟩ fun a=>by kernel_rfl
def dS (p0:List (Int×Int×Int)) (p1:rD):Option Bool:=
 (eM p0 p1).bind fun n0=>
 some (decide (0<=n0))
def aAD:bM:=⟨aB.cons (aL.sl eL) (aB.one (aL.clo 94 (aB.one (aL.ref (cJ.sl jM))))),aL.bool,fun a=>dS a.1 a.2,.pure,false⟩
theorem YK:aK aU 96 aAD:=Oc TX rfl aF [(147,WJ)] ⟨T6,trivial⟩ fun a=>by kernel_rfl
def tD (p0:aP) (p1:List (Int×Int)):Option Bool:=
 bif (Int.ofNat p1.length)==(Int.ofNat p0.certs.list.length) then
  (dS p0.certs.list p1).bind fun b0=>
  some (!b0)
 else
  some false
def c51:bM:=⟨aB.cons (aL.agg bQ) (aB.one (aL.sl jM)),aL.bool,fun a=>tD a.1 a.2,.pure,false⟩
theorem aMq:aK aU 51 c51:=Oc aLu rfl aF [(96,aAD)] ⟨YK,trivial⟩ fun a=>by kernel_rfl
def uI (p0:dL):Option Int:=
 (gL p0.clock).bind fun n0=>
 bif n0 !=0 then
  some 8
 else
  (tC p0.clock.field p0.clock.now).bind fun a1=>
  bif a1.1.root !=p0.tree.root then
   some 8
  else
   (pV a1.1.nodes p0.tree.nodes).bind fun b2=>
   bif !b2 then
    some 8
   else
    (tD p0.clock a1.2).bind fun b3=>
    bif !b3 then
     some 8
    else
     some 0
def c22:bM:=⟨aB.one (aL.agg fE),aL.int .i64,fun a=>uI a,.pure,false⟩
theorem aMr:aK aU 22 c22:=Oc aLb rfl aF [(49,c49),(40,c40),(50,c50),(51,c51)] ⟨K4,aMm,aMo,aMq,trivial⟩ fun a=>by kernel_rfl
def AD (p0:Int×Int×Int) (p1:Int):Option Int:=
 (fB p0.1 p1).bind fun n0=>
 some n0
def aOu:bM:=⟨aB.cons (aL.agg (cJ.row eL)) (aB.one (aL.int .i64)),aL.int .i64,fun a=>AD a.1 a.2,.pure,false⟩
theorem aGb:aK aU 163 aOu:=Oc aES rfl aF [(164,T3)] ⟨C1,trivial⟩ fun a=>by kernel_rfl
def iO (s:OV):Option aF0:=
 bif decide (s.2.2.2.1<s.2.2.2.2) then
  (aN s.1 (aA .i64 (sU .u64 (aA .u64 (aA .i64 (s.2.2.2.1+s.2.2.2.2))) 1))).bind fun a0=>
  (AD a0 s.2.1).bind fun n1=>
  bif decide (n1<0) then
   some (.next (s.1,s.2.1,s.2.2.1,aA .i64 ((aA .i64 (sU .u64 (aA .u64 (aA .i64 (s.2.2.2.1+s.2.2.2.2))) 1))+1),s.2.2.2.2))
  else
   some (.next (s.1,s.2.1,s.2.2.1,s.2.2.2.1,aA .i64 (sU .u64 (aA .u64 (aA .i64 (s.2.2.2.1+s.2.2.2.2))) 1)))
 else
  bif decide (s.2.2.2.1<s.2.2.1) then
   (aN s.1 s.2.2.2.1).bind fun a2=>
   (AD a2 s.2.1).bind fun n3=>
   some (.done (s.2.2.2.1,n3==0))
  else
   some (.done (s.2.2.2.1,false))
def cR (p0:List (Int×Int×Int)) (p1:Int) (_:Unit):Option (Int×Bool):=
 aG iO (p0,p1,Int.ofNat p0.length,0,Int.ofNat p0.length)
def RD:bM:=⟨aB.cons (aL.sl eL) (aB.cons (aL.int .i64) (aB.one (aL.clo 163 aB.nil))),aL.tup (aB.cons (aL.int .i64) (aB.one aL.bool)),fun a=>cR a.1 a.2.1 a.2.2,.pure,false⟩
theorem RE:aK aU 162 RD:=Oc V7 rfl aF [(163,aOu)] ⟨aGb,trivial⟩ fun a=>by kernel_rfl
def vH (p0:Field) (p1:Int):Option (Int×Bool):=
 (cR p0.points p1 ()).bind fun a0=>
 some a0
def aOv:bM:=⟨aB.cons (aL.agg bZ) (aB.one (aL.int .i64)),aL.tup (aB.cons (aL.int .i64) (aB.one aL.bool)),fun a=>vH a.1 a.2,.pure,false⟩
theorem aGc:aK aU 112 aOv:=Oc aEa rfl aF [(162,RD)] ⟨RE,trivial⟩ fun a=>by kernel_rfl
def kZ (p0:Field) (p1:Int):Option (Int×Int):=
 (eS p0).bind fun n0=>
 bif n0 !=0 then
  some (0,n0)
 else
  (vH p0 p1).bind fun a1=>
  bif !a1.2 then
   some (0,6)
  else
   some (a1.1,0)
def c62:bM:=⟨aB.cons (aL.agg bZ) (aB.one (aL.int .i64)),aL.tup (aB.cons (aL.int .i64) (aB.one (aL.int .i64))),fun a=>kZ a.1 a.2,.pure,false⟩
theorem aAE:aK aU 62 c62:=Oc aLC rfl aF [(84,c84),(112,aOv)] ⟨K3,aGc,trivial⟩ fun a=>by kernel_rfl
theorem C2:aK aU 64 (bM.clone eL):=aK.clone aLE rfl
abbrev YL:=Int×Int×bN
def jN (a:YL):Option (Nat×Nat×bN):=
 bif (((decide (0<=a.1))&&(decide (a.1<=a.2.1)))&&(decide (a.2.1<=(Int.ofNat a.2.2.length))))&&(decide ((Int.ofNat a.2.2.length)<=(Int.ofNat a.2.2.length))) then
  bif a.1==a.2.1 then
   bif a.2.2.length==a.2.2.length then
    some (a.2.2.length,a.2.2.length,a.2.2)
   else
    none
  else
   (iI a.2.2 0 a.1).bind fun _=>
   bif ((decide (0<=a.2.1))&&(decide (a.2.1<=(Int.ofNat a.2.2.length))))&&(decide ((Int.ofNat a.2.2.length)<=(Int.ofNat a.2.2.length))) then
    bif ((a.2.2.drop (0+a.2.1.toNat)).take (((Int.ofNat a.2.2.length).toNat) -a.2.1.toNat)).isEmpty then
     bif ((decide (0<=(Int.ofNat a.1.toNat)))&&(decide ((Int.ofNat a.1.toNat)<=(Int.ofNat a.2.2.length))))&&(decide ((Int.ofNat a.2.2.length)<=(Int.ofNat a.2.2.length))) then
      bif Nat.beq (((Int.ofNat a.2.2.length).toNat) - ((Int.ofNat a.1.toNat).toNat)) 0 then
       bif a.2.2.length==a.2.2.length then
        some (a.1.toNat,a.2.2.length,a.2.2)
       else
        none
      else
       bif (Nat.ble ((0+((Int.ofNat a.1.toNat).toNat))+(((Int.ofNat a.2.2.length).toNat) - ((Int.ofNat a.1.toNat).toNat))) a.2.2.length)&&(!false) then
        bif ((eH a.2.2 (0+((Int.ofNat a.1.toNat).toNat)) (List.replicate (((Int.ofNat a.2.2.length).toNat) - ((Int.ofNat a.1.toNat).toNat)) (0,0,0))).length)==a.2.2.length then
         some (a.1.toNat,a.2.2.length,eH a.2.2 (0+((Int.ofNat a.1.toNat).toNat)) (List.replicate (((Int.ofNat a.2.2.length).toNat) - ((Int.ofNat a.1.toNat).toNat)) (0,0,0)))
        else
         none
       else
        none
     else
      none
    else
     bif Nat.ble (a.1.toNat+(((a.2.2.drop (0+a.2.1.toNat)).take (((Int.ofNat a.2.2.length).toNat) -a.2.1.toNat)).length)) a.2.2.length then
      bif (Nat.ble (a.1.toNat+(((a.2.2.drop (0+a.2.1.toNat)).take (((Int.ofNat a.2.2.length).toNat) -a.2.1.toNat)).length)) a.2.2.length)&&(!false) then
       bif ((decide (0<=(Int.ofNat (a.1.toNat+(((a.2.2.drop (0+a.2.1.toNat)).take (((Int.ofNat a.2.2.length).toNat) -a.2.1.toNat)).length)))))&&(decide ((Int.ofNat (a.1.toNat+(((a.2.2.drop (0+a.2.1.toNat)).take (((Int.ofNat a.2.2.length).toNat) -a.2.1.toNat)).length)))<=(Int.ofNat a.2.2.length))))&&(decide ((Int.ofNat a.2.2.length)<=(Int.ofNat a.2.2.length))) then
        bif Nat.beq (((Int.ofNat a.2.2.length).toNat) - ((Int.ofNat (a.1.toNat+(((a.2.2.drop (0+a.2.1.toNat)).take (((Int.ofNat a.2.2.length).toNat) -a.2.1.toNat)).length))).toNat)) 0 then
         bif ((eH a.2.2 a.1.toNat ((a.2.2.drop (0+a.2.1.toNat)).take (((Int.ofNat a.2.2.length).toNat) -a.2.1.toNat))).length)==a.2.2.length then
          some (a.1.toNat+(((a.2.2.drop (0+a.2.1.toNat)).take (((Int.ofNat a.2.2.length).toNat) -a.2.1.toNat)).length),a.2.2.length,eH a.2.2 a.1.toNat ((a.2.2.drop (0+a.2.1.toNat)).take (((Int.ofNat a.2.2.length).toNat) -a.2.1.toNat)))
         else
          none
        else
         bif (Nat.ble ((0+((Int.ofNat (a.1.toNat+(((a.2.2.drop (0+a.2.1.toNat)).take (((Int.ofNat a.2.2.length).toNat) -a.2.1.toNat)).length))).toNat))+(((Int.ofNat a.2.2.length).toNat) - ((Int.ofNat (a.1.toNat+(((a.2.2.drop (0+a.2.1.toNat)).take (((Int.ofNat a.2.2.length).toNat) -a.2.1.toNat)).length))).toNat))) ((eH a.2.2 a.1.toNat ((a.2.2.drop (0+a.2.1.toNat)).take (((Int.ofNat a.2.2.length).toNat) -a.2.1.toNat))).length))&&(!false) then
          bif ((eH (eH a.2.2 a.1.toNat ((a.2.2.drop (0+a.2.1.toNat)).take (((Int.ofNat a.2.2.length).toNat) -a.2.1.toNat))) (0+((Int.ofNat (a.1.toNat+(((a.2.2.drop (0+a.2.1.toNat)).take (((Int.ofNat a.2.2.length).toNat) -a.2.1.toNat)).length))).toNat)) (List.replicate (((Int.ofNat a.2.2.length).toNat) - ((Int.ofNat (a.1.toNat+(((a.2.2.drop (0+a.2.1.toNat)).take (((Int.ofNat a.2.2.length).toNat) -a.2.1.toNat)).length))).toNat)) (0,0,0))).length)==a.2.2.length then
           some (a.1.toNat+(((a.2.2.drop (0+a.2.1.toNat)).take (((Int.ofNat a.2.2.length).toNat) -a.2.1.toNat)).length),a.2.2.length,eH (eH a.2.2 a.1.toNat ((a.2.2.drop (0+a.2.1.toNat)).take (((Int.ofNat a.2.2.length).toNat) -a.2.1.toNat))) (0+((Int.ofNat (a.1.toNat+(((a.2.2.drop (0+a.2.1.toNat)).take (((Int.ofNat a.2.2.length).toNat) -a.2.1.toNat)).length))).toNat)) (List.replicate (((Int.ofNat a.2.2.length).toNat) - ((Int.ofNat (a.1.toNat+(((a.2.2.drop (0+a.2.1.toNat)).take (((Int.ofNat a.2.2.length).toNat) -a.2.1.toNat)).length))).toNat)) (0,0,0)))
          else
           none
         else
          none
       else
        none
      else
       none
     else
      none
   else
    none
 else
  none
def aHV:dR:=⟨[.i,.i,.l [.i .i64,.i .i64,.i .i64]],[.own 0 false,.int .i64 0,.int .i64 0],[.arr [.i .i64,.i .i64,.i .i64] []],[.n,.n,.l [.i .i64,.i .i64,.i .i64]],.pre 0 0 0 false,[.arr [.i .i64,.i .i64,.i .i64] []],fun a=>jN a⟩
theorem aAF:jV aU 63 aHV:=jV.of aLD (wd:=true) (cx:=(nZ aF [] [] [] [])) (lG.make trivial trivial trivial) (fun a=>by kernel_rfl)
def mP (p0:Field) (p1:Int):Option (Field×Int):=
 (kZ p0 p1).bind fun a0=>
 bif a0.2 !=0 then
  some (Field.mk [],a0.2)
 else
  (bX p0.points).bind fun l1=>
  (jN (a0.1,aA .i64 (a0.1+1),l1)).bind fun a2=>
  some (Field.mk (a2.2.2.take a2.1),0)
def c30:bM:=⟨aB.cons (aL.agg bZ) (aB.one (aL.int .i64)),aL.tup (aB.cons (aL.agg bZ) (aB.one (aL.int .i64))),fun a=>mP a.1 a.2,.frz,false⟩
theorem aMs:aK aU 30 c30:=aK.of aLh (cx:=(nZ aF [(62,c62),(64,bM.clone eL)] [(63,aHV)] [] [])) rfl (lG.make ⟨aAE,C2,trivial⟩ ⟨aAF,trivial⟩ trivial) (fun a=>by kernel_rfl)
def pX (p0:Field) (p1:Int):Option (Field×Int):=
 (mP p0 p1).bind fun a0=>
 some a0
def c29:bM:=⟨aB.cons (aL.agg bZ) (aB.one (aL.ref (cJ.int .i64))),aL.tup (aB.cons (aL.agg bZ) (aB.one (aL.int .i64))),fun a=>pX a.1 a.2,.frz,false⟩
theorem aMt:aK aU 29 c29:=Oc aLg rfl aF [(30,c30)] ⟨aMs,trivial⟩ fun a=>by kernel_rfl
abbrev aOw:=bN×Int×Int×Int×bN×(List Int)
abbrev aMu:=cH aOw rD
abbrev aOx:=Int×bN×Int×Int×Int×Int×Int×Int×bN×(List Int)
def iP (s:aOx):Option (cH aOx aMu):=
 bif decide (s.2.2.2.2.2.2.1<2) then
  bif s.2.2.2.2.2.2.1==0 then
   bif decide (0<=s.2.2.2.2.1) then
    (aN s.2.2.2.2.2.2.2.2.2 s.2.2.2.2.1).bind fun _=>
    some (.next (s.1,s.2.1,s.2.2.1,s.2.2.2.1,s.2.2.2.2.1,s.2.2.2.2.2.1,aA .i64 (s.2.2.2.2.2.2.1+1),s.2.2.2.2.2.2.2.1,s.2.2.2.2.2.2.2.2.1,bU s.2.2.2.2.2.2.2.2.2 s.2.2.2.2.1 s.1))
   else
    some (.next (s.1,s.2.1,s.2.2.1,s.2.2.2.1,s.2.2.2.2.1,s.2.2.2.2.2.1,aA .i64 (s.2.2.2.2.2.2.1+1),s.2.2.2.2.2.2.2))
  else
   bif s.2.2.2.2.2.2.1==1 then
    bif decide (0<=s.2.2.2.2.2.1) then
     (aN s.2.2.2.2.2.2.2.2.2 s.2.2.2.2.2.1).bind fun _=>
     some (.next (s.1,s.2.1,s.2.2.1,s.2.2.2.1,s.2.2.2.2.1,s.2.2.2.2.2.1,aA .i64 (s.2.2.2.2.2.2.1+1),s.2.2.2.2.2.2.2.1,s.2.2.2.2.2.2.2.2.1,bU s.2.2.2.2.2.2.2.2.2 s.2.2.2.2.2.1 s.1))
    else
     some (.next (s.1,s.2.1,s.2.2.1,s.2.2.2.1,s.2.2.2.2.1,s.2.2.2.2.2.1,aA .i64 (s.2.2.2.2.2.2.1+1),s.2.2.2.2.2.2.2))
   else
    none
 else
  some (.done (.next (s.2.1,s.2.2.1,aA .i64 (s.2.2.2.1+1),s.2.2.2.2.2.2.2)))
abbrev aOy:=bN×Int×Int×Int×bN×(List Int)×rD
def kI (s:aOy):Option (cH aOy aMu):=
 bif decide (s.2.2.1<s.2.1) then
  (aN s.1 s.2.2.1).bind fun a0=>
  bif s.2.2.1 !=s.2.2.2.1 then
   (aN s.2.2.2.2.2.1 s.2.2.1).bind fun n1=>
   (aN s.2.2.2.2.1 n1).bind fun a2=>
   (bH s.2.2.2.2.2.2 [(a0.1,a2.1)]).bind fun l3=>
   some (.next (s.1,s.2.1,aA .i64 (s.2.2.1+1),s.2.2.2.1,s.2.2.2.2.1,s.2.2.2.2.2.1,l3))
  else
   some (.next (s.1,s.2.1,aA .i64 (s.2.2.1+1),s.2.2.2))
 else
  some (.done (.done s.2.2.2.2.2.2))
def mQ (s:aOw):Option aMu:=
 bif decide (s.2.2.1<s.2.1) then
  (aN s.1 s.2.2.1).bind fun a0=>
  aG iP (s.2.2.1,s.1,s.2.1,s.2.2.1,a0.2.1,a0.2.2,0,s.2.2.2)
 else
  aG kI (s.2.2.2.2.1,Int.ofNat s.2.2.2.2.1.length,0,s.2.2.2.1,s.2.2.2.2.1,s.2.2.2.2.2,[])
def wS (p0:oA):Option rD:=
 bif (Int.ofNat p0.nodes.length)==(Int.ofNat p0.nodes.length) then
  (BS (Int.ofNat p0.nodes.length) (0:Int)).bind fun l0=>
  aG mQ (p0.nodes,Int.ofNat p0.nodes.length,0,p0.root,p0.nodes,l0)
 else
  none
def c61:bM:=⟨aB.one (aL.agg oR),aL.sl jM,fun a=>wS a,.frz,false⟩
theorem aMv:aK aU 61 c61:=Oc aLB rfl aF [] trivial fun a=>by kernel_rfl
def vI (p0:Field) (p1:Int):Option ((Int×Int×Int)×Int):=
 (kZ p0 p1).bind fun a0=>
 bif a0.2 !=0 then
  some ((0,0,0),a0.2)
 else
  (aN p0.points a0.1).bind fun a1=>
  some (a1,0)
def aOz:bM:=⟨aB.cons (aL.agg bZ) (aB.one (aL.int .i64)),aL.tup (aB.cons (aL.agg (cJ.row eL)) (aB.one (aL.int .i64))),fun a=>vI a.1 a.2,.pure,false⟩
theorem aGd:aK aU 109 aOz:=Oc aD8 rfl aF [(62,c62)] ⟨aAE,trivial⟩ fun a=>by kernel_rfl
theorem yS:aK aU 127 (bM.clone eL):=aK.clone aEo rfl
theorem F3:aK aU 128 (bM.clone eL):=aK.clone aEp rfl
theorem vJ:aK aU 129 (bM.clone lH):=aK.clone aEq rfl
theorem pY:aK aU 130 (bM.clone ki):=aK.clone aEr rfl
def vK (p0:aP):Option aP:=
 (bX p0.field.points).bind fun l0=>
 (bX p0.certs.list).bind fun l1=>
 (bX p0.due).bind fun l2=>
 (bX p0.agenda.heap).bind fun l3=>
 (bX p0.agenda.where_).bind fun l4=>
 (bX p0.agenda.slots.uses).bind fun l5=>
 (bX p0.agenda.slots.used).bind fun l6=>
 (bX p0.agenda.slots.free).bind fun l7=>
 some (aP.mk p0.now (Field.mk l0) (aV.mk p0.certs.next_ l1) (aH.mk (aQ.mk l5 l6 l7) l3 l4) l2)
def aOA:bM:=⟨aB.one (aL.agg bQ),aL.agg bQ,fun a=>vK a,.own,true⟩
def aHW:bM:=⟨aB.one (aL.agg bQ),aL.agg bQ,fun a=>vK a,.frz,false⟩
theorem aGe:aK aU 111 aOA:=Oc V6 rfl aF [(64,bM.clone eL),(127,bM.clone eL),(128,bM.clone eL),(129,bM.clone lH),(130,bM.clone ki),(131,bM.clone kb)] ⟨C2,yS,F3,vJ,pY,vF,trivial⟩ fun a=>by kernel_rfl
theorem aAG:aK aU 111 aHW:=Oc V6 rfl aF [(64,bM.clone eL),(127,bM.clone eL),(128,bM.clone eL),(129,bM.clone lH),(130,bM.clone ki),(131,bM.clone kb)] ⟨C2,yS,F3,vJ,pY,vF,trivial⟩ fun a=>by kernel_rfl
def tE (p0:Int×Int×Int) (p1:Int):Option Int:=
 (fB p0.1 p1).bind fun n0=>
 some n0
def aOB:bM:=⟨aB.cons (aL.agg (cJ.row eL)) (aB.one (aL.int .i64)),aL.int .i64,fun a=>tE a.1 a.2,.pure,false⟩
theorem aGf:aK aU 204 aOB:=Oc aFt rfl aF [(164,T3)] ⟨C1,trivial⟩ fun a=>by kernel_rfl
def aS (s:OV):Option aF0:=
 bif decide (s.2.2.2.1<s.2.2.2.2) then
  (aN s.1 (aA .i64 (sU .u64 (aA .u64 (aA .i64 (s.2.2.2.1+s.2.2.2.2))) 1))).bind fun a0=>
  (tE a0 s.2.1).bind fun n1=>
  bif decide (n1<0) then
   some (.next (s.1,s.2.1,s.2.2.1,aA .i64 ((aA .i64 (sU .u64 (aA .u64 (aA .i64 (s.2.2.2.1+s.2.2.2.2))) 1))+1),s.2.2.2.2))
  else
   some (.next (s.1,s.2.1,s.2.2.1,s.2.2.2.1,aA .i64 (sU .u64 (aA .u64 (aA .i64 (s.2.2.2.1+s.2.2.2.2))) 1)))
 else
  bif decide (s.2.2.2.1<s.2.2.1) then
   (aN s.1 s.2.2.2.1).bind fun a2=>
   (tE a2 s.2.1).bind fun n3=>
   some (.done (s.2.2.2.1,n3==0))
  else
   some (.done (s.2.2.2.1,false))
def aT (p0:List (Int×Int×Int)) (p1:Int) (_:Unit):Option (Int×Bool):=
 aG aS (p0,p1,Int.ofNat p0.length,0,Int.ofNat p0.length)
def RF:bM:=⟨aB.cons (aL.sl eL) (aB.cons (aL.int .i64) (aB.one (aL.clo 204 aB.nil))),aL.tup (aB.cons (aL.int .i64) (aB.one aL.bool)),fun a=>aT a.1 a.2.1 a.2.2,.pure,false⟩
theorem RG:aK aU 203 RF:=Oc aFs rfl aF [(204,aOB)] ⟨aGf,trivial⟩ fun a=>by kernel_rfl
def HF (p0:aV) (p1:Int):Option (Int×Int):=
 (qZ p0).bind fun n0=>
 bif n0 !=0 then
  some (0,n0)
 else
  (aT p0.list p1 ()).bind fun a1=>
  bif !a1.2 then
   some (0,6)
  else
   some (a1.1,0)
def aOC:bM:=⟨aB.cons (aL.agg gG) (aB.one (aL.int .i64)),aL.tup (aB.cons (aL.int .i64) (aB.one (aL.int .i64))),fun a=>HF a.1 a.2,.pure,false⟩
theorem aGg:aK aU 174 aOC:=Oc aE3 rfl aF [(91,c91),(203,RF)] ⟨T2,RG,trivial⟩ fun a=>by kernel_rfl
def dU (a:YL):Option (Nat×Nat×bN):=
 bif (((decide (0<=a.1))&&(decide (a.1<=a.2.1)))&&(decide (a.2.1<=(Int.ofNat a.2.2.length))))&&(decide ((Int.ofNat a.2.2.length)<=(Int.ofNat a.2.2.length))) then
  bif a.1==a.2.1 then
   bif a.2.2.length==a.2.2.length then
    some (a.2.2.length,a.2.2.length,a.2.2)
   else
    none
  else
   (iI a.2.2 0 a.1).bind fun _=>
   bif ((decide (0<=a.2.1))&&(decide (a.2.1<=(Int.ofNat a.2.2.length))))&&(decide ((Int.ofNat a.2.2.length)<=(Int.ofNat a.2.2.length))) then
    bif ((a.2.2.drop (0+a.2.1.toNat)).take (((Int.ofNat a.2.2.length).toNat) -a.2.1.toNat)).isEmpty then
     bif ((decide (0<=(Int.ofNat a.1.toNat)))&&(decide ((Int.ofNat a.1.toNat)<=(Int.ofNat a.2.2.length))))&&(decide ((Int.ofNat a.2.2.length)<=(Int.ofNat a.2.2.length))) then
      bif Nat.beq (((Int.ofNat a.2.2.length).toNat) - ((Int.ofNat a.1.toNat).toNat)) 0 then
       bif a.2.2.length==a.2.2.length then
        some (a.1.toNat,a.2.2.length,a.2.2)
       else
        none
      else
       bif (Nat.ble ((0+((Int.ofNat a.1.toNat).toNat))+(((Int.ofNat a.2.2.length).toNat) - ((Int.ofNat a.1.toNat).toNat))) a.2.2.length)&&(!false) then
        bif ((eH a.2.2 (0+((Int.ofNat a.1.toNat).toNat)) (List.replicate (((Int.ofNat a.2.2.length).toNat) - ((Int.ofNat a.1.toNat).toNat)) (0,0,0))).length)==a.2.2.length then
         some (a.1.toNat,a.2.2.length,eH a.2.2 (0+((Int.ofNat a.1.toNat).toNat)) (List.replicate (((Int.ofNat a.2.2.length).toNat) - ((Int.ofNat a.1.toNat).toNat)) (0,0,0)))
        else
         none
       else
        none
     else
      none
    else
     bif Nat.ble (a.1.toNat+(((a.2.2.drop (0+a.2.1.toNat)).take (((Int.ofNat a.2.2.length).toNat) -a.2.1.toNat)).length)) a.2.2.length then
      bif (Nat.ble (a.1.toNat+(((a.2.2.drop (0+a.2.1.toNat)).take (((Int.ofNat a.2.2.length).toNat) -a.2.1.toNat)).length)) a.2.2.length)&&(!false) then
       bif ((decide (0<=(Int.ofNat (a.1.toNat+(((a.2.2.drop (0+a.2.1.toNat)).take (((Int.ofNat a.2.2.length).toNat) -a.2.1.toNat)).length)))))&&(decide ((Int.ofNat (a.1.toNat+(((a.2.2.drop (0+a.2.1.toNat)).take (((Int.ofNat a.2.2.length).toNat) -a.2.1.toNat)).length)))<=(Int.ofNat a.2.2.length))))&&(decide ((Int.ofNat a.2.2.length)<=(Int.ofNat a.2.2.length))) then
        bif Nat.beq (((Int.ofNat a.2.2.length).toNat) - ((Int.ofNat (a.1.toNat+(((a.2.2.drop (0+a.2.1.toNat)).take (((Int.ofNat a.2.2.length).toNat) -a.2.1.toNat)).length))).toNat)) 0 then
         bif ((eH a.2.2 a.1.toNat ((a.2.2.drop (0+a.2.1.toNat)).take (((Int.ofNat a.2.2.length).toNat) -a.2.1.toNat))).length)==a.2.2.length then
          some (a.1.toNat+(((a.2.2.drop (0+a.2.1.toNat)).take (((Int.ofNat a.2.2.length).toNat) -a.2.1.toNat)).length),a.2.2.length,eH a.2.2 a.1.toNat ((a.2.2.drop (0+a.2.1.toNat)).take (((Int.ofNat a.2.2.length).toNat) -a.2.1.toNat)))
         else
          none
        else
         bif (Nat.ble ((0+((Int.ofNat (a.1.toNat+(((a.2.2.drop (0+a.2.1.toNat)).take (((Int.ofNat a.2.2.length).toNat) -a.2.1.toNat)).length))).toNat))+(((Int.ofNat a.2.2.length).toNat) - ((Int.ofNat (a.1.toNat+(((a.2.2.drop (0+a.2.1.toNat)).take (((Int.ofNat a.2.2.length).toNat) -a.2.1.toNat)).length))).toNat))) ((eH a.2.2 a.1.toNat ((a.2.2.drop (0+a.2.1.toNat)).take (((Int.ofNat a.2.2.length).toNat) -a.2.1.toNat))).length))&&(!false) then
          bif ((eH (eH a.2.2 a.1.toNat ((a.2.2.drop (0+a.2.1.toNat)).take (((Int.ofNat a.2.2.length).toNat) -a.2.1.toNat))) (0+((Int.ofNat (a.1.toNat+(((a.2.2.drop (0+a.2.1.toNat)).take (((Int.ofNat a.2.2.length).toNat) -a.2.1.toNat)).length))).toNat)) (List.replicate (((Int.ofNat a.2.2.length).toNat) - ((Int.ofNat (a.1.toNat+(((a.2.2.drop (0+a.2.1.toNat)).take (((Int.ofNat a.2.2.length).toNat) -a.2.1.toNat)).length))).toNat)) (0,0,0))).length)==a.2.2.length then
           some (a.1.toNat+(((a.2.2.drop (0+a.2.1.toNat)).take (((Int.ofNat a.2.2.length).toNat) -a.2.1.toNat)).length),a.2.2.length,eH (eH a.2.2 a.1.toNat ((a.2.2.drop (0+a.2.1.toNat)).take (((Int.ofNat a.2.2.length).toNat) -a.2.1.toNat))) (0+((Int.ofNat (a.1.toNat+(((a.2.2.drop (0+a.2.1.toNat)).take (((Int.ofNat a.2.2.length).toNat) -a.2.1.toNat)).length))).toNat)) (List.replicate (((Int.ofNat a.2.2.length).toNat) - ((Int.ofNat (a.1.toNat+(((a.2.2.drop (0+a.2.1.toNat)).take (((Int.ofNat a.2.2.length).toNat) -a.2.1.toNat)).length))).toNat)) (0,0,0)))
          else
           none
         else
          none
       else
        none
      else
       none
     else
      none
   else
    none
 else
  none
def aAH:dR:=⟨[.i,.i,.l [.i .i64,.i .i64,.i .i64]],[.own 0 false,.int .i64 0,.int .i64 0],[.arr [.i .i64,.i .i64,.i .i64] []],[.n,.n,.l [.i .i64,.i .i64,.i .i64]],.pre 0 0 0 false,[.arr [.i .i64,.i .i64,.i .i64] []],fun a=>dU a⟩
theorem YM:jV aU 175 aAH:=jV.of aE4 (wd:=true) (cx:=(nZ aF [] [] [] [])) (lG.make trivial trivial trivial) (fun a=>by kernel_rfl)
def wT (p0:aV) (p1:Int):Option (aV×(Int×Int)×Int):=
 (HF p0 p1).bind fun a0=>
 bif a0.2 !=0 then
  some (aV.mk 0 [],(0,0),a0.2)
 else
  (bX p0.list).bind fun l1=>
  (dU (a0.1,aA .i64 (a0.1+1),l1)).bind fun a2=>
  (aN p0.list a0.1).bind fun a3=>
  some (aV.mk p0.next_ (a2.2.2.take a2.1),a3.2,0)
def aOD:bM:=⟨aB.cons (aL.agg gG) (aB.one (aL.int .i64)),aL.tup (aB.cons (aL.agg gG) (aB.cons (aL.agg (cJ.row jM)) (aB.one (aL.int .i64)))),fun a=>wT a.1 a.2,.frz,false⟩
theorem aGh:aK aU 123 aOD:=aK.of aEk (cx:=(nZ aF [(174,aOC),(127,bM.clone eL)] [(175,aAH)] [] [])) rfl (lG.make ⟨aGg,yS,trivial⟩ ⟨YM,trivial⟩ trivial) (fun a=>by kernel_rfl)
def mR (p0:aP):Option aP:=
 (bX p0.field.points).bind fun l0=>
 (bX p0.certs.list).bind fun l1=>
 (bX p0.due).bind fun l2=>
 (bX p0.agenda.heap).bind fun l3=>
 (bX p0.agenda.where_).bind fun l4=>
 (bX p0.agenda.slots.uses).bind fun l5=>
 (bX p0.agenda.slots.used).bind fun l6=>
 (bX p0.agenda.slots.free).bind fun l7=>
 some (aP.mk p0.now (Field.mk l0) (aV.mk p0.certs.next_ l1) (aH.mk (aQ.mk l5 l6 l7) l3 l4) l2)
def c79:bM:=⟨aB.one (aL.agg bQ),aL.agg bQ,fun a=>mR a,.own,true⟩
def aGi:bM:=⟨aB.one (aL.agg bQ),aL.agg bQ,fun a=>mR a,.frz,false⟩
theorem T7:aK aU 79 c79:=Oc aAv rfl aF [(64,bM.clone eL),(127,bM.clone eL),(128,bM.clone eL),(129,bM.clone lH),(130,bM.clone ki),(131,bM.clone kb)] ⟨C2,yS,F3,vJ,pY,vF,trivial⟩ fun a=>by kernel_rfl
theorem OY:aK aU 79 aGi:=Oc aAv rfl aF [(64,bM.clone eL),(127,bM.clone eL),(128,bM.clone eL),(129,bM.clone lH),(130,bM.clone ki),(131,bM.clone kb)] ⟨C2,yS,F3,vJ,pY,vF,trivial⟩ fun a=>by kernel_rfl
def xO (p0:Int×Int×Int) (p1:Int):Option Int:=
 (fB p0.1 p1).bind fun n0=>
 some n0
def aOE:bM:=⟨aB.cons (aL.agg (cJ.row eL)) (aB.one (aL.int .i64)),aL.int .i64,fun a=>xO a.1 a.2,.pure,false⟩
theorem aGj:aK aU 177 aOE:=Oc aE6 rfl aF [(164,T3)] ⟨C1,trivial⟩ fun a=>by kernel_rfl
def iZ (s:OV):Option aF0:=
 bif decide (s.2.2.2.1<s.2.2.2.2) then
  (aN s.1 (aA .i64 (sU .u64 (aA .u64 (aA .i64 (s.2.2.2.1+s.2.2.2.2))) 1))).bind fun a0=>
  (xO a0 s.2.1).bind fun n1=>
  bif decide (n1<0) then
   some (.next (s.1,s.2.1,s.2.2.1,aA .i64 ((aA .i64 (sU .u64 (aA .u64 (aA .i64 (s.2.2.2.1+s.2.2.2.2))) 1))+1),s.2.2.2.2))
  else
   some (.next (s.1,s.2.1,s.2.2.1,s.2.2.2.1,aA .i64 (sU .u64 (aA .u64 (aA .i64 (s.2.2.2.1+s.2.2.2.2))) 1)))
 else
  bif decide (s.2.2.2.1<s.2.2.1) then
   (aN s.1 s.2.2.2.1).bind fun a2=>
   (xO a2 s.2.1).bind fun n3=>
   some (.done (s.2.2.2.1,n3==0))
  else
   some (.done (s.2.2.2.1,false))
def cU (p0:List (Int×Int×Int)) (p1:Int) (_:Unit):Option (Int×Bool):=
 aG iZ (p0,p1,Int.ofNat p0.length,0,Int.ofNat p0.length)
def RH:bM:=⟨aB.cons (aL.sl eL) (aB.cons (aL.int .i64) (aB.one (aL.clo 177 aB.nil))),aL.tup (aB.cons (aL.int .i64) (aB.one aL.bool)),fun a=>cU a.1 a.2.1 a.2.2,.pure,false⟩
theorem RI:aK aU 176 RH:=Oc aE5 rfl aF [(177,aOE)] ⟨aGj,trivial⟩ fun a=>by kernel_rfl
def pB (p0:List (Int×Int×Int)) (p1:Int):Option (Int×Bool):=
 (cU p0 p1 ()).bind fun a0=>
 some a0
def aMw:bM:=⟨aB.cons (aL.sl eL) (aB.one (aL.int .i64)),aL.tup (aB.cons (aL.int .i64) (aB.one aL.bool)),fun a=>pB a.1 a.2,.pure,false⟩
theorem WK:aK aU 124 aMw:=Oc aEl rfl aF [(176,RH)] ⟨RI,trivial⟩ fun a=>by kernel_rfl
def B9 (p0:aQ) (p1:Int×Int):Option (Bool×Int):=
 (rA p0).bind fun n0=>
 bif n0 !=0 then
  some (false,n0)
 else
  bif decide (0<=p1.1) then
   bif decide (p1.1<(Int.ofNat p0.used.length)) then
    (aN p0.used p1.1).bind fun b1=>
    bif b1 then
     (aN p0.uses p1.1).bind fun n2=>
     some (n2==p1.2,0)
    else
     some (false,0)
   else
    some (false,0)
  else
   some (false,0)
def aMx:bM:=⟨aB.cons (aL.agg fY) (aB.one (aL.agg (cJ.row jM))),aL.tup (aB.cons aL.bool (aB.one (aL.int .i64))),fun a=>B9 a.1 a.2,.pure,false⟩
theorem WL:aK aU 205 aMx:=Oc aFu rfl aF [(142,aFT)] ⟨OS,trivial⟩ fun a=>by kernel_rfl
def pZ (p0:aH) (p1:Int×Int):Option (Int×Int):=
 (lJ p0).bind fun n0=>
 bif n0 !=0 then
  some (0,n0)
 else
  (B9 p0.slots p1).bind fun a1=>
  bif a1.2 !=0 then
   some (0,6)
  else
   bif !a1.1 then
    some (0,6)
   else
    (aN p0.where_ p1.1).bind fun n2=>
    some (n2,0)
def aMy:bM:=⟨aB.cons (aL.agg cY) (aB.one (aL.agg (cJ.row jM))),aL.tup (aB.cons (aL.int .i64) (aB.one (aL.int .i64))),fun a=>pZ a.1 a.2,.pure,false⟩
theorem WM:aK aU 178 aMy:=Oc aE7 rfl aF [(92,c92),(205,aMx)] ⟨OU,WL,trivial⟩ fun a=>by kernel_rfl
theorem RJ:aK aU 228 (bM.clone ki):=aK.clone aFM rfl
def tS (p0:List Int) (p1:Int):Option (List Int):=
 (bX p0).bind fun l0=>
 (bH l0 [p1]).bind fun l1=>
 some l1
def aOF:bM:=⟨aB.cons (aL.sl ki) (aB.one (aL.int .i64)),aL.sl ki,fun a=>tS a.1 a.2,.frz,false⟩
theorem aGk:aK aU 221 aOF:=Oc aFG rfl aF [(228,bM.clone ki)] ⟨RJ,trivial⟩ fun a=>by kernel_rfl
def C3 (p0:aQ) (p1:Int×Int):Option (aQ×Int):=
 (B9 p0 p1).bind fun a0=>
 bif a0.2 !=0 then
  some (aQ.mk [] [] [],a0.2)
 else
  bif !a0.1 then
   some (aQ.mk [] [] [],6)
  else
   (bX p0.uses).bind fun l1=>
   (bX p0.used).bind fun l2=>
   (tS p0.free p1.1).bind fun l3=>
   (aN l2 p1.1).bind fun _=>
   some (aQ.mk l1 (bU l2 p1.1 false) l3,0)
def aOG:bM:=⟨aB.cons (aL.agg fY) (aB.one (aL.agg (cJ.row jM))),aL.tup (aB.cons (aL.agg fY) (aB.one (aL.int .i64))),fun a=>C3 a.1 a.2,.frz,false⟩
theorem aGl:aK aU 206 aOG:=aK.of aFv (cx:=(nZ aF [(205,aMx),(130,bM.clone ki),(131,bM.clone kb),(221,aOF)] [] [(220,aAp)] [])) rfl (lG.make ⟨WL,pY,vF,aGk,trivial⟩ trivial ⟨WA,trivial⟩) (fun a=>by kernel_rfl)
abbrev aGm:=(List Int)×(List Bool)×(List Int)×Nat×Nat×Int×Int×Int×Int×Int×Int×jW×(List Int)
abbrev L8:=jW×(List Int)
def bR (a:aGm):Option L8:=
 (aN (a.2.2.2.2.2.2.2.2.2.2.2.1.take a.2.2.2.1) a.2.2.2.2.2.1).bind fun _=>
 (aN a.2.2.2.2.2.2.2.2.2.2.2.2 a.2.2.2.2.2.2.2.2.2.1).bind fun _=>
 bif ((bU a.2.2.2.2.2.2.2.2.2.2.2.1 a.2.2.2.2.2.1 (a.2.2.2.2.2.2.1,a.2.2.2.2.2.2.2.1,a.2.2.2.2.2.2.2.2.1,a.2.2.2.2.2.2.2.2.2.1,a.2.2.2.2.2.2.2.2.2.2.1)).length)==a.2.2.2.2.2.2.2.2.2.2.2.1.length then
  bif ((bU a.2.2.2.2.2.2.2.2.2.2.2.2 a.2.2.2.2.2.2.2.2.2.1 a.2.2.2.2.2.1).length)==a.2.2.2.2.2.2.2.2.2.2.2.2.length then
   some (bU a.2.2.2.2.2.2.2.2.2.2.2.1 a.2.2.2.2.2.1 (a.2.2.2.2.2.2.1,a.2.2.2.2.2.2.2.1,a.2.2.2.2.2.2.2.2.1,a.2.2.2.2.2.2.2.2.2.1,a.2.2.2.2.2.2.2.2.2.2.1),bU a.2.2.2.2.2.2.2.2.2.2.2.2 a.2.2.2.2.2.2.2.2.2.1 a.2.2.2.2.2.1)
  else
   none
 else
  none
def T8:dR:=⟨[.l [.i .i64],.l [.b],.l [.i .i64],.n,.n,.i,.i,.i,.i,.i,.i,.l [.i .i64,.i .i64,.i .i64,.i .i64,.i .i64],.l [.i .i64]],[.agg [.sl [.i .i64] [],.sl [.b] [],.sl [.i .i64] [],.pre 0 0 0 false,.own 1 false],.int .i64 0,.agg [.int .i64 0,.int .i64 0,.int .i64 0,.int .i64 0,.int .i64 0]],[.arr [.i .i64,.i .i64,.i .i64,.i .i64,.i .i64] [],.arr [.i .i64] []],[.l [.i .i64,.i .i64,.i .i64,.i .i64,.i .i64],.l [.i .i64]],.tup [],[.arr [.i .i64,.i .i64,.i .i64,.i .i64,.i .i64] [],.arr [.i .i64] []],fun a=>bR a⟩
theorem M6:jV aU 222 T8:=jV.of WB (wd:=false) (cx:=(nZ aF [] [] [] [])) (lG.make trivial trivial trivial) (fun a=>by kernel_rfl)
abbrev aOH:=Int×jW×(List Int)×(List Int)×(List Bool)×(List Int)×Nat×Nat×Int×Int×Int×Int×Int
abbrev aOI:=cH aOH L8
abbrev aOJ:=Int×Int×jW×(List Int)×(List Int)×(List Bool)×(List Int)×Nat×Nat×Int×Int×Int×Int×Int
def fQ (c0:aGm) (s:aOJ):Option (cH aOJ aOI):=
 match s with
 |(a,b,d,e,f,g,h,i,j,k,l,m,n,o)=>
  bif decide (b<(Int.ofNat i)) then
   bif decide ((aA .i64 (b+1))<(Int.ofNat i)) then
    (aN (d.take i) (aA .i64 (b+1))).bind fun a0=>
    (aN (d.take i) b).bind fun a1=>
    (cB a0 a1).bind fun n2=>
    bif decide (n2<0) then
     (aN (d.take i) (aA .i64 (b+1))).bind fun a3=>
     (cB a3 (k,l,m,n,o)).bind fun n4=>
     bif decide (0<=n4) then
      (bR (f,g,h,i,j,a,k,l,m,n,o,d,e)).bind fun a5=>
      bif a5.1.length==c0.2.2.2.2.2.2.2.2.2.2.2.1.length then
       bif a5.2.length==c0.2.2.2.2.2.2.2.2.2.2.2.2.length then
        some (.done (.done a5))
       else
        none
      else
       none
     else
      (aN (d.take i) (aA .i64 (b+1))).bind fun a6=>
      (bR (f,g,h,i,j,a,a6.1,a6.2.1,a6.2.2.1,a6.2.2.2.1,a6.2.2.2.2,d,e)).bind fun a7=>
      some (.next (aA .i64 (b+1),aA .i64 ((aA .i64 (2*(aA .i64 (b+1))))+1),a7.1,a7.2,(f,g,h,i,j,k,l,m,n,o)))
    else
     (aN (d.take i) b).bind fun a8=>
     (cB a8 (k,l,m,n,o)).bind fun n9=>
     bif decide (0<=n9) then
      (bR (f,g,h,i,j,a,k,l,m,n,o,d,e)).bind fun a10=>
      bif a10.1.length==c0.2.2.2.2.2.2.2.2.2.2.2.1.length then
       bif a10.2.length==c0.2.2.2.2.2.2.2.2.2.2.2.2.length then
        some (.done (.done a10))
       else
        none
      else
       none
     else
      (aN (d.take i) b).bind fun a11=>
      (bR (f,g,h,i,j,a,a11.1,a11.2.1,a11.2.2.1,a11.2.2.2.1,a11.2.2.2.2,d,e)).bind fun a12=>
      some (.next (b,aA .i64 ((aA .i64 (2*b))+1),a12.1,a12.2,(f,g,h,i,j,k,l,m,n,o)))
   else
    (aN (d.take i) b).bind fun a13=>
    (cB a13 (k,l,m,n,o)).bind fun n14=>
    bif decide (0<=n14) then
     (bR (f,g,h,i,j,a,k,l,m,n,o,d,e)).bind fun a15=>
     bif a15.1.length==c0.2.2.2.2.2.2.2.2.2.2.2.1.length then
      bif a15.2.length==c0.2.2.2.2.2.2.2.2.2.2.2.2.length then
       some (.done (.done a15))
      else
       none
     else
      none
    else
     (aN (d.take i) b).bind fun a16=>
     (bR (f,g,h,i,j,a,a16.1,a16.2.1,a16.2.2.1,a16.2.2.2.1,a16.2.2.2.2,d,e)).bind fun a17=>
     some (.next (b,aA .i64 ((aA .i64 (2*b))+1),a17.1,a17.2,(f,g,h,i,j,k,l,m,n,o)))
  else
   (bR (f,g,h,i,j,a,k,l,m,n,o,d,e)).bind fun a18=>
   bif a18.1.length==c0.2.2.2.2.2.2.2.2.2.2.2.1.length then
    bif a18.2.length==c0.2.2.2.2.2.2.2.2.2.2.2.2.length then
     some (.done (.done a18))
    else
     none
   else
    none
def eD (c0:aGm) (s:aOH):Option aOI:=
 bif decide (0<s.1) then
  (aN (s.2.1.take s.2.2.2.2.2.2.1) (aA .i64 (Int.tdiv (aA .i64 (s.1-1)) 2))).bind fun a0=>
  (cB s.2.2.2.2.2.2.2.2 a0).bind fun n1=>
  bif decide (n1<0) then
   (aN (s.2.1.take s.2.2.2.2.2.2.1) (aA .i64 (Int.tdiv (aA .i64 (s.1-1)) 2))).bind fun a2=>
   (bR (s.2.2.2.1,s.2.2.2.2.1,s.2.2.2.2.2.1,s.2.2.2.2.2.2.1,s.2.2.2.2.2.2.2.1,s.1,a2.1,a2.2.1,a2.2.2.1,a2.2.2.2.1,a2.2.2.2.2,s.2.1,s.2.2.1)).bind fun a3=>
   some (.next (aA .i64 (Int.tdiv (aA .i64 (s.1-1)) 2),a3.1,a3.2,s.2.2.2))
  else
   aG (fQ c0) (s.1,aA .i64 ((aA .i64 (2*s.1))+1),s.2)
 else
  aG (fQ c0) (s.1,aA .i64 ((aA .i64 (2*s.1))+1),s.2)
def jY (a:aGm):Option L8:=
 aG (eD a) (a.2.2.2.2.2.1,a.2.2.2.2.2.2.2.2.2.2.2.1,a.2.2.2.2.2.2.2.2.2.2.2.2,a.1,a.2.1,a.2.2.1,a.2.2.2.1,a.2.2.2.2.1,a.2.2.2.2.2.2.1,a.2.2.2.2.2.2.2.1,a.2.2.2.2.2.2.2.2.1,a.2.2.2.2.2.2.2.2.2.1,a.2.2.2.2.2.2.2.2.2.2.1)
def OZ:dR:=⟨[.l [.i .i64],.l [.b],.l [.i .i64],.n,.n,.i,.i,.i,.i,.i,.i,.l [.i .i64,.i .i64,.i .i64,.i .i64,.i .i64],.l [.i .i64]],[.agg [.sl [.i .i64] [],.sl [.b] [],.sl [.i .i64] [],.pre 0 0 0 false,.own 1 false],.int .i64 0,.agg [.int .i64 0,.int .i64 0,.int .i64 0,.int .i64 0,.int .i64 0]],[.arr [.i .i64,.i .i64,.i .i64,.i .i64,.i .i64] [],.arr [.i .i64] []],[.l [.i .i64,.i .i64,.i .i64,.i .i64,.i .i64],.l [.i .i64]],.tup [],[.arr [.i .i64,.i .i64,.i .i64,.i .i64,.i .i64] [],.arr [.i .i64] []],fun a=>jY a⟩
theorem HG:jV aU 208 OZ:=jV.of V9 (wd:=false) (cx:=(nZ aF [(143,aFY)] [(222,T8)] [] [])) (lG.make ⟨OT,trivial⟩ ⟨M6,trivial⟩ trivial) (fun a=>by kernel_rfl)
def rY (p0:aH) (p1:Int):Option (aH×(Int×Int×Int×Int×Int)×Int):=
 (aN p0.heap p1).bind fun a0=>
 (C3 p0.slots a0.2.2.2).bind fun a1=>
 bif a1.2 !=0 then
  some (aH.mk (aQ.mk [] [] []) [] [],(0,0,0,0,0),a1.2)
 else
  (bX p0.heap).bind fun l2=>
  (bX p0.where_).bind fun l3=>
  (aN l2 (aA .i64 ((Int.ofNat l2.length) -1))).bind fun a4=>
  (iI l2 0 (aA .i64 ((Int.ofNat l2.length) -1))).bind fun _=>
  (aN l3 a0.2.2.2.1).bind fun _=>
  bif decide (p1<(aA .i64 ((Int.ofNat l2.length) -1))) then
   (jY (a1.1.uses,a1.1.used,a1.1.free,(aA .i64 ((Int.ofNat l2.length) -1)).toNat,l2.length,p1,a4.1,a4.2.1,a4.2.2.1,a4.2.2.2.1,a4.2.2.2.2,l2,bU l3 a0.2.2.2.1 (-1))).bind fun a7=>
   some (aH.mk a1.1 (a7.1.take ((aA .i64 ((Int.ofNat l2.length) -1)).toNat)) a7.2,a0,0)
  else
   some (aH.mk a1.1 (l2.take ((aA .i64 ((Int.ofNat l2.length) -1)).toNat)) (bU l3 a0.2.2.2.1 (-1)),a0,0)
def aOK:bM:=⟨aB.cons (aL.agg cY) (aB.one (aL.int .i64)),aL.tup (aB.cons (aL.agg cY) (aB.cons (aL.agg (cJ.row lH)) (aB.one (aL.int .i64)))),fun a=>rY a.1 a.2,.frz,false⟩
theorem aGn:aK aU 179 aOK:=aK.of aE8 (cx:=(nZ aF [(206,aOG),(129,bM.clone lH),(130,bM.clone ki)] [(208,OZ)] [(207,YI)] [])) rfl (lG.make ⟨aGl,vJ,pY,trivial⟩ ⟨HG,trivial⟩ ⟨OP,trivial⟩) (fun a=>by kernel_rfl)
def mA (p0:aH) (p1:Int×Int):Option (aH×(Int×Int×Int×Int×Int)×Int):=
 (pZ p0 p1).bind fun a0=>
 bif a0.2 !=0 then
  some (aH.mk (aQ.mk [] [] []) [] [],(0,0,0,0,0),a0.2)
 else
  (rY p0 a0.1).bind fun a1=>
  some a1
def aMz:bM:=⟨aB.cons (aL.agg cY) (aB.one (aL.agg (cJ.row jM))),aL.tup (aB.cons (aL.agg cY) (aB.cons (aL.agg (cJ.row lH)) (aB.one (aL.int .i64)))),fun a=>mA a.1 a.2,.frz,false⟩
theorem WN:aK aU 125 aMz:=Oc aEm rfl aF [(178,aMy),(179,aOK)] ⟨WM,aGn,trivial⟩ fun a=>by kernel_rfl
def lK (a:YL):Option (Nat×Nat×bN):=
 bif (((decide (0<=a.1))&&(decide (a.1<=a.2.1)))&&(decide (a.2.1<=(Int.ofNat a.2.2.length))))&&(decide ((Int.ofNat a.2.2.length)<=(Int.ofNat a.2.2.length))) then
  bif a.1==a.2.1 then
   bif a.2.2.length==a.2.2.length then
    some (a.2.2.length,a.2.2.length,a.2.2)
   else
    none
  else
   (iI a.2.2 0 a.1).bind fun _=>
   bif ((decide (0<=a.2.1))&&(decide (a.2.1<=(Int.ofNat a.2.2.length))))&&(decide ((Int.ofNat a.2.2.length)<=(Int.ofNat a.2.2.length))) then
    bif ((a.2.2.drop (0+a.2.1.toNat)).take (((Int.ofNat a.2.2.length).toNat) -a.2.1.toNat)).isEmpty then
     bif ((decide (0<=(Int.ofNat a.1.toNat)))&&(decide ((Int.ofNat a.1.toNat)<=(Int.ofNat a.2.2.length))))&&(decide ((Int.ofNat a.2.2.length)<=(Int.ofNat a.2.2.length))) then
      bif Nat.beq (((Int.ofNat a.2.2.length).toNat) - ((Int.ofNat a.1.toNat).toNat)) 0 then
       bif a.2.2.length==a.2.2.length then
        some (a.1.toNat,a.2.2.length,a.2.2)
       else
        none
      else
       bif (Nat.ble ((0+((Int.ofNat a.1.toNat).toNat))+(((Int.ofNat a.2.2.length).toNat) - ((Int.ofNat a.1.toNat).toNat))) a.2.2.length)&&(!false) then
        bif ((eH a.2.2 (0+((Int.ofNat a.1.toNat).toNat)) (List.replicate (((Int.ofNat a.2.2.length).toNat) - ((Int.ofNat a.1.toNat).toNat)) (0,0,0))).length)==a.2.2.length then
         some (a.1.toNat,a.2.2.length,eH a.2.2 (0+((Int.ofNat a.1.toNat).toNat)) (List.replicate (((Int.ofNat a.2.2.length).toNat) - ((Int.ofNat a.1.toNat).toNat)) (0,0,0)))
        else
         none
       else
        none
     else
      none
    else
     bif Nat.ble (a.1.toNat+(((a.2.2.drop (0+a.2.1.toNat)).take (((Int.ofNat a.2.2.length).toNat) -a.2.1.toNat)).length)) a.2.2.length then
      bif (Nat.ble (a.1.toNat+(((a.2.2.drop (0+a.2.1.toNat)).take (((Int.ofNat a.2.2.length).toNat) -a.2.1.toNat)).length)) a.2.2.length)&&(!false) then
       bif ((decide (0<=(Int.ofNat (a.1.toNat+(((a.2.2.drop (0+a.2.1.toNat)).take (((Int.ofNat a.2.2.length).toNat) -a.2.1.toNat)).length)))))&&(decide ((Int.ofNat (a.1.toNat+(((a.2.2.drop (0+a.2.1.toNat)).take (((Int.ofNat a.2.2.length).toNat) -a.2.1.toNat)).length)))<=(Int.ofNat a.2.2.length))))&&(decide ((Int.ofNat a.2.2.length)<=(Int.ofNat a.2.2.length))) then
        bif Nat.beq (((Int.ofNat a.2.2.length).toNat) - ((Int.ofNat (a.1.toNat+(((a.2.2.drop (0+a.2.1.toNat)).take (((Int.ofNat a.2.2.length).toNat) -a.2.1.toNat)).length))).toNat)) 0 then
         bif ((eH a.2.2 a.1.toNat ((a.2.2.drop (0+a.2.1.toNat)).take (((Int.ofNat a.2.2.length).toNat) -a.2.1.toNat))).length)==a.2.2.length then
          some (a.1.toNat+(((a.2.2.drop (0+a.2.1.toNat)).take (((Int.ofNat a.2.2.length).toNat) -a.2.1.toNat)).length),a.2.2.length,eH a.2.2 a.1.toNat ((a.2.2.drop (0+a.2.1.toNat)).take (((Int.ofNat a.2.2.length).toNat) -a.2.1.toNat)))
         else
          none
        else
         bif (Nat.ble ((0+((Int.ofNat (a.1.toNat+(((a.2.2.drop (0+a.2.1.toNat)).take (((Int.ofNat a.2.2.length).toNat) -a.2.1.toNat)).length))).toNat))+(((Int.ofNat a.2.2.length).toNat) - ((Int.ofNat (a.1.toNat+(((a.2.2.drop (0+a.2.1.toNat)).take (((Int.ofNat a.2.2.length).toNat) -a.2.1.toNat)).length))).toNat))) ((eH a.2.2 a.1.toNat ((a.2.2.drop (0+a.2.1.toNat)).take (((Int.ofNat a.2.2.length).toNat) -a.2.1.toNat))).length))&&(!false) then
          bif ((eH (eH a.2.2 a.1.toNat ((a.2.2.drop (0+a.2.1.toNat)).take (((Int.ofNat a.2.2.length).toNat) -a.2.1.toNat))) (0+((Int.ofNat (a.1.toNat+(((a.2.2.drop (0+a.2.1.toNat)).take (((Int.ofNat a.2.2.length).toNat) -a.2.1.toNat)).length))).toNat)) (List.replicate (((Int.ofNat a.2.2.length).toNat) - ((Int.ofNat (a.1.toNat+(((a.2.2.drop (0+a.2.1.toNat)).take (((Int.ofNat a.2.2.length).toNat) -a.2.1.toNat)).length))).toNat)) (0,0,0))).length)==a.2.2.length then
           some (a.1.toNat+(((a.2.2.drop (0+a.2.1.toNat)).take (((Int.ofNat a.2.2.length).toNat) -a.2.1.toNat)).length),a.2.2.length,eH (eH a.2.2 a.1.toNat ((a.2.2.drop (0+a.2.1.toNat)).take (((Int.ofNat a.2.2.length).toNat) -a.2.1.toNat))) (0+((Int.ofNat (a.1.toNat+(((a.2.2.drop (0+a.2.1.toNat)).take (((Int.ofNat a.2.2.length).toNat) -a.2.1.toNat)).length))).toNat)) (List.replicate (((Int.ofNat a.2.2.length).toNat) - ((Int.ofNat (a.1.toNat+(((a.2.2.drop (0+a.2.1.toNat)).take (((Int.ofNat a.2.2.length).toNat) -a.2.1.toNat)).length))).toNat)) (0,0,0)))
          else
           none
         else
          none
       else
        none
      else
       none
     else
      none
   else
    none
 else
  none
def aAI:dR:=⟨[.i,.i,.l [.i .i64,.i .i64,.i .i64]],[.own 0 false,.int .i64 0,.int .i64 0],[.arr [.i .i64,.i .i64,.i .i64] []],[.n,.n,.l [.i .i64,.i .i64,.i .i64]],.pre 0 0 0 false,[.arr [.i .i64,.i .i64,.i .i64] []],fun a=>lK a⟩
theorem YN:jV aU 126 aAI:=jV.of aEn (wd:=true) (cx:=(nZ aF [] [] [] [])) (lG.make trivial trivial trivial) (fun a=>by kernel_rfl)
def rE (p0:aP) (p1:Int):Option (aP×(Int×Int)×Int):=
 (wT p0.certs p1).bind fun a0=>
 bif a0.2.2 !=0 then
  some (aP.mk (0,0) (Field.mk []) (aV.mk 0 []) (aH.mk (aQ.mk [] [] []) [] []) [],a0.2)
 else
  (mR p0).bind fun r1=>
  (pB p0.due p1).bind fun a2=>
  bif a2.2 then
   (aN p0.due a2.1).bind fun a3=>
   (mA p0.agenda a3.2).bind fun a4=>
   bif a4.2.2 !=0 then
    some (aP.mk (0,0) (Field.mk []) (aV.mk 0 []) (aH.mk (aQ.mk [] [] []) [] []) [],a0.2.1,a4.2.2)
   else
    (lK (a2.1,aA .i64 (a2.1+1),r1.due)).bind fun a5=>
    some (aP.mk r1.now r1.field a0.1 a4.1 (a5.2.2.take a5.1),a0.2.1,0)
  else
   some (aP.mk r1.now r1.field a0.1 r1.agenda r1.due,a0.2.1,0)
def c78:bM:=⟨aB.cons (aL.agg bQ) (aB.one (aL.int .i64)),aL.tup (aB.cons (aL.agg bQ) (aB.cons (aL.agg (cJ.row jM)) (aB.one (aL.int .i64)))),fun a=>rE a.1 a.2,.frz,false⟩
theorem aMA:aK aU 78 c78:=aK.of aLR (cx:=(nZ aF [(123,aOD),(79,c79),(79,aGi),(124,aMw),(125,aMz)] [(126,aAI)] [] [])) rfl (lG.make ⟨aGh,T7,OY,WK,WN,trivial⟩ ⟨YN,trivial⟩ trivial) (fun a=>by kernel_rfl)
def uJ (p0:aP) (p1:Int):Option (aP×Int):=
 (gL p0).bind fun n0=>
 bif n0 !=0 then
  some (aP.mk (0,0) (Field.mk []) (aV.mk 0 []) (aH.mk (aQ.mk [] [] []) [] []) [],n0)
 else
  (rE p0 p1).bind fun a1=>
  some (a1.1,a1.2.2)
def aOL:bM:=⟨aB.cons (aL.agg bQ) (aB.one (aL.int .i64)),aL.tup (aB.cons (aL.agg bQ) (aB.one (aL.int .i64))),fun a=>uJ a.1 a.2,.frz,false⟩
theorem aGo:aK aU 157 aOL:=Oc aEN rfl aF [(49,c49),(78,c78)] ⟨K4,aMA,trivial⟩ fun a=>by kernel_rfl
def iX (s:aMn):Option aOs:=
 bif decide (s.2.2.2<s.2.2.1) then
  (aN s.1 s.2.2.2).bind fun a0=>
  (aN s.2.1 s.2.2.2).bind fun a1=>
  bif !((a0.1==a1.1)&&((a0.2.1==a1.2.1)&&(a0.2.2==a1.2.2))) then
   some (.done false)
  else
   some (.next (s.1,s.2.1,s.2.2.1,aA .i64 (s.2.2.2+1)))
 else
  some (.done true)
def iQ (p0:List (Int×Int×Int)) (p1:List (Int×Int×Int)):Option Bool:=
 bif (Int.ofNat p0.length) !=(Int.ofNat p1.length) then
  some false
 else
  aG iX (p0,p1,Int.ofNat p0.length,0)
def aOM:bM:=⟨aB.cons (aL.sl eL) (aB.one (aL.sl eL)),aL.bool,fun a=>iQ a.1 a.2,.pure,false⟩
theorem aGp:aK aU 158 aOM:=Oc aEO rfl aF [] trivial fun a=>by kernel_rfl
abbrev aGq:=(List Int)×(List Bool)×(List Int)×Int×Int×Int×Int×Int×Int×jW×(List Int)
def bS (a:aGq):Option L8:=
 (aN a.2.2.2.2.2.2.2.2.2.1 a.2.2.2.1).bind fun _=>
 (aN a.2.2.2.2.2.2.2.2.2.2 a.2.2.2.2.2.2.2.1).bind fun _=>
 bif ((bU a.2.2.2.2.2.2.2.2.2.1 a.2.2.2.1 (a.2.2.2.2.1,a.2.2.2.2.2.1,a.2.2.2.2.2.2.1,a.2.2.2.2.2.2.2.1,a.2.2.2.2.2.2.2.2.1)).length)==a.2.2.2.2.2.2.2.2.2.1.length then
  bif ((bU a.2.2.2.2.2.2.2.2.2.2 a.2.2.2.2.2.2.2.1 a.2.2.2.1).length)==a.2.2.2.2.2.2.2.2.2.2.length then
   some (bU a.2.2.2.2.2.2.2.2.2.1 a.2.2.2.1 (a.2.2.2.2.1,a.2.2.2.2.2.1,a.2.2.2.2.2.2.1,a.2.2.2.2.2.2.2.1,a.2.2.2.2.2.2.2.2.1),bU a.2.2.2.2.2.2.2.2.2.2 a.2.2.2.2.2.2.2.1 a.2.2.2.1)
  else
   none
 else
  none
def aAJ:dR:=⟨[.l [.i .i64],.l [.b],.l [.i .i64],.i,.i,.i,.i,.i,.i,.l [.i .i64,.i .i64,.i .i64,.i .i64,.i .i64],.l [.i .i64]],[.agg [.sl [.i .i64] [],.sl [.b] [],.sl [.i .i64] [],.own 0 false,.own 1 false],.int .i64 0,.agg [.int .i64 0,.int .i64 0,.int .i64 0,.int .i64 0,.int .i64 0]],[.arr [.i .i64,.i .i64,.i .i64,.i .i64,.i .i64] [],.arr [.i .i64] []],[.l [.i .i64,.i .i64,.i .i64,.i .i64,.i .i64],.l [.i .i64]],.tup [],[.arr [.i .i64,.i .i64,.i .i64,.i .i64,.i .i64] [],.arr [.i .i64] []],fun a=>bS a⟩
theorem YO:jV aU 222 aAJ:=jV.of WB (wd:=false) (cx:=(nZ aF [] [] [] [])) (lG.make trivial trivial trivial) (fun a=>by kernel_rfl)
abbrev aON:=Int×jW×(List Int)×(List Int)×(List Bool)×(List Int)×Int×Int×Int×Int×Int
abbrev aOO:=cH aON L8
abbrev aOP:=Int×Int×jW×(List Int)×(List Int)×(List Bool)×(List Int)×Int×Int×Int×Int×Int
def fR (c0:aGq) (s:aOP):Option (cH aOP aOO):=
 match s with
 |(a,b,d,e,f,g,h,i,j,k,l,m)=>
  bif decide (b<(Int.ofNat d.length)) then
   bif decide ((aA .i64 (b+1))<(Int.ofNat d.length)) then
    (aN d (aA .i64 (b+1))).bind fun a0=>
    (aN d b).bind fun a1=>
    (cB a0 a1).bind fun n2=>
    bif decide (n2<0) then
     (aN d (aA .i64 (b+1))).bind fun a3=>
     (cB a3 (i,j,k,l,m)).bind fun n4=>
     bif decide (0<=n4) then
      (bS (f,g,h,a,i,j,k,l,m,d,e)).bind fun a5=>
      bif a5.1.length==c0.2.2.2.2.2.2.2.2.2.1.length then
       bif a5.2.length==c0.2.2.2.2.2.2.2.2.2.2.length then
        some (.done (.done a5))
       else
        none
      else
       none
     else
      (aN d (aA .i64 (b+1))).bind fun a6=>
      (bS (f,g,h,a,a6.1,a6.2.1,a6.2.2.1,a6.2.2.2.1,a6.2.2.2.2,d,e)).bind fun a7=>
      some (.next (aA .i64 (b+1),aA .i64 ((aA .i64 (2*(aA .i64 (b+1))))+1),a7.1,a7.2,(f,g,h,i,j,k,l,m)))
    else
     (aN d b).bind fun a8=>
     (cB a8 (i,j,k,l,m)).bind fun n9=>
     bif decide (0<=n9) then
      (bS (f,g,h,a,i,j,k,l,m,d,e)).bind fun a10=>
      bif a10.1.length==c0.2.2.2.2.2.2.2.2.2.1.length then
       bif a10.2.length==c0.2.2.2.2.2.2.2.2.2.2.length then
        some (.done (.done a10))
       else
        none
      else
       none
     else
      (aN d b).bind fun a11=>
      (bS (f,g,h,a,a11.1,a11.2.1,a11.2.2.1,a11.2.2.2.1,a11.2.2.2.2,d,e)).bind fun a12=>
      some (.next (b,aA .i64 ((aA .i64 (2*b))+1),a12.1,a12.2,(f,g,h,i,j,k,l,m)))
   else
    (aN d b).bind fun a13=>
    (cB a13 (i,j,k,l,m)).bind fun n14=>
    bif decide (0<=n14) then
     (bS (f,g,h,a,i,j,k,l,m,d,e)).bind fun a15=>
     bif a15.1.length==c0.2.2.2.2.2.2.2.2.2.1.length then
      bif a15.2.length==c0.2.2.2.2.2.2.2.2.2.2.length then
       some (.done (.done a15))
      else
       none
     else
      none
    else
     (aN d b).bind fun a16=>
     (bS (f,g,h,a,a16.1,a16.2.1,a16.2.2.1,a16.2.2.2.1,a16.2.2.2.2,d,e)).bind fun a17=>
     some (.next (b,aA .i64 ((aA .i64 (2*b))+1),a17.1,a17.2,(f,g,h,i,j,k,l,m)))
  else
   (bS (f,g,h,a,i,j,k,l,m,d,e)).bind fun a18=>
   bif a18.1.length==c0.2.2.2.2.2.2.2.2.2.1.length then
    bif a18.2.length==c0.2.2.2.2.2.2.2.2.2.2.length then
     some (.done (.done a18))
    else
     none
   else
    none
def eE (c0:aGq) (s:aON):Option aOO:=
 bif decide (0<s.1) then
  (aN s.2.1 (aA .i64 (Int.tdiv (aA .i64 (s.1-1)) 2))).bind fun a0=>
  (cB s.2.2.2.2.2.2 a0).bind fun n1=>
  bif decide (n1<0) then
   (aN s.2.1 (aA .i64 (Int.tdiv (aA .i64 (s.1-1)) 2))).bind fun a2=>
   (bS (s.2.2.2.1,s.2.2.2.2.1,s.2.2.2.2.2.1,s.1,a2.1,a2.2.1,a2.2.2.1,a2.2.2.2.1,a2.2.2.2.2,s.2.1,s.2.2.1)).bind fun a3=>
   some (.next (aA .i64 (Int.tdiv (aA .i64 (s.1-1)) 2),a3.1,a3.2,s.2.2.2))
  else
   aG (fR c0) (s.1,aA .i64 ((aA .i64 (2*s.1))+1),s.2)
 else
  aG (fR c0) (s.1,aA .i64 ((aA .i64 (2*s.1))+1),s.2)
def eN (a:aGq):Option L8:=
 aG (eE a) (a.2.2.2.1,a.2.2.2.2.2.2.2.2.2.1,a.2.2.2.2.2.2.2.2.2.2,a.1,a.2.1,a.2.2.1,a.2.2.2.2.1,a.2.2.2.2.2.1,a.2.2.2.2.2.2.1,a.2.2.2.2.2.2.2.1,a.2.2.2.2.2.2.2.2.1)
def T9:dR:=⟨[.l [.i .i64],.l [.b],.l [.i .i64],.i,.i,.i,.i,.i,.i,.l [.i .i64,.i .i64,.i .i64,.i .i64,.i .i64],.l [.i .i64]],[.agg [.sl [.i .i64] [],.sl [.b] [],.sl [.i .i64] [],.own 0 false,.own 1 false],.int .i64 0,.agg [.int .i64 0,.int .i64 0,.int .i64 0,.int .i64 0,.int .i64 0]],[.arr [.i .i64,.i .i64,.i .i64,.i .i64,.i .i64] [],.arr [.i .i64] []],[.l [.i .i64,.i .i64,.i .i64,.i .i64,.i .i64],.l [.i .i64]],.tup [],[.arr [.i .i64,.i .i64,.i .i64,.i .i64,.i .i64] [],.arr [.i .i64] []],fun a=>eN a⟩
theorem M7:jV aU 208 T9:=jV.of V9 (wd:=false) (cx:=(nZ aF [(143,aFY)] [(222,T8),(222,aAJ)] [] [])) (lG.make ⟨OT,trivial⟩ ⟨M6,YO,trivial⟩ trivial) (fun a=>by kernel_rfl)
def uK (p0:aH) (p1:Int×Int) (p2:Int×Int):Option (aH×Int):=
 (lJ p0).bind fun n0=>
 (gJ p2).bind fun n1=>
 bif (if n1>n0 then n1 else n0) !=0 then
  some (aH.mk (aQ.mk [] [] []) [] [],if n1>n0 then n1 else n0)
 else
  (pZ p0 p1).bind fun a2=>
  bif a2.2 !=0 then
   some (aH.mk (aQ.mk [] [] []) [] [],a2.2)
  else
   (bX p0.heap).bind fun l3=>
   (bX p0.where_).bind fun l4=>
   (aN l3 a2.1).bind fun a5=>
   (eN (p0.slots.uses,p0.slots.used,p0.slots.free,a2.1,p2.1,p2.2,a5.2.2.1,a5.2.2.2.1,a5.2.2.2.2,l3,l4)).bind fun a6=>
   some (aH.mk p0.slots a6.1 a6.2,0)
def aOQ:bM:=⟨aB.cons (aL.agg cY) (aB.cons (aL.agg (cJ.row jM)) (aB.one (aL.agg (cJ.row jM)))),aL.tup (aB.cons (aL.agg cY) (aB.one (aL.int .i64))),fun a=>uK a.1 a.2.1 a.2.2,.frz,false⟩
theorem aGr:aK aU 193 aOQ:=aK.of aFl (cx:=(nZ aF [(92,c92),(35,c35),(178,aMy),(129,bM.clone lH),(130,bM.clone ki)] [(208,OZ),(208,T9)] [(207,YI)] [])) rfl (lG.make ⟨OU,EP,WM,vJ,pY,trivial⟩ ⟨HG,M7,trivial⟩ ⟨OP,trivial⟩) (fun a=>by kernel_rfl)
def xP (p0:Int×Int×Int×Int×Int) (p1:Int):Option Bool:=
 some (p0.2.2.1==p1)
def aOR:bM:=⟨aB.cons (aL.agg (cJ.row lH)) (aB.one (aL.ref (cJ.int .i64))),aL.bool,fun a=>xP a.1 a.2,.pure,false⟩
theorem aGs:aK aU 217 aOR:=Oc aFD rfl aF [] trivial fun a=>by kernel_rfl
def cL (s:(jW×Int×Int×Int)):Option (cH (jW×Int×Int×Int) Int):=
 bif decide (s.2.2.2<s.2.2.1) then
  (aN s.1 s.2.2.2).bind fun a0=>
  (xP a0 s.2.1).bind fun b1=>
  bif b1 then
   some (.done s.2.2.2)
  else
   some (.next (s.1,s.2.1,s.2.2.1,aA .i64 (s.2.2.2+1)))
 else
  some (.done (-1))
def eF (p0:List (Int×Int×Int×Int×Int)) (p1:Int):Option Int:=
 aG cL (p0,p1,Int.ofNat p0.length,0)
def RK:bM:=⟨aB.cons (aL.sl lH) (aB.one (aL.clo 217 (aB.one (aL.ref (cJ.int .i64))))),aL.int .i64,fun a=>eF a.1 a.2,.pure,false⟩
theorem RM:aK aU 226 RK:=Oc aFK rfl aF [(217,aOR)] ⟨aGs,trivial⟩ fun a=>by kernel_rfl
def cM (p0:List (Int×Int×Int×Int×Int)) (p1:Int):Option Bool:=
 (eF p0 p1).bind fun n0=>
 some (decide (0<=n0))
def RN:bM:=⟨aB.cons (aL.sl lH) (aB.one (aL.clo 217 (aB.one (aL.ref (cJ.int .i64))))),aL.bool,fun a=>cM a.1 a.2,.pure,false⟩
theorem RO:aK aU 216 RN:=Oc aFC rfl aF [(226,RK)] ⟨RM,trivial⟩ fun a=>by kernel_rfl
def vL (p0:List Int):Option ((List Int)×Int):=
 (iI p0 0 (aA .i64 ((Int.ofNat p0.length) -1))).bind fun l0=>
 (bX l0).bind fun l1=>
 (aN p0 (aA .i64 ((Int.ofNat p0.length) -1))).bind fun n2=>
 some (l1,n2)
def aOS:bM:=⟨aB.one (aL.sl ki),aL.tup (aB.cons (aL.sl ki) (aB.one (aL.int .i64))),fun a=>vL a,.frz,false⟩
theorem aGt:aK aU 227 aOS:=Oc aFL rfl aF [(228,bM.clone ki)] ⟨RJ,trivial⟩ fun a=>by kernel_rfl
def C4 (p0:aQ):Option (aQ×(Int×Int)×Int):=
 (rA p0).bind fun n0=>
 bif n0 !=0 then
  some (aQ.mk [] [] [],(0,0),n0)
 else
  bif (Int.ofNat p0.free.length)==0 then
   some (aQ.mk [] [] [],(0,0),18)
  else
   (vL p0.free).bind fun a1=>
   (aN p0.uses a1.2).bind fun n2=>
   bif n2==1000000 then
    some (aQ.mk [] [] [],(0,0),18)
   else
    (bX p0.uses).bind fun l3=>
    (bX p0.used).bind fun l4=>
    (aN l4 a1.2).bind fun _=>
    (aN l3 a1.2).bind fun n6=>
    (aN l3 a1.2).bind fun _=>
    (aN (bU l3 a1.2 (aA .i64 (n6+1))) a1.2).bind fun n8=>
    some (aQ.mk (bU l3 a1.2 (aA .i64 (n6+1))) (bU l4 a1.2 true) a1.1,(a1.2,n8),0)
def aOT:bM:=⟨aB.one (aL.agg fY),aL.tup (aB.cons (aL.agg fY) (aB.cons (aL.agg (cJ.row jM)) (aB.one (aL.int .i64)))),fun a=>C4 a,.frz,false⟩
theorem aGu:aK aU 218 aOT:=aK.of aFE (cx:=(nZ aF [(142,aFT),(227,aOS),(130,bM.clone ki),(131,bM.clone kb)] [] [(220,aAp)] [])) rfl (lG.make ⟨OS,aGt,pY,vF,trivial⟩ trivial ⟨WA,trivial⟩) (fun a=>by kernel_rfl)
def lA (p0:aH) (p1:Int×Int) (p2:Int):Option (aH×(Int×Int)×Int):=
 (lJ p0).bind fun n0=>
 (gJ p1).bind fun n1=>
 bif (if n1>n0 then n1 else n0) !=0 then
  some (aH.mk (aQ.mk [] [] []) [] [],(0,0),if n1>n0 then n1 else n0)
 else
  bif decide (p2<0) then
   some (aH.mk (aQ.mk [] [] []) [] [],(0,0),2)
  else
   bif decide (1000000<p2) then
    some (aH.mk (aQ.mk [] [] []) [] [],(0,0),2)
   else
    (cM p0.heap p2).bind fun b2=>
    bif b2 then
     some (aH.mk (aQ.mk [] [] []) [] [],(0,0),14)
    else
     (C4 p0.slots).bind fun a3=>
     bif a3.2.2 !=0 then
      some (aH.mk (aQ.mk [] [] []) [] [],(0,0),a3.2.2)
     else
      (bX p0.heap).bind fun l4=>
      (bX p0.where_).bind fun l5=>
      (bH l4 [(p1.1,p1.2,p2,a3.2.1)]).bind fun l6=>
      (eN (a3.1.uses,a3.1.used,a3.1.free,aA .i64 ((Int.ofNat l6.length) -1),p1.1,p1.2,p2,a3.2.1.1,a3.2.1.2,l6,l5)).bind fun a7=>
      some (aH.mk a3.1 a7.1 a7.2,a3.2.1,0)
def aMB:bM:=⟨aB.cons (aL.agg cY) (aB.cons (aL.agg (cJ.row jM)) (aB.one (aL.int .i64))),aL.tup (aB.cons (aL.agg cY) (aB.cons (aL.agg (cJ.row jM)) (aB.one (aL.int .i64)))),fun a=>lA a.1 a.2.1 a.2.2,.frz,false⟩
theorem WQ:aK aU 194 aMB:=aK.of aFm (cx:=(nZ aF [(92,c92),(35,c35),(216,RN),(218,aOT),(129,bM.clone lH),(130,bM.clone ki)] [(208,OZ),(208,T9)] [(207,YI)] [])) rfl (lG.make ⟨OU,EP,RO,aGu,vJ,pY,trivial⟩ ⟨HG,M7,trivial⟩ ⟨OP,trivial⟩) (fun a=>by kernel_rfl)
abbrev Zt3:=bN×Int×Int×Int×Int×bN×Int×bN×(List Int)×(List Bool)×(List Int)×jW×(List Int)×bN×bN×Int×Int×Int×Int×Int×Int×bN×(List Int)×(List Bool)×(List Int)×jW×(List Int)×bN×bN
abbrev aOU:=bN×Int×Int×Int×Int×bN×Int×bN×(List Int)×(List Bool)×(List Int)×jW×(List Int)×bN×bN×Int×Int×Int
abbrev Zt7:=cH aOU (aP×Int)
def dD (s:Zt3):Option (cH Zt3 Zt7):=
 match s with
 |(a,b,d,e,f,g,h,i,j,k,l,m,n,o,q,r,t,u,v,w,x,y,z,A,B,C,D,E,F)=>
  bif decide (d<b) then
   (aN a d).bind fun a0=>
   (rC (Field.mk q) a0.2 (e,f)).bind fun a1=>
   (pB o a0.1).bind fun a2=>
   bif a1.2.1 then
    bif a2.2 then
     (aN o a2.1).bind fun a3=>
     (uK (aH.mk (aQ.mk z A B) C D) a3.2 a1.1).bind fun a4=>
     (aN o a2.1).bind fun a5=>
     (bH F [a5]).bind fun l6=>
     bif a4.2 !=0 then
      some (.done (.done (aP.mk (0,0) (Field.mk []) (aV.mk 0 []) (aH.mk (aQ.mk [] [] []) [] []) [],a4.2)))
     else
      some (.next (a,b,aA .i64 (d+1),e,f,g,h,i,j,k,l,m,n,o,q,r,t,u,v,w,x,y,a4.1.slots.uses,a4.1.slots.used,a4.1.slots.free,a4.1.heap,a4.1.where_,E,l6))
    else
     bif a1.2.1 then
      (lA (aH.mk (aQ.mk z A B) C D) a1.1 a0.1).bind fun a7=>
      (bH F [(a0.1,a7.2.1)]).bind fun l8=>
      bif a7.2.2 !=0 then
       some (.done (.done (aP.mk (0,0) (Field.mk []) (aV.mk 0 []) (aH.mk (aQ.mk [] [] []) [] []) [],a7.2.2)))
      else
       some (.next (a,b,aA .i64 (d+1),e,f,g,h,i,j,k,l,m,n,o,q,r,t,u,v,w,x,y,a7.1.slots.uses,a7.1.slots.used,a7.1.slots.free,a7.1.heap,a7.1.where_,E,l8))
     else
      bif a2.2 then
       (aN o a2.1).bind fun a9=>
       (mA (aH.mk (aQ.mk z A B) C D) a9.2).bind fun a10=>
       bif a10.2.2 !=0 then
        some (.done (.done (aP.mk (0,0) (Field.mk []) (aV.mk 0 []) (aH.mk (aQ.mk [] [] []) [] []) [],a10.2.2)))
       else
        some (.next (a,b,aA .i64 (d+1),e,f,g,h,i,j,k,l,m,n,o,q,r,t,u,v,w,x,y,a10.1.slots.uses,a10.1.slots.used,a10.1.slots.free,a10.1.heap,a10.1.where_,(E,F)))
      else
       bif a1.2.2 !=0 then
        some (.done (.done (aP.mk (0,0) (Field.mk []) (aV.mk 0 []) (aH.mk (aQ.mk [] [] []) [] []) [],a1.2.2)))
       else
        some (.next (a,b,aA .i64 (d+1),(e,f,g,h,i,j,k,l,m,n,o,q,r,t,u,v,w,x,y,z,A,B,C,D,E,F)))
   else
    bif a1.2.1 then
     (lA (aH.mk (aQ.mk z A B) C D) a1.1 a0.1).bind fun a11=>
     (bH F [(a0.1,a11.2.1)]).bind fun l12=>
     bif a11.2.2 !=0 then
      some (.done (.done (aP.mk (0,0) (Field.mk []) (aV.mk 0 []) (aH.mk (aQ.mk [] [] []) [] []) [],a11.2.2)))
     else
      some (.next (a,b,aA .i64 (d+1),e,f,g,h,i,j,k,l,m,n,o,q,r,t,u,v,w,x,y,a11.1.slots.uses,a11.1.slots.used,a11.1.slots.free,a11.1.heap,a11.1.where_,E,l12))
    else
     bif a2.2 then
      (aN o a2.1).bind fun a13=>
      (mA (aH.mk (aQ.mk z A B) C D) a13.2).bind fun a14=>
      bif a14.2.2 !=0 then
       some (.done (.done (aP.mk (0,0) (Field.mk []) (aV.mk 0 []) (aH.mk (aQ.mk [] [] []) [] []) [],a14.2.2)))
      else
       some (.next (a,b,aA .i64 (d+1),e,f,g,h,i,j,k,l,m,n,o,q,r,t,u,v,w,x,y,a14.1.slots.uses,a14.1.slots.used,a14.1.slots.free,a14.1.heap,a14.1.where_,(E,F)))
     else
      bif a1.2.2 !=0 then
       some (.done (.done (aP.mk (0,0) (Field.mk []) (aV.mk 0 []) (aH.mk (aQ.mk [] [] []) [] []) [],a1.2.2)))
      else
       some (.next (a,b,aA .i64 (d+1),(e,f,g,h,i,j,k,l,m,n,o,q,r,t,u,v,w,x,y,z,A,B,C,D,E,F)))
  else
   some (.done (.done (aP.mk (v,w) (Field.mk E) (aV.mk x y) (aH.mk (aQ.mk z A B) C D) F,0)))
def kJ (s:aOU):Option Zt7:=
 bif decide (s.2.2.1<s.2.1) then
  (aN s.1 s.2.2.1).bind fun a0=>
  (jI (Field.mk s.2.2.2.2.2.2.2.2.2.2.2.2.2.2.1) a0.2.1).bind fun a1=>
  bif decide (a1.1<0) then
   some (.done (aP.mk (0,0) (Field.mk []) (aV.mk 0 []) (aH.mk (aQ.mk [] [] []) [] []) [],6))
  else
   (jI (Field.mk s.2.2.2.2.2.2.2.2.2.2.2.2.2.2.1) a0.2.2).bind fun a2=>
   bif decide (a2.1<0) then
    some (.done (aP.mk (0,0) (Field.mk []) (aV.mk 0 []) (aH.mk (aQ.mk [] [] []) [] []) [],6))
   else
    some (.next (s.1,s.2.1,aA .i64 (s.2.2.1+1),s.2.2.2))
 else
  (mR (aP.mk (s.2.2.2.1,s.2.2.2.2.1) (Field.mk s.2.2.2.2.2.1) (aV.mk s.2.2.2.2.2.2.1 s.2.2.2.2.2.2.2.1) (aH.mk (aQ.mk s.2.2.2.2.2.2.2.2.1 s.2.2.2.2.2.2.2.2.2.1 s.2.2.2.2.2.2.2.2.2.2.1) s.2.2.2.2.2.2.2.2.2.2.2.1 s.2.2.2.2.2.2.2.2.2.2.2.2.1) s.2.2.2.2.2.2.2.2.2.2.2.2.2.1)).bind fun r3=>
  (bX s.2.2.2.2.2.2.2.2.2.2.2.2.2.2.1).bind fun l4=>
  aG dD (s.2.2.2.2.2.2.2.1,Int.ofNat s.2.2.2.2.2.2.2.1.length,0,s.2.2.2.1,s.2.2.2.2.1,s.2.2.2.2.2.1,s.2.2.2.2.2.2.1,s.2.2.2.2.2.2.2.1,s.2.2.2.2.2.2.2.2.1,s.2.2.2.2.2.2.2.2.2.1,s.2.2.2.2.2.2.2.2.2.2.1,s.2.2.2.2.2.2.2.2.2.2.2.1,s.2.2.2.2.2.2.2.2.2.2.2.2.1,s.2.2.2.2.2.2.2.2.2.2.2.2.2.1,s.2.2.2.2.2.2.2.2.2.2.2.2.2.2.1,s.2.2.2.2.2.2.2.2.2.2.2.2.2.2.2.1,s.2.2.2.2.2.2.2.2.2.2.2.2.2.2.2.2.1,s.2.2.2.2.2.2.2.2.2.2.2.2.2.2.2.2.2,r3.now.1,r3.now.2,r3.certs.next_,r3.certs.list,r3.agenda.slots.uses,r3.agenda.slots.used,r3.agenda.slots.free,r3.agenda.heap,r3.agenda.where_,l4,[])
def pC (p0:aP) (p1:Field):Option (aP×Int):=
 (gL p0).bind fun n0=>
 bif n0 !=0 then
  some (aP.mk (0,0) (Field.mk []) (aV.mk 0 []) (aH.mk (aQ.mk [] [] []) [] []) [],n0)
 else
  (eS p1).bind fun n1=>
  bif n1 !=0 then
   some (aP.mk (0,0) (Field.mk []) (aV.mk 0 []) (aH.mk (aQ.mk [] [] []) [] []) [],n1)
  else
   aG kJ (p0.certs.list,Int.ofNat p0.certs.list.length,0,p0.now.1,p0.now.2,p0.field.points,p0.certs.next_,p0.certs.list,p0.agenda.slots.uses,p0.agenda.slots.used,p0.agenda.slots.free,p0.agenda.heap,p0.agenda.where_,p0.due,p1.points,0,0,0)
def aOV:bM:=⟨aB.cons (aL.agg bQ) (aB.one (aL.agg bZ)),aL.tup (aB.cons (aL.agg bQ) (aB.one (aL.int .i64))),fun a=>pC a.1 a.2,.frz,false⟩
theorem aGv:aK aU 159 aOV:=Oc aEP rfl aF [(49,c49),(84,c84),(145,aF1),(79,c79),(79,aGi),(64,bM.clone eL),(93,c93),(124,aMw),(193,aOQ),(194,aMB),(125,aMz)] ⟨K4,K3,OW,T7,OY,C2,T4,WK,aGr,WQ,WN,trivial⟩ fun a=>by kernel_rfl
def DX (p0:Int×Int×Int) (p1:Int×Int):Option Bool:=
 some ((p0.2.1==p1.1)&&(p0.2.2==p1.2))
def aOW:bM:=⟨aB.cons (aL.agg (cJ.row eL)) (aB.one (aL.ref (cJ.row jM))),aL.bool,fun a=>DX a.1 a.2,.pure,false⟩
theorem aGw:aK aU 160 aOW:=Oc aEQ rfl aF [] trivial fun a=>by kernel_rfl
def mI (s:OV):Option (cH OV Int):=
 bif decide (s.2.2.2.2<s.2.2.2.1) then
  (aN s.1 s.2.2.2.2).bind fun a0=>
  (DX a0 (s.2.1,s.2.2.1)).bind fun b1=>
  bif b1 then
   some (.done s.2.2.2.2)
  else
   some (.next (s.1,s.2.1,s.2.2.1,s.2.2.2.1,aA .i64 (s.2.2.2.2+1)))
 else
  some (.done (-1))
def hO (p0:List (Int×Int×Int)) (p1:(Int×Int)):Option Int:=
 aG mI (p0,p1.1,p1.2,Int.ofNat p0.length,0)
def RP:bM:=⟨aB.cons (aL.sl eL) (aB.one (aL.clo 160 (aB.one (aL.ref (cJ.row jM))))),aL.int .i64,fun a=>hO a.1 a.2,.pure,false⟩
theorem RQ:aK aU 147 RP:=Oc OM rfl aF [(160,aOW)] ⟨aGw,trivial⟩ fun a=>by kernel_rfl
def dT (p0:List (Int×Int×Int)) (p1:(Int×Int)):Option Bool:=
 (hO p0 p1).bind fun n0=>
 some (decide (0<=n0))
def WR:bM:=⟨aB.cons (aL.sl eL) (aB.one (aL.clo 160 (aB.one (aL.ref (cJ.row jM))))),aL.bool,fun a=>dT a.1 a.2,.pure,false⟩
theorem UA:aK aU 96 WR:=Oc TX rfl aF [(147,RP)] ⟨RQ,trivial⟩ fun a=>by kernel_rfl
def dC (p0:Int):Option (aP×Int×Int):=
 some (aP.mk (0,0) (Field.mk []) (aV.mk 0 []) (aH.mk (aQ.mk [] [] []) [] []) [],0,p0)
def aOX:bM:=⟨aB.one (aL.int .i64),aL.tup (aB.cons (aL.agg bQ) (aB.cons (aL.int .i64) (aB.one (aL.int .i64)))),fun a=>dC a,.frz,false⟩
theorem aGx:aK aU 195 aOX:=Oc aFn rfl aF [] trivial fun a=>by kernel_rfl
def EQ (p0:Int×Int×Int) (p1:Int×Int):Option Bool:=
 some ((p0.2.1==p1.1)&&(p0.2.2==p1.2))
def aOY:bM:=⟨aB.cons (aL.agg (cJ.row eL)) (aB.one (aL.ref (cJ.row jM))),aL.bool,fun a=>EQ a.1 a.2,.pure,false⟩
theorem aGy:aK aU 219 aOY:=Oc aFF rfl aF [] trivial fun a=>by kernel_rfl
def dB (s:OV):Option (cH OV Int):=
 bif decide (s.2.2.2.2<s.2.2.2.1) then
  (aN s.1 s.2.2.2.2).bind fun a0=>
  (EQ a0 (s.2.1,s.2.2.1)).bind fun b1=>
  bif b1 then
   some (.done s.2.2.2.2)
  else
   some (.next (s.1,s.2.1,s.2.2.1,s.2.2.2.1,aA .i64 (s.2.2.2.2+1)))
 else
  some (.done (-1))
def fJ (p0:List (Int×Int×Int)) (p1:(Int×Int)):Option Int:=
 aG dB (p0,p1.1,p1.2,Int.ofNat p0.length,0)
def RR:bM:=⟨aB.cons (aL.sl eL) (aB.one (aL.clo 219 (aB.one (aL.ref (cJ.row jM))))),aL.int .i64,fun a=>fJ a.1 a.2,.pure,false⟩
theorem RS:aK aU 147 RR:=Oc OM rfl aF [(219,aOY)] ⟨aGy,trivial⟩ fun a=>by kernel_rfl
def cC (p0:List (Int×Int×Int)) (p1:(Int×Int)):Option Bool:=
 (fJ p0 p1).bind fun n0=>
 some (decide (0<=n0))
def WT:bM:=⟨aB.cons (aL.sl eL) (aB.one (aL.clo 219 (aB.one (aL.ref (cJ.row jM))))),aL.bool,fun a=>cC a.1 a.2,.pure,false⟩
theorem UB:aK aU 96 WT:=Oc TX rfl aF [(147,RR)] ⟨RS,trivial⟩ fun a=>by kernel_rfl
def F4 (p0:aV) (p1:Int×Int):Option (aV×Int×Int):=
 (qZ p0).bind fun n0=>
 bif n0 !=0 then
  some (aV.mk 0 [],0,n0)
 else
  (vE p1).bind fun b1=>
  bif !b1 then
   some (aV.mk 0 [],0,8)
  else
   (cC p0.list p1).bind fun b2=>
   bif b2 then
    some (aV.mk 0 [],0,14)
   else
    bif (Int.ofNat p0.list.length)==200 then
     some (aV.mk 0 [],0,18)
    else
     bif p0.next_==1000000 then
      some (aV.mk 0 [],0,18)
     else
      (bX p0.list).bind fun l3=>
      (bH l3 [(p0.next_,p1)]).bind fun l4=>
      some (aV.mk (aA .i64 (p0.next_+1)) l4,p0.next_,0)
def aOZ:bM:=⟨aB.cons (aL.agg gG) (aB.one (aL.agg (cJ.row jM))),aL.tup (aB.cons (aL.agg gG) (aB.cons (aL.int .i64) (aB.one (aL.int .i64)))),fun a=>F4 a.1 a.2,.frz,false⟩
theorem aGz:aK aU 196 aOZ:=Oc aFo rfl aF [(91,c91),(141,aMd),(96,WT),(127,bM.clone eL)] ⟨T2,WE,UB,yS,trivial⟩ fun a=>by kernel_rfl
def iE (p0:aP) (p1:Int×Int):Option (aP×Int×Int):=
 (gL p0).bind fun n0=>
 bif n0 !=0 then
  (dC n0).bind fun a1=>
  some a1
 else
  (F4 p0.certs p1).bind fun a2=>
  bif a2.2.2==8 then
   (dC a2.2.2).bind fun a3=>
   some a3
  else
   (jI p0.field p1.1).bind fun a4=>
   bif decide (a4.1<0) then
    (dC 6).bind fun a5=>
    some a5
   else
    (jI p0.field p1.2).bind fun a6=>
    bif decide (a6.1<0) then
     (dC 6).bind fun a7=>
     some a7
    else
     bif a2.2.2 !=0 then
      (dC a2.2.2).bind fun a8=>
      some a8
     else
      (mR p0).bind fun r9=>
      (rC p0.field p1 p0.now).bind fun a10=>
      bif a10.2.2 !=0 then
       (dC a10.2.2).bind fun a11=>
       some a11
      else
       bif a10.2.1 then
        (lA p0.agenda a10.1 a2.2.1).bind fun a12=>
        bif a12.2.2 !=0 then
         (dC a12.2.2).bind fun a13=>
         some a13
        else
         (bH r9.due [(a2.2.1,a12.2.1)]).bind fun l14=>
         some (aP.mk r9.now r9.field a2.1 a12.1 l14,a2.2.1,0)
       else
        some (aP.mk r9.now r9.field a2.1 r9.agenda r9.due,a2.2.1,0)
def aO0:bM:=⟨aB.cons (aL.agg bQ) (aB.one (aL.agg (cJ.row jM))),aL.tup (aB.cons (aL.agg bQ) (aB.cons (aL.int .i64) (aB.one (aL.int .i64)))),fun a=>iE a.1 a.2,.frz,false⟩
theorem aGA:aK aU 161 aO0:=Oc aER rfl aF [(49,c49),(195,aOX),(196,aOZ),(145,aF1),(79,c79),(79,aGi),(93,c93),(194,aMB)] ⟨K4,aGx,aGz,OW,T7,OY,T4,WQ,trivial⟩ fun a=>by kernel_rfl
abbrev aO1:=rD×bN×Int×Int×Int×Int×bN×Int×bN×(List Int)×(List Bool)×(List Int)×jW×(List Int)×bN×bN×Int×Int×Int
abbrev Zt6:=cH aO1 (aP×Int)
abbrev Zt9:=rD×Int×Int×Int×Int×bN×Int×bN×(List Int)×(List Bool)×(List Int)×jW×(List Int)×bN×Int×Int×Int
def eY (s:Zt9):Option (cH Zt9 Zt6):=
 bif decide (s.2.2.1<s.2.1) then
  (aN s.1 s.2.2.1).bind fun a0=>
  (dT s.2.2.2.2.2.2.2.1 a0).bind fun b1=>
  bif b1 then
   some (.next (s.1,s.2.1,aA .i64 (s.2.2.1+1),s.2.2.2))
  else
   (iE (aP.mk (s.2.2.2.1,s.2.2.2.2.1) (Field.mk s.2.2.2.2.2.1) (aV.mk s.2.2.2.2.2.2.1 s.2.2.2.2.2.2.2.1) (aH.mk (aQ.mk s.2.2.2.2.2.2.2.2.1 s.2.2.2.2.2.2.2.2.2.1 s.2.2.2.2.2.2.2.2.2.2.1) s.2.2.2.2.2.2.2.2.2.2.2.1 s.2.2.2.2.2.2.2.2.2.2.2.2.1) s.2.2.2.2.2.2.2.2.2.2.2.2.2.1) a0).bind fun a2=>
   bif a2.2.2 !=0 then
    some (.done (.done (aP.mk (0,0) (Field.mk []) (aV.mk 0 []) (aH.mk (aQ.mk [] [] []) [] []) [],a2.2.2)))
   else
    some (.next (s.1,s.2.1,aA .i64 (s.2.2.1+1),a2.1.now.1,a2.1.now.2,a2.1.field.points,a2.1.certs.next_,a2.1.certs.list,a2.1.agenda.slots.uses,a2.1.agenda.slots.used,a2.1.agenda.slots.free,a2.1.agenda.heap,a2.1.agenda.where_,a2.1.due,s.2.2.2.2.2.2.2.2.2.2.2.2.2.2))
 else
  some (.done (.done (aP.mk (s.2.2.2.1,s.2.2.2.2.1) (Field.mk s.2.2.2.2.2.1) (aV.mk s.2.2.2.2.2.2.1 s.2.2.2.2.2.2.2.1) (aH.mk (aQ.mk s.2.2.2.2.2.2.2.2.1 s.2.2.2.2.2.2.2.2.2.1 s.2.2.2.2.2.2.2.2.2.2.1) s.2.2.2.2.2.2.2.2.2.2.2.1 s.2.2.2.2.2.2.2.2.2.2.2.2.1) s.2.2.2.2.2.2.2.2.2.2.2.2.2.1,0)))
def dX (s:aO1):Option Zt6:=
 match s with
 |(a,b,d,e,f,g,h,i,j,k,l,m,n,o,q,r,t,u,v)=>
  bif decide (e<d) then
   (aN b e).bind fun a0=>
   (fF a a0.2).bind fun b1=>
   bif !b1 then
    (uJ (aP.mk (f,g) (Field.mk h) (aV.mk i j) (aH.mk (aQ.mk k l m) n o) q) a0.1).bind fun a2=>
    some (.next (a,b,d,aA .i64 (e+1),a2.1.now.1,a2.1.now.2,a2.1.field.points,a2.1.certs.next_,a2.1.certs.list,a2.1.agenda.slots.uses,a2.1.agenda.slots.used,a2.1.agenda.slots.free,a2.1.agenda.heap,a2.1.agenda.where_,a2.1.due,(r,t,u,v)))
   else
    some (.next (a,b,d,aA .i64 (e+1),(f,g,h,i,j,k,l,m,n,o,q,r,t,u,v)))
  else
   (iQ h r).bind fun b3=>
   bif !b3 then
    (pC (aP.mk (f,g) (Field.mk h) (aV.mk i j) (aH.mk (aQ.mk k l m) n o) q) (Field.mk r)).bind fun a4=>
    bif a4.2 !=0 then
     some (.done (aP.mk (0,0) (Field.mk []) (aV.mk 0 []) (aH.mk (aQ.mk [] [] []) [] []) [],a4.2))
    else
     aG eY (a,Int.ofNat a.length,0,a4.1.now.1,a4.1.now.2,a4.1.field.points,a4.1.certs.next_,a4.1.certs.list,a4.1.agenda.slots.uses,a4.1.agenda.slots.used,a4.1.agenda.slots.free,a4.1.agenda.heap,a4.1.agenda.where_,a4.1.due,(t,u,v))
   else
    aG eY (a,Int.ofNat a.length,0,f,g,h,i,j,k,l,m,n,o,q,(t,u,v))
def tF (p0:aP) (p1:Field) (p2:List (Int×Int)):Option (aP×Int):=
 aG dX (p2,p0.certs.list,Int.ofNat p0.certs.list.length,0,p0.now.1,p0.now.2,p0.field.points,p0.certs.next_,p0.certs.list,p0.agenda.slots.uses,p0.agenda.slots.used,p0.agenda.slots.free,p0.agenda.heap,p0.agenda.where_,p0.due,p1.points,0,0,0)
def aO2:bM:=⟨aB.cons (aL.agg bQ) (aB.cons (aL.agg bZ) (aB.one (aL.sl jM))),aL.tup (aB.cons (aL.agg bQ) (aB.one (aL.int .i64))),fun a=>tF a.1 a.2.1 a.2.2,.frz,false⟩
theorem aGB:aK aU 110 aO2:=Oc aD9 rfl aF [(95,c95),(157,aOL),(158,aOM),(159,aOV),(96,WR),(161,aO0)] ⟨T5,aGo,aGp,aGv,UA,aGA,trivial⟩ fun a=>by kernel_rfl
abbrev YP:=rD×rD×Int×Int×Int×Int×bN×Int×bN×(List Int)×(List Bool)×(List Int)×jW×(List Int)×bN×bN×Int×Int×Int
abbrev aO3:=cH YP (aP×Int)
abbrev Zt1:=cH YP aO3
def eZ (s:YP):Option (cH YP Zt1):=
 bif decide (s.2.2.2.1<s.2.2.1) then
  (aN s.2.1 s.2.2.2.1).bind fun a0=>
  (vI (Field.mk s.2.2.2.2.2.2.2.2.2.2.2.2.2.2.2.1) a0.1).bind fun a1=>
  (vI (Field.mk s.2.2.2.2.2.2.2.2.2.2.2.2.2.2.2.1) a0.2).bind fun a2=>
  bif a1.2 !=0 then
   some (.done (.done (.done (aP.mk (0,0) (Field.mk []) (aV.mk 0 []) (aH.mk (aQ.mk [] [] []) [] []) [],6))))
  else
   bif a2.2 !=0 then
    some (.done (.done (.done (aP.mk (0,0) (Field.mk []) (aV.mk 0 []) (aH.mk (aQ.mk [] [] []) [] []) [],6))))
   else
    some (.next (s.1,s.2.1,s.2.2.1,aA .i64 (s.2.2.2.1+1),s.2.2.2.2))
 else
  (vK (aP.mk (s.2.2.2.2.1,s.2.2.2.2.2.1) (Field.mk s.2.2.2.2.2.2.1) (aV.mk s.2.2.2.2.2.2.2.1 s.2.2.2.2.2.2.2.2.1) (aH.mk (aQ.mk s.2.2.2.2.2.2.2.2.2.1 s.2.2.2.2.2.2.2.2.2.2.1 s.2.2.2.2.2.2.2.2.2.2.2.1) s.2.2.2.2.2.2.2.2.2.2.2.2.1 s.2.2.2.2.2.2.2.2.2.2.2.2.2.1) s.2.2.2.2.2.2.2.2.2.2.2.2.2.2.1)).bind fun r3=>
  (tF r3 (Field.mk s.2.2.2.2.2.2.2.2.2.2.2.2.2.2.2.1) s.1).bind fun a4=>
  some (.done (.done (.done a4)))
def dY (s:YP):Option Zt1:=
 bif decide (s.2.2.2.1<s.2.2.1) then
  (aN s.2.1 s.2.2.2.1).bind fun a0=>
  (iI s.1 0 s.2.2.2.1).bind fun l1=>
  (fF l1 a0).bind fun b2=>
  bif b2 then
   some (.done (.done (aP.mk (0,0) (Field.mk []) (aV.mk 0 []) (aH.mk (aQ.mk [] [] []) [] []) [],14)))
  else
   some (.next (s.1,s.2.1,s.2.2.1,aA .i64 (s.2.2.2.1+1),s.2.2.2.2))
 else
  aG eZ (s.1,s.1,Int.ofNat s.1.length,0,s.2.2.2.2)
def dZ (s:YP):Option aO3:=
 bif decide (s.2.2.2.1<s.2.2.1) then
  (aN s.2.1 s.2.2.2.1).bind fun a0=>
  bif decide (a0.1<0) then
   some (.done (aP.mk (0,0) (Field.mk []) (aV.mk 0 []) (aH.mk (aQ.mk [] [] []) [] []) [],8))
  else
   bif decide (a0.2<0) then
    some (.done (aP.mk (0,0) (Field.mk []) (aV.mk 0 []) (aH.mk (aQ.mk [] [] []) [] []) [],8))
   else
    bif decide (65535<a0.1) then
     some (.done (aP.mk (0,0) (Field.mk []) (aV.mk 0 []) (aH.mk (aQ.mk [] [] []) [] []) [],8))
    else
     bif decide (65535<a0.2) then
      some (.done (aP.mk (0,0) (Field.mk []) (aV.mk 0 []) (aH.mk (aQ.mk [] [] []) [] []) [],8))
     else
      bif a0.1==a0.2 then
       some (.done (aP.mk (0,0) (Field.mk []) (aV.mk 0 []) (aH.mk (aQ.mk [] [] []) [] []) [],8))
      else
       some (.next (s.1,s.2.1,s.2.2.1,aA .i64 (s.2.2.2.1+1),s.2.2.2.2))
 else
  aG dY (s.1,s.1,Int.ofNat s.1.length,0,s.2.2.2.2)
def pD (p0:aP) (p1:Field) (p2:List (Int×Int)):Option (aP×Int):=
 (gL p0).bind fun n0=>
 bif n0 !=0 then
  some (aP.mk (0,0) (Field.mk []) (aV.mk 0 []) (aH.mk (aQ.mk [] [] []) [] []) [],n0)
 else
  (eS p1).bind fun n1=>
  bif n1 !=0 then
   some (aP.mk (0,0) (Field.mk []) (aV.mk 0 []) (aH.mk (aQ.mk [] [] []) [] []) [],n1)
  else
   aG dZ (p2,p2,Int.ofNat p2.length,0,p0.now.1,p0.now.2,p0.field.points,p0.certs.next_,p0.certs.list,p0.agenda.slots.uses,p0.agenda.slots.used,p0.agenda.slots.free,p0.agenda.heap,p0.agenda.where_,p0.due,p1.points,0,0,0)
def c60:bM:=⟨aB.cons (aL.agg bQ) (aB.cons (aL.agg bZ) (aB.one (aL.sl jM))),aL.tup (aB.cons (aL.agg bQ) (aB.one (aL.int .i64))),fun a=>pD a.1 a.2.1 a.2.2,.frz,false⟩
theorem aMC:aK aU 60 c60:=Oc aLA rfl aF [(49,c49),(84,c84),(95,c95),(109,aOz),(111,aOA),(111,aHW),(110,aO2)] ⟨K4,K3,T5,aGd,aGe,aAG,aGB,trivial⟩ fun a=>by kernel_rfl
def cW (p0:dL) (p1:Int):Option (dL×Int):=
 (uI p0).bind fun n0=>
 bif n0 !=0 then
  some (dL.mk (aP.mk (0,0) (Field.mk []) (aV.mk 0 []) (aH.mk (aQ.mk [] [] []) [] []) []) (oA.mk 0 []),n0)
 else
  (pX p0.clock.field p1).bind fun a1=>
  bif a1.2 !=0 then
   some (dL.mk (aP.mk (0,0) (Field.mk []) (aV.mk 0 []) (aH.mk (aQ.mk [] [] []) [] []) []) (oA.mk 0 []),a1.2)
  else
   (yR a1.1 p0.clock.now).bind fun a2=>
   (wS a2.1).bind fun l3=>
   (pD p0.clock a1.1 l3).bind fun a4=>
   bif a4.2 !=0 then
    some (dL.mk (aP.mk (0,0) (Field.mk []) (aV.mk 0 []) (aH.mk (aQ.mk [] [] []) [] []) []) (oA.mk 0 []),a4.2)
   else
    some (dL.mk a4.1 a2.1,0)
def aAK:bM:=⟨aB.cons (aL.agg fE) (aB.one (aL.clo 29 (aB.one (aL.ref (cJ.int .i64))))),aL.tup (aB.cons (aL.agg fE) (aB.one (aL.int .i64))),fun a=>cW a.1 a.2,.frz,false⟩
theorem YQ:aK aU 28 aAK:=Oc aLf rfl aF [(22,c22),(29,c29),(59,c59),(61,c61),(60,c60)] ⟨aMr,aMt,aAC,aMv,aMC,trivial⟩ fun a=>by kernel_rfl
def oU (p0:dL) (p1:Int):Option (dL×Int):=
 (cW p0 p1).bind fun a0=>
 some a0
def c8:bM:=⟨aB.cons (aL.agg fE) (aB.one (aL.int .i64)),aL.tup (aB.cons (aL.agg fE) (aB.one (aL.int .i64))),fun a=>oU a.1 a.2,.frz,false⟩
theorem aO4:aK aU 8 c8:=Oc aNR rfl aF [(28,aAK)] ⟨YQ,trivial⟩ fun a=>by kernel_rfl
def hH (p0:Int):Option Int:=
 bif decide (p0<0) then
  some (aA .u64 ((aA .u64 (aA .i64 (0- (aA .i64 (p0+1)))))+1))
 else
  some (aA .u64 p0)
def c88:bM:=⟨aB.one (aL.int .i64),aL.int .u64,fun a=>hH a,.pure,false⟩
theorem UC:aK aU 88 c88:=Oc aLW rfl aF [] trivial fun a=>by kernel_rfl
def oJ (s:(Int×Int)):Option (cH (Int×Int) Int):=
 bif s.2 !=0 then
  bif s.2==0 then
   none
  else
   some (.next (s.2,Int.tmod s.1 s.2))
 else
  some (.done s.1)
def qA (p0:Int) (p1:Int):Option Int:=
 aG oJ (p0,p1)
def c87:bM:=⟨aB.cons (aL.int .u64) (aB.one (aL.int .u64)),aL.int .u64,fun a=>qA a.1 a.2,.pure,false⟩
theorem aAL:aK aU 87 c87:=Oc aLV rfl aF [] trivial fun a=>by kernel_rfl
def tG (p0:Int×Int):Option Int:=
 bif decide (p0.2<1) then
  some 8
 else
  bif p0.1==(-9223372036854775808) then
   some 8
  else
   (hH p0.1).bind fun n0=>
   (qA n0 (aA .u64 p0.2)).bind fun n1=>
   bif n1 !=1 then
    some 8
   else
    some 0
def c45:bM:=⟨aB.one (aL.agg (cJ.row jM)),aL.int .i64,fun a=>tG a,.pure,false⟩
theorem aAM:aK aU 45 c45:=Oc aLq rfl aF [(88,c88),(87,c87)] ⟨UC,aAL,trivial⟩ fun a=>by kernel_rfl
def wU (p0:Int×Int×Int):Option Int:=
 bif decide (p0.1<0) then
  some 8
 else
  bif decide (65535<p0.1) then
   some 8
  else
   bif decide (p0.2.1<(-1048576)) then
    some 8
   else
    bif decide (1048576<p0.2.1) then
     some 8
    else
     bif decide (p0.2.2<(-1048576)) then
      some 8
     else
      bif decide (1048576<p0.2.2) then
       some 8
      else
       some 0
def c86:bM:=⟨aB.one (aL.agg (cJ.row eL)),aL.int .i64,fun a=>wU a,.pure,false⟩
theorem aMD:aK aU 86 c86:=Oc aLU rfl aF [] trivial fun a=>by kernel_rfl
abbrev O0:=Int×bN
def iR (s:O0):Option (cH O0 (cH O0 Int)):=
 bif decide (s.1<(Int.ofNat s.2.length)) then
  (aN s.2 (aA .i64 (s.1-1))).bind fun a0=>
  (aN s.2 s.1).bind fun a1=>
  bif decide (a1.1<=a0.1) then
   some (.done (.done 32))
  else
   some (.next (aA .i64 (s.1+1),s.2))
 else
  some (.done (.done 0))
def mS (s:O0):Option (cH O0 Int):=
 bif decide (s.1<(Int.ofNat s.2.length)) then
  (aN s.2 s.1).bind fun a0=>
  (wU a0).bind fun n1=>
  bif n1 !=0 then
   some (.done 8)
  else
   some (.next (aA .i64 (s.1+1),s.2))
 else
  aG iR (1,s.2)
def mT (p0:Field):Option Int:=
 bif decide (64<(Int.ofNat p0.points.length)) then
  some 4
 else
  aG mS (0,p0.points)
def c44:bM:=⟨aB.one (aL.agg bZ),aL.int .i64,fun a=>mT a,.pure,false⟩
theorem aAN:aK aU 44 c44:=Oc aLp rfl aF [(86,c86)] ⟨aMD,trivial⟩ fun a=>by kernel_rfl
def vM (p0:Int×Int):Option Bool:=
 bif decide (0<=p0.1) then
  bif decide (p0.1<=65535) then
   bif decide (0<=p0.2) then
    bif decide (p0.2<=65535) then
     some (p0.1 !=p0.2)
    else
     some false
   else
    some false
  else
   some false
 else
  some false
def aME:bM:=⟨aB.one (aL.agg (cJ.row jM)),aL.bool,fun a=>vM a,.pure,false⟩
theorem WU:aK aU 148 aME:=Oc aEE rfl aF [] trivial fun a=>by kernel_rfl
abbrev aMF:=cH YL Int
def fS (s:(Int×Int×Int×bN×Int×Int×Int)):Option (cH (Int×Int×Int×bN×Int×Int×Int) aMF):=
 bif decide (s.2.1<s.1) then
  (aN s.2.2.2.1 s.2.1).bind fun a0=>
  bif (a0.2.1==s.2.2.2.2.2.1)&&(a0.2.2==s.2.2.2.2.2.2) then
   some (.done (.done 8))
  else
   some (.next (s.1,aA .i64 (s.2.1+1),s.2.2))
 else
  some (.done (.next (aA .i64 (s.1+1),s.2.2.1,s.2.2.2.1)))
def qB (s:YL):Option aMF:=
 bif decide (s.1<(Int.ofNat s.2.2.length)) then
  (aN s.2.2 s.1).bind fun a0=>
  (vM a0.2).bind fun b1=>
  bif !b1 then
   some (.done 8)
  else
   bif decide (a0.1<0) then
    some (.done 8)
   else
    bif decide (s.2.1<=a0.1) then
     some (.done 8)
    else
     bif decide (0<s.1) then
      (aN s.2.2 (aA .i64 (s.1-1))).bind fun a2=>
      bif decide (a0.1<=a2.1) then
       some (.done 8)
      else
       aG fS (s.1,0,s.2.1,s.2.2,a0)
     else
      aG fS (s.1,0,s.2.1,s.2.2,a0)
 else
  some (.done 0)
def tH (p0:aV):Option Int:=
 bif decide (200<(Int.ofNat p0.list.length)) then
  some 8
 else
  bif decide (p0.next_<0) then
   some 8
  else
   bif decide (1000000<p0.next_) then
    some 8
   else
    aG qB (0,p0.next_,p0.list)
def c97:bM:=⟨aB.one (aL.agg gG),aL.int .i64,fun a=>tH a,.pure,false⟩
theorem aAO:aK aU 97 c97:=Oc aL2 rfl aF [(148,aME)] ⟨WU,trivial⟩ fun a=>by kernel_rfl
def tI (s:YL):Option aMF:=
 bif decide (s.2.1<(Int.ofNat s.2.2.length)) then
  (aN s.2.2 s.2.1).bind fun a0=>
  bif a0.1==s.1 then
   some (.done s.2.1)
  else
   some (.next (s.1,aA .i64 (s.2.1+1),s.2.2))
 else
  some (.done (-1))
def iS (p0:Field) (p1:Int):Option Int:=
 aG tI (p1,0,p0.points)
def c65:bM:=⟨aB.cons (aL.agg bZ) (aB.one (aL.int .i64)),aL.int .i64,fun a=>iS a.1 a.2,.pure,false⟩
theorem O1:aK aU 65 c65:=Oc aLF rfl aF [] trivial fun a=>by kernel_rfl
abbrev aGC:=Int×Int×bN×bN
def qC (s:aGC):Option (cH aGC Bool):=
 bif decide (s.1<(Int.ofNat s.2.2.1.length)) then
  (aN s.2.2.1 s.1).bind fun a0=>
  (iS (Field.mk s.2.2.2) a0.2.1).bind fun n1=>
  bif decide (n1<0) then
   some (.done false)
  else
   (aN s.2.2.1 s.1).bind fun a2=>
   (iS (Field.mk s.2.2.2) a2.2.2).bind fun n3=>
   bif decide (n3<0) then
    some (.done false)
   else
    some (.next (aA .i64 (s.1+1),s.2))
 else
  some (.done true)
def wV (p0:aV) (p1:Field):Option Bool:=
 aG qC (0,p0.next_,p0.list,p1.points)
def c98:bM:=⟨aB.cons (aL.agg gG) (aB.one (aL.agg bZ)),aL.bool,fun a=>wV a.1 a.2,.pure,false⟩
theorem aMG:aK aU 98 c98:=Oc aL3 rfl aF [(65,c65)] ⟨O1,trivial⟩ fun a=>by kernel_rfl
abbrev aAP:=Int×Int×(List Int)×(List Bool)×(List Int)×(List Bool)
def kK (s:aAP):Option (cH aAP (cH aAP Int)):=
 bif decide (s.2.1<s.1) then
  (aN s.2.2.1 s.2.1).bind fun n0=>
  bif decide (n0<0) then
   some (.done (.done 8))
  else
   (aN s.2.2.1 s.2.1).bind fun n1=>
   bif decide (1000000<n1) then
    some (.done (.done 8))
   else
    (aN s.2.2.2.1 s.2.1).bind fun b2=>
    (aN s.2.2.2.2.2 s.2.1).bind fun b3=>
    bif b2==b3 then
     some (.done (.done 8))
    else
     (aN s.2.2.2.1 s.2.1).bind fun b4=>
     bif b4 then
      (aN s.2.2.1 s.2.1).bind fun n5=>
      bif decide (n5<1) then
       some (.done (.done 8))
      else
       some (.next (s.1,aA .i64 (s.2.1+1),s.2.2))
     else
      some (.next (s.1,aA .i64 (s.2.1+1),s.2.2))
 else
  some (.done (.done 0))
def qD (s:aAP):Option (cH aAP Int):=
 bif decide (s.2.1<(Int.ofNat s.2.2.2.2.1.length)) then
  (aN s.2.2.2.2.1 s.2.1).bind fun n0=>
  bif decide (n0<0) then
   some (.done 8)
  else
   (aN s.2.2.2.2.1 s.2.1).bind fun n1=>
   bif decide (s.1<=n1) then
    some (.done 8)
   else
    (aN s.2.2.2.2.1 s.2.1).bind fun n2=>
    (aN s.2.2.2.2.2 n2).bind fun b3=>
    bif b3 then
     some (.done 8)
    else
     (aN s.2.2.2.2.1 s.2.1).bind fun n4=>
     (aN s.2.2.2.2.2 n4).bind fun _=>
     some (.next (s.1,aA .i64 (s.2.1+1),s.2.2.1,s.2.2.2.1,s.2.2.2.2.1,bU s.2.2.2.2.2 n4 true))
 else
  aG kK (s.1,0,s.2.2)
def wW (p0:aQ):Option Int:=
 bif decide ((Int.ofNat p0.uses.length)<1) then
  some 8
 else
  bif decide (200<(Int.ofNat p0.uses.length)) then
   some 8
  else
   bif (Int.ofNat p0.used.length) !=(Int.ofNat p0.uses.length) then
    some 8
   else
    bif decide ((Int.ofNat p0.uses.length)<(Int.ofNat p0.free.length)) then
     some 8
    else
     bif (Int.ofNat p0.uses.length)==(Int.ofNat p0.uses.length) then
      (BS (Int.ofNat p0.uses.length) (false:Bool)).bind fun l0=>
      aG qD (Int.ofNat p0.uses.length,0,p0.uses,p0.used,p0.free,l0)
     else
      none
def aO6:bM:=⟨aB.one (aL.agg fY),aL.int .i64,fun a=>wW a,.pure,false⟩
theorem aGD:aK aU 149 aO6:=Oc aEF rfl aF [] trivial fun a=>by kernel_rfl
def vN (p0:aQ) (p1:Int×Int):Option Bool:=
 bif decide (0<=p1.1) then
  bif decide (p1.1<(Int.ofNat p0.uses.length)) then
   (aN p0.used p1.1).bind fun b0=>
   bif b0 then
    (aN p0.uses p1.1).bind fun n1=>
    some (n1==p1.2)
   else
    some false
  else
   some false
 else
  some false
def aMH:bM:=⟨aB.cons (aL.agg fY) (aB.one (aL.agg (cJ.row jM))),aL.bool,fun a=>vN a.1 a.2,.pure,false⟩
theorem WV:aK aU 153 aMH:=Oc aEJ rfl aF [] trivial fun a=>by kernel_rfl
abbrev aMI:=Int×Int×(List Int)×(List Bool)×(List Int)×jW×(List Int)
def oK (s:aMI):Option (cH aMI Bool):=
 bif decide (s.2.1<s.1) then
  (aN s.2.2.2.1 s.2.1).bind fun b0=>
  bif !b0 then
   (aN s.2.2.2.2.2.2 s.2.1).bind fun n1=>
   bif n1 !=(-1) then
    some (.done false)
   else
    some (.next (s.1,aA .i64 (s.2.1+1),s.2.2))
  else
   (aN s.2.2.2.2.2.2 s.2.1).bind fun n2=>
   bif decide (n2<0) then
    some (.done false)
   else
    bif decide ((Int.ofNat s.2.2.2.2.2.1.length)<=n2) then
     some (.done false)
    else
     (aN s.2.2.2.2.2.1 n2).bind fun a3=>
     bif a3.2.2.2.1 !=s.2.1 then
      some (.done false)
     else
      (aN s.2.2.2.2.2.1 n2).bind fun a4=>
      (vN (aQ.mk s.2.2.1 s.2.2.2.1 s.2.2.2.2.1) a4.2.2.2).bind fun b5=>
      bif !b5 then
       some (.done false)
      else
       some (.next (s.1,aA .i64 (s.2.1+1),s.2.2))
 else
  some (.done true)
def uL (p0:aH):Option Bool:=
 bif (Int.ofNat p0.where_.length) !=(Int.ofNat p0.slots.uses.length) then
  some false
 else
  bif (Int.ofNat p0.heap.length) !=(aA .i64 ((Int.ofNat p0.slots.uses.length) - (Int.ofNat p0.slots.free.length))) then
   some false
  else
   aG oK (Int.ofNat p0.slots.uses.length,0,p0.slots.uses,p0.slots.used,p0.slots.free,p0.heap,p0.where_)
def aO7:bM:=⟨aB.one (aL.agg cY),aL.bool,fun a=>uL a,.pure,false⟩
theorem aGE:aK aU 150 aO7:=Oc aEG rfl aF [(153,aMH)] ⟨WV,trivial⟩ fun a=>by kernel_rfl
def rZ (p0:Int) (p1:Int):Option (Bool×Int×Int):=
 some (false,aA .u64 ((aA .u64 ((aA .u64 ((aA .u64 (Int.tdiv p0 4294967296))*(aA .u64 (Int.tdiv p1 4294967296))))+(aA .u64 (Int.tdiv (aA .u64 ((aA .u64 ((aA .u64 (Int.tdiv p0 4294967296))*(Int.tmod p1 4294967296)))+(aA .u64 (Int.tdiv (aA .u64 ((Int.tmod p0 4294967296)*(Int.tmod p1 4294967296))) 4294967296)))) 4294967296))))+(aA .u64 (Int.tdiv (aA .u64 ((aA .u64 ((Int.tmod p0 4294967296)*(aA .u64 (Int.tdiv p1 4294967296))))+(Int.tmod (aA .u64 ((aA .u64 ((aA .u64 (Int.tdiv p0 4294967296))*(Int.tmod p1 4294967296)))+(aA .u64 (Int.tdiv (aA .u64 ((Int.tmod p0 4294967296)*(Int.tmod p1 4294967296))) 4294967296)))) 4294967296))) 4294967296))),aA .u64 ((aA .u64 ((Int.tmod (aA .u64 ((aA .u64 ((Int.tmod p0 4294967296)*(aA .u64 (Int.tdiv p1 4294967296))))+(Int.tmod (aA .u64 ((aA .u64 ((aA .u64 (Int.tdiv p0 4294967296))*(Int.tmod p1 4294967296)))+(aA .u64 (Int.tdiv (aA .u64 ((Int.tmod p0 4294967296)*(Int.tmod p1 4294967296))) 4294967296)))) 4294967296))) 4294967296)*4294967296))+(Int.tmod (aA .u64 ((Int.tmod p0 4294967296)*(Int.tmod p1 4294967296))) 4294967296)))
def aO8:bM:=⟨aB.cons (aL.int .u64) (aB.one (aL.int .u64)),aL.agg (cJ.row B2),fun a=>rZ a.1 a.2,.pure,false⟩
theorem aGF:aK aU 180 aO8:=Oc aE9 rfl aF [] trivial fun a=>by kernel_rfl
def jO (p0:Int) (p1:Int):Option (Bool×Int×Int):=
 (hH p0).bind fun n0=>
 (hH p1).bind fun n1=>
 (rZ n0 n1).bind fun a2=>
 bif !((decide (p0<0))==(decide (p1<0))) then
  bif p0 !=0 then
   some (p1 !=0,a2.2)
  else
   some (false,a2.2)
 else
  some (false,a2.2)
def aMJ:bM:=⟨aB.cons (aL.int .i64) (aB.one (aL.int .i64)),aL.agg (cJ.row B2),fun a=>jO a.1 a.2,.pure,false⟩
theorem WW:aK aU 132 aMJ:=Oc aEt rfl aF [(88,c88),(180,aO8)] ⟨UC,aGF,trivial⟩ fun a=>by kernel_rfl
def lL (p0:Bool×Int×Int):Option Int:=
 bif p0.2.1==0 then
  bif p0.2.2==0 then
   some 0
  else
   bif p0.1 then
    some (-1)
   else
    some 1
 else
  bif p0.1 then
   some (-1)
  else
   some 1
def aMK:bM:=⟨aB.one (aL.agg (cJ.row B2)),aL.int .i64,fun a=>lL a,.pure,false⟩
theorem WX:aK aU 133 aMK:=Oc aEu rfl aF [] trivial fun a=>by kernel_rfl
def rF (p0:Bool×Int×Int) (p1:Bool×Int×Int):Option Int:=
 bif p0.2.1 !=p1.2.1 then
  bif decide (p0.2.1<p1.2.1) then
   some (-1)
  else
   some 1
 else
  bif p0.2.2 !=p1.2.2 then
   bif decide (p0.2.2<p1.2.2) then
    some (-1)
   else
    some 1
  else
   some 0
def aML:bM:=⟨aB.cons (aL.agg (cJ.row B2)) (aB.one (aL.agg (cJ.row B2))),aL.int .i64,fun a=>rF a.1 a.2,.pure,false⟩
theorem WY:aK aU 134 aML:=Oc aEv rfl aF [] trivial fun a=>by kernel_rfl
def sA (p0:Int×Int) (p1:Int×Int):Option Int:=
 (jO p0.1 p1.2).bind fun a0=>
 (jO p1.1 p0.2).bind fun a1=>
 (lL a0).bind fun n2=>
 (lL a1).bind fun n3=>
 bif n2 !=n3 then
  (lL a0).bind fun n4=>
  (lL a1).bind fun n5=>
  bif decide (n4<n5) then
   some (-1)
  else
   some 1
 else
  (lL a0).bind fun n6=>
  bif decide (n6<0) then
   (rF a1 a0).bind fun n7=>
   some n7
  else
   (rF a0 a1).bind fun n8=>
   some n8
def c80:bM:=⟨aB.cons (aL.agg (cJ.row jM)) (aB.one (aL.agg (cJ.row jM))),aL.int .i64,fun a=>sA a.1 a.2,.pure,false⟩
theorem aMM:aK aU 80 c80:=Oc aLS rfl aF [(132,aMJ),(133,aMK),(134,aML)] ⟨WW,WX,WY,trivial⟩ fun a=>by kernel_rfl
def eA (p0:Int×Int×Int×Int×Int) (p1:Int×Int×Int×Int×Int):Option Bool:=
 (sA (p0.1,p0.2.1) (p1.1,p1.2.1)).bind fun n0=>
 bif decide (n0<0) then
  some true
 else
  bif n0==0 then
   some (decide (p0.2.2.1<p1.2.2.1))
  else
   some false
def UD:bM:=⟨aB.cons (aL.agg (cJ.row lH)) (aB.one (aL.agg (cJ.row lH))),aL.bool,fun a=>eA a.1 a.2,.pure,false⟩
theorem C5:aK aU 151 UD:=Oc aEH rfl aF [(80,c80)] ⟨aMM,trivial⟩ fun a=>by kernel_rfl
abbrev aO9:=Int×Int×(List Int)×(List Bool)×(List Int)×jW×(List Int)×Int×Int×Int×Int×Int
abbrev F5:=Int×(List Int)×(List Bool)×(List Int)×jW×(List Int)
abbrev aMN:=cH F5 Int
def kL (s:aO9):Option (cH aO9 aMN):=
 bif decide (s.2.1<s.1) then
  (aN s.2.2.2.2.2.1 s.2.1).bind fun a0=>
  bif a0.2.2.1==s.2.2.2.2.2.2.2.2.2.1 then
   some (.done (.done 8))
  else
   some (.next (s.1,aA .i64 (s.2.1+1),s.2.2))
 else
  some (.done (.next (aA .i64 (s.1+1),s.2.2.1,s.2.2.2.1,s.2.2.2.2.1,s.2.2.2.2.2.1,s.2.2.2.2.2.2.1)))
def kM (s:F5):Option (cH F5 aMN):=
 bif decide (s.1<(Int.ofNat s.2.2.2.2.1.length)) then
  (aN s.2.2.2.2.1 s.1).bind fun a0=>
  (aN s.2.2.2.2.1 (aA .i64 (Int.tdiv (aA .i64 (s.1-1)) 2))).bind fun a1=>
  (eA a0 a1).bind fun b2=>
  bif b2 then
   some (.done (.done 8))
  else
   some (.next (aA .i64 (s.1+1),s.2))
 else
  some (.done (.done 0))
def qE (s:F5):Option aMN:=
 bif decide (s.1<(Int.ofNat s.2.2.2.2.1.length)) then
  (aN s.2.2.2.2.1 s.1).bind fun a0=>
  (tG (a0.1,a0.2.1)).bind fun n1=>
  bif n1 !=0 then
   some (.done 8)
  else
   bif decide (a0.2.2.1<0) then
    some (.done 8)
   else
    bif decide (1000000<a0.2.2.1) then
     some (.done 8)
    else
     aG kL (s.1,0,s.2.1,s.2.2.1,s.2.2.2.1,s.2.2.2.2.1,s.2.2.2.2.2,a0)
 else
  aG kM (1,s.2)
def tJ (p0:aH):Option Int:=
 (wW p0.slots).bind fun n0=>
 bif n0 !=0 then
  some 8
 else
  (uL p0).bind fun b1=>
  bif !b1 then
   some 8
  else
   aG qE (0,p0.slots.uses,p0.slots.used,p0.slots.free,p0.heap,p0.where_)
def c99:bM:=⟨aB.one (aL.agg cY),aL.int .i64,fun a=>tJ a,.pure,false⟩
theorem aAQ:aK aU 99 c99:=Oc aL4 rfl aF [(149,aO6),(150,aO7),(45,c45),(151,UD)] ⟨aGD,aGE,aAM,C5,trivial⟩ fun a=>by kernel_rfl
def tK (p0:Bool×Int×Int) (p1:Bool×Int×Int):Option (Bool×Int×Int):=
 bif decide (p0.2.2<p1.2.2) then
  some (false,aA .u64 ((aA .u64 (p0.2.1-p1.2.1)) -1),aA .u64 (p0.2.2-p1.2.2))
 else
  some (false,aA .u64 (p0.2.1-p1.2.1),aA .u64 (p0.2.2-p1.2.2))
def aPa:bM:=⟨aB.cons (aL.agg (cJ.row B2)) (aB.one (aL.agg (cJ.row B2))),aL.agg (cJ.row B2),fun a=>tK a.1 a.2,.pure,false⟩
theorem aGG:aK aU 223 aPa:=Oc aFH rfl aF [] trivial fun a=>by kernel_rfl
def AE (p0:Bool×Int×Int) (p1:Bool×Int×Int):Option (Bool×Int×Int):=
 bif p0.1==p1.1 then
  bif decide ((aA .u64 (p0.2.2+p1.2.2))<p0.2.2) then
   some (p0.1,aA .u64 ((aA .u64 (p0.2.1+p1.2.1))+1),aA .u64 (p0.2.2+p1.2.2))
  else
   some (p0.1,aA .u64 (p0.2.1+p1.2.1),aA .u64 (p0.2.2+p1.2.2))
 else
  (rF p0 p1).bind fun n0=>
  bif decide (0<=n0) then
   (tK p0 p1).bind fun a1=>
   bif p0.1 then
    bif decide (0<a1.2.1) then
     some (true,a1.2)
    else
     some (decide (0<a1.2.2),a1.2)
   else
    some (false,a1.2)
  else
   (tK p1 p0).bind fun a2=>
   some (p1.1,a2.2)
def aPb:bM:=⟨aB.cons (aL.agg (cJ.row B2)) (aB.one (aL.agg (cJ.row B2))),aL.agg (cJ.row B2),fun a=>AE a.1 a.2,.pure,false⟩
theorem aGH:aK aU 210 aPb:=Oc aFw rfl aF [(134,aML),(223,aPa)] ⟨WY,aGG,trivial⟩ fun a=>by kernel_rfl
def C6 (p0:Int×Int×Int) (p1:Int×Int×Int) (p2:Int×Int):Option Int:=
 (jO (aA .i64 (p0.2.1-p1.2.1)) p2.2).bind fun a0=>
 (jO (aA .i64 (p0.2.2-p1.2.2)) p2.1).bind fun a1=>
 (AE a0 a1).bind fun a2=>
 (lL a2).bind fun n3=>
 some n3
def aPc:bM:=⟨aB.cons (aL.agg (cJ.row eL)) (aB.cons (aL.agg (cJ.row eL)) (aB.one (aL.agg (cJ.row jM)))),aL.int .i64,fun a=>C6 a.1 a.2.1 a.2.2,.pure,false⟩
theorem aGI:aK aU 183 aPc:=Oc aFb rfl aF [(132,aMJ),(210,aPb),(133,aMK)] ⟨WW,aGH,WX,trivial⟩ fun a=>by kernel_rfl
def pE (p0:Int×Int×Int) (p1:Int×Int×Int) (p2:Int×Int):Option Bool:=
 (C6 p0 p1 p2).bind fun n0=>
 bif n0 !=0 then
  some (decide (0<n0))
 else
  bif p0.2.2 !=p1.2.2 then
   some (decide (p1.2.2<p0.2.2))
  else
   some (decide (p0.1<p1.1))
def aGJ:bM:=⟨aB.cons (aL.agg (cJ.row eL)) (aB.cons (aL.agg (cJ.row eL)) (aB.one (aL.agg (cJ.row jM)))),aL.bool,fun a=>pE a.1 a.2.1 a.2.2,.pure,false⟩
theorem O2:aK aU 140 aGJ:=Oc aEx rfl aF [(183,aPc)] ⟨aGI,trivial⟩ fun a=>by kernel_rfl
def rG (p0:Bool) (p1:Bool×Int×Int) (p2:Bool×Int×Int):Option ((Int×Int)×Int):=
 bif decide (0<p1.2.1) then
  some ((0,0),16)
 else
  bif decide (9223372036854775807<p1.2.2) then
   some ((0,0),16)
  else
   bif decide (0<p2.2.1) then
    some ((0,0),16)
   else
    bif decide (9223372036854775807<p2.2.2) then
     some ((0,0),16)
    else
     bif p0 then
      some ((aA .i64 (0- (aA .i64 p1.2.2)),aA .i64 p2.2.2),0)
     else
      some ((aA .i64 p1.2.2,aA .i64 p2.2.2),0)
def aPd:bM:=⟨aB.cons aL.bool (aB.cons (aL.agg (cJ.row B2)) (aB.one (aL.agg (cJ.row B2)))),aL.tup (aB.cons (aL.agg (cJ.row jM)) (aB.one (aL.int .i64))),fun a=>rG a.1 a.2.1 a.2.2,.pure,false⟩
theorem aGK:aK aU 225 aPd:=Oc aFJ rfl aF [] trivial fun a=>by kernel_rfl
def mU (p0:Int) (p1:Int):Option ((Int×Int)×Int):=
 bif p1==0 then
  some ((0,0),26)
 else
  (hH p0).bind fun n0=>
  (hH p1).bind fun n1=>
  (qA n0 n1).bind fun n2=>
  bif !((decide (p0<0))==(decide (p1<0))) then
   (hH p0).bind fun n3=>
   bif n2==0 then
    none
   else
    (hH p1).bind fun n4=>
    bif n2==0 then
     none
    else
     (rG (p0 !=0) (false,0,aA .u64 (Int.tdiv n3 n2)) (false,0,aA .u64 (Int.tdiv n4 n2))).bind fun a5=>
     some a5
  else
   (hH p0).bind fun n6=>
   bif n2==0 then
    none
   else
    (hH p1).bind fun n7=>
    bif n2==0 then
     none
    else
     (rG false (false,0,aA .u64 (Int.tdiv n6 n2)) (false,0,aA .u64 (Int.tdiv n7 n2))).bind fun a8=>
     some a8
def aPe:bM:=⟨aB.cons (aL.int .i64) (aB.one (aL.int .i64)),aL.tup (aB.cons (aL.agg (cJ.row jM)) (aB.one (aL.int .i64))),fun a=>mU a.1 a.2,.pure,false⟩
theorem aGL:aK aU 214 aPe:=Oc aFA rfl aF [(88,c88),(87,c87),(225,aPd)] ⟨UC,aAL,aGK,trivial⟩ fun a=>by kernel_rfl
def C7 (p0:Int×Int×Int) (p1:Int×Int×Int):Option (Int×Int):=
 (mU (aA .i64 (p0.2.1-p1.2.1)) (aA .i64 (p1.2.2-p0.2.2))).bind fun a0=>
 some a0.1
def aPf:bM:=⟨aB.cons (aL.agg (cJ.row eL)) (aB.one (aL.agg (cJ.row eL))),aL.agg (cJ.row jM),fun a=>C7 a.1 a.2,.pure,false⟩
theorem aGM:aK aU 190 aPf:=Oc aFi rfl aF [(214,aPe)] ⟨aGL,trivial⟩ fun a=>by kernel_rfl
def sB (p0:Int×Int×Int) (p1:Int×Int×Int) (p2:Int×Int):Option ((Int×Int)×Bool):=
 (pE p1 p0 p2).bind fun b0=>
 bif b0 then
  some (p2,true)
 else
  bif decide (p0.2.2<p1.2.2) then
   (C7 p0 p1).bind fun a1=>
   some (a1,true)
  else
   some ((0,0),false)
def aPg:bM:=⟨aB.cons (aL.agg (cJ.row eL)) (aB.cons (aL.agg (cJ.row eL)) (aB.one (aL.agg (cJ.row jM)))),aL.tup (aB.cons (aL.agg (cJ.row jM)) (aB.one aL.bool)),fun a=>sB a.1 a.2.1 a.2.2,.pure,false⟩
theorem aGN:aK aU 152 aPg:=Oc aEI rfl aF [(140,aGJ),(190,aPf)] ⟨O2,aGM,trivial⟩ fun a=>by kernel_rfl
def rH (p0:Field) (p1:Int×Int) (p2:Int×Int):Option ((Int×Int)×Bool):=
 (iS p0 p1.2).bind fun n0=>
 (aN p0.points n0).bind fun a1=>
 (iS p0 p1.1).bind fun n2=>
 (aN p0.points n2).bind fun a3=>
 (sB a1 a3 p2).bind fun a4=>
 some a4
def aGO:bM:=⟨aB.cons (aL.agg bZ) (aB.cons (aL.agg (cJ.row jM)) (aB.one (aL.agg (cJ.row jM)))),aL.tup (aB.cons (aL.agg (cJ.row jM)) (aB.one aL.bool)),fun a=>rH a.1 a.2.1 a.2.2,.pure,false⟩
theorem O3:aK aU 100 aGO:=Oc aD0 rfl aF [(65,c65),(152,aPg)] ⟨O1,aGN,trivial⟩ fun a=>by kernel_rfl
def vO (p0:aH) (p1:Int×Int):Option ((Int×Int×Int×Int×Int)×Int):=
 (tJ p0).bind fun n0=>
 bif n0 !=0 then
  some ((0,0,0,0,0),8)
 else
  (vN p0.slots p1).bind fun b1=>
  bif !b1 then
   some ((0,0,0,0,0),6)
  else
   (aN p0.where_ p1.1).bind fun n2=>
   (aN p0.heap n2).bind fun a3=>
   some (a3,0)
def aPh:bM:=⟨aB.cons (aL.agg cY) (aB.one (aL.agg (cJ.row jM))),aL.tup (aB.cons (aL.agg (cJ.row lH)) (aB.one (aL.int .i64))),fun a=>vO a.1 a.2,.pure,false⟩
theorem aGP:aK aU 101 aPh:=Oc aD1 rfl aF [(99,c99),(153,aMH)] ⟨aAQ,WV,trivial⟩ fun a=>by kernel_rfl
abbrev aMO:=Int×Int×Int×Int×bN×Int×bN×(List Int)×(List Bool)×(List Int)×jW×(List Int)×bN
abbrev aPi:=cH aMO Int
def dE (s:aMO):Option aPi:=
 bif decide (s.2.1<(Int.ofNat s.2.2.2.2.2.2.1.length)) then
  (aN s.2.2.2.2.2.2.1 s.2.1).bind fun a0=>
  (rH (Field.mk s.2.2.2.2.1) a0.2 (s.2.2.1,s.2.2.2.1)).bind fun a1=>
  bif !a1.2 then
   some (.next (s.1,aA .i64 (s.2.1+1),s.2.2))
  else
   bif decide ((Int.ofNat s.2.2.2.2.2.2.2.2.2.2.2.2.length)<=s.1) then
    some (.done 8)
   else
    (aN s.2.2.2.2.2.2.2.2.2.2.2.2 s.1).bind fun a2=>
    bif a2.1 !=a0.1 then
     some (.done 8)
    else
     (aN s.2.2.2.2.2.2.2.2.2.2.2.2 s.1).bind fun a3=>
     (vO (aH.mk (aQ.mk s.2.2.2.2.2.2.2.1 s.2.2.2.2.2.2.2.2.1 s.2.2.2.2.2.2.2.2.2.1) s.2.2.2.2.2.2.2.2.2.2.1 s.2.2.2.2.2.2.2.2.2.2.2.1) a3.2).bind fun a4=>
     bif a4.2 !=0 then
      some (.done 8)
     else
      bif a4.1.2.2.1 !=a0.1 then
       some (.done 8)
      else
       bif !((a4.1.1==a1.1.1)&&(a4.1.2.1==a1.1.2)) then
        some (.done 8)
       else
        some (.next (aA .i64 (s.1+1),aA .i64 (s.2.1+1),s.2.2))
 else
  bif s.1 !=(Int.ofNat s.2.2.2.2.2.2.2.2.2.2.2.2.length) then
   some (.done 8)
  else
   some (.done 0)
def wX (p0:aP):Option Int:=
 (tG p0.now).bind fun n0=>
 bif n0 !=0 then
  some 8
 else
  (mT p0.field).bind fun n1=>
  bif n1 !=0 then
   some 8
  else
   (tH p0.certs).bind fun n2=>
   bif n2 !=0 then
    some 8
   else
    (wV p0.certs p0.field).bind fun b3=>
    bif !b3 then
     some 8
    else
     (tJ p0.agenda).bind fun n4=>
     bif n4 !=0 then
      some 8
     else
      bif (Int.ofNat p0.agenda.where_.length) !=200 then
       some 8
      else
       bif (Int.ofNat p0.agenda.heap.length) !=(Int.ofNat p0.due.length) then
        some 8
       else
        aG dE (0,0,p0.now.1,p0.now.2,p0.field.points,p0.certs.next_,p0.certs.list,p0.agenda.slots.uses,p0.agenda.slots.used,p0.agenda.slots.free,p0.agenda.heap,p0.agenda.where_,p0.due)
def c52:bM:=⟨aB.one (aL.agg bQ),aL.int .i64,fun a=>wX a,.pure,false⟩
theorem aMP:aK aU 52 c52:=Oc aLv rfl aF [(45,c45),(44,c44),(97,c97),(98,c98),(99,c99),(100,aGO),(101,aPh)] ⟨aAM,aAN,aAO,aMG,aAQ,O3,aGP,trivial⟩ fun a=>by kernel_rfl
def jK (s:(Int×Int×Int×bN×Int×Int)):Option (cH (Int×Int×Int×bN×Int×Int) Int):=
 bif decide (s.2.2.1<s.1) then
  bif decide (s.2.1<0) then
   some (.next (s.1,s.2.2.1,aA .i64 (s.2.2.1+1),s.2.2.2))
  else
   (aN s.2.2.2.1 s.2.2.1).bind fun a0=>
   (aN s.2.2.2.1 s.2.1).bind fun a1=>
   (pE a0 a1 s.2.2.2.2).bind fun b2=>
   bif b2 then
    some (.next (s.1,s.2.2.1,aA .i64 (s.2.2.1+1),s.2.2.2))
   else
    some (.next (s.1,s.2.1,aA .i64 (s.2.2.1+1),s.2.2.2))
 else
  some (.done s.2.1)
def uO (p0:Field) (p1:Int×Int) (p2:Int) (p3:Int):Option Int:=
 aG jK (p3,-1,p2,p0.points,p1)
def aPj:bM:=⟨aB.cons (aL.agg bZ) (aB.cons (aL.agg (cJ.row jM)) (aB.cons (aL.int .i64) (aB.one (aL.int .i64)))),aL.int .i64,fun a=>uO a.1 a.2.1 a.2.2.1 a.2.2.2,.pure,false⟩
theorem aGQ:aK aU 191 aPj:=Oc aFj rfl aF [(140,aGJ)] ⟨O2,trivial⟩ fun a=>by kernel_rfl
abbrev aGR:=bN×Int×Int×Int×Int×Int×bN
def fD (self:aGR->Option O0) (a:aGR):Option O0:=
 (uO (Field.mk a.1) (a.2.1,a.2.2.1) a.2.2.2.2.1 a.2.2.2.2.2.1).bind fun n0=>
 bif decide (0<=n0) then
  (self (a.1,a.2.1,a.2.2.1,a.2.2.2.1,a.2.2.2.2.1,n0,a.2.2.2.2.2.2)).bind fun a1=>
  (aN a1.2 n0).bind fun a2=>
  (self (a.1,a.2.1,a.2.2.1,a.2.2.2.1,aA .i64 (n0+1),a.2.2.2.2.2.1,bU a1.2 n0 (a2.1,a1.1,a2.2.2))).bind fun a3=>
  (aN a3.2 n0).bind fun a4=>
  bif ((bU a3.2 n0 (a4.1,a4.2.1,a3.1)).length)==a.2.2.2.2.2.2.length then
   some (n0,bU a3.2 n0 (a4.1,a4.2.1,a3.1))
  else
   none
 else
  bif a.2.2.2.2.2.2.length==a.2.2.2.2.2.2.length then
   some (n0,a.2.2.2.2.2.2)
  else
   none
def iT:Nat->aGR->Option O0
 |0,_=>none
 |n+1,a=>fD (iT n) a
def rI (a:aGR):Option O0:=iT 1000000 a
def aAR:dR:=⟨[.l [.i .i64,.i .i64,.i .i64],.i,.i,.i,.i,.i,.l [.i .i64,.i .i64,.i .i64]],[.agg [.sl [.i .i64,.i .i64,.i .i64] []],.agg [.int .i64 0,.int .i64 0],.agg [.int .i64 0,.own 0 false],.int .i64 0,.int .i64 0],[.arr [.i .i64,.i .i64,.i .i64] []],[.i,.l [.i .i64,.i .i64,.i .i64]],.int .i64 0,[.arr [.i .i64,.i .i64,.i .i64] []],fun a=>rI a⟩
theorem K5: ∀n,jV aU 154 ⟨[.l [.i .i64,.i .i64,.i .i64],.i,.i,.i,.i,.i,.l [.i .i64,.i .i64,.i .i64]],[.agg [.sl [.i .i64,.i .i64,.i .i64] []],.agg [.int .i64 0,.int .i64 0],.agg [.int .i64 0,.own 0 false],.int .i64 0,.int .i64 0],[.arr [.i .i64,.i .i64,.i .i64] []],[.i,.l [.i .i64,.i .i64,.i .i64]],.int .i64 0,[.arr [.i .i64,.i .i64,.i .i64] []],fun a=>iT n a⟩
 |0=>jV.zero (fun _=>rfl)
 |n+1=>jV.of aEK (wd:=false) (cx:=(nZ aF [(191,aPj)] [(154,⟨[.l [.i .i64,.i .i64,.i .i64],.i,.i,.i,.i,.i,.l [.i .i64,.i .i64,.i .i64]],[.agg [.sl [.i .i64,.i .i64,.i .i64] []],.agg [.int .i64 0,.int .i64 0],.agg [.int .i64 0,.own 0 false],.int .i64 0,.int .i64 0],[.arr [.i .i64,.i .i64,.i .i64] []],[.i,.l [.i .i64,.i .i64,.i .i64]],.int .i64 0,[.arr [.i .i64,.i .i64,.i .i64] []],fun a=>iT n a⟩)] [] [])) (lG.make ⟨aGQ,trivial⟩ ⟨(K5 n),trivial⟩ trivial) (fun a=>by kernel_rfl)
theorem YR:jV aU 154 aAR:=K5 1000000
abbrev aPk:=Int×bN×Int×Int×Int×Int×bN
def oC (s:aPk):Option (cH aPk oA):=
 bif decide (s.1<(Int.ofNat s.2.1.length)) then
  (aN s.2.1 s.1).bind fun a0=>
  (bH s.2.2.2.2.2.2 [(a0.1,0,0)]).bind fun l1=>
  some (.next (aA .i64 (s.1+1),s.2.1,s.2.2.1,s.2.2.2.1,s.2.2.2.2.1,s.2.2.2.2.2.1,l1))
 else
  (rI (s.2.1,s.2.2.1,s.2.2.2.1,s.2.2.2.2.2.1,0,Int.ofNat s.2.1.length,s.2.2.2.2.2.2)).bind fun a2=>
  some (.done (oA.mk a2.1 a2.2))
def ES (p0:Field) (p1:Int×Int):Option oA:=
 aG oC (0,p0.points,p1.1,p1.2,0,0,[])
def aPl:bM:=⟨aB.cons (aL.agg bZ) (aB.one (aL.agg (cJ.row jM))),aL.agg oR,fun a=>ES a.1 a.2,.frz,false⟩
theorem aGS:aK aU 102 aPl:=aK.of aD2 (cx:=(nZ aF [] [(154,aAR)] [] [])) rfl (lG.make trivial ⟨YR,trivial⟩ trivial) (fun a=>by kernel_rfl)
def rJ (p0:Field) (p1:Int×Int):Option oA:=
 (ES p0 p1).bind fun r0=>
 some r0
def c53:bM:=⟨aB.cons (aL.agg bZ) (aB.one (aL.agg (cJ.row jM))),aL.agg oR,fun a=>rJ a.1 a.2,.frz,false⟩
theorem aAS:aK aU 53 c53:=Oc aLw rfl aF [(102,aPl)] ⟨aGS,trivial⟩ fun a=>by kernel_rfl
abbrev aMQ:=Int×Int×bN×Int×bN
abbrev aPm:=cH aMQ Bool
def qF (s:aMQ):Option aPm:=
 bif decide (s.1<(Int.ofNat s.2.2.1.length)) then
  (aN s.2.2.1 s.1).bind fun a0=>
  (aN s.2.2.2.2 s.1).bind fun a1=>
  bif !((a0.1==a1.1)&&((a0.2.1==a1.2.1)&&(a0.2.2==a1.2.2))) then
   some (.done false)
  else
   some (.next (aA .i64 (s.1+1),s.2))
 else
  some (.done true)
def pF (p0:oA) (p1:oA):Option Bool:=
 bif p0.root !=p1.root then
  some false
 else
  bif (Int.ofNat p0.nodes.length) !=(Int.ofNat p1.nodes.length) then
   some false
  else
   aG qF (0,p0.root,p0.nodes,p1.root,p1.nodes)
def c34:bM:=⟨aB.cons (aL.agg oR) (aB.one (aL.agg oR)),aL.bool,fun a=>pF a.1 a.2,.pure,false⟩
theorem aAT:aK aU 34 c34:=Oc aLl rfl aF [] trivial fun a=>by kernel_rfl
abbrev aPn:=cH (Int×Int×bN×rD) rD
def pG (s:(Int×Int×Int×bN×rD)):Option (cH (Int×Int×Int×bN×rD) aPn):=
 bif decide (s.2.1<(Int.ofNat s.2.2.2.1.length)) then
  (aN s.2.2.2.1 s.2.1).bind fun a0=>
  bif a0.2.1==s.1 then
   (aN s.2.2.2.1 s.1).bind fun a1=>
   (aN s.2.2.2.1 s.2.1).bind fun a2=>
   (bH s.2.2.2.2 [(a1.1,a2.1)]).bind fun l3=>
   some (.next (s.1,aA .i64 (s.2.1+1),s.2.2.1,s.2.2.2.1,l3))
  else
   (aN s.2.2.2.1 s.2.1).bind fun a4=>
   bif a4.2.2==s.1 then
    (aN s.2.2.2.1 s.1).bind fun a5=>
    (aN s.2.2.2.1 s.2.1).bind fun a6=>
    (bH s.2.2.2.2 [(a5.1,a6.1)]).bind fun l7=>
    some (.next (s.1,aA .i64 (s.2.1+1),s.2.2.1,s.2.2.2.1,l7))
   else
    some (.next (s.1,aA .i64 (s.2.1+1),s.2.2))
 else
  some (.done (.next (aA .i64 (s.1+1),s.2.2)))
def tL (s:(Int×Int×bN×rD)):Option aPn:=
 bif decide (s.1<(Int.ofNat s.2.2.1.length)) then
  aG pG (s.1,0,s.2)
 else
  some (.done s.2.2.2)
def CA (p0:oA):Option rD:=
 aG tL (0,p0.root,p0.nodes,[])
def c47:bM:=⟨aB.one (aL.agg oR),aL.sl jM,fun a=>CA a,.frz,false⟩
theorem aAU:aK aU 47 c47:=Oc aLr rfl aF [] trivial fun a=>by kernel_rfl
def uM (s:(Int×Int×bN×Int×Int)):Option (cH (Int×Int×bN×Int×Int) Bool):=
 bif decide (s.1<(Int.ofNat s.2.2.1.length)) then
  (aN s.2.2.1 s.1).bind fun a0=>
  bif (a0.2.1==s.2.2.2.1)&&(a0.2.2==s.2.2.2.2) then
   some (.done true)
  else
   some (.next (aA .i64 (s.1+1),s.2))
 else
  some (.done false)
def uP (p0:aV) (p1:Int×Int):Option Bool:=
 aG uM (0,p0.next_,p0.list,p1)
def aGT:bM:=⟨aB.cons (aL.agg gG) (aB.one (aL.agg (cJ.row jM))),aL.bool,fun a=>uP a.1 a.2,.pure,false⟩
theorem O4:aK aU 103 aGT:=Oc aD3 rfl aF [] trivial fun a=>by kernel_rfl
def AF (p0:Int×Int) (p1:Field) (p2:Int×Int):Option Bool:=
 (iS p1 p0.2).bind fun n0=>
 (aN p1.points n0).bind fun a1=>
 (iS p1 p0.1).bind fun n2=>
 (aN p1.points n2).bind fun a3=>
 (pE a1 a3 p2).bind fun b4=>
 some b4
def aPo:bM:=⟨aB.cons (aL.agg (cJ.row jM)) (aB.cons (aL.agg bZ) (aB.one (aL.agg (cJ.row jM)))),aL.bool,fun a=>AF a.1 a.2.1 a.2.2,.pure,false⟩
theorem aGU:aK aU 104 aPo:=Oc aD4 rfl aF [(65,c65),(140,aGJ)] ⟨O1,O2,trivial⟩ fun a=>by kernel_rfl
abbrev aPp:=rD×Int×Int×Int×bN×Int×bN×(List Int)×(List Bool)×(List Int)×jW×(List Int)×bN
def sC (s:aPp):Option (cH aPp Bool):=
 bif decide (s.2.1<(Int.ofNat s.1.length)) then
  (aN s.1 s.2.1).bind fun a0=>
  (uP (aV.mk s.2.2.2.2.2.1 s.2.2.2.2.2.2.1) a0).bind fun b1=>
  bif !b1 then
   some (.done false)
  else
   (aN s.1 s.2.1).bind fun a2=>
   (AF a2 (Field.mk s.2.2.2.2.1) (s.2.2.1,s.2.2.2.1)).bind fun b3=>
   bif !b3 then
    some (.done false)
   else
    some (.next (s.1,aA .i64 (s.2.1+1),s.2.2))
 else
  some (.done true)
def AG (p0:aP) (p1:List (Int×Int)):Option Bool:=
 bif (Int.ofNat p0.certs.list.length) !=(Int.ofNat p1.length) then
  some false
 else
  aG sC (p1,0,p0.now.1,p0.now.2,p0.field.points,p0.certs.next_,p0.certs.list,p0.agenda.slots.uses,p0.agenda.slots.used,p0.agenda.slots.free,p0.agenda.heap,p0.agenda.where_,p0.due)
def c54:bM:=⟨aB.cons (aL.agg bQ) (aB.one (aL.sl jM)),aL.bool,fun a=>AG a.1 a.2,.pure,false⟩
theorem aMR:aK aU 54 c54:=Oc aLx rfl aF [(103,aGT),(104,aPo)] ⟨O4,aGU,trivial⟩ fun a=>by kernel_rfl
def tM (p0:dL):Option Int:=
 (wX p0.clock).bind fun n0=>
 bif n0 !=0 then
  some 8
 else
  (rJ p0.clock.field p0.clock.now).bind fun r1=>
  (pF r1 p0.tree).bind fun b2=>
  bif !b2 then
   some 8
  else
   (CA r1).bind fun l3=>
   (AG p0.clock l3).bind fun b4=>
   bif !b4 then
    some 8
   else
    some 0
def c23:bM:=⟨aB.one (aL.agg fE),aL.int .i64,fun a=>tM a,.pure,false⟩
theorem aMS:aK aU 23 c23:=Oc aLc rfl aF [(52,c52),(53,c53),(34,c34),(47,c47),(54,c54)] ⟨aMP,aAS,aAT,aAU,aMR,trivial⟩ fun a=>by kernel_rfl
def iG (s:aGC):Option (cH aGC Field):=
 bif decide (s.2.1<(Int.ofNat s.2.2.1.length)) then
  (aN s.2.2.1 s.2.1).bind fun a0=>
  bif a0.1 !=s.1 then
   (aN s.2.2.1 s.2.1).bind fun a1=>
   (bH s.2.2.2 [a1]).bind fun l2=>
   some (.next (s.1,aA .i64 (s.2.1+1),s.2.2.1,l2))
  else
   some (.next (s.1,aA .i64 (s.2.1+1),s.2.2))
 else
  some (.done (Field.mk s.2.2.2))
def xQ (p0:Field) (p1:Int):Option Field:=
 aG iG (p1,0,p0.points,[])
def c66:bM:=⟨aB.cons (aL.agg bZ) (aB.one (aL.int .i64)),aL.agg bZ,fun a=>xQ a.1 a.2,.frz,false⟩
theorem aMT:aK aU 66 c66:=Oc aLG rfl aF [] trivial fun a=>by kernel_rfl
def mV (p0:Field) (p1:Int):Option (Field×Int):=
 (mT p0).bind fun n0=>
 bif n0 !=0 then
  some (Field.mk [],n0)
 else
  (iS p0 p1).bind fun n1=>
  bif decide (n1<0) then
   some (Field.mk [],6)
  else
   (xQ p0 p1).bind fun r2=>
   some (r2,0)
def c31:bM:=⟨aB.cons (aL.agg bZ) (aB.one (aL.int .i64)),aL.tup (aB.cons (aL.agg bZ) (aB.one (aL.int .i64))),fun a=>mV a.1 a.2,.frz,false⟩
theorem aMU:aK aU 31 c31:=Oc aLi rfl aF [(44,c44),(65,c65),(66,c66)] ⟨aAN,O1,aMT,trivial⟩ fun a=>by kernel_rfl
def wY (s:(rD×Int×Int×Int)):Option (cH (rD×Int×Int×Int) Bool):=
 bif decide (s.2.1<(Int.ofNat s.1.length)) then
  (aN s.1 s.2.1).bind fun a0=>
  bif (a0.1==s.2.2.1)&&(a0.2==s.2.2.2) then
   some (.done true)
  else
   some (.next (s.1,aA .i64 (s.2.1+1),s.2.2))
 else
  some (.done false)
def F6 (p0:List (Int×Int)) (p1:Int×Int):Option Bool:=
 aG wY (p0,0,p1)
def aPq:bM:=⟨aB.cons (aL.sl jM) (aB.one (aL.agg (cJ.row jM))),aL.bool,fun a=>F6 a.1 a.2,.pure,false⟩
theorem aGV:aK aU 113 aPq:=Oc aEb rfl aF [] trivial fun a=>by kernel_rfl
abbrev aPr:=Int×Int×Int×bN×Int×Int×bN
def kN (s:aPr):Option (cH aPr aV):=
 bif decide (s.2.1<(Int.ofNat s.2.2.2.1.length)) then
  (aN s.2.2.2.1 s.2.1).bind fun a0=>
  bif a0.1 !=s.1 then
   (aN s.2.2.2.1 s.2.1).bind fun a1=>
   (bH s.2.2.2.2.2.2 [a1]).bind fun l2=>
   some (.next (s.1,aA .i64 (s.2.1+1),s.2.2.1,s.2.2.2.1,s.2.2.2.2.1,s.2.2.2.2.2.1,l2))
  else
   some (.next (s.1,aA .i64 (s.2.1+1),s.2.2))
 else
  some (.done (aV.mk s.2.2.2.2.2.1 s.2.2.2.2.2.2))
def sD (p0:aV) (p1:Int):Option aV:=
 aG kN (p1,0,p0.next_,p0.list,0,p0.next_,[])
def aPs:bM:=⟨aB.cons (aL.agg gG) (aB.one (aL.int .i64)),aL.agg gG,fun a=>sD a.1 a.2,.frz,false⟩
theorem aGW:aK aU 165 aPs:=Oc aEU rfl aF [] trivial fun a=>by kernel_rfl
def qG (s:aMO):Option aPi:=
 bif decide (s.2.1<(Int.ofNat s.2.2.2.2.2.2.2.2.2.2.2.2.length)) then
  (aN s.2.2.2.2.2.2.2.2.2.2.2.2 s.2.1).bind fun a0=>
  bif a0.1==s.1 then
   some (.done s.2.1)
  else
   some (.next (s.1,aA .i64 (s.2.1+1),s.2.2))
 else
  some (.done (-1))
def pH (p0:aP) (p1:Int):Option Int:=
 aG qG (p1,0,p0.now.1,p0.now.2,p0.field.points,p0.certs.next_,p0.certs.list,p0.agenda.slots.uses,p0.agenda.slots.used,p0.agenda.slots.free,p0.agenda.heap,p0.agenda.where_,p0.due)
def aMV:bM:=⟨aB.cons (aL.agg bQ) (aB.one (aL.int .i64)),aL.int .i64,fun a=>pH a.1 a.2,.pure,false⟩
theorem WZ:aK aU 166 aMV:=Oc aEV rfl aF [] trivial fun a=>by kernel_rfl
def pI (p0:aQ) (p1:Int×Int):Option aQ:=
 (mM p0).bind fun r0=>
 (aN r0.used p1.1).bind fun _=>
 (bH r0.free [p1.1]).bind fun l2=>
 some (aQ.mk r0.uses (bU r0.used p1.1 false) l2)
def aPt:bM:=⟨aB.cons (aL.agg fY) (aB.one (aL.agg (cJ.row jM))),aL.agg fY,fun a=>pI a.1 a.2,.frz,false⟩
theorem aGX:aK aU 199 aPt:=Oc aFq rfl aF [(106,aAw),(106,Q9)] ⟨I6,F1,trivial⟩ fun a=>by kernel_rfl
abbrev aMW:=(List Int)×(List Bool)×(List Int)×jW×(List Int)
def fG (a:aMI):Option aMW:=
 (aN a.2.2.2.2.2.1 a.2.1).bind fun a0=>
 (aN a.2.2.2.2.2.1 a.1).bind fun a1=>
 (aN a.2.2.2.2.2.1 a.1).bind fun _=>
 (aN (bU a.2.2.2.2.2.1 a.1 a0) a.2.1).bind fun _=>
 (aN (bU (bU a.2.2.2.2.2.1 a.1 a0) a.2.1 a1) a.1).bind fun a4=>
 (aN (bU (bU a.2.2.2.2.2.1 a.1 a0) a.2.1 a1) a.2.1).bind fun a5=>
 (aN a.2.2.2.2.2.2 a4.2.2.2.1).bind fun _=>
 (aN (bU a.2.2.2.2.2.2 a4.2.2.2.1 a.1) a5.2.2.2.1).bind fun _=>
 bif a.2.2.1.length==a.2.2.1.length then
  bif a.2.2.2.1.length==a.2.2.2.1.length then
   bif a.2.2.2.2.1.length==a.2.2.2.2.1.length then
    bif ((bU (bU a.2.2.2.2.2.1 a.1 a0) a.2.1 a1).length)==a.2.2.2.2.2.1.length then
     bif ((bU (bU a.2.2.2.2.2.2 a4.2.2.2.1 a.1) a5.2.2.2.1 a.2.1).length)==a.2.2.2.2.2.2.length then
      some (a.2.2.1,a.2.2.2.1,a.2.2.2.2.1,bU (bU a.2.2.2.2.2.1 a.1 a0) a.2.1 a1,bU (bU a.2.2.2.2.2.2 a4.2.2.2.1 a.1) a5.2.2.2.1 a.2.1)
     else
      none
    else
     none
   else
    none
  else
   none
 else
  none
def ET:dR:=⟨[.i,.i,.l [.i .i64],.l [.b],.l [.i .i64],.l [.i .i64,.i .i64,.i .i64,.i .i64,.i .i64],.l [.i .i64]],[.agg [.own 0 false,.own 1 false,.own 2 false,.own 3 false,.own 4 false],.int .i64 0,.int .i64 0],[.arr [.i .i64] [],.arr [.b] [],.arr [.i .i64] [],.arr [.i .i64,.i .i64,.i .i64,.i .i64,.i .i64] [],.arr [.i .i64] []],[.l [.i .i64],.l [.b],.l [.i .i64],.l [.i .i64,.i .i64,.i .i64,.i .i64,.i .i64],.l [.i .i64]],.tup [],[.arr [.i .i64] [],.arr [.b] [],.arr [.i .i64] [],.arr [.i .i64,.i .i64,.i .i64,.i .i64,.i .i64] [],.arr [.i .i64] []],fun a=>fG a⟩
theorem uQ:jV aU 198 ET:=jV.of ON (wd:=false) (cx:=(nZ aF [] [] [] [])) (lG.make trivial trivial trivial) (fun a=>by kernel_rfl)
def gD (a:((List Int)×(List Bool)×(List Int)×Nat×Nat×Int×Int×jW×(List Int))):Option L8:=
 (aN (a.2.2.2.2.2.2.2.1.take a.2.2.2.1) a.2.2.2.2.2.2.1).bind fun a0=>
 (aN (a.2.2.2.2.2.2.2.1.take a.2.2.2.1) a.2.2.2.2.2.1).bind fun a1=>
 (aN (a.2.2.2.2.2.2.2.1.take a.2.2.2.1) a.2.2.2.2.2.1).bind fun _=>
 (aN ((bU a.2.2.2.2.2.2.2.1 a.2.2.2.2.2.1 a0).take a.2.2.2.1) a.2.2.2.2.2.2.1).bind fun _=>
 (aN ((bU (bU a.2.2.2.2.2.2.2.1 a.2.2.2.2.2.1 a0) a.2.2.2.2.2.2.1 a1).take a.2.2.2.1) a.2.2.2.2.2.1).bind fun a4=>
 (aN ((bU (bU a.2.2.2.2.2.2.2.1 a.2.2.2.2.2.1 a0) a.2.2.2.2.2.2.1 a1).take a.2.2.2.1) a.2.2.2.2.2.2.1).bind fun a5=>
 (aN a.2.2.2.2.2.2.2.2 a4.2.2.2.1).bind fun _=>
 (aN (bU a.2.2.2.2.2.2.2.2 a4.2.2.2.1 a.2.2.2.2.2.1) a5.2.2.2.1).bind fun _=>
 bif ((bU (bU a.2.2.2.2.2.2.2.1 a.2.2.2.2.2.1 a0) a.2.2.2.2.2.2.1 a1).length)==a.2.2.2.2.2.2.2.1.length then
  bif ((bU (bU a.2.2.2.2.2.2.2.2 a4.2.2.2.1 a.2.2.2.2.2.1) a5.2.2.2.1 a.2.2.2.2.2.2.1).length)==a.2.2.2.2.2.2.2.2.length then
   some (bU (bU a.2.2.2.2.2.2.2.1 a.2.2.2.2.2.1 a0) a.2.2.2.2.2.2.1 a1,bU (bU a.2.2.2.2.2.2.2.2 a4.2.2.2.1 a.2.2.2.2.2.1) a5.2.2.2.1 a.2.2.2.2.2.2.1)
  else
   none
 else
  none
def EU:dR:=⟨[.l [.i .i64],.l [.b],.l [.i .i64],.n,.n,.i,.i,.l [.i .i64,.i .i64,.i .i64,.i .i64,.i .i64],.l [.i .i64]],[.agg [.sl [.i .i64] [],.sl [.b] [],.sl [.i .i64] [],.pre 0 0 0 false,.own 1 false],.int .i64 0,.int .i64 0],[.arr [.i .i64,.i .i64,.i .i64,.i .i64,.i .i64] [],.arr [.i .i64] []],[.l [.i .i64,.i .i64,.i .i64,.i .i64,.i .i64],.l [.i .i64]],.tup [],[.arr [.i .i64,.i .i64,.i .i64,.i .i64,.i .i64] [],.arr [.i .i64] []],fun a=>gD a⟩
theorem uR:jV aU 198 EU:=jV.of ON (wd:=false) (cx:=(nZ aF [] [] [] [])) (lG.make trivial trivial trivial) (fun a=>by kernel_rfl)
abbrev aGY:=(List Int)×(List Bool)×(List Int)×Nat×Nat×Int×jW×(List Int)
abbrev aGZ:=Int×jW×(List Int)×(List Int)×(List Bool)×(List Int)×Nat×Nat
abbrev aG0:=Int×jW×(List Int)
def gU (c0:aGY) (s:aGZ):Option (cH aGZ aG0):=
 bif decide (0<s.1) then
  (aN (s.2.1.take s.2.2.2.2.2.2.1) s.1).bind fun a0=>
  (aN (s.2.1.take s.2.2.2.2.2.2.1) (aA .i64 (Int.tdiv (aA .i64 (s.1-1)) 2))).bind fun a1=>
  (eA a0 a1).bind fun b2=>
  bif b2 then
   (gD (s.2.2.2.1,s.2.2.2.2.1,s.2.2.2.2.2.1,s.2.2.2.2.2.2.1,s.2.2.2.2.2.2.2,s.1,aA .i64 (Int.tdiv (aA .i64 (s.1-1)) 2),s.2.1,s.2.2.1)).bind fun a3=>
   some (.next (aA .i64 (Int.tdiv (aA .i64 (s.1-1)) 2),a3.1,a3.2,s.2.2.2))
  else
   bif s.2.1.length==c0.2.2.2.2.2.2.1.length then
    bif s.2.2.1.length==c0.2.2.2.2.2.2.2.length then
     some (.done (s.1,s.2.1,s.2.2.1))
    else
     none
   else
    none
 else
  bif s.2.1.length==c0.2.2.2.2.2.2.1.length then
   bif s.2.2.1.length==c0.2.2.2.2.2.2.2.length then
    some (.done (s.1,s.2.1,s.2.2.1))
   else
    none
  else
   none
end
end Go.Proofs.YticklbjcnimggaaGreat
