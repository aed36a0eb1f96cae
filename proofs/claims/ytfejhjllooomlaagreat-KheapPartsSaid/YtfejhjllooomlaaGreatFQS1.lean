/- Plain functions for what the functions of the seat compute. Printed by a program. -/
import Derived.Test.YtfejhjllooomlaaGreatFVm3
import Derived.Test.YtfejhjllooomlaaGreatFQXT
set_option maxRecDepth 100000
namespace Go.Proofs.YtfejhjllooomlaaGreat
open Go.Vm
noncomputable section
theorem Oc {f:FuncId} {x:aQ} {α β:Type} {args:aD α} {res:aN β} {kd:Kd} {fn:α->Option β} {ow:Bool} (hf:bA f=some (.code x)) (ho:aBs kd ow=true) (lp:Option Nat) (l:List (Nat×bQ)) (h:D1 bA l) (e: ∀a,aG8 (yK lp l [] [] []) x args res kd a=fn a):aK bA f ⟨args,res,fn,kd,ow⟩:=aK.of hf (cx:=yK lp l [] [] []) ho (rN.make h trivial trivial) e
abbrev fW:List PT:=[.i .i64,.i .i64,.i .i64]
abbrev jX:List PT:=[.i .i64,.i .i64]
abbrev ki:List PT:=[.i .i64]
abbrev kb:List PT:=[.b]
abbrev kU:List PT:=[.i .i64,.i .i64,.i .i64,.i .i64,.i .i64]
abbrev BB:List PT:=[.b,.i .u64,.i .u64]
abbrev aMq:List PT:=[.i .i64,.i .i64,.i .i64,.i .i64]
abbrev kiu:List PT:=[.i .i64,.i .u64]
abbrev BC:=Int×Int×Int
structure Field where
 points:List BC
def fI:cN Field:=cN.iso (cN.sl fW) (fun p=>⟨p⟩) (fun c=>c.points) (fun _=>rfl)
structure aS where
 uses:List Int
 used:List Bool
 free:List Int
def lR:cN aS:=cN.iso (cN.prod (cN.sl ki) (cN.prod (cN.sl kb) (cN.sl ki))) (fun p=>⟨p.1,p.2.1,p.2.2⟩) (fun c=>(c.uses,c.used,c.free)) (fun _=>rfl)
abbrev N8:=Int×Int×Int×Int×Int
structure aG where
 slots:aS
 heap:List N8
 where_:List Int
def eV:cN aG:=cN.iso (cN.prod lR (cN.prod (cN.sl kU) (cN.sl ki))) (fun p=>⟨p.1,p.2.1,p.2.2⟩) (fun c=>(c.slots,c.heap,c.where_)) (fun _=>rfl)
structure aW where
 next_:Int
 list:List BC
def mK:cN aW:=cN.iso (cN.prod (cN.int .i64) (cN.sl fW)) (fun p=>⟨p.1,p.2⟩) (fun c=>(c.next_,c.list)) (fun _=>rfl)
structure aH where
 now:Int×Int
 field:Field
 certs:aW
 agenda:aG
 due:List BC
def dP:cN aH:=cN.iso (cN.prod (cN.row jX) (cN.prod fI (cN.prod mK (cN.prod eV (cN.sl fW))))) (fun p=>⟨p.1,p.2.1,p.2.2.1,p.2.2.2.1,p.2.2.2.2⟩) (fun c=>(c.now,c.field,c.certs,c.agenda,c.due)) (fun _=>rfl)
structure dN where
 clock:aH
 heap:List Int
def kV:cN dN:=cN.iso (cN.prod dP (cN.sl ki)) (fun p=>⟨p.1,p.2⟩) (fun c=>(c.clock,c.heap)) (fun _=>rfl)
theorem IN:aK bA 91 (bQ.clone fW):=aK.clone aKT rfl
theorem BD:aK bA 173 (bQ.clone kb):=aK.clone aEc rfl
theorem ZZ:aK bA 275 (bQ.add64):=aK.add64 aE0
theorem FD:aK bA 170 (bQ.clone fW):=aK.clone aD9 rfl
theorem QM:aK bA 171 (bQ.clone fW):=aK.clone aEa rfl
theorem BE:aK bA 172 (bQ.clone kU):=aK.clone aEb rfl
theorem tC:aK bA 64 (bQ.clone ki):=aK.clone aKG rfl
theorem QN:aK bA 290 (bQ.clone ki):=aK.clone aE6 rfl
section
abbrev mS:=List N8
abbrev cK:=List BC
abbrev Zt1:=cK×Int×Int×Int×Int×cK×Int×cK×(List Int)×(List Bool)×(List Int)×mS×(List Int)×cK×cK×Int×Int×Int×Int×Int×Int×cK×(List Int)×(List Bool)×(List Int)×mS×(List Int)×cK×cK
abbrev Zt2:=Int×Int×Int×cK×Int×cK×(List Int)×(List Bool)×(List Int)×mS×(List Int)×cK×Int×Int×cK×Int×cK×(List Int)×(List Bool)×(List Int)×mS×(List Int)×cK
abbrev Zt3:=cK×Int×Int×cK×Int×Int×Int×Int×Int×Int×Int×cK×Int×cK×(List Int)×(List Bool)×(List Int)×mS×(List Int)×cK×Int×Int×Int×(List Int)
abbrev AL:=List (Int×Int)
abbrev aMr:=AL×cK×Int×Int×Int×Int×cK×Int×cK×(List Int)×(List Bool)×(List Int)×mS×(List Int)×cK×cK×Int×Int×Int
abbrev Zt4:=bY aMr (aH×Int)
abbrev aMs:=cK×Int×Int×Int×Int×cK×Int×cK×(List Int)×(List Bool)×(List Int)×mS×(List Int)×cK×cK×Int×Int×Int
abbrev Zt5:=bY aMs (aH×Int)
abbrev Zt6:=AL×cK×Int×Int×Int×Int×cK×Int×cK×(List Int)×(List Bool)×(List Int)×mS×(List Int)×cK×(List Int)
abbrev Zt7:=cK×cK×Int×Int×Int×Int×cK×Int×cK×(List Int)×(List Bool)×(List Int)×mS×(List Int)×cK
abbrev Zt8:=Int×Int×cK×Int×cK×(List Int)×(List Bool)×(List Int)×mS×(List Int)×cK×(List Int)×Int×Int×Int×Int×Int×AL
abbrev aMt:=cK×Int×Int×Int×Int×cK×Int×cK×(List Int)×(List Bool)×(List Int)×mS×(List Int)×cK×(List Int)
abbrev Zt9:=bY aMt Int
abbrev aMu:=AL×Int×Int×Int×Int×cK×Int×cK×(List Int)×(List Bool)×(List Int)×mS×(List Int)×cK×Int×Int×Int
abbrev aE8:=Int×Int×Int×Int×cK×Int×cK×(List Int)×(List Bool)×(List Int)×mS×(List Int)×cK×(List Int)
abbrev aMv:=bY aE8 Int
abbrev aMw:=Int×Int×Int×cK×Int×cK×(List Int)×(List Bool)×(List Int)×mS×(List Int)×cK×(List Int)
abbrev aMx:=bY aMw Int
abbrev aMy:=AL×Int×Int×Int×cK×Int×cK×(List Int)×(List Bool)×(List Int)×mS×(List Int)×cK
abbrev aMz:=Int×Int×Int×Int×cK×Int×cK×(List Int)×(List Bool)×(List Int)×mS×(List Int)×cK
abbrev aMA:=Int×mS×(List Int)×(List Int)×(List Bool)×(List Int)×Nat×Nat×Int×Int×Int×Int×Int
abbrev XK:=mS×(List Int)
abbrev aMB:=bY aMA XK
abbrev aMC:=Int×(List Int)×(List Bool)×(List Int)×mS×(List Int)×(List Int)×(List Bool)×(List Int)×mS×(List Int)
abbrev aMD:=Int×mS×(List Int)×(List Int)×(List Bool)×(List Int)×Int×Int×Int×Int×Int
abbrev aME:=bY aMD XK
abbrev aMF:=mS×Int×Int×(List Int)×(List Bool)×(List Int)×mS×(List Int)×(List (List Int))
abbrev aMG:=Int×Int×mS×(List Int)×(List Int)×(List Bool)×(List Int)×Nat×Nat×Int×Int×Int×Int×Int
abbrev aE9:=(List Int)×(List Bool)×(List Int)×Nat×Nat×Int×Int×Int×Int×Int×Int×mS×(List Int)
abbrev aMH:=Int×Int×mS×(List Int)×(List Int)×(List Bool)×(List Int)×Int×Int×Int×Int×Int
abbrev aMI:=Int×Int×(List Int)×(List Bool)×(List Int)×mS×(List Int)×Int×Int×Int×Int×Int
abbrev aFa:=(List Int)×(List Bool)×(List Int)×Int×Int×Int×Int×Int×Int×mS×(List Int)
abbrev aMJ:=(List Int)×Int×Int×(List Int)×(List Bool)×(List Int)×mS×(List Int)
abbrev aMK:=bY aMJ Int
abbrev aFb:=Int×(List Int)×(List Bool)×(List Int)×mS×(List Int)
abbrev aK1:=bY aFb Int
abbrev aML:=Int×Int×(List Int)×(List Bool)×(List Int)×mS×(List Int)
abbrev aMM:=Int×cK×Int×Int×Int×cK×(List (List Int))
abbrev aMN:=(List Int)×Int×Int×(List Int)×(List Bool)×(List Int)×Int×(List Bool)
abbrev aMO:=bY aMN Int
abbrev N9:=cK×Int×Int×Int×Int
abbrev aFc:=bY N9 (Int×Bool)
abbrev Z0:=cK×Int×Int×cK
abbrev Z1:=Int×Int×(List Int)×(List Bool)×(List Int)×(List Bool)
abbrev Z2:=Int×Int×cK
abbrev aK2:=bY Z2 Int
abbrev aFd:=(List Int)×Int×AL
abbrev Z3:=Int×cK
abbrev aFe:=(List Int)×(List Int)×Int
variable [LP]
def HH:Option Field:=
 some (Field.mk [(1,0,2),(2,6,-1),(5,0,0)])
def c49:bQ:=⟨aD.nil,aN.agg fI,fun _=>HH,.frz,false⟩
theorem aK3:aK bA 49 c49:=Oc aKs rfl aI [] trivial fun a=>by kernel_rfl
def FE (p0:Int):Option (Int×Int):=
 some (p0,1)
def c50:bQ:=⟨aD.one (aN.int .i64),aN.agg (cN.row jX),fun a=>FE a,.pure,false⟩
theorem aK4:aK bA 50 c50:=Oc aKt rfl aI [] trivial fun a=>by kernel_rfl
def oI (p0:Int):Option Bool:=
 bif decide (p0<(-1048576)) then
  some true
 else
  some (decide (1048576<p0))
def aMP:bQ:=⟨aD.one (aN.int .i64),aN.bool,fun a=>oI a,.pure,false⟩
theorem aFf:aK bA 148 aMP:=Oc aDQ rfl aI [] trivial fun a=>by kernel_rfl
def mL (p0:Int×Int×Int):Option Int:=
 bif decide (p0.1<0) then
  some 8
 else
  bif decide (65535<p0.1) then
   some 8
  else
   (oI p0.2.1).bind fun b0=>
   bif b0 then
    some 8
   else
    (oI p0.2.2).bind fun b1=>
    bif b1 then
     some 8
    else
     some 0
def c88:bQ:=⟨aD.one (aN.agg (cN.row fW)),aN.int .i64,fun a=>mL a,.pure,false⟩
theorem Z4:aK bA 88 c88:=Oc aKR rfl aI [(148,aMP)] ⟨aFf,trivial⟩ fun a=>by kernel_rfl
def iF (s:Z0):Option (bY Z0 (bY Z0 Int)):=
 bif decide (s.2.2.1<s.2.1) then
  (aL s.1 s.2.2.1).bind fun a0=>
  bif decide (0<s.2.2.1) then
   (aL s.2.2.2 (aA .i64 (s.2.2.1-1))).bind fun a1=>
   bif decide (a0.1<=a1.1) then
    some (.done (.done 32))
   else
    some (.next (s.1,s.2.1,aA .i64 (s.2.2.1+1),s.2.2.2))
  else
   some (.next (s.1,s.2.1,aA .i64 (s.2.2.1+1),s.2.2.2))
 else
  some (.done (.done 0))
def lX (s:Z0):Option (bY Z0 Int):=
 bif decide (s.2.2.1<s.2.1) then
  (aL s.1 s.2.2.1).bind fun a0=>
  (mL a0).bind fun n1=>
  bif n1 !=0 then
   some (.done n1)
  else
   some (.next (s.1,s.2.1,aA .i64 (s.2.2.1+1),s.2.2.2))
 else
  aJ iF (s.2.2.2,Int.ofNat s.2.2.2.length,0,s.2.2.2)
def iX (p0:Field):Option Int:=
 bif decide (64<(Int.ofNat p0.points.length)) then
  some 4
 else
  aJ lX (p0.points,Int.ofNat p0.points.length,0,p0.points)
def c87:bQ:=⟨aD.one (aN.agg fI),aN.int .i64,fun a=>iX a,.pure,false⟩
theorem OA:aK bA 87 c87:=Oc aKQ rfl aI [(88,c88)] ⟨Z4,trivial⟩ fun a=>by kernel_rfl
def lK (p0:Int):Option Int:=
 bif decide (p0<0) then
  some (aA .u64 (0- (aA .u64 p0)))
 else
  some (aA .u64 p0)
def aFg:bQ:=⟨aD.one (aN.int .i64),aN.int .u64,fun a=>lK a,.pure,false⟩
theorem OB:aK bA 108 aFg:=Oc aDx rfl aI [] trivial fun a=>by kernel_rfl
def tD (s:(Int×Int)):Option (bY (Int×Int) Int):=
 bif decide (0<s.2) then
  bif s.2==0 then
   none
  else
   some (.next (s.2,Int.tmod s.1 s.2))
 else
  some (.done s.1)
def xJ (p0:Int) (p1:Int):Option Int:=
 aJ tD (p0,p1)
def aK5:bQ:=⟨aD.cons (aN.int .u64) (aD.one (aN.int .u64)),aN.int .u64,fun a=>xJ a.1 a.2,.pure,false⟩
theorem VL:aK bA 107 aK5:=Oc aDw rfl aI [] trivial fun a=>by kernel_rfl
def eW (p0:Int×Int):Option Int:=
 bif decide (p0.2<1) then
  some 8
 else
  bif p0.1==(-9223372036854775808) then
   some 8
  else
   (lK p0.1).bind fun n0=>
   (xJ (aA .u64 p0.2) n0).bind fun n1=>
   bif decide (1<n1) then
    some 8
   else
    some 0
def c60:bQ:=⟨aD.one (aN.agg (cN.row jX)),aN.int .i64,fun a=>eW a,.pure,false⟩
theorem yU:aK bA 60 c60:=Oc aKC rfl aI [(108,aFg),(107,aK5)] ⟨OB,VL,trivial⟩ fun a=>by kernel_rfl
def QO (s:(Int×Int×Int×(List Int)×(List Bool)×(List Int))):Option (bY (Int×Int×Int×(List Int)×(List Bool)×(List Int)) (aS×Int)):=
 bif decide (s.2.2.1<s.2.1) then
  (aL s.2.2.2.2.2 s.2.2.1).bind fun _=>
  some (.next (s.1,s.2.1,aA .i64 (s.2.2.1+1),s.2.2.2.1,s.2.2.2.2.1,bT s.2.2.2.2.2 s.2.2.1 (aA .i64 ((aA .i64 (s.1-1)) -s.2.2.1))))
 else
  some (.done (aS.mk s.2.2.2.1 s.2.2.2.2.1 s.2.2.2.2.2,0))
def QP (p0:Int):Option (aS×Int):=
 bif decide (p0<1) then
  some (aS.mk [] [] [],2)
 else
  bif decide (200<p0) then
   some (aS.mk [] [] [],2)
  else
   bif p0==p0 then
    (EV p0 (0:Int)).bind fun l0=>
    bif p0==p0 then
     (EV p0 (false:Bool)).bind fun l1=>
     bif p0==p0 then
      (EV p0 (0:Int)).bind fun l2=>
      aJ QO (p0,p0,0,l0,l1,l2)
     else
      none
    else
     none
   else
    none
def aMR:bQ:=⟨aD.one (aN.int .i64),aN.tup (aD.cons (aN.agg lR) (aD.one (aN.int .i64))),fun a=>QP a,.frz,false⟩
theorem aFh:aK bA 176 aMR:=Oc aEf rfl aI [] trivial fun a=>by kernel_rfl
def IB (p0:Int) (p1:Int):Option (Int×Int):=
 some (aA .u32 (pN .u64 (aA .u64 ((aA .u64 p0)*(aA .u64 p1))) 32),aA .u32 (aA .u64 ((aA .u64 p0)*(aA .u64 p1))))
def aMS:bQ:=⟨aD.cons (aN.int .u32) (aD.one (aN.int .u32)),aN.tup (aD.cons (aN.int .u32) (aD.one (aN.int .u32))),fun a=>IB a.1 a.2,.pure,false⟩
theorem aFi:aK bA 263 aMS:=Oc aEV rfl aI [] trivial fun a=>by kernel_rfl
def gR (p0:Int) (p1:Int):Option (Int×Int):=
 some (aA .u64 ((aA .u64 ((aA .u64 ((pN .u64 p0 32)*(pN .u64 p1 32)))+(pN .u64 (aA .u64 ((aA .u64 ((pN .u64 p0 32)*(HZ .u64 p1 4294967295)))+(pN .u64 (aA .u64 ((HZ .u64 p0 4294967295)*(HZ .u64 p1 4294967295))) 32))) 32)))+(pN .u64 (aA .u64 ((HZ .u64 (aA .u64 ((aA .u64 ((pN .u64 p0 32)*(HZ .u64 p1 4294967295)))+(pN .u64 (aA .u64 ((HZ .u64 p0 4294967295)*(HZ .u64 p1 4294967295))) 32))) 4294967295)+(aA .u64 ((HZ .u64 p0 4294967295)*(pN .u64 p1 32))))) 32)),aA .u64 (p0*p1))
def aFj:bQ:=⟨aD.cons (aN.int .u64) (aD.one (aN.int .u64)),aN.tup (aD.cons (aN.int .u64) (aD.one (aN.int .u64))),fun a=>gR a.1 a.2,.pure,false⟩
theorem OC:aK bA 167 aFj:=Oc aD6 rfl aI [] trivial fun a=>by kernel_rfl
def C7 (p0:Int) (p1:Int):Option (Int×Int):=
 (gR p0 p1).bind fun a0=>
 some a0
def aK6:bQ:=⟨aD.cons (aN.int .u64) (aD.one (aN.int .u64)),aN.tup (aD.cons (aN.int .u64) (aD.one (aN.int .u64))),fun a=>C7 a.1 a.2,.pure,false⟩
theorem VM:aK bA 214 aK6:=Oc aEC rfl aI [(263,aMS),(167,aFj)] ⟨aFi,OC,trivial⟩ fun a=>by kernel_rfl
def rO (s:(Int×(List Int))):Option (bY (Int×(List Int)) (List Int)):=
 bif decide (s.1<(Int.ofNat s.2.length)) then
  bif ((decide (0<=s.1))&&(decide (s.1<=(Int.ofNat s.2.length))))&&(decide ((Int.ofNat s.2.length)<=(Int.ofNat s.2.length))) then
   (iP s.2 0 s.1).bind fun _=>
   bif ((s.2.take s.1.toNat).take (((Int.ofNat s.2.length).toNat) -s.1.toNat)).isEmpty then
    some (.next (aA .i64 (s.1+0),s.2))
   else
    bif (Nat.ble ((0+s.1.toNat)+(((s.2.take s.1.toNat).take (((Int.ofNat s.2.length).toNat) -s.1.toNat)).length)) s.2.length)&&(!false) then
     some (.next (aA .i64 (s.1+(Int.ofNat (((s.2.take s.1.toNat).take (((Int.ofNat s.2.length).toNat) -s.1.toNat)).length))),gX s.2 (0+s.1.toNat) ((s.2.take s.1.toNat).take (((Int.ofNat s.2.length).toNat) -s.1.toNat))))
    else
     none
  else
   none
 else
  some (.done s.2)
def oJ (p0:List Int) (p1:Int):Option (List Int):=
 bif decide (p1<0) then
  none
 else
  (C7 (aA .u64 (Int.ofNat p0.length)) (aA .u64 p1)).bind fun a0=>
  bif decide (0<a0.1) then
   none
  else
   bif decide (9223372036854775807<a0.2) then
    none
   else
    bif (aA .i64 a0.2)==(aA .i64 a0.2) then
     (EV (aA .i64 a0.2) (0:Int)).bind fun l1=>
     bif (p0.take l1.length).isEmpty then
      aJ rO (0,l1)
     else
      bif (Nat.ble (0+((p0.take l1.length).length)) l1.length)&&(!false) then
       aJ rO (Int.ofNat ((p0.take l1.length).length),gX l1 0 (p0.take l1.length))
      else
       none
    else
     none
def aMT:bQ:=⟨aD.cons (aN.sl ki) (aD.one (aN.int .i64)),aN.sl ki,fun a=>oJ a.1 a.2,.own,true⟩
def aHe:bQ:=⟨aD.cons (aN.sl ki) (aD.one (aN.int .i64)),aN.sl ki,fun a=>oJ a.1 a.2,.frz,false⟩
theorem aFk:aK bA 177 aMT:=Oc VG rfl aI [(214,aK6)] ⟨VM,trivial⟩ fun a=>by kernel_rfl
theorem Z5:aK bA 177 aHe:=Oc VG rfl aI [(214,aK6)] ⟨VM,trivial⟩ fun a=>by kernel_rfl
def KL (p0:Int):Option (aG×Int):=
 (QP p0).bind fun a0=>
 bif a0.2 !=0 then
  some (aG.mk (aS.mk [] [] []) [] [],a0.2)
 else
  (oJ [-1] p0).bind fun l1=>
  some (aG.mk a0.1 [] l1,0)
def aMU:bQ:=⟨aD.one (aN.int .i64),aN.tup (aD.cons (aN.agg eV) (aD.one (aN.int .i64))),fun a=>KL a,.frz,false⟩
theorem aFl:aK bA 118 aMU:=Oc aDG rfl aI [(176,aMR),(177,aMT),(177,aHe)] ⟨aFh,aFk,Z5,trivial⟩ fun a=>by kernel_rfl
def MS (p0:Field) (p1:Int×Int):Option (aH×Int):=
 (iX p0).bind fun n0=>
 bif n0 !=0 then
  some (aH.mk (0,0) (Field.mk []) (aW.mk 0 []) (aG.mk (aS.mk [] [] []) [] []) [],n0)
 else
  (eW p1).bind fun n1=>
  bif n1 !=0 then
   some (aH.mk (0,0) (Field.mk []) (aW.mk 0 []) (aG.mk (aS.mk [] [] []) [] []) [],n1)
  else
   (KL 200).bind fun a2=>
   (cL p0.points).bind fun l3=>
   some (aH.mk p1 (Field.mk l3) (aW.mk 0 []) a2.1 [],a2.2)
def c66:bQ:=⟨aD.cons (aN.agg fI) (aD.one (aN.agg (cN.row jX))),aN.tup (aD.cons (aN.agg dP) (aD.one (aN.int .i64))),fun a=>MS a.1 a.2,.frz,false⟩
theorem aK7:aK bA 66 c66:=Oc aKI rfl aI [(87,c87),(60,c60),(118,aMU),(91,bQ.clone fW)] ⟨OA,yU,aFl,IN,trivial⟩ fun a=>by kernel_rfl
def oK (s:aFd):Option (bY aFd AL):=
 bif decide (s.2.1<(Int.ofNat s.1.length)) then
  (aL s.1 s.2.1).bind fun n0=>
  (aL s.1 (aA .i64 (Int.tdiv (aA .i64 (s.2.1-1)) 2))).bind fun n1=>
  (bR s.2.2 [(n0,n1)]).bind fun l2=>
  some (.next (s.1,aA .i64 (s.2.1+1),l2))
 else
  some (.done s.2.2)
def lY (p0:List Int):Option AL:=
 aJ oK (p0,1,[])
def c69:bQ:=⟨aD.one (aN.sl ki),aN.sl jX,fun a=>lY a,.frz,false⟩
theorem TO:aK bA 69 c69:=Oc aKL rfl aI [] trivial fun a=>by kernel_rfl
def iY (s:(AL×Int×Int×Int×Int)):Option (bY (AL×Int×Int×Int×Int) Int):=
 bif decide (s.2.2.1<s.2.1) then
  (aL s.1 s.2.2.1).bind fun a0=>
  bif (s.2.2.2.1==a0.1)&&(s.2.2.2.2==a0.2) then
   some (.done s.2.2.1)
  else
   some (.next (s.1,s.2.1,aA .i64 (s.2.2.1+1),s.2.2.2))
 else
  some (.done (-1))
def oL (p0:List (Int×Int)) (p1:Int×Int):Option Int:=
 aJ iY (p0,Int.ofNat p0.length,0,p1)
def aMV:bQ:=⟨aD.cons (aN.sl jX) (aD.one (aN.agg (cN.row jX))),aN.int .i64,fun a=>oL a.1 a.2,.pure,false⟩
theorem aFm:aK bA 164 aMV:=Oc aD3 rfl aI [] trivial fun a=>by kernel_rfl
def gE (p0:List (Int×Int)) (p1:Int×Int):Option Bool:=
 (oL p0 p1).bind fun n0=>
 some (decide (0<=n0))
def aK8:bQ:=⟨aD.cons (aN.sl jX) (aD.one (aN.agg (cN.row jX))),aN.bool,fun a=>gE a.1 a.2,.pure,false⟩
theorem VN:aK bA 105 aK8:=Oc aDu rfl aI [(164,aMV)] ⟨aFm,trivial⟩ fun a=>by kernel_rfl
def uA (p0:Int×Int):Option Bool:=
 bif decide (0<=(if p0.2<p0.1 then p0.2 else p0.1)) then
  bif decide ((if p0.2>p0.1 then p0.2 else p0.1)<=65535) then
   some (p0.1 !=p0.2)
  else
   some false
 else
  some false
def aK9:bQ:=⟨aD.one (aN.agg (cN.row jX)),aN.bool,fun a=>uA a,.pure,false⟩
theorem VO:aK bA 206 aK9:=Oc aEu rfl aI [] trivial fun a=>by kernel_rfl
def qN (s:aMM):Option (bY aMM Int):=
 bif decide (s.2.2.2.1<s.2.2.1) then
  (aL s.2.1 s.2.2.2.1).bind fun a0=>
  (uA a0.2).bind fun b1=>
  bif !b1 then
   some (.done 8)
  else
   (PY s.2.2.2.2.2.2 [a0.2.1,a0.2.2]).bind fun b2=>
   bif b2 then
    some (.done 8)
   else
    bif decide (a0.1<=s.1) then
     some (.done 8)
    else
     bif decide (s.2.2.2.2.1<=a0.1) then
      some (.done 8)
     else
      (PZ s.2.2.2.2.2.2 [a0.2.1,a0.2.2]).bind fun l3=>
      some (.next (a0.1,s.2.1,s.2.2.1,aA .i64 (s.2.2.2.1+1),s.2.2.2.2.1,s.2.2.2.2.2.1,l3))
 else
  some (.done 0)
def pQ (p0:aW):Option Int:=
 bif decide (200<(Int.ofNat p0.list.length)) then
  some 8
 else
  bif decide (p0.next_<0) then
   some 8
  else
   bif decide (1000000<p0.next_) then
    some 8
   else
    aJ qN (-1,p0.list,Int.ofNat p0.list.length,0,p0.next_,p0.list,[])
def aFn:bQ:=⟨aD.one (aN.agg mK),aN.int .i64,fun a=>pQ a,.pure,false⟩
theorem OD:aK bA 161 aFn:=Oc aD0 rfl aI [(206,aK9)] ⟨VO,trivial⟩ fun a=>by kernel_rfl
def gF (s:((List Bool)×Bool×Int×Int)):Option (bY ((List Bool)×Bool×Int×Int) Int):=
 bif decide (s.2.2.2<s.2.2.1) then
  (aL s.1 s.2.2.2).bind fun b0=>
  bif s.2.1==b0 then
   some (.done s.2.2.2)
  else
   some (.next (s.1,s.2.1,s.2.2.1,aA .i64 (s.2.2.2+1)))
 else
  some (.done (-1))
def oM (p0:List Bool) (p1:Bool):Option Int:=
 aJ gF (p0,p1,Int.ofNat p0.length,0)
def aMW:bQ:=⟨aD.cons (aN.sl kb) (aD.one aN.bool),aN.int .i64,fun a=>oM a.1 a.2,.pure,false⟩
theorem aFo:aK bA 287 aMW:=Oc aE3 rfl aI [] trivial fun a=>by kernel_rfl
def dS (p0:List Bool) (p1:Bool):Option Bool:=
 (oM p0 p1).bind fun n0=>
 some (decide (0<=n0))
def aMX:bQ:=⟨aD.cons (aN.sl kb) (aD.one aN.bool),aN.bool,fun a=>dS a.1 a.2,.pure,false⟩
theorem aFp:aK bA 260 aMX:=Oc aES rfl aI [(287,aMW)] ⟨aFo,trivial⟩ fun a=>by kernel_rfl
def gB (s:((List Int)×Int×Int×(List Int)×(List Bool)×(List Int))):Option (bY ((List Int)×Int×Int×(List Int)×(List Bool)×(List Int)) aMO):=
 bif decide (s.2.2.1<s.2.1) then
  (aL s.1 s.2.2.1).bind fun n0=>
  bif decide (n0<0) then
   some (.done (.done 8))
  else
   bif decide (1000000<n0) then
    some (.done (.done 8))
   else
    bif n0==0 then
     (aL s.2.2.2.2.1 s.2.2.1).bind fun b1=>
     bif b1 then
      some (.done (.done 8))
     else
      some (.next (s.1,s.2.1,aA .i64 (s.2.2.1+1),s.2.2.2))
    else
     some (.next (s.1,s.2.1,aA .i64 (s.2.2.1+1),s.2.2.2))
 else
  some (.done (.done 0))
def qO (c0:(List Bool)) (s:aMN):Option aMO:=
 bif decide (s.2.2.1<s.2.1) then
  (aL s.1 s.2.2.1).bind fun n0=>
  bif decide (n0<0) then
   bif s.2.2.2.2.2.2.2.length==s.2.2.2.2.2.2.2.length then
    bif s.2.2.2.2.2.2.2.length==c0.length then
     bif s.2.2.2.2.2.2.2.length==c0.length then
      bif decide (0<=s.2.2.1) then
       some (.done 8)
      else
       (dS s.2.2.2.2.2.2.2 false).bind fun b1=>
       bif b1 then
        some (.done 8)
       else
        aJ gB (s.2.2.2.1,Int.ofNat s.2.2.2.1.length,0,s.2.2.2.1,s.2.2.2.2.1,s.2.2.2.2.2.1)
     else
      none
    else
     none
   else
    none
  else
   bif decide (s.2.2.2.2.2.2.1<=n0) then
    bif s.2.2.2.2.2.2.2.length==s.2.2.2.2.2.2.2.length then
     bif s.2.2.2.2.2.2.2.length==c0.length then
      bif s.2.2.2.2.2.2.2.length==c0.length then
       bif decide (0<=s.2.2.1) then
        some (.done 8)
       else
        (dS s.2.2.2.2.2.2.2 false).bind fun b2=>
        bif b2 then
         some (.done 8)
        else
         aJ gB (s.2.2.2.1,Int.ofNat s.2.2.2.1.length,0,s.2.2.2.1,s.2.2.2.2.1,s.2.2.2.2.2.1)
      else
       none
     else
      none
    else
     none
   else
    (aL s.2.2.2.2.2.2.2 n0).bind fun b3=>
    bif b3 then
     bif s.2.2.2.2.2.2.2.length==s.2.2.2.2.2.2.2.length then
      bif s.2.2.2.2.2.2.2.length==c0.length then
       bif s.2.2.2.2.2.2.2.length==c0.length then
        bif decide (0<=s.2.2.1) then
         some (.done 8)
        else
         (dS s.2.2.2.2.2.2.2 false).bind fun b4=>
         bif b4 then
          some (.done 8)
         else
          aJ gB (s.2.2.2.1,Int.ofNat s.2.2.2.1.length,0,s.2.2.2.1,s.2.2.2.2.1,s.2.2.2.2.2.1)
       else
        none
      else
       none
     else
      none
    else
     (aL s.2.2.2.2.2.2.2 n0).bind fun _=>
     bif ((bT s.2.2.2.2.2.2.2 n0 true).length)==s.2.2.2.2.2.2.2.length then
      some (.next (s.1,s.2.1,aA .i64 (s.2.2.1+1),s.2.2.2.1,s.2.2.2.2.1,s.2.2.2.2.2.1,s.2.2.2.2.2.2.1,bT s.2.2.2.2.2.2.2 n0 true))
     else
      none
 else
  bif s.2.2.2.2.2.2.2.length==c0.length then
   bif s.2.2.2.2.2.2.2.length==c0.length then
    (dS s.2.2.2.2.2.2.2 false).bind fun b6=>
    bif b6 then
     some (.done 8)
    else
     aJ gB (s.2.2.2.1,Int.ofNat s.2.2.2.1.length,0,s.2.2.2.1,s.2.2.2.2.1,s.2.2.2.2.2.1)
   else
    none
  else
   none
def pR (p0:aS):Option Int:=
 bif decide ((Int.ofNat p0.uses.length)<1) then
  some 8
 else
  bif decide (200<(Int.ofNat p0.uses.length)) then
   some 8
  else
   bif (Int.ofNat p0.used.length) !=(Int.ofNat p0.uses.length) then
    some 8
   else
    (cL p0.used).bind fun l0=>
    aJ (qO l0) (p0.free,Int.ofNat p0.free.length,0,p0.uses,p0.used,p0.free,Int.ofNat p0.uses.length,l0)
def aFq:bQ:=⟨aD.one (aN.agg lR),aN.int .i64,fun a=>pR a,.pure,false⟩
theorem OE:aK bA 207 aFq:=aK.of aEv (cx:=(yK aI [(173,bQ.clone kb),(260,aMX)] [] [(258,aCY),(286,aDd),(259,aC0)] [])) rfl (rN.make ⟨BD,aFp,trivial⟩ trivial ⟨aEQ,aE2,aER,trivial⟩) (fun a=>by kernel_rfl)
def yV (p0:Int×Int) (p1:Int×Int):Option Int:=
 (eW p0).bind fun n0=>
 (eW p1).bind fun n1=>
 some (if n1>n0 then n1 else n0)
def aMY:bQ:=⟨aD.cons (aN.agg (cN.row jX)) (aD.one (aN.agg (cN.row jX))),aN.int .i64,fun a=>yV a.1 a.2,.pure,false⟩
theorem aFr:aK bA 109 aMY:=Oc aDy rfl aI [(60,c60)] ⟨yU,trivial⟩ fun a=>by kernel_rfl
def nF (p0:Int):Option Bool:=
 some (p0 !=p0)
def aMZ:bQ:=⟨aD.one (aN.int .i64),aN.bool,fun a=>nF a,.pure,false⟩
theorem aFs:aK bA 165 aMZ:=Oc aD4 rfl aI [] trivial fun a=>by kernel_rfl
def iZ (p0:Int) (p1:Int):Option Int:=
 (nF p0).bind fun b0=>
 (nF p1).bind fun b1=>
 bif b0 then
  bif b1 then
   some 0
  else
   some (-1)
 else
  bif b1 then
   some 1
  else
   bif decide (p0<p1) then
    some (-1)
   else
    bif decide (p1<p0) then
     some 1
    else
     some 0
def aLa:bQ:=⟨aD.cons (aN.int .i64) (aD.one (aN.int .i64)),aN.int .i64,fun a=>iZ a.1 a.2,.pure,false⟩
theorem VP:aK bA 110 aLa:=Oc aDz rfl aI [(165,aMZ)] ⟨aFs,trivial⟩ fun a=>by kernel_rfl
def rP (p0:Int) (p1:Int):Option (Bool×Int×Int):=
 (lK p0).bind fun n0=>
 (lK p1).bind fun n1=>
 (gR n0 n1).bind fun a2=>
 some (!((decide (p0<0))==(decide (p1<0))),a2)
def aM0:bQ:=⟨aD.cons (aN.int .i64) (aD.one (aN.int .i64)),aN.agg (cN.row BB),fun a=>rP a.1 a.2,.pure,false⟩
theorem aFt:aK bA 112 aM0:=Oc aDB rfl aI [(108,aFg),(167,aFj)] ⟨OB,OC,trivial⟩ fun a=>by kernel_rfl
def mM (p0:Int):Option Bool:=
 some (p0 !=p0)
def aM1:bQ:=⟨aD.one (aN.int .u64),aN.bool,fun a=>mM a,.pure,false⟩
theorem aFu:aK bA 210 aM1:=Oc aEy rfl aI [] trivial fun a=>by kernel_rfl
def iG (p0:Int) (p1:Int):Option Int:=
 (mM p0).bind fun b0=>
 (mM p1).bind fun b1=>
 bif b0 then
  bif b1 then
   some 0
  else
   some (-1)
 else
  bif b1 then
   some 1
  else
   bif decide (p0<p1) then
    some (-1)
   else
    bif decide (p1<p0) then
     some 1
    else
     some 0
def aM2:bQ:=⟨aD.cons (aN.int .u64) (aD.one (aN.int .u64)),aN.int .i64,fun a=>iG a.1 a.2,.pure,false⟩
theorem aFv:aK bA 166 aM2:=Oc aD5 rfl aI [(210,aM1)] ⟨aFu,trivial⟩ fun a=>by kernel_rfl
def qP (p0:Bool×Int×Int) (p1:Bool×Int×Int):Option Int:=
 (iG p0.2.1 p1.2.1).bind fun n0=>
 bif n0 !=0 then
  some n0
 else
  (iG p0.2.2 p1.2.2).bind fun n1=>
  some n1
def aM3:bQ:=⟨aD.cons (aN.agg (cN.row BB)) (aD.one (aN.agg (cN.row BB))),aN.int .i64,fun a=>qP a.1 a.2,.pure,false⟩
theorem aFw:aK bA 111 aM3:=Oc aDA rfl aI [(166,aM2)] ⟨aFv,trivial⟩ fun a=>by kernel_rfl
def pS (p0:Int×Int) (p1:Int×Int):Option (Int×Int):=
 (yV p0 p1).bind fun n0=>
 bif n0 !=0 then
  some (0,n0)
 else
  bif !((decide (p0.1<0))==(decide (p1.1<0))) then
   (iZ p0.1 p1.1).bind fun n1=>
   some (n1,0)
  else
   (rP p0.1 p1.2).bind fun a2=>
   (rP p1.1 p0.2).bind fun a3=>
   (qP a2 a3).bind fun n4=>
   bif decide (p0.1<0) then
    some (aA .i64 (0-n4),0)
   else
    some (n4,0)
def c61:bQ:=⟨aD.cons (aN.agg (cN.row jX)) (aD.one (aN.agg (cN.row jX))),aN.tup (aD.cons (aN.int .i64) (aD.one (aN.int .i64))),fun a=>pS a.1 a.2,.pure,false⟩
theorem TP:aK bA 61 c61:=Oc aKD rfl aI [(109,aMY),(110,aLa),(112,aM0),(111,aM3)] ⟨aFr,VP,aFt,aFw,trivial⟩ fun a=>by kernel_rfl
def qQ (p0:Int):Option Bool:=
 some (p0 !=p0)
def aM4:bQ:=⟨aD.one (aN.int .i64),aN.bool,fun a=>qQ a,.pure,false⟩
theorem aFx:aK bA 203 aM4:=Oc aEs rfl aI [] trivial fun a=>by kernel_rfl
def eO (p0:Int) (p1:Int):Option Int:=
 (qQ p0).bind fun b0=>
 (qQ p1).bind fun b1=>
 bif b0 then
  bif b1 then
   some 0
  else
   some (-1)
 else
  bif b1 then
   some 1
  else
   bif decide (p0<p1) then
    some (-1)
   else
    bif decide (p1<p0) then
     some 1
    else
     some 0
def TQ:bQ:=⟨aD.cons (aN.int .i64) (aD.one (aN.int .i64)),aN.int .i64,fun a=>eO a.1 a.2,.pure,false⟩
theorem CC:aK bA 151 TQ:=Oc aDS rfl aI [(203,aM4)] ⟨aFx,trivial⟩ fun a=>by kernel_rfl
def wE (s:(Int×(List Int)×Int×Int)):Option (bY (Int×(List Int)×Int×Int) Int):=
 bif decide (s.2.2.2<s.2.2.1) then
  (aL s.2.1 s.2.2.2).bind fun n0=>
  bif n0 !=s.1 then
   some (.done n0)
  else
   some (.next (s.1,s.2.1,s.2.2.1,aA .i64 (s.2.2.2+1)))
 else
  some (.done s.1)
def uB (p0:List Int):Option Int:=
 aJ wE (0,p0,Int.ofNat p0.length,0)
def aLb:bQ:=⟨aD.one (aN.sl ki),aN.int .i64,fun a=>uB a,.pure,false⟩
theorem VQ:aK bA 194 aLb:=Oc aEr rfl aI [] trivial fun a=>by kernel_rfl
def bV (p0:Int×Int×Int×Int×Int) (p1:Int×Int×Int×Int×Int):Option Int:=
 (pS (p0.1,p0.2.1) (p1.1,p1.2.1)).bind fun a0=>
 (eO p0.2.2.1 p1.2.2.1).bind fun n1=>
 (uB [a0.1,n1]).bind fun n2=>
 some n2
def aFy:bQ:=⟨aD.cons (aN.agg (cN.row kU)) (aD.one (aN.agg (cN.row kU))),aN.int .i64,fun a=>bV a.1 a.2,.pure,false⟩
theorem OF:aK bA 208 aFy:=Oc aEw rfl aI [(61,c61),(151,TQ),(194,aLb)] ⟨TP,CC,VQ,trivial⟩ fun a=>by kernel_rfl
def iS (s:aMF):Option (bY aMF aMK):=
 bif decide (s.2.2.1<s.2.1) then
  (aL s.1 s.2.2.1).bind fun a0=>
  (eW (a0.1,a0.2.1)).bind fun n1=>
  bif n1 !=0 then
   some (.done (.done 8))
  else
   bif decide (a0.2.2.1<0) then
    some (.done (.done 8))
   else
    bif decide (1000000<a0.2.2.1) then
     some (.done (.done 8))
    else
     (PY s.2.2.2.2.2.2.2.2 [a0.2.2.1]).bind fun b2=>
     bif b2 then
      some (.done (.done 8))
     else
      (PZ s.2.2.2.2.2.2.2.2 [a0.2.2.1]).bind fun l3=>
      bif decide (0<s.2.2.1) then
       (aL s.2.2.2.2.2.2.1 (aA .i64 (Int.tdiv (aA .i64 (s.2.2.1-1)) 2))).bind fun a4=>
       (bV a0 a4).bind fun n5=>
       bif decide (n5<0) then
        some (.done (.done 8))
       else
        some (.next (s.1,s.2.1,aA .i64 (s.2.2.1+1),s.2.2.2.1,s.2.2.2.2.1,s.2.2.2.2.2.1,s.2.2.2.2.2.2.1,s.2.2.2.2.2.2.2.1,l3))
      else
       some (.next (s.1,s.2.1,aA .i64 (s.2.2.1+1),s.2.2.2.1,s.2.2.2.2.1,s.2.2.2.2.2.1,s.2.2.2.2.2.2.1,s.2.2.2.2.2.2.2.1,l3))
 else
  some (.done (.done 0))
def lG (s:aMJ):Option aMK:=
 bif decide (s.2.2.1<s.2.1) then
  (aL s.1 s.2.2.1).bind fun n0=>
  (aL s.2.2.2.2.1 s.2.2.1).bind fun b1=>
  bif !b1 then
   bif n0 !=(-1) then
    some (.done 8)
   else
    some (.next (s.1,s.2.1,aA .i64 (s.2.2.1+1),s.2.2.2))
  else
   bif decide (n0<0) then
    some (.done 8)
   else
    bif decide ((Int.ofNat s.2.2.2.2.2.2.1.length)<=n0) then
     some (.done 8)
    else
     (aL s.2.2.2.2.2.2.1 n0).bind fun a2=>
     (aL s.2.2.2.1 s.2.2.1).bind fun n3=>
     bif !((a2.2.2.2.1==s.2.2.1)&&(a2.2.2.2.2==n3)) then
      some (.done 8)
     else
      some (.next (s.1,s.2.1,aA .i64 (s.2.2.1+1),s.2.2.2))
 else
  aJ iS (s.2.2.2.2.2.2.1,Int.ofNat s.2.2.2.2.2.2.1.length,0,s.2.2.2.1,s.2.2.2.2.1,s.2.2.2.2.2.1,s.2.2.2.2.2.2.1,s.2.2.2.2.2.2.2,[])
def jA (p0:aG):Option Int:=
 (pR p0.slots).bind fun n0=>
 bif n0 !=0 then
  some 8
 else
  bif (Int.ofNat p0.where_.length) !=(Int.ofNat p0.slots.used.length) then
   some 8
  else
   bif (Int.ofNat p0.heap.length) !=(aA .i64 ((Int.ofNat p0.slots.used.length) - (Int.ofNat p0.slots.free.length))) then
    some 8
   else
    aJ lG (p0.where_,Int.ofNat p0.where_.length,0,p0.slots.uses,p0.slots.used,p0.slots.free,p0.heap,p0.where_)
def XL:bQ:=⟨aD.one (aN.agg eV),aN.int .i64,fun a=>jA a,.pure,false⟩
theorem FF:aK bA 162 XL:=Oc aD1 rfl aI [(207,aFq),(60,c60),(208,aFy)] ⟨OE,yU,OF,trivial⟩ fun a=>by kernel_rfl
def wF (p0:Int×Int×Int) (p1:Int):Option Int:=
 (eO p0.1 p1).bind fun n0=>
 some n0
def aM5:bQ:=⟨aD.cons (aN.agg (cN.row fW)) (aD.one (aN.int .i64)),aN.int .i64,fun a=>wF a.1 a.2,.pure,false⟩
theorem aFz:aK bA 215 aM5:=Oc aED rfl aI [(151,TQ)] ⟨CC,trivial⟩ fun a=>by kernel_rfl
def iA (s:N9):Option aFc:=
 bif decide (s.2.2.2.1<s.2.2.2.2) then
  (aL s.1 (aA .i64 (pN .u64 (aA .u64 (aA .i64 (s.2.2.2.1+s.2.2.2.2))) 1))).bind fun a0=>
  (wF a0 s.2.1).bind fun n1=>
  bif decide (n1<0) then
   some (.next (s.1,s.2.1,s.2.2.1,aA .i64 ((aA .i64 (pN .u64 (aA .u64 (aA .i64 (s.2.2.2.1+s.2.2.2.2))) 1))+1),s.2.2.2.2))
  else
   some (.next (s.1,s.2.1,s.2.2.1,s.2.2.2.1,aA .i64 (pN .u64 (aA .u64 (aA .i64 (s.2.2.2.1+s.2.2.2.2))) 1)))
 else
  bif decide (s.2.2.2.1<s.2.2.1) then
   (aL s.1 s.2.2.2.1).bind fun a2=>
   (wF a2 s.2.1).bind fun n3=>
   some (.done (s.2.2.2.1,n3==0))
  else
   some (.done (s.2.2.2.1,false))
def cM (p0:List BC) (p1:Int) (_:Unit):Option (Int×Bool):=
 aJ iA (p0,p1,Int.ofNat p0.length,0,Int.ofNat p0.length)
def QQ:bQ:=⟨aD.cons (aN.sl fW) (aD.cons (aN.int .i64) (aD.one (aN.clo 215 aD.nil))),aN.tup (aD.cons (aN.int .i64) (aD.one aN.bool)),fun a=>cM a.1 a.2.1 a.2.2,.pure,false⟩
theorem QR:aK bA 149 QQ:=Oc VF rfl aI [(215,aM5)] ⟨aFz,trivial⟩ fun a=>by kernel_rfl
def jB (p0:Field) (p1:Int):Option BC:=
 (cM p0.points p1 ()).bind fun a0=>
 bif !a0.2 then
  some (-1,0,0)
 else
  (aL p0.points a0.1).bind fun a1=>
  some a1
def aFA:bQ:=⟨aD.cons (aN.agg fI) (aD.one (aN.int .i64)),aN.agg (cN.row fW),fun a=>jB a.1 a.2,.pure,false⟩
theorem OG:aK bA 178 aFA:=Oc aEg rfl aI [(149,QQ)] ⟨QR,trivial⟩ fun a=>by kernel_rfl
def pT (p0:Int×Int×Int) (p1:Int×Int×Int) (p2:Int×Int):Option Int:=
 (mL p0).bind fun n0=>
 (mL p1).bind fun n1=>
 (eW p2).bind fun n2=>
 bif (if n2>(if n1>n0 then n1 else n0) then n2 else if n1>n0 then n1 else n0) !=0 then
  some (if n2>(if n1>n0 then n1 else n0) then n2 else if n1>n0 then n1 else n0)
 else
  bif p0.1==p1.1 then
   some 2
  else
   some 0
def aFB:bQ:=⟨aD.cons (aN.agg (cN.row fW)) (aD.cons (aN.agg (cN.row fW)) (aD.one (aN.agg (cN.row jX)))),aN.int .i64,fun a=>pT a.1 a.2.1 a.2.2,.pure,false⟩
theorem OH:aK bA 189 aFB:=Oc aEo rfl aI [(88,c88),(60,c60)] ⟨Z4,yU,trivial⟩ fun a=>by kernel_rfl
def nA (s:(Int×Int×Int×Int×Int×Int×Int×Int×Int)):Option (bY (Int×Int×Int×Int×Int×Int×Int×Int×Int) (Int×Int)):=
 bif decide (s.2.2.2.2.1<2) then
  bif s.2.2.2.2.1==0 then
   (gR (aA .u64 s.1) (aA .u64 s.2.1)).bind fun a0=>
   bif decide (s.1<0) then
    bif decide (s.2.1<0) then
     (pP s.2.2.2.2.2.2.2.2 a0.2 0).bind fun a1=>
     some (.next (s.1,s.2.1,s.2.2.1,s.2.2.2.1,aA .i64 (s.2.2.2.2.1+1),s.2.2.2.2.2.1,s.2.2.2.2.2.2.1,aA .i64 ((aA .i64 (s.2.2.2.2.2.2.2.1+(aA .i64 ((aA .i64 ((aA .i64 a0.1) -s.2.1)) -s.1))))+(aA .i64 a1.2)),a1.1))
    else
     (pP s.2.2.2.2.2.2.2.2 a0.2 0).bind fun a2=>
     some (.next (s.1,s.2.1,s.2.2.1,s.2.2.2.1,aA .i64 (s.2.2.2.2.1+1),s.2.2.2.2.2.1,s.2.2.2.2.2.2.1,aA .i64 ((aA .i64 (s.2.2.2.2.2.2.2.1+(aA .i64 ((aA .i64 a0.1) -s.2.1))))+(aA .i64 a2.2)),a2.1))
   else
    bif decide (s.2.1<0) then
     (pP s.2.2.2.2.2.2.2.2 a0.2 0).bind fun a3=>
     some (.next (s.1,s.2.1,s.2.2.1,s.2.2.2.1,aA .i64 (s.2.2.2.2.1+1),s.2.2.2.2.2.1,s.2.2.2.2.2.2.1,aA .i64 ((aA .i64 (s.2.2.2.2.2.2.2.1+(aA .i64 ((aA .i64 a0.1) -s.1))))+(aA .i64 a3.2)),a3.1))
    else
     (pP s.2.2.2.2.2.2.2.2 a0.2 0).bind fun a4=>
     some (.next (s.1,s.2.1,s.2.2.1,s.2.2.2.1,aA .i64 (s.2.2.2.2.1+1),s.2.2.2.2.2.1,s.2.2.2.2.2.2.1,aA .i64 ((aA .i64 (s.2.2.2.2.2.2.2.1+(aA .i64 a0.1)))+(aA .i64 a4.2)),a4.1))
  else
   bif s.2.2.2.2.1==1 then
    (gR (aA .u64 s.2.2.1) (aA .u64 s.2.2.2.1)).bind fun a5=>
    bif decide (s.2.2.1<0) then
     bif decide (s.2.2.2.1<0) then
      (pP s.2.2.2.2.2.2.2.2 a5.2 0).bind fun a6=>
      some (.next (s.1,s.2.1,s.2.2.1,s.2.2.2.1,aA .i64 (s.2.2.2.2.1+1),s.2.2.2.2.2.1,s.2.2.2.2.2.2.1,aA .i64 ((aA .i64 (s.2.2.2.2.2.2.2.1+(aA .i64 ((aA .i64 ((aA .i64 a5.1) -s.2.2.2.1)) -s.2.2.1))))+(aA .i64 a6.2)),a6.1))
     else
      (pP s.2.2.2.2.2.2.2.2 a5.2 0).bind fun a7=>
      some (.next (s.1,s.2.1,s.2.2.1,s.2.2.2.1,aA .i64 (s.2.2.2.2.1+1),s.2.2.2.2.2.1,s.2.2.2.2.2.2.1,aA .i64 ((aA .i64 (s.2.2.2.2.2.2.2.1+(aA .i64 ((aA .i64 a5.1) -s.2.2.2.1))))+(aA .i64 a7.2)),a7.1))
    else
     bif decide (s.2.2.2.1<0) then
      (pP s.2.2.2.2.2.2.2.2 a5.2 0).bind fun a8=>
      some (.next (s.1,s.2.1,s.2.2.1,s.2.2.2.1,aA .i64 (s.2.2.2.2.1+1),s.2.2.2.2.2.1,s.2.2.2.2.2.2.1,aA .i64 ((aA .i64 (s.2.2.2.2.2.2.2.1+(aA .i64 ((aA .i64 a5.1) -s.2.2.1))))+(aA .i64 a8.2)),a8.1))
     else
      (pP s.2.2.2.2.2.2.2.2 a5.2 0).bind fun a9=>
      some (.next (s.1,s.2.1,s.2.2.1,s.2.2.2.1,aA .i64 (s.2.2.2.2.1+1),s.2.2.2.2.2.1,s.2.2.2.2.2.2.1,aA .i64 ((aA .i64 (s.2.2.2.2.2.2.2.1+(aA .i64 a5.1)))+(aA .i64 a9.2)),a9.1))
   else
    none
 else
  some (.done s.2.2.2.2.2.2.2)
def yW (p0:Int×Int×Int×Int):Option (Int×Int):=
 aJ nA (p0.1,p0.2.1,p0.2.2.1,p0.2.2.2,0,0,0,0,0)
def aM6:bQ:=⟨aD.one (aN.agg (cN.row aMq)),aN.agg (cN.row kiu),fun a=>yW a,.pure,false⟩
theorem aFC:aK bA 237 aM6:=Oc aEN rfl aI [(167,aFj),(275,bQ.add64)] ⟨OC,ZZ,trivial⟩ fun a=>by kernel_rfl
def lZ (p0:Int×Int×Int) (p1:Int×Int×Int) (p2:Int×Int):Option Int:=
 (yW (aA .i64 (p0.2.1-p1.2.1),p2.2,aA .i64 (p0.2.2-p1.2.2),p2.1)).bind fun a0=>
 bif !((a0.1==0)&&(a0.2==0)) then
  bif decide (a0.1<0) then
   some (-1)
  else
   some 1
 else
  (iZ p0.2.2 p1.2.2).bind fun n1=>
  (eO p1.1 p0.1).bind fun n2=>
  (uB [n1,n2]).bind fun n3=>
  some n3
def aLc:bQ:=⟨aD.cons (aN.agg (cN.row fW)) (aD.cons (aN.agg (cN.row fW)) (aD.one (aN.agg (cN.row jX)))),aN.int .i64,fun a=>lZ a.1 a.2.1 a.2.2,.pure,false⟩
theorem VS:aK bA 190 aLc:=Oc aEp rfl aI [(237,aM6),(110,aLa),(151,TQ),(194,aLb)] ⟨aFC,VP,CC,VQ,trivial⟩ fun a=>by kernel_rfl
def BF (p0:Bool×Int×Int) (p1:Int) (p2:Int):Option ((Int×Int)×Int):=
 bif decide (0<p0.2.1) then
  some ((0,0),16)
 else
  bif decide (9223372036854775807<p0.2.2) then
   some ((0,0),16)
  else
   bif decide (0<p1) then
    some ((0,0),16)
   else
    bif decide (9223372036854775807<p2) then
     some ((0,0),16)
    else
     bif p0.1 then
      some ((aA .i64 (0- (aA .i64 p0.2.2)),aA .i64 p2),0)
     else
      some ((aA .i64 p0.2.2,aA .i64 p2),0)
def aM7:bQ:=⟨aD.cons (aN.agg (cN.row BB)) (aD.cons (aN.int .u64) (aD.one (aN.int .u64))),aN.tup (aD.cons (aN.agg (cN.row jX)) (aD.one (aN.int .i64))),fun a=>BF a.1 a.2.1 a.2.2,.pure,false⟩
theorem aFD:aK bA 238 aM7:=Oc aEO rfl aI [] trivial fun a=>by kernel_rfl
def yX (p0:Int) (p1:Int):Option ((Int×Int)×Int):=
 bif p1==0 then
  some ((0,0),26)
 else
  (lK p0).bind fun n0=>
  (lK p1).bind fun n1=>
  (xJ n0 n1).bind fun n2=>
  (lK p0).bind fun n3=>
  bif n2==0 then
   none
  else
   (lK p1).bind fun n4=>
   bif n2==0 then
    none
   else
    (BF (!((decide (p0<0))==(decide (p1<0))),0,aA .u64 (Int.tdiv n3 n2)) 0 (aA .u64 (Int.tdiv n4 n2))).bind fun a5=>
    some a5
def aM8:bQ:=⟨aD.cons (aN.int .i64) (aD.one (aN.int .i64)),aN.tup (aD.cons (aN.agg (cN.row jX)) (aD.one (aN.int .i64))),fun a=>yX a.1 a.2,.pure,false⟩
theorem aFE:aK bA 192 aM8:=Oc aEq rfl aI [(108,aFg),(107,aK5),(238,aM7)] ⟨OB,VL,aFD,trivial⟩ fun a=>by kernel_rfl
def BG (p0:Int×Int×Int) (p1:Int×Int×Int):Option ((Int×Int)×Int):=
 (pT p0 p1 (0,1)).bind fun n0=>
 bif n0 !=0 then
  some ((0,0),n0)
 else
  bif p0.2.2==p1.2.2 then
   some ((0,0),6)
  else
   (yX (aA .i64 (p0.2.1-p1.2.1)) (aA .i64 (p1.2.2-p0.2.2))).bind fun a1=>
   some a1
def aM9:bQ:=⟨aD.cons (aN.agg (cN.row fW)) (aD.one (aN.agg (cN.row fW))),aN.tup (aD.cons (aN.agg (cN.row jX)) (aD.one (aN.int .i64))),fun a=>BG a.1 a.2,.pure,false⟩
theorem aFF:aK bA 131 aM9:=Oc aDO rfl aI [(189,aFB),(192,aM8)] ⟨OH,aFE,trivial⟩ fun a=>by kernel_rfl
def tE (p0:Int×Int×Int) (p1:Int×Int×Int) (p2:Int×Int):Option ((Int×Int)×Bool×Int):=
 (pT p0 p1 p2).bind fun n0=>
 bif n0 !=0 then
  some ((0,0),false,n0)
 else
  (lZ p1 p0 p2).bind fun n1=>
  bif decide (0<n1) then
   some (p2,true,0)
  else
   bif decide (p1.2.2<=p0.2.2) then
    some ((0,0),false,0)
   else
    (BG p0 p1).bind fun a2=>
    some (a2.1,a2.2==0,a2.2)
def aNa:bQ:=⟨aD.cons (aN.agg (cN.row fW)) (aD.cons (aN.agg (cN.row fW)) (aD.one (aN.agg (cN.row jX)))),aN.tup (aD.cons (aN.agg (cN.row jX)) (aD.cons aN.bool (aD.one (aN.int .i64)))),fun a=>tE a.1 a.2.1 a.2.2,.pure,false⟩
theorem aFG:aK bA 209 aNa:=Oc aEx rfl aI [(189,aFB),(190,aLc),(131,aM9)] ⟨OH,VS,aFF,trivial⟩ fun a=>by kernel_rfl
def pU (p0:Field) (p1:Int×Int) (p2:Int×Int):Option ((Int×Int)×Bool×Int):=
 (jB p0 p1.2).bind fun a0=>
 (jB p0 p1.1).bind fun a1=>
 (tE a0 a1 p2).bind fun a2=>
 some a2
def aFH:bQ:=⟨aD.cons (aN.agg fI) (aD.cons (aN.agg (cN.row jX)) (aD.one (aN.agg (cN.row jX)))),aN.tup (aD.cons (aN.agg (cN.row jX)) (aD.cons aN.bool (aD.one (aN.int .i64)))),fun a=>pU a.1 a.2.1 a.2.2,.pure,false⟩
theorem OI:aK bA 163 aFH:=Oc aD2 rfl aI [(178,aFA),(209,aNa)] ⟨OG,aFG,trivial⟩ fun a=>by kernel_rfl
def cE (s:Zt7):Option (bY Zt7 aMv):=
 bif decide (s.2.2.2.1<s.2.2.1) then
  (aL s.2.1 s.2.2.2.1).bind fun a0=>
  (pU (Field.mk s.2.2.2.2.2.2.1) a0.2 (s.2.2.2.2.1,s.2.2.2.2.2.1)).bind fun a1=>
  bif a1.2.2 !=0 then
   some (.done (.done 8))
  else
   bif !a1.2.1 then
    some (.next (s.1,s.2.1,s.2.2.1,aA .i64 (s.2.2.2.1+1),s.2.2.2.2))
   else
    bif (Int.ofNat s.1.length)==0 then
     some (.done (.done 8))
    else
     (aL s.1 0).bind fun a2=>
     bif a2.1 !=a0.1 then
      some (.done (.done 8))
     else
      (aL s.1 0).bind fun a3=>
      bif decide (a3.2.1<0) then
       some (.done (.done 8))
      else
       bif decide (200<=a3.2.1) then
        some (.done (.done 8))
       else
        (aL s.2.2.2.2.2.2.2.2.2.2.2.2.2.1 a3.2.1).bind fun n4=>
        bif decide (n4<0) then
         some (.done (.done 8))
        else
         (aL s.2.2.2.2.2.2.2.2.2.2.2.2.2.1 a3.2.1).bind fun n5=>
         (aL s.2.2.2.2.2.2.2.2.2.2.2.2.1 n5).bind fun a6=>
         bif !((a6.1==a1.1.1)&&((a6.2.1==a1.1.2)&&((a6.2.2.1==a0.1)&&((a6.2.2.2.1==a3.2.1)&&(a6.2.2.2.2==a3.2.2))))) then
          some (.done (.done 8))
         else
          (iP s.1 1 (Int.ofNat s.1.length)).bind fun l7=>
          some (.next (l7,s.2.1,s.2.2.1,aA .i64 (s.2.2.2.1+1),s.2.2.2.2))
 else
  bif decide (0<(Int.ofNat s.1.length)) then
   some (.done (.done 8))
  else
   some (.done (.done 0))
def eJ (s:aE8):Option aMv:=
 bif decide (s.2.1<s.1) then
  (aL s.2.2.2.2.2.2.2.2.2.2.2.2.2 s.2.1).bind fun n0=>
  bif n0 !=0 then
   some (.done 8)
  else
   some (.next (s.1,aA .i64 (s.2.1+1),s.2.2))
 else
  bif (Int.ofNat s.2.2.2.2.2.2.2.2.2.2.2.1.length) !=200 then
   some (.done 8)
  else
   bif (Int.ofNat s.2.2.2.2.2.2.2.2.2.2.1.length) !=(Int.ofNat s.2.2.2.2.2.2.2.2.2.2.2.2.1.length) then
    some (.done 8)
   else
    aJ cE (s.2.2.2.2.2.2.2.2.2.2.2.2.1,s.2.2.2.2.2.2.1,Int.ofNat s.2.2.2.2.2.2.1.length,0,s.2.2.1,s.2.2.2.1,s.2.2.2.2.1,s.2.2.2.2.2.1,s.2.2.2.2.2.2.1,s.2.2.2.2.2.2.2.1,s.2.2.2.2.2.2.2.2.1,s.2.2.2.2.2.2.2.2.2.1,s.2.2.2.2.2.2.2.2.2.2.1,s.2.2.2.2.2.2.2.2.2.2.2.1,s.2.2.2.2.2.2.2.2.2.2.2.2.1)
def hY (p0:aH):Option Int:=
 (eW p0.now).bind fun n0=>
 (iX p0.field).bind fun n1=>
 (pQ p0.certs).bind fun n2=>
 (jA p0.agenda).bind fun n3=>
 aJ eJ (Int.ofNat ([n0,n1,n2,n3].length),0,p0.now.1,p0.now.2,p0.field.points,p0.certs.next_,p0.certs.list,p0.agenda.slots.uses,p0.agenda.slots.used,p0.agenda.slots.free,p0.agenda.heap,p0.agenda.where_,p0.due,[n0,n1,n2,n3])
def XM:bQ:=⟨aD.one (aN.agg dP),aN.int .i64,fun a=>hY a,.pure,false⟩
theorem FG:aK bA 103 XM:=Oc aDs rfl aI [(60,c60),(87,c87),(161,aFn),(162,XL),(163,aFH)] ⟨yU,OA,OD,FF,OI,trivial⟩ fun a=>by kernel_rfl
def rQ (p0:Int×Int×Int) (p1:Int):Option Int:=
 (eO p0.1 p1).bind fun n0=>
 some n0
def aNb:bQ:=⟨aD.cons (aN.agg (cN.row fW)) (aD.one (aN.int .i64)),aN.int .i64,fun a=>rQ a.1 a.2,.pure,false⟩
theorem aFI:aK bA 289 aNb:=Oc aE5 rfl aI [(151,TQ)] ⟨CC,trivial⟩ fun a=>by kernel_rfl
def aU (s:N9):Option aFc:=
 bif decide (s.2.2.2.1<s.2.2.2.2) then
  (aL s.1 (aA .i64 (pN .u64 (aA .u64 (aA .i64 (s.2.2.2.1+s.2.2.2.2))) 1))).bind fun a0=>
  (rQ a0 s.2.1).bind fun n1=>
  bif decide (n1<0) then
   some (.next (s.1,s.2.1,s.2.2.1,aA .i64 ((aA .i64 (pN .u64 (aA .u64 (aA .i64 (s.2.2.2.1+s.2.2.2.2))) 1))+1),s.2.2.2.2))
  else
   some (.next (s.1,s.2.1,s.2.2.1,s.2.2.2.1,aA .i64 (pN .u64 (aA .u64 (aA .i64 (s.2.2.2.1+s.2.2.2.2))) 1)))
 else
  bif decide (s.2.2.2.1<s.2.2.1) then
   (aL s.1 s.2.2.2.1).bind fun a2=>
   (rQ a2 s.2.1).bind fun n3=>
   some (.done (s.2.2.2.1,n3==0))
  else
   some (.done (s.2.2.2.1,false))
def aV (p0:List BC) (p1:Int) (_:Unit):Option (Int×Bool):=
 aJ aU (p0,p1,Int.ofNat p0.length,0,Int.ofNat p0.length)
def QS:bQ:=⟨aD.cons (aN.sl fW) (aD.cons (aN.int .i64) (aD.one (aN.clo 289 aD.nil))),aN.tup (aD.cons (aN.int .i64) (aD.one aN.bool)),fun a=>aV a.1 a.2.1 a.2.2,.pure,false⟩
theorem QT:aK bA 288 QS:=Oc aE4 rfl aI [(289,aNb)] ⟨aFI,trivial⟩ fun a=>by kernel_rfl
def GR (p0:aW) (p1:Int):Option (Int×Int):=
 (pQ p0).bind fun n0=>
 bif n0 !=0 then
  some (0,n0)
 else
  (aV p0.list p1 ()).bind fun a1=>
  bif !a1.2 then
   some (0,6)
  else
   some (a1.1,0)
def aNc:bQ:=⟨aD.cons (aN.agg mK) (aD.one (aN.int .i64)),aN.tup (aD.cons (aN.int .i64) (aD.one (aN.int .i64))),fun a=>GR a.1 a.2,.pure,false⟩
theorem aFJ:aK bA 261 aNc:=Oc aET rfl aI [(161,aFn),(288,QS)] ⟨OD,QT,trivial⟩ fun a=>by kernel_rfl
def eX (a:Z2):Option (Nat×Nat×cK):=
 bif (((decide (0<=a.1))&&(decide (a.1<=a.2.1)))&&(decide (a.2.1<=(Int.ofNat a.2.2.length))))&&(decide ((Int.ofNat a.2.2.length)<=(Int.ofNat a.2.2.length))) then
  bif a.1==a.2.1 then
   bif a.2.2.length==a.2.2.length then
    some (a.2.2.length,a.2.2.length,a.2.2)
   else
    none
  else
   (iP a.2.2 0 a.1).bind fun _=>
   bif ((decide (0<=a.2.1))&&(decide (a.2.1<=(Int.ofNat a.2.2.length))))&&(decide ((Int.ofNat a.2.2.length)<=(Int.ofNat a.2.2.length))) then
    bif ((a.2.2.drop (0+a.2.1.toNat)).take (((Int.ofNat a.2.2.length).toNat) -a.2.1.toNat)).isEmpty then
     bif ((decide (0<=(Int.ofNat a.1.toNat)))&&(decide ((Int.ofNat a.1.toNat)<=(Int.ofNat a.2.2.length))))&&(decide ((Int.ofNat a.2.2.length)<=(Int.ofNat a.2.2.length))) then
      bif Nat.beq (((Int.ofNat a.2.2.length).toNat) - ((Int.ofNat a.1.toNat).toNat)) 0 then
       bif a.2.2.length==a.2.2.length then
        some (a.1.toNat,a.2.2.length,a.2.2)
       else
        none
      else
       bif (Nat.ble ((0+((Int.ofNat a.1.toNat).toNat))+(((Int.ofNat a.2.2.length).toNat) - ((Int.ofNat a.1.toNat).toNat))) a.2.2.length)&&(!false) then
        bif ((gX a.2.2 (0+((Int.ofNat a.1.toNat).toNat)) (List.replicate (((Int.ofNat a.2.2.length).toNat) - ((Int.ofNat a.1.toNat).toNat)) (0,0,0))).length)==a.2.2.length then
         some (a.1.toNat,a.2.2.length,gX a.2.2 (0+((Int.ofNat a.1.toNat).toNat)) (List.replicate (((Int.ofNat a.2.2.length).toNat) - ((Int.ofNat a.1.toNat).toNat)) (0,0,0)))
        else
         none
       else
        none
     else
      none
    else
     bif Nat.ble (a.1.toNat+(((a.2.2.drop (0+a.2.1.toNat)).take (((Int.ofNat a.2.2.length).toNat) -a.2.1.toNat)).length)) a.2.2.length then
      bif (Nat.ble (a.1.toNat+(((a.2.2.drop (0+a.2.1.toNat)).take (((Int.ofNat a.2.2.length).toNat) -a.2.1.toNat)).length)) a.2.2.length)&&(!false) then
       bif ((decide (0<=(Int.ofNat (a.1.toNat+(((a.2.2.drop (0+a.2.1.toNat)).take (((Int.ofNat a.2.2.length).toNat) -a.2.1.toNat)).length)))))&&(decide ((Int.ofNat (a.1.toNat+(((a.2.2.drop (0+a.2.1.toNat)).take (((Int.ofNat a.2.2.length).toNat) -a.2.1.toNat)).length)))<=(Int.ofNat a.2.2.length))))&&(decide ((Int.ofNat a.2.2.length)<=(Int.ofNat a.2.2.length))) then
        bif Nat.beq (((Int.ofNat a.2.2.length).toNat) - ((Int.ofNat (a.1.toNat+(((a.2.2.drop (0+a.2.1.toNat)).take (((Int.ofNat a.2.2.length).toNat) -a.2.1.toNat)).length))).toNat)) 0 then
         bif ((gX a.2.2 a.1.toNat ((a.2.2.drop (0+a.2.1.toNat)).take (((Int.ofNat a.2.2.length).toNat) -a.2.1.toNat))).length)==a.2.2.length then
          some (a.1.toNat+(((a.2.2.drop (0+a.2.1.toNat)).take (((Int.ofNat a.2.2.length).toNat) -a.2.1.toNat)).length),a.2.2.length,gX a.2.2 a.1.toNat ((a.2.2.drop (0+a.2.1.toNat)).take (((Int.ofNat a.2.2.length).toNat) -a.2.1.toNat)))
         else
          none
        else
         bif (Nat.ble ((0+((Int.ofNat (a.1.toNat+(((a.2.2.drop (0+a.2.1.toNat)).take (((Int.ofNat a.2.2.length).toNat) -a.2.1.toNat)).length))).toNat))+(((Int.ofNat a.2.2.length).toNat) - ((Int.ofNat (a.1.toNat+(((a.2.2.drop (0+a.2.1.toNat)).take (((Int.ofNat a.2.2.length).toNat) -a.2.1.toNat)).length))).toNat))) ((gX a.2.2 a.1.toNat ((a.2.2.drop (0+a.2.1.toNat)).take (((Int.ofNat a.2.2.length).toNat) -a.2.1.toNat))).length))&&(!false) then
          bif ((gX (gX a.2.2 a.1.toNat ((a.2.2.drop (0+a.2.1.toNat)).take (((Int.ofNat a.2.2.length).toNat) -a.2.1.toNat))) (0+((Int.ofNat (a.1.toNat+(((a.2.2.drop (0+a.2.1.toNat)).take (((Int.ofNat a.2.2.length).toNat) -a.2.1.toNat)).length))).toNat)) (List.replicate (((Int.ofNat a.2.2.length).toNat) - ((Int.ofNat (a.1.toNat+(((a.2.2.drop (0+a.2.1.toNat)).take (((Int.ofNat a.2.2.length).toNat) -a.2.1.toNat)).length))).toNat)) (0,0,0))).length)==a.2.2.length then
           some (a.1.toNat+(((a.2.2.drop (0+a.2.1.toNat)).take (((Int.ofNat a.2.2.length).toNat) -a.2.1.toNat)).length),a.2.2.length,gX (gX a.2.2 a.1.toNat ((a.2.2.drop (0+a.2.1.toNat)).take (((Int.ofNat a.2.2.length).toNat) -a.2.1.toNat))) (0+((Int.ofNat (a.1.toNat+(((a.2.2.drop (0+a.2.1.toNat)).take (((Int.ofNat a.2.2.length).toNat) -a.2.1.toNat)).length))).toNat)) (List.replicate (((Int.ofNat a.2.2.length).toNat) - ((Int.ofNat (a.1.toNat+(((a.2.2.drop (0+a.2.1.toNat)).take (((Int.ofNat a.2.2.length).toNat) -a.2.1.toNat)).length))).toNat)) (0,0,0)))
          else
           none
         else
          none
       else
        none
      else
       none
     else
      none
   else
    none
 else
  none
def Z6:fB:=⟨[.i,.i,.l [.i .i64,.i .i64,.i .i64]],[.own 0 false,.int .i64 0,.int .i64 0],[.arr [.i .i64,.i .i64,.i .i64] []],[.n,.n,.l [.i .i64,.i .i64,.i .i64]],.pre 0 0 0 false,[.arr [.i .i64,.i .i64,.i .i64] []],fun a=>eX a⟩
theorem XN:vA bA 262 Z6:=vA.of aEU (wd:=true) (cx:=(yK aI [] [] [] [])) (rN.make trivial trivial trivial) (fun a=>by kernel_rfl)
def rR (p0:aW) (p1:Int):Option (aW×(Int×Int)×Int):=
 (GR p0 p1).bind fun a0=>
 bif a0.2 !=0 then
  some (aW.mk 0 [],(0,0),a0.2)
 else
  (cL p0.list).bind fun l1=>
  (eX (a0.1,aA .i64 (a0.1+1),l1)).bind fun a2=>
  (aL p0.list a0.1).bind fun a3=>
  some (aW.mk p0.next_ (a2.2.2.take a2.1),a3.2,0)
def aNd:bQ:=⟨aD.cons (aN.agg mK) (aD.one (aN.int .i64)),aN.tup (aD.cons (aN.agg mK) (aD.cons (aN.agg (cN.row jX)) (aD.one (aN.int .i64)))),fun a=>rR a.1 a.2,.frz,false⟩
theorem aFK:aK bA 211 aNd:=aK.of aEz (cx:=(yK aI [(261,aNc),(170,bQ.clone fW)] [(262,Z6)] [] [])) rfl (rN.make ⟨aFJ,FD,trivial⟩ ⟨XN,trivial⟩ trivial) (fun a=>by kernel_rfl)
def gS (p0:aH):Option aH:=
 (cL p0.field.points).bind fun l0=>
 (cL p0.certs.list).bind fun l1=>
 (cL p0.due).bind fun l2=>
 (cL p0.agenda.heap).bind fun l3=>
 (cL p0.agenda.where_).bind fun l4=>
 (cL p0.agenda.slots.uses).bind fun l5=>
 (cL p0.agenda.slots.used).bind fun l6=>
 (cL p0.agenda.slots.free).bind fun l7=>
 some (aH.mk p0.now (Field.mk l0) (aW.mk p0.certs.next_ l1) (aG.mk (aS.mk l5 l6 l7) l3 l4) l2)
def Z7:bQ:=⟨aD.one (aN.agg dP),aN.agg dP,fun a=>gS a,.own,true⟩
def QU:bQ:=⟨aD.one (aN.agg dP),aN.agg dP,fun a=>gS a,.frz,false⟩
theorem IP:aK bA 115 Z7:=Oc VD rfl aI [(91,bQ.clone fW),(170,bQ.clone fW),(171,bQ.clone fW),(172,bQ.clone kU),(64,bQ.clone ki),(173,bQ.clone kb)] ⟨IN,FD,QM,BE,tC,BD,trivial⟩ fun a=>by kernel_rfl
theorem FH:aK bA 115 QU:=Oc VD rfl aI [(91,bQ.clone fW),(170,bQ.clone fW),(171,bQ.clone fW),(172,bQ.clone kU),(64,bQ.clone ki),(173,bQ.clone kb)] ⟨IN,FD,QM,BE,tC,BD,trivial⟩ fun a=>by kernel_rfl
def wG (p0:Int×Int×Int) (p1:Int):Option Int:=
 (eO p0.1 p1).bind fun n0=>
 some n0
def aNe:bQ:=⟨aD.cons (aN.agg (cN.row fW)) (aD.one (aN.int .i64)),aN.int .i64,fun a=>wG a.1 a.2,.pure,false⟩
theorem aFL:aK bA 217 aNe:=Oc aEF rfl aI [(151,TQ)] ⟨CC,trivial⟩ fun a=>by kernel_rfl
def iN (s:N9):Option aFc:=
 bif decide (s.2.2.2.1<s.2.2.2.2) then
  (aL s.1 (aA .i64 (pN .u64 (aA .u64 (aA .i64 (s.2.2.2.1+s.2.2.2.2))) 1))).bind fun a0=>
  (wG a0 s.2.1).bind fun n1=>
  bif decide (n1<0) then
   some (.next (s.1,s.2.1,s.2.2.1,aA .i64 ((aA .i64 (pN .u64 (aA .u64 (aA .i64 (s.2.2.2.1+s.2.2.2.2))) 1))+1),s.2.2.2.2))
  else
   some (.next (s.1,s.2.1,s.2.2.1,s.2.2.2.1,aA .i64 (pN .u64 (aA .u64 (aA .i64 (s.2.2.2.1+s.2.2.2.2))) 1)))
 else
  bif decide (s.2.2.2.1<s.2.2.1) then
   (aL s.1 s.2.2.2.1).bind fun a2=>
   (wG a2 s.2.1).bind fun n3=>
   some (.done (s.2.2.2.1,n3==0))
  else
   some (.done (s.2.2.2.1,false))
def cS (p0:List BC) (p1:Int) (_:Unit):Option (Int×Bool):=
 aJ iN (p0,p1,Int.ofNat p0.length,0,Int.ofNat p0.length)
def QV:bQ:=⟨aD.cons (aN.sl fW) (aD.cons (aN.int .i64) (aD.one (aN.clo 217 aD.nil))),aN.tup (aD.cons (aN.int .i64) (aD.one aN.bool)),fun a=>cS a.1 a.2.1 a.2.2,.pure,false⟩
theorem QW:aK bA 216 QV:=Oc aEE rfl aI [(217,aNe)] ⟨aFL,trivial⟩ fun a=>by kernel_rfl
def mA (p0:List BC) (p1:Int):Option (Int×Bool):=
 (cS p0 p1 ()).bind fun a0=>
 some a0
def aLd:bQ:=⟨aD.cons (aN.sl fW) (aD.one (aN.int .i64)),aN.tup (aD.cons (aN.int .i64) (aD.one aN.bool)),fun a=>mA a.1 a.2,.pure,false⟩
theorem VT:aK bA 179 aLd:=Oc aEh rfl aI [(216,QV)] ⟨QW,trivial⟩ fun a=>by kernel_rfl
def BH (p0:aS) (p1:Int×Int):Option (Bool×Int):=
 (pR p0).bind fun n0=>
 bif n0 !=0 then
  some (false,n0)
 else
  bif decide (0<=p1.1) then
   bif decide (p1.1<(Int.ofNat p0.used.length)) then
    (aL p0.used p1.1).bind fun b1=>
    bif b1 then
     (aL p0.uses p1.1).bind fun n2=>
     some (n2==p1.2,0)
    else
     some (false,0)
   else
    some (false,0)
  else
   some (false,0)
def aLe:bQ:=⟨aD.cons (aN.agg lR) (aD.one (aN.agg (cN.row jX))),aN.tup (aD.cons aN.bool (aD.one (aN.int .i64))),fun a=>BH a.1 a.2,.pure,false⟩
theorem VU:aK bA 264 aLe:=Oc aEW rfl aI [(207,aFq)] ⟨OE,trivial⟩ fun a=>by kernel_rfl
def oN (p0:aG) (p1:Int×Int):Option (Int×Int):=
 (jA p0).bind fun n0=>
 bif n0 !=0 then
  some (0,n0)
 else
  (BH p0.slots p1).bind fun a1=>
  bif a1.2 !=0 then
   some (0,6)
  else
   bif !a1.1 then
    some (0,6)
   else
    (aL p0.where_ p1.1).bind fun n2=>
    some (n2,0)
def aLf:bQ:=⟨aD.cons (aN.agg eV) (aD.one (aN.agg (cN.row jX))),aN.tup (aD.cons (aN.int .i64) (aD.one (aN.int .i64))),fun a=>oN a.1 a.2,.pure,false⟩
theorem VV:aK bA 218 aLf:=Oc aEG rfl aI [(162,XL),(264,aLe)] ⟨FF,VU,trivial⟩ fun a=>by kernel_rfl
def sQ (p0:List Int) (p1:Int):Option (List Int):=
 (cL p0).bind fun l0=>
 (bR l0 [p1]).bind fun l1=>
 some l1
def aNf:bQ:=⟨aD.cons (aN.sl ki) (aD.one (aN.int .i64)),aN.sl ki,fun a=>sQ a.1 a.2,.frz,false⟩
theorem aFM:aK bA 291 aNf:=Oc aE7 rfl aI [(290,bQ.clone ki)] ⟨QN,trivial⟩ fun a=>by kernel_rfl
def CD (p0:aS) (p1:Int×Int):Option (aS×Int):=
 (BH p0 p1).bind fun a0=>
 bif a0.2 !=0 then
  some (aS.mk [] [] [],a0.2)
 else
  bif !a0.1 then
   some (aS.mk [] [] [],6)
  else
   (cL p0.uses).bind fun l1=>
   (cL p0.used).bind fun l2=>
   (sQ p0.free p1.1).bind fun l3=>
   (aL l2 p1.1).bind fun _=>
   some (aS.mk l1 (bT l2 p1.1 false) l3,0)
def aNg:bQ:=⟨aD.cons (aN.agg lR) (aD.one (aN.agg (cN.row jX))),aN.tup (aD.cons (aN.agg lR) (aD.one (aN.int .i64))),fun a=>CD a.1 a.2,.frz,false⟩
theorem aFN:aK bA 269 aNg:=aK.of aEZ (cx:=(yK aI [(264,aLe),(64,bQ.clone ki),(173,bQ.clone kb),(291,aNf)] [] [(268,ZX)] [])) rfl (rN.make ⟨VU,tC,BD,aFM,trivial⟩ trivial ⟨VK,trivial⟩) (fun a=>by kernel_rfl)
def bO (a:aE9):Option XK:=
 (aL (a.2.2.2.2.2.2.2.2.2.2.2.1.take a.2.2.2.1) a.2.2.2.2.2.1).bind fun _=>
 (aL a.2.2.2.2.2.2.2.2.2.2.2.2 a.2.2.2.2.2.2.2.2.2.1).bind fun _=>
 bif ((bT a.2.2.2.2.2.2.2.2.2.2.2.1 a.2.2.2.2.2.1 (a.2.2.2.2.2.2.1,a.2.2.2.2.2.2.2.1,a.2.2.2.2.2.2.2.2.1,a.2.2.2.2.2.2.2.2.2.1,a.2.2.2.2.2.2.2.2.2.2.1)).length)==a.2.2.2.2.2.2.2.2.2.2.2.1.length then
  bif ((bT a.2.2.2.2.2.2.2.2.2.2.2.2 a.2.2.2.2.2.2.2.2.2.1 a.2.2.2.2.2.1).length)==a.2.2.2.2.2.2.2.2.2.2.2.2.length then
   some (bT a.2.2.2.2.2.2.2.2.2.2.2.1 a.2.2.2.2.2.1 (a.2.2.2.2.2.2.1,a.2.2.2.2.2.2.2.1,a.2.2.2.2.2.2.2.2.1,a.2.2.2.2.2.2.2.2.2.1,a.2.2.2.2.2.2.2.2.2.2.1),bT a.2.2.2.2.2.2.2.2.2.2.2.2 a.2.2.2.2.2.2.2.2.2.1 a.2.2.2.2.2.1)
  else
   none
 else
  none
def TR:fB:=⟨[.l [.i .i64],.l [.b],.l [.i .i64],.n,.n,.i,.i,.i,.i,.i,.i,.l [.i .i64,.i .i64,.i .i64,.i .i64,.i .i64],.l [.i .i64]],[.agg [.sl [.i .i64] [],.sl [.b] [],.sl [.i .i64] [],.pre 0 0 0 false,.own 1 false],.int .i64 0,.agg [.int .i64 0,.int .i64 0,.int .i64 0,.int .i64 0,.int .i64 0]],[.arr [.i .i64,.i .i64,.i .i64,.i .i64,.i .i64] [],.arr [.i .i64] []],[.l [.i .i64,.i .i64,.i .i64,.i .i64,.i .i64],.l [.i .i64]],.tup [],[.arr [.i .i64,.i .i64,.i .i64,.i .i64,.i .i64] [],.arr [.i .i64] []],fun a=>bO a⟩
theorem MT:vA bA 265 TR:=vA.of VJ (wd:=false) (cx:=(yK aI [] [] [] [])) (rN.make trivial trivial trivial) (fun a=>by kernel_rfl)
def fJ (c0:aE9) (s:aMG):Option (bY aMG aMB):=
 match s with
 |(a,b,d,e,f,g,h,i,j,k,l,m,n,o)=>
  bif decide (b<(Int.ofNat i)) then
   bif decide ((aA .i64 (b+1))<(Int.ofNat i)) then
    (aL (d.take i) (aA .i64 (b+1))).bind fun a0=>
    (aL (d.take i) b).bind fun a1=>
    (bV a0 a1).bind fun n2=>
    bif decide (n2<0) then
     (aL (d.take i) (aA .i64 (b+1))).bind fun a3=>
     (bV a3 (k,l,m,n,o)).bind fun n4=>
     bif decide (0<=n4) then
      (bO (f,g,h,i,j,a,k,l,m,n,o,d,e)).bind fun a5=>
      bif a5.1.length==c0.2.2.2.2.2.2.2.2.2.2.2.1.length then
       bif a5.2.length==c0.2.2.2.2.2.2.2.2.2.2.2.2.length then
        some (.done (.done a5))
       else
        none
      else
       none
     else
      (aL (d.take i) (aA .i64 (b+1))).bind fun a6=>
      (bO (f,g,h,i,j,a,a6.1,a6.2.1,a6.2.2.1,a6.2.2.2.1,a6.2.2.2.2,d,e)).bind fun a7=>
      some (.next (aA .i64 (b+1),aA .i64 ((aA .i64 (2*(aA .i64 (b+1))))+1),a7.1,a7.2,(f,g,h,i,j,k,l,m,n,o)))
    else
     (aL (d.take i) b).bind fun a8=>
     (bV a8 (k,l,m,n,o)).bind fun n9=>
     bif decide (0<=n9) then
      (bO (f,g,h,i,j,a,k,l,m,n,o,d,e)).bind fun a10=>
      bif a10.1.length==c0.2.2.2.2.2.2.2.2.2.2.2.1.length then
       bif a10.2.length==c0.2.2.2.2.2.2.2.2.2.2.2.2.length then
        some (.done (.done a10))
       else
        none
      else
       none
     else
      (aL (d.take i) b).bind fun a11=>
      (bO (f,g,h,i,j,a,a11.1,a11.2.1,a11.2.2.1,a11.2.2.2.1,a11.2.2.2.2,d,e)).bind fun a12=>
      some (.next (b,aA .i64 ((aA .i64 (2*b))+1),a12.1,a12.2,(f,g,h,i,j,k,l,m,n,o)))
   else
    (aL (d.take i) b).bind fun a13=>
    (bV a13 (k,l,m,n,o)).bind fun n14=>
    bif decide (0<=n14) then
     (bO (f,g,h,i,j,a,k,l,m,n,o,d,e)).bind fun a15=>
     bif a15.1.length==c0.2.2.2.2.2.2.2.2.2.2.2.1.length then
      bif a15.2.length==c0.2.2.2.2.2.2.2.2.2.2.2.2.length then
       some (.done (.done a15))
      else
       none
     else
      none
    else
     (aL (d.take i) b).bind fun a16=>
     (bO (f,g,h,i,j,a,a16.1,a16.2.1,a16.2.2.1,a16.2.2.2.1,a16.2.2.2.2,d,e)).bind fun a17=>
     some (.next (b,aA .i64 ((aA .i64 (2*b))+1),a17.1,a17.2,(f,g,h,i,j,k,l,m,n,o)))
  else
   (bO (f,g,h,i,j,a,k,l,m,n,o,d,e)).bind fun a18=>
   bif a18.1.length==c0.2.2.2.2.2.2.2.2.2.2.2.1.length then
    bif a18.2.length==c0.2.2.2.2.2.2.2.2.2.2.2.2.length then
     some (.done (.done a18))
    else
     none
   else
    none
def dW (c0:aE9) (s:aMA):Option aMB:=
 bif decide (0<s.1) then
  (aL (s.2.1.take s.2.2.2.2.2.2.1) (aA .i64 (Int.tdiv (aA .i64 (s.1-1)) 2))).bind fun a0=>
  (bV s.2.2.2.2.2.2.2.2 a0).bind fun n1=>
  bif decide (n1<0) then
   (aL (s.2.1.take s.2.2.2.2.2.2.1) (aA .i64 (Int.tdiv (aA .i64 (s.1-1)) 2))).bind fun a2=>
   (bO (s.2.2.2.1,s.2.2.2.2.1,s.2.2.2.2.2.1,s.2.2.2.2.2.2.1,s.2.2.2.2.2.2.2.1,s.1,a2.1,a2.2.1,a2.2.2.1,a2.2.2.2.1,a2.2.2.2.2,s.2.1,s.2.2.1)).bind fun a3=>
   some (.next (aA .i64 (Int.tdiv (aA .i64 (s.1-1)) 2),a3.1,a3.2,s.2.2.2))
  else
   aJ (fJ c0) (s.1,aA .i64 ((aA .i64 (2*s.1))+1),s.2)
 else
  aJ (fJ c0) (s.1,aA .i64 ((aA .i64 (2*s.1))+1),s.2)
def jO (a:aE9):Option XK:=
 aJ (dW a) (a.2.2.2.2.2.1,a.2.2.2.2.2.2.2.2.2.2.2.1,a.2.2.2.2.2.2.2.2.2.2.2.2,a.1,a.2.1,a.2.2.1,a.2.2.2.1,a.2.2.2.2.1,a.2.2.2.2.2.2.1,a.2.2.2.2.2.2.2.1,a.2.2.2.2.2.2.2.2.1,a.2.2.2.2.2.2.2.2.2.1,a.2.2.2.2.2.2.2.2.2.2.1)
def OJ:fB:=⟨[.l [.i .i64],.l [.b],.l [.i .i64],.n,.n,.i,.i,.i,.i,.i,.i,.l [.i .i64,.i .i64,.i .i64,.i .i64,.i .i64],.l [.i .i64]],[.agg [.sl [.i .i64] [],.sl [.b] [],.sl [.i .i64] [],.pre 0 0 0 false,.own 1 false],.int .i64 0,.agg [.int .i64 0,.int .i64 0,.int .i64 0,.int .i64 0,.int .i64 0]],[.arr [.i .i64,.i .i64,.i .i64,.i .i64,.i .i64] [],.arr [.i .i64] []],[.l [.i .i64,.i .i64,.i .i64,.i .i64,.i .i64],.l [.i .i64]],.tup [],[.arr [.i .i64,.i .i64,.i .i64,.i .i64,.i .i64] [],.arr [.i .i64] []],fun a=>jO a⟩
theorem GS:vA bA 220 OJ:=vA.of VI (wd:=false) (cx:=(yK aI [(208,aFy)] [(265,TR)] [] [])) (rN.make ⟨OF,trivial⟩ ⟨MT,trivial⟩ trivial) (fun a=>by kernel_rfl)
def qR (p0:aG) (p1:Int):Option (aG×N8×Int):=
 (aL p0.heap p1).bind fun a0=>
 (CD p0.slots a0.2.2.2).bind fun a1=>
 bif a1.2 !=0 then
  some (aG.mk (aS.mk [] [] []) [] [],(0,0,0,0,0),a1.2)
 else
  (cL p0.heap).bind fun l2=>
  (cL p0.where_).bind fun l3=>
  (aL l2 (aA .i64 ((Int.ofNat l2.length) -1))).bind fun a4=>
  (iP l2 0 (aA .i64 ((Int.ofNat l2.length) -1))).bind fun _=>
  (aL l3 a0.2.2.2.1).bind fun _=>
  bif decide (p1<(aA .i64 ((Int.ofNat l2.length) -1))) then
   (jO (a1.1.uses,a1.1.used,a1.1.free,(aA .i64 ((Int.ofNat l2.length) -1)).toNat,l2.length,p1,a4.1,a4.2.1,a4.2.2.1,a4.2.2.2.1,a4.2.2.2.2,l2,bT l3 a0.2.2.2.1 (-1))).bind fun a7=>
   some (aG.mk a1.1 (a7.1.take ((aA .i64 ((Int.ofNat l2.length) -1)).toNat)) a7.2,a0,0)
  else
   some (aG.mk a1.1 (l2.take ((aA .i64 ((Int.ofNat l2.length) -1)).toNat)) (bT l3 a0.2.2.2.1 (-1)),a0,0)
def aNh:bQ:=⟨aD.cons (aN.agg eV) (aD.one (aN.int .i64)),aN.tup (aD.cons (aN.agg eV) (aD.cons (aN.agg (cN.row kU)) (aD.one (aN.int .i64)))),fun a=>qR a.1 a.2,.frz,false⟩
theorem aFO:aK bA 224 aNh:=aK.of aEK (cx:=(yK aI [(269,aNg),(172,bQ.clone kU),(64,bQ.clone ki)] [(220,OJ)] [(219,XJ)] [])) rfl (rN.make ⟨aFN,BE,tC,trivial⟩ ⟨GS,trivial⟩ ⟨N7,trivial⟩) (fun a=>by kernel_rfl)
def jE (p0:aG) (p1:Int×Int):Option (aG×N8×Int):=
 (oN p0 p1).bind fun a0=>
 bif a0.2 !=0 then
  some (aG.mk (aS.mk [] [] []) [] [],(0,0,0,0,0),a0.2)
 else
  (qR p0 a0.1).bind fun a1=>
  some a1
def aLg:bQ:=⟨aD.cons (aN.agg eV) (aD.one (aN.agg (cN.row jX))),aN.tup (aD.cons (aN.agg eV) (aD.cons (aN.agg (cN.row kU)) (aD.one (aN.int .i64)))),fun a=>jE a.1 a.2,.frz,false⟩
theorem VW:aK bA 182 aLg:=Oc aEk rfl aI [(218,aLf),(224,aNh)] ⟨VV,aFO,trivial⟩ fun a=>by kernel_rfl
def hO (a:Z2):Option (Nat×Nat×cK):=
 bif (((decide (0<=a.1))&&(decide (a.1<=a.2.1)))&&(decide (a.2.1<=(Int.ofNat a.2.2.length))))&&(decide ((Int.ofNat a.2.2.length)<=(Int.ofNat a.2.2.length))) then
  bif a.1==a.2.1 then
   bif a.2.2.length==a.2.2.length then
    some (a.2.2.length,a.2.2.length,a.2.2)
   else
    none
  else
   (iP a.2.2 0 a.1).bind fun _=>
   bif ((decide (0<=a.2.1))&&(decide (a.2.1<=(Int.ofNat a.2.2.length))))&&(decide ((Int.ofNat a.2.2.length)<=(Int.ofNat a.2.2.length))) then
    bif ((a.2.2.drop (0+a.2.1.toNat)).take (((Int.ofNat a.2.2.length).toNat) -a.2.1.toNat)).isEmpty then
     bif ((decide (0<=(Int.ofNat a.1.toNat)))&&(decide ((Int.ofNat a.1.toNat)<=(Int.ofNat a.2.2.length))))&&(decide ((Int.ofNat a.2.2.length)<=(Int.ofNat a.2.2.length))) then
      bif Nat.beq (((Int.ofNat a.2.2.length).toNat) - ((Int.ofNat a.1.toNat).toNat)) 0 then
       bif a.2.2.length==a.2.2.length then
        some (a.1.toNat,a.2.2.length,a.2.2)
       else
        none
      else
       bif (Nat.ble ((0+((Int.ofNat a.1.toNat).toNat))+(((Int.ofNat a.2.2.length).toNat) - ((Int.ofNat a.1.toNat).toNat))) a.2.2.length)&&(!false) then
        bif ((gX a.2.2 (0+((Int.ofNat a.1.toNat).toNat)) (List.replicate (((Int.ofNat a.2.2.length).toNat) - ((Int.ofNat a.1.toNat).toNat)) (0,0,0))).length)==a.2.2.length then
         some (a.1.toNat,a.2.2.length,gX a.2.2 (0+((Int.ofNat a.1.toNat).toNat)) (List.replicate (((Int.ofNat a.2.2.length).toNat) - ((Int.ofNat a.1.toNat).toNat)) (0,0,0)))
        else
         none
       else
        none
     else
      none
    else
     bif Nat.ble (a.1.toNat+(((a.2.2.drop (0+a.2.1.toNat)).take (((Int.ofNat a.2.2.length).toNat) -a.2.1.toNat)).length)) a.2.2.length then
      bif (Nat.ble (a.1.toNat+(((a.2.2.drop (0+a.2.1.toNat)).take (((Int.ofNat a.2.2.length).toNat) -a.2.1.toNat)).length)) a.2.2.length)&&(!false) then
       bif ((decide (0<=(Int.ofNat (a.1.toNat+(((a.2.2.drop (0+a.2.1.toNat)).take (((Int.ofNat a.2.2.length).toNat) -a.2.1.toNat)).length)))))&&(decide ((Int.ofNat (a.1.toNat+(((a.2.2.drop (0+a.2.1.toNat)).take (((Int.ofNat a.2.2.length).toNat) -a.2.1.toNat)).length)))<=(Int.ofNat a.2.2.length))))&&(decide ((Int.ofNat a.2.2.length)<=(Int.ofNat a.2.2.length))) then
        bif Nat.beq (((Int.ofNat a.2.2.length).toNat) - ((Int.ofNat (a.1.toNat+(((a.2.2.drop (0+a.2.1.toNat)).take (((Int.ofNat a.2.2.length).toNat) -a.2.1.toNat)).length))).toNat)) 0 then
         bif ((gX a.2.2 a.1.toNat ((a.2.2.drop (0+a.2.1.toNat)).take (((Int.ofNat a.2.2.length).toNat) -a.2.1.toNat))).length)==a.2.2.length then
          some (a.1.toNat+(((a.2.2.drop (0+a.2.1.toNat)).take (((Int.ofNat a.2.2.length).toNat) -a.2.1.toNat)).length),a.2.2.length,gX a.2.2 a.1.toNat ((a.2.2.drop (0+a.2.1.toNat)).take (((Int.ofNat a.2.2.length).toNat) -a.2.1.toNat)))
         else
          none
        else
         bif (Nat.ble ((0+((Int.ofNat (a.1.toNat+(((a.2.2.drop (0+a.2.1.toNat)).take (((Int.ofNat a.2.2.length).toNat) -a.2.1.toNat)).length))).toNat))+(((Int.ofNat a.2.2.length).toNat) - ((Int.ofNat (a.1.toNat+(((a.2.2.drop (0+a.2.1.toNat)).take (((Int.ofNat a.2.2.length).toNat) -a.2.1.toNat)).length))).toNat))) ((gX a.2.2 a.1.toNat ((a.2.2.drop (0+a.2.1.toNat)).take (((Int.ofNat a.2.2.length).toNat) -a.2.1.toNat))).length))&&(!false) then
          bif ((gX (gX a.2.2 a.1.toNat ((a.2.2.drop (0+a.2.1.toNat)).take (((Int.ofNat a.2.2.length).toNat) -a.2.1.toNat))) (0+((Int.ofNat (a.1.toNat+(((a.2.2.drop (0+a.2.1.toNat)).take (((Int.ofNat a.2.2.length).toNat) -a.2.1.toNat)).length))).toNat)) (List.replicate (((Int.ofNat a.2.2.length).toNat) - ((Int.ofNat (a.1.toNat+(((a.2.2.drop (0+a.2.1.toNat)).take (((Int.ofNat a.2.2.length).toNat) -a.2.1.toNat)).length))).toNat)) (0,0,0))).length)==a.2.2.length then
           some (a.1.toNat+(((a.2.2.drop (0+a.2.1.toNat)).take (((Int.ofNat a.2.2.length).toNat) -a.2.1.toNat)).length),a.2.2.length,gX (gX a.2.2 a.1.toNat ((a.2.2.drop (0+a.2.1.toNat)).take (((Int.ofNat a.2.2.length).toNat) -a.2.1.toNat))) (0+((Int.ofNat (a.1.toNat+(((a.2.2.drop (0+a.2.1.toNat)).take (((Int.ofNat a.2.2.length).toNat) -a.2.1.toNat)).length))).toNat)) (List.replicate (((Int.ofNat a.2.2.length).toNat) - ((Int.ofNat (a.1.toNat+(((a.2.2.drop (0+a.2.1.toNat)).take (((Int.ofNat a.2.2.length).toNat) -a.2.1.toNat)).length))).toNat)) (0,0,0)))
          else
           none
         else
          none
       else
        none
      else
       none
     else
      none
   else
    none
 else
  none
def Z8:fB:=⟨[.i,.i,.l [.i .i64,.i .i64,.i .i64]],[.own 0 false,.int .i64 0,.int .i64 0],[.arr [.i .i64,.i .i64,.i .i64] []],[.n,.n,.l [.i .i64,.i .i64,.i .i64]],.pre 0 0 0 false,[.arr [.i .i64,.i .i64,.i .i64] []],fun a=>hO a⟩
theorem XO:vA bA 212 Z8:=vA.of aEA (wd:=true) (cx:=(yK aI [] [] [] [])) (rN.make trivial trivial trivial) (fun a=>by kernel_rfl)
def fX (p0:aH) (p1:Int):Option (aH×(Int×Int)×Int):=
 (rR p0.certs p1).bind fun a0=>
 bif a0.2.2 !=0 then
  some (aH.mk (0,0) (Field.mk []) (aW.mk 0 []) (aG.mk (aS.mk [] [] []) [] []) [],a0.2)
 else
  (gS p0).bind fun r1=>
  (mA p0.due p1).bind fun a2=>
  bif a2.2 then
   (aL p0.due a2.1).bind fun a3=>
   (jE p0.agenda a3.2).bind fun a4=>
   bif a4.2.2 !=0 then
    some (aH.mk (0,0) (Field.mk []) (aW.mk 0 []) (aG.mk (aS.mk [] [] []) [] []) [],a0.2.1,a4.2.2)
   else
    (hO (a2.1,aA .i64 (a2.1+1),r1.due)).bind fun a5=>
    some (aH.mk r1.now r1.field a0.1 a4.1 (a5.2.2.take a5.1),a0.2.1,0)
  else
   some (aH.mk r1.now r1.field a0.1 r1.agenda r1.due,a0.2.1,0)
def aLh:bQ:=⟨aD.cons (aN.agg dP) (aD.one (aN.int .i64)),aN.tup (aD.cons (aN.agg dP) (aD.cons (aN.agg (cN.row jX)) (aD.one (aN.int .i64)))),fun a=>fX a.1 a.2,.frz,false⟩
theorem VX:aK bA 168 aLh:=aK.of aD7 (cx:=(yK aI [(211,aNd),(115,Z7),(115,QU),(179,aLd),(182,aLg)] [(212,Z8)] [] [])) rfl (rN.make ⟨aFK,IP,FH,VT,VW,trivial⟩ ⟨XO,trivial⟩ trivial) (fun a=>by kernel_rfl)
def tF (p0:aH) (p1:Int):Option (aH×Int):=
 (hY p0).bind fun n0=>
 bif n0 !=0 then
  some (aH.mk (0,0) (Field.mk []) (aW.mk 0 []) (aG.mk (aS.mk [] [] []) [] []) [],n0)
 else
  (fX p0 p1).bind fun a1=>
  some (a1.1,a1.2.2)
def aNi:bQ:=⟨aD.cons (aN.agg dP) (aD.one (aN.int .i64)),aN.tup (aD.cons (aN.agg dP) (aD.one (aN.int .i64))),fun a=>tF a.1 a.2,.frz,false⟩
theorem aFP:aK bA 119 aNi:=Oc aDH rfl aI [(103,XM),(168,aLh)] ⟨FG,VX,trivial⟩ fun a=>by kernel_rfl
def iM (s:(cK×cK×Int×Int)):Option (bY (cK×cK×Int×Int) Bool):=
 bif decide (s.2.2.2<s.2.2.1) then
  (aL s.1 s.2.2.2).bind fun a0=>
  (aL s.2.1 s.2.2.2).bind fun a1=>
  bif !((a0.1==a1.1)&&((a0.2.1==a1.2.1)&&(a0.2.2==a1.2.2))) then
   some (.done false)
  else
   some (.next (s.1,s.2.1,s.2.2.1,aA .i64 (s.2.2.2+1)))
 else
  some (.done true)
def kW (p0:List BC) (p1:List BC):Option Bool:=
 bif (Int.ofNat p0.length) !=(Int.ofNat p1.length) then
  some false
 else
  aJ iM (p0,p1,Int.ofNat p0.length,0)
def aNj:bQ:=⟨aD.cons (aN.sl fW) (aD.one (aN.sl fW)),aN.bool,fun a=>kW a.1 a.2,.pure,false⟩
theorem aFQ:aK bA 120 aNj:=Oc aDI rfl aI [] trivial fun a=>by kernel_rfl
def bP (a:aFa):Option XK:=
 (aL a.2.2.2.2.2.2.2.2.2.1 a.2.2.2.1).bind fun _=>
 (aL a.2.2.2.2.2.2.2.2.2.2 a.2.2.2.2.2.2.2.1).bind fun _=>
 bif ((bT a.2.2.2.2.2.2.2.2.2.1 a.2.2.2.1 (a.2.2.2.2.1,a.2.2.2.2.2.1,a.2.2.2.2.2.2.1,a.2.2.2.2.2.2.2.1,a.2.2.2.2.2.2.2.2.1)).length)==a.2.2.2.2.2.2.2.2.2.1.length then
  bif ((bT a.2.2.2.2.2.2.2.2.2.2 a.2.2.2.2.2.2.2.1 a.2.2.2.1).length)==a.2.2.2.2.2.2.2.2.2.2.length then
   some (bT a.2.2.2.2.2.2.2.2.2.1 a.2.2.2.1 (a.2.2.2.2.1,a.2.2.2.2.2.1,a.2.2.2.2.2.2.1,a.2.2.2.2.2.2.2.1,a.2.2.2.2.2.2.2.2.1),bT a.2.2.2.2.2.2.2.2.2.2 a.2.2.2.2.2.2.2.1 a.2.2.2.1)
  else
   none
 else
  none
def Z9:fB:=⟨[.l [.i .i64],.l [.b],.l [.i .i64],.i,.i,.i,.i,.i,.i,.l [.i .i64,.i .i64,.i .i64,.i .i64,.i .i64],.l [.i .i64]],[.agg [.sl [.i .i64] [],.sl [.b] [],.sl [.i .i64] [],.own 0 false,.own 1 false],.int .i64 0,.agg [.int .i64 0,.int .i64 0,.int .i64 0,.int .i64 0,.int .i64 0]],[.arr [.i .i64,.i .i64,.i .i64,.i .i64,.i .i64] [],.arr [.i .i64] []],[.l [.i .i64,.i .i64,.i .i64,.i .i64,.i .i64],.l [.i .i64]],.tup [],[.arr [.i .i64,.i .i64,.i .i64,.i .i64,.i .i64] [],.arr [.i .i64] []],fun a=>bP a⟩
theorem XP:vA bA 265 Z9:=vA.of VJ (wd:=false) (cx:=(yK aI [] [] [] [])) (rN.make trivial trivial trivial) (fun a=>by kernel_rfl)
def fK (c0:aFa) (s:aMH):Option (bY aMH aME):=
 match s with
 |(a,b,d,e,f,g,h,i,j,k,l,m)=>
  bif decide (b<(Int.ofNat d.length)) then
   bif decide ((aA .i64 (b+1))<(Int.ofNat d.length)) then
    (aL d (aA .i64 (b+1))).bind fun a0=>
    (aL d b).bind fun a1=>
    (bV a0 a1).bind fun n2=>
    bif decide (n2<0) then
     (aL d (aA .i64 (b+1))).bind fun a3=>
     (bV a3 (i,j,k,l,m)).bind fun n4=>
     bif decide (0<=n4) then
      (bP (f,g,h,a,i,j,k,l,m,d,e)).bind fun a5=>
      bif a5.1.length==c0.2.2.2.2.2.2.2.2.2.1.length then
       bif a5.2.length==c0.2.2.2.2.2.2.2.2.2.2.length then
        some (.done (.done a5))
       else
        none
      else
       none
     else
      (aL d (aA .i64 (b+1))).bind fun a6=>
      (bP (f,g,h,a,a6.1,a6.2.1,a6.2.2.1,a6.2.2.2.1,a6.2.2.2.2,d,e)).bind fun a7=>
      some (.next (aA .i64 (b+1),aA .i64 ((aA .i64 (2*(aA .i64 (b+1))))+1),a7.1,a7.2,(f,g,h,i,j,k,l,m)))
    else
     (aL d b).bind fun a8=>
     (bV a8 (i,j,k,l,m)).bind fun n9=>
     bif decide (0<=n9) then
      (bP (f,g,h,a,i,j,k,l,m,d,e)).bind fun a10=>
      bif a10.1.length==c0.2.2.2.2.2.2.2.2.2.1.length then
       bif a10.2.length==c0.2.2.2.2.2.2.2.2.2.2.length then
        some (.done (.done a10))
       else
        none
      else
       none
     else
      (aL d b).bind fun a11=>
      (bP (f,g,h,a,a11.1,a11.2.1,a11.2.2.1,a11.2.2.2.1,a11.2.2.2.2,d,e)).bind fun a12=>
      some (.next (b,aA .i64 ((aA .i64 (2*b))+1),a12.1,a12.2,(f,g,h,i,j,k,l,m)))
   else
    (aL d b).bind fun a13=>
    (bV a13 (i,j,k,l,m)).bind fun n14=>
    bif decide (0<=n14) then
     (bP (f,g,h,a,i,j,k,l,m,d,e)).bind fun a15=>
     bif a15.1.length==c0.2.2.2.2.2.2.2.2.2.1.length then
      bif a15.2.length==c0.2.2.2.2.2.2.2.2.2.2.length then
       some (.done (.done a15))
      else
       none
     else
      none
    else
     (aL d b).bind fun a16=>
     (bP (f,g,h,a,a16.1,a16.2.1,a16.2.2.1,a16.2.2.2.1,a16.2.2.2.2,d,e)).bind fun a17=>
     some (.next (b,aA .i64 ((aA .i64 (2*b))+1),a17.1,a17.2,(f,g,h,i,j,k,l,m)))
  else
   (bP (f,g,h,a,i,j,k,l,m,d,e)).bind fun a18=>
   bif a18.1.length==c0.2.2.2.2.2.2.2.2.2.1.length then
    bif a18.2.length==c0.2.2.2.2.2.2.2.2.2.2.length then
     some (.done (.done a18))
    else
     none
   else
    none
def dX (c0:aFa) (s:aMD):Option aME:=
 bif decide (0<s.1) then
  (aL s.2.1 (aA .i64 (Int.tdiv (aA .i64 (s.1-1)) 2))).bind fun a0=>
  (bV s.2.2.2.2.2.2 a0).bind fun n1=>
  bif decide (n1<0) then
   (aL s.2.1 (aA .i64 (Int.tdiv (aA .i64 (s.1-1)) 2))).bind fun a2=>
   (bP (s.2.2.2.1,s.2.2.2.2.1,s.2.2.2.2.2.1,s.1,a2.1,a2.2.1,a2.2.2.1,a2.2.2.2.1,a2.2.2.2.2,s.2.1,s.2.2.1)).bind fun a3=>
   some (.next (aA .i64 (Int.tdiv (aA .i64 (s.1-1)) 2),a3.1,a3.2,s.2.2.2))
  else
   aJ (fK c0) (s.1,aA .i64 ((aA .i64 (2*s.1))+1),s.2)
 else
  aJ (fK c0) (s.1,aA .i64 ((aA .i64 (2*s.1))+1),s.2)
def eE (a:aFa):Option XK:=
 aJ (dX a) (a.2.2.2.1,a.2.2.2.2.2.2.2.2.2.1,a.2.2.2.2.2.2.2.2.2.2,a.1,a.2.1,a.2.2.1,a.2.2.2.2.1,a.2.2.2.2.2.1,a.2.2.2.2.2.2.1,a.2.2.2.2.2.2.2.1,a.2.2.2.2.2.2.2.2.1)
def TS:fB:=⟨[.l [.i .i64],.l [.b],.l [.i .i64],.i,.i,.i,.i,.i,.i,.l [.i .i64,.i .i64,.i .i64,.i .i64,.i .i64],.l [.i .i64]],[.agg [.sl [.i .i64] [],.sl [.b] [],.sl [.i .i64] [],.own 0 false,.own 1 false],.int .i64 0,.agg [.int .i64 0,.int .i64 0,.int .i64 0,.int .i64 0,.int .i64 0]],[.arr [.i .i64,.i .i64,.i .i64,.i .i64,.i .i64] [],.arr [.i .i64] []],[.l [.i .i64,.i .i64,.i .i64,.i .i64,.i .i64],.l [.i .i64]],.tup [],[.arr [.i .i64,.i .i64,.i .i64,.i .i64,.i .i64] [],.arr [.i .i64] []],fun a=>eE a⟩
theorem MU:vA bA 220 TS:=vA.of VI (wd:=false) (cx:=(yK aI [(208,aFy)] [(265,TR),(265,Z9)] [] [])) (rN.make ⟨OF,trivial⟩ ⟨MT,XP,trivial⟩ trivial) (fun a=>by kernel_rfl)
def tG (p0:aG) (p1:Int×Int) (p2:Int×Int):Option (aG×Int):=
 (jA p0).bind fun n0=>
 (eW p2).bind fun n1=>
 bif (if n1>n0 then n1 else n0) !=0 then
  some (aG.mk (aS.mk [] [] []) [] [],if n1>n0 then n1 else n0)
 else
  (oN p0 p1).bind fun a2=>
  bif a2.2 !=0 then
   some (aG.mk (aS.mk [] [] []) [] [],a2.2)
  else
   (cL p0.heap).bind fun l3=>
   (cL p0.where_).bind fun l4=>
   (aL l3 a2.1).bind fun a5=>
   (eE (p0.slots.uses,p0.slots.used,p0.slots.free,a2.1,p2.1,p2.2,a5.2.2.1,a5.2.2.2.1,a5.2.2.2.2,l3,l4)).bind fun a6=>
   some (aG.mk p0.slots a6.1 a6.2,0)
def aNk:bQ:=⟨aD.cons (aN.agg eV) (aD.cons (aN.agg (cN.row jX)) (aD.one (aN.agg (cN.row jX)))),aN.tup (aD.cons (aN.agg eV) (aD.one (aN.int .i64))),fun a=>tG a.1 a.2.1 a.2.2,.frz,false⟩
theorem aFR:aK bA 180 aNk:=aK.of aEi (cx:=(yK aI [(162,XL),(60,c60),(218,aLf),(172,bQ.clone kU),(64,bQ.clone ki)] [(220,OJ),(220,TS)] [(219,XJ)] [])) rfl (rN.make ⟨FF,yU,VV,BE,tC,trivial⟩ ⟨GS,MU,trivial⟩ ⟨N7,trivial⟩) (fun a=>by kernel_rfl)
def wH (p0:Int×Int×Int×Int×Int) (p1:Int):Option Bool:=
 some (p0.2.2.1==p1)
def aNl:bQ:=⟨aD.cons (aN.agg (cN.row kU)) (aD.one (aN.ref (cN.int .i64))),aN.bool,fun a=>wH a.1 a.2,.pure,false⟩
theorem aFS:aK bA 222 aNl:=Oc aEI rfl aI [] trivial fun a=>by kernel_rfl
def cH (s:(mS×Int×Int×Int)):Option (bY (mS×Int×Int×Int) Int):=
 bif decide (s.2.2.2<s.2.2.1) then
  (aL s.1 s.2.2.2).bind fun a0=>
  (wH a0 s.2.1).bind fun b1=>
  bif b1 then
   some (.done s.2.2.2)
  else
   some (.next (s.1,s.2.1,s.2.2.1,aA .i64 (s.2.2.2+1)))
 else
  some (.done (-1))
def dY (p0:List N8) (p1:Int):Option Int:=
 aJ cH (p0,p1,Int.ofNat p0.length,0)
def QX:bQ:=⟨aD.cons (aN.sl kU) (aD.one (aN.clo 222 (aD.one (aN.ref (cN.int .i64))))),aN.int .i64,fun a=>dY a.1 a.2,.pure,false⟩
theorem QY:aK bA 266 QX:=Oc aEX rfl aI [(222,aNl)] ⟨aFS,trivial⟩ fun a=>by kernel_rfl
def cI (p0:List N8) (p1:Int):Option Bool:=
 (dY p0 p1).bind fun n0=>
 some (decide (0<=n0))
def QZ:bQ:=⟨aD.cons (aN.sl kU) (aD.one (aN.clo 222 (aD.one (aN.ref (cN.int .i64))))),aN.bool,fun a=>cI a.1 a.2,.pure,false⟩
theorem Q0:aK bA 221 QZ:=Oc aEH rfl aI [(266,QX)] ⟨QY,trivial⟩ fun a=>by kernel_rfl
def uC (p0:List Int):Option ((List Int)×Int):=
 (iP p0 0 (aA .i64 ((Int.ofNat p0.length) -1))).bind fun l0=>
 (cL l0).bind fun l1=>
 (aL p0 (aA .i64 ((Int.ofNat p0.length) -1))).bind fun n2=>
 some (l1,n2)
def aNm:bQ:=⟨aD.one (aN.sl ki),aN.tup (aD.cons (aN.sl ki) (aD.one (aN.int .i64))),fun a=>uC a,.frz,false⟩
theorem aFT:aK bA 267 aNm:=Oc aEY rfl aI [(290,bQ.clone ki)] ⟨QN,trivial⟩ fun a=>by kernel_rfl
def CE (p0:aS):Option (aS×(Int×Int)×Int):=
 (pR p0).bind fun n0=>
 bif n0 !=0 then
  some (aS.mk [] [] [],(0,0),n0)
 else
  bif (Int.ofNat p0.free.length)==0 then
   some (aS.mk [] [] [],(0,0),18)
  else
   (uC p0.free).bind fun a1=>
   (aL p0.uses a1.2).bind fun n2=>
   bif n2==1000000 then
    some (aS.mk [] [] [],(0,0),18)
   else
    (cL p0.uses).bind fun l3=>
    (cL p0.used).bind fun l4=>
    (aL l4 a1.2).bind fun _=>
    (aL l3 a1.2).bind fun n6=>
    (aL l3 a1.2).bind fun _=>
    (aL (bT l3 a1.2 (aA .i64 (n6+1))) a1.2).bind fun n8=>
    some (aS.mk (bT l3 a1.2 (aA .i64 (n6+1))) (bT l4 a1.2 true) a1.1,(a1.2,n8),0)
def aNn:bQ:=⟨aD.one (aN.agg lR),aN.tup (aD.cons (aN.agg lR) (aD.cons (aN.agg (cN.row jX)) (aD.one (aN.int .i64)))),fun a=>CE a,.frz,false⟩
theorem aFU:aK bA 223 aNn:=aK.of aEJ (cx:=(yK aI [(207,aFq),(267,aNm),(64,bQ.clone ki),(173,bQ.clone kb)] [] [(268,ZX)] [])) rfl (rN.make ⟨OE,aFT,tC,BD,trivial⟩ trivial ⟨VK,trivial⟩) (fun a=>by kernel_rfl)
def kN (p0:aG) (p1:Int×Int) (p2:Int):Option (aG×(Int×Int)×Int):=
 (jA p0).bind fun n0=>
 (eW p1).bind fun n1=>
 bif (if n1>n0 then n1 else n0) !=0 then
  some (aG.mk (aS.mk [] [] []) [] [],(0,0),if n1>n0 then n1 else n0)
 else
  bif decide (p2<0) then
   some (aG.mk (aS.mk [] [] []) [] [],(0,0),2)
  else
   bif decide (1000000<p2) then
    some (aG.mk (aS.mk [] [] []) [] [],(0,0),2)
   else
    (cI p0.heap p2).bind fun b2=>
    bif b2 then
     some (aG.mk (aS.mk [] [] []) [] [],(0,0),14)
    else
     (CE p0.slots).bind fun a3=>
     bif a3.2.2 !=0 then
      some (aG.mk (aS.mk [] [] []) [] [],(0,0),a3.2.2)
     else
      (cL p0.heap).bind fun l4=>
      (cL p0.where_).bind fun l5=>
      (bR l4 [(p1.1,p1.2,p2,a3.2.1)]).bind fun l6=>
      (eE (a3.1.uses,a3.1.used,a3.1.free,aA .i64 ((Int.ofNat l6.length) -1),p1.1,p1.2,p2,a3.2.1.1,a3.2.1.2,l6,l5)).bind fun a7=>
      some (aG.mk a3.1 a7.1 a7.2,a3.2.1,0)
def aLi:bQ:=⟨aD.cons (aN.agg eV) (aD.cons (aN.agg (cN.row jX)) (aD.one (aN.int .i64))),aN.tup (aD.cons (aN.agg eV) (aD.cons (aN.agg (cN.row jX)) (aD.one (aN.int .i64)))),fun a=>kN a.1 a.2.1 a.2.2,.frz,false⟩
theorem VY:aK bA 181 aLi:=aK.of aEj (cx:=(yK aI [(162,XL),(60,c60),(221,QZ),(223,aNn),(172,bQ.clone kU),(64,bQ.clone ki)] [(220,OJ),(220,TS)] [(219,XJ)] [])) rfl (rN.make ⟨FF,yU,Q0,aFU,BE,tC,trivial⟩ ⟨GS,MU,trivial⟩ ⟨N7,trivial⟩) (fun a=>by kernel_rfl)
def cX (s:Zt1):Option (bY Zt1 Zt5):=
 match s with
 |(a,b,d,e,f,g,h,i,j,k,l,m,n,o,q,r,t,u,v,w,x,y,z,A,B,C,D,E,F)=>
  bif decide (d<b) then
   (aL a d).bind fun a0=>
   (pU (Field.mk q) a0.2 (e,f)).bind fun a1=>
   (mA o a0.1).bind fun a2=>
   bif a1.2.1 then
    bif a2.2 then
     (aL o a2.1).bind fun a3=>
     (tG (aG.mk (aS.mk z A B) C D) a3.2 a1.1).bind fun a4=>
     (aL o a2.1).bind fun a5=>
     (bR F [a5]).bind fun l6=>
     bif a4.2 !=0 then
      some (.done (.done (aH.mk (0,0) (Field.mk []) (aW.mk 0 []) (aG.mk (aS.mk [] [] []) [] []) [],a4.2)))
     else
      some (.next (a,b,aA .i64 (d+1),e,f,g,h,i,j,k,l,m,n,o,q,r,t,u,v,w,x,y,a4.1.slots.uses,a4.1.slots.used,a4.1.slots.free,a4.1.heap,a4.1.where_,E,l6))
    else
     bif a1.2.1 then
      (kN (aG.mk (aS.mk z A B) C D) a1.1 a0.1).bind fun a7=>
      (bR F [(a0.1,a7.2.1)]).bind fun l8=>
      bif a7.2.2 !=0 then
       some (.done (.done (aH.mk (0,0) (Field.mk []) (aW.mk 0 []) (aG.mk (aS.mk [] [] []) [] []) [],a7.2.2)))
      else
       some (.next (a,b,aA .i64 (d+1),e,f,g,h,i,j,k,l,m,n,o,q,r,t,u,v,w,x,y,a7.1.slots.uses,a7.1.slots.used,a7.1.slots.free,a7.1.heap,a7.1.where_,E,l8))
     else
      bif a2.2 then
       (aL o a2.1).bind fun a9=>
       (jE (aG.mk (aS.mk z A B) C D) a9.2).bind fun a10=>
       bif a10.2.2 !=0 then
        some (.done (.done (aH.mk (0,0) (Field.mk []) (aW.mk 0 []) (aG.mk (aS.mk [] [] []) [] []) [],a10.2.2)))
       else
        some (.next (a,b,aA .i64 (d+1),e,f,g,h,i,j,k,l,m,n,o,q,r,t,u,v,w,x,y,a10.1.slots.uses,a10.1.slots.used,a10.1.slots.free,a10.1.heap,a10.1.where_,(E,F)))
      else
       bif a1.2.2 !=0 then
        some (.done (.done (aH.mk (0,0) (Field.mk []) (aW.mk 0 []) (aG.mk (aS.mk [] [] []) [] []) [],a1.2.2)))
       else
        some (.next (a,b,aA .i64 (d+1),(e,f,g,h,i,j,k,l,m,n,o,q,r,t,u,v,w,x,y,z,A,B,C,D,E,F)))
   else
    bif a1.2.1 then
     (kN (aG.mk (aS.mk z A B) C D) a1.1 a0.1).bind fun a11=>
     (bR F [(a0.1,a11.2.1)]).bind fun l12=>
     bif a11.2.2 !=0 then
      some (.done (.done (aH.mk (0,0) (Field.mk []) (aW.mk 0 []) (aG.mk (aS.mk [] [] []) [] []) [],a11.2.2)))
     else
      some (.next (a,b,aA .i64 (d+1),e,f,g,h,i,j,k,l,m,n,o,q,r,t,u,v,w,x,y,a11.1.slots.uses,a11.1.slots.used,a11.1.slots.free,a11.1.heap,a11.1.where_,E,l12))
    else
     bif a2.2 then
      (aL o a2.1).bind fun a13=>
      (jE (aG.mk (aS.mk z A B) C D) a13.2).bind fun a14=>
      bif a14.2.2 !=0 then
       some (.done (.done (aH.mk (0,0) (Field.mk []) (aW.mk 0 []) (aG.mk (aS.mk [] [] []) [] []) [],a14.2.2)))
      else
       some (.next (a,b,aA .i64 (d+1),e,f,g,h,i,j,k,l,m,n,o,q,r,t,u,v,w,x,y,a14.1.slots.uses,a14.1.slots.used,a14.1.slots.free,a14.1.heap,a14.1.where_,(E,F)))
     else
      bif a1.2.2 !=0 then
       some (.done (.done (aH.mk (0,0) (Field.mk []) (aW.mk 0 []) (aG.mk (aS.mk [] [] []) [] []) [],a1.2.2)))
      else
       some (.next (a,b,aA .i64 (d+1),(e,f,g,h,i,j,k,l,m,n,o,q,r,t,u,v,w,x,y,z,A,B,C,D,E,F)))
  else
   some (.done (.done (aH.mk (v,w) (Field.mk E) (aW.mk x y) (aG.mk (aS.mk z A B) C D) F,0)))
def jY (s:aMs):Option Zt5:=
 bif decide (s.2.2.1<s.2.1) then
  (aL s.1 s.2.2.1).bind fun a0=>
  (jB (Field.mk s.2.2.2.2.2.2.2.2.2.2.2.2.2.2.1) a0.2.1).bind fun a1=>
  bif decide (a1.1<0) then
   some (.done (aH.mk (0,0) (Field.mk []) (aW.mk 0 []) (aG.mk (aS.mk [] [] []) [] []) [],6))
  else
   (jB (Field.mk s.2.2.2.2.2.2.2.2.2.2.2.2.2.2.1) a0.2.2).bind fun a2=>
   bif decide (a2.1<0) then
    some (.done (aH.mk (0,0) (Field.mk []) (aW.mk 0 []) (aG.mk (aS.mk [] [] []) [] []) [],6))
   else
    some (.next (s.1,s.2.1,aA .i64 (s.2.2.1+1),s.2.2.2))
 else
  (gS (aH.mk (s.2.2.2.1,s.2.2.2.2.1) (Field.mk s.2.2.2.2.2.1) (aW.mk s.2.2.2.2.2.2.1 s.2.2.2.2.2.2.2.1) (aG.mk (aS.mk s.2.2.2.2.2.2.2.2.1 s.2.2.2.2.2.2.2.2.2.1 s.2.2.2.2.2.2.2.2.2.2.1) s.2.2.2.2.2.2.2.2.2.2.2.1 s.2.2.2.2.2.2.2.2.2.2.2.2.1) s.2.2.2.2.2.2.2.2.2.2.2.2.2.1)).bind fun r3=>
  (cL s.2.2.2.2.2.2.2.2.2.2.2.2.2.2.1).bind fun l4=>
  aJ cX (s.2.2.2.2.2.2.2.1,Int.ofNat s.2.2.2.2.2.2.2.1.length,0,s.2.2.2.1,s.2.2.2.2.1,s.2.2.2.2.2.1,s.2.2.2.2.2.2.1,s.2.2.2.2.2.2.2.1,s.2.2.2.2.2.2.2.2.1,s.2.2.2.2.2.2.2.2.2.1,s.2.2.2.2.2.2.2.2.2.2.1,s.2.2.2.2.2.2.2.2.2.2.2.1,s.2.2.2.2.2.2.2.2.2.2.2.2.1,s.2.2.2.2.2.2.2.2.2.2.2.2.2.1,s.2.2.2.2.2.2.2.2.2.2.2.2.2.2.1,s.2.2.2.2.2.2.2.2.2.2.2.2.2.2.2.1,s.2.2.2.2.2.2.2.2.2.2.2.2.2.2.2.2.1,s.2.2.2.2.2.2.2.2.2.2.2.2.2.2.2.2.2,r3.now.1,r3.now.2,r3.certs.next_,r3.certs.list,r3.agenda.slots.uses,r3.agenda.slots.used,r3.agenda.slots.free,r3.agenda.heap,r3.agenda.where_,l4,[])
def nX (p0:aH) (p1:Field):Option (aH×Int):=
 (hY p0).bind fun n0=>
 bif n0 !=0 then
  some (aH.mk (0,0) (Field.mk []) (aW.mk 0 []) (aG.mk (aS.mk [] [] []) [] []) [],n0)
 else
  (iX p1).bind fun n1=>
  bif n1 !=0 then
   some (aH.mk (0,0) (Field.mk []) (aW.mk 0 []) (aG.mk (aS.mk [] [] []) [] []) [],n1)
  else
   aJ jY (p0.certs.list,Int.ofNat p0.certs.list.length,0,p0.now.1,p0.now.2,p0.field.points,p0.certs.next_,p0.certs.list,p0.agenda.slots.uses,p0.agenda.slots.used,p0.agenda.slots.free,p0.agenda.heap,p0.agenda.where_,p0.due,p1.points,0,0,0)
def aNo:bQ:=⟨aD.cons (aN.agg dP) (aD.one (aN.agg fI)),aN.tup (aD.cons (aN.agg dP) (aD.one (aN.int .i64))),fun a=>nX a.1 a.2,.frz,false⟩
theorem aFV:aK bA 121 aNo:=Oc aDJ rfl aI [(103,XM),(87,c87),(178,aFA),(115,Z7),(115,QU),(91,bQ.clone fW),(163,aFH),(179,aLd),(180,aNk),(181,aLi),(182,aLg)] ⟨FG,OA,OG,IP,FH,IN,OI,VT,aFR,VY,VW,trivial⟩ fun a=>by kernel_rfl
def C8 (p0:Int×Int×Int) (p1:Int×Int):Option Bool:=
 some ((p0.2.1==p1.1)&&(p0.2.2==p1.2))
def aNp:bQ:=⟨aD.cons (aN.agg (cN.row fW)) (aD.one (aN.ref (cN.row jX))),aN.bool,fun a=>C8 a.1 a.2,.pure,false⟩
theorem aFW:aK bA 123 aNp:=Oc aDK rfl aI [] trivial fun a=>by kernel_rfl
def lT (s:N9):Option (bY N9 Int):=
 bif decide (s.2.2.2.2<s.2.2.2.1) then
  (aL s.1 s.2.2.2.2).bind fun a0=>
  (C8 a0 (s.2.1,s.2.2.1)).bind fun b1=>
  bif b1 then
   some (.done s.2.2.2.2)
  else
   some (.next (s.1,s.2.1,s.2.2.1,s.2.2.2.1,aA .i64 (s.2.2.2.2+1)))
 else
  some (.done (-1))
def gZ (p0:List BC) (p1:(Int×Int)):Option Int:=
 aJ lT (p0,p1.1,p1.2,Int.ofNat p0.length,0)
def Q1:bQ:=⟨aD.cons (aN.sl fW) (aD.one (aN.clo 123 (aD.one (aN.ref (cN.row jX))))),aN.int .i64,fun a=>gZ a.1 a.2,.pure,false⟩
theorem Q2:aK bA 183 Q1:=Oc VH rfl aI [(123,aNp)] ⟨aFW,trivial⟩ fun a=>by kernel_rfl
def dQ (p0:List BC) (p1:(Int×Int)):Option Bool:=
 (gZ p0 p1).bind fun n0=>
 some (decide (0<=n0))
def Q3:bQ:=⟨aD.cons (aN.sl fW) (aD.one (aN.clo 123 (aD.one (aN.ref (cN.row jX))))),aN.bool,fun a=>dQ a.1 a.2,.pure,false⟩
theorem Q4:aK bA 122 Q3:=Oc VE rfl aI [(183,Q1)] ⟨Q2,trivial⟩ fun a=>by kernel_rfl
def cW (p0:Int):Option (aH×Int×Int):=
 some (aH.mk (0,0) (Field.mk []) (aW.mk 0 []) (aG.mk (aS.mk [] [] []) [] []) [],0,p0)
def aNq:bQ:=⟨aD.one (aN.int .i64),aN.tup (aD.cons (aN.agg dP) (aD.cons (aN.int .i64) (aD.one (aN.int .i64)))),fun a=>cW a,.frz,false⟩
theorem aFX:aK bA 184 aNq:=Oc aEl rfl aI [] trivial fun a=>by kernel_rfl
def D3 (p0:Int×Int×Int) (p1:Int×Int):Option Bool:=
 some ((p0.2.1==p1.1)&&(p0.2.2==p1.2))
def aNr:bQ:=⟨aD.cons (aN.agg (cN.row fW)) (aD.one (aN.ref (cN.row jX))),aN.bool,fun a=>D3 a.1 a.2,.pure,false⟩
theorem aFY:aK bA 225 aNr:=Oc aEL rfl aI [] trivial fun a=>by kernel_rfl
def cV (s:N9):Option (bY N9 Int):=
 bif decide (s.2.2.2.2<s.2.2.2.1) then
  (aL s.1 s.2.2.2.2).bind fun a0=>
  (D3 a0 (s.2.1,s.2.2.1)).bind fun b1=>
  bif b1 then
   some (.done s.2.2.2.2)
  else
   some (.next (s.1,s.2.1,s.2.2.1,s.2.2.2.1,aA .i64 (s.2.2.2.2+1)))
 else
  some (.done (-1))
def eZ (p0:List BC) (p1:(Int×Int)):Option Int:=
 aJ cV (p0,p1.1,p1.2,Int.ofNat p0.length,0)
def Q5:bQ:=⟨aD.cons (aN.sl fW) (aD.one (aN.clo 225 (aD.one (aN.ref (cN.row jX))))),aN.int .i64,fun a=>eZ a.1 a.2,.pure,false⟩
theorem Q6:aK bA 183 Q5:=Oc VH rfl aI [(225,aNr)] ⟨aFY,trivial⟩ fun a=>by kernel_rfl
def bW (p0:List BC) (p1:(Int×Int)):Option Bool:=
 (eZ p0 p1).bind fun n0=>
 some (decide (0<=n0))
def Q7:bQ:=⟨aD.cons (aN.sl fW) (aD.one (aN.clo 225 (aD.one (aN.ref (cN.row jX))))),aN.bool,fun a=>bW a.1 a.2,.pure,false⟩
theorem Q8:aK bA 122 Q7:=Oc VE rfl aI [(183,Q5)] ⟨Q6,trivial⟩ fun a=>by kernel_rfl
def FI (p0:aW) (p1:Int×Int):Option (aW×Int×Int):=
 (pQ p0).bind fun n0=>
 bif n0 !=0 then
  some (aW.mk 0 [],0,n0)
 else
  (uA p1).bind fun b1=>
  bif !b1 then
   some (aW.mk 0 [],0,8)
  else
   (bW p0.list p1).bind fun b2=>
   bif b2 then
    some (aW.mk 0 [],0,14)
   else
    bif (Int.ofNat p0.list.length)==200 then
     some (aW.mk 0 [],0,18)
    else
     bif p0.next_==1000000 then
      some (aW.mk 0 [],0,18)
     else
      (cL p0.list).bind fun l3=>
      (bR l3 [(p0.next_,p1)]).bind fun l4=>
      some (aW.mk (aA .i64 (p0.next_+1)) l4,p0.next_,0)
def aNs:bQ:=⟨aD.cons (aN.agg mK) (aD.one (aN.agg (cN.row jX))),aN.tup (aD.cons (aN.agg mK) (aD.cons (aN.int .i64) (aD.one (aN.int .i64)))),fun a=>FI a.1 a.2,.frz,false⟩
theorem aFZ:aK bA 185 aNs:=Oc aEm rfl aI [(161,aFn),(206,aK9),(122,Q7),(170,bQ.clone fW)] ⟨OD,VO,Q8,FD,trivial⟩ fun a=>by kernel_rfl
def hZ (p0:aH) (p1:Int×Int):Option (aH×Int×Int):=
 (hY p0).bind fun n0=>
 bif n0 !=0 then
  (cW n0).bind fun a1=>
  some a1
 else
  (FI p0.certs p1).bind fun a2=>
  bif a2.2.2==8 then
   (cW a2.2.2).bind fun a3=>
   some a3
  else
   (jB p0.field p1.1).bind fun a4=>
   bif decide (a4.1<0) then
    (cW 6).bind fun a5=>
    some a5
   else
    (jB p0.field p1.2).bind fun a6=>
    bif decide (a6.1<0) then
     (cW 6).bind fun a7=>
     some a7
    else
     bif a2.2.2 !=0 then
      (cW a2.2.2).bind fun a8=>
      some a8
     else
      (gS p0).bind fun r9=>
      (pU p0.field p1 p0.now).bind fun a10=>
      bif a10.2.2 !=0 then
       (cW a10.2.2).bind fun a11=>
       some a11
      else
       bif a10.2.1 then
        (kN p0.agenda a10.1 a2.2.1).bind fun a12=>
        bif a12.2.2 !=0 then
         (cW a12.2.2).bind fun a13=>
         some a13
        else
         (bR r9.due [(a2.2.1,a12.2.1)]).bind fun l14=>
         some (aH.mk r9.now r9.field a2.1 a12.1 l14,a2.2.1,0)
       else
        some (aH.mk r9.now r9.field a2.1 r9.agenda r9.due,a2.2.1,0)
def aNt:bQ:=⟨aD.cons (aN.agg dP) (aD.one (aN.agg (cN.row jX))),aN.tup (aD.cons (aN.agg dP) (aD.cons (aN.int .i64) (aD.one (aN.int .i64)))),fun a=>hZ a.1 a.2,.frz,false⟩
theorem aF0:aK bA 124 aNt:=Oc aDL rfl aI [(103,XM),(184,aNq),(185,aNs),(178,aFA),(115,Z7),(115,QU),(163,aFH),(181,aLi)] ⟨FG,aFX,aFZ,OG,IP,FH,OI,VY,trivial⟩ fun a=>by kernel_rfl
def eK (s:aMu):Option (bY aMu Zt4):=
 bif decide (s.2.2.1<s.2.1) then
  (aL s.1 s.2.2.1).bind fun a0=>
  (dQ s.2.2.2.2.2.2.2.1 a0).bind fun b1=>
  bif b1 then
   some (.next (s.1,s.2.1,aA .i64 (s.2.2.1+1),s.2.2.2))
  else
   (hZ (aH.mk (s.2.2.2.1,s.2.2.2.2.1) (Field.mk s.2.2.2.2.2.1) (aW.mk s.2.2.2.2.2.2.1 s.2.2.2.2.2.2.2.1) (aG.mk (aS.mk s.2.2.2.2.2.2.2.2.1 s.2.2.2.2.2.2.2.2.2.1 s.2.2.2.2.2.2.2.2.2.2.1) s.2.2.2.2.2.2.2.2.2.2.2.1 s.2.2.2.2.2.2.2.2.2.2.2.2.1) s.2.2.2.2.2.2.2.2.2.2.2.2.2.1) a0).bind fun a2=>
   bif a2.2.2 !=0 then
    some (.done (.done (aH.mk (0,0) (Field.mk []) (aW.mk 0 []) (aG.mk (aS.mk [] [] []) [] []) [],a2.2.2)))
   else
    some (.next (s.1,s.2.1,aA .i64 (s.2.2.1+1),a2.1.now.1,a2.1.now.2,a2.1.field.points,a2.1.certs.next_,a2.1.certs.list,a2.1.agenda.slots.uses,a2.1.agenda.slots.used,a2.1.agenda.slots.free,a2.1.agenda.heap,a2.1.agenda.where_,a2.1.due,s.2.2.2.2.2.2.2.2.2.2.2.2.2.2))
 else
  some (.done (.done (aH.mk (s.2.2.2.1,s.2.2.2.2.1) (Field.mk s.2.2.2.2.2.1) (aW.mk s.2.2.2.2.2.2.1 s.2.2.2.2.2.2.2.1) (aG.mk (aS.mk s.2.2.2.2.2.2.2.2.1 s.2.2.2.2.2.2.2.2.2.1 s.2.2.2.2.2.2.2.2.2.2.1) s.2.2.2.2.2.2.2.2.2.2.2.1 s.2.2.2.2.2.2.2.2.2.2.2.2.1) s.2.2.2.2.2.2.2.2.2.2.2.2.2.1,0)))
def dT (s:aMr):Option Zt4:=
 match s with
 |(a,b,d,e,f,g,h,i,j,k,l,m,n,o,q,r,t,u,v)=>
  bif decide (e<d) then
   (aL b e).bind fun a0=>
   (gE a a0.2).bind fun b1=>
   bif !b1 then
    (tF (aH.mk (f,g) (Field.mk h) (aW.mk i j) (aG.mk (aS.mk k l m) n o) q) a0.1).bind fun a2=>
    some (.next (a,b,d,aA .i64 (e+1),a2.1.now.1,a2.1.now.2,a2.1.field.points,a2.1.certs.next_,a2.1.certs.list,a2.1.agenda.slots.uses,a2.1.agenda.slots.used,a2.1.agenda.slots.free,a2.1.agenda.heap,a2.1.agenda.where_,a2.1.due,(r,t,u,v)))
   else
    some (.next (a,b,d,aA .i64 (e+1),(f,g,h,i,j,k,l,m,n,o,q,r,t,u,v)))
  else
   (kW h r).bind fun b3=>
   bif !b3 then
    (nX (aH.mk (f,g) (Field.mk h) (aW.mk i j) (aG.mk (aS.mk k l m) n o) q) (Field.mk r)).bind fun a4=>
    bif a4.2 !=0 then
     some (.done (aH.mk (0,0) (Field.mk []) (aW.mk 0 []) (aG.mk (aS.mk [] [] []) [] []) [],a4.2))
    else
     aJ eK (a,Int.ofNat a.length,0,a4.1.now.1,a4.1.now.2,a4.1.field.points,a4.1.certs.next_,a4.1.certs.list,a4.1.agenda.slots.uses,a4.1.agenda.slots.used,a4.1.agenda.slots.free,a4.1.agenda.heap,a4.1.agenda.where_,a4.1.due,(t,u,v))
   else
    aJ eK (a,Int.ofNat a.length,0,f,g,h,i,j,k,l,m,n,o,q,(t,u,v))
def nY (p0:aH) (p1:Field) (p2:List (Int×Int)):Option (aH×Int):=
 aJ dT (p2,p0.certs.list,Int.ofNat p0.certs.list.length,0,p0.now.1,p0.now.2,p0.field.points,p0.certs.next_,p0.certs.list,p0.agenda.slots.uses,p0.agenda.slots.used,p0.agenda.slots.free,p0.agenda.heap,p0.agenda.where_,p0.due,p1.points,0,0,0)
def c68:bQ:=⟨aD.cons (aN.agg dP) (aD.cons (aN.agg fI) (aD.one (aN.sl jX))),aN.tup (aD.cons (aN.agg dP) (aD.one (aN.int .i64))),fun a=>nY a.1 a.2.1 a.2.2,.frz,false⟩
theorem aAa:aK bA 68 c68:=Oc aKK rfl aI [(105,aK8),(119,aNi),(120,aNj),(121,aNo),(122,Q3),(124,aNt)] ⟨VN,aFP,aFQ,aFV,Q4,aF0,trivial⟩ fun a=>by kernel_rfl
def yY (p0:Int×Int×Int) (p1:Int):Option Int:=
 (eO p0.1 p1).bind fun n0=>
 some n0
def aNu:bQ:=⟨aD.cons (aN.agg (cN.row fW)) (aD.one (aN.int .i64)),aN.int .i64,fun a=>yY a.1 a.2,.pure,false⟩
theorem aF1:aK bA 150 aNu:=Oc aDR rfl aI [(151,TQ)] ⟨CC,trivial⟩ fun a=>by kernel_rfl
def iH (s:N9):Option aFc:=
 bif decide (s.2.2.2.1<s.2.2.2.2) then
  (aL s.1 (aA .i64 (pN .u64 (aA .u64 (aA .i64 (s.2.2.2.1+s.2.2.2.2))) 1))).bind fun a0=>
  (yY a0 s.2.1).bind fun n1=>
  bif decide (n1<0) then
   some (.next (s.1,s.2.1,s.2.2.1,aA .i64 ((aA .i64 (pN .u64 (aA .u64 (aA .i64 (s.2.2.2.1+s.2.2.2.2))) 1))+1),s.2.2.2.2))
  else
   some (.next (s.1,s.2.1,s.2.2.1,s.2.2.2.1,aA .i64 (pN .u64 (aA .u64 (aA .i64 (s.2.2.2.1+s.2.2.2.2))) 1)))
 else
  bif decide (s.2.2.2.1<s.2.2.1) then
   (aL s.1 s.2.2.2.1).bind fun a2=>
   (yY a2 s.2.1).bind fun n3=>
   some (.done (s.2.2.2.1,n3==0))
  else
   some (.done (s.2.2.2.1,false))
def cR (p0:List BC) (p1:Int) (_:Unit):Option (Int×Bool):=
 aJ iH (p0,p1,Int.ofNat p0.length,0,Int.ofNat p0.length)
def Q9:bQ:=⟨aD.cons (aN.sl fW) (aD.cons (aN.int .i64) (aD.one (aN.clo 150 aD.nil))),aN.tup (aD.cons (aN.int .i64) (aD.one aN.bool)),fun a=>cR a.1 a.2.1 a.2.2,.pure,false⟩
theorem RA:aK bA 149 Q9:=Oc VF rfl aI [(150,aNu)] ⟨aF1,trivial⟩ fun a=>by kernel_rfl
def D4 (p0:Field) (p1:Int):Option (Int×Bool):=
 (cR p0.points p1 ()).bind fun a0=>
 some a0
def c89:bQ:=⟨aD.cons (aN.agg fI) (aD.one (aN.int .i64)),aN.tup (aD.cons (aN.int .i64) (aD.one aN.bool)),fun a=>D4 a.1 a.2,.pure,false⟩
theorem aLj:aK bA 89 c89:=Oc aKS rfl aI [(149,Q9)] ⟨RA,trivial⟩ fun a=>by kernel_rfl
def BI (p0:Field) (p1:Int):Option (Int×Int):=
 (iX p0).bind fun n0=>
 bif n0 !=0 then
  some (0,n0)
 else
  (D4 p0 p1).bind fun a1=>
  bif !a1.2 then
   some (0,6)
  else
   some (a1.1,0)
def c92:bQ:=⟨aD.cons (aN.agg fI) (aD.one (aN.int .i64)),aN.tup (aD.cons (aN.int .i64) (aD.one (aN.int .i64))),fun a=>BI a.1 a.2,.pure,false⟩
theorem aLk:aK bA 92 c92:=Oc aKU rfl aI [(87,c87),(89,c89)] ⟨OA,aLj,trivial⟩ fun a=>by kernel_rfl
def uD (p0:Field) (p1:Int):Option (BC×Int):=
 (BI p0 p1).bind fun a0=>
 bif a0.2 !=0 then
  some ((0,0,0),a0.2)
 else
  (aL p0.points a0.1).bind fun a1=>
  some (a1,0)
def aNv:bQ:=⟨aD.cons (aN.agg fI) (aD.one (aN.int .i64)),aN.tup (aD.cons (aN.agg (cN.row fW)) (aD.one (aN.int .i64))),fun a=>uD a.1 a.2,.pure,false⟩
theorem aF2:aK bA 139 aNv:=Oc aDP rfl aI [(92,c92)] ⟨aLk,trivial⟩ fun a=>by kernel_rfl
def oO (p0:Int×Int×Int) (p1:Int×Int×Int) (p2:Int×Int):Option (Bool×Int):=
 (pT p0 p1 p2).bind fun n0=>
 bif n0 !=0 then
  some (false,n0)
 else
  (lZ p0 p1 p2).bind fun n1=>
  some (decide (0<n1),0)
def aNw:bQ:=⟨aD.cons (aN.agg (cN.row fW)) (aD.cons (aN.agg (cN.row fW)) (aD.one (aN.agg (cN.row jX)))),aN.tup (aD.cons aN.bool (aD.one (aN.int .i64))),fun a=>oO a.1 a.2.1 a.2.2,.pure,false⟩
theorem aF3:aK bA 128 aNw:=Oc aDN rfl aI [(189,aFB),(190,aLc)] ⟨OH,VS,trivial⟩ fun a=>by kernel_rfl
def rS (p0:Field) (p1:Int×Int) (p2:Int) (p3:Int):Option Bool:=
 (uD p0 p2).bind fun a0=>
 (uD p0 p3).bind fun a1=>
 (oO a0.1 a1.1 p1).bind fun a2=>
 some a2.1
def aLl:bQ:=⟨aD.cons (aN.agg fI) (aD.cons (aN.agg (cN.row jX)) (aD.cons (aN.int .i64) (aD.one (aN.int .i64)))),aN.bool,fun a=>rS a.1 a.2.1 a.2.2.1 a.2.2.2,.pure,false⟩
theorem VZ:aK bA 106 aLl:=Oc aDv rfl aI [(139,aNv),(128,aNw)] ⟨aF2,aF3,trivial⟩ fun a=>by kernel_rfl
def CS (c0:(cK×Int×Int×Int×(List Int))) (s:(Int×(List Int)×cK×Int×Int)):Option (bY (Int×(List Int)×cK×Int×Int) (List Int)):=
 bif decide (0<s.1) then
  (aL s.2.1 s.1).bind fun n0=>
  (aL s.2.1 (aA .i64 (Int.tdiv (aA .i64 (s.1-1)) 2))).bind fun n1=>
  (rS (Field.mk s.2.2.1) s.2.2.2 n0 n1).bind fun b2=>
  bif b2 then
   (aL s.2.1 (aA .i64 (Int.tdiv (aA .i64 (s.1-1)) 2))).bind fun n3=>
   (aL s.2.1 s.1).bind fun n4=>
   (aL s.2.1 s.1).bind fun _=>
   (aL (bT s.2.1 s.1 n3) (aA .i64 (Int.tdiv (aA .i64 (s.1-1)) 2))).bind fun _=>
   some (.next (aA .i64 (Int.tdiv (aA .i64 (s.1-1)) 2),bT (bT s.2.1 s.1 n3) (aA .i64 (Int.tdiv (aA .i64 (s.1-1)) 2)) n4,s.2.2))
  else
   bif s.2.1.length==c0.2.2.2.2.length then
    some (.done s.2.1)
   else
    none
 else
  bif s.2.1.length==c0.2.2.2.2.length then
   some (.done s.2.1)
  else
   none
def xK (a:(cK×Int×Int×Int×(List Int))):Option (List Int):=
 aJ (CS a) (a.2.2.2.1,a.2.2.2.2,a.1,a.2.1,a.2.2.1)
def aHf:fB:=⟨[.l [.i .i64,.i .i64,.i .i64],.i,.i,.i,.l [.i .i64]],[.agg [.sl [.i .i64,.i .i64,.i .i64] []],.agg [.int .i64 0,.int .i64 0],.own 0 false,.int .i64 0],[.arr [.i .i64] []],[.l [.i .i64]],.tup [],[.arr [.i .i64] []],fun a=>xK a⟩
theorem aAb:vA bA 67 aHf:=vA.of aKJ (wd:=false) (cx:=(yK aI [(106,aLl)] [] [] [])) (rN.make ⟨VZ,trivial⟩ trivial trivial) (fun a=>by kernel_rfl)
def KM (s:Zt3):Option (bY Zt3 (dN×Int)):=
 match s with
 |(a,b,d,e,f,g,h,i,j,k,l,m,n,o,q,r,t,u,v,w,x,y,z,A)=>
  bif decide (d<b) then
   (aL a d).bind fun a0=>
   (bR A [a0.1]).bind fun l1=>
   (xK (e,f,g,d,l1)).bind fun l2=>
   some (.next (a,b,aA .i64 (d+1),e,f,g,h,i,j,k,l,m,n,o,q,r,t,u,v,w,x,y,z,l2))
  else
   (lY A).bind fun l3=>
   (nY (aH.mk (k,l) (Field.mk m) (aW.mk n o) (aG.mk (aS.mk q r t) u v) w) (Field.mk e) l3).bind fun a4=>
   some (.done (dN.mk a4.1 A,a4.2))
def HI (p0:Field) (p1:Int×Int):Option (dN×Int):=
 (MS p0 p1).bind fun a0=>
 bif a0.2 !=0 then
  some (dN.mk (aH.mk (0,0) (Field.mk []) (aW.mk 0 []) (aG.mk (aS.mk [] [] []) [] []) []) [],a0.2)
 else
  aJ KM (p0.points,Int.ofNat p0.points.length,0,p0.points,p1.1,p1.2,0,0,0,a0.1.now.1,a0.1.now.2,a0.1.field.points,a0.1.certs.next_,a0.1.certs.list,a0.1.agenda.slots.uses,a0.1.agenda.slots.used,a0.1.agenda.slots.free,a0.1.agenda.heap,a0.1.agenda.where_,a0.1.due,0,0,0,[])
def c20:bQ:=⟨aD.cons (aN.agg fI) (aD.one (aN.agg (cN.row jX))),aN.tup (aD.cons (aN.agg kV) (aD.one (aN.int .i64))),fun a=>HI a.1 a.2,.frz,false⟩
theorem aLm:aK bA 20 c20:=aK.of aKl (cx:=(yK aI [(66,c66),(69,c69),(68,c68)] [(67,aHf)] [] [])) rfl (rN.make ⟨aK7,TO,aAa,trivial⟩ ⟨aAb,trivial⟩ trivial) (fun a=>by kernel_rfl)
def jP (s:((List Int)×Int×Int×Int)):Option (bY ((List Int)×Int×Int×Int) Int):=
 bif decide (s.2.2.2<s.2.2.1) then
  (aL s.1 s.2.2.2).bind fun n0=>
  bif s.2.1==n0 then
   some (.done s.2.2.2)
  else
   some (.next (s.1,s.2.1,s.2.2.1,aA .i64 (s.2.2.2+1)))
 else
  some (.done (-1))
def fY (p0:List Int) (p1:Int):Option Int:=
 aJ jP (p0,p1,Int.ofNat p0.length,0)
def c83:bQ:=⟨aD.cons (aN.sl ki) (aD.one (aN.int .i64)),aN.int .i64,fun a=>fY a.1 a.2,.pure,false⟩
theorem aAc:aK bA 83 c83:=Oc aKP rfl aI [] trivial fun a=>by kernel_rfl
def jQ (p0:List Int) (p1:Int):Option Bool:=
 (fY p0 p1).bind fun n0=>
 some (decide (0<=n0))
def aNx:bQ:=⟨aD.cons (aN.sl ki) (aD.one (aN.int .i64)),aN.bool,fun a=>jQ a.1 a.2,.pure,false⟩
theorem aF4:aK bA 104 aNx:=Oc aDt rfl aI [(83,c83)] ⟨aAc,trivial⟩ fun a=>by kernel_rfl
def oP (s:Zt6):Option (bY Zt6 Zt9):=
 bif decide (s.2.2.2.1<s.2.2.1) then
  (aL s.2.1 s.2.2.2.1).bind fun a0=>
  (gE s.1 a0.2).bind fun b1=>
  bif !b1 then
   some (.done (.done 8))
  else
   (rS (Field.mk s.2.2.2.2.2.2.1) (s.2.2.2.2.1,s.2.2.2.2.2.1) a0.2.2 a0.2.1).bind fun b2=>
   bif !b2 then
    some (.done (.done 8))
   else
    some (.next (s.1,s.2.1,s.2.2.1,aA .i64 (s.2.2.2.1+1),s.2.2.2.2))
 else
  some (.done (.done 0))
def oQ (s:aMt):Option Zt9:=
 bif decide (s.2.2.1<s.2.1) then
  (aL s.1 s.2.2.1).bind fun a0=>
  (jQ s.2.2.2.2.2.2.2.2.2.2.2.2.2.2 a0.1).bind fun b1=>
  bif !b1 then
   some (.done 8)
  else
   some (.next (s.1,s.2.1,aA .i64 (s.2.2.1+1),s.2.2.2))
 else
  (lY s.2.2.2.2.2.2.2.2.2.2.2.2.2.2).bind fun l2=>
  bif (Int.ofNat l2.length) !=(Int.ofNat s.2.2.2.2.2.2.2.1.length) then
   some (.done 8)
  else
   aJ oP (l2,s.2.2.2.2.2.2.2.1,Int.ofNat s.2.2.2.2.2.2.2.1.length,0,s.2.2.2)
def rT (p0:dN):Option Int:=
 (hY p0.clock).bind fun n0=>
 bif n0 !=0 then
  some 8
 else
  bif (Int.ofNat p0.heap.length) !=(Int.ofNat p0.clock.field.points.length) then
   some 8
  else
   aJ oQ (p0.clock.field.points,Int.ofNat p0.clock.field.points.length,0,p0.clock.now.1,p0.clock.now.2,p0.clock.field.points,p0.clock.certs.next_,p0.clock.certs.list,p0.clock.agenda.slots.uses,p0.clock.agenda.slots.used,p0.clock.agenda.slots.free,p0.clock.agenda.heap,p0.clock.agenda.where_,p0.clock.due,p0.heap)
def c59:bQ:=⟨aD.one (aN.agg kV),aN.int .i64,fun a=>rT a,.pure,false⟩
theorem aAd:aK bA 59 c59:=Oc aKB rfl aI [(103,XM),(104,aNx),(69,c69),(105,aK8),(106,aLl)] ⟨FG,aF4,TO,VN,VZ,trivial⟩ fun a=>by kernel_rfl
def D5 (p0:aG):Option (N8×Int):=
 (jA p0).bind fun n0=>
 bif n0 !=0 then
  some ((0,0,0,0,0),n0)
 else
  bif (Int.ofNat p0.heap.length)==0 then
   some ((0,0,0,0,0),42)
  else
   (aL p0.heap 0).bind fun a1=>
   some (a1,0)
def aNy:bQ:=⟨aD.one (aN.agg eV),aN.tup (aD.cons (aN.agg (cN.row kU)) (aD.one (aN.int .i64))),fun a=>D5 a,.pure,false⟩
theorem aF5:aK bA 169 aNy:=Oc aD8 rfl aI [(162,XL)] ⟨FF,trivial⟩ fun a=>by kernel_rfl
def rU (p0:aH) (p1:Int×Int):Option (Bool×Int):=
 (hY p0).bind fun n0=>
 (eW p1).bind fun n1=>
 bif (if n1>n0 then n1 else n0) !=0 then
  some (false,if n1>n0 then n1 else n0)
 else
  (pS p1 p0.now).bind fun a2=>
  bif decide (a2.1<0) then
   some (false,44)
  else
   (D5 p0.agenda).bind fun a3=>
   bif a3.2 !=0 then
    some (false,0)
   else
    (pS (a3.1.1,a3.1.2.1) p1).bind fun a4=>
    some (decide (a4.1<=0),0)
def aLn:bQ:=⟨aD.cons (aN.agg dP) (aD.one (aN.agg (cN.row jX))),aN.tup (aD.cons aN.bool (aD.one (aN.int .i64))),fun a=>rU a.1 a.2,.pure,false⟩
theorem V0:aK bA 114 aLn:=Oc aDD rfl aI [(103,XM),(60,c60),(61,c61),(169,aNy)] ⟨FG,yU,TP,aF5,trivial⟩ fun a=>by kernel_rfl
def gT (p0:aH) (p1:Int×Int):Option (aH×N8×(Int×Int)×Int):=
 (rU p0 p1).bind fun a0=>
 bif a0.2==0 then
  bif !a0.1 then
   some (aH.mk (0,0) (Field.mk []) (aW.mk 0 []) (aG.mk (aS.mk [] [] []) [] []) [],(0,0,0,0,0),(0,0),6)
  else
   bif a0.2 !=0 then
    some (aH.mk (0,0) (Field.mk []) (aW.mk 0 []) (aG.mk (aS.mk [] [] []) [] []) [],(0,0,0,0,0),(0,0),a0.2)
   else
    (aL p0.agenda.heap 0).bind fun a1=>
    (fX p0 a1.2.2.1).bind fun a2=>
    bif a2.2.2 !=0 then
     some (aH.mk (0,0) (Field.mk []) (aW.mk 0 []) (aG.mk (aS.mk [] [] []) [] []) [],(0,0,0,0,0),(0,0),a2.2.2)
    else
     some (aH.mk (a1.1,a1.2.1) a2.1.field a2.1.certs a2.1.agenda a2.1.due,a1,a2.2.1,0)
 else
  bif a0.2 !=0 then
   some (aH.mk (0,0) (Field.mk []) (aW.mk 0 []) (aG.mk (aS.mk [] [] []) [] []) [],(0,0,0,0,0),(0,0),a0.2)
  else
   (aL p0.agenda.heap 0).bind fun a3=>
   (fX p0 a3.2.2.1).bind fun a4=>
   bif a4.2.2 !=0 then
    some (aH.mk (0,0) (Field.mk []) (aW.mk 0 []) (aG.mk (aS.mk [] [] []) [] []) [],(0,0,0,0,0),(0,0),a4.2.2)
   else
    some (aH.mk (a3.1,a3.2.1) a4.1.field a4.1.certs a4.1.agenda a4.1.due,a3,a4.2.1,0)
def aNz:bQ:=⟨aD.cons (aN.agg dP) (aD.one (aN.agg (cN.row jX))),aN.tup (aD.cons (aN.agg dP) (aD.cons (aN.agg (cN.row kU)) (aD.cons (aN.agg (cN.row jX)) (aD.one (aN.int .i64))))),fun a=>gT a.1 a.2,.frz,false⟩
theorem aF6:aK bA 113 aNz:=Oc aDC rfl aI [(114,aLn),(168,aLh)] ⟨V0,VX,trivial⟩ fun a=>by kernel_rfl
def dE (p0:dN) (p1:Int×Int):Option (dN×(Int×Int)×Int):=
 (gT p0.clock p1).bind fun a0=>
 bif a0.2.2.2 !=0 then
  some (dN.mk (aH.mk (0,0) (Field.mk []) (aW.mk 0 []) (aG.mk (aS.mk [] [] []) [] []) []) [],(0,0),a0.2.2.2)
 else
  (cL p0.heap).bind fun l1=>
  (fY l1 a0.2.2.1.1).bind fun n2=>
  (fY l1 a0.2.2.1.2).bind fun n3=>
  (aL l1 n3).bind fun n4=>
  (aL l1 n2).bind fun n5=>
  (aL l1 n2).bind fun _=>
  (aL (bT l1 n2 n4) n3).bind fun _=>
  (lY (bT (bT l1 n2 n4) n3 n5)).bind fun l8=>
  (nY a0.1 a0.1.field l8).bind fun a9=>
  some (dN.mk a9.1 (bT (bT l1 n2 n4) n3 n5),a0.2.2.1,a9.2)
def c62:bQ:=⟨aD.cons (aN.agg kV) (aD.one (aN.agg (cN.row jX))),aN.tup (aD.cons (aN.agg kV) (aD.cons (aN.agg (cN.row jX)) (aD.one (aN.int .i64)))),fun a=>dE a.1 a.2,.frz,false⟩
theorem aLo:aK bA 62 c62:=Oc aKE rfl aI [(113,aNz),(64,bQ.clone ki),(83,c83),(69,c69),(68,c68)] ⟨aF6,tC,aAc,TO,aAa,trivial⟩ fun a=>by kernel_rfl
def yZ (p0:aH) (p1:Int×Int):Option (aH×Int):=
 (rU p0 p1).bind fun a0=>
 bif a0.2==0 then
  bif a0.1 then
   some (aH.mk (0,0) (Field.mk []) (aW.mk 0 []) (aG.mk (aS.mk [] [] []) [] []) [],36)
  else
   bif a0.2 !=0 then
    some (aH.mk (0,0) (Field.mk []) (aW.mk 0 []) (aG.mk (aS.mk [] [] []) [] []) [],a0.2)
   else
    (gS p0).bind fun r1=>
    some (aH.mk p1 r1.field r1.certs r1.agenda r1.due,0)
 else
  bif a0.2 !=0 then
   some (aH.mk (0,0) (Field.mk []) (aW.mk 0 []) (aG.mk (aS.mk [] [] []) [] []) [],a0.2)
  else
   (gS p0).bind fun r2=>
   some (aH.mk p1 r2.field r2.certs r2.agenda r2.due,0)
def c63:bQ:=⟨aD.cons (aN.agg dP) (aD.one (aN.agg (cN.row jX))),aN.tup (aD.cons (aN.agg dP) (aD.one (aN.int .i64))),fun a=>yZ a.1 a.2,.frz,false⟩
theorem aLp:aK bA 63 c63:=Oc aKF rfl aI [(114,aLn),(115,Z7),(115,QU)] ⟨V0,IP,FH,trivial⟩ fun a=>by kernel_rfl
def jZ (s:Zt8):Option (bY Zt8 (dN×AL×Int)):=
 (dE (dN.mk (aH.mk (s.1,s.2.1) (Field.mk s.2.2.1) (aW.mk s.2.2.2.1 s.2.2.2.2.1) (aG.mk (aS.mk s.2.2.2.2.2.1 s.2.2.2.2.2.2.1 s.2.2.2.2.2.2.2.1) s.2.2.2.2.2.2.2.2.1 s.2.2.2.2.2.2.2.2.2.1) s.2.2.2.2.2.2.2.2.2.2.1) s.2.2.2.2.2.2.2.2.2.2.2.1) (s.2.2.2.2.2.2.2.2.2.2.2.2.1,s.2.2.2.2.2.2.2.2.2.2.2.2.2.1)).bind fun a0=>
 bif a0.2.2==6 then
  (yZ (aH.mk (s.1,s.2.1) (Field.mk s.2.2.1) (aW.mk s.2.2.2.1 s.2.2.2.2.1) (aG.mk (aS.mk s.2.2.2.2.2.1 s.2.2.2.2.2.2.1 s.2.2.2.2.2.2.2.1) s.2.2.2.2.2.2.2.2.1 s.2.2.2.2.2.2.2.2.2.1) s.2.2.2.2.2.2.2.2.2.2.1) (s.2.2.2.2.2.2.2.2.2.2.2.2.1,s.2.2.2.2.2.2.2.2.2.2.2.2.2.1)).bind fun a1=>
  (cL s.2.2.2.2.2.2.2.2.2.2.2.1).bind fun l2=>
  some (.done (dN.mk a1.1 l2,s.2.2.2.2.2.2.2.2.2.2.2.2.2.2.2.2.2,a1.2))
 else
  bif a0.2.2 !=0 then
   some (.done (dN.mk (aH.mk (0,0) (Field.mk []) (aW.mk 0 []) (aG.mk (aS.mk [] [] []) [] []) []) [],[],a0.2.2))
  else
   (bR s.2.2.2.2.2.2.2.2.2.2.2.2.2.2.2.2.2 [a0.2.1]).bind fun l3=>
   some (.next (a0.1.clock.now.1,a0.1.clock.now.2,a0.1.clock.field.points,a0.1.clock.certs.next_,a0.1.clock.certs.list,a0.1.clock.agenda.slots.uses,a0.1.clock.agenda.slots.used,a0.1.clock.agenda.slots.free,a0.1.clock.agenda.heap,a0.1.clock.agenda.where_,a0.1.clock.due,a0.1.heap,s.2.2.2.2.2.2.2.2.2.2.2.2.1,s.2.2.2.2.2.2.2.2.2.2.2.2.2.1,s.2.2.2.2.2.2.2.2.2.2.2.2.2.2.1,s.2.2.2.2.2.2.2.2.2.2.2.2.2.2.2.1,s.2.2.2.2.2.2.2.2.2.2.2.2.2.2.2.2.1,l3))
def dC (p0:dN) (p1:Int×Int):Option (dN×AL×Int):=
 (rT p0).bind fun n0=>
 bif n0 !=0 then
  some (dN.mk (aH.mk (0,0) (Field.mk []) (aW.mk 0 []) (aG.mk (aS.mk [] [] []) [] []) []) [],[],n0)
 else
  (eW p1).bind fun n1=>
  bif n1 !=0 then
   some (dN.mk (aH.mk (0,0) (Field.mk []) (aW.mk 0 []) (aG.mk (aS.mk [] [] []) [] []) []) [],[],8)
  else
   (pS p1 p0.clock.now).bind fun a2=>
   bif decide (a2.1<0) then
    some (dN.mk (aH.mk (0,0) (Field.mk []) (aW.mk 0 []) (aG.mk (aS.mk [] [] []) [] []) []) [],[],44)
   else
    aJ jZ (p0.clock.now.1,p0.clock.now.2,p0.clock.field.points,p0.clock.certs.next_,p0.clock.certs.list,p0.clock.agenda.slots.uses,p0.clock.agenda.slots.used,p0.clock.agenda.slots.free,p0.clock.agenda.heap,p0.clock.agenda.where_,p0.clock.due,p0.heap,p1.1,p1.2,0,0,0,[])
def c16:bQ:=⟨aD.cons (aN.agg kV) (aD.one (aN.agg (cN.row jX))),aN.tup (aD.cons (aN.agg kV) (aD.cons (aN.sl jX) (aD.one (aN.int .i64)))),fun a=>dC a.1 a.2,.frz,false⟩
theorem aAe:aK bA 16 c16:=Oc aKh rfl aI [(59,c59),(60,c60),(61,c61),(62,c62),(63,c63),(64,bQ.clone ki)] ⟨aAd,yU,TP,aLo,aLp,tC,trivial⟩ fun a=>by kernel_rfl
def FJ (p0:dN):Option (Int×Int):=
 (rT p0).bind fun n0=>
 bif n0 !=0 then
  some (0,n0)
 else
  bif (Int.ofNat p0.heap.length)==0 then
   some (0,42)
  else
   (aL p0.heap 0).bind fun n1=>
   some (n1,0)
def c23:bQ:=⟨aD.one (aN.agg kV),aN.tup (aD.cons (aN.int .i64) (aD.one (aN.int .i64))),fun a=>FJ a,.pure,false⟩
theorem aLq:aK bA 23 c23:=Oc aKn rfl aI [(59,c59)] ⟨aAd,trivial⟩ fun a=>by kernel_rfl
def mN (s:aFe):Option (bY aFe Bool):=
 bif decide (s.2.2<(Int.ofNat s.1.length)) then
  (aL s.1 s.2.2).bind fun n0=>
  (aL s.2.1 s.2.2).bind fun n1=>
  bif n0 !=n1 then
   some (.done false)
  else
   some (.next (s.1,s.2.1,aA .i64 (s.2.2+1)))
 else
  some (.done true)
def jF (p0:List Int) (p1:List Int):Option Bool:=
 bif (Int.ofNat p0.length) !=(Int.ofNat p1.length) then
  some false
 else
  aJ mN (p0,p1,0)
def c51:bQ:=⟨aD.cons (aN.sl ki) (aD.one (aN.sl ki)),aN.bool,fun a=>jF a.1 a.2,.pure,false⟩
theorem aAf:aK bA 51 c51:=Oc aKu rfl aI [] trivial fun a=>by kernel_rfl
def kX (s:(AL×AL×Int)):Option (bY (AL×AL×Int) Bool):=
 bif decide (s.2.2<(Int.ofNat s.1.length)) then
  (aL s.1 s.2.2).bind fun a0=>
  (aL s.2.1 s.2.2).bind fun a1=>
  bif !((a0.1==a1.1)&&(a0.2==a1.2)) then
   some (.done false)
  else
   some (.next (s.1,s.2.1,aA .i64 (s.2.2+1)))
 else
  some (.done true)
def iT (p0:List (Int×Int)) (p1:List (Int×Int)):Option Bool:=
 bif (Int.ofNat p0.length) !=(Int.ofNat p1.length) then
  some false
 else
  aJ kX (p0,p1,0)
def c18:bQ:=⟨aD.cons (aN.sl jX) (aD.one (aN.sl jX)),aN.bool,fun a=>iT a.1 a.2,.pure,false⟩
theorem aAg:aK bA 18 c18:=Oc aKj rfl aI [] trivial fun a=>by kernel_rfl
def RC:Option Bool:=
 HH.bind fun r0=>
 (FE 0).bind fun a1=>
 (HI r0 a1).bind fun a2=>
 (FE 2).bind fun a3=>
 (dC a2.1 a3).bind fun a4=>
 (FE 6).bind fun a5=>
 (dC a4.1 a5).bind fun a6=>
 (FJ a6.1).bind fun a7=>
 bif a2.2==0 then
  bif a4.2.2==0 then
   bif a6.2.2==0 then
    bif a7.2==0 then
     (jF a2.1.heap [2,1,5]).bind fun b8=>
     bif b8 then
      (jF a4.1.heap [1,2,5]).bind fun b9=>
      bif b9 then
       (iT a4.2.1 [(1,2)]).bind fun b10=>
       bif b10 then
        bif (Int.ofNat a6.2.1.length)==0 then
         bif a7.1==1 then
          (jF a6.1.heap [1,2,5]).bind fun b11=>
          some b11
         else
          some false
        else
         some false
       else
        some false
      else
       some false
     else
      some false
    else
     some false
   else
    some false
  else
   some false
 else
  some false
def aPk:bQ:=⟨aD.nil,aN.bool,fun _=>RC,.pure,false⟩
theorem aF7:aK bA 10 aPk:=Oc aKb rfl aI [(49,c49),(50,c50),(20,c20),(16,c16),(23,c23),(51,c51),(18,c18)] ⟨aK3,aK4,aLm,aAe,aLq,aAf,aAg,trivial⟩ fun a=>by kernel_rfl
def c10:bQ:=⟨aD.nil,aN.bool,fun _=>some true,.pure,false⟩
end
theorem aLr:aK bA 10 c10:=aK.at0 (@aF7 (LP.of 1000000)) (by kernel_rfl)
section
variable [LP]
def rV (p0:Field):Option Bool:=
 bif decide (16<(Int.ofNat p0.points.length)) then
  bif decide ((Int.ofNat p0.points.length)<64) then
   some true
  else
   some (decide (70<(Int.ofNat p0.points.length)))
 else
  some (decide (70<(Int.ofNat p0.points.length)))
def c94:bQ:=⟨aD.one (aN.agg fI),aN.bool,fun a=>rV a,.pure,false⟩
theorem aLs:aK bA 94 c94:=Oc aKV rfl aI [] trivial fun a=>by kernel_rfl
def BJ (p0:aS):Option Bool:=
 bif decide (210<(Int.ofNat p0.uses.length)) then
  some true
 else
  bif decide (210<(Int.ofNat p0.used.length)) then
   some true
  else
   some (decide (210<(Int.ofNat p0.free.length)))
def aNA:bQ:=⟨aD.one (aN.agg lR),aN.bool,fun a=>BJ a,.pure,false⟩
theorem aF8:aK bA 154 aNA:=Oc aDT rfl aI [] trivial fun a=>by kernel_rfl
def BK (p0:aG):Option Bool:=
 (BJ p0.slots).bind fun b0=>
 bif b0 then
  some true
 else
  bif decide (210<(Int.ofNat p0.heap.length)) then
   some true
  else
   some (decide (210<(Int.ofNat p0.where_.length)))
def c95:bQ:=⟨aD.one (aN.agg eV),aN.bool,fun a=>BK a,.pure,false⟩
theorem aLt:aK bA 95 c95:=Oc aKW rfl aI [(154,aNA)] ⟨aF8,trivial⟩ fun a=>by kernel_rfl
def rW (p0:aH):Option Bool:=
 bif decide (40<(Int.ofNat p0.certs.list.length)) then
  some true
 else
  bif decide (40<(Int.ofNat p0.due.length)) then
   some true
  else
   (rV p0.field).bind fun b0=>
   bif b0 then
    some true
   else
    (BK p0.agenda).bind fun b1=>
    some b1
def c52:bQ:=⟨aD.one (aN.agg dP),aN.bool,fun a=>rW a,.pure,false⟩
theorem aLu:aK bA 52 c52:=Oc aKv rfl aI [(94,c94),(95,c95)] ⟨aLs,aLt,trivial⟩ fun a=>by kernel_rfl
def rX (p0:dN):Option Bool:=
 (rW p0.clock).bind fun b0=>
 bif b0 then
  some true
 else
  some (decide (70<(Int.ofNat p0.heap.length)))
def c11:bQ:=⟨aD.one (aN.agg kV),aN.bool,fun a=>rX a,.pure,false⟩
theorem aLv:aK bA 11 c11:=Oc aKc rfl aI [(52,c52)] ⟨aLu,trivial⟩ fun a=>by kernel_rfl
def D6 (p0:Field):Option Bool:=
 some (decide (10<(Int.ofNat p0.points.length)))
def c12:bQ:=⟨aD.one (aN.agg fI),aN.bool,fun a=>D6 a,.pure,false⟩
theorem aLw:aK bA 12 c12:=Oc aKd rfl aI [] trivial fun a=>by kernel_rfl
def gU (p0:Int):Option Int:=
 bif decide (p0<0) then
  some (aA .u64 ((aA .u64 (aA .i64 (0- (aA .i64 (p0+1)))))+1))
 else
  some (aA .u64 p0)
def c73:bQ:=⟨aD.one (aN.int .i64),aN.int .u64,fun a=>gU a,.pure,false⟩
theorem TU:aK bA 73 c73:=Oc aKO rfl aI [] trivial fun a=>by kernel_rfl
def nG (s:(Int×Int)):Option (bY (Int×Int) Int):=
 bif s.2 !=0 then
  bif s.2==0 then
   none
  else
   some (.next (s.2,Int.tmod s.1 s.2))
 else
  some (.done s.1)
def oR (p0:Int) (p1:Int):Option Int:=
 aJ nG (p0,p1)
def c72:bQ:=⟨aD.cons (aN.int .u64) (aD.one (aN.int .u64)),aN.int .u64,fun a=>oR a.1 a.2,.pure,false⟩
theorem aAh:aK bA 72 c72:=Oc aKN rfl aI [] trivial fun a=>by kernel_rfl
def kO (p0:Int×Int):Option Int:=
 bif decide (p0.2<1) then
  some 8
 else
  bif p0.1==(-9223372036854775808) then
   some 8
  else
   (gU p0.1).bind fun n0=>
   (oR n0 (aA .u64 p0.2)).bind fun n1=>
   bif n1 !=1 then
    some 8
   else
    some 0
def c26:bQ:=⟨aD.one (aN.agg (cN.row jX)),aN.int .i64,fun a=>kO a,.pure,false⟩
theorem TV:aK bA 26 c26:=Oc aKo rfl aI [(73,c73),(72,c72)] ⟨TU,aAh,trivial⟩ fun a=>by kernel_rfl
def vJ (p0:Int×Int×Int):Option Int:=
 bif decide (p0.1<0) then
  some 8
 else
  bif decide (65535<p0.1) then
   some 8
  else
   bif decide (p0.2.1<(-1048576)) then
    some 8
   else
    bif decide (1048576<p0.2.1) then
     some 8
    else
     bif decide (p0.2.2<(-1048576)) then
      some 8
     else
      bif decide (1048576<p0.2.2) then
       some 8
      else
       some 0
def c44:bQ:=⟨aD.one (aN.agg (cN.row fW)),aN.int .i64,fun a=>vJ a,.pure,false⟩
theorem aLx:aK bA 44 c44:=Oc aKr rfl aI [] trivial fun a=>by kernel_rfl
def iI (s:Z3):Option (bY Z3 (bY Z3 Int)):=
 bif decide (s.1<(Int.ofNat s.2.length)) then
  (aL s.2 (aA .i64 (s.1-1))).bind fun a0=>
  (aL s.2 s.1).bind fun a1=>
  bif decide (a1.1<=a0.1) then
   some (.done (.done 32))
  else
   some (.next (aA .i64 (s.1+1),s.2))
 else
  some (.done (.done 0))
def mB (s:Z3):Option (bY Z3 Int):=
 bif decide (s.1<(Int.ofNat s.2.length)) then
  (aL s.2 s.1).bind fun a0=>
  (vJ a0).bind fun n1=>
  bif n1 !=0 then
   some (.done 8)
  else
   some (.next (aA .i64 (s.1+1),s.2))
 else
  aJ iI (1,s.2)
def vK (p0:Field):Option Int:=
 bif decide (64<(Int.ofNat p0.points.length)) then
  some 4
 else
  aJ mB (0,p0.points)
def c19:bQ:=⟨aD.one (aN.agg fI),aN.int .i64,fun a=>vK a,.pure,false⟩
theorem aLy:aK bA 19 c19:=Oc aKk rfl aI [(44,c44)] ⟨aLx,trivial⟩ fun a=>by kernel_rfl
def uE (p0:Int×Int):Option Bool:=
 bif decide (0<=p0.1) then
  bif decide (p0.1<=65535) then
   bif decide (0<=p0.2) then
    bif decide (p0.2<=65535) then
     some (p0.1 !=p0.2)
    else
     some false
   else
    some false
  else
   some false
 else
  some false
def aNB:bQ:=⟨aD.one (aN.agg (cN.row jX)),aN.bool,fun a=>uE a,.pure,false⟩
theorem aF9:aK bA 155 aNB:=Oc aDU rfl aI [] trivial fun a=>by kernel_rfl
def fL (s:(Int×Int×Int×cK×Int×Int×Int)):Option (bY (Int×Int×Int×cK×Int×Int×Int) aK2):=
 bif decide (s.2.1<s.1) then
  (aL s.2.2.2.1 s.2.1).bind fun a0=>
  bif (a0.2.1==s.2.2.2.2.2.1)&&(a0.2.2==s.2.2.2.2.2.2) then
   some (.done (.done 8))
  else
   some (.next (s.1,aA .i64 (s.2.1+1),s.2.2))
 else
  some (.done (.next (aA .i64 (s.1+1),s.2.2.1,s.2.2.2.1)))
def oS (s:Z2):Option aK2:=
 bif decide (s.1<(Int.ofNat s.2.2.length)) then
  (aL s.2.2 s.1).bind fun a0=>
  (uE a0.2).bind fun b1=>
  bif !b1 then
   some (.done 8)
  else
   bif decide (a0.1<0) then
    some (.done 8)
   else
    bif decide (s.2.1<=a0.1) then
     some (.done 8)
    else
     bif decide (0<s.1) then
      (aL s.2.2 (aA .i64 (s.1-1))).bind fun a2=>
      bif decide (a0.1<=a2.1) then
       some (.done 8)
      else
       aJ fL (s.1,0,s.2.1,s.2.2,a0)
     else
      aJ fL (s.1,0,s.2.1,s.2.2,a0)
 else
  some (.done 0)
def rY (p0:aW):Option Int:=
 bif decide (200<(Int.ofNat p0.list.length)) then
  some 8
 else
  bif decide (p0.next_<0) then
   some 8
  else
   bif decide (1000000<p0.next_) then
    some 8
   else
    aJ oS (0,p0.next_,p0.list)
def c96:bQ:=⟨aD.one (aN.agg mK),aN.int .i64,fun a=>rY a,.pure,false⟩
theorem aLz:aK bA 96 c96:=Oc aKX rfl aI [(155,aNB)] ⟨aF9,trivial⟩ fun a=>by kernel_rfl
def rZ (s:Z2):Option aK2:=
 bif decide (s.2.1<(Int.ofNat s.2.2.length)) then
  (aL s.2.2 s.2.1).bind fun a0=>
  bif a0.1==s.1 then
   some (.done s.2.1)
  else
   some (.next (s.1,aA .i64 (s.2.1+1),s.2.2))
 else
  some (.done (-1))
def iJ (p0:Field) (p1:Int):Option Int:=
 aJ rZ (p1,0,p0.points)
def c40:bQ:=⟨aD.cons (aN.agg fI) (aD.one (aN.int .i64)),aN.int .i64,fun a=>iJ a.1 a.2,.pure,false⟩
theorem OK:aK bA 40 c40:=Oc aKq rfl aI [] trivial fun a=>by kernel_rfl
def oT (s:(Int×Int×cK×cK)):Option (bY (Int×Int×cK×cK) Bool):=
 bif decide (s.1<(Int.ofNat s.2.2.1.length)) then
  (aL s.2.2.1 s.1).bind fun a0=>
  (iJ (Field.mk s.2.2.2) a0.2.1).bind fun n1=>
  bif decide (n1<0) then
   some (.done false)
  else
   (aL s.2.2.1 s.1).bind fun a2=>
   (iJ (Field.mk s.2.2.2) a2.2.2).bind fun n3=>
   bif decide (n3<0) then
    some (.done false)
   else
    some (.next (aA .i64 (s.1+1),s.2))
 else
  some (.done true)
def vL (p0:aW) (p1:Field):Option Bool:=
 aJ oT (0,p0.next_,p0.list,p1.points)
def c97:bQ:=⟨aD.cons (aN.agg mK) (aD.one (aN.agg fI)),aN.bool,fun a=>vL a.1 a.2,.pure,false⟩
theorem aLA:aK bA 97 c97:=Oc aKY rfl aI [(40,c40)] ⟨OK,trivial⟩ fun a=>by kernel_rfl
def kA (s:Z1):Option (bY Z1 (bY Z1 Int)):=
 bif decide (s.2.1<s.1) then
  (aL s.2.2.1 s.2.1).bind fun n0=>
  bif decide (n0<0) then
   some (.done (.done 8))
  else
   (aL s.2.2.1 s.2.1).bind fun n1=>
   bif decide (1000000<n1) then
    some (.done (.done 8))
   else
    (aL s.2.2.2.1 s.2.1).bind fun b2=>
    (aL s.2.2.2.2.2 s.2.1).bind fun b3=>
    bif b2==b3 then
     some (.done (.done 8))
    else
     (aL s.2.2.2.1 s.2.1).bind fun b4=>
     bif b4 then
      (aL s.2.2.1 s.2.1).bind fun n5=>
      bif decide (n5<1) then
       some (.done (.done 8))
      else
       some (.next (s.1,aA .i64 (s.2.1+1),s.2.2))
     else
      some (.next (s.1,aA .i64 (s.2.1+1),s.2.2))
 else
  some (.done (.done 0))
def oU (s:Z1):Option (bY Z1 Int):=
 bif decide (s.2.1<(Int.ofNat s.2.2.2.2.1.length)) then
  (aL s.2.2.2.2.1 s.2.1).bind fun n0=>
  bif decide (n0<0) then
   some (.done 8)
  else
   (aL s.2.2.2.2.1 s.2.1).bind fun n1=>
   bif decide (s.1<=n1) then
    some (.done 8)
   else
    (aL s.2.2.2.2.1 s.2.1).bind fun n2=>
    (aL s.2.2.2.2.2 n2).bind fun b3=>
    bif b3 then
     some (.done 8)
    else
     (aL s.2.2.2.2.1 s.2.1).bind fun n4=>
     (aL s.2.2.2.2.2 n4).bind fun _=>
     some (.next (s.1,aA .i64 (s.2.1+1),s.2.2.1,s.2.2.2.1,s.2.2.2.2.1,bT s.2.2.2.2.2 n4 true))
 else
  aJ kA (s.1,0,s.2.2)
def vM (p0:aS):Option Int:=
 bif decide ((Int.ofNat p0.uses.length)<1) then
  some 8
 else
  bif decide (200<(Int.ofNat p0.uses.length)) then
   some 8
  else
   bif (Int.ofNat p0.used.length) !=(Int.ofNat p0.uses.length) then
    some 8
   else
    bif decide ((Int.ofNat p0.uses.length)<(Int.ofNat p0.free.length)) then
     some 8
    else
     bif (Int.ofNat p0.uses.length)==(Int.ofNat p0.uses.length) then
      (EV (Int.ofNat p0.uses.length) (false:Bool)).bind fun l0=>
      aJ oU (Int.ofNat p0.uses.length,0,p0.uses,p0.used,p0.free,l0)
     else
      none
def aND:bQ:=⟨aD.one (aN.agg lR),aN.int .i64,fun a=>vM a,.pure,false⟩
theorem aGa:aK bA 156 aND:=Oc aDV rfl aI [] trivial fun a=>by kernel_rfl
def uF (p0:aS) (p1:Int×Int):Option Bool:=
 bif decide (0<=p1.1) then
  bif decide (p1.1<(Int.ofNat p0.uses.length)) then
   (aL p0.used p1.1).bind fun b0=>
   bif b0 then
    (aL p0.uses p1.1).bind fun n1=>
    some (n1==p1.2)
   else
    some false
  else
   some false
 else
  some false
def aLB:bQ:=⟨aD.cons (aN.agg lR) (aD.one (aN.agg (cN.row jX))),aN.bool,fun a=>uF a.1 a.2,.pure,false⟩
theorem V1:aK bA 160 aLB:=Oc aDZ rfl aI [] trivial fun a=>by kernel_rfl
def nH (s:aML):Option (bY aML Bool):=
 bif decide (s.2.1<s.1) then
  (aL s.2.2.2.1 s.2.1).bind fun b0=>
  bif !b0 then
   (aL s.2.2.2.2.2.2 s.2.1).bind fun n1=>
   bif n1 !=(-1) then
    some (.done false)
   else
    some (.next (s.1,aA .i64 (s.2.1+1),s.2.2))
  else
   (aL s.2.2.2.2.2.2 s.2.1).bind fun n2=>
   bif decide (n2<0) then
    some (.done false)
   else
    bif decide ((Int.ofNat s.2.2.2.2.2.1.length)<=n2) then
     some (.done false)
    else
     (aL s.2.2.2.2.2.1 n2).bind fun a3=>
     bif a3.2.2.2.1 !=s.2.1 then
      some (.done false)
     else
      (aL s.2.2.2.2.2.1 n2).bind fun a4=>
      (uF (aS.mk s.2.2.1 s.2.2.2.1 s.2.2.2.2.1) a4.2.2.2).bind fun b5=>
      bif !b5 then
       some (.done false)
      else
       some (.next (s.1,aA .i64 (s.2.1+1),s.2.2))
 else
  some (.done true)
def tH (p0:aG):Option Bool:=
 bif (Int.ofNat p0.where_.length) !=(Int.ofNat p0.slots.uses.length) then
  some false
 else
  bif (Int.ofNat p0.heap.length) !=(aA .i64 ((Int.ofNat p0.slots.uses.length) - (Int.ofNat p0.slots.free.length))) then
   some false
  else
   aJ nH (Int.ofNat p0.slots.uses.length,0,p0.slots.uses,p0.slots.used,p0.slots.free,p0.heap,p0.where_)
def aNE:bQ:=⟨aD.one (aN.agg eV),aN.bool,fun a=>tH a,.pure,false⟩
theorem aGb:aK bA 157 aNE:=Oc aDW rfl aI [(160,aLB)] ⟨V1,trivial⟩ fun a=>by kernel_rfl
def qS (p0:Int) (p1:Int):Option (Bool×Int×Int):=
 some (false,aA .u64 ((aA .u64 ((aA .u64 ((aA .u64 (Int.tdiv p0 4294967296))*(aA .u64 (Int.tdiv p1 4294967296))))+(aA .u64 (Int.tdiv (aA .u64 ((aA .u64 ((aA .u64 (Int.tdiv p0 4294967296))*(Int.tmod p1 4294967296)))+(aA .u64 (Int.tdiv (aA .u64 ((Int.tmod p0 4294967296)*(Int.tmod p1 4294967296))) 4294967296)))) 4294967296))))+(aA .u64 (Int.tdiv (aA .u64 ((aA .u64 ((Int.tmod p0 4294967296)*(aA .u64 (Int.tdiv p1 4294967296))))+(Int.tmod (aA .u64 ((aA .u64 ((aA .u64 (Int.tdiv p0 4294967296))*(Int.tmod p1 4294967296)))+(aA .u64 (Int.tdiv (aA .u64 ((Int.tmod p0 4294967296)*(Int.tmod p1 4294967296))) 4294967296)))) 4294967296))) 4294967296))),aA .u64 ((aA .u64 ((Int.tmod (aA .u64 ((aA .u64 ((Int.tmod p0 4294967296)*(aA .u64 (Int.tdiv p1 4294967296))))+(Int.tmod (aA .u64 ((aA .u64 ((aA .u64 (Int.tdiv p0 4294967296))*(Int.tmod p1 4294967296)))+(aA .u64 (Int.tdiv (aA .u64 ((Int.tmod p0 4294967296)*(Int.tmod p1 4294967296))) 4294967296)))) 4294967296))) 4294967296)*4294967296))+(Int.tmod (aA .u64 ((Int.tmod p0 4294967296)*(Int.tmod p1 4294967296))) 4294967296)))
def aNF:bQ:=⟨aD.cons (aN.int .u64) (aD.one (aN.int .u64)),aN.agg (cN.row BB),fun a=>qS a.1 a.2,.pure,false⟩
theorem aGc:aK bA 102 aNF:=Oc aDr rfl aI [] trivial fun a=>by kernel_rfl
def jG (p0:Int) (p1:Int):Option (Bool×Int×Int):=
 (gU p0).bind fun n0=>
 (gU p1).bind fun n1=>
 (qS n0 n1).bind fun a2=>
 bif !((decide (p0<0))==(decide (p1<0))) then
  bif p0 !=0 then
   some (p1 !=0,a2.2)
  else
   some (false,a2.2)
 else
  some (false,a2.2)
def c56:bQ:=⟨aD.cons (aN.int .i64) (aD.one (aN.int .i64)),aN.agg (cN.row BB),fun a=>jG a.1 a.2,.pure,false⟩
theorem aAi:aK bA 56 c56:=Oc aKy rfl aI [(73,c73),(102,aNF)] ⟨TU,aGc,trivial⟩ fun a=>by kernel_rfl
def kY (p0:Bool×Int×Int):Option Int:=
 bif p0.2.1==0 then
  bif p0.2.2==0 then
   some 0
  else
   bif p0.1 then
    some (-1)
   else
    some 1
 else
  bif p0.1 then
   some (-1)
  else
   some 1
def c57:bQ:=⟨aD.one (aN.agg (cN.row BB)),aN.int .i64,fun a=>kY a,.pure,false⟩
theorem aAj:aK bA 57 c57:=Oc aKz rfl aI [] trivial fun a=>by kernel_rfl
def pV (p0:Bool×Int×Int) (p1:Bool×Int×Int):Option Int:=
 bif p0.2.1 !=p1.2.1 then
  bif decide (p0.2.1<p1.2.1) then
   some (-1)
  else
   some 1
 else
  bif p0.2.2 !=p1.2.2 then
   bif decide (p0.2.2<p1.2.2) then
    some (-1)
   else
    some 1
  else
   some 0
def c58:bQ:=⟨aD.cons (aN.agg (cN.row BB)) (aD.one (aN.agg (cN.row BB))),aN.int .i64,fun a=>pV a.1 a.2,.pure,false⟩
theorem aAk:aK bA 58 c58:=Oc aKA rfl aI [] trivial fun a=>by kernel_rfl
def lL (p0:Int×Int) (p1:Int×Int):Option Int:=
 (jG p0.1 p1.2).bind fun a0=>
 (jG p1.1 p0.2).bind fun a1=>
 (kY a0).bind fun n2=>
 (kY a1).bind fun n3=>
 bif n2 !=n3 then
  (kY a0).bind fun n4=>
  (kY a1).bind fun n5=>
  bif decide (n4<n5) then
   some (-1)
  else
   some 1
 else
  (kY a0).bind fun n6=>
  bif decide (n6<0) then
   (pV a1 a0).bind fun n7=>
   some n7
  else
   (pV a0 a1).bind fun n8=>
   some n8
def c15:bQ:=⟨aD.cons (aN.agg (cN.row jX)) (aD.one (aN.agg (cN.row jX))),aN.int .i64,fun a=>lL a.1 a.2,.pure,false⟩
theorem aAl:aK bA 15 c15:=Oc aKg rfl aI [(56,c56),(57,c57),(58,c58)] ⟨aAi,aAj,aAk,trivial⟩ fun a=>by kernel_rfl
def dU (p0:Int×Int×Int×Int×Int) (p1:Int×Int×Int×Int×Int):Option Bool:=
 (lL (p0.1,p0.2.1) (p1.1,p1.2.1)).bind fun n0=>
 bif decide (n0<0) then
  some true
 else
  bif n0==0 then
   some (decide (p0.2.2.1<p1.2.2.1))
  else
   some false
def aNG:bQ:=⟨aD.cons (aN.agg (cN.row kU)) (aD.one (aN.agg (cN.row kU))),aN.bool,fun a=>dU a.1 a.2,.pure,false⟩
theorem aGd:aK bA 158 aNG:=Oc aDX rfl aI [(15,c15)] ⟨aAl,trivial⟩ fun a=>by kernel_rfl
def kB (s:aMI):Option (bY aMI aK1):=
 bif decide (s.2.1<s.1) then
  (aL s.2.2.2.2.2.1 s.2.1).bind fun a0=>
  bif a0.2.2.1==s.2.2.2.2.2.2.2.2.2.1 then
   some (.done (.done 8))
  else
   some (.next (s.1,aA .i64 (s.2.1+1),s.2.2))
 else
  some (.done (.next (aA .i64 (s.1+1),s.2.2.1,s.2.2.2.1,s.2.2.2.2.1,s.2.2.2.2.2.1,s.2.2.2.2.2.2.1)))
def kC (s:aFb):Option (bY aFb aK1):=
 bif decide (s.1<(Int.ofNat s.2.2.2.2.1.length)) then
  (aL s.2.2.2.2.1 s.1).bind fun a0=>
  (aL s.2.2.2.2.1 (aA .i64 (Int.tdiv (aA .i64 (s.1-1)) 2))).bind fun a1=>
  (dU a0 a1).bind fun b2=>
  bif b2 then
   some (.done (.done 8))
  else
   some (.next (aA .i64 (s.1+1),s.2))
 else
  some (.done (.done 0))
def oV (s:aFb):Option aK1:=
 bif decide (s.1<(Int.ofNat s.2.2.2.2.1.length)) then
  (aL s.2.2.2.2.1 s.1).bind fun a0=>
  (kO (a0.1,a0.2.1)).bind fun n1=>
  bif n1 !=0 then
   some (.done 8)
  else
   bif decide (a0.2.2.1<0) then
    some (.done 8)
   else
    bif decide (1000000<a0.2.2.1) then
     some (.done 8)
    else
     aJ kB (s.1,0,s.2.1,s.2.2.1,s.2.2.2.1,s.2.2.2.2.1,s.2.2.2.2.2,a0)
 else
  aJ kC (1,s.2)
def sA (p0:aG):Option Int:=
 (vM p0.slots).bind fun n0=>
 bif n0 !=0 then
  some 8
 else
  (tH p0).bind fun b1=>
  bif !b1 then
   some 8
  else
   aJ oV (0,p0.slots.uses,p0.slots.used,p0.slots.free,p0.heap,p0.where_)
def c98:bQ:=⟨aD.one (aN.agg eV),aN.int .i64,fun a=>sA a,.pure,false⟩
theorem aAm:aK bA 98 c98:=Oc aKZ rfl aI [(156,aND),(157,aNE),(26,c26),(158,aNG)] ⟨aGa,aGb,TV,aGd,trivial⟩ fun a=>by kernel_rfl
def sB (p0:Bool×Int×Int) (p1:Bool×Int×Int):Option (Bool×Int×Int):=
 bif decide (p0.2.2<p1.2.2) then
  some (false,aA .u64 ((aA .u64 (p0.2.1-p1.2.1)) -1),aA .u64 (p0.2.2-p1.2.2))
 else
  some (false,aA .u64 (p0.2.1-p1.2.1),aA .u64 (p0.2.2-p1.2.2))
def aNH:bQ:=⟨aD.cons (aN.agg (cN.row BB)) (aD.one (aN.agg (cN.row BB))),aN.agg (cN.row BB),fun a=>sB a.1 a.2,.pure,false⟩
theorem aGe:aK bA 226 aNH:=Oc aEM rfl aI [] trivial fun a=>by kernel_rfl
def zA (p0:Bool×Int×Int) (p1:Bool×Int×Int):Option (Bool×Int×Int):=
 bif p0.1==p1.1 then
  bif decide ((aA .u64 (p0.2.2+p1.2.2))<p0.2.2) then
   some (p0.1,aA .u64 ((aA .u64 (p0.2.1+p1.2.1))+1),aA .u64 (p0.2.2+p1.2.2))
  else
   some (p0.1,aA .u64 (p0.2.1+p1.2.1),aA .u64 (p0.2.2+p1.2.2))
 else
  (pV p0 p1).bind fun n0=>
  bif decide (0<=n0) then
   (sB p0 p1).bind fun a1=>
   bif p0.1 then
    bif decide (0<a1.2.1) then
     some (true,a1.2)
    else
     some (decide (0<a1.2.2),a1.2)
   else
    some (false,a1.2)
  else
   (sB p1 p0).bind fun a2=>
   some (p1.1,a2.2)
def aNI:bQ:=⟨aD.cons (aN.agg (cN.row BB)) (aD.one (aN.agg (cN.row BB))),aN.agg (cN.row BB),fun a=>zA a.1 a.2,.pure,false⟩
theorem aGf:aK bA 186 aNI:=Oc aEn rfl aI [(58,c58),(226,aNH)] ⟨aAk,aGe,trivial⟩ fun a=>by kernel_rfl
def CF (p0:Int×Int×Int) (p1:Int×Int×Int) (p2:Int×Int):Option Int:=
 (jG (aA .i64 (p0.2.1-p1.2.1)) p2.2).bind fun a0=>
 (jG (aA .i64 (p0.2.2-p1.2.2)) p2.1).bind fun a1=>
 (zA a0 a1).bind fun a2=>
 (kY a2).bind fun n3=>
 some n3
def aNJ:bQ:=⟨aD.cons (aN.agg (cN.row fW)) (aD.cons (aN.agg (cN.row fW)) (aD.one (aN.agg (cN.row jX)))),aN.int .i64,fun a=>CF a.1 a.2.1 a.2.2,.pure,false⟩
theorem aGg:aK bA 125 aNJ:=Oc aDM rfl aI [(56,c56),(186,aNI),(57,c57)] ⟨aAi,aGf,aAj,trivial⟩ fun a=>by kernel_rfl
def sC (p0:Int×Int×Int) (p1:Int×Int×Int) (p2:Int×Int):Option Bool:=
 (CF p0 p1 p2).bind fun n0=>
 bif n0 !=0 then
  some (decide (0<n0))
 else
  bif p0.2.2 !=p1.2.2 then
   some (decide (p1.2.2<p0.2.2))
  else
   some (decide (p0.1<p1.1))
def c70:bQ:=⟨aD.cons (aN.agg (cN.row fW)) (aD.cons (aN.agg (cN.row fW)) (aD.one (aN.agg (cN.row jX)))),aN.bool,fun a=>sC a.1 a.2.1 a.2.2,.pure,false⟩
theorem aAn:aK bA 70 c70:=Oc aKM rfl aI [(125,aNJ)] ⟨aGg,trivial⟩ fun a=>by kernel_rfl
def pW (p0:Bool) (p1:Bool×Int×Int) (p2:Bool×Int×Int):Option ((Int×Int)×Int):=
 bif decide (0<p1.2.1) then
  some ((0,0),16)
 else
  bif decide (9223372036854775807<p1.2.2) then
   some ((0,0),16)
  else
   bif decide (0<p2.2.1) then
    some ((0,0),16)
   else
    bif decide (9223372036854775807<p2.2.2) then
     some ((0,0),16)
    else
     bif p0 then
      some ((aA .i64 (0- (aA .i64 p1.2.2)),aA .i64 p2.2.2),0)
     else
      some ((aA .i64 p1.2.2,aA .i64 p2.2.2),0)
def aNK:bQ:=⟨aD.cons aN.bool (aD.cons (aN.agg (cN.row BB)) (aD.one (aN.agg (cN.row BB)))),aN.tup (aD.cons (aN.agg (cN.row jX)) (aD.one (aN.int .i64))),fun a=>pW a.1 a.2.1 a.2.2,.pure,false⟩
theorem aGh:aK bA 285 aNK:=Oc aE1 rfl aI [] trivial fun a=>by kernel_rfl
def mC (p0:Int) (p1:Int):Option ((Int×Int)×Int):=
 bif p1==0 then
  some ((0,0),26)
 else
  (gU p0).bind fun n0=>
  (gU p1).bind fun n1=>
  (oR n0 n1).bind fun n2=>
  bif !((decide (p0<0))==(decide (p1<0))) then
   (gU p0).bind fun n3=>
   bif n2==0 then
    none
   else
    (gU p1).bind fun n4=>
    bif n2==0 then
     none
    else
     (pW (p0 !=0) (false,0,aA .u64 (Int.tdiv n3 n2)) (false,0,aA .u64 (Int.tdiv n4 n2))).bind fun a5=>
     some a5
  else
   (gU p0).bind fun n6=>
   bif n2==0 then
    none
   else
    (gU p1).bind fun n7=>
    bif n2==0 then
     none
    else
     (pW false (false,0,aA .u64 (Int.tdiv n6 n2)) (false,0,aA .u64 (Int.tdiv n7 n2))).bind fun a8=>
     some a8
def aNL:bQ:=⟨aD.cons (aN.int .i64) (aD.one (aN.int .i64)),aN.tup (aD.cons (aN.agg (cN.row jX)) (aD.one (aN.int .i64))),fun a=>mC a.1 a.2,.pure,false⟩
theorem aGi:aK bA 257 aNL:=Oc aEP rfl aI [(73,c73),(72,c72),(285,aNK)] ⟨TU,aAh,aGh,trivial⟩ fun a=>by kernel_rfl
def CG (p0:Int×Int×Int) (p1:Int×Int×Int):Option (Int×Int):=
 (mC (aA .i64 (p0.2.1-p1.2.1)) (aA .i64 (p1.2.2-p0.2.2))).bind fun a0=>
 some a0.1
def aNM:bQ:=⟨aD.cons (aN.agg (cN.row fW)) (aD.one (aN.agg (cN.row fW))),aN.agg (cN.row jX),fun a=>CG a.1 a.2,.pure,false⟩
theorem aGj:aK bA 205 aNM:=Oc aEt rfl aI [(257,aNL)] ⟨aGi,trivial⟩ fun a=>by kernel_rfl
def qT (p0:Int×Int×Int) (p1:Int×Int×Int) (p2:Int×Int):Option ((Int×Int)×Bool):=
 (sC p1 p0 p2).bind fun b0=>
 bif b0 then
  some (p2,true)
 else
  bif decide (p0.2.2<p1.2.2) then
   (CG p0 p1).bind fun a1=>
   some (a1,true)
  else
   some ((0,0),false)
def aNN:bQ:=⟨aD.cons (aN.agg (cN.row fW)) (aD.cons (aN.agg (cN.row fW)) (aD.one (aN.agg (cN.row jX)))),aN.tup (aD.cons (aN.agg (cN.row jX)) (aD.one aN.bool)),fun a=>qT a.1 a.2.1 a.2.2,.pure,false⟩
theorem aGk:aK bA 159 aNN:=Oc aDY rfl aI [(70,c70),(205,aNM)] ⟨aAn,aGj,trivial⟩ fun a=>by kernel_rfl
def pX (p0:Field) (p1:Int×Int) (p2:Int×Int):Option ((Int×Int)×Bool):=
 (iJ p0 p1.2).bind fun n0=>
 (aL p0.points n0).bind fun a1=>
 (iJ p0 p1.1).bind fun n2=>
 (aL p0.points n2).bind fun a3=>
 (qT a1 a3 p2).bind fun a4=>
 some a4
def c99:bQ:=⟨aD.cons (aN.agg fI) (aD.cons (aN.agg (cN.row jX)) (aD.one (aN.agg (cN.row jX)))),aN.tup (aD.cons (aN.agg (cN.row jX)) (aD.one aN.bool)),fun a=>pX a.1 a.2.1 a.2.2,.pure,false⟩
theorem aLC:aK bA 99 c99:=Oc aK0 rfl aI [(40,c40),(159,aNN)] ⟨OK,aGk,trivial⟩ fun a=>by kernel_rfl
def uG (p0:aG) (p1:Int×Int):Option (N8×Int):=
 (sA p0).bind fun n0=>
 bif n0 !=0 then
  some ((0,0,0,0,0),8)
 else
  (uF p0.slots p1).bind fun b1=>
  bif !b1 then
   some ((0,0,0,0,0),6)
  else
   (aL p0.where_ p1.1).bind fun n2=>
   (aL p0.heap n2).bind fun a3=>
   some (a3,0)
def aNO:bQ:=⟨aD.cons (aN.agg eV) (aD.one (aN.agg (cN.row jX))),aN.tup (aD.cons (aN.agg (cN.row kU)) (aD.one (aN.int .i64))),fun a=>uG a.1 a.2,.pure,false⟩
theorem aGl:aK bA 100 aNO:=Oc aDp rfl aI [(98,c98),(160,aLB)] ⟨aAm,V1,trivial⟩ fun a=>by kernel_rfl
def cY (s:aMz):Option (bY aMz Int):=
 bif decide (s.2.1<(Int.ofNat s.2.2.2.2.2.2.1.length)) then
  (aL s.2.2.2.2.2.2.1 s.2.1).bind fun a0=>
  (pX (Field.mk s.2.2.2.2.1) a0.2 (s.2.2.1,s.2.2.2.1)).bind fun a1=>
  bif !a1.2 then
   some (.next (s.1,aA .i64 (s.2.1+1),s.2.2))
  else
   bif decide ((Int.ofNat s.2.2.2.2.2.2.2.2.2.2.2.2.length)<=s.1) then
    some (.done 8)
   else
    (aL s.2.2.2.2.2.2.2.2.2.2.2.2 s.1).bind fun a2=>
    bif a2.1 !=a0.1 then
     some (.done 8)
    else
     (aL s.2.2.2.2.2.2.2.2.2.2.2.2 s.1).bind fun a3=>
     (uG (aG.mk (aS.mk s.2.2.2.2.2.2.2.1 s.2.2.2.2.2.2.2.2.1 s.2.2.2.2.2.2.2.2.2.1) s.2.2.2.2.2.2.2.2.2.2.1 s.2.2.2.2.2.2.2.2.2.2.2.1) a3.2).bind fun a4=>
     bif a4.2 !=0 then
      some (.done 8)
     else
      bif a4.1.2.2.1 !=a0.1 then
       some (.done 8)
      else
       bif !((a4.1.1==a1.1.1)&&(a4.1.2.1==a1.1.2)) then
        some (.done 8)
       else
        some (.next (aA .i64 (s.1+1),aA .i64 (s.2.1+1),s.2.2))
 else
  bif s.1 !=(Int.ofNat s.2.2.2.2.2.2.2.2.2.2.2.2.length) then
   some (.done 8)
  else
   some (.done 0)
def vN (p0:aH):Option Int:=
 (kO p0.now).bind fun n0=>
 bif n0 !=0 then
  some 8
 else
  (vK p0.field).bind fun n1=>
  bif n1 !=0 then
   some 8
  else
   (rY p0.certs).bind fun n2=>
   bif n2 !=0 then
    some 8
   else
    (vL p0.certs p0.field).bind fun b3=>
    bif !b3 then
     some 8
    else
     (sA p0.agenda).bind fun n4=>
     bif n4 !=0 then
      some 8
     else
      bif (Int.ofNat p0.agenda.where_.length) !=200 then
       some 8
      else
       bif (Int.ofNat p0.agenda.heap.length) !=(Int.ofNat p0.due.length) then
        some 8
       else
        aJ cY (0,0,p0.now.1,p0.now.2,p0.field.points,p0.certs.next_,p0.certs.list,p0.agenda.slots.uses,p0.agenda.slots.used,p0.agenda.slots.free,p0.agenda.heap,p0.agenda.where_,p0.due)
def c53:bQ:=⟨aD.one (aN.agg dP),aN.int .i64,fun a=>vN a,.pure,false⟩
theorem aLD:aK bA 53 c53:=Oc aKw rfl aI [(26,c26),(19,c19),(96,c96),(97,c97),(98,c98),(99,c99),(100,aNO)] ⟨TV,aLy,aLz,aLA,aAm,aLC,aGl,trivial⟩ fun a=>by kernel_rfl
def RD (s:aFd):Option (bY aFd AL):=
 bif decide (s.2.1<(Int.ofNat s.1.length)) then
  (aL s.1 s.2.1).bind fun n0=>
  (aL s.1 (aA .i64 (Int.tdiv (aA .i64 (s.2.1-1)) 2))).bind fun n1=>
  (bR s.2.2 [(n0,n1)]).bind fun l2=>
  some (.next (s.1,aA .i64 (s.2.1+1),l2))
 else
  some (.done s.2.2)
def FK (p0:List Int):Option AL:=
 aJ RD (p0,1,[])
def c55:bQ:=⟨aD.one (aN.sl ki),aN.sl jX,fun a=>FK a,.own,true⟩
def aNP:bQ:=⟨aD.one (aN.sl ki),aN.sl jX,fun a=>FK a,.frz,false⟩
theorem aLE:aK bA 55 c55:=Oc ZY rfl aI [] trivial fun a=>by kernel_rfl
theorem aGm:aK bA 55 aNP:=Oc ZY rfl aI [] trivial fun a=>by kernel_rfl
def tI (s:(Int×Int×cK×Int×Int)):Option (bY (Int×Int×cK×Int×Int) Bool):=
 bif decide (s.1<(Int.ofNat s.2.2.1.length)) then
  (aL s.2.2.1 s.1).bind fun a0=>
  bif (a0.2.1==s.2.2.2.1)&&(a0.2.2==s.2.2.2.2) then
   some (.done true)
  else
   some (.next (aA .i64 (s.1+1),s.2))
 else
  some (.done false)
def tO (p0:aW) (p1:Int×Int):Option Bool:=
 aJ tI (0,p0.next_,p0.list,p1)
def aNQ:bQ:=⟨aD.cons (aN.agg mK) (aD.one (aN.agg (cN.row jX))),aN.bool,fun a=>tO a.1 a.2,.pure,false⟩
theorem aGn:aK bA 101 aNQ:=Oc aDq rfl aI [] trivial fun a=>by kernel_rfl
def zB (p0:Int×Int) (p1:Field) (p2:Int×Int):Option Bool:=
 (iJ p1 p0.2).bind fun n0=>
 (aL p1.points n0).bind fun a1=>
 (iJ p1 p0.1).bind fun n2=>
 (aL p1.points n2).bind fun a3=>
 (sC a1 a3 p2).bind fun b4=>
 some b4
def c30:bQ:=⟨aD.cons (aN.agg (cN.row jX)) (aD.cons (aN.agg fI) (aD.one (aN.agg (cN.row jX)))),aN.bool,fun a=>zB a.1 a.2.1 a.2.2,.pure,false⟩
theorem aLF:aK bA 30 c30:=Oc aKp rfl aI [(40,c40),(70,c70)] ⟨OK,aAn,trivial⟩ fun a=>by kernel_rfl
def qU (s:aMy):Option (bY aMy Bool):=
 bif decide (s.2.1<(Int.ofNat s.1.length)) then
  (aL s.1 s.2.1).bind fun a0=>
  (tO (aW.mk s.2.2.2.2.2.1 s.2.2.2.2.2.2.1) a0).bind fun b1=>
  bif !b1 then
   some (.done false)
  else
   (aL s.1 s.2.1).bind fun a2=>
   (zB a2 (Field.mk s.2.2.2.2.1) (s.2.2.1,s.2.2.2.1)).bind fun b3=>
   bif !b3 then
    some (.done false)
   else
    some (.next (s.1,aA .i64 (s.2.1+1),s.2.2))
 else
  some (.done true)
def zC (p0:aH) (p1:List (Int×Int)):Option Bool:=
 bif (Int.ofNat p0.certs.list.length) !=(Int.ofNat p1.length) then
  some false
 else
  aJ qU (p1,0,p0.now.1,p0.now.2,p0.field.points,p0.certs.next_,p0.certs.list,p0.agenda.slots.uses,p0.agenda.slots.used,p0.agenda.slots.free,p0.agenda.heap,p0.agenda.where_,p0.due)
def c54:bQ:=⟨aD.cons (aN.agg dP) (aD.one (aN.sl jX)),aN.bool,fun a=>zC a.1 a.2,.pure,false⟩
theorem aLG:aK bA 54 c54:=Oc aKx rfl aI [(101,aNQ),(30,c30)] ⟨aGn,aLF,trivial⟩ fun a=>by kernel_rfl
def oW (s:aE8):Option (bY aE8 aMx):=
 bif decide (s.2.1<s.1) then
  (aL s.2.2.2.2.2.2.2.2.2.2.2.2.2 s.2.1).bind fun n0=>
  (aL s.2.2.2.2.2.2.2.2.2.2.2.2.2 s.1).bind fun n1=>
  bif n0==n1 then
   some (.done (.done 8))
  else
   some (.next (s.1,aA .i64 (s.2.1+1),s.2.2))
 else
  some (.done (.next (aA .i64 (s.1+1),s.2.2)))
def iK (s:aMw):Option aMx:=
 bif decide (s.1<(Int.ofNat s.2.2.2.2.2.2.2.2.2.2.2.2.length)) then
  (aL s.2.2.2.2.2.2.2.2.2.2.2.2 s.1).bind fun n0=>
  (iJ (Field.mk s.2.2.2.1) n0).bind fun n1=>
  bif decide (n1<0) then
   some (.done 8)
  else
   aJ oW (s.1,0,s.2)
 else
  (FK s.2.2.2.2.2.2.2.2.2.2.2.2).bind fun l2=>
  (zC (aH.mk (s.2.1,s.2.2.1) (Field.mk s.2.2.2.1) (aW.mk s.2.2.2.2.1 s.2.2.2.2.2.1) (aG.mk (aS.mk s.2.2.2.2.2.2.1 s.2.2.2.2.2.2.2.1 s.2.2.2.2.2.2.2.2.1) s.2.2.2.2.2.2.2.2.2.1 s.2.2.2.2.2.2.2.2.2.2.1) s.2.2.2.2.2.2.2.2.2.2.2.1) l2).bind fun b3=>
  bif !b3 then
   some (.done 8)
  else
   some (.done 0)
def vO (p0:dN):Option Int:=
 (vN p0.clock).bind fun n0=>
 bif n0 !=0 then
  some 8
 else
  bif (Int.ofNat p0.heap.length) !=(Int.ofNat p0.clock.field.points.length) then
   some 8
  else
   aJ iK (0,p0.clock.now.1,p0.clock.now.2,p0.clock.field.points,p0.clock.certs.next_,p0.clock.certs.list,p0.clock.agenda.slots.uses,p0.clock.agenda.slots.used,p0.clock.agenda.slots.free,p0.clock.agenda.heap,p0.clock.agenda.where_,p0.clock.due,p0.heap)
def c13:bQ:=⟨aD.one (aN.agg kV),aN.int .i64,fun a=>vO a,.pure,false⟩
theorem aLH:aK bA 13 c13:=Oc aKe rfl aI [(53,c53),(40,c40),(55,c55),(55,aNP),(54,c54)] ⟨aLD,OK,aLE,aGm,aLG,trivial⟩ fun a=>by kernel_rfl
def zD (p0:Int×Int) (p1:Int×Int):Option Int:=
 (kO p0).bind fun n0=>
 bif n0 !=0 then
  (kO p0).bind fun n1=>
  some n1
 else
  (kO p1).bind fun n2=>
  some n2
def c14:bQ:=⟨aD.cons (aN.agg (cN.row jX)) (aD.one (aN.agg (cN.row jX))),aN.int .i64,fun a=>zD a.1 a.2,.pure,false⟩
theorem aLI:aK bA 14 c14:=Oc aKf rfl aI [(26,c26)] ⟨TV,trivial⟩ fun a=>by kernel_rfl
def qV (s:(Int×cK×cK)):Option (bY (Int×cK×cK) Bool):=
 bif decide (s.1<(Int.ofNat s.2.1.length)) then
  (aL s.2.1 s.1).bind fun a0=>
  (aL s.2.2 s.1).bind fun a1=>
  bif !((a0.1==a1.1)&&((a0.2.1==a1.2.1)&&(a0.2.2==a1.2.2))) then
   some (.done false)
  else
   some (.next (aA .i64 (s.1+1),s.2))
 else
  some (.done true)
def uH (p0:Field) (p1:Field):Option Bool:=
 bif (Int.ofNat p0.points.length) !=(Int.ofNat p1.points.length) then
  some false
 else
  aJ qV (0,p0.points,p1.points)
def c21:bQ:=⟨aD.cons (aN.agg fI) (aD.one (aN.agg fI)),aN.bool,fun a=>uH a.1 a.2,.pure,false⟩
theorem aLJ:aK bA 21 c21:=Oc aKm rfl aI [] trivial fun a=>by kernel_rfl
def qW (s:(Int×Int×cK×Int×cK)):Option (bY (Int×Int×cK×Int×cK) Bool):=
 bif decide (s.1<(Int.ofNat s.2.2.1.length)) then
  (aL s.2.2.1 s.1).bind fun a0=>
  (aL s.2.2.2.2 s.1).bind fun a1=>
  bif !((a0.1==a1.1)&&((a0.2.1==a1.2.1)&&(a0.2.2==a1.2.2))) then
   some (.done false)
  else
   some (.next (aA .i64 (s.1+1),s.2))
 else
  some (.done true)
def zE (p0:aW) (p1:aW):Option Bool:=
 bif p0.next_ !=p1.next_ then
  some false
 else
  bif (Int.ofNat p0.list.length) !=(Int.ofNat p1.list.length) then
   some false
  else
   aJ qW (0,p0.next_,p0.list,p1.next_,p1.list)
def aNR:bQ:=⟨aD.cons (aN.agg mK) (aD.one (aN.agg mK)),aN.bool,fun a=>zE a.1 a.2,.pure,false⟩
theorem aGo:aK bA 116 aNR:=Oc aDE rfl aI [] trivial fun a=>by kernel_rfl
def lS (s:aFe):Option (bY aFe Bool):=
 bif decide (s.2.2<(Int.ofNat s.1.length)) then
  (aL s.1 s.2.2).bind fun n0=>
  (aL s.2.1 s.2.2).bind fun n1=>
  bif n0 !=n1 then
   some (.done false)
  else
   some (.next (s.1,s.2.1,aA .i64 (s.2.2+1)))
 else
  some (.done true)
def kD (p0:List Int) (p1:List Int):Option Bool:=
 bif (Int.ofNat p0.length) !=(Int.ofNat p1.length) then
  some false
 else
  aJ lS (p0,p1,0)
def aLK:bQ:=⟨aD.cons (aN.sl ki) (aD.one (aN.sl ki)),aN.bool,fun a=>kD a.1 a.2,.pure,false⟩
theorem V2:aK bA 175 aLK:=Oc aEe rfl aI [] trivial fun a=>by kernel_rfl
def kZ (s:((List Bool)×(List Bool)×Int)):Option (bY ((List Bool)×(List Bool)×Int) Bool):=
 bif decide (s.2.2<(Int.ofNat s.1.length)) then
  (aL s.1 s.2.2).bind fun b0=>
  (aL s.2.1 s.2.2).bind fun b1=>
  bif !(b0==b1) then
   some (.done false)
  else
   some (.next (s.1,s.2.1,aA .i64 (s.2.2+1)))
 else
  some (.done true)
def nI (p0:List Bool) (p1:List Bool):Option Bool:=
 bif (Int.ofNat p0.length) !=(Int.ofNat p1.length) then
  some false
 else
  aJ kZ (p0,p1,0)
def aNS:bQ:=⟨aD.cons (aN.sl kb) (aD.one (aN.sl kb)),aN.bool,fun a=>nI a.1 a.2,.pure,false⟩
theorem aGp:aK bA 213 aNS:=Oc aEB rfl aI [] trivial fun a=>by kernel_rfl
def D7 (p0:aS) (p1:aS):Option Bool:=
 (kD p0.uses p1.uses).bind fun b0=>
 bif b0 then
  (nI p0.used p1.used).bind fun b1=>
  bif b1 then
   (kD p0.free p1.free).bind fun b2=>
   some b2
  else
   some false
 else
  some false
def aNT:bQ:=⟨aD.cons (aN.agg lR) (aD.one (aN.agg lR)),aN.bool,fun a=>D7 a.1 a.2,.pure,false⟩
theorem aGq:aK bA 174 aNT:=Oc aEd rfl aI [(175,aLK),(213,aNS)] ⟨V2,aGp,trivial⟩ fun a=>by kernel_rfl
def qX (s:aMC):Option (bY aMC Bool):=
 bif decide (s.1<(Int.ofNat s.2.2.2.2.1.length)) then
  (aL s.2.2.2.2.1 s.1).bind fun a0=>
  (aL s.2.2.2.2.2.2.2.2.2.1 s.1).bind fun a1=>
  bif !((a0.1==a1.1)&&((a0.2.1==a1.2.1)&&((a0.2.2.1==a1.2.2.1)&&((a0.2.2.2.1==a1.2.2.2.1)&&(a0.2.2.2.2==a1.2.2.2.2))))) then
   some (.done false)
  else
   some (.next (aA .i64 (s.1+1),s.2))
 else
  some (.done true)
def zF (p0:aG) (p1:aG):Option Bool:=
 (D7 p0.slots p1.slots).bind fun b0=>
 bif !b0 then
  some false
 else
  (kD p0.where_ p1.where_).bind fun b1=>
  bif !b1 then
   some false
  else
   bif (Int.ofNat p0.heap.length) !=(Int.ofNat p1.heap.length) then
    some false
   else
    aJ qX (0,p0.slots.uses,p0.slots.used,p0.slots.free,p0.heap,p0.where_,p1.slots.uses,p1.slots.used,p1.slots.free,p1.heap,p1.where_)
def aNU:bQ:=⟨aD.cons (aN.agg eV) (aD.one (aN.agg eV)),aN.bool,fun a=>zF a.1 a.2,.pure,false⟩
theorem aGr:aK bA 117 aNU:=Oc aDF rfl aI [(174,aNT),(175,aLK)] ⟨aGq,V2,trivial⟩ fun a=>by kernel_rfl
def qY (s:Zt2):Option (bY Zt2 Bool):=
 bif decide (s.1<(Int.ofNat s.2.2.2.2.2.2.2.2.2.2.2.1.length)) then
  (aL s.2.2.2.2.2.2.2.2.2.2.2.1 s.1).bind fun a0=>
  (aL s.2.2.2.2.2.2.2.2.2.2.2.2.2.2.2.2.2.2.2.2.2.2 s.1).bind fun a1=>
  bif !((a0.1==a1.1)&&((a0.2.1==a1.2.1)&&(a0.2.2==a1.2.2))) then
   some (.done false)
  else
   some (.next (aA .i64 (s.1+1),s.2))
 else
  some (.done true)
def zG (p0:aH) (p1:aH):Option Bool:=
 bif !((p0.now.1==p1.now.1)&&(p0.now.2==p1.now.2)) then
  some false
 else
  (uH p0.field p1.field).bind fun b0=>
  bif !b0 then
   some false
  else
   (zE p0.certs p1.certs).bind fun b1=>
   bif !b1 then
    some false
   else
    (zF p0.agenda p1.agenda).bind fun b2=>
    bif !b2 then
     some false
    else
     bif (Int.ofNat p0.due.length) !=(Int.ofNat p1.due.length) then
      some false
     else
      aJ qY (0,p0.now.1,p0.now.2,p0.field.points,p0.certs.next_,p0.certs.list,p0.agenda.slots.uses,p0.agenda.slots.used,p0.agenda.slots.free,p0.agenda.heap,p0.agenda.where_,p0.due,p1.now.1,p1.now.2,p1.field.points,p1.certs.next_,p1.certs.list,p1.agenda.slots.uses,p1.agenda.slots.used,p1.agenda.slots.free,p1.agenda.heap,p1.agenda.where_,p1.due)
def c65:bQ:=⟨aD.cons (aN.agg dP) (aD.one (aN.agg dP)),aN.bool,fun a=>zG a.1 a.2,.pure,false⟩
theorem aLL:aK bA 65 c65:=Oc aKH rfl aI [(21,c21),(116,aNR),(117,aNU)] ⟨aLJ,aGo,aGr,trivial⟩ fun a=>by kernel_rfl
def zH (p0:dN) (p1:dN):Option Bool:=
 (zG p0.clock p1.clock).bind fun b0=>
 bif b0 then
  (jF p0.heap p1.heap).bind fun b1=>
  some b1
 else
  some false
def c17:bQ:=⟨aD.cons (aN.agg kV) (aD.one (aN.agg kV)),aN.bool,fun a=>zH a.1 a.2,.pure,false⟩
theorem aLM:aK bA 17 c17:=Oc aKi rfl aI [(65,c65),(51,c51)] ⟨aLL,aAf,trivial⟩ fun a=>by kernel_rfl
def pY (p0:dN) (p1:Int×Int) (p2:Int×Int):Option Bool:=
 (Option.some true).bind fun b0=>
 (rX p0).bind fun b1=>
 bif b1 then
  some b0
 else
  (D6 p0.clock.field).bind fun b2=>
  bif b2 then
   some b0
  else
   (vO p0).bind fun n3=>
   bif n3 !=0 then
    some b0
   else
    (zD p1 p2).bind fun n4=>
    bif n4 !=0 then
     some b0
    else
     (lL p0.clock.now p1).bind fun n5=>
     bif decide (0<n5) then
      some b0
     else
      (lL p1 p2).bind fun n6=>
      bif decide (0<n6) then
       some b0
      else
       bif !b0 then
        some b0
       else
        (dC p0 p2).bind fun a7=>
        (dC p0 p1).bind fun a8=>
        bif a8.2.2 !=0 then
         bif b0 then
          bif a8.2.2==18 then
           some (a7.2.2==a8.2.2)
          else
           some false
         else
          some false
        else
         (dC a8.1 p2).bind fun a9=>
         bif b0 then
          bif a7.2.2==a9.2.2 then
           (zH a7.1 a9.1).bind fun b10=>
           bif b10 then
            bif a7.2.2 !=0 then
             some true
            else
             (cL a8.2.1).bind fun l11=>
             bif a9.2.1.isEmpty then
              (iT a7.2.1 l11).bind fun b12=>
              some b12
             else
              (bR l11 a9.2.1).bind fun l13=>
              (iT a7.2.1 l13).bind fun b14=>
              some b14
           else
            some false
          else
           some false
         else
          some false
def c3:bQ:=⟨aD.cons (aN.agg kV) (aD.cons (aN.agg (cN.row jX)) (aD.one (aN.agg (cN.row jX)))),aN.bool,fun a=>pY a.1 a.2.1 a.2.2,.pure,false⟩
theorem aNV:aK bA 3 c3:=Oc aHd rfl aI [(10,c10),(11,c11),(12,c12),(13,c13),(14,c14),(15,c15),(16,c16),(17,c17),(18,c18)] ⟨aLr,aLv,aLw,aLH,aLI,aAl,aAe,aLM,aAg,trivial⟩ fun a=>by kernel_rfl
end
end
end Go.Proofs.YtfejhjllooomlaaGreat
