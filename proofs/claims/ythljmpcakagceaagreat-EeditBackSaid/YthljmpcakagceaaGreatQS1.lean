/- Plain functions for what the functions of the seat compute. Printed by a program. -/
import Derived.Test.YthljmpcakagceaaGreatVm3
import Derived.Test.YthljmpcakagceaaGreatQXT
set_option maxRecDepth 100000
namespace Go.Proofs.YthljmpcakagceaaGreat
open Go.Vm
noncomputable section
theorem Oc {f:FuncId} {x:aP} {α β:Type} {args:aC α} {res:aM β} {kd:Kd} {fn:α->Option β} {ow:Bool} (hf:tab f=some (.code x)) (ho:aDK kd ow=true) (lp:Option Nat) (l:List (Nat×bJ)) (h:FY tab l) (e: ∀a,aKU (oX lp l [] [] []) x args res kd a=fn a):aK tab f ⟨args,res,fn,kd,ow⟩:=aK.of hf (cx:=oX lp l [] [] []) ho (lY.make h trivial trivial) e
abbrev jS:List PT:=[.i .i64,.i .i64]
abbrev dV:List PT:=[.i .i64,.i .i64,.i .i64]
abbrev ki:List PT:=[.i .i64]
abbrev kb:List PT:=[.b]
abbrev mG:List PT:=[.i .i64,.i .i64,.i .i64,.i .i64,.i .i64]
abbrev C0:List PT:=[.b,.i .u64,.i .u64]
abbrev aQQ:List PT:=[.i .i64,.i .i64,.i .i64,.i .i64]
abbrev kiu:List PT:=[.i .i64,.i .u64]
structure Field where
 points:List (Int×Int×Int)
def bS:cJ Field:=cJ.iso (cJ.sl dV) (fun p=>⟨p⟩) (fun c=>c.points) (fun _=>rfl)
structure aR where
 uses:List Int
 used:List Bool
 free:List Int
def gC:cJ aR:=cJ.iso (cJ.prod (cJ.sl ki) (cJ.prod (cJ.sl kb) (cJ.sl ki))) (fun p=>⟨p.1,p.2.1,p.2.2⟩) (fun c=>(c.uses,c.used,c.free)) (fun _=>rfl)
structure aI where
 slots:aR
 heap:List (Int×Int×Int×Int×Int)
 where_:List Int
def cZ:cJ aI:=cJ.iso (cJ.prod gC (cJ.prod (cJ.sl mG) (cJ.sl ki))) (fun p=>⟨p.1,p.2.1,p.2.2⟩) (fun c=>(c.slots,c.heap,c.where_)) (fun _=>rfl)
structure aV where
 next_:Int
 list:List (Int×Int×Int)
def gZ:cJ aV:=cJ.iso (cJ.prod (cJ.int .i64) (cJ.sl dV)) (fun p=>⟨p.1,p.2⟩) (fun c=>(c.next_,c.list)) (fun _=>rfl)
structure aQ where
 now:Int×Int
 field:Field
 certs:aV
 agenda:aI
 due:List (Int×Int×Int)
def bU:cJ aQ:=cJ.iso (cJ.prod (cJ.row jS) (cJ.prod bS (cJ.prod gZ (cJ.prod cZ (cJ.sl dV))))) (fun p=>⟨p.1,p.2.1,p.2.2.1,p.2.2.2.1,p.2.2.2.2⟩) (fun c=>(c.now,c.field,c.certs,c.agenda,c.due)) (fun _=>rfl)
structure nK where
 root:Int
 nodes:List (Int×Int×Int)
def wM:cJ nK:=cJ.iso (cJ.prod (cJ.int .i64) (cJ.sl dV)) (fun p=>⟨p.1,p.2⟩) (fun c=>(c.root,c.nodes)) (fun _=>rfl)
structure bH where
 clock:aQ
 tree:nK
def dW:cJ bH:=cJ.iso (cJ.prod bU wM) (fun p=>⟨p.1,p.2⟩) (fun c=>(c.clock,c.tree)) (fun _=>rfl)
theorem wN:aK tab 186 (bJ.clone kb):=aK.clone aHg rfl
theorem aCb:aK tab 242 (bJ.add64):=aK.add64 aHS
theorem uF:aK tab 103 (bJ.clone dV):=aK.clone aGl rfl
theorem zV:aK tab 182 (bJ.clone dV):=aK.clone aHc rfl
theorem G8:aK tab 183 (bJ.clone dV):=aK.clone aHd rfl
theorem wO:aK tab 184 (bJ.clone mG):=aK.clone aHe rfl
theorem qU:aK tab 185 (bJ.clone ki):=aK.clone aHf rfl
theorem TF:aK tab 306 (bJ.clone ki):=aK.clone aIt rfl
section
abbrev kV:=List (Int×Int×Int×Int×Int)
abbrev bR:=List (Int×Int×Int)
abbrev sB:=List (Int×Int)
abbrev aQR:=sB×Int×Int×Int×bR×Int×bR×(List Int)×(List Bool)×(List Int)×kV×(List Int)×bR×bR×Int×Int×Int×Int×Int×bR×Int×bR×(List Int)×(List Bool)×(List Int)×kV×(List Int)×bR
abbrev Zt2:=cH aQR (aQ×Int)
abbrev Zt4:=Int×Int×Int×bR×Int×bR×(List Int)×(List Bool)×(List Int)×kV×(List Int)×bR×bR×Int×Int×Int×Int×Int×bR×Int×bR×(List Int)×(List Bool)×(List Int)×kV×(List Int)×bR
abbrev Zt8:=bR×bR×Int×Int×Int×Int×bR×Int×bR×(List Int)×(List Bool)×(List Int)×kV×(List Int)×bR
abbrev aQS:=sB×Int×Int×Int×Int×Int×Int×bR×Int×bR×(List Int)×(List Bool)×(List Int)×kV×(List Int)×bR
abbrev aQT:=Int×Int×Int×Int×bR×Int×bR×(List Int)×(List Bool)×(List Int)×kV×(List Int)×bR×(List Int)
abbrev aQU:=cH aQT Int
abbrev aPe:=Int×Int×Int×Int×bR×Int×bR×(List Int)×(List Bool)×(List Int)×kV×(List Int)×bR
abbrev aQV:=cH aPe Int
abbrev aQW:=Int×kV×(List Int)×(List Int)×(List Bool)×(List Int)×Nat×Nat×Int×Int×Int×Int×Int
abbrev NY:=kV×(List Int)
abbrev aQX:=cH aQW NY
abbrev aQY:=cH (Int×Int×Int×Int×bR×(List Int)) (nK×sB)
abbrev aQZ:=bR×Int×Int×Int×Int×bR×(List Int)
abbrev aPf:=cH aQZ aQY
abbrev aQ0:=Int×kV×(List Int)×(List Int)×(List Bool)×(List Int)×Int×Int×Int×Int×Int
abbrev aQ1:=cH aQ0 NY
abbrev aQ2:=Nat×Nat×Int×bR×Int×Int×bR×Int×Int×Int×Int×bR×(List Int)×Int×Int×Int×Int×Int×Int
abbrev aQ3:=kV×Int×Int×(List Int)×(List Bool)×(List Int)×kV×(List Int)×(List (List Int))
abbrev aQ4:=Nat×Nat×bR×Int×Int×bR×Int×Int×Int×Int×bR×(List Int)
abbrev aQ5:=cH aQ4 (nK×Int)
abbrev aQ6:=Int×Int×kV×(List Int)×(List Int)×(List Bool)×(List Int)×Nat×Nat×Int×Int×Int×Int×Int
abbrev aIu:=(List Int)×(List Bool)×(List Int)×Nat×Nat×Int×Int×Int×Int×Int×Int×kV×(List Int)
abbrev aQ7:=Int×Int×kV×(List Int)×(List Int)×(List Bool)×(List Int)×Int×Int×Int×Int×Int
abbrev aIv:=(List Int)×(List Bool)×(List Int)×Int×Int×Int×Int×Int×Int×kV×(List Int)
abbrev aQ8:=(List Int)×Int×Int×(List Int)×(List Bool)×(List Int)×kV×(List Int)
abbrev aQ9:=cH aQ8 Int
abbrev aRa:=Int×bR×Int×Int×Int×Int×Int×Int×Int×bR×(List Int)
abbrev aRb:=bR×Int×Int×Int×Int×bR×(List Int)×sB
abbrev aRc:=bR×Int×Int×Int×bR×(List Int)
abbrev aPg:=cH aRc sB
abbrev aIw:=(List Int)×(List Bool)×(List Int)×Nat×Nat×Int×kV×(List Int)
abbrev aIx:=Int×kV×(List Int)×(List Int)×(List Bool)×(List Int)×Nat×Nat
abbrev aRd:=Int×bR×Int×Int×Int×Int×Int×Int×bR×(List Int)
abbrev aRe:=bR×Int×Int×Int×bR×(List Int)×sB
abbrev aPh:=Int×Int×(List Int)×(List Bool)×(List Int)×kV×(List Int)
abbrev aRf:=(List Int)×(List Bool)×(List Int)×Int×kV×(List Int)
abbrev aRg:=Int×kV×(List Int)×(List Int)×(List Bool)×(List Int)
abbrev aRh:=Int×bR×Int×Int×Int×bR×(List (List Int))
abbrev aRi:=(List Int)×Int×Int×(List Int)×(List Bool)×(List Int)×Int×(List Bool)
abbrev aRj:=cH aRi Int
abbrev aPi:=(List Int)×(List Bool)×(List Int)×kV×(List Int)
abbrev aRk:=cH (Int×Int×bR×sB) sB
abbrev aIy:=bR×Int×Int×Int×Int×Int×bR
abbrev aRl:=Int×bR×Int×Int×Int×Int×bR
abbrev aRm:=Int×Int×Int×bR×Int×Int×bR
abbrev aPj:=bR×bR×Int×Int
abbrev aRn:=cH aPj Bool
abbrev QK:=bR×Int×Int×Int×Int
abbrev aIz:=cH QK (Int×Bool)
abbrev aCc:=bR×Int×Int×bR
abbrev aIA:=Int×kV×(List Int)
abbrev aAB:=Int×Int×bR
abbrev aPk:=cH aAB Int
abbrev QL:=Int×bR
abbrev G9:=Int×(List Int)×(List Bool)×(List Int)×kV×(List Int)
variable [LP]
def TG (p0:Int):Option (Int×Int):=
 some (p0,1)
def aRo:bJ:=⟨aC.one (aM.int .i64),aM.agg (cJ.row jS),fun a=>TG a,.pure,false⟩
theorem aIB:aK tab 153 aRo:=Oc aGS rfl aG [] trivial fun a=>by kernel_rfl
def qA (p0:Int×Int×Int):Option Int:=
 bif decide (p0.1<0) then
  some 8
 else
  bif decide (65535<p0.1) then
   some 8
  else
   bif decide (p0.2.1<(-1048576)) then
    some 8
   else
    bif decide (1048576<p0.2.1) then
     some 8
    else
     bif decide (p0.2.2<(-1048576)) then
      some 8
     else
      bif decide (1048576<p0.2.2) then
       some 8
      else
       some 0
def c52:bJ:=⟨aC.one (aM.agg (cJ.row dV)),aM.int .i64,fun a=>qA a,.pure,false⟩
theorem aPl:aK tab 52 c52:=Oc aOM rfl aG [] trivial fun a=>by kernel_rfl
def jG (s:QL):Option (cH QL (cH QL Int)):=
 bif decide (s.1<(Int.ofNat s.2.length)) then
  (aO s.2 (aA .i64 (s.1-1))).bind fun a0=>
  (aO s.2 s.1).bind fun a1=>
  bif decide (a1.1<=a0.1) then
   some (.done (.done 32))
  else
   some (.next (aA .i64 (s.1+1),s.2))
 else
  some (.done (.done 0))
def nS (s:QL):Option (cH QL Int):=
 bif decide (s.1<(Int.ofNat s.2.length)) then
  (aO s.2 s.1).bind fun a0=>
  (qA a0).bind fun n1=>
  bif n1 !=0 then
   some (.done 8)
  else
   some (.next (aA .i64 (s.1+1),s.2))
 else
  aH jG (1,s.2)
def eA (p0:Field):Option Int:=
 bif decide (64<(Int.ofNat p0.points.length)) then
  some 4
 else
  aH nS (0,p0.points)
def c12:bJ:=⟨aC.one (aM.agg bS),aM.int .i64,fun a=>eA a,.pure,false⟩
theorem aCd:aK tab 12 c12:=Oc aOt rfl aG [(52,c52)] ⟨aPl,trivial⟩ fun a=>by kernel_rfl
def iO (p0:Int):Option Int:=
 bif decide (p0<0) then
  some (aA .u64 ((aA .u64 (aA .i64 (0- (aA .i64 (p0+1)))))+1))
 else
  some (aA .u64 p0)
def c54:bJ:=⟨aC.one (aM.int .i64),aM.int .u64,fun a=>iO a,.pure,false⟩
theorem WB:aK tab 54 c54:=Oc aOO rfl aG [] trivial fun a=>by kernel_rfl
def pI (s:(Int×Int)):Option (cH (Int×Int) Int):=
 bif s.2 !=0 then
  bif s.2==0 then
   none
  else
   some (.next (s.2,Int.tmod s.1 s.2))
 else
  some (.done s.1)
def qV (p0:Int) (p1:Int):Option Int:=
 aH pI (p0,p1)
def c53:bJ:=⟨aC.cons (aM.int .u64) (aC.one (aM.int .u64)),aM.int .u64,fun a=>qV a.1 a.2,.pure,false⟩
theorem aCe:aK tab 53 c53:=Oc aON rfl aG [] trivial fun a=>by kernel_rfl
def qB (p0:Int×Int):Option Int:=
 bif decide (p0.2<1) then
  some 8
 else
  bif p0.1==(-9223372036854775808) then
   some 8
  else
   (iO p0.1).bind fun n0=>
   (qV n0 (aA .u64 p0.2)).bind fun n1=>
   bif n1 !=1 then
    some 8
   else
    some 0
def c13:bJ:=⟨aC.one (aM.agg (cJ.row jS)),aM.int .i64,fun a=>qB a,.pure,false⟩
theorem WC:aK tab 13 c13:=Oc aOu rfl aG [(54,c54),(53,c53)] ⟨WB,aCe,trivial⟩ fun a=>by kernel_rfl
def kI (p0:Field):Option Field:=
 (cD p0.points).bind fun l0=>
 some (Field.mk l0)
def aCf:bJ:=⟨aC.one (aM.agg bS),aM.agg bS,fun a=>kI a,.own,true⟩
def TH:bJ:=⟨aC.one (aM.agg bS),aM.agg bS,fun a=>kI a,.frz,false⟩
theorem KO:aK tab 147 aCf:=Oc YN rfl aG [] trivial fun a=>by kernel_rfl
theorem HA:aK tab 147 TH:=Oc YN rfl aG [] trivial fun a=>by kernel_rfl
def MR (s:(Int×(List Int)×(List Bool)×(List Int))):Option (cH (Int×(List Int)×(List Bool)×(List Int)) aR):=
 bif decide (0<=s.1) then
  (bF s.2.2.2 [s.1]).bind fun l0=>
  some (.next (aA .i64 (s.1-1),s.2.1,s.2.2.1,l0))
 else
  some (.done (aR.mk s.2.1 s.2.2.1 s.2.2.2))
def JU (p0:Int):Option aR:=
 bif p0==p0 then
  (zR p0 (0:Int)).bind fun l0=>
  bif p0==p0 then
   (zR p0 (false:Bool)).bind fun l1=>
   aH MR (aA .i64 (p0-1),l0,l1,[])
  else
   none
 else
  none
def aRp:bJ:=⟨aC.one (aM.int .i64),aM.agg gC,fun a=>JU a,.frz,false⟩
theorem aIC:aK tab 291 aRp:=Oc aIi rfl aG [] trivial fun a=>by kernel_rfl
def MS (s:(Int×Int×(List Int)×(List Bool)×(List Int)×(List Int))):Option (cH (Int×Int×(List Int)×(List Bool)×(List Int)×(List Int)) aI):=
 bif decide (s.2.1<s.1) then
  (bF s.2.2.2.2.2 [-1]).bind fun l0=>
  some (.next (s.1,aA .i64 (s.2.1+1),s.2.2.1,s.2.2.2.1,s.2.2.2.2.1,l0))
 else
  some (.done (aI.mk (aR.mk s.2.2.1 s.2.2.2.1 s.2.2.2.2.1) [] s.2.2.2.2.2))
def JV (p0:Int):Option aI:=
 (JU p0).bind fun r0=>
 aH MS (p0,0,r0.uses,r0.used,r0.free,[])
def aRq:bJ:=⟨aC.one (aM.int .i64),aM.agg cZ,fun a=>JV a,.frz,false⟩
theorem aID:aK tab 260 aRq:=Oc aH2 rfl aG [(291,aRp)] ⟨aIC,trivial⟩ fun a=>by kernel_rfl
def JW (p0:Field) (p1:Int×Int):Option aQ:=
 (kI p0).bind fun r0=>
 (JV 200).bind fun r1=>
 some (aQ.mk p1 r0 (aV.mk 0 []) r1 [])
def aRr:bJ:=⟨aC.cons (aM.agg bS) (aC.one (aM.agg (cJ.row jS))),aM.agg bU,fun a=>JW a.1 a.2,.frz,false⟩
theorem aIE:aK tab 206 aRr:=Oc aHv rfl aG [(147,aCf),(147,TH),(260,aRq)] ⟨KO,HA,aID,trivial⟩ fun a=>by kernel_rfl
def sY (p0:Int) (p1:Int):Option (Bool×Int×Int):=
 some (false,aA .u64 ((aA .u64 ((aA .u64 ((aA .u64 (Int.tdiv p0 4294967296))*(aA .u64 (Int.tdiv p1 4294967296))))+(aA .u64 (Int.tdiv (aA .u64 ((aA .u64 ((aA .u64 (Int.tdiv p0 4294967296))*(Int.tmod p1 4294967296)))+(aA .u64 (Int.tdiv (aA .u64 ((Int.tmod p0 4294967296)*(Int.tmod p1 4294967296))) 4294967296)))) 4294967296))))+(aA .u64 (Int.tdiv (aA .u64 ((aA .u64 ((Int.tmod p0 4294967296)*(aA .u64 (Int.tdiv p1 4294967296))))+(Int.tmod (aA .u64 ((aA .u64 ((aA .u64 (Int.tdiv p0 4294967296))*(Int.tmod p1 4294967296)))+(aA .u64 (Int.tdiv (aA .u64 ((Int.tmod p0 4294967296)*(Int.tmod p1 4294967296))) 4294967296)))) 4294967296))) 4294967296))),aA .u64 ((aA .u64 ((Int.tmod (aA .u64 ((aA .u64 ((Int.tmod p0 4294967296)*(aA .u64 (Int.tdiv p1 4294967296))))+(Int.tmod (aA .u64 ((aA .u64 ((aA .u64 (Int.tdiv p0 4294967296))*(Int.tmod p1 4294967296)))+(aA .u64 (Int.tdiv (aA .u64 ((Int.tmod p0 4294967296)*(Int.tmod p1 4294967296))) 4294967296)))) 4294967296))) 4294967296)*4294967296))+(Int.tmod (aA .u64 ((Int.tmod p0 4294967296)*(Int.tmod p1 4294967296))) 4294967296)))
def aRs:bJ:=⟨aC.cons (aM.int .u64) (aC.one (aM.int .u64)),aM.agg (cJ.row C0),fun a=>sY a.1 a.2,.pure,false⟩
theorem aIF:aK tab 116 aRs:=Oc aGu rfl aG [] trivial fun a=>by kernel_rfl
def kJ (p0:Int) (p1:Int):Option (Bool×Int×Int):=
 (iO p0).bind fun n0=>
 (iO p1).bind fun n1=>
 (sY n0 n1).bind fun a2=>
 bif !((decide (p0<0))==(decide (p1<0))) then
  bif p0 !=0 then
   some (p1 !=0,a2.2)
  else
   some (false,a2.2)
 else
  some (false,a2.2)
def c69:bJ:=⟨aC.cons (aM.int .i64) (aC.one (aM.int .i64)),aM.agg (cJ.row C0),fun a=>kJ a.1 a.2,.pure,false⟩
theorem aCg:aK tab 69 c69:=Oc aOU rfl aG [(54,c54),(116,aRs)] ⟨WB,aIF,trivial⟩ fun a=>by kernel_rfl
def sC (p0:Bool×Int×Int) (p1:Bool×Int×Int):Option Int:=
 bif p0.2.1 !=p1.2.1 then
  bif decide (p0.2.1<p1.2.1) then
   some (-1)
  else
   some 1
 else
  bif p0.2.2 !=p1.2.2 then
   bif decide (p0.2.2<p1.2.2) then
    some (-1)
   else
    some 1
  else
   some 0
def c71:bJ:=⟨aC.cons (aM.agg (cJ.row C0)) (aC.one (aM.agg (cJ.row C0))),aM.int .i64,fun a=>sC a.1 a.2,.pure,false⟩
theorem aCh:aK tab 71 c71:=Oc aOW rfl aG [] trivial fun a=>by kernel_rfl
def uG (p0:Bool×Int×Int) (p1:Bool×Int×Int):Option (Bool×Int×Int):=
 bif decide (p0.2.2<p1.2.2) then
  some (false,aA .u64 ((aA .u64 (p0.2.1-p1.2.1)) -1),aA .u64 (p0.2.2-p1.2.2))
 else
  some (false,aA .u64 (p0.2.1-p1.2.1),aA .u64 (p0.2.2-p1.2.2))
def aRt:bJ:=⟨aC.cons (aM.agg (cJ.row C0)) (aC.one (aM.agg (cJ.row C0))),aM.agg (cJ.row C0),fun a=>uG a.1 a.2,.pure,false⟩
theorem aIG:aK tab 223 aRt:=Oc aHJ rfl aG [] trivial fun a=>by kernel_rfl
def A4 (p0:Bool×Int×Int) (p1:Bool×Int×Int):Option (Bool×Int×Int):=
 bif p0.1==p1.1 then
  bif decide ((aA .u64 (p0.2.2+p1.2.2))<p0.2.2) then
   some (p0.1,aA .u64 ((aA .u64 (p0.2.1+p1.2.1))+1),aA .u64 (p0.2.2+p1.2.2))
  else
   some (p0.1,aA .u64 (p0.2.1+p1.2.1),aA .u64 (p0.2.2+p1.2.2))
 else
  (sC p0 p1).bind fun n0=>
  bif decide (0<=n0) then
   (uG p0 p1).bind fun a1=>
   bif p0.1 then
    bif decide (0<a1.2.1) then
     some (true,a1.2)
    else
     some (decide (0<a1.2.2),a1.2)
   else
    some (false,a1.2)
  else
   (uG p1 p0).bind fun a2=>
   some (p1.1,a2.2)
def aRu:bJ:=⟨aC.cons (aM.agg (cJ.row C0)) (aC.one (aM.agg (cJ.row C0))),aM.agg (cJ.row C0),fun a=>A4 a.1 a.2,.pure,false⟩
theorem aIH:aK tab 173 aRu:=Oc aG4 rfl aG [(71,c71),(223,aRt)] ⟨aCh,aIG,trivial⟩ fun a=>by kernel_rfl
def mH (p0:Bool×Int×Int):Option Int:=
 bif p0.2.1==0 then
  bif p0.2.2==0 then
   some 0
  else
   bif p0.1 then
    some (-1)
   else
    some 1
 else
  bif p0.1 then
   some (-1)
  else
   some 1
def c70:bJ:=⟨aC.one (aM.agg (cJ.row C0)),aM.int .i64,fun a=>mH a,.pure,false⟩
theorem aCi:aK tab 70 c70:=Oc aOV rfl aG [] trivial fun a=>by kernel_rfl
def D4 (p0:Int×Int×Int) (p1:Int×Int×Int) (p2:Int×Int):Option Int:=
 (kJ (aA .i64 (p0.2.1-p1.2.1)) p2.2).bind fun a0=>
 (kJ (aA .i64 (p0.2.2-p1.2.2)) p2.1).bind fun a1=>
 (A4 a0 a1).bind fun a2=>
 (mH a2).bind fun n3=>
 some n3
def aRv:bJ:=⟨aC.cons (aM.agg (cJ.row dV)) (aC.cons (aM.agg (cJ.row dV)) (aC.one (aM.agg (cJ.row jS)))),aM.int .i64,fun a=>D4 a.1 a.2.1 a.2.2,.pure,false⟩
theorem aII:aK tab 115 aRv:=Oc aGt rfl aG [(69,c69),(173,aRu),(70,c70)] ⟨aCg,aIH,aCi,trivial⟩ fun a=>by kernel_rfl
def qC (p0:Int×Int×Int) (p1:Int×Int×Int) (p2:Int×Int):Option Bool:=
 (D4 p0 p1 p2).bind fun n0=>
 bif n0 !=0 then
  some (decide (0<n0))
 else
  bif p0.2.2 !=p1.2.2 then
   some (decide (p1.2.2<p0.2.2))
  else
   some (decide (p0.1<p1.1))
def c67:bJ:=⟨aC.cons (aM.agg (cJ.row dV)) (aC.cons (aM.agg (cJ.row dV)) (aC.one (aM.agg (cJ.row jS)))),aM.bool,fun a=>qC a.1 a.2.1 a.2.2,.pure,false⟩
theorem WD:aK tab 67 c67:=Oc aOS rfl aG [(115,aRv)] ⟨aII,trivial⟩ fun a=>by kernel_rfl
def kB (s:(Int×Int×Int×bR×Int×Int)):Option (cH (Int×Int×Int×bR×Int×Int) Int):=
 bif decide (s.2.2.1<s.1) then
  bif decide (s.2.1<0) then
   some (.next (s.1,s.2.2.1,aA .i64 (s.2.2.1+1),s.2.2.2))
  else
   (aO s.2.2.2.1 s.2.2.1).bind fun a0=>
   (aO s.2.2.2.1 s.2.1).bind fun a1=>
   (qC a0 a1 s.2.2.2.2).bind fun b2=>
   bif b2 then
    some (.next (s.1,s.2.2.1,aA .i64 (s.2.2.1+1),s.2.2.2))
   else
    some (.next (s.1,s.2.1,aA .i64 (s.2.2.1+1),s.2.2.2))
 else
  some (.done s.2.1)
def vZ (p0:Field) (p1:Int×Int) (p2:Int) (p3:Int):Option Int:=
 aH kB (p3,-1,p2,p0.points,p1)
def aRw:bJ:=⟨aC.cons (aM.agg bS) (aC.cons (aM.agg (cJ.row jS)) (aC.cons (aM.int .i64) (aC.one (aM.int .i64)))),aM.int .i64,fun a=>vZ a.1 a.2.1 a.2.2.1 a.2.2.2,.pure,false⟩
theorem aIJ:aK tab 209 aRw:=Oc aHx rfl aG [(67,c67)] ⟨WD,trivial⟩ fun a=>by kernel_rfl
def fO (self:aIy->Option QL) (a:aIy):Option QL:=
 (vZ (Field.mk a.1) (a.2.1,a.2.2.1) a.2.2.2.2.1 a.2.2.2.2.2.1).bind fun n0=>
 bif decide (0<=n0) then
  (self (a.1,a.2.1,a.2.2.1,a.2.2.2.1,a.2.2.2.2.1,n0,a.2.2.2.2.2.2)).bind fun a1=>
  (aO a1.2 n0).bind fun a2=>
  (self (a.1,a.2.1,a.2.2.1,a.2.2.2.1,aA .i64 (n0+1),a.2.2.2.2.2.1,cB a1.2 n0 (a2.1,a1.1,a2.2.2))).bind fun a3=>
  (aO a3.2 n0).bind fun a4=>
  bif ((cB a3.2 n0 (a4.1,a4.2.1,a3.1)).length)==a.2.2.2.2.2.2.length then
   some (n0,cB a3.2 n0 (a4.1,a4.2.1,a3.1))
  else
   none
 else
  bif a.2.2.2.2.2.2.length==a.2.2.2.2.2.2.length then
   some (n0,a.2.2.2.2.2.2)
  else
   none
def jH:Nat->aIy->Option QL
 |0,_=>none
 |n+1,a=>fO (jH n) a
def sD (a:aIy):Option QL:=jH 1000000 a
def aCj:eC:=⟨[.l [.i .i64,.i .i64,.i .i64],.i,.i,.i,.i,.i,.l [.i .i64,.i .i64,.i .i64]],[.agg [.sl [.i .i64,.i .i64,.i .i64] []],.agg [.int .i64 0,.int .i64 0],.agg [.int .i64 0,.own 0 false],.int .i64 0,.int .i64 0],[.arr [.i .i64,.i .i64,.i .i64] []],[.i,.l [.i .i64,.i .i64,.i .i64]],.int .i64 0,[.arr [.i .i64,.i .i64,.i .i64] []],fun a=>sD a⟩
theorem MT: ∀n,kU tab 160 ⟨[.l [.i .i64,.i .i64,.i .i64],.i,.i,.i,.i,.i,.l [.i .i64,.i .i64,.i .i64]],[.agg [.sl [.i .i64,.i .i64,.i .i64] []],.agg [.int .i64 0,.int .i64 0],.agg [.int .i64 0,.own 0 false],.int .i64 0,.int .i64 0],[.arr [.i .i64,.i .i64,.i .i64] []],[.i,.l [.i .i64,.i .i64,.i .i64]],.int .i64 0,[.arr [.i .i64,.i .i64,.i .i64] []],fun a=>jH n a⟩
 |0=>kU.zero (fun _=>rfl)
 |n+1=>kU.of aGW (wd:=false) (cx:=(oX aG [(209,aRw)] [(160,⟨[.l [.i .i64,.i .i64,.i .i64],.i,.i,.i,.i,.i,.l [.i .i64,.i .i64,.i .i64]],[.agg [.sl [.i .i64,.i .i64,.i .i64] []],.agg [.int .i64 0,.int .i64 0],.agg [.int .i64 0,.own 0 false],.int .i64 0,.int .i64 0],[.arr [.i .i64,.i .i64,.i .i64] []],[.i,.l [.i .i64,.i .i64,.i .i64]],.int .i64 0,[.arr [.i .i64,.i .i64,.i .i64] []],fun a=>jH n a⟩)] [] [])) (lY.make ⟨aIJ,trivial⟩ ⟨(MT n),trivial⟩ trivial) (fun a=>by kernel_rfl)
theorem aAC:kU tab 160 aCj:=MT 1000000
def pD (s:aRl):Option (cH aRl nK):=
 bif decide (s.1<(Int.ofNat s.2.1.length)) then
  (aO s.2.1 s.1).bind fun a0=>
  (bF s.2.2.2.2.2.2 [(a0.1,0,0)]).bind fun l1=>
  some (.next (aA .i64 (s.1+1),s.2.1,s.2.2.1,s.2.2.2.1,s.2.2.2.2.1,s.2.2.2.2.2.1,l1))
 else
  (sD (s.2.1,s.2.2.1,s.2.2.2.1,s.2.2.2.2.2.1,0,Int.ofNat s.2.1.length,s.2.2.2.2.2.2)).bind fun a2=>
  some (.done (nK.mk a2.1 a2.2))
def F0 (p0:Field) (p1:Int×Int):Option nK:=
 aH pD (0,p0.points,p1.1,p1.2,0,0,[])
def aRx:bJ:=⟨aC.cons (aM.agg bS) (aC.one (aM.agg (cJ.row jS))),aM.agg wM,fun a=>F0 a.1 a.2,.frz,false⟩
theorem aIK:aK tab 106 aRx:=aK.of aGo (cx:=(oX aG [] [(160,aCj)] [] [])) rfl (lY.make trivial ⟨aAC,trivial⟩ trivial) (fun a=>by kernel_rfl)
def sE (p0:Field) (p1:Int×Int):Option nK:=
 (F0 p0 p1).bind fun r0=>
 some r0
def c78:bJ:=⟨aC.cons (aM.agg bS) (aC.one (aM.agg (cJ.row jS))),aM.agg wM,fun a=>sE a.1 a.2,.frz,false⟩
theorem aCk:aK tab 78 c78:=Oc aO0 rfl aG [(106,aRx)] ⟨aIK,trivial⟩ fun a=>by kernel_rfl
def qD (s:(Int×Int×Int×bR×sB)):Option (cH (Int×Int×Int×bR×sB) aRk):=
 bif decide (s.2.1<(Int.ofNat s.2.2.2.1.length)) then
  (aO s.2.2.2.1 s.2.1).bind fun a0=>
  bif a0.2.1==s.1 then
   (aO s.2.2.2.1 s.1).bind fun a1=>
   (aO s.2.2.2.1 s.2.1).bind fun a2=>
   (bF s.2.2.2.2 [(a1.1,a2.1)]).bind fun l3=>
   some (.next (s.1,aA .i64 (s.2.1+1),s.2.2.1,s.2.2.2.1,l3))
  else
   (aO s.2.2.2.1 s.2.1).bind fun a4=>
   bif a4.2.2==s.1 then
    (aO s.2.2.2.1 s.1).bind fun a5=>
    (aO s.2.2.2.1 s.2.1).bind fun a6=>
    (bF s.2.2.2.2 [(a5.1,a6.1)]).bind fun l7=>
    some (.next (s.1,aA .i64 (s.2.1+1),s.2.2.1,s.2.2.2.1,l7))
   else
    some (.next (s.1,aA .i64 (s.2.1+1),s.2.2))
 else
  some (.done (.next (aA .i64 (s.1+1),s.2.2)))
def uH (s:(Int×Int×bR×sB)):Option aRk:=
 bif decide (s.1<(Int.ofNat s.2.2.1.length)) then
  aH qD (s.1,0,s.2)
 else
  some (.done s.2.2.2)
def C1 (p0:nK):Option sB:=
 aH uH (0,p0.root,p0.nodes,[])
def c80:bJ:=⟨aC.one (aM.agg wM),aM.sl jS,fun a=>C1 a,.frz,false⟩
theorem aCl:aK tab 80 c80:=Oc aO2 rfl aG [] trivial fun a=>by kernel_rfl
def sF (p0:aV):Option aV:=
 (cD p0.list).bind fun l0=>
 some (aV.mk p0.next_ l0)
def aIL:bJ:=⟨aC.one (aM.agg gZ),aM.agg gZ,fun a=>sF a,.own,true⟩
def YX:bJ:=⟨aC.one (aM.agg gZ),aM.agg gZ,fun a=>sF a,.frz,false⟩
theorem QM:aK tab 148 aIL:=Oc YO rfl aG [] trivial fun a=>by kernel_rfl
theorem MU:aK tab 148 YX:=Oc YO rfl aG [] trivial fun a=>by kernel_rfl
def pR (p0:aR):Option aR:=
 (cD p0.uses).bind fun l0=>
 (cD p0.used).bind fun l1=>
 (cD p0.free).bind fun l2=>
 some (aR.mk l0 l1 l2)
def aCm:bJ:=⟨aC.one (aM.agg gC),aM.agg gC,fun a=>pR a,.own,true⟩
def TI:bJ:=⟨aC.one (aM.agg gC),aM.agg gC,fun a=>pR a,.frz,false⟩
theorem KP:aK tab 202 aCm:=Oc YS rfl aG [] trivial fun a=>by kernel_rfl
theorem HB:aK tab 202 TI:=Oc YS rfl aG [] trivial fun a=>by kernel_rfl
def nT (p0:aI):Option aI:=
 (pR p0.slots).bind fun r0=>
 (cD p0.heap).bind fun l1=>
 (cD p0.where_).bind fun l2=>
 some (aI.mk r0 l1 l2)
def aAD:bJ:=⟨aC.one (aM.agg cZ),aM.agg cZ,fun a=>nT a,.own,true⟩
def OY:bJ:=⟨aC.one (aM.agg cZ),aM.agg cZ,fun a=>nT a,.frz,false⟩
theorem HC:aK tab 149 aAD:=Oc YP rfl aG [(202,aCm),(202,TI)] ⟨KP,HB,trivial⟩ fun a=>by kernel_rfl
theorem C2:aK tab 149 OY:=Oc YP rfl aG [(202,aCm),(202,TI)] ⟨KP,HB,trivial⟩ fun a=>by kernel_rfl
def nU (p0:aQ):Option aQ:=
 (kI p0.field).bind fun r0=>
 (sF p0.certs).bind fun r1=>
 (nT p0.agenda).bind fun r2=>
 (cD p0.due).bind fun l3=>
 some (aQ.mk p0.now r0 r1 r2 l3)
def c89:bJ:=⟨aC.one (aM.agg bU),aM.agg bU,fun a=>nU a,.own,true⟩
def aCn:bJ:=⟨aC.one (aM.agg bU),aM.agg bU,fun a=>nU a,.frz,false⟩
theorem QN:aK tab 89 c89:=Oc aCa rfl aG [(147,aCf),(147,TH),(148,aIL),(148,YX),(149,aAD),(149,OY)] ⟨KO,HA,QM,MU,HC,C2,trivial⟩ fun a=>by kernel_rfl
theorem KQ:aK tab 89 aCn:=Oc aCa rfl aG [(147,aCf),(147,TH),(148,aIL),(148,YX),(149,aAD),(149,OY)] ⟨KO,HA,QM,MU,HC,C2,trivial⟩ fun a=>by kernel_rfl
def xV (s:(sB×Int×Int×Int)):Option (cH (sB×Int×Int×Int) Bool):=
 bif decide (s.2.1<(Int.ofNat s.1.length)) then
  (aO s.1 s.2.1).bind fun a0=>
  bif (a0.1==s.2.2.1)&&(a0.2==s.2.2.2) then
   some (.done true)
  else
   some (.next (s.1,aA .i64 (s.2.1+1),s.2.2))
 else
  some (.done false)
def HD (p0:List (Int×Int)) (p1:Int×Int):Option Bool:=
 aH xV (p0,0,p1)
def c35:bJ:=⟨aC.cons (aM.sl jS) (aC.one (aM.agg (cJ.row jS))),aM.bool,fun a=>HD a.1 a.2,.pure,false⟩
theorem aPm:aK tab 35 c35:=Oc aOB rfl aG [] trivial fun a=>by kernel_rfl
def lH (s:aRm):Option (cH aRm aV):=
 bif decide (s.2.1<(Int.ofNat s.2.2.2.1.length)) then
  (aO s.2.2.2.1 s.2.1).bind fun a0=>
  bif a0.1 !=s.1 then
   (aO s.2.2.2.1 s.2.1).bind fun a1=>
   (bF s.2.2.2.2.2.2 [a1]).bind fun l2=>
   some (.next (s.1,aA .i64 (s.2.1+1),s.2.2.1,s.2.2.2.1,s.2.2.2.2.1,s.2.2.2.2.2.1,l2))
  else
   some (.next (s.1,aA .i64 (s.2.1+1),s.2.2))
 else
  some (.done (aV.mk s.2.2.2.2.2.1 s.2.2.2.2.2.2))
def sZ (p0:aV) (p1:Int):Option aV:=
 aH lH (p1,0,p0.next_,p0.list,0,p0.next_,[])
def aRz:bJ:=⟨aC.cons (aM.agg gZ) (aC.one (aM.int .i64)),aM.agg gZ,fun a=>sZ a.1 a.2,.frz,false⟩
theorem aIM:aK tab 253 aRz:=Oc aHV rfl aG [] trivial fun a=>by kernel_rfl
def qW (s:aPe):Option aQV:=
 bif decide (s.2.1<(Int.ofNat s.2.2.2.2.2.2.2.2.2.2.2.2.length)) then
  (aO s.2.2.2.2.2.2.2.2.2.2.2.2 s.2.1).bind fun a0=>
  bif a0.1==s.1 then
   some (.done s.2.1)
  else
   some (.next (s.1,aA .i64 (s.2.1+1),s.2.2))
 else
  some (.done (-1))
def qE (p0:aQ) (p1:Int):Option Int:=
 aH qW (p1,0,p0.now.1,p0.now.2,p0.field.points,p0.certs.next_,p0.certs.list,p0.agenda.slots.uses,p0.agenda.slots.used,p0.agenda.slots.free,p0.agenda.heap,p0.agenda.where_,p0.due)
def aPn:bJ:=⟨aC.cons (aM.agg bU) (aC.one (aM.int .i64)),aM.int .i64,fun a=>qE a.1 a.2,.pure,false⟩
theorem YY:aK tab 254 aPn:=Oc aHW rfl aG [] trivial fun a=>by kernel_rfl
def qF (p0:aR) (p1:Int×Int):Option aR:=
 (pR p0).bind fun r0=>
 (aO r0.used p1.1).bind fun _=>
 (bF r0.free [p1.1]).bind fun l2=>
 some (aR.mk r0.uses (cB r0.used p1.1 false) l2)
def aRA:bJ:=⟨aC.cons (aM.agg gC) (aC.one (aM.agg (cJ.row jS))),aM.agg gC,fun a=>qF a.1 a.2,.frz,false⟩
theorem aIN:aK tab 287 aRA:=Oc aIg rfl aG [(202,aCm),(202,TI)] ⟨KP,HB,trivial⟩ fun a=>by kernel_rfl
def tB (p0:Int×Int) (p1:Int×Int):Option Int:=
 (kJ p0.1 p1.2).bind fun a0=>
 (kJ p1.1 p0.2).bind fun a1=>
 (mH a0).bind fun n2=>
 (mH a1).bind fun n3=>
 bif n2 !=n3 then
  (mH a0).bind fun n4=>
  (mH a1).bind fun n5=>
  bif decide (n4<n5) then
   some (-1)
  else
   some 1
 else
  (mH a0).bind fun n6=>
  bif decide (n6<0) then
   (sC a1 a0).bind fun n7=>
   some n7
  else
   (sC a0 a1).bind fun n8=>
   some n8
def c23:bJ:=⟨aC.cons (aM.agg (cJ.row jS)) (aC.one (aM.agg (cJ.row jS))),aM.int .i64,fun a=>tB a.1 a.2,.pure,false⟩
theorem aPo:aK tab 23 c23:=Oc aOw rfl aG [(69,c69),(70,c70),(71,c71)] ⟨aCg,aCi,aCh,trivial⟩ fun a=>by kernel_rfl
def eK (p0:Int×Int×Int×Int×Int) (p1:Int×Int×Int×Int×Int):Option Bool:=
 (tB (p0.1,p0.2.1) (p1.1,p1.2.1)).bind fun n0=>
 bif decide (n0<0) then
  some true
 else
  bif n0==0 then
   some (decide (p0.2.2.1<p1.2.2.1))
  else
   some false
def WE:bJ:=⟨aC.cons (aM.agg (cJ.row mG)) (aC.one (aM.agg (cJ.row mG))),aM.bool,fun a=>eK a.1 a.2,.pure,false⟩
theorem D5:aK tab 191 WE:=Oc aHj rfl aG [(23,c23)] ⟨aPo,trivial⟩ fun a=>by kernel_rfl
def fP (a:aPh):Option aPi:=
 (aO a.2.2.2.2.2.1 a.2.1).bind fun a0=>
 (aO a.2.2.2.2.2.1 a.1).bind fun a1=>
 (aO a.2.2.2.2.2.1 a.1).bind fun _=>
 (aO (cB a.2.2.2.2.2.1 a.1 a0) a.2.1).bind fun _=>
 (aO (cB (cB a.2.2.2.2.2.1 a.1 a0) a.2.1 a1) a.1).bind fun a4=>
 (aO (cB (cB a.2.2.2.2.2.1 a.1 a0) a.2.1 a1) a.2.1).bind fun a5=>
 (aO a.2.2.2.2.2.2 a4.2.2.2.1).bind fun _=>
 (aO (cB a.2.2.2.2.2.2 a4.2.2.2.1 a.1) a5.2.2.2.1).bind fun _=>
 bif a.2.2.1.length==a.2.2.1.length then
  bif a.2.2.2.1.length==a.2.2.2.1.length then
   bif a.2.2.2.2.1.length==a.2.2.2.2.1.length then
    bif ((cB (cB a.2.2.2.2.2.1 a.1 a0) a.2.1 a1).length)==a.2.2.2.2.2.1.length then
     bif ((cB (cB a.2.2.2.2.2.2 a4.2.2.2.1 a.1) a5.2.2.2.1 a.2.1).length)==a.2.2.2.2.2.2.length then
      some (a.2.2.1,a.2.2.2.1,a.2.2.2.2.1,cB (cB a.2.2.2.2.2.1 a.1 a0) a.2.1 a1,cB (cB a.2.2.2.2.2.2 a4.2.2.2.1 a.1) a5.2.2.2.1 a.2.1)
     else
      none
    else
     none
   else
    none
  else
   none
 else
  none
def F1:eC:=⟨[.i,.i,.l [.i .i64],.l [.b],.l [.i .i64],.l [.i .i64,.i .i64,.i .i64,.i .i64,.i .i64],.l [.i .i64]],[.agg [.own 0 false,.own 1 false,.own 2 false,.own 3 false,.own 4 false],.int .i64 0,.int .i64 0],[.arr [.i .i64] [],.arr [.b] [],.arr [.i .i64] [],.arr [.i .i64,.i .i64,.i .i64,.i .i64,.i .i64] [],.arr [.i .i64] []],[.l [.i .i64],.l [.b],.l [.i .i64],.l [.i .i64,.i .i64,.i .i64,.i .i64,.i .i64],.l [.i .i64]],.tup [],[.arr [.i .i64] [],.arr [.b] [],.arr [.i .i64] [],.arr [.i .i64,.i .i64,.i .i64,.i .i64,.i .i64] [],.arr [.i .i64] []],fun a=>fP a⟩
theorem wB:kU tab 286 F1:=kU.of QI (wd:=false) (cx:=(oX aG [] [] [] [])) (lY.make trivial trivial trivial) (fun a=>by kernel_rfl)
def gV (a:((List Int)×(List Bool)×(List Int)×Nat×Nat×Int×Int×kV×(List Int))):Option NY:=
 (aO (a.2.2.2.2.2.2.2.1.take a.2.2.2.1) a.2.2.2.2.2.2.1).bind fun a0=>
 (aO (a.2.2.2.2.2.2.2.1.take a.2.2.2.1) a.2.2.2.2.2.1).bind fun a1=>
 (aO (a.2.2.2.2.2.2.2.1.take a.2.2.2.1) a.2.2.2.2.2.1).bind fun _=>
 (aO ((cB a.2.2.2.2.2.2.2.1 a.2.2.2.2.2.1 a0).take a.2.2.2.1) a.2.2.2.2.2.2.1).bind fun _=>
 (aO ((cB (cB a.2.2.2.2.2.2.2.1 a.2.2.2.2.2.1 a0) a.2.2.2.2.2.2.1 a1).take a.2.2.2.1) a.2.2.2.2.2.1).bind fun a4=>
 (aO ((cB (cB a.2.2.2.2.2.2.2.1 a.2.2.2.2.2.1 a0) a.2.2.2.2.2.2.1 a1).take a.2.2.2.1) a.2.2.2.2.2.2.1).bind fun a5=>
 (aO a.2.2.2.2.2.2.2.2 a4.2.2.2.1).bind fun _=>
 (aO (cB a.2.2.2.2.2.2.2.2 a4.2.2.2.1 a.2.2.2.2.2.1) a5.2.2.2.1).bind fun _=>
 bif ((cB (cB a.2.2.2.2.2.2.2.1 a.2.2.2.2.2.1 a0) a.2.2.2.2.2.2.1 a1).length)==a.2.2.2.2.2.2.2.1.length then
  bif ((cB (cB a.2.2.2.2.2.2.2.2 a4.2.2.2.1 a.2.2.2.2.2.1) a5.2.2.2.1 a.2.2.2.2.2.2.1).length)==a.2.2.2.2.2.2.2.2.length then
   some (cB (cB a.2.2.2.2.2.2.2.1 a.2.2.2.2.2.1 a0) a.2.2.2.2.2.2.1 a1,cB (cB a.2.2.2.2.2.2.2.2 a4.2.2.2.1 a.2.2.2.2.2.1) a5.2.2.2.1 a.2.2.2.2.2.2.1)
  else
   none
 else
  none
def F2:eC:=⟨[.l [.i .i64],.l [.b],.l [.i .i64],.n,.n,.i,.i,.l [.i .i64,.i .i64,.i .i64,.i .i64,.i .i64],.l [.i .i64]],[.agg [.sl [.i .i64] [],.sl [.b] [],.sl [.i .i64] [],.pre 0 0 0 false,.own 1 false],.int .i64 0,.int .i64 0],[.arr [.i .i64,.i .i64,.i .i64,.i .i64,.i .i64] [],.arr [.i .i64] []],[.l [.i .i64,.i .i64,.i .i64,.i .i64,.i .i64],.l [.i .i64]],.tup [],[.arr [.i .i64,.i .i64,.i .i64,.i .i64,.i .i64] [],.arr [.i .i64] []],fun a=>gV a⟩
theorem wC:kU tab 286 F2:=kU.of QI (wd:=false) (cx:=(oX aG [] [] [] [])) (lY.make trivial trivial trivial) (fun a=>by kernel_rfl)
def iJ (c0:aIw) (s:aIx):Option (cH aIx aIA):=
 bif decide (0<s.1) then
  (aO (s.2.1.take s.2.2.2.2.2.2.1) s.1).bind fun a0=>
  (aO (s.2.1.take s.2.2.2.2.2.2.1) (aA .i64 (Int.tdiv (aA .i64 (s.1-1)) 2))).bind fun a1=>
  (eK a0 a1).bind fun b2=>
  bif b2 then
   (gV (s.2.2.2.1,s.2.2.2.2.1,s.2.2.2.2.2.1,s.2.2.2.2.2.2.1,s.2.2.2.2.2.2.2,s.1,aA .i64 (Int.tdiv (aA .i64 (s.1-1)) 2),s.2.1,s.2.2.1)).bind fun a3=>
   some (.next (aA .i64 (Int.tdiv (aA .i64 (s.1-1)) 2),a3.1,a3.2,s.2.2.2))
  else
   bif s.2.1.length==c0.2.2.2.2.2.2.1.length then
    bif s.2.2.1.length==c0.2.2.2.2.2.2.2.length then
     some (.done (s.1,s.2.1,s.2.2.1))
    else
     none
   else
    none
 else
  bif s.2.1.length==c0.2.2.2.2.2.2.1.length then
   bif s.2.2.1.length==c0.2.2.2.2.2.2.2.length then
    some (.done (s.1,s.2.1,s.2.2.1))
   else
    none
  else
   none
def nV (a:aIw):Option aIA:=
 aH (iJ a) (a.2.2.2.2.2.1,a.2.2.2.2.2.2.1,a.2.2.2.2.2.2.2,a.1,a.2.1,a.2.2.1,a.2.2.2.1,a.2.2.2.2.1)
def QO:eC:=⟨[.l [.i .i64],.l [.b],.l [.i .i64],.n,.n,.i,.l [.i .i64,.i .i64,.i .i64,.i .i64,.i .i64],.l [.i .i64]],[.agg [.sl [.i .i64] [],.sl [.b] [],.sl [.i .i64] [],.pre 0 0 0 false,.own 1 false],.int .i64 0],[.arr [.i .i64,.i .i64,.i .i64,.i .i64,.i .i64] [],.arr [.i .i64] []],[.i,.l [.i .i64,.i .i64,.i .i64,.i .i64,.i .i64],.l [.i .i64]],.int .i64 0,[.arr [.i .i64,.i .i64,.i .i64,.i .i64,.i .i64] [],.arr [.i .i64] []],fun a=>nV a⟩
theorem I2:kU tab 289 QO:=kU.of QJ (wd:=true) (cx:=(oX aG [(191,WE)] [(286,F1),(286,F2)] [] [])) (lY.make ⟨D5,trivial⟩ ⟨wB,wC,trivial⟩ trivial) (fun a=>by kernel_rfl)
def kX (c0:aIw) (s:aIx):Option (cH aIx NY):=
 bif decide ((Int.ofNat s.2.2.2.2.2.2.1)<=(aA .i64 ((aA .i64 (2*s.1))+1))) then
  bif s.2.1.length==c0.2.2.2.2.2.2.1.length then
   bif s.2.2.1.length==c0.2.2.2.2.2.2.2.length then
    some (.done (s.2.1,s.2.2.1))
   else
    none
  else
   none
 else
  bif decide ((aA .i64 ((aA .i64 ((aA .i64 (2*s.1))+1))+1))<(Int.ofNat s.2.2.2.2.2.2.1)) then
   (aO (s.2.1.take s.2.2.2.2.2.2.1) (aA .i64 ((aA .i64 ((aA .i64 (2*s.1))+1))+1))).bind fun a0=>
   (aO (s.2.1.take s.2.2.2.2.2.2.1) (aA .i64 ((aA .i64 (2*s.1))+1))).bind fun a1=>
   (eK a0 a1).bind fun b2=>
   bif b2 then
    (aO (s.2.1.take s.2.2.2.2.2.2.1) (aA .i64 ((aA .i64 ((aA .i64 (2*s.1))+1))+1))).bind fun a3=>
    (aO (s.2.1.take s.2.2.2.2.2.2.1) s.1).bind fun a4=>
    (eK a3 a4).bind fun b5=>
    bif !b5 then
     bif s.2.1.length==c0.2.2.2.2.2.2.1.length then
      bif s.2.2.1.length==c0.2.2.2.2.2.2.2.length then
       some (.done (s.2.1,s.2.2.1))
      else
       none
     else
      none
    else
     (gV (s.2.2.2.1,s.2.2.2.2.1,s.2.2.2.2.2.1,s.2.2.2.2.2.2.1,s.2.2.2.2.2.2.2,s.1,aA .i64 ((aA .i64 ((aA .i64 (2*s.1))+1))+1),s.2.1,s.2.2.1)).bind fun a6=>
     some (.next (aA .i64 ((aA .i64 ((aA .i64 (2*s.1))+1))+1),a6.1,a6.2,s.2.2.2))
   else
    (aO (s.2.1.take s.2.2.2.2.2.2.1) (aA .i64 ((aA .i64 (2*s.1))+1))).bind fun a7=>
    (aO (s.2.1.take s.2.2.2.2.2.2.1) s.1).bind fun a8=>
    (eK a7 a8).bind fun b9=>
    bif !b9 then
     bif s.2.1.length==c0.2.2.2.2.2.2.1.length then
      bif s.2.2.1.length==c0.2.2.2.2.2.2.2.length then
       some (.done (s.2.1,s.2.2.1))
      else
       none
     else
      none
    else
     (gV (s.2.2.2.1,s.2.2.2.2.1,s.2.2.2.2.2.1,s.2.2.2.2.2.2.1,s.2.2.2.2.2.2.2,s.1,aA .i64 ((aA .i64 (2*s.1))+1),s.2.1,s.2.2.1)).bind fun a10=>
     some (.next (aA .i64 ((aA .i64 (2*s.1))+1),a10.1,a10.2,s.2.2.2))
  else
   (aO (s.2.1.take s.2.2.2.2.2.2.1) (aA .i64 ((aA .i64 (2*s.1))+1))).bind fun a11=>
   (aO (s.2.1.take s.2.2.2.2.2.2.1) s.1).bind fun a12=>
   (eK a11 a12).bind fun b13=>
   bif !b13 then
    bif s.2.1.length==c0.2.2.2.2.2.2.1.length then
     bif s.2.2.1.length==c0.2.2.2.2.2.2.2.length then
      some (.done (s.2.1,s.2.2.1))
     else
      none
    else
     none
   else
    (gV (s.2.2.2.1,s.2.2.2.2.1,s.2.2.2.2.2.1,s.2.2.2.2.2.2.1,s.2.2.2.2.2.2.2,s.1,aA .i64 ((aA .i64 (2*s.1))+1),s.2.1,s.2.2.1)).bind fun a14=>
    some (.next (aA .i64 ((aA .i64 (2*s.1))+1),a14.1,a14.2,s.2.2.2))
def lI (a:aIw):Option NY:=
 aH (kX a) (a.2.2.2.2.2.1,a.2.2.2.2.2.2.1,a.2.2.2.2.2.2.2,a.1,a.2.1,a.2.2.1,a.2.2.2.1,a.2.2.2.2.1)
def WG:eC:=⟨[.l [.i .i64],.l [.b],.l [.i .i64],.n,.n,.i,.l [.i .i64,.i .i64,.i .i64,.i .i64,.i .i64],.l [.i .i64]],[.agg [.sl [.i .i64] [],.sl [.b] [],.sl [.i .i64] [],.pre 0 0 0 false,.own 1 false],.int .i64 0],[.arr [.i .i64,.i .i64,.i .i64,.i .i64,.i .i64] [],.arr [.i .i64] []],[.l [.i .i64,.i .i64,.i .i64,.i .i64,.i .i64],.l [.i .i64]],.tup [],[.arr [.i .i64,.i .i64,.i .i64,.i .i64,.i .i64] [],.arr [.i .i64] []],fun a=>lI a⟩
theorem OZ:kU tab 288 WG:=kU.of YU (wd:=false) (cx:=(oX aG [(191,WE)] [(286,F1),(286,F2)] [] [])) (lY.make ⟨D5,trivial⟩ ⟨wB,wC,trivial⟩ trivial) (fun a=>by kernel_rfl)
def kK (p0:aI) (p1:Int×Int):Option aI:=
 (nT p0).bind fun r0=>
 (aO r0.where_ p1.1).bind fun n1=>
 bif n1 !=(aA .i64 ((Int.ofNat r0.heap.length) -1)) then
  (fP (n1,aA .i64 ((Int.ofNat r0.heap.length) -1),r0.slots.uses,r0.slots.used,r0.slots.free,r0.heap,r0.where_)).bind fun a2=>
  (jD a2.2.2.2.1 0 (aA .i64 ((Int.ofNat r0.heap.length) -1))).bind fun _=>
  (aO a2.2.2.2.2 p1.1).bind fun _=>
  (qF (aR.mk a2.1 a2.2.1 a2.2.2.1) p1).bind fun r5=>
  bif n1 !=(aA .i64 ((Int.ofNat r0.heap.length) -1)) then
   (nV (r5.uses,r5.used,r5.free,(aA .i64 ((Int.ofNat r0.heap.length) -1)).toNat,a2.2.2.2.1.length,n1,a2.2.2.2.1,cB a2.2.2.2.2 p1.1 (-1))).bind fun a6=>
   (lI (r5.uses,r5.used,r5.free,(aA .i64 ((Int.ofNat r0.heap.length) -1)).toNat,a2.2.2.2.1.length,a6)).bind fun a7=>
   some (aI.mk r5 (a7.1.take ((aA .i64 ((Int.ofNat r0.heap.length) -1)).toNat)) a7.2)
  else
   some (aI.mk r5 (a2.2.2.2.1.take ((aA .i64 ((Int.ofNat r0.heap.length) -1)).toNat)) (cB a2.2.2.2.2 p1.1 (-1)))
 else
  (jD r0.heap 0 (aA .i64 ((Int.ofNat r0.heap.length) -1))).bind fun _=>
  (aO r0.where_ p1.1).bind fun _=>
  (qF r0.slots p1).bind fun r10=>
  bif n1 !=(aA .i64 ((Int.ofNat r0.heap.length) -1)) then
   (nV (r10.uses,r10.used,r10.free,(aA .i64 ((Int.ofNat r0.heap.length) -1)).toNat,r0.heap.length,n1,r0.heap,cB r0.where_ p1.1 (-1))).bind fun a11=>
   (lI (r10.uses,r10.used,r10.free,(aA .i64 ((Int.ofNat r0.heap.length) -1)).toNat,r0.heap.length,a11)).bind fun a12=>
   some (aI.mk r10 (a12.1.take ((aA .i64 ((Int.ofNat r0.heap.length) -1)).toNat)) a12.2)
  else
   some (aI.mk r10 (r0.heap.take ((aA .i64 ((Int.ofNat r0.heap.length) -1)).toNat)) (cB r0.where_ p1.1 (-1)))
def aPp:bJ:=⟨aC.cons (aM.agg cZ) (aC.one (aM.agg (cJ.row jS))),aM.agg cZ,fun a=>kK a.1 a.2,.frz,false⟩
theorem YZ:aK tab 255 aPp:=aK.of aHX (cx:=(oX aG [(149,aAD),(149,OY),(287,aRA)] [(286,F1),(286,F2),(289,QO),(288,WG)] [] [])) rfl (lY.make ⟨HC,C2,aIN,trivial⟩ ⟨wB,wC,I2,OZ,trivial⟩ trivial) (fun a=>by kernel_rfl)
def wP (p0:aQ) (p1:Int):Option aQ:=
 (nU p0).bind fun r0=>
 (sZ p0.certs p1).bind fun r1=>
 (qE p0 p1).bind fun n2=>
 bif decide (0<=n2) then
  (aO p0.due n2).bind fun a3=>
  (kK p0.agenda a3.2).bind fun r4=>
  (jD p0.due 0 n2).bind fun l5=>
  (cD l5).bind fun l6=>
  (jD p0.due (aA .i64 (n2+1)) (Int.ofNat p0.due.length)).bind fun l7=>
  bif l7.isEmpty then
   some (aQ.mk r0.now r0.field r1 r4 l6)
  else
   (bF l6 l7).bind fun l8=>
   some (aQ.mk r0.now r0.field r1 r4 l8)
 else
  some (aQ.mk r0.now r0.field r1 r0.agenda r0.due)
def aRB:bJ:=⟨aC.cons (aM.agg bU) (aC.one (aM.int .i64)),aM.agg bU,fun a=>wP a.1 a.2,.frz,false⟩
theorem aIO:aK tab 203 aRB:=Oc aHs rfl aG [(89,c89),(89,aCn),(253,aRz),(254,aPn),(255,aPp)] ⟨QN,KQ,aIM,YY,YZ,trivial⟩ fun a=>by kernel_rfl
def tC (s:(Int×bR×bR)):Option (cH (Int×bR×bR) Bool):=
 bif decide (s.1<(Int.ofNat s.2.1.length)) then
  (aO s.2.1 s.1).bind fun a0=>
  (aO s.2.2 s.1).bind fun a1=>
  bif !((a0.1==a1.1)&&((a0.2.1==a1.2.1)&&(a0.2.2==a1.2.2))) then
   some (.done false)
  else
   some (.next (aA .i64 (s.1+1),s.2))
 else
  some (.done true)
def mI (p0:Field) (p1:Field):Option Bool:=
 bif (Int.ofNat p0.points.length) !=(Int.ofNat p1.points.length) then
  some false
 else
  aH tC (0,p0.points,p1.points)
def c45:bJ:=⟨aC.cons (aM.agg bS) (aC.one (aM.agg bS)),aM.bool,fun a=>mI a.1 a.2,.pure,false⟩
theorem WH:aK tab 45 c45:=Oc aOI rfl aG [] trivial fun a=>by kernel_rfl
def uI (s:aAB):Option aPk:=
 bif decide (s.2.1<(Int.ofNat s.2.2.length)) then
  (aO s.2.2 s.2.1).bind fun a0=>
  bif a0.1==s.1 then
   some (.done s.2.1)
  else
   some (.next (s.1,aA .i64 (s.2.1+1),s.2.2))
 else
  some (.done (-1))
def hO (p0:Field) (p1:Int):Option Int:=
 aH uI (p1,0,p0.points)
def c21:bJ:=⟨aC.cons (aM.agg bS) (aC.one (aM.int .i64)),aM.int .i64,fun a=>hO a.1 a.2,.pure,false⟩
theorem WI:aK tab 21 c21:=Oc aOv rfl aG [] trivial fun a=>by kernel_rfl
def sG (p0:Bool) (p1:Bool×Int×Int) (p2:Bool×Int×Int):Option ((Int×Int)×Int):=
 bif decide (0<p1.2.1) then
  some ((0,0),16)
 else
  bif decide (9223372036854775807<p1.2.2) then
   some ((0,0),16)
  else
   bif decide (0<p2.2.1) then
    some ((0,0),16)
   else
    bif decide (9223372036854775807<p2.2.2) then
     some ((0,0),16)
    else
     bif p0 then
      some ((aA .i64 (0- (aA .i64 p1.2.2)),aA .i64 p2.2.2),0)
     else
      some ((aA .i64 p1.2.2,aA .i64 p2.2.2),0)
def aRC:bJ:=⟨aC.cons aM.bool (aC.cons (aM.agg (cJ.row C0)) (aC.one (aM.agg (cJ.row C0)))),aM.tup (aC.cons (aM.agg (cJ.row jS)) (aC.one (aM.int .i64))),fun a=>sG a.1 a.2.1 a.2.2,.pure,false⟩
theorem aIP:aK tab 302 aRC:=Oc aIq rfl aG [] trivial fun a=>by kernel_rfl
def nW (p0:Int) (p1:Int):Option ((Int×Int)×Int):=
 bif p1==0 then
  some ((0,0),26)
 else
  (iO p0).bind fun n0=>
  (iO p1).bind fun n1=>
  (qV n0 n1).bind fun n2=>
  bif !((decide (p0<0))==(decide (p1<0))) then
   (iO p0).bind fun n3=>
   bif n2==0 then
    none
   else
    (iO p1).bind fun n4=>
    bif n2==0 then
     none
    else
     (sG (p0 !=0) (false,0,aA .u64 (Int.tdiv n3 n2)) (false,0,aA .u64 (Int.tdiv n4 n2))).bind fun a5=>
     some a5
  else
   (iO p0).bind fun n6=>
   bif n2==0 then
    none
   else
    (iO p1).bind fun n7=>
    bif n2==0 then
     none
    else
     (sG false (false,0,aA .u64 (Int.tdiv n6 n2)) (false,0,aA .u64 (Int.tdiv n7 n2))).bind fun a8=>
     some a8
def aRD:bJ:=⟨aC.cons (aM.int .i64) (aC.one (aM.int .i64)),aM.tup (aC.cons (aM.agg (cJ.row jS)) (aC.one (aM.int .i64))),fun a=>nW a.1 a.2,.pure,false⟩
theorem aIQ:aK tab 282 aRD:=Oc aIf rfl aG [(54,c54),(53,c53),(302,aRC)] ⟨WB,aCe,aIP,trivial⟩ fun a=>by kernel_rfl
def D6 (p0:Int×Int×Int) (p1:Int×Int×Int):Option (Int×Int):=
 (nW (aA .i64 (p0.2.1-p1.2.1)) (aA .i64 (p1.2.2-p0.2.2))).bind fun a0=>
 some a0.1
def aRE:bJ:=⟨aC.cons (aM.agg (cJ.row dV)) (aC.one (aM.agg (cJ.row dV))),aM.agg (cJ.row jS),fun a=>D6 a.1 a.2,.pure,false⟩
theorem aIR:aK tab 241 aRE:=Oc aHR rfl aG [(282,aRD)] ⟨aIQ,trivial⟩ fun a=>by kernel_rfl
def tD (p0:Int×Int×Int) (p1:Int×Int×Int) (p2:Int×Int):Option ((Int×Int)×Bool):=
 (qC p1 p0 p2).bind fun b0=>
 bif b0 then
  some (p2,true)
 else
  bif decide (p0.2.2<p1.2.2) then
   (D6 p0 p1).bind fun a1=>
   some (a1,true)
  else
   some ((0,0),false)
def aRF:bJ:=⟨aC.cons (aM.agg (cJ.row dV)) (aC.cons (aM.agg (cJ.row dV)) (aC.one (aM.agg (cJ.row jS)))),aM.tup (aC.cons (aM.agg (cJ.row jS)) (aC.one aM.bool)),fun a=>tD a.1 a.2.1 a.2.2,.pure,false⟩
theorem aIS:aK tab 192 aRF:=Oc aHk rfl aG [(67,c67),(241,aRE)] ⟨WD,aIR,trivial⟩ fun a=>by kernel_rfl
def sH (p0:Field) (p1:Int×Int) (p2:Int×Int):Option ((Int×Int)×Bool):=
 (hO p0 p1.2).bind fun n0=>
 (aO p0.points n0).bind fun a1=>
 (hO p0 p1.1).bind fun n2=>
 (aO p0.points n2).bind fun a3=>
 (tD a1 a3 p2).bind fun a4=>
 some a4
def aIT:bJ:=⟨aC.cons (aM.agg bS) (aC.cons (aM.agg (cJ.row jS)) (aC.one (aM.agg (cJ.row jS)))),aM.tup (aC.cons (aM.agg (cJ.row jS)) (aC.one aM.bool)),fun a=>sH a.1 a.2.1 a.2.2,.pure,false⟩
theorem QP:aK tab 131 aIT:=Oc aGF rfl aG [(21,c21),(192,aRF)] ⟨WI,aIS,trivial⟩ fun a=>by kernel_rfl
def iK (c0:G9) (s:G9):Option (cH G9 G9):=
 bif decide (0<s.1) then
  (aO s.2.2.2.2.1 s.1).bind fun a0=>
  (aO s.2.2.2.2.1 (aA .i64 (Int.tdiv (aA .i64 (s.1-1)) 2))).bind fun a1=>
  (eK a0 a1).bind fun b2=>
  bif b2 then
   (fP (s.1,aA .i64 (Int.tdiv (aA .i64 (s.1-1)) 2),s.2)).bind fun a3=>
   some (.next (aA .i64 (Int.tdiv (aA .i64 (s.1-1)) 2),a3))
  else
   bif s.2.1.length==c0.2.1.length then
    bif s.2.2.1.length==c0.2.2.1.length then
     bif s.2.2.2.1.length==c0.2.2.2.1.length then
      bif s.2.2.2.2.1.length==c0.2.2.2.2.1.length then
       bif s.2.2.2.2.2.length==c0.2.2.2.2.2.length then
        some (.done s)
       else
        none
      else
       none
     else
      none
    else
     none
   else
    none
 else
  bif s.2.1.length==c0.2.1.length then
   bif s.2.2.1.length==c0.2.2.1.length then
    bif s.2.2.2.1.length==c0.2.2.2.1.length then
     bif s.2.2.2.2.1.length==c0.2.2.2.2.1.length then
      bif s.2.2.2.2.2.length==c0.2.2.2.2.2.length then
       some (.done s)
      else
       none
     else
      none
    else
     none
   else
    none
  else
   none
def qX (a:G9):Option G9:=
 aH (iK a) a
def WJ:eC:=⟨[.i,.l [.i .i64],.l [.b],.l [.i .i64],.l [.i .i64,.i .i64,.i .i64,.i .i64,.i .i64],.l [.i .i64]],[.agg [.own 0 false,.own 1 false,.own 2 false,.own 3 false,.own 4 false],.int .i64 0],[.arr [.i .i64] [],.arr [.b] [],.arr [.i .i64] [],.arr [.i .i64,.i .i64,.i .i64,.i .i64,.i .i64] [],.arr [.i .i64] []],[.i,.l [.i .i64],.l [.b],.l [.i .i64],.l [.i .i64,.i .i64,.i .i64,.i .i64,.i .i64],.l [.i .i64]],.int .i64 0,[.arr [.i .i64] [],.arr [.b] [],.arr [.i .i64] [],.arr [.i .i64,.i .i64,.i .i64,.i .i64,.i .i64] [],.arr [.i .i64] []],fun a=>qX a⟩
theorem O0:kU tab 289 WJ:=kU.of QJ (wd:=false) (cx:=(oX aG [(191,WE)] [(286,F1),(286,F2)] [] [])) (lY.make ⟨D5,trivial⟩ ⟨wB,wC,trivial⟩ trivial) (fun a=>by kernel_rfl)
def kY (c0:G9) (s:G9):Option (cH G9 aPi):=
 bif decide ((Int.ofNat s.2.2.2.2.1.length)<=(aA .i64 ((aA .i64 (2*s.1))+1))) then
  bif s.2.1.length==c0.2.1.length then
   bif s.2.2.1.length==c0.2.2.1.length then
    bif s.2.2.2.1.length==c0.2.2.2.1.length then
     bif s.2.2.2.2.1.length==c0.2.2.2.2.1.length then
      bif s.2.2.2.2.2.length==c0.2.2.2.2.2.length then
       some (.done s.2)
      else
       none
     else
      none
    else
     none
   else
    none
  else
   none
 else
  bif decide ((aA .i64 ((aA .i64 ((aA .i64 (2*s.1))+1))+1))<(Int.ofNat s.2.2.2.2.1.length)) then
   (aO s.2.2.2.2.1 (aA .i64 ((aA .i64 ((aA .i64 (2*s.1))+1))+1))).bind fun a0=>
   (aO s.2.2.2.2.1 (aA .i64 ((aA .i64 (2*s.1))+1))).bind fun a1=>
   (eK a0 a1).bind fun b2=>
   bif b2 then
    (aO s.2.2.2.2.1 (aA .i64 ((aA .i64 ((aA .i64 (2*s.1))+1))+1))).bind fun a3=>
    (aO s.2.2.2.2.1 s.1).bind fun a4=>
    (eK a3 a4).bind fun b5=>
    bif !b5 then
     bif s.2.1.length==c0.2.1.length then
      bif s.2.2.1.length==c0.2.2.1.length then
       bif s.2.2.2.1.length==c0.2.2.2.1.length then
        bif s.2.2.2.2.1.length==c0.2.2.2.2.1.length then
         bif s.2.2.2.2.2.length==c0.2.2.2.2.2.length then
          some (.done s.2)
         else
          none
        else
         none
       else
        none
      else
       none
     else
      none
    else
     (fP (s.1,aA .i64 ((aA .i64 ((aA .i64 (2*s.1))+1))+1),s.2)).bind fun a6=>
     some (.next (aA .i64 ((aA .i64 ((aA .i64 (2*s.1))+1))+1),a6))
   else
    (aO s.2.2.2.2.1 (aA .i64 ((aA .i64 (2*s.1))+1))).bind fun a7=>
    (aO s.2.2.2.2.1 s.1).bind fun a8=>
    (eK a7 a8).bind fun b9=>
    bif !b9 then
     bif s.2.1.length==c0.2.1.length then
      bif s.2.2.1.length==c0.2.2.1.length then
       bif s.2.2.2.1.length==c0.2.2.2.1.length then
        bif s.2.2.2.2.1.length==c0.2.2.2.2.1.length then
         bif s.2.2.2.2.2.length==c0.2.2.2.2.2.length then
          some (.done s.2)
         else
          none
        else
         none
       else
        none
      else
       none
     else
      none
    else
     (fP (s.1,aA .i64 ((aA .i64 (2*s.1))+1),s.2)).bind fun a10=>
     some (.next (aA .i64 ((aA .i64 (2*s.1))+1),a10))
  else
   (aO s.2.2.2.2.1 (aA .i64 ((aA .i64 (2*s.1))+1))).bind fun a11=>
   (aO s.2.2.2.2.1 s.1).bind fun a12=>
   (eK a11 a12).bind fun b13=>
   bif !b13 then
    bif s.2.1.length==c0.2.1.length then
     bif s.2.2.1.length==c0.2.2.1.length then
      bif s.2.2.2.1.length==c0.2.2.2.1.length then
       bif s.2.2.2.2.1.length==c0.2.2.2.2.1.length then
        bif s.2.2.2.2.2.length==c0.2.2.2.2.2.length then
         some (.done s.2)
        else
         none
       else
        none
      else
       none
     else
      none
    else
     none
   else
    (fP (s.1,aA .i64 ((aA .i64 (2*s.1))+1),s.2)).bind fun a14=>
    some (.next (aA .i64 ((aA .i64 (2*s.1))+1),a14))
def oN (a:G9):Option aPi:=
 aH (kY a) a
def aCo:eC:=⟨[.i,.l [.i .i64],.l [.b],.l [.i .i64],.l [.i .i64,.i .i64,.i .i64,.i .i64,.i .i64],.l [.i .i64]],[.agg [.own 0 false,.own 1 false,.own 2 false,.own 3 false,.own 4 false],.int .i64 0],[.arr [.i .i64] [],.arr [.b] [],.arr [.i .i64] [],.arr [.i .i64,.i .i64,.i .i64,.i .i64,.i .i64] [],.arr [.i .i64] []],[.l [.i .i64],.l [.b],.l [.i .i64],.l [.i .i64,.i .i64,.i .i64,.i .i64,.i .i64],.l [.i .i64]],.tup [],[.arr [.i .i64] [],.arr [.b] [],.arr [.i .i64] [],.arr [.i .i64,.i .i64,.i .i64,.i .i64,.i .i64] [],.arr [.i .i64] []],fun a=>oN a⟩
theorem aAE:kU tab 288 aCo:=kU.of YU (wd:=false) (cx:=(oX aG [(191,WE)] [(286,F1),(286,F2)] [] [])) (lY.make ⟨D5,trivial⟩ ⟨wB,wC,trivial⟩ trivial) (fun a=>by kernel_rfl)
def tF (p0:aI) (p1:Int×Int) (p2:Int×Int):Option aI:=
 (nT p0).bind fun r0=>
 (aO r0.where_ p1.1).bind fun n1=>
 (aO r0.heap n1).bind fun a2=>
 (qX (n1,r0.slots.uses,r0.slots.used,r0.slots.free,cB r0.heap n1 (p2.1,p2.2,a2.2.2),r0.where_)).bind fun a3=>
 (oN a3).bind fun a4=>
 some (aI.mk (aR.mk a4.1 a4.2.1 a4.2.2.1) a4.2.2.2.1 a4.2.2.2.2)
def aRG:bJ:=⟨aC.cons (aM.agg cZ) (aC.cons (aM.agg (cJ.row jS)) (aC.one (aM.agg (cJ.row jS)))),aM.agg cZ,fun a=>tF a.1 a.2.1 a.2.2,.frz,false⟩
theorem aIU:aK tab 256 aRG:=aK.of aHY (cx:=(oX aG [(149,aAD),(149,OY)] [(289,QO),(288,WG),(289,WJ),(288,aCo)] [] [])) rfl (lY.make ⟨HC,C2,trivial⟩ ⟨I2,OZ,O0,aAE,trivial⟩ trivial) (fun a=>by kernel_rfl)
def gW (p0:aR):Option Bool:=
 bif decide (0<(Int.ofNat p0.free.length)) then
  (aO p0.free (aA .i64 ((Int.ofNat p0.free.length) -1))).bind fun n0=>
  (aO p0.uses n0).bind fun n1=>
  some (decide (n1<1000000))
 else
  some false
def aPq:bJ:=⟨aC.one (aM.agg gC),aM.bool,fun a=>gW a,.pure,false⟩
theorem Y0:aK tab 257 aPq:=Oc aHZ rfl aG [] trivial fun a=>by kernel_rfl
def xW (p0:aR):Option (aR×(Int×Int)):=
 (pR p0).bind fun r0=>
 (aO r0.free (aA .i64 ((Int.ofNat r0.free.length) -1))).bind fun n1=>
 (jD r0.free 0 (aA .i64 ((Int.ofNat r0.free.length) -1))).bind fun _=>
 (aO r0.uses n1).bind fun n3=>
 (aO r0.uses n1).bind fun _=>
 (aO r0.used n1).bind fun _=>
 (aO (cB r0.uses n1 (aA .i64 (n3+1))) n1).bind fun n6=>
 some (aR.mk (cB r0.uses n1 (aA .i64 (n3+1))) (cB r0.used n1 true) (r0.free.take ((aA .i64 ((Int.ofNat r0.free.length) -1)).toNat)),n1,n6)
def aRH:bJ:=⟨aC.one (aM.agg gC),aM.tup (aC.cons (aM.agg gC) (aC.one (aM.agg (cJ.row jS)))),fun a=>xW a,.frz,false⟩
theorem aIV:aK tab 290 aRH:=Oc aIh rfl aG [(202,aCm),(202,TI)] ⟨KP,HB,trivial⟩ fun a=>by kernel_rfl
def oO (a:((List Int)×(List Bool)×(List Int)×Int×Int×kV×(List Int))):Option NY:=
 (aO a.2.2.2.2.2.1 a.2.2.2.2.1).bind fun a0=>
 (aO a.2.2.2.2.2.1 a.2.2.2.1).bind fun a1=>
 (aO a.2.2.2.2.2.1 a.2.2.2.1).bind fun _=>
 (aO (cB a.2.2.2.2.2.1 a.2.2.2.1 a0) a.2.2.2.2.1).bind fun _=>
 (aO (cB (cB a.2.2.2.2.2.1 a.2.2.2.1 a0) a.2.2.2.2.1 a1) a.2.2.2.1).bind fun a4=>
 (aO (cB (cB a.2.2.2.2.2.1 a.2.2.2.1 a0) a.2.2.2.2.1 a1) a.2.2.2.2.1).bind fun a5=>
 (aO a.2.2.2.2.2.2 a4.2.2.2.1).bind fun _=>
 (aO (cB a.2.2.2.2.2.2 a4.2.2.2.1 a.2.2.2.1) a5.2.2.2.1).bind fun _=>
 bif ((cB (cB a.2.2.2.2.2.1 a.2.2.2.1 a0) a.2.2.2.2.1 a1).length)==a.2.2.2.2.2.1.length then
  bif ((cB (cB a.2.2.2.2.2.2 a4.2.2.2.1 a.2.2.2.1) a5.2.2.2.1 a.2.2.2.2.1).length)==a.2.2.2.2.2.2.length then
   some (cB (cB a.2.2.2.2.2.1 a.2.2.2.1 a0) a.2.2.2.2.1 a1,cB (cB a.2.2.2.2.2.2 a4.2.2.2.1 a.2.2.2.1) a5.2.2.2.1 a.2.2.2.2.1)
  else
   none
 else
  none
def aCp:eC:=⟨[.l [.i .i64],.l [.b],.l [.i .i64],.i,.i,.l [.i .i64,.i .i64,.i .i64,.i .i64,.i .i64],.l [.i .i64]],[.agg [.sl [.i .i64] [],.sl [.b] [],.sl [.i .i64] [],.own 0 false,.own 1 false],.int .i64 0,.int .i64 0],[.arr [.i .i64,.i .i64,.i .i64,.i .i64,.i .i64] [],.arr [.i .i64] []],[.l [.i .i64,.i .i64,.i .i64,.i .i64,.i .i64],.l [.i .i64]],.tup [],[.arr [.i .i64,.i .i64,.i .i64,.i .i64,.i .i64] [],.arr [.i .i64] []],fun a=>oO a⟩
theorem aAF:kU tab 286 aCp:=kU.of QI (wd:=false) (cx:=(oX aG [] [] [] [])) (lY.make trivial trivial trivial) (fun a=>by kernel_rfl)
def iL (c0:aRf) (s:aRg):Option (cH aRg aIA):=
 bif decide (0<s.1) then
  (aO s.2.1 s.1).bind fun a0=>
  (aO s.2.1 (aA .i64 (Int.tdiv (aA .i64 (s.1-1)) 2))).bind fun a1=>
  (eK a0 a1).bind fun b2=>
  bif b2 then
   (oO (s.2.2.2.1,s.2.2.2.2.1,s.2.2.2.2.2,s.1,aA .i64 (Int.tdiv (aA .i64 (s.1-1)) 2),s.2.1,s.2.2.1)).bind fun a3=>
   some (.next (aA .i64 (Int.tdiv (aA .i64 (s.1-1)) 2),a3.1,a3.2,s.2.2.2))
  else
   bif s.2.1.length==c0.2.2.2.2.1.length then
    bif s.2.2.1.length==c0.2.2.2.2.2.length then
     some (.done (s.1,s.2.1,s.2.2.1))
    else
     none
   else
    none
 else
  bif s.2.1.length==c0.2.2.2.2.1.length then
   bif s.2.2.1.length==c0.2.2.2.2.2.length then
    some (.done (s.1,s.2.1,s.2.2.1))
   else
    none
  else
   none
def qY (a:aRf):Option aIA:=
 aH (iL a) (a.2.2.2.1,a.2.2.2.2.1,a.2.2.2.2.2,a.1,a.2.1,a.2.2.1)
def aCq:eC:=⟨[.l [.i .i64],.l [.b],.l [.i .i64],.i,.l [.i .i64,.i .i64,.i .i64,.i .i64,.i .i64],.l [.i .i64]],[.agg [.sl [.i .i64] [],.sl [.b] [],.sl [.i .i64] [],.own 0 false,.own 1 false],.int .i64 0],[.arr [.i .i64,.i .i64,.i .i64,.i .i64,.i .i64] [],.arr [.i .i64] []],[.i,.l [.i .i64,.i .i64,.i .i64,.i .i64,.i .i64],.l [.i .i64]],.int .i64 0,[.arr [.i .i64,.i .i64,.i .i64,.i .i64,.i .i64] [],.arr [.i .i64] []],fun a=>qY a⟩
theorem aAG:kU tab 289 aCq:=kU.of QJ (wd:=true) (cx:=(oX aG [(191,WE)] [(286,F1),(286,F2),(286,aCp)] [] [])) (lY.make ⟨D5,trivial⟩ ⟨wB,wC,aAF,trivial⟩ trivial) (fun a=>by kernel_rfl)
def eQ (p0:aI) (p1:Int×Int) (p2:Int):Option (aI×(Int×Int)):=
 (nT p0).bind fun r0=>
 (xW r0.slots).bind fun a1=>
 (bF r0.heap [(p1.1,p1.2,p2,a1.2)]).bind fun l2=>
 (aO r0.where_ a1.2.1).bind fun _=>
 (qY (a1.1.uses,a1.1.used,a1.1.free,aA .i64 ((Int.ofNat l2.length) -1),l2,cB r0.where_ a1.2.1 (aA .i64 ((Int.ofNat l2.length) -1)))).bind fun a4=>
 some (aI.mk a1.1 a4.2.1 a4.2.2,a1.2)
def aPr:bJ:=⟨aC.cons (aM.agg cZ) (aC.cons (aM.agg (cJ.row jS)) (aC.one (aM.int .i64))),aM.tup (aC.cons (aM.agg cZ) (aC.one (aM.agg (cJ.row jS)))),fun a=>eQ a.1 a.2.1 a.2.2,.frz,false⟩
theorem Y1:aK tab 258 aPr:=aK.of aH0 (cx:=(oX aG [(149,aAD),(149,OY),(290,aRH)] [(289,QO),(289,WJ),(289,aCq)] [] [])) rfl (lY.make ⟨HC,C2,aIV,trivial⟩ ⟨I2,O0,aAG,trivial⟩ trivial) (fun a=>by kernel_rfl)
def cQ (s:Zt4):Option (cH Zt4 (aQ×Int)):=
 match s with
 |(a,b,d,e,f,g,h,i,j,k,l,m,n,o,q,r,t,u,v,w,x,y,z,A,B,C,D)=>
  bif decide (a<(Int.ofNat g.length)) then
   (aO g a).bind fun a0=>
   (qE (aQ.mk (b,d) (Field.mk e) (aV.mk f g) (aI.mk (aR.mk h i j) k l) m) a0.1).bind fun n1=>
   (sH (Field.mk n) a0.2 (b,d)).bind fun a2=>
   bif a2.2 then
    bif decide (0<=n1) then
     (aO m n1).bind fun a3=>
     (tF (aI.mk (aR.mk y z A) B C) a3.2 a2.1).bind fun r4=>
     (aO m n1).bind fun a5=>
     (bF D [a5]).bind fun l6=>
     bif !a2.2 then
      bif decide (0<=n1) then
       (aO m n1).bind fun a7=>
       (kK r4 a7.2).bind fun r8=>
       bif !a2.2 then
        some (.next (aA .i64 (a+1),b,d,e,f,g,h,i,j,k,l,m,n,o,q,r,t,u,v,w,x,r8.slots.uses,r8.slots.used,r8.slots.free,r8.heap,r8.where_,l6))
       else
        bif decide (0<=n1) then
         some (.next (aA .i64 (a+1),b,d,e,f,g,h,i,j,k,l,m,n,o,q,r,t,u,v,w,x,r8.slots.uses,r8.slots.used,r8.slots.free,r8.heap,r8.where_,l6))
        else
         (gW r8.slots).bind fun b9=>
         bif !b9 then
          some (.done (aQ.mk (0,0) (Field.mk []) (aV.mk 0 []) (aI.mk (aR.mk [] [] []) [] []) [],18))
         else
          (eQ r8 a2.1 a0.1).bind fun a10=>
          (bF l6 [(a0.1,a10.2)]).bind fun l11=>
          some (.next (aA .i64 (a+1),b,d,e,f,g,h,i,j,k,l,m,n,o,q,r,t,u,v,w,x,a10.1.slots.uses,a10.1.slots.used,a10.1.slots.free,a10.1.heap,a10.1.where_,l11))
      else
       bif !a2.2 then
        some (.next (aA .i64 (a+1),b,d,e,f,g,h,i,j,k,l,m,n,o,q,r,t,u,v,w,x,r4.slots.uses,r4.slots.used,r4.slots.free,r4.heap,r4.where_,l6))
       else
        bif decide (0<=n1) then
         some (.next (aA .i64 (a+1),b,d,e,f,g,h,i,j,k,l,m,n,o,q,r,t,u,v,w,x,r4.slots.uses,r4.slots.used,r4.slots.free,r4.heap,r4.where_,l6))
        else
         (gW r4.slots).bind fun b12=>
         bif !b12 then
          some (.done (aQ.mk (0,0) (Field.mk []) (aV.mk 0 []) (aI.mk (aR.mk [] [] []) [] []) [],18))
         else
          (eQ r4 a2.1 a0.1).bind fun a13=>
          (bF l6 [(a0.1,a13.2)]).bind fun l14=>
          some (.next (aA .i64 (a+1),b,d,e,f,g,h,i,j,k,l,m,n,o,q,r,t,u,v,w,x,a13.1.slots.uses,a13.1.slots.used,a13.1.slots.free,a13.1.heap,a13.1.where_,l14))
     else
      bif !a2.2 then
       some (.next (aA .i64 (a+1),b,d,e,f,g,h,i,j,k,l,m,n,o,q,r,t,u,v,w,x,r4.slots.uses,r4.slots.used,r4.slots.free,r4.heap,r4.where_,l6))
      else
       bif decide (0<=n1) then
        some (.next (aA .i64 (a+1),b,d,e,f,g,h,i,j,k,l,m,n,o,q,r,t,u,v,w,x,r4.slots.uses,r4.slots.used,r4.slots.free,r4.heap,r4.where_,l6))
       else
        (gW r4.slots).bind fun b15=>
        bif !b15 then
         some (.done (aQ.mk (0,0) (Field.mk []) (aV.mk 0 []) (aI.mk (aR.mk [] [] []) [] []) [],18))
        else
         (eQ r4 a2.1 a0.1).bind fun a16=>
         (bF l6 [(a0.1,a16.2)]).bind fun l17=>
         some (.next (aA .i64 (a+1),b,d,e,f,g,h,i,j,k,l,m,n,o,q,r,t,u,v,w,x,a16.1.slots.uses,a16.1.slots.used,a16.1.slots.free,a16.1.heap,a16.1.where_,l17))
    else
     bif !a2.2 then
      bif decide (0<=n1) then
       (aO m n1).bind fun a18=>
       (kK (aI.mk (aR.mk y z A) B C) a18.2).bind fun r19=>
       bif !a2.2 then
        some (.next (aA .i64 (a+1),b,d,e,f,g,h,i,j,k,l,m,n,o,q,r,t,u,v,w,x,r19.slots.uses,r19.slots.used,r19.slots.free,r19.heap,r19.where_,D))
       else
        bif decide (0<=n1) then
         some (.next (aA .i64 (a+1),b,d,e,f,g,h,i,j,k,l,m,n,o,q,r,t,u,v,w,x,r19.slots.uses,r19.slots.used,r19.slots.free,r19.heap,r19.where_,D))
        else
         (gW r19.slots).bind fun b20=>
         bif !b20 then
          some (.done (aQ.mk (0,0) (Field.mk []) (aV.mk 0 []) (aI.mk (aR.mk [] [] []) [] []) [],18))
         else
          (eQ r19 a2.1 a0.1).bind fun a21=>
          (bF D [(a0.1,a21.2)]).bind fun l22=>
          some (.next (aA .i64 (a+1),b,d,e,f,g,h,i,j,k,l,m,n,o,q,r,t,u,v,w,x,a21.1.slots.uses,a21.1.slots.used,a21.1.slots.free,a21.1.heap,a21.1.where_,l22))
      else
       bif !a2.2 then
        some (.next (aA .i64 (a+1),(b,d,e,f,g,h,i,j,k,l,m,n,o,q,r,t,u,v,w,x,y,z,A,B,C,D)))
       else
        bif decide (0<=n1) then
         some (.next (aA .i64 (a+1),(b,d,e,f,g,h,i,j,k,l,m,n,o,q,r,t,u,v,w,x,y,z,A,B,C,D)))
        else
         (gW (aR.mk y z A)).bind fun b23=>
         bif !b23 then
          some (.done (aQ.mk (0,0) (Field.mk []) (aV.mk 0 []) (aI.mk (aR.mk [] [] []) [] []) [],18))
         else
          (eQ (aI.mk (aR.mk y z A) B C) a2.1 a0.1).bind fun a24=>
          (bF D [(a0.1,a24.2)]).bind fun l25=>
          some (.next (aA .i64 (a+1),b,d,e,f,g,h,i,j,k,l,m,n,o,q,r,t,u,v,w,x,a24.1.slots.uses,a24.1.slots.used,a24.1.slots.free,a24.1.heap,a24.1.where_,l25))
     else
      bif !a2.2 then
       some (.next (aA .i64 (a+1),(b,d,e,f,g,h,i,j,k,l,m,n,o,q,r,t,u,v,w,x,y,z,A,B,C,D)))
      else
       bif decide (0<=n1) then
        some (.next (aA .i64 (a+1),(b,d,e,f,g,h,i,j,k,l,m,n,o,q,r,t,u,v,w,x,y,z,A,B,C,D)))
       else
        (gW (aR.mk y z A)).bind fun b26=>
        bif !b26 then
         some (.done (aQ.mk (0,0) (Field.mk []) (aV.mk 0 []) (aI.mk (aR.mk [] [] []) [] []) [],18))
        else
         (eQ (aI.mk (aR.mk y z A) B C) a2.1 a0.1).bind fun a27=>
         (bF D [(a0.1,a27.2)]).bind fun l28=>
         some (.next (aA .i64 (a+1),b,d,e,f,g,h,i,j,k,l,m,n,o,q,r,t,u,v,w,x,a27.1.slots.uses,a27.1.slots.used,a27.1.slots.free,a27.1.heap,a27.1.where_,l28))
   else
    bif !a2.2 then
     bif decide (0<=n1) then
      (aO m n1).bind fun a29=>
      (kK (aI.mk (aR.mk y z A) B C) a29.2).bind fun r30=>
      bif !a2.2 then
       some (.next (aA .i64 (a+1),b,d,e,f,g,h,i,j,k,l,m,n,o,q,r,t,u,v,w,x,r30.slots.uses,r30.slots.used,r30.slots.free,r30.heap,r30.where_,D))
      else
       bif decide (0<=n1) then
        some (.next (aA .i64 (a+1),b,d,e,f,g,h,i,j,k,l,m,n,o,q,r,t,u,v,w,x,r30.slots.uses,r30.slots.used,r30.slots.free,r30.heap,r30.where_,D))
       else
        (gW r30.slots).bind fun b31=>
        bif !b31 then
         some (.done (aQ.mk (0,0) (Field.mk []) (aV.mk 0 []) (aI.mk (aR.mk [] [] []) [] []) [],18))
        else
         (eQ r30 a2.1 a0.1).bind fun a32=>
         (bF D [(a0.1,a32.2)]).bind fun l33=>
         some (.next (aA .i64 (a+1),b,d,e,f,g,h,i,j,k,l,m,n,o,q,r,t,u,v,w,x,a32.1.slots.uses,a32.1.slots.used,a32.1.slots.free,a32.1.heap,a32.1.where_,l33))
     else
      bif !a2.2 then
       some (.next (aA .i64 (a+1),(b,d,e,f,g,h,i,j,k,l,m,n,o,q,r,t,u,v,w,x,y,z,A,B,C,D)))
      else
       bif decide (0<=n1) then
        some (.next (aA .i64 (a+1),(b,d,e,f,g,h,i,j,k,l,m,n,o,q,r,t,u,v,w,x,y,z,A,B,C,D)))
       else
        (gW (aR.mk y z A)).bind fun b34=>
        bif !b34 then
         some (.done (aQ.mk (0,0) (Field.mk []) (aV.mk 0 []) (aI.mk (aR.mk [] [] []) [] []) [],18))
        else
         (eQ (aI.mk (aR.mk y z A) B C) a2.1 a0.1).bind fun a35=>
         (bF D [(a0.1,a35.2)]).bind fun l36=>
         some (.next (aA .i64 (a+1),b,d,e,f,g,h,i,j,k,l,m,n,o,q,r,t,u,v,w,x,a35.1.slots.uses,a35.1.slots.used,a35.1.slots.free,a35.1.heap,a35.1.where_,l36))
    else
     bif !a2.2 then
      some (.next (aA .i64 (a+1),(b,d,e,f,g,h,i,j,k,l,m,n,o,q,r,t,u,v,w,x,y,z,A,B,C,D)))
     else
      bif decide (0<=n1) then
       some (.next (aA .i64 (a+1),(b,d,e,f,g,h,i,j,k,l,m,n,o,q,r,t,u,v,w,x,y,z,A,B,C,D)))
      else
       (gW (aR.mk y z A)).bind fun b37=>
       bif !b37 then
        some (.done (aQ.mk (0,0) (Field.mk []) (aV.mk 0 []) (aI.mk (aR.mk [] [] []) [] []) [],18))
       else
        (eQ (aI.mk (aR.mk y z A) B C) a2.1 a0.1).bind fun a38=>
        (bF D [(a0.1,a38.2)]).bind fun l39=>
        some (.next (aA .i64 (a+1),b,d,e,f,g,h,i,j,k,l,m,n,o,q,r,t,u,v,w,x,a38.1.slots.uses,a38.1.slots.used,a38.1.slots.free,a38.1.heap,a38.1.where_,l39))
  else
   some (.done (aQ.mk (t,u) (Field.mk v) (aV.mk w x) (aI.mk (aR.mk y z A) B C) D,0))
def nB (p0:aQ) (p1:Field):Option (aQ×Int):=
 (nU p0).bind fun r0=>
 (kI p1).bind fun r1=>
 aH cQ (0,p0.now.1,p0.now.2,p0.field.points,p0.certs.next_,p0.certs.list,p0.agenda.slots.uses,p0.agenda.slots.used,p0.agenda.slots.free,p0.agenda.heap,p0.agenda.where_,p0.due,p1.points,0,0,0,r0.now.1,r0.now.2,r1.points,r0.certs.next_,r0.certs.list,r0.agenda.slots.uses,r0.agenda.slots.used,r0.agenda.slots.free,r0.agenda.heap,r0.agenda.where_,[])
def aRI:bJ:=⟨aC.cons (aM.agg bU) (aC.one (aM.agg bS)),aM.tup (aC.cons (aM.agg bU) (aC.one (aM.int .i64))),fun a=>nB a.1 a.2,.frz,false⟩
theorem aIW:aK tab 204 aRI:=Oc aHt rfl aG [(89,c89),(89,aCn),(147,aCf),(147,TH),(254,aPn),(131,aIT),(256,aRG),(255,aPp),(257,aPq),(258,aPr)] ⟨QN,KQ,KO,HA,YY,QP,aIU,YZ,Y0,Y1,trivial⟩ fun a=>by kernel_rfl
def vO (s:(Int×Int×bR×Int×Int)):Option (cH (Int×Int×bR×Int×Int) Bool):=
 bif decide (s.1<(Int.ofNat s.2.2.1.length)) then
  (aO s.2.2.1 s.1).bind fun a0=>
  bif (a0.2.1==s.2.2.2.1)&&(a0.2.2==s.2.2.2.2) then
   some (.done true)
  else
   some (.next (aA .i64 (s.1+1),s.2))
 else
  some (.done false)
def wD (p0:aV) (p1:Int×Int):Option Bool:=
 aH vO (0,p0.next_,p0.list,p1)
def aIX:bJ:=⟨aC.cons (aM.agg gZ) (aC.one (aM.agg (cJ.row jS))),aM.bool,fun a=>wD a.1 a.2,.pure,false⟩
theorem QQ:aK tab 133 aIX:=Oc aGH rfl aG [] trivial fun a=>by kernel_rfl
def wQ (p0:Int×Int):Option Bool:=
 bif decide (0<=p0.1) then
  bif decide (p0.1<=65535) then
   bif decide (0<=p0.2) then
    bif decide (p0.2<=65535) then
     some (p0.1 !=p0.2)
    else
     some false
   else
    some false
  else
   some false
 else
  some false
def c66:bJ:=⟨aC.one (aM.agg (cJ.row jS)),aM.bool,fun a=>wQ a,.pure,false⟩
theorem aCr:aK tab 66 c66:=Oc aOR rfl aG [] trivial fun a=>by kernel_rfl
def gD (s:(Int×Int×Int×bR×Int×Int×Int)):Option (cH (Int×Int×Int×bR×Int×Int×Int) aPk):=
 bif decide (s.2.1<s.1) then
  (aO s.2.2.2.1 s.2.1).bind fun a0=>
  bif (a0.2.1==s.2.2.2.2.2.1)&&(a0.2.2==s.2.2.2.2.2.2) then
   some (.done (.done 8))
  else
   some (.next (s.1,aA .i64 (s.2.1+1),s.2.2))
 else
  some (.done (.next (aA .i64 (s.1+1),s.2.2.1,s.2.2.2.1)))
def qZ (s:aAB):Option aPk:=
 bif decide (s.1<(Int.ofNat s.2.2.length)) then
  (aO s.2.2 s.1).bind fun a0=>
  (wQ a0.2).bind fun b1=>
  bif !b1 then
   some (.done 8)
  else
   bif decide (a0.1<0) then
    some (.done 8)
   else
    bif decide (s.2.1<=a0.1) then
     some (.done 8)
    else
     bif decide (0<s.1) then
      (aO s.2.2 (aA .i64 (s.1-1))).bind fun a2=>
      bif decide (a0.1<=a2.1) then
       some (.done 8)
      else
       aH gD (s.1,0,s.2.1,s.2.2,a0)
     else
      aH gD (s.1,0,s.2.1,s.2.2,a0)
 else
  some (.done 0)
def uJ (p0:aV):Option Int:=
 bif decide (200<(Int.ofNat p0.list.length)) then
  some 8
 else
  bif decide (p0.next_<0) then
   some 8
  else
   bif decide (1000000<p0.next_) then
    some 8
   else
    aH qZ (0,p0.next_,p0.list)
def aPs:bJ:=⟨aC.one (aM.agg gZ),aM.int .i64,fun a=>uJ a,.pure,false⟩
theorem Y2:aK tab 128 aPs:=Oc aGC rfl aG [(66,c66)] ⟨aCr,trivial⟩ fun a=>by kernel_rfl
def D7 (p0:aV) (p1:Int×Int):Option (aV×Int×Int):=
 (uJ p0).bind fun n0=>
 bif n0 !=0 then
  some (aV.mk 0 [],0,8)
 else
  (wQ p1).bind fun b1=>
  bif !b1 then
   some (aV.mk 0 [],0,8)
  else
   (wD p0 p1).bind fun b2=>
   bif b2 then
    some (aV.mk 0 [],0,14)
   else
    bif (Int.ofNat p0.list.length)==200 then
     some (aV.mk 0 [],0,18)
    else
     bif p0.next_==1000000 then
      some (aV.mk 0 [],0,18)
     else
      (sF p0).bind fun r3=>
      (bF r3.list [(p0.next_,p1)]).bind fun l4=>
      some (aV.mk (aA .i64 (r3.next_+1)) l4,p0.next_,0)
def aRJ:bJ:=⟨aC.cons (aM.agg gZ) (aC.one (aM.agg (cJ.row jS))),aM.tup (aC.cons (aM.agg gZ) (aC.cons (aM.int .i64) (aC.one (aM.int .i64)))),fun a=>D7 a.1 a.2,.frz,false⟩
theorem aIY:aK tab 259 aRJ:=Oc aH1 rfl aG [(128,aPs),(66,c66),(133,aIX),(148,aIL),(148,YX)] ⟨Y2,aCr,QQ,QM,MU,trivial⟩ fun a=>by kernel_rfl
def mC (p0:aQ) (p1:Int×Int):Option (aQ×Int×Int):=
 (D7 p0.certs p1).bind fun a0=>
 bif a0.2.2 !=0 then
  some (aQ.mk (0,0) (Field.mk []) (aV.mk 0 []) (aI.mk (aR.mk [] [] []) [] []) [],0,a0.2.2)
 else
  (nU p0).bind fun r1=>
  (sH p0.field p1 p0.now).bind fun a2=>
  bif !a2.2 then
   some (aQ.mk r1.now r1.field a0.1 r1.agenda r1.due,a0.2.1,0)
  else
   (gW p0.agenda.slots).bind fun b3=>
   bif !b3 then
    some (aQ.mk (0,0) (Field.mk []) (aV.mk 0 []) (aI.mk (aR.mk [] [] []) [] []) [],0,18)
   else
    (eQ p0.agenda a2.1 a0.2.1).bind fun a4=>
    (bF r1.due [(a0.2.1,a4.2)]).bind fun l5=>
    some (aQ.mk r1.now r1.field a0.1 a4.1 l5,a0.2.1,0)
def aRK:bJ:=⟨aC.cons (aM.agg bU) (aC.one (aM.agg (cJ.row jS))),aM.tup (aC.cons (aM.agg bU) (aC.cons (aM.int .i64) (aC.one (aM.int .i64)))),fun a=>mC a.1 a.2,.frz,false⟩
theorem aIZ:aK tab 205 aRK:=Oc aHu rfl aG [(259,aRJ),(89,c89),(89,aCn),(131,aIT),(257,aPq),(258,aPr)] ⟨aIY,QN,KQ,QP,Y0,Y1,trivial⟩ fun a=>by kernel_rfl
def dY (s:aQS):Option (cH aQS Zt2):=
 bif decide (s.2.1<(Int.ofNat s.1.length)) then
  (aO s.1 s.2.1).bind fun a0=>
  (wD (aV.mk s.2.2.2.2.2.2.2.2.1 s.2.2.2.2.2.2.2.2.2.1) a0).bind fun b1=>
  bif b1 then
   some (.next (s.1,aA .i64 (s.2.1+1),s.2.2))
  else
   (aO s.1 s.2.1).bind fun a2=>
   (mC (aQ.mk (s.2.2.2.2.2.1,s.2.2.2.2.2.2.1) (Field.mk s.2.2.2.2.2.2.2.1) (aV.mk s.2.2.2.2.2.2.2.2.1 s.2.2.2.2.2.2.2.2.2.1) (aI.mk (aR.mk s.2.2.2.2.2.2.2.2.2.2.1 s.2.2.2.2.2.2.2.2.2.2.2.1 s.2.2.2.2.2.2.2.2.2.2.2.2.1) s.2.2.2.2.2.2.2.2.2.2.2.2.2.1 s.2.2.2.2.2.2.2.2.2.2.2.2.2.2.1) s.2.2.2.2.2.2.2.2.2.2.2.2.2.2.2) a2).bind fun a3=>
   bif a3.2.2 !=0 then
    some (.done (.done (aQ.mk (0,0) (Field.mk []) (aV.mk 0 []) (aI.mk (aR.mk [] [] []) [] []) [],a3.2.2)))
   else
    some (.next (s.1,aA .i64 (s.2.1+1),s.2.2.1,s.2.2.2.1,s.2.2.2.2.1,a3.1.now.1,a3.1.now.2,a3.1.field.points,a3.1.certs.next_,a3.1.certs.list,a3.1.agenda.slots.uses,a3.1.agenda.slots.used,a3.1.agenda.slots.free,a3.1.agenda.heap,a3.1.agenda.where_,a3.1.due))
 else
  some (.done (.done (aQ.mk (s.2.2.2.2.2.1,s.2.2.2.2.2.2.1) (Field.mk s.2.2.2.2.2.2.2.1) (aV.mk s.2.2.2.2.2.2.2.2.1 s.2.2.2.2.2.2.2.2.2.1) (aI.mk (aR.mk s.2.2.2.2.2.2.2.2.2.2.1 s.2.2.2.2.2.2.2.2.2.2.2.1 s.2.2.2.2.2.2.2.2.2.2.2.2.1) s.2.2.2.2.2.2.2.2.2.2.2.2.2.1 s.2.2.2.2.2.2.2.2.2.2.2.2.2.2.1) s.2.2.2.2.2.2.2.2.2.2.2.2.2.2.2,0)))
def dK (s:aQR):Option Zt2:=
 match s with
 |(a,b,d,e,f,g,h,i,j,k,l,m,n,o,q,r,t,u,v,w,x,y,z,A,B,C,D,E)=>
  bif decide (b<(Int.ofNat h.length)) then
   (aO h b).bind fun a0=>
   (HD a a0.2).bind fun b1=>
   bif !b1 then
    (aO h b).bind fun a2=>
    (wP (aQ.mk (u,v) (Field.mk w) (aV.mk x y) (aI.mk (aR.mk z A B) C D) E) a2.1).bind fun r3=>
    some (.next (a,aA .i64 (b+1),d,e,f,g,h,i,j,k,l,m,n,o,q,r,t,r3.now.1,r3.now.2,r3.field.points,r3.certs.next_,r3.certs.list,r3.agenda.slots.uses,r3.agenda.slots.used,r3.agenda.slots.free,r3.agenda.heap,r3.agenda.where_,r3.due))
   else
    some (.next (a,aA .i64 (b+1),(d,e,f,g,h,i,j,k,l,m,n,o,q,r,t,u,v,w,x,y,z,A,B,C,D,E)))
  else
   (mI (Field.mk w) (Field.mk o)).bind fun b4=>
   bif !b4 then
    (nB (aQ.mk (u,v) (Field.mk w) (aV.mk x y) (aI.mk (aR.mk z A B) C D) E) (Field.mk o)).bind fun a5=>
    bif a5.2 !=0 then
     some (.done (aQ.mk (0,0) (Field.mk []) (aV.mk 0 []) (aI.mk (aR.mk [] [] []) [] []) [],a5.2))
    else
     aH dY (a,0,q,r,t,a5.1.now.1,a5.1.now.2,a5.1.field.points,a5.1.certs.next_,a5.1.certs.list,a5.1.agenda.slots.uses,a5.1.agenda.slots.used,a5.1.agenda.slots.free,a5.1.agenda.heap,a5.1.agenda.where_,a5.1.due)
   else
    aH dY (a,0,(q,r,t,u,v,w,x,y,z,A,B,C,D,E))
def nC (p0:aQ) (p1:Field) (p2:List (Int×Int)):Option (aQ×Int):=
 (nU p0).bind fun r0=>
 aH dK (p2,0,p0.now.1,p0.now.2,p0.field.points,p0.certs.next_,p0.certs.list,p0.agenda.slots.uses,p0.agenda.slots.used,p0.agenda.slots.free,p0.agenda.heap,p0.agenda.where_,p0.due,p1.points,0,0,0,r0.now.1,r0.now.2,r0.field.points,r0.certs.next_,r0.certs.list,r0.agenda.slots.uses,r0.agenda.slots.used,r0.agenda.slots.free,r0.agenda.heap,r0.agenda.where_,r0.due)
def aRL:bJ:=⟨aC.cons (aM.agg bU) (aC.cons (aM.agg bS) (aC.one (aM.sl jS))),aM.tup (aC.cons (aM.agg bU) (aC.one (aM.int .i64))),fun a=>nC a.1 a.2.1 a.2.2,.frz,false⟩
theorem aI0:aK tab 151 aRL:=Oc aGQ rfl aG [(89,c89),(89,aCn),(35,c35),(203,aRB),(45,c45),(204,aRI),(133,aIX),(205,aRK)] ⟨QN,KQ,aPm,aIO,WH,aIW,QQ,aIZ,trivial⟩ fun a=>by kernel_rfl
def E2 (p0:aQ) (p1:Field):Option (bH×Int):=
 (sE p1 p0.now).bind fun r0=>
 (C1 r0).bind fun l1=>
 (nC p0 p1 l1).bind fun a2=>
 bif a2.2 !=0 then
  some (bH.mk (aQ.mk (0,0) (Field.mk []) (aV.mk 0 []) (aI.mk (aR.mk [] [] []) [] []) []) (nK.mk 0 []),a2.2)
 else
  some (bH.mk a2.1 r0,0)
def c94:bJ:=⟨aC.cons (aM.agg bU) (aC.one (aM.agg bS)),aM.tup (aC.cons (aM.agg dW) (aC.one (aM.int .i64))),fun a=>E2 a.1 a.2,.frz,false⟩
theorem aPt:aK tab 94 c94:=Oc aO9 rfl aG [(78,c78),(80,c80),(151,aRL)] ⟨aCk,aCl,aI0,trivial⟩ fun a=>by kernel_rfl
def JX (p0:Field) (p1:Int×Int):Option (bH×Int):=
 (eA p0).bind fun n0=>
 bif n0 !=0 then
  (eA p0).bind fun n1=>
  some (bH.mk (aQ.mk (0,0) (Field.mk []) (aV.mk 0 []) (aI.mk (aR.mk [] [] []) [] []) []) (nK.mk 0 []),n1)
 else
  (qB p1).bind fun n2=>
  bif n2 !=0 then
   some (bH.mk (aQ.mk (0,0) (Field.mk []) (aV.mk 0 []) (aI.mk (aR.mk [] [] []) [] []) []) (nK.mk 0 []),8)
  else
   (JW p0 p1).bind fun r3=>
   (E2 r3 p0).bind fun a4=>
   some a4
def aRM:bJ:=⟨aC.cons (aM.agg bS) (aC.one (aM.agg (cJ.row jS))),aM.tup (aC.cons (aM.agg dW) (aC.one (aM.int .i64))),fun a=>JX a.1 a.2,.frz,false⟩
theorem aI1:aK tab 152 aRM:=Oc aGR rfl aG [(12,c12),(13,c13),(206,aRr),(94,c94)] ⟨aCd,WC,aIE,aPt,trivial⟩ fun a=>by kernel_rfl
def C3:Option bH:=
 (TG 2).bind fun a0=>
 (JX (Field.mk [(1,0,2),(2,6,-1),(5,0,0)]) a0).bind fun a1=>
 some a1.1
def c97:bJ:=⟨aC.nil,aM.agg dW,fun _=>C3,.frz,false⟩
theorem aPu:aK tab 97 c97:=Oc aPb rfl aG [(153,aRo),(152,aRM)] ⟨aIB,aI1,trivial⟩ fun a=>by kernel_rfl
def nD (p0:Int):Option Int:=
 bif decide (p0<0) then
  some (aA .u64 (0- (aA .u64 p0)))
 else
  some (aA .u64 p0)
def aI2:bJ:=⟨aC.one (aM.int .i64),aM.int .u64,fun a=>nD a,.pure,false⟩
theorem QR:aK tab 118 aI2:=Oc aGw rfl aG [] trivial fun a=>by kernel_rfl
def vP (s:(Int×Int)):Option (cH (Int×Int) Int):=
 bif decide (0<s.2) then
  bif s.2==0 then
   none
  else
   some (.next (s.2,Int.tmod s.1 s.2))
 else
  some (.done s.1)
def zW (p0:Int) (p1:Int):Option Int:=
 aH vP (p0,p1)
def aPv:bJ:=⟨aC.cons (aM.int .u64) (aC.one (aM.int .u64)),aM.int .u64,fun a=>zW a.1 a.2,.pure,false⟩
theorem Y3:aK tab 117 aPv:=Oc aGv rfl aG [] trivial fun a=>by kernel_rfl
def hY (p0:Int×Int):Option Int:=
 bif decide (p0.2<1) then
  some 8
 else
  bif p0.1==(-9223372036854775808) then
   some 8
  else
   (nD p0.1).bind fun n0=>
   (zW (aA .u64 p0.2) n0).bind fun n1=>
   bif decide (1<n1) then
    some 8
   else
    some 0
def c72:bJ:=⟨aC.one (aM.agg (cJ.row jS)),aM.int .i64,fun a=>hY a,.pure,false⟩
theorem F3:aK tab 72 c72:=Oc aOX rfl aG [(118,aI2),(117,aPv)] ⟨QR,Y3,trivial⟩ fun a=>by kernel_rfl
def rA (p0:Int):Option Bool:=
 bif decide (p0<(-1048576)) then
  some true
 else
  some (decide (1048576<p0))
def aRN:bJ:=⟨aC.one (aM.int .i64),aM.bool,fun a=>rA a,.pure,false⟩
theorem aI3:aK tab 154 aRN:=Oc aGT rfl aG [] trivial fun a=>by kernel_rfl
def kC (p0:Int×Int×Int):Option Int:=
 bif decide (p0.1<0) then
  some 8
 else
  bif decide (65535<p0.1) then
   some 8
  else
   (rA p0.2.1).bind fun b0=>
   bif b0 then
    some 8
   else
    (rA p0.2.2).bind fun b1=>
    bif b1 then
     some 8
    else
     some 0
def aCs:bJ:=⟨aC.one (aM.agg (cJ.row dV)),aM.int .i64,fun a=>kC a,.pure,false⟩
theorem KR:aK tab 100 aCs:=Oc aGi rfl aG [(154,aRN)] ⟨aI3,trivial⟩ fun a=>by kernel_rfl
def jI (s:aCc):Option (cH aCc (cH aCc Int)):=
 bif decide (s.2.2.1<s.2.1) then
  (aO s.1 s.2.2.1).bind fun a0=>
  bif decide (0<s.2.2.1) then
   (aO s.2.2.2 (aA .i64 (s.2.2.1-1))).bind fun a1=>
   bif decide (a0.1<=a1.1) then
    some (.done (.done 32))
   else
    some (.next (s.1,s.2.1,aA .i64 (s.2.2.1+1),s.2.2.2))
  else
   some (.next (s.1,s.2.1,aA .i64 (s.2.2.1+1),s.2.2.2))
 else
  some (.done (.done 0))
def nX (s:aCc):Option (cH aCc Int):=
 bif decide (s.2.2.1<s.2.1) then
  (aO s.1 s.2.2.1).bind fun a0=>
  (kC a0).bind fun n1=>
  bif n1 !=0 then
   some (.done n1)
  else
   some (.next (s.1,s.2.1,aA .i64 (s.2.2.1+1),s.2.2.2))
 else
  aH jI (s.2.2.2,Int.ofNat s.2.2.2.length,0,s.2.2.2)
def dE (p0:Field):Option Int:=
 bif decide (64<(Int.ofNat p0.points.length)) then
  some 4
 else
  aH nX (p0.points,Int.ofNat p0.points.length,0,p0.points)
def c99:bJ:=⟨aC.one (aM.agg bS),aM.int .i64,fun a=>dE a,.pure,false⟩
theorem F4:aK tab 99 c99:=Oc aPd rfl aG [(100,aCs)] ⟨KR,trivial⟩ fun a=>by kernel_rfl
def wR (p0:Int×Int):Option Bool:=
 bif decide (0<=(if p0.2<p0.1 then p0.2 else p0.1)) then
  bif decide ((if p0.2>p0.1 then p0.2 else p0.1)<=65535) then
   some (p0.1 !=p0.2)
  else
   some false
 else
  some false
def aPw:bJ:=⟨aC.one (aM.agg (cJ.row jS)),aM.bool,fun a=>wR a,.pure,false⟩
theorem Y4:aK tab 217 aPw:=Oc aHE rfl aG [] trivial fun a=>by kernel_rfl
def tG (s:aRh):Option (cH aRh Int):=
 bif decide (s.2.2.2.1<s.2.2.1) then
  (aO s.2.1 s.2.2.2.1).bind fun a0=>
  (wR a0.2).bind fun b1=>
  bif !b1 then
   some (.done 8)
  else
   (SN s.2.2.2.2.2.2 [a0.2.1,a0.2.2]).bind fun b2=>
   bif b2 then
    some (.done 8)
   else
    bif decide (a0.1<=s.1) then
     some (.done 8)
    else
     bif decide (s.2.2.2.2.1<=a0.1) then
      some (.done 8)
     else
      (SO s.2.2.2.2.2.2 [a0.2.1,a0.2.2]).bind fun l3=>
      some (.next (a0.1,s.2.1,s.2.2.1,aA .i64 (s.2.2.2.1+1),s.2.2.2.2.1,s.2.2.2.2.2.1,l3))
 else
  some (.done 0)
def sI (p0:aV):Option Int:=
 bif decide (200<(Int.ofNat p0.list.length)) then
  some 8
 else
  bif decide (p0.next_<0) then
   some 8
  else
   bif decide (1000000<p0.next_) then
    some 8
   else
    aH tG (-1,p0.list,Int.ofNat p0.list.length,0,p0.next_,p0.list,[])
def aI4:bJ:=⟨aC.one (aM.agg gZ),aM.int .i64,fun a=>sI a,.pure,false⟩
theorem QS:aK tab 167 aI4:=Oc aG0 rfl aG [(217,aPw)] ⟨Y4,trivial⟩ fun a=>by kernel_rfl
def hZ (s:((List Bool)×Bool×Int×Int)):Option (cH ((List Bool)×Bool×Int×Int) Int):=
 bif decide (s.2.2.2<s.2.2.1) then
  (aO s.1 s.2.2.2).bind fun b0=>
  bif s.2.1==b0 then
   some (.done s.2.2.2)
  else
   some (.next (s.1,s.2.1,s.2.2.1,aA .i64 (s.2.2.2+1)))
 else
  some (.done (-1))
def rB (p0:List Bool) (p1:Bool):Option Int:=
 aH hZ (p0,p1,Int.ofNat p0.length,0)
def aRO:bJ:=⟨aC.cons (aM.sl kb) (aC.one aM.bool),aM.int .i64,fun a=>rB a.1 a.2,.pure,false⟩
theorem aI5:aK tab 297 aRO:=Oc aIo rfl aG [] trivial fun a=>by kernel_rfl
def eL (p0:List Bool) (p1:Bool):Option Bool:=
 (rB p0 p1).bind fun n0=>
 some (decide (0<=n0))
def aRP:bJ:=⟨aC.cons (aM.sl kb) (aC.one aM.bool),aM.bool,fun a=>eL a.1 a.2,.pure,false⟩
theorem aI6:aK tab 269 aRP:=Oc aH9 rfl aG [(297,aRO)] ⟨aI5,trivial⟩ fun a=>by kernel_rfl
def hH (s:((List Int)×Int×Int×(List Int)×(List Bool)×(List Int))):Option (cH ((List Int)×Int×Int×(List Int)×(List Bool)×(List Int)) aRj):=
 bif decide (s.2.2.1<s.2.1) then
  (aO s.1 s.2.2.1).bind fun n0=>
  bif decide (n0<0) then
   some (.done (.done 8))
  else
   bif decide (1000000<n0) then
    some (.done (.done 8))
   else
    bif n0==0 then
     (aO s.2.2.2.2.1 s.2.2.1).bind fun b1=>
     bif b1 then
      some (.done (.done 8))
     else
      some (.next (s.1,s.2.1,aA .i64 (s.2.2.1+1),s.2.2.2))
    else
     some (.next (s.1,s.2.1,aA .i64 (s.2.2.1+1),s.2.2.2))
 else
  some (.done (.done 0))
def tH (c0:(List Bool)) (s:aRi):Option aRj:=
 bif decide (s.2.2.1<s.2.1) then
  (aO s.1 s.2.2.1).bind fun n0=>
  bif decide (n0<0) then
   bif s.2.2.2.2.2.2.2.length==s.2.2.2.2.2.2.2.length then
    bif s.2.2.2.2.2.2.2.length==c0.length then
     bif s.2.2.2.2.2.2.2.length==c0.length then
      bif decide (0<=s.2.2.1) then
       some (.done 8)
      else
       (eL s.2.2.2.2.2.2.2 false).bind fun b1=>
       bif b1 then
        some (.done 8)
       else
        aH hH (s.2.2.2.1,Int.ofNat s.2.2.2.1.length,0,s.2.2.2.1,s.2.2.2.2.1,s.2.2.2.2.2.1)
     else
      none
    else
     none
   else
    none
  else
   bif decide (s.2.2.2.2.2.2.1<=n0) then
    bif s.2.2.2.2.2.2.2.length==s.2.2.2.2.2.2.2.length then
     bif s.2.2.2.2.2.2.2.length==c0.length then
      bif s.2.2.2.2.2.2.2.length==c0.length then
       bif decide (0<=s.2.2.1) then
        some (.done 8)
       else
        (eL s.2.2.2.2.2.2.2 false).bind fun b2=>
        bif b2 then
         some (.done 8)
        else
         aH hH (s.2.2.2.1,Int.ofNat s.2.2.2.1.length,0,s.2.2.2.1,s.2.2.2.2.1,s.2.2.2.2.2.1)
      else
       none
     else
      none
    else
     none
   else
    (aO s.2.2.2.2.2.2.2 n0).bind fun b3=>
    bif b3 then
     bif s.2.2.2.2.2.2.2.length==s.2.2.2.2.2.2.2.length then
      bif s.2.2.2.2.2.2.2.length==c0.length then
       bif s.2.2.2.2.2.2.2.length==c0.length then
        bif decide (0<=s.2.2.1) then
         some (.done 8)
        else
         (eL s.2.2.2.2.2.2.2 false).bind fun b4=>
         bif b4 then
          some (.done 8)
         else
          aH hH (s.2.2.2.1,Int.ofNat s.2.2.2.1.length,0,s.2.2.2.1,s.2.2.2.2.1,s.2.2.2.2.2.1)
       else
        none
      else
       none
     else
      none
    else
     (aO s.2.2.2.2.2.2.2 n0).bind fun _=>
     bif ((cB s.2.2.2.2.2.2.2 n0 true).length)==s.2.2.2.2.2.2.2.length then
      some (.next (s.1,s.2.1,aA .i64 (s.2.2.1+1),s.2.2.2.1,s.2.2.2.2.1,s.2.2.2.2.2.1,s.2.2.2.2.2.2.1,cB s.2.2.2.2.2.2.2 n0 true))
     else
      none
 else
  bif s.2.2.2.2.2.2.2.length==c0.length then
   bif s.2.2.2.2.2.2.2.length==c0.length then
    (eL s.2.2.2.2.2.2.2 false).bind fun b6=>
    bif b6 then
     some (.done 8)
    else
     aH hH (s.2.2.2.1,Int.ofNat s.2.2.2.1.length,0,s.2.2.2.1,s.2.2.2.2.1,s.2.2.2.2.2.1)
   else
    none
  else
   none
def sJ (p0:aR):Option Int:=
 bif decide ((Int.ofNat p0.uses.length)<1) then
  some 8
 else
  bif decide (200<(Int.ofNat p0.uses.length)) then
   some 8
  else
   bif (Int.ofNat p0.used.length) !=(Int.ofNat p0.uses.length) then
    some 8
   else
    (cD p0.used).bind fun l0=>
    aH (tH l0) (p0.free,Int.ofNat p0.free.length,0,p0.uses,p0.used,p0.free,Int.ofNat p0.uses.length,l0)
def aI7:bJ:=⟨aC.one (aM.agg gC),aM.int .i64,fun a=>sJ a,.pure,false⟩
theorem QT:aK tab 218 aI7:=aK.of aHF (cx:=(oX aG [(186,bJ.clone kb),(269,aRP)] [] [(267,aFC),(296,aFZ),(268,aFE)] [])) rfl (lY.make ⟨wN,aI6,trivial⟩ trivial ⟨aH7,aIn,aH8,trivial⟩) (fun a=>by kernel_rfl)
def A5 (p0:Int×Int) (p1:Int×Int):Option Int:=
 (hY p0).bind fun n0=>
 (hY p1).bind fun n1=>
 some (if n1>n0 then n1 else n0)
def aRQ:bJ:=⟨aC.cons (aM.agg (cJ.row jS)) (aC.one (aM.agg (cJ.row jS))),aM.int .i64,fun a=>A5 a.1 a.2,.pure,false⟩
theorem aI8:aK tab 119 aRQ:=Oc aGx rfl aG [(72,c72)] ⟨F3,trivial⟩ fun a=>by kernel_rfl
def pJ (p0:Int):Option Bool:=
 some (p0 !=p0)
def aRR:bJ:=⟨aC.one (aM.int .i64),aM.bool,fun a=>pJ a,.pure,false⟩
theorem aI9:aK tab 174 aRR:=Oc aG5 rfl aG [] trivial fun a=>by kernel_rfl
def kD (p0:Int) (p1:Int):Option Int:=
 (pJ p0).bind fun b0=>
 (pJ p1).bind fun b1=>
 bif b0 then
  bif b1 then
   some 0
  else
   some (-1)
 else
  bif b1 then
   some 1
  else
   bif decide (p0<p1) then
    some (-1)
   else
    bif decide (p1<p0) then
     some 1
    else
     some 0
def aPx:bJ:=⟨aC.cons (aM.int .i64) (aC.one (aM.int .i64)),aM.int .i64,fun a=>kD a.1 a.2,.pure,false⟩
theorem Y5:aK tab 120 aPx:=Oc aGy rfl aG [(174,aRR)] ⟨aI9,trivial⟩ fun a=>by kernel_rfl
def jT (p0:Int) (p1:Int):Option (Int×Int):=
 some (aA .u64 ((aA .u64 ((aA .u64 ((uB .u64 p0 32)*(uB .u64 p1 32)))+(uB .u64 (aA .u64 ((aA .u64 ((uB .u64 p0 32)*(KA .u64 p1 4294967295)))+(uB .u64 (aA .u64 ((KA .u64 p0 4294967295)*(KA .u64 p1 4294967295))) 32))) 32)))+(uB .u64 (aA .u64 ((KA .u64 (aA .u64 ((aA .u64 ((uB .u64 p0 32)*(KA .u64 p1 4294967295)))+(uB .u64 (aA .u64 ((KA .u64 p0 4294967295)*(KA .u64 p1 4294967295))) 32))) 4294967295)+(aA .u64 ((KA .u64 p0 4294967295)*(uB .u64 p1 32))))) 32)),aA .u64 (p0*p1))
def aPy:bJ:=⟨aC.cons (aM.int .u64) (aC.one (aM.int .u64)),aM.tup (aC.cons (aM.int .u64) (aC.one (aM.int .u64))),fun a=>jT a.1 a.2,.pure,false⟩
theorem Y6:aK tab 176 aPy:=Oc aG7 rfl aG [] trivial fun a=>by kernel_rfl
def uK (p0:Int) (p1:Int):Option (Bool×Int×Int):=
 (nD p0).bind fun n0=>
 (nD p1).bind fun n1=>
 (jT n0 n1).bind fun a2=>
 some (!((decide (p0<0))==(decide (p1<0))),a2)
def aRS:bJ:=⟨aC.cons (aM.int .i64) (aC.one (aM.int .i64)),aM.agg (cJ.row C0),fun a=>uK a.1 a.2,.pure,false⟩
theorem aJa:aK tab 122 aRS:=Oc aGA rfl aG [(118,aI2),(176,aPy)] ⟨QR,Y6,trivial⟩ fun a=>by kernel_rfl
def oP (p0:Int):Option Bool:=
 some (p0 !=p0)
def aRT:bJ:=⟨aC.one (aM.int .u64),aM.bool,fun a=>oP a,.pure,false⟩
theorem aJb:aK tab 224 aRT:=Oc aHK rfl aG [] trivial fun a=>by kernel_rfl
def jJ (p0:Int) (p1:Int):Option Int:=
 (oP p0).bind fun b0=>
 (oP p1).bind fun b1=>
 bif b0 then
  bif b1 then
   some 0
  else
   some (-1)
 else
  bif b1 then
   some 1
  else
   bif decide (p0<p1) then
    some (-1)
   else
    bif decide (p1<p0) then
     some 1
    else
     some 0
def aRU:bJ:=⟨aC.cons (aM.int .u64) (aC.one (aM.int .u64)),aM.int .i64,fun a=>jJ a.1 a.2,.pure,false⟩
theorem aJc:aK tab 175 aRU:=Oc aG6 rfl aG [(224,aRT)] ⟨aJb,trivial⟩ fun a=>by kernel_rfl
def tI (p0:Bool×Int×Int) (p1:Bool×Int×Int):Option Int:=
 (jJ p0.2.1 p1.2.1).bind fun n0=>
 bif n0 !=0 then
  some n0
 else
  (jJ p0.2.2 p1.2.2).bind fun n1=>
  some n1
def aRV:bJ:=⟨aC.cons (aM.agg (cJ.row C0)) (aC.one (aM.agg (cJ.row C0))),aM.int .i64,fun a=>tI a.1 a.2,.pure,false⟩
theorem aJd:aK tab 121 aRV:=Oc aGz rfl aG [(175,aRU)] ⟨aJc,trivial⟩ fun a=>by kernel_rfl
def D8 (p0:Int×Int) (p1:Int×Int):Option (Int×Int):=
 (A5 p0 p1).bind fun n0=>
 bif n0 !=0 then
  some (0,n0)
 else
  bif !((decide (p0.1<0))==(decide (p1.1<0))) then
   (kD p0.1 p1.1).bind fun n1=>
   some (n1,0)
  else
   (uK p0.1 p1.2).bind fun a2=>
   (uK p1.1 p0.2).bind fun a3=>
   (tI a2 a3).bind fun n4=>
   bif decide (p0.1<0) then
    some (aA .i64 (0-n4),0)
   else
    some (n4,0)
def c73:bJ:=⟨aC.cons (aM.agg (cJ.row jS)) (aC.one (aM.agg (cJ.row jS))),aM.tup (aC.cons (aM.int .i64) (aC.one (aM.int .i64))),fun a=>D8 a.1 a.2,.pure,false⟩
theorem aPz:aK tab 73 c73:=Oc aOY rfl aG [(119,aRQ),(120,aPx),(122,aRS),(121,aRV)] ⟨aI8,Y5,aJa,aJd,trivial⟩ fun a=>by kernel_rfl
def tJ (p0:Int):Option Bool:=
 some (p0 !=p0)
def aRW:bJ:=⟨aC.one (aM.int .i64),aM.bool,fun a=>tJ a,.pure,false⟩
theorem aJe:aK tab 207 aRW:=Oc aHw rfl aG [] trivial fun a=>by kernel_rfl
def fK (p0:Int) (p1:Int):Option Int:=
 (tJ p0).bind fun b0=>
 (tJ p1).bind fun b1=>
 bif b0 then
  bif b1 then
   some 0
  else
   some (-1)
 else
  bif b1 then
   some 1
  else
   bif decide (p0<p1) then
    some (-1)
   else
    bif decide (p1<p0) then
     some 1
    else
     some 0
def WK:bJ:=⟨aC.cons (aM.int .i64) (aC.one (aM.int .i64)),aM.int .i64,fun a=>fK a.1 a.2,.pure,false⟩
theorem D9:aK tab 157 WK:=Oc aGV rfl aG [(207,aRW)] ⟨aJe,trivial⟩ fun a=>by kernel_rfl
def yR (s:(Int×(List Int)×Int×Int)):Option (cH (Int×(List Int)×Int×Int) Int):=
 bif decide (s.2.2.2<s.2.2.1) then
  (aO s.2.1 s.2.2.2).bind fun n0=>
  bif n0 !=s.1 then
   some (.done n0)
  else
   some (.next (s.1,s.2.1,s.2.2.1,aA .i64 (s.2.2.2+1)))
 else
  some (.done s.1)
def wS (p0:List Int):Option Int:=
 aH yR (0,p0,Int.ofNat p0.length,0)
def aPA:bJ:=⟨aC.one (aM.sl ki),aM.int .i64,fun a=>wS a,.pure,false⟩
theorem Y7:aK tab 195 aPA:=Oc aHn rfl aG [] trivial fun a=>by kernel_rfl
def cK (p0:Int×Int×Int×Int×Int) (p1:Int×Int×Int×Int×Int):Option Int:=
 (D8 (p0.1,p0.2.1) (p1.1,p1.2.1)).bind fun a0=>
 (fK p0.2.2.1 p1.2.2.1).bind fun n1=>
 (wS [a0.1,n1]).bind fun n2=>
 some n2
def aJf:bJ:=⟨aC.cons (aM.agg (cJ.row mG)) (aC.one (aM.agg (cJ.row mG))),aM.int .i64,fun a=>cK a.1 a.2,.pure,false⟩
theorem QU:aK tab 219 aJf:=Oc aHG rfl aG [(73,c73),(157,WK),(195,aPA)] ⟨aPz,D9,Y7,trivial⟩ fun a=>by kernel_rfl
def jU (s:aQ3):Option (cH aQ3 aQ9):=
 bif decide (s.2.2.1<s.2.1) then
  (aO s.1 s.2.2.1).bind fun a0=>
  (hY (a0.1,a0.2.1)).bind fun n1=>
  bif n1 !=0 then
   some (.done (.done 8))
  else
   bif decide (a0.2.2.1<0) then
    some (.done (.done 8))
   else
    bif decide (1000000<a0.2.2.1) then
     some (.done (.done 8))
    else
     (SN s.2.2.2.2.2.2.2.2 [a0.2.2.1]).bind fun b2=>
     bif b2 then
      some (.done (.done 8))
     else
      (SO s.2.2.2.2.2.2.2.2 [a0.2.2.1]).bind fun l3=>
      bif decide (0<s.2.2.1) then
       (aO s.2.2.2.2.2.2.1 (aA .i64 (Int.tdiv (aA .i64 (s.2.2.1-1)) 2))).bind fun a4=>
       (cK a0 a4).bind fun n5=>
       bif decide (n5<0) then
        some (.done (.done 8))
       else
        some (.next (s.1,s.2.1,aA .i64 (s.2.2.1+1),s.2.2.2.1,s.2.2.2.2.1,s.2.2.2.2.2.1,s.2.2.2.2.2.2.1,s.2.2.2.2.2.2.2.1,l3))
      else
       some (.next (s.1,s.2.1,aA .i64 (s.2.2.1+1),s.2.2.2.1,s.2.2.2.2.1,s.2.2.2.2.2.1,s.2.2.2.2.2.2.1,s.2.2.2.2.2.2.2.1,l3))
 else
  some (.done (.done 0))
def mV (s:aQ8):Option aQ9:=
 bif decide (s.2.2.1<s.2.1) then
  (aO s.1 s.2.2.1).bind fun n0=>
  (aO s.2.2.2.2.1 s.2.2.1).bind fun b1=>
  bif !b1 then
   bif n0 !=(-1) then
    some (.done 8)
   else
    some (.next (s.1,s.2.1,aA .i64 (s.2.2.1+1),s.2.2.2))
  else
   bif decide (n0<0) then
    some (.done 8)
   else
    bif decide ((Int.ofNat s.2.2.2.2.2.2.1.length)<=n0) then
     some (.done 8)
    else
     (aO s.2.2.2.2.2.2.1 n0).bind fun a2=>
     (aO s.2.2.2.1 s.2.2.1).bind fun n3=>
     bif !((a2.2.2.2.1==s.2.2.1)&&(a2.2.2.2.2==n3)) then
      some (.done 8)
     else
      some (.next (s.1,s.2.1,aA .i64 (s.2.2.1+1),s.2.2.2))
 else
  aH jU (s.2.2.2.2.2.2.1,Int.ofNat s.2.2.2.2.2.2.1.length,0,s.2.2.2.1,s.2.2.2.2.1,s.2.2.2.2.2.1,s.2.2.2.2.2.2.1,s.2.2.2.2.2.2.2,[])
def mJ (p0:aI):Option Int:=
 (sJ p0.slots).bind fun n0=>
 bif n0 !=0 then
  some 8
 else
  bif (Int.ofNat p0.where_.length) !=(Int.ofNat p0.slots.used.length) then
   some 8
  else
   bif (Int.ofNat p0.heap.length) !=(aA .i64 ((Int.ofNat p0.slots.used.length) - (Int.ofNat p0.slots.free.length))) then
    some 8
   else
    aH mV (p0.where_,Int.ofNat p0.where_.length,0,p0.slots.uses,p0.slots.used,p0.slots.free,p0.heap,p0.where_)
def aCt:bJ:=⟨aC.one (aM.agg cZ),aM.int .i64,fun a=>mJ a,.pure,false⟩
theorem KS:aK tab 168 aCt:=Oc aG1 rfl aG [(218,aI7),(72,c72),(219,aJf)] ⟨QT,F3,QU,trivial⟩ fun a=>by kernel_rfl
def yS (p0:Int×Int×Int) (p1:Int):Option Int:=
 (fK p0.1 p1).bind fun n0=>
 some n0
def aRX:bJ:=⟨aC.cons (aM.agg (cJ.row dV)) (aC.one (aM.int .i64)),aM.int .i64,fun a=>yS a.1 a.2,.pure,false⟩
theorem aJg:aK tab 270 aRX:=Oc aIa rfl aG [(157,WK)] ⟨D9,trivial⟩ fun a=>by kernel_rfl
def jA (s:QK):Option aIz:=
 bif decide (s.2.2.2.1<s.2.2.2.2) then
  (aO s.1 (aA .i64 (uB .u64 (aA .u64 (aA .i64 (s.2.2.2.1+s.2.2.2.2))) 1))).bind fun a0=>
  (yS a0 s.2.1).bind fun n1=>
  bif decide (n1<0) then
   some (.next (s.1,s.2.1,s.2.2.1,aA .i64 ((aA .i64 (uB .u64 (aA .u64 (aA .i64 (s.2.2.2.1+s.2.2.2.2))) 1))+1),s.2.2.2.2))
  else
   some (.next (s.1,s.2.1,s.2.2.1,s.2.2.2.1,aA .i64 (uB .u64 (aA .u64 (aA .i64 (s.2.2.2.1+s.2.2.2.2))) 1)))
 else
  bif decide (s.2.2.2.1<s.2.2.1) then
   (aO s.1 s.2.2.2.1).bind fun a2=>
   (yS a2 s.2.1).bind fun n3=>
   some (.done (s.2.2.2.1,n3==0))
  else
   some (.done (s.2.2.2.1,false))
def cW (p0:List (Int×Int×Int)) (p1:Int) (_:Unit):Option (Int×Bool):=
 aH jA (p0,p1,Int.ofNat p0.length,0,Int.ofNat p0.length)
def TJ:bJ:=⟨aC.cons (aM.sl dV) (aC.cons (aM.int .i64) (aC.one (aM.clo 270 aC.nil))),aM.tup (aC.cons (aM.int .i64) (aC.one aM.bool)),fun a=>cW a.1 a.2.1 a.2.2,.pure,false⟩
theorem TK:aK tab 155 TJ:=Oc YQ rfl aG [(270,aRX)] ⟨aJg,trivial⟩ fun a=>by kernel_rfl
def kE (p0:Field) (p1:Int):Option (Int×Int×Int):=
 (cW p0.points p1 ()).bind fun a0=>
 bif !a0.2 then
  some (-1,0,0)
 else
  (aO p0.points a0.1).bind fun a1=>
  some a1
def aJh:bJ:=⟨aC.cons (aM.agg bS) (aC.one (aM.int .i64)),aM.agg (cJ.row dV),fun a=>kE a.1 a.2,.pure,false⟩
theorem QV:aK tab 221 aJh:=Oc aHI rfl aG [(155,TJ)] ⟨TK,trivial⟩ fun a=>by kernel_rfl
def sK (p0:Int×Int×Int) (p1:Int×Int×Int) (p2:Int×Int):Option Int:=
 (kC p0).bind fun n0=>
 (kC p1).bind fun n1=>
 (hY p2).bind fun n2=>
 bif (if n2>(if n1>n0 then n1 else n0) then n2 else if n1>n0 then n1 else n0) !=0 then
  some (if n2>(if n1>n0 then n1 else n0) then n2 else if n1>n0 then n1 else n0)
 else
  bif p0.1==p1.1 then
   some 2
  else
   some 0
def aJi:bJ:=⟨aC.cons (aM.agg (cJ.row dV)) (aC.cons (aM.agg (cJ.row dV)) (aC.one (aM.agg (cJ.row jS)))),aM.int .i64,fun a=>sK a.1 a.2.1 a.2.2,.pure,false⟩
theorem QW:aK tab 135 aJi:=Oc aGJ rfl aG [(100,aCs),(72,c72)] ⟨KR,F3,trivial⟩ fun a=>by kernel_rfl
def pE (s:(Int×Int×Int×Int×Int×Int×Int×Int×Int)):Option (cH (Int×Int×Int×Int×Int×Int×Int×Int×Int) (Int×Int)):=
 bif decide (s.2.2.2.2.1<2) then
  bif s.2.2.2.2.1==0 then
   (jT (aA .u64 s.1) (aA .u64 s.2.1)).bind fun a0=>
   bif decide (s.1<0) then
    bif decide (s.2.1<0) then
     (sA s.2.2.2.2.2.2.2.2 a0.2 0).bind fun a1=>
     some (.next (s.1,s.2.1,s.2.2.1,s.2.2.2.1,aA .i64 (s.2.2.2.2.1+1),s.2.2.2.2.2.1,s.2.2.2.2.2.2.1,aA .i64 ((aA .i64 (s.2.2.2.2.2.2.2.1+(aA .i64 ((aA .i64 ((aA .i64 a0.1) -s.2.1)) -s.1))))+(aA .i64 a1.2)),a1.1))
    else
     (sA s.2.2.2.2.2.2.2.2 a0.2 0).bind fun a2=>
     some (.next (s.1,s.2.1,s.2.2.1,s.2.2.2.1,aA .i64 (s.2.2.2.2.1+1),s.2.2.2.2.2.1,s.2.2.2.2.2.2.1,aA .i64 ((aA .i64 (s.2.2.2.2.2.2.2.1+(aA .i64 ((aA .i64 a0.1) -s.2.1))))+(aA .i64 a2.2)),a2.1))
   else
    bif decide (s.2.1<0) then
     (sA s.2.2.2.2.2.2.2.2 a0.2 0).bind fun a3=>
     some (.next (s.1,s.2.1,s.2.2.1,s.2.2.2.1,aA .i64 (s.2.2.2.2.1+1),s.2.2.2.2.2.1,s.2.2.2.2.2.2.1,aA .i64 ((aA .i64 (s.2.2.2.2.2.2.2.1+(aA .i64 ((aA .i64 a0.1) -s.1))))+(aA .i64 a3.2)),a3.1))
    else
     (sA s.2.2.2.2.2.2.2.2 a0.2 0).bind fun a4=>
     some (.next (s.1,s.2.1,s.2.2.1,s.2.2.2.1,aA .i64 (s.2.2.2.2.1+1),s.2.2.2.2.2.1,s.2.2.2.2.2.2.1,aA .i64 ((aA .i64 (s.2.2.2.2.2.2.2.1+(aA .i64 a0.1)))+(aA .i64 a4.2)),a4.1))
  else
   bif s.2.2.2.2.1==1 then
    (jT (aA .u64 s.2.2.1) (aA .u64 s.2.2.2.1)).bind fun a5=>
    bif decide (s.2.2.1<0) then
     bif decide (s.2.2.2.1<0) then
      (sA s.2.2.2.2.2.2.2.2 a5.2 0).bind fun a6=>
      some (.next (s.1,s.2.1,s.2.2.1,s.2.2.2.1,aA .i64 (s.2.2.2.2.1+1),s.2.2.2.2.2.1,s.2.2.2.2.2.2.1,aA .i64 ((aA .i64 (s.2.2.2.2.2.2.2.1+(aA .i64 ((aA .i64 ((aA .i64 a5.1) -s.2.2.2.1)) -s.2.2.1))))+(aA .i64 a6.2)),a6.1))
     else
      (sA s.2.2.2.2.2.2.2.2 a5.2 0).bind fun a7=>
      some (.next (s.1,s.2.1,s.2.2.1,s.2.2.2.1,aA .i64 (s.2.2.2.2.1+1),s.2.2.2.2.2.1,s.2.2.2.2.2.2.1,aA .i64 ((aA .i64 (s.2.2.2.2.2.2.2.1+(aA .i64 ((aA .i64 a5.1) -s.2.2.2.1))))+(aA .i64 a7.2)),a7.1))
    else
     bif decide (s.2.2.2.1<0) then
      (sA s.2.2.2.2.2.2.2.2 a5.2 0).bind fun a8=>
      some (.next (s.1,s.2.1,s.2.2.1,s.2.2.2.1,aA .i64 (s.2.2.2.2.1+1),s.2.2.2.2.2.1,s.2.2.2.2.2.2.1,aA .i64 ((aA .i64 (s.2.2.2.2.2.2.2.1+(aA .i64 ((aA .i64 a5.1) -s.2.2.1))))+(aA .i64 a8.2)),a8.1))
     else
      (sA s.2.2.2.2.2.2.2.2 a5.2 0).bind fun a9=>
      some (.next (s.1,s.2.1,s.2.2.1,s.2.2.2.1,aA .i64 (s.2.2.2.2.1+1),s.2.2.2.2.2.1,s.2.2.2.2.2.2.1,aA .i64 ((aA .i64 (s.2.2.2.2.2.2.2.1+(aA .i64 a5.1)))+(aA .i64 a9.2)),a9.1))
   else
    none
 else
  some (.done s.2.2.2.2.2.2.2)
def A6 (p0:Int×Int×Int×Int):Option (Int×Int):=
 aH pE (p0.1,p0.2.1,p0.2.2.1,p0.2.2.2,0,0,0,0,0)
def aRY:bJ:=⟨aC.one (aM.agg (cJ.row aQQ)),aM.agg (cJ.row kiu),fun a=>A6 a,.pure,false⟩
theorem aJj:aK tab 194 aRY:=Oc aHm rfl aG [(176,aPy),(242,bJ.add64)] ⟨Y6,aCb,trivial⟩ fun a=>by kernel_rfl
def nY (p0:Int×Int×Int) (p1:Int×Int×Int) (p2:Int×Int):Option Int:=
 (A6 (aA .i64 (p0.2.1-p1.2.1),p2.2,aA .i64 (p0.2.2-p1.2.2),p2.1)).bind fun a0=>
 bif !((a0.1==0)&&(a0.2==0)) then
  bif decide (a0.1<0) then
   some (-1)
  else
   some 1
 else
  (kD p0.2.2 p1.2.2).bind fun n1=>
  (fK p1.1 p0.1).bind fun n2=>
  (wS [n1,n2]).bind fun n3=>
  some n3
def aPB:bJ:=⟨aC.cons (aM.agg (cJ.row dV)) (aC.cons (aM.agg (cJ.row dV)) (aC.one (aM.agg (cJ.row jS)))),aM.int .i64,fun a=>nY a.1 a.2.1 a.2.2,.pure,false⟩
theorem Y8:aK tab 136 aPB:=Oc aGK rfl aG [(194,aRY),(120,aPx),(157,WK),(195,aPA)] ⟨aJj,Y5,D9,Y7,trivial⟩ fun a=>by kernel_rfl
def C4 (p0:Bool×Int×Int) (p1:Int) (p2:Int):Option ((Int×Int)×Int):=
 bif decide (0<p0.2.1) then
  some ((0,0),16)
 else
  bif decide (9223372036854775807<p0.2.2) then
   some ((0,0),16)
  else
   bif decide (0<p1) then
    some ((0,0),16)
   else
    bif decide (9223372036854775807<p2) then
     some ((0,0),16)
    else
     bif p0.1 then
      some ((aA .i64 (0- (aA .i64 p0.2.2)),aA .i64 p2),0)
     else
      some ((aA .i64 p0.2.2,aA .i64 p2),0)
def aRZ:bJ:=⟨aC.cons (aM.agg (cJ.row C0)) (aC.cons (aM.int .u64) (aC.one (aM.int .u64))),aM.tup (aC.cons (aM.agg (cJ.row jS)) (aC.one (aM.int .i64))),fun a=>C4 a.1 a.2.1 a.2.2,.pure,false⟩
theorem aJk:aK tab 243 aRZ:=Oc aHT rfl aG [] trivial fun a=>by kernel_rfl
def A7 (p0:Int) (p1:Int):Option ((Int×Int)×Int):=
 bif p1==0 then
  some ((0,0),26)
 else
  (nD p0).bind fun n0=>
  (nD p1).bind fun n1=>
  (zW n0 n1).bind fun n2=>
  (nD p0).bind fun n3=>
  bif n2==0 then
   none
  else
   (nD p1).bind fun n4=>
   bif n2==0 then
    none
   else
    (C4 (!((decide (p0<0))==(decide (p1<0))),0,aA .u64 (Int.tdiv n3 n2)) 0 (aA .u64 (Int.tdiv n4 n2))).bind fun a5=>
    some a5
def aR0:bJ:=⟨aC.cons (aM.int .i64) (aC.one (aM.int .i64)),aM.tup (aC.cons (aM.agg (cJ.row jS)) (aC.one (aM.int .i64))),fun a=>A7 a.1 a.2,.pure,false⟩
theorem aJl:aK tab 197 aR0:=Oc aHo rfl aG [(118,aI2),(117,aPv),(243,aRZ)] ⟨QR,Y3,aJk,trivial⟩ fun a=>by kernel_rfl
def C5 (p0:Int×Int×Int) (p1:Int×Int×Int):Option ((Int×Int)×Int):=
 (sK p0 p1 (0,1)).bind fun n0=>
 bif n0 !=0 then
  some ((0,0),n0)
 else
  bif p0.2.2==p1.2.2 then
   some ((0,0),6)
  else
   (A7 (aA .i64 (p0.2.1-p1.2.1)) (aA .i64 (p1.2.2-p0.2.2))).bind fun a1=>
   some a1
def aR1:bJ:=⟨aC.cons (aM.agg (cJ.row dV)) (aC.one (aM.agg (cJ.row dV))),aM.tup (aC.cons (aM.agg (cJ.row jS)) (aC.one (aM.int .i64))),fun a=>C5 a.1 a.2,.pure,false⟩
theorem aJm:aK tab 139 aR1:=Oc aGL rfl aG [(135,aJi),(197,aR0)] ⟨QW,aJl,trivial⟩ fun a=>by kernel_rfl
def vQ (p0:Int×Int×Int) (p1:Int×Int×Int) (p2:Int×Int):Option ((Int×Int)×Bool×Int):=
 (sK p0 p1 p2).bind fun n0=>
 bif n0 !=0 then
  some ((0,0),false,n0)
 else
  (nY p1 p0 p2).bind fun n1=>
  bif decide (0<n1) then
   some (p2,true,0)
  else
   bif decide (p1.2.2<=p0.2.2) then
    some ((0,0),false,0)
   else
    (C5 p0 p1).bind fun a2=>
    some (a2.1,a2.2==0,a2.2)
def aR2:bJ:=⟨aC.cons (aM.agg (cJ.row dV)) (aC.cons (aM.agg (cJ.row dV)) (aC.one (aM.agg (cJ.row jS)))),aM.tup (aC.cons (aM.agg (cJ.row jS)) (aC.cons aM.bool (aC.one (aM.int .i64)))),fun a=>vQ a.1 a.2.1 a.2.2,.pure,false⟩
theorem aJn:aK tab 220 aR2:=Oc aHH rfl aG [(135,aJi),(136,aPB),(139,aR1)] ⟨QW,Y8,aJm,trivial⟩ fun a=>by kernel_rfl
def sL (p0:Field) (p1:Int×Int) (p2:Int×Int):Option ((Int×Int)×Bool×Int):=
 (kE p0 p1.2).bind fun a0=>
 (kE p0 p1.1).bind fun a1=>
 (vQ a0 a1 p2).bind fun a2=>
 some a2
def aJo:bJ:=⟨aC.cons (aM.agg bS) (aC.cons (aM.agg (cJ.row jS)) (aC.one (aM.agg (cJ.row jS)))),aM.tup (aC.cons (aM.agg (cJ.row jS)) (aC.cons aM.bool (aC.one (aM.int .i64)))),fun a=>sL a.1 a.2.1 a.2.2,.pure,false⟩
theorem QX:aK tab 169 aJo:=Oc aG2 rfl aG [(221,aJh),(220,aR2)] ⟨QV,aJn,trivial⟩ fun a=>by kernel_rfl
def cR (s:Zt8):Option (cH Zt8 aQU):=
 bif decide (s.2.2.2.1<s.2.2.1) then
  (aO s.2.1 s.2.2.2.1).bind fun a0=>
  (sL (Field.mk s.2.2.2.2.2.2.1) a0.2 (s.2.2.2.2.1,s.2.2.2.2.2.1)).bind fun a1=>
  bif a1.2.2 !=0 then
   some (.done (.done 8))
  else
   bif !a1.2.1 then
    some (.next (s.1,s.2.1,s.2.2.1,aA .i64 (s.2.2.2.1+1),s.2.2.2.2))
   else
    bif (Int.ofNat s.1.length)==0 then
     some (.done (.done 8))
    else
     (aO s.1 0).bind fun a2=>
     bif a2.1 !=a0.1 then
      some (.done (.done 8))
     else
      (aO s.1 0).bind fun a3=>
      bif decide (a3.2.1<0) then
       some (.done (.done 8))
      else
       bif decide (200<=a3.2.1) then
        some (.done (.done 8))
       else
        (aO s.2.2.2.2.2.2.2.2.2.2.2.2.2.1 a3.2.1).bind fun n4=>
        bif decide (n4<0) then
         some (.done (.done 8))
        else
         (aO s.2.2.2.2.2.2.2.2.2.2.2.2.2.1 a3.2.1).bind fun n5=>
         (aO s.2.2.2.2.2.2.2.2.2.2.2.2.1 n5).bind fun a6=>
         bif !((a6.1==a1.1.1)&&((a6.2.1==a1.1.2)&&((a6.2.2.1==a0.1)&&((a6.2.2.2.1==a3.2.1)&&(a6.2.2.2.2==a3.2.2))))) then
          some (.done (.done 8))
         else
          (jD s.1 1 (Int.ofNat s.1.length)).bind fun l7=>
          some (.next (l7,s.2.1,s.2.2.1,aA .i64 (s.2.2.2.1+1),s.2.2.2.2))
 else
  bif decide (0<(Int.ofNat s.1.length)) then
   some (.done (.done 8))
  else
   some (.done (.done 0))
def fG (s:aQT):Option aQU:=
 bif decide (s.2.1<s.1) then
  (aO s.2.2.2.2.2.2.2.2.2.2.2.2.2 s.2.1).bind fun n0=>
  bif n0 !=0 then
   some (.done 8)
  else
   some (.next (s.1,aA .i64 (s.2.1+1),s.2.2))
 else
  bif (Int.ofNat s.2.2.2.2.2.2.2.2.2.2.2.1.length) !=200 then
   some (.done 8)
  else
   bif (Int.ofNat s.2.2.2.2.2.2.2.2.2.2.1.length) !=(Int.ofNat s.2.2.2.2.2.2.2.2.2.2.2.2.1.length) then
    some (.done 8)
   else
    aH cR (s.2.2.2.2.2.2.2.2.2.2.2.2.1,s.2.2.2.2.2.2.1,Int.ofNat s.2.2.2.2.2.2.1.length,0,s.2.2.1,s.2.2.2.1,s.2.2.2.2.1,s.2.2.2.2.2.1,s.2.2.2.2.2.2.1,s.2.2.2.2.2.2.2.1,s.2.2.2.2.2.2.2.2.1,s.2.2.2.2.2.2.2.2.2.1,s.2.2.2.2.2.2.2.2.2.2.1,s.2.2.2.2.2.2.2.2.2.2.2.1,s.2.2.2.2.2.2.2.2.2.2.2.2.1)
def iA (p0:aQ):Option Int:=
 (hY p0.now).bind fun n0=>
 (dE p0.field).bind fun n1=>
 (sI p0.certs).bind fun n2=>
 (mJ p0.agenda).bind fun n3=>
 aH fG (Int.ofNat ([n0,n1,n2,n3].length),0,p0.now.1,p0.now.2,p0.field.points,p0.certs.next_,p0.certs.list,p0.agenda.slots.uses,p0.agenda.slots.used,p0.agenda.slots.free,p0.agenda.heap,p0.agenda.where_,p0.due,[n0,n1,n2,n3])
def aAH:bJ:=⟨aC.one (aM.agg bU),aM.int .i64,fun a=>iA a,.pure,false⟩
theorem HE:aK tab 109 aAH:=Oc aGq rfl aG [(72,c72),(99,c99),(167,aI4),(168,aCt),(169,aJo)] ⟨F3,F4,QS,KS,QX,trivial⟩ fun a=>by kernel_rfl
def A8 (p0:Field) (p1:Int×Int):Option Int:=
 (dE p0).bind fun n0=>
 bif n0 !=0 then
  some n0
 else
  (hY p1).bind fun n1=>
  some n1
def c81:bJ:=⟨aC.cons (aM.agg bS) (aC.one (aM.agg (cJ.row jS))),aM.int .i64,fun a=>A8 a.1 a.2,.pure,false⟩
theorem aPC:aK tab 81 c81:=Oc aO3 rfl aG [(99,c99),(72,c72)] ⟨F4,F3,trivial⟩ fun a=>by kernel_rfl
def oQ (p0:Int×Int×Int) (p1:Int×Int×Int) (p2:Int×Int):Option (Bool×Int):=
 (sK p0 p1 p2).bind fun n0=>
 bif n0 !=0 then
  some (false,n0)
 else
  (nY p0 p1 p2).bind fun n1=>
  some (decide (0<n1),0)
def c82:bJ:=⟨aC.cons (aM.agg (cJ.row dV)) (aC.cons (aM.agg (cJ.row dV)) (aC.one (aM.agg (cJ.row jS)))),aM.tup (aC.cons aM.bool (aC.one (aM.int .i64))),fun a=>oQ a.1 a.2.1 a.2.2,.pure,false⟩
theorem aPD:aK tab 82 c82:=Oc aO4 rfl aG [(135,aJi),(136,aPB)] ⟨QW,Y8,trivial⟩ fun a=>by kernel_rfl
def rC (s:aQ2):Option (cH aQ2 aQ5):=
 match s with
 |(a,b,d,e,f,g,h,i,j,k,l,m,n,o,q,r,t,u,v)=>
  bif decide (0<(Int.ofNat a)) then
   (aO (n.take a) (aA .i64 ((Int.ofNat a) -1))).bind fun n0=>
   (aO h n0).bind fun a1=>
   (oQ a1 (o,q,r) (i,j)).bind fun a2=>
   bif a2.1 then
    bif decide (0<(Int.ofNat a)) then
     (aO (n.take a) (aA .i64 ((Int.ofNat a) -1))).bind fun n3=>
     (aO m n3).bind fun a4=>
     (bF (cB m n3 (a4.1,a4.2.1,d)) [(t,u,v)]).bind fun l5=>
     bif Nat.ble (a+[d].length) b then
      bif (Nat.ble (a+[d].length) n.length)&&(!false) then
       some (.done (.next (a+[d].length,b,e,f,aA .i64 (g+1),h,i,j,k,l,l5,eV n a [d])))
      else
       none
     else
      (bF (n.take a) [d]).bind fun l6=>
      bif Nat.ble a n.length then
       some (.done (.next (l6.length,l6.length,e,f,aA .i64 (g+1),h,i,j,k,l,l5,l6)))
      else
       none
    else
     (bF m [(t,u,v)]).bind fun l7=>
     bif Nat.ble (a+[d].length) b then
      bif (Nat.ble (a+[d].length) n.length)&&(!false) then
       some (.done (.next (a+[d].length,b,e,f,aA .i64 (g+1),h,i,j,k,d,l7,eV n a [d])))
      else
       none
     else
      (bF (n.take a) [d]).bind fun l8=>
      bif Nat.ble a n.length then
       some (.done (.next (l8.length,l8.length,e,f,aA .i64 (g+1),h,i,j,k,d,l7,l8)))
      else
       none
   else
    bif (decide (0<=(aA .i64 ((Int.ofNat a) -1))))&&(decide ((aA .i64 ((Int.ofNat a) -1))<=(Int.ofNat b))) then
     some (.next ((aA .i64 ((Int.ofNat a) -1)).toNat,b,d,e,f,g,h,i,j,k,l,m,n,o,q,r,t,n0,v))
    else
     none
  else
   bif decide (0<(Int.ofNat a)) then
    (aO (n.take a) (aA .i64 ((Int.ofNat a) -1))).bind fun n9=>
    (aO m n9).bind fun a10=>
    (bF (cB m n9 (a10.1,a10.2.1,d)) [(t,u,v)]).bind fun l11=>
    bif Nat.ble (a+[d].length) b then
     bif (Nat.ble (a+[d].length) n.length)&&(!false) then
      some (.done (.next (a+[d].length,b,e,f,aA .i64 (g+1),h,i,j,k,l,l11,eV n a [d])))
     else
      none
    else
     (bF (n.take a) [d]).bind fun l12=>
     bif Nat.ble a n.length then
      some (.done (.next (l12.length,l12.length,e,f,aA .i64 (g+1),h,i,j,k,l,l11,l12)))
     else
      none
   else
    (bF m [(t,u,v)]).bind fun l13=>
    bif Nat.ble (a+[d].length) b then
     bif (Nat.ble (a+[d].length) n.length)&&(!false) then
      some (.done (.next (a+[d].length,b,e,f,aA .i64 (g+1),h,i,j,k,d,l13,eV n a [d])))
     else
      none
    else
     (bF (n.take a) [d]).bind fun l14=>
     bif Nat.ble a n.length then
      some (.done (.next (l14.length,l14.length,e,f,aA .i64 (g+1),h,i,j,k,d,l13,l14)))
     else
      none
def oR (s:aQ4):Option aQ5:=
 bif decide (s.2.2.2.2.1<s.2.2.2.1) then
  (aO s.2.2.1 s.2.2.2.2.1).bind fun a0=>
  aH rC (s.1,s.2.1,s.2.2.2.2.1,s.2.2.1,s.2.2.2.1,s.2.2.2.2.1,s.2.2.2.2.2.1,s.2.2.2.2.2.2.1,s.2.2.2.2.2.2.2.1,s.2.2.2.2.2.2.2.2.1,s.2.2.2.2.2.2.2.2.2.1,s.2.2.2.2.2.2.2.2.2.2.1,s.2.2.2.2.2.2.2.2.2.2.2,a0.1,a0.2.1,a0.2.2,a0.1,-1,-1)
 else
  some (.done (nK.mk s.2.2.2.2.2.2.2.2.2.1 s.2.2.2.2.2.2.2.2.2.2.1,0))
def qG (p0:Field) (p1:Int×Int):Option (nK×Int):=
 (A8 p0 p1).bind fun n0=>
 bif n0 !=0 then
  some (nK.mk 0 [],n0)
 else
  aH oR (0,0,p0.points,Int.ofNat p0.points.length,0,p0.points,p1.1,p1.2,0,-1,[],[])
def c29:bJ:=⟨aC.cons (aM.agg bS) (aC.one (aM.agg (cJ.row jS))),aM.tup (aC.cons (aM.agg wM) (aC.one (aM.int .i64))),fun a=>qG a.1 a.2,.frz,false⟩
theorem QY:aK tab 29 c29:=Oc aOy rfl aG [(81,c81),(82,c82)] ⟨aPC,aPD,trivial⟩ fun a=>by kernel_rfl
def jK (s:aRa):Option (cH aRa aPf):=
 bif decide (s.2.2.2.2.2.2.1<2) then
  bif s.2.2.2.2.2.2.1==0 then
   bif decide (0<=s.2.2.2.2.1) then
    (aO s.2.2.2.2.2.2.2.2.2.2 s.2.2.2.2.1).bind fun _=>
    some (.next (s.1,s.2.1,s.2.2.1,s.2.2.2.1,s.2.2.2.2.1,s.2.2.2.2.2.1,aA .i64 (s.2.2.2.2.2.2.1+1),s.2.2.2.2.2.2.2.1,s.2.2.2.2.2.2.2.2.1,s.2.2.2.2.2.2.2.2.2.1,cB s.2.2.2.2.2.2.2.2.2.2 s.2.2.2.2.1 s.1))
   else
    some (.next (s.1,s.2.1,s.2.2.1,s.2.2.2.1,s.2.2.2.2.1,s.2.2.2.2.2.1,aA .i64 (s.2.2.2.2.2.2.1+1),s.2.2.2.2.2.2.2))
  else
   bif s.2.2.2.2.2.2.1==1 then
    bif decide (0<=s.2.2.2.2.2.1) then
     (aO s.2.2.2.2.2.2.2.2.2.2 s.2.2.2.2.2.1).bind fun _=>
     some (.next (s.1,s.2.1,s.2.2.1,s.2.2.2.1,s.2.2.2.2.1,s.2.2.2.2.2.1,aA .i64 (s.2.2.2.2.2.2.1+1),s.2.2.2.2.2.2.2.1,s.2.2.2.2.2.2.2.2.1,s.2.2.2.2.2.2.2.2.2.1,cB s.2.2.2.2.2.2.2.2.2.2 s.2.2.2.2.2.1 s.1))
    else
     some (.next (s.1,s.2.1,s.2.2.1,s.2.2.2.1,s.2.2.2.2.1,s.2.2.2.2.2.1,aA .i64 (s.2.2.2.2.2.2.1+1),s.2.2.2.2.2.2.2))
   else
    none
 else
  some (.done (.next (s.2.1,s.2.2.1,aA .i64 (s.2.2.2.1+1),s.2.2.2.2.2.2.2)))
def lJ (s:aRb):Option (cH aRb aPf):=
 bif decide (s.2.2.1<s.2.1) then
  (aO s.1 s.2.2.1).bind fun a0=>
  (aO s.2.2.2.2.2.2.1 s.2.2.1).bind fun n1=>
  bif decide (0<=n1) then
   (aO s.2.2.2.2.2.2.1 s.2.2.1).bind fun n2=>
   (aO s.2.2.2.2.2.1 n2).bind fun a3=>
   (bF s.2.2.2.2.2.2.2 [(a0.1,a3.1)]).bind fun l4=>
   some (.next (s.1,s.2.1,aA .i64 (s.2.2.1+1),s.2.2.2.1,s.2.2.2.2.1,s.2.2.2.2.2.1,s.2.2.2.2.2.2.1,l4))
  else
   some (.next (s.1,s.2.1,aA .i64 (s.2.2.1+1),s.2.2.2))
 else
  some (.done (.done (.done (nK.mk s.2.2.2.2.1 s.2.2.2.2.2.1,s.2.2.2.2.2.2.2))))
def lK (s:aQZ):Option aPf:=
 bif decide (s.2.2.1<s.2.1) then
  (aO s.1 s.2.2.1).bind fun a0=>
  aH jK (s.2.2.1,s.1,s.2.1,s.2.2.1,a0.2.1,a0.2.2,0,s.2.2.2)
 else
  aH lJ (s.2.2.2.2.2.1,Int.ofNat s.2.2.2.2.2.1.length,0,s.2.2.2.1,s.2.2.2.2.1,s.2.2.2.2.2.1,s.2.2.2.2.2.2,[])
def lL (s:(Int×Int×Int×Int×bR×(List Int))):Option aQY:=
 bif decide (s.2.1<s.1) then
  (aO s.2.2.2.2.2 s.2.1).bind fun _=>
  some (.next (s.1,aA .i64 (s.2.1+1),s.2.2.1,s.2.2.2.1,s.2.2.2.2.1,cB s.2.2.2.2.2 s.2.1 (-1)))
 else
  aH lK (s.2.2.2.2.1,Int.ofNat s.2.2.2.2.1.length,0,s.2.2)
def uL (p0:Field) (p1:Int×Int):Option (nK×sB):=
 (qG p0 p1).bind fun a0=>
 bif (Int.ofNat a0.1.nodes.length)==(Int.ofNat a0.1.nodes.length) then
  (zR (Int.ofNat a0.1.nodes.length) (0:Int)).bind fun l1=>
  aH lL (Int.ofNat l1.length,0,0,a0.1.root,a0.1.nodes,l1)
 else
  none
def c58:bJ:=⟨aC.cons (aM.agg bS) (aC.one (aM.agg (cJ.row jS))),aM.tup (aC.cons (aM.agg wM) (aC.one (aM.sl jS))),fun a=>uL a.1 a.2,.frz,false⟩
theorem aPE:aK tab 58 c58:=Oc aOQ rfl aG [(29,c29)] ⟨QY,trivial⟩ fun a=>by kernel_rfl
def C6 (s:aPj):Option aRn:=
 bif decide (s.2.2.2<s.2.2.1) then
  (aO s.1 s.2.2.2).bind fun a0=>
  (aO s.2.1 s.2.2.2).bind fun a1=>
  bif !((a0.1==a1.1)&&((a0.2.1==a1.2.1)&&(a0.2.2==a1.2.2))) then
   some (.done false)
  else
   some (.next (s.1,s.2.1,s.2.2.1,aA .i64 (s.2.2.2+1)))
 else
  some (.done true)
def rD (p0:List (Int×Int×Int)) (p1:List (Int×Int×Int)):Option Bool:=
 bif (Int.ofNat p0.length) !=(Int.ofNat p1.length) then
  some false
 else
  aH C6 (p0,p1,Int.ofNat p0.length,0)
def aR4:bJ:=⟨aC.cons (aM.sl dV) (aC.one (aM.sl dV)),aM.bool,fun a=>rD a.1 a.2,.pure,false⟩
theorem aJp:aK tab 110 aR4:=Oc aGr rfl aG [] trivial fun a=>by kernel_rfl
def kF (s:(sB×Int×Int×Int×Int)):Option (cH (sB×Int×Int×Int×Int) Int):=
 bif decide (s.2.2.1<s.2.1) then
  (aO s.1 s.2.2.1).bind fun a0=>
  bif (s.2.2.2.1==a0.1)&&(s.2.2.2.2==a0.2) then
   some (.done s.2.2.1)
  else
   some (.next (s.1,s.2.1,aA .i64 (s.2.2.1+1),s.2.2.2))
 else
  some (.done (-1))
def rE (p0:List (Int×Int)) (p1:Int×Int):Option Int:=
 aH kF (p0,Int.ofNat p0.length,0,p1)
def aR5:bJ:=⟨aC.cons (aM.sl jS) (aC.one (aM.agg (cJ.row jS))),aM.int .i64,fun a=>rE a.1 a.2,.pure,false⟩
theorem aJq:aK tab 211 aR5:=Oc aHy rfl aG [] trivial fun a=>by kernel_rfl
def fQ (p0:List (Int×Int)) (p1:Int×Int):Option Bool:=
 (rE p0 p1).bind fun n0=>
 some (decide (0<=n0))
def aJr:bJ:=⟨aC.cons (aM.sl jS) (aC.one (aM.agg (cJ.row jS))),aM.bool,fun a=>fQ a.1 a.2,.pure,false⟩
theorem QZ:aK tab 163 aJr:=Oc aGX rfl aG [(211,aR5)] ⟨aJq,trivial⟩ fun a=>by kernel_rfl
def yT (p0:Int×Int×Int) (p1:List (Int×Int)):Option Bool:=
 (fQ p1 p0.2).bind fun b0=>
 some (!b0)
def aR6:bJ:=⟨aC.cons (aM.agg (cJ.row dV)) (aC.one (aM.ref (cJ.sl jS))),aM.bool,fun a=>yT a.1 a.2,.pure,false⟩
theorem aJs:aK tab 170 aR6:=Oc aG3 rfl aG [(163,aJr)] ⟨QZ,trivial⟩ fun a=>by kernel_rfl
def bM (s:(bR×sB×Int×Int)):Option (cH (bR×sB×Int×Int) Int):=
 bif decide (s.2.2.2<s.2.2.1) then
  (aO s.1 s.2.2.2).bind fun a0=>
  (yT a0 s.2.1).bind fun b1=>
  bif b1 then
   some (.done s.2.2.2)
  else
   some (.next (s.1,s.2.1,s.2.2.1,aA .i64 (s.2.2.2+1)))
 else
  some (.done (-1))
def eY (p0:List (Int×Int×Int)) (p1:sB):Option Int:=
 aH bM (p0,p1,Int.ofNat p0.length,0)
def TL:bJ:=⟨aC.cons (aM.sl dV) (aC.one (aM.clo 170 (aC.one (aM.ref (cJ.sl jS))))),aM.int .i64,fun a=>eY a.1 a.2,.pure,false⟩
theorem TM:aK tab 222 TL:=Oc QG rfl aG [(170,aR6)] ⟨aJs,trivial⟩ fun a=>by kernel_rfl
def eF (p0:List (Int×Int×Int)) (p1:sB):Option Bool:=
 (eY p0 p1).bind fun n0=>
 some (decide (0<=n0))
def TN:bJ:=⟨aC.cons (aM.sl dV) (aC.one (aM.clo 170 (aC.one (aM.ref (cJ.sl jS))))),aM.bool,fun a=>eF a.1 a.2,.pure,false⟩
theorem TO:aK tab 171 TN:=Oc QF rfl aG [(222,TL)] ⟨TM,trivial⟩ fun a=>by kernel_rfl
def uM (p0:aQ) (p1:List (Int×Int)):Option Bool:=
 bif (Int.ofNat p1.length)==(Int.ofNat p0.certs.list.length) then
  (eF p0.certs.list p1).bind fun b0=>
  some (!b0)
 else
  some false
def aR7:bJ:=⟨aC.cons (aM.agg bU) (aC.one (aM.sl jS)),aM.bool,fun a=>uM a.1 a.2,.pure,false⟩
theorem aJt:aK tab 111 aR7:=Oc aGs rfl aG [(171,TN)] ⟨TO,trivial⟩ fun a=>by kernel_rfl
def oS (p0:bH):Option Int:=
 (iA p0.clock).bind fun n0=>
 bif n0 !=0 then
  some 8
 else
  (uL p0.clock.field p0.clock.now).bind fun a1=>
  bif a1.1.root !=p0.tree.root then
   some 8
  else
   (rD a1.1.nodes p0.tree.nodes).bind fun b2=>
   bif !b2 then
    some 8
   else
    (uM p0.clock a1.2).bind fun b3=>
    bif !b3 then
     some 8
    else
     some 0
def c57:bJ:=⟨aC.one (aM.agg dW),aM.int .i64,fun a=>oS a,.pure,false⟩
theorem WL:aK tab 57 c57:=Oc aOP rfl aG [(109,aAH),(58,c58),(110,aR4),(111,aR7)] ⟨HE,aPE,aJp,aJt,trivial⟩ fun a=>by kernel_rfl
def A9 (p0:Int×Int×Int) (p1:Int):Option Int:=
 (fK p0.1 p1).bind fun n0=>
 some n0
def aR8:bJ:=⟨aC.cons (aM.agg (cJ.row dV)) (aC.one (aM.int .i64)),aM.int .i64,fun a=>A9 a.1 a.2,.pure,false⟩
theorem aJu:aK tab 156 aR8:=Oc aGU rfl aG [(157,WK)] ⟨D9,trivial⟩ fun a=>by kernel_rfl
def jL (s:QK):Option aIz:=
 bif decide (s.2.2.2.1<s.2.2.2.2) then
  (aO s.1 (aA .i64 (uB .u64 (aA .u64 (aA .i64 (s.2.2.2.1+s.2.2.2.2))) 1))).bind fun a0=>
  (A9 a0 s.2.1).bind fun n1=>
  bif decide (n1<0) then
   some (.next (s.1,s.2.1,s.2.2.1,aA .i64 ((aA .i64 (uB .u64 (aA .u64 (aA .i64 (s.2.2.2.1+s.2.2.2.2))) 1))+1),s.2.2.2.2))
  else
   some (.next (s.1,s.2.1,s.2.2.1,s.2.2.2.1,aA .i64 (uB .u64 (aA .u64 (aA .i64 (s.2.2.2.1+s.2.2.2.2))) 1)))
 else
  bif decide (s.2.2.2.1<s.2.2.1) then
   (aO s.1 s.2.2.2.1).bind fun a2=>
   (A9 a2 s.2.1).bind fun n3=>
   some (.done (s.2.2.2.1,n3==0))
  else
   some (.done (s.2.2.2.1,false))
def dA (p0:List (Int×Int×Int)) (p1:Int) (_:Unit):Option (Int×Bool):=
 aH jL (p0,p1,Int.ofNat p0.length,0,Int.ofNat p0.length)
def TP:bJ:=⟨aC.cons (aM.sl dV) (aC.cons (aM.int .i64) (aC.one (aM.clo 156 aC.nil))),aM.tup (aC.cons (aM.int .i64) (aC.one aM.bool)),fun a=>dA a.1 a.2.1 a.2.2,.pure,false⟩
theorem TQ:aK tab 155 TP:=Oc YQ rfl aG [(156,aR8)] ⟨aJu,trivial⟩ fun a=>by kernel_rfl
def kL (p0:Field) (p1:Int):Option (Int×Bool):=
 (dA p0.points p1 ()).bind fun a0=>
 some a0
def aPF:bJ:=⟨aC.cons (aM.agg bS) (aC.one (aM.int .i64)),aM.tup (aC.cons (aM.int .i64) (aC.one aM.bool)),fun a=>kL a.1 a.2,.pure,false⟩
theorem Y9:aK tab 101 aPF:=Oc aGj rfl aG [(155,TP)] ⟨TQ,trivial⟩ fun a=>by kernel_rfl
def jV (p0:Field) (p1:Int×Int×Int):Option (Field×Int):=
 (dE p0).bind fun n0=>
 bif n0 !=0 then
  some (Field.mk [],n0)
 else
  (kC p1).bind fun n1=>
  bif n1 !=0 then
   some (Field.mk [],n1)
  else
   (kL p0 p1.1).bind fun a2=>
   bif a2.2 then
    some (Field.mk [],14)
   else
    bif (Int.ofNat p0.points.length)==64 then
     some (Field.mk [],18)
    else
     (cD p0.points).bind fun l3=>
     (DX l3 a2.1 [p1]).bind fun l4=>
     some (Field.mk l4,0)
def c46:bJ:=⟨aC.cons (aM.agg bS) (aC.one (aM.agg (cJ.row dV))),aM.tup (aC.cons (aM.agg bS) (aC.one (aM.int .i64))),fun a=>jV a.1 a.2,.frz,false⟩
theorem aPG:aK tab 46 c46:=aK.of aOJ (cx:=(oX aG [(99,c99),(100,aCs),(101,aPF),(103,bJ.clone dV)] [] [(102,.ins 3)] [])) rfl (lY.make ⟨F4,KR,Y9,uF,trivial⟩ trivial ⟨aGk,trivial⟩) (fun a=>by kernel_rfl)
def xX (p0:Field) (p1:Int×Int×Int):Option (Field×Int):=
 (jV p0 p1).bind fun a0=>
 some a0
def c92:bJ:=⟨aC.cons (aM.agg bS) (aC.one (aM.ref (cJ.row dV))),aM.tup (aC.cons (aM.agg bS) (aC.one (aM.int .i64))),fun a=>xX a.1 a.2,.frz,false⟩
theorem aPH:aK tab 92 c92:=Oc aO8 rfl aG [(46,c46)] ⟨aPG,trivial⟩ fun a=>by kernel_rfl
def jM (s:aRd):Option (cH aRd aPg):=
 bif decide (s.2.2.2.2.2.2.1<2) then
  bif s.2.2.2.2.2.2.1==0 then
   bif decide (0<=s.2.2.2.2.1) then
    (aO s.2.2.2.2.2.2.2.2.2 s.2.2.2.2.1).bind fun _=>
    some (.next (s.1,s.2.1,s.2.2.1,s.2.2.2.1,s.2.2.2.2.1,s.2.2.2.2.2.1,aA .i64 (s.2.2.2.2.2.2.1+1),s.2.2.2.2.2.2.2.1,s.2.2.2.2.2.2.2.2.1,cB s.2.2.2.2.2.2.2.2.2 s.2.2.2.2.1 s.1))
   else
    some (.next (s.1,s.2.1,s.2.2.1,s.2.2.2.1,s.2.2.2.2.1,s.2.2.2.2.2.1,aA .i64 (s.2.2.2.2.2.2.1+1),s.2.2.2.2.2.2.2))
  else
   bif s.2.2.2.2.2.2.1==1 then
    bif decide (0<=s.2.2.2.2.2.1) then
     (aO s.2.2.2.2.2.2.2.2.2 s.2.2.2.2.2.1).bind fun _=>
     some (.next (s.1,s.2.1,s.2.2.1,s.2.2.2.1,s.2.2.2.2.1,s.2.2.2.2.2.1,aA .i64 (s.2.2.2.2.2.2.1+1),s.2.2.2.2.2.2.2.1,s.2.2.2.2.2.2.2.2.1,cB s.2.2.2.2.2.2.2.2.2 s.2.2.2.2.2.1 s.1))
    else
     some (.next (s.1,s.2.1,s.2.2.1,s.2.2.2.1,s.2.2.2.2.1,s.2.2.2.2.2.1,aA .i64 (s.2.2.2.2.2.2.1+1),s.2.2.2.2.2.2.2))
   else
    none
 else
  some (.done (.next (s.2.1,s.2.2.1,aA .i64 (s.2.2.2.1+1),s.2.2.2.2.2.2.2)))
def lM (s:aRe):Option (cH aRe aPg):=
 bif decide (s.2.2.1<s.2.1) then
  (aO s.1 s.2.2.1).bind fun a0=>
  bif s.2.2.1 !=s.2.2.2.1 then
   (aO s.2.2.2.2.2.1 s.2.2.1).bind fun n1=>
   (aO s.2.2.2.2.1 n1).bind fun a2=>
   (bF s.2.2.2.2.2.2 [(a0.1,a2.1)]).bind fun l3=>
   some (.next (s.1,s.2.1,aA .i64 (s.2.2.1+1),s.2.2.2.1,s.2.2.2.2.1,s.2.2.2.2.2.1,l3))
  else
   some (.next (s.1,s.2.1,aA .i64 (s.2.2.1+1),s.2.2.2))
 else
  some (.done (.done s.2.2.2.2.2.2))
def nZ (s:aRc):Option aPg:=
 bif decide (s.2.2.1<s.2.1) then
  (aO s.1 s.2.2.1).bind fun a0=>
  aH jM (s.2.2.1,s.1,s.2.1,s.2.2.1,a0.2.1,a0.2.2,0,s.2.2.2)
 else
  aH lM (s.2.2.2.2.1,Int.ofNat s.2.2.2.2.1.length,0,s.2.2.2.1,s.2.2.2.2.1,s.2.2.2.2.2,[])
def oA (p0:nK):Option sB:=
 bif (Int.ofNat p0.nodes.length)==(Int.ofNat p0.nodes.length) then
  (zR (Int.ofNat p0.nodes.length) (0:Int)).bind fun l0=>
  aH nZ (p0.nodes,Int.ofNat p0.nodes.length,0,p0.root,p0.nodes,l0)
 else
  none
def aJv:bJ:=⟨aC.one (aM.agg wM),aM.sl jS,fun a=>oA a,.frz,false⟩
theorem Q0:aK tab 150 aJv:=Oc aGP rfl aG [] trivial fun a=>by kernel_rfl
def kG (p0:Field) (p1:Int):Option (Int×Int):=
 (dE p0).bind fun n0=>
 bif n0 !=0 then
  some (0,n0)
 else
  (kL p0 p1).bind fun a1=>
  bif !a1.2 then
   some (0,6)
  else
   some (a1.1,0)
def aJw:bJ:=⟨aC.cons (aM.agg bS) (aC.one (aM.int .i64)),aM.tup (aC.cons (aM.int .i64) (aC.one (aM.int .i64))),fun a=>kG a.1 a.2,.pure,false⟩
theorem Q1:aK tab 104 aJw:=Oc aGm rfl aG [(99,c99),(101,aPF)] ⟨F4,Y9,trivial⟩ fun a=>by kernel_rfl
def wT (p0:Field) (p1:Int):Option ((Int×Int×Int)×Int):=
 (kG p0 p1).bind fun a0=>
 bif a0.2 !=0 then
  some ((0,0,0),a0.2)
 else
  (aO p0.points a0.1).bind fun a1=>
  some (a1,0)
def aR9:bJ:=⟨aC.cons (aM.agg bS) (aC.one (aM.int .i64)),aM.tup (aC.cons (aM.agg (cJ.row dV)) (aC.one (aM.int .i64))),fun a=>wT a.1 a.2,.pure,false⟩
theorem aJx:aK tab 164 aR9:=Oc aGY rfl aG [(104,aJw)] ⟨Q1,trivial⟩ fun a=>by kernel_rfl
def wU (p0:aQ):Option aQ:=
 (cD p0.field.points).bind fun l0=>
 (cD p0.certs.list).bind fun l1=>
 (cD p0.due).bind fun l2=>
 (cD p0.agenda.heap).bind fun l3=>
 (cD p0.agenda.where_).bind fun l4=>
 (cD p0.agenda.slots.uses).bind fun l5=>
 (cD p0.agenda.slots.used).bind fun l6=>
 (cD p0.agenda.slots.free).bind fun l7=>
 some (aQ.mk p0.now (Field.mk l0) (aV.mk p0.certs.next_ l1) (aI.mk (aR.mk l5 l6 l7) l3 l4) l2)
def aSa:bJ:=⟨aC.one (aM.agg bU),aM.agg bU,fun a=>wU a,.own,true⟩
def aK2:bJ:=⟨aC.one (aM.agg bU),aM.agg bU,fun a=>wU a,.frz,false⟩
theorem aJy:aK tab 166 aSa:=Oc YR rfl aG [(103,bJ.clone dV),(182,bJ.clone dV),(183,bJ.clone dV),(184,bJ.clone mG),(185,bJ.clone ki),(186,bJ.clone kb)] ⟨uF,zV,G8,wO,qU,wN,trivial⟩ fun a=>by kernel_rfl
theorem aCu:aK tab 166 aK2:=Oc YR rfl aG [(103,bJ.clone dV),(182,bJ.clone dV),(183,bJ.clone dV),(184,bJ.clone mG),(185,bJ.clone ki),(186,bJ.clone kb)] ⟨uF,zV,G8,wO,qU,wN,trivial⟩ fun a=>by kernel_rfl
def uN (p0:Int×Int×Int) (p1:Int):Option Int:=
 (fK p0.1 p1).bind fun n0=>
 some n0
def aSb:bJ:=⟨aC.cons (aM.agg (cJ.row dV)) (aC.one (aM.int .i64)),aM.int .i64,fun a=>uN a.1 a.2,.pure,false⟩
theorem aJz:aK tab 272 aSb:=Oc aIc rfl aG [(157,WK)] ⟨D9,trivial⟩ fun a=>by kernel_rfl
def aT (s:QK):Option aIz:=
 bif decide (s.2.2.2.1<s.2.2.2.2) then
  (aO s.1 (aA .i64 (uB .u64 (aA .u64 (aA .i64 (s.2.2.2.1+s.2.2.2.2))) 1))).bind fun a0=>
  (uN a0 s.2.1).bind fun n1=>
  bif decide (n1<0) then
   some (.next (s.1,s.2.1,s.2.2.1,aA .i64 ((aA .i64 (uB .u64 (aA .u64 (aA .i64 (s.2.2.2.1+s.2.2.2.2))) 1))+1),s.2.2.2.2))
  else
   some (.next (s.1,s.2.1,s.2.2.1,s.2.2.2.1,aA .i64 (uB .u64 (aA .u64 (aA .i64 (s.2.2.2.1+s.2.2.2.2))) 1)))
 else
  bif decide (s.2.2.2.1<s.2.2.1) then
   (aO s.1 s.2.2.2.1).bind fun a2=>
   (uN a2 s.2.1).bind fun n3=>
   some (.done (s.2.2.2.1,n3==0))
  else
   some (.done (s.2.2.2.1,false))
def aU (p0:List (Int×Int×Int)) (p1:Int) (_:Unit):Option (Int×Bool):=
 aH aT (p0,p1,Int.ofNat p0.length,0,Int.ofNat p0.length)
def TR:bJ:=⟨aC.cons (aM.sl dV) (aC.cons (aM.int .i64) (aC.one (aM.clo 272 aC.nil))),aM.tup (aC.cons (aM.int .i64) (aC.one aM.bool)),fun a=>aU a.1 a.2.1 a.2.2,.pure,false⟩
theorem TS:aK tab 271 TR:=Oc aIb rfl aG [(272,aSb)] ⟨aJz,trivial⟩ fun a=>by kernel_rfl
def I3 (p0:aV) (p1:Int):Option (Int×Int):=
 (sI p0).bind fun n0=>
 bif n0 !=0 then
  some (0,n0)
 else
  (aU p0.list p1 ()).bind fun a1=>
  bif !a1.2 then
   some (0,6)
  else
   some (a1.1,0)
def aSc:bJ:=⟨aC.cons (aM.agg gZ) (aC.one (aM.int .i64)),aM.tup (aC.cons (aM.int .i64) (aC.one (aM.int .i64))),fun a=>I3 a.1 a.2,.pure,false⟩
theorem aJA:aK tab 225 aSc:=Oc aHL rfl aG [(167,aI4),(271,TR)] ⟨QS,TS,trivial⟩ fun a=>by kernel_rfl
def eH (a:aAB):Option (Nat×Nat×bR):=
 bif (((decide (0<=a.1))&&(decide (a.1<=a.2.1)))&&(decide (a.2.1<=(Int.ofNat a.2.2.length))))&&(decide ((Int.ofNat a.2.2.length)<=(Int.ofNat a.2.2.length))) then
  bif a.1==a.2.1 then
   bif a.2.2.length==a.2.2.length then
    some (a.2.2.length,a.2.2.length,a.2.2)
   else
    none
  else
   (jD a.2.2 0 a.1).bind fun _=>
   bif ((decide (0<=a.2.1))&&(decide (a.2.1<=(Int.ofNat a.2.2.length))))&&(decide ((Int.ofNat a.2.2.length)<=(Int.ofNat a.2.2.length))) then
    bif ((a.2.2.drop (0+a.2.1.toNat)).take (((Int.ofNat a.2.2.length).toNat) -a.2.1.toNat)).isEmpty then
     bif ((decide (0<=(Int.ofNat a.1.toNat)))&&(decide ((Int.ofNat a.1.toNat)<=(Int.ofNat a.2.2.length))))&&(decide ((Int.ofNat a.2.2.length)<=(Int.ofNat a.2.2.length))) then
      bif Nat.beq (((Int.ofNat a.2.2.length).toNat) - ((Int.ofNat a.1.toNat).toNat)) 0 then
       bif a.2.2.length==a.2.2.length then
        some (a.1.toNat,a.2.2.length,a.2.2)
       else
        none
      else
       bif (Nat.ble ((0+((Int.ofNat a.1.toNat).toNat))+(((Int.ofNat a.2.2.length).toNat) - ((Int.ofNat a.1.toNat).toNat))) a.2.2.length)&&(!false) then
        bif ((eV a.2.2 (0+((Int.ofNat a.1.toNat).toNat)) (List.replicate (((Int.ofNat a.2.2.length).toNat) - ((Int.ofNat a.1.toNat).toNat)) (0,0,0))).length)==a.2.2.length then
         some (a.1.toNat,a.2.2.length,eV a.2.2 (0+((Int.ofNat a.1.toNat).toNat)) (List.replicate (((Int.ofNat a.2.2.length).toNat) - ((Int.ofNat a.1.toNat).toNat)) (0,0,0)))
        else
         none
       else
        none
     else
      none
    else
     bif Nat.ble (a.1.toNat+(((a.2.2.drop (0+a.2.1.toNat)).take (((Int.ofNat a.2.2.length).toNat) -a.2.1.toNat)).length)) a.2.2.length then
      bif (Nat.ble (a.1.toNat+(((a.2.2.drop (0+a.2.1.toNat)).take (((Int.ofNat a.2.2.length).toNat) -a.2.1.toNat)).length)) a.2.2.length)&&(!false) then
       bif ((decide (0<=(Int.ofNat (a.1.toNat+(((a.2.2.drop (0+a.2.1.toNat)).take (((Int.ofNat a.2.2.length).toNat) -a.2.1.toNat)).length)))))&&(decide ((Int.ofNat (a.1.toNat+(((a.2.2.drop (0+a.2.1.toNat)).take (((Int.ofNat a.2.2.length).toNat) -a.2.1.toNat)).length)))<=(Int.ofNat a.2.2.length))))&&(decide ((Int.ofNat a.2.2.length)<=(Int.ofNat a.2.2.length))) then
        bif Nat.beq (((Int.ofNat a.2.2.length).toNat) - ((Int.ofNat (a.1.toNat+(((a.2.2.drop (0+a.2.1.toNat)).take (((Int.ofNat a.2.2.length).toNat) -a.2.1.toNat)).length))).toNat)) 0 then
         bif ((eV a.2.2 a.1.toNat ((a.2.2.drop (0+a.2.1.toNat)).take (((Int.ofNat a.2.2.length).toNat) -a.2.1.toNat))).length)==a.2.2.length then
          some (a.1.toNat+(((a.2.2.drop (0+a.2.1.toNat)).take (((Int.ofNat a.2.2.length).toNat) -a.2.1.toNat)).length),a.2.2.length,eV a.2.2 a.1.toNat ((a.2.2.drop (0+a.2.1.toNat)).take (((Int.ofNat a.2.2.length).toNat) -a.2.1.toNat)))
         else
          none
        else
         bif (Nat.ble ((0+((Int.ofNat (a.1.toNat+(((a.2.2.drop (0+a.2.1.toNat)).take (((Int.ofNat a.2.2.length).toNat) -a.2.1.toNat)).length))).toNat))+(((Int.ofNat a.2.2.length).toNat) - ((Int.ofNat (a.1.toNat+(((a.2.2.drop (0+a.2.1.toNat)).take (((Int.ofNat a.2.2.length).toNat) -a.2.1.toNat)).length))).toNat))) ((eV a.2.2 a.1.toNat ((a.2.2.drop (0+a.2.1.toNat)).take (((Int.ofNat a.2.2.length).toNat) -a.2.1.toNat))).length))&&(!false) then
          bif ((eV (eV a.2.2 a.1.toNat ((a.2.2.drop (0+a.2.1.toNat)).take (((Int.ofNat a.2.2.length).toNat) -a.2.1.toNat))) (0+((Int.ofNat (a.1.toNat+(((a.2.2.drop (0+a.2.1.toNat)).take (((Int.ofNat a.2.2.length).toNat) -a.2.1.toNat)).length))).toNat)) (List.replicate (((Int.ofNat a.2.2.length).toNat) - ((Int.ofNat (a.1.toNat+(((a.2.2.drop (0+a.2.1.toNat)).take (((Int.ofNat a.2.2.length).toNat) -a.2.1.toNat)).length))).toNat)) (0,0,0))).length)==a.2.2.length then
           some (a.1.toNat+(((a.2.2.drop (0+a.2.1.toNat)).take (((Int.ofNat a.2.2.length).toNat) -a.2.1.toNat)).length),a.2.2.length,eV (eV a.2.2 a.1.toNat ((a.2.2.drop (0+a.2.1.toNat)).take (((Int.ofNat a.2.2.length).toNat) -a.2.1.toNat))) (0+((Int.ofNat (a.1.toNat+(((a.2.2.drop (0+a.2.1.toNat)).take (((Int.ofNat a.2.2.length).toNat) -a.2.1.toNat)).length))).toNat)) (List.replicate (((Int.ofNat a.2.2.length).toNat) - ((Int.ofNat (a.1.toNat+(((a.2.2.drop (0+a.2.1.toNat)).take (((Int.ofNat a.2.2.length).toNat) -a.2.1.toNat)).length))).toNat)) (0,0,0)))
          else
           none
         else
          none
       else
        none
      else
       none
     else
      none
   else
    none
 else
  none
def aCv:eC:=⟨[.i,.i,.l [.i .i64,.i .i64,.i .i64]],[.own 0 false,.int .i64 0,.int .i64 0],[.arr [.i .i64,.i .i64,.i .i64] []],[.n,.n,.l [.i .i64,.i .i64,.i .i64]],.pre 0 0 0 false,[.arr [.i .i64,.i .i64,.i .i64] []],fun a=>eH a⟩
theorem aAI:kU tab 226 aCv:=kU.of aHM (wd:=true) (cx:=(oX aG [] [] [] [])) (lY.make trivial trivial trivial) (fun a=>by kernel_rfl)
def xY (p0:aV) (p1:Int):Option (aV×(Int×Int)×Int):=
 (I3 p0 p1).bind fun a0=>
 bif a0.2 !=0 then
  some (aV.mk 0 [],(0,0),a0.2)
 else
  (cD p0.list).bind fun l1=>
  (eH (a0.1,aA .i64 (a0.1+1),l1)).bind fun a2=>
  (aO p0.list a0.1).bind fun a3=>
  some (aV.mk p0.next_ (a2.2.2.take a2.1),a3.2,0)
def aSd:bJ:=⟨aC.cons (aM.agg gZ) (aC.one (aM.int .i64)),aM.tup (aC.cons (aM.agg gZ) (aC.cons (aM.agg (cJ.row jS)) (aC.one (aM.int .i64)))),fun a=>xY a.1 a.2,.frz,false⟩
theorem aJB:aK tab 178 aSd:=aK.of aG8 (cx:=(oX aG [(225,aSc),(182,bJ.clone dV)] [(226,aCv)] [] [])) rfl (lY.make ⟨aJA,zV,trivial⟩ ⟨aAI,trivial⟩ trivial) (fun a=>by kernel_rfl)
def oB (p0:aQ):Option aQ:=
 (cD p0.field.points).bind fun l0=>
 (cD p0.certs.list).bind fun l1=>
 (cD p0.due).bind fun l2=>
 (cD p0.agenda.heap).bind fun l3=>
 (cD p0.agenda.where_).bind fun l4=>
 (cD p0.agenda.slots.uses).bind fun l5=>
 (cD p0.agenda.slots.used).bind fun l6=>
 (cD p0.agenda.slots.free).bind fun l7=>
 some (aQ.mk p0.now (Field.mk l0) (aV.mk p0.certs.next_ l1) (aI.mk (aR.mk l5 l6 l7) l3 l4) l2)
def aJC:bJ:=⟨aC.one (aM.agg bU),aM.agg bU,fun a=>oB a,.own,true⟩
def ZA:bJ:=⟨aC.one (aM.agg bU),aM.agg bU,fun a=>oB a,.frz,false⟩
theorem Q2:aK tab 125 aJC:=Oc YM rfl aG [(103,bJ.clone dV),(182,bJ.clone dV),(183,bJ.clone dV),(184,bJ.clone mG),(185,bJ.clone ki),(186,bJ.clone kb)] ⟨uF,zV,G8,wO,qU,wN,trivial⟩ fun a=>by kernel_rfl
theorem MV:aK tab 125 ZA:=Oc YM rfl aG [(103,bJ.clone dV),(182,bJ.clone dV),(183,bJ.clone dV),(184,bJ.clone mG),(185,bJ.clone ki),(186,bJ.clone kb)] ⟨uF,zV,G8,wO,qU,wN,trivial⟩ fun a=>by kernel_rfl
def yU (p0:Int×Int×Int) (p1:Int):Option Int:=
 (fK p0.1 p1).bind fun n0=>
 some n0
def aSe:bJ:=⟨aC.cons (aM.agg (cJ.row dV)) (aC.one (aM.int .i64)),aM.int .i64,fun a=>yU a.1 a.2,.pure,false⟩
theorem aJD:aK tab 228 aSe:=Oc aHO rfl aG [(157,WK)] ⟨D9,trivial⟩ fun a=>by kernel_rfl
def jQ (s:QK):Option aIz:=
 bif decide (s.2.2.2.1<s.2.2.2.2) then
  (aO s.1 (aA .i64 (uB .u64 (aA .u64 (aA .i64 (s.2.2.2.1+s.2.2.2.2))) 1))).bind fun a0=>
  (yU a0 s.2.1).bind fun n1=>
  bif decide (n1<0) then
   some (.next (s.1,s.2.1,s.2.2.1,aA .i64 ((aA .i64 (uB .u64 (aA .u64 (aA .i64 (s.2.2.2.1+s.2.2.2.2))) 1))+1),s.2.2.2.2))
  else
   some (.next (s.1,s.2.1,s.2.2.1,s.2.2.2.1,aA .i64 (uB .u64 (aA .u64 (aA .i64 (s.2.2.2.1+s.2.2.2.2))) 1)))
 else
  bif decide (s.2.2.2.1<s.2.2.1) then
   (aO s.1 s.2.2.2.1).bind fun a2=>
   (yU a2 s.2.1).bind fun n3=>
   some (.done (s.2.2.2.1,n3==0))
  else
   some (.done (s.2.2.2.1,false))
def dC (p0:List (Int×Int×Int)) (p1:Int) (_:Unit):Option (Int×Bool):=
 aH jQ (p0,p1,Int.ofNat p0.length,0,Int.ofNat p0.length)
def TU:bJ:=⟨aC.cons (aM.sl dV) (aC.cons (aM.int .i64) (aC.one (aM.clo 228 aC.nil))),aM.tup (aC.cons (aM.int .i64) (aC.one aM.bool)),fun a=>dC a.1 a.2.1 a.2.2,.pure,false⟩
theorem TV:aK tab 227 TU:=Oc aHN rfl aG [(228,aSe)] ⟨aJD,trivial⟩ fun a=>by kernel_rfl
def qH (p0:List (Int×Int×Int)) (p1:Int):Option (Int×Bool):=
 (dC p0 p1 ()).bind fun a0=>
 some a0
def aPI:bJ:=⟨aC.cons (aM.sl dV) (aC.one (aM.int .i64)),aM.tup (aC.cons (aM.int .i64) (aC.one aM.bool)),fun a=>qH a.1 a.2,.pure,false⟩
theorem ZB:aK tab 179 aPI:=Oc aG9 rfl aG [(227,TU)] ⟨TV,trivial⟩ fun a=>by kernel_rfl
def C7 (p0:aR) (p1:Int×Int):Option (Bool×Int):=
 (sJ p0).bind fun n0=>
 bif n0 !=0 then
  some (false,n0)
 else
  bif decide (0<=p1.1) then
   bif decide (p1.1<(Int.ofNat p0.used.length)) then
    (aO p0.used p1.1).bind fun b1=>
    bif b1 then
     (aO p0.uses p1.1).bind fun n2=>
     some (n2==p1.2,0)
    else
     some (false,0)
   else
    some (false,0)
  else
   some (false,0)
def aPJ:bJ:=⟨aC.cons (aM.agg gC) (aC.one (aM.agg (cJ.row jS))),aM.tup (aC.cons aM.bool (aC.one (aM.int .i64))),fun a=>C7 a.1 a.2,.pure,false⟩
theorem ZC:aK tab 273 aPJ:=Oc aId rfl aG [(218,aI7)] ⟨QT,trivial⟩ fun a=>by kernel_rfl
def rF (p0:aI) (p1:Int×Int):Option (Int×Int):=
 (mJ p0).bind fun n0=>
 bif n0 !=0 then
  some (0,n0)
 else
  (C7 p0.slots p1).bind fun a1=>
  bif a1.2 !=0 then
   some (0,6)
  else
   bif !a1.1 then
    some (0,6)
   else
    (aO p0.where_ p1.1).bind fun n2=>
    some (n2,0)
def aPK:bJ:=⟨aC.cons (aM.agg cZ) (aC.one (aM.agg (cJ.row jS))),aM.tup (aC.cons (aM.int .i64) (aC.one (aM.int .i64))),fun a=>rF a.1 a.2,.pure,false⟩
theorem ZD:aK tab 229 aPK:=Oc aHP rfl aG [(168,aCt),(273,aPJ)] ⟨KS,ZC,trivial⟩ fun a=>by kernel_rfl
def uZ (p0:List Int) (p1:Int):Option (List Int):=
 (cD p0).bind fun l0=>
 (bF l0 [p1]).bind fun l1=>
 some l1
def aSf:bJ:=⟨aC.cons (aM.sl ki) (aC.one (aM.int .i64)),aM.sl ki,fun a=>uZ a.1 a.2,.frz,false⟩
theorem aJE:aK tab 299 aSf:=Oc aIp rfl aG [(306,bJ.clone ki)] ⟨TF,trivial⟩ fun a=>by kernel_rfl
def EA (p0:aR) (p1:Int×Int):Option (aR×Int):=
 (C7 p0 p1).bind fun a0=>
 bif a0.2 !=0 then
  some (aR.mk [] [] [],a0.2)
 else
  bif !a0.1 then
   some (aR.mk [] [] [],6)
  else
   (cD p0.uses).bind fun l1=>
   (cD p0.used).bind fun l2=>
   (uZ p0.free p1.1).bind fun l3=>
   (aO l2 p1.1).bind fun _=>
   some (aR.mk l1 (cB l2 p1.1 false) l3,0)
def aSg:bJ:=⟨aC.cons (aM.agg gC) (aC.one (aM.agg (cJ.row jS))),aM.tup (aC.cons (aM.agg gC) (aC.one (aM.int .i64))),fun a=>EA a.1 a.2,.frz,false⟩
theorem aJF:aK tab 274 aSg:=aK.of aIe (cx:=(oX aG [(273,aPJ),(185,bJ.clone ki),(186,bJ.clone kb),(299,aSf)] [] [(298,aB7)] [])) rfl (lY.make ⟨ZC,qU,wN,aJE,trivial⟩ trivial ⟨YV,trivial⟩) (fun a=>by kernel_rfl)
def bW (a:aIu):Option NY:=
 (aO (a.2.2.2.2.2.2.2.2.2.2.2.1.take a.2.2.2.1) a.2.2.2.2.2.1).bind fun _=>
 (aO a.2.2.2.2.2.2.2.2.2.2.2.2 a.2.2.2.2.2.2.2.2.2.1).bind fun _=>
 bif ((cB a.2.2.2.2.2.2.2.2.2.2.2.1 a.2.2.2.2.2.1 (a.2.2.2.2.2.2.1,a.2.2.2.2.2.2.2.1,a.2.2.2.2.2.2.2.2.1,a.2.2.2.2.2.2.2.2.2.1,a.2.2.2.2.2.2.2.2.2.2.1)).length)==a.2.2.2.2.2.2.2.2.2.2.2.1.length then
  bif ((cB a.2.2.2.2.2.2.2.2.2.2.2.2 a.2.2.2.2.2.2.2.2.2.1 a.2.2.2.2.2.1).length)==a.2.2.2.2.2.2.2.2.2.2.2.2.length then
   some (cB a.2.2.2.2.2.2.2.2.2.2.2.1 a.2.2.2.2.2.1 (a.2.2.2.2.2.2.1,a.2.2.2.2.2.2.2.1,a.2.2.2.2.2.2.2.2.1,a.2.2.2.2.2.2.2.2.2.1,a.2.2.2.2.2.2.2.2.2.2.1),cB a.2.2.2.2.2.2.2.2.2.2.2.2 a.2.2.2.2.2.2.2.2.2.1 a.2.2.2.2.2.1)
  else
   none
 else
  none
def WM:eC:=⟨[.l [.i .i64],.l [.b],.l [.i .i64],.n,.n,.i,.i,.i,.i,.i,.i,.l [.i .i64,.i .i64,.i .i64,.i .i64,.i .i64],.l [.i .i64]],[.agg [.sl [.i .i64] [],.sl [.b] [],.sl [.i .i64] [],.pre 0 0 0 false,.own 1 false],.int .i64 0,.agg [.int .i64 0,.int .i64 0,.int .i64 0,.int .i64 0,.int .i64 0]],[.arr [.i .i64,.i .i64,.i .i64,.i .i64,.i .i64] [],.arr [.i .i64] []],[.l [.i .i64,.i .i64,.i .i64,.i .i64,.i .i64],.l [.i .i64]],.tup [],[.arr [.i .i64,.i .i64,.i .i64,.i .i64,.i .i64] [],.arr [.i .i64] []],fun a=>bW a⟩
theorem O1:kU tab 300 WM:=kU.of YW (wd:=false) (cx:=(oX aG [] [] [] [])) (lY.make trivial trivial trivial) (fun a=>by kernel_rfl)
def gE (c0:aIu) (s:aQ6):Option (cH aQ6 aQX):=
 match s with
 |(a,b,d,e,f,g,h,i,j,k,l,m,n,o)=>
  bif decide (b<(Int.ofNat i)) then
   bif decide ((aA .i64 (b+1))<(Int.ofNat i)) then
    (aO (d.take i) (aA .i64 (b+1))).bind fun a0=>
    (aO (d.take i) b).bind fun a1=>
    (cK a0 a1).bind fun n2=>
    bif decide (n2<0) then
     (aO (d.take i) (aA .i64 (b+1))).bind fun a3=>
     (cK a3 (k,l,m,n,o)).bind fun n4=>
     bif decide (0<=n4) then
      (bW (f,g,h,i,j,a,k,l,m,n,o,d,e)).bind fun a5=>
      bif a5.1.length==c0.2.2.2.2.2.2.2.2.2.2.2.1.length then
       bif a5.2.length==c0.2.2.2.2.2.2.2.2.2.2.2.2.length then
        some (.done (.done a5))
       else
        none
      else
       none
     else
      (aO (d.take i) (aA .i64 (b+1))).bind fun a6=>
      (bW (f,g,h,i,j,a,a6.1,a6.2.1,a6.2.2.1,a6.2.2.2.1,a6.2.2.2.2,d,e)).bind fun a7=>
      some (.next (aA .i64 (b+1),aA .i64 ((aA .i64 (2*(aA .i64 (b+1))))+1),a7.1,a7.2,(f,g,h,i,j,k,l,m,n,o)))
    else
     (aO (d.take i) b).bind fun a8=>
     (cK a8 (k,l,m,n,o)).bind fun n9=>
     bif decide (0<=n9) then
      (bW (f,g,h,i,j,a,k,l,m,n,o,d,e)).bind fun a10=>
      bif a10.1.length==c0.2.2.2.2.2.2.2.2.2.2.2.1.length then
       bif a10.2.length==c0.2.2.2.2.2.2.2.2.2.2.2.2.length then
        some (.done (.done a10))
       else
        none
      else
       none
     else
      (aO (d.take i) b).bind fun a11=>
      (bW (f,g,h,i,j,a,a11.1,a11.2.1,a11.2.2.1,a11.2.2.2.1,a11.2.2.2.2,d,e)).bind fun a12=>
      some (.next (b,aA .i64 ((aA .i64 (2*b))+1),a12.1,a12.2,(f,g,h,i,j,k,l,m,n,o)))
   else
    (aO (d.take i) b).bind fun a13=>
    (cK a13 (k,l,m,n,o)).bind fun n14=>
    bif decide (0<=n14) then
     (bW (f,g,h,i,j,a,k,l,m,n,o,d,e)).bind fun a15=>
     bif a15.1.length==c0.2.2.2.2.2.2.2.2.2.2.2.1.length then
      bif a15.2.length==c0.2.2.2.2.2.2.2.2.2.2.2.2.length then
       some (.done (.done a15))
      else
       none
     else
      none
    else
     (aO (d.take i) b).bind fun a16=>
     (bW (f,g,h,i,j,a,a16.1,a16.2.1,a16.2.2.1,a16.2.2.2.1,a16.2.2.2.2,d,e)).bind fun a17=>
     some (.next (b,aA .i64 ((aA .i64 (2*b))+1),a17.1,a17.2,(f,g,h,i,j,k,l,m,n,o)))
  else
   (bW (f,g,h,i,j,a,k,l,m,n,o,d,e)).bind fun a18=>
   bif a18.1.length==c0.2.2.2.2.2.2.2.2.2.2.2.1.length then
    bif a18.2.length==c0.2.2.2.2.2.2.2.2.2.2.2.2.length then
     some (.done (.done a18))
    else
     none
   else
    none
def eS (c0:aIu) (s:aQW):Option aQX:=
 bif decide (0<s.1) then
  (aO (s.2.1.take s.2.2.2.2.2.2.1) (aA .i64 (Int.tdiv (aA .i64 (s.1-1)) 2))).bind fun a0=>
  (cK s.2.2.2.2.2.2.2.2 a0).bind fun n1=>
  bif decide (n1<0) then
   (aO (s.2.1.take s.2.2.2.2.2.2.1) (aA .i64 (Int.tdiv (aA .i64 (s.1-1)) 2))).bind fun a2=>
   (bW (s.2.2.2.1,s.2.2.2.2.1,s.2.2.2.2.2.1,s.2.2.2.2.2.2.1,s.2.2.2.2.2.2.2.1,s.1,a2.1,a2.2.1,a2.2.2.1,a2.2.2.2.1,a2.2.2.2.2,s.2.1,s.2.2.1)).bind fun a3=>
   some (.next (aA .i64 (Int.tdiv (aA .i64 (s.1-1)) 2),a3.1,a3.2,s.2.2.2))
  else
   aH (gE c0) (s.1,aA .i64 ((aA .i64 (2*s.1))+1),s.2)
 else
  aH (gE c0) (s.1,aA .i64 ((aA .i64 (2*s.1))+1),s.2)
def kZ (a:aIu):Option NY:=
 aH (eS a) (a.2.2.2.2.2.1,a.2.2.2.2.2.2.2.2.2.2.2.1,a.2.2.2.2.2.2.2.2.2.2.2.2,a.1,a.2.1,a.2.2.1,a.2.2.2.1,a.2.2.2.2.1,a.2.2.2.2.2.2.1,a.2.2.2.2.2.2.2.1,a.2.2.2.2.2.2.2.2.1,a.2.2.2.2.2.2.2.2.2.1,a.2.2.2.2.2.2.2.2.2.2.1)
def Q3:eC:=⟨[.l [.i .i64],.l [.b],.l [.i .i64],.n,.n,.i,.i,.i,.i,.i,.i,.l [.i .i64,.i .i64,.i .i64,.i .i64,.i .i64],.l [.i .i64]],[.agg [.sl [.i .i64] [],.sl [.b] [],.sl [.i .i64] [],.pre 0 0 0 false,.own 1 false],.int .i64 0,.agg [.int .i64 0,.int .i64 0,.int .i64 0,.int .i64 0,.int .i64 0]],[.arr [.i .i64,.i .i64,.i .i64,.i .i64,.i .i64] [],.arr [.i .i64] []],[.l [.i .i64,.i .i64,.i .i64,.i .i64,.i .i64],.l [.i .i64]],.tup [],[.arr [.i .i64,.i .i64,.i .i64,.i .i64,.i .i64] [],.arr [.i .i64] []],fun a=>kZ a⟩
theorem I4:kU tab 276 Q3:=kU.of YT (wd:=false) (cx:=(oX aG [(219,aJf)] [(300,WM)] [] [])) (lY.make ⟨QU,trivial⟩ ⟨O1,trivial⟩ trivial) (fun a=>by kernel_rfl)
def tK (p0:aI) (p1:Int):Option (aI×(Int×Int×Int×Int×Int)×Int):=
 (aO p0.heap p1).bind fun a0=>
 (EA p0.slots a0.2.2.2).bind fun a1=>
 bif a1.2 !=0 then
  some (aI.mk (aR.mk [] [] []) [] [],(0,0,0,0,0),a1.2)
 else
  (cD p0.heap).bind fun l2=>
  (cD p0.where_).bind fun l3=>
  (aO l2 (aA .i64 ((Int.ofNat l2.length) -1))).bind fun a4=>
  (jD l2 0 (aA .i64 ((Int.ofNat l2.length) -1))).bind fun _=>
  (aO l3 a0.2.2.2.1).bind fun _=>
  bif decide (p1<(aA .i64 ((Int.ofNat l2.length) -1))) then
   (kZ (a1.1.uses,a1.1.used,a1.1.free,(aA .i64 ((Int.ofNat l2.length) -1)).toNat,l2.length,p1,a4.1,a4.2.1,a4.2.2.1,a4.2.2.2.1,a4.2.2.2.2,l2,cB l3 a0.2.2.2.1 (-1))).bind fun a7=>
   some (aI.mk a1.1 (a7.1.take ((aA .i64 ((Int.ofNat l2.length) -1)).toNat)) a7.2,a0,0)
  else
   some (aI.mk a1.1 (l2.take ((aA .i64 ((Int.ofNat l2.length) -1)).toNat)) (cB l3 a0.2.2.2.1 (-1)),a0,0)
def aSh:bJ:=⟨aC.cons (aM.agg cZ) (aC.one (aM.int .i64)),aM.tup (aC.cons (aM.agg cZ) (aC.cons (aM.agg (cJ.row mG)) (aC.one (aM.int .i64)))),fun a=>tK a.1 a.2,.frz,false⟩
theorem aJG:aK tab 230 aSh:=aK.of aHQ (cx:=(oX aG [(274,aSg),(184,bJ.clone mG),(185,bJ.clone ki)] [(276,Q3)] [(275,aAz)] [])) rfl (lY.make ⟨aJF,wO,qU,trivial⟩ ⟨I4,trivial⟩ ⟨QH,trivial⟩) (fun a=>by kernel_rfl)
def nE (p0:aI) (p1:Int×Int):Option (aI×(Int×Int×Int×Int×Int)×Int):=
 (rF p0 p1).bind fun a0=>
 bif a0.2 !=0 then
  some (aI.mk (aR.mk [] [] []) [] [],(0,0,0,0,0),a0.2)
 else
  (tK p0 a0.1).bind fun a1=>
  some a1
def aPL:bJ:=⟨aC.cons (aM.agg cZ) (aC.one (aM.agg (cJ.row jS))),aM.tup (aC.cons (aM.agg cZ) (aC.cons (aM.agg (cJ.row mG)) (aC.one (aM.int .i64)))),fun a=>nE a.1 a.2,.frz,false⟩
theorem ZE:aK tab 180 aPL:=Oc aHa rfl aG [(229,aPK),(230,aSh)] ⟨ZD,aJG,trivial⟩ fun a=>by kernel_rfl
def mK (a:aAB):Option (Nat×Nat×bR):=
 bif (((decide (0<=a.1))&&(decide (a.1<=a.2.1)))&&(decide (a.2.1<=(Int.ofNat a.2.2.length))))&&(decide ((Int.ofNat a.2.2.length)<=(Int.ofNat a.2.2.length))) then
  bif a.1==a.2.1 then
   bif a.2.2.length==a.2.2.length then
    some (a.2.2.length,a.2.2.length,a.2.2)
   else
    none
  else
   (jD a.2.2 0 a.1).bind fun _=>
   bif ((decide (0<=a.2.1))&&(decide (a.2.1<=(Int.ofNat a.2.2.length))))&&(decide ((Int.ofNat a.2.2.length)<=(Int.ofNat a.2.2.length))) then
    bif ((a.2.2.drop (0+a.2.1.toNat)).take (((Int.ofNat a.2.2.length).toNat) -a.2.1.toNat)).isEmpty then
     bif ((decide (0<=(Int.ofNat a.1.toNat)))&&(decide ((Int.ofNat a.1.toNat)<=(Int.ofNat a.2.2.length))))&&(decide ((Int.ofNat a.2.2.length)<=(Int.ofNat a.2.2.length))) then
      bif Nat.beq (((Int.ofNat a.2.2.length).toNat) - ((Int.ofNat a.1.toNat).toNat)) 0 then
       bif a.2.2.length==a.2.2.length then
        some (a.1.toNat,a.2.2.length,a.2.2)
       else
        none
      else
       bif (Nat.ble ((0+((Int.ofNat a.1.toNat).toNat))+(((Int.ofNat a.2.2.length).toNat) - ((Int.ofNat a.1.toNat).toNat))) a.2.2.length)&&(!false) then
        bif ((eV a.2.2 (0+((Int.ofNat a.1.toNat).toNat)) (List.replicate (((Int.ofNat a.2.2.length).toNat) - ((Int.ofNat a.1.toNat).toNat)) (0,0,0))).length)==a.2.2.length then
         some (a.1.toNat,a.2.2.length,eV a.2.2 (0+((Int.ofNat a.1.toNat).toNat)) (List.replicate (((Int.ofNat a.2.2.length).toNat) - ((Int.ofNat a.1.toNat).toNat)) (0,0,0)))
        else
         none
       else
        none
     else
      none
    else
     bif Nat.ble (a.1.toNat+(((a.2.2.drop (0+a.2.1.toNat)).take (((Int.ofNat a.2.2.length).toNat) -a.2.1.toNat)).length)) a.2.2.length then
      bif (Nat.ble (a.1.toNat+(((a.2.2.drop (0+a.2.1.toNat)).take (((Int.ofNat a.2.2.length).toNat) -a.2.1.toNat)).length)) a.2.2.length)&&(!false) then
       bif ((decide (0<=(Int.ofNat (a.1.toNat+(((a.2.2.drop (0+a.2.1.toNat)).take (((Int.ofNat a.2.2.length).toNat) -a.2.1.toNat)).length)))))&&(decide ((Int.ofNat (a.1.toNat+(((a.2.2.drop (0+a.2.1.toNat)).take (((Int.ofNat a.2.2.length).toNat) -a.2.1.toNat)).length)))<=(Int.ofNat a.2.2.length))))&&(decide ((Int.ofNat a.2.2.length)<=(Int.ofNat a.2.2.length))) then
        bif Nat.beq (((Int.ofNat a.2.2.length).toNat) - ((Int.ofNat (a.1.toNat+(((a.2.2.drop (0+a.2.1.toNat)).take (((Int.ofNat a.2.2.length).toNat) -a.2.1.toNat)).length))).toNat)) 0 then
         bif ((eV a.2.2 a.1.toNat ((a.2.2.drop (0+a.2.1.toNat)).take (((Int.ofNat a.2.2.length).toNat) -a.2.1.toNat))).length)==a.2.2.length then
          some (a.1.toNat+(((a.2.2.drop (0+a.2.1.toNat)).take (((Int.ofNat a.2.2.length).toNat) -a.2.1.toNat)).length),a.2.2.length,eV a.2.2 a.1.toNat ((a.2.2.drop (0+a.2.1.toNat)).take (((Int.ofNat a.2.2.length).toNat) -a.2.1.toNat)))
         else
          none
        else
         bif (Nat.ble ((0+((Int.ofNat (a.1.toNat+(((a.2.2.drop (0+a.2.1.toNat)).take (((Int.ofNat a.2.2.length).toNat) -a.2.1.toNat)).length))).toNat))+(((Int.ofNat a.2.2.length).toNat) - ((Int.ofNat (a.1.toNat+(((a.2.2.drop (0+a.2.1.toNat)).take (((Int.ofNat a.2.2.length).toNat) -a.2.1.toNat)).length))).toNat))) ((eV a.2.2 a.1.toNat ((a.2.2.drop (0+a.2.1.toNat)).take (((Int.ofNat a.2.2.length).toNat) -a.2.1.toNat))).length))&&(!false) then
          bif ((eV (eV a.2.2 a.1.toNat ((a.2.2.drop (0+a.2.1.toNat)).take (((Int.ofNat a.2.2.length).toNat) -a.2.1.toNat))) (0+((Int.ofNat (a.1.toNat+(((a.2.2.drop (0+a.2.1.toNat)).take (((Int.ofNat a.2.2.length).toNat) -a.2.1.toNat)).length))).toNat)) (List.replicate (((Int.ofNat a.2.2.length).toNat) - ((Int.ofNat (a.1.toNat+(((a.2.2.drop (0+a.2.1.toNat)).take (((Int.ofNat a.2.2.length).toNat) -a.2.1.toNat)).length))).toNat)) (0,0,0))).length)==a.2.2.length then
           some (a.1.toNat+(((a.2.2.drop (0+a.2.1.toNat)).take (((Int.ofNat a.2.2.length).toNat) -a.2.1.toNat)).length),a.2.2.length,eV (eV a.2.2 a.1.toNat ((a.2.2.drop (0+a.2.1.toNat)).take (((Int.ofNat a.2.2.length).toNat) -a.2.1.toNat))) (0+((Int.ofNat (a.1.toNat+(((a.2.2.drop (0+a.2.1.toNat)).take (((Int.ofNat a.2.2.length).toNat) -a.2.1.toNat)).length))).toNat)) (List.replicate (((Int.ofNat a.2.2.length).toNat) - ((Int.ofNat (a.1.toNat+(((a.2.2.drop (0+a.2.1.toNat)).take (((Int.ofNat a.2.2.length).toNat) -a.2.1.toNat)).length))).toNat)) (0,0,0)))
          else
           none
         else
          none
       else
        none
      else
       none
     else
      none
   else
    none
 else
  none
def aCw:eC:=⟨[.i,.i,.l [.i .i64,.i .i64,.i .i64]],[.own 0 false,.int .i64 0,.int .i64 0],[.arr [.i .i64,.i .i64,.i .i64] []],[.n,.n,.l [.i .i64,.i .i64,.i .i64]],.pre 0 0 0 false,[.arr [.i .i64,.i .i64,.i .i64] []],fun a=>mK a⟩
theorem aAJ:kU tab 181 aCw:=kU.of aHb (wd:=true) (cx:=(oX aG [] [] [] [])) (lY.make trivial trivial trivial) (fun a=>by kernel_rfl)
def sM (p0:aQ) (p1:Int):Option (aQ×(Int×Int)×Int):=
 (xY p0.certs p1).bind fun a0=>
 bif a0.2.2 !=0 then
  some (aQ.mk (0,0) (Field.mk []) (aV.mk 0 []) (aI.mk (aR.mk [] [] []) [] []) [],a0.2)
 else
  (oB p0).bind fun r1=>
  (qH p0.due p1).bind fun a2=>
  bif a2.2 then
   (aO p0.due a2.1).bind fun a3=>
   (nE p0.agenda a3.2).bind fun a4=>
   bif a4.2.2 !=0 then
    some (aQ.mk (0,0) (Field.mk []) (aV.mk 0 []) (aI.mk (aR.mk [] [] []) [] []) [],a0.2.1,a4.2.2)
   else
    (mK (a2.1,aA .i64 (a2.1+1),r1.due)).bind fun a5=>
    some (aQ.mk r1.now r1.field a0.1 a4.1 (a5.2.2.take a5.1),a0.2.1,0)
  else
   some (aQ.mk r1.now r1.field a0.1 r1.agenda r1.due,a0.2.1,0)
def aSi:bJ:=⟨aC.cons (aM.agg bU) (aC.one (aM.int .i64)),aM.tup (aC.cons (aM.agg bU) (aC.cons (aM.agg (cJ.row jS)) (aC.one (aM.int .i64)))),fun a=>sM a.1 a.2,.frz,false⟩
theorem aJH:aK tab 124 aSi:=aK.of aGB (cx:=(oX aG [(178,aSd),(125,aJC),(125,ZA),(179,aPI),(180,aPL)] [(181,aCw)] [] [])) rfl (lY.make ⟨aJB,Q2,MV,ZB,ZE,trivial⟩ ⟨aAJ,trivial⟩ trivial) (fun a=>by kernel_rfl)
def vR (p0:aQ) (p1:Int):Option (aQ×Int):=
 (iA p0).bind fun n0=>
 bif n0 !=0 then
  some (aQ.mk (0,0) (Field.mk []) (aV.mk 0 []) (aI.mk (aR.mk [] [] []) [] []) [],n0)
 else
  (sM p0 p1).bind fun a1=>
  some (a1.1,a1.2.2)
def aSj:bJ:=⟨aC.cons (aM.agg bU) (aC.one (aM.int .i64)),aM.tup (aC.cons (aM.agg bU) (aC.one (aM.int .i64))),fun a=>vR a.1 a.2,.frz,false⟩
theorem aJI:aK tab 212 aSj:=Oc aHz rfl aG [(109,aAH),(124,aSi)] ⟨HE,aJH,trivial⟩ fun a=>by kernel_rfl
def jP (s:aPj):Option aRn:=
 bif decide (s.2.2.2<s.2.2.1) then
  (aO s.1 s.2.2.2).bind fun a0=>
  (aO s.2.1 s.2.2.2).bind fun a1=>
  bif !((a0.1==a1.1)&&((a0.2.1==a1.2.1)&&(a0.2.2==a1.2.2))) then
   some (.done false)
  else
   some (.next (s.1,s.2.1,s.2.2.1,aA .i64 (s.2.2.2+1)))
 else
  some (.done true)
def jN (p0:List (Int×Int×Int)) (p1:List (Int×Int×Int)):Option Bool:=
 bif (Int.ofNat p0.length) !=(Int.ofNat p1.length) then
  some false
 else
  aH jP (p0,p1,Int.ofNat p0.length,0)
def aSk:bJ:=⟨aC.cons (aM.sl dV) (aC.one (aM.sl dV)),aM.bool,fun a=>jN a.1 a.2,.pure,false⟩
theorem aJJ:aK tab 213 aSk:=Oc aHA rfl aG [] trivial fun a=>by kernel_rfl
def bX (a:aIv):Option NY:=
 (aO a.2.2.2.2.2.2.2.2.2.1 a.2.2.2.1).bind fun _=>
 (aO a.2.2.2.2.2.2.2.2.2.2 a.2.2.2.2.2.2.2.1).bind fun _=>
 bif ((cB a.2.2.2.2.2.2.2.2.2.1 a.2.2.2.1 (a.2.2.2.2.1,a.2.2.2.2.2.1,a.2.2.2.2.2.2.1,a.2.2.2.2.2.2.2.1,a.2.2.2.2.2.2.2.2.1)).length)==a.2.2.2.2.2.2.2.2.2.1.length then
  bif ((cB a.2.2.2.2.2.2.2.2.2.2 a.2.2.2.2.2.2.2.1 a.2.2.2.1).length)==a.2.2.2.2.2.2.2.2.2.2.length then
   some (cB a.2.2.2.2.2.2.2.2.2.1 a.2.2.2.1 (a.2.2.2.2.1,a.2.2.2.2.2.1,a.2.2.2.2.2.2.1,a.2.2.2.2.2.2.2.1,a.2.2.2.2.2.2.2.2.1),cB a.2.2.2.2.2.2.2.2.2.2 a.2.2.2.2.2.2.2.1 a.2.2.2.1)
  else
   none
 else
  none
def aCx:eC:=⟨[.l [.i .i64],.l [.b],.l [.i .i64],.i,.i,.i,.i,.i,.i,.l [.i .i64,.i .i64,.i .i64,.i .i64,.i .i64],.l [.i .i64]],[.agg [.sl [.i .i64] [],.sl [.b] [],.sl [.i .i64] [],.own 0 false,.own 1 false],.int .i64 0,.agg [.int .i64 0,.int .i64 0,.int .i64 0,.int .i64 0,.int .i64 0]],[.arr [.i .i64,.i .i64,.i .i64,.i .i64,.i .i64] [],.arr [.i .i64] []],[.l [.i .i64,.i .i64,.i .i64,.i .i64,.i .i64],.l [.i .i64]],.tup [],[.arr [.i .i64,.i .i64,.i .i64,.i .i64,.i .i64] [],.arr [.i .i64] []],fun a=>bX a⟩
theorem aAK:kU tab 300 aCx:=kU.of YW (wd:=false) (cx:=(oX aG [] [] [] [])) (lY.make trivial trivial trivial) (fun a=>by kernel_rfl)
def gF (c0:aIv) (s:aQ7):Option (cH aQ7 aQ1):=
 match s with
 |(a,b,d,e,f,g,h,i,j,k,l,m)=>
  bif decide (b<(Int.ofNat d.length)) then
   bif decide ((aA .i64 (b+1))<(Int.ofNat d.length)) then
    (aO d (aA .i64 (b+1))).bind fun a0=>
    (aO d b).bind fun a1=>
    (cK a0 a1).bind fun n2=>
    bif decide (n2<0) then
     (aO d (aA .i64 (b+1))).bind fun a3=>
     (cK a3 (i,j,k,l,m)).bind fun n4=>
     bif decide (0<=n4) then
      (bX (f,g,h,a,i,j,k,l,m,d,e)).bind fun a5=>
      bif a5.1.length==c0.2.2.2.2.2.2.2.2.2.1.length then
       bif a5.2.length==c0.2.2.2.2.2.2.2.2.2.2.length then
        some (.done (.done a5))
       else
        none
      else
       none
     else
      (aO d (aA .i64 (b+1))).bind fun a6=>
      (bX (f,g,h,a,a6.1,a6.2.1,a6.2.2.1,a6.2.2.2.1,a6.2.2.2.2,d,e)).bind fun a7=>
      some (.next (aA .i64 (b+1),aA .i64 ((aA .i64 (2*(aA .i64 (b+1))))+1),a7.1,a7.2,(f,g,h,i,j,k,l,m)))
    else
     (aO d b).bind fun a8=>
     (cK a8 (i,j,k,l,m)).bind fun n9=>
     bif decide (0<=n9) then
      (bX (f,g,h,a,i,j,k,l,m,d,e)).bind fun a10=>
      bif a10.1.length==c0.2.2.2.2.2.2.2.2.2.1.length then
       bif a10.2.length==c0.2.2.2.2.2.2.2.2.2.2.length then
        some (.done (.done a10))
       else
        none
      else
       none
     else
      (aO d b).bind fun a11=>
      (bX (f,g,h,a,a11.1,a11.2.1,a11.2.2.1,a11.2.2.2.1,a11.2.2.2.2,d,e)).bind fun a12=>
      some (.next (b,aA .i64 ((aA .i64 (2*b))+1),a12.1,a12.2,(f,g,h,i,j,k,l,m)))
   else
    (aO d b).bind fun a13=>
    (cK a13 (i,j,k,l,m)).bind fun n14=>
    bif decide (0<=n14) then
     (bX (f,g,h,a,i,j,k,l,m,d,e)).bind fun a15=>
     bif a15.1.length==c0.2.2.2.2.2.2.2.2.2.1.length then
      bif a15.2.length==c0.2.2.2.2.2.2.2.2.2.2.length then
       some (.done (.done a15))
      else
       none
     else
      none
    else
     (aO d b).bind fun a16=>
     (bX (f,g,h,a,a16.1,a16.2.1,a16.2.2.1,a16.2.2.2.1,a16.2.2.2.2,d,e)).bind fun a17=>
     some (.next (b,aA .i64 ((aA .i64 (2*b))+1),a17.1,a17.2,(f,g,h,i,j,k,l,m)))
  else
   (bX (f,g,h,a,i,j,k,l,m,d,e)).bind fun a18=>
   bif a18.1.length==c0.2.2.2.2.2.2.2.2.2.1.length then
    bif a18.2.length==c0.2.2.2.2.2.2.2.2.2.2.length then
     some (.done (.done a18))
    else
     none
   else
    none
def eT (c0:aIv) (s:aQ0):Option aQ1:=
 bif decide (0<s.1) then
  (aO s.2.1 (aA .i64 (Int.tdiv (aA .i64 (s.1-1)) 2))).bind fun a0=>
  (cK s.2.2.2.2.2.2 a0).bind fun n1=>
  bif decide (n1<0) then
   (aO s.2.1 (aA .i64 (Int.tdiv (aA .i64 (s.1-1)) 2))).bind fun a2=>
   (bX (s.2.2.2.1,s.2.2.2.2.1,s.2.2.2.2.2.1,s.1,a2.1,a2.2.1,a2.2.2.1,a2.2.2.2.1,a2.2.2.2.2,s.2.1,s.2.2.1)).bind fun a3=>
   some (.next (aA .i64 (Int.tdiv (aA .i64 (s.1-1)) 2),a3.1,a3.2,s.2.2.2))
  else
   aH (gF c0) (s.1,aA .i64 ((aA .i64 (2*s.1))+1),s.2)
 else
  aH (gF c0) (s.1,aA .i64 ((aA .i64 (2*s.1))+1),s.2)
def eZ (a:aIv):Option NY:=
 aH (eT a) (a.2.2.2.1,a.2.2.2.2.2.2.2.2.2.1,a.2.2.2.2.2.2.2.2.2.2,a.1,a.2.1,a.2.2.1,a.2.2.2.2.1,a.2.2.2.2.2.1,a.2.2.2.2.2.2.1,a.2.2.2.2.2.2.2.1,a.2.2.2.2.2.2.2.2.1)
def WN:eC:=⟨[.l [.i .i64],.l [.b],.l [.i .i64],.i,.i,.i,.i,.i,.i,.l [.i .i64,.i .i64,.i .i64,.i .i64,.i .i64],.l [.i .i64]],[.agg [.sl [.i .i64] [],.sl [.b] [],.sl [.i .i64] [],.own 0 false,.own 1 false],.int .i64 0,.agg [.int .i64 0,.int .i64 0,.int .i64 0,.int .i64 0,.int .i64 0]],[.arr [.i .i64,.i .i64,.i .i64,.i .i64,.i .i64] [],.arr [.i .i64] []],[.l [.i .i64,.i .i64,.i .i64,.i .i64,.i .i64],.l [.i .i64]],.tup [],[.arr [.i .i64,.i .i64,.i .i64,.i .i64,.i .i64] [],.arr [.i .i64] []],fun a=>eZ a⟩
theorem O2:kU tab 276 WN:=kU.of YT (wd:=false) (cx:=(oX aG [(219,aJf)] [(300,WM),(300,aCx)] [] [])) (lY.make ⟨QU,trivial⟩ ⟨O1,aAK,trivial⟩ trivial) (fun a=>by kernel_rfl)
def vS (p0:aI) (p1:Int×Int) (p2:Int×Int):Option (aI×Int):=
 (mJ p0).bind fun n0=>
 (hY p2).bind fun n1=>
 bif (if n1>n0 then n1 else n0) !=0 then
  some (aI.mk (aR.mk [] [] []) [] [],if n1>n0 then n1 else n0)
 else
  (rF p0 p1).bind fun a2=>
  bif a2.2 !=0 then
   some (aI.mk (aR.mk [] [] []) [] [],a2.2)
  else
   (cD p0.heap).bind fun l3=>
   (cD p0.where_).bind fun l4=>
   (aO l3 a2.1).bind fun a5=>
   (eZ (p0.slots.uses,p0.slots.used,p0.slots.free,a2.1,p2.1,p2.2,a5.2.2.1,a5.2.2.2.1,a5.2.2.2.2,l3,l4)).bind fun a6=>
   some (aI.mk p0.slots a6.1 a6.2,0)
def aSl:bJ:=⟨aC.cons (aM.agg cZ) (aC.cons (aM.agg (cJ.row jS)) (aC.one (aM.agg (cJ.row jS)))),aM.tup (aC.cons (aM.agg cZ) (aC.one (aM.int .i64))),fun a=>vS a.1 a.2.1 a.2.2,.frz,false⟩
theorem aJK:aK tab 263 aSl:=aK.of aH3 (cx:=(oX aG [(168,aCt),(72,c72),(229,aPK),(184,bJ.clone mG),(185,bJ.clone ki)] [(276,Q3),(276,WN)] [(275,aAz)] [])) rfl (lY.make ⟨KS,F3,ZD,wO,qU,trivial⟩ ⟨I4,O2,trivial⟩ ⟨QH,trivial⟩) (fun a=>by kernel_rfl)
def yV (p0:Int×Int×Int×Int×Int) (p1:Int):Option Bool:=
 some (p0.2.2.1==p1)
def aSm:bJ:=⟨aC.cons (aM.agg (cJ.row mG)) (aC.one (aM.ref (cJ.int .i64))),aM.bool,fun a=>yV a.1 a.2,.pure,false⟩
theorem aJL:aK tab 293 aSm:=Oc aIk rfl aG [] trivial fun a=>by kernel_rfl
def cS (s:(kV×Int×Int×Int)):Option (cH (kV×Int×Int×Int) Int):=
 bif decide (s.2.2.2<s.2.2.1) then
  (aO s.1 s.2.2.2).bind fun a0=>
  (yV a0 s.2.1).bind fun b1=>
  bif b1 then
   some (.done s.2.2.2)
  else
   some (.next (s.1,s.2.1,s.2.2.1,aA .i64 (s.2.2.2+1)))
 else
  some (.done (-1))
def eU (p0:List (Int×Int×Int×Int×Int)) (p1:Int):Option Int:=
 aH cS (p0,p1,Int.ofNat p0.length,0)
def TW:bJ:=⟨aC.cons (aM.sl mG) (aC.one (aM.clo 293 (aC.one (aM.ref (cJ.int .i64))))),aM.int .i64,fun a=>eU a.1 a.2,.pure,false⟩
theorem TX:aK tab 304 TW:=Oc aIr rfl aG [(293,aSm)] ⟨aJL,trivial⟩ fun a=>by kernel_rfl
def cT (p0:List (Int×Int×Int×Int×Int)) (p1:Int):Option Bool:=
 (eU p0 p1).bind fun n0=>
 some (decide (0<=n0))
def TY:bJ:=⟨aC.cons (aM.sl mG) (aC.one (aM.clo 293 (aC.one (aM.ref (cJ.int .i64))))),aM.bool,fun a=>cT a.1 a.2,.pure,false⟩
theorem TZ:aK tab 292 TY:=Oc aIj rfl aG [(304,TW)] ⟨TX,trivial⟩ fun a=>by kernel_rfl
def wV (p0:List Int):Option ((List Int)×Int):=
 (jD p0 0 (aA .i64 ((Int.ofNat p0.length) -1))).bind fun l0=>
 (cD l0).bind fun l1=>
 (aO p0 (aA .i64 ((Int.ofNat p0.length) -1))).bind fun n2=>
 some (l1,n2)
def aSn:bJ:=⟨aC.one (aM.sl ki),aM.tup (aC.cons (aM.sl ki) (aC.one (aM.int .i64))),fun a=>wV a,.frz,false⟩
theorem aJM:aK tab 305 aSn:=Oc aIs rfl aG [(306,bJ.clone ki)] ⟨TF,trivial⟩ fun a=>by kernel_rfl
def EB (p0:aR):Option (aR×(Int×Int)×Int):=
 (sJ p0).bind fun n0=>
 bif n0 !=0 then
  some (aR.mk [] [] [],(0,0),n0)
 else
  bif (Int.ofNat p0.free.length)==0 then
   some (aR.mk [] [] [],(0,0),18)
  else
   (wV p0.free).bind fun a1=>
   (aO p0.uses a1.2).bind fun n2=>
   bif n2==1000000 then
    some (aR.mk [] [] [],(0,0),18)
   else
    (cD p0.uses).bind fun l3=>
    (cD p0.used).bind fun l4=>
    (aO l4 a1.2).bind fun _=>
    (aO l3 a1.2).bind fun n6=>
    (aO l3 a1.2).bind fun _=>
    (aO (cB l3 a1.2 (aA .i64 (n6+1))) a1.2).bind fun n8=>
    some (aR.mk (cB l3 a1.2 (aA .i64 (n6+1))) (cB l4 a1.2 true) a1.1,(a1.2,n8),0)
def aSo:bJ:=⟨aC.one (aM.agg gC),aM.tup (aC.cons (aM.agg gC) (aC.cons (aM.agg (cJ.row jS)) (aC.one (aM.int .i64)))),fun a=>EB a,.frz,false⟩
theorem aJN:aK tab 294 aSo:=aK.of aIl (cx:=(oX aG [(218,aI7),(305,aSn),(185,bJ.clone ki),(186,bJ.clone kb)] [] [(298,aB7)] [])) rfl (lY.make ⟨QT,aJM,qU,wN,trivial⟩ trivial ⟨YV,trivial⟩) (fun a=>by kernel_rfl)
def mD (p0:aI) (p1:Int×Int) (p2:Int):Option (aI×(Int×Int)×Int):=
 (mJ p0).bind fun n0=>
 (hY p1).bind fun n1=>
 bif (if n1>n0 then n1 else n0) !=0 then
  some (aI.mk (aR.mk [] [] []) [] [],(0,0),if n1>n0 then n1 else n0)
 else
  bif decide (p2<0) then
   some (aI.mk (aR.mk [] [] []) [] [],(0,0),2)
  else
   bif decide (1000000<p2) then
    some (aI.mk (aR.mk [] [] []) [] [],(0,0),2)
   else
    (cT p0.heap p2).bind fun b2=>
    bif b2 then
     some (aI.mk (aR.mk [] [] []) [] [],(0,0),14)
    else
     (EB p0.slots).bind fun a3=>
     bif a3.2.2 !=0 then
      some (aI.mk (aR.mk [] [] []) [] [],(0,0),a3.2.2)
     else
      (cD p0.heap).bind fun l4=>
      (cD p0.where_).bind fun l5=>
      (bF l4 [(p1.1,p1.2,p2,a3.2.1)]).bind fun l6=>
      (eZ (a3.1.uses,a3.1.used,a3.1.free,aA .i64 ((Int.ofNat l6.length) -1),p1.1,p1.2,p2,a3.2.1.1,a3.2.1.2,l6,l5)).bind fun a7=>
      some (aI.mk a3.1 a7.1 a7.2,a3.2.1,0)
def aPM:bJ:=⟨aC.cons (aM.agg cZ) (aC.cons (aM.agg (cJ.row jS)) (aC.one (aM.int .i64))),aM.tup (aC.cons (aM.agg cZ) (aC.cons (aM.agg (cJ.row jS)) (aC.one (aM.int .i64)))),fun a=>mD a.1 a.2.1 a.2.2,.frz,false⟩
theorem ZF:aK tab 264 aPM:=aK.of aH4 (cx:=(oX aG [(168,aCt),(72,c72),(292,TY),(294,aSo),(184,bJ.clone mG),(185,bJ.clone ki)] [(276,Q3),(276,WN)] [(275,aAz)] [])) rfl (lY.make ⟨KS,F3,TZ,aJN,wO,qU,trivial⟩ ⟨I4,O2,trivial⟩ ⟨QH,trivial⟩) (fun a=>by kernel_rfl)
end
end
end Go.Proofs.YthljmpcakagceaaGreat
