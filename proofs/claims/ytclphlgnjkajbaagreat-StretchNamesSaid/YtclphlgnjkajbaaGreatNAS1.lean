/- Plain functions for what the functions of the seat compute. Printed by a program. -/
import Derived.Test.YtclphlgnjkajbaaGreatNVm3
import Derived.Test.YtclphlgnjkajbaaGreatNAXT
open Int renaming ofNat->aa,tdiv->af
open List renaming replicate->ac
open Nat renaming ble->ae,beq->ag
set_option maxRecDepth 100000
namespace Go.Proofs.YtclphlgnjkajbaaGreat
open Go.Vm
noncomputable section
theorem Oc {f:FuncId} {x:aJ} {α β:Type} {args:aC α} {res:aF β} {kd:Kd} {fn:α->Option β} {ow:Bool} (hf:tab f=some (.code x)) (ho:aBi kd ow=true) (lp:Option Nat) (l:List (Nat×aV)) (h:yX tab l) (e: ∀a,aK4 (aN lp l [] [] []) x args res kd a=fn a):aB tab f ⟨args,res,fn,kd,ow⟩:=aB.of hf (cx:=aN lp l [] [] []) ho (aM.make h trivial trivial) e
abbrev kb:List PT:=[.b]
abbrev ki:List PT:=[.i .i64]
abbrev cM:List PT:=[.i .i64,.i .i64]
abbrev bO:List PT:=[.i .i64,.i .i64,.i .i64]
abbrev gP:List PT:=[.i .i64,.i .i64,.i .i64,.i .i64,.i .i64]
abbrev uP:List PT:=[.b,.i .u64,.i .u64]
abbrev aSv:List PT:=[.i .i64,.i .i64,.i .i64,.i .i64]
abbrev kiu:List PT:=[.i .i64,.i .u64]
abbrev PE:List PT:=[.i .u8,.i .i64,.i .i64,.i .i64,.i .i64,.i .i64,.i .i64]
structure Field where
 points:List (Int×Int×Int)
def aT:bE Field:=bE.iso (bE.sl bO) (fun p=>⟨p⟩) (fun c=>c.points) (fun _=>rfl)
structure aI where
 next_:Int
 list:List (Int×Int×Int)
def eY:bE aI:=bE.iso (bE.prod (bE.int .i64) (bE.sl bO)) (fun p=>⟨p.1,p.2⟩) (fun c=>(c.next_,c.list)) (fun _=>rfl)
structure aH where
 uses:List Int
 used:List Bool
 free:List Int
def eZ:bE aH:=bE.iso (bE.prod (bE.sl ki) (bE.prod (bE.sl kb) (bE.sl ki))) (fun p=>⟨p.1,p.2.1,p.2.2⟩) (fun c=>(c.uses,c.used,c.free)) (fun _=>rfl)
structure aE where
 slots:aH
 heap:List (Int×Int×Int×Int×Int)
 where_:List Int
def cE:bE aE:=bE.iso (bE.prod eZ (bE.prod (bE.sl gP) (bE.sl ki))) (fun p=>⟨p.1,p.2.1,p.2.2⟩) (fun c=>(c.slots,c.heap,c.where_)) (fun _=>rfl)
structure aG where
 now:Int×Int
 field:Field
 certs:aI
 agenda:aE
 due:List (Int×Int×Int)
def bB:bE aG:=bE.iso (bE.prod (bE.row cM) (bE.prod aT (bE.prod eY (bE.prod cE (bE.sl bO))))) (fun p=>⟨p.1,p.2.1,p.2.2.1,p.2.2.2.1,p.2.2.2.2⟩) (fun c=>(c.now,c.field,c.certs,c.agenda,c.due)) (fun _=>rfl)
structure bH where
 clock:aG
 heap:List Int
def fV:bE bH:=bE.iso (bE.prod bB (bE.sl ki)) (fun p=>⟨p.1,p.2⟩) (fun c=>(c.clock,c.heap)) (fun _=>rfl)
structure aQ where
 places:List Int
 wins:List Int
def fD:bE aQ:=bE.iso (bE.prod (bE.sl ki) (bE.sl ki)) (fun p=>⟨p.1,p.2⟩) (fun c=>(c.places,c.wins)) (fun _=>rfl)
structure bC where
 clock:aG
 bracket:aQ
def eR:bE bC:=bE.iso (bE.prod bB fD) (fun p=>⟨p.1,p.2⟩) (fun c=>(c.clock,c.bracket)) (fun _=>rfl)
structure cK where
 root:Int
 nodes:List (Int×Int×Int)
def sF:bE cK:=bE.iso (bE.prod (bE.int .i64) (bE.sl bO)) (fun p=>⟨p.1,p.2⟩) (fun c=>(c.root,c.nodes)) (fun _=>rfl)
structure aW where
 clock:aG
 tree:cK
def cX:bE aW:=bE.iso (bE.prod bB sF) (fun p=>⟨p.1,p.2⟩) (fun c=>(c.clock,c.tree)) (fun _=>rfl)
structure bA where
 clock:aG
 up:List Int
def cY:bE bA:=bE.iso (bE.prod bB (bE.sl ki)) (fun p=>⟨p.1,p.2⟩) (fun c=>(c.clock,c.up)) (fun _=>rfl)
structure aY where
 tag:Int
 heap:bH
 tourn:bC
 heater:aW
 hanger:bA
def cI:bE aY:=bE.iso (bE.prod (bE.int .u8) (bE.prod fV (bE.prod eR (bE.prod cX cY)))) (fun p=>⟨p.1,p.2.1,p.2.2.1,p.2.2.2.1,p.2.2.2.2⟩) (fun c=>(c.tag,c.heap,c.tourn,c.heater,c.hanger)) (fun _=>rfl)
theorem oB:aB tab 256 (aV.clone kb):=aB.clone aGZ rfl
theorem ZZ:aB tab 412 (aV.add64):=aB.add64 aIn
theorem fM:aB tab 34 (aV.clone ki):=aB.clone aQe rfl
theorem nO:aB tab 78 (aV.clone bO):=aB.clone aQG rfl
theorem qW:aB tab 253 (aV.clone bO):=aB.clone aGW rfl
theorem AW:aB tab 254 (aV.clone bO):=aB.clone aGX rfl
theorem oC:aB tab 255 (aV.clone gP):=aB.clone aGY rfl
theorem PF:aB tab 418 (aV.clone ki):=aB.clone aIt rfl
def EH (_:Nat) (s:(Int×Int)):Option (aS (Int×Int) (Int×Int)):=
 bif decide (s.2<s.1) then
  some (.next (s.1,aA .i64 (s.2*2)))
 else
  some (.done (s.2,0))
def eF (N:Nat) (p0:Int):Option (Int×Int):=
 bif decide (p0<0) then
  some (0,2)
 else
  bif decide (64<p0) then
   some (0,2)
  else
   (aO N) (EH N) (p0,1)
def c21 (N:Nat):aV:=⟨aC.one (aF.int .i64),aF.tup (aC.cons (aF.int .i64) (aC.one (aF.int .i64))),fun a=>(eF N) a,.pure,false⟩
theorem Z0 (N:Nat):aB tab 21 (c21 N):=aB.of aP5 (cx:=(aN (aK N) [] [] [] [])) rfl (aM.make trivial trivial trivial) (fun a=>by kernel_rfl)
def CQ (_:Nat) (s:(Int×Int×(List Bool)×Int×Int×(List Int))):Option (aS (Int×Int×(List Bool)×Int×Int×(List Int)) ((List Int)×Int)):=
 bif decide (s.2.2.2.2.1<s.2.2.2.1) then
  (aL s.2.2.1 s.2.2.2.2.1).bind fun b0=>
  bif b0 then
   bif decide (s.2.1<64) then
    bif s.2.1==s.1 then
     (aR s.2.2.2.2.2 [aA .i64 (2*s.1)]).bind fun l1=>
     some (.next (aA .i64 (2*s.1),aA .i64 (s.2.1+1),s.2.2.1,s.2.2.2.1,aA .i64 (s.2.2.2.2.1+1),l1))
    else
     (aR s.2.2.2.2.2 [s.1]).bind fun l2=>
     some (.next (s.1,aA .i64 (s.2.1+1),s.2.2.1,s.2.2.2.1,aA .i64 (s.2.2.2.2.1+1),l2))
   else
    bif !b0 then
     bif decide (0<s.2.1) then
      bif decide (1<s.1) then
       bif decide ((aA .i64 (4*(aA .i64 (s.2.1-1))))<=s.1) then
        (aR s.2.2.2.2.2 [aA .i64 (af s.1 2)]).bind fun l3=>
        some (.next (aA .i64 (af s.1 2),aA .i64 (s.2.1-1),s.2.2.1,s.2.2.2.1,aA .i64 (s.2.2.2.2.1+1),l3))
       else
        (aR s.2.2.2.2.2 [s.1]).bind fun l4=>
        some (.next (s.1,aA .i64 (s.2.1-1),s.2.2.1,s.2.2.2.1,aA .i64 (s.2.2.2.2.1+1),l4))
      else
       (aR s.2.2.2.2.2 [s.1]).bind fun l5=>
       some (.next (s.1,aA .i64 (s.2.1-1),s.2.2.1,s.2.2.2.1,aA .i64 (s.2.2.2.2.1+1),l5))
     else
      (aR s.2.2.2.2.2 [s.1]).bind fun l6=>
      some (.next (s.1,s.2.1,s.2.2.1,s.2.2.2.1,aA .i64 (s.2.2.2.2.1+1),l6))
    else
     (aR s.2.2.2.2.2 [s.1]).bind fun l7=>
     some (.next (s.1,s.2.1,s.2.2.1,s.2.2.2.1,aA .i64 (s.2.2.2.2.1+1),l7))
  else
   bif !b0 then
    bif decide (0<s.2.1) then
     bif decide (1<s.1) then
      bif decide ((aA .i64 (4*(aA .i64 (s.2.1-1))))<=s.1) then
       (aR s.2.2.2.2.2 [aA .i64 (af s.1 2)]).bind fun l8=>
       some (.next (aA .i64 (af s.1 2),aA .i64 (s.2.1-1),s.2.2.1,s.2.2.2.1,aA .i64 (s.2.2.2.2.1+1),l8))
      else
       (aR s.2.2.2.2.2 [s.1]).bind fun l9=>
       some (.next (s.1,aA .i64 (s.2.1-1),s.2.2.1,s.2.2.2.1,aA .i64 (s.2.2.2.2.1+1),l9))
     else
      (aR s.2.2.2.2.2 [s.1]).bind fun l10=>
      some (.next (s.1,aA .i64 (s.2.1-1),s.2.2.1,s.2.2.2.1,aA .i64 (s.2.2.2.2.1+1),l10))
    else
     (aR s.2.2.2.2.2 [s.1]).bind fun l11=>
     some (.next (s.1,s.2.1,s.2.2.1,s.2.2.2.1,aA .i64 (s.2.2.2.2.1+1),l11))
   else
    (aR s.2.2.2.2.2 [s.1]).bind fun l12=>
    some (.next (s.1,s.2.1,s.2.2.1,s.2.2.2.1,aA .i64 (s.2.2.2.2.1+1),l12))
 else
  some (.done (s.2.2.2.2.2,0))
def gA (N:Nat) (p0:List Bool):Option ((List Int)×Int):=
 bif decide (1000<(aa p0.length)) then
  some ([],4)
 else
  (aO N) (CQ N) (1,0,p0,aa p0.length,0,[])
def c9 (N:Nat):aV:=⟨aC.one (aF.sl kb),aF.tup (aC.cons (aF.sl ki) (aC.one (aF.int .i64))),fun a=>(gA N) a,.frz,false⟩
theorem aLa (N:Nat):aB tab 9 (c9 N):=aB.of aSu (cx:=(aN (aK N) [] [] [(27,x27),(28,x28)] [])) rfl (aM.make trivial trivial ⟨ZW,aQa,trivial⟩) (fun a=>by kernel_rfl)
def CR (_:Nat) (s:(Int×Int×(List Bool)×Int×Int×Int)):Option (aS (Int×Int×(List Bool)×Int×Int×Int) (Int×Int)):=
 bif decide (s.2.2.2.2.1<s.2.2.2.1) then
  (aL s.2.2.1 s.2.2.2.2.1).bind fun b0=>
  bif b0 then
   bif decide (s.2.1<64) then
    bif s.2.1==s.1 then
     some (.next (aA .i64 (2*s.1),aA .i64 (s.2.1+1),s.2.2.1,s.2.2.2.1,aA .i64 (s.2.2.2.2.1+1),aA .i64 (s.2.2.2.2.2+s.2.1)))
    else
     some (.next (s.1,aA .i64 (s.2.1+1),s.2.2.1,s.2.2.2.1,aA .i64 (s.2.2.2.2.1+1),aA .i64 (s.2.2.2.2.2+0)))
   else
    bif !b0 then
     bif decide (0<s.2.1) then
      bif decide (1<s.1) then
       bif decide ((aA .i64 (4*(aA .i64 (s.2.1-1))))<=s.1) then
        some (.next (aA .i64 (af s.1 2),aA .i64 (s.2.1-1),s.2.2.1,s.2.2.2.1,aA .i64 (s.2.2.2.2.1+1),aA .i64 (s.2.2.2.2.2+(aA .i64 (s.2.1-1)))))
       else
        some (.next (s.1,aA .i64 (s.2.1-1),s.2.2.1,s.2.2.2.1,aA .i64 (s.2.2.2.2.1+1),aA .i64 (s.2.2.2.2.2+0)))
      else
       some (.next (s.1,aA .i64 (s.2.1-1),s.2.2.1,s.2.2.2.1,aA .i64 (s.2.2.2.2.1+1),aA .i64 (s.2.2.2.2.2+0)))
     else
      some (.next (s.1,s.2.1,s.2.2.1,s.2.2.2.1,aA .i64 (s.2.2.2.2.1+1),aA .i64 (s.2.2.2.2.2+0)))
    else
     some (.next (s.1,s.2.1,s.2.2.1,s.2.2.2.1,aA .i64 (s.2.2.2.2.1+1),aA .i64 (s.2.2.2.2.2+0)))
  else
   bif !b0 then
    bif decide (0<s.2.1) then
     bif decide (1<s.1) then
      bif decide ((aA .i64 (4*(aA .i64 (s.2.1-1))))<=s.1) then
       some (.next (aA .i64 (af s.1 2),aA .i64 (s.2.1-1),s.2.2.1,s.2.2.2.1,aA .i64 (s.2.2.2.2.1+1),aA .i64 (s.2.2.2.2.2+(aA .i64 (s.2.1-1)))))
      else
       some (.next (s.1,aA .i64 (s.2.1-1),s.2.2.1,s.2.2.2.1,aA .i64 (s.2.2.2.2.1+1),aA .i64 (s.2.2.2.2.2+0)))
     else
      some (.next (s.1,aA .i64 (s.2.1-1),s.2.2.1,s.2.2.2.1,aA .i64 (s.2.2.2.2.1+1),aA .i64 (s.2.2.2.2.2+0)))
    else
     some (.next (s.1,s.2.1,s.2.2.1,s.2.2.2.1,aA .i64 (s.2.2.2.2.1+1),aA .i64 (s.2.2.2.2.2+0)))
   else
    some (.next (s.1,s.2.1,s.2.2.1,s.2.2.2.1,aA .i64 (s.2.2.2.2.1+1),aA .i64 (s.2.2.2.2.2+0)))
 else
  some (.done (s.2.2.2.2.2,0))
def jT (N:Nat) (p0:List Bool):Option (Int×Int):=
 bif decide (1000<(aa p0.length)) then
  some (0,4)
 else
  (aO N) (CR N) (1,0,p0,aa p0.length,0,0)
def c22 (N:Nat):aV:=⟨aC.one (aF.sl kb),aF.tup (aC.cons (aF.int .i64) (aC.one (aF.int .i64))),fun a=>(jT N) a,.pure,false⟩
theorem Z1 (N:Nat):aB tab 22 (c22 N):=aB.of aP6 (cx:=(aN (aK N) [] [] [(27,x27),(58,x58)] [])) rfl (aM.make trivial trivial ⟨ZW,aQr,trivial⟩) (fun a=>by kernel_rfl)
def bS (_:Nat) (p0:aG):Option Bool:=
 bif (p0.now.1==0)&&(p0.now.2==0) then
  bif p0.certs.next_==0 then
   some ((aA .i64 ((aA .i64 ((aA .i64 ((aA .i64 ((aA .i64 ((aA .i64 ((aA .i64 ((aa p0.field.points.length)+(aa p0.certs.list.length)))+(aa p0.agenda.heap.length)))+(aa p0.agenda.where_.length)))+(aa p0.agenda.slots.uses.length)))+(aa p0.agenda.slots.used.length)))+(aa p0.agenda.slots.free.length)))+(aa p0.due.length)))==0)
  else
   some false
 else
  some false
def aSw (N:Nat):aV:=⟨aC.one (aF.agg bB),aF.bool,fun a=>(bS N) a,.pure,false⟩
theorem aIu (N:Nat):aB tab 137 (aSw N):=aB.of aFI (cx:=(aN (aK N) [] [] [] [])) rfl (aM.make trivial trivial trivial) (fun a=>by kernel_rfl)
def jC (_:Nat) (p0:Int):Option Int:=
 bif decide (p0<0) then
  some (aA .u64 (0- (aA .u64 p0)))
 else
  some (aA .u64 p0)
def Z2 (N:Nat):aV:=⟨aC.one (aF.int .i64),aF.int .u64,fun a=>(jC N) a,.pure,false⟩
theorem E6 (N:Nat):aB tab 142 (Z2 N):=aB.of aFN (cx:=(aN (aK N) [] [] [] [])) rfl (aM.make trivial trivial trivial) (fun a=>by kernel_rfl)
def M1 (_:Nat) (s:(Int×Int)):Option (aS (Int×Int) Int):=
 bif decide (0<s.2) then
  bif s.2==0 then
   none
  else
   some (.next (s.2,Int.tmod s.1 s.2))
 else
  some (.done s.1)
def CS (N:Nat) (p0:Int) (p1:Int):Option Int:=
 (aO N) (M1 N) (p0,p1)
def aQZ (N:Nat):aV:=⟨aC.cons (aF.int .u64) (aC.one (aF.int .u64)),aF.int .u64,fun a=>(CS N) a.1 a.2,.pure,false⟩
theorem US (N:Nat):aB tab 141 (aQZ N):=aB.of aFM (cx:=(aN (aK N) [] [] [] [])) rfl (aM.make trivial trivial trivial) (fun a=>by kernel_rfl)
def cB (N:Nat) (p0:Int×Int):Option Int:=
 bif decide (p0.2<1) then
  some 8
 else
  bif p0.1==(-9223372036854775808) then
   some 8
  else
   ((jC N) p0.1).bind fun n0=>
   ((CS N) (aA .u64 p0.2) n0).bind fun n1=>
   bif decide (1<n1) then
    some 8
   else
    some 0
def Q9 (N:Nat):aV:=⟨aC.one (aF.agg (bE.row cM)),aF.int .i64,fun a=>(cB N) a,.pure,false⟩
theorem kE (N:Nat):aB tab 70 (Q9 N):=aB.of aQz (cx:=(aN (aK N) [(142,(Z2 N)),(141,(aQZ N))] [] [] [])) rfl (aM.make ⟨(E6 N),(US N),trivial⟩ trivial trivial) (fun a=>by kernel_rfl)
def oD (_:Nat) (p0:Int):Option Bool:=
 bif decide (p0<(-1048576)) then
  some true
 else
  some (decide (1048576<p0))
def aSx (N:Nat):aV:=⟨aC.one (aF.int .i64),aF.bool,fun a=>(oD N) a,.pure,false⟩
theorem aIv (N:Nat):aB tab 168 (aSx N):=aB.of aF4 (cx:=(aN (aK N) [] [] [] [])) rfl (aM.make trivial trivial trivial) (fun a=>by kernel_rfl)
def jD (N:Nat) (p0:Int×Int×Int):Option Int:=
 bif decide (p0.1<0) then
  some 8
 else
  bif decide (65535<p0.1) then
   some 8
  else
   ((oD N) p0.2.1).bind fun b0=>
   bif b0 then
    some 8
   else
    ((oD N) p0.2.2).bind fun b1=>
    bif b1 then
     some 8
    else
     some 0
def c89 (N:Nat):aV:=⟨aC.one (aF.agg (bE.row bO)),aF.int .i64,fun a=>(jD N) a,.pure,false⟩
theorem M2 (N:Nat):aB tab 89 (c89 N):=aB.of aQR (cx:=(aN (aK N) [(168,(aSx N))] [] [] [])) rfl (aM.make ⟨(aIv N),trivial⟩ trivial trivial) (fun a=>by kernel_rfl)
def HC (_:Nat) (s:((List (Int×Int×Int))×Int×Int×(List (Int×Int×Int)))):Option (aS ((List (Int×Int×Int))×Int×Int×(List (Int×Int×Int))) (aS ((List (Int×Int×Int))×Int×Int×(List (Int×Int×Int))) Int)):=
 bif decide (s.2.2.1<s.2.1) then
  (aL s.1 s.2.2.1).bind fun a0=>
  bif decide (0<s.2.2.1) then
   (aL s.2.2.2 (aA .i64 (s.2.2.1-1))).bind fun a1=>
   bif decide (a0.1<=a1.1) then
    some (.done (.done 32))
   else
    some (.next (s.1,s.2.1,aA .i64 (s.2.2.1+1),s.2.2.2))
  else
   some (.next (s.1,s.2.1,aA .i64 (s.2.2.1+1),s.2.2.2))
 else
  some (.done (.done 0))
def HD (N:Nat) (s:((List (Int×Int×Int))×Int×Int×(List (Int×Int×Int)))):Option (aS ((List (Int×Int×Int))×Int×Int×(List (Int×Int×Int))) Int):=
 bif decide (s.2.2.1<s.2.1) then
  (aL s.1 s.2.2.1).bind fun a0=>
  ((jD N) a0).bind fun n1=>
  bif n1 !=0 then
   some (.done n1)
  else
   some (.next (s.1,s.2.1,aA .i64 (s.2.2.1+1),s.2.2.2))
 else
  (aO N) (HC N) (s.2.2.2,aa s.2.2.2.length,0,s.2.2.2)
def fW (N:Nat) (p0:Field):Option Int:=
 bif decide (64<(aa p0.points.length)) then
  some 4
 else
  (aO N) (HD N) (p0.points,aa p0.points.length,0,p0.points)
def c76 (N:Nat):aV:=⟨aC.one (aF.agg aT),aF.int .i64,fun a=>(fW N) a,.pure,false⟩
theorem uQ (N:Nat):aB tab 76 (c76 N):=aB.of aQF (cx:=(aN (aK N) [(89,(c89 N))] [] [] [])) rfl (aM.make ⟨(M2 N),trivial⟩ trivial trivial) (fun a=>by kernel_rfl)
def zA (_:Nat) (p0:Int×Int):Option Bool:=
 bif decide (0<=(if p0.2<p0.1 then p0.2 else p0.1)) then
  bif decide ((if p0.2>p0.1 then p0.2 else p0.1)<=65535) then
   some (p0.1 !=p0.2)
  else
   some false
 else
  some false
def aQ0 (N:Nat):aV:=⟨aC.one (aF.agg (bE.row cM)),aF.bool,fun a=>(zA N) a,.pure,false⟩
theorem UT (N:Nat):aB tab 257 (aQ0 N):=aB.of aG0 (cx:=(aN (aK N) [] [] [] [])) rfl (aM.make trivial trivial trivial) (fun a=>by kernel_rfl)
def JV (N:Nat) (s:(Int×(List (Int×Int×Int))×Int×Int×Int×(List (Int×Int×Int))×(List (List Int)))):Option (aS (Int×(List (Int×Int×Int))×Int×Int×Int×(List (Int×Int×Int))×(List (List Int))) Int):=
 bif decide (s.2.2.2.1<s.2.2.1) then
  (aL s.2.1 s.2.2.2.1).bind fun a0=>
  ((zA N) a0.2).bind fun b1=>
  bif !b1 then
   some (.done 8)
  else
   (aAQ s.2.2.2.2.2.2 [a0.2.1,a0.2.2]).bind fun b2=>
   bif b2 then
    some (.done 8)
   else
    bif decide (a0.1<=s.1) then
     some (.done 8)
    else
     bif decide (s.2.2.2.2.1<=a0.1) then
      some (.done 8)
     else
      (aAR s.2.2.2.2.2.2 [a0.2.1,a0.2.2]).bind fun l3=>
      some (.next (a0.1,s.2.1,s.2.2.1,aA .i64 (s.2.2.2.1+1),s.2.2.2.2.1,s.2.2.2.2.2.1,l3))
 else
  some (.done 0)
def sG (N:Nat) (p0:aI):Option Int:=
 bif decide (200<(aa p0.list.length)) then
  some 8
 else
  bif decide (p0.next_<0) then
   some 8
  else
   bif decide (1000000<p0.next_) then
    some 8
   else
    (aO N) (JV N) (-1,p0.list,aa p0.list.length,0,p0.next_,p0.list,[])
def aIx (N:Nat):aV:=⟨aC.one (aF.agg eY),aF.int .i64,fun a=>(sG N) a,.pure,false⟩
theorem M3 (N:Nat):aB tab 157 (aIx N):=aB.of aFZ (cx:=(aN (aK N) [(257,(aQ0 N))] [] [] [])) rfl (aM.make ⟨(UT N),trivial⟩ trivial trivial) (fun a=>by kernel_rfl)
def uR (_:Nat) (s:((List Bool)×Bool×Int×Int)):Option (aS ((List Bool)×Bool×Int×Int) Int):=
 bif decide (s.2.2.2<s.2.2.1) then
  (aL s.1 s.2.2.2).bind fun b0=>
  bif s.2.1==b0 then
   some (.done s.2.2.2)
  else
   some (.next (s.1,s.2.1,s.2.2.1,aA .i64 (s.2.2.2+1)))
 else
  some (.done (-1))
def pI (N:Nat) (p0:List Bool) (p1:Bool):Option Int:=
 (aO N) (uR N) (p0,p1,aa p0.length,0)
def aSz (N:Nat):aV:=⟨aC.cons (aF.sl kb) (aC.one aF.bool),aF.int .i64,fun a=>(pI N) a.1 a.2,.pure,false⟩
theorem aIy (N:Nat):aB tab 389 (aSz N):=aB.of aH7 (cx:=(aN (aK N) [] [] [] [])) rfl (aM.make trivial trivial trivial) (fun a=>by kernel_rfl)
def eG (N:Nat) (p0:List Bool) (p1:Bool):Option Bool:=
 ((pI N) p0 p1).bind fun n0=>
 some (decide (0<=n0))
def aSA (N:Nat):aV:=⟨aC.cons (aF.sl kb) (aC.one aF.bool),aF.bool,fun a=>(eG N) a.1 a.2,.pure,false⟩
theorem aIz (N:Nat):aB tab 341 (aSA N):=aB.of aHD (cx:=(aN (aK N) [(389,(aSz N))] [] [] [])) rfl (aM.make ⟨(aIy N),trivial⟩ trivial trivial) (fun a=>by kernel_rfl)
def mE (_:Nat) (s:((List Int)×Int×Int×(List Int)×(List Bool)×(List Int))):Option (aS ((List Int)×Int×Int×(List Int)×(List Bool)×(List Int)) (aS ((List Int)×Int×Int×(List Int)×(List Bool)×(List Int)×Int×(List Bool)) Int)):=
 bif decide (s.2.2.1<s.2.1) then
  (aL s.1 s.2.2.1).bind fun n0=>
  bif decide (n0<0) then
   some (.done (.done 8))
  else
   bif decide (1000000<n0) then
    some (.done (.done 8))
   else
    bif n0==0 then
     (aL s.2.2.2.2.1 s.2.2.1).bind fun b1=>
     bif b1 then
      some (.done (.done 8))
     else
      some (.next (s.1,s.2.1,aA .i64 (s.2.2.1+1),s.2.2.2))
    else
     some (.next (s.1,s.2.1,aA .i64 (s.2.2.1+1),s.2.2.2))
 else
  some (.done (.done 0))
def JW (N:Nat) (c0:(List Bool)) (s:((List Int)×Int×Int×(List Int)×(List Bool)×(List Int)×Int×(List Bool))):Option (aS ((List Int)×Int×Int×(List Int)×(List Bool)×(List Int)×Int×(List Bool)) Int):=
 bif decide (s.2.2.1<s.2.1) then
  (aL s.1 s.2.2.1).bind fun n0=>
  bif decide (n0<0) then
   bif s.2.2.2.2.2.2.2.length==s.2.2.2.2.2.2.2.length then
    bif s.2.2.2.2.2.2.2.length==c0.length then
     bif s.2.2.2.2.2.2.2.length==c0.length then
      bif decide (0<=s.2.2.1) then
       some (.done 8)
      else
       ((eG N) s.2.2.2.2.2.2.2 false).bind fun b1=>
       bif b1 then
        some (.done 8)
       else
        (aO N) (mE N) (s.2.2.2.1,aa s.2.2.2.1.length,0,s.2.2.2.1,s.2.2.2.2.1,s.2.2.2.2.2.1)
     else
      none
    else
     none
   else
    none
  else
   bif decide (s.2.2.2.2.2.2.1<=n0) then
    bif s.2.2.2.2.2.2.2.length==s.2.2.2.2.2.2.2.length then
     bif s.2.2.2.2.2.2.2.length==c0.length then
      bif s.2.2.2.2.2.2.2.length==c0.length then
       bif decide (0<=s.2.2.1) then
        some (.done 8)
       else
        ((eG N) s.2.2.2.2.2.2.2 false).bind fun b2=>
        bif b2 then
         some (.done 8)
        else
         (aO N) (mE N) (s.2.2.2.1,aa s.2.2.2.1.length,0,s.2.2.2.1,s.2.2.2.2.1,s.2.2.2.2.2.1)
      else
       none
     else
      none
    else
     none
   else
    (aL s.2.2.2.2.2.2.2 n0).bind fun b3=>
    bif b3 then
     bif s.2.2.2.2.2.2.2.length==s.2.2.2.2.2.2.2.length then
      bif s.2.2.2.2.2.2.2.length==c0.length then
       bif s.2.2.2.2.2.2.2.length==c0.length then
        bif decide (0<=s.2.2.1) then
         some (.done 8)
        else
         ((eG N) s.2.2.2.2.2.2.2 false).bind fun b4=>
         bif b4 then
          some (.done 8)
         else
          (aO N) (mE N) (s.2.2.2.1,aa s.2.2.2.1.length,0,s.2.2.2.1,s.2.2.2.2.1,s.2.2.2.2.2.1)
       else
        none
      else
       none
     else
      none
    else
     (aL s.2.2.2.2.2.2.2 n0).bind fun _=>
     bif ((aZ s.2.2.2.2.2.2.2 n0 true).length)==s.2.2.2.2.2.2.2.length then
      some (.next (s.1,s.2.1,aA .i64 (s.2.2.1+1),s.2.2.2.1,s.2.2.2.2.1,s.2.2.2.2.2.1,s.2.2.2.2.2.2.1,aZ s.2.2.2.2.2.2.2 n0 true))
     else
      none
 else
  bif s.2.2.2.2.2.2.2.length==c0.length then
   bif s.2.2.2.2.2.2.2.length==c0.length then
    ((eG N) s.2.2.2.2.2.2.2 false).bind fun b6=>
    bif b6 then
     some (.done 8)
    else
     (aO N) (mE N) (s.2.2.2.1,aa s.2.2.2.1.length,0,s.2.2.2.1,s.2.2.2.2.1,s.2.2.2.2.2.1)
   else
    none
  else
   none
def sH (N:Nat) (p0:aH):Option Int:=
 bif decide ((aa p0.uses.length)<1) then
  some 8
 else
  bif decide (200<(aa p0.uses.length)) then
   some 8
  else
   bif (aa p0.used.length) !=(aa p0.uses.length) then
    some 8
   else
    (bG p0.used).bind fun l0=>
    (aO N) ((JW N) l0) (p0.free,aa p0.free.length,0,p0.uses,p0.used,p0.free,aa p0.uses.length,l0)
def aIA (N:Nat):aV:=⟨aC.one (aF.agg eZ),aF.int .i64,fun a=>(sH N) a,.pure,false⟩
theorem M4 (N:Nat):aB tab 258 (aIA N):=aB.of aG1 (cx:=(aN (aK N) [(256,aV.clone kb),(341,(aSA N))] [] [(263,SP),(97,x97),(340,aEa)] [])) rfl (aM.make ⟨oB,(aIz N),trivial⟩ trivial ⟨E4,CP,aHC,trivial⟩) (fun a=>by kernel_rfl)
def HE (N:Nat) (p0:Int×Int) (p1:Int×Int):Option Int:=
 ((cB N) p0).bind fun n0=>
 ((cB N) p1).bind fun n1=>
 some (if n1>n0 then n1 else n0)
def aSB (N:Nat):aV:=⟨aC.cons (aF.agg (bE.row cM)) (aC.one (aF.agg (bE.row cM))),aF.int .i64,fun a=>(HE N) a.1 a.2,.pure,false⟩
theorem aIB (N:Nat):aB tab 238 (aSB N):=aB.of aGK (cx:=(aN (aK N) [(70,(Q9 N))] [] [] [])) rfl (aM.make ⟨(kE N),trivial⟩ trivial trivial) (fun a=>by kernel_rfl)
def nB (_:Nat) (p0:Int):Option Bool:=
 some (p0 !=p0)
def aSC (N:Nat):aV:=⟨aC.one (aF.int .i64),aF.bool,fun a=>(nB N) a,.pure,false⟩
theorem aIC (N:Nat):aB tab 328 (aSC N):=aB.of aHq (cx:=(aN (aK N) [] [] [] [])) rfl (aM.make trivial trivial trivial) (fun a=>by kernel_rfl)
def lC (N:Nat) (p0:Int) (p1:Int):Option Int:=
 ((nB N) p0).bind fun b0=>
 ((nB N) p1).bind fun b1=>
 bif b0 then
  bif b1 then
   some 0
  else
   some (-1)
 else
  bif b1 then
   some 1
  else
   bif decide (p0<p1) then
    some (-1)
   else
    bif decide (p1<p0) then
     some 1
    else
     some 0
def aQ1 (N:Nat):aV:=⟨aC.cons (aF.int .i64) (aC.one (aF.int .i64)),aF.int .i64,fun a=>(lC N) a.1 a.2,.pure,false⟩
theorem UU (N:Nat):aB tab 239 (aQ1 N):=aB.of aGL (cx:=(aN (aK N) [(328,(aSC N))] [] [] [])) rfl (aM.make ⟨(aIC N),trivial⟩ trivial trivial) (fun a=>by kernel_rfl)
def iE (_:Nat) (p0:Int) (p1:Int):Option (Int×Int):=
 some (aA .u64 ((aA .u64 ((aA .u64 ((hP .u64 p0 32)*(hP .u64 p1 32)))+(hP .u64 (aA .u64 ((aA .u64 ((hP .u64 p0 32)*(oW .u64 p1 4294967295)))+(hP .u64 (aA .u64 ((oW .u64 p0 4294967295)*(oW .u64 p1 4294967295))) 32))) 32)))+(hP .u64 (aA .u64 ((oW .u64 (aA .u64 ((aA .u64 ((hP .u64 p0 32)*(oW .u64 p1 4294967295)))+(hP .u64 (aA .u64 ((oW .u64 p0 4294967295)*(oW .u64 p1 4294967295))) 32))) 4294967295)+(aA .u64 ((oW .u64 p0 4294967295)*(hP .u64 p1 32))))) 32)),aA .u64 (p0*p1))
def aID (N:Nat):aV:=⟨aC.cons (aF.int .u64) (aC.one (aF.int .u64)),aF.tup (aC.cons (aF.int .u64) (aC.one (aF.int .u64))),fun a=>(iE N) a.1 a.2,.pure,false⟩
theorem M5 (N:Nat):aB tab 175 (aID N):=aB.of aF8 (cx:=(aN (aK N) [] [] [] [])) rfl (aM.make trivial trivial trivial) (fun a=>by kernel_rfl)
def uT (N:Nat) (p0:Int) (p1:Int):Option (Bool×Int×Int):=
 ((jC N) p0).bind fun n0=>
 ((jC N) p1).bind fun n1=>
 ((iE N) n0 n1).bind fun a2=>
 some (!((decide (p0<0))==(decide (p1<0))),a2)
def aSD (N:Nat):aV:=⟨aC.cons (aF.int .i64) (aC.one (aF.int .i64)),aF.agg (bE.row uP),fun a=>(uT N) a.1 a.2,.pure,false⟩
theorem aIE (N:Nat):aB tab 241 (aSD N):=aB.of aGN (cx:=(aN (aK N) [(142,(Z2 N)),(175,(aID N))] [] [] [])) rfl (aM.make ⟨(E6 N),(M5 N),trivial⟩ trivial trivial) (fun a=>by kernel_rfl)
def lU (_:Nat) (p0:Int):Option Bool:=
 some (p0 !=p0)
def aSE (N:Nat):aV:=⟨aC.one (aF.int .u64),aF.bool,fun a=>(lU N) a,.pure,false⟩
theorem aIF (N:Nat):aB tab 376 (aSE N):=aB.of aHY (cx:=(aN (aK N) [] [] [] [])) rfl (aM.make trivial trivial trivial) (fun a=>by kernel_rfl)
def kF (N:Nat) (p0:Int) (p1:Int):Option Int:=
 ((lU N) p0).bind fun b0=>
 ((lU N) p1).bind fun b1=>
 bif b0 then
  bif b1 then
   some 0
  else
   some (-1)
 else
  bif b1 then
   some 1
  else
   bif decide (p0<p1) then
    some (-1)
   else
    bif decide (p1<p0) then
     some 1
    else
     some 0
def aSF (N:Nat):aV:=⟨aC.cons (aF.int .u64) (aC.one (aF.int .u64)),aF.int .i64,fun a=>(kF N) a.1 a.2,.pure,false⟩
theorem aIG (N:Nat):aB tab 329 (aSF N):=aB.of aHr (cx:=(aN (aK N) [(376,(aSE N))] [] [] [])) rfl (aM.make ⟨(aIF N),trivial⟩ trivial trivial) (fun a=>by kernel_rfl)
def xI (N:Nat) (p0:Bool×Int×Int) (p1:Bool×Int×Int):Option Int:=
 ((kF N) p0.2.1 p1.2.1).bind fun n0=>
 bif n0 !=0 then
  some n0
 else
  ((kF N) p0.2.2 p1.2.2).bind fun n1=>
  some n1
def aSG (N:Nat):aV:=⟨aC.cons (aF.agg (bE.row uP)) (aC.one (aF.agg (bE.row uP))),aF.int .i64,fun a=>(xI N) a.1 a.2,.pure,false⟩
theorem aIH (N:Nat):aB tab 240 (aSG N):=aB.of aGM (cx:=(aN (aK N) [(329,(aSF N))] [] [] [])) rfl (aM.make ⟨(aIG N),trivial⟩ trivial trivial) (fun a=>by kernel_rfl)
def kQ (N:Nat) (p0:Int×Int) (p1:Int×Int):Option (Int×Int):=
 ((HE N) p0 p1).bind fun n0=>
 bif n0 !=0 then
  some (0,n0)
 else
  bif !((decide (p0.1<0))==(decide (p1.1<0))) then
   ((lC N) p0.1 p1.1).bind fun n1=>
   some (n1,0)
  else
   ((uT N) p0.1 p1.2).bind fun a2=>
   ((uT N) p1.1 p0.2).bind fun a3=>
   ((xI N) a2 a3).bind fun n4=>
   bif decide (p0.1<0) then
    some (aA .i64 (0-n4),0)
   else
    some (n4,0)
def SQ (N:Nat):aV:=⟨aC.cons (aF.agg (bE.row cM)) (aC.one (aF.agg (bE.row cM))),aF.tup (aC.cons (aF.int .i64) (aC.one (aF.int .i64))),fun a=>(kQ N) a.1 a.2,.pure,false⟩
theorem wL (N:Nat):aB tab 143 (SQ N):=aB.of aFO (cx:=(aN (aK N) [(238,(aSB N)),(239,(aQ1 N)),(241,(aSD N)),(240,(aSG N))] [] [] [])) rfl (aM.make ⟨(aIB N),(UU N),(aIE N),(aIH N),trivial⟩ trivial trivial) (fun a=>by kernel_rfl)
def qC (_:Nat) (p0:Int):Option Bool:=
 some (p0 !=p0)
def aSH (N:Nat):aV:=⟨aC.one (aF.int .i64),aF.bool,fun a=>(qC N) a,.pure,false⟩
theorem aII (N:Nat):aB tab 277 (aSH N):=aB.of aG5 (cx:=(aN (aK N) [] [] [] [])) rfl (aM.make trivial trivial trivial) (fun a=>by kernel_rfl)
def dU (N:Nat) (p0:Int) (p1:Int):Option Int:=
 ((qC N) p0).bind fun b0=>
 ((qC N) p1).bind fun b1=>
 bif b0 then
  bif b1 then
   some 0
  else
   some (-1)
 else
  bif b1 then
   some 1
  else
   bif decide (p0<p1) then
    some (-1)
   else
    bif decide (p1<p0) then
     some 1
    else
     some 0
def PG (N:Nat):aV:=⟨aC.cons (aF.int .i64) (aC.one (aF.int .i64)),aF.int .i64,fun a=>(dU N) a.1 a.2,.pure,false⟩
theorem sI (N:Nat):aB tab 171 (PG N):=aB.of aF6 (cx:=(aN (aK N) [(277,(aSH N))] [] [] [])) rfl (aM.make ⟨(aII N),trivial⟩ trivial trivial) (fun a=>by kernel_rfl)
def JX (_:Nat) (s:(Int×(List Int)×Int×Int)):Option (aS (Int×(List Int)×Int×Int) Int):=
 bif decide (s.2.2.2<s.2.2.1) then
  (aL s.2.1 s.2.2.2).bind fun n0=>
  bif n0 !=s.1 then
   some (.done n0)
  else
   some (.next (s.1,s.2.1,s.2.2.1,aA .i64 (s.2.2.2+1)))
 else
  some (.done s.1)
def zB (N:Nat) (p0:List Int):Option Int:=
 (aO N) (JX N) (0,p0,aa p0.length,0)
def aQ2 (N:Nat):aV:=⟨aC.one (aF.sl ki),aF.int .i64,fun a=>(zB N) a,.pure,false⟩
theorem UV (N:Nat):aB tab 342 (aQ2 N):=aB.of aHE (cx:=(aN (aK N) [] [] [] [])) rfl (aM.make trivial trivial trivial) (fun a=>by kernel_rfl)
def cH (N:Nat) (p0:Int×Int×Int×Int×Int) (p1:Int×Int×Int×Int×Int):Option Int:=
 ((kQ N) (p0.1,p0.2.1) (p1.1,p1.2.1)).bind fun a0=>
 ((dU N) p0.2.2.1 p1.2.2.1).bind fun n1=>
 ((zB N) [a0.1,n1]).bind fun n2=>
 some n2
def aIJ (N:Nat):aV:=⟨aC.cons (aF.agg (bE.row gP)) (aC.one (aF.agg (bE.row gP))),aF.int .i64,fun a=>(cH N) a.1 a.2,.pure,false⟩
theorem M6 (N:Nat):aB tab 259 (aIJ N):=aB.of aG2 (cx:=(aN (aK N) [(143,(SQ N)),(171,(PG N)),(342,(aQ2 N))] [] [] [])) rfl (aM.make ⟨(wL N),(sI N),(UV N),trivial⟩ trivial trivial) (fun a=>by kernel_rfl)
def EI (N:Nat) (s:((List (Int×Int×Int×Int×Int))×Int×Int×(List Int)×(List Bool)×(List Int)×(List (Int×Int×Int×Int×Int))×(List Int)×(List (List Int)))):Option (aS ((List (Int×Int×Int×Int×Int))×Int×Int×(List Int)×(List Bool)×(List Int)×(List (Int×Int×Int×Int×Int))×(List Int)×(List (List Int))) (aS ((List Int)×Int×Int×(List Int)×(List Bool)×(List Int)×(List (Int×Int×Int×Int×Int))×(List Int)) Int)):=
 bif decide (s.2.2.1<s.2.1) then
  (aL s.1 s.2.2.1).bind fun a0=>
  ((cB N) (a0.1,a0.2.1)).bind fun n1=>
  bif n1 !=0 then
   some (.done (.done 8))
  else
   bif decide (a0.2.2.1<0) then
    some (.done (.done 8))
   else
    bif decide (1000000<a0.2.2.1) then
     some (.done (.done 8))
    else
     (aAQ s.2.2.2.2.2.2.2.2 [a0.2.2.1]).bind fun b2=>
     bif b2 then
      some (.done (.done 8))
     else
      (aAR s.2.2.2.2.2.2.2.2 [a0.2.2.1]).bind fun l3=>
      bif decide (0<s.2.2.1) then
       (aL s.2.2.2.2.2.2.1 (aA .i64 (af (aA .i64 (s.2.2.1-1)) 2))).bind fun a4=>
       ((cH N) a0 a4).bind fun n5=>
       bif decide (n5<0) then
        some (.done (.done 8))
       else
        some (.next (s.1,s.2.1,aA .i64 (s.2.2.1+1),s.2.2.2.1,s.2.2.2.2.1,s.2.2.2.2.2.1,s.2.2.2.2.2.2.1,s.2.2.2.2.2.2.2.1,l3))
      else
       some (.next (s.1,s.2.1,aA .i64 (s.2.2.1+1),s.2.2.2.1,s.2.2.2.2.1,s.2.2.2.2.2.1,s.2.2.2.2.2.2.1,s.2.2.2.2.2.2.2.1,l3))
 else
  some (.done (.done 0))
def EJ (N:Nat) (s:((List Int)×Int×Int×(List Int)×(List Bool)×(List Int)×(List (Int×Int×Int×Int×Int))×(List Int))):Option (aS ((List Int)×Int×Int×(List Int)×(List Bool)×(List Int)×(List (Int×Int×Int×Int×Int))×(List Int)) Int):=
 bif decide (s.2.2.1<s.2.1) then
  (aL s.1 s.2.2.1).bind fun n0=>
  (aL s.2.2.2.2.1 s.2.2.1).bind fun b1=>
  bif !b1 then
   bif n0 !=(-1) then
    some (.done 8)
   else
    some (.next (s.1,s.2.1,aA .i64 (s.2.2.1+1),s.2.2.2))
  else
   bif decide (n0<0) then
    some (.done 8)
   else
    bif decide ((aa s.2.2.2.2.2.2.1.length)<=n0) then
     some (.done 8)
    else
     (aL s.2.2.2.2.2.2.1 n0).bind fun a2=>
     (aL s.2.2.2.1 s.2.2.1).bind fun n3=>
     bif !((a2.2.2.2.1==s.2.2.1)&&(a2.2.2.2.2==n3)) then
      some (.done 8)
     else
      some (.next (s.1,s.2.1,aA .i64 (s.2.2.1+1),s.2.2.2))
 else
  (aO N) (EI N) (s.2.2.2.2.2.2.1,aa s.2.2.2.2.2.2.1.length,0,s.2.2.2.1,s.2.2.2.2.1,s.2.2.2.2.2.1,s.2.2.2.2.2.2.1,s.2.2.2.2.2.2.2,[])
def jE (N:Nat) (p0:aE):Option Int:=
 ((sH N) p0.slots).bind fun n0=>
 bif n0 !=0 then
  some 8
 else
  bif (aa p0.where_.length) !=(aa p0.slots.used.length) then
   some 8
  else
   bif (aa p0.heap.length) !=(aA .i64 ((aa p0.slots.used.length) - (aa p0.slots.free.length))) then
    some 8
   else
    (aO N) (EJ N) (p0.where_,aa p0.where_.length,0,p0.slots.uses,p0.slots.used,p0.slots.free,p0.heap,p0.where_)
def W7 (N:Nat):aV:=⟨aC.one (aF.agg cE),aF.int .i64,fun a=>(jE N) a,.pure,false⟩
theorem AX (N:Nat):aB tab 158 (W7 N):=aB.of aF0 (cx:=(aN (aK N) [(258,(aIA N)),(70,(Q9 N)),(259,(aIJ N))] [] [] [])) rfl (aM.make ⟨(M4 N),(kE N),(M6 N),trivial⟩ trivial trivial) (fun a=>by kernel_rfl)
def qD (N:Nat) (p0:Int×Int×Int) (p1:Int):Option Int:=
 ((dU N) p0.1 p1).bind fun n0=>
 some n0
def aSI (N:Nat):aV:=⟨aC.cons (aF.agg (bE.row bO)) (aC.one (aF.int .i64)),aF.int .i64,fun a=>(qD N) a.1 a.2,.pure,false⟩
theorem aIK (N:Nat):aB tab 346 (aSI N):=aB.of aHI (cx:=(aN (aK N) [(171,(PG N))] [] [] [])) rfl (aM.make ⟨(sI N),trivial⟩ trivial trivial) (fun a=>by kernel_rfl)
def fE (N:Nat) (s:((List (Int×Int×Int))×Int×Int×Int×Int)):Option (aS ((List (Int×Int×Int))×Int×Int×Int×Int) (Int×Bool)):=
 bif decide (s.2.2.2.1<s.2.2.2.2) then
  (aL s.1 (aA .i64 (hP .u64 (aA .u64 (aA .i64 (s.2.2.2.1+s.2.2.2.2))) 1))).bind fun a0=>
  ((qD N) a0 s.2.1).bind fun n1=>
  bif decide (n1<0) then
   some (.next (s.1,s.2.1,s.2.2.1,aA .i64 ((aA .i64 (hP .u64 (aA .u64 (aA .i64 (s.2.2.2.1+s.2.2.2.2))) 1))+1),s.2.2.2.2))
  else
   some (.next (s.1,s.2.1,s.2.2.1,s.2.2.2.1,aA .i64 (hP .u64 (aA .u64 (aA .i64 (s.2.2.2.1+s.2.2.2.2))) 1)))
 else
  bif decide (s.2.2.2.1<s.2.2.1) then
   (aL s.1 s.2.2.2.1).bind fun a2=>
   ((qD N) a2 s.2.1).bind fun n3=>
   some (.done (s.2.2.2.1,n3==0))
  else
   some (.done (s.2.2.2.1,false))
def cT (N:Nat) (p0:List (Int×Int×Int)) (p1:Int) (_:Unit):Option (Int×Bool):=
 (aO N) (fE N) (p0,p1,aa p0.length,0,aa p0.length)
def PH (N:Nat):aV:=⟨aC.cons (aF.sl bO) (aC.cons (aF.int .i64) (aC.one (aF.clo 346 aC.nil))),aF.tup (aC.cons (aF.int .i64) (aC.one aF.bool)),fun a=>(cT N) a.1 a.2.1 a.2.2,.pure,false⟩
theorem PI (N:Nat):aB tab 169 (PH N):=aB.of MQ (cx:=(aN (aK N) [(346,(aSI N))] [] [] [])) rfl (aM.make ⟨(aIK N),trivial⟩ trivial trivial) (fun a=>by kernel_rfl)
def iW (N:Nat) (p0:Field) (p1:Int):Option (Int×Int×Int):=
 ((cT N) p0.points p1 ()).bind fun a0=>
 bif !a0.2 then
  some (-1,0,0)
 else
  (aL p0.points a0.1).bind fun a1=>
  some a1
def aIL (N:Nat):aV:=⟨aC.cons (aF.agg aT) (aC.one (aF.int .i64)),aF.agg (bE.row bO),fun a=>(iW N) a.1 a.2,.pure,false⟩
theorem M7 (N:Nat):aB tab 261 (aIL N):=aB.of aG4 (cx:=(aN (aK N) [(169,(PH N))] [] [] [])) rfl (aM.make ⟨(PI N),trivial⟩ trivial trivial) (fun a=>by kernel_rfl)
def sJ (N:Nat) (p0:Int×Int×Int) (p1:Int×Int×Int) (p2:Int×Int):Option Int:=
 ((jD N) p0).bind fun n0=>
 ((jD N) p1).bind fun n1=>
 ((cB N) p2).bind fun n2=>
 bif (if n2>(if n1>n0 then n1 else n0) then n2 else if n1>n0 then n1 else n0) !=0 then
  some (if n2>(if n1>n0 then n1 else n0) then n2 else if n1>n0 then n1 else n0)
 else
  bif p0.1==p1.1 then
   some 2
  else
   some 0
def aIM (N:Nat):aV:=⟨aC.cons (aF.agg (bE.row bO)) (aC.cons (aF.agg (bE.row bO)) (aC.one (aF.agg (bE.row cM)))),aF.int .i64,fun a=>(sJ N) a.1 a.2.1 a.2.2,.pure,false⟩
theorem M8 (N:Nat):aB tab 343 (aIM N):=aB.of aHF (cx:=(aN (aK N) [(89,(c89 N)),(70,(Q9 N))] [] [] [])) rfl (aM.make ⟨(M2 N),(kE N),trivial⟩ trivial trivial) (fun a=>by kernel_rfl)
def JY (N:Nat) (s:(Int×Int×Int×Int×Int×Int×Int×Int×Int)):Option (aS (Int×Int×Int×Int×Int×Int×Int×Int×Int) (Int×Int)):=
 bif decide (s.2.2.2.2.1<2) then
  bif s.2.2.2.2.1==0 then
   ((iE N) (aA .u64 s.1) (aA .u64 s.2.1)).bind fun a0=>
   bif decide (s.1<0) then
    bif decide (s.2.1<0) then
     (nZ s.2.2.2.2.2.2.2.2 a0.2 0).bind fun a1=>
     some (.next (s.1,s.2.1,s.2.2.1,s.2.2.2.1,aA .i64 (s.2.2.2.2.1+1),s.2.2.2.2.2.1,s.2.2.2.2.2.2.1,aA .i64 ((aA .i64 (s.2.2.2.2.2.2.2.1+(aA .i64 ((aA .i64 ((aA .i64 a0.1) -s.2.1)) -s.1))))+(aA .i64 a1.2)),a1.1))
    else
     (nZ s.2.2.2.2.2.2.2.2 a0.2 0).bind fun a2=>
     some (.next (s.1,s.2.1,s.2.2.1,s.2.2.2.1,aA .i64 (s.2.2.2.2.1+1),s.2.2.2.2.2.1,s.2.2.2.2.2.2.1,aA .i64 ((aA .i64 (s.2.2.2.2.2.2.2.1+(aA .i64 ((aA .i64 a0.1) -s.2.1))))+(aA .i64 a2.2)),a2.1))
   else
    bif decide (s.2.1<0) then
     (nZ s.2.2.2.2.2.2.2.2 a0.2 0).bind fun a3=>
     some (.next (s.1,s.2.1,s.2.2.1,s.2.2.2.1,aA .i64 (s.2.2.2.2.1+1),s.2.2.2.2.2.1,s.2.2.2.2.2.2.1,aA .i64 ((aA .i64 (s.2.2.2.2.2.2.2.1+(aA .i64 ((aA .i64 a0.1) -s.1))))+(aA .i64 a3.2)),a3.1))
    else
     (nZ s.2.2.2.2.2.2.2.2 a0.2 0).bind fun a4=>
     some (.next (s.1,s.2.1,s.2.2.1,s.2.2.2.1,aA .i64 (s.2.2.2.2.1+1),s.2.2.2.2.2.1,s.2.2.2.2.2.2.1,aA .i64 ((aA .i64 (s.2.2.2.2.2.2.2.1+(aA .i64 a0.1)))+(aA .i64 a4.2)),a4.1))
  else
   bif s.2.2.2.2.1==1 then
    ((iE N) (aA .u64 s.2.2.1) (aA .u64 s.2.2.2.1)).bind fun a5=>
    bif decide (s.2.2.1<0) then
     bif decide (s.2.2.2.1<0) then
      (nZ s.2.2.2.2.2.2.2.2 a5.2 0).bind fun a6=>
      some (.next (s.1,s.2.1,s.2.2.1,s.2.2.2.1,aA .i64 (s.2.2.2.2.1+1),s.2.2.2.2.2.1,s.2.2.2.2.2.2.1,aA .i64 ((aA .i64 (s.2.2.2.2.2.2.2.1+(aA .i64 ((aA .i64 ((aA .i64 a5.1) -s.2.2.2.1)) -s.2.2.1))))+(aA .i64 a6.2)),a6.1))
     else
      (nZ s.2.2.2.2.2.2.2.2 a5.2 0).bind fun a7=>
      some (.next (s.1,s.2.1,s.2.2.1,s.2.2.2.1,aA .i64 (s.2.2.2.2.1+1),s.2.2.2.2.2.1,s.2.2.2.2.2.2.1,aA .i64 ((aA .i64 (s.2.2.2.2.2.2.2.1+(aA .i64 ((aA .i64 a5.1) -s.2.2.2.1))))+(aA .i64 a7.2)),a7.1))
    else
     bif decide (s.2.2.2.1<0) then
      (nZ s.2.2.2.2.2.2.2.2 a5.2 0).bind fun a8=>
      some (.next (s.1,s.2.1,s.2.2.1,s.2.2.2.1,aA .i64 (s.2.2.2.2.1+1),s.2.2.2.2.2.1,s.2.2.2.2.2.2.1,aA .i64 ((aA .i64 (s.2.2.2.2.2.2.2.1+(aA .i64 ((aA .i64 a5.1) -s.2.2.1))))+(aA .i64 a8.2)),a8.1))
     else
      (nZ s.2.2.2.2.2.2.2.2 a5.2 0).bind fun a9=>
      some (.next (s.1,s.2.1,s.2.2.1,s.2.2.2.1,aA .i64 (s.2.2.2.2.1+1),s.2.2.2.2.2.1,s.2.2.2.2.2.2.1,aA .i64 ((aA .i64 (s.2.2.2.2.2.2.2.1+(aA .i64 a5.1)))+(aA .i64 a9.2)),a9.1))
   else
    none
 else
  some (.done s.2.2.2.2.2.2.2)
def HF (N:Nat) (p0:Int×Int×Int×Int):Option (Int×Int):=
 (aO N) (JY N) (p0.1,p0.2.1,p0.2.2.1,p0.2.2.2,0,0,0,0,0)
def aSJ (N:Nat):aV:=⟨aC.one (aF.agg (bE.row aSv)),aF.agg (bE.row kiu),fun a=>(HF N) a,.pure,false⟩
theorem aIN (N:Nat):aB tab 390 (aSJ N):=aB.of aH8 (cx:=(aN (aK N) [(175,(aID N)),(412,aV.add64)] [] [] [])) rfl (aM.make ⟨(M5 N),ZZ,trivial⟩ trivial trivial) (fun a=>by kernel_rfl)
def oE (N:Nat) (p0:Int×Int×Int) (p1:Int×Int×Int) (p2:Int×Int):Option Int:=
 ((HF N) (aA .i64 (p0.2.1-p1.2.1),p2.2,aA .i64 (p0.2.2-p1.2.2),p2.1)).bind fun a0=>
 bif !((a0.1==0)&&(a0.2==0)) then
  bif decide (a0.1<0) then
   some (-1)
  else
   some 1
 else
  ((lC N) p0.2.2 p1.2.2).bind fun n1=>
  ((dU N) p1.1 p0.1).bind fun n2=>
  ((zB N) [n1,n2]).bind fun n3=>
  some n3
def aQ3 (N:Nat):aV:=⟨aC.cons (aF.agg (bE.row bO)) (aC.cons (aF.agg (bE.row bO)) (aC.one (aF.agg (bE.row cM)))),aF.int .i64,fun a=>(oE N) a.1 a.2.1 a.2.2,.pure,false⟩
theorem UW (N:Nat):aB tab 344 (aQ3 N):=aB.of aHG (cx:=(aN (aK N) [(390,(aSJ N)),(239,(aQ1 N)),(171,(PG N)),(342,(aQ2 N))] [] [] [])) rfl (aM.make ⟨(aIN N),(UU N),(sI N),(UV N),trivial⟩ trivial trivial) (fun a=>by kernel_rfl)
def DM (_:Nat) (p0:Bool×Int×Int) (p1:Int) (p2:Int):Option ((Int×Int)×Int):=
 bif decide (0<p0.2.1) then
  some ((0,0),16)
 else
  bif decide (9223372036854775807<p0.2.2) then
   some ((0,0),16)
  else
   bif decide (0<p1) then
    some ((0,0),16)
   else
    bif decide (9223372036854775807<p2) then
     some ((0,0),16)
    else
     bif p0.1 then
      some ((aA .i64 (0- (aA .i64 p0.2.2)),aA .i64 p2),0)
     else
      some ((aA .i64 p0.2.2,aA .i64 p2),0)
def aSK (N:Nat):aV:=⟨aC.cons (aF.agg (bE.row uP)) (aC.cons (aF.int .u64) (aC.one (aF.int .u64))),aF.tup (aC.cons (aF.agg (bE.row cM)) (aC.one (aF.int .i64))),fun a=>(DM N) a.1 a.2.1 a.2.2,.pure,false⟩
theorem aIO (N:Nat):aB tab 413 (aSK N):=aB.of aIo (cx:=(aN (aK N) [] [] [] [])) rfl (aM.make trivial trivial trivial) (fun a=>by kernel_rfl)
def HG (N:Nat) (p0:Int) (p1:Int):Option ((Int×Int)×Int):=
 bif p1==0 then
  some ((0,0),26)
 else
  ((jC N) p0).bind fun n0=>
  ((jC N) p1).bind fun n1=>
  ((CS N) n0 n1).bind fun n2=>
  ((jC N) p0).bind fun n3=>
  bif n2==0 then
   none
  else
   ((jC N) p1).bind fun n4=>
   bif n2==0 then
    none
   else
    ((DM N) (!((decide (p0<0))==(decide (p1<0))),0,aA .u64 (af n3 n2)) 0 (aA .u64 (af n4 n2))).bind fun a5=>
    some a5
def aSL (N:Nat):aV:=⟨aC.cons (aF.int .i64) (aC.one (aF.int .i64)),aF.tup (aC.cons (aF.agg (bE.row cM)) (aC.one (aF.int .i64))),fun a=>(HG N) a.1 a.2,.pure,false⟩
theorem aIP (N:Nat):aB tab 391 (aSL N):=aB.of aH9 (cx:=(aN (aK N) [(142,(Z2 N)),(141,(aQZ N)),(413,(aSK N))] [] [] [])) rfl (aM.make ⟨(E6 N),(US N),(aIO N),trivial⟩ trivial trivial) (fun a=>by kernel_rfl)
def DN (N:Nat) (p0:Int×Int×Int) (p1:Int×Int×Int):Option ((Int×Int)×Int):=
 ((sJ N) p0 p1 (0,1)).bind fun n0=>
 bif n0 !=0 then
  some ((0,0),n0)
 else
  bif p0.2.2==p1.2.2 then
   some ((0,0),6)
  else
   ((HG N) (aA .i64 (p0.2.1-p1.2.1)) (aA .i64 (p1.2.2-p0.2.2))).bind fun a1=>
   some a1
def aSM (N:Nat):aV:=⟨aC.cons (aF.agg (bE.row bO)) (aC.one (aF.agg (bE.row bO))),aF.tup (aC.cons (aF.agg (bE.row cM)) (aC.one (aF.int .i64))),fun a=>(DN N) a.1 a.2,.pure,false⟩
theorem aIQ (N:Nat):aB tab 345 (aSM N):=aB.of aHH (cx:=(aN (aK N) [(343,(aIM N)),(391,(aSL N))] [] [] [])) rfl (aM.make ⟨(M8 N),(aIP N),trivial⟩ trivial trivial) (fun a=>by kernel_rfl)
def AY (N:Nat) (p0:Int×Int×Int) (p1:Int×Int×Int) (p2:Int×Int):Option ((Int×Int)×Bool×Int):=
 ((sJ N) p0 p1 p2).bind fun n0=>
 bif n0 !=0 then
  some ((0,0),false,n0)
 else
  ((oE N) p1 p0 p2).bind fun n1=>
  bif decide (0<n1) then
   some (p2,true,0)
  else
   bif decide (p1.2.2<=p0.2.2) then
    some ((0,0),false,0)
   else
    ((DN N) p0 p1).bind fun a2=>
    some (a2.1,a2.2==0,a2.2)
def aSN (N:Nat):aV:=⟨aC.cons (aF.agg (bE.row bO)) (aC.cons (aF.agg (bE.row bO)) (aC.one (aF.agg (bE.row cM)))),aF.tup (aC.cons (aF.agg (bE.row cM)) (aC.cons aF.bool (aC.one (aF.int .i64)))),fun a=>(AY N) a.1 a.2.1 a.2.2,.pure,false⟩
theorem aIR (N:Nat):aB tab 260 (aSN N):=aB.of aG3 (cx:=(aN (aK N) [(343,(aIM N)),(344,(aQ3 N)),(345,(aSM N))] [] [] [])) rfl (aM.make ⟨(M8 N),(UW N),(aIQ N),trivial⟩ trivial trivial) (fun a=>by kernel_rfl)
def sK (N:Nat) (p0:Field) (p1:Int×Int) (p2:Int×Int):Option ((Int×Int)×Bool×Int):=
 ((iW N) p0 p1.2).bind fun a0=>
 ((iW N) p0 p1.1).bind fun a1=>
 ((AY N) a0 a1 p2).bind fun a2=>
 some a2
def aIS (N:Nat):aV:=⟨aC.cons (aF.agg aT) (aC.cons (aF.agg (bE.row cM)) (aC.one (aF.agg (bE.row cM)))),aF.tup (aC.cons (aF.agg (bE.row cM)) (aC.cons aF.bool (aC.one (aF.int .i64)))),fun a=>(sK N) a.1 a.2.1 a.2.2,.pure,false⟩
theorem M9 (N:Nat):aB tab 159 (aIS N):=aB.of aF1 (cx:=(aN (aK N) [(261,(aIL N)),(260,(aSN N))] [] [] [])) rfl (aM.make ⟨(M7 N),(aIR N),trivial⟩ trivial trivial) (fun a=>by kernel_rfl)
def HH (N:Nat) (s:((List (Int×Int×Int))×(List (Int×Int×Int))×Int×Int×Int×Int×(List (Int×Int×Int))×Int×(List (Int×Int×Int))×(List Int)×(List Bool)×(List Int)×(List (Int×Int×Int×Int×Int))×(List Int)×(List (Int×Int×Int)))):Option (aS ((List (Int×Int×Int))×(List (Int×Int×Int))×Int×Int×Int×Int×(List (Int×Int×Int))×Int×(List (Int×Int×Int))×(List Int)×(List Bool)×(List Int)×(List (Int×Int×Int×Int×Int))×(List Int)×(List (Int×Int×Int))) (aS (Int×Int×Int×Int×(List (Int×Int×Int))×Int×(List (Int×Int×Int))×(List Int)×(List Bool)×(List Int)×(List (Int×Int×Int×Int×Int))×(List Int)×(List (Int×Int×Int))×(List Int)) Int)):=
 bif decide (s.2.2.2.1<s.2.2.1) then
  (aL s.2.1 s.2.2.2.1).bind fun a0=>
  ((sK N) (Field.mk s.2.2.2.2.2.2.1) a0.2 (s.2.2.2.2.1,s.2.2.2.2.2.1)).bind fun a1=>
  bif a1.2.2 !=0 then
   some (.done (.done 8))
  else
   bif !a1.2.1 then
    some (.next (s.1,s.2.1,s.2.2.1,aA .i64 (s.2.2.2.1+1),s.2.2.2.2))
   else
    bif (aa s.1.length)==0 then
     some (.done (.done 8))
    else
     (aL s.1 0).bind fun a2=>
     bif a2.1 !=a0.1 then
      some (.done (.done 8))
     else
      (aL s.1 0).bind fun a3=>
      bif decide (a3.2.1<0) then
       some (.done (.done 8))
      else
       bif decide (200<=a3.2.1) then
        some (.done (.done 8))
       else
        (aL s.2.2.2.2.2.2.2.2.2.2.2.2.2.1 a3.2.1).bind fun n4=>
        bif decide (n4<0) then
         some (.done (.done 8))
        else
         (aL s.2.2.2.2.2.2.2.2.2.2.2.2.2.1 a3.2.1).bind fun n5=>
         (aL s.2.2.2.2.2.2.2.2.2.2.2.2.1 n5).bind fun a6=>
         bif !((a6.1==a1.1.1)&&((a6.2.1==a1.1.2)&&((a6.2.2.1==a0.1)&&((a6.2.2.2.1==a3.2.1)&&(a6.2.2.2.2==a3.2.2))))) then
          some (.done (.done 8))
         else
          (fI s.1 1 (aa s.1.length)).bind fun l7=>
          some (.next (l7,s.2.1,s.2.2.1,aA .i64 (s.2.2.2.1+1),s.2.2.2.2))
 else
  bif decide (0<(aa s.1.length)) then
   some (.done (.done 8))
  else
   some (.done (.done 0))
def HI (N:Nat) (s:(Int×Int×Int×Int×(List (Int×Int×Int))×Int×(List (Int×Int×Int))×(List Int)×(List Bool)×(List Int)×(List (Int×Int×Int×Int×Int))×(List Int)×(List (Int×Int×Int))×(List Int))):Option (aS (Int×Int×Int×Int×(List (Int×Int×Int))×Int×(List (Int×Int×Int))×(List Int)×(List Bool)×(List Int)×(List (Int×Int×Int×Int×Int))×(List Int)×(List (Int×Int×Int))×(List Int)) Int):=
 bif decide (s.2.1<s.1) then
  (aL s.2.2.2.2.2.2.2.2.2.2.2.2.2 s.2.1).bind fun n0=>
  bif n0 !=0 then
   some (.done 8)
  else
   some (.next (s.1,aA .i64 (s.2.1+1),s.2.2))
 else
  bif (aa s.2.2.2.2.2.2.2.2.2.2.2.1.length) !=200 then
   some (.done 8)
  else
   bif (aa s.2.2.2.2.2.2.2.2.2.2.1.length) !=(aa s.2.2.2.2.2.2.2.2.2.2.2.2.1.length) then
    some (.done 8)
   else
    (aO N) (HH N) (s.2.2.2.2.2.2.2.2.2.2.2.2.1,s.2.2.2.2.2.2.1,aa s.2.2.2.2.2.2.1.length,0,s.2.2.1,s.2.2.2.1,s.2.2.2.2.1,s.2.2.2.2.2.1,s.2.2.2.2.2.2.1,s.2.2.2.2.2.2.2.1,s.2.2.2.2.2.2.2.2.1,s.2.2.2.2.2.2.2.2.2.1,s.2.2.2.2.2.2.2.2.2.2.1,s.2.2.2.2.2.2.2.2.2.2.2.1,s.2.2.2.2.2.2.2.2.2.2.2.2.1)
def fC (N:Nat) (p0:aG):Option Int:=
 ((cB N) p0.now).bind fun n0=>
 ((fW N) p0.field).bind fun n1=>
 ((sG N) p0.certs).bind fun n2=>
 ((jE N) p0.agenda).bind fun n3=>
 (aO N) (HI N) (aa ([n0,n1,n2,n3].length),0,p0.now.1,p0.now.2,p0.field.points,p0.certs.next_,p0.certs.list,p0.agenda.slots.uses,p0.agenda.slots.used,p0.agenda.slots.free,p0.agenda.heap,p0.agenda.where_,p0.due,[n0,n1,n2,n3])
def c81 (N:Nat):aV:=⟨aC.one (aF.agg bB),aF.int .i64,fun a=>(fC N) a,.pure,false⟩
theorem sL (N:Nat):aB tab 81 (c81 N):=aB.of aQJ (cx:=(aN (aK N) [(70,(Q9 N)),(76,(c76 N)),(157,(aIx N)),(158,(W7 N)),(159,(aIS N))] [] [] [])) rfl (aM.make ⟨(kE N),(uQ N),(M3 N),(AX N),(M9 N),trivial⟩ trivial trivial) (fun a=>by kernel_rfl)
def wP (_:Nat) (s:((List Int)×Int×Int×Int)):Option (aS ((List Int)×Int×Int×Int) Int):=
 bif decide (s.2.2.2<s.2.2.1) then
  (aL s.1 s.2.2.2).bind fun n0=>
  bif s.2.1==n0 then
   some (.done s.2.2.2)
  else
   some (.next (s.1,s.2.1,s.2.2.1,aA .i64 (s.2.2.2+1)))
 else
  some (.done (-1))
def dF (N:Nat) (p0:List Int) (p1:Int):Option Int:=
 (aO N) (wP N) (p0,p1,aa p0.length,0)
def c35 (N:Nat):aV:=⟨aC.cons (aF.sl ki) (aC.one (aF.int .i64)),aF.int .i64,fun a=>(dF N) a.1 a.2,.pure,false⟩
theorem CT (N:Nat):aB tab 35 (c35 N):=aB.of aQf (cx:=(aN (aK N) [] [] [] [])) rfl (aM.make trivial trivial trivial) (fun a=>by kernel_rfl)
def nD (N:Nat) (p0:List Int) (p1:Int):Option Bool:=
 ((dF N) p0 p1).bind fun n0=>
 some (decide (0<=n0))
def aSO (N:Nat):aV:=⟨aC.cons (aF.sl ki) (aC.one (aF.int .i64)),aF.bool,fun a=>(nD N) a.1 a.2,.pure,false⟩
theorem aIT (N:Nat):aB tab 233 (aSO N):=aB.of aGF (cx:=(aN (aK N) [(35,(c35 N))] [] [] [])) rfl (aM.make ⟨(CT N),trivial⟩ trivial trivial) (fun a=>by kernel_rfl)
def HJ (_:Nat) (s:((List Int)×Int×(List (Int×Int)))):Option (aS ((List Int)×Int×(List (Int×Int))) (List (Int×Int))):=
 bif decide (s.2.1<(aa s.1.length)) then
  (aL s.1 s.2.1).bind fun n0=>
  (aL s.1 (aA .i64 (af (aA .i64 (s.2.1-1)) 2))).bind fun n1=>
  (aR s.2.2 [(n0,n1)]).bind fun l2=>
  some (.next (s.1,aA .i64 (s.2.1+1),l2))
 else
  some (.done s.2.2)
def uU (N:Nat) (p0:List Int):Option (List (Int×Int)):=
 (aO N) (HJ N) (p0,1,[])
def aQ5 (N:Nat):aV:=⟨aC.one (aF.sl ki),aF.sl cM,fun a=>(uU N) a,.frz,false⟩
theorem UX (N:Nat):aB tab 234 (aQ5 N):=aB.of aGG (cx:=(aN (aK N) [] [] [] [])) rfl (aM.make trivial trivial trivial) (fun a=>by kernel_rfl)
def uW (_:Nat) (s:((List (Int×Int))×Int×Int×Int×Int)):Option (aS ((List (Int×Int))×Int×Int×Int×Int) Int):=
 bif decide (s.2.2.1<s.2.1) then
  (aL s.1 s.2.2.1).bind fun a0=>
  bif (s.2.2.2.1==a0.1)&&(s.2.2.2.2==a0.2) then
   some (.done s.2.2.1)
  else
   some (.next (s.1,s.2.1,aA .i64 (s.2.2.1+1),s.2.2.2))
 else
  some (.done (-1))
def pJ (N:Nat) (p0:List (Int×Int)) (p1:Int×Int):Option Int:=
 (aO N) (uW N) (p0,aa p0.length,0,p1)
def aSP (N:Nat):aV:=⟨aC.cons (aF.sl cM) (aC.one (aF.agg (bE.row cM))),aF.int .i64,fun a=>(pJ N) a.1 a.2,.pure,false⟩
theorem aIU (N:Nat):aB tab 247 (aSP N):=aB.of aGR (cx:=(aN (aK N) [] [] [] [])) rfl (aM.make trivial trivial trivial) (fun a=>by kernel_rfl)
def cL (N:Nat) (p0:List (Int×Int)) (p1:Int×Int):Option Bool:=
 ((pJ N) p0 p1).bind fun n0=>
 some (decide (0<=n0))
def NA (N:Nat):aV:=⟨aC.cons (aF.sl cM) (aC.one (aF.agg (bE.row cM))),aF.bool,fun a=>(cL N) a.1 a.2,.pure,false⟩
theorem pK (N:Nat):aB tab 153 (NA N):=aB.of aFW (cx:=(aN (aK N) [(247,(aSP N))] [] [] [])) rfl (aM.make ⟨(aIU N),trivial⟩ trivial trivial) (fun a=>by kernel_rfl)
def sM (N:Nat) (p0:Int×Int×Int) (p1:Int):Option Int:=
 ((dU N) p0.1 p1).bind fun n0=>
 some n0
def aSQ (N:Nat):aV:=⟨aC.cons (aF.agg (bE.row bO)) (aC.one (aF.int .i64)),aF.int .i64,fun a=>(sM N) a.1 a.2,.pure,false⟩
theorem aIV (N:Nat):aB tab 170 (aSQ N):=aB.of aF5 (cx:=(aN (aK N) [(171,(PG N))] [] [] [])) rfl (aM.make ⟨(sI N),trivial⟩ trivial trivial) (fun a=>by kernel_rfl)
def fK (N:Nat) (s:((List (Int×Int×Int))×Int×Int×Int×Int)):Option (aS ((List (Int×Int×Int))×Int×Int×Int×Int) (Int×Bool)):=
 bif decide (s.2.2.2.1<s.2.2.2.2) then
  (aL s.1 (aA .i64 (hP .u64 (aA .u64 (aA .i64 (s.2.2.2.1+s.2.2.2.2))) 1))).bind fun a0=>
  ((sM N) a0 s.2.1).bind fun n1=>
  bif decide (n1<0) then
   some (.next (s.1,s.2.1,s.2.2.1,aA .i64 ((aA .i64 (hP .u64 (aA .u64 (aA .i64 (s.2.2.2.1+s.2.2.2.2))) 1))+1),s.2.2.2.2))
  else
   some (.next (s.1,s.2.1,s.2.2.1,s.2.2.2.1,aA .i64 (hP .u64 (aA .u64 (aA .i64 (s.2.2.2.1+s.2.2.2.2))) 1)))
 else
  bif decide (s.2.2.2.1<s.2.2.1) then
   (aL s.1 s.2.2.2.1).bind fun a2=>
   ((sM N) a2 s.2.1).bind fun n3=>
   some (.done (s.2.2.2.1,n3==0))
  else
   some (.done (s.2.2.2.1,false))
def cU (N:Nat) (p0:List (Int×Int×Int)) (p1:Int) (_:Unit):Option (Int×Bool):=
 (aO N) (fK N) (p0,p1,aa p0.length,0,aa p0.length)
def PJ (N:Nat):aV:=⟨aC.cons (aF.sl bO) (aC.cons (aF.int .i64) (aC.one (aF.clo 170 aC.nil))),aF.tup (aC.cons (aF.int .i64) (aC.one aF.bool)),fun a=>(cU N) a.1 a.2.1 a.2.2,.pure,false⟩
theorem PK (N:Nat):aB tab 169 (PJ N):=aB.of MQ (cx:=(aN (aK N) [(170,(aSQ N))] [] [] [])) rfl (aM.make ⟨(aIV N),trivial⟩ trivial trivial) (fun a=>by kernel_rfl)
def zC (N:Nat) (p0:Field) (p1:Int):Option (Int×Bool):=
 ((cU N) p0.points p1 ()).bind fun a0=>
 some a0
def c90 (N:Nat):aV:=⟨aC.cons (aF.agg aT) (aC.one (aF.int .i64)),aF.tup (aC.cons (aF.int .i64) (aC.one aF.bool)),fun a=>(zC N) a.1 a.2,.pure,false⟩
theorem Z3 (N:Nat):aB tab 90 (c90 N):=aB.of aQS (cx:=(aN (aK N) [(169,(PJ N))] [] [] [])) rfl (aM.make ⟨(PK N),trivial⟩ trivial trivial) (fun a=>by kernel_rfl)
def pL (N:Nat) (p0:Field) (p1:Int):Option (Int×Int):=
 ((fW N) p0).bind fun n0=>
 bif n0 !=0 then
  some (0,n0)
 else
  ((zC N) p0 p1).bind fun a1=>
  bif !a1.2 then
   some (0,6)
  else
   some (a1.1,0)
def c95 (N:Nat):aV:=⟨aC.cons (aF.agg aT) (aC.one (aF.int .i64)),aF.tup (aC.cons (aF.int .i64) (aC.one (aF.int .i64))),fun a=>(pL N) a.1 a.2,.pure,false⟩
theorem SS (N:Nat):aB tab 95 (c95 N):=aB.of aQX (cx:=(aN (aK N) [(76,(c76 N)),(90,(c90 N))] [] [] [])) rfl (aM.make ⟨(uQ N),(Z3 N),trivial⟩ trivial trivial) (fun a=>by kernel_rfl)
def cC (N:Nat) (p0:Field) (p1:Int):Option ((Int×Int×Int)×Int):=
 ((pL N) p0 p1).bind fun a0=>
 bif a0.2 !=0 then
  some ((0,0,0),a0.2)
 else
  (aL p0.points a0.1).bind fun a1=>
  some (a1,0)
def W8 (N:Nat):aV:=⟨aC.cons (aF.agg aT) (aC.one (aF.int .i64)),aF.tup (aC.cons (aF.agg (bE.row bO)) (aC.one (aF.int .i64))),fun a=>(cC N) a.1 a.2,.pure,false⟩
theorem AZ (N:Nat):aB tab 154 (W8 N):=aB.of aFX (cx:=(aN (aK N) [(95,(c95 N))] [] [] [])) rfl (aM.make ⟨(SS N),trivial⟩ trivial trivial) (fun a=>by kernel_rfl)
def cP (N:Nat) (p0:Int×Int×Int) (p1:Int×Int×Int) (p2:Int×Int):Option (Bool×Int):=
 ((sJ N) p0 p1 p2).bind fun n0=>
 bif n0 !=0 then
  some (false,n0)
 else
  ((oE N) p0 p1 p2).bind fun n1=>
  some (decide (0<n1),0)
def NB (N:Nat):aV:=⟨aC.cons (aF.agg (bE.row bO)) (aC.cons (aF.agg (bE.row bO)) (aC.one (aF.agg (bE.row cM)))),aF.tup (aC.cons aF.bool (aC.one (aF.int .i64))),fun a=>(cP N) a.1 a.2.1 a.2.2,.pure,false⟩
theorem pM (N:Nat):aB tab 281 (NB N):=aB.of aG8 (cx:=(aN (aK N) [(343,(aIM N)),(344,(aQ3 N))] [] [] [])) rfl (aM.make ⟨(M8 N),(UW N),trivial⟩ trivial trivial) (fun a=>by kernel_rfl)
def DO (N:Nat) (p0:Field) (p1:Int×Int) (p2:Int) (p3:Int):Option Bool:=
 ((cC N) p0 p2).bind fun a0=>
 ((cC N) p0 p3).bind fun a1=>
 ((cP N) a0.1 a1.1 p1).bind fun a2=>
 some a2.1
def aSR (N:Nat):aV:=⟨aC.cons (aF.agg aT) (aC.cons (aF.agg (bE.row cM)) (aC.cons (aF.int .i64) (aC.one (aF.int .i64)))),aF.bool,fun a=>(DO N) a.1 a.2.1 a.2.2.1 a.2.2.2,.pure,false⟩
theorem aIW (N:Nat):aB tab 235 (aSR N):=aB.of aGH (cx:=(aN (aK N) [(154,(W8 N)),(281,(NB N))] [] [] [])) rfl (aM.make ⟨(AZ N),(pM N),trivial⟩ trivial trivial) (fun a=>by kernel_rfl)
def HK (N:Nat) (s:((List (Int×Int))×(List (Int×Int×Int))×Int×Int×Int×Int×(List (Int×Int×Int))×Int×(List (Int×Int×Int))×(List Int)×(List Bool)×(List Int)×(List (Int×Int×Int×Int×Int))×(List Int)×(List (Int×Int×Int))×(List Int))):Option (aS ((List (Int×Int))×(List (Int×Int×Int))×Int×Int×Int×Int×(List (Int×Int×Int))×Int×(List (Int×Int×Int))×(List Int)×(List Bool)×(List Int)×(List (Int×Int×Int×Int×Int))×(List Int)×(List (Int×Int×Int))×(List Int)) (aS ((List (Int×Int×Int))×Int×Int×Int×Int×(List (Int×Int×Int))×Int×(List (Int×Int×Int))×(List Int)×(List Bool)×(List Int)×(List (Int×Int×Int×Int×Int))×(List Int)×(List (Int×Int×Int))×(List Int)) Int)):=
 bif decide (s.2.2.2.1<s.2.2.1) then
  (aL s.2.1 s.2.2.2.1).bind fun a0=>
  ((cL N) s.1 a0.2).bind fun b1=>
  bif !b1 then
   some (.done (.done 8))
  else
   ((DO N) (Field.mk s.2.2.2.2.2.2.1) (s.2.2.2.2.1,s.2.2.2.2.2.1) a0.2.2 a0.2.1).bind fun b2=>
   bif !b2 then
    some (.done (.done 8))
   else
    some (.next (s.1,s.2.1,s.2.2.1,aA .i64 (s.2.2.2.1+1),s.2.2.2.2))
 else
  some (.done (.done 0))
def HL (N:Nat) (s:((List (Int×Int×Int))×Int×Int×Int×Int×(List (Int×Int×Int))×Int×(List (Int×Int×Int))×(List Int)×(List Bool)×(List Int)×(List (Int×Int×Int×Int×Int))×(List Int)×(List (Int×Int×Int))×(List Int))):Option (aS ((List (Int×Int×Int))×Int×Int×Int×Int×(List (Int×Int×Int))×Int×(List (Int×Int×Int))×(List Int)×(List Bool)×(List Int)×(List (Int×Int×Int×Int×Int))×(List Int)×(List (Int×Int×Int))×(List Int)) Int):=
 bif decide (s.2.2.1<s.2.1) then
  (aL s.1 s.2.2.1).bind fun a0=>
  ((nD N) s.2.2.2.2.2.2.2.2.2.2.2.2.2.2 a0.1).bind fun b1=>
  bif !b1 then
   some (.done 8)
  else
   some (.next (s.1,s.2.1,aA .i64 (s.2.2.1+1),s.2.2.2))
 else
  ((uU N) s.2.2.2.2.2.2.2.2.2.2.2.2.2.2).bind fun l2=>
  bif (aa l2.length) !=(aa s.2.2.2.2.2.2.2.1.length) then
   some (.done 8)
  else
   (aO N) (HK N) (l2,s.2.2.2.2.2.2.2.1,aa s.2.2.2.2.2.2.2.1.length,0,s.2.2.2)
def kR (N:Nat) (p0:bH):Option Int:=
 ((fC N) p0.clock).bind fun n0=>
 bif n0 !=0 then
  some 8
 else
  bif (aa p0.heap.length) !=(aa p0.clock.field.points.length) then
   some 8
  else
   (aO N) (HL N) (p0.clock.field.points,aa p0.clock.field.points.length,0,p0.clock.now.1,p0.clock.now.2,p0.clock.field.points,p0.clock.certs.next_,p0.clock.certs.list,p0.clock.agenda.slots.uses,p0.clock.agenda.slots.used,p0.clock.agenda.slots.free,p0.clock.agenda.heap,p0.clock.agenda.where_,p0.clock.due,p0.heap)
def W9 (N:Nat):aV:=⟨aC.one (aF.agg fV),aF.int .i64,fun a=>(kR N) a,.pure,false⟩
theorem A0 (N:Nat):aB tab 138 (W9 N):=aB.of aFJ (cx:=(aN (aK N) [(81,(c81 N)),(233,(aSO N)),(234,(aQ5 N)),(153,(NA N)),(235,(aSR N))] [] [] [])) rfl (aM.make ⟨(sL N),(aIT N),(UX N),(pK N),(aIW N),trivial⟩ trivial trivial) (fun a=>by kernel_rfl)
def tK (_:Nat) (p0:Int):Option Bool:=
 bif decide ((-1)<=p0) then
  some (decide (p0<=65535))
 else
  some false
def aSS (N:Nat):aV:=⟨aC.one (aF.int .i64),aF.bool,fun a=>(tK N) a,.pure,false⟩
theorem aIX (N:Nat):aB tab 162 (aSS N):=aB.of aF2 (cx:=(aN (aK N) [] [] [] [])) rfl (aM.make trivial trivial trivial) (fun a=>by kernel_rfl)
def hU (_:Nat) (p0:aQ) (p1:Int):Option Int:=
 bif decide (0<=(aA .i64 (p1- (aa p0.wins.length)))) then
  (aL p0.places (aA .i64 (p1- (aa p0.wins.length)))).bind fun n0=>
  some n0
 else
  (aL p0.wins p1).bind fun n1=>
  some n1
def aQ6 (N:Nat):aV:=⟨aC.cons (aF.agg fD) (aC.one (aF.int .i64)),aF.int .i64,fun a=>(hU N) a.1 a.2,.pure,false⟩
theorem UY (N:Nat):aB tab 163 (aQ6 N):=aB.of aF3 (cx:=(aN (aK N) [] [] [] [])) rfl (aM.make trivial trivial trivial) (fun a=>by kernel_rfl)
def qX (N:Nat) (s:((List Int)×Int×Int×(List Int)×(List Int))):Option (aS ((List Int)×Int×Int×(List Int)×(List Int)) (aS ((List Int)×Int×Int×(List Int)×(List Int)×(List (Int×Bool))) (aS ((List Int)×Int×Int×(List Int)×(List Int)×(List (Int×Bool))) Int))):=
 bif decide (s.2.2.1<s.2.1) then
  (aL s.1 s.2.2.1).bind fun n0=>
  ((hU N) (aQ.mk s.2.2.2.1 s.2.2.2.2) (aA .i64 ((aA .i64 (2*s.2.2.1))+1))).bind fun n1=>
  ((hU N) (aQ.mk s.2.2.2.1 s.2.2.2.2) (aA .i64 ((aA .i64 (2*s.2.2.1))+2))).bind fun n2=>
  bif n0 !=n1 then
   bif n0 !=n2 then
    some (.done (.done (.done 8)))
   else
    bif decide (n0<0) then
     bif decide (0<=(if n2>n1 then n2 else n1)) then
      some (.done (.done (.done 8)))
     else
      some (.next (s.1,s.2.1,aA .i64 (s.2.2.1+1),s.2.2.2))
    else
     some (.next (s.1,s.2.1,aA .i64 (s.2.2.1+1),s.2.2.2))
  else
   bif decide (n0<0) then
    bif decide (0<=(if n2>n1 then n2 else n1)) then
     some (.done (.done (.done 8)))
    else
     some (.next (s.1,s.2.1,aA .i64 (s.2.2.1+1),s.2.2.2))
   else
    some (.next (s.1,s.2.1,aA .i64 (s.2.2.1+1),s.2.2.2))
 else
  some (.done (.done (.done 0)))
def qY (N:Nat) (s:((List Int)×Int×Int×(List Int)×(List Int)×(List (Int×Bool)))):Option (aS ((List Int)×Int×Int×(List Int)×(List Int)×(List (Int×Bool))) (aS ((List Int)×Int×Int×(List Int)×(List Int)×(List (Int×Bool))) Int)):=
 bif decide (s.2.2.1<s.2.1) then
  (aL s.1 s.2.2.1).bind fun n0=>
  ((tK N) n0).bind fun b1=>
  bif !b1 then
   bif !(!(decide (0<=s.2.2.1))) then
    some (.done (.done 8))
   else
    (aO N) (qX N) (s.2.2.2.2.1,aa s.2.2.2.2.1.length,0,s.2.2.2.1,s.2.2.2.2.1)
  else
   some (.next (s.1,s.2.1,aA .i64 (s.2.2.1+1),s.2.2.2))
 else
  (aO N) (qX N) (s.2.2.2.2.1,aa s.2.2.2.2.1.length,0,s.2.2.2.1,s.2.2.2.2.1)
def CU (N:Nat) (s:((List Int)×Int×Int×(List Int)×(List Int)×(List (Int×Bool)))):Option (aS ((List Int)×Int×Int×(List Int)×(List Int)×(List (Int×Bool))) Int):=
 bif decide (s.2.2.1<s.2.1) then
  (aL s.1 s.2.2.1).bind fun n0=>
  bif !(!(qS false s.2.2.2.2.2 n0)) then
   bif !(!(decide (0<=s.2.2.1))) then
    some (.done 8)
   else
    (aO N) (qY N) (s.2.2.2.1,aa s.2.2.2.1.length,0,s.2.2.2.1,s.2.2.2.2.1,nW s.2.2.2.2.2 n0 (decide (0<=n0)))
  else
   some (.next (s.1,s.2.1,aA .i64 (s.2.2.1+1),s.2.2.2.1,s.2.2.2.2.1,nW s.2.2.2.2.2 n0 (decide (0<=n0))))
 else
  (aO N) (qY N) (s.2.2.2.1,aa s.2.2.2.1.length,0,s.2.2.2)
def xJ (N:Nat) (p0:aQ):Option Int:=
 bif decide ((aa p0.places.length)<1) then
  some 8
 else
  bif decide (64<(aa p0.places.length)) then
   some 8
  else
   bif (aa p0.wins.length) !=(aA .i64 ((aa p0.places.length) -1)) then
    some 8
   else
    (aO N) (CU N) (p0.places,aa p0.places.length,0,p0.places,p0.wins,nW [] (-1) false)
def c82 (N:Nat):aV:=⟨aC.one (aF.agg fD),aF.int .i64,fun a=>(xJ N) a,.pure,false⟩
theorem aQ7 (N:Nat):aB tab 82 (c82 N):=aB.of aQK (cx:=(aN (aK N) [(162,(aSS N)),(163,(aQ6 N))] [] [(160,ZO),(161,WW),(263,SP),(97,x97),(264,WX),(262,ZP)] [])) rfl (aM.make ⟨(aIX N),(UY N),trivial⟩ trivial ⟨T4,MP,E4,CP,MR,UD,trivial⟩) (fun a=>by kernel_rfl)
def uX (_:Nat) (p0:Int) (p1:Int×Int×Int):Option Bool:=
 some (p0==p1.1)
def c86 (N:Nat):aV:=⟨aC.cons (aF.int .i64) (aC.one (aF.agg (bE.row bO))),aF.bool,fun a=>(uX N) a.1 a.2,.pure,false⟩
theorem aQ8 (N:Nat):aB tab 86 (c86 N):=aB.of aQO (cx:=(aN (aK N) [] [] [] [])) rfl (aM.make trivial trivial trivial) (fun a=>by kernel_rfl)
def gH (N:Nat) (s:((List (Int×Int×Int))×(List Int)×Int×Int)):Option (aS ((List (Int×Int×Int))×(List Int)×Int×Int) Bool):=
 bif decide (s.2.2.2<s.2.2.1) then
  (aL s.2.1 s.2.2.2).bind fun n0=>
  (aL s.1 s.2.2.2).bind fun a1=>
  ((uX N) n0 a1).bind fun b2=>
  bif !b2 then
   some (.done false)
  else
   some (.next (s.1,s.2.1,s.2.2.1,aA .i64 (s.2.2.2+1)))
 else
  some (.done true)
def dQ (N:Nat) (p0:List Int) (p1:List (Int×Int×Int)) (_:Unit):Option Bool:=
 bif (aa p0.length) !=(aa p1.length) then
  some false
 else
  (aO N) (gH N) (p1,p0,aa p0.length,0)
def Z4 (N:Nat):aV:=⟨aC.cons (aF.sl ki) (aC.cons (aF.sl bO) (aC.one (aF.clo 86 aC.nil))),aF.bool,fun a=>(dQ N) a.1 a.2.1 a.2.2,.pure,false⟩
theorem XA (N:Nat):aB tab 85 (Z4 N):=aB.of aQN (cx:=(aN (aK N) [(86,(c86 N))] [] [] [])) rfl (aM.make ⟨(aQ8 N),trivial⟩ trivial trivial) (fun a=>by kernel_rfl)
def xK (N:Nat) (p0:Field) (p1:Int×Int):Option Int:=
 ((fW N) p0).bind fun n0=>
 bif n0 !=0 then
  some n0
 else
  ((cB N) p1).bind fun n1=>
  some n1
def aST (N:Nat):aV:=⟨aC.cons (aF.agg aT) (aC.one (aF.agg (bE.row cM))),aF.int .i64,fun a=>(xK N) a.1 a.2,.pure,false⟩
theorem aIY (N:Nat):aB tab 176 (aST N):=aB.of aF9 (cx:=(aN (aK N) [(76,(c76 N)),(70,(Q9 N))] [] [] [])) rfl (aM.make ⟨(uQ N),(kE N),trivial⟩ trivial trivial) (fun a=>by kernel_rfl)
def oF (N:Nat) (p0:Int×Int×Int) (p1:Int):Option Int:=
 ((dU N) p0.1 p1).bind fun n0=>
 some n0
def aSU (N:Nat):aV:=⟨aC.cons (aF.agg (bE.row bO)) (aC.one (aF.int .i64)),aF.int .i64,fun a=>(oF N) a.1 a.2,.pure,false⟩
theorem aIZ (N:Nat):aB tab 353 (aSU N):=aB.of aHJ (cx:=(aN (aK N) [(171,(PG N))] [] [] [])) rfl (aM.make ⟨(sI N),trivial⟩ trivial trivial) (fun a=>by kernel_rfl)
def fA (N:Nat) (s:((List (Int×Int×Int))×Int×Int×Int×Int)):Option (aS ((List (Int×Int×Int))×Int×Int×Int×Int) (Int×Bool)):=
 bif decide (s.2.2.2.1<s.2.2.2.2) then
  (aL s.1 (aA .i64 (hP .u64 (aA .u64 (aA .i64 (s.2.2.2.1+s.2.2.2.2))) 1))).bind fun a0=>
  ((oF N) a0 s.2.1).bind fun n1=>
  bif decide (n1<0) then
   some (.next (s.1,s.2.1,s.2.2.1,aA .i64 ((aA .i64 (hP .u64 (aA .u64 (aA .i64 (s.2.2.2.1+s.2.2.2.2))) 1))+1),s.2.2.2.2))
  else
   some (.next (s.1,s.2.1,s.2.2.1,s.2.2.2.1,aA .i64 (hP .u64 (aA .u64 (aA .i64 (s.2.2.2.1+s.2.2.2.2))) 1)))
 else
  bif decide (s.2.2.2.1<s.2.2.1) then
   (aL s.1 s.2.2.2.1).bind fun a2=>
   ((oF N) a2 s.2.1).bind fun n3=>
   some (.done (s.2.2.2.1,n3==0))
  else
   some (.done (s.2.2.2.1,false))
def cO (N:Nat) (p0:List (Int×Int×Int)) (p1:Int) (_:Unit):Option (Int×Bool):=
 (aO N) (fA N) (p0,p1,aa p0.length,0,aa p0.length)
def PL (N:Nat):aV:=⟨aC.cons (aF.sl bO) (aC.cons (aF.int .i64) (aC.one (aF.clo 353 aC.nil))),aF.tup (aC.cons (aF.int .i64) (aC.one aF.bool)),fun a=>(cO N) a.1 a.2.1 a.2.2,.pure,false⟩
theorem PM (N:Nat):aB tab 169 (PL N):=aB.of MQ (cx:=(aN (aK N) [(353,(aSU N))] [] [] [])) rfl (aM.make ⟨(aIZ N),trivial⟩ trivial trivial) (fun a=>by kernel_rfl)
def nP (N:Nat) (p0:Field) (p1:Int):Option (Int×Bool):=
 ((cO N) p0.points p1 ()).bind fun a0=>
 some a0
def aQ9 (N:Nat):aV:=⟨aC.cons (aF.agg aT) (aC.one (aF.int .i64)),aF.tup (aC.cons (aF.int .i64) (aC.one aF.bool)),fun a=>(nP N) a.1 a.2,.pure,false⟩
theorem UZ (N:Nat):aB tab 280 (aQ9 N):=aB.of aG7 (cx:=(aN (aK N) [(169,(PL N))] [] [] [])) rfl (aM.make ⟨(PM N),trivial⟩ trivial trivial) (fun a=>by kernel_rfl)
def CV (N:Nat) (s:((List Int)×Int×Int×(List (Int×Int×Int)))):Option (aS ((List Int)×Int×Int×(List (Int×Int×Int))) Bool):=
 bif decide (s.2.2.1<s.2.1) then
  (aL s.1 s.2.2.1).bind fun n0=>
  ((nP N) (Field.mk s.2.2.2) n0).bind fun a1=>
  bif a1.2 then
   some (.next (s.1,s.2.1,aA .i64 (s.2.2.1+1),s.2.2.2))
  else
   bif !(n0==(-1)) then
    some (.done (!(decide (0<=s.2.2.1))))
   else
    some (.next (s.1,s.2.1,aA .i64 (s.2.2.1+1),s.2.2.2))
 else
  some (.done (!(decide (0<=(-1)))))
def xL (N:Nat) (p0:Field) (p1:List Int):Option Bool:=
 (aO N) (CV N) (p1,aa p1.length,0,p0.points)
def aSV (N:Nat):aV:=⟨aC.cons (aF.agg aT) (aC.one (aF.sl ki)),aF.bool,fun a=>(xL N) a.1 a.2,.pure,false⟩
theorem aI0 (N:Nat):aB tab 177 (aSV N):=aB.of aGa (cx:=(aN (aK N) [(280,(aQ9 N))] [] [(161,WW),(263,SP),(97,x97),(264,WX),(279,aDl)] [])) rfl (aM.make ⟨(UZ N),trivial⟩ trivial ⟨MP,E4,CP,MR,aG6,trivial⟩) (fun a=>by kernel_rfl)
def uY (N:Nat) (p0:Field) (p1:Int×Int) (p2:Int) (p3:Int):Option Int:=
 bif decide ((if p3<p2 then p3 else p2)<0) then
  some (if p3>p2 then p3 else p2)
 else
  ((nP N) p0 p2).bind fun a0=>
  ((nP N) p0 p3).bind fun a1=>
  (aL p0.points a0.1).bind fun a2=>
  (aL p0.points a1.1).bind fun a3=>
  ((cP N) a2 a3 p1).bind fun a4=>
  bif a4.1 then
   some p2
  else
   some p3
def aSW (N:Nat):aV:=⟨aC.cons (aF.agg aT) (aC.cons (aF.agg (bE.row cM)) (aC.cons (aF.int .i64) (aC.one (aF.int .i64)))),aF.int .i64,fun a=>(uY N) a.1 a.2.1 a.2.2.1 a.2.2.2,.pure,false⟩
theorem aI1 (N:Nat):aB tab 178 (aSW N):=aB.of aGb (cx:=(aN (aK N) [(280,(aQ9 N)),(281,(NB N))] [] [] [])) rfl (aM.make ⟨(UZ N),(pM N),trivial⟩ trivial trivial) (fun a=>by kernel_rfl)
def CW (N:Nat) (s:(Int×(List (Int×Int×Int))×Int×Int×(List Int)×(List Int))):Option (aS (Int×(List (Int×Int×Int))×Int×Int×(List Int)×(List Int)) (aQ×Int)):=
 bif decide (0<=s.1) then
  ((hU N) (aQ.mk s.2.2.2.2.1 s.2.2.2.2.2) (aA .i64 ((aA .i64 (2*s.1))+1))).bind fun n0=>
  ((hU N) (aQ.mk s.2.2.2.2.1 s.2.2.2.2.2) (aA .i64 ((aA .i64 (2*s.1))+2))).bind fun n1=>
  ((uY N) (Field.mk s.2.1) (s.2.2.1,s.2.2.2.1) n0 n1).bind fun n2=>
  (aL s.2.2.2.2.2 s.1).bind fun _=>
  some (.next (aA .i64 (s.1-1),s.2.1,s.2.2.1,s.2.2.2.1,s.2.2.2.2.1,aZ s.2.2.2.2.2 s.1 n2))
 else
  some (.done (aQ.mk s.2.2.2.2.1 s.2.2.2.2.2,0))
def qZ (N:Nat) (s:(Int×(List (Int×Int×Int))×Int×Int×(List Int)×(List Int))):Option (aS (Int×(List (Int×Int×Int))×Int×Int×(List Int)×(List Int)) (aS ((List Int)×Int×Int×(List (Int×Int×Int))×Int×Int×(List (Int×Bool))) (aQ×Int))):=
 bif decide (0<=s.1) then
  ((hU N) (aQ.mk s.2.2.2.2.1 s.2.2.2.2.2) (aA .i64 ((aA .i64 (2*s.1))+1))).bind fun n0=>
  ((hU N) (aQ.mk s.2.2.2.2.1 s.2.2.2.2.2) (aA .i64 ((aA .i64 (2*s.1))+2))).bind fun n1=>
  ((uY N) (Field.mk s.2.1) (s.2.2.1,s.2.2.2.1) n0 n1).bind fun n2=>
  (aL s.2.2.2.2.2 s.1).bind fun _=>
  some (.next (aA .i64 (s.1-1),s.2.1,s.2.2.1,s.2.2.2.1,s.2.2.2.2.1,aZ s.2.2.2.2.2 s.1 n2))
 else
  some (.done (.done (aQ.mk s.2.2.2.2.1 s.2.2.2.2.2,0)))
def CX (N:Nat) (c0:Int) (c1:(List Int)) (s:((List Int)×Int×Int×(List (Int×Int×Int))×Int×Int×(List (Int×Bool)))):Option (aS ((List Int)×Int×Int×(List (Int×Int×Int))×Int×Int×(List (Int×Bool))) (aQ×Int)):=
 bif decide (s.2.2.1<s.2.1) then
  (aL s.1 s.2.2.1).bind fun n0=>
  bif !(!(qS false s.2.2.2.2.2.2 n0)) then
   bif !(!(decide (0<=s.2.2.1))) then
    some (.done (aQ.mk [] [],14))
   else
    bif c0 !=0 then
     some (.done (aQ.mk [] [],c0))
    else
     (bG c1).bind fun l1=>
     bif (aA .i64 ((aa c1.length) -1))==(aA .i64 ((aa c1.length) -1)) then
      (jL (aA .i64 ((aa c1.length) -1)) (0:Int)).bind fun l2=>
      (aO N) (qZ N) (aA .i64 ((aa l2.length) -1),s.2.2.2.1,s.2.2.2.2.1,s.2.2.2.2.2.1,l1,l2)
     else
      none
  else
   some (.next (s.1,s.2.1,aA .i64 (s.2.2.1+1),s.2.2.2.1,s.2.2.2.2.1,s.2.2.2.2.2.1,nW s.2.2.2.2.2.2 n0 (decide (0<=n0))))
 else
  bif c0 !=0 then
   some (.done (aQ.mk [] [],c0))
  else
   (bG c1).bind fun l3=>
   bif (aA .i64 ((aa c1.length) -1))==(aA .i64 ((aa c1.length) -1)) then
    (jL (aA .i64 ((aa c1.length) -1)) (0:Int)).bind fun l4=>
    (aO N) (qZ N) (aA .i64 ((aa l4.length) -1),s.2.2.2.1,s.2.2.2.2.1,s.2.2.2.2.2.1,l3,l4)
   else
    none
def qE (N:Nat) (p0:Field) (p1:Int×Int) (p2:List Int):Option (aQ×Int):=
 ((xK N) p0 p1).bind fun n0=>
 bif n0 !=0 then
  bif n0 !=0 then
   some (aQ.mk [] [],n0)
  else
   (bG p2).bind fun l1=>
   bif (aA .i64 ((aa p2.length) -1))==(aA .i64 ((aa p2.length) -1)) then
    (jL (aA .i64 ((aa p2.length) -1)) (0:Int)).bind fun l2=>
    (aO N) (CW N) (aA .i64 ((aa l2.length) -1),p0.points,p1.1,p1.2,l1,l2)
   else
    none
 else
  bif decide ((aa p2.length)<1) then
   some (aQ.mk [] [],2)
  else
   bif decide (64<(aa p2.length)) then
    some (aQ.mk [] [],2)
   else
    ((xL N) p0 p2).bind fun b3=>
    bif !b3 then
     some (aQ.mk [] [],6)
    else
     (aO N) ((CX N) n0 p2) (p2,aa p2.length,0,p0.points,p1.1,p1.2,nW [] (-1) false)
def c93 (N:Nat):aV:=⟨aC.cons (aF.agg aT) (aC.cons (aF.agg (bE.row cM)) (aC.one (aF.sl ki))),aF.tup (aC.cons (aF.agg fD) (aC.one (aF.int .i64))),fun a=>(qE N) a.1 a.2.1 a.2.2,.frz,false⟩
theorem Z5 (N:Nat):aB tab 93 (c93 N):=aB.of aQV (cx:=(aN (aK N) [(176,(aST N)),(177,(aSV N)),(34,aV.clone ki),(163,(aQ6 N)),(178,(aSW N))] [] [(160,ZO),(161,WW),(263,SP),(97,x97),(264,WX),(262,ZP)] [])) rfl (aM.make ⟨(aIY N),(aI0 N),fM,(UY N),(aI1 N),trivial⟩ trivial ⟨T4,MP,E4,CP,MR,UD,trivial⟩) (fun a=>by kernel_rfl)
def JZ (_:Nat) (p0:Int) (p1:aQ):Option Int:=
 bif decide (p0<(aa p1.wins.length)) then
  (aL p1.wins p0).bind fun n0=>
  some n0
 else
  (aL p1.places (aA .i64 (p0- (aa p1.wins.length)))).bind fun n1=>
  some n1
def aSX (N:Nat):aV:=⟨aC.cons (aF.int .i64) (aC.one (aF.ref fD)),aF.int .i64,fun a=>(JZ N) a.1 a.2,.pure,false⟩
theorem aI2 (N:Nat):aB tab 152 (aSX N):=aB.of T2 (cx:=(aN (aK N) [] [] [] [])) rfl (aM.make trivial trivial trivial) (fun a=>by kernel_rfl)
def HM (_:Nat) (s:((List Int)×Int×Int×(List Int)×(List Int)×(List (Int×Int)))):Option (aS ((List Int)×Int×Int×(List Int)×(List Int)×(List (Int×Int))) (aQ×(List (Int×Int)))):=
 bif decide (s.2.2.1<s.2.1) then
  (aL s.1 s.2.2.1).bind fun n0=>
  bif decide ((aA .i64 ((aA .i64 (2*s.2.2.1))+1))<(aa s.2.2.2.2.1.length)) then
   (aL s.2.2.2.2.1 (aA .i64 ((aA .i64 (2*s.2.2.1))+1))).bind fun n1=>
   bif s.2.2.2.2.2.length==s.2.2.2.2.2.length then
    bif decide ((aA .i64 ((aA .i64 (2*s.2.2.1))+2))<(aa s.2.2.2.2.1.length)) then
     (aL s.2.2.2.2.1 (aA .i64 ((aA .i64 (2*s.2.2.1))+2))).bind fun n2=>
     bif s.2.2.2.2.2.length==s.2.2.2.2.2.length then
      bif decide (0<=n1) then
       bif decide (0<=n2) then
        (aR s.2.2.2.2.2 [(aA .i64 ((aA .i64 (n1+n2)) -n0),n0)]).bind fun l3=>
        some (.next (s.1,s.2.1,aA .i64 (s.2.2.1+1),s.2.2.2.1,s.2.2.2.2.1,l3))
       else
        some (.next (s.1,s.2.1,aA .i64 (s.2.2.1+1),s.2.2.2))
      else
       some (.next (s.1,s.2.1,aA .i64 (s.2.2.1+1),s.2.2.2))
     else
      none
    else
     (aL s.2.2.2.1 (aA .i64 ((aA .i64 ((aA .i64 (2*s.2.2.1))+2)) - (aa s.2.2.2.2.1.length)))).bind fun n4=>
     bif s.2.2.2.2.2.length==s.2.2.2.2.2.length then
      bif decide (0<=n1) then
       bif decide (0<=n4) then
        (aR s.2.2.2.2.2 [(aA .i64 ((aA .i64 (n1+n4)) -n0),n0)]).bind fun l5=>
        some (.next (s.1,s.2.1,aA .i64 (s.2.2.1+1),s.2.2.2.1,s.2.2.2.2.1,l5))
       else
        some (.next (s.1,s.2.1,aA .i64 (s.2.2.1+1),s.2.2.2))
      else
       some (.next (s.1,s.2.1,aA .i64 (s.2.2.1+1),s.2.2.2))
     else
      none
   else
    none
  else
   (aL s.2.2.2.1 (aA .i64 ((aA .i64 ((aA .i64 (2*s.2.2.1))+1)) - (aa s.2.2.2.2.1.length)))).bind fun n6=>
   bif s.2.2.2.2.2.length==s.2.2.2.2.2.length then
    bif decide ((aA .i64 ((aA .i64 (2*s.2.2.1))+2))<(aa s.2.2.2.2.1.length)) then
     (aL s.2.2.2.2.1 (aA .i64 ((aA .i64 (2*s.2.2.1))+2))).bind fun n7=>
     bif s.2.2.2.2.2.length==s.2.2.2.2.2.length then
      bif decide (0<=n6) then
       bif decide (0<=n7) then
        (aR s.2.2.2.2.2 [(aA .i64 ((aA .i64 (n6+n7)) -n0),n0)]).bind fun l8=>
        some (.next (s.1,s.2.1,aA .i64 (s.2.2.1+1),s.2.2.2.1,s.2.2.2.2.1,l8))
       else
        some (.next (s.1,s.2.1,aA .i64 (s.2.2.1+1),s.2.2.2))
      else
       some (.next (s.1,s.2.1,aA .i64 (s.2.2.1+1),s.2.2.2))
     else
      none
    else
     (aL s.2.2.2.1 (aA .i64 ((aA .i64 ((aA .i64 (2*s.2.2.1))+2)) - (aa s.2.2.2.2.1.length)))).bind fun n9=>
     bif s.2.2.2.2.2.length==s.2.2.2.2.2.length then
      bif decide (0<=n6) then
       bif decide (0<=n9) then
        (aR s.2.2.2.2.2 [(aA .i64 ((aA .i64 (n6+n9)) -n0),n0)]).bind fun l10=>
        some (.next (s.1,s.2.1,aA .i64 (s.2.2.1+1),s.2.2.2.1,s.2.2.2.2.1,l10))
       else
        some (.next (s.1,s.2.1,aA .i64 (s.2.2.1+1),s.2.2.2))
      else
       some (.next (s.1,s.2.1,aA .i64 (s.2.2.1+1),s.2.2.2))
     else
      none
   else
    none
 else
  some (.done (aQ.mk s.2.2.2.1 s.2.2.2.2.1,s.2.2.2.2.2))
def pN (N:Nat) (p0:Field) (p1:Int×Int) (p2:List Int):Option (aQ×(List (Int×Int))):=
 ((qE N) p0 p1 p2).bind fun a0=>
 (aO N) (HM N) (a0.1.wins,aa a0.1.wins.length,0,a0.1.places,a0.1.wins,[])
def c79 (N:Nat):aV:=⟨aC.cons (aF.agg aT) (aC.cons (aF.agg (bE.row cM)) (aC.one (aF.sl ki))),aF.tup (aC.cons (aF.agg fD) (aC.one (aF.sl cM))),fun a=>(pN N) a.1 a.2.1 a.2.2,.frz,false⟩
theorem ST (N:Nat):aB tab 79 (c79 N):=aB.of aQH (cx:=(aN (aK N) [(93,(c93 N)),(152,(aSX N))] [] [(152,aBV)] [])) rfl (aM.make ⟨(Z5 N),(aI2 N),trivial⟩ trivial ⟨T2,trivial⟩) (fun a=>by kernel_rfl)
def wQ (_:Nat) (s:((List Int)×(List Int)×Int×Int)):Option (aS ((List Int)×(List Int)×Int×Int) Bool):=
 bif decide (s.2.2.2<s.2.2.1) then
  (aL s.1 s.2.2.2).bind fun n0=>
  (aL s.2.1 s.2.2.2).bind fun n1=>
  bif n0 !=n1 then
   some (.done false)
  else
   some (.next (s.1,s.2.1,s.2.2.1,aA .i64 (s.2.2.2+1)))
 else
  some (.done true)
def lV (N:Nat) (p0:List Int) (p1:List Int):Option Bool:=
 bif (aa p0.length) !=(aa p1.length) then
  some false
 else
  (aO N) (wQ N) (p0,p1,aa p0.length,0)
def c87 (N:Nat):aV:=⟨aC.cons (aF.sl ki) (aC.one (aF.sl ki)),aF.bool,fun a=>(lV N) a.1 a.2,.pure,false⟩
theorem Z6 (N:Nat):aB tab 87 (c87 N):=aB.of aQP (cx:=(aN (aK N) [] [] [] [])) rfl (aM.make trivial trivial trivial) (fun a=>by kernel_rfl)
def xM (N:Nat) (p0:Int×Int×Int) (p1:List (Int×Int)):Option Bool:=
 ((cL N) p1 p0.2).bind fun b0=>
 some (!b0)
def aSY (N:Nat):aV:=⟨aC.cons (aF.agg (bE.row bO)) (aC.one (aF.ref (bE.sl cM))),aF.bool,fun a=>(xM N) a.1 a.2,.pure,false⟩
theorem aI3 (N:Nat):aB tab 166 (aSY N):=aB.of T5 (cx:=(aN (aK N) [(153,(NA N))] [] [] [])) rfl (aM.make ⟨(pK N),trivial⟩ trivial trivial) (fun a=>by kernel_rfl)
def iO (N:Nat) (s:((List (Int×Int×Int))×(List (Int×Int))×Int×Int)):Option (aS ((List (Int×Int×Int))×(List (Int×Int))×Int×Int) Int):=
 bif decide (s.2.2.2<s.2.2.1) then
  (aL s.1 s.2.2.2).bind fun a0=>
  ((xM N) a0 s.2.1).bind fun b1=>
  bif b1 then
   some (.done s.2.2.2)
  else
   some (.next (s.1,s.2.1,s.2.2.1,aA .i64 (s.2.2.2+1)))
 else
  some (.done (-1))
def eS (N:Nat) (p0:List (Int×Int×Int)) (p1:(List (Int×Int))):Option Int:=
 (aO N) (iO N) (p0,p1,aa p0.length,0)
def PN (N:Nat):aV:=⟨aC.cons (aF.sl bO) (aC.one (aF.clo 166 (aC.one (aF.ref (bE.sl cM))))),aF.int .i64,fun a=>(eS N) a.1 a.2,.pure,false⟩
theorem PO (N:Nat):aB tab 276 (PN N):=aB.of E5 (cx:=(aN (aK N) [(166,(aSY N)),(153,(NA N))] [] [(166,aB8)] [])) rfl (aM.make ⟨(aI3 N),(pK N),trivial⟩ trivial ⟨T5,trivial⟩) (fun a=>by kernel_rfl)
def eA (N:Nat) (p0:List (Int×Int×Int)) (p1:(List (Int×Int))):Option Bool:=
 ((eS N) p0 p1).bind fun n0=>
 some (decide (0<=n0))
def PP (N:Nat):aV:=⟨aC.cons (aF.sl bO) (aC.one (aF.clo 166 (aC.one (aF.ref (bE.sl cM))))),aF.bool,fun a=>(eA N) a.1 a.2,.pure,false⟩
theorem PQ (N:Nat):aB tab 167 (PP N):=aB.of E3 (cx:=(aN (aK N) [(276,(PN N))] [] [] [])) rfl (aM.make ⟨(PO N),trivial⟩ trivial trivial) (fun a=>by kernel_rfl)
def DP (N:Nat) (p0:aG) (p1:List (Int×Int)):Option Bool:=
 bif (aa p1.length)==(aa p0.certs.list.length) then
  ((eA N) p0.certs.list p1).bind fun b0=>
  some (!b0)
 else
  some false
def c88 (N:Nat):aV:=⟨aC.cons (aF.agg bB) (aC.one (aF.sl cM)),aF.bool,fun a=>(DP N) a.1 a.2,.pure,false⟩
theorem aRa (N:Nat):aB tab 88 (c88 N):=aB.of aQQ (cx:=(aN (aK N) [(167,(PP N))] [] [] [])) rfl (aM.make ⟨(PQ N),trivial⟩ trivial trivial) (fun a=>by kernel_rfl)
def oG (_:Nat) (p0:Int):Option Bool:=
 some (decide (p0<0))
def c83 (N:Nat):aV:=⟨aC.one (aF.int .i64),aF.bool,fun a=>(oG N) a,.pure,false⟩
theorem aRb (N:Nat):aB tab 83 (c83 N):=aB.of aQL (cx:=(aN (aK N) [] [] [] [])) rfl (aM.make trivial trivial trivial) (fun a=>by kernel_rfl)
def gB (N:Nat) (c0:(List Int)) (s:(Int×Int×(List Int))):Option (aS (Int×Int×(List Int)) (aS (Int×Int×(List Int)) (Nat×Nat×(List Int)))):=
 bif decide (s.2.1<(aa s.2.2.length)) then
  (aL s.2.2 s.2.1).bind fun n0=>
  ((oG N) n0).bind fun b1=>
  bif !b1 then
   (aL s.2.2 s.1).bind fun _=>
   some (.next (aA .i64 (s.1+1),aA .i64 (s.2.1+1),aZ s.2.2 s.1 n0))
  else
   some (.next (s.1,aA .i64 (s.2.1+1),s.2.2))
 else
  bif ((decide (0<=s.1))&&(decide (s.1<=(aa s.2.2.length))))&&(decide ((aa s.2.2.length)<=(aa s.2.2.length))) then
   bif ag (((aa s.2.2.length).toNat) -s.1.toNat) 0 then
    (fI s.2.2 0 s.1).bind fun _=>
    bif s.2.2.length==c0.length then
     some (.done (.done (s.1.toNat,s.2.2.length,s.2.2)))
    else
     none
   else
    bif (ae ((0+s.1.toNat)+(((aa s.2.2.length).toNat) -s.1.toNat)) s.2.2.length)&&(!false) then
     (fI (dD s.2.2 (0+s.1.toNat) (ac (((aa s.2.2.length).toNat) -s.1.toNat) 0)) 0 s.1).bind fun _=>
     bif ((dD s.2.2 (0+s.1.toNat) (ac (((aa s.2.2.length).toNat) -s.1.toNat) 0)).length)==c0.length then
      some (.done (.done (s.1.toNat,(dD s.2.2 (0+s.1.toNat) (ac (((aa s.2.2.length).toNat) -s.1.toNat) 0)).length,dD s.2.2 (0+s.1.toNat) (ac (((aa s.2.2.length).toNat) -s.1.toNat) 0))))
     else
      none
    else
     none
  else
   none
def gC (N:Nat) (c0:(List Int)) (s:(Int×Int×(List Int))):Option (aS (Int×Int×(List Int)) (Nat×Nat×(List Int))):=
 bif decide (s.2.1<s.1) then
  (aL s.2.2 s.2.1).bind fun n0=>
  ((oG N) n0).bind fun b1=>
  bif b1 then
   bif s.2.2.length==c0.length then
    bif s.2.1==(-1) then
     bif s.2.2.length==c0.length then
      some (.done (s.2.2.length,s.2.2.length,s.2.2))
     else
      none
    else
     (aO N) ((gB N) c0) (s.2.1,aA .i64 (s.2.1+1),s.2.2)
   else
    none
  else
   some (.next (s.1,aA .i64 (s.2.1+1),s.2.2))
 else
  bif s.2.2.length==c0.length then
   bif s.2.2.length==c0.length then
    some (.done (s.2.2.length,s.2.2.length,s.2.2))
   else
    none
  else
   none
def dJ (N:Nat) (a:(List Int)):Option (Nat×Nat×(List Int)):=
 (aO N) ((gC N) a) (aa a.length,0,a)
def Z7 (N:Nat):cA:=⟨[.l [.i .i64]],[.own 0 false,.clo 83 [] []],[.arr [.i .i64] []],[.n,.n,.l [.i .i64]],.pre 0 0 0 false,[.arr [.i .i64] []],fun a=>(dJ N) a⟩
theorem PR (N:Nat):eE tab 39 (Z7 N):=eE.of ZY (wd:=true) (cx:=(aN (aK N) [(83,(c83 N))] [] [(97,x97)] [])) (aM.make ⟨(aRb N),trivial⟩ trivial ⟨CP,trivial⟩) (fun a=>by kernel_rfl)
def jF (N:Nat) (p0:bC):Option Int:=
 ((fC N) p0.clock).bind fun n0=>
 bif n0 !=0 then
  some 8
 else
  ((xJ N) p0.bracket).bind fun n1=>
  bif n1 !=0 then
   some 8
  else
   bif (oW .i64 (aa p0.bracket.places.length) (aA .i64 ((aa p0.bracket.places.length) -1))) !=0 then
    some 8
   else
    (bG p0.bracket.places).bind fun l2=>
    ((dJ N) l2).bind fun a3=>
    (E0 YI a3.1 a3.2.2).bind fun l4=>
    bif l4.length==a3.2.2.length then
     ((dQ N) (l4.take a3.1) p0.clock.field.points ()).bind fun b5=>
     bif !b5 then
      some 8
     else
      ((pN N) p0.clock.field p0.clock.now p0.bracket.places).bind fun a6=>
      ((lV N) a6.1.wins p0.bracket.wins).bind fun b7=>
      bif !b7 then
       some 8
      else
       ((DP N) p0.clock a6.2).bind fun b8=>
       bif !b8 then
        some 8
       else
        some 0
    else
     none
def c32 (N:Nat):aV:=⟨aC.one (aF.agg eR),aF.int .i64,fun a=>(jF N) a,.pure,false⟩
theorem HN (N:Nat):aB tab 32 (c32 N):=aB.of aQc (cx:=(aN (aK N) [(81,(c81 N)),(82,(c82 N)),(34,aV.clone ki),(85,(Z4 N)),(79,(c79 N)),(87,(c87 N)),(88,(c88 N))] [(39,(Z7 N))] [(84,.srt R2)] [])) rfl (aM.make ⟨(sL N),(aQ7 N),fM,(XA N),(ST N),(Z6 N),(aRa N),trivial⟩ ⟨(PR N),trivial⟩ ⟨aQM,trivial⟩) (fun a=>by kernel_rfl)
def A2 (N:Nat) (p0:Field) (p1:Int×Int):Option Int:=
 ((fW N) p0).bind fun n0=>
 bif n0 !=0 then
  some n0
 else
  ((cB N) p1).bind fun n1=>
  some n1
def aSZ (N:Nat):aV:=⟨aC.cons (aF.agg aT) (aC.one (aF.agg (bE.row cM))),aF.int .i64,fun a=>(A2 N) a.1 a.2,.pure,false⟩
theorem aI4 (N:Nat):aB tab 335 (aSZ N):=aB.of aHx (cx:=(aN (aK N) [(76,(c76 N)),(70,(Q9 N))] [] [] [])) rfl (aM.make ⟨(uQ N),(kE N),trivial⟩ trivial trivial) (fun a=>by kernel_rfl)
def NC (N:Nat) (s:(Nat×Nat×Int×(List (Int×Int×Int))×Int×Int×(List (Int×Int×Int))×Int×Int×Int×Int×(List (Int×Int×Int))×(List Int)×Int×Int×Int×Int×Int×Int)):Option (aS (Nat×Nat×Int×(List (Int×Int×Int))×Int×Int×(List (Int×Int×Int))×Int×Int×Int×Int×(List (Int×Int×Int))×(List Int)×Int×Int×Int×Int×Int×Int) (aS (Nat×Nat×(List (Int×Int×Int))×Int×Int×(List (Int×Int×Int))×Int×Int×Int×Int×(List (Int×Int×Int))×(List Int)) (cK×Int))):=
 bif decide (0<(aa s.1)) then
  (aL (s.2.2.2.2.2.2.2.2.2.2.2.2.1.take s.1) (aA .i64 ((aa s.1) -1))).bind fun n0=>
  (aL s.2.2.2.2.2.2.1 n0).bind fun a1=>
  ((cP N) a1 (s.2.2.2.2.2.2.2.2.2.2.2.2.2.1,s.2.2.2.2.2.2.2.2.2.2.2.2.2.2.1,s.2.2.2.2.2.2.2.2.2.2.2.2.2.2.2.1) (s.2.2.2.2.2.2.2.1,s.2.2.2.2.2.2.2.2.1)).bind fun a2=>
  bif a2.1 then
   bif decide (0<(aa s.1)) then
    (aL (s.2.2.2.2.2.2.2.2.2.2.2.2.1.take s.1) (aA .i64 ((aa s.1) -1))).bind fun n3=>
    (aL s.2.2.2.2.2.2.2.2.2.2.2.1 n3).bind fun a4=>
    (aR (aZ s.2.2.2.2.2.2.2.2.2.2.2.1 n3 (a4.1,a4.2.1,s.2.2.1)) [s.2.2.2.2.2.2.2.2.2.2.2.2.2.2.2.2]).bind fun l5=>
    bif ae (s.1+[s.2.2.1].length) s.2.1 then
     bif (ae (s.1+[s.2.2.1].length) s.2.2.2.2.2.2.2.2.2.2.2.2.1.length)&&(!false) then
      some (.done (.next (s.1+[s.2.2.1].length,s.2.1,s.2.2.2.1,s.2.2.2.2.1,aA .i64 (s.2.2.2.2.2.1+1),s.2.2.2.2.2.2.1,s.2.2.2.2.2.2.2.1,s.2.2.2.2.2.2.2.2.1,s.2.2.2.2.2.2.2.2.2.1,s.2.2.2.2.2.2.2.2.2.2.1,l5,dD s.2.2.2.2.2.2.2.2.2.2.2.2.1 s.1 [s.2.2.1])))
     else
      none
    else
     (aR (s.2.2.2.2.2.2.2.2.2.2.2.2.1.take s.1) [s.2.2.1]).bind fun l6=>
     bif ae s.1 s.2.2.2.2.2.2.2.2.2.2.2.2.1.length then
      some (.done (.next (l6.length,l6.length,s.2.2.2.1,s.2.2.2.2.1,aA .i64 (s.2.2.2.2.2.1+1),s.2.2.2.2.2.2.1,s.2.2.2.2.2.2.2.1,s.2.2.2.2.2.2.2.2.1,s.2.2.2.2.2.2.2.2.2.1,s.2.2.2.2.2.2.2.2.2.2.1,l5,l6)))
     else
      none
   else
    (aR s.2.2.2.2.2.2.2.2.2.2.2.1 [s.2.2.2.2.2.2.2.2.2.2.2.2.2.2.2.2]).bind fun l7=>
    bif ae (s.1+[s.2.2.1].length) s.2.1 then
     bif (ae (s.1+[s.2.2.1].length) s.2.2.2.2.2.2.2.2.2.2.2.2.1.length)&&(!false) then
      some (.done (.next (s.1+[s.2.2.1].length,s.2.1,s.2.2.2.1,s.2.2.2.2.1,aA .i64 (s.2.2.2.2.2.1+1),s.2.2.2.2.2.2.1,s.2.2.2.2.2.2.2.1,s.2.2.2.2.2.2.2.2.1,s.2.2.2.2.2.2.2.2.2.1,s.2.2.1,l7,dD s.2.2.2.2.2.2.2.2.2.2.2.2.1 s.1 [s.2.2.1])))
     else
      none
    else
     (aR (s.2.2.2.2.2.2.2.2.2.2.2.2.1.take s.1) [s.2.2.1]).bind fun l8=>
     bif ae s.1 s.2.2.2.2.2.2.2.2.2.2.2.2.1.length then
      some (.done (.next (l8.length,l8.length,s.2.2.2.1,s.2.2.2.2.1,aA .i64 (s.2.2.2.2.2.1+1),s.2.2.2.2.2.2.1,s.2.2.2.2.2.2.2.1,s.2.2.2.2.2.2.2.2.1,s.2.2.2.2.2.2.2.2.2.1,s.2.2.1,l7,l8)))
     else
      none
  else
   bif (decide (0<=(aA .i64 ((aa s.1) -1))))&&(decide ((aA .i64 ((aa s.1) -1))<=(aa s.2.1))) then
    some (.next ((aA .i64 ((aa s.1) -1)).toNat,s.2.1,s.2.2.1,s.2.2.2.1,s.2.2.2.2.1,s.2.2.2.2.2.1,s.2.2.2.2.2.2.1,s.2.2.2.2.2.2.2.1,s.2.2.2.2.2.2.2.2.1,s.2.2.2.2.2.2.2.2.2.1,s.2.2.2.2.2.2.2.2.2.2.1,s.2.2.2.2.2.2.2.2.2.2.2.1,s.2.2.2.2.2.2.2.2.2.2.2.2.1,s.2.2.2.2.2.2.2.2.2.2.2.2.2.1,s.2.2.2.2.2.2.2.2.2.2.2.2.2.2.1,s.2.2.2.2.2.2.2.2.2.2.2.2.2.2.2.1,s.2.2.2.2.2.2.2.2.2.2.2.2.2.2.2.2.1,n0,s.2.2.2.2.2.2.2.2.2.2.2.2.2.2.2.2.2.2))
   else
    none
 else
  bif decide (0<(aa s.1)) then
   (aL (s.2.2.2.2.2.2.2.2.2.2.2.2.1.take s.1) (aA .i64 ((aa s.1) -1))).bind fun n9=>
   (aL s.2.2.2.2.2.2.2.2.2.2.2.1 n9).bind fun a10=>
   (aR (aZ s.2.2.2.2.2.2.2.2.2.2.2.1 n9 (a10.1,a10.2.1,s.2.2.1)) [s.2.2.2.2.2.2.2.2.2.2.2.2.2.2.2.2]).bind fun l11=>
   bif ae (s.1+[s.2.2.1].length) s.2.1 then
    bif (ae (s.1+[s.2.2.1].length) s.2.2.2.2.2.2.2.2.2.2.2.2.1.length)&&(!false) then
     some (.done (.next (s.1+[s.2.2.1].length,s.2.1,s.2.2.2.1,s.2.2.2.2.1,aA .i64 (s.2.2.2.2.2.1+1),s.2.2.2.2.2.2.1,s.2.2.2.2.2.2.2.1,s.2.2.2.2.2.2.2.2.1,s.2.2.2.2.2.2.2.2.2.1,s.2.2.2.2.2.2.2.2.2.2.1,l11,dD s.2.2.2.2.2.2.2.2.2.2.2.2.1 s.1 [s.2.2.1])))
    else
     none
   else
    (aR (s.2.2.2.2.2.2.2.2.2.2.2.2.1.take s.1) [s.2.2.1]).bind fun l12=>
    bif ae s.1 s.2.2.2.2.2.2.2.2.2.2.2.2.1.length then
     some (.done (.next (l12.length,l12.length,s.2.2.2.1,s.2.2.2.2.1,aA .i64 (s.2.2.2.2.2.1+1),s.2.2.2.2.2.2.1,s.2.2.2.2.2.2.2.1,s.2.2.2.2.2.2.2.2.1,s.2.2.2.2.2.2.2.2.2.1,s.2.2.2.2.2.2.2.2.2.2.1,l11,l12)))
    else
     none
  else
   (aR s.2.2.2.2.2.2.2.2.2.2.2.1 [s.2.2.2.2.2.2.2.2.2.2.2.2.2.2.2.2]).bind fun l13=>
   bif ae (s.1+[s.2.2.1].length) s.2.1 then
    bif (ae (s.1+[s.2.2.1].length) s.2.2.2.2.2.2.2.2.2.2.2.2.1.length)&&(!false) then
     some (.done (.next (s.1+[s.2.2.1].length,s.2.1,s.2.2.2.1,s.2.2.2.2.1,aA .i64 (s.2.2.2.2.2.1+1),s.2.2.2.2.2.2.1,s.2.2.2.2.2.2.2.1,s.2.2.2.2.2.2.2.2.1,s.2.2.2.2.2.2.2.2.2.1,s.2.2.1,l13,dD s.2.2.2.2.2.2.2.2.2.2.2.2.1 s.1 [s.2.2.1])))
    else
     none
   else
    (aR (s.2.2.2.2.2.2.2.2.2.2.2.2.1.take s.1) [s.2.2.1]).bind fun l14=>
    bif ae s.1 s.2.2.2.2.2.2.2.2.2.2.2.2.1.length then
     some (.done (.next (l14.length,l14.length,s.2.2.2.1,s.2.2.2.2.1,aA .i64 (s.2.2.2.2.2.1+1),s.2.2.2.2.2.2.1,s.2.2.2.2.2.2.2.1,s.2.2.2.2.2.2.2.2.1,s.2.2.2.2.2.2.2.2.2.1,s.2.2.1,l13,l14)))
    else
     none
def ND (N:Nat) (s:(Nat×Nat×(List (Int×Int×Int))×Int×Int×(List (Int×Int×Int))×Int×Int×Int×Int×(List (Int×Int×Int))×(List Int))):Option (aS (Nat×Nat×(List (Int×Int×Int))×Int×Int×(List (Int×Int×Int))×Int×Int×Int×Int×(List (Int×Int×Int))×(List Int)) (cK×Int)):=
 bif decide (s.2.2.2.2.1<s.2.2.2.1) then
  (aL s.2.2.1 s.2.2.2.2.1).bind fun a0=>
  (aO N) (NC N) (s.1,s.2.1,s.2.2.2.2.1,s.2.2.1,s.2.2.2.1,s.2.2.2.2.1,s.2.2.2.2.2.1,s.2.2.2.2.2.2.1,s.2.2.2.2.2.2.2.1,s.2.2.2.2.2.2.2.2.1,s.2.2.2.2.2.2.2.2.2.1,s.2.2.2.2.2.2.2.2.2.2.1,s.2.2.2.2.2.2.2.2.2.2.2,a0.1,a0.2.1,a0.2.2,a0.1,-1,-1)
 else
  some (.done (cK.mk s.2.2.2.2.2.2.2.2.2.1 s.2.2.2.2.2.2.2.2.2.2.1,0))
def rA (N:Nat) (p0:Field) (p1:Int×Int):Option (cK×Int):=
 ((A2 N) p0 p1).bind fun n0=>
 bif n0 !=0 then
  some (cK.mk 0 [],n0)
 else
  (aO N) (ND N) (0,0,p0.points,aa p0.points.length,0,p0.points,p1.1,p1.2,0,-1,[],[])
def Z8 (N:Nat):aV:=⟨aC.cons (aF.agg aT) (aC.one (aF.agg (bE.row cM))),aF.tup (aC.cons (aF.agg sF) (aC.one (aF.int .i64))),fun a=>(rA N) a.1 a.2,.frz,false⟩
theorem E7 (N:Nat):aB tab 245 (Z8 N):=aB.of aGQ (cx:=(aN (aK N) [(335,(aSZ N)),(281,(NB N))] [] [] [])) rfl (aM.make ⟨(aI4 N),(pM N),trivial⟩ trivial trivial) (fun a=>by kernel_rfl)
def HO (_:Nat) (s:(Int×(List (Int×Int×Int))×Int×Int×Int×Int×Int×Int×Int×(List (Int×Int×Int))×(List Int))):Option (aS (Int×(List (Int×Int×Int))×Int×Int×Int×Int×Int×Int×Int×(List (Int×Int×Int))×(List Int)) (aS ((List (Int×Int×Int))×Int×Int×Int×Int×(List (Int×Int×Int))×(List Int)) (aS (Int×Int×Int×Int×(List (Int×Int×Int))×(List Int)) (cK×(List (Int×Int)))))):=
 bif decide (s.2.2.2.2.2.2.1<2) then
  bif s.2.2.2.2.2.2.1==0 then
   bif decide (0<=s.2.2.2.2.1) then
    (aL s.2.2.2.2.2.2.2.2.2.2 s.2.2.2.2.1).bind fun _=>
    some (.next (s.1,s.2.1,s.2.2.1,s.2.2.2.1,s.2.2.2.2.1,s.2.2.2.2.2.1,aA .i64 (s.2.2.2.2.2.2.1+1),s.2.2.2.2.2.2.2.1,s.2.2.2.2.2.2.2.2.1,s.2.2.2.2.2.2.2.2.2.1,aZ s.2.2.2.2.2.2.2.2.2.2 s.2.2.2.2.1 s.1))
   else
    some (.next (s.1,s.2.1,s.2.2.1,s.2.2.2.1,s.2.2.2.2.1,s.2.2.2.2.2.1,aA .i64 (s.2.2.2.2.2.2.1+1),s.2.2.2.2.2.2.2))
  else
   bif s.2.2.2.2.2.2.1==1 then
    bif decide (0<=s.2.2.2.2.2.1) then
     (aL s.2.2.2.2.2.2.2.2.2.2 s.2.2.2.2.2.1).bind fun _=>
     some (.next (s.1,s.2.1,s.2.2.1,s.2.2.2.1,s.2.2.2.2.1,s.2.2.2.2.2.1,aA .i64 (s.2.2.2.2.2.2.1+1),s.2.2.2.2.2.2.2.1,s.2.2.2.2.2.2.2.2.1,s.2.2.2.2.2.2.2.2.2.1,aZ s.2.2.2.2.2.2.2.2.2.2 s.2.2.2.2.2.1 s.1))
    else
     some (.next (s.1,s.2.1,s.2.2.1,s.2.2.2.1,s.2.2.2.2.1,s.2.2.2.2.2.1,aA .i64 (s.2.2.2.2.2.2.1+1),s.2.2.2.2.2.2.2))
   else
    none
 else
  some (.done (.next (s.2.1,s.2.2.1,aA .i64 (s.2.2.2.1+1),s.2.2.2.2.2.2.2)))
def HP (_:Nat) (s:((List (Int×Int×Int))×Int×Int×Int×Int×(List (Int×Int×Int))×(List Int)×(List (Int×Int)))):Option (aS ((List (Int×Int×Int))×Int×Int×Int×Int×(List (Int×Int×Int))×(List Int)×(List (Int×Int))) (aS ((List (Int×Int×Int))×Int×Int×Int×Int×(List (Int×Int×Int))×(List Int)) (aS (Int×Int×Int×Int×(List (Int×Int×Int))×(List Int)) (cK×(List (Int×Int)))))):=
 bif decide (s.2.2.1<s.2.1) then
  (aL s.1 s.2.2.1).bind fun a0=>
  (aL s.2.2.2.2.2.2.1 s.2.2.1).bind fun n1=>
  bif decide (0<=n1) then
   (aL s.2.2.2.2.2.2.1 s.2.2.1).bind fun n2=>
   (aL s.2.2.2.2.2.1 n2).bind fun a3=>
   (aR s.2.2.2.2.2.2.2 [(a0.1,a3.1)]).bind fun l4=>
   some (.next (s.1,s.2.1,aA .i64 (s.2.2.1+1),s.2.2.2.1,s.2.2.2.2.1,s.2.2.2.2.2.1,s.2.2.2.2.2.2.1,l4))
  else
   some (.next (s.1,s.2.1,aA .i64 (s.2.2.1+1),s.2.2.2))
 else
  some (.done (.done (.done (cK.mk s.2.2.2.2.1 s.2.2.2.2.2.1,s.2.2.2.2.2.2.2))))
def HQ (N:Nat) (s:((List (Int×Int×Int))×Int×Int×Int×Int×(List (Int×Int×Int))×(List Int))):Option (aS ((List (Int×Int×Int))×Int×Int×Int×Int×(List (Int×Int×Int))×(List Int)) (aS (Int×Int×Int×Int×(List (Int×Int×Int))×(List Int)) (cK×(List (Int×Int))))):=
 bif decide (s.2.2.1<s.2.1) then
  (aL s.1 s.2.2.1).bind fun a0=>
  (aO N) (HO N) (s.2.2.1,s.1,s.2.1,s.2.2.1,a0.2.1,a0.2.2,0,s.2.2.2)
 else
  (aO N) (HP N) (s.2.2.2.2.2.1,aa s.2.2.2.2.2.1.length,0,s.2.2.2.1,s.2.2.2.2.1,s.2.2.2.2.2.1,s.2.2.2.2.2.2,[])
def HR (N:Nat) (s:(Int×Int×Int×Int×(List (Int×Int×Int))×(List Int))):Option (aS (Int×Int×Int×Int×(List (Int×Int×Int))×(List Int)) (cK×(List (Int×Int)))):=
 bif decide (s.2.1<s.1) then
  (aL s.2.2.2.2.2 s.2.1).bind fun _=>
  some (.next (s.1,aA .i64 (s.2.1+1),s.2.2.1,s.2.2.2.1,s.2.2.2.2.1,aZ s.2.2.2.2.2 s.2.1 (-1)))
 else
  (aO N) (HQ N) (s.2.2.2.2.1,aa s.2.2.2.2.1.length,0,s.2.2)
def pO (N:Nat) (p0:Field) (p1:Int×Int):Option (cK×(List (Int×Int))):=
 ((rA N) p0 p1).bind fun a0=>
 bif (aa a0.1.nodes.length)==(aa a0.1.nodes.length) then
  (jL (aa a0.1.nodes.length) (0:Int)).bind fun l1=>
  (aO N) (HR N) (aa l1.length,0,0,a0.1.root,a0.1.nodes,l1)
 else
  none
def aI5 (N:Nat):aV:=⟨aC.cons (aF.agg aT) (aC.one (aF.agg (bE.row cM))),aF.tup (aC.cons (aF.agg sF) (aC.one (aF.sl cM))),fun a=>(pO N) a.1 a.2,.frz,false⟩
theorem NE (N:Nat):aB tab 148 (aI5 N):=aB.of aFT (cx:=(aN (aK N) [(245,(Z8 N))] [] [] [])) rfl (aM.make ⟨(E7 N),trivial⟩ trivial trivial) (fun a=>by kernel_rfl)
def uZ (_:Nat) (s:((List (Int×Int×Int))×(List (Int×Int×Int))×Int×Int)):Option (aS ((List (Int×Int×Int))×(List (Int×Int×Int))×Int×Int) Bool):=
 bif decide (s.2.2.2<s.2.2.1) then
  (aL s.1 s.2.2.2).bind fun a0=>
  (aL s.2.1 s.2.2.2).bind fun a1=>
  bif !((a0.1==a1.1)&&((a0.2.1==a1.2.1)&&(a0.2.2==a1.2.2))) then
   some (.done false)
  else
   some (.next (s.1,s.2.1,s.2.2.1,aA .i64 (s.2.2.2+1)))
 else
  some (.done true)
def pP (N:Nat) (p0:List (Int×Int×Int)) (p1:List (Int×Int×Int)):Option Bool:=
 bif (aa p0.length) !=(aa p1.length) then
  some false
 else
  (aO N) (uZ N) (p0,p1,aa p0.length,0)
def aS0 (N:Nat):aV:=⟨aC.cons (aF.sl bO) (aC.one (aF.sl bO)),aF.bool,fun a=>(pP N) a.1 a.2,.pure,false⟩
theorem aI6 (N:Nat):aB tab 236 (aS0 N):=aB.of aGI (cx:=(aN (aK N) [] [] [] [])) rfl (aM.make trivial trivial trivial) (fun a=>by kernel_rfl)
def xN (N:Nat) (p0:Int×Int×Int) (p1:List (Int×Int)):Option Bool:=
 ((cL N) p1 p0.2).bind fun b0=>
 some (!b0)
def aS1 (N:Nat):aV:=⟨aC.cons (aF.agg (bE.row bO)) (aC.one (aF.ref (bE.sl cM))),aF.bool,fun a=>(xN N) a.1 a.2,.pure,false⟩
theorem aI7 (N:Nat):aB tab 327 (aS1 N):=aB.of UL (cx:=(aN (aK N) [(153,(NA N))] [] [] [])) rfl (aM.make ⟨(pK N),trivial⟩ trivial trivial) (fun a=>by kernel_rfl)
def iP (N:Nat) (s:((List (Int×Int×Int))×(List (Int×Int))×Int×Int)):Option (aS ((List (Int×Int×Int))×(List (Int×Int))×Int×Int) Int):=
 bif decide (s.2.2.2<s.2.2.1) then
  (aL s.1 s.2.2.2).bind fun a0=>
  ((xN N) a0 s.2.1).bind fun b1=>
  bif b1 then
   some (.done s.2.2.2)
  else
   some (.next (s.1,s.2.1,s.2.2.1,aA .i64 (s.2.2.2+1)))
 else
  some (.done (-1))
def eT (N:Nat) (p0:List (Int×Int×Int)) (p1:(List (Int×Int))):Option Int:=
 (aO N) (iP N) (p0,p1,aa p0.length,0)
def PS (N:Nat):aV:=⟨aC.cons (aF.sl bO) (aC.one (aF.clo 327 (aC.one (aF.ref (bE.sl cM))))),aF.int .i64,fun a=>(eT N) a.1 a.2,.pure,false⟩
theorem PU (N:Nat):aB tab 276 (PS N):=aB.of E5 (cx:=(aN (aK N) [(327,(aS1 N)),(153,(NA N))] [] [(327,aDW)] [])) rfl (aM.make ⟨(aI7 N),(pK N),trivial⟩ trivial ⟨UL,trivial⟩) (fun a=>by kernel_rfl)
def eB (N:Nat) (p0:List (Int×Int×Int)) (p1:(List (Int×Int))):Option Bool:=
 ((eT N) p0 p1).bind fun n0=>
 some (decide (0<=n0))
def PW (N:Nat):aV:=⟨aC.cons (aF.sl bO) (aC.one (aF.clo 327 (aC.one (aF.ref (bE.sl cM))))),aF.bool,fun a=>(eB N) a.1 a.2,.pure,false⟩
theorem PX (N:Nat):aB tab 167 (PW N):=aB.of E3 (cx:=(aN (aK N) [(276,(PS N))] [] [] [])) rfl (aM.make ⟨(PU N),trivial⟩ trivial trivial) (fun a=>by kernel_rfl)
def DQ (N:Nat) (p0:aG) (p1:List (Int×Int)):Option Bool:=
 bif (aa p1.length)==(aa p0.certs.list.length) then
  ((eB N) p0.certs.list p1).bind fun b0=>
  some (!b0)
 else
  some false
def aS2 (N:Nat):aV:=⟨aC.cons (aF.agg bB) (aC.one (aF.sl cM)),aF.bool,fun a=>(DQ N) a.1 a.2,.pure,false⟩
theorem aI8 (N:Nat):aB tab 237 (aS2 N):=aB.of aGJ (cx:=(aN (aK N) [(167,(PW N))] [] [] [])) rfl (aM.make ⟨(PX N),trivial⟩ trivial trivial) (fun a=>by kernel_rfl)
def jG (N:Nat) (p0:aW):Option Int:=
 ((fC N) p0.clock).bind fun n0=>
 bif n0 !=0 then
  some 8
 else
  ((pO N) p0.clock.field p0.clock.now).bind fun a1=>
  bif a1.1.root !=p0.tree.root then
   some 8
  else
   ((pP N) a1.1.nodes p0.tree.nodes).bind fun b2=>
   bif !b2 then
    some 8
   else
    ((DQ N) p0.clock a1.2).bind fun b3=>
    bif !b3 then
     some 8
    else
     some 0
def XB (N:Nat):aV:=⟨aC.one (aF.agg cX),aF.int .i64,fun a=>(jG N) a,.pure,false⟩
theorem A3 (N:Nat):aB tab 139 (XB N):=aB.of aFK (cx:=(aN (aK N) [(81,(c81 N)),(148,(aI5 N)),(236,(aS0 N)),(237,(aS2 N))] [] [] [])) rfl (aM.make ⟨(sL N),(NE N),(aI6 N),(aI8 N),trivial⟩ trivial trivial) (fun a=>by kernel_rfl)
def vA (_:Nat) (c0:((Int×Int×Int×Int×(List (Int×Int×Int))×(List (Int×Int)))->(Option ((List (Int×Int×Int))×(List (Int×Int)))))) (c1:(Int×Int×Int×Int×(List (Int×Int×Int))×(List (Int×Int)))) (s:(Int×Int×Int×(List (Int×Int×Int))×(List (Int×Int))×Int×Int×Int×Int×Int×(List (Int×Int×Int))×(List (Int×Int×Int)))):Option (aS (Int×Int×Int×(List (Int×Int×Int))×(List (Int×Int))×Int×Int×Int×Int×Int×(List (Int×Int×Int))×(List (Int×Int×Int))) (aS (Int×Int×Nat×Nat×Nat×Int×Int×(List (Int×Int×Int))×(List (Int×Int))×Int×Int×Int×Int×Int) ((List (Int×Int×Int))×(List (Int×Int))))):=
 bif decide (s.2.2.1<s.2.1) then
  (aL s.2.2.2.1 s.2.2.1).bind fun a0=>
  bif a0.1 !=s.2.2.2.2.2.2.2.1 then
   bif decide (s.1<0) then
    none
   else
    bif (oW .i64 (hP .i64 a0.1 s.1) 1)==0 then
     (aR s.2.2.2.2.2.2.2.2.2.2.1 [a0]).bind fun l1=>
     bif (oW .i64 (hP .i64 a0.1 s.1) 1)==0 then
      some (.next (s.1,s.2.1,aA .i64 (s.2.2.1+1),s.2.2.2.1,s.2.2.2.2.1,s.2.2.2.2.2.1,s.2.2.2.2.2.2.1,s.2.2.2.2.2.2.2.1,s.2.2.2.2.2.2.2.2.1,s.2.2.2.2.2.2.2.2.2.1,l1,s.2.2.2.2.2.2.2.2.2.2.2))
     else
      bif (oW .i64 (hP .i64 a0.1 s.1) 1)==1 then
       none
      else
       none
    else
     bif (oW .i64 (hP .i64 a0.1 s.1) 1)==1 then
      (aR s.2.2.2.2.2.2.2.2.2.2.2 [a0]).bind fun l2=>
      bif (oW .i64 (hP .i64 a0.1 s.1) 1)==0 then
       none
      else
       bif (oW .i64 (hP .i64 a0.1 s.1) 1)==1 then
        some (.next (s.1,s.2.1,aA .i64 (s.2.2.1+1),s.2.2.2.1,s.2.2.2.2.1,s.2.2.2.2.2.1,s.2.2.2.2.2.2.1,s.2.2.2.2.2.2.2.1,s.2.2.2.2.2.2.2.2.1,s.2.2.2.2.2.2.2.2.2.1,s.2.2.2.2.2.2.2.2.2.2.1,l2))
       else
        none
     else
      none
  else
   some (.next (s.1,s.2.1,aA .i64 (s.2.2.1+1),s.2.2.2))
 else
  (c0 (s.2.2.2.2.2.1,s.2.2.2.2.2.2.1,s.2.2.2.2.2.2.2.1,aA .i64 (s.1+1),s.2.2.2.2.2.2.2.2.2.2.1,s.2.2.2.2.1)).bind fun a3=>
  (c0 (s.2.2.2.2.2.1,s.2.2.2.2.2.2.1,s.2.2.2.2.2.2.2.1,aA .i64 (s.1+1),s.2.2.2.2.2.2.2.2.2.2.2,a3.2)).bind fun a4=>
  bif s.2.2.2.1.length==c1.2.2.2.2.1.length then
   some (.done (.done (s.2.2.2.1,a4.2)))
  else
   none
def vB (N:Nat) (c0:((Int×Int×Int×Int×(List (Int×Int×Int))×(List (Int×Int)))->(Option ((List (Int×Int×Int))×(List (Int×Int)))))) (c1:(Int×Int×Int×Int×(List (Int×Int×Int))×(List (Int×Int)))) (s:(Int×Int×Nat×Nat×Nat×Int×Int×(List (Int×Int×Int))×(List (Int×Int))×Int×Int×Int×Int×Int)):Option (aS (Int×Int×Nat×Nat×Nat×Int×Int×(List (Int×Int×Int))×(List (Int×Int))×Int×Int×Int×Int×Int) ((List (Int×Int×Int))×(List (Int×Int)))):=
 bif decide (s.2.2.2.2.2.2.1<s.2.2.2.2.2.1) then
  (aL ((s.2.2.2.2.2.2.2.1.drop s.2.2.1).take s.2.2.2.1) s.2.2.2.2.2.2.1).bind fun a0=>
  ((cP N) a0 s.2.2.2.2.2.2.2.2.2.2.2 (s.2.2.2.2.2.2.2.2.2.1,s.2.2.2.2.2.2.2.2.2.2.1)).bind fun a1=>
  bif a1.1 then
   some (.next (s.1,s.2.1,s.2.2.1,s.2.2.2.1,s.2.2.2.2.1,s.2.2.2.2.2.1,aA .i64 (s.2.2.2.2.2.2.1+1),s.2.2.2.2.2.2.2.1,s.2.2.2.2.2.2.2.2.1,s.2.2.2.2.2.2.2.2.2.1,s.2.2.2.2.2.2.2.2.2.2.1,a0))
  else
   some (.next (s.1,s.2.1,s.2.2.1,s.2.2.2.1,s.2.2.2.2.1,s.2.2.2.2.2.1,aA .i64 (s.2.2.2.2.2.2.1+1),s.2.2.2.2.2.2.2))
 else
  (aO N) ((vA N) c0 c1) (s.2.1,aa s.2.2.2.2.2.2.2.1.length,0,s.2.2.2.2.2.2.2.1,nW s.2.2.2.2.2.2.2.2.1 s.2.2.2.2.2.2.2.2.2.2.2.1 s.1,s.2.2.2.2.2.2.2.2.2.1,s.2.2.2.2.2.2.2.2.2.2.1,s.2.2.2.2.2.2.2.2.2.2.2.1,s.2.2.2.2.2.2.2.2.2.2.2.2.1,s.2.2.2.2.2.2.2.2.2.2.2.2.2,[],[])
def wR (N:Nat) (self:(Int×Int×Int×Int×(List (Int×Int×Int))×(List (Int×Int)))->Option ((List (Int×Int×Int))×(List (Int×Int)))) (a:(Int×Int×Int×Int×(List (Int×Int×Int))×(List (Int×Int)))):Option ((List (Int×Int×Int))×(List (Int×Int))):=
 bif (aa a.2.2.2.2.1.length)==0 then
  bif a.2.2.2.2.1.length==a.2.2.2.2.1.length then
   some a.2.2.2.2
  else
   none
 else
  (aL a.2.2.2.2.1 0).bind fun a0=>
  bif ((decide (0<=1))&&(decide (1<=(aa a.2.2.2.2.1.length))))&&(decide ((aa a.2.2.2.2.1.length)<=(aa a.2.2.2.2.1.length))) then
   (aO N) ((vB N) self a) (a.2.2.1,a.2.2.2.1,1,((aa a.2.2.2.2.1.length).toNat) -1,a.2.2.2.2.1.length-1,aa (((aa a.2.2.2.2.1.length).toNat) -1),0,a.2.2.2.2.1,a.2.2.2.2.2,a.1,a.2.1,a0)
  else
   none
def gJ (N:Nat):Nat->(Int×Int×Int×Int×(List (Int×Int×Int))×(List (Int×Int)))->Option ((List (Int×Int×Int))×(List (Int×Int)))
 |0,_=>none
 |n+1,a=>(wR N) ((gJ N) n) a
def lD (N:Nat) (a:(Int×Int×Int×Int×(List (Int×Int×Int))×(List (Int×Int)))):Option ((List (Int×Int×Int))×(List (Int×Int))):=(gJ N) 1000000 a
def SU (N:Nat):cA:=⟨[.i,.i,.i,.i,.l [.i .i64,.i .i64,.i .i64],.l [.i .i64,(.i .i64)]],[.own 0 false,.agg [.int .i64 0,.int .i64 0],.int .i64 0,.int .i64 0,.mp 1],[.arr [.i .i64,.i .i64,.i .i64] [],.tab (.i .i64) []],[.l [.i .i64,.i .i64,.i .i64],.l [.i .i64,(.i .i64)]],.tup [],[.arr [.i .i64,.i .i64,.i .i64] [],.tab (.i .i64) []],fun a=>(lD N) a⟩
theorem HS (N:Nat): ∀n,eE tab 246 ⟨[.i,.i,.i,.i,.l [.i .i64,.i .i64,.i .i64],.l [.i .i64,(.i .i64)]],[.own 0 false,.agg [.int .i64 0,.int .i64 0],.int .i64 0,.int .i64 0,.mp 1],[.arr [.i .i64,.i .i64,.i .i64] [],.tab (.i .i64) []],[.l [.i .i64,.i .i64,.i .i64],.l [.i .i64,(.i .i64)]],.tup [],[.arr [.i .i64,.i .i64,.i .i64] [],.tab (.i .i64) []],fun a=>(gJ N) n a⟩
 |0=>eE.zero (fun _=>rfl)
 |n+1=>eE.of UB (wd:=false) (cx:=(aN (aK N) [(281,(NB N))] [(246,⟨[.i,.i,.i,.i,.l [.i .i64,.i .i64,.i .i64],.l [.i .i64,(.i .i64)]],[.own 0 false,.agg [.int .i64 0,.int .i64 0],.int .i64 0,.int .i64 0,.mp 1],[.arr [.i .i64,.i .i64,.i .i64] [],.tab (.i .i64) []],[.l [.i .i64,.i .i64,.i .i64],.l [.i .i64,(.i .i64)]],.tup [],[.arr [.i .i64,.i .i64,.i .i64] [],.tab (.i .i64) []],fun a=>(gJ N) n a⟩)] [] [])) (aM.make ⟨(pM N),trivial⟩ ⟨((HS N) n),trivial⟩ trivial) (fun a=>by kernel_rfl)
theorem K8 (N:Nat):eE tab 246 (SU N):=(HS N) 1000000
def vC (N:Nat) (s:(Int×(List (Int×Int×Int))×Int×Int×(List (Int×Int))×Int×Int×Int×Int×Int×(List (Int×Int×Int))×(List (Int×Int×Int)))):Option (aS (Int×(List (Int×Int×Int))×Int×Int×(List (Int×Int))×Int×Int×Int×Int×Int×(List (Int×Int×Int))×(List (Int×Int×Int))) (aS ((List (Int×Int×Int))×Int×Int×(List (Int×Int×Int))×Int×Int×(List (Int×Int))×Int×Int×Int×Int×Int) (List (Int×Int)))):=
 bif decide (s.2.2.2.1<s.2.2.1) then
  (aL s.2.1 s.2.2.2.1).bind fun a0=>
  bif a0.1 !=s.2.2.2.2.2.2.2.1 then
   bif decide (s.1<0) then
    none
   else
    bif (oW .i64 (hP .i64 a0.1 s.1) 1)==0 then
     (aR s.2.2.2.2.2.2.2.2.2.2.1 [a0]).bind fun l1=>
     bif (oW .i64 (hP .i64 a0.1 s.1) 1)==0 then
      some (.next (s.1,s.2.1,s.2.2.1,aA .i64 (s.2.2.2.1+1),s.2.2.2.2.1,s.2.2.2.2.2.1,s.2.2.2.2.2.2.1,s.2.2.2.2.2.2.2.1,s.2.2.2.2.2.2.2.2.1,s.2.2.2.2.2.2.2.2.2.1,l1,s.2.2.2.2.2.2.2.2.2.2.2))
     else
      bif (oW .i64 (hP .i64 a0.1 s.1) 1)==1 then
       none
      else
       none
    else
     bif (oW .i64 (hP .i64 a0.1 s.1) 1)==1 then
      (aR s.2.2.2.2.2.2.2.2.2.2.2 [a0]).bind fun l2=>
      bif (oW .i64 (hP .i64 a0.1 s.1) 1)==0 then
       none
      else
       bif (oW .i64 (hP .i64 a0.1 s.1) 1)==1 then
        some (.next (s.1,s.2.1,s.2.2.1,aA .i64 (s.2.2.2.1+1),s.2.2.2.2.1,s.2.2.2.2.2.1,s.2.2.2.2.2.2.1,s.2.2.2.2.2.2.2.1,s.2.2.2.2.2.2.2.2.1,s.2.2.2.2.2.2.2.2.2.1,s.2.2.2.2.2.2.2.2.2.2.1,l2))
       else
        none
     else
      none
  else
   some (.next (s.1,s.2.1,s.2.2.1,aA .i64 (s.2.2.2.1+1),s.2.2.2.2))
 else
  ((lD N) (s.2.2.2.2.2.1,s.2.2.2.2.2.2.1,s.2.2.2.2.2.2.2.1,aA .i64 (s.1+1),s.2.2.2.2.2.2.2.2.2.2.1,s.2.2.2.2.1)).bind fun a3=>
  ((lD N) (s.2.2.2.2.2.1,s.2.2.2.2.2.2.1,s.2.2.2.2.2.2.2.1,aA .i64 (s.1+1),s.2.2.2.2.2.2.2.2.2.2.2,a3.2)).bind fun a4=>
  some (.done (.done a4.2))
def vD (N:Nat) (s:((List (Int×Int×Int))×Int×Int×(List (Int×Int×Int))×Int×Int×(List (Int×Int))×Int×Int×Int×Int×Int)):Option (aS ((List (Int×Int×Int))×Int×Int×(List (Int×Int×Int))×Int×Int×(List (Int×Int))×Int×Int×Int×Int×Int) (List (Int×Int))):=
 bif decide (s.2.2.2.2.2.1<s.2.2.2.2.1) then
  (aL s.2.2.2.1 s.2.2.2.2.2.1).bind fun a0=>
  ((cP N) a0 s.2.2.2.2.2.2.2.2.2 (s.2.2.2.2.2.2.2.1,s.2.2.2.2.2.2.2.2.1)).bind fun a1=>
  bif a1.1 then
   some (.next (s.1,s.2.1,s.2.2.1,s.2.2.2.1,s.2.2.2.2.1,aA .i64 (s.2.2.2.2.2.1+1),s.2.2.2.2.2.2.1,s.2.2.2.2.2.2.2.1,s.2.2.2.2.2.2.2.2.1,a0))
  else
   some (.next (s.1,s.2.1,s.2.2.1,s.2.2.2.1,s.2.2.2.2.1,aA .i64 (s.2.2.2.2.2.1+1),s.2.2.2.2.2.2))
 else
  (aO N) (vC N) (s.2.2.1,s.1,aa s.1.length,0,nW s.2.2.2.2.2.2.1 s.2.2.2.2.2.2.2.2.2.1 s.2.1,s.2.2.2.2.2.2.2.1,s.2.2.2.2.2.2.2.2.1,s.2.2.2.2.2.2.2.2.2.1,s.2.2.2.2.2.2.2.2.2.2.1,s.2.2.2.2.2.2.2.2.2.2.2,[],[])
def wS (N:Nat) (_:((List (Int×Int×Int))×Int×Int×Int×Int×(List (Int×Int)))->Option (List (Int×Int))) (a:((List (Int×Int×Int))×Int×Int×Int×Int×(List (Int×Int)))):Option (List (Int×Int)):=
 bif (aa a.1.length)==0 then
  some a.2.2.2.2.2
 else
  (aL a.1 0).bind fun a0=>
  (fI a.1 1 (aa a.1.length)).bind fun l1=>
  (aO N) (vD N) (a.1,a.2.2.2.1,a.2.2.2.2.1,l1,aa l1.length,0,a.2.2.2.2.2,a.2.1,a.2.2.1,a0)
def gK (N:Nat):Nat->((List (Int×Int×Int))×Int×Int×Int×Int×(List (Int×Int)))->Option (List (Int×Int))
 |0,_=>none
 |n+1,a=>(wS N) ((gK N) n) a
def pQ (N:Nat) (a:((List (Int×Int×Int))×Int×Int×Int×Int×(List (Int×Int)))):Option (List (Int×Int)):=(gK N) 1000000 a
def Z9 (N:Nat):cA:=⟨[.l [.i .i64,.i .i64,.i .i64],.i,.i,.i,.i,.l [.i .i64,(.i .i64)]],[.sl [.i .i64,.i .i64,.i .i64] [],.agg [.int .i64 0,.int .i64 0],.int .i64 0,.int .i64 0,.mp 0],[.tab (.i .i64) []],[.l [.i .i64,(.i .i64)]],.tup [],[.tab (.i .i64) []],fun a=>(pQ N) a⟩
theorem HT (N:Nat): ∀n,eE tab 246 ⟨[.l [.i .i64,.i .i64,.i .i64],.i,.i,.i,.i,.l [.i .i64,(.i .i64)]],[.sl [.i .i64,.i .i64,.i .i64] [],.agg [.int .i64 0,.int .i64 0],.int .i64 0,.int .i64 0,.mp 0],[.tab (.i .i64) []],[.l [.i .i64,(.i .i64)]],.tup [],[.tab (.i .i64) []],fun a=>(gK N) n a⟩
 |0=>eE.zero (fun _=>rfl)
 |n+1=>eE.of UB (wd:=true) (cx:=(aN (aK N) [(281,(NB N))] [(246,⟨[.l [.i .i64,.i .i64,.i .i64],.i,.i,.i,.i,.l [.i .i64,(.i .i64)]],[.sl [.i .i64,.i .i64,.i .i64] [],.agg [.int .i64 0,.int .i64 0],.int .i64 0,.int .i64 0,.mp 0],[.tab (.i .i64) []],[.l [.i .i64,(.i .i64)]],.tup [],[.tab (.i .i64) []],fun a=>(gK N) n a⟩),(246,(SU N))] [] [])) (aM.make ⟨(pM N),trivial⟩ ⟨((HT N) n),(K8 N),trivial⟩ trivial) (fun a=>by kernel_rfl)
theorem XC (N:Nat):eE tab 246 (Z9 N):=(HT N) 1000000
def HU (_:Nat) (s:((List (Int×Int×Int))×Int×Int×(List (Int×Int))×(List Int)×(List (Int×Int)))):Option (aS ((List (Int×Int×Int))×Int×Int×(List (Int×Int))×(List Int)×(List (Int×Int))) ((List Int)×(List (Int×Int)))):=
 bif decide (s.2.2.1<s.2.1) then
  (aL s.1 s.2.2.1).bind fun a0=>
  (aR s.2.2.2.2.1 [qS 0 s.2.2.2.1 a0.1]).bind fun l1=>
  bif decide (0<=(qS 0 s.2.2.2.1 a0.1)) then
   (aR s.2.2.2.2.2 [(a0.1,qS 0 s.2.2.2.1 a0.1)]).bind fun l2=>
   some (.next (s.1,s.2.1,aA .i64 (s.2.2.1+1),s.2.2.2.1,l1,l2))
  else
   some (.next (s.1,s.2.1,aA .i64 (s.2.2.1+1),s.2.2.2.1,l1,s.2.2.2.2.2))
 else
  some (.done s.2.2.2.2)
def pR (N:Nat) (p0:Field) (p1:Int×Int):Option ((List Int)×(List (Int×Int))):=
 ((pQ N) (p0.points,p1.1,p1.2,-1,0,[])).bind fun l0=>
 (aO N) (HU N) (p0.points,aa p0.points.length,0,l0,[],[])
def aI9 (N:Nat):aV:=⟨aC.cons (aF.agg aT) (aC.one (aF.agg (bE.row cM))),aF.tup (aC.cons (aF.sl ki) (aC.one (aF.sl cM))),fun a=>(pR N) a.1 a.2,.frz,false⟩
theorem NF (N:Nat):aB tab 150 (aI9 N):=aB.of aFV (cx:=(aN (aK N) [] [(246,(SU N)),(246,(Z9 N))] [] [])) rfl (aM.make trivial ⟨(K8 N),(XC N),trivial⟩ trivial) (fun a=>by kernel_rfl)
def EK (N:Nat) (s:((List (Int×Int))×(List (Int×Int×Int))×Int×Int)):Option (aS ((List (Int×Int))×(List (Int×Int×Int))×Int×Int) Int):=
 bif decide (s.2.2.2<s.2.2.1) then
  (aL s.2.1 s.2.2.2).bind fun a0=>
  ((cL N) s.1 a0.2).bind fun b1=>
  bif !b1 then
   some (.done 8)
  else
   some (.next (s.1,s.2.1,s.2.2.1,aA .i64 (s.2.2.2+1)))
 else
  some (.done 0)
def jH (N:Nat) (p0:bA):Option Int:=
 ((fC N) p0.clock).bind fun n0=>
 bif n0 !=0 then
  some 8
 else
  ((pR N) p0.clock.field p0.clock.now).bind fun a1=>
  ((lV N) a1.1 p0.up).bind fun b2=>
  bif !b2 then
   some 8
  else
   bif (aa a1.2.length) !=(aa p0.clock.certs.list.length) then
    some 8
   else
    (aO N) (EK N) (a1.2,p0.clock.certs.list,aa p0.clock.certs.list.length,0)
def XD (N:Nat):aV:=⟨aC.one (aF.agg cY),aF.int .i64,fun a=>(jH N) a,.pure,false⟩
theorem A4 (N:Nat):aB tab 140 (XD N):=aB.of aFL (cx:=(aN (aK N) [(81,(c81 N)),(150,(aI9 N)),(87,(c87 N)),(153,(NA N))] [] [] [])) rfl (aM.make ⟨(sL N),(NF N),(Z6 N),(pK N),trivial⟩ trivial trivial) (fun a=>by kernel_rfl)
def jI (_:Nat) (p0:aY):Option aG:=
 bif p0.tag==1 then
  some p0.heap.clock
 else
  bif p0.tag==2 then
   some p0.tourn.clock
  else
   bif p0.tag==3 then
    some p0.heater.clock
   else
    some p0.hanger.clock
def aRc (N:Nat):aV:=⟨aC.one (aF.agg cI),aF.agg bB,fun a=>(jI N) a,.frz,false⟩
theorem U0 (N:Nat):aB tab 104 (aRc N):=aB.of aFn (cx:=(aN (aK N) [] [] [] [])) rfl (aM.make trivial trivial trivial) (fun a=>by kernel_rfl)
def kS (N:Nat) (p0:Int×Int):Option Int:=
 ((cB N) p0).bind fun n0=>
 bif n0 !=0 then
  some n0
 else
  ((jC N) p0.1).bind fun n1=>
  bif decide (1073741824<n1) then
   some 2
  else
   bif decide (1024<p0.2) then
    some 2
   else
    some 0
def c71 (N:Nat):aV:=⟨aC.one (aF.agg (bE.row cM)),aF.int .i64,fun a=>(kS N) a,.pure,false⟩
theorem aAa (N:Nat):aB tab 71 (c71 N):=aB.of aQA (cx:=(aN (aK N) [(70,(Q9 N)),(142,(Z2 N))] [] [] [])) rfl (aM.make ⟨(kE N),(E6 N),trivial⟩ trivial trivial) (fun a=>by kernel_rfl)
def aX (N:Nat) (s:(Bool×Bool×Bool×Bool×Int×Int×Int×Int×(List (Int×Int×Int))×Int×(List (Int×Int×Int))×(List Int)×(List Bool)×(List Int)×(List (Int×Int×Int×Int×Int))×(List Int)×(List (Int×Int×Int))×(List Int)×Int×Int×(List (Int×Int×Int))×Int×(List (Int×Int×Int))×(List Int)×(List Bool)×(List Int)×(List (Int×Int×Int×Int×Int))×(List Int)×(List (Int×Int×Int))×(List Int)×(List Int)×Int×Int×(List (Int×Int×Int))×Int×(List (Int×Int×Int))×(List Int)×(List Bool)×(List Int)×(List (Int×Int×Int×Int×Int))×(List Int)×(List (Int×Int×Int))×Int×(List (Int×Int×Int))×Int×Int×(List (Int×Int×Int))×Int×(List (Int×Int×Int))×(List Int)×(List Bool)×(List Int)×(List (Int×Int×Int×Int×Int))×(List Int)×(List (Int×Int×Int))×(List Int))):Option (aS (Bool×Bool×Bool×Bool×Int×Int×Int×Int×(List (Int×Int×Int))×Int×(List (Int×Int×Int))×(List Int)×(List Bool)×(List Int)×(List (Int×Int×Int×Int×Int))×(List Int)×(List (Int×Int×Int))×(List Int)×Int×Int×(List (Int×Int×Int))×Int×(List (Int×Int×Int))×(List Int)×(List Bool)×(List Int)×(List (Int×Int×Int×Int×Int))×(List Int)×(List (Int×Int×Int))×(List Int)×(List Int)×Int×Int×(List (Int×Int×Int))×Int×(List (Int×Int×Int))×(List Int)×(List Bool)×(List Int)×(List (Int×Int×Int×Int×Int))×(List Int)×(List (Int×Int×Int))×Int×(List (Int×Int×Int))×Int×Int×(List (Int×Int×Int))×Int×(List (Int×Int×Int))×(List Int)×(List Bool)×(List Int)×(List (Int×Int×Int×Int×Int))×(List Int)×(List (Int×Int×Int))×(List Int)) Int):=
 bif decide (s.2.2.2.2.1<4) then
  bif s.2.2.2.2.1==0 then
   bif s.1 then
    bif (aA .i64 (s.2.2.2.2.1+1)) !=(aA .i64 s.2.2.2.2.2.1) then
     some (.done 8)
    else
     some (.next (s.1,s.2.1,s.2.2.1,s.2.2.2.1,aA .i64 (s.2.2.2.2.1+1),s.2.2.2.2.2))
   else
    some (.next (s.1,s.2.1,s.2.2.1,s.2.2.2.1,aA .i64 (s.2.2.2.2.1+1),s.2.2.2.2.2))
  else
   bif s.2.2.2.2.1==1 then
    bif s.2.1 then
     bif (aA .i64 (s.2.2.2.2.1+1)) !=(aA .i64 s.2.2.2.2.2.1) then
      some (.done 8)
     else
      some (.next (s.1,s.2.1,s.2.2.1,s.2.2.2.1,aA .i64 (s.2.2.2.2.1+1),s.2.2.2.2.2))
    else
     some (.next (s.1,s.2.1,s.2.2.1,s.2.2.2.1,aA .i64 (s.2.2.2.2.1+1),s.2.2.2.2.2))
   else
    bif s.2.2.2.2.1==2 then
     bif s.2.2.1 then
      bif (aA .i64 (s.2.2.2.2.1+1)) !=(aA .i64 s.2.2.2.2.2.1) then
       some (.done 8)
      else
       some (.next (s.1,s.2.1,s.2.2.1,s.2.2.2.1,aA .i64 (s.2.2.2.2.1+1),s.2.2.2.2.2))
     else
      some (.next (s.1,s.2.1,s.2.2.1,s.2.2.2.1,aA .i64 (s.2.2.2.2.1+1),s.2.2.2.2.2))
    else
     bif s.2.2.2.2.1==3 then
      bif s.2.2.2.1 then
       bif (aA .i64 (s.2.2.2.2.1+1)) !=(aA .i64 s.2.2.2.2.2.1) then
        some (.done 8)
       else
        some (.next (s.1,s.2.1,s.2.2.1,s.2.2.2.1,aA .i64 (s.2.2.2.2.1+1),s.2.2.2.2.2))
      else
       some (.next (s.1,s.2.1,s.2.2.1,s.2.2.2.1,aA .i64 (s.2.2.2.2.1+1),s.2.2.2.2.2))
     else
      none
 else
  bif s.2.2.2.2.2.1==1 then
   ((kR N) (bH.mk (aG.mk (s.2.2.2.2.2.2.1,s.2.2.2.2.2.2.2.1) (Field.mk s.2.2.2.2.2.2.2.2.1) (aI.mk s.2.2.2.2.2.2.2.2.2.1 s.2.2.2.2.2.2.2.2.2.2.1) (aE.mk (aH.mk s.2.2.2.2.2.2.2.2.2.2.2.1 s.2.2.2.2.2.2.2.2.2.2.2.2.1 s.2.2.2.2.2.2.2.2.2.2.2.2.2.1) s.2.2.2.2.2.2.2.2.2.2.2.2.2.2.1 s.2.2.2.2.2.2.2.2.2.2.2.2.2.2.2.1) s.2.2.2.2.2.2.2.2.2.2.2.2.2.2.2.2.1) s.2.2.2.2.2.2.2.2.2.2.2.2.2.2.2.2.2.1)).bind fun n0=>
   bif n0 !=0 then
    some (.done 8)
   else
    ((jI N) (aY.mk s.2.2.2.2.2.1 (bH.mk (aG.mk (s.2.2.2.2.2.2.1,s.2.2.2.2.2.2.2.1) (Field.mk s.2.2.2.2.2.2.2.2.1) (aI.mk s.2.2.2.2.2.2.2.2.2.1 s.2.2.2.2.2.2.2.2.2.2.1) (aE.mk (aH.mk s.2.2.2.2.2.2.2.2.2.2.2.1 s.2.2.2.2.2.2.2.2.2.2.2.2.1 s.2.2.2.2.2.2.2.2.2.2.2.2.2.1) s.2.2.2.2.2.2.2.2.2.2.2.2.2.2.1 s.2.2.2.2.2.2.2.2.2.2.2.2.2.2.2.1) s.2.2.2.2.2.2.2.2.2.2.2.2.2.2.2.2.1) s.2.2.2.2.2.2.2.2.2.2.2.2.2.2.2.2.2.1) (bC.mk (aG.mk (s.2.2.2.2.2.2.2.2.2.2.2.2.2.2.2.2.2.2.1,s.2.2.2.2.2.2.2.2.2.2.2.2.2.2.2.2.2.2.2.1) (Field.mk s.2.2.2.2.2.2.2.2.2.2.2.2.2.2.2.2.2.2.2.2.1) (aI.mk s.2.2.2.2.2.2.2.2.2.2.2.2.2.2.2.2.2.2.2.2.2.1 s.2.2.2.2.2.2.2.2.2.2.2.2.2.2.2.2.2.2.2.2.2.2.1) (aE.mk (aH.mk s.2.2.2.2.2.2.2.2.2.2.2.2.2.2.2.2.2.2.2.2.2.2.2.1 s.2.2.2.2.2.2.2.2.2.2.2.2.2.2.2.2.2.2.2.2.2.2.2.2.1 s.2.2.2.2.2.2.2.2.2.2.2.2.2.2.2.2.2.2.2.2.2.2.2.2.2.1) s.2.2.2.2.2.2.2.2.2.2.2.2.2.2.2.2.2.2.2.2.2.2.2.2.2.2.1 s.2.2.2.2.2.2.2.2.2.2.2.2.2.2.2.2.2.2.2.2.2.2.2.2.2.2.2.1) s.2.2.2.2.2.2.2.2.2.2.2.2.2.2.2.2.2.2.2.2.2.2.2.2.2.2.2.2.1) (aQ.mk s.2.2.2.2.2.2.2.2.2.2.2.2.2.2.2.2.2.2.2.2.2.2.2.2.2.2.2.2.2.1 s.2.2.2.2.2.2.2.2.2.2.2.2.2.2.2.2.2.2.2.2.2.2.2.2.2.2.2.2.2.2.1)) (aW.mk (aG.mk (s.2.2.2.2.2.2.2.2.2.2.2.2.2.2.2.2.2.2.2.2.2.2.2.2.2.2.2.2.2.2.2.1,s.2.2.2.2.2.2.2.2.2.2.2.2.2.2.2.2.2.2.2.2.2.2.2.2.2.2.2.2.2.2.2.2.1) (Field.mk s.2.2.2.2.2.2.2.2.2.2.2.2.2.2.2.2.2.2.2.2.2.2.2.2.2.2.2.2.2.2.2.2.2.1) (aI.mk s.2.2.2.2.2.2.2.2.2.2.2.2.2.2.2.2.2.2.2.2.2.2.2.2.2.2.2.2.2.2.2.2.2.2.1 s.2.2.2.2.2.2.2.2.2.2.2.2.2.2.2.2.2.2.2.2.2.2.2.2.2.2.2.2.2.2.2.2.2.2.2.1) (aE.mk (aH.mk s.2.2.2.2.2.2.2.2.2.2.2.2.2.2.2.2.2.2.2.2.2.2.2.2.2.2.2.2.2.2.2.2.2.2.2.2.1 s.2.2.2.2.2.2.2.2.2.2.2.2.2.2.2.2.2.2.2.2.2.2.2.2.2.2.2.2.2.2.2.2.2.2.2.2.2.1 s.2.2.2.2.2.2.2.2.2.2.2.2.2.2.2.2.2.2.2.2.2.2.2.2.2.2.2.2.2.2.2.2.2.2.2.2.2.2.1) s.2.2.2.2.2.2.2.2.2.2.2.2.2.2.2.2.2.2.2.2.2.2.2.2.2.2.2.2.2.2.2.2.2.2.2.2.2.2.2.1 s.2.2.2.2.2.2.2.2.2.2.2.2.2.2.2.2.2.2.2.2.2.2.2.2.2.2.2.2.2.2.2.2.2.2.2.2.2.2.2.2.1) s.2.2.2.2.2.2.2.2.2.2.2.2.2.2.2.2.2.2.2.2.2.2.2.2.2.2.2.2.2.2.2.2.2.2.2.2.2.2.2.2.2.1) (cK.mk s.2.2.2.2.2.2.2.2.2.2.2.2.2.2.2.2.2.2.2.2.2.2.2.2.2.2.2.2.2.2.2.2.2.2.2.2.2.2.2.2.2.2.1 s.2.2.2.2.2.2.2.2.2.2.2.2.2.2.2.2.2.2.2.2.2.2.2.2.2.2.2.2.2.2.2.2.2.2.2.2.2.2.2.2.2.2.2.1)) (bA.mk (aG.mk (s.2.2.2.2.2.2.2.2.2.2.2.2.2.2.2.2.2.2.2.2.2.2.2.2.2.2.2.2.2.2.2.2.2.2.2.2.2.2.2.2.2.2.2.2.1,s.2.2.2.2.2.2.2.2.2.2.2.2.2.2.2.2.2.2.2.2.2.2.2.2.2.2.2.2.2.2.2.2.2.2.2.2.2.2.2.2.2.2.2.2.2.1) (Field.mk s.2.2.2.2.2.2.2.2.2.2.2.2.2.2.2.2.2.2.2.2.2.2.2.2.2.2.2.2.2.2.2.2.2.2.2.2.2.2.2.2.2.2.2.2.2.2.1) (aI.mk s.2.2.2.2.2.2.2.2.2.2.2.2.2.2.2.2.2.2.2.2.2.2.2.2.2.2.2.2.2.2.2.2.2.2.2.2.2.2.2.2.2.2.2.2.2.2.2.1 s.2.2.2.2.2.2.2.2.2.2.2.2.2.2.2.2.2.2.2.2.2.2.2.2.2.2.2.2.2.2.2.2.2.2.2.2.2.2.2.2.2.2.2.2.2.2.2.2.1) (aE.mk (aH.mk s.2.2.2.2.2.2.2.2.2.2.2.2.2.2.2.2.2.2.2.2.2.2.2.2.2.2.2.2.2.2.2.2.2.2.2.2.2.2.2.2.2.2.2.2.2.2.2.2.2.1 s.2.2.2.2.2.2.2.2.2.2.2.2.2.2.2.2.2.2.2.2.2.2.2.2.2.2.2.2.2.2.2.2.2.2.2.2.2.2.2.2.2.2.2.2.2.2.2.2.2.2.1 s.2.2.2.2.2.2.2.2.2.2.2.2.2.2.2.2.2.2.2.2.2.2.2.2.2.2.2.2.2.2.2.2.2.2.2.2.2.2.2.2.2.2.2.2.2.2.2.2.2.2.2.1) s.2.2.2.2.2.2.2.2.2.2.2.2.2.2.2.2.2.2.2.2.2.2.2.2.2.2.2.2.2.2.2.2.2.2.2.2.2.2.2.2.2.2.2.2.2.2.2.2.2.2.2.2.1 s.2.2.2.2.2.2.2.2.2.2.2.2.2.2.2.2.2.2.2.2.2.2.2.2.2.2.2.2.2.2.2.2.2.2.2.2.2.2.2.2.2.2.2.2.2.2.2.2.2.2.2.2.2.1) s.2.2.2.2.2.2.2.2.2.2.2.2.2.2.2.2.2.2.2.2.2.2.2.2.2.2.2.2.2.2.2.2.2.2.2.2.2.2.2.2.2.2.2.2.2.2.2.2.2.2.2.2.2.2.1) s.2.2.2.2.2.2.2.2.2.2.2.2.2.2.2.2.2.2.2.2.2.2.2.2.2.2.2.2.2.2.2.2.2.2.2.2.2.2.2.2.2.2.2.2.2.2.2.2.2.2.2.2.2.2.2))).bind fun r1=>
    ((kS N) r1.now).bind fun n2=>
    bif n2 !=0 then
     some (.done 8)
    else
     some (.done 0)
  else
   bif s.2.2.2.2.2.1==2 then
    ((jF N) (bC.mk (aG.mk (s.2.2.2.2.2.2.2.2.2.2.2.2.2.2.2.2.2.2.1,s.2.2.2.2.2.2.2.2.2.2.2.2.2.2.2.2.2.2.2.1) (Field.mk s.2.2.2.2.2.2.2.2.2.2.2.2.2.2.2.2.2.2.2.2.1) (aI.mk s.2.2.2.2.2.2.2.2.2.2.2.2.2.2.2.2.2.2.2.2.2.1 s.2.2.2.2.2.2.2.2.2.2.2.2.2.2.2.2.2.2.2.2.2.2.1) (aE.mk (aH.mk s.2.2.2.2.2.2.2.2.2.2.2.2.2.2.2.2.2.2.2.2.2.2.2.1 s.2.2.2.2.2.2.2.2.2.2.2.2.2.2.2.2.2.2.2.2.2.2.2.2.1 s.2.2.2.2.2.2.2.2.2.2.2.2.2.2.2.2.2.2.2.2.2.2.2.2.2.1) s.2.2.2.2.2.2.2.2.2.2.2.2.2.2.2.2.2.2.2.2.2.2.2.2.2.2.1 s.2.2.2.2.2.2.2.2.2.2.2.2.2.2.2.2.2.2.2.2.2.2.2.2.2.2.2.1) s.2.2.2.2.2.2.2.2.2.2.2.2.2.2.2.2.2.2.2.2.2.2.2.2.2.2.2.2.1) (aQ.mk s.2.2.2.2.2.2.2.2.2.2.2.2.2.2.2.2.2.2.2.2.2.2.2.2.2.2.2.2.2.1 s.2.2.2.2.2.2.2.2.2.2.2.2.2.2.2.2.2.2.2.2.2.2.2.2.2.2.2.2.2.2.1))).bind fun n3=>
    bif n3 !=0 then
     some (.done 8)
    else
     ((jI N) (aY.mk s.2.2.2.2.2.1 (bH.mk (aG.mk (s.2.2.2.2.2.2.1,s.2.2.2.2.2.2.2.1) (Field.mk s.2.2.2.2.2.2.2.2.1) (aI.mk s.2.2.2.2.2.2.2.2.2.1 s.2.2.2.2.2.2.2.2.2.2.1) (aE.mk (aH.mk s.2.2.2.2.2.2.2.2.2.2.2.1 s.2.2.2.2.2.2.2.2.2.2.2.2.1 s.2.2.2.2.2.2.2.2.2.2.2.2.2.1) s.2.2.2.2.2.2.2.2.2.2.2.2.2.2.1 s.2.2.2.2.2.2.2.2.2.2.2.2.2.2.2.1) s.2.2.2.2.2.2.2.2.2.2.2.2.2.2.2.2.1) s.2.2.2.2.2.2.2.2.2.2.2.2.2.2.2.2.2.1) (bC.mk (aG.mk (s.2.2.2.2.2.2.2.2.2.2.2.2.2.2.2.2.2.2.1,s.2.2.2.2.2.2.2.2.2.2.2.2.2.2.2.2.2.2.2.1) (Field.mk s.2.2.2.2.2.2.2.2.2.2.2.2.2.2.2.2.2.2.2.2.1) (aI.mk s.2.2.2.2.2.2.2.2.2.2.2.2.2.2.2.2.2.2.2.2.2.1 s.2.2.2.2.2.2.2.2.2.2.2.2.2.2.2.2.2.2.2.2.2.2.1) (aE.mk (aH.mk s.2.2.2.2.2.2.2.2.2.2.2.2.2.2.2.2.2.2.2.2.2.2.2.1 s.2.2.2.2.2.2.2.2.2.2.2.2.2.2.2.2.2.2.2.2.2.2.2.2.1 s.2.2.2.2.2.2.2.2.2.2.2.2.2.2.2.2.2.2.2.2.2.2.2.2.2.1) s.2.2.2.2.2.2.2.2.2.2.2.2.2.2.2.2.2.2.2.2.2.2.2.2.2.2.1 s.2.2.2.2.2.2.2.2.2.2.2.2.2.2.2.2.2.2.2.2.2.2.2.2.2.2.2.1) s.2.2.2.2.2.2.2.2.2.2.2.2.2.2.2.2.2.2.2.2.2.2.2.2.2.2.2.2.1) (aQ.mk s.2.2.2.2.2.2.2.2.2.2.2.2.2.2.2.2.2.2.2.2.2.2.2.2.2.2.2.2.2.1 s.2.2.2.2.2.2.2.2.2.2.2.2.2.2.2.2.2.2.2.2.2.2.2.2.2.2.2.2.2.2.1)) (aW.mk (aG.mk (s.2.2.2.2.2.2.2.2.2.2.2.2.2.2.2.2.2.2.2.2.2.2.2.2.2.2.2.2.2.2.2.1,s.2.2.2.2.2.2.2.2.2.2.2.2.2.2.2.2.2.2.2.2.2.2.2.2.2.2.2.2.2.2.2.2.1) (Field.mk s.2.2.2.2.2.2.2.2.2.2.2.2.2.2.2.2.2.2.2.2.2.2.2.2.2.2.2.2.2.2.2.2.2.1) (aI.mk s.2.2.2.2.2.2.2.2.2.2.2.2.2.2.2.2.2.2.2.2.2.2.2.2.2.2.2.2.2.2.2.2.2.2.1 s.2.2.2.2.2.2.2.2.2.2.2.2.2.2.2.2.2.2.2.2.2.2.2.2.2.2.2.2.2.2.2.2.2.2.2.1) (aE.mk (aH.mk s.2.2.2.2.2.2.2.2.2.2.2.2.2.2.2.2.2.2.2.2.2.2.2.2.2.2.2.2.2.2.2.2.2.2.2.2.1 s.2.2.2.2.2.2.2.2.2.2.2.2.2.2.2.2.2.2.2.2.2.2.2.2.2.2.2.2.2.2.2.2.2.2.2.2.2.1 s.2.2.2.2.2.2.2.2.2.2.2.2.2.2.2.2.2.2.2.2.2.2.2.2.2.2.2.2.2.2.2.2.2.2.2.2.2.2.1) s.2.2.2.2.2.2.2.2.2.2.2.2.2.2.2.2.2.2.2.2.2.2.2.2.2.2.2.2.2.2.2.2.2.2.2.2.2.2.2.1 s.2.2.2.2.2.2.2.2.2.2.2.2.2.2.2.2.2.2.2.2.2.2.2.2.2.2.2.2.2.2.2.2.2.2.2.2.2.2.2.2.1) s.2.2.2.2.2.2.2.2.2.2.2.2.2.2.2.2.2.2.2.2.2.2.2.2.2.2.2.2.2.2.2.2.2.2.2.2.2.2.2.2.2.1) (cK.mk s.2.2.2.2.2.2.2.2.2.2.2.2.2.2.2.2.2.2.2.2.2.2.2.2.2.2.2.2.2.2.2.2.2.2.2.2.2.2.2.2.2.2.1 s.2.2.2.2.2.2.2.2.2.2.2.2.2.2.2.2.2.2.2.2.2.2.2.2.2.2.2.2.2.2.2.2.2.2.2.2.2.2.2.2.2.2.2.1)) (bA.mk (aG.mk (s.2.2.2.2.2.2.2.2.2.2.2.2.2.2.2.2.2.2.2.2.2.2.2.2.2.2.2.2.2.2.2.2.2.2.2.2.2.2.2.2.2.2.2.2.1,s.2.2.2.2.2.2.2.2.2.2.2.2.2.2.2.2.2.2.2.2.2.2.2.2.2.2.2.2.2.2.2.2.2.2.2.2.2.2.2.2.2.2.2.2.2.1) (Field.mk s.2.2.2.2.2.2.2.2.2.2.2.2.2.2.2.2.2.2.2.2.2.2.2.2.2.2.2.2.2.2.2.2.2.2.2.2.2.2.2.2.2.2.2.2.2.2.1) (aI.mk s.2.2.2.2.2.2.2.2.2.2.2.2.2.2.2.2.2.2.2.2.2.2.2.2.2.2.2.2.2.2.2.2.2.2.2.2.2.2.2.2.2.2.2.2.2.2.2.1 s.2.2.2.2.2.2.2.2.2.2.2.2.2.2.2.2.2.2.2.2.2.2.2.2.2.2.2.2.2.2.2.2.2.2.2.2.2.2.2.2.2.2.2.2.2.2.2.2.1) (aE.mk (aH.mk s.2.2.2.2.2.2.2.2.2.2.2.2.2.2.2.2.2.2.2.2.2.2.2.2.2.2.2.2.2.2.2.2.2.2.2.2.2.2.2.2.2.2.2.2.2.2.2.2.2.1 s.2.2.2.2.2.2.2.2.2.2.2.2.2.2.2.2.2.2.2.2.2.2.2.2.2.2.2.2.2.2.2.2.2.2.2.2.2.2.2.2.2.2.2.2.2.2.2.2.2.2.1 s.2.2.2.2.2.2.2.2.2.2.2.2.2.2.2.2.2.2.2.2.2.2.2.2.2.2.2.2.2.2.2.2.2.2.2.2.2.2.2.2.2.2.2.2.2.2.2.2.2.2.2.1) s.2.2.2.2.2.2.2.2.2.2.2.2.2.2.2.2.2.2.2.2.2.2.2.2.2.2.2.2.2.2.2.2.2.2.2.2.2.2.2.2.2.2.2.2.2.2.2.2.2.2.2.2.1 s.2.2.2.2.2.2.2.2.2.2.2.2.2.2.2.2.2.2.2.2.2.2.2.2.2.2.2.2.2.2.2.2.2.2.2.2.2.2.2.2.2.2.2.2.2.2.2.2.2.2.2.2.2.1) s.2.2.2.2.2.2.2.2.2.2.2.2.2.2.2.2.2.2.2.2.2.2.2.2.2.2.2.2.2.2.2.2.2.2.2.2.2.2.2.2.2.2.2.2.2.2.2.2.2.2.2.2.2.2.1) s.2.2.2.2.2.2.2.2.2.2.2.2.2.2.2.2.2.2.2.2.2.2.2.2.2.2.2.2.2.2.2.2.2.2.2.2.2.2.2.2.2.2.2.2.2.2.2.2.2.2.2.2.2.2.2))).bind fun r4=>
     ((kS N) r4.now).bind fun n5=>
     bif n5 !=0 then
      some (.done 8)
     else
      some (.done 0)
   else
    bif s.2.2.2.2.2.1==3 then
     ((jG N) (aW.mk (aG.mk (s.2.2.2.2.2.2.2.2.2.2.2.2.2.2.2.2.2.2.2.2.2.2.2.2.2.2.2.2.2.2.2.1,s.2.2.2.2.2.2.2.2.2.2.2.2.2.2.2.2.2.2.2.2.2.2.2.2.2.2.2.2.2.2.2.2.1) (Field.mk s.2.2.2.2.2.2.2.2.2.2.2.2.2.2.2.2.2.2.2.2.2.2.2.2.2.2.2.2.2.2.2.2.2.1) (aI.mk s.2.2.2.2.2.2.2.2.2.2.2.2.2.2.2.2.2.2.2.2.2.2.2.2.2.2.2.2.2.2.2.2.2.2.1 s.2.2.2.2.2.2.2.2.2.2.2.2.2.2.2.2.2.2.2.2.2.2.2.2.2.2.2.2.2.2.2.2.2.2.2.1) (aE.mk (aH.mk s.2.2.2.2.2.2.2.2.2.2.2.2.2.2.2.2.2.2.2.2.2.2.2.2.2.2.2.2.2.2.2.2.2.2.2.2.1 s.2.2.2.2.2.2.2.2.2.2.2.2.2.2.2.2.2.2.2.2.2.2.2.2.2.2.2.2.2.2.2.2.2.2.2.2.2.1 s.2.2.2.2.2.2.2.2.2.2.2.2.2.2.2.2.2.2.2.2.2.2.2.2.2.2.2.2.2.2.2.2.2.2.2.2.2.2.1) s.2.2.2.2.2.2.2.2.2.2.2.2.2.2.2.2.2.2.2.2.2.2.2.2.2.2.2.2.2.2.2.2.2.2.2.2.2.2.2.1 s.2.2.2.2.2.2.2.2.2.2.2.2.2.2.2.2.2.2.2.2.2.2.2.2.2.2.2.2.2.2.2.2.2.2.2.2.2.2.2.2.1) s.2.2.2.2.2.2.2.2.2.2.2.2.2.2.2.2.2.2.2.2.2.2.2.2.2.2.2.2.2.2.2.2.2.2.2.2.2.2.2.2.2.1) (cK.mk s.2.2.2.2.2.2.2.2.2.2.2.2.2.2.2.2.2.2.2.2.2.2.2.2.2.2.2.2.2.2.2.2.2.2.2.2.2.2.2.2.2.2.1 s.2.2.2.2.2.2.2.2.2.2.2.2.2.2.2.2.2.2.2.2.2.2.2.2.2.2.2.2.2.2.2.2.2.2.2.2.2.2.2.2.2.2.2.1))).bind fun n6=>
     bif n6 !=0 then
      some (.done 8)
     else
      ((jI N) (aY.mk s.2.2.2.2.2.1 (bH.mk (aG.mk (s.2.2.2.2.2.2.1,s.2.2.2.2.2.2.2.1) (Field.mk s.2.2.2.2.2.2.2.2.1) (aI.mk s.2.2.2.2.2.2.2.2.2.1 s.2.2.2.2.2.2.2.2.2.2.1) (aE.mk (aH.mk s.2.2.2.2.2.2.2.2.2.2.2.1 s.2.2.2.2.2.2.2.2.2.2.2.2.1 s.2.2.2.2.2.2.2.2.2.2.2.2.2.1) s.2.2.2.2.2.2.2.2.2.2.2.2.2.2.1 s.2.2.2.2.2.2.2.2.2.2.2.2.2.2.2.1) s.2.2.2.2.2.2.2.2.2.2.2.2.2.2.2.2.1) s.2.2.2.2.2.2.2.2.2.2.2.2.2.2.2.2.2.1) (bC.mk (aG.mk (s.2.2.2.2.2.2.2.2.2.2.2.2.2.2.2.2.2.2.1,s.2.2.2.2.2.2.2.2.2.2.2.2.2.2.2.2.2.2.2.1) (Field.mk s.2.2.2.2.2.2.2.2.2.2.2.2.2.2.2.2.2.2.2.2.1) (aI.mk s.2.2.2.2.2.2.2.2.2.2.2.2.2.2.2.2.2.2.2.2.2.1 s.2.2.2.2.2.2.2.2.2.2.2.2.2.2.2.2.2.2.2.2.2.2.1) (aE.mk (aH.mk s.2.2.2.2.2.2.2.2.2.2.2.2.2.2.2.2.2.2.2.2.2.2.2.1 s.2.2.2.2.2.2.2.2.2.2.2.2.2.2.2.2.2.2.2.2.2.2.2.2.1 s.2.2.2.2.2.2.2.2.2.2.2.2.2.2.2.2.2.2.2.2.2.2.2.2.2.1) s.2.2.2.2.2.2.2.2.2.2.2.2.2.2.2.2.2.2.2.2.2.2.2.2.2.2.1 s.2.2.2.2.2.2.2.2.2.2.2.2.2.2.2.2.2.2.2.2.2.2.2.2.2.2.2.1) s.2.2.2.2.2.2.2.2.2.2.2.2.2.2.2.2.2.2.2.2.2.2.2.2.2.2.2.2.1) (aQ.mk s.2.2.2.2.2.2.2.2.2.2.2.2.2.2.2.2.2.2.2.2.2.2.2.2.2.2.2.2.2.1 s.2.2.2.2.2.2.2.2.2.2.2.2.2.2.2.2.2.2.2.2.2.2.2.2.2.2.2.2.2.2.1)) (aW.mk (aG.mk (s.2.2.2.2.2.2.2.2.2.2.2.2.2.2.2.2.2.2.2.2.2.2.2.2.2.2.2.2.2.2.2.1,s.2.2.2.2.2.2.2.2.2.2.2.2.2.2.2.2.2.2.2.2.2.2.2.2.2.2.2.2.2.2.2.2.1) (Field.mk s.2.2.2.2.2.2.2.2.2.2.2.2.2.2.2.2.2.2.2.2.2.2.2.2.2.2.2.2.2.2.2.2.2.1) (aI.mk s.2.2.2.2.2.2.2.2.2.2.2.2.2.2.2.2.2.2.2.2.2.2.2.2.2.2.2.2.2.2.2.2.2.2.1 s.2.2.2.2.2.2.2.2.2.2.2.2.2.2.2.2.2.2.2.2.2.2.2.2.2.2.2.2.2.2.2.2.2.2.2.1) (aE.mk (aH.mk s.2.2.2.2.2.2.2.2.2.2.2.2.2.2.2.2.2.2.2.2.2.2.2.2.2.2.2.2.2.2.2.2.2.2.2.2.1 s.2.2.2.2.2.2.2.2.2.2.2.2.2.2.2.2.2.2.2.2.2.2.2.2.2.2.2.2.2.2.2.2.2.2.2.2.2.1 s.2.2.2.2.2.2.2.2.2.2.2.2.2.2.2.2.2.2.2.2.2.2.2.2.2.2.2.2.2.2.2.2.2.2.2.2.2.2.1) s.2.2.2.2.2.2.2.2.2.2.2.2.2.2.2.2.2.2.2.2.2.2.2.2.2.2.2.2.2.2.2.2.2.2.2.2.2.2.2.1 s.2.2.2.2.2.2.2.2.2.2.2.2.2.2.2.2.2.2.2.2.2.2.2.2.2.2.2.2.2.2.2.2.2.2.2.2.2.2.2.2.1) s.2.2.2.2.2.2.2.2.2.2.2.2.2.2.2.2.2.2.2.2.2.2.2.2.2.2.2.2.2.2.2.2.2.2.2.2.2.2.2.2.2.1) (cK.mk s.2.2.2.2.2.2.2.2.2.2.2.2.2.2.2.2.2.2.2.2.2.2.2.2.2.2.2.2.2.2.2.2.2.2.2.2.2.2.2.2.2.2.1 s.2.2.2.2.2.2.2.2.2.2.2.2.2.2.2.2.2.2.2.2.2.2.2.2.2.2.2.2.2.2.2.2.2.2.2.2.2.2.2.2.2.2.2.1)) (bA.mk (aG.mk (s.2.2.2.2.2.2.2.2.2.2.2.2.2.2.2.2.2.2.2.2.2.2.2.2.2.2.2.2.2.2.2.2.2.2.2.2.2.2.2.2.2.2.2.2.1,s.2.2.2.2.2.2.2.2.2.2.2.2.2.2.2.2.2.2.2.2.2.2.2.2.2.2.2.2.2.2.2.2.2.2.2.2.2.2.2.2.2.2.2.2.2.1) (Field.mk s.2.2.2.2.2.2.2.2.2.2.2.2.2.2.2.2.2.2.2.2.2.2.2.2.2.2.2.2.2.2.2.2.2.2.2.2.2.2.2.2.2.2.2.2.2.2.1) (aI.mk s.2.2.2.2.2.2.2.2.2.2.2.2.2.2.2.2.2.2.2.2.2.2.2.2.2.2.2.2.2.2.2.2.2.2.2.2.2.2.2.2.2.2.2.2.2.2.2.1 s.2.2.2.2.2.2.2.2.2.2.2.2.2.2.2.2.2.2.2.2.2.2.2.2.2.2.2.2.2.2.2.2.2.2.2.2.2.2.2.2.2.2.2.2.2.2.2.2.1) (aE.mk (aH.mk s.2.2.2.2.2.2.2.2.2.2.2.2.2.2.2.2.2.2.2.2.2.2.2.2.2.2.2.2.2.2.2.2.2.2.2.2.2.2.2.2.2.2.2.2.2.2.2.2.2.1 s.2.2.2.2.2.2.2.2.2.2.2.2.2.2.2.2.2.2.2.2.2.2.2.2.2.2.2.2.2.2.2.2.2.2.2.2.2.2.2.2.2.2.2.2.2.2.2.2.2.2.1 s.2.2.2.2.2.2.2.2.2.2.2.2.2.2.2.2.2.2.2.2.2.2.2.2.2.2.2.2.2.2.2.2.2.2.2.2.2.2.2.2.2.2.2.2.2.2.2.2.2.2.2.1) s.2.2.2.2.2.2.2.2.2.2.2.2.2.2.2.2.2.2.2.2.2.2.2.2.2.2.2.2.2.2.2.2.2.2.2.2.2.2.2.2.2.2.2.2.2.2.2.2.2.2.2.2.1 s.2.2.2.2.2.2.2.2.2.2.2.2.2.2.2.2.2.2.2.2.2.2.2.2.2.2.2.2.2.2.2.2.2.2.2.2.2.2.2.2.2.2.2.2.2.2.2.2.2.2.2.2.2.1) s.2.2.2.2.2.2.2.2.2.2.2.2.2.2.2.2.2.2.2.2.2.2.2.2.2.2.2.2.2.2.2.2.2.2.2.2.2.2.2.2.2.2.2.2.2.2.2.2.2.2.2.2.2.2.1) s.2.2.2.2.2.2.2.2.2.2.2.2.2.2.2.2.2.2.2.2.2.2.2.2.2.2.2.2.2.2.2.2.2.2.2.2.2.2.2.2.2.2.2.2.2.2.2.2.2.2.2.2.2.2.2))).bind fun r7=>
      ((kS N) r7.now).bind fun n8=>
      bif n8 !=0 then
       some (.done 8)
      else
       some (.done 0)
    else
     bif s.2.2.2.2.2.1==4 then
      ((jH N) (bA.mk (aG.mk (s.2.2.2.2.2.2.2.2.2.2.2.2.2.2.2.2.2.2.2.2.2.2.2.2.2.2.2.2.2.2.2.2.2.2.2.2.2.2.2.2.2.2.2.2.1,s.2.2.2.2.2.2.2.2.2.2.2.2.2.2.2.2.2.2.2.2.2.2.2.2.2.2.2.2.2.2.2.2.2.2.2.2.2.2.2.2.2.2.2.2.2.1) (Field.mk s.2.2.2.2.2.2.2.2.2.2.2.2.2.2.2.2.2.2.2.2.2.2.2.2.2.2.2.2.2.2.2.2.2.2.2.2.2.2.2.2.2.2.2.2.2.2.1) (aI.mk s.2.2.2.2.2.2.2.2.2.2.2.2.2.2.2.2.2.2.2.2.2.2.2.2.2.2.2.2.2.2.2.2.2.2.2.2.2.2.2.2.2.2.2.2.2.2.2.1 s.2.2.2.2.2.2.2.2.2.2.2.2.2.2.2.2.2.2.2.2.2.2.2.2.2.2.2.2.2.2.2.2.2.2.2.2.2.2.2.2.2.2.2.2.2.2.2.2.1) (aE.mk (aH.mk s.2.2.2.2.2.2.2.2.2.2.2.2.2.2.2.2.2.2.2.2.2.2.2.2.2.2.2.2.2.2.2.2.2.2.2.2.2.2.2.2.2.2.2.2.2.2.2.2.2.1 s.2.2.2.2.2.2.2.2.2.2.2.2.2.2.2.2.2.2.2.2.2.2.2.2.2.2.2.2.2.2.2.2.2.2.2.2.2.2.2.2.2.2.2.2.2.2.2.2.2.2.1 s.2.2.2.2.2.2.2.2.2.2.2.2.2.2.2.2.2.2.2.2.2.2.2.2.2.2.2.2.2.2.2.2.2.2.2.2.2.2.2.2.2.2.2.2.2.2.2.2.2.2.2.1) s.2.2.2.2.2.2.2.2.2.2.2.2.2.2.2.2.2.2.2.2.2.2.2.2.2.2.2.2.2.2.2.2.2.2.2.2.2.2.2.2.2.2.2.2.2.2.2.2.2.2.2.2.1 s.2.2.2.2.2.2.2.2.2.2.2.2.2.2.2.2.2.2.2.2.2.2.2.2.2.2.2.2.2.2.2.2.2.2.2.2.2.2.2.2.2.2.2.2.2.2.2.2.2.2.2.2.2.1) s.2.2.2.2.2.2.2.2.2.2.2.2.2.2.2.2.2.2.2.2.2.2.2.2.2.2.2.2.2.2.2.2.2.2.2.2.2.2.2.2.2.2.2.2.2.2.2.2.2.2.2.2.2.2.1) s.2.2.2.2.2.2.2.2.2.2.2.2.2.2.2.2.2.2.2.2.2.2.2.2.2.2.2.2.2.2.2.2.2.2.2.2.2.2.2.2.2.2.2.2.2.2.2.2.2.2.2.2.2.2.2)).bind fun n9=>
      bif n9 !=0 then
       some (.done 8)
      else
       ((jI N) (aY.mk s.2.2.2.2.2.1 (bH.mk (aG.mk (s.2.2.2.2.2.2.1,s.2.2.2.2.2.2.2.1) (Field.mk s.2.2.2.2.2.2.2.2.1) (aI.mk s.2.2.2.2.2.2.2.2.2.1 s.2.2.2.2.2.2.2.2.2.2.1) (aE.mk (aH.mk s.2.2.2.2.2.2.2.2.2.2.2.1 s.2.2.2.2.2.2.2.2.2.2.2.2.1 s.2.2.2.2.2.2.2.2.2.2.2.2.2.1) s.2.2.2.2.2.2.2.2.2.2.2.2.2.2.1 s.2.2.2.2.2.2.2.2.2.2.2.2.2.2.2.1) s.2.2.2.2.2.2.2.2.2.2.2.2.2.2.2.2.1) s.2.2.2.2.2.2.2.2.2.2.2.2.2.2.2.2.2.1) (bC.mk (aG.mk (s.2.2.2.2.2.2.2.2.2.2.2.2.2.2.2.2.2.2.1,s.2.2.2.2.2.2.2.2.2.2.2.2.2.2.2.2.2.2.2.1) (Field.mk s.2.2.2.2.2.2.2.2.2.2.2.2.2.2.2.2.2.2.2.2.1) (aI.mk s.2.2.2.2.2.2.2.2.2.2.2.2.2.2.2.2.2.2.2.2.2.1 s.2.2.2.2.2.2.2.2.2.2.2.2.2.2.2.2.2.2.2.2.2.2.1) (aE.mk (aH.mk s.2.2.2.2.2.2.2.2.2.2.2.2.2.2.2.2.2.2.2.2.2.2.2.1 s.2.2.2.2.2.2.2.2.2.2.2.2.2.2.2.2.2.2.2.2.2.2.2.2.1 s.2.2.2.2.2.2.2.2.2.2.2.2.2.2.2.2.2.2.2.2.2.2.2.2.2.1) s.2.2.2.2.2.2.2.2.2.2.2.2.2.2.2.2.2.2.2.2.2.2.2.2.2.2.1 s.2.2.2.2.2.2.2.2.2.2.2.2.2.2.2.2.2.2.2.2.2.2.2.2.2.2.2.1) s.2.2.2.2.2.2.2.2.2.2.2.2.2.2.2.2.2.2.2.2.2.2.2.2.2.2.2.2.1) (aQ.mk s.2.2.2.2.2.2.2.2.2.2.2.2.2.2.2.2.2.2.2.2.2.2.2.2.2.2.2.2.2.1 s.2.2.2.2.2.2.2.2.2.2.2.2.2.2.2.2.2.2.2.2.2.2.2.2.2.2.2.2.2.2.1)) (aW.mk (aG.mk (s.2.2.2.2.2.2.2.2.2.2.2.2.2.2.2.2.2.2.2.2.2.2.2.2.2.2.2.2.2.2.2.1,s.2.2.2.2.2.2.2.2.2.2.2.2.2.2.2.2.2.2.2.2.2.2.2.2.2.2.2.2.2.2.2.2.1) (Field.mk s.2.2.2.2.2.2.2.2.2.2.2.2.2.2.2.2.2.2.2.2.2.2.2.2.2.2.2.2.2.2.2.2.2.1) (aI.mk s.2.2.2.2.2.2.2.2.2.2.2.2.2.2.2.2.2.2.2.2.2.2.2.2.2.2.2.2.2.2.2.2.2.2.1 s.2.2.2.2.2.2.2.2.2.2.2.2.2.2.2.2.2.2.2.2.2.2.2.2.2.2.2.2.2.2.2.2.2.2.2.1) (aE.mk (aH.mk s.2.2.2.2.2.2.2.2.2.2.2.2.2.2.2.2.2.2.2.2.2.2.2.2.2.2.2.2.2.2.2.2.2.2.2.2.1 s.2.2.2.2.2.2.2.2.2.2.2.2.2.2.2.2.2.2.2.2.2.2.2.2.2.2.2.2.2.2.2.2.2.2.2.2.2.1 s.2.2.2.2.2.2.2.2.2.2.2.2.2.2.2.2.2.2.2.2.2.2.2.2.2.2.2.2.2.2.2.2.2.2.2.2.2.2.1) s.2.2.2.2.2.2.2.2.2.2.2.2.2.2.2.2.2.2.2.2.2.2.2.2.2.2.2.2.2.2.2.2.2.2.2.2.2.2.2.1 s.2.2.2.2.2.2.2.2.2.2.2.2.2.2.2.2.2.2.2.2.2.2.2.2.2.2.2.2.2.2.2.2.2.2.2.2.2.2.2.2.1) s.2.2.2.2.2.2.2.2.2.2.2.2.2.2.2.2.2.2.2.2.2.2.2.2.2.2.2.2.2.2.2.2.2.2.2.2.2.2.2.2.2.1) (cK.mk s.2.2.2.2.2.2.2.2.2.2.2.2.2.2.2.2.2.2.2.2.2.2.2.2.2.2.2.2.2.2.2.2.2.2.2.2.2.2.2.2.2.2.1 s.2.2.2.2.2.2.2.2.2.2.2.2.2.2.2.2.2.2.2.2.2.2.2.2.2.2.2.2.2.2.2.2.2.2.2.2.2.2.2.2.2.2.2.1)) (bA.mk (aG.mk (s.2.2.2.2.2.2.2.2.2.2.2.2.2.2.2.2.2.2.2.2.2.2.2.2.2.2.2.2.2.2.2.2.2.2.2.2.2.2.2.2.2.2.2.2.1,s.2.2.2.2.2.2.2.2.2.2.2.2.2.2.2.2.2.2.2.2.2.2.2.2.2.2.2.2.2.2.2.2.2.2.2.2.2.2.2.2.2.2.2.2.2.1) (Field.mk s.2.2.2.2.2.2.2.2.2.2.2.2.2.2.2.2.2.2.2.2.2.2.2.2.2.2.2.2.2.2.2.2.2.2.2.2.2.2.2.2.2.2.2.2.2.2.1) (aI.mk s.2.2.2.2.2.2.2.2.2.2.2.2.2.2.2.2.2.2.2.2.2.2.2.2.2.2.2.2.2.2.2.2.2.2.2.2.2.2.2.2.2.2.2.2.2.2.2.1 s.2.2.2.2.2.2.2.2.2.2.2.2.2.2.2.2.2.2.2.2.2.2.2.2.2.2.2.2.2.2.2.2.2.2.2.2.2.2.2.2.2.2.2.2.2.2.2.2.1) (aE.mk (aH.mk s.2.2.2.2.2.2.2.2.2.2.2.2.2.2.2.2.2.2.2.2.2.2.2.2.2.2.2.2.2.2.2.2.2.2.2.2.2.2.2.2.2.2.2.2.2.2.2.2.2.1 s.2.2.2.2.2.2.2.2.2.2.2.2.2.2.2.2.2.2.2.2.2.2.2.2.2.2.2.2.2.2.2.2.2.2.2.2.2.2.2.2.2.2.2.2.2.2.2.2.2.2.1 s.2.2.2.2.2.2.2.2.2.2.2.2.2.2.2.2.2.2.2.2.2.2.2.2.2.2.2.2.2.2.2.2.2.2.2.2.2.2.2.2.2.2.2.2.2.2.2.2.2.2.2.1) s.2.2.2.2.2.2.2.2.2.2.2.2.2.2.2.2.2.2.2.2.2.2.2.2.2.2.2.2.2.2.2.2.2.2.2.2.2.2.2.2.2.2.2.2.2.2.2.2.2.2.2.2.1 s.2.2.2.2.2.2.2.2.2.2.2.2.2.2.2.2.2.2.2.2.2.2.2.2.2.2.2.2.2.2.2.2.2.2.2.2.2.2.2.2.2.2.2.2.2.2.2.2.2.2.2.2.2.1) s.2.2.2.2.2.2.2.2.2.2.2.2.2.2.2.2.2.2.2.2.2.2.2.2.2.2.2.2.2.2.2.2.2.2.2.2.2.2.2.2.2.2.2.2.2.2.2.2.2.2.2.2.2.2.1) s.2.2.2.2.2.2.2.2.2.2.2.2.2.2.2.2.2.2.2.2.2.2.2.2.2.2.2.2.2.2.2.2.2.2.2.2.2.2.2.2.2.2.2.2.2.2.2.2.2.2.2.2.2.2.2))).bind fun r10=>
       ((kS N) r10.now).bind fun n11=>
       bif n11 !=0 then
        some (.done 8)
       else
        some (.done 0)
     else
      some (.done 8)
def jJ (N:Nat) (p0:aY):Option Int:=
 ((bS N) p0.heap.clock).bind fun b0=>
 bif !b0 then
  ((bS N) p0.tourn.clock).bind fun b1=>
  bif !b1 then
   ((bS N) p0.heater.clock).bind fun b2=>
   bif !b2 then
    ((bS N) p0.hanger.clock).bind fun b3=>
    bif !b3 then
     (aO N) (aX N) (true,true,true,true,0,p0.tag,p0.heap.clock.now.1,p0.heap.clock.now.2,p0.heap.clock.field.points,p0.heap.clock.certs.next_,p0.heap.clock.certs.list,p0.heap.clock.agenda.slots.uses,p0.heap.clock.agenda.slots.used,p0.heap.clock.agenda.slots.free,p0.heap.clock.agenda.heap,p0.heap.clock.agenda.where_,p0.heap.clock.due,p0.heap.heap,p0.tourn.clock.now.1,p0.tourn.clock.now.2,p0.tourn.clock.field.points,p0.tourn.clock.certs.next_,p0.tourn.clock.certs.list,p0.tourn.clock.agenda.slots.uses,p0.tourn.clock.agenda.slots.used,p0.tourn.clock.agenda.slots.free,p0.tourn.clock.agenda.heap,p0.tourn.clock.agenda.where_,p0.tourn.clock.due,p0.tourn.bracket.places,p0.tourn.bracket.wins,p0.heater.clock.now.1,p0.heater.clock.now.2,p0.heater.clock.field.points,p0.heater.clock.certs.next_,p0.heater.clock.certs.list,p0.heater.clock.agenda.slots.uses,p0.heater.clock.agenda.slots.used,p0.heater.clock.agenda.slots.free,p0.heater.clock.agenda.heap,p0.heater.clock.agenda.where_,p0.heater.clock.due,p0.heater.tree.root,p0.heater.tree.nodes,p0.hanger.clock.now.1,p0.hanger.clock.now.2,p0.hanger.clock.field.points,p0.hanger.clock.certs.next_,p0.hanger.clock.certs.list,p0.hanger.clock.agenda.slots.uses,p0.hanger.clock.agenda.slots.used,p0.hanger.clock.agenda.slots.free,p0.hanger.clock.agenda.heap,p0.hanger.clock.agenda.where_,p0.hanger.clock.due,p0.hanger.up)
    else
     (aO N) (aX N) (true,true,true,decide (0<(aa p0.hanger.up.length)),0,p0.tag,p0.heap.clock.now.1,p0.heap.clock.now.2,p0.heap.clock.field.points,p0.heap.clock.certs.next_,p0.heap.clock.certs.list,p0.heap.clock.agenda.slots.uses,p0.heap.clock.agenda.slots.used,p0.heap.clock.agenda.slots.free,p0.heap.clock.agenda.heap,p0.heap.clock.agenda.where_,p0.heap.clock.due,p0.heap.heap,p0.tourn.clock.now.1,p0.tourn.clock.now.2,p0.tourn.clock.field.points,p0.tourn.clock.certs.next_,p0.tourn.clock.certs.list,p0.tourn.clock.agenda.slots.uses,p0.tourn.clock.agenda.slots.used,p0.tourn.clock.agenda.slots.free,p0.tourn.clock.agenda.heap,p0.tourn.clock.agenda.where_,p0.tourn.clock.due,p0.tourn.bracket.places,p0.tourn.bracket.wins,p0.heater.clock.now.1,p0.heater.clock.now.2,p0.heater.clock.field.points,p0.heater.clock.certs.next_,p0.heater.clock.certs.list,p0.heater.clock.agenda.slots.uses,p0.heater.clock.agenda.slots.used,p0.heater.clock.agenda.slots.free,p0.heater.clock.agenda.heap,p0.heater.clock.agenda.where_,p0.heater.clock.due,p0.heater.tree.root,p0.heater.tree.nodes,p0.hanger.clock.now.1,p0.hanger.clock.now.2,p0.hanger.clock.field.points,p0.hanger.clock.certs.next_,p0.hanger.clock.certs.list,p0.hanger.clock.agenda.slots.uses,p0.hanger.clock.agenda.slots.used,p0.hanger.clock.agenda.slots.free,p0.hanger.clock.agenda.heap,p0.hanger.clock.agenda.where_,p0.hanger.clock.due,p0.hanger.up)
   else
    bif p0.heater.tree.root !=0 then
     ((bS N) p0.hanger.clock).bind fun b4=>
     bif !b4 then
      (aO N) (aX N) (true,true,true,true,0,p0.tag,p0.heap.clock.now.1,p0.heap.clock.now.2,p0.heap.clock.field.points,p0.heap.clock.certs.next_,p0.heap.clock.certs.list,p0.heap.clock.agenda.slots.uses,p0.heap.clock.agenda.slots.used,p0.heap.clock.agenda.slots.free,p0.heap.clock.agenda.heap,p0.heap.clock.agenda.where_,p0.heap.clock.due,p0.heap.heap,p0.tourn.clock.now.1,p0.tourn.clock.now.2,p0.tourn.clock.field.points,p0.tourn.clock.certs.next_,p0.tourn.clock.certs.list,p0.tourn.clock.agenda.slots.uses,p0.tourn.clock.agenda.slots.used,p0.tourn.clock.agenda.slots.free,p0.tourn.clock.agenda.heap,p0.tourn.clock.agenda.where_,p0.tourn.clock.due,p0.tourn.bracket.places,p0.tourn.bracket.wins,p0.heater.clock.now.1,p0.heater.clock.now.2,p0.heater.clock.field.points,p0.heater.clock.certs.next_,p0.heater.clock.certs.list,p0.heater.clock.agenda.slots.uses,p0.heater.clock.agenda.slots.used,p0.heater.clock.agenda.slots.free,p0.heater.clock.agenda.heap,p0.heater.clock.agenda.where_,p0.heater.clock.due,p0.heater.tree.root,p0.heater.tree.nodes,p0.hanger.clock.now.1,p0.hanger.clock.now.2,p0.hanger.clock.field.points,p0.hanger.clock.certs.next_,p0.hanger.clock.certs.list,p0.hanger.clock.agenda.slots.uses,p0.hanger.clock.agenda.slots.used,p0.hanger.clock.agenda.slots.free,p0.hanger.clock.agenda.heap,p0.hanger.clock.agenda.where_,p0.hanger.clock.due,p0.hanger.up)
     else
      (aO N) (aX N) (true,true,true,decide (0<(aa p0.hanger.up.length)),0,p0.tag,p0.heap.clock.now.1,p0.heap.clock.now.2,p0.heap.clock.field.points,p0.heap.clock.certs.next_,p0.heap.clock.certs.list,p0.heap.clock.agenda.slots.uses,p0.heap.clock.agenda.slots.used,p0.heap.clock.agenda.slots.free,p0.heap.clock.agenda.heap,p0.heap.clock.agenda.where_,p0.heap.clock.due,p0.heap.heap,p0.tourn.clock.now.1,p0.tourn.clock.now.2,p0.tourn.clock.field.points,p0.tourn.clock.certs.next_,p0.tourn.clock.certs.list,p0.tourn.clock.agenda.slots.uses,p0.tourn.clock.agenda.slots.used,p0.tourn.clock.agenda.slots.free,p0.tourn.clock.agenda.heap,p0.tourn.clock.agenda.where_,p0.tourn.clock.due,p0.tourn.bracket.places,p0.tourn.bracket.wins,p0.heater.clock.now.1,p0.heater.clock.now.2,p0.heater.clock.field.points,p0.heater.clock.certs.next_,p0.heater.clock.certs.list,p0.heater.clock.agenda.slots.uses,p0.heater.clock.agenda.slots.used,p0.heater.clock.agenda.slots.free,p0.heater.clock.agenda.heap,p0.heater.clock.agenda.where_,p0.heater.clock.due,p0.heater.tree.root,p0.heater.tree.nodes,p0.hanger.clock.now.1,p0.hanger.clock.now.2,p0.hanger.clock.field.points,p0.hanger.clock.certs.next_,p0.hanger.clock.certs.list,p0.hanger.clock.agenda.slots.uses,p0.hanger.clock.agenda.slots.used,p0.hanger.clock.agenda.slots.free,p0.hanger.clock.agenda.heap,p0.hanger.clock.agenda.where_,p0.hanger.clock.due,p0.hanger.up)
    else
     ((bS N) p0.hanger.clock).bind fun b5=>
     bif !b5 then
      (aO N) (aX N) (true,true,decide (0<(aa p0.heater.tree.nodes.length)),true,0,p0.tag,p0.heap.clock.now.1,p0.heap.clock.now.2,p0.heap.clock.field.points,p0.heap.clock.certs.next_,p0.heap.clock.certs.list,p0.heap.clock.agenda.slots.uses,p0.heap.clock.agenda.slots.used,p0.heap.clock.agenda.slots.free,p0.heap.clock.agenda.heap,p0.heap.clock.agenda.where_,p0.heap.clock.due,p0.heap.heap,p0.tourn.clock.now.1,p0.tourn.clock.now.2,p0.tourn.clock.field.points,p0.tourn.clock.certs.next_,p0.tourn.clock.certs.list,p0.tourn.clock.agenda.slots.uses,p0.tourn.clock.agenda.slots.used,p0.tourn.clock.agenda.slots.free,p0.tourn.clock.agenda.heap,p0.tourn.clock.agenda.where_,p0.tourn.clock.due,p0.tourn.bracket.places,p0.tourn.bracket.wins,p0.heater.clock.now.1,p0.heater.clock.now.2,p0.heater.clock.field.points,p0.heater.clock.certs.next_,p0.heater.clock.certs.list,p0.heater.clock.agenda.slots.uses,p0.heater.clock.agenda.slots.used,p0.heater.clock.agenda.slots.free,p0.heater.clock.agenda.heap,p0.heater.clock.agenda.where_,p0.heater.clock.due,p0.heater.tree.root,p0.heater.tree.nodes,p0.hanger.clock.now.1,p0.hanger.clock.now.2,p0.hanger.clock.field.points,p0.hanger.clock.certs.next_,p0.hanger.clock.certs.list,p0.hanger.clock.agenda.slots.uses,p0.hanger.clock.agenda.slots.used,p0.hanger.clock.agenda.slots.free,p0.hanger.clock.agenda.heap,p0.hanger.clock.agenda.where_,p0.hanger.clock.due,p0.hanger.up)
     else
      (aO N) (aX N) (true,true,decide (0<(aa p0.heater.tree.nodes.length)),decide (0<(aa p0.hanger.up.length)),0,p0.tag,p0.heap.clock.now.1,p0.heap.clock.now.2,p0.heap.clock.field.points,p0.heap.clock.certs.next_,p0.heap.clock.certs.list,p0.heap.clock.agenda.slots.uses,p0.heap.clock.agenda.slots.used,p0.heap.clock.agenda.slots.free,p0.heap.clock.agenda.heap,p0.heap.clock.agenda.where_,p0.heap.clock.due,p0.heap.heap,p0.tourn.clock.now.1,p0.tourn.clock.now.2,p0.tourn.clock.field.points,p0.tourn.clock.certs.next_,p0.tourn.clock.certs.list,p0.tourn.clock.agenda.slots.uses,p0.tourn.clock.agenda.slots.used,p0.tourn.clock.agenda.slots.free,p0.tourn.clock.agenda.heap,p0.tourn.clock.agenda.where_,p0.tourn.clock.due,p0.tourn.bracket.places,p0.tourn.bracket.wins,p0.heater.clock.now.1,p0.heater.clock.now.2,p0.heater.clock.field.points,p0.heater.clock.certs.next_,p0.heater.clock.certs.list,p0.heater.clock.agenda.slots.uses,p0.heater.clock.agenda.slots.used,p0.heater.clock.agenda.slots.free,p0.heater.clock.agenda.heap,p0.heater.clock.agenda.where_,p0.heater.clock.due,p0.heater.tree.root,p0.heater.tree.nodes,p0.hanger.clock.now.1,p0.hanger.clock.now.2,p0.hanger.clock.field.points,p0.hanger.clock.certs.next_,p0.hanger.clock.certs.list,p0.hanger.clock.agenda.slots.uses,p0.hanger.clock.agenda.slots.used,p0.hanger.clock.agenda.slots.free,p0.hanger.clock.agenda.heap,p0.hanger.clock.agenda.where_,p0.hanger.clock.due,p0.hanger.up)
  else
   ((bS N) p0.heater.clock).bind fun b6=>
   bif !b6 then
    ((bS N) p0.hanger.clock).bind fun b7=>
    bif !b7 then
     (aO N) (aX N) (true,decide (0<(aA .i64 ((aa p0.tourn.bracket.places.length)+(aa p0.tourn.bracket.wins.length)))),true,true,0,p0.tag,p0.heap.clock.now.1,p0.heap.clock.now.2,p0.heap.clock.field.points,p0.heap.clock.certs.next_,p0.heap.clock.certs.list,p0.heap.clock.agenda.slots.uses,p0.heap.clock.agenda.slots.used,p0.heap.clock.agenda.slots.free,p0.heap.clock.agenda.heap,p0.heap.clock.agenda.where_,p0.heap.clock.due,p0.heap.heap,p0.tourn.clock.now.1,p0.tourn.clock.now.2,p0.tourn.clock.field.points,p0.tourn.clock.certs.next_,p0.tourn.clock.certs.list,p0.tourn.clock.agenda.slots.uses,p0.tourn.clock.agenda.slots.used,p0.tourn.clock.agenda.slots.free,p0.tourn.clock.agenda.heap,p0.tourn.clock.agenda.where_,p0.tourn.clock.due,p0.tourn.bracket.places,p0.tourn.bracket.wins,p0.heater.clock.now.1,p0.heater.clock.now.2,p0.heater.clock.field.points,p0.heater.clock.certs.next_,p0.heater.clock.certs.list,p0.heater.clock.agenda.slots.uses,p0.heater.clock.agenda.slots.used,p0.heater.clock.agenda.slots.free,p0.heater.clock.agenda.heap,p0.heater.clock.agenda.where_,p0.heater.clock.due,p0.heater.tree.root,p0.heater.tree.nodes,p0.hanger.clock.now.1,p0.hanger.clock.now.2,p0.hanger.clock.field.points,p0.hanger.clock.certs.next_,p0.hanger.clock.certs.list,p0.hanger.clock.agenda.slots.uses,p0.hanger.clock.agenda.slots.used,p0.hanger.clock.agenda.slots.free,p0.hanger.clock.agenda.heap,p0.hanger.clock.agenda.where_,p0.hanger.clock.due,p0.hanger.up)
    else
     (aO N) (aX N) (true,decide (0<(aA .i64 ((aa p0.tourn.bracket.places.length)+(aa p0.tourn.bracket.wins.length)))),true,decide (0<(aa p0.hanger.up.length)),0,p0.tag,p0.heap.clock.now.1,p0.heap.clock.now.2,p0.heap.clock.field.points,p0.heap.clock.certs.next_,p0.heap.clock.certs.list,p0.heap.clock.agenda.slots.uses,p0.heap.clock.agenda.slots.used,p0.heap.clock.agenda.slots.free,p0.heap.clock.agenda.heap,p0.heap.clock.agenda.where_,p0.heap.clock.due,p0.heap.heap,p0.tourn.clock.now.1,p0.tourn.clock.now.2,p0.tourn.clock.field.points,p0.tourn.clock.certs.next_,p0.tourn.clock.certs.list,p0.tourn.clock.agenda.slots.uses,p0.tourn.clock.agenda.slots.used,p0.tourn.clock.agenda.slots.free,p0.tourn.clock.agenda.heap,p0.tourn.clock.agenda.where_,p0.tourn.clock.due,p0.tourn.bracket.places,p0.tourn.bracket.wins,p0.heater.clock.now.1,p0.heater.clock.now.2,p0.heater.clock.field.points,p0.heater.clock.certs.next_,p0.heater.clock.certs.list,p0.heater.clock.agenda.slots.uses,p0.heater.clock.agenda.slots.used,p0.heater.clock.agenda.slots.free,p0.heater.clock.agenda.heap,p0.heater.clock.agenda.where_,p0.heater.clock.due,p0.heater.tree.root,p0.heater.tree.nodes,p0.hanger.clock.now.1,p0.hanger.clock.now.2,p0.hanger.clock.field.points,p0.hanger.clock.certs.next_,p0.hanger.clock.certs.list,p0.hanger.clock.agenda.slots.uses,p0.hanger.clock.agenda.slots.used,p0.hanger.clock.agenda.slots.free,p0.hanger.clock.agenda.heap,p0.hanger.clock.agenda.where_,p0.hanger.clock.due,p0.hanger.up)
   else
    bif p0.heater.tree.root !=0 then
     ((bS N) p0.hanger.clock).bind fun b8=>
     bif !b8 then
      (aO N) (aX N) (true,decide (0<(aA .i64 ((aa p0.tourn.bracket.places.length)+(aa p0.tourn.bracket.wins.length)))),true,true,0,p0.tag,p0.heap.clock.now.1,p0.heap.clock.now.2,p0.heap.clock.field.points,p0.heap.clock.certs.next_,p0.heap.clock.certs.list,p0.heap.clock.agenda.slots.uses,p0.heap.clock.agenda.slots.used,p0.heap.clock.agenda.slots.free,p0.heap.clock.agenda.heap,p0.heap.clock.agenda.where_,p0.heap.clock.due,p0.heap.heap,p0.tourn.clock.now.1,p0.tourn.clock.now.2,p0.tourn.clock.field.points,p0.tourn.clock.certs.next_,p0.tourn.clock.certs.list,p0.tourn.clock.agenda.slots.uses,p0.tourn.clock.agenda.slots.used,p0.tourn.clock.agenda.slots.free,p0.tourn.clock.agenda.heap,p0.tourn.clock.agenda.where_,p0.tourn.clock.due,p0.tourn.bracket.places,p0.tourn.bracket.wins,p0.heater.clock.now.1,p0.heater.clock.now.2,p0.heater.clock.field.points,p0.heater.clock.certs.next_,p0.heater.clock.certs.list,p0.heater.clock.agenda.slots.uses,p0.heater.clock.agenda.slots.used,p0.heater.clock.agenda.slots.free,p0.heater.clock.agenda.heap,p0.heater.clock.agenda.where_,p0.heater.clock.due,p0.heater.tree.root,p0.heater.tree.nodes,p0.hanger.clock.now.1,p0.hanger.clock.now.2,p0.hanger.clock.field.points,p0.hanger.clock.certs.next_,p0.hanger.clock.certs.list,p0.hanger.clock.agenda.slots.uses,p0.hanger.clock.agenda.slots.used,p0.hanger.clock.agenda.slots.free,p0.hanger.clock.agenda.heap,p0.hanger.clock.agenda.where_,p0.hanger.clock.due,p0.hanger.up)
     else
      (aO N) (aX N) (true,decide (0<(aA .i64 ((aa p0.tourn.bracket.places.length)+(aa p0.tourn.bracket.wins.length)))),true,decide (0<(aa p0.hanger.up.length)),0,p0.tag,p0.heap.clock.now.1,p0.heap.clock.now.2,p0.heap.clock.field.points,p0.heap.clock.certs.next_,p0.heap.clock.certs.list,p0.heap.clock.agenda.slots.uses,p0.heap.clock.agenda.slots.used,p0.heap.clock.agenda.slots.free,p0.heap.clock.agenda.heap,p0.heap.clock.agenda.where_,p0.heap.clock.due,p0.heap.heap,p0.tourn.clock.now.1,p0.tourn.clock.now.2,p0.tourn.clock.field.points,p0.tourn.clock.certs.next_,p0.tourn.clock.certs.list,p0.tourn.clock.agenda.slots.uses,p0.tourn.clock.agenda.slots.used,p0.tourn.clock.agenda.slots.free,p0.tourn.clock.agenda.heap,p0.tourn.clock.agenda.where_,p0.tourn.clock.due,p0.tourn.bracket.places,p0.tourn.bracket.wins,p0.heater.clock.now.1,p0.heater.clock.now.2,p0.heater.clock.field.points,p0.heater.clock.certs.next_,p0.heater.clock.certs.list,p0.heater.clock.agenda.slots.uses,p0.heater.clock.agenda.slots.used,p0.heater.clock.agenda.slots.free,p0.heater.clock.agenda.heap,p0.heater.clock.agenda.where_,p0.heater.clock.due,p0.heater.tree.root,p0.heater.tree.nodes,p0.hanger.clock.now.1,p0.hanger.clock.now.2,p0.hanger.clock.field.points,p0.hanger.clock.certs.next_,p0.hanger.clock.certs.list,p0.hanger.clock.agenda.slots.uses,p0.hanger.clock.agenda.slots.used,p0.hanger.clock.agenda.slots.free,p0.hanger.clock.agenda.heap,p0.hanger.clock.agenda.where_,p0.hanger.clock.due,p0.hanger.up)
    else
     ((bS N) p0.hanger.clock).bind fun b9=>
     bif !b9 then
      (aO N) (aX N) (true,decide (0<(aA .i64 ((aa p0.tourn.bracket.places.length)+(aa p0.tourn.bracket.wins.length)))),decide (0<(aa p0.heater.tree.nodes.length)),true,0,p0.tag,p0.heap.clock.now.1,p0.heap.clock.now.2,p0.heap.clock.field.points,p0.heap.clock.certs.next_,p0.heap.clock.certs.list,p0.heap.clock.agenda.slots.uses,p0.heap.clock.agenda.slots.used,p0.heap.clock.agenda.slots.free,p0.heap.clock.agenda.heap,p0.heap.clock.agenda.where_,p0.heap.clock.due,p0.heap.heap,p0.tourn.clock.now.1,p0.tourn.clock.now.2,p0.tourn.clock.field.points,p0.tourn.clock.certs.next_,p0.tourn.clock.certs.list,p0.tourn.clock.agenda.slots.uses,p0.tourn.clock.agenda.slots.used,p0.tourn.clock.agenda.slots.free,p0.tourn.clock.agenda.heap,p0.tourn.clock.agenda.where_,p0.tourn.clock.due,p0.tourn.bracket.places,p0.tourn.bracket.wins,p0.heater.clock.now.1,p0.heater.clock.now.2,p0.heater.clock.field.points,p0.heater.clock.certs.next_,p0.heater.clock.certs.list,p0.heater.clock.agenda.slots.uses,p0.heater.clock.agenda.slots.used,p0.heater.clock.agenda.slots.free,p0.heater.clock.agenda.heap,p0.heater.clock.agenda.where_,p0.heater.clock.due,p0.heater.tree.root,p0.heater.tree.nodes,p0.hanger.clock.now.1,p0.hanger.clock.now.2,p0.hanger.clock.field.points,p0.hanger.clock.certs.next_,p0.hanger.clock.certs.list,p0.hanger.clock.agenda.slots.uses,p0.hanger.clock.agenda.slots.used,p0.hanger.clock.agenda.slots.free,p0.hanger.clock.agenda.heap,p0.hanger.clock.agenda.where_,p0.hanger.clock.due,p0.hanger.up)
     else
      (aO N) (aX N) (true,decide (0<(aA .i64 ((aa p0.tourn.bracket.places.length)+(aa p0.tourn.bracket.wins.length)))),decide (0<(aa p0.heater.tree.nodes.length)),decide (0<(aa p0.hanger.up.length)),0,p0.tag,p0.heap.clock.now.1,p0.heap.clock.now.2,p0.heap.clock.field.points,p0.heap.clock.certs.next_,p0.heap.clock.certs.list,p0.heap.clock.agenda.slots.uses,p0.heap.clock.agenda.slots.used,p0.heap.clock.agenda.slots.free,p0.heap.clock.agenda.heap,p0.heap.clock.agenda.where_,p0.heap.clock.due,p0.heap.heap,p0.tourn.clock.now.1,p0.tourn.clock.now.2,p0.tourn.clock.field.points,p0.tourn.clock.certs.next_,p0.tourn.clock.certs.list,p0.tourn.clock.agenda.slots.uses,p0.tourn.clock.agenda.slots.used,p0.tourn.clock.agenda.slots.free,p0.tourn.clock.agenda.heap,p0.tourn.clock.agenda.where_,p0.tourn.clock.due,p0.tourn.bracket.places,p0.tourn.bracket.wins,p0.heater.clock.now.1,p0.heater.clock.now.2,p0.heater.clock.field.points,p0.heater.clock.certs.next_,p0.heater.clock.certs.list,p0.heater.clock.agenda.slots.uses,p0.heater.clock.agenda.slots.used,p0.heater.clock.agenda.slots.free,p0.heater.clock.agenda.heap,p0.heater.clock.agenda.where_,p0.heater.clock.due,p0.heater.tree.root,p0.heater.tree.nodes,p0.hanger.clock.now.1,p0.hanger.clock.now.2,p0.hanger.clock.field.points,p0.hanger.clock.certs.next_,p0.hanger.clock.certs.list,p0.hanger.clock.agenda.slots.uses,p0.hanger.clock.agenda.slots.used,p0.hanger.clock.agenda.slots.free,p0.hanger.clock.agenda.heap,p0.hanger.clock.agenda.where_,p0.hanger.clock.due,p0.hanger.up)
 else
  ((bS N) p0.tourn.clock).bind fun b10=>
  bif !b10 then
   ((bS N) p0.heater.clock).bind fun b11=>
   bif !b11 then
    ((bS N) p0.hanger.clock).bind fun b12=>
    bif !b12 then
     (aO N) (aX N) (decide (0<(aa p0.heap.heap.length)),true,true,true,0,p0.tag,p0.heap.clock.now.1,p0.heap.clock.now.2,p0.heap.clock.field.points,p0.heap.clock.certs.next_,p0.heap.clock.certs.list,p0.heap.clock.agenda.slots.uses,p0.heap.clock.agenda.slots.used,p0.heap.clock.agenda.slots.free,p0.heap.clock.agenda.heap,p0.heap.clock.agenda.where_,p0.heap.clock.due,p0.heap.heap,p0.tourn.clock.now.1,p0.tourn.clock.now.2,p0.tourn.clock.field.points,p0.tourn.clock.certs.next_,p0.tourn.clock.certs.list,p0.tourn.clock.agenda.slots.uses,p0.tourn.clock.agenda.slots.used,p0.tourn.clock.agenda.slots.free,p0.tourn.clock.agenda.heap,p0.tourn.clock.agenda.where_,p0.tourn.clock.due,p0.tourn.bracket.places,p0.tourn.bracket.wins,p0.heater.clock.now.1,p0.heater.clock.now.2,p0.heater.clock.field.points,p0.heater.clock.certs.next_,p0.heater.clock.certs.list,p0.heater.clock.agenda.slots.uses,p0.heater.clock.agenda.slots.used,p0.heater.clock.agenda.slots.free,p0.heater.clock.agenda.heap,p0.heater.clock.agenda.where_,p0.heater.clock.due,p0.heater.tree.root,p0.heater.tree.nodes,p0.hanger.clock.now.1,p0.hanger.clock.now.2,p0.hanger.clock.field.points,p0.hanger.clock.certs.next_,p0.hanger.clock.certs.list,p0.hanger.clock.agenda.slots.uses,p0.hanger.clock.agenda.slots.used,p0.hanger.clock.agenda.slots.free,p0.hanger.clock.agenda.heap,p0.hanger.clock.agenda.where_,p0.hanger.clock.due,p0.hanger.up)
    else
     (aO N) (aX N) (decide (0<(aa p0.heap.heap.length)),true,true,decide (0<(aa p0.hanger.up.length)),0,p0.tag,p0.heap.clock.now.1,p0.heap.clock.now.2,p0.heap.clock.field.points,p0.heap.clock.certs.next_,p0.heap.clock.certs.list,p0.heap.clock.agenda.slots.uses,p0.heap.clock.agenda.slots.used,p0.heap.clock.agenda.slots.free,p0.heap.clock.agenda.heap,p0.heap.clock.agenda.where_,p0.heap.clock.due,p0.heap.heap,p0.tourn.clock.now.1,p0.tourn.clock.now.2,p0.tourn.clock.field.points,p0.tourn.clock.certs.next_,p0.tourn.clock.certs.list,p0.tourn.clock.agenda.slots.uses,p0.tourn.clock.agenda.slots.used,p0.tourn.clock.agenda.slots.free,p0.tourn.clock.agenda.heap,p0.tourn.clock.agenda.where_,p0.tourn.clock.due,p0.tourn.bracket.places,p0.tourn.bracket.wins,p0.heater.clock.now.1,p0.heater.clock.now.2,p0.heater.clock.field.points,p0.heater.clock.certs.next_,p0.heater.clock.certs.list,p0.heater.clock.agenda.slots.uses,p0.heater.clock.agenda.slots.used,p0.heater.clock.agenda.slots.free,p0.heater.clock.agenda.heap,p0.heater.clock.agenda.where_,p0.heater.clock.due,p0.heater.tree.root,p0.heater.tree.nodes,p0.hanger.clock.now.1,p0.hanger.clock.now.2,p0.hanger.clock.field.points,p0.hanger.clock.certs.next_,p0.hanger.clock.certs.list,p0.hanger.clock.agenda.slots.uses,p0.hanger.clock.agenda.slots.used,p0.hanger.clock.agenda.slots.free,p0.hanger.clock.agenda.heap,p0.hanger.clock.agenda.where_,p0.hanger.clock.due,p0.hanger.up)
   else
    bif p0.heater.tree.root !=0 then
     ((bS N) p0.hanger.clock).bind fun b13=>
     bif !b13 then
      (aO N) (aX N) (decide (0<(aa p0.heap.heap.length)),true,true,true,0,p0.tag,p0.heap.clock.now.1,p0.heap.clock.now.2,p0.heap.clock.field.points,p0.heap.clock.certs.next_,p0.heap.clock.certs.list,p0.heap.clock.agenda.slots.uses,p0.heap.clock.agenda.slots.used,p0.heap.clock.agenda.slots.free,p0.heap.clock.agenda.heap,p0.heap.clock.agenda.where_,p0.heap.clock.due,p0.heap.heap,p0.tourn.clock.now.1,p0.tourn.clock.now.2,p0.tourn.clock.field.points,p0.tourn.clock.certs.next_,p0.tourn.clock.certs.list,p0.tourn.clock.agenda.slots.uses,p0.tourn.clock.agenda.slots.used,p0.tourn.clock.agenda.slots.free,p0.tourn.clock.agenda.heap,p0.tourn.clock.agenda.where_,p0.tourn.clock.due,p0.tourn.bracket.places,p0.tourn.bracket.wins,p0.heater.clock.now.1,p0.heater.clock.now.2,p0.heater.clock.field.points,p0.heater.clock.certs.next_,p0.heater.clock.certs.list,p0.heater.clock.agenda.slots.uses,p0.heater.clock.agenda.slots.used,p0.heater.clock.agenda.slots.free,p0.heater.clock.agenda.heap,p0.heater.clock.agenda.where_,p0.heater.clock.due,p0.heater.tree.root,p0.heater.tree.nodes,p0.hanger.clock.now.1,p0.hanger.clock.now.2,p0.hanger.clock.field.points,p0.hanger.clock.certs.next_,p0.hanger.clock.certs.list,p0.hanger.clock.agenda.slots.uses,p0.hanger.clock.agenda.slots.used,p0.hanger.clock.agenda.slots.free,p0.hanger.clock.agenda.heap,p0.hanger.clock.agenda.where_,p0.hanger.clock.due,p0.hanger.up)
     else
      (aO N) (aX N) (decide (0<(aa p0.heap.heap.length)),true,true,decide (0<(aa p0.hanger.up.length)),0,p0.tag,p0.heap.clock.now.1,p0.heap.clock.now.2,p0.heap.clock.field.points,p0.heap.clock.certs.next_,p0.heap.clock.certs.list,p0.heap.clock.agenda.slots.uses,p0.heap.clock.agenda.slots.used,p0.heap.clock.agenda.slots.free,p0.heap.clock.agenda.heap,p0.heap.clock.agenda.where_,p0.heap.clock.due,p0.heap.heap,p0.tourn.clock.now.1,p0.tourn.clock.now.2,p0.tourn.clock.field.points,p0.tourn.clock.certs.next_,p0.tourn.clock.certs.list,p0.tourn.clock.agenda.slots.uses,p0.tourn.clock.agenda.slots.used,p0.tourn.clock.agenda.slots.free,p0.tourn.clock.agenda.heap,p0.tourn.clock.agenda.where_,p0.tourn.clock.due,p0.tourn.bracket.places,p0.tourn.bracket.wins,p0.heater.clock.now.1,p0.heater.clock.now.2,p0.heater.clock.field.points,p0.heater.clock.certs.next_,p0.heater.clock.certs.list,p0.heater.clock.agenda.slots.uses,p0.heater.clock.agenda.slots.used,p0.heater.clock.agenda.slots.free,p0.heater.clock.agenda.heap,p0.heater.clock.agenda.where_,p0.heater.clock.due,p0.heater.tree.root,p0.heater.tree.nodes,p0.hanger.clock.now.1,p0.hanger.clock.now.2,p0.hanger.clock.field.points,p0.hanger.clock.certs.next_,p0.hanger.clock.certs.list,p0.hanger.clock.agenda.slots.uses,p0.hanger.clock.agenda.slots.used,p0.hanger.clock.agenda.slots.free,p0.hanger.clock.agenda.heap,p0.hanger.clock.agenda.where_,p0.hanger.clock.due,p0.hanger.up)
    else
     ((bS N) p0.hanger.clock).bind fun b14=>
     bif !b14 then
      (aO N) (aX N) (decide (0<(aa p0.heap.heap.length)),true,decide (0<(aa p0.heater.tree.nodes.length)),true,0,p0.tag,p0.heap.clock.now.1,p0.heap.clock.now.2,p0.heap.clock.field.points,p0.heap.clock.certs.next_,p0.heap.clock.certs.list,p0.heap.clock.agenda.slots.uses,p0.heap.clock.agenda.slots.used,p0.heap.clock.agenda.slots.free,p0.heap.clock.agenda.heap,p0.heap.clock.agenda.where_,p0.heap.clock.due,p0.heap.heap,p0.tourn.clock.now.1,p0.tourn.clock.now.2,p0.tourn.clock.field.points,p0.tourn.clock.certs.next_,p0.tourn.clock.certs.list,p0.tourn.clock.agenda.slots.uses,p0.tourn.clock.agenda.slots.used,p0.tourn.clock.agenda.slots.free,p0.tourn.clock.agenda.heap,p0.tourn.clock.agenda.where_,p0.tourn.clock.due,p0.tourn.bracket.places,p0.tourn.bracket.wins,p0.heater.clock.now.1,p0.heater.clock.now.2,p0.heater.clock.field.points,p0.heater.clock.certs.next_,p0.heater.clock.certs.list,p0.heater.clock.agenda.slots.uses,p0.heater.clock.agenda.slots.used,p0.heater.clock.agenda.slots.free,p0.heater.clock.agenda.heap,p0.heater.clock.agenda.where_,p0.heater.clock.due,p0.heater.tree.root,p0.heater.tree.nodes,p0.hanger.clock.now.1,p0.hanger.clock.now.2,p0.hanger.clock.field.points,p0.hanger.clock.certs.next_,p0.hanger.clock.certs.list,p0.hanger.clock.agenda.slots.uses,p0.hanger.clock.agenda.slots.used,p0.hanger.clock.agenda.slots.free,p0.hanger.clock.agenda.heap,p0.hanger.clock.agenda.where_,p0.hanger.clock.due,p0.hanger.up)
     else
      (aO N) (aX N) (decide (0<(aa p0.heap.heap.length)),true,decide (0<(aa p0.heater.tree.nodes.length)),decide (0<(aa p0.hanger.up.length)),0,p0.tag,p0.heap.clock.now.1,p0.heap.clock.now.2,p0.heap.clock.field.points,p0.heap.clock.certs.next_,p0.heap.clock.certs.list,p0.heap.clock.agenda.slots.uses,p0.heap.clock.agenda.slots.used,p0.heap.clock.agenda.slots.free,p0.heap.clock.agenda.heap,p0.heap.clock.agenda.where_,p0.heap.clock.due,p0.heap.heap,p0.tourn.clock.now.1,p0.tourn.clock.now.2,p0.tourn.clock.field.points,p0.tourn.clock.certs.next_,p0.tourn.clock.certs.list,p0.tourn.clock.agenda.slots.uses,p0.tourn.clock.agenda.slots.used,p0.tourn.clock.agenda.slots.free,p0.tourn.clock.agenda.heap,p0.tourn.clock.agenda.where_,p0.tourn.clock.due,p0.tourn.bracket.places,p0.tourn.bracket.wins,p0.heater.clock.now.1,p0.heater.clock.now.2,p0.heater.clock.field.points,p0.heater.clock.certs.next_,p0.heater.clock.certs.list,p0.heater.clock.agenda.slots.uses,p0.heater.clock.agenda.slots.used,p0.heater.clock.agenda.slots.free,p0.heater.clock.agenda.heap,p0.heater.clock.agenda.where_,p0.heater.clock.due,p0.heater.tree.root,p0.heater.tree.nodes,p0.hanger.clock.now.1,p0.hanger.clock.now.2,p0.hanger.clock.field.points,p0.hanger.clock.certs.next_,p0.hanger.clock.certs.list,p0.hanger.clock.agenda.slots.uses,p0.hanger.clock.agenda.slots.used,p0.hanger.clock.agenda.slots.free,p0.hanger.clock.agenda.heap,p0.hanger.clock.agenda.where_,p0.hanger.clock.due,p0.hanger.up)
  else
   ((bS N) p0.heater.clock).bind fun b15=>
   bif !b15 then
    ((bS N) p0.hanger.clock).bind fun b16=>
    bif !b16 then
     (aO N) (aX N) (decide (0<(aa p0.heap.heap.length)),decide (0<(aA .i64 ((aa p0.tourn.bracket.places.length)+(aa p0.tourn.bracket.wins.length)))),true,true,0,p0.tag,p0.heap.clock.now.1,p0.heap.clock.now.2,p0.heap.clock.field.points,p0.heap.clock.certs.next_,p0.heap.clock.certs.list,p0.heap.clock.agenda.slots.uses,p0.heap.clock.agenda.slots.used,p0.heap.clock.agenda.slots.free,p0.heap.clock.agenda.heap,p0.heap.clock.agenda.where_,p0.heap.clock.due,p0.heap.heap,p0.tourn.clock.now.1,p0.tourn.clock.now.2,p0.tourn.clock.field.points,p0.tourn.clock.certs.next_,p0.tourn.clock.certs.list,p0.tourn.clock.agenda.slots.uses,p0.tourn.clock.agenda.slots.used,p0.tourn.clock.agenda.slots.free,p0.tourn.clock.agenda.heap,p0.tourn.clock.agenda.where_,p0.tourn.clock.due,p0.tourn.bracket.places,p0.tourn.bracket.wins,p0.heater.clock.now.1,p0.heater.clock.now.2,p0.heater.clock.field.points,p0.heater.clock.certs.next_,p0.heater.clock.certs.list,p0.heater.clock.agenda.slots.uses,p0.heater.clock.agenda.slots.used,p0.heater.clock.agenda.slots.free,p0.heater.clock.agenda.heap,p0.heater.clock.agenda.where_,p0.heater.clock.due,p0.heater.tree.root,p0.heater.tree.nodes,p0.hanger.clock.now.1,p0.hanger.clock.now.2,p0.hanger.clock.field.points,p0.hanger.clock.certs.next_,p0.hanger.clock.certs.list,p0.hanger.clock.agenda.slots.uses,p0.hanger.clock.agenda.slots.used,p0.hanger.clock.agenda.slots.free,p0.hanger.clock.agenda.heap,p0.hanger.clock.agenda.where_,p0.hanger.clock.due,p0.hanger.up)
    else
     (aO N) (aX N) (decide (0<(aa p0.heap.heap.length)),decide (0<(aA .i64 ((aa p0.tourn.bracket.places.length)+(aa p0.tourn.bracket.wins.length)))),true,decide (0<(aa p0.hanger.up.length)),0,p0.tag,p0.heap.clock.now.1,p0.heap.clock.now.2,p0.heap.clock.field.points,p0.heap.clock.certs.next_,p0.heap.clock.certs.list,p0.heap.clock.agenda.slots.uses,p0.heap.clock.agenda.slots.used,p0.heap.clock.agenda.slots.free,p0.heap.clock.agenda.heap,p0.heap.clock.agenda.where_,p0.heap.clock.due,p0.heap.heap,p0.tourn.clock.now.1,p0.tourn.clock.now.2,p0.tourn.clock.field.points,p0.tourn.clock.certs.next_,p0.tourn.clock.certs.list,p0.tourn.clock.agenda.slots.uses,p0.tourn.clock.agenda.slots.used,p0.tourn.clock.agenda.slots.free,p0.tourn.clock.agenda.heap,p0.tourn.clock.agenda.where_,p0.tourn.clock.due,p0.tourn.bracket.places,p0.tourn.bracket.wins,p0.heater.clock.now.1,p0.heater.clock.now.2,p0.heater.clock.field.points,p0.heater.clock.certs.next_,p0.heater.clock.certs.list,p0.heater.clock.agenda.slots.uses,p0.heater.clock.agenda.slots.used,p0.heater.clock.agenda.slots.free,p0.heater.clock.agenda.heap,p0.heater.clock.agenda.where_,p0.heater.clock.due,p0.heater.tree.root,p0.heater.tree.nodes,p0.hanger.clock.now.1,p0.hanger.clock.now.2,p0.hanger.clock.field.points,p0.hanger.clock.certs.next_,p0.hanger.clock.certs.list,p0.hanger.clock.agenda.slots.uses,p0.hanger.clock.agenda.slots.used,p0.hanger.clock.agenda.slots.free,p0.hanger.clock.agenda.heap,p0.hanger.clock.agenda.where_,p0.hanger.clock.due,p0.hanger.up)
   else
    bif p0.heater.tree.root !=0 then
     ((bS N) p0.hanger.clock).bind fun b17=>
     bif !b17 then
      (aO N) (aX N) (decide (0<(aa p0.heap.heap.length)),decide (0<(aA .i64 ((aa p0.tourn.bracket.places.length)+(aa p0.tourn.bracket.wins.length)))),true,true,0,p0.tag,p0.heap.clock.now.1,p0.heap.clock.now.2,p0.heap.clock.field.points,p0.heap.clock.certs.next_,p0.heap.clock.certs.list,p0.heap.clock.agenda.slots.uses,p0.heap.clock.agenda.slots.used,p0.heap.clock.agenda.slots.free,p0.heap.clock.agenda.heap,p0.heap.clock.agenda.where_,p0.heap.clock.due,p0.heap.heap,p0.tourn.clock.now.1,p0.tourn.clock.now.2,p0.tourn.clock.field.points,p0.tourn.clock.certs.next_,p0.tourn.clock.certs.list,p0.tourn.clock.agenda.slots.uses,p0.tourn.clock.agenda.slots.used,p0.tourn.clock.agenda.slots.free,p0.tourn.clock.agenda.heap,p0.tourn.clock.agenda.where_,p0.tourn.clock.due,p0.tourn.bracket.places,p0.tourn.bracket.wins,p0.heater.clock.now.1,p0.heater.clock.now.2,p0.heater.clock.field.points,p0.heater.clock.certs.next_,p0.heater.clock.certs.list,p0.heater.clock.agenda.slots.uses,p0.heater.clock.agenda.slots.used,p0.heater.clock.agenda.slots.free,p0.heater.clock.agenda.heap,p0.heater.clock.agenda.where_,p0.heater.clock.due,p0.heater.tree.root,p0.heater.tree.nodes,p0.hanger.clock.now.1,p0.hanger.clock.now.2,p0.hanger.clock.field.points,p0.hanger.clock.certs.next_,p0.hanger.clock.certs.list,p0.hanger.clock.agenda.slots.uses,p0.hanger.clock.agenda.slots.used,p0.hanger.clock.agenda.slots.free,p0.hanger.clock.agenda.heap,p0.hanger.clock.agenda.where_,p0.hanger.clock.due,p0.hanger.up)
     else
      (aO N) (aX N) (decide (0<(aa p0.heap.heap.length)),decide (0<(aA .i64 ((aa p0.tourn.bracket.places.length)+(aa p0.tourn.bracket.wins.length)))),true,decide (0<(aa p0.hanger.up.length)),0,p0.tag,p0.heap.clock.now.1,p0.heap.clock.now.2,p0.heap.clock.field.points,p0.heap.clock.certs.next_,p0.heap.clock.certs.list,p0.heap.clock.agenda.slots.uses,p0.heap.clock.agenda.slots.used,p0.heap.clock.agenda.slots.free,p0.heap.clock.agenda.heap,p0.heap.clock.agenda.where_,p0.heap.clock.due,p0.heap.heap,p0.tourn.clock.now.1,p0.tourn.clock.now.2,p0.tourn.clock.field.points,p0.tourn.clock.certs.next_,p0.tourn.clock.certs.list,p0.tourn.clock.agenda.slots.uses,p0.tourn.clock.agenda.slots.used,p0.tourn.clock.agenda.slots.free,p0.tourn.clock.agenda.heap,p0.tourn.clock.agenda.where_,p0.tourn.clock.due,p0.tourn.bracket.places,p0.tourn.bracket.wins,p0.heater.clock.now.1,p0.heater.clock.now.2,p0.heater.clock.field.points,p0.heater.clock.certs.next_,p0.heater.clock.certs.list,p0.heater.clock.agenda.slots.uses,p0.heater.clock.agenda.slots.used,p0.heater.clock.agenda.slots.free,p0.heater.clock.agenda.heap,p0.heater.clock.agenda.where_,p0.heater.clock.due,p0.heater.tree.root,p0.heater.tree.nodes,p0.hanger.clock.now.1,p0.hanger.clock.now.2,p0.hanger.clock.field.points,p0.hanger.clock.certs.next_,p0.hanger.clock.certs.list,p0.hanger.clock.agenda.slots.uses,p0.hanger.clock.agenda.slots.used,p0.hanger.clock.agenda.slots.free,p0.hanger.clock.agenda.heap,p0.hanger.clock.agenda.where_,p0.hanger.clock.due,p0.hanger.up)
    else
     ((bS N) p0.hanger.clock).bind fun b18=>
     bif !b18 then
      (aO N) (aX N) (decide (0<(aa p0.heap.heap.length)),decide (0<(aA .i64 ((aa p0.tourn.bracket.places.length)+(aa p0.tourn.bracket.wins.length)))),decide (0<(aa p0.heater.tree.nodes.length)),true,0,p0.tag,p0.heap.clock.now.1,p0.heap.clock.now.2,p0.heap.clock.field.points,p0.heap.clock.certs.next_,p0.heap.clock.certs.list,p0.heap.clock.agenda.slots.uses,p0.heap.clock.agenda.slots.used,p0.heap.clock.agenda.slots.free,p0.heap.clock.agenda.heap,p0.heap.clock.agenda.where_,p0.heap.clock.due,p0.heap.heap,p0.tourn.clock.now.1,p0.tourn.clock.now.2,p0.tourn.clock.field.points,p0.tourn.clock.certs.next_,p0.tourn.clock.certs.list,p0.tourn.clock.agenda.slots.uses,p0.tourn.clock.agenda.slots.used,p0.tourn.clock.agenda.slots.free,p0.tourn.clock.agenda.heap,p0.tourn.clock.agenda.where_,p0.tourn.clock.due,p0.tourn.bracket.places,p0.tourn.bracket.wins,p0.heater.clock.now.1,p0.heater.clock.now.2,p0.heater.clock.field.points,p0.heater.clock.certs.next_,p0.heater.clock.certs.list,p0.heater.clock.agenda.slots.uses,p0.heater.clock.agenda.slots.used,p0.heater.clock.agenda.slots.free,p0.heater.clock.agenda.heap,p0.heater.clock.agenda.where_,p0.heater.clock.due,p0.heater.tree.root,p0.heater.tree.nodes,p0.hanger.clock.now.1,p0.hanger.clock.now.2,p0.hanger.clock.field.points,p0.hanger.clock.certs.next_,p0.hanger.clock.certs.list,p0.hanger.clock.agenda.slots.uses,p0.hanger.clock.agenda.slots.used,p0.hanger.clock.agenda.slots.free,p0.hanger.clock.agenda.heap,p0.hanger.clock.agenda.where_,p0.hanger.clock.due,p0.hanger.up)
     else
      (aO N) (aX N) (decide (0<(aa p0.heap.heap.length)),decide (0<(aA .i64 ((aa p0.tourn.bracket.places.length)+(aa p0.tourn.bracket.wins.length)))),decide (0<(aa p0.heater.tree.nodes.length)),decide (0<(aa p0.hanger.up.length)),0,p0.tag,p0.heap.clock.now.1,p0.heap.clock.now.2,p0.heap.clock.field.points,p0.heap.clock.certs.next_,p0.heap.clock.certs.list,p0.heap.clock.agenda.slots.uses,p0.heap.clock.agenda.slots.used,p0.heap.clock.agenda.slots.free,p0.heap.clock.agenda.heap,p0.heap.clock.agenda.where_,p0.heap.clock.due,p0.heap.heap,p0.tourn.clock.now.1,p0.tourn.clock.now.2,p0.tourn.clock.field.points,p0.tourn.clock.certs.next_,p0.tourn.clock.certs.list,p0.tourn.clock.agenda.slots.uses,p0.tourn.clock.agenda.slots.used,p0.tourn.clock.agenda.slots.free,p0.tourn.clock.agenda.heap,p0.tourn.clock.agenda.where_,p0.tourn.clock.due,p0.tourn.bracket.places,p0.tourn.bracket.wins,p0.heater.clock.now.1,p0.heater.clock.now.2,p0.heater.clock.field.points,p0.heater.clock.certs.next_,p0.heater.clock.certs.list,p0.heater.clock.agenda.slots.uses,p0.heater.clock.agenda.slots.used,p0.heater.clock.agenda.slots.free,p0.heater.clock.agenda.heap,p0.heater.clock.agenda.where_,p0.heater.clock.due,p0.heater.tree.root,p0.heater.tree.nodes,p0.hanger.clock.now.1,p0.hanger.clock.now.2,p0.hanger.clock.field.points,p0.hanger.clock.certs.next_,p0.hanger.clock.certs.list,p0.hanger.clock.agenda.slots.uses,p0.hanger.clock.agenda.slots.used,p0.hanger.clock.agenda.slots.free,p0.hanger.clock.agenda.heap,p0.hanger.clock.agenda.where_,p0.hanger.clock.due,p0.hanger.up)
def c69 (N:Nat):aV:=⟨aC.one (aF.agg cI),aF.int .i64,fun a=>(jJ N) a,.pure,false⟩
theorem HV (N:Nat):aB tab 69 (c69 N):=aB.of aQy (cx:=(aN (aK N) [(137,(aSw N)),(138,(W9 N)),(32,(c32 N)),(139,(XB N)),(140,(XD N)),(104,(aRc N)),(71,(c71 N))] [] [] [])) rfl (aM.make ⟨(aIu N),(A0 N),(HN N),(A3 N),(A4 N),(U0 N),(aAa N),trivial⟩ trivial trivial) (fun a=>by kernel_rfl)
def zD (N:Nat) (p0:aY):Option ((Int×Int)×Field×Int):=
 ((jJ N) p0).bind fun n0=>
 bif n0 !=0 then
  some ((0,0),Field.mk [],n0)
 else
  ((jI N) p0).bind fun r1=>
  (bG r1.field.points).bind fun l2=>
  some (r1.now,Field.mk l2,0)
def c49 (N:Nat):aV:=⟨aC.one (aF.agg cI),aF.tup (aC.cons (aF.agg (bE.row cM)) (aC.cons (aF.agg aT) (aC.one (aF.int .i64)))),fun a=>(zD N) a,.frz,false⟩
theorem aAb (N:Nat):aB tab 49 (c49 N):=aB.of aQj (cx:=(aN (aK N) [(69,(c69 N)),(104,(aRc N)),(78,aV.clone bO)] [] [] [])) rfl (aM.make ⟨(HV N),(U0 N),nO,trivial⟩ trivial trivial) (fun a=>by kernel_rfl)
def HW (N:Nat) (p0:aE):Option ((Int×Int×Int×Int×Int)×Int):=
 ((jE N) p0).bind fun n0=>
 bif n0 !=0 then
  some ((0,0,0,0,0),n0)
 else
  bif (aa p0.heap.length)==0 then
   some ((0,0,0,0,0),42)
  else
   (aL p0.heap 0).bind fun a1=>
   some (a1,0)
def aS3 (N:Nat):aV:=⟨aC.one (aF.agg cE),aF.tup (aC.cons (aF.agg (bE.row gP)) (aC.one (aF.int .i64))),fun a=>(HW N) a,.pure,false⟩
theorem aJa (N:Nat):aB tab 330 (aS3 N):=aB.of aHs (cx:=(aN (aK N) [(158,(W7 N))] [] [] [])) rfl (aM.make ⟨(AX N),trivial⟩ trivial trivial) (fun a=>by kernel_rfl)
def vE (N:Nat) (p0:aG) (p1:Int×Int):Option (Bool×Int):=
 ((fC N) p0).bind fun n0=>
 ((cB N) p1).bind fun n1=>
 bif (if n1>n0 then n1 else n0) !=0 then
  some (false,if n1>n0 then n1 else n0)
 else
  ((kQ N) p1 p0.now).bind fun a2=>
  bif decide (a2.1<0) then
   some (false,44)
  else
   ((HW N) p0.agenda).bind fun a3=>
   bif a3.2 !=0 then
    some (false,0)
   else
    ((kQ N) (a3.1.1,a3.1.2.1) p1).bind fun a4=>
    some (decide (a4.1<=0),0)
def aRd (N:Nat):aV:=⟨aC.cons (aF.agg bB) (aC.one (aF.agg (bE.row cM))),aF.tup (aC.cons aF.bool (aC.one (aF.int .i64))),fun a=>(vE N) a.1 a.2,.pure,false⟩
theorem U1 (N:Nat):aB tab 242 (aRd N):=aB.of aGO (cx:=(aN (aK N) [(81,(c81 N)),(70,(Q9 N)),(143,(SQ N)),(330,(aS3 N))] [] [] [])) rfl (aM.make ⟨(sL N),(kE N),(wL N),(aJa N),trivial⟩ trivial trivial) (fun a=>by kernel_rfl)
def vF (N:Nat) (p0:Int×Int×Int) (p1:Int):Option Int:=
 ((dU N) p0.1 p1).bind fun n0=>
 some n0
def aS4 (N:Nat):aV:=⟨aC.cons (aF.agg (bE.row bO)) (aC.one (aF.int .i64)),aF.int .i64,fun a=>(vF N) a.1 a.2,.pure,false⟩
theorem aJb (N:Nat):aB tab 405 (aS4 N):=aB.of aIi (cx:=(aN (aK N) [(171,(PG N))] [] [] [])) rfl (aM.make ⟨(sI N),trivial⟩ trivial trivial) (fun a=>by kernel_rfl)
def fQ (N:Nat) (s:((List (Int×Int×Int))×Int×Int×Int×Int)):Option (aS ((List (Int×Int×Int))×Int×Int×Int×Int) (Int×Bool)):=
 bif decide (s.2.2.2.1<s.2.2.2.2) then
  (aL s.1 (aA .i64 (hP .u64 (aA .u64 (aA .i64 (s.2.2.2.1+s.2.2.2.2))) 1))).bind fun a0=>
  ((vF N) a0 s.2.1).bind fun n1=>
  bif decide (n1<0) then
   some (.next (s.1,s.2.1,s.2.2.1,aA .i64 ((aA .i64 (hP .u64 (aA .u64 (aA .i64 (s.2.2.2.1+s.2.2.2.2))) 1))+1),s.2.2.2.2))
  else
   some (.next (s.1,s.2.1,s.2.2.1,s.2.2.2.1,aA .i64 (hP .u64 (aA .u64 (aA .i64 (s.2.2.2.1+s.2.2.2.2))) 1)))
 else
  bif decide (s.2.2.2.1<s.2.2.1) then
   (aL s.1 s.2.2.2.1).bind fun a2=>
   ((vF N) a2 s.2.1).bind fun n3=>
   some (.done (s.2.2.2.1,n3==0))
  else
   some (.done (s.2.2.2.1,false))
def dB (N:Nat) (p0:List (Int×Int×Int)) (p1:Int) (_:Unit):Option (Int×Bool):=
 (aO N) (fQ N) (p0,p1,aa p0.length,0,aa p0.length)
def PY (N:Nat):aV:=⟨aC.cons (aF.sl bO) (aC.cons (aF.int .i64) (aC.one (aF.clo 405 aC.nil))),aF.tup (aC.cons (aF.int .i64) (aC.one aF.bool)),fun a=>(dB N) a.1 a.2.1 a.2.2,.pure,false⟩
theorem PZ (N:Nat):aB tab 404 (PY N):=aB.of aIh (cx:=(aN (aK N) [(405,(aS4 N))] [] [] [])) rfl (aM.make ⟨(aJb N),trivial⟩ trivial trivial) (fun a=>by kernel_rfl)
def K9 (N:Nat) (p0:aI) (p1:Int):Option (Int×Int):=
 ((sG N) p0).bind fun n0=>
 bif n0 !=0 then
  some (0,n0)
 else
  ((dB N) p0.list p1 ()).bind fun a1=>
  bif !a1.2 then
   some (0,6)
  else
   some (a1.1,0)
def aS5 (N:Nat):aV:=⟨aC.cons (aF.agg eY) (aC.one (aF.int .i64)),aF.tup (aC.cons (aF.int .i64) (aC.one (aF.int .i64))),fun a=>(K9 N) a.1 a.2,.pure,false⟩
theorem aJc (N:Nat):aB tab 377 (aS5 N):=aB.of aHZ (cx:=(aN (aK N) [(157,(aIx N)),(404,(PY N))] [] [] [])) rfl (aM.make ⟨(M3 N),(PZ N),trivial⟩ trivial trivial) (fun a=>by kernel_rfl)
def kT (_:Nat) (a:(Int×Int×(List (Int×Int×Int)))):Option (Nat×Nat×(List (Int×Int×Int))):=
 bif (((decide (0<=a.1))&&(decide (a.1<=a.2.1)))&&(decide (a.2.1<=(aa a.2.2.length))))&&(decide ((aa a.2.2.length)<=(aa a.2.2.length))) then
  bif a.1==a.2.1 then
   bif a.2.2.length==a.2.2.length then
    some (a.2.2.length,a.2.2.length,a.2.2)
   else
    none
  else
   (fI a.2.2 0 a.1).bind fun _=>
   bif ((decide (0<=a.2.1))&&(decide (a.2.1<=(aa a.2.2.length))))&&(decide ((aa a.2.2.length)<=(aa a.2.2.length))) then
    bif ((a.2.2.drop (0+a.2.1.toNat)).take (((aa a.2.2.length).toNat) -a.2.1.toNat)).isEmpty then
     bif ((decide (0<=(aa a.1.toNat)))&&(decide ((aa a.1.toNat)<=(aa a.2.2.length))))&&(decide ((aa a.2.2.length)<=(aa a.2.2.length))) then
      bif ag (((aa a.2.2.length).toNat) - ((aa a.1.toNat).toNat)) 0 then
       bif a.2.2.length==a.2.2.length then
        some (a.1.toNat,a.2.2.length,a.2.2)
       else
        none
      else
       bif (ae ((0+((aa a.1.toNat).toNat))+(((aa a.2.2.length).toNat) - ((aa a.1.toNat).toNat))) a.2.2.length)&&(!false) then
        bif ((dD a.2.2 (0+((aa a.1.toNat).toNat)) (ac (((aa a.2.2.length).toNat) - ((aa a.1.toNat).toNat)) (0,0,0))).length)==a.2.2.length then
         some (a.1.toNat,a.2.2.length,dD a.2.2 (0+((aa a.1.toNat).toNat)) (ac (((aa a.2.2.length).toNat) - ((aa a.1.toNat).toNat)) (0,0,0)))
        else
         none
       else
        none
     else
      none
    else
     bif ae (a.1.toNat+(((a.2.2.drop (0+a.2.1.toNat)).take (((aa a.2.2.length).toNat) -a.2.1.toNat)).length)) a.2.2.length then
      bif (ae (a.1.toNat+(((a.2.2.drop (0+a.2.1.toNat)).take (((aa a.2.2.length).toNat) -a.2.1.toNat)).length)) a.2.2.length)&&(!false) then
       bif ((decide (0<=(aa (a.1.toNat+(((a.2.2.drop (0+a.2.1.toNat)).take (((aa a.2.2.length).toNat) -a.2.1.toNat)).length)))))&&(decide ((aa (a.1.toNat+(((a.2.2.drop (0+a.2.1.toNat)).take (((aa a.2.2.length).toNat) -a.2.1.toNat)).length)))<=(aa a.2.2.length))))&&(decide ((aa a.2.2.length)<=(aa a.2.2.length))) then
        bif ag (((aa a.2.2.length).toNat) - ((aa (a.1.toNat+(((a.2.2.drop (0+a.2.1.toNat)).take (((aa a.2.2.length).toNat) -a.2.1.toNat)).length))).toNat)) 0 then
         bif ((dD a.2.2 a.1.toNat ((a.2.2.drop (0+a.2.1.toNat)).take (((aa a.2.2.length).toNat) -a.2.1.toNat))).length)==a.2.2.length then
          some (a.1.toNat+(((a.2.2.drop (0+a.2.1.toNat)).take (((aa a.2.2.length).toNat) -a.2.1.toNat)).length),a.2.2.length,dD a.2.2 a.1.toNat ((a.2.2.drop (0+a.2.1.toNat)).take (((aa a.2.2.length).toNat) -a.2.1.toNat)))
         else
          none
        else
         bif (ae ((0+((aa (a.1.toNat+(((a.2.2.drop (0+a.2.1.toNat)).take (((aa a.2.2.length).toNat) -a.2.1.toNat)).length))).toNat))+(((aa a.2.2.length).toNat) - ((aa (a.1.toNat+(((a.2.2.drop (0+a.2.1.toNat)).take (((aa a.2.2.length).toNat) -a.2.1.toNat)).length))).toNat))) ((dD a.2.2 a.1.toNat ((a.2.2.drop (0+a.2.1.toNat)).take (((aa a.2.2.length).toNat) -a.2.1.toNat))).length))&&(!false) then
          bif ((dD (dD a.2.2 a.1.toNat ((a.2.2.drop (0+a.2.1.toNat)).take (((aa a.2.2.length).toNat) -a.2.1.toNat))) (0+((aa (a.1.toNat+(((a.2.2.drop (0+a.2.1.toNat)).take (((aa a.2.2.length).toNat) -a.2.1.toNat)).length))).toNat)) (ac (((aa a.2.2.length).toNat) - ((aa (a.1.toNat+(((a.2.2.drop (0+a.2.1.toNat)).take (((aa a.2.2.length).toNat) -a.2.1.toNat)).length))).toNat)) (0,0,0))).length)==a.2.2.length then
           some (a.1.toNat+(((a.2.2.drop (0+a.2.1.toNat)).take (((aa a.2.2.length).toNat) -a.2.1.toNat)).length),a.2.2.length,dD (dD a.2.2 a.1.toNat ((a.2.2.drop (0+a.2.1.toNat)).take (((aa a.2.2.length).toNat) -a.2.1.toNat))) (0+((aa (a.1.toNat+(((a.2.2.drop (0+a.2.1.toNat)).take (((aa a.2.2.length).toNat) -a.2.1.toNat)).length))).toNat)) (ac (((aa a.2.2.length).toNat) - ((aa (a.1.toNat+(((a.2.2.drop (0+a.2.1.toNat)).take (((aa a.2.2.length).toNat) -a.2.1.toNat)).length))).toNat)) (0,0,0)))
          else
           none
         else
          none
       else
        none
      else
       none
     else
      none
   else
    none
 else
  none
def aAc (N:Nat):cA:=⟨[.i,.i,.l [.i .i64,.i .i64,.i .i64]],[.own 0 false,.int .i64 0,.int .i64 0],[.arr [.i .i64,.i .i64,.i .i64] []],[.n,.n,.l [.i .i64,.i .i64,.i .i64]],.pre 0 0 0 false,[.arr [.i .i64,.i .i64,.i .i64] []],fun a=>(kT N) a⟩
theorem XE (N:Nat):eE tab 378 (aAc N):=eE.of aH0 (wd:=true) (cx:=(aN (aK N) [] [] [] [])) (aM.make trivial trivial trivial) (fun a=>by kernel_rfl)
def DR (N:Nat) (p0:aI) (p1:Int):Option (aI×(Int×Int)×Int):=
 ((K9 N) p0 p1).bind fun a0=>
 bif a0.2 !=0 then
  some (aI.mk 0 [],(0,0),a0.2)
 else
  (bG p0.list).bind fun l1=>
  ((kT N) (a0.1,aA .i64 (a0.1+1),l1)).bind fun a2=>
  (aL p0.list a0.1).bind fun a3=>
  some (aI.mk p0.next_ (a2.2.2.take a2.1),a3.2,0)
def aS6 (N:Nat):aV:=⟨aC.cons (aF.agg eY) (aC.one (aF.int .i64)),aF.tup (aC.cons (aF.agg eY) (aC.cons (aF.agg (bE.row cM)) (aC.one (aF.int .i64)))),fun a=>(DR N) a.1 a.2,.frz,false⟩
theorem aJd (N:Nat):aB tab 331 (aS6 N):=aB.of aHt (cx:=(aN (aK N) [(377,(aS5 N)),(253,aV.clone bO)] [(378,(aAc N))] [] [])) rfl (aM.make ⟨(aJc N),qW,trivial⟩ ⟨(XE N),trivial⟩ trivial) (fun a=>by kernel_rfl)
def kG (_:Nat) (p0:aG):Option aG:=
 (bG p0.field.points).bind fun l0=>
 (bG p0.certs.list).bind fun l1=>
 (bG p0.due).bind fun l2=>
 (bG p0.agenda.heap).bind fun l3=>
 (bG p0.agenda.where_).bind fun l4=>
 (bG p0.agenda.slots.uses).bind fun l5=>
 (bG p0.agenda.slots.used).bind fun l6=>
 (bG p0.agenda.slots.free).bind fun l7=>
 some (aG.mk p0.now (Field.mk l0) (aI.mk p0.certs.next_ l1) (aE.mk (aH.mk l5 l6 l7) l3 l4) l2)
def aAd (N:Nat):aV:=⟨aC.one (aF.agg bB),aF.agg bB,fun a=>(kG N) a,.own,true⟩
def P0 (N:Nat):aV:=⟨aC.one (aF.agg bB),aF.agg bB,fun a=>(kG N) a,.frz,false⟩
theorem E8 (N:Nat):aB tab 243 (aAd N):=aB.of UA (cx:=(aN (aK N) [(78,aV.clone bO),(253,aV.clone bO),(254,aV.clone bO),(255,aV.clone gP),(34,aV.clone ki),(256,aV.clone kb)] [] [] [])) rfl (aM.make ⟨nO,qW,AW,oC,fM,oB,trivial⟩ trivial trivial) (fun a=>by kernel_rfl)
theorem A5 (N:Nat):aB tab 243 (P0 N):=aB.of UA (cx:=(aN (aK N) [(78,aV.clone bO),(253,aV.clone bO),(254,aV.clone bO),(255,aV.clone gP),(34,aV.clone ki),(256,aV.clone kb)] [] [] [])) rfl (aM.make ⟨nO,qW,AW,oC,fM,oB,trivial⟩ trivial trivial) (fun a=>by kernel_rfl)
def qF (N:Nat) (p0:Int×Int×Int) (p1:Int):Option Int:=
 ((dU N) p0.1 p1).bind fun n0=>
 some n0
def aS7 (N:Nat):aV:=⟨aC.cons (aF.agg (bE.row bO)) (aC.one (aF.int .i64)),aF.int .i64,fun a=>(qF N) a.1 a.2,.pure,false⟩
theorem aJe (N:Nat):aB tab 380 (aS7 N):=aB.of aH2 (cx:=(aN (aK N) [(171,(PG N))] [] [] [])) rfl (aM.make ⟨(sI N),trivial⟩ trivial trivial) (fun a=>by kernel_rfl)
def fN (N:Nat) (s:((List (Int×Int×Int))×Int×Int×Int×Int)):Option (aS ((List (Int×Int×Int))×Int×Int×Int×Int) (Int×Bool)):=
 bif decide (s.2.2.2.1<s.2.2.2.2) then
  (aL s.1 (aA .i64 (hP .u64 (aA .u64 (aA .i64 (s.2.2.2.1+s.2.2.2.2))) 1))).bind fun a0=>
  ((qF N) a0 s.2.1).bind fun n1=>
  bif decide (n1<0) then
   some (.next (s.1,s.2.1,s.2.2.1,aA .i64 ((aA .i64 (hP .u64 (aA .u64 (aA .i64 (s.2.2.2.1+s.2.2.2.2))) 1))+1),s.2.2.2.2))
  else
   some (.next (s.1,s.2.1,s.2.2.1,s.2.2.2.1,aA .i64 (hP .u64 (aA .u64 (aA .i64 (s.2.2.2.1+s.2.2.2.2))) 1)))
 else
  bif decide (s.2.2.2.1<s.2.2.1) then
   (aL s.1 s.2.2.2.1).bind fun a2=>
   ((qF N) a2 s.2.1).bind fun n3=>
   some (.done (s.2.2.2.1,n3==0))
  else
   some (.done (s.2.2.2.1,false))
def cZ (N:Nat) (p0:List (Int×Int×Int)) (p1:Int) (_:Unit):Option (Int×Bool):=
 (aO N) (fN N) (p0,p1,aa p0.length,0,aa p0.length)
def P1 (N:Nat):aV:=⟨aC.cons (aF.sl bO) (aC.cons (aF.int .i64) (aC.one (aF.clo 380 aC.nil))),aF.tup (aC.cons (aF.int .i64) (aC.one aF.bool)),fun a=>(cZ N) a.1 a.2.1 a.2.2,.pure,false⟩
theorem P2 (N:Nat):aB tab 379 (P1 N):=aB.of aH1 (cx:=(aN (aK N) [(380,(aS7 N))] [] [] [])) rfl (aM.make ⟨(aJe N),trivial⟩ trivial trivial) (fun a=>by kernel_rfl)
def vG (N:Nat) (p0:List (Int×Int×Int)) (p1:Int):Option (Int×Bool):=
 ((cZ N) p0 p1 ()).bind fun a0=>
 some a0
def aRe (N:Nat):aV:=⟨aC.cons (aF.sl bO) (aC.one (aF.int .i64)),aF.tup (aC.cons (aF.int .i64) (aC.one aF.bool)),fun a=>(vG N) a.1 a.2,.pure,false⟩
theorem U2 (N:Nat):aB tab 332 (aRe N):=aB.of aHu (cx:=(aN (aK N) [(379,(P1 N))] [] [] [])) rfl (aM.make ⟨(P2 N),trivial⟩ trivial trivial) (fun a=>by kernel_rfl)
def HX (N:Nat) (p0:aH) (p1:Int×Int):Option (Bool×Int):=
 ((sH N) p0).bind fun n0=>
 bif n0 !=0 then
  some (false,n0)
 else
  bif decide (0<=p1.1) then
   bif decide (p1.1<(aa p0.used.length)) then
    (aL p0.used p1.1).bind fun b1=>
    bif b1 then
     (aL p0.uses p1.1).bind fun n2=>
     some (n2==p1.2,0)
    else
     some (false,0)
   else
    some (false,0)
  else
   some (false,0)
def aRf (N:Nat):aV:=⟨aC.cons (aF.agg eZ) (aC.one (aF.agg (bE.row cM))),aF.tup (aC.cons aF.bool (aC.one (aF.int .i64))),fun a=>(HX N) a.1 a.2,.pure,false⟩
theorem U3 (N:Nat):aB tab 406 (aRf N):=aB.of aIj (cx:=(aN (aK N) [(258,(aIA N))] [] [] [])) rfl (aM.make ⟨(M4 N),trivial⟩ trivial trivial) (fun a=>by kernel_rfl)
def sN (N:Nat) (p0:aE) (p1:Int×Int):Option (Int×Int):=
 ((jE N) p0).bind fun n0=>
 bif n0 !=0 then
  some (0,n0)
 else
  ((HX N) p0.slots p1).bind fun a1=>
  bif a1.2 !=0 then
   some (0,6)
  else
   bif !a1.1 then
    some (0,6)
   else
    (aL p0.where_ p1.1).bind fun n2=>
    some (n2,0)
def aRg (N:Nat):aV:=⟨aC.cons (aF.agg cE) (aC.one (aF.agg (bE.row cM))),aF.tup (aC.cons (aF.int .i64) (aC.one (aF.int .i64))),fun a=>(sN N) a.1 a.2,.pure,false⟩
theorem U4 (N:Nat):aB tab 381 (aRg N):=aB.of aH3 (cx:=(aN (aK N) [(158,(W7 N)),(406,(aRf N))] [] [] [])) rfl (aM.make ⟨(AX N),(U3 N),trivial⟩ trivial trivial) (fun a=>by kernel_rfl)
def tL (_:Nat) (p0:List Int) (p1:Int):Option (List Int):=
 (bG p0).bind fun l0=>
 (aR l0 [p1]).bind fun l1=>
 some l1
def aS8 (N:Nat):aV:=⟨aC.cons (aF.sl ki) (aC.one (aF.int .i64)),aF.sl ki,fun a=>(tL N) a.1 a.2,.frz,false⟩
theorem aJf (N:Nat):aB tab 417 (aS8 N):=aB.of aIs (cx:=(aN (aK N) [(418,aV.clone ki)] [] [] [])) rfl (aM.make ⟨PF,trivial⟩ trivial trivial) (fun a=>by kernel_rfl)
def LA (N:Nat) (p0:aH) (p1:Int×Int):Option (aH×Int):=
 ((HX N) p0 p1).bind fun a0=>
 bif a0.2 !=0 then
  some (aH.mk [] [] [],a0.2)
 else
  bif !a0.1 then
   some (aH.mk [] [] [],6)
  else
   (bG p0.uses).bind fun l1=>
   (bG p0.used).bind fun l2=>
   ((tL N) p0.free p1.1).bind fun l3=>
   (aL l2 p1.1).bind fun _=>
   some (aH.mk l1 (aZ l2 p1.1 false) l3,0)
def aS9 (N:Nat):aV:=⟨aC.cons (aF.agg eZ) (aC.one (aF.agg (bE.row cM))),aF.tup (aC.cons (aF.agg eZ) (aC.one (aF.int .i64))),fun a=>(LA N) a.1 a.2,.frz,false⟩
theorem aJg (N:Nat):aB tab 407 (aS9 N):=aB.of aIk (cx:=(aN (aK N) [(406,(aRf N)),(34,aV.clone ki),(256,aV.clone kb),(417,(aS8 N))] [] [(411,ZQ)] [])) rfl (aM.make ⟨(U3 N),fM,oB,(aJf N),trivial⟩ trivial ⟨UR,trivial⟩) (fun a=>by kernel_rfl)
def cQ (_:Nat) (a:((List Int)×(List Bool)×(List Int)×Nat×Nat×Int×Int×Int×Int×Int×Int×(List (Int×Int×Int×Int×Int))×(List Int))):Option ((List (Int×Int×Int×Int×Int))×(List Int)):=
 (aL (a.2.2.2.2.2.2.2.2.2.2.2.1.take a.2.2.2.1) a.2.2.2.2.2.1).bind fun _=>
 (aL a.2.2.2.2.2.2.2.2.2.2.2.2 a.2.2.2.2.2.2.2.2.2.1).bind fun _=>
 bif ((aZ a.2.2.2.2.2.2.2.2.2.2.2.1 a.2.2.2.2.2.1 (a.2.2.2.2.2.2.1,a.2.2.2.2.2.2.2.1,a.2.2.2.2.2.2.2.2.1,a.2.2.2.2.2.2.2.2.2.1,a.2.2.2.2.2.2.2.2.2.2.1)).length)==a.2.2.2.2.2.2.2.2.2.2.2.1.length then
  bif ((aZ a.2.2.2.2.2.2.2.2.2.2.2.2 a.2.2.2.2.2.2.2.2.2.1 a.2.2.2.2.2.1).length)==a.2.2.2.2.2.2.2.2.2.2.2.2.length then
   some (aZ a.2.2.2.2.2.2.2.2.2.2.2.1 a.2.2.2.2.2.1 (a.2.2.2.2.2.2.1,a.2.2.2.2.2.2.2.1,a.2.2.2.2.2.2.2.2.1,a.2.2.2.2.2.2.2.2.2.1,a.2.2.2.2.2.2.2.2.2.2.1),aZ a.2.2.2.2.2.2.2.2.2.2.2.2 a.2.2.2.2.2.2.2.2.2.1 a.2.2.2.2.2.1)
  else
   none
 else
  none
def SW (N:Nat):cA:=⟨[.l [.i .i64],.l [.b],.l [.i .i64],.n,.n,.i,.i,.i,.i,.i,.i,.l [.i .i64,.i .i64,.i .i64,.i .i64,.i .i64],.l [.i .i64]],[.agg [.sl [.i .i64] [],.sl [.b] [],.sl [.i .i64] [],.pre 0 0 0 false,.own 1 false],.int .i64 0,.agg [.int .i64 0,.int .i64 0,.int .i64 0,.int .i64 0,.int .i64 0]],[.arr [.i .i64,.i .i64,.i .i64,.i .i64,.i .i64] [],.arr [.i .i64] []],[.l [.i .i64,.i .i64,.i .i64,.i .i64,.i .i64],.l [.i .i64]],.tup [],[.arr [.i .i64,.i .i64,.i .i64,.i .i64,.i .i64] [],.arr [.i .i64] []],fun a=>(cQ N) a⟩
theorem LB (N:Nat):eE tab 408 (SW N):=eE.of UQ (wd:=false) (cx:=(aN (aK N) [] [] [] [])) (aM.make trivial trivial trivial) (fun a=>by kernel_rfl)
def lE (N:Nat) (c0:((List Int)×(List Bool)×(List Int)×Nat×Nat×Int×Int×Int×Int×Int×Int×(List (Int×Int×Int×Int×Int))×(List Int))) (s:(Int×Int×(List (Int×Int×Int×Int×Int))×(List Int)×(List Int)×(List Bool)×(List Int)×Nat×Nat×Int×Int×Int×Int×Int)):Option (aS (Int×Int×(List (Int×Int×Int×Int×Int))×(List Int)×(List Int)×(List Bool)×(List Int)×Nat×Nat×Int×Int×Int×Int×Int) (aS (Int×(List (Int×Int×Int×Int×Int))×(List Int)×(List Int)×(List Bool)×(List Int)×Nat×Nat×Int×Int×Int×Int×Int) ((List (Int×Int×Int×Int×Int))×(List Int)))):=
 bif decide (s.2.1<(aa s.2.2.2.2.2.2.2.1)) then
  bif decide ((aA .i64 (s.2.1+1))<(aa s.2.2.2.2.2.2.2.1)) then
   (aL (s.2.2.1.take s.2.2.2.2.2.2.2.1) (aA .i64 (s.2.1+1))).bind fun a0=>
   (aL (s.2.2.1.take s.2.2.2.2.2.2.2.1) s.2.1).bind fun a1=>
   ((cH N) a0 a1).bind fun n2=>
   bif decide (n2<0) then
    (aL (s.2.2.1.take s.2.2.2.2.2.2.2.1) (aA .i64 (s.2.1+1))).bind fun a3=>
    ((cH N) a3 s.2.2.2.2.2.2.2.2.2).bind fun n4=>
    bif decide (0<=n4) then
     ((cQ N) (s.2.2.2.2.1,s.2.2.2.2.2.1,s.2.2.2.2.2.2.1,s.2.2.2.2.2.2.2.1,s.2.2.2.2.2.2.2.2.1,s.1,s.2.2.2.2.2.2.2.2.2.1,s.2.2.2.2.2.2.2.2.2.2.1,s.2.2.2.2.2.2.2.2.2.2.2.1,s.2.2.2.2.2.2.2.2.2.2.2.2.1,s.2.2.2.2.2.2.2.2.2.2.2.2.2,s.2.2.1,s.2.2.2.1)).bind fun a5=>
     bif a5.1.length==c0.2.2.2.2.2.2.2.2.2.2.2.1.length then
      bif a5.2.length==c0.2.2.2.2.2.2.2.2.2.2.2.2.length then
       some (.done (.done a5))
      else
       none
     else
      none
    else
     (aL (s.2.2.1.take s.2.2.2.2.2.2.2.1) (aA .i64 (s.2.1+1))).bind fun a6=>
     ((cQ N) (s.2.2.2.2.1,s.2.2.2.2.2.1,s.2.2.2.2.2.2.1,s.2.2.2.2.2.2.2.1,s.2.2.2.2.2.2.2.2.1,s.1,a6.1,a6.2.1,a6.2.2.1,a6.2.2.2.1,a6.2.2.2.2,s.2.2.1,s.2.2.2.1)).bind fun a7=>
     some (.next (aA .i64 (s.2.1+1),aA .i64 ((aA .i64 (2*(aA .i64 (s.2.1+1))))+1),a7.1,a7.2,s.2.2.2.2))
   else
    (aL (s.2.2.1.take s.2.2.2.2.2.2.2.1) s.2.1).bind fun a8=>
    ((cH N) a8 s.2.2.2.2.2.2.2.2.2).bind fun n9=>
    bif decide (0<=n9) then
     ((cQ N) (s.2.2.2.2.1,s.2.2.2.2.2.1,s.2.2.2.2.2.2.1,s.2.2.2.2.2.2.2.1,s.2.2.2.2.2.2.2.2.1,s.1,s.2.2.2.2.2.2.2.2.2.1,s.2.2.2.2.2.2.2.2.2.2.1,s.2.2.2.2.2.2.2.2.2.2.2.1,s.2.2.2.2.2.2.2.2.2.2.2.2.1,s.2.2.2.2.2.2.2.2.2.2.2.2.2,s.2.2.1,s.2.2.2.1)).bind fun a10=>
     bif a10.1.length==c0.2.2.2.2.2.2.2.2.2.2.2.1.length then
      bif a10.2.length==c0.2.2.2.2.2.2.2.2.2.2.2.2.length then
       some (.done (.done a10))
      else
       none
     else
      none
    else
     (aL (s.2.2.1.take s.2.2.2.2.2.2.2.1) s.2.1).bind fun a11=>
     ((cQ N) (s.2.2.2.2.1,s.2.2.2.2.2.1,s.2.2.2.2.2.2.1,s.2.2.2.2.2.2.2.1,s.2.2.2.2.2.2.2.2.1,s.1,a11.1,a11.2.1,a11.2.2.1,a11.2.2.2.1,a11.2.2.2.2,s.2.2.1,s.2.2.2.1)).bind fun a12=>
     some (.next (s.2.1,aA .i64 ((aA .i64 (2*s.2.1))+1),a12.1,a12.2,s.2.2.2.2))
  else
   (aL (s.2.2.1.take s.2.2.2.2.2.2.2.1) s.2.1).bind fun a13=>
   ((cH N) a13 s.2.2.2.2.2.2.2.2.2).bind fun n14=>
   bif decide (0<=n14) then
    ((cQ N) (s.2.2.2.2.1,s.2.2.2.2.2.1,s.2.2.2.2.2.2.1,s.2.2.2.2.2.2.2.1,s.2.2.2.2.2.2.2.2.1,s.1,s.2.2.2.2.2.2.2.2.2.1,s.2.2.2.2.2.2.2.2.2.2.1,s.2.2.2.2.2.2.2.2.2.2.2.1,s.2.2.2.2.2.2.2.2.2.2.2.2.1,s.2.2.2.2.2.2.2.2.2.2.2.2.2,s.2.2.1,s.2.2.2.1)).bind fun a15=>
    bif a15.1.length==c0.2.2.2.2.2.2.2.2.2.2.2.1.length then
     bif a15.2.length==c0.2.2.2.2.2.2.2.2.2.2.2.2.length then
      some (.done (.done a15))
     else
      none
    else
     none
   else
    (aL (s.2.2.1.take s.2.2.2.2.2.2.2.1) s.2.1).bind fun a16=>
    ((cQ N) (s.2.2.2.2.1,s.2.2.2.2.2.1,s.2.2.2.2.2.2.1,s.2.2.2.2.2.2.2.1,s.2.2.2.2.2.2.2.2.1,s.1,a16.1,a16.2.1,a16.2.2.1,a16.2.2.2.1,a16.2.2.2.2,s.2.2.1,s.2.2.2.1)).bind fun a17=>
    some (.next (s.2.1,aA .i64 ((aA .i64 (2*s.2.1))+1),a17.1,a17.2,s.2.2.2.2))
 else
  ((cQ N) (s.2.2.2.2.1,s.2.2.2.2.2.1,s.2.2.2.2.2.2.1,s.2.2.2.2.2.2.2.1,s.2.2.2.2.2.2.2.2.1,s.1,s.2.2.2.2.2.2.2.2.2.1,s.2.2.2.2.2.2.2.2.2.2.1,s.2.2.2.2.2.2.2.2.2.2.2.1,s.2.2.2.2.2.2.2.2.2.2.2.2.1,s.2.2.2.2.2.2.2.2.2.2.2.2.2,s.2.2.1,s.2.2.2.1)).bind fun a18=>
  bif a18.1.length==c0.2.2.2.2.2.2.2.2.2.2.2.1.length then
   bif a18.2.length==c0.2.2.2.2.2.2.2.2.2.2.2.2.length then
    some (.done (.done a18))
   else
    none
  else
   none
def sO (N:Nat) (c0:((List Int)×(List Bool)×(List Int)×Nat×Nat×Int×Int×Int×Int×Int×Int×(List (Int×Int×Int×Int×Int))×(List Int))) (s:(Int×(List (Int×Int×Int×Int×Int))×(List Int)×(List Int)×(List Bool)×(List Int)×Nat×Nat×Int×Int×Int×Int×Int)):Option (aS (Int×(List (Int×Int×Int×Int×Int))×(List Int)×(List Int)×(List Bool)×(List Int)×Nat×Nat×Int×Int×Int×Int×Int) ((List (Int×Int×Int×Int×Int))×(List Int))):=
 bif decide (0<s.1) then
  (aL (s.2.1.take s.2.2.2.2.2.2.1) (aA .i64 (af (aA .i64 (s.1-1)) 2))).bind fun a0=>
  ((cH N) s.2.2.2.2.2.2.2.2 a0).bind fun n1=>
  bif decide (n1<0) then
   (aL (s.2.1.take s.2.2.2.2.2.2.1) (aA .i64 (af (aA .i64 (s.1-1)) 2))).bind fun a2=>
   ((cQ N) (s.2.2.2.1,s.2.2.2.2.1,s.2.2.2.2.2.1,s.2.2.2.2.2.2.1,s.2.2.2.2.2.2.2.1,s.1,a2.1,a2.2.1,a2.2.2.1,a2.2.2.2.1,a2.2.2.2.2,s.2.1,s.2.2.1)).bind fun a3=>
   some (.next (aA .i64 (af (aA .i64 (s.1-1)) 2),a3.1,a3.2,s.2.2.2))
  else
   (aO N) ((lE N) c0) (s.1,aA .i64 ((aA .i64 (2*s.1))+1),s.2)
 else
  (aO N) ((lE N) c0) (s.1,aA .i64 ((aA .i64 (2*s.1))+1),s.2)
def nE (N:Nat) (a:((List Int)×(List Bool)×(List Int)×Nat×Nat×Int×Int×Int×Int×Int×Int×(List (Int×Int×Int×Int×Int))×(List Int))):Option ((List (Int×Int×Int×Int×Int))×(List Int)):=
 (aO N) ((sO N) a) (a.2.2.2.2.2.1,a.2.2.2.2.2.2.2.2.2.2.2.1,a.2.2.2.2.2.2.2.2.2.2.2.2,a.1,a.2.1,a.2.2.1,a.2.2.2.1,a.2.2.2.2.1,a.2.2.2.2.2.2.1,a.2.2.2.2.2.2.2.1,a.2.2.2.2.2.2.2.2.1,a.2.2.2.2.2.2.2.2.2.1,a.2.2.2.2.2.2.2.2.2.2.1)
def NG (N:Nat):cA:=⟨[.l [.i .i64],.l [.b],.l [.i .i64],.n,.n,.i,.i,.i,.i,.i,.i,.l [.i .i64,.i .i64,.i .i64,.i .i64,.i .i64],.l [.i .i64]],[.agg [.sl [.i .i64] [],.sl [.b] [],.sl [.i .i64] [],.pre 0 0 0 false,.own 1 false],.int .i64 0,.agg [.int .i64 0,.int .i64 0,.int .i64 0,.int .i64 0,.int .i64 0]],[.arr [.i .i64,.i .i64,.i .i64,.i .i64,.i .i64] [],.arr [.i .i64] []],[.l [.i .i64,.i .i64,.i .i64,.i .i64,.i .i64],.l [.i .i64]],.tup [],[.arr [.i .i64,.i .i64,.i .i64,.i .i64,.i .i64] [],.arr [.i .i64] []],fun a=>(nE N) a⟩
theorem CY (N:Nat):eE tab 384 (NG N):=eE.of UM (wd:=false) (cx:=(aN (aK N) [(259,(aIJ N))] [(408,(SW N))] [] [])) (aM.make ⟨(M6 N),trivial⟩ ⟨(LB N),trivial⟩ trivial) (fun a=>by kernel_rfl)
def xO (N:Nat) (p0:aE) (p1:Int):Option (aE×(Int×Int×Int×Int×Int)×Int):=
 (aL p0.heap p1).bind fun a0=>
 ((LA N) p0.slots a0.2.2.2).bind fun a1=>
 bif a1.2 !=0 then
  some (aE.mk (aH.mk [] [] []) [] [],(0,0,0,0,0),a1.2)
 else
  (bG p0.heap).bind fun l2=>
  (bG p0.where_).bind fun l3=>
  (aL l2 (aA .i64 ((aa l2.length) -1))).bind fun a4=>
  (fI l2 0 (aA .i64 ((aa l2.length) -1))).bind fun _=>
  (aL l3 a0.2.2.2.1).bind fun _=>
  bif decide (p1<(aA .i64 ((aa l2.length) -1))) then
   ((nE N) (a1.1.uses,a1.1.used,a1.1.free,(aA .i64 ((aa l2.length) -1)).toNat,l2.length,p1,a4.1,a4.2.1,a4.2.2.1,a4.2.2.2.1,a4.2.2.2.2,l2,aZ l3 a0.2.2.2.1 (-1))).bind fun a7=>
   some (aE.mk a1.1 (a7.1.take ((aA .i64 ((aa l2.length) -1)).toNat)) a7.2,a0,0)
  else
   some (aE.mk a1.1 (l2.take ((aA .i64 ((aa l2.length) -1)).toNat)) (aZ l3 a0.2.2.2.1 (-1)),a0,0)
def aTa (N:Nat):aV:=⟨aC.cons (aF.agg cE) (aC.one (aF.int .i64)),aF.tup (aC.cons (aF.agg cE) (aC.cons (aF.agg (bE.row gP)) (aC.one (aF.int .i64)))),fun a=>(xO N) a.1 a.2,.frz,false⟩
theorem aJh (N:Nat):aB tab 382 (aTa N):=aB.of aH4 (cx:=(aN (aK N) [(407,(aS9 N)),(255,aV.clone gP),(34,aV.clone ki)] [(384,(NG N))] [(383,W4)] [])) rfl (aM.make ⟨(aJg N),oC,fM,trivial⟩ ⟨(CY N),trivial⟩ ⟨MY,trivial⟩) (fun a=>by kernel_rfl)
def mF (N:Nat) (p0:aE) (p1:Int×Int):Option (aE×(Int×Int×Int×Int×Int)×Int):=
 ((sN N) p0 p1).bind fun a0=>
 bif a0.2 !=0 then
  some (aE.mk (aH.mk [] [] []) [] [],(0,0,0,0,0),a0.2)
 else
  ((xO N) p0 a0.1).bind fun a1=>
  some a1
def aRh (N:Nat):aV:=⟨aC.cons (aF.agg cE) (aC.one (aF.agg (bE.row cM))),aF.tup (aC.cons (aF.agg cE) (aC.cons (aF.agg (bE.row gP)) (aC.one (aF.int .i64)))),fun a=>(mF N) a.1 a.2,.frz,false⟩
theorem U5 (N:Nat):aB tab 333 (aRh N):=aB.of aHv (cx:=(aN (aK N) [(381,(aRg N)),(382,(aTa N))] [] [] [])) rfl (aM.make ⟨(U4 N),(aJh N),trivial⟩ trivial trivial) (fun a=>by kernel_rfl)
def lF (_:Nat) (a:(Int×Int×(List (Int×Int×Int)))):Option (Nat×Nat×(List (Int×Int×Int))):=
 bif (((decide (0<=a.1))&&(decide (a.1<=a.2.1)))&&(decide (a.2.1<=(aa a.2.2.length))))&&(decide ((aa a.2.2.length)<=(aa a.2.2.length))) then
  bif a.1==a.2.1 then
   bif a.2.2.length==a.2.2.length then
    some (a.2.2.length,a.2.2.length,a.2.2)
   else
    none
  else
   (fI a.2.2 0 a.1).bind fun _=>
   bif ((decide (0<=a.2.1))&&(decide (a.2.1<=(aa a.2.2.length))))&&(decide ((aa a.2.2.length)<=(aa a.2.2.length))) then
    bif ((a.2.2.drop (0+a.2.1.toNat)).take (((aa a.2.2.length).toNat) -a.2.1.toNat)).isEmpty then
     bif ((decide (0<=(aa a.1.toNat)))&&(decide ((aa a.1.toNat)<=(aa a.2.2.length))))&&(decide ((aa a.2.2.length)<=(aa a.2.2.length))) then
      bif ag (((aa a.2.2.length).toNat) - ((aa a.1.toNat).toNat)) 0 then
       bif a.2.2.length==a.2.2.length then
        some (a.1.toNat,a.2.2.length,a.2.2)
       else
        none
      else
       bif (ae ((0+((aa a.1.toNat).toNat))+(((aa a.2.2.length).toNat) - ((aa a.1.toNat).toNat))) a.2.2.length)&&(!false) then
        bif ((dD a.2.2 (0+((aa a.1.toNat).toNat)) (ac (((aa a.2.2.length).toNat) - ((aa a.1.toNat).toNat)) (0,0,0))).length)==a.2.2.length then
         some (a.1.toNat,a.2.2.length,dD a.2.2 (0+((aa a.1.toNat).toNat)) (ac (((aa a.2.2.length).toNat) - ((aa a.1.toNat).toNat)) (0,0,0)))
        else
         none
       else
        none
     else
      none
    else
     bif ae (a.1.toNat+(((a.2.2.drop (0+a.2.1.toNat)).take (((aa a.2.2.length).toNat) -a.2.1.toNat)).length)) a.2.2.length then
      bif (ae (a.1.toNat+(((a.2.2.drop (0+a.2.1.toNat)).take (((aa a.2.2.length).toNat) -a.2.1.toNat)).length)) a.2.2.length)&&(!false) then
       bif ((decide (0<=(aa (a.1.toNat+(((a.2.2.drop (0+a.2.1.toNat)).take (((aa a.2.2.length).toNat) -a.2.1.toNat)).length)))))&&(decide ((aa (a.1.toNat+(((a.2.2.drop (0+a.2.1.toNat)).take (((aa a.2.2.length).toNat) -a.2.1.toNat)).length)))<=(aa a.2.2.length))))&&(decide ((aa a.2.2.length)<=(aa a.2.2.length))) then
        bif ag (((aa a.2.2.length).toNat) - ((aa (a.1.toNat+(((a.2.2.drop (0+a.2.1.toNat)).take (((aa a.2.2.length).toNat) -a.2.1.toNat)).length))).toNat)) 0 then
         bif ((dD a.2.2 a.1.toNat ((a.2.2.drop (0+a.2.1.toNat)).take (((aa a.2.2.length).toNat) -a.2.1.toNat))).length)==a.2.2.length then
          some (a.1.toNat+(((a.2.2.drop (0+a.2.1.toNat)).take (((aa a.2.2.length).toNat) -a.2.1.toNat)).length),a.2.2.length,dD a.2.2 a.1.toNat ((a.2.2.drop (0+a.2.1.toNat)).take (((aa a.2.2.length).toNat) -a.2.1.toNat)))
         else
          none
        else
         bif (ae ((0+((aa (a.1.toNat+(((a.2.2.drop (0+a.2.1.toNat)).take (((aa a.2.2.length).toNat) -a.2.1.toNat)).length))).toNat))+(((aa a.2.2.length).toNat) - ((aa (a.1.toNat+(((a.2.2.drop (0+a.2.1.toNat)).take (((aa a.2.2.length).toNat) -a.2.1.toNat)).length))).toNat))) ((dD a.2.2 a.1.toNat ((a.2.2.drop (0+a.2.1.toNat)).take (((aa a.2.2.length).toNat) -a.2.1.toNat))).length))&&(!false) then
          bif ((dD (dD a.2.2 a.1.toNat ((a.2.2.drop (0+a.2.1.toNat)).take (((aa a.2.2.length).toNat) -a.2.1.toNat))) (0+((aa (a.1.toNat+(((a.2.2.drop (0+a.2.1.toNat)).take (((aa a.2.2.length).toNat) -a.2.1.toNat)).length))).toNat)) (ac (((aa a.2.2.length).toNat) - ((aa (a.1.toNat+(((a.2.2.drop (0+a.2.1.toNat)).take (((aa a.2.2.length).toNat) -a.2.1.toNat)).length))).toNat)) (0,0,0))).length)==a.2.2.length then
           some (a.1.toNat+(((a.2.2.drop (0+a.2.1.toNat)).take (((aa a.2.2.length).toNat) -a.2.1.toNat)).length),a.2.2.length,dD (dD a.2.2 a.1.toNat ((a.2.2.drop (0+a.2.1.toNat)).take (((aa a.2.2.length).toNat) -a.2.1.toNat))) (0+((aa (a.1.toNat+(((a.2.2.drop (0+a.2.1.toNat)).take (((aa a.2.2.length).toNat) -a.2.1.toNat)).length))).toNat)) (ac (((aa a.2.2.length).toNat) - ((aa (a.1.toNat+(((a.2.2.drop (0+a.2.1.toNat)).take (((aa a.2.2.length).toNat) -a.2.1.toNat)).length))).toNat)) (0,0,0)))
          else
           none
         else
          none
       else
        none
      else
       none
     else
      none
   else
    none
 else
  none
def aAe (N:Nat):cA:=⟨[.i,.i,.l [.i .i64,.i .i64,.i .i64]],[.own 0 false,.int .i64 0,.int .i64 0],[.arr [.i .i64,.i .i64,.i .i64] []],[.n,.n,.l [.i .i64,.i .i64,.i .i64]],.pre 0 0 0 false,[.arr [.i .i64,.i .i64,.i .i64] []],fun a=>(lF N) a⟩
theorem XF (N:Nat):eE tab 334 (aAe N):=eE.of aHw (wd:=true) (cx:=(aN (aK N) [] [] [] [])) (aM.make trivial trivial trivial) (fun a=>by kernel_rfl)
def sP (N:Nat) (p0:aG) (p1:Int):Option (aG×(Int×Int)×Int):=
 ((DR N) p0.certs p1).bind fun a0=>
 bif a0.2.2 !=0 then
  some (aG.mk (0,0) (Field.mk []) (aI.mk 0 []) (aE.mk (aH.mk [] [] []) [] []) [],a0.2)
 else
  ((kG N) p0).bind fun r1=>
  ((vG N) p0.due p1).bind fun a2=>
  bif a2.2 then
   (aL p0.due a2.1).bind fun a3=>
   ((mF N) p0.agenda a3.2).bind fun a4=>
   bif a4.2.2 !=0 then
    some (aG.mk (0,0) (Field.mk []) (aI.mk 0 []) (aE.mk (aH.mk [] [] []) [] []) [],a0.2.1,a4.2.2)
   else
    ((lF N) (a2.1,aA .i64 (a2.1+1),r1.due)).bind fun a5=>
    some (aG.mk r1.now r1.field a0.1 a4.1 (a5.2.2.take a5.1),a0.2.1,0)
  else
   some (aG.mk r1.now r1.field a0.1 r1.agenda r1.due,a0.2.1,0)
def aRi (N:Nat):aV:=⟨aC.cons (aF.agg bB) (aC.one (aF.int .i64)),aF.tup (aC.cons (aF.agg bB) (aC.cons (aF.agg (bE.row cM)) (aC.one (aF.int .i64)))),fun a=>(sP N) a.1 a.2,.frz,false⟩
theorem U6 (N:Nat):aB tab 244 (aRi N):=aB.of aGP (cx:=(aN (aK N) [(331,(aS6 N)),(243,(aAd N)),(243,(P0 N)),(332,(aRe N)),(333,(aRh N))] [(334,(aAe N))] [] [])) rfl (aM.make ⟨(aJd N),(E8 N),(A5 N),(U2 N),(U5 N),trivial⟩ ⟨(XF N),trivial⟩ trivial) (fun a=>by kernel_rfl)
def oH (N:Nat) (p0:aG) (p1:Int×Int):Option (aG×(Int×Int×Int×Int×Int)×(Int×Int)×Int):=
 ((vE N) p0 p1).bind fun a0=>
 bif a0.2==0 then
  bif !a0.1 then
   some (aG.mk (0,0) (Field.mk []) (aI.mk 0 []) (aE.mk (aH.mk [] [] []) [] []) [],(0,0,0,0,0),(0,0),6)
  else
   bif a0.2 !=0 then
    some (aG.mk (0,0) (Field.mk []) (aI.mk 0 []) (aE.mk (aH.mk [] [] []) [] []) [],(0,0,0,0,0),(0,0),a0.2)
   else
    (aL p0.agenda.heap 0).bind fun a1=>
    ((sP N) p0 a1.2.2.1).bind fun a2=>
    bif a2.2.2 !=0 then
     some (aG.mk (0,0) (Field.mk []) (aI.mk 0 []) (aE.mk (aH.mk [] [] []) [] []) [],(0,0,0,0,0),(0,0),a2.2.2)
    else
     some (aG.mk (a1.1,a1.2.1) a2.1.field a2.1.certs a2.1.agenda a2.1.due,a1,a2.2.1,0)
 else
  bif a0.2 !=0 then
   some (aG.mk (0,0) (Field.mk []) (aI.mk 0 []) (aE.mk (aH.mk [] [] []) [] []) [],(0,0,0,0,0),(0,0),a0.2)
  else
   (aL p0.agenda.heap 0).bind fun a3=>
   ((sP N) p0 a3.2.2.1).bind fun a4=>
   bif a4.2.2 !=0 then
    some (aG.mk (0,0) (Field.mk []) (aI.mk 0 []) (aE.mk (aH.mk [] [] []) [] []) [],(0,0,0,0,0),(0,0),a4.2.2)
   else
    some (aG.mk (a3.1,a3.2.1) a4.1.field a4.1.certs a4.1.agenda a4.1.due,a3,a4.2.1,0)
def aAf (N:Nat):aV:=⟨aC.cons (aF.agg bB) (aC.one (aF.agg (bE.row cM))),aF.tup (aC.cons (aF.agg bB) (aC.cons (aF.agg (bE.row gP)) (aC.cons (aF.agg (bE.row cM)) (aC.one (aF.int .i64))))),fun a=>(oH N) a.1 a.2,.frz,false⟩
theorem E9 (N:Nat):aB tab 146 (aAf N):=aB.of aFR (cx:=(aN (aK N) [(242,(aRd N)),(244,(aRi N))] [] [] [])) rfl (aM.make ⟨(U1 N),(U6 N),trivial⟩ trivial trivial) (fun a=>by kernel_rfl)
def A6 (N:Nat) (p0:aG) (p1:Int):Option (aG×Int):=
 ((fC N) p0).bind fun n0=>
 bif n0 !=0 then
  some (aG.mk (0,0) (Field.mk []) (aI.mk 0 []) (aE.mk (aH.mk [] [] []) [] []) [],n0)
 else
  ((sP N) p0 p1).bind fun a1=>
  some (a1.1,a1.2.2)
def aTb (N:Nat):aV:=⟨aC.cons (aF.agg bB) (aC.one (aF.int .i64)),aF.tup (aC.cons (aF.agg bB) (aC.one (aF.int .i64))),fun a=>(A6 N) a.1 a.2,.frz,false⟩
theorem aJi (N:Nat):aB tab 248 (aTb N):=aB.of aGS (cx:=(aN (aK N) [(81,(c81 N)),(244,(aRi N))] [] [] [])) rfl (aM.make ⟨(sL N),(U6 N),trivial⟩ trivial trivial) (fun a=>by kernel_rfl)
def tP (_:Nat) (s:((List (Int×Int×Int))×(List (Int×Int×Int))×Int×Int)):Option (aS ((List (Int×Int×Int))×(List (Int×Int×Int))×Int×Int) Bool):=
 bif decide (s.2.2.2<s.2.2.1) then
  (aL s.1 s.2.2.2).bind fun a0=>
  (aL s.2.1 s.2.2.2).bind fun a1=>
  bif !((a0.1==a1.1)&&((a0.2.1==a1.2.1)&&(a0.2.2==a1.2.2))) then
   some (.done false)
  else
   some (.next (s.1,s.2.1,s.2.2.1,aA .i64 (s.2.2.2+1)))
 else
  some (.done true)
def oI (N:Nat) (p0:List (Int×Int×Int)) (p1:List (Int×Int×Int)):Option Bool:=
 bif (aa p0.length) !=(aa p1.length) then
  some false
 else
  (aO N) (tP N) (p0,p1,aa p0.length,0)
def aTc (N:Nat):aV:=⟨aC.cons (aF.sl bO) (aC.one (aF.sl bO)),aF.bool,fun a=>(oI N) a.1 a.2,.pure,false⟩
theorem aJj (N:Nat):aB tab 249 (aTc N):=aB.of aGT (cx:=(aN (aK N) [] [] [] [])) rfl (aM.make trivial trivial trivial) (fun a=>by kernel_rfl)
end
end Go.Proofs.YtclphlgnjkajbaaGreat
