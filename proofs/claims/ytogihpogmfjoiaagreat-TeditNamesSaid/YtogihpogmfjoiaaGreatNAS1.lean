/- Plain functions for what the functions of the seat compute. Printed by a program. -/
import Derived.Test.YtogihpogmfjoiaaGreatNVm3
import Derived.Test.YtogihpogmfjoiaaGreatNAXT
open Int renaming ofNat->aa,tdiv->ac,tmod->af
open List renaming replicate->ae
open Nat renaming ble->ag,beq->ah
set_option maxRecDepth 100000
namespace Go.Proofs.YtogihpogmfjoiaaGreat
open Go.Vm
noncomputable section
theorem Oc {f:FuncId} {x:aF} {α β:Type} {args:aC α} {res:aE β} {kd:Kd} {fn:α->Option β} {ow:Bool} (hf:tab f=some (.code x)) (ho:US kd ow=true) (lp:Option Nat) (l:List (Nat×aU)) (h:vR tab l) (e: ∀a,aDE (aM lp l [] [] []) x args res kd a=fn a):aB tab f ⟨args,res,fn,kd,ow⟩:=aB.of hf (cx:=aM lp l [] [] []) ho (aL.make h trivial trivial) e
abbrev fG:List PT:=[.i .i64,.i .i64]
abbrev bX:List PT:=[.i .i64,.i .i64,.i .i64]
abbrev ki:List PT:=[.i .i64]
abbrev kb:List PT:=[.b]
abbrev gM:List PT:=[.i .i64,.i .i64,.i .i64,.i .i64,.i .i64]
abbrev rX:List PT:=[.b,.i .u64,.i .u64]
abbrev aJp:List PT:=[.i .i64,.i .i64,.i .i64,.i .i64]
abbrev kiu:List PT:=[.i .i64,.i .u64]
structure Field where
 points:List (Int×Int×Int)
def bF:bJ Field:=bJ.iso (bJ.sl bX) (fun p=>⟨p⟩) (fun c=>c.points) (fun _=>rfl)
structure aO where
 uses:List Int
 used:List Bool
 free:List Int
def eG:bJ aO:=bJ.iso (bJ.prod (bJ.sl ki) (bJ.prod (bJ.sl kb) (bJ.sl ki))) (fun p=>⟨p.1,p.2.1,p.2.2⟩) (fun c=>(c.uses,c.used,c.free)) (fun _=>rfl)
structure aH where
 slots:aO
 heap:List (Int×Int×Int×Int×Int)
 where_:List Int
def bY:bJ aH:=bJ.iso (bJ.prod eG (bJ.prod (bJ.sl gM) (bJ.sl ki))) (fun p=>⟨p.1,p.2.1,p.2.2⟩) (fun c=>(c.slots,c.heap,c.where_)) (fun _=>rfl)
structure aQ where
 next_:Int
 list:List (Int×Int×Int)
def eH:bJ aQ:=bJ.iso (bJ.prod (bJ.int .i64) (bJ.sl bX)) (fun p=>⟨p.1,p.2⟩) (fun c=>(c.next_,c.list)) (fun _=>rfl)
structure aJ where
 now:Int×Int
 field:Field
 certs:aQ
 agenda:aH
 due:List (Int×Int×Int)
def bE:bJ aJ:=bJ.iso (bJ.prod (bJ.row fG) (bJ.prod bF (bJ.prod eH (bJ.prod bY (bJ.sl bX))))) (fun p=>⟨p.1,p.2.1,p.2.2.1,p.2.2.2.1,p.2.2.2.2⟩) (fun c=>(c.now,c.field,c.certs,c.agenda,c.due)) (fun _=>rfl)
structure aR where
 places:List Int
 wins:List Int
def cL:bJ aR:=bJ.iso (bJ.prod (bJ.sl ki) (bJ.sl ki)) (fun p=>⟨p.1,p.2⟩) (fun c=>(c.places,c.wins)) (fun _=>rfl)
structure aN where
 clock:aJ
 bracket:aR
def dC:bJ aN:=bJ.iso (bJ.prod bE cL) (fun p=>⟨p.1,p.2⟩) (fun c=>(c.clock,c.bracket)) (fun _=>rfl)
theorem mD:aB tab 221 (aU.clone kb):=aB.clone aAT rfl
theorem SW:aB tab 296 (aU.add64):=aB.add64 aBE
theorem hO:aB tab 40 (aU.clone ki):=aB.clone aHz rfl
theorem nE:aB tab 75 (aU.clone bX):=aB.clone aHQ rfl
theorem oN:aB tab 218 (aU.clone bX):=aB.clone aAQ rfl
theorem xS:aB tab 219 (aU.clone bX):=aB.clone aAR rfl
theorem mE:aB tab 220 (aU.clone gM):=aB.clone aAS rfl
theorem J0:aB tab 308 (aU.clone ki):=aB.clone aBN rfl
def oO (_:Nat) (p0:Int):Option (Int×Int):=
 some (p0,1)
def c27 (N:Nat):aU:=⟨aC.one (aE.int .i64),aE.agg (bJ.row fG),fun a=>(oO N) a,.pure,false⟩
theorem SX (N:Nat):aB tab 27 (c27 N):=aB.of aHs (cx:=(aM (aG N) [] [] [] [])) rfl (aL.make trivial trivial trivial) (fun a=>by kernel_rfl)
def AJ (_:Nat) (p0:Int×Int×Int):Option Int:=
 bif decide (p0.1<0) then
  some 8
 else
  bif decide (65535<p0.1) then
   some 8
  else
   bif decide (p0.2.1<(-1048576)) then
    some 8
   else
    bif decide (1048576<p0.2.1) then
     some 8
    else
     bif decide (p0.2.2<(-1048576)) then
      some 8
     else
      bif decide (1048576<p0.2.2) then
       some 8
      else
       some 0
def aJq (N:Nat):aU:=⟨aC.one (aE.agg (bJ.row bX)),aE.int .i64,fun a=>(AJ N) a,.pure,false⟩
theorem aBO (N:Nat):aB tab 106 (aJq N):=aB.of ZN (cx:=(aM (aG N) [] [] [] [])) rfl (aL.make trivial trivial trivial) (fun a=>by kernel_rfl)
def DH (_:Nat) (s:(Int×(List (Int×Int×Int)))):Option (aW (Int×(List (Int×Int×Int))) (aW (Int×(List (Int×Int×Int))) Int)):=
 bif decide (s.1<(aa s.2.length)) then
  (aK s.2 (aA .i64 (s.1-1))).bind fun a0=>
  (aK s.2 s.1).bind fun a1=>
  bif decide (a1.1<=a0.1) then
   some (.done (.done 32))
  else
   some (.next (aA .i64 (s.1+1),s.2))
 else
  some (.done (.done 0))
def DI (N:Nat) (s:(Int×(List (Int×Int×Int)))):Option (aW (Int×(List (Int×Int×Int))) Int):=
 bif decide (s.1<(aa s.2.length)) then
  (aK s.2 s.1).bind fun a0=>
  ((AJ N) a0).bind fun n1=>
  bif n1 !=0 then
   some (.done 8)
  else
   some (.next (aA .i64 (s.1+1),s.2))
 else
  (aS N) (DH N) (1,s.2)
def rY (N:Nat) (p0:Field):Option Int:=
 bif decide (64<(aa p0.points.length)) then
  some 4
 else
  (aS N) (DI N) (0,p0.points)
def c63 (N:Nat):aU:=⟨aC.one (aE.agg bF),aE.int .i64,fun a=>(rY N) a,.pure,false⟩
theorem aH7 (N:Nat):aB tab 63 (c63 N):=aB.of aHH (cx:=(aM (aG N) [(106,(aJq N))] [] [] [])) rfl (aL.make ⟨(aBO N),trivial⟩ trivial trivial) (fun a=>by kernel_rfl)
def fH (_:Nat) (p0:Int):Option Int:=
 bif decide (p0<0) then
  some (aA .u64 ((aA .u64 (aA .i64 (0- (aA .i64 (p0+1)))))+1))
 else
  some (aA .u64 p0)
def aBP (N:Nat):aU:=⟨aC.one (aE.int .i64),aE.int .u64,fun a=>(fH N) a,.pure,false⟩
theorem HK (N:Nat):aB tab 118 (aBP N):=aB.of ZU (cx:=(aM (aG N) [] [] [] [])) rfl (aL.make trivial trivial trivial) (fun a=>by kernel_rfl)
def A7 (_:Nat) (s:(Int×Int)):Option (aW (Int×Int) Int):=
 bif s.2 !=0 then
  bif s.2==0 then
   none
  else
   some (.next (s.2,af s.1 s.2))
 else
  some (.done s.1)
def pU (N:Nat) (p0:Int) (p1:Int):Option Int:=
 (aS N) (A7 N) (p0,p1)
def aH8 (N:Nat):aU:=⟨aC.cons (aE.int .u64) (aC.one (aE.int .u64)),aE.int .u64,fun a=>(pU N) a.1 a.2,.pure,false⟩
theorem NZ (N:Nat):aB tab 117 (aH8 N):=aB.of ZT (cx:=(aM (aG N) [] [] [] [])) rfl (aL.make trivial trivial trivial) (fun a=>by kernel_rfl)
def AL (N:Nat) (p0:Int×Int):Option Int:=
 bif decide (p0.2<1) then
  some 8
 else
  bif p0.1==(-9223372036854775808) then
   some 8
  else
   ((fH N) p0.1).bind fun n0=>
   ((pU N) n0 (aA .u64 p0.2)).bind fun n1=>
   bif n1 !=1 then
    some 8
   else
    some 0
def c64 (N:Nat):aU:=⟨aC.one (aE.agg (bJ.row fG)),aE.int .i64,fun a=>(AL N) a,.pure,false⟩
theorem aH9 (N:Nat):aB tab 64 (c64 N):=aB.of aHI (cx:=(aM (aG N) [(118,(aBP N)),(117,(aH8 N))] [] [] [])) rfl (aL.make ⟨(HK N),(NZ N),trivial⟩ trivial trivial) (fun a=>by kernel_rfl)
def mF (_:Nat) (p0:Field):Option Field:=
 (aZ p0.points).bind fun l0=>
 some (Field.mk l0)
def c83 (N:Nat):aU:=⟨aC.one (aE.agg bF),aE.agg bF,fun a=>(mF N) a,.own,true⟩
def SY (N:Nat):aU:=⟨aC.one (aE.agg bF),aE.agg bF,fun a=>(mF N) a,.frz,false⟩
theorem HL (N:Nat):aB tab 83 (c83 N):=aB.of SS (cx:=(aM (aG N) [] [] [] [])) rfl (aL.make trivial trivial trivial) (fun a=>by kernel_rfl)
theorem BK (N:Nat):aB tab 83 (SY N):=aB.of SS (cx:=(aM (aG N) [] [] [] [])) rfl (aL.make trivial trivial trivial) (fun a=>by kernel_rfl)
def DJ (_:Nat) (s:(Int×(List Int)×(List Bool)×(List Int))):Option (aW (Int×(List Int)×(List Bool)×(List Int)) aO):=
 bif decide (0<=s.1) then
  (bD s.2.2.2 [s.1]).bind fun l0=>
  some (.next (aA .i64 (s.1-1),s.2.1,s.2.2.1,l0))
 else
  some (.done (aO.mk s.2.1 s.2.2.1 s.2.2.2))
def AM (N:Nat) (p0:Int):Option aO:=
 bif p0==p0 then
  (wX p0 (0:Int)).bind fun l0=>
  bif p0==p0 then
   (wX p0 (false:Bool)).bind fun l1=>
   (aS N) (DJ N) (aA .i64 (p0-1),l0,l1,[])
  else
   none
 else
  none
def aJs (N:Nat):aU:=⟨aC.one (aE.int .i64),aE.agg eG,fun a=>(AM N) a,.frz,false⟩
theorem aBQ (N:Nat):aB tab 173 (aJs N):=aB.of aAt (cx:=(aM (aG N) [] [] [] [])) rfl (aL.make trivial trivial trivial) (fun a=>by kernel_rfl)
def DK (_:Nat) (s:(Int×Int×(List Int)×(List Bool)×(List Int)×(List Int))):Option (aW (Int×Int×(List Int)×(List Bool)×(List Int)×(List Int)) aH):=
 bif decide (s.2.1<s.1) then
  (bD s.2.2.2.2.2 [-1]).bind fun l0=>
  some (.next (s.1,aA .i64 (s.2.1+1),s.2.2.1,s.2.2.2.1,s.2.2.2.2.1,l0))
 else
  some (.done (aH.mk (aO.mk s.2.2.1 s.2.2.2.1 s.2.2.2.2.1) [] s.2.2.2.2.2))
def AN (N:Nat) (p0:Int):Option aH:=
 ((AM N) p0).bind fun r0=>
 (aS N) (DK N) (p0,0,r0.uses,r0.used,r0.free,[])
def aJt (N:Nat):aU:=⟨aC.one (aE.int .i64),aE.agg bY,fun a=>(AN N) a,.frz,false⟩
theorem aBR (N:Nat):aB tab 119 (aJt N):=aB.of ZV (cx:=(aM (aG N) [(173,(aJs N))] [] [] [])) rfl (aL.make ⟨(aBQ N),trivial⟩ trivial trivial) (fun a=>by kernel_rfl)
def AO (N:Nat) (p0:Field) (p1:Int×Int):Option aJ:=
 ((mF N) p0).bind fun r0=>
 ((AN N) 200).bind fun r1=>
 some (aJ.mk p1 r0 (aQ.mk 0 []) r1 [])
def c65 (N:Nat):aU:=⟨aC.cons (aE.agg bF) (aC.one (aE.agg (bJ.row fG))),aE.agg bE,fun a=>(AO N) a.1 a.2,.frz,false⟩
theorem aIa (N:Nat):aB tab 65 (c65 N):=aB.of aHJ (cx:=(aM (aG N) [(83,(c83 N)),(83,(SY N)),(119,(aJt N))] [] [] [])) rfl (aL.make ⟨(HL N),(BK N),(aBR N),trivial⟩ trivial trivial) (fun a=>by kernel_rfl)
def DL (_:Nat) (s:(Int×Int×(List (Int×Int×Int))×(List Int))):Option (aW (Int×Int×(List (Int×Int×Int))×(List Int)) (aW (Int×(List (Int×Int×Int))) (List Int))):=
 bif decide (s.2.1<s.1) then
  bif decide (s.2.1<(aa s.2.2.1.length)) then
   (aK s.2.2.1 s.2.1).bind fun a0=>
   (bD s.2.2.2 [a0.1]).bind fun l1=>
   some (.next (s.1,aA .i64 (s.2.1+1),s.2.2.1,l1))
  else
   (bD s.2.2.2 [-1]).bind fun l2=>
   some (.next (s.1,aA .i64 (s.2.1+1),s.2.2.1,l2))
 else
  some (.done (.done s.2.2.2))
def DM (N:Nat) (s:(Int×(List (Int×Int×Int)))):Option (aW (Int×(List (Int×Int×Int))) (List Int)):=
 bif decide (s.1<(aa s.2.length)) then
  some (.next (aA .i64 (s.1*2),s.2))
 else
  (aS N) (DL N) (s.1,0,s.2,[])
def AP (N:Nat) (p0:Field):Option (List Int):=
 (aS N) (DM N) (1,p0.points)
def c66 (N:Nat):aU:=⟨aC.one (aE.agg bF),aE.sl ki,fun a=>(AP N) a,.frz,false⟩
theorem aIb (N:Nat):aB tab 66 (c66 N):=aB.of aHK (cx:=(aM (aG N) [] [] [] [])) rfl (aL.make trivial trivial trivial) (fun a=>by kernel_rfl)
def mG (_:Nat) (p0:aR) (p1:Int):Option Int:=
 bif decide (p1<(aa p0.wins.length)) then
  (aK p0.wins p1).bind fun n0=>
  some n0
 else
  (aK p0.places (aA .i64 (p1- (aa p0.wins.length)))).bind fun n1=>
  some n1
def aIc (N:Nat):aU:=⟨aC.cons (aE.agg cL) (aC.one (aE.int .i64)),aE.int .i64,fun a=>(mG N) a.1 a.2,.pure,false⟩
theorem N0 (N:Nat):aB tab 113 (aIc N):=aB.of ZQ (cx:=(aM (aG N) [] [] [] [])) rfl (aL.make trivial trivial trivial) (fun a=>by kernel_rfl)
def J1 (_:Nat) (s:(Int×Int×(List (Int×Int×Int)))):Option (aW (Int×Int×(List (Int×Int×Int))) Int):=
 bif decide (s.2.1<(aa s.2.2.length)) then
  (aK s.2.2 s.2.1).bind fun a0=>
  bif a0.1==s.1 then
   some (.done s.2.1)
  else
   some (.next (s.1,aA .i64 (s.2.1+1),s.2.2))
 else
  some (.done (-1))
def rZ (N:Nat) (p0:Field) (p1:Int):Option Int:=
 (aS N) (J1 N) (p1,0,p0.points)
def aId (N:Nat):aU:=⟨aC.cons (aE.agg bF) (aC.one (aE.int .i64)),aE.int .i64,fun a=>(rZ N) a.1 a.2,.pure,false⟩
theorem N1 (N:Nat):aB tab 100 (aId N):=aB.of ZI (cx:=(aM (aG N) [] [] [] [])) rfl (aL.make trivial trivial trivial) (fun a=>by kernel_rfl)
def uH (_:Nat) (p0:Int) (p1:Int):Option (Bool×Int×Int):=
 some (false,aA .u64 ((aA .u64 ((aA .u64 ((aA .u64 (ac p0 4294967296))*(aA .u64 (ac p1 4294967296))))+(aA .u64 (ac (aA .u64 ((aA .u64 ((aA .u64 (ac p0 4294967296))*(af p1 4294967296)))+(aA .u64 (ac (aA .u64 ((af p0 4294967296)*(af p1 4294967296))) 4294967296)))) 4294967296))))+(aA .u64 (ac (aA .u64 ((aA .u64 ((af p0 4294967296)*(aA .u64 (ac p1 4294967296))))+(af (aA .u64 ((aA .u64 ((aA .u64 (ac p0 4294967296))*(af p1 4294967296)))+(aA .u64 (ac (aA .u64 ((af p0 4294967296)*(af p1 4294967296))) 4294967296)))) 4294967296))) 4294967296))),aA .u64 ((aA .u64 ((af (aA .u64 ((aA .u64 ((af p0 4294967296)*(aA .u64 (ac p1 4294967296))))+(af (aA .u64 ((aA .u64 ((aA .u64 (ac p0 4294967296))*(af p1 4294967296)))+(aA .u64 (ac (aA .u64 ((af p0 4294967296)*(af p1 4294967296))) 4294967296)))) 4294967296))) 4294967296)*4294967296))+(af (aA .u64 ((af p0 4294967296)*(af p1 4294967296))) 4294967296)))
def aJu (N:Nat):aU:=⟨aC.cons (aE.int .u64) (aC.one (aE.int .u64)),aE.agg (bJ.row rX),fun a=>(uH N) a.1 a.2,.pure,false⟩
theorem aBS (N:Nat):aB tab 182 (aJu N):=aB.of aAy (cx:=(aM (aG N) [] [] [] [])) rfl (aL.make trivial trivial trivial) (fun a=>by kernel_rfl)
def iI (N:Nat) (p0:Int) (p1:Int):Option (Bool×Int×Int):=
 ((fH N) p0).bind fun n0=>
 ((fH N) p1).bind fun n1=>
 ((uH N) n0 n1).bind fun a2=>
 bif !((decide (p0<0))==(decide (p1<0))) then
  bif p0 !=0 then
   some (p1 !=0,a2.2)
  else
   some (false,a2.2)
 else
  some (false,a2.2)
def aIe (N:Nat):aU:=⟨aC.cons (aE.int .i64) (aC.one (aE.int .i64)),aE.agg (bJ.row rX),fun a=>(iI N) a.1 a.2,.pure,false⟩
theorem N2 (N:Nat):aB tab 130 (aIe N):=aB.of Z1 (cx:=(aM (aG N) [(118,(aBP N)),(182,(aJu N))] [] [] [])) rfl (aL.make ⟨(HK N),(aBS N),trivial⟩ trivial trivial) (fun a=>by kernel_rfl)
def pV (_:Nat) (p0:Bool×Int×Int) (p1:Bool×Int×Int):Option Int:=
 bif p0.2.1 !=p1.2.1 then
  bif decide (p0.2.1<p1.2.1) then
   some (-1)
  else
   some 1
 else
  bif p0.2.2 !=p1.2.2 then
   bif decide (p0.2.2<p1.2.2) then
    some (-1)
   else
    some 1
  else
   some 0
def aIf (N:Nat):aU:=⟨aC.cons (aE.agg (bJ.row rX)) (aC.one (aE.agg (bJ.row rX))),aE.int .i64,fun a=>(pV N) a.1 a.2,.pure,false⟩
theorem N3 (N:Nat):aB tab 132 (aIf N):=aB.of Z3 (cx:=(aM (aG N) [] [] [] [])) rfl (aL.make trivial trivial trivial) (fun a=>by kernel_rfl)
def sA (_:Nat) (p0:Bool×Int×Int) (p1:Bool×Int×Int):Option (Bool×Int×Int):=
 bif decide (p0.2.2<p1.2.2) then
  some (false,aA .u64 ((aA .u64 (p0.2.1-p1.2.1)) -1),aA .u64 (p0.2.2-p1.2.2))
 else
  some (false,aA .u64 (p0.2.1-p1.2.1),aA .u64 (p0.2.2-p1.2.2))
def aJv (N:Nat):aU:=⟨aC.cons (aE.agg (bJ.row rX)) (aC.one (aE.agg (bJ.row rX))),aE.agg (bJ.row rX),fun a=>(sA N) a.1 a.2,.pure,false⟩
theorem aBT (N:Nat):aB tab 292 (aJv N):=aB.of aBD (cx:=(aM (aG N) [] [] [] [])) rfl (aL.make trivial trivial trivial) (fun a=>by kernel_rfl)
def DN (N:Nat) (p0:Bool×Int×Int) (p1:Bool×Int×Int):Option (Bool×Int×Int):=
 bif p0.1==p1.1 then
  bif decide ((aA .u64 (p0.2.2+p1.2.2))<p0.2.2) then
   some (p0.1,aA .u64 ((aA .u64 (p0.2.1+p1.2.1))+1),aA .u64 (p0.2.2+p1.2.2))
  else
   some (p0.1,aA .u64 (p0.2.1+p1.2.1),aA .u64 (p0.2.2+p1.2.2))
 else
  ((pV N) p0 p1).bind fun n0=>
  bif decide (0<=n0) then
   ((sA N) p0 p1).bind fun a1=>
   bif p0.1 then
    bif decide (0<a1.2.1) then
     some (true,a1.2)
    else
     some (decide (0<a1.2.2),a1.2)
   else
    some (false,a1.2)
  else
   ((sA N) p1 p0).bind fun a2=>
   some (p1.1,a2.2)
def aJw (N:Nat):aU:=⟨aC.cons (aE.agg (bJ.row rX)) (aC.one (aE.agg (bJ.row rX))),aE.agg (bJ.row rX),fun a=>(DN N) a.1 a.2,.pure,false⟩
theorem aBU (N:Nat):aB tab 265 (aJw N):=aB.of aBp (cx:=(aM (aG N) [(132,(aIf N)),(292,(aJv N))] [] [] [])) rfl (aL.make ⟨(N3 N),(aBT N),trivial⟩ trivial trivial) (fun a=>by kernel_rfl)
def iR (_:Nat) (p0:Bool×Int×Int):Option Int:=
 bif p0.2.1==0 then
  bif p0.2.2==0 then
   some 0
  else
   bif p0.1 then
    some (-1)
   else
    some 1
 else
  bif p0.1 then
   some (-1)
  else
   some 1
def aIg (N:Nat):aU:=⟨aC.one (aE.agg (bJ.row rX)),aE.int .i64,fun a=>(iR N) a,.pure,false⟩
theorem N4 (N:Nat):aB tab 131 (aIg N):=aB.of Z2 (cx:=(aM (aG N) [] [] [] [])) rfl (aL.make trivial trivial trivial) (fun a=>by kernel_rfl)
def F2 (N:Nat) (p0:Int×Int×Int) (p1:Int×Int×Int) (p2:Int×Int):Option Int:=
 ((iI N) (aA .i64 (p0.2.1-p1.2.1)) p2.2).bind fun a0=>
 ((iI N) (aA .i64 (p0.2.2-p1.2.2)) p2.1).bind fun a1=>
 ((DN N) a0 a1).bind fun a2=>
 ((iR N) a2).bind fun n3=>
 some n3
def aJx (N:Nat):aU:=⟨aC.cons (aE.agg (bJ.row bX)) (aC.cons (aE.agg (bJ.row bX)) (aC.one (aE.agg (bJ.row fG)))),aE.int .i64,fun a=>(F2 N) a.1 a.2.1 a.2.2,.pure,false⟩
theorem aBV (N:Nat):aB tab 232 (aJx N):=aB.of aA3 (cx:=(aM (aG N) [(130,(aIe N)),(265,(aJw N)),(131,(aIg N))] [] [] [])) rfl (aL.make ⟨(N2 N),(aBU N),(N4 N),trivial⟩ trivial trivial) (fun a=>by kernel_rfl)
def sB (N:Nat) (p0:Int×Int×Int) (p1:Int×Int×Int) (p2:Int×Int):Option Bool:=
 ((F2 N) p0 p1 p2).bind fun n0=>
 bif n0 !=0 then
  some (decide (0<n0))
 else
  bif p0.2.2 !=p1.2.2 then
   some (decide (p1.2.2<p0.2.2))
  else
   some (decide (p0.1<p1.1))
def aIh (N:Nat):aU:=⟨aC.cons (aE.agg (bJ.row bX)) (aC.cons (aE.agg (bJ.row bX)) (aC.one (aE.agg (bJ.row fG)))),aE.bool,fun a=>(sB N) a.1 a.2.1 a.2.2,.pure,false⟩
theorem N5 (N:Nat):aB tab 172 (aIh N):=aB.of aAs (cx:=(aM (aG N) [(232,(aJx N))] [] [] [])) rfl (aL.make ⟨(aBV N),trivial⟩ trivial trivial) (fun a=>by kernel_rfl)
def F3 (N:Nat) (p0:Field) (p1:Int×Int) (p2:Int) (p3:Int):Option Int:=
 bif decide (p2<0) then
  some p3
 else
  bif decide (p3<0) then
   some p2
  else
   ((rZ N) p0 p2).bind fun n0=>
   (aK p0.points n0).bind fun a1=>
   ((rZ N) p0 p3).bind fun n2=>
   (aK p0.points n2).bind fun a3=>
   ((sB N) a1 a3 p1).bind fun b4=>
   bif b4 then
    some p2
   else
    some p3
def aJy (N:Nat):aU:=⟨aC.cons (aE.agg bF) (aC.cons (aE.agg (bJ.row fG)) (aC.cons (aE.int .i64) (aC.one (aE.int .i64)))),aE.int .i64,fun a=>(F3 N) a.1 a.2.1 a.2.2.1 a.2.2.2,.pure,false⟩
theorem aBW (N:Nat):aB tab 114 (aJy N):=aB.of ZR (cx:=(aM (aG N) [(100,(aId N)),(172,(aIh N))] [] [] [])) rfl (aL.make ⟨(N1 N),(N5 N),trivial⟩ trivial trivial) (fun a=>by kernel_rfl)
def DO (N:Nat) (s:(Int×(List (Int×Int×Int))×Int×Int×(List Int)×(List Int))):Option (aW (Int×(List (Int×Int×Int))×Int×Int×(List Int)×(List Int)) aR):=
 bif decide (0<=s.1) then
  ((mG N) (aR.mk s.2.2.2.2.1 s.2.2.2.2.2) (aA .i64 ((aA .i64 (2*s.1))+1))).bind fun n0=>
  ((mG N) (aR.mk s.2.2.2.2.1 s.2.2.2.2.2) (aA .i64 ((aA .i64 (2*s.1))+2))).bind fun n1=>
  ((F3 N) (Field.mk s.2.1) (s.2.2.1,s.2.2.2.1) n0 n1).bind fun n2=>
  (aK s.2.2.2.2.2 s.1).bind fun _=>
  some (.next (aA .i64 (s.1-1),s.2.1,s.2.2.1,s.2.2.2.1,s.2.2.2.2.1,bO s.2.2.2.2.2 s.1 n2))
 else
  some (.done (aR.mk s.2.2.2.2.1 s.2.2.2.2.2))
def AQ (N:Nat) (p0:Field) (p1:Int×Int) (p2:List Int):Option aR:=
 (aZ p2).bind fun l0=>
 bif (aA .i64 ((aa p2.length) -1))==(aA .i64 ((aa p2.length) -1)) then
  (wX (aA .i64 ((aa p2.length) -1)) (0:Int)).bind fun l1=>
  (aS N) (DO N) (aA .i64 ((aa l1.length) -1),p0.points,p1.1,p1.2,l0,l1)
 else
  none
def aJz (N:Nat):aU:=⟨aC.cons (aE.agg bF) (aC.cons (aE.agg (bJ.row fG)) (aC.one (aE.sl ki))),aE.agg cL,fun a=>(AQ N) a.1 a.2.1 a.2.2,.frz,false⟩
theorem aBX (N:Nat):aB tab 159 (aJz N):=aB.of aAi (cx:=(aM (aG N) [(113,(aIc N)),(114,(aJy N))] [] [] [])) rfl (aL.make ⟨(N0 N),(aBW N),trivial⟩ trivial trivial) (fun a=>by kernel_rfl)
def DP (N:Nat) (p0:Field) (p1:Int×Int) (p2:List Int):Option aR:=
 ((AQ N) p0 p1 p2).bind fun r0=>
 some r0
def aJA (N:Nat):aU:=⟨aC.cons (aE.agg bF) (aC.cons (aE.agg (bJ.row fG)) (aC.one (aE.sl ki))),aE.agg cL,fun a=>(DP N) a.1 a.2.1 a.2.2,.frz,false⟩
theorem aBY (N:Nat):aB tab 102 (aJA N):=aB.of ZJ (cx:=(aM (aG N) [(159,(aJz N))] [] [] [])) rfl (aL.make ⟨(aBX N),trivial⟩ trivial trivial) (fun a=>by kernel_rfl)
def J2 (N:Nat) (s:(Int×(List Int)×(List Int)×(List (Int×Int)))):Option (aW (Int×(List Int)×(List Int)×(List (Int×Int))) (List (Int×Int))):=
 bif decide (s.1<(aa s.2.2.1.length)) then
  ((mG N) (aR.mk s.2.1 s.2.2.1) (aA .i64 ((aA .i64 (2*s.1))+1))).bind fun n0=>
  ((mG N) (aR.mk s.2.1 s.2.2.1) (aA .i64 ((aA .i64 (2*s.1))+2))).bind fun n1=>
  bif decide (n0<0) then
   some (.next (aA .i64 (s.1+1),s.2))
  else
   bif decide (n1<0) then
    some (.next (aA .i64 (s.1+1),s.2))
   else
    (aK s.2.2.1 s.1).bind fun n2=>
    bif n2==n0 then
     (bD s.2.2.2 [(n1,n0)]).bind fun l3=>
     some (.next (aA .i64 (s.1+1),s.2.1,s.2.2.1,l3))
    else
     (bD s.2.2.2 [(n0,n1)]).bind fun l4=>
     some (.next (aA .i64 (s.1+1),s.2.1,s.2.2.1,l4))
 else
  some (.done s.2.2.2)
def J3 (N:Nat) (p0:aR):Option (List (Int×Int)):=
 (aS N) (J2 N) (0,p0.places,p0.wins,[])
def c62 (N:Nat):aU:=⟨aC.one (aE.agg cL),aE.sl fG,fun a=>(J3 N) a,.frz,false⟩
theorem aIi (N:Nat):aB tab 62 (c62 N):=aB.of aHG (cx:=(aM (aG N) [(113,(aIc N))] [] [] [])) rfl (aL.make ⟨(N0 N),trivial⟩ trivial trivial) (fun a=>by kernel_rfl)
def pW (_:Nat) (p0:aQ):Option aQ:=
 (aZ p0.list).bind fun l0=>
 some (aQ.mk p0.next_ l0)
def c84 (N:Nat):aU:=⟨aC.one (aE.agg eH),aE.agg eH,fun a=>(pW N) a,.own,true⟩
def aBZ (N:Nat):aU:=⟨aC.one (aE.agg eH),aE.agg eH,fun a=>(pW N) a,.frz,false⟩
theorem MD (N:Nat):aB tab 84 (c84 N):=aB.of ST (cx:=(aM (aG N) [] [] [] [])) rfl (aL.make trivial trivial trivial) (fun a=>by kernel_rfl)
theorem HM (N:Nat):aB tab 84 (aBZ N):=aB.of ST (cx:=(aM (aG N) [] [] [] [])) rfl (aL.make trivial trivial trivial) (fun a=>by kernel_rfl)
def mH (_:Nat) (p0:aO):Option aO:=
 (aZ p0.uses).bind fun l0=>
 (aZ p0.used).bind fun l1=>
 (aZ p0.free).bind fun l2=>
 some (aO.mk l0 l1 l2)
def SZ (N:Nat):aU:=⟨aC.one (aE.agg eG),aE.agg eG,fun a=>(mH N) a,.own,true⟩
def J4 (N:Nat):aU:=⟨aC.one (aE.agg eG),aE.agg eG,fun a=>(mH N) a,.frz,false⟩
theorem BL (N:Nat):aB tab 137 (SZ N):=aB.of NL (cx:=(aM (aG N) [] [] [] [])) rfl (aL.make trivial trivial trivial) (fun a=>by kernel_rfl)
theorem xT (N:Nat):aB tab 137 (J4 N):=aB.of NL (cx:=(aM (aG N) [] [] [] [])) rfl (aL.make trivial trivial trivial) (fun a=>by kernel_rfl)
def kE (N:Nat) (p0:aH):Option aH:=
 ((mH N) p0.slots).bind fun r0=>
 (aZ p0.heap).bind fun l1=>
 (aZ p0.where_).bind fun l2=>
 some (aH.mk r0 l1 l2)
def c85 (N:Nat):aU:=⟨aC.one (aE.agg bY),aE.agg bY,fun a=>(kE N) a,.own,true⟩
def P1 (N:Nat):aU:=⟨aC.one (aE.agg bY),aE.agg bY,fun a=>(kE N) a,.frz,false⟩
theorem DQ (N:Nat):aB tab 85 (c85 N):=aB.of SU (cx:=(aM (aG N) [(137,(SZ N)),(137,(J4 N))] [] [] [])) rfl (aL.make ⟨(BL N),(xT N),trivial⟩ trivial trivial) (fun a=>by kernel_rfl)
theorem xU (N:Nat):aB tab 85 (P1 N):=aB.of SU (cx:=(aM (aG N) [(137,(SZ N)),(137,(J4 N))] [] [] [])) rfl (aL.make ⟨(BL N),(xT N),trivial⟩ trivial trivial) (fun a=>by kernel_rfl)
def iS (N:Nat) (p0:aJ):Option aJ:=
 ((mF N) p0.field).bind fun r0=>
 ((pW N) p0.certs).bind fun r1=>
 ((kE N) p0.agenda).bind fun r2=>
 (aZ p0.due).bind fun l3=>
 some (aJ.mk p0.now r0 r1 r2 l3)
def c37 (N:Nat):aU:=⟨aC.one (aE.agg bE),aE.agg bE,fun a=>(iS N) a,.own,true⟩
def ME (N:Nat):aU:=⟨aC.one (aE.agg bE),aE.agg bE,fun a=>(iS N) a,.frz,false⟩
theorem zJ (N:Nat):aB tab 37 (c37 N):=aB.of SN (cx:=(aM (aG N) [(83,(c83 N)),(83,(SY N)),(84,(c84 N)),(84,(aBZ N)),(85,(c85 N)),(85,(P1 N))] [] [] [])) rfl (aL.make ⟨(HL N),(BK N),(MD N),(HM N),(DQ N),(xU N),trivial⟩ trivial trivial) (fun a=>by kernel_rfl)
theorem tI (N:Nat):aB tab 37 (ME N):=aB.of SN (cx:=(aM (aG N) [(83,(c83 N)),(83,(SY N)),(84,(c84 N)),(84,(aBZ N)),(85,(c85 N)),(85,(P1 N))] [] [] [])) rfl (aL.make ⟨(HL N),(BK N),(MD N),(HM N),(DQ N),(xU N),trivial⟩ trivial trivial) (fun a=>by kernel_rfl)
def J5 (_:Nat) (s:((List (Int×Int))×Int×Int×Int)):Option (aW ((List (Int×Int))×Int×Int×Int) Bool):=
 bif decide (s.2.1<(aa s.1.length)) then
  (aK s.1 s.2.1).bind fun a0=>
  bif (a0.1==s.2.2.1)&&(a0.2==s.2.2.2) then
   some (.done true)
  else
   some (.next (s.1,aA .i64 (s.2.1+1),s.2.2))
 else
  some (.done false)
def J6 (N:Nat) (p0:List (Int×Int)) (p1:Int×Int):Option Bool:=
 (aS N) (J5 N) (p0,0,p1)
def aJB (N:Nat):aU:=⟨aC.cons (aE.sl fG) (aC.one (aE.agg (bJ.row fG))),aE.bool,fun a=>(J6 N) a.1 a.2,.pure,false⟩
theorem aB0 (N:Nat):aB tab 160 (aJB N):=aB.of aAj (cx:=(aM (aG N) [] [] [] [])) rfl (aL.make trivial trivial trivial) (fun a=>by kernel_rfl)
def zK (_:Nat) (s:(Int×Int×Int×(List (Int×Int×Int))×Int×Int×(List (Int×Int×Int)))):Option (aW (Int×Int×Int×(List (Int×Int×Int))×Int×Int×(List (Int×Int×Int))) aQ):=
 bif decide (s.2.1<(aa s.2.2.2.1.length)) then
  (aK s.2.2.2.1 s.2.1).bind fun a0=>
  bif a0.1 !=s.1 then
   (aK s.2.2.2.1 s.2.1).bind fun a1=>
   (bD s.2.2.2.2.2.2 [a1]).bind fun l2=>
   some (.next (s.1,aA .i64 (s.2.1+1),s.2.2.1,s.2.2.2.1,s.2.2.2.2.1,s.2.2.2.2.2.1,l2))
  else
   some (.next (s.1,aA .i64 (s.2.1+1),s.2.2))
 else
  some (.done (aQ.mk s.2.2.2.2.2.1 s.2.2.2.2.2.2))
def uI (N:Nat) (p0:aQ) (p1:Int):Option aQ:=
 (aS N) (zK N) (p1,0,p0.next_,p0.list,0,p0.next_,[])
def aJC (N:Nat):aU:=⟨aC.cons (aE.agg eH) (aC.one (aE.int .i64)),aE.agg eH,fun a=>(uI N) a.1 a.2,.frz,false⟩
theorem aB1 (N:Nat):aB tab 223 (aJC N):=aB.of aAU (cx:=(aM (aG N) [] [] [] [])) rfl (aL.make trivial trivial trivial) (fun a=>by kernel_rfl)
def DR (_:Nat) (s:(Int×Int×Int×Int×(List (Int×Int×Int))×Int×(List (Int×Int×Int))×(List Int)×(List Bool)×(List Int)×(List (Int×Int×Int×Int×Int))×(List Int)×(List (Int×Int×Int)))):Option (aW (Int×Int×Int×Int×(List (Int×Int×Int))×Int×(List (Int×Int×Int))×(List Int)×(List Bool)×(List Int)×(List (Int×Int×Int×Int×Int))×(List Int)×(List (Int×Int×Int))) Int):=
 bif decide (s.2.1<(aa s.2.2.2.2.2.2.2.2.2.2.2.2.length)) then
  (aK s.2.2.2.2.2.2.2.2.2.2.2.2 s.2.1).bind fun a0=>
  bif a0.1==s.1 then
   some (.done s.2.1)
  else
   some (.next (s.1,aA .i64 (s.2.1+1),s.2.2))
 else
  some (.done (-1))
def sC (N:Nat) (p0:aJ) (p1:Int):Option Int:=
 (aS N) (DR N) (p1,0,p0.now.1,p0.now.2,p0.field.points,p0.certs.next_,p0.certs.list,p0.agenda.slots.uses,p0.agenda.slots.used,p0.agenda.slots.free,p0.agenda.heap,p0.agenda.where_,p0.due)
def aIk (N:Nat):aU:=⟨aC.cons (aE.agg bE) (aC.one (aE.int .i64)),aE.int .i64,fun a=>(sC N) a.1 a.2,.pure,false⟩
theorem N6 (N:Nat):aB tab 224 (aIk N):=aB.of aAV (cx:=(aM (aG N) [] [] [] [])) rfl (aL.make trivial trivial trivial) (fun a=>by kernel_rfl)
def sD (N:Nat) (p0:aO) (p1:Int×Int):Option aO:=
 ((mH N) p0).bind fun r0=>
 (aK r0.used p1.1).bind fun _=>
 (bD r0.free [p1.1]).bind fun l2=>
 some (aO.mk r0.uses (bO r0.used p1.1 false) l2)
def aJD (N:Nat):aU:=⟨aC.cons (aE.agg eG) (aC.one (aE.agg (bJ.row fG))),aE.agg eG,fun a=>(sD N) a.1 a.2,.frz,false⟩
theorem aB2 (N:Nat):aB tab 260 (aJD N):=aB.of aBm (cx:=(aM (aG N) [(137,(SZ N)),(137,(J4 N))] [] [] [])) rfl (aL.make ⟨(BL N),(xT N),trivial⟩ trivial trivial) (fun a=>by kernel_rfl)
def uJ (N:Nat) (p0:Int×Int) (p1:Int×Int):Option Int:=
 ((iI N) p0.1 p1.2).bind fun a0=>
 ((iI N) p1.1 p0.2).bind fun a1=>
 ((iR N) a0).bind fun n2=>
 ((iR N) a1).bind fun n3=>
 bif n2 !=n3 then
  ((iR N) a0).bind fun n4=>
  ((iR N) a1).bind fun n5=>
  bif decide (n4<n5) then
   some (-1)
  else
   some 1
 else
  ((iR N) a0).bind fun n6=>
  bif decide (n6<0) then
   ((pV N) a1 a0).bind fun n7=>
   some n7
  else
   ((pV N) a0 a1).bind fun n8=>
   some n8
def c79 (N:Nat):aU:=⟨aC.cons (aE.agg (bJ.row fG)) (aC.one (aE.agg (bJ.row fG))),aE.int .i64,fun a=>(uJ N) a.1 a.2,.pure,false⟩
theorem aIl (N:Nat):aB tab 79 (c79 N):=aB.of aHT (cx:=(aM (aG N) [(130,(aIe N)),(131,(aIg N)),(132,(aIf N))] [] [] [])) rfl (aL.make ⟨(N2 N),(N4 N),(N3 N),trivial⟩ trivial trivial) (fun a=>by kernel_rfl)
def dY (N:Nat) (p0:Int×Int×Int×Int×Int) (p1:Int×Int×Int×Int×Int):Option Bool:=
 ((uJ N) (p0.1,p0.2.1) (p1.1,p1.2.1)).bind fun n0=>
 bif decide (n0<0) then
  some true
 else
  bif n0==0 then
   some (decide (p0.2.2.1<p1.2.2.1))
  else
   some false
def P2 (N:Nat):aU:=⟨aC.cons (aE.agg (bJ.row gM)) (aC.one (aE.agg (bJ.row gM))),aE.bool,fun a=>(dY N) a.1 a.2,.pure,false⟩
theorem xV (N:Nat):aB tab 169 (P2 N):=aB.of aAq (cx:=(aM (aG N) [(79,(c79 N))] [] [] [])) rfl (aL.make ⟨(aIl N),trivial⟩ trivial trivial) (fun a=>by kernel_rfl)
def eK (_:Nat) (a:(Int×Int×(List Int)×(List Bool)×(List Int)×(List (Int×Int×Int×Int×Int))×(List Int))):Option ((List Int)×(List Bool)×(List Int)×(List (Int×Int×Int×Int×Int))×(List Int)):=
 (aK a.2.2.2.2.2.1 a.2.1).bind fun a0=>
 (aK a.2.2.2.2.2.1 a.1).bind fun a1=>
 (aK a.2.2.2.2.2.1 a.1).bind fun _=>
 (aK (bO a.2.2.2.2.2.1 a.1 a0) a.2.1).bind fun _=>
 (aK (bO (bO a.2.2.2.2.2.1 a.1 a0) a.2.1 a1) a.1).bind fun a4=>
 (aK (bO (bO a.2.2.2.2.2.1 a.1 a0) a.2.1 a1) a.2.1).bind fun a5=>
 (aK a.2.2.2.2.2.2 a4.2.2.2.1).bind fun _=>
 (aK (bO a.2.2.2.2.2.2 a4.2.2.2.1 a.1) a5.2.2.2.1).bind fun _=>
 bif a.2.2.1.length==a.2.2.1.length then
  bif a.2.2.2.1.length==a.2.2.2.1.length then
   bif a.2.2.2.2.1.length==a.2.2.2.2.1.length then
    bif ((bO (bO a.2.2.2.2.2.1 a.1 a0) a.2.1 a1).length)==a.2.2.2.2.2.1.length then
     bif ((bO (bO a.2.2.2.2.2.2 a4.2.2.2.1 a.1) a5.2.2.2.1 a.2.1).length)==a.2.2.2.2.2.2.length then
      some (a.2.2.1,a.2.2.2.1,a.2.2.2.2.1,bO (bO a.2.2.2.2.2.1 a.1 a0) a.2.1 a1,bO (bO a.2.2.2.2.2.2 a4.2.2.2.1 a.1) a5.2.2.2.1 a.2.1)
     else
      none
    else
     none
   else
    none
  else
   none
 else
  none
def vU (N:Nat):bW:=⟨[.i,.i,.l [.i .i64],.l [.b],.l [.i .i64],.l [.i .i64,.i .i64,.i .i64,.i .i64,.i .i64],.l [.i .i64]],[.agg [.own 0 false,.own 1 false,.own 2 false,.own 3 false,.own 4 false],.int .i64 0,.int .i64 0],[.arr [.i .i64] [],.arr [.b] [],.arr [.i .i64] [],.arr [.i .i64,.i .i64,.i .i64,.i .i64,.i .i64] [],.arr [.i .i64] []],[.l [.i .i64],.l [.b],.l [.i .i64],.l [.i .i64,.i .i64,.i .i64,.i .i64,.i .i64],.l [.i .i64]],.tup [],[.arr [.i .i64] [],.arr [.b] [],.arr [.i .i64] [],.arr [.i .i64,.i .i64,.i .i64,.i .i64,.i .i64] [],.arr [.i .i64] []],fun a=>(eK N) a⟩
theorem lV (N:Nat):fL tab 259 (vU N):=fL.of HH (wd:=false) (cx:=(aM (aG N) [] [] [] [])) (aL.make trivial trivial trivial) (fun a=>by kernel_rfl)
def fT (_:Nat) (a:((List Int)×(List Bool)×(List Int)×Nat×Nat×Int×Int×(List (Int×Int×Int×Int×Int))×(List Int))):Option ((List (Int×Int×Int×Int×Int))×(List Int)):=
 (aK (a.2.2.2.2.2.2.2.1.take a.2.2.2.1) a.2.2.2.2.2.2.1).bind fun a0=>
 (aK (a.2.2.2.2.2.2.2.1.take a.2.2.2.1) a.2.2.2.2.2.1).bind fun a1=>
 (aK (a.2.2.2.2.2.2.2.1.take a.2.2.2.1) a.2.2.2.2.2.1).bind fun _=>
 (aK ((bO a.2.2.2.2.2.2.2.1 a.2.2.2.2.2.1 a0).take a.2.2.2.1) a.2.2.2.2.2.2.1).bind fun _=>
 (aK ((bO (bO a.2.2.2.2.2.2.2.1 a.2.2.2.2.2.1 a0) a.2.2.2.2.2.2.1 a1).take a.2.2.2.1) a.2.2.2.2.2.1).bind fun a4=>
 (aK ((bO (bO a.2.2.2.2.2.2.2.1 a.2.2.2.2.2.1 a0) a.2.2.2.2.2.2.1 a1).take a.2.2.2.1) a.2.2.2.2.2.2.1).bind fun a5=>
 (aK a.2.2.2.2.2.2.2.2 a4.2.2.2.1).bind fun _=>
 (aK (bO a.2.2.2.2.2.2.2.2 a4.2.2.2.1 a.2.2.2.2.2.1) a5.2.2.2.1).bind fun _=>
 bif ((bO (bO a.2.2.2.2.2.2.2.1 a.2.2.2.2.2.1 a0) a.2.2.2.2.2.2.1 a1).length)==a.2.2.2.2.2.2.2.1.length then
  bif ((bO (bO a.2.2.2.2.2.2.2.2 a4.2.2.2.1 a.2.2.2.2.2.1) a5.2.2.2.1 a.2.2.2.2.2.2.1).length)==a.2.2.2.2.2.2.2.2.length then
   some (bO (bO a.2.2.2.2.2.2.2.1 a.2.2.2.2.2.1 a0) a.2.2.2.2.2.2.1 a1,bO (bO a.2.2.2.2.2.2.2.2 a4.2.2.2.1 a.2.2.2.2.2.1) a5.2.2.2.1 a.2.2.2.2.2.2.1)
  else
   none
 else
  none
def vV (N:Nat):bW:=⟨[.l [.i .i64],.l [.b],.l [.i .i64],.n,.n,.i,.i,.l [.i .i64,.i .i64,.i .i64,.i .i64,.i .i64],.l [.i .i64]],[.agg [.sl [.i .i64] [],.sl [.b] [],.sl [.i .i64] [],.pre 0 0 0 false,.own 1 false],.int .i64 0,.int .i64 0],[.arr [.i .i64,.i .i64,.i .i64,.i .i64,.i .i64] [],.arr [.i .i64] []],[.l [.i .i64,.i .i64,.i .i64,.i .i64,.i .i64],.l [.i .i64]],.tup [],[.arr [.i .i64,.i .i64,.i .i64,.i .i64,.i .i64] [],.arr [.i .i64] []],fun a=>(fT N) a⟩
theorem lW (N:Nat):fL tab 259 (vV N):=fL.of HH (wd:=false) (cx:=(aM (aG N) [] [] [] [])) (aL.make trivial trivial trivial) (fun a=>by kernel_rfl)
def xW (N:Nat) (c0:((List Int)×(List Bool)×(List Int)×Nat×Nat×Int×(List (Int×Int×Int×Int×Int))×(List Int))) (s:(Int×(List (Int×Int×Int×Int×Int))×(List Int)×(List Int)×(List Bool)×(List Int)×Nat×Nat)):Option (aW (Int×(List (Int×Int×Int×Int×Int))×(List Int)×(List Int)×(List Bool)×(List Int)×Nat×Nat) (Int×(List (Int×Int×Int×Int×Int))×(List Int))):=
 bif decide (0<s.1) then
  (aK (s.2.1.take s.2.2.2.2.2.2.1) s.1).bind fun a0=>
  (aK (s.2.1.take s.2.2.2.2.2.2.1) (aA .i64 (ac (aA .i64 (s.1-1)) 2))).bind fun a1=>
  ((dY N) a0 a1).bind fun b2=>
  bif b2 then
   ((fT N) (s.2.2.2.1,s.2.2.2.2.1,s.2.2.2.2.2.1,s.2.2.2.2.2.2.1,s.2.2.2.2.2.2.2,s.1,aA .i64 (ac (aA .i64 (s.1-1)) 2),s.2.1,s.2.2.1)).bind fun a3=>
   some (.next (aA .i64 (ac (aA .i64 (s.1-1)) 2),a3.1,a3.2,s.2.2.2))
  else
   bif s.2.1.length==c0.2.2.2.2.2.2.1.length then
    bif s.2.2.1.length==c0.2.2.2.2.2.2.2.length then
     some (.done (s.1,s.2.1,s.2.2.1))
    else
     none
   else
    none
 else
  bif s.2.1.length==c0.2.2.2.2.2.2.1.length then
   bif s.2.2.1.length==c0.2.2.2.2.2.2.2.length then
    some (.done (s.1,s.2.1,s.2.2.1))
   else
    none
  else
   none
def mI (N:Nat) (a:((List Int)×(List Bool)×(List Int)×Nat×Nat×Int×(List (Int×Int×Int×Int×Int))×(List Int))):Option (Int×(List (Int×Int×Int×Int×Int))×(List Int)):=
 (aS N) ((xW N) a) (a.2.2.2.2.2.1,a.2.2.2.2.2.2.1,a.2.2.2.2.2.2.2,a.1,a.2.1,a.2.2.1,a.2.2.2.1,a.2.2.2.2.1)
def HN (N:Nat):bW:=⟨[.l [.i .i64],.l [.b],.l [.i .i64],.n,.n,.i,.l [.i .i64,.i .i64,.i .i64,.i .i64,.i .i64],.l [.i .i64]],[.agg [.sl [.i .i64] [],.sl [.b] [],.sl [.i .i64] [],.pre 0 0 0 false,.own 1 false],.int .i64 0],[.arr [.i .i64,.i .i64,.i .i64,.i .i64,.i .i64] [],.arr [.i .i64] []],[.i,.l [.i .i64,.i .i64,.i .i64,.i .i64,.i .i64],.l [.i .i64]],.int .i64 0,[.arr [.i .i64,.i .i64,.i .i64,.i .i64,.i .i64] [],.arr [.i .i64] []],fun a=>(mI N) a⟩
theorem zL (N:Nat):fL tab 262 (HN N):=fL.of HI (wd:=true) (cx:=(aM (aG N) [(169,(P2 N))] [(259,(vU N)),(259,(vV N))] [] [])) (aL.make ⟨(xV N),trivial⟩ ⟨(lV N),(lW N),trivial⟩ trivial) (fun a=>by kernel_rfl)
def tL (N:Nat) (c0:((List Int)×(List Bool)×(List Int)×Nat×Nat×Int×(List (Int×Int×Int×Int×Int))×(List Int))) (s:(Int×(List (Int×Int×Int×Int×Int))×(List Int)×(List Int)×(List Bool)×(List Int)×Nat×Nat)):Option (aW (Int×(List (Int×Int×Int×Int×Int))×(List Int)×(List Int)×(List Bool)×(List Int)×Nat×Nat) ((List (Int×Int×Int×Int×Int))×(List Int))):=
 bif decide ((aa s.2.2.2.2.2.2.1)<=(aA .i64 ((aA .i64 (2*s.1))+1))) then
  bif s.2.1.length==c0.2.2.2.2.2.2.1.length then
   bif s.2.2.1.length==c0.2.2.2.2.2.2.2.length then
    some (.done (s.2.1,s.2.2.1))
   else
    none
  else
   none
 else
  bif decide ((aA .i64 ((aA .i64 ((aA .i64 (2*s.1))+1))+1))<(aa s.2.2.2.2.2.2.1)) then
   (aK (s.2.1.take s.2.2.2.2.2.2.1) (aA .i64 ((aA .i64 ((aA .i64 (2*s.1))+1))+1))).bind fun a0=>
   (aK (s.2.1.take s.2.2.2.2.2.2.1) (aA .i64 ((aA .i64 (2*s.1))+1))).bind fun a1=>
   ((dY N) a0 a1).bind fun b2=>
   bif b2 then
    (aK (s.2.1.take s.2.2.2.2.2.2.1) (aA .i64 ((aA .i64 ((aA .i64 (2*s.1))+1))+1))).bind fun a3=>
    (aK (s.2.1.take s.2.2.2.2.2.2.1) s.1).bind fun a4=>
    ((dY N) a3 a4).bind fun b5=>
    bif !b5 then
     bif s.2.1.length==c0.2.2.2.2.2.2.1.length then
      bif s.2.2.1.length==c0.2.2.2.2.2.2.2.length then
       some (.done (s.2.1,s.2.2.1))
      else
       none
     else
      none
    else
     ((fT N) (s.2.2.2.1,s.2.2.2.2.1,s.2.2.2.2.2.1,s.2.2.2.2.2.2.1,s.2.2.2.2.2.2.2,s.1,aA .i64 ((aA .i64 ((aA .i64 (2*s.1))+1))+1),s.2.1,s.2.2.1)).bind fun a6=>
     some (.next (aA .i64 ((aA .i64 ((aA .i64 (2*s.1))+1))+1),a6.1,a6.2,s.2.2.2))
   else
    (aK (s.2.1.take s.2.2.2.2.2.2.1) (aA .i64 ((aA .i64 (2*s.1))+1))).bind fun a7=>
    (aK (s.2.1.take s.2.2.2.2.2.2.1) s.1).bind fun a8=>
    ((dY N) a7 a8).bind fun b9=>
    bif !b9 then
     bif s.2.1.length==c0.2.2.2.2.2.2.1.length then
      bif s.2.2.1.length==c0.2.2.2.2.2.2.2.length then
       some (.done (s.2.1,s.2.2.1))
      else
       none
     else
      none
    else
     ((fT N) (s.2.2.2.1,s.2.2.2.2.1,s.2.2.2.2.2.1,s.2.2.2.2.2.2.1,s.2.2.2.2.2.2.2,s.1,aA .i64 ((aA .i64 (2*s.1))+1),s.2.1,s.2.2.1)).bind fun a10=>
     some (.next (aA .i64 ((aA .i64 (2*s.1))+1),a10.1,a10.2,s.2.2.2))
  else
   (aK (s.2.1.take s.2.2.2.2.2.2.1) (aA .i64 ((aA .i64 (2*s.1))+1))).bind fun a11=>
   (aK (s.2.1.take s.2.2.2.2.2.2.1) s.1).bind fun a12=>
   ((dY N) a11 a12).bind fun b13=>
   bif !b13 then
    bif s.2.1.length==c0.2.2.2.2.2.2.1.length then
     bif s.2.2.1.length==c0.2.2.2.2.2.2.2.length then
      some (.done (s.2.1,s.2.2.1))
     else
      none
    else
     none
   else
    ((fT N) (s.2.2.2.1,s.2.2.2.2.1,s.2.2.2.2.2.1,s.2.2.2.2.2.2.1,s.2.2.2.2.2.2.2,s.1,aA .i64 ((aA .i64 (2*s.1))+1),s.2.1,s.2.2.1)).bind fun a14=>
    some (.next (aA .i64 ((aA .i64 (2*s.1))+1),a14.1,a14.2,s.2.2.2))
def kF (N:Nat) (a:((List Int)×(List Bool)×(List Int)×Nat×Nat×Int×(List (Int×Int×Int×Int×Int))×(List Int))):Option ((List (Int×Int×Int×Int×Int))×(List Int)):=
 (aS N) ((tL N) a) (a.2.2.2.2.2.1,a.2.2.2.2.2.2.1,a.2.2.2.2.2.2.2,a.1,a.2.1,a.2.2.1,a.2.2.2.1,a.2.2.2.2.1)
def MF (N:Nat):bW:=⟨[.l [.i .i64],.l [.b],.l [.i .i64],.n,.n,.i,.l [.i .i64,.i .i64,.i .i64,.i .i64,.i .i64],.l [.i .i64]],[.agg [.sl [.i .i64] [],.sl [.b] [],.sl [.i .i64] [],.pre 0 0 0 false,.own 1 false],.int .i64 0],[.arr [.i .i64,.i .i64,.i .i64,.i .i64,.i .i64] [],.arr [.i .i64] []],[.l [.i .i64,.i .i64,.i .i64,.i .i64,.i .i64],.l [.i .i64]],.tup [],[.arr [.i .i64,.i .i64,.i .i64,.i .i64,.i .i64] [],.arr [.i .i64] []],fun a=>(kF N) a⟩
theorem F4 (N:Nat):fL tab 261 (MF N):=fL.of NT (wd:=false) (cx:=(aM (aG N) [(169,(P2 N))] [(259,(vU N)),(259,(vV N))] [] [])) (aL.make ⟨(xV N),trivial⟩ ⟨(lV N),(lW N),trivial⟩ trivial) (fun a=>by kernel_rfl)
def iJ (N:Nat) (p0:aH) (p1:Int×Int):Option aH:=
 ((kE N) p0).bind fun r0=>
 (aK r0.where_ p1.1).bind fun n1=>
 bif n1 !=(aA .i64 ((aa r0.heap.length) -1)) then
  ((eK N) (n1,aA .i64 ((aa r0.heap.length) -1),r0.slots.uses,r0.slots.used,r0.slots.free,r0.heap,r0.where_)).bind fun a2=>
  (fF a2.2.2.2.1 0 (aA .i64 ((aa r0.heap.length) -1))).bind fun _=>
  (aK a2.2.2.2.2 p1.1).bind fun _=>
  ((sD N) (aO.mk a2.1 a2.2.1 a2.2.2.1) p1).bind fun r5=>
  bif n1 !=(aA .i64 ((aa r0.heap.length) -1)) then
   ((mI N) (r5.uses,r5.used,r5.free,(aA .i64 ((aa r0.heap.length) -1)).toNat,a2.2.2.2.1.length,n1,a2.2.2.2.1,bO a2.2.2.2.2 p1.1 (-1))).bind fun a6=>
   ((kF N) (r5.uses,r5.used,r5.free,(aA .i64 ((aa r0.heap.length) -1)).toNat,a2.2.2.2.1.length,a6)).bind fun a7=>
   some (aH.mk r5 (a7.1.take ((aA .i64 ((aa r0.heap.length) -1)).toNat)) a7.2)
  else
   some (aH.mk r5 (a2.2.2.2.1.take ((aA .i64 ((aa r0.heap.length) -1)).toNat)) (bO a2.2.2.2.2 p1.1 (-1)))
 else
  (fF r0.heap 0 (aA .i64 ((aa r0.heap.length) -1))).bind fun _=>
  (aK r0.where_ p1.1).bind fun _=>
  ((sD N) r0.slots p1).bind fun r10=>
  bif n1 !=(aA .i64 ((aa r0.heap.length) -1)) then
   ((mI N) (r10.uses,r10.used,r10.free,(aA .i64 ((aa r0.heap.length) -1)).toNat,r0.heap.length,n1,r0.heap,bO r0.where_ p1.1 (-1))).bind fun a11=>
   ((kF N) (r10.uses,r10.used,r10.free,(aA .i64 ((aa r0.heap.length) -1)).toNat,r0.heap.length,a11)).bind fun a12=>
   some (aH.mk r10 (a12.1.take ((aA .i64 ((aa r0.heap.length) -1)).toNat)) a12.2)
  else
   some (aH.mk r10 (r0.heap.take ((aA .i64 ((aa r0.heap.length) -1)).toNat)) (bO r0.where_ p1.1 (-1)))
def aIm (N:Nat):aU:=⟨aC.cons (aE.agg bY) (aC.one (aE.agg (bJ.row fG))),aE.agg bY,fun a=>(iJ N) a.1 a.2,.frz,false⟩
theorem N7 (N:Nat):aB tab 225 (aIm N):=aB.of aAW (cx:=(aM (aG N) [(85,(c85 N)),(85,(P1 N)),(260,(aJD N))] [(259,(vU N)),(259,(vV N)),(262,(HN N)),(261,(MF N))] [] [])) rfl (aL.make ⟨(DQ N),(xU N),(aB2 N),trivial⟩ ⟨(lV N),(lW N),(zL N),(F4 N),trivial⟩ trivial) (fun a=>by kernel_rfl)
def DS (N:Nat) (p0:aJ) (p1:Int):Option aJ:=
 ((iS N) p0).bind fun r0=>
 ((uI N) p0.certs p1).bind fun r1=>
 ((sC N) p0 p1).bind fun n2=>
 bif decide (0<=n2) then
  (aK p0.due n2).bind fun a3=>
  ((iJ N) p0.agenda a3.2).bind fun r4=>
  (fF p0.due 0 n2).bind fun l5=>
  (aZ l5).bind fun l6=>
  (fF p0.due (aA .i64 (n2+1)) (aa p0.due.length)).bind fun l7=>
  bif l7.isEmpty then
   some (aJ.mk r0.now r0.field r1 r4 l6)
  else
   (bD l6 l7).bind fun l8=>
   some (aJ.mk r0.now r0.field r1 r4 l8)
 else
  some (aJ.mk r0.now r0.field r1 r0.agenda r0.due)
def aJE (N:Nat):aU:=⟨aC.cons (aE.agg bE) (aC.one (aE.int .i64)),aE.agg bE,fun a=>(DS N) a.1 a.2,.frz,false⟩
theorem aB3 (N:Nat):aB tab 161 (aJE N):=aB.of aAk (cx:=(aM (aG N) [(37,(c37 N)),(37,(ME N)),(223,(aJC N)),(224,(aIk N)),(225,(aIm N))] [] [] [])) rfl (aL.make ⟨(zJ N),(tI N),(aB1 N),(N6 N),(N7 N),trivial⟩ trivial trivial) (fun a=>by kernel_rfl)
def EV (_:Nat) (s:(Int×(List (Int×Int×Int))×(List (Int×Int×Int)))):Option (aW (Int×(List (Int×Int×Int))×(List (Int×Int×Int))) Bool):=
 bif decide (s.1<(aa s.2.1.length)) then
  (aK s.2.1 s.1).bind fun a0=>
  (aK s.2.2 s.1).bind fun a1=>
  bif !((a0.1==a1.1)&&((a0.2.1==a1.2.1)&&(a0.2.2==a1.2.2))) then
   some (.done false)
  else
   some (.next (aA .i64 (s.1+1),s.2))
 else
  some (.done true)
def vW (N:Nat) (p0:Field) (p1:Field):Option Bool:=
 bif (aa p0.points.length) !=(aa p1.points.length) then
  some false
 else
  (aS N) (EV N) (0,p0.points,p1.points)
def c24 (N:Nat):aU:=⟨aC.cons (aE.agg bF) (aC.one (aE.agg bF)),aE.bool,fun a=>(vW N) a.1 a.2,.pure,false⟩
theorem S0 (N:Nat):aB tab 24 (c24 N):=aB.of aHp (cx:=(aM (aG N) [] [] [] [])) rfl (aL.make trivial trivial trivial) (fun a=>by kernel_rfl)
def vX (_:Nat) (p0:Bool) (p1:Bool×Int×Int) (p2:Bool×Int×Int):Option ((Int×Int)×Int):=
 bif decide (0<p1.2.1) then
  some ((0,0),16)
 else
  bif decide (9223372036854775807<p1.2.2) then
   some ((0,0),16)
  else
   bif decide (0<p2.2.1) then
    some ((0,0),16)
   else
    bif decide (9223372036854775807<p2.2.2) then
     some ((0,0),16)
    else
     bif p0 then
      some ((aA .i64 (0- (aA .i64 p1.2.2)),aA .i64 p2.2.2),0)
     else
      some ((aA .i64 p1.2.2,aA .i64 p2.2.2),0)
def aJF (N:Nat):aU:=⟨aC.cons aE.bool (aC.cons (aE.agg (bJ.row rX)) (aC.one (aE.agg (bJ.row rX)))),aE.tup (aC.cons (aE.agg (bJ.row fG)) (aC.one (aE.int .i64))),fun a=>(vX N) a.1 a.2.1 a.2.2,.pure,false⟩
theorem aB4 (N:Nat):aB tab 291 (aJF N):=aB.of aBC (cx:=(aM (aG N) [] [] [] [])) rfl (aL.make trivial trivial trivial) (fun a=>by kernel_rfl)
def DT (N:Nat) (p0:Int) (p1:Int):Option ((Int×Int)×Int):=
 bif p1==0 then
  some ((0,0),26)
 else
  ((fH N) p0).bind fun n0=>
  ((fH N) p1).bind fun n1=>
  ((pU N) n0 n1).bind fun n2=>
  bif !((decide (p0<0))==(decide (p1<0))) then
   ((fH N) p0).bind fun n3=>
   bif n2==0 then
    none
   else
    ((fH N) p1).bind fun n4=>
    bif n2==0 then
     none
    else
     ((vX N) (p0 !=0) (false,0,aA .u64 (ac n3 n2)) (false,0,aA .u64 (ac n4 n2))).bind fun a5=>
     some a5
  else
   ((fH N) p0).bind fun n6=>
   bif n2==0 then
    none
   else
    ((fH N) p1).bind fun n7=>
    bif n2==0 then
     none
    else
     ((vX N) false (false,0,aA .u64 (ac n6 n2)) (false,0,aA .u64 (ac n7 n2))).bind fun a8=>
     some a8
def aJG (N:Nat):aU:=⟨aC.cons (aE.int .i64) (aC.one (aE.int .i64)),aE.tup (aC.cons (aE.agg (bJ.row fG)) (aC.one (aE.int .i64))),fun a=>(DT N) a.1 a.2,.pure,false⟩
theorem aB5 (N:Nat):aB tab 264 (aJG N):=aB.of aBo (cx:=(aM (aG N) [(118,(aBP N)),(117,(aH8 N)),(291,(aJF N))] [] [] [])) rfl (aL.make ⟨(HK N),(NZ N),(aB4 N),trivial⟩ trivial trivial) (fun a=>by kernel_rfl)
def F5 (N:Nat) (p0:Int×Int×Int) (p1:Int×Int×Int):Option (Int×Int):=
 ((DT N) (aA .i64 (p0.2.1-p1.2.1)) (aA .i64 (p1.2.2-p0.2.2))).bind fun a0=>
 some a0.1
def aJH (N:Nat):aU:=⟨aC.cons (aE.agg (bJ.row bX)) (aC.one (aE.agg (bJ.row bX))),aE.agg (bJ.row fG),fun a=>(F5 N) a.1 a.2,.pure,false⟩
theorem aB6 (N:Nat):aB tab 231 (aJH N):=aB.of aA2 (cx:=(aM (aG N) [(264,(aJG N))] [] [] [])) rfl (aL.make ⟨(aB5 N),trivial⟩ trivial trivial) (fun a=>by kernel_rfl)
def uK (N:Nat) (p0:Int×Int×Int) (p1:Int×Int×Int) (p2:Int×Int):Option ((Int×Int)×Bool):=
 ((sB N) p1 p0 p2).bind fun b0=>
 bif b0 then
  some (p2,true)
 else
  bif decide (p0.2.2<p1.2.2) then
   ((F5 N) p0 p1).bind fun a1=>
   some (a1,true)
  else
   some ((0,0),false)
def aJI (N:Nat):aU:=⟨aC.cons (aE.agg (bJ.row bX)) (aC.cons (aE.agg (bJ.row bX)) (aC.one (aE.agg (bJ.row fG)))),aE.tup (aC.cons (aE.agg (bJ.row fG)) (aC.one aE.bool)),fun a=>(uK N) a.1 a.2.1 a.2.2,.pure,false⟩
theorem aB7 (N:Nat):aB tab 170 (aJI N):=aB.of aAr (cx:=(aM (aG N) [(172,(aIh N)),(231,(aJH N))] [] [] [])) rfl (aL.make ⟨(N5 N),(aB6 N),trivial⟩ trivial trivial) (fun a=>by kernel_rfl)
def vY (N:Nat) (p0:Field) (p1:Int×Int) (p2:Int×Int):Option ((Int×Int)×Bool):=
 ((rZ N) p0 p1.2).bind fun n0=>
 (aK p0.points n0).bind fun a1=>
 ((rZ N) p0 p1.1).bind fun n2=>
 (aK p0.points n2).bind fun a3=>
 ((uK N) a1 a3 p2).bind fun a4=>
 some a4
def aIn (N:Nat):aU:=⟨aC.cons (aE.agg bF) (aC.cons (aE.agg (bJ.row fG)) (aC.one (aE.agg (bJ.row fG)))),aE.tup (aC.cons (aE.agg (bJ.row fG)) (aC.one aE.bool)),fun a=>(vY N) a.1 a.2.1 a.2.2,.pure,false⟩
theorem N8 (N:Nat):aB tab 110 (aIn N):=aB.of ZP (cx:=(aM (aG N) [(100,(aId N)),(170,(aJI N))] [] [] [])) rfl (aL.make ⟨(N1 N),(aB7 N),trivial⟩ trivial trivial) (fun a=>by kernel_rfl)
def xX (N:Nat) (c0:(Int×(List Int)×(List Bool)×(List Int)×(List (Int×Int×Int×Int×Int))×(List Int))) (s:(Int×(List Int)×(List Bool)×(List Int)×(List (Int×Int×Int×Int×Int))×(List Int))):Option (aW (Int×(List Int)×(List Bool)×(List Int)×(List (Int×Int×Int×Int×Int))×(List Int)) (Int×(List Int)×(List Bool)×(List Int)×(List (Int×Int×Int×Int×Int))×(List Int))):=
 bif decide (0<s.1) then
  (aK s.2.2.2.2.1 s.1).bind fun a0=>
  (aK s.2.2.2.2.1 (aA .i64 (ac (aA .i64 (s.1-1)) 2))).bind fun a1=>
  ((dY N) a0 a1).bind fun b2=>
  bif b2 then
   ((eK N) (s.1,aA .i64 (ac (aA .i64 (s.1-1)) 2),s.2)).bind fun a3=>
   some (.next (aA .i64 (ac (aA .i64 (s.1-1)) 2),a3))
  else
   bif s.2.1.length==c0.2.1.length then
    bif s.2.2.1.length==c0.2.2.1.length then
     bif s.2.2.2.1.length==c0.2.2.2.1.length then
      bif s.2.2.2.2.1.length==c0.2.2.2.2.1.length then
       bif s.2.2.2.2.2.length==c0.2.2.2.2.2.length then
        some (.done s)
       else
        none
      else
       none
     else
      none
    else
     none
   else
    none
 else
  bif s.2.1.length==c0.2.1.length then
   bif s.2.2.1.length==c0.2.2.1.length then
    bif s.2.2.2.1.length==c0.2.2.2.1.length then
     bif s.2.2.2.2.1.length==c0.2.2.2.2.1.length then
      bif s.2.2.2.2.2.length==c0.2.2.2.2.2.length then
       some (.done s)
      else
       none
     else
      none
    else
     none
   else
    none
  else
   none
def sE (N:Nat) (a:(Int×(List Int)×(List Bool)×(List Int)×(List (Int×Int×Int×Int×Int))×(List Int))):Option (Int×(List Int)×(List Bool)×(List Int)×(List (Int×Int×Int×Int×Int))×(List Int)):=
 (aS N) ((xX N) a) a
def MG (N:Nat):bW:=⟨[.i,.l [.i .i64],.l [.b],.l [.i .i64],.l [.i .i64,.i .i64,.i .i64,.i .i64,.i .i64],.l [.i .i64]],[.agg [.own 0 false,.own 1 false,.own 2 false,.own 3 false,.own 4 false],.int .i64 0],[.arr [.i .i64] [],.arr [.b] [],.arr [.i .i64] [],.arr [.i .i64,.i .i64,.i .i64,.i .i64,.i .i64] [],.arr [.i .i64] []],[.i,.l [.i .i64],.l [.b],.l [.i .i64],.l [.i .i64,.i .i64,.i .i64,.i .i64,.i .i64],.l [.i .i64]],.int .i64 0,[.arr [.i .i64] [],.arr [.b] [],.arr [.i .i64] [],.arr [.i .i64,.i .i64,.i .i64,.i .i64,.i .i64] [],.arr [.i .i64] []],fun a=>(sE N) a⟩
theorem F6 (N:Nat):fL tab 262 (MG N):=fL.of HI (wd:=false) (cx:=(aM (aG N) [(169,(P2 N))] [(259,(vU N)),(259,(vV N))] [] [])) (aL.make ⟨(xV N),trivial⟩ ⟨(lV N),(lW N),trivial⟩ trivial) (fun a=>by kernel_rfl)
def tM (N:Nat) (c0:(Int×(List Int)×(List Bool)×(List Int)×(List (Int×Int×Int×Int×Int))×(List Int))) (s:(Int×(List Int)×(List Bool)×(List Int)×(List (Int×Int×Int×Int×Int))×(List Int))):Option (aW (Int×(List Int)×(List Bool)×(List Int)×(List (Int×Int×Int×Int×Int))×(List Int)) ((List Int)×(List Bool)×(List Int)×(List (Int×Int×Int×Int×Int))×(List Int))):=
 bif decide ((aa s.2.2.2.2.1.length)<=(aA .i64 ((aA .i64 (2*s.1))+1))) then
  bif s.2.1.length==c0.2.1.length then
   bif s.2.2.1.length==c0.2.2.1.length then
    bif s.2.2.2.1.length==c0.2.2.2.1.length then
     bif s.2.2.2.2.1.length==c0.2.2.2.2.1.length then
      bif s.2.2.2.2.2.length==c0.2.2.2.2.2.length then
       some (.done s.2)
      else
       none
     else
      none
    else
     none
   else
    none
  else
   none
 else
  bif decide ((aA .i64 ((aA .i64 ((aA .i64 (2*s.1))+1))+1))<(aa s.2.2.2.2.1.length)) then
   (aK s.2.2.2.2.1 (aA .i64 ((aA .i64 ((aA .i64 (2*s.1))+1))+1))).bind fun a0=>
   (aK s.2.2.2.2.1 (aA .i64 ((aA .i64 (2*s.1))+1))).bind fun a1=>
   ((dY N) a0 a1).bind fun b2=>
   bif b2 then
    (aK s.2.2.2.2.1 (aA .i64 ((aA .i64 ((aA .i64 (2*s.1))+1))+1))).bind fun a3=>
    (aK s.2.2.2.2.1 s.1).bind fun a4=>
    ((dY N) a3 a4).bind fun b5=>
    bif !b5 then
     bif s.2.1.length==c0.2.1.length then
      bif s.2.2.1.length==c0.2.2.1.length then
       bif s.2.2.2.1.length==c0.2.2.2.1.length then
        bif s.2.2.2.2.1.length==c0.2.2.2.2.1.length then
         bif s.2.2.2.2.2.length==c0.2.2.2.2.2.length then
          some (.done s.2)
         else
          none
        else
         none
       else
        none
      else
       none
     else
      none
    else
     ((eK N) (s.1,aA .i64 ((aA .i64 ((aA .i64 (2*s.1))+1))+1),s.2)).bind fun a6=>
     some (.next (aA .i64 ((aA .i64 ((aA .i64 (2*s.1))+1))+1),a6))
   else
    (aK s.2.2.2.2.1 (aA .i64 ((aA .i64 (2*s.1))+1))).bind fun a7=>
    (aK s.2.2.2.2.1 s.1).bind fun a8=>
    ((dY N) a7 a8).bind fun b9=>
    bif !b9 then
     bif s.2.1.length==c0.2.1.length then
      bif s.2.2.1.length==c0.2.2.1.length then
       bif s.2.2.2.1.length==c0.2.2.2.1.length then
        bif s.2.2.2.2.1.length==c0.2.2.2.2.1.length then
         bif s.2.2.2.2.2.length==c0.2.2.2.2.2.length then
          some (.done s.2)
         else
          none
        else
         none
       else
        none
      else
       none
     else
      none
    else
     ((eK N) (s.1,aA .i64 ((aA .i64 (2*s.1))+1),s.2)).bind fun a10=>
     some (.next (aA .i64 ((aA .i64 (2*s.1))+1),a10))
  else
   (aK s.2.2.2.2.1 (aA .i64 ((aA .i64 (2*s.1))+1))).bind fun a11=>
   (aK s.2.2.2.2.1 s.1).bind fun a12=>
   ((dY N) a11 a12).bind fun b13=>
   bif !b13 then
    bif s.2.1.length==c0.2.1.length then
     bif s.2.2.1.length==c0.2.2.1.length then
      bif s.2.2.2.1.length==c0.2.2.2.1.length then
       bif s.2.2.2.2.1.length==c0.2.2.2.2.1.length then
        bif s.2.2.2.2.2.length==c0.2.2.2.2.2.length then
         some (.done s.2)
        else
         none
       else
        none
      else
       none
     else
      none
    else
     none
   else
    ((eK N) (s.1,aA .i64 ((aA .i64 (2*s.1))+1),s.2)).bind fun a14=>
    some (.next (aA .i64 ((aA .i64 (2*s.1))+1),a14))
def oP (N:Nat) (a:(Int×(List Int)×(List Bool)×(List Int)×(List (Int×Int×Int×Int×Int))×(List Int))):Option ((List Int)×(List Bool)×(List Int)×(List (Int×Int×Int×Int×Int))×(List Int)):=
 (aS N) ((tM N) a) a
def S1 (N:Nat):bW:=⟨[.i,.l [.i .i64],.l [.b],.l [.i .i64],.l [.i .i64,.i .i64,.i .i64,.i .i64,.i .i64],.l [.i .i64]],[.agg [.own 0 false,.own 1 false,.own 2 false,.own 3 false,.own 4 false],.int .i64 0],[.arr [.i .i64] [],.arr [.b] [],.arr [.i .i64] [],.arr [.i .i64,.i .i64,.i .i64,.i .i64,.i .i64] [],.arr [.i .i64] []],[.l [.i .i64],.l [.b],.l [.i .i64],.l [.i .i64,.i .i64,.i .i64,.i .i64,.i .i64],.l [.i .i64]],.tup [],[.arr [.i .i64] [],.arr [.b] [],.arr [.i .i64] [],.arr [.i .i64,.i .i64,.i .i64,.i .i64,.i .i64] [],.arr [.i .i64] []],fun a=>(oP N) a⟩
theorem P3 (N:Nat):fL tab 261 (S1 N):=fL.of NT (wd:=false) (cx:=(aM (aG N) [(169,(P2 N))] [(259,(vU N)),(259,(vV N))] [] [])) (aL.make ⟨(xV N),trivial⟩ ⟨(lV N),(lW N),trivial⟩ trivial) (fun a=>by kernel_rfl)
def uL (N:Nat) (p0:aH) (p1:Int×Int) (p2:Int×Int):Option aH:=
 ((kE N) p0).bind fun r0=>
 (aK r0.where_ p1.1).bind fun n1=>
 (aK r0.heap n1).bind fun a2=>
 ((sE N) (n1,r0.slots.uses,r0.slots.used,r0.slots.free,bO r0.heap n1 (p2.1,p2.2,a2.2.2),r0.where_)).bind fun a3=>
 ((oP N) a3).bind fun a4=>
 some (aH.mk (aO.mk a4.1 a4.2.1 a4.2.2.1) a4.2.2.2.1 a4.2.2.2.2)
def aJJ (N:Nat):aU:=⟨aC.cons (aE.agg bY) (aC.cons (aE.agg (bJ.row fG)) (aC.one (aE.agg (bJ.row fG)))),aE.agg bY,fun a=>(uL N) a.1 a.2.1 a.2.2,.frz,false⟩
theorem aB8 (N:Nat):aB tab 226 (aJJ N):=aB.of aAX (cx:=(aM (aG N) [(85,(c85 N)),(85,(P1 N))] [(262,(HN N)),(261,(MF N)),(262,(MG N)),(261,(S1 N))] [] [])) rfl (aL.make ⟨(DQ N),(xU N),trivial⟩ ⟨(zL N),(F4 N),(F6 N),(P3 N),trivial⟩ trivial) (fun a=>by kernel_rfl)
def eP (_:Nat) (p0:aO):Option Bool:=
 bif decide (0<(aa p0.free.length)) then
  (aK p0.free (aA .i64 ((aa p0.free.length) -1))).bind fun n0=>
  (aK p0.uses n0).bind fun n1=>
  some (decide (n1<1000000))
 else
  some false
def aIo (N:Nat):aU:=⟨aC.one (aE.agg eG),aE.bool,fun a=>(eP N) a,.pure,false⟩
theorem N9 (N:Nat):aB tab 227 (aIo N):=aB.of aAY (cx:=(aM (aG N) [] [] [] [])) rfl (aL.make trivial trivial trivial) (fun a=>by kernel_rfl)
def AR (N:Nat) (p0:aO):Option (aO×(Int×Int)):=
 ((mH N) p0).bind fun r0=>
 (aK r0.free (aA .i64 ((aa r0.free.length) -1))).bind fun n1=>
 (fF r0.free 0 (aA .i64 ((aa r0.free.length) -1))).bind fun _=>
 (aK r0.uses n1).bind fun n3=>
 (aK r0.uses n1).bind fun _=>
 (aK r0.used n1).bind fun _=>
 (aK (bO r0.uses n1 (aA .i64 (n3+1))) n1).bind fun n6=>
 some (aO.mk (bO r0.uses n1 (aA .i64 (n3+1))) (bO r0.used n1 true) (r0.free.take ((aA .i64 ((aa r0.free.length) -1)).toNat)),n1,n6)
def aJK (N:Nat):aU:=⟨aC.one (aE.agg eG),aE.tup (aC.cons (aE.agg eG) (aC.one (aE.agg (bJ.row fG)))),fun a=>(AR N) a,.frz,false⟩
theorem aB9 (N:Nat):aB tab 263 (aJK N):=aB.of aBn (cx:=(aM (aG N) [(137,(SZ N)),(137,(J4 N))] [] [] [])) rfl (aL.make ⟨(BL N),(xT N),trivial⟩ trivial trivial) (fun a=>by kernel_rfl)
def oQ (_:Nat) (a:((List Int)×(List Bool)×(List Int)×Int×Int×(List (Int×Int×Int×Int×Int))×(List Int))):Option ((List (Int×Int×Int×Int×Int))×(List Int)):=
 (aK a.2.2.2.2.2.1 a.2.2.2.2.1).bind fun a0=>
 (aK a.2.2.2.2.2.1 a.2.2.2.1).bind fun a1=>
 (aK a.2.2.2.2.2.1 a.2.2.2.1).bind fun _=>
 (aK (bO a.2.2.2.2.2.1 a.2.2.2.1 a0) a.2.2.2.2.1).bind fun _=>
 (aK (bO (bO a.2.2.2.2.2.1 a.2.2.2.1 a0) a.2.2.2.2.1 a1) a.2.2.2.1).bind fun a4=>
 (aK (bO (bO a.2.2.2.2.2.1 a.2.2.2.1 a0) a.2.2.2.2.1 a1) a.2.2.2.2.1).bind fun a5=>
 (aK a.2.2.2.2.2.2 a4.2.2.2.1).bind fun _=>
 (aK (bO a.2.2.2.2.2.2 a4.2.2.2.1 a.2.2.2.1) a5.2.2.2.1).bind fun _=>
 bif ((bO (bO a.2.2.2.2.2.1 a.2.2.2.1 a0) a.2.2.2.2.1 a1).length)==a.2.2.2.2.2.1.length then
  bif ((bO (bO a.2.2.2.2.2.2 a4.2.2.2.1 a.2.2.2.1) a5.2.2.2.1 a.2.2.2.2.1).length)==a.2.2.2.2.2.2.length then
   some (bO (bO a.2.2.2.2.2.1 a.2.2.2.1 a0) a.2.2.2.2.1 a1,bO (bO a.2.2.2.2.2.2 a4.2.2.2.1 a.2.2.2.1) a5.2.2.2.1 a.2.2.2.2.1)
  else
   none
 else
  none
def S2 (N:Nat):bW:=⟨[.l [.i .i64],.l [.b],.l [.i .i64],.i,.i,.l [.i .i64,.i .i64,.i .i64,.i .i64,.i .i64],.l [.i .i64]],[.agg [.sl [.i .i64] [],.sl [.b] [],.sl [.i .i64] [],.own 0 false,.own 1 false],.int .i64 0,.int .i64 0],[.arr [.i .i64,.i .i64,.i .i64,.i .i64,.i .i64] [],.arr [.i .i64] []],[.l [.i .i64,.i .i64,.i .i64,.i .i64,.i .i64],.l [.i .i64]],.tup [],[.arr [.i .i64,.i .i64,.i .i64,.i .i64,.i .i64] [],.arr [.i .i64] []],fun a=>(oQ N) a⟩
theorem P4 (N:Nat):fL tab 259 (S2 N):=fL.of HH (wd:=false) (cx:=(aM (aG N) [] [] [] [])) (aL.make trivial trivial trivial) (fun a=>by kernel_rfl)
def xY (N:Nat) (c0:((List Int)×(List Bool)×(List Int)×Int×(List (Int×Int×Int×Int×Int))×(List Int))) (s:(Int×(List (Int×Int×Int×Int×Int))×(List Int)×(List Int)×(List Bool)×(List Int))):Option (aW (Int×(List (Int×Int×Int×Int×Int))×(List Int)×(List Int)×(List Bool)×(List Int)) (Int×(List (Int×Int×Int×Int×Int))×(List Int))):=
 bif decide (0<s.1) then
  (aK s.2.1 s.1).bind fun a0=>
  (aK s.2.1 (aA .i64 (ac (aA .i64 (s.1-1)) 2))).bind fun a1=>
  ((dY N) a0 a1).bind fun b2=>
  bif b2 then
   ((oQ N) (s.2.2.2.1,s.2.2.2.2.1,s.2.2.2.2.2,s.1,aA .i64 (ac (aA .i64 (s.1-1)) 2),s.2.1,s.2.2.1)).bind fun a3=>
   some (.next (aA .i64 (ac (aA .i64 (s.1-1)) 2),a3.1,a3.2,s.2.2.2))
  else
   bif s.2.1.length==c0.2.2.2.2.1.length then
    bif s.2.2.1.length==c0.2.2.2.2.2.length then
     some (.done (s.1,s.2.1,s.2.2.1))
    else
     none
   else
    none
 else
  bif s.2.1.length==c0.2.2.2.2.1.length then
   bif s.2.2.1.length==c0.2.2.2.2.2.length then
    some (.done (s.1,s.2.1,s.2.2.1))
   else
    none
  else
   none
def sF (N:Nat) (a:((List Int)×(List Bool)×(List Int)×Int×(List (Int×Int×Int×Int×Int))×(List Int))):Option (Int×(List (Int×Int×Int×Int×Int))×(List Int)):=
 (aS N) ((xY N) a) (a.2.2.2.1,a.2.2.2.2.1,a.2.2.2.2.2,a.1,a.2.1,a.2.2.1)
def S3 (N:Nat):bW:=⟨[.l [.i .i64],.l [.b],.l [.i .i64],.i,.l [.i .i64,.i .i64,.i .i64,.i .i64,.i .i64],.l [.i .i64]],[.agg [.sl [.i .i64] [],.sl [.b] [],.sl [.i .i64] [],.own 0 false,.own 1 false],.int .i64 0],[.arr [.i .i64,.i .i64,.i .i64,.i .i64,.i .i64] [],.arr [.i .i64] []],[.i,.l [.i .i64,.i .i64,.i .i64,.i .i64,.i .i64],.l [.i .i64]],.int .i64 0,[.arr [.i .i64,.i .i64,.i .i64,.i .i64,.i .i64] [],.arr [.i .i64] []],fun a=>(sF N) a⟩
theorem P5 (N:Nat):fL tab 262 (S3 N):=fL.of HI (wd:=true) (cx:=(aM (aG N) [(169,(P2 N))] [(259,(vU N)),(259,(vV N)),(259,(S2 N))] [] [])) (aL.make ⟨(xV N),trivial⟩ ⟨(lV N),(lW N),(P4 N),trivial⟩ trivial) (fun a=>by kernel_rfl)
def dD (N:Nat) (p0:aH) (p1:Int×Int) (p2:Int):Option (aH×(Int×Int)):=
 ((kE N) p0).bind fun r0=>
 ((AR N) r0.slots).bind fun a1=>
 (bD r0.heap [(p1.1,p1.2,p2,a1.2)]).bind fun l2=>
 (aK r0.where_ a1.2.1).bind fun _=>
 ((sF N) (a1.1.uses,a1.1.used,a1.1.free,aA .i64 ((aa l2.length) -1),l2,bO r0.where_ a1.2.1 (aA .i64 ((aa l2.length) -1)))).bind fun a4=>
 some (aH.mk a1.1 a4.2.1 a4.2.2,a1.2)
def aIp (N:Nat):aU:=⟨aC.cons (aE.agg bY) (aC.cons (aE.agg (bJ.row fG)) (aC.one (aE.int .i64))),aE.tup (aC.cons (aE.agg bY) (aC.one (aE.agg (bJ.row fG)))),fun a=>(dD N) a.1 a.2.1 a.2.2,.frz,false⟩
theorem OA (N:Nat):aB tab 228 (aIp N):=aB.of aAZ (cx:=(aM (aG N) [(85,(c85 N)),(85,(P1 N)),(263,(aJK N))] [(262,(HN N)),(262,(MG N)),(262,(S3 N))] [] [])) rfl (aL.make ⟨(DQ N),(xU N),(aB9 N),trivial⟩ ⟨(zL N),(F6 N),(P5 N),trivial⟩ trivial) (fun a=>by kernel_rfl)
def zM (N:Nat) (s:(Int×Int×Int×(List (Int×Int×Int))×Int×(List (Int×Int×Int))×(List Int)×(List Bool)×(List Int)×(List (Int×Int×Int×Int×Int))×(List Int)×(List (Int×Int×Int))×(List (Int×Int×Int))×Int×Int×Int×Int×Int×(List (Int×Int×Int))×Int×(List (Int×Int×Int))×(List Int)×(List Bool)×(List Int)×(List (Int×Int×Int×Int×Int))×(List Int)×(List (Int×Int×Int)))):Option (aW (Int×Int×Int×(List (Int×Int×Int))×Int×(List (Int×Int×Int))×(List Int)×(List Bool)×(List Int)×(List (Int×Int×Int×Int×Int))×(List Int)×(List (Int×Int×Int))×(List (Int×Int×Int))×Int×Int×Int×Int×Int×(List (Int×Int×Int))×Int×(List (Int×Int×Int))×(List Int)×(List Bool)×(List Int)×(List (Int×Int×Int×Int×Int))×(List Int)×(List (Int×Int×Int))) (aJ×Int)):=
 bif decide (s.1<(aa s.2.2.2.2.2.1.length)) then
  (aK s.2.2.2.2.2.1 s.1).bind fun a0=>
  ((sC N) (aJ.mk (s.2.1,s.2.2.1) (Field.mk s.2.2.2.1) (aQ.mk s.2.2.2.2.1 s.2.2.2.2.2.1) (aH.mk (aO.mk s.2.2.2.2.2.2.1 s.2.2.2.2.2.2.2.1 s.2.2.2.2.2.2.2.2.1) s.2.2.2.2.2.2.2.2.2.1 s.2.2.2.2.2.2.2.2.2.2.1) s.2.2.2.2.2.2.2.2.2.2.2.1) a0.1).bind fun n1=>
  ((vY N) (Field.mk s.2.2.2.2.2.2.2.2.2.2.2.2.1) a0.2 (s.2.1,s.2.2.1)).bind fun a2=>
  bif a2.2 then
   bif decide (0<=n1) then
    (aK s.2.2.2.2.2.2.2.2.2.2.2.1 n1).bind fun a3=>
    ((uL N) (aH.mk (aO.mk s.2.2.2.2.2.2.2.2.2.2.2.2.2.2.2.2.2.2.2.2.2.1 s.2.2.2.2.2.2.2.2.2.2.2.2.2.2.2.2.2.2.2.2.2.2.1 s.2.2.2.2.2.2.2.2.2.2.2.2.2.2.2.2.2.2.2.2.2.2.2.1) s.2.2.2.2.2.2.2.2.2.2.2.2.2.2.2.2.2.2.2.2.2.2.2.2.1 s.2.2.2.2.2.2.2.2.2.2.2.2.2.2.2.2.2.2.2.2.2.2.2.2.2.1) a3.2 a2.1).bind fun r4=>
    (aK s.2.2.2.2.2.2.2.2.2.2.2.1 n1).bind fun a5=>
    (bD s.2.2.2.2.2.2.2.2.2.2.2.2.2.2.2.2.2.2.2.2.2.2.2.2.2.2 [a5]).bind fun l6=>
    bif !a2.2 then
     bif decide (0<=n1) then
      (aK s.2.2.2.2.2.2.2.2.2.2.2.1 n1).bind fun a7=>
      ((iJ N) r4 a7.2).bind fun r8=>
      bif !a2.2 then
       some (.next (aA .i64 (s.1+1),s.2.1,s.2.2.1,s.2.2.2.1,s.2.2.2.2.1,s.2.2.2.2.2.1,s.2.2.2.2.2.2.1,s.2.2.2.2.2.2.2.1,s.2.2.2.2.2.2.2.2.1,s.2.2.2.2.2.2.2.2.2.1,s.2.2.2.2.2.2.2.2.2.2.1,s.2.2.2.2.2.2.2.2.2.2.2.1,s.2.2.2.2.2.2.2.2.2.2.2.2.1,s.2.2.2.2.2.2.2.2.2.2.2.2.2.1,s.2.2.2.2.2.2.2.2.2.2.2.2.2.2.1,s.2.2.2.2.2.2.2.2.2.2.2.2.2.2.2.1,s.2.2.2.2.2.2.2.2.2.2.2.2.2.2.2.2.1,s.2.2.2.2.2.2.2.2.2.2.2.2.2.2.2.2.2.1,s.2.2.2.2.2.2.2.2.2.2.2.2.2.2.2.2.2.2.1,s.2.2.2.2.2.2.2.2.2.2.2.2.2.2.2.2.2.2.2.1,s.2.2.2.2.2.2.2.2.2.2.2.2.2.2.2.2.2.2.2.2.1,r8.slots.uses,r8.slots.used,r8.slots.free,r8.heap,r8.where_,l6))
      else
       bif decide (0<=n1) then
        some (.next (aA .i64 (s.1+1),s.2.1,s.2.2.1,s.2.2.2.1,s.2.2.2.2.1,s.2.2.2.2.2.1,s.2.2.2.2.2.2.1,s.2.2.2.2.2.2.2.1,s.2.2.2.2.2.2.2.2.1,s.2.2.2.2.2.2.2.2.2.1,s.2.2.2.2.2.2.2.2.2.2.1,s.2.2.2.2.2.2.2.2.2.2.2.1,s.2.2.2.2.2.2.2.2.2.2.2.2.1,s.2.2.2.2.2.2.2.2.2.2.2.2.2.1,s.2.2.2.2.2.2.2.2.2.2.2.2.2.2.1,s.2.2.2.2.2.2.2.2.2.2.2.2.2.2.2.1,s.2.2.2.2.2.2.2.2.2.2.2.2.2.2.2.2.1,s.2.2.2.2.2.2.2.2.2.2.2.2.2.2.2.2.2.1,s.2.2.2.2.2.2.2.2.2.2.2.2.2.2.2.2.2.2.1,s.2.2.2.2.2.2.2.2.2.2.2.2.2.2.2.2.2.2.2.1,s.2.2.2.2.2.2.2.2.2.2.2.2.2.2.2.2.2.2.2.2.1,r8.slots.uses,r8.slots.used,r8.slots.free,r8.heap,r8.where_,l6))
       else
        ((eP N) r8.slots).bind fun b9=>
        bif !b9 then
         some (.done (aJ.mk (0,0) (Field.mk []) (aQ.mk 0 []) (aH.mk (aO.mk [] [] []) [] []) [],18))
        else
         ((dD N) r8 a2.1 a0.1).bind fun a10=>
         (bD l6 [(a0.1,a10.2)]).bind fun l11=>
         some (.next (aA .i64 (s.1+1),s.2.1,s.2.2.1,s.2.2.2.1,s.2.2.2.2.1,s.2.2.2.2.2.1,s.2.2.2.2.2.2.1,s.2.2.2.2.2.2.2.1,s.2.2.2.2.2.2.2.2.1,s.2.2.2.2.2.2.2.2.2.1,s.2.2.2.2.2.2.2.2.2.2.1,s.2.2.2.2.2.2.2.2.2.2.2.1,s.2.2.2.2.2.2.2.2.2.2.2.2.1,s.2.2.2.2.2.2.2.2.2.2.2.2.2.1,s.2.2.2.2.2.2.2.2.2.2.2.2.2.2.1,s.2.2.2.2.2.2.2.2.2.2.2.2.2.2.2.1,s.2.2.2.2.2.2.2.2.2.2.2.2.2.2.2.2.1,s.2.2.2.2.2.2.2.2.2.2.2.2.2.2.2.2.2.1,s.2.2.2.2.2.2.2.2.2.2.2.2.2.2.2.2.2.2.1,s.2.2.2.2.2.2.2.2.2.2.2.2.2.2.2.2.2.2.2.1,s.2.2.2.2.2.2.2.2.2.2.2.2.2.2.2.2.2.2.2.2.1,a10.1.slots.uses,a10.1.slots.used,a10.1.slots.free,a10.1.heap,a10.1.where_,l11))
     else
      bif !a2.2 then
       some (.next (aA .i64 (s.1+1),s.2.1,s.2.2.1,s.2.2.2.1,s.2.2.2.2.1,s.2.2.2.2.2.1,s.2.2.2.2.2.2.1,s.2.2.2.2.2.2.2.1,s.2.2.2.2.2.2.2.2.1,s.2.2.2.2.2.2.2.2.2.1,s.2.2.2.2.2.2.2.2.2.2.1,s.2.2.2.2.2.2.2.2.2.2.2.1,s.2.2.2.2.2.2.2.2.2.2.2.2.1,s.2.2.2.2.2.2.2.2.2.2.2.2.2.1,s.2.2.2.2.2.2.2.2.2.2.2.2.2.2.1,s.2.2.2.2.2.2.2.2.2.2.2.2.2.2.2.1,s.2.2.2.2.2.2.2.2.2.2.2.2.2.2.2.2.1,s.2.2.2.2.2.2.2.2.2.2.2.2.2.2.2.2.2.1,s.2.2.2.2.2.2.2.2.2.2.2.2.2.2.2.2.2.2.1,s.2.2.2.2.2.2.2.2.2.2.2.2.2.2.2.2.2.2.2.1,s.2.2.2.2.2.2.2.2.2.2.2.2.2.2.2.2.2.2.2.2.1,r4.slots.uses,r4.slots.used,r4.slots.free,r4.heap,r4.where_,l6))
      else
       bif decide (0<=n1) then
        some (.next (aA .i64 (s.1+1),s.2.1,s.2.2.1,s.2.2.2.1,s.2.2.2.2.1,s.2.2.2.2.2.1,s.2.2.2.2.2.2.1,s.2.2.2.2.2.2.2.1,s.2.2.2.2.2.2.2.2.1,s.2.2.2.2.2.2.2.2.2.1,s.2.2.2.2.2.2.2.2.2.2.1,s.2.2.2.2.2.2.2.2.2.2.2.1,s.2.2.2.2.2.2.2.2.2.2.2.2.1,s.2.2.2.2.2.2.2.2.2.2.2.2.2.1,s.2.2.2.2.2.2.2.2.2.2.2.2.2.2.1,s.2.2.2.2.2.2.2.2.2.2.2.2.2.2.2.1,s.2.2.2.2.2.2.2.2.2.2.2.2.2.2.2.2.1,s.2.2.2.2.2.2.2.2.2.2.2.2.2.2.2.2.2.1,s.2.2.2.2.2.2.2.2.2.2.2.2.2.2.2.2.2.2.1,s.2.2.2.2.2.2.2.2.2.2.2.2.2.2.2.2.2.2.2.1,s.2.2.2.2.2.2.2.2.2.2.2.2.2.2.2.2.2.2.2.2.1,r4.slots.uses,r4.slots.used,r4.slots.free,r4.heap,r4.where_,l6))
       else
        ((eP N) r4.slots).bind fun b12=>
        bif !b12 then
         some (.done (aJ.mk (0,0) (Field.mk []) (aQ.mk 0 []) (aH.mk (aO.mk [] [] []) [] []) [],18))
        else
         ((dD N) r4 a2.1 a0.1).bind fun a13=>
         (bD l6 [(a0.1,a13.2)]).bind fun l14=>
         some (.next (aA .i64 (s.1+1),s.2.1,s.2.2.1,s.2.2.2.1,s.2.2.2.2.1,s.2.2.2.2.2.1,s.2.2.2.2.2.2.1,s.2.2.2.2.2.2.2.1,s.2.2.2.2.2.2.2.2.1,s.2.2.2.2.2.2.2.2.2.1,s.2.2.2.2.2.2.2.2.2.2.1,s.2.2.2.2.2.2.2.2.2.2.2.1,s.2.2.2.2.2.2.2.2.2.2.2.2.1,s.2.2.2.2.2.2.2.2.2.2.2.2.2.1,s.2.2.2.2.2.2.2.2.2.2.2.2.2.2.1,s.2.2.2.2.2.2.2.2.2.2.2.2.2.2.2.1,s.2.2.2.2.2.2.2.2.2.2.2.2.2.2.2.2.1,s.2.2.2.2.2.2.2.2.2.2.2.2.2.2.2.2.2.1,s.2.2.2.2.2.2.2.2.2.2.2.2.2.2.2.2.2.2.1,s.2.2.2.2.2.2.2.2.2.2.2.2.2.2.2.2.2.2.2.1,s.2.2.2.2.2.2.2.2.2.2.2.2.2.2.2.2.2.2.2.2.1,a13.1.slots.uses,a13.1.slots.used,a13.1.slots.free,a13.1.heap,a13.1.where_,l14))
    else
     bif !a2.2 then
      some (.next (aA .i64 (s.1+1),s.2.1,s.2.2.1,s.2.2.2.1,s.2.2.2.2.1,s.2.2.2.2.2.1,s.2.2.2.2.2.2.1,s.2.2.2.2.2.2.2.1,s.2.2.2.2.2.2.2.2.1,s.2.2.2.2.2.2.2.2.2.1,s.2.2.2.2.2.2.2.2.2.2.1,s.2.2.2.2.2.2.2.2.2.2.2.1,s.2.2.2.2.2.2.2.2.2.2.2.2.1,s.2.2.2.2.2.2.2.2.2.2.2.2.2.1,s.2.2.2.2.2.2.2.2.2.2.2.2.2.2.1,s.2.2.2.2.2.2.2.2.2.2.2.2.2.2.2.1,s.2.2.2.2.2.2.2.2.2.2.2.2.2.2.2.2.1,s.2.2.2.2.2.2.2.2.2.2.2.2.2.2.2.2.2.1,s.2.2.2.2.2.2.2.2.2.2.2.2.2.2.2.2.2.2.1,s.2.2.2.2.2.2.2.2.2.2.2.2.2.2.2.2.2.2.2.1,s.2.2.2.2.2.2.2.2.2.2.2.2.2.2.2.2.2.2.2.2.1,r4.slots.uses,r4.slots.used,r4.slots.free,r4.heap,r4.where_,l6))
     else
      bif decide (0<=n1) then
       some (.next (aA .i64 (s.1+1),s.2.1,s.2.2.1,s.2.2.2.1,s.2.2.2.2.1,s.2.2.2.2.2.1,s.2.2.2.2.2.2.1,s.2.2.2.2.2.2.2.1,s.2.2.2.2.2.2.2.2.1,s.2.2.2.2.2.2.2.2.2.1,s.2.2.2.2.2.2.2.2.2.2.1,s.2.2.2.2.2.2.2.2.2.2.2.1,s.2.2.2.2.2.2.2.2.2.2.2.2.1,s.2.2.2.2.2.2.2.2.2.2.2.2.2.1,s.2.2.2.2.2.2.2.2.2.2.2.2.2.2.1,s.2.2.2.2.2.2.2.2.2.2.2.2.2.2.2.1,s.2.2.2.2.2.2.2.2.2.2.2.2.2.2.2.2.1,s.2.2.2.2.2.2.2.2.2.2.2.2.2.2.2.2.2.1,s.2.2.2.2.2.2.2.2.2.2.2.2.2.2.2.2.2.2.1,s.2.2.2.2.2.2.2.2.2.2.2.2.2.2.2.2.2.2.2.1,s.2.2.2.2.2.2.2.2.2.2.2.2.2.2.2.2.2.2.2.2.1,r4.slots.uses,r4.slots.used,r4.slots.free,r4.heap,r4.where_,l6))
      else
       ((eP N) r4.slots).bind fun b15=>
       bif !b15 then
        some (.done (aJ.mk (0,0) (Field.mk []) (aQ.mk 0 []) (aH.mk (aO.mk [] [] []) [] []) [],18))
       else
        ((dD N) r4 a2.1 a0.1).bind fun a16=>
        (bD l6 [(a0.1,a16.2)]).bind fun l17=>
        some (.next (aA .i64 (s.1+1),s.2.1,s.2.2.1,s.2.2.2.1,s.2.2.2.2.1,s.2.2.2.2.2.1,s.2.2.2.2.2.2.1,s.2.2.2.2.2.2.2.1,s.2.2.2.2.2.2.2.2.1,s.2.2.2.2.2.2.2.2.2.1,s.2.2.2.2.2.2.2.2.2.2.1,s.2.2.2.2.2.2.2.2.2.2.2.1,s.2.2.2.2.2.2.2.2.2.2.2.2.1,s.2.2.2.2.2.2.2.2.2.2.2.2.2.1,s.2.2.2.2.2.2.2.2.2.2.2.2.2.2.1,s.2.2.2.2.2.2.2.2.2.2.2.2.2.2.2.1,s.2.2.2.2.2.2.2.2.2.2.2.2.2.2.2.2.1,s.2.2.2.2.2.2.2.2.2.2.2.2.2.2.2.2.2.1,s.2.2.2.2.2.2.2.2.2.2.2.2.2.2.2.2.2.2.1,s.2.2.2.2.2.2.2.2.2.2.2.2.2.2.2.2.2.2.2.1,s.2.2.2.2.2.2.2.2.2.2.2.2.2.2.2.2.2.2.2.2.1,a16.1.slots.uses,a16.1.slots.used,a16.1.slots.free,a16.1.heap,a16.1.where_,l17))
   else
    bif !a2.2 then
     bif decide (0<=n1) then
      (aK s.2.2.2.2.2.2.2.2.2.2.2.1 n1).bind fun a18=>
      ((iJ N) (aH.mk (aO.mk s.2.2.2.2.2.2.2.2.2.2.2.2.2.2.2.2.2.2.2.2.2.1 s.2.2.2.2.2.2.2.2.2.2.2.2.2.2.2.2.2.2.2.2.2.2.1 s.2.2.2.2.2.2.2.2.2.2.2.2.2.2.2.2.2.2.2.2.2.2.2.1) s.2.2.2.2.2.2.2.2.2.2.2.2.2.2.2.2.2.2.2.2.2.2.2.2.1 s.2.2.2.2.2.2.2.2.2.2.2.2.2.2.2.2.2.2.2.2.2.2.2.2.2.1) a18.2).bind fun r19=>
      bif !a2.2 then
       some (.next (aA .i64 (s.1+1),s.2.1,s.2.2.1,s.2.2.2.1,s.2.2.2.2.1,s.2.2.2.2.2.1,s.2.2.2.2.2.2.1,s.2.2.2.2.2.2.2.1,s.2.2.2.2.2.2.2.2.1,s.2.2.2.2.2.2.2.2.2.1,s.2.2.2.2.2.2.2.2.2.2.1,s.2.2.2.2.2.2.2.2.2.2.2.1,s.2.2.2.2.2.2.2.2.2.2.2.2.1,s.2.2.2.2.2.2.2.2.2.2.2.2.2.1,s.2.2.2.2.2.2.2.2.2.2.2.2.2.2.1,s.2.2.2.2.2.2.2.2.2.2.2.2.2.2.2.1,s.2.2.2.2.2.2.2.2.2.2.2.2.2.2.2.2.1,s.2.2.2.2.2.2.2.2.2.2.2.2.2.2.2.2.2.1,s.2.2.2.2.2.2.2.2.2.2.2.2.2.2.2.2.2.2.1,s.2.2.2.2.2.2.2.2.2.2.2.2.2.2.2.2.2.2.2.1,s.2.2.2.2.2.2.2.2.2.2.2.2.2.2.2.2.2.2.2.2.1,r19.slots.uses,r19.slots.used,r19.slots.free,r19.heap,r19.where_,s.2.2.2.2.2.2.2.2.2.2.2.2.2.2.2.2.2.2.2.2.2.2.2.2.2.2))
      else
       bif decide (0<=n1) then
        some (.next (aA .i64 (s.1+1),s.2.1,s.2.2.1,s.2.2.2.1,s.2.2.2.2.1,s.2.2.2.2.2.1,s.2.2.2.2.2.2.1,s.2.2.2.2.2.2.2.1,s.2.2.2.2.2.2.2.2.1,s.2.2.2.2.2.2.2.2.2.1,s.2.2.2.2.2.2.2.2.2.2.1,s.2.2.2.2.2.2.2.2.2.2.2.1,s.2.2.2.2.2.2.2.2.2.2.2.2.1,s.2.2.2.2.2.2.2.2.2.2.2.2.2.1,s.2.2.2.2.2.2.2.2.2.2.2.2.2.2.1,s.2.2.2.2.2.2.2.2.2.2.2.2.2.2.2.1,s.2.2.2.2.2.2.2.2.2.2.2.2.2.2.2.2.1,s.2.2.2.2.2.2.2.2.2.2.2.2.2.2.2.2.2.1,s.2.2.2.2.2.2.2.2.2.2.2.2.2.2.2.2.2.2.1,s.2.2.2.2.2.2.2.2.2.2.2.2.2.2.2.2.2.2.2.1,s.2.2.2.2.2.2.2.2.2.2.2.2.2.2.2.2.2.2.2.2.1,r19.slots.uses,r19.slots.used,r19.slots.free,r19.heap,r19.where_,s.2.2.2.2.2.2.2.2.2.2.2.2.2.2.2.2.2.2.2.2.2.2.2.2.2.2))
       else
        ((eP N) r19.slots).bind fun b20=>
        bif !b20 then
         some (.done (aJ.mk (0,0) (Field.mk []) (aQ.mk 0 []) (aH.mk (aO.mk [] [] []) [] []) [],18))
        else
         ((dD N) r19 a2.1 a0.1).bind fun a21=>
         (bD s.2.2.2.2.2.2.2.2.2.2.2.2.2.2.2.2.2.2.2.2.2.2.2.2.2.2 [(a0.1,a21.2)]).bind fun l22=>
         some (.next (aA .i64 (s.1+1),s.2.1,s.2.2.1,s.2.2.2.1,s.2.2.2.2.1,s.2.2.2.2.2.1,s.2.2.2.2.2.2.1,s.2.2.2.2.2.2.2.1,s.2.2.2.2.2.2.2.2.1,s.2.2.2.2.2.2.2.2.2.1,s.2.2.2.2.2.2.2.2.2.2.1,s.2.2.2.2.2.2.2.2.2.2.2.1,s.2.2.2.2.2.2.2.2.2.2.2.2.1,s.2.2.2.2.2.2.2.2.2.2.2.2.2.1,s.2.2.2.2.2.2.2.2.2.2.2.2.2.2.1,s.2.2.2.2.2.2.2.2.2.2.2.2.2.2.2.1,s.2.2.2.2.2.2.2.2.2.2.2.2.2.2.2.2.1,s.2.2.2.2.2.2.2.2.2.2.2.2.2.2.2.2.2.1,s.2.2.2.2.2.2.2.2.2.2.2.2.2.2.2.2.2.2.1,s.2.2.2.2.2.2.2.2.2.2.2.2.2.2.2.2.2.2.2.1,s.2.2.2.2.2.2.2.2.2.2.2.2.2.2.2.2.2.2.2.2.1,a21.1.slots.uses,a21.1.slots.used,a21.1.slots.free,a21.1.heap,a21.1.where_,l22))
     else
      bif !a2.2 then
       some (.next (aA .i64 (s.1+1),s.2))
      else
       bif decide (0<=n1) then
        some (.next (aA .i64 (s.1+1),s.2))
       else
        ((eP N) (aO.mk s.2.2.2.2.2.2.2.2.2.2.2.2.2.2.2.2.2.2.2.2.2.1 s.2.2.2.2.2.2.2.2.2.2.2.2.2.2.2.2.2.2.2.2.2.2.1 s.2.2.2.2.2.2.2.2.2.2.2.2.2.2.2.2.2.2.2.2.2.2.2.1)).bind fun b23=>
        bif !b23 then
         some (.done (aJ.mk (0,0) (Field.mk []) (aQ.mk 0 []) (aH.mk (aO.mk [] [] []) [] []) [],18))
        else
         ((dD N) (aH.mk (aO.mk s.2.2.2.2.2.2.2.2.2.2.2.2.2.2.2.2.2.2.2.2.2.1 s.2.2.2.2.2.2.2.2.2.2.2.2.2.2.2.2.2.2.2.2.2.2.1 s.2.2.2.2.2.2.2.2.2.2.2.2.2.2.2.2.2.2.2.2.2.2.2.1) s.2.2.2.2.2.2.2.2.2.2.2.2.2.2.2.2.2.2.2.2.2.2.2.2.1 s.2.2.2.2.2.2.2.2.2.2.2.2.2.2.2.2.2.2.2.2.2.2.2.2.2.1) a2.1 a0.1).bind fun a24=>
         (bD s.2.2.2.2.2.2.2.2.2.2.2.2.2.2.2.2.2.2.2.2.2.2.2.2.2.2 [(a0.1,a24.2)]).bind fun l25=>
         some (.next (aA .i64 (s.1+1),s.2.1,s.2.2.1,s.2.2.2.1,s.2.2.2.2.1,s.2.2.2.2.2.1,s.2.2.2.2.2.2.1,s.2.2.2.2.2.2.2.1,s.2.2.2.2.2.2.2.2.1,s.2.2.2.2.2.2.2.2.2.1,s.2.2.2.2.2.2.2.2.2.2.1,s.2.2.2.2.2.2.2.2.2.2.2.1,s.2.2.2.2.2.2.2.2.2.2.2.2.1,s.2.2.2.2.2.2.2.2.2.2.2.2.2.1,s.2.2.2.2.2.2.2.2.2.2.2.2.2.2.1,s.2.2.2.2.2.2.2.2.2.2.2.2.2.2.2.1,s.2.2.2.2.2.2.2.2.2.2.2.2.2.2.2.2.1,s.2.2.2.2.2.2.2.2.2.2.2.2.2.2.2.2.2.1,s.2.2.2.2.2.2.2.2.2.2.2.2.2.2.2.2.2.2.1,s.2.2.2.2.2.2.2.2.2.2.2.2.2.2.2.2.2.2.2.1,s.2.2.2.2.2.2.2.2.2.2.2.2.2.2.2.2.2.2.2.2.1,a24.1.slots.uses,a24.1.slots.used,a24.1.slots.free,a24.1.heap,a24.1.where_,l25))
    else
     bif !a2.2 then
      some (.next (aA .i64 (s.1+1),s.2))
     else
      bif decide (0<=n1) then
       some (.next (aA .i64 (s.1+1),s.2))
      else
       ((eP N) (aO.mk s.2.2.2.2.2.2.2.2.2.2.2.2.2.2.2.2.2.2.2.2.2.1 s.2.2.2.2.2.2.2.2.2.2.2.2.2.2.2.2.2.2.2.2.2.2.1 s.2.2.2.2.2.2.2.2.2.2.2.2.2.2.2.2.2.2.2.2.2.2.2.1)).bind fun b26=>
       bif !b26 then
        some (.done (aJ.mk (0,0) (Field.mk []) (aQ.mk 0 []) (aH.mk (aO.mk [] [] []) [] []) [],18))
       else
        ((dD N) (aH.mk (aO.mk s.2.2.2.2.2.2.2.2.2.2.2.2.2.2.2.2.2.2.2.2.2.1 s.2.2.2.2.2.2.2.2.2.2.2.2.2.2.2.2.2.2.2.2.2.2.1 s.2.2.2.2.2.2.2.2.2.2.2.2.2.2.2.2.2.2.2.2.2.2.2.1) s.2.2.2.2.2.2.2.2.2.2.2.2.2.2.2.2.2.2.2.2.2.2.2.2.1 s.2.2.2.2.2.2.2.2.2.2.2.2.2.2.2.2.2.2.2.2.2.2.2.2.2.1) a2.1 a0.1).bind fun a27=>
        (bD s.2.2.2.2.2.2.2.2.2.2.2.2.2.2.2.2.2.2.2.2.2.2.2.2.2.2 [(a0.1,a27.2)]).bind fun l28=>
        some (.next (aA .i64 (s.1+1),s.2.1,s.2.2.1,s.2.2.2.1,s.2.2.2.2.1,s.2.2.2.2.2.1,s.2.2.2.2.2.2.1,s.2.2.2.2.2.2.2.1,s.2.2.2.2.2.2.2.2.1,s.2.2.2.2.2.2.2.2.2.1,s.2.2.2.2.2.2.2.2.2.2.1,s.2.2.2.2.2.2.2.2.2.2.2.1,s.2.2.2.2.2.2.2.2.2.2.2.2.1,s.2.2.2.2.2.2.2.2.2.2.2.2.2.1,s.2.2.2.2.2.2.2.2.2.2.2.2.2.2.1,s.2.2.2.2.2.2.2.2.2.2.2.2.2.2.2.1,s.2.2.2.2.2.2.2.2.2.2.2.2.2.2.2.2.1,s.2.2.2.2.2.2.2.2.2.2.2.2.2.2.2.2.2.1,s.2.2.2.2.2.2.2.2.2.2.2.2.2.2.2.2.2.2.1,s.2.2.2.2.2.2.2.2.2.2.2.2.2.2.2.2.2.2.2.1,s.2.2.2.2.2.2.2.2.2.2.2.2.2.2.2.2.2.2.2.2.1,a27.1.slots.uses,a27.1.slots.used,a27.1.slots.free,a27.1.heap,a27.1.where_,l28))
  else
   bif !a2.2 then
    bif decide (0<=n1) then
     (aK s.2.2.2.2.2.2.2.2.2.2.2.1 n1).bind fun a29=>
     ((iJ N) (aH.mk (aO.mk s.2.2.2.2.2.2.2.2.2.2.2.2.2.2.2.2.2.2.2.2.2.1 s.2.2.2.2.2.2.2.2.2.2.2.2.2.2.2.2.2.2.2.2.2.2.1 s.2.2.2.2.2.2.2.2.2.2.2.2.2.2.2.2.2.2.2.2.2.2.2.1) s.2.2.2.2.2.2.2.2.2.2.2.2.2.2.2.2.2.2.2.2.2.2.2.2.1 s.2.2.2.2.2.2.2.2.2.2.2.2.2.2.2.2.2.2.2.2.2.2.2.2.2.1) a29.2).bind fun r30=>
     bif !a2.2 then
      some (.next (aA .i64 (s.1+1),s.2.1,s.2.2.1,s.2.2.2.1,s.2.2.2.2.1,s.2.2.2.2.2.1,s.2.2.2.2.2.2.1,s.2.2.2.2.2.2.2.1,s.2.2.2.2.2.2.2.2.1,s.2.2.2.2.2.2.2.2.2.1,s.2.2.2.2.2.2.2.2.2.2.1,s.2.2.2.2.2.2.2.2.2.2.2.1,s.2.2.2.2.2.2.2.2.2.2.2.2.1,s.2.2.2.2.2.2.2.2.2.2.2.2.2.1,s.2.2.2.2.2.2.2.2.2.2.2.2.2.2.1,s.2.2.2.2.2.2.2.2.2.2.2.2.2.2.2.1,s.2.2.2.2.2.2.2.2.2.2.2.2.2.2.2.2.1,s.2.2.2.2.2.2.2.2.2.2.2.2.2.2.2.2.2.1,s.2.2.2.2.2.2.2.2.2.2.2.2.2.2.2.2.2.2.1,s.2.2.2.2.2.2.2.2.2.2.2.2.2.2.2.2.2.2.2.1,s.2.2.2.2.2.2.2.2.2.2.2.2.2.2.2.2.2.2.2.2.1,r30.slots.uses,r30.slots.used,r30.slots.free,r30.heap,r30.where_,s.2.2.2.2.2.2.2.2.2.2.2.2.2.2.2.2.2.2.2.2.2.2.2.2.2.2))
     else
      bif decide (0<=n1) then
       some (.next (aA .i64 (s.1+1),s.2.1,s.2.2.1,s.2.2.2.1,s.2.2.2.2.1,s.2.2.2.2.2.1,s.2.2.2.2.2.2.1,s.2.2.2.2.2.2.2.1,s.2.2.2.2.2.2.2.2.1,s.2.2.2.2.2.2.2.2.2.1,s.2.2.2.2.2.2.2.2.2.2.1,s.2.2.2.2.2.2.2.2.2.2.2.1,s.2.2.2.2.2.2.2.2.2.2.2.2.1,s.2.2.2.2.2.2.2.2.2.2.2.2.2.1,s.2.2.2.2.2.2.2.2.2.2.2.2.2.2.1,s.2.2.2.2.2.2.2.2.2.2.2.2.2.2.2.1,s.2.2.2.2.2.2.2.2.2.2.2.2.2.2.2.2.1,s.2.2.2.2.2.2.2.2.2.2.2.2.2.2.2.2.2.1,s.2.2.2.2.2.2.2.2.2.2.2.2.2.2.2.2.2.2.1,s.2.2.2.2.2.2.2.2.2.2.2.2.2.2.2.2.2.2.2.1,s.2.2.2.2.2.2.2.2.2.2.2.2.2.2.2.2.2.2.2.2.1,r30.slots.uses,r30.slots.used,r30.slots.free,r30.heap,r30.where_,s.2.2.2.2.2.2.2.2.2.2.2.2.2.2.2.2.2.2.2.2.2.2.2.2.2.2))
      else
       ((eP N) r30.slots).bind fun b31=>
       bif !b31 then
        some (.done (aJ.mk (0,0) (Field.mk []) (aQ.mk 0 []) (aH.mk (aO.mk [] [] []) [] []) [],18))
       else
        ((dD N) r30 a2.1 a0.1).bind fun a32=>
        (bD s.2.2.2.2.2.2.2.2.2.2.2.2.2.2.2.2.2.2.2.2.2.2.2.2.2.2 [(a0.1,a32.2)]).bind fun l33=>
        some (.next (aA .i64 (s.1+1),s.2.1,s.2.2.1,s.2.2.2.1,s.2.2.2.2.1,s.2.2.2.2.2.1,s.2.2.2.2.2.2.1,s.2.2.2.2.2.2.2.1,s.2.2.2.2.2.2.2.2.1,s.2.2.2.2.2.2.2.2.2.1,s.2.2.2.2.2.2.2.2.2.2.1,s.2.2.2.2.2.2.2.2.2.2.2.1,s.2.2.2.2.2.2.2.2.2.2.2.2.1,s.2.2.2.2.2.2.2.2.2.2.2.2.2.1,s.2.2.2.2.2.2.2.2.2.2.2.2.2.2.1,s.2.2.2.2.2.2.2.2.2.2.2.2.2.2.2.1,s.2.2.2.2.2.2.2.2.2.2.2.2.2.2.2.2.1,s.2.2.2.2.2.2.2.2.2.2.2.2.2.2.2.2.2.1,s.2.2.2.2.2.2.2.2.2.2.2.2.2.2.2.2.2.2.1,s.2.2.2.2.2.2.2.2.2.2.2.2.2.2.2.2.2.2.2.1,s.2.2.2.2.2.2.2.2.2.2.2.2.2.2.2.2.2.2.2.2.1,a32.1.slots.uses,a32.1.slots.used,a32.1.slots.free,a32.1.heap,a32.1.where_,l33))
    else
     bif !a2.2 then
      some (.next (aA .i64 (s.1+1),s.2))
     else
      bif decide (0<=n1) then
       some (.next (aA .i64 (s.1+1),s.2))
      else
       ((eP N) (aO.mk s.2.2.2.2.2.2.2.2.2.2.2.2.2.2.2.2.2.2.2.2.2.1 s.2.2.2.2.2.2.2.2.2.2.2.2.2.2.2.2.2.2.2.2.2.2.1 s.2.2.2.2.2.2.2.2.2.2.2.2.2.2.2.2.2.2.2.2.2.2.2.1)).bind fun b34=>
       bif !b34 then
        some (.done (aJ.mk (0,0) (Field.mk []) (aQ.mk 0 []) (aH.mk (aO.mk [] [] []) [] []) [],18))
       else
        ((dD N) (aH.mk (aO.mk s.2.2.2.2.2.2.2.2.2.2.2.2.2.2.2.2.2.2.2.2.2.1 s.2.2.2.2.2.2.2.2.2.2.2.2.2.2.2.2.2.2.2.2.2.2.1 s.2.2.2.2.2.2.2.2.2.2.2.2.2.2.2.2.2.2.2.2.2.2.2.1) s.2.2.2.2.2.2.2.2.2.2.2.2.2.2.2.2.2.2.2.2.2.2.2.2.1 s.2.2.2.2.2.2.2.2.2.2.2.2.2.2.2.2.2.2.2.2.2.2.2.2.2.1) a2.1 a0.1).bind fun a35=>
        (bD s.2.2.2.2.2.2.2.2.2.2.2.2.2.2.2.2.2.2.2.2.2.2.2.2.2.2 [(a0.1,a35.2)]).bind fun l36=>
        some (.next (aA .i64 (s.1+1),s.2.1,s.2.2.1,s.2.2.2.1,s.2.2.2.2.1,s.2.2.2.2.2.1,s.2.2.2.2.2.2.1,s.2.2.2.2.2.2.2.1,s.2.2.2.2.2.2.2.2.1,s.2.2.2.2.2.2.2.2.2.1,s.2.2.2.2.2.2.2.2.2.2.1,s.2.2.2.2.2.2.2.2.2.2.2.1,s.2.2.2.2.2.2.2.2.2.2.2.2.1,s.2.2.2.2.2.2.2.2.2.2.2.2.2.1,s.2.2.2.2.2.2.2.2.2.2.2.2.2.2.1,s.2.2.2.2.2.2.2.2.2.2.2.2.2.2.2.1,s.2.2.2.2.2.2.2.2.2.2.2.2.2.2.2.2.1,s.2.2.2.2.2.2.2.2.2.2.2.2.2.2.2.2.2.1,s.2.2.2.2.2.2.2.2.2.2.2.2.2.2.2.2.2.2.1,s.2.2.2.2.2.2.2.2.2.2.2.2.2.2.2.2.2.2.2.1,s.2.2.2.2.2.2.2.2.2.2.2.2.2.2.2.2.2.2.2.2.1,a35.1.slots.uses,a35.1.slots.used,a35.1.slots.free,a35.1.heap,a35.1.where_,l36))
   else
    bif !a2.2 then
     some (.next (aA .i64 (s.1+1),s.2))
    else
     bif decide (0<=n1) then
      some (.next (aA .i64 (s.1+1),s.2))
     else
      ((eP N) (aO.mk s.2.2.2.2.2.2.2.2.2.2.2.2.2.2.2.2.2.2.2.2.2.1 s.2.2.2.2.2.2.2.2.2.2.2.2.2.2.2.2.2.2.2.2.2.2.1 s.2.2.2.2.2.2.2.2.2.2.2.2.2.2.2.2.2.2.2.2.2.2.2.1)).bind fun b37=>
      bif !b37 then
       some (.done (aJ.mk (0,0) (Field.mk []) (aQ.mk 0 []) (aH.mk (aO.mk [] [] []) [] []) [],18))
      else
       ((dD N) (aH.mk (aO.mk s.2.2.2.2.2.2.2.2.2.2.2.2.2.2.2.2.2.2.2.2.2.1 s.2.2.2.2.2.2.2.2.2.2.2.2.2.2.2.2.2.2.2.2.2.2.1 s.2.2.2.2.2.2.2.2.2.2.2.2.2.2.2.2.2.2.2.2.2.2.2.1) s.2.2.2.2.2.2.2.2.2.2.2.2.2.2.2.2.2.2.2.2.2.2.2.2.1 s.2.2.2.2.2.2.2.2.2.2.2.2.2.2.2.2.2.2.2.2.2.2.2.2.2.1) a2.1 a0.1).bind fun a38=>
       (bD s.2.2.2.2.2.2.2.2.2.2.2.2.2.2.2.2.2.2.2.2.2.2.2.2.2.2 [(a0.1,a38.2)]).bind fun l39=>
       some (.next (aA .i64 (s.1+1),s.2.1,s.2.2.1,s.2.2.2.1,s.2.2.2.2.1,s.2.2.2.2.2.1,s.2.2.2.2.2.2.1,s.2.2.2.2.2.2.2.1,s.2.2.2.2.2.2.2.2.1,s.2.2.2.2.2.2.2.2.2.1,s.2.2.2.2.2.2.2.2.2.2.1,s.2.2.2.2.2.2.2.2.2.2.2.1,s.2.2.2.2.2.2.2.2.2.2.2.2.1,s.2.2.2.2.2.2.2.2.2.2.2.2.2.1,s.2.2.2.2.2.2.2.2.2.2.2.2.2.2.1,s.2.2.2.2.2.2.2.2.2.2.2.2.2.2.2.1,s.2.2.2.2.2.2.2.2.2.2.2.2.2.2.2.2.1,s.2.2.2.2.2.2.2.2.2.2.2.2.2.2.2.2.2.1,s.2.2.2.2.2.2.2.2.2.2.2.2.2.2.2.2.2.2.1,s.2.2.2.2.2.2.2.2.2.2.2.2.2.2.2.2.2.2.2.1,s.2.2.2.2.2.2.2.2.2.2.2.2.2.2.2.2.2.2.2.2.1,a38.1.slots.uses,a38.1.slots.used,a38.1.slots.free,a38.1.heap,a38.1.where_,l39))
 else
  some (.done (aJ.mk (s.2.2.2.2.2.2.2.2.2.2.2.2.2.2.2.2.1,s.2.2.2.2.2.2.2.2.2.2.2.2.2.2.2.2.2.1) (Field.mk s.2.2.2.2.2.2.2.2.2.2.2.2.2.2.2.2.2.2.1) (aQ.mk s.2.2.2.2.2.2.2.2.2.2.2.2.2.2.2.2.2.2.2.1 s.2.2.2.2.2.2.2.2.2.2.2.2.2.2.2.2.2.2.2.2.1) (aH.mk (aO.mk s.2.2.2.2.2.2.2.2.2.2.2.2.2.2.2.2.2.2.2.2.2.1 s.2.2.2.2.2.2.2.2.2.2.2.2.2.2.2.2.2.2.2.2.2.2.1 s.2.2.2.2.2.2.2.2.2.2.2.2.2.2.2.2.2.2.2.2.2.2.2.1) s.2.2.2.2.2.2.2.2.2.2.2.2.2.2.2.2.2.2.2.2.2.2.2.2.1 s.2.2.2.2.2.2.2.2.2.2.2.2.2.2.2.2.2.2.2.2.2.2.2.2.2.1) s.2.2.2.2.2.2.2.2.2.2.2.2.2.2.2.2.2.2.2.2.2.2.2.2.2.2,0))
def uM (N:Nat) (p0:aJ) (p1:Field):Option (aJ×Int):=
 ((iS N) p0).bind fun r0=>
 ((mF N) p1).bind fun r1=>
 (aS N) (zM N) (0,p0.now.1,p0.now.2,p0.field.points,p0.certs.next_,p0.certs.list,p0.agenda.slots.uses,p0.agenda.slots.used,p0.agenda.slots.free,p0.agenda.heap,p0.agenda.where_,p0.due,p1.points,0,0,0,r0.now.1,r0.now.2,r1.points,r0.certs.next_,r0.certs.list,r0.agenda.slots.uses,r0.agenda.slots.used,r0.agenda.slots.free,r0.agenda.heap,r0.agenda.where_,[])
def aJL (N:Nat):aU:=⟨aC.cons (aE.agg bE) (aC.one (aE.agg bF)),aE.tup (aC.cons (aE.agg bE) (aC.one (aE.int .i64))),fun a=>(uM N) a.1 a.2,.frz,false⟩
theorem aCa (N:Nat):aB tab 162 (aJL N):=aB.of aAl (cx:=(aM (aG N) [(37,(c37 N)),(37,(ME N)),(83,(c83 N)),(83,(SY N)),(224,(aIk N)),(110,(aIn N)),(226,(aJJ N)),(225,(aIm N)),(227,(aIo N)),(228,(aIp N))] [] [] [])) rfl (aL.make ⟨(zJ N),(tI N),(HL N),(BK N),(N6 N),(N8 N),(aB8 N),(N7 N),(N9 N),(OA N),trivial⟩ trivial trivial) (fun a=>by kernel_rfl)
def HO (_:Nat) (s:(Int×Int×(List (Int×Int×Int))×Int×Int)):Option (aW (Int×Int×(List (Int×Int×Int))×Int×Int) Bool):=
 bif decide (s.1<(aa s.2.2.1.length)) then
  (aK s.2.2.1 s.1).bind fun a0=>
  bif (a0.2.1==s.2.2.2.1)&&(a0.2.2==s.2.2.2.2) then
   some (.done true)
  else
   some (.next (aA .i64 (s.1+1),s.2))
 else
  some (.done false)
def zN (N:Nat) (p0:aQ) (p1:Int×Int):Option Bool:=
 (aS N) (HO N) (0,p0.next_,p0.list,p1)
def aIq (N:Nat):aU:=⟨aC.cons (aE.agg eH) (aC.one (aE.agg (bJ.row fG))),aE.bool,fun a=>(zN N) a.1 a.2,.pure,false⟩
theorem OB (N:Nat):aB tab 115 (aIq N):=aB.of ZS (cx:=(aM (aG N) [] [] [] [])) rfl (aL.make trivial trivial trivial) (fun a=>by kernel_rfl)
def vZ (_:Nat) (p0:Int×Int):Option Bool:=
 bif decide (0<=p0.1) then
  bif decide (p0.1<=65535) then
   bif decide (0<=p0.2) then
    bif decide (p0.2<=65535) then
     some (p0.1 !=p0.2)
    else
     some false
   else
    some false
  else
   some false
 else
  some false
def aIr (N:Nat):aU:=⟨aC.one (aE.agg (bJ.row fG)),aE.bool,fun a=>(vZ N) a,.pure,false⟩
theorem OC (N:Nat):aB tab 166 (aIr N):=aB.of aAp (cx:=(aM (aG N) [] [] [] [])) rfl (aL.make trivial trivial trivial) (fun a=>by kernel_rfl)
def sG (_:Nat) (s:(Int×Int×Int×(List (Int×Int×Int))×Int×Int×Int)):Option (aW (Int×Int×Int×(List (Int×Int×Int))×Int×Int×Int) (aW (Int×Int×(List (Int×Int×Int))) Int)):=
 bif decide (s.2.1<s.1) then
  (aK s.2.2.2.1 s.2.1).bind fun a0=>
  bif (a0.2.1==s.2.2.2.2.2.1)&&(a0.2.2==s.2.2.2.2.2.2) then
   some (.done (.done 8))
  else
   some (.next (s.1,aA .i64 (s.2.1+1),s.2.2))
 else
  some (.done (.next (aA .i64 (s.1+1),s.2.2.1,s.2.2.2.1)))
def DU (N:Nat) (s:(Int×Int×(List (Int×Int×Int)))):Option (aW (Int×Int×(List (Int×Int×Int))) Int):=
 bif decide (s.1<(aa s.2.2.length)) then
  (aK s.2.2 s.1).bind fun a0=>
  ((vZ N) a0.2).bind fun b1=>
  bif !b1 then
   some (.done 8)
  else
   bif decide (a0.1<0) then
    some (.done 8)
   else
    bif decide (s.2.1<=a0.1) then
     some (.done 8)
    else
     bif decide (0<s.1) then
      (aK s.2.2 (aA .i64 (s.1-1))).bind fun a2=>
      bif decide (a0.1<=a2.1) then
       some (.done 8)
      else
       (aS N) (sG N) (s.1,0,s.2.1,s.2.2,a0)
     else
      (aS N) (sG N) (s.1,0,s.2.1,s.2.2,a0)
 else
  some (.done 0)
def AS (N:Nat) (p0:aQ):Option Int:=
 bif decide (200<(aa p0.list.length)) then
  some 8
 else
  bif decide (p0.next_<0) then
   some 8
  else
   bif decide (1000000<p0.next_) then
    some 8
   else
    (aS N) (DU N) (0,p0.next_,p0.list)
def aJM (N:Nat):aU:=⟨aC.one (aE.agg eH),aE.int .i64,fun a=>(AS N) a,.pure,false⟩
theorem aCb (N:Nat):aB tab 107 (aJM N):=aB.of ZO (cx:=(aM (aG N) [(166,(aIr N))] [] [] [])) rfl (aL.make ⟨(OC N),trivial⟩ trivial trivial) (fun a=>by kernel_rfl)
def F7 (N:Nat) (p0:aQ) (p1:Int×Int):Option (aQ×Int×Int):=
 ((AS N) p0).bind fun n0=>
 bif n0 !=0 then
  some (aQ.mk 0 [],0,8)
 else
  ((vZ N) p1).bind fun b1=>
  bif !b1 then
   some (aQ.mk 0 [],0,8)
  else
   ((zN N) p0 p1).bind fun b2=>
   bif b2 then
    some (aQ.mk 0 [],0,14)
   else
    bif (aa p0.list.length)==200 then
     some (aQ.mk 0 [],0,18)
    else
     bif p0.next_==1000000 then
      some (aQ.mk 0 [],0,18)
     else
      ((pW N) p0).bind fun r3=>
      (bD r3.list [(p0.next_,p1)]).bind fun l4=>
      some (aQ.mk (aA .i64 (r3.next_+1)) l4,p0.next_,0)
def aJN (N:Nat):aU:=⟨aC.cons (aE.agg eH) (aC.one (aE.agg (bJ.row fG))),aE.tup (aC.cons (aE.agg eH) (aC.cons (aE.int .i64) (aC.one (aE.int .i64)))),fun a=>(F7 N) a.1 a.2,.frz,false⟩
theorem aCc (N:Nat):aB tab 229 (aJN N):=aB.of aA0 (cx:=(aM (aG N) [(107,(aJM N)),(166,(aIr N)),(115,(aIq N)),(84,(c84 N)),(84,(aBZ N))] [] [] [])) rfl (aL.make ⟨(aCb N),(OC N),(OB N),(MD N),(HM N),trivial⟩ trivial trivial) (fun a=>by kernel_rfl)
def AT (N:Nat) (p0:aJ) (p1:Int×Int):Option (aJ×Int×Int):=
 ((F7 N) p0.certs p1).bind fun a0=>
 bif a0.2.2 !=0 then
  some (aJ.mk (0,0) (Field.mk []) (aQ.mk 0 []) (aH.mk (aO.mk [] [] []) [] []) [],0,a0.2.2)
 else
  ((iS N) p0).bind fun r1=>
  ((vY N) p0.field p1 p0.now).bind fun a2=>
  bif !a2.2 then
   some (aJ.mk r1.now r1.field a0.1 r1.agenda r1.due,a0.2.1,0)
  else
   ((eP N) p0.agenda.slots).bind fun b3=>
   bif !b3 then
    some (aJ.mk (0,0) (Field.mk []) (aQ.mk 0 []) (aH.mk (aO.mk [] [] []) [] []) [],0,18)
   else
    ((dD N) p0.agenda a2.1 a0.2.1).bind fun a4=>
    (bD r1.due [(a0.2.1,a4.2)]).bind fun l5=>
    some (aJ.mk r1.now r1.field a0.1 a4.1 l5,a0.2.1,0)
def aJO (N:Nat):aU:=⟨aC.cons (aE.agg bE) (aC.one (aE.agg (bJ.row fG))),aE.tup (aC.cons (aE.agg bE) (aC.cons (aE.int .i64) (aC.one (aE.int .i64)))),fun a=>(AT N) a.1 a.2,.frz,false⟩
theorem aCd (N:Nat):aB tab 163 (aJO N):=aB.of aAm (cx:=(aM (aG N) [(229,(aJN N)),(37,(c37 N)),(37,(ME N)),(110,(aIn N)),(227,(aIo N)),(228,(aIp N))] [] [] [])) rfl (aL.make ⟨(aCc N),(zJ N),(tI N),(N8 N),(N9 N),(OA N),trivial⟩ trivial trivial) (fun a=>by kernel_rfl)
def oR (N:Nat) (s:((List (Int×Int))×Int×Int×Int×Int×Int×Int×(List (Int×Int×Int))×Int×(List (Int×Int×Int))×(List Int)×(List Bool)×(List Int)×(List (Int×Int×Int×Int×Int))×(List Int)×(List (Int×Int×Int)))):Option (aW ((List (Int×Int))×Int×Int×Int×Int×Int×Int×(List (Int×Int×Int))×Int×(List (Int×Int×Int))×(List Int)×(List Bool)×(List Int)×(List (Int×Int×Int×Int×Int))×(List Int)×(List (Int×Int×Int))) (aW ((List (Int×Int))×Int×Int×Int×(List (Int×Int×Int))×Int×(List (Int×Int×Int))×(List Int)×(List Bool)×(List Int)×(List (Int×Int×Int×Int×Int))×(List Int)×(List (Int×Int×Int))×(List (Int×Int×Int))×Int×Int×Int×Int×Int×(List (Int×Int×Int))×Int×(List (Int×Int×Int))×(List Int)×(List Bool)×(List Int)×(List (Int×Int×Int×Int×Int))×(List Int)×(List (Int×Int×Int))) (aJ×Int))):=
 bif decide (s.2.1<(aa s.1.length)) then
  (aK s.1 s.2.1).bind fun a0=>
  ((zN N) (aQ.mk s.2.2.2.2.2.2.2.2.1 s.2.2.2.2.2.2.2.2.2.1) a0).bind fun b1=>
  bif b1 then
   some (.next (s.1,aA .i64 (s.2.1+1),s.2.2))
  else
   (aK s.1 s.2.1).bind fun a2=>
   ((AT N) (aJ.mk (s.2.2.2.2.2.1,s.2.2.2.2.2.2.1) (Field.mk s.2.2.2.2.2.2.2.1) (aQ.mk s.2.2.2.2.2.2.2.2.1 s.2.2.2.2.2.2.2.2.2.1) (aH.mk (aO.mk s.2.2.2.2.2.2.2.2.2.2.1 s.2.2.2.2.2.2.2.2.2.2.2.1 s.2.2.2.2.2.2.2.2.2.2.2.2.1) s.2.2.2.2.2.2.2.2.2.2.2.2.2.1 s.2.2.2.2.2.2.2.2.2.2.2.2.2.2.1) s.2.2.2.2.2.2.2.2.2.2.2.2.2.2.2) a2).bind fun a3=>
   bif a3.2.2 !=0 then
    some (.done (.done (aJ.mk (0,0) (Field.mk []) (aQ.mk 0 []) (aH.mk (aO.mk [] [] []) [] []) [],a3.2.2)))
   else
    some (.next (s.1,aA .i64 (s.2.1+1),s.2.2.1,s.2.2.2.1,s.2.2.2.2.1,a3.1.now.1,a3.1.now.2,a3.1.field.points,a3.1.certs.next_,a3.1.certs.list,a3.1.agenda.slots.uses,a3.1.agenda.slots.used,a3.1.agenda.slots.free,a3.1.agenda.heap,a3.1.agenda.where_,a3.1.due))
 else
  some (.done (.done (aJ.mk (s.2.2.2.2.2.1,s.2.2.2.2.2.2.1) (Field.mk s.2.2.2.2.2.2.2.1) (aQ.mk s.2.2.2.2.2.2.2.2.1 s.2.2.2.2.2.2.2.2.2.1) (aH.mk (aO.mk s.2.2.2.2.2.2.2.2.2.2.1 s.2.2.2.2.2.2.2.2.2.2.2.1 s.2.2.2.2.2.2.2.2.2.2.2.2.1) s.2.2.2.2.2.2.2.2.2.2.2.2.2.1 s.2.2.2.2.2.2.2.2.2.2.2.2.2.2.1) s.2.2.2.2.2.2.2.2.2.2.2.2.2.2.2,0)))
def zO (N:Nat) (s:((List (Int×Int))×Int×Int×Int×(List (Int×Int×Int))×Int×(List (Int×Int×Int))×(List Int)×(List Bool)×(List Int)×(List (Int×Int×Int×Int×Int))×(List Int)×(List (Int×Int×Int))×(List (Int×Int×Int))×Int×Int×Int×Int×Int×(List (Int×Int×Int))×Int×(List (Int×Int×Int))×(List Int)×(List Bool)×(List Int)×(List (Int×Int×Int×Int×Int))×(List Int)×(List (Int×Int×Int)))):Option (aW ((List (Int×Int))×Int×Int×Int×(List (Int×Int×Int))×Int×(List (Int×Int×Int))×(List Int)×(List Bool)×(List Int)×(List (Int×Int×Int×Int×Int))×(List Int)×(List (Int×Int×Int))×(List (Int×Int×Int))×Int×Int×Int×Int×Int×(List (Int×Int×Int))×Int×(List (Int×Int×Int))×(List Int)×(List Bool)×(List Int)×(List (Int×Int×Int×Int×Int))×(List Int)×(List (Int×Int×Int))) (aJ×Int)):=
 bif decide (s.2.1<(aa s.2.2.2.2.2.2.1.length)) then
  (aK s.2.2.2.2.2.2.1 s.2.1).bind fun a0=>
  ((J6 N) s.1 a0.2).bind fun b1=>
  bif !b1 then
   (aK s.2.2.2.2.2.2.1 s.2.1).bind fun a2=>
   ((DS N) (aJ.mk (s.2.2.2.2.2.2.2.2.2.2.2.2.2.2.2.2.2.1,s.2.2.2.2.2.2.2.2.2.2.2.2.2.2.2.2.2.2.1) (Field.mk s.2.2.2.2.2.2.2.2.2.2.2.2.2.2.2.2.2.2.2.1) (aQ.mk s.2.2.2.2.2.2.2.2.2.2.2.2.2.2.2.2.2.2.2.2.1 s.2.2.2.2.2.2.2.2.2.2.2.2.2.2.2.2.2.2.2.2.2.1) (aH.mk (aO.mk s.2.2.2.2.2.2.2.2.2.2.2.2.2.2.2.2.2.2.2.2.2.2.1 s.2.2.2.2.2.2.2.2.2.2.2.2.2.2.2.2.2.2.2.2.2.2.2.1 s.2.2.2.2.2.2.2.2.2.2.2.2.2.2.2.2.2.2.2.2.2.2.2.2.1) s.2.2.2.2.2.2.2.2.2.2.2.2.2.2.2.2.2.2.2.2.2.2.2.2.2.1 s.2.2.2.2.2.2.2.2.2.2.2.2.2.2.2.2.2.2.2.2.2.2.2.2.2.2.1) s.2.2.2.2.2.2.2.2.2.2.2.2.2.2.2.2.2.2.2.2.2.2.2.2.2.2.2) a2.1).bind fun r3=>
   some (.next (s.1,aA .i64 (s.2.1+1),s.2.2.1,s.2.2.2.1,s.2.2.2.2.1,s.2.2.2.2.2.1,s.2.2.2.2.2.2.1,s.2.2.2.2.2.2.2.1,s.2.2.2.2.2.2.2.2.1,s.2.2.2.2.2.2.2.2.2.1,s.2.2.2.2.2.2.2.2.2.2.1,s.2.2.2.2.2.2.2.2.2.2.2.1,s.2.2.2.2.2.2.2.2.2.2.2.2.1,s.2.2.2.2.2.2.2.2.2.2.2.2.2.1,s.2.2.2.2.2.2.2.2.2.2.2.2.2.2.1,s.2.2.2.2.2.2.2.2.2.2.2.2.2.2.2.1,s.2.2.2.2.2.2.2.2.2.2.2.2.2.2.2.2.1,r3.now.1,r3.now.2,r3.field.points,r3.certs.next_,r3.certs.list,r3.agenda.slots.uses,r3.agenda.slots.used,r3.agenda.slots.free,r3.agenda.heap,r3.agenda.where_,r3.due))
  else
   some (.next (s.1,aA .i64 (s.2.1+1),s.2.2))
 else
  ((vW N) (Field.mk s.2.2.2.2.2.2.2.2.2.2.2.2.2.2.2.2.2.2.2.1) (Field.mk s.2.2.2.2.2.2.2.2.2.2.2.2.2.1)).bind fun b4=>
  bif !b4 then
   ((uM N) (aJ.mk (s.2.2.2.2.2.2.2.2.2.2.2.2.2.2.2.2.2.1,s.2.2.2.2.2.2.2.2.2.2.2.2.2.2.2.2.2.2.1) (Field.mk s.2.2.2.2.2.2.2.2.2.2.2.2.2.2.2.2.2.2.2.1) (aQ.mk s.2.2.2.2.2.2.2.2.2.2.2.2.2.2.2.2.2.2.2.2.1 s.2.2.2.2.2.2.2.2.2.2.2.2.2.2.2.2.2.2.2.2.2.1) (aH.mk (aO.mk s.2.2.2.2.2.2.2.2.2.2.2.2.2.2.2.2.2.2.2.2.2.2.1 s.2.2.2.2.2.2.2.2.2.2.2.2.2.2.2.2.2.2.2.2.2.2.2.1 s.2.2.2.2.2.2.2.2.2.2.2.2.2.2.2.2.2.2.2.2.2.2.2.2.1) s.2.2.2.2.2.2.2.2.2.2.2.2.2.2.2.2.2.2.2.2.2.2.2.2.2.1 s.2.2.2.2.2.2.2.2.2.2.2.2.2.2.2.2.2.2.2.2.2.2.2.2.2.2.1) s.2.2.2.2.2.2.2.2.2.2.2.2.2.2.2.2.2.2.2.2.2.2.2.2.2.2.2) (Field.mk s.2.2.2.2.2.2.2.2.2.2.2.2.2.1)).bind fun a5=>
   bif a5.2 !=0 then
    some (.done (aJ.mk (0,0) (Field.mk []) (aQ.mk 0 []) (aH.mk (aO.mk [] [] []) [] []) [],a5.2))
   else
    (aS N) (oR N) (s.1,0,s.2.2.2.2.2.2.2.2.2.2.2.2.2.2.1,s.2.2.2.2.2.2.2.2.2.2.2.2.2.2.2.1,s.2.2.2.2.2.2.2.2.2.2.2.2.2.2.2.2.1,a5.1.now.1,a5.1.now.2,a5.1.field.points,a5.1.certs.next_,a5.1.certs.list,a5.1.agenda.slots.uses,a5.1.agenda.slots.used,a5.1.agenda.slots.free,a5.1.agenda.heap,a5.1.agenda.where_,a5.1.due)
  else
   (aS N) (oR N) (s.1,0,s.2.2.2.2.2.2.2.2.2.2.2.2.2.2)
def uN (N:Nat) (p0:aJ) (p1:Field) (p2:List (Int×Int)):Option (aJ×Int):=
 ((iS N) p0).bind fun r0=>
 (aS N) (zO N) (p2,0,p0.now.1,p0.now.2,p0.field.points,p0.certs.next_,p0.certs.list,p0.agenda.slots.uses,p0.agenda.slots.used,p0.agenda.slots.free,p0.agenda.heap,p0.agenda.where_,p0.due,p1.points,0,0,0,r0.now.1,r0.now.2,r0.field.points,r0.certs.next_,r0.certs.list,r0.agenda.slots.uses,r0.agenda.slots.used,r0.agenda.slots.free,r0.agenda.heap,r0.agenda.where_,r0.due)
def aJP (N:Nat):aU:=⟨aC.cons (aE.agg bE) (aC.cons (aE.agg bF) (aC.one (aE.sl fG))),aE.tup (aC.cons (aE.agg bE) (aC.one (aE.int .i64))),fun a=>(uN N) a.1 a.2.1 a.2.2,.frz,false⟩
theorem aCe (N:Nat):aB tab 103 (aJP N):=aB.of ZK (cx:=(aM (aG N) [(37,(c37 N)),(37,(ME N)),(160,(aJB N)),(161,(aJE N)),(24,(c24 N)),(162,(aJL N)),(115,(aIq N)),(163,(aJO N))] [] [] [])) rfl (aL.make ⟨(zJ N),(tI N),(aB0 N),(aB3 N),(S0 N),(aCa N),(OB N),(aCd N),trivial⟩ trivial trivial) (fun a=>by kernel_rfl)
def uO (N:Nat) (p0:aJ) (p1:Field) (p2:List Int):Option (aN×Int):=
 ((DP N) p1 p0.now p2).bind fun r0=>
 ((J3 N) r0).bind fun l1=>
 ((uN N) p0 p1 l1).bind fun a2=>
 bif a2.2 !=0 then
  some (aN.mk (aJ.mk (0,0) (Field.mk []) (aQ.mk 0 []) (aH.mk (aO.mk [] [] []) [] []) []) (aR.mk [] []),a2.2)
 else
  some (aN.mk a2.1 r0,0)
def c47 (N:Nat):aU:=⟨aC.cons (aE.agg bE) (aC.cons (aE.agg bF) (aC.one (aE.sl ki))),aE.tup (aC.cons (aE.agg dC) (aC.one (aE.int .i64))),fun a=>(uO N) a.1 a.2.1 a.2.2,.frz,false⟩
theorem aIs (N:Nat):aB tab 47 (c47 N):=aB.of aHD (cx:=(aM (aG N) [(102,(aJA N)),(62,(c62 N)),(103,(aJP N))] [] [] [])) rfl (aL.make ⟨(aBY N),(aIi N),(aCe N),trivial⟩ trivial trivial) (fun a=>by kernel_rfl)
def jC (N:Nat) (p0:Field) (p1:Int×Int):Option (aN×Int):=
 ((rY N) p0).bind fun n0=>
 bif n0 !=0 then
  ((rY N) p0).bind fun n1=>
  some (aN.mk (aJ.mk (0,0) (Field.mk []) (aQ.mk 0 []) (aH.mk (aO.mk [] [] []) [] []) []) (aR.mk [] []),n1)
 else
  ((AL N) p1).bind fun n2=>
  bif n2 !=0 then
   some (aN.mk (aJ.mk (0,0) (Field.mk []) (aQ.mk 0 []) (aH.mk (aO.mk [] [] []) [] []) []) (aR.mk [] []),8)
  else
   ((AO N) p0 p1).bind fun r3=>
   ((AP N) p0).bind fun l4=>
   ((uO N) r3 p0 l4).bind fun a5=>
   some a5
def c26 (N:Nat):aU:=⟨aC.cons (aE.agg bF) (aC.one (aE.agg (bJ.row fG))),aE.tup (aC.cons (aE.agg dC) (aC.one (aE.int .i64))),fun a=>(jC N) a.1 a.2,.frz,false⟩
theorem S4 (N:Nat):aB tab 26 (c26 N):=aB.of aHr (cx:=(aM (aG N) [(63,(c63 N)),(64,(c64 N)),(65,(c65 N)),(66,(c66 N)),(47,(c47 N))] [] [] [])) rfl (aL.make ⟨(aH7 N),(aH9 N),(aIa N),(aIb N),(aIs N),trivial⟩ trivial trivial) (fun a=>by kernel_rfl)
def nF (N:Nat):Option aN:=
 ((oO N) 2).bind fun a0=>
 ((jC N) (Field.mk [(1,0,2),(2,6,-1),(5,0,0)]) a0).bind fun a1=>
 some a1.1
def c25 (N:Nat):aU:=⟨aC.nil,aE.agg dC,fun _=>(nF N),.frz,false⟩
theorem S5 (N:Nat):aB tab 25 (c25 N):=aB.of aHq (cx:=(aM (aG N) [(27,(c27 N)),(26,(c26 N))] [] [] [])) rfl (aL.make ⟨(SX N),(S4 N),trivial⟩ trivial trivial) (fun a=>by kernel_rfl)
def jD (_:Nat) (p0:Int):Option Int:=
 bif decide (p0<0) then
  some (aA .u64 (0- (aA .u64 p0)))
 else
  some (aA .u64 p0)
def aCf (N:Nat):aU:=⟨aC.one (aE.int .i64),aE.int .u64,fun a=>(jD N) a,.pure,false⟩
theorem HP (N:Nat):aB tab 175 (aCf N):=aB.of aAv (cx:=(aM (aG N) [] [] [] [])) rfl (aL.make trivial trivial trivial) (fun a=>by kernel_rfl)
def HQ (_:Nat) (s:(Int×Int)):Option (aW (Int×Int) Int):=
 bif decide (0<s.2) then
  bif s.2==0 then
   none
  else
   some (.next (s.2,af s.1 s.2))
 else
  some (.done s.1)
def zP (N:Nat) (p0:Int) (p1:Int):Option Int:=
 (aS N) (HQ N) (p0,p1)
def aIt (N:Nat):aU:=⟨aC.cons (aE.int .u64) (aC.one (aE.int .u64)),aE.int .u64,fun a=>(zP N) a.1 a.2,.pure,false⟩
theorem OD (N:Nat):aB tab 174 (aIt N):=aB.of aAu (cx:=(aM (aG N) [] [] [] [])) rfl (aL.make trivial trivial trivial) (fun a=>by kernel_rfl)
def fA (N:Nat) (p0:Int×Int):Option Int:=
 bif decide (p0.2<1) then
  some 8
 else
  bif p0.1==(-9223372036854775808) then
   some 8
  else
   ((jD N) p0.1).bind fun n0=>
   ((zP N) (aA .u64 p0.2) n0).bind fun n1=>
   bif decide (1<n1) then
    some 8
   else
    some 0
def J7 (N:Nat):aU:=⟨aC.one (aE.agg (bJ.row fG)),aE.int .i64,fun a=>(fA N) a,.pure,false⟩
theorem pX (N:Nat):aB tab 121 (J7 N):=aB.of ZX (cx:=(aM (aG N) [(175,(aCf N)),(174,(aIt N))] [] [] [])) rfl (aL.make ⟨(HP N),(OD N),trivial⟩ trivial trivial) (fun a=>by kernel_rfl)
def mJ (_:Nat) (p0:Int):Option Bool:=
 bif decide (p0<(-1048576)) then
  some true
 else
  some (decide (1048576<p0))
def aJQ (N:Nat):aU:=⟨aC.one (aE.int .i64),aE.bool,fun a=>(mJ N) a,.pure,false⟩
theorem aCg (N:Nat):aB tab 123 (aJQ N):=aB.of ZY (cx:=(aM (aG N) [] [] [] [])) rfl (aL.make trivial trivial trivial) (fun a=>by kernel_rfl)
def hP (N:Nat) (p0:Int×Int×Int):Option Int:=
 bif decide (p0.1<0) then
  some 8
 else
  bif decide (65535<p0.1) then
   some 8
  else
   ((mJ N) p0.2.1).bind fun b0=>
   bif b0 then
    some 8
   else
    ((mJ N) p0.2.2).bind fun b1=>
    bif b1 then
     some 8
    else
     some 0
def c72 (N:Nat):aU:=⟨aC.one (aE.agg (bJ.row bX)),aE.int .i64,fun a=>(hP N) a,.pure,false⟩
theorem HR (N:Nat):aB tab 72 (c72 N):=aB.of aHN (cx:=(aM (aG N) [(123,(aJQ N))] [] [] [])) rfl (aL.make ⟨(aCg N),trivial⟩ trivial trivial) (fun a=>by kernel_rfl)
def DV (_:Nat) (s:((List (Int×Int×Int))×Int×Int×(List (Int×Int×Int)))):Option (aW ((List (Int×Int×Int))×Int×Int×(List (Int×Int×Int))) (aW ((List (Int×Int×Int))×Int×Int×(List (Int×Int×Int))) Int)):=
 bif decide (s.2.2.1<s.2.1) then
  (aK s.1 s.2.2.1).bind fun a0=>
  bif decide (0<s.2.2.1) then
   (aK s.2.2.2 (aA .i64 (s.2.2.1-1))).bind fun a1=>
   bif decide (a0.1<=a1.1) then
    some (.done (.done 32))
   else
    some (.next (s.1,s.2.1,aA .i64 (s.2.2.1+1),s.2.2.2))
  else
   some (.next (s.1,s.2.1,aA .i64 (s.2.2.1+1),s.2.2.2))
 else
  some (.done (.done 0))
def DW (N:Nat) (s:((List (Int×Int×Int))×Int×Int×(List (Int×Int×Int)))):Option (aW ((List (Int×Int×Int))×Int×Int×(List (Int×Int×Int))) Int):=
 bif decide (s.2.2.1<s.2.1) then
  (aK s.1 s.2.2.1).bind fun a0=>
  ((hP N) a0).bind fun n1=>
  bif n1 !=0 then
   some (.done n1)
  else
   some (.next (s.1,s.2.1,aA .i64 (s.2.2.1+1),s.2.2.2))
 else
  (aS N) (DV N) (s.2.2.2,aa s.2.2.2.length,0,s.2.2.2)
def gC (N:Nat) (p0:Field):Option Int:=
 bif decide (64<(aa p0.points.length)) then
  some 4
 else
  (aS N) (DW N) (p0.points,aa p0.points.length,0,p0.points)
def c71 (N:Nat):aU:=⟨aC.one (aE.agg bF),aE.int .i64,fun a=>(gC N) a,.pure,false⟩
theorem wA (N:Nat):aB tab 71 (c71 N):=aB.of aHM (cx:=(aM (aG N) [(72,(c72 N))] [] [] [])) rfl (aL.make ⟨(HR N),trivial⟩ trivial trivial) (fun a=>by kernel_rfl)
def wB (_:Nat) (p0:Int×Int):Option Bool:=
 bif decide (0<=(if p0.2<p0.1 then p0.2 else p0.1)) then
  bif decide ((if p0.2>p0.1 then p0.2 else p0.1)<=65535) then
   some (p0.1 !=p0.2)
  else
   some false
 else
  some false
def aIu (N:Nat):aU:=⟨aC.one (aE.agg (bJ.row fG)),aE.bool,fun a=>(wB N) a,.pure,false⟩
theorem OE (N:Nat):aB tab 190 (aIu N):=aB.of aAE (cx:=(aM (aG N) [] [] [] [])) rfl (aL.make trivial trivial trivial) (fun a=>by kernel_rfl)
def EW (N:Nat) (s:(Int×(List (Int×Int×Int))×Int×Int×Int×(List (Int×Int×Int))×(List (List Int)))):Option (aW (Int×(List (Int×Int×Int))×Int×Int×Int×(List (Int×Int×Int))×(List (List Int))) Int):=
 bif decide (s.2.2.2.1<s.2.2.1) then
  (aK s.2.1 s.2.2.2.1).bind fun a0=>
  ((wB N) a0.2).bind fun b1=>
  bif !b1 then
   some (.done 8)
  else
   (T0 s.2.2.2.2.2.2 [a0.2.1,a0.2.2]).bind fun b2=>
   bif b2 then
    some (.done 8)
   else
    bif decide (a0.1<=s.1) then
     some (.done 8)
    else
     bif decide (s.2.2.2.2.1<=a0.1) then
      some (.done 8)
     else
      (T1 s.2.2.2.2.2.2 [a0.2.1,a0.2.2]).bind fun l3=>
      some (.next (a0.1,s.2.1,s.2.2.1,aA .i64 (s.2.2.2.1+1),s.2.2.2.2.1,s.2.2.2.2.2.1,l3))
 else
  some (.done 0)
def pY (N:Nat) (p0:aQ):Option Int:=
 bif decide (200<(aa p0.list.length)) then
  some 8
 else
  bif decide (p0.next_<0) then
   some 8
  else
   bif decide (1000000<p0.next_) then
    some 8
   else
    (aS N) (EW N) (-1,p0.list,aa p0.list.length,0,p0.next_,p0.list,[])
def aCh (N:Nat):aU:=⟨aC.one (aE.agg eH),aE.int .i64,fun a=>(pY N) a,.pure,false⟩
theorem HS (N:Nat):aB tab 138 (aCh N):=aB.of Z5 (cx:=(aM (aG N) [(190,(aIu N))] [] [] [])) rfl (aL.make ⟨(OE N),trivial⟩ trivial trivial) (fun a=>by kernel_rfl)
def sH (_:Nat) (s:((List Bool)×Bool×Int×Int)):Option (aW ((List Bool)×Bool×Int×Int) Int):=
 bif decide (s.2.2.2<s.2.2.1) then
  (aK s.1 s.2.2.2).bind fun b0=>
  bif s.2.1==b0 then
   some (.done s.2.2.2)
  else
   some (.next (s.1,s.2.1,s.2.2.1,aA .i64 (s.2.2.2+1)))
 else
  some (.done (-1))
def nG (N:Nat) (p0:List Bool) (p1:Bool):Option Int:=
 (aS N) (sH N) (p0,p1,aa p0.length,0)
def aJS (N:Nat):aU:=⟨aC.cons (aE.sl kb) (aC.one aE.bool),aE.int .i64,fun a=>(nG N) a.1 a.2,.pure,false⟩
theorem aCi (N:Nat):aB tab 282 (aJS N):=aB.of aBy (cx:=(aM (aG N) [] [] [] [])) rfl (aL.make trivial trivial trivial) (fun a=>by kernel_rfl)
def dP (N:Nat) (p0:List Bool) (p1:Bool):Option Bool:=
 ((nG N) p0 p1).bind fun n0=>
 some (decide (0<=n0))
def aJT (N:Nat):aU:=⟨aC.cons (aE.sl kb) (aC.one aE.bool),aE.bool,fun a=>(dP N) a.1 a.2,.pure,false⟩
theorem aCj (N:Nat):aB tab 245 (aJT N):=aB.of aBd (cx:=(aM (aG N) [(282,(aJS N))] [] [] [])) rfl (aL.make ⟨(aCi N),trivial⟩ trivial trivial) (fun a=>by kernel_rfl)
def kM (_:Nat) (s:((List Int)×Int×Int×(List Int)×(List Bool)×(List Int))):Option (aW ((List Int)×Int×Int×(List Int)×(List Bool)×(List Int)) (aW ((List Int)×Int×Int×(List Int)×(List Bool)×(List Int)×Int×(List Bool)) Int)):=
 bif decide (s.2.2.1<s.2.1) then
  (aK s.1 s.2.2.1).bind fun n0=>
  bif decide (n0<0) then
   some (.done (.done 8))
  else
   bif decide (1000000<n0) then
    some (.done (.done 8))
   else
    bif n0==0 then
     (aK s.2.2.2.2.1 s.2.2.1).bind fun b1=>
     bif b1 then
      some (.done (.done 8))
     else
      some (.next (s.1,s.2.1,aA .i64 (s.2.2.1+1),s.2.2.2))
    else
     some (.next (s.1,s.2.1,aA .i64 (s.2.2.1+1),s.2.2.2))
 else
  some (.done (.done 0))
def EX (N:Nat) (c0:(List Bool)) (s:((List Int)×Int×Int×(List Int)×(List Bool)×(List Int)×Int×(List Bool))):Option (aW ((List Int)×Int×Int×(List Int)×(List Bool)×(List Int)×Int×(List Bool)) Int):=
 bif decide (s.2.2.1<s.2.1) then
  (aK s.1 s.2.2.1).bind fun n0=>
  bif decide (n0<0) then
   bif s.2.2.2.2.2.2.2.length==s.2.2.2.2.2.2.2.length then
    bif s.2.2.2.2.2.2.2.length==c0.length then
     bif s.2.2.2.2.2.2.2.length==c0.length then
      bif decide (0<=s.2.2.1) then
       some (.done 8)
      else
       ((dP N) s.2.2.2.2.2.2.2 false).bind fun b1=>
       bif b1 then
        some (.done 8)
       else
        (aS N) (kM N) (s.2.2.2.1,aa s.2.2.2.1.length,0,s.2.2.2.1,s.2.2.2.2.1,s.2.2.2.2.2.1)
     else
      none
    else
     none
   else
    none
  else
   bif decide (s.2.2.2.2.2.2.1<=n0) then
    bif s.2.2.2.2.2.2.2.length==s.2.2.2.2.2.2.2.length then
     bif s.2.2.2.2.2.2.2.length==c0.length then
      bif s.2.2.2.2.2.2.2.length==c0.length then
       bif decide (0<=s.2.2.1) then
        some (.done 8)
       else
        ((dP N) s.2.2.2.2.2.2.2 false).bind fun b2=>
        bif b2 then
         some (.done 8)
        else
         (aS N) (kM N) (s.2.2.2.1,aa s.2.2.2.1.length,0,s.2.2.2.1,s.2.2.2.2.1,s.2.2.2.2.2.1)
      else
       none
     else
      none
    else
     none
   else
    (aK s.2.2.2.2.2.2.2 n0).bind fun b3=>
    bif b3 then
     bif s.2.2.2.2.2.2.2.length==s.2.2.2.2.2.2.2.length then
      bif s.2.2.2.2.2.2.2.length==c0.length then
       bif s.2.2.2.2.2.2.2.length==c0.length then
        bif decide (0<=s.2.2.1) then
         some (.done 8)
        else
         ((dP N) s.2.2.2.2.2.2.2 false).bind fun b4=>
         bif b4 then
          some (.done 8)
         else
          (aS N) (kM N) (s.2.2.2.1,aa s.2.2.2.1.length,0,s.2.2.2.1,s.2.2.2.2.1,s.2.2.2.2.2.1)
       else
        none
      else
       none
     else
      none
    else
     (aK s.2.2.2.2.2.2.2 n0).bind fun _=>
     bif ((bO s.2.2.2.2.2.2.2 n0 true).length)==s.2.2.2.2.2.2.2.length then
      some (.next (s.1,s.2.1,aA .i64 (s.2.2.1+1),s.2.2.2.1,s.2.2.2.2.1,s.2.2.2.2.2.1,s.2.2.2.2.2.2.1,bO s.2.2.2.2.2.2.2 n0 true))
     else
      none
 else
  bif s.2.2.2.2.2.2.2.length==c0.length then
   bif s.2.2.2.2.2.2.2.length==c0.length then
    ((dP N) s.2.2.2.2.2.2.2 false).bind fun b6=>
    bif b6 then
     some (.done 8)
    else
     (aS N) (kM N) (s.2.2.2.1,aa s.2.2.2.1.length,0,s.2.2.2.1,s.2.2.2.2.1,s.2.2.2.2.2.1)
   else
    none
  else
   none
def pZ (N:Nat) (p0:aO):Option Int:=
 bif decide ((aa p0.uses.length)<1) then
  some 8
 else
  bif decide (200<(aa p0.uses.length)) then
   some 8
  else
   bif (aa p0.used.length) !=(aa p0.uses.length) then
    some 8
   else
    (aZ p0.used).bind fun l0=>
    (aS N) ((EX N) l0) (p0.free,aa p0.free.length,0,p0.uses,p0.used,p0.free,aa p0.uses.length,l0)
def aCk (N:Nat):aU:=⟨aC.one (aE.agg eG),aE.int .i64,fun a=>(pZ N) a,.pure,false⟩
theorem HT (N:Nat):aB tab 191 (aCk N):=aB.of aAF (cx:=(aM (aG N) [(221,aU.clone kb),(245,(aJT N))] [] [(196,MC),(95,UT),(244,XY)] [])) rfl (aL.make ⟨mD,(aCj N),trivial⟩ trivial ⟨BJ,zI,aBc,trivial⟩) (fun a=>by kernel_rfl)
def DX (N:Nat) (p0:Int×Int) (p1:Int×Int):Option Int:=
 ((fA N) p0).bind fun n0=>
 ((fA N) p1).bind fun n1=>
 some (if n1>n0 then n1 else n0)
def aJU (N:Nat):aU:=⟨aC.cons (aE.agg (bJ.row fG)) (aC.one (aE.agg (bJ.row fG))),aE.int .i64,fun a=>(DX N) a.1 a.2,.pure,false⟩
theorem aCl (N:Nat):aB tab 183 (aJU N):=aB.of aAz (cx:=(aM (aG N) [(121,(J7 N))] [] [] [])) rfl (aL.make ⟨(pX N),trivial⟩ trivial trivial) (fun a=>by kernel_rfl)
def lH (_:Nat) (p0:Int):Option Bool:=
 some (p0 !=p0)
def aJV (N:Nat):aU:=⟨aC.one (aE.int .i64),aE.bool,fun a=>(lH N) a,.pure,false⟩
theorem aCm (N:Nat):aB tab 237 (aJV N):=aB.of aA6 (cx:=(aM (aG N) [] [] [] [])) rfl (aL.make trivial trivial trivial) (fun a=>by kernel_rfl)
def jN (N:Nat) (p0:Int) (p1:Int):Option Int:=
 ((lH N) p0).bind fun b0=>
 ((lH N) p1).bind fun b1=>
 bif b0 then
  bif b1 then
   some 0
  else
   some (-1)
 else
  bif b1 then
   some 1
  else
   bif decide (p0<p1) then
    some (-1)
   else
    bif decide (p1<p0) then
     some 1
    else
     some 0
def aIv (N:Nat):aU:=⟨aC.cons (aE.int .i64) (aC.one (aE.int .i64)),aE.int .i64,fun a=>(jN N) a.1 a.2,.pure,false⟩
theorem OF (N:Nat):aB tab 184 (aIv N):=aB.of aAA (cx:=(aM (aG N) [(237,(aJV N))] [] [] [])) rfl (aL.make ⟨(aCm N),trivial⟩ trivial trivial) (fun a=>by kernel_rfl)
def gJ (_:Nat) (p0:Int) (p1:Int):Option (Int×Int):=
 some (aA .u64 ((aA .u64 ((aA .u64 ((kW .u64 p0 32)*(kW .u64 p1 32)))+(kW .u64 (aA .u64 ((aA .u64 ((kW .u64 p0 32)*(ES .u64 p1 4294967295)))+(kW .u64 (aA .u64 ((ES .u64 p0 4294967295)*(ES .u64 p1 4294967295))) 32))) 32)))+(kW .u64 (aA .u64 ((ES .u64 (aA .u64 ((aA .u64 ((kW .u64 p0 32)*(ES .u64 p1 4294967295)))+(kW .u64 (aA .u64 ((ES .u64 p0 4294967295)*(ES .u64 p1 4294967295))) 32))) 4294967295)+(aA .u64 ((ES .u64 p0 4294967295)*(kW .u64 p1 32))))) 32)),aA .u64 (p0*p1))
def aCn (N:Nat):aU:=⟨aC.cons (aE.int .u64) (aC.one (aE.int .u64)),aE.tup (aC.cons (aE.int .u64) (aC.one (aE.int .u64))),fun a=>(gJ N) a.1 a.2,.pure,false⟩
theorem HU (N:Nat):aB tab 151 (aCn N):=aB.of aAb (cx:=(aM (aG N) [] [] [] [])) rfl (aL.make trivial trivial trivial) (fun a=>by kernel_rfl)
def sI (N:Nat) (p0:Int) (p1:Int):Option (Bool×Int×Int):=
 ((jD N) p0).bind fun n0=>
 ((jD N) p1).bind fun n1=>
 ((gJ N) n0 n1).bind fun a2=>
 some (!((decide (p0<0))==(decide (p1<0))),a2)
def aJW (N:Nat):aU:=⟨aC.cons (aE.int .i64) (aC.one (aE.int .i64)),aE.agg (bJ.row rX),fun a=>(sI N) a.1 a.2,.pure,false⟩
theorem aCo (N:Nat):aB tab 186 (aJW N):=aB.of aAC (cx:=(aM (aG N) [(175,(aCf N)),(151,(aCn N))] [] [] [])) rfl (aL.make ⟨(HP N),(HU N),trivial⟩ trivial trivial) (fun a=>by kernel_rfl)
def kG (_:Nat) (p0:Int):Option Bool:=
 some (p0 !=p0)
def aJX (N:Nat):aU:=⟨aC.one (aE.int .u64),aE.bool,fun a=>(kG N) a,.pure,false⟩
theorem aCp (N:Nat):aB tab 275 (aJX N):=aB.of aBr (cx:=(aM (aG N) [] [] [] [])) rfl (aL.make trivial trivial trivial) (fun a=>by kernel_rfl)
def iT (N:Nat) (p0:Int) (p1:Int):Option Int:=
 ((kG N) p0).bind fun b0=>
 ((kG N) p1).bind fun b1=>
 bif b0 then
  bif b1 then
   some 0
  else
   some (-1)
 else
  bif b1 then
   some 1
  else
   bif decide (p0<p1) then
    some (-1)
   else
    bif decide (p1<p0) then
     some 1
    else
     some 0
def aJY (N:Nat):aU:=⟨aC.cons (aE.int .u64) (aC.one (aE.int .u64)),aE.int .i64,fun a=>(iT N) a.1 a.2,.pure,false⟩
theorem aCq (N:Nat):aB tab 238 (aJY N):=aB.of aA7 (cx:=(aM (aG N) [(275,(aJX N))] [] [] [])) rfl (aL.make ⟨(aCp N),trivial⟩ trivial trivial) (fun a=>by kernel_rfl)
def uP (N:Nat) (p0:Bool×Int×Int) (p1:Bool×Int×Int):Option Int:=
 ((iT N) p0.2.1 p1.2.1).bind fun n0=>
 bif n0 !=0 then
  some n0
 else
  ((iT N) p0.2.2 p1.2.2).bind fun n1=>
  some n1
def aJZ (N:Nat):aU:=⟨aC.cons (aE.agg (bJ.row rX)) (aC.one (aE.agg (bJ.row rX))),aE.int .i64,fun a=>(uP N) a.1 a.2,.pure,false⟩
theorem aCr (N:Nat):aB tab 185 (aJZ N):=aB.of aAB (cx:=(aM (aG N) [(238,(aJY N))] [] [] [])) rfl (aL.make ⟨(aCq N),trivial⟩ trivial trivial) (fun a=>by kernel_rfl)
def F8 (N:Nat) (p0:Int×Int) (p1:Int×Int):Option (Int×Int):=
 ((DX N) p0 p1).bind fun n0=>
 bif n0 !=0 then
  some (0,n0)
 else
  bif !((decide (p0.1<0))==(decide (p1.1<0))) then
   ((jN N) p0.1 p1.1).bind fun n1=>
   some (n1,0)
  else
   ((sI N) p0.1 p1.2).bind fun a2=>
   ((sI N) p1.1 p0.2).bind fun a3=>
   ((uP N) a2 a3).bind fun n4=>
   bif decide (p0.1<0) then
    some (aA .i64 (0-n4),0)
   else
    some (n4,0)
def aJ0 (N:Nat):aU:=⟨aC.cons (aE.agg (bJ.row fG)) (aC.one (aE.agg (bJ.row fG))),aE.tup (aC.cons (aE.int .i64) (aC.one (aE.int .i64))),fun a=>(F8 N) a.1 a.2,.pure,false⟩
theorem aCs (N:Nat):aB tab 133 (aJ0 N):=aB.of Z4 (cx:=(aM (aG N) [(183,(aJU N)),(184,(aIv N)),(186,(aJW N)),(185,(aJZ N))] [] [] [])) rfl (aL.make ⟨(aCl N),(OF N),(aCo N),(aCr N),trivial⟩ trivial trivial) (fun a=>by kernel_rfl)
def nR (_:Nat) (p0:Int):Option Bool:=
 some (p0 !=p0)
def aJ1 (N:Nat):aU:=⟨aC.one (aE.int .i64),aE.bool,fun a=>(nR N) a,.pure,false⟩
theorem aCt (N:Nat):aB tab 177 (aJ1 N):=aB.of aAw (cx:=(aM (aG N) [] [] [] [])) rfl (aL.make trivial trivial trivial) (fun a=>by kernel_rfl)
def dG (N:Nat) (p0:Int) (p1:Int):Option Int:=
 ((nR N) p0).bind fun b0=>
 ((nR N) p1).bind fun b1=>
 bif b0 then
  bif b1 then
   some 0
  else
   some (-1)
 else
  bif b1 then
   some 1
  else
   bif decide (p0<p1) then
    some (-1)
   else
    bif decide (p1<p0) then
     some 1
    else
     some 0
def J8 (N:Nat):aU:=⟨aC.cons (aE.int .i64) (aC.one (aE.int .i64)),aE.int .i64,fun a=>(dG N) a.1 a.2,.pure,false⟩
theorem qA (N:Nat):aB tab 126 (J8 N):=aB.of Z0 (cx:=(aM (aG N) [(177,(aJ1 N))] [] [] [])) rfl (aL.make ⟨(aCt N),trivial⟩ trivial trivial) (fun a=>by kernel_rfl)
def EY (_:Nat) (s:(Int×(List Int)×Int×Int)):Option (aW (Int×(List Int)×Int×Int) Int):=
 bif decide (s.2.2.2<s.2.2.1) then
  (aK s.2.1 s.2.2.2).bind fun n0=>
  bif n0 !=s.1 then
   some (.done n0)
  else
   some (.next (s.1,s.2.1,s.2.2.1,aA .i64 (s.2.2.2+1)))
 else
  some (.done s.1)
def wC (N:Nat) (p0:List Int):Option Int:=
 (aS N) (EY N) (0,p0,aa p0.length,0)
def aIw (N:Nat):aU:=⟨aC.one (aE.sl ki),aE.int .i64,fun a=>(wC N) a,.pure,false⟩
theorem OG (N:Nat):aB tab 246 (aIw N):=aB.of aBe (cx:=(aM (aG N) [] [] [] [])) rfl (aL.make trivial trivial trivial) (fun a=>by kernel_rfl)
def bV (N:Nat) (p0:Int×Int×Int×Int×Int) (p1:Int×Int×Int×Int×Int):Option Int:=
 ((F8 N) (p0.1,p0.2.1) (p1.1,p1.2.1)).bind fun a0=>
 ((dG N) p0.2.2.1 p1.2.2.1).bind fun n1=>
 ((wC N) [a0.1,n1]).bind fun n2=>
 some n2
def aCu (N:Nat):aU:=⟨aC.cons (aE.agg (bJ.row gM)) (aC.one (aE.agg (bJ.row gM))),aE.int .i64,fun a=>(bV N) a.1 a.2,.pure,false⟩
theorem HV (N:Nat):aB tab 192 (aCu N):=aB.of aAG (cx:=(aM (aG N) [(133,(aJ0 N)),(126,(J8 N)),(246,(aIw N))] [] [] [])) rfl (aL.make ⟨(aCs N),(qA N),(OG N),trivial⟩ trivial trivial) (fun a=>by kernel_rfl)
def A8 (N:Nat) (s:((List (Int×Int×Int×Int×Int))×Int×Int×(List Int)×(List Bool)×(List Int)×(List (Int×Int×Int×Int×Int))×(List Int)×(List (List Int)))):Option (aW ((List (Int×Int×Int×Int×Int))×Int×Int×(List Int)×(List Bool)×(List Int)×(List (Int×Int×Int×Int×Int))×(List Int)×(List (List Int))) (aW ((List Int)×Int×Int×(List Int)×(List Bool)×(List Int)×(List (Int×Int×Int×Int×Int))×(List Int)) Int)):=
 bif decide (s.2.2.1<s.2.1) then
  (aK s.1 s.2.2.1).bind fun a0=>
  ((fA N) (a0.1,a0.2.1)).bind fun n1=>
  bif n1 !=0 then
   some (.done (.done 8))
  else
   bif decide (a0.2.2.1<0) then
    some (.done (.done 8))
   else
    bif decide (1000000<a0.2.2.1) then
     some (.done (.done 8))
    else
     (T0 s.2.2.2.2.2.2.2.2 [a0.2.2.1]).bind fun b2=>
     bif b2 then
      some (.done (.done 8))
     else
      (T1 s.2.2.2.2.2.2.2.2 [a0.2.2.1]).bind fun l3=>
      bif decide (0<s.2.2.1) then
       (aK s.2.2.2.2.2.2.1 (aA .i64 (ac (aA .i64 (s.2.2.1-1)) 2))).bind fun a4=>
       ((bV N) a0 a4).bind fun n5=>
       bif decide (n5<0) then
        some (.done (.done 8))
       else
        some (.next (s.1,s.2.1,aA .i64 (s.2.2.1+1),s.2.2.2.1,s.2.2.2.2.1,s.2.2.2.2.2.1,s.2.2.2.2.2.2.1,s.2.2.2.2.2.2.2.1,l3))
      else
       some (.next (s.1,s.2.1,aA .i64 (s.2.2.1+1),s.2.2.2.1,s.2.2.2.2.1,s.2.2.2.2.2.1,s.2.2.2.2.2.2.1,s.2.2.2.2.2.2.2.1,l3))
 else
  some (.done (.done 0))
def A9 (N:Nat) (s:((List Int)×Int×Int×(List Int)×(List Bool)×(List Int)×(List (Int×Int×Int×Int×Int))×(List Int))):Option (aW ((List Int)×Int×Int×(List Int)×(List Bool)×(List Int)×(List (Int×Int×Int×Int×Int))×(List Int)) Int):=
 bif decide (s.2.2.1<s.2.1) then
  (aK s.1 s.2.2.1).bind fun n0=>
  (aK s.2.2.2.2.1 s.2.2.1).bind fun b1=>
  bif !b1 then
   bif n0 !=(-1) then
    some (.done 8)
   else
    some (.next (s.1,s.2.1,aA .i64 (s.2.2.1+1),s.2.2.2))
  else
   bif decide (n0<0) then
    some (.done 8)
   else
    bif decide ((aa s.2.2.2.2.2.2.1.length)<=n0) then
     some (.done 8)
    else
     (aK s.2.2.2.2.2.2.1 n0).bind fun a2=>
     (aK s.2.2.2.1 s.2.2.1).bind fun n3=>
     bif !((a2.2.2.2.1==s.2.2.1)&&(a2.2.2.2.2==n3)) then
      some (.done 8)
     else
      some (.next (s.1,s.2.1,aA .i64 (s.2.2.1+1),s.2.2.2))
 else
  (aS N) (A8 N) (s.2.2.2.2.2.2.1,aa s.2.2.2.2.2.2.1.length,0,s.2.2.2.1,s.2.2.2.2.1,s.2.2.2.2.2.1,s.2.2.2.2.2.2.1,s.2.2.2.2.2.2.2,[])
def jO (N:Nat) (p0:aH):Option Int:=
 ((pZ N) p0.slots).bind fun n0=>
 bif n0 !=0 then
  some 8
 else
  bif (aa p0.where_.length) !=(aa p0.slots.used.length) then
   some 8
  else
   bif (aa p0.heap.length) !=(aA .i64 ((aa p0.slots.used.length) - (aa p0.slots.free.length))) then
    some 8
   else
    (aS N) (A9 N) (p0.where_,aa p0.where_.length,0,p0.slots.uses,p0.slots.used,p0.slots.free,p0.heap,p0.where_)
def S6 (N:Nat):aU:=⟨aC.one (aE.agg bY),aE.int .i64,fun a=>(jO N) a,.pure,false⟩
theorem BM (N:Nat):aB tab 139 (S6 N):=aB.of Z6 (cx:=(aM (aG N) [(191,(aCk N)),(121,(J7 N)),(192,(aCu N))] [] [] [])) rfl (aL.make ⟨(HT N),(pX N),(HV N),trivial⟩ trivial trivial) (fun a=>by kernel_rfl)
def nS (N:Nat) (p0:Int×Int×Int) (p1:Int):Option Int:=
 ((dG N) p0.1 p1).bind fun n0=>
 some n0
def aJ2 (N:Nat):aU:=⟨aC.cons (aE.agg (bJ.row bX)) (aC.one (aE.int .i64)),aE.int .i64,fun a=>(nS N) a.1 a.2,.pure,false⟩
theorem aCv (N:Nat):aB tab 248 (aJ2 N):=aB.of aBg (cx:=(aM (aG N) [(126,(J8 N))] [] [] [])) rfl (aL.make ⟨(qA N),trivial⟩ trivial trivial) (fun a=>by kernel_rfl)
def eL (N:Nat) (s:((List (Int×Int×Int))×Int×Int×Int×Int)):Option (aW ((List (Int×Int×Int))×Int×Int×Int×Int) (Int×Bool)):=
 bif decide (s.2.2.2.1<s.2.2.2.2) then
  (aK s.1 (aA .i64 (kW .u64 (aA .u64 (aA .i64 (s.2.2.2.1+s.2.2.2.2))) 1))).bind fun a0=>
  ((nS N) a0 s.2.1).bind fun n1=>
  bif decide (n1<0) then
   some (.next (s.1,s.2.1,s.2.2.1,aA .i64 ((aA .i64 (kW .u64 (aA .u64 (aA .i64 (s.2.2.2.1+s.2.2.2.2))) 1))+1),s.2.2.2.2))
  else
   some (.next (s.1,s.2.1,s.2.2.1,s.2.2.2.1,aA .i64 (kW .u64 (aA .u64 (aA .i64 (s.2.2.2.1+s.2.2.2.2))) 1)))
 else
  bif decide (s.2.2.2.1<s.2.2.1) then
   (aK s.1 s.2.2.2.1).bind fun a2=>
   ((nS N) a2 s.2.1).bind fun n3=>
   some (.done (s.2.2.2.1,n3==0))
  else
   some (.done (s.2.2.2.1,false))
def cE (N:Nat) (p0:List (Int×Int×Int)) (p1:Int) (_:Unit):Option (Int×Bool):=
 (aS N) (eL N) (p0,p1,aa p0.length,0,aa p0.length)
def J9 (N:Nat):aU:=⟨aC.cons (aE.sl bX) (aC.cons (aE.int .i64) (aC.one (aE.clo 248 aC.nil))),aE.tup (aC.cons (aE.int .i64) (aC.one aE.bool)),fun a=>(cE N) a.1 a.2.1 a.2.2,.pure,false⟩
theorem KA (N:Nat):aB tab 124 (J9 N):=aB.of HC (cx:=(aM (aG N) [(248,(aJ2 N))] [] [] [])) rfl (aL.make ⟨(aCv N),trivial⟩ trivial trivial) (fun a=>by kernel_rfl)
def gY (N:Nat) (p0:Field) (p1:Int):Option (Int×Int×Int):=
 ((cE N) p0.points p1 ()).bind fun a0=>
 bif !a0.2 then
  some (-1,0,0)
 else
  (aK p0.points a0.1).bind fun a1=>
  some a1
def aCw (N:Nat):aU:=⟨aC.cons (aE.agg bF) (aC.one (aE.int .i64)),aE.agg (bJ.row bX),fun a=>(gY N) a.1 a.2,.pure,false⟩
theorem HW (N:Nat):aB tab 194 (aCw N):=aB.of aAI (cx:=(aM (aG N) [(124,(J9 N))] [] [] [])) rfl (aL.make ⟨(KA N),trivial⟩ trivial trivial) (fun a=>by kernel_rfl)
def qB (N:Nat) (p0:Int×Int×Int) (p1:Int×Int×Int) (p2:Int×Int):Option Int:=
 ((hP N) p0).bind fun n0=>
 ((hP N) p1).bind fun n1=>
 ((fA N) p2).bind fun n2=>
 bif (if n2>(if n1>n0 then n1 else n0) then n2 else if n1>n0 then n1 else n0) !=0 then
  some (if n2>(if n1>n0 then n1 else n0) then n2 else if n1>n0 then n1 else n0)
 else
  bif p0.1==p1.1 then
   some 2
  else
   some 0
def aCx (N:Nat):aU:=⟨aC.cons (aE.agg (bJ.row bX)) (aC.cons (aE.agg (bJ.row bX)) (aC.one (aE.agg (bJ.row fG)))),aE.int .i64,fun a=>(qB N) a.1 a.2.1 a.2.2,.pure,false⟩
theorem HX (N:Nat):aB tab 235 (aCx N):=aB.of aA4 (cx:=(aM (aG N) [(72,(c72 N)),(121,(J7 N))] [] [] [])) rfl (aL.make ⟨(HR N),(pX N),trivial⟩ trivial trivial) (fun a=>by kernel_rfl)
def EZ (N:Nat) (s:(Int×Int×Int×Int×Int×Int×Int×Int×Int)):Option (aW (Int×Int×Int×Int×Int×Int×Int×Int×Int) (Int×Int)):=
 bif decide (s.2.2.2.2.1<2) then
  bif s.2.2.2.2.1==0 then
   ((gJ N) (aA .u64 s.1) (aA .u64 s.2.1)).bind fun a0=>
   bif decide (s.1<0) then
    bif decide (s.2.1<0) then
     (mB s.2.2.2.2.2.2.2.2 a0.2 0).bind fun a1=>
     some (.next (s.1,s.2.1,s.2.2.1,s.2.2.2.1,aA .i64 (s.2.2.2.2.1+1),s.2.2.2.2.2.1,s.2.2.2.2.2.2.1,aA .i64 ((aA .i64 (s.2.2.2.2.2.2.2.1+(aA .i64 ((aA .i64 ((aA .i64 a0.1) -s.2.1)) -s.1))))+(aA .i64 a1.2)),a1.1))
    else
     (mB s.2.2.2.2.2.2.2.2 a0.2 0).bind fun a2=>
     some (.next (s.1,s.2.1,s.2.2.1,s.2.2.2.1,aA .i64 (s.2.2.2.2.1+1),s.2.2.2.2.2.1,s.2.2.2.2.2.2.1,aA .i64 ((aA .i64 (s.2.2.2.2.2.2.2.1+(aA .i64 ((aA .i64 a0.1) -s.2.1))))+(aA .i64 a2.2)),a2.1))
   else
    bif decide (s.2.1<0) then
     (mB s.2.2.2.2.2.2.2.2 a0.2 0).bind fun a3=>
     some (.next (s.1,s.2.1,s.2.2.1,s.2.2.2.1,aA .i64 (s.2.2.2.2.1+1),s.2.2.2.2.2.1,s.2.2.2.2.2.2.1,aA .i64 ((aA .i64 (s.2.2.2.2.2.2.2.1+(aA .i64 ((aA .i64 a0.1) -s.1))))+(aA .i64 a3.2)),a3.1))
    else
     (mB s.2.2.2.2.2.2.2.2 a0.2 0).bind fun a4=>
     some (.next (s.1,s.2.1,s.2.2.1,s.2.2.2.1,aA .i64 (s.2.2.2.2.1+1),s.2.2.2.2.2.1,s.2.2.2.2.2.2.1,aA .i64 ((aA .i64 (s.2.2.2.2.2.2.2.1+(aA .i64 a0.1)))+(aA .i64 a4.2)),a4.1))
  else
   bif s.2.2.2.2.1==1 then
    ((gJ N) (aA .u64 s.2.2.1) (aA .u64 s.2.2.2.1)).bind fun a5=>
    bif decide (s.2.2.1<0) then
     bif decide (s.2.2.2.1<0) then
      (mB s.2.2.2.2.2.2.2.2 a5.2 0).bind fun a6=>
      some (.next (s.1,s.2.1,s.2.2.1,s.2.2.2.1,aA .i64 (s.2.2.2.2.1+1),s.2.2.2.2.2.1,s.2.2.2.2.2.2.1,aA .i64 ((aA .i64 (s.2.2.2.2.2.2.2.1+(aA .i64 ((aA .i64 ((aA .i64 a5.1) -s.2.2.2.1)) -s.2.2.1))))+(aA .i64 a6.2)),a6.1))
     else
      (mB s.2.2.2.2.2.2.2.2 a5.2 0).bind fun a7=>
      some (.next (s.1,s.2.1,s.2.2.1,s.2.2.2.1,aA .i64 (s.2.2.2.2.1+1),s.2.2.2.2.2.1,s.2.2.2.2.2.2.1,aA .i64 ((aA .i64 (s.2.2.2.2.2.2.2.1+(aA .i64 ((aA .i64 a5.1) -s.2.2.2.1))))+(aA .i64 a7.2)),a7.1))
    else
     bif decide (s.2.2.2.1<0) then
      (mB s.2.2.2.2.2.2.2.2 a5.2 0).bind fun a8=>
      some (.next (s.1,s.2.1,s.2.2.1,s.2.2.2.1,aA .i64 (s.2.2.2.2.1+1),s.2.2.2.2.2.1,s.2.2.2.2.2.2.1,aA .i64 ((aA .i64 (s.2.2.2.2.2.2.2.1+(aA .i64 ((aA .i64 a5.1) -s.2.2.1))))+(aA .i64 a8.2)),a8.1))
     else
      (mB s.2.2.2.2.2.2.2.2 a5.2 0).bind fun a9=>
      some (.next (s.1,s.2.1,s.2.2.1,s.2.2.2.1,aA .i64 (s.2.2.2.2.1+1),s.2.2.2.2.2.1,s.2.2.2.2.2.2.1,aA .i64 ((aA .i64 (s.2.2.2.2.2.2.2.1+(aA .i64 a5.1)))+(aA .i64 a9.2)),a9.1))
   else
    none
 else
  some (.done s.2.2.2.2.2.2.2)
def DY (N:Nat) (p0:Int×Int×Int×Int):Option (Int×Int):=
 (aS N) (EZ N) (p0.1,p0.2.1,p0.2.2.1,p0.2.2.2,0,0,0,0,0)
def aJ3 (N:Nat):aU:=⟨aC.one (aE.agg (bJ.row aJp)),aE.agg (bJ.row kiu),fun a=>(DY N) a,.pure,false⟩
theorem aCy (N:Nat):aB tab 274 (aJ3 N):=aB.of aBq (cx:=(aM (aG N) [(151,(aCn N)),(296,aU.add64)] [] [] [])) rfl (aL.make ⟨(HU N),SW,trivial⟩ trivial trivial) (fun a=>by kernel_rfl)
def mK (N:Nat) (p0:Int×Int×Int) (p1:Int×Int×Int) (p2:Int×Int):Option Int:=
 ((DY N) (aA .i64 (p0.2.1-p1.2.1),p2.2,aA .i64 (p0.2.2-p1.2.2),p2.1)).bind fun a0=>
 bif !((a0.1==0)&&(a0.2==0)) then
  bif decide (a0.1<0) then
   some (-1)
  else
   some 1
 else
  ((jN N) p0.2.2 p1.2.2).bind fun n1=>
  ((dG N) p1.1 p0.1).bind fun n2=>
  ((wC N) [n1,n2]).bind fun n3=>
  some n3
def aIx (N:Nat):aU:=⟨aC.cons (aE.agg (bJ.row bX)) (aC.cons (aE.agg (bJ.row bX)) (aC.one (aE.agg (bJ.row fG)))),aE.int .i64,fun a=>(mK N) a.1 a.2.1 a.2.2,.pure,false⟩
theorem OH (N:Nat):aB tab 236 (aIx N):=aB.of aA5 (cx:=(aM (aG N) [(274,(aJ3 N)),(184,(aIv N)),(126,(J8 N)),(246,(aIw N))] [] [] [])) rfl (aL.make ⟨(aCy N),(OF N),(qA N),(OG N),trivial⟩ trivial trivial) (fun a=>by kernel_rfl)
def AU (_:Nat) (p0:Bool×Int×Int) (p1:Int) (p2:Int):Option ((Int×Int)×Int):=
 bif decide (0<p0.2.1) then
  some ((0,0),16)
 else
  bif decide (9223372036854775807<p0.2.2) then
   some ((0,0),16)
  else
   bif decide (0<p1) then
    some ((0,0),16)
   else
    bif decide (9223372036854775807<p2) then
     some ((0,0),16)
    else
     bif p0.1 then
      some ((aA .i64 (0- (aA .i64 p0.2.2)),aA .i64 p2),0)
     else
      some ((aA .i64 p0.2.2,aA .i64 p2),0)
def aJ4 (N:Nat):aU:=⟨aC.cons (aE.agg (bJ.row rX)) (aC.cons (aE.int .u64) (aC.one (aE.int .u64))),aE.tup (aC.cons (aE.agg (bJ.row fG)) (aC.one (aE.int .i64))),fun a=>(AU N) a.1 a.2.1 a.2.2,.pure,false⟩
theorem aCz (N:Nat):aB tab 301 (aJ4 N):=aB.of aBJ (cx:=(aM (aG N) [] [] [] [])) rfl (aL.make trivial trivial trivial) (fun a=>by kernel_rfl)
def DZ (N:Nat) (p0:Int) (p1:Int):Option ((Int×Int)×Int):=
 bif p1==0 then
  some ((0,0),26)
 else
  ((jD N) p0).bind fun n0=>
  ((jD N) p1).bind fun n1=>
  ((zP N) n0 n1).bind fun n2=>
  ((jD N) p0).bind fun n3=>
  bif n2==0 then
   none
  else
   ((jD N) p1).bind fun n4=>
   bif n2==0 then
    none
   else
    ((AU N) (!((decide (p0<0))==(decide (p1<0))),0,aA .u64 (ac n3 n2)) 0 (aA .u64 (ac n4 n2))).bind fun a5=>
    some a5
def aJ5 (N:Nat):aU:=⟨aC.cons (aE.int .i64) (aC.one (aE.int .i64)),aE.tup (aC.cons (aE.agg (bJ.row fG)) (aC.one (aE.int .i64))),fun a=>(DZ N) a.1 a.2,.pure,false⟩
theorem aCA (N:Nat):aB tab 283 (aJ5 N):=aB.of aBz (cx:=(aM (aG N) [(175,(aCf N)),(174,(aIt N)),(301,(aJ4 N))] [] [] [])) rfl (aL.make ⟨(HP N),(OD N),(aCz N),trivial⟩ trivial trivial) (fun a=>by kernel_rfl)
def AV (N:Nat) (p0:Int×Int×Int) (p1:Int×Int×Int):Option ((Int×Int)×Int):=
 ((qB N) p0 p1 (0,1)).bind fun n0=>
 bif n0 !=0 then
  some ((0,0),n0)
 else
  bif p0.2.2==p1.2.2 then
   some ((0,0),6)
  else
   ((DZ N) (aA .i64 (p0.2.1-p1.2.1)) (aA .i64 (p1.2.2-p0.2.2))).bind fun a1=>
   some a1
def aJ6 (N:Nat):aU:=⟨aC.cons (aE.agg (bJ.row bX)) (aC.one (aE.agg (bJ.row bX))),aE.tup (aC.cons (aE.agg (bJ.row fG)) (aC.one (aE.int .i64))),fun a=>(AV N) a.1 a.2,.pure,false⟩
theorem aCB (N:Nat):aB tab 247 (aJ6 N):=aB.of aBf (cx:=(aM (aG N) [(235,(aCx N)),(283,(aJ5 N))] [] [] [])) rfl (aL.make ⟨(HX N),(aCA N),trivial⟩ trivial trivial) (fun a=>by kernel_rfl)
def xZ (N:Nat) (p0:Int×Int×Int) (p1:Int×Int×Int) (p2:Int×Int):Option ((Int×Int)×Bool×Int):=
 ((qB N) p0 p1 p2).bind fun n0=>
 bif n0 !=0 then
  some ((0,0),false,n0)
 else
  ((mK N) p1 p0 p2).bind fun n1=>
  bif decide (0<n1) then
   some (p2,true,0)
  else
   bif decide (p1.2.2<=p0.2.2) then
    some ((0,0),false,0)
   else
    ((AV N) p0 p1).bind fun a2=>
    some (a2.1,a2.2==0,a2.2)
def aJ7 (N:Nat):aU:=⟨aC.cons (aE.agg (bJ.row bX)) (aC.cons (aE.agg (bJ.row bX)) (aC.one (aE.agg (bJ.row fG)))),aE.tup (aC.cons (aE.agg (bJ.row fG)) (aC.cons aE.bool (aC.one (aE.int .i64)))),fun a=>(xZ N) a.1 a.2.1 a.2.2,.pure,false⟩
theorem aCC (N:Nat):aB tab 193 (aJ7 N):=aB.of aAH (cx:=(aM (aG N) [(235,(aCx N)),(236,(aIx N)),(247,(aJ6 N))] [] [] [])) rfl (aL.make ⟨(HX N),(OH N),(aCB N),trivial⟩ trivial trivial) (fun a=>by kernel_rfl)
def qC (N:Nat) (p0:Field) (p1:Int×Int) (p2:Int×Int):Option ((Int×Int)×Bool×Int):=
 ((gY N) p0 p1.2).bind fun a0=>
 ((gY N) p0 p1.1).bind fun a1=>
 ((xZ N) a0 a1 p2).bind fun a2=>
 some a2
def aCD (N:Nat):aU:=⟨aC.cons (aE.agg bF) (aC.cons (aE.agg (bJ.row fG)) (aC.one (aE.agg (bJ.row fG)))),aE.tup (aC.cons (aE.agg (bJ.row fG)) (aC.cons aE.bool (aC.one (aE.int .i64)))),fun a=>(qC N) a.1 a.2.1 a.2.2,.pure,false⟩
theorem HY (N:Nat):aB tab 140 (aCD N):=aB.of Z7 (cx:=(aM (aG N) [(194,(aCw N)),(193,(aJ7 N))] [] [] [])) rfl (aL.make ⟨(HW N),(aCC N),trivial⟩ trivial trivial) (fun a=>by kernel_rfl)
def D0 (N:Nat) (s:((List (Int×Int×Int))×(List (Int×Int×Int))×Int×Int×Int×Int×(List (Int×Int×Int))×Int×(List (Int×Int×Int))×(List Int)×(List Bool)×(List Int)×(List (Int×Int×Int×Int×Int))×(List Int)×(List (Int×Int×Int)))):Option (aW ((List (Int×Int×Int))×(List (Int×Int×Int))×Int×Int×Int×Int×(List (Int×Int×Int))×Int×(List (Int×Int×Int))×(List Int)×(List Bool)×(List Int)×(List (Int×Int×Int×Int×Int))×(List Int)×(List (Int×Int×Int))) (aW (Int×Int×Int×Int×(List (Int×Int×Int))×Int×(List (Int×Int×Int))×(List Int)×(List Bool)×(List Int)×(List (Int×Int×Int×Int×Int))×(List Int)×(List (Int×Int×Int))×(List Int)) Int)):=
 bif decide (s.2.2.2.1<s.2.2.1) then
  (aK s.2.1 s.2.2.2.1).bind fun a0=>
  ((qC N) (Field.mk s.2.2.2.2.2.2.1) a0.2 (s.2.2.2.2.1,s.2.2.2.2.2.1)).bind fun a1=>
  bif a1.2.2 !=0 then
   some (.done (.done 8))
  else
   bif !a1.2.1 then
    some (.next (s.1,s.2.1,s.2.2.1,aA .i64 (s.2.2.2.1+1),s.2.2.2.2))
   else
    bif (aa s.1.length)==0 then
     some (.done (.done 8))
    else
     (aK s.1 0).bind fun a2=>
     bif a2.1 !=a0.1 then
      some (.done (.done 8))
     else
      (aK s.1 0).bind fun a3=>
      bif decide (a3.2.1<0) then
       some (.done (.done 8))
      else
       bif decide (200<=a3.2.1) then
        some (.done (.done 8))
       else
        (aK s.2.2.2.2.2.2.2.2.2.2.2.2.2.1 a3.2.1).bind fun n4=>
        bif decide (n4<0) then
         some (.done (.done 8))
        else
         (aK s.2.2.2.2.2.2.2.2.2.2.2.2.2.1 a3.2.1).bind fun n5=>
         (aK s.2.2.2.2.2.2.2.2.2.2.2.2.1 n5).bind fun a6=>
         bif !((a6.1==a1.1.1)&&((a6.2.1==a1.1.2)&&((a6.2.2.1==a0.1)&&((a6.2.2.2.1==a3.2.1)&&(a6.2.2.2.2==a3.2.2))))) then
          some (.done (.done 8))
         else
          (fF s.1 1 (aa s.1.length)).bind fun l7=>
          some (.next (l7,s.2.1,s.2.2.1,aA .i64 (s.2.2.2.1+1),s.2.2.2.2))
 else
  bif decide (0<(aa s.1.length)) then
   some (.done (.done 8))
  else
   some (.done (.done 0))
def D1 (N:Nat) (s:(Int×Int×Int×Int×(List (Int×Int×Int))×Int×(List (Int×Int×Int))×(List Int)×(List Bool)×(List Int)×(List (Int×Int×Int×Int×Int))×(List Int)×(List (Int×Int×Int))×(List Int))):Option (aW (Int×Int×Int×Int×(List (Int×Int×Int))×Int×(List (Int×Int×Int))×(List Int)×(List Bool)×(List Int)×(List (Int×Int×Int×Int×Int))×(List Int)×(List (Int×Int×Int))×(List Int)) Int):=
 bif decide (s.2.1<s.1) then
  (aK s.2.2.2.2.2.2.2.2.2.2.2.2.2 s.2.1).bind fun n0=>
  bif n0 !=0 then
   some (.done 8)
  else
   some (.next (s.1,aA .i64 (s.2.1+1),s.2.2))
 else
  bif (aa s.2.2.2.2.2.2.2.2.2.2.2.1.length) !=200 then
   some (.done 8)
  else
   bif (aa s.2.2.2.2.2.2.2.2.2.2.1.length) !=(aa s.2.2.2.2.2.2.2.2.2.2.2.2.1.length) then
    some (.done 8)
   else
    (aS N) (D0 N) (s.2.2.2.2.2.2.2.2.2.2.2.2.1,s.2.2.2.2.2.2.1,aa s.2.2.2.2.2.2.1.length,0,s.2.2.1,s.2.2.2.1,s.2.2.2.2.1,s.2.2.2.2.2.1,s.2.2.2.2.2.2.1,s.2.2.2.2.2.2.2.1,s.2.2.2.2.2.2.2.2.1,s.2.2.2.2.2.2.2.2.2.1,s.2.2.2.2.2.2.2.2.2.2.1,s.2.2.2.2.2.2.2.2.2.2.2.1,s.2.2.2.2.2.2.2.2.2.2.2.2.1)
def jE (N:Nat) (p0:aJ):Option Int:=
 ((fA N) p0.now).bind fun n0=>
 ((gC N) p0.field).bind fun n1=>
 ((pY N) p0.certs).bind fun n2=>
 ((jO N) p0.agenda).bind fun n3=>
 (aS N) (D1 N) (aa ([n0,n1,n2,n3].length),0,p0.now.1,p0.now.2,p0.field.points,p0.certs.next_,p0.certs.list,p0.agenda.slots.uses,p0.agenda.slots.used,p0.agenda.slots.free,p0.agenda.heap,p0.agenda.where_,p0.due,[n0,n1,n2,n3])
def c86 (N:Nat):aU:=⟨aC.one (aE.agg bE),aE.int .i64,fun a=>(jE N) a,.pure,false⟩
theorem D2 (N:Nat):aB tab 86 (c86 N):=aB.of aHU (cx:=(aM (aG N) [(121,(J7 N)),(71,(c71 N)),(138,(aCh N)),(139,(S6 N)),(140,(aCD N))] [] [] [])) rfl (aL.make ⟨(pX N),(wA N),(HS N),(BM N),(HY N),trivial⟩ trivial trivial) (fun a=>by kernel_rfl)
def qU (_:Nat) (p0:Int):Option Bool:=
 bif decide ((-1)<=p0) then
  some (decide (p0<=65535))
 else
  some false
def aJ8 (N:Nat):aU:=⟨aC.one (aE.int .i64),aE.bool,fun a=>(qU N) a,.pure,false⟩
theorem aCE (N:Nat):aB tab 143 (aJ8 N):=aB.of Z8 (cx:=(aM (aG N) [] [] [] [])) rfl (aL.make trivial trivial trivial) (fun a=>by kernel_rfl)
def fB (_:Nat) (p0:aR) (p1:Int):Option Int:=
 bif decide (0<=(aA .i64 (p1- (aa p0.wins.length)))) then
  (aK p0.places (aA .i64 (p1- (aa p0.wins.length)))).bind fun n0=>
  some n0
 else
  (aK p0.wins p1).bind fun n1=>
  some n1
def aCF (N:Nat):aU:=⟨aC.cons (aE.agg cL) (aC.one (aE.int .i64)),aE.int .i64,fun a=>(fB N) a.1 a.2,.pure,false⟩
theorem HZ (N:Nat):aB tab 120 (aCF N):=aB.of ZW (cx:=(aM (aG N) [] [] [] [])) rfl (aL.make trivial trivial trivial) (fun a=>by kernel_rfl)
def oS (N:Nat) (s:((List Int)×Int×Int×(List Int)×(List Int))):Option (aW ((List Int)×Int×Int×(List Int)×(List Int)) (aW ((List Int)×Int×Int×(List Int)×(List Int)×(List (Int×Bool))) (aW ((List Int)×Int×Int×(List Int)×(List Int)×(List (Int×Bool))) Int))):=
 bif decide (s.2.2.1<s.2.1) then
  (aK s.1 s.2.2.1).bind fun n0=>
  ((fB N) (aR.mk s.2.2.2.1 s.2.2.2.2) (aA .i64 ((aA .i64 (2*s.2.2.1))+1))).bind fun n1=>
  ((fB N) (aR.mk s.2.2.2.1 s.2.2.2.2) (aA .i64 ((aA .i64 (2*s.2.2.1))+2))).bind fun n2=>
  bif n0 !=n1 then
   bif n0 !=n2 then
    some (.done (.done (.done 8)))
   else
    bif decide (n0<0) then
     bif decide (0<=(if n2>n1 then n2 else n1)) then
      some (.done (.done (.done 8)))
     else
      some (.next (s.1,s.2.1,aA .i64 (s.2.2.1+1),s.2.2.2))
    else
     some (.next (s.1,s.2.1,aA .i64 (s.2.2.1+1),s.2.2.2))
  else
   bif decide (n0<0) then
    bif decide (0<=(if n2>n1 then n2 else n1)) then
     some (.done (.done (.done 8)))
    else
     some (.next (s.1,s.2.1,aA .i64 (s.2.2.1+1),s.2.2.2))
   else
    some (.next (s.1,s.2.1,aA .i64 (s.2.2.1+1),s.2.2.2))
 else
  some (.done (.done (.done 0)))
def oT (N:Nat) (s:((List Int)×Int×Int×(List Int)×(List Int)×(List (Int×Bool)))):Option (aW ((List Int)×Int×Int×(List Int)×(List Int)×(List (Int×Bool))) (aW ((List Int)×Int×Int×(List Int)×(List Int)×(List (Int×Bool))) Int)):=
 bif decide (s.2.2.1<s.2.1) then
  (aK s.1 s.2.2.1).bind fun n0=>
  ((qU N) n0).bind fun b1=>
  bif !b1 then
   bif !(!(decide (0<=s.2.2.1))) then
    some (.done (.done 8))
   else
    (aS N) (oS N) (s.2.2.2.2.1,aa s.2.2.2.2.1.length,0,s.2.2.2.1,s.2.2.2.2.1)
  else
   some (.next (s.1,s.2.1,aA .i64 (s.2.2.1+1),s.2.2.2))
 else
  (aS N) (oS N) (s.2.2.2.2.1,aa s.2.2.2.2.1.length,0,s.2.2.2.1,s.2.2.2.2.1)
def zQ (N:Nat) (s:((List Int)×Int×Int×(List Int)×(List Int)×(List (Int×Bool)))):Option (aW ((List Int)×Int×Int×(List Int)×(List Int)×(List (Int×Bool))) Int):=
 bif decide (s.2.2.1<s.2.1) then
  (aK s.1 s.2.2.1).bind fun n0=>
  bif !(!(uA false s.2.2.2.2.2 n0)) then
   bif !(!(decide (0<=s.2.2.1))) then
    some (.done 8)
   else
    (aS N) (oT N) (s.2.2.2.1,aa s.2.2.2.1.length,0,s.2.2.2.1,s.2.2.2.2.1,oJ s.2.2.2.2.2 n0 (decide (0<=n0)))
  else
   some (.next (s.1,s.2.1,aA .i64 (s.2.2.1+1),s.2.2.2.1,s.2.2.2.2.1,oJ s.2.2.2.2.2 n0 (decide (0<=n0))))
 else
  (aS N) (oT N) (s.2.2.2.1,aa s.2.2.2.1.length,0,s.2.2.2)
def nT (N:Nat) (p0:aR):Option Int:=
 bif decide ((aa p0.places.length)<1) then
  some 8
 else
  bif decide (64<(aa p0.places.length)) then
   some 8
  else
   bif (aa p0.wins.length) !=(aA .i64 ((aa p0.places.length) -1)) then
    some 8
   else
    (aS N) (zQ N) (p0.places,aa p0.places.length,0,p0.places,p0.wins,oJ [] (-1) false)
def c87 (N:Nat):aU:=⟨aC.one (aE.agg cL),aE.int .i64,fun a=>(nT N) a,.pure,false⟩
theorem S7 (N:Nat):aB tab 87 (c87 N):=aB.of aHV (cx:=(aM (aG N) [(143,(aJ8 N)),(120,(aCF N))] [] [(141,SD),(142,PW),(196,MC),(95,UT),(197,PX),(195,SF)] [])) rfl (aL.make ⟨(aCE N),(HZ N),trivial⟩ trivial ⟨NM,HD,BJ,zI,HF,NR,trivial⟩) (fun a=>by kernel_rfl)
def sJ (_:Nat) (p0:Int) (p1:Int×Int×Int):Option Bool:=
 some (p0==p1.1)
def c91 (N:Nat):aU:=⟨aC.cons (aE.int .i64) (aC.one (aE.agg (bJ.row bX))),aE.bool,fun a=>(sJ N) a.1 a.2,.pure,false⟩
theorem aIy (N:Nat):aB tab 91 (c91 N):=aB.of aHZ (cx:=(aM (aG N) [] [] [] [])) rfl (aL.make trivial trivial trivial) (fun a=>by kernel_rfl)
def fM (N:Nat) (s:((List (Int×Int×Int))×(List Int)×Int×Int)):Option (aW ((List (Int×Int×Int))×(List Int)×Int×Int) Bool):=
 bif decide (s.2.2.2<s.2.2.1) then
  (aK s.2.1 s.2.2.2).bind fun n0=>
  (aK s.1 s.2.2.2).bind fun a1=>
  ((sJ N) n0 a1).bind fun b2=>
  bif !b2 then
   some (.done false)
  else
   some (.next (s.1,s.2.1,s.2.2.1,aA .i64 (s.2.2.2+1)))
 else
  some (.done true)
def dE (N:Nat) (p0:List Int) (p1:List (Int×Int×Int)) (_:Unit):Option Bool:=
 bif (aa p0.length) !=(aa p1.length) then
  some false
 else
  (aS N) (fM N) (p1,p0,aa p0.length,0)
def S8 (N:Nat):aU:=⟨aC.cons (aE.sl ki) (aC.cons (aE.sl bX) (aC.one (aE.clo 91 aC.nil))),aE.bool,fun a=>(dE N) a.1 a.2.1 a.2.2,.pure,false⟩
theorem P6 (N:Nat):aB tab 90 (S8 N):=aB.of aHY (cx:=(aM (aG N) [(91,(c91 N))] [] [] [])) rfl (aL.make ⟨(aIy N),trivial⟩ trivial trivial) (fun a=>by kernel_rfl)
def uQ (N:Nat) (p0:Field) (p1:Int×Int):Option Int:=
 ((gC N) p0).bind fun n0=>
 bif n0 !=0 then
  some n0
 else
  ((fA N) p1).bind fun n1=>
  some n1
def aJ9 (N:Nat):aU:=⟨aC.cons (aE.agg bF) (aC.one (aE.agg (bJ.row fG))),aE.int .i64,fun a=>(uQ N) a.1 a.2,.pure,false⟩
theorem aCG (N:Nat):aB tab 152 (aJ9 N):=aB.of aAc (cx:=(aM (aG N) [(71,(c71 N)),(121,(J7 N))] [] [] [])) rfl (aL.make ⟨(wA N),(pX N),trivial⟩ trivial trivial) (fun a=>by kernel_rfl)
def mL (N:Nat) (p0:Int×Int×Int) (p1:Int):Option Int:=
 ((dG N) p0.1 p1).bind fun n0=>
 some n0
def aKa (N:Nat):aU:=⟨aC.cons (aE.agg (bJ.row bX)) (aC.one (aE.int .i64)),aE.int .i64,fun a=>(mL N) a.1 a.2,.pure,false⟩
theorem aCH (N:Nat):aB tab 254 (aKa N):=aB.of aBh (cx:=(aM (aG N) [(126,(J8 N))] [] [] [])) rfl (aL.make ⟨(qA N),trivial⟩ trivial trivial) (fun a=>by kernel_rfl)
def eI (N:Nat) (s:((List (Int×Int×Int))×Int×Int×Int×Int)):Option (aW ((List (Int×Int×Int))×Int×Int×Int×Int) (Int×Bool)):=
 bif decide (s.2.2.2.1<s.2.2.2.2) then
  (aK s.1 (aA .i64 (kW .u64 (aA .u64 (aA .i64 (s.2.2.2.1+s.2.2.2.2))) 1))).bind fun a0=>
  ((mL N) a0 s.2.1).bind fun n1=>
  bif decide (n1<0) then
   some (.next (s.1,s.2.1,s.2.2.1,aA .i64 ((aA .i64 (kW .u64 (aA .u64 (aA .i64 (s.2.2.2.1+s.2.2.2.2))) 1))+1),s.2.2.2.2))
  else
   some (.next (s.1,s.2.1,s.2.2.1,s.2.2.2.1,aA .i64 (kW .u64 (aA .u64 (aA .i64 (s.2.2.2.1+s.2.2.2.2))) 1)))
 else
  bif decide (s.2.2.2.1<s.2.2.1) then
   (aK s.1 s.2.2.2.1).bind fun a2=>
   ((mL N) a2 s.2.1).bind fun n3=>
   some (.done (s.2.2.2.1,n3==0))
  else
   some (.done (s.2.2.2.1,false))
def cA (N:Nat) (p0:List (Int×Int×Int)) (p1:Int) (_:Unit):Option (Int×Bool):=
 (aS N) (eI N) (p0,p1,aa p0.length,0,aa p0.length)
def KB (N:Nat):aU:=⟨aC.cons (aE.sl bX) (aC.cons (aE.int .i64) (aC.one (aE.clo 254 aC.nil))),aE.tup (aC.cons (aE.int .i64) (aC.one aE.bool)),fun a=>(cA N) a.1 a.2.1 a.2.2,.pure,false⟩
theorem KC (N:Nat):aB tab 124 (KB N):=aB.of HC (cx:=(aM (aG N) [(254,(aKa N))] [] [] [])) rfl (aL.make ⟨(aCH N),trivial⟩ trivial trivial) (fun a=>by kernel_rfl)
def lT (N:Nat) (p0:Field) (p1:Int):Option (Int×Bool):=
 ((cA N) p0.points p1 ()).bind fun a0=>
 some a0
def aIz (N:Nat):aU:=⟨aC.cons (aE.agg bF) (aC.one (aE.int .i64)),aE.tup (aC.cons (aE.int .i64) (aC.one aE.bool)),fun a=>(lT N) a.1 a.2,.pure,false⟩
theorem OI (N:Nat):aB tab 212 (aIz N):=aB.of aAL (cx:=(aM (aG N) [(124,(KB N))] [] [] [])) rfl (aL.make ⟨(KC N),trivial⟩ trivial trivial) (fun a=>by kernel_rfl)
def zR (N:Nat) (s:((List Int)×Int×Int×(List (Int×Int×Int)))):Option (aW ((List Int)×Int×Int×(List (Int×Int×Int))) Bool):=
 bif decide (s.2.2.1<s.2.1) then
  (aK s.1 s.2.2.1).bind fun n0=>
  ((lT N) (Field.mk s.2.2.2) n0).bind fun a1=>
  bif a1.2 then
   some (.next (s.1,s.2.1,aA .i64 (s.2.2.1+1),s.2.2.2))
  else
   bif !(n0==(-1)) then
    some (.done (!(decide (0<=s.2.2.1))))
   else
    some (.next (s.1,s.2.1,aA .i64 (s.2.2.1+1),s.2.2.2))
 else
  some (.done (!(decide (0<=(-1)))))
def uR (N:Nat) (p0:Field) (p1:List Int):Option Bool:=
 (aS N) (zR N) (p1,aa p1.length,0,p0.points)
def aKb (N:Nat):aU:=⟨aC.cons (aE.agg bF) (aC.one (aE.sl ki)),aE.bool,fun a=>(uR N) a.1 a.2,.pure,false⟩
theorem aCI (N:Nat):aB tab 153 (aKb N):=aB.of aAd (cx:=(aM (aG N) [(212,(aIz N))] [] [(142,PW),(196,MC),(95,UT),(197,PX),(211,W6)] [])) rfl (aL.make ⟨(OI N),trivial⟩ trivial ⟨HD,BJ,zI,HF,aAK,trivial⟩) (fun a=>by kernel_rfl)
def yA (N:Nat) (p0:Int×Int×Int) (p1:Int×Int×Int) (p2:Int×Int):Option (Bool×Int):=
 ((qB N) p0 p1 p2).bind fun n0=>
 bif n0 !=0 then
  some (false,n0)
 else
  ((mK N) p0 p1 p2).bind fun n1=>
  some (decide (0<n1),0)
def aKc (N:Nat):aU:=⟨aC.cons (aE.agg (bJ.row bX)) (aC.cons (aE.agg (bJ.row bX)) (aC.one (aE.agg (bJ.row fG)))),aE.tup (aC.cons aE.bool (aC.one (aE.int .i64))),fun a=>(yA N) a.1 a.2.1 a.2.2,.pure,false⟩
theorem aCJ (N:Nat):aB tab 181 (aKc N):=aB.of aAx (cx:=(aM (aG N) [(235,(aCx N)),(236,(aIx N))] [] [] [])) rfl (aL.make ⟨(HX N),(OH N),trivial⟩ trivial trivial) (fun a=>by kernel_rfl)
def sK (N:Nat) (p0:Field) (p1:Int×Int) (p2:Int) (p3:Int):Option Int:=
 bif decide ((if p3<p2 then p3 else p2)<0) then
  some (if p3>p2 then p3 else p2)
 else
  ((lT N) p0 p2).bind fun a0=>
  ((lT N) p0 p3).bind fun a1=>
  (aK p0.points a0.1).bind fun a2=>
  (aK p0.points a1.1).bind fun a3=>
  ((yA N) a2 a3 p1).bind fun a4=>
  bif a4.1 then
   some p2
  else
   some p3
def aKd (N:Nat):aU:=⟨aC.cons (aE.agg bF) (aC.cons (aE.agg (bJ.row fG)) (aC.cons (aE.int .i64) (aC.one (aE.int .i64)))),aE.int .i64,fun a=>(sK N) a.1 a.2.1 a.2.2.1 a.2.2.2,.pure,false⟩
theorem aCK (N:Nat):aB tab 154 (aKd N):=aB.of aAe (cx:=(aM (aG N) [(212,(aIz N)),(181,(aKc N))] [] [] [])) rfl (aL.make ⟨(OI N),(aCJ N),trivial⟩ trivial trivial) (fun a=>by kernel_rfl)
def zS (N:Nat) (s:(Int×(List (Int×Int×Int))×Int×Int×(List Int)×(List Int))):Option (aW (Int×(List (Int×Int×Int))×Int×Int×(List Int)×(List Int)) (aR×Int)):=
 bif decide (0<=s.1) then
  ((fB N) (aR.mk s.2.2.2.2.1 s.2.2.2.2.2) (aA .i64 ((aA .i64 (2*s.1))+1))).bind fun n0=>
  ((fB N) (aR.mk s.2.2.2.2.1 s.2.2.2.2.2) (aA .i64 ((aA .i64 (2*s.1))+2))).bind fun n1=>
  ((sK N) (Field.mk s.2.1) (s.2.2.1,s.2.2.2.1) n0 n1).bind fun n2=>
  (aK s.2.2.2.2.2 s.1).bind fun _=>
  some (.next (aA .i64 (s.1-1),s.2.1,s.2.2.1,s.2.2.2.1,s.2.2.2.2.1,bO s.2.2.2.2.2 s.1 n2))
 else
  some (.done (aR.mk s.2.2.2.2.1 s.2.2.2.2.2,0))
def oU (N:Nat) (s:(Int×(List (Int×Int×Int))×Int×Int×(List Int)×(List Int))):Option (aW (Int×(List (Int×Int×Int))×Int×Int×(List Int)×(List Int)) (aW ((List Int)×Int×Int×(List (Int×Int×Int))×Int×Int×(List (Int×Bool))) (aR×Int))):=
 bif decide (0<=s.1) then
  ((fB N) (aR.mk s.2.2.2.2.1 s.2.2.2.2.2) (aA .i64 ((aA .i64 (2*s.1))+1))).bind fun n0=>
  ((fB N) (aR.mk s.2.2.2.2.1 s.2.2.2.2.2) (aA .i64 ((aA .i64 (2*s.1))+2))).bind fun n1=>
  ((sK N) (Field.mk s.2.1) (s.2.2.1,s.2.2.2.1) n0 n1).bind fun n2=>
  (aK s.2.2.2.2.2 s.1).bind fun _=>
  some (.next (aA .i64 (s.1-1),s.2.1,s.2.2.1,s.2.2.2.1,s.2.2.2.2.1,bO s.2.2.2.2.2 s.1 n2))
 else
  some (.done (.done (aR.mk s.2.2.2.2.1 s.2.2.2.2.2,0)))
def zT (N:Nat) (c0:Int) (c1:(List Int)) (s:((List Int)×Int×Int×(List (Int×Int×Int))×Int×Int×(List (Int×Bool)))):Option (aW ((List Int)×Int×Int×(List (Int×Int×Int))×Int×Int×(List (Int×Bool))) (aR×Int)):=
 bif decide (s.2.2.1<s.2.1) then
  (aK s.1 s.2.2.1).bind fun n0=>
  bif !(!(uA false s.2.2.2.2.2.2 n0)) then
   bif !(!(decide (0<=s.2.2.1))) then
    some (.done (aR.mk [] [],14))
   else
    bif c0 !=0 then
     some (.done (aR.mk [] [],c0))
    else
     (aZ c1).bind fun l1=>
     bif (aA .i64 ((aa c1.length) -1))==(aA .i64 ((aa c1.length) -1)) then
      (wX (aA .i64 ((aa c1.length) -1)) (0:Int)).bind fun l2=>
      (aS N) (oU N) (aA .i64 ((aa l2.length) -1),s.2.2.2.1,s.2.2.2.2.1,s.2.2.2.2.2.1,l1,l2)
     else
      none
  else
   some (.next (s.1,s.2.1,aA .i64 (s.2.2.1+1),s.2.2.2.1,s.2.2.2.2.1,s.2.2.2.2.2.1,oJ s.2.2.2.2.2.2 n0 (decide (0<=n0))))
 else
  bif c0 !=0 then
   some (.done (aR.mk [] [],c0))
  else
   (aZ c1).bind fun l3=>
   bif (aA .i64 ((aa c1.length) -1))==(aA .i64 ((aa c1.length) -1)) then
    (wX (aA .i64 ((aa c1.length) -1)) (0:Int)).bind fun l4=>
    (aS N) (oU N) (aA .i64 ((aa l4.length) -1),s.2.2.2.1,s.2.2.2.2.1,s.2.2.2.2.2.1,l3,l4)
   else
    none
def nU (N:Nat) (p0:Field) (p1:Int×Int) (p2:List Int):Option (aR×Int):=
 ((uQ N) p0 p1).bind fun n0=>
 bif n0 !=0 then
  bif n0 !=0 then
   some (aR.mk [] [],n0)
  else
   (aZ p2).bind fun l1=>
   bif (aA .i64 ((aa p2.length) -1))==(aA .i64 ((aa p2.length) -1)) then
    (wX (aA .i64 ((aa p2.length) -1)) (0:Int)).bind fun l2=>
    (aS N) (zS N) (aA .i64 ((aa l2.length) -1),p0.points,p1.1,p1.2,l1,l2)
   else
    none
 else
  bif decide ((aa p2.length)<1) then
   some (aR.mk [] [],2)
  else
   bif decide (64<(aa p2.length)) then
    some (aR.mk [] [],2)
   else
    ((uR N) p0 p2).bind fun b3=>
    bif !b3 then
     some (aR.mk [] [],6)
    else
     (aS N) ((zT N) n0 p2) (p2,aa p2.length,0,p0.points,p1.1,p1.2,oJ [] (-1) false)
def c97 (N:Nat):aU:=⟨aC.cons (aE.agg bF) (aC.cons (aE.agg (bJ.row fG)) (aC.one (aE.sl ki))),aE.tup (aC.cons (aE.agg cL) (aC.one (aE.int .i64))),fun a=>(nU N) a.1 a.2.1 a.2.2,.frz,false⟩
theorem S9 (N:Nat):aB tab 97 (c97 N):=aB.of aH4 (cx:=(aM (aG N) [(152,(aJ9 N)),(153,(aKb N)),(40,aU.clone ki),(120,(aCF N)),(154,(aKd N))] [] [(141,SD),(142,PW),(196,MC),(95,UT),(197,PX),(195,SF)] [])) rfl (aL.make ⟨(aCG N),(aCI N),hO,(HZ N),(aCK N),trivial⟩ trivial ⟨NM,HD,BJ,zI,HF,NR,trivial⟩) (fun a=>by kernel_rfl)
def E0 (_:Nat) (p0:Int) (p1:aR):Option Int:=
 bif decide (p0<(aa p1.wins.length)) then
  (aK p1.wins p0).bind fun n0=>
  some n0
 else
  (aK p1.places (aA .i64 (p0- (aa p1.wins.length)))).bind fun n1=>
  some n1
def aKe (N:Nat):aU:=⟨aC.cons (aE.int .i64) (aC.one (aE.ref cL)),aE.int .i64,fun a=>(E0 N) a.1 a.2,.pure,false⟩
theorem aCL (N:Nat):aB tab 146 (aKe N):=aB.of NN (cx:=(aM (aG N) [] [] [] [])) rfl (aL.make trivial trivial trivial) (fun a=>by kernel_rfl)
def D3 (_:Nat) (s:((List Int)×Int×Int×(List Int)×(List Int)×(List (Int×Int)))):Option (aW ((List Int)×Int×Int×(List Int)×(List Int)×(List (Int×Int))) (aR×(List (Int×Int)))):=
 bif decide (s.2.2.1<s.2.1) then
  (aK s.1 s.2.2.1).bind fun n0=>
  bif decide ((aA .i64 ((aA .i64 (2*s.2.2.1))+1))<(aa s.2.2.2.2.1.length)) then
   (aK s.2.2.2.2.1 (aA .i64 ((aA .i64 (2*s.2.2.1))+1))).bind fun n1=>
   bif s.2.2.2.2.2.length==s.2.2.2.2.2.length then
    bif decide ((aA .i64 ((aA .i64 (2*s.2.2.1))+2))<(aa s.2.2.2.2.1.length)) then
     (aK s.2.2.2.2.1 (aA .i64 ((aA .i64 (2*s.2.2.1))+2))).bind fun n2=>
     bif s.2.2.2.2.2.length==s.2.2.2.2.2.length then
      bif decide (0<=n1) then
       bif decide (0<=n2) then
        (bD s.2.2.2.2.2 [(aA .i64 ((aA .i64 (n1+n2)) -n0),n0)]).bind fun l3=>
        some (.next (s.1,s.2.1,aA .i64 (s.2.2.1+1),s.2.2.2.1,s.2.2.2.2.1,l3))
       else
        some (.next (s.1,s.2.1,aA .i64 (s.2.2.1+1),s.2.2.2))
      else
       some (.next (s.1,s.2.1,aA .i64 (s.2.2.1+1),s.2.2.2))
     else
      none
    else
     (aK s.2.2.2.1 (aA .i64 ((aA .i64 ((aA .i64 (2*s.2.2.1))+2)) - (aa s.2.2.2.2.1.length)))).bind fun n4=>
     bif s.2.2.2.2.2.length==s.2.2.2.2.2.length then
      bif decide (0<=n1) then
       bif decide (0<=n4) then
        (bD s.2.2.2.2.2 [(aA .i64 ((aA .i64 (n1+n4)) -n0),n0)]).bind fun l5=>
        some (.next (s.1,s.2.1,aA .i64 (s.2.2.1+1),s.2.2.2.1,s.2.2.2.2.1,l5))
       else
        some (.next (s.1,s.2.1,aA .i64 (s.2.2.1+1),s.2.2.2))
      else
       some (.next (s.1,s.2.1,aA .i64 (s.2.2.1+1),s.2.2.2))
     else
      none
   else
    none
  else
   (aK s.2.2.2.1 (aA .i64 ((aA .i64 ((aA .i64 (2*s.2.2.1))+1)) - (aa s.2.2.2.2.1.length)))).bind fun n6=>
   bif s.2.2.2.2.2.length==s.2.2.2.2.2.length then
    bif decide ((aA .i64 ((aA .i64 (2*s.2.2.1))+2))<(aa s.2.2.2.2.1.length)) then
     (aK s.2.2.2.2.1 (aA .i64 ((aA .i64 (2*s.2.2.1))+2))).bind fun n7=>
     bif s.2.2.2.2.2.length==s.2.2.2.2.2.length then
      bif decide (0<=n6) then
       bif decide (0<=n7) then
        (bD s.2.2.2.2.2 [(aA .i64 ((aA .i64 (n6+n7)) -n0),n0)]).bind fun l8=>
        some (.next (s.1,s.2.1,aA .i64 (s.2.2.1+1),s.2.2.2.1,s.2.2.2.2.1,l8))
       else
        some (.next (s.1,s.2.1,aA .i64 (s.2.2.1+1),s.2.2.2))
      else
       some (.next (s.1,s.2.1,aA .i64 (s.2.2.1+1),s.2.2.2))
     else
      none
    else
     (aK s.2.2.2.1 (aA .i64 ((aA .i64 ((aA .i64 (2*s.2.2.1))+2)) - (aa s.2.2.2.2.1.length)))).bind fun n9=>
     bif s.2.2.2.2.2.length==s.2.2.2.2.2.length then
      bif decide (0<=n6) then
       bif decide (0<=n9) then
        (bD s.2.2.2.2.2 [(aA .i64 ((aA .i64 (n6+n9)) -n0),n0)]).bind fun l10=>
        some (.next (s.1,s.2.1,aA .i64 (s.2.2.1+1),s.2.2.2.1,s.2.2.2.2.1,l10))
       else
        some (.next (s.1,s.2.1,aA .i64 (s.2.2.1+1),s.2.2.2))
      else
       some (.next (s.1,s.2.1,aA .i64 (s.2.2.1+1),s.2.2.2))
     else
      none
   else
    none
 else
  some (.done (aR.mk s.2.2.2.1 s.2.2.2.2.1,s.2.2.2.2.2))
def AW (N:Nat) (p0:Field) (p1:Int×Int) (p2:List Int):Option (aR×(List (Int×Int))):=
 ((nU N) p0 p1 p2).bind fun a0=>
 (aS N) (D3 N) (a0.1.wins,aa a0.1.wins.length,0,a0.1.places,a0.1.wins,[])
def c92 (N:Nat):aU:=⟨aC.cons (aE.agg bF) (aC.cons (aE.agg (bJ.row fG)) (aC.one (aE.sl ki))),aE.tup (aC.cons (aE.agg cL) (aC.one (aE.sl fG))),fun a=>(AW N) a.1 a.2.1 a.2.2,.frz,false⟩
theorem aIA (N:Nat):aB tab 92 (c92 N):=aB.of aH0 (cx:=(aM (aG N) [(97,(c97 N)),(146,(aKe N))] [] [(146,VP)] [])) rfl (aL.make ⟨(S9 N),(aCL N),trivial⟩ trivial ⟨NN,trivial⟩) (fun a=>by kernel_rfl)
def tN (_:Nat) (s:((List Int)×(List Int)×Int×Int)):Option (aW ((List Int)×(List Int)×Int×Int) Bool):=
 bif decide (s.2.2.2<s.2.2.1) then
  (aK s.1 s.2.2.2).bind fun n0=>
  (aK s.2.1 s.2.2.2).bind fun n1=>
  bif n0 !=n1 then
   some (.done false)
  else
   some (.next (s.1,s.2.1,s.2.2.1,aA .i64 (s.2.2.2+1)))
 else
  some (.done true)
def oV (N:Nat) (p0:List Int) (p1:List Int):Option Bool:=
 bif (aa p0.length) !=(aa p1.length) then
  some false
 else
  (aS N) (tN N) (p0,p1,aa p0.length,0)
def c93 (N:Nat):aU:=⟨aC.cons (aE.sl ki) (aC.one (aE.sl ki)),aE.bool,fun a=>(oV N) a.1 a.2,.pure,false⟩
theorem aIB (N:Nat):aB tab 93 (c93 N):=aB.of aH1 (cx:=(aM (aG N) [] [] [] [])) rfl (aL.make trivial trivial trivial) (fun a=>by kernel_rfl)
def sL (_:Nat) (s:((List (Int×Int))×Int×Int×Int×Int)):Option (aW ((List (Int×Int))×Int×Int×Int×Int) Int):=
 bif decide (s.2.2.1<s.2.1) then
  (aK s.1 s.2.2.1).bind fun a0=>
  bif (s.2.2.2.1==a0.1)&&(s.2.2.2.2==a0.2) then
   some (.done s.2.2.1)
  else
   some (.next (s.1,s.2.1,aA .i64 (s.2.2.1+1),s.2.2.2))
 else
  some (.done (-1))
def nH (N:Nat) (p0:List (Int×Int)) (p1:Int×Int):Option Int:=
 (aS N) (sL N) (p0,aa p0.length,0,p1)
def aKf (N:Nat):aU:=⟨aC.cons (aE.sl fG) (aC.one (aE.agg (bJ.row fG))),aE.int .i64,fun a=>(nH N) a.1 a.2,.pure,false⟩
theorem aCM (N:Nat):aB tab 209 (aKf N):=aB.of aAJ (cx:=(aM (aG N) [] [] [] [])) rfl (aL.make trivial trivial trivial) (fun a=>by kernel_rfl)
def fC (N:Nat) (p0:List (Int×Int)) (p1:Int×Int):Option Bool:=
 ((nH N) p0 p1).bind fun n0=>
 some (decide (0<=n0))
def TA (N:Nat):aU:=⟨aC.cons (aE.sl fG) (aC.one (aE.agg (bJ.row fG))),aE.bool,fun a=>(fC N) a.1 a.2,.pure,false⟩
theorem BN (N:Nat):aB tab 148 (TA N):=aB.of Z9 (cx:=(aM (aG N) [(209,(aKf N))] [] [] [])) rfl (aL.make ⟨(aCM N),trivial⟩ trivial trivial) (fun a=>by kernel_rfl)
def uT (N:Nat) (p0:Int×Int×Int) (p1:List (Int×Int)):Option Bool:=
 ((fC N) p1 p0.2).bind fun b0=>
 some (!b0)
def aKg (N:Nat):aU:=⟨aC.cons (aE.agg (bJ.row bX)) (aC.one (aE.ref (bJ.sl fG))),aE.bool,fun a=>(uT N) a.1 a.2,.pure,false⟩
theorem aCN (N:Nat):aB tab 147 (aKg N):=aB.of NO (cx:=(aM (aG N) [(148,(TA N))] [] [] [])) rfl (aL.make ⟨(BN N),trivial⟩ trivial trivial) (fun a=>by kernel_rfl)
def gR (N:Nat) (s:((List (Int×Int×Int))×(List (Int×Int))×Int×Int)):Option (aW ((List (Int×Int×Int))×(List (Int×Int))×Int×Int) Int):=
 bif decide (s.2.2.2<s.2.2.1) then
  (aK s.1 s.2.2.2).bind fun a0=>
  ((uT N) a0 s.2.1).bind fun b1=>
  bif b1 then
   some (.done s.2.2.2)
  else
   some (.next (s.1,s.2.1,s.2.2.1,aA .i64 (s.2.2.2+1)))
 else
  some (.done (-1))
def eB (N:Nat) (p0:List (Int×Int×Int)) (p1:(List (Int×Int))):Option Int:=
 (aS N) (gR N) (p0,p1,aa p0.length,0)
def KD (N:Nat):aU:=⟨aC.cons (aE.sl bX) (aC.one (aE.clo 147 (aC.one (aE.ref (bJ.sl fG))))),aE.int .i64,fun a=>(eB N) a.1 a.2,.pure,false⟩
theorem KE (N:Nat):aB tab 210 (KD N):=aB.of HG (cx:=(aM (aG N) [(147,(aKg N)),(148,(TA N))] [] [(147,VS)] [])) rfl (aL.make ⟨(aCN N),(BN N),trivial⟩ trivial ⟨NO,trivial⟩) (fun a=>by kernel_rfl)
def dM (N:Nat) (p0:List (Int×Int×Int)) (p1:(List (Int×Int))):Option Bool:=
 ((eB N) p0 p1).bind fun n0=>
 some (decide (0<=n0))
def KF (N:Nat):aU:=⟨aC.cons (aE.sl bX) (aC.one (aE.clo 147 (aC.one (aE.ref (bJ.sl fG))))),aE.bool,fun a=>(dM N) a.1 a.2,.pure,false⟩
theorem KG (N:Nat):aB tab 149 (KF N):=aB.of HE (cx:=(aM (aG N) [(210,(KD N))] [] [] [])) rfl (aL.make ⟨(KE N),trivial⟩ trivial trivial) (fun a=>by kernel_rfl)
def AX (N:Nat) (p0:aJ) (p1:List (Int×Int)):Option Bool:=
 bif (aa p1.length)==(aa p0.certs.list.length) then
  ((dM N) p0.certs.list p1).bind fun b0=>
  some (!b0)
 else
  some false
def c94 (N:Nat):aU:=⟨aC.cons (aE.agg bE) (aC.one (aE.sl fG)),aE.bool,fun a=>(AX N) a.1 a.2,.pure,false⟩
theorem aIC (N:Nat):aB tab 94 (c94 N):=aB.of aH2 (cx:=(aM (aG N) [(149,(KF N))] [] [] [])) rfl (aL.make ⟨(KG N),trivial⟩ trivial trivial) (fun a=>by kernel_rfl)
def mM (_:Nat) (p0:Int):Option Bool:=
 some (decide (p0<0))
def c88 (N:Nat):aU:=⟨aC.one (aE.int .i64),aE.bool,fun a=>(mM N) a,.pure,false⟩
theorem aID (N:Nat):aB tab 88 (c88 N):=aB.of aHW (cx:=(aM (aG N) [] [] [] [])) rfl (aL.make trivial trivial trivial) (fun a=>by kernel_rfl)
def fI (N:Nat) (c0:(List Int)) (s:(Int×Int×(List Int))):Option (aW (Int×Int×(List Int)) (aW (Int×Int×(List Int)) (Nat×Nat×(List Int)))):=
 bif decide (s.2.1<(aa s.2.2.length)) then
  (aK s.2.2 s.2.1).bind fun n0=>
  ((mM N) n0).bind fun b1=>
  bif !b1 then
   (aK s.2.2 s.1).bind fun _=>
   some (.next (aA .i64 (s.1+1),aA .i64 (s.2.1+1),bO s.2.2 s.1 n0))
  else
   some (.next (s.1,aA .i64 (s.2.1+1),s.2.2))
 else
  bif ((decide (0<=s.1))&&(decide (s.1<=(aa s.2.2.length))))&&(decide ((aa s.2.2.length)<=(aa s.2.2.length))) then
   bif ah (((aa s.2.2.length).toNat) -s.1.toNat) 0 then
    (fF s.2.2 0 s.1).bind fun _=>
    bif s.2.2.length==c0.length then
     some (.done (.done (s.1.toNat,s.2.2.length,s.2.2)))
    else
     none
   else
    bif (ag ((0+s.1.toNat)+(((aa s.2.2.length).toNat) -s.1.toNat)) s.2.2.length)&&(!false) then
     (fF (dB s.2.2 (0+s.1.toNat) (ae (((aa s.2.2.length).toNat) -s.1.toNat) 0)) 0 s.1).bind fun _=>
     bif ((dB s.2.2 (0+s.1.toNat) (ae (((aa s.2.2.length).toNat) -s.1.toNat) 0)).length)==c0.length then
      some (.done (.done (s.1.toNat,(dB s.2.2 (0+s.1.toNat) (ae (((aa s.2.2.length).toNat) -s.1.toNat) 0)).length,dB s.2.2 (0+s.1.toNat) (ae (((aa s.2.2.length).toNat) -s.1.toNat) 0))))
     else
      none
    else
     none
  else
   none
def fJ (N:Nat) (c0:(List Int)) (s:(Int×Int×(List Int))):Option (aW (Int×Int×(List Int)) (Nat×Nat×(List Int))):=
 bif decide (s.2.1<s.1) then
  (aK s.2.2 s.2.1).bind fun n0=>
  ((mM N) n0).bind fun b1=>
  bif b1 then
   bif s.2.2.length==c0.length then
    bif s.2.1==(-1) then
     bif s.2.2.length==c0.length then
      some (.done (s.2.2.length,s.2.2.length,s.2.2))
     else
      none
    else
     (aS N) ((fI N) c0) (s.2.1,aA .i64 (s.2.1+1),s.2.2)
   else
    none
  else
   some (.next (s.1,aA .i64 (s.2.1+1),s.2.2))
 else
  bif s.2.2.length==c0.length then
   bif s.2.2.length==c0.length then
    some (.done (s.2.2.length,s.2.2.length,s.2.2))
   else
    none
  else
   none
def cU (N:Nat) (a:(List Int)):Option (Nat×Nat×(List Int)):=
 (aS N) ((fJ N) a) (aa a.length,0,a)
def TB (N:Nat):bW:=⟨[.l [.i .i64]],[.own 0 false,.clo 88 [] []],[.arr [.i .i64] []],[.n,.n,.l [.i .i64]],.pre 0 0 0 false,[.arr [.i .i64] []],fun a=>(cU N) a⟩
theorem KH (N:Nat):fL tab 42 (TB N):=fL.of SP (wd:=true) (cx:=(aM (aG N) [(88,(c88 N))] [] [(95,UT)] [])) (aL.make ⟨(aID N),trivial⟩ trivial ⟨zI,trivial⟩) (fun a=>by kernel_rfl)
def hU (N:Nat) (p0:aN):Option Int:=
 ((jE N) p0.clock).bind fun n0=>
 bif n0 !=0 then
  some 8
 else
  ((nT N) p0.bracket).bind fun n1=>
  bif n1 !=0 then
   some 8
  else
   bif (ES .i64 (aa p0.bracket.places.length) (aA .i64 ((aa p0.bracket.places.length) -1))) !=0 then
    some 8
   else
    (aZ p0.bracket.places).bind fun l2=>
    ((cU N) l2).bind fun a3=>
    (BG Q2 a3.1 a3.2.2).bind fun l4=>
    bif l4.length==a3.2.2.length then
     ((dE N) (l4.take a3.1) p0.clock.field.points ()).bind fun b5=>
     bif !b5 then
      some 8
     else
      ((AW N) p0.clock.field p0.clock.now p0.bracket.places).bind fun a6=>
      ((oV N) a6.1.wins p0.bracket.wins).bind fun b7=>
      bif !b7 then
       some 8
      else
       ((AX N) p0.clock a6.2).bind fun b8=>
       bif !b8 then
        some 8
       else
        some 0
    else
     none
def c39 (N:Nat):aU:=⟨aC.one (aE.agg dC),aE.int .i64,fun a=>(hU N) a,.pure,false⟩
theorem D4 (N:Nat):aB tab 39 (c39 N):=aB.of aHy (cx:=(aM (aG N) [(86,(c86 N)),(87,(c87 N)),(40,aU.clone ki),(90,(S8 N)),(92,(c92 N)),(93,(c93 N)),(94,(c94 N))] [(42,(TB N))] [(89,.srt LR)] [])) rfl (aL.make ⟨(D2 N),(S7 N),hO,(P6 N),(aIA N),(aIB N),(aIC N),trivial⟩ ⟨(KH N),trivial⟩ ⟨aHX,trivial⟩) (fun a=>by kernel_rfl)
def qD (N:Nat) (p0:Int×Int×Int) (p1:Int):Option Int:=
 ((dG N) p0.1 p1).bind fun n0=>
 some n0
def aKh (N:Nat):aU:=⟨aC.cons (aE.agg (bJ.row bX)) (aC.one (aE.int .i64)),aE.int .i64,fun a=>(qD N) a.1 a.2,.pure,false⟩
theorem aCO (N:Nat):aB tab 125 (aKh N):=aB.of ZZ (cx:=(aM (aG N) [(126,(J8 N))] [] [] [])) rfl (aL.make ⟨(qA N),trivial⟩ trivial trivial) (fun a=>by kernel_rfl)
def eQ (N:Nat) (s:((List (Int×Int×Int))×Int×Int×Int×Int)):Option (aW ((List (Int×Int×Int))×Int×Int×Int×Int) (Int×Bool)):=
 bif decide (s.2.2.2.1<s.2.2.2.2) then
  (aK s.1 (aA .i64 (kW .u64 (aA .u64 (aA .i64 (s.2.2.2.1+s.2.2.2.2))) 1))).bind fun a0=>
  ((qD N) a0 s.2.1).bind fun n1=>
  bif decide (n1<0) then
   some (.next (s.1,s.2.1,s.2.2.1,aA .i64 ((aA .i64 (kW .u64 (aA .u64 (aA .i64 (s.2.2.2.1+s.2.2.2.2))) 1))+1),s.2.2.2.2))
  else
   some (.next (s.1,s.2.1,s.2.2.1,s.2.2.2.1,aA .i64 (kW .u64 (aA .u64 (aA .i64 (s.2.2.2.1+s.2.2.2.2))) 1)))
 else
  bif decide (s.2.2.2.1<s.2.2.1) then
   (aK s.1 s.2.2.2.1).bind fun a2=>
   ((qD N) a2 s.2.1).bind fun n3=>
   some (.done (s.2.2.2.1,n3==0))
  else
   some (.done (s.2.2.2.1,false))
def cI (N:Nat) (p0:List (Int×Int×Int)) (p1:Int) (_:Unit):Option (Int×Bool):=
 (aS N) (eQ N) (p0,p1,aa p0.length,0,aa p0.length)
def KI (N:Nat):aU:=⟨aC.cons (aE.sl bX) (aC.cons (aE.int .i64) (aC.one (aE.clo 125 aC.nil))),aE.tup (aC.cons (aE.int .i64) (aC.one aE.bool)),fun a=>(cI N) a.1 a.2.1 a.2.2,.pure,false⟩
theorem KJ (N:Nat):aB tab 124 (KI N):=aB.of HC (cx:=(aM (aG N) [(125,(aKh N))] [] [] [])) rfl (aL.make ⟨(aCO N),trivial⟩ trivial trivial) (fun a=>by kernel_rfl)
def wD (N:Nat) (p0:Field) (p1:Int):Option (Int×Bool):=
 ((cI N) p0.points p1 ()).bind fun a0=>
 some a0
def c73 (N:Nat):aU:=⟨aC.cons (aE.agg bF) (aC.one (aE.int .i64)),aE.tup (aC.cons (aE.int .i64) (aC.one aE.bool)),fun a=>(wD N) a.1 a.2,.pure,false⟩
theorem TC (N:Nat):aB tab 73 (c73 N):=aB.of aHO (cx:=(aM (aG N) [(124,(KI N))] [] [] [])) rfl (aL.make ⟨(KJ N),trivial⟩ trivial trivial) (fun a=>by kernel_rfl)
def F9 (N:Nat) (p0:Field) (p1:Int×Int×Int):Option (Field×Int):=
 ((gC N) p0).bind fun n0=>
 bif n0 !=0 then
  some (Field.mk [],n0)
 else
  ((hP N) p1).bind fun n1=>
  bif n1 !=0 then
   some (Field.mk [],n1)
  else
   ((wD N) p0 p1.1).bind fun a2=>
   bif a2.2 then
    some (Field.mk [],14)
   else
    bif (aa p0.points.length)==64 then
     some (Field.mk [],18)
    else
     (aZ p0.points).bind fun l3=>
     (BF l3 a2.1 [p1]).bind fun l4=>
     some (Field.mk l4,0)
def c31 (N:Nat):aU:=⟨aC.cons (aE.agg bF) (aC.one (aE.agg (bJ.row bX))),aE.tup (aC.cons (aE.agg bF) (aC.one (aE.int .i64))),fun a=>(F9 N) a.1 a.2,.frz,false⟩
theorem aIE (N:Nat):aB tab 31 (c31 N):=aB.of aHv (cx:=(aM (aG N) [(71,(c71 N)),(72,(c72 N)),(73,(c73 N)),(75,aU.clone bX)] [] [(74,.ins 3)] [])) rfl (aL.make ⟨(wA N),(HR N),(TC N),nE,trivial⟩ trivial ⟨aHP,trivial⟩) (fun a=>by kernel_rfl)
def tO (_:Nat) (s:((List Int)×Int×Int×Int)):Option (aW ((List Int)×Int×Int×Int) Int):=
 bif decide (s.2.2.2<s.2.2.1) then
  (aK s.1 s.2.2.2).bind fun n0=>
  bif s.2.1==n0 then
   some (.done s.2.2.2)
  else
   some (.next (s.1,s.2.1,s.2.2.1,aA .i64 (s.2.2.2+1)))
 else
  some (.done (-1))
def hY (N:Nat) (p0:List Int) (p1:Int):Option Int:=
 (aS N) (tO N) (p0,p1,aa p0.length,0)
def c41 (N:Nat):aU:=⟨aC.cons (aE.sl ki) (aC.one (aE.int .i64)),aE.int .i64,fun a=>(hY N) a.1 a.2,.pure,false⟩
theorem MH (N:Nat):aB tab 41 (c41 N):=aB.of aHA (cx:=(aM (aG N) [] [] [] [])) rfl (aL.make trivial trivial trivial) (fun a=>by kernel_rfl)
def BA (_:Nat) (p0:Int) (p1:Int):Option (Int×Int):=
 some (aA .u32 (kW .u64 (aA .u64 ((aA .u64 p0)*(aA .u64 p1))) 32),aA .u32 (aA .u64 ((aA .u64 p0)*(aA .u64 p1))))
def aKi (N:Nat):aU:=⟨aC.cons (aE.int .u32) (aC.one (aE.int .u32)),aE.tup (aC.cons (aE.int .u32) (aC.one (aE.int .u32))),fun a=>(BA N) a.1 a.2,.pure,false⟩
theorem aCP (N:Nat):aB tab 150 (aKi N):=aB.of aAa (cx:=(aM (aG N) [] [] [] [])) rfl (aL.make trivial trivial trivial) (fun a=>by kernel_rfl)
def uU (N:Nat) (p0:Int) (p1:Int):Option (Int×Int):=
 ((gJ N) p0 p1).bind fun a0=>
 some a0
def c96 (N:Nat):aU:=⟨aC.cons (aE.int .u64) (aC.one (aE.int .u64)),aE.tup (aC.cons (aE.int .u64) (aC.one (aE.int .u64))),fun a=>(uU N) a.1 a.2,.pure,false⟩
theorem TD (N:Nat):aB tab 96 (c96 N):=aB.of aH3 (cx:=(aM (aG N) [(150,(aKi N)),(151,(aCn N))] [] [] [])) rfl (aL.make ⟨(aCP N),(HU N),trivial⟩ trivial trivial) (fun a=>by kernel_rfl)
def kZ (_:Nat) (s:(Int×(List Int))):Option (aW (Int×(List Int)) (List Int)):=
 bif decide (s.1<(aa s.2.length)) then
  bif ((decide (0<=s.1))&&(decide (s.1<=(aa s.2.length))))&&(decide ((aa s.2.length)<=(aa s.2.length))) then
   (fF s.2 0 s.1).bind fun _=>
   bif ((s.2.take s.1.toNat).take (((aa s.2.length).toNat) -s.1.toNat)).isEmpty then
    some (.next (aA .i64 (s.1+0),s.2))
   else
    bif (ag ((0+s.1.toNat)+(((s.2.take s.1.toNat).take (((aa s.2.length).toNat) -s.1.toNat)).length)) s.2.length)&&(!false) then
     some (.next (aA .i64 (s.1+(aa (((s.2.take s.1.toNat).take (((aa s.2.length).toNat) -s.1.toNat)).length))),dB s.2 (0+s.1.toNat) ((s.2.take s.1.toNat).take (((aa s.2.length).toNat) -s.1.toNat))))
    else
     none
  else
   none
 else
  some (.done s.2)
def gQ (N:Nat) (p0:List Int) (p1:Int):Option (List Int):=
 bif decide (p1<0) then
  none
 else
  ((uU N) (aA .u64 (aa p0.length)) (aA .u64 p1)).bind fun a0=>
  bif decide (0<a0.1) then
   none
  else
   bif decide (9223372036854775807<a0.2) then
    none
   else
    bif (aA .i64 a0.2)==(aA .i64 a0.2) then
     (wX (aA .i64 a0.2) (0:Int)).bind fun l1=>
     bif (p0.take l1.length).isEmpty then
      (aS N) (kZ N) (0,l1)
     else
      bif (ag (0+((p0.take l1.length).length)) l1.length)&&(!false) then
       (aS N) (kZ N) (aa ((p0.take l1.length).length),dB l1 0 (p0.take l1.length))
      else
       none
    else
     none
def c44 (N:Nat):aU:=⟨aC.cons (aE.sl ki) (aC.one (aE.int .i64)),aE.sl ki,fun a=>(gQ N) a.1 a.2,.own,true⟩
def aIF (N:Nat):aU:=⟨aC.cons (aE.sl ki) (aC.one (aE.int .i64)),aE.sl ki,fun a=>(gQ N) a.1 a.2,.frz,false⟩
theorem TE (N:Nat):aB tab 44 (c44 N):=aB.of SQ (cx:=(aM (aG N) [(96,(c96 N))] [] [] [])) rfl (aL.make ⟨(TD N),trivial⟩ trivial trivial) (fun a=>by kernel_rfl)
theorem OJ (N:Nat):aB tab 44 (aIF N):=aB.of SQ (cx:=(aM (aG N) [(96,(c96 N))] [] [] [])) rfl (aL.make ⟨(TD N),trivial⟩ trivial trivial) (fun a=>by kernel_rfl)
def D5 (_:Nat) (s:(Int×(List Int)×Int×Int×Nat×Nat×Nat×Int×Int×(List Int)×(List (Int×Int)))):Option (aW (Int×(List Int)×Int×Int×Nat×Nat×Nat×Int×Int×(List Int)×(List (Int×Int))) (aW ((List Int)×Int×Int×(List Int)×(List (Int×Int))) (List (Int×Int)))):=
 bif decide (s.2.2.2.2.2.2.2.2.1<s.2.2.2.2.2.2.2.1) then
  (aK ((s.2.2.2.2.2.2.2.2.2.1.drop s.2.2.2.2.1).take s.2.2.2.2.2.1) s.2.2.2.2.2.2.2.2.1).bind fun n0=>
  bif decide (0<=n0) then
   bif n0 !=s.1 then
    (bD s.2.2.2.2.2.2.2.2.2.2 [(n0,s.1)]).bind fun l1=>
    some (.next (s.1,s.2.1,s.2.2.1,s.2.2.2.1,s.2.2.2.2.1,s.2.2.2.2.2.1,s.2.2.2.2.2.2.1,s.2.2.2.2.2.2.2.1,aA .i64 (s.2.2.2.2.2.2.2.2.1+1),s.2.2.2.2.2.2.2.2.2.1,l1))
   else
    some (.next (s.1,s.2.1,s.2.2.1,s.2.2.2.1,s.2.2.2.2.1,s.2.2.2.2.2.1,s.2.2.2.2.2.2.1,s.2.2.2.2.2.2.2.1,aA .i64 (s.2.2.2.2.2.2.2.2.1+1),s.2.2.2.2.2.2.2.2.2))
  else
   some (.next (s.1,s.2.1,s.2.2.1,s.2.2.2.1,s.2.2.2.2.1,s.2.2.2.2.2.1,s.2.2.2.2.2.2.1,s.2.2.2.2.2.2.2.1,aA .i64 (s.2.2.2.2.2.2.2.2.1+1),s.2.2.2.2.2.2.2.2.2))
 else
  some (.done (.next (s.2.1,s.2.2.1,aA .i64 (s.2.2.2.1+1),s.2.2.2.2.2.2.2.2.2)))
def D6 (N:Nat) (s:((List Int)×Int×Int×(List Int)×(List (Int×Int)))):Option (aW ((List Int)×Int×Int×(List Int)×(List (Int×Int))) (List (Int×Int))):=
 bif decide (s.2.2.1<s.2.1) then
  (aK s.1 s.2.2.1).bind fun n0=>
  bif ((decide (0<=(aA .i64 ((aA .i64 (2*s.2.2.1))+1))))&&(decide ((aA .i64 ((aA .i64 (2*s.2.2.1))+1))<=(aA .i64 ((aA .i64 (2*s.2.2.1))+3)))))&&(decide ((aA .i64 ((aA .i64 (2*s.2.2.1))+3))<=(aa s.2.2.2.1.length))) then
   (aS N) (D5 N) (n0,s.1,s.2.1,s.2.2.1,0+((aA .i64 ((aA .i64 (2*s.2.2.1))+1)).toNat),((aA .i64 ((aA .i64 (2*s.2.2.1))+3)).toNat) - ((aA .i64 ((aA .i64 (2*s.2.2.1))+1)).toNat),s.2.2.2.1.length- ((aA .i64 ((aA .i64 (2*s.2.2.1))+1)).toNat),aa (((aA .i64 ((aA .i64 (2*s.2.2.1))+3)).toNat) - ((aA .i64 ((aA .i64 (2*s.2.2.1))+1)).toNat)),0,s.2.2.2)
  else
   none
 else
  some (.done s.2.2.2.2)
def AY (N:Nat) (p0:aR):Option (List (Int×Int)):=
 (TY p0.wins p0.places).bind fun l0=>
 (aS N) (D6 N) (p0.wins,aa p0.wins.length,0,l0,[])
def c99 (N:Nat):aU:=⟨aC.one (aE.agg cL),aE.sl fG,fun a=>(AY N) a,.frz,false⟩
theorem aIG (N:Nat):aB tab 99 (c99 N):=aB.of aH6 (cx:=(aM (aG N) [] [] [(158,.cat)] [])) rfl (aL.make trivial trivial ⟨aAh,trivial⟩) (fun a=>by kernel_rfl)
def nI (N:Nat) (p0:Field) (p1:Int):Option (Int×Int):=
 ((gC N) p0).bind fun n0=>
 bif n0 !=0 then
  some (0,n0)
 else
  ((wD N) p0 p1).bind fun a1=>
  bif !a1.2 then
   some (0,6)
  else
   some (a1.1,0)
def c76 (N:Nat):aU:=⟨aC.cons (aE.agg bF) (aC.one (aE.int .i64)),aE.tup (aC.cons (aE.int .i64) (aC.one (aE.int .i64))),fun a=>(nI N) a.1 a.2,.pure,false⟩
theorem MI (N:Nat):aB tab 76 (c76 N):=aB.of aHR (cx:=(aM (aG N) [(71,(c71 N)),(73,(c73 N))] [] [] [])) rfl (aL.make ⟨(wA N),(TC N),trivial⟩ trivial trivial) (fun a=>by kernel_rfl)
def wE (N:Nat) (p0:Field) (p1:Int):Option ((Int×Int×Int)×Int):=
 ((nI N) p0 p1).bind fun a0=>
 bif a0.2 !=0 then
  some ((0,0,0),a0.2)
 else
  (aK p0.points a0.1).bind fun a1=>
  some (a1,0)
def aKj (N:Nat):aU:=⟨aC.cons (aE.agg bF) (aC.one (aE.int .i64)),aE.tup (aC.cons (aE.agg (bJ.row bX)) (aC.one (aE.int .i64))),fun a=>(wE N) a.1 a.2,.pure,false⟩
theorem aCQ (N:Nat):aB tab 155 (aKj N):=aB.of aAf (cx:=(aM (aG N) [(76,(c76 N))] [] [] [])) rfl (aL.make ⟨(MI N),trivial⟩ trivial trivial) (fun a=>by kernel_rfl)
def wF (_:Nat) (p0:aJ):Option aJ:=
 (aZ p0.field.points).bind fun l0=>
 (aZ p0.certs.list).bind fun l1=>
 (aZ p0.due).bind fun l2=>
 (aZ p0.agenda.heap).bind fun l3=>
 (aZ p0.agenda.where_).bind fun l4=>
 (aZ p0.agenda.slots.uses).bind fun l5=>
 (aZ p0.agenda.slots.used).bind fun l6=>
 (aZ p0.agenda.slots.free).bind fun l7=>
 some (aJ.mk p0.now (Field.mk l0) (aQ.mk p0.certs.next_ l1) (aH.mk (aO.mk l5 l6 l7) l3 l4) l2)
def aKk (N:Nat):aU:=⟨aC.one (aE.agg bE),aE.agg bE,fun a=>(wF N) a,.own,true⟩
def aDL (N:Nat):aU:=⟨aC.one (aE.agg bE),aE.agg bE,fun a=>(wF N) a,.frz,false⟩
theorem aCR (N:Nat):aB tab 157 (aKk N):=aB.of NP (cx:=(aM (aG N) [(75,aU.clone bX),(218,aU.clone bX),(219,aU.clone bX),(220,aU.clone gM),(40,aU.clone ki),(221,aU.clone kb)] [] [] [])) rfl (aL.make ⟨nE,oN,xS,mE,hO,mD,trivial⟩ trivial trivial) (fun a=>by kernel_rfl)
theorem TF (N:Nat):aB tab 157 (aDL N):=aB.of NP (cx:=(aM (aG N) [(75,aU.clone bX),(218,aU.clone bX),(219,aU.clone bX),(220,aU.clone gM),(40,aU.clone ki),(221,aU.clone kb)] [] [] [])) rfl (aL.make ⟨nE,oN,xS,mE,hO,mD,trivial⟩ trivial trivial) (fun a=>by kernel_rfl)
def sM (N:Nat) (p0:Int×Int×Int) (p1:Int):Option Int:=
 ((dG N) p0.1 p1).bind fun n0=>
 some n0
def aKl (N:Nat):aU:=⟨aC.cons (aE.agg (bJ.row bX)) (aC.one (aE.int .i64)),aE.int .i64,fun a=>(sM N) a.1 a.2,.pure,false⟩
theorem aCS (N:Nat):aB tab 298 (aKl N):=aB.of aBG (cx:=(aM (aG N) [(126,(J8 N))] [] [] [])) rfl (aL.make ⟨(qA N),trivial⟩ trivial trivial) (fun a=>by kernel_rfl)
def eU (N:Nat) (s:((List (Int×Int×Int))×Int×Int×Int×Int)):Option (aW ((List (Int×Int×Int))×Int×Int×Int×Int) (Int×Bool)):=
 bif decide (s.2.2.2.1<s.2.2.2.2) then
  (aK s.1 (aA .i64 (kW .u64 (aA .u64 (aA .i64 (s.2.2.2.1+s.2.2.2.2))) 1))).bind fun a0=>
  ((sM N) a0 s.2.1).bind fun n1=>
  bif decide (n1<0) then
   some (.next (s.1,s.2.1,s.2.2.1,aA .i64 ((aA .i64 (kW .u64 (aA .u64 (aA .i64 (s.2.2.2.1+s.2.2.2.2))) 1))+1),s.2.2.2.2))
  else
   some (.next (s.1,s.2.1,s.2.2.1,s.2.2.2.1,aA .i64 (kW .u64 (aA .u64 (aA .i64 (s.2.2.2.1+s.2.2.2.2))) 1)))
 else
  bif decide (s.2.2.2.1<s.2.2.1) then
   (aK s.1 s.2.2.2.1).bind fun a2=>
   ((sM N) a2 s.2.1).bind fun n3=>
   some (.done (s.2.2.2.1,n3==0))
  else
   some (.done (s.2.2.2.1,false))
def cP (N:Nat) (p0:List (Int×Int×Int)) (p1:Int) (_:Unit):Option (Int×Bool):=
 (aS N) (eU N) (p0,p1,aa p0.length,0,aa p0.length)
def KK (N:Nat):aU:=⟨aC.cons (aE.sl bX) (aC.cons (aE.int .i64) (aC.one (aE.clo 298 aC.nil))),aE.tup (aC.cons (aE.int .i64) (aC.one aE.bool)),fun a=>(cP N) a.1 a.2.1 a.2.2,.pure,false⟩
theorem KL (N:Nat):aB tab 297 (KK N):=aB.of aBF (cx:=(aM (aG N) [(298,(aKl N))] [] [] [])) rfl (aL.make ⟨(aCS N),trivial⟩ trivial trivial) (fun a=>by kernel_rfl)
def GA (N:Nat) (p0:aQ) (p1:Int):Option (Int×Int):=
 ((pY N) p0).bind fun n0=>
 bif n0 !=0 then
  some (0,n0)
 else
  ((cP N) p0.list p1 ()).bind fun a1=>
  bif !a1.2 then
   some (0,6)
  else
   some (a1.1,0)
def aKm (N:Nat):aU:=⟨aC.cons (aE.agg eH) (aC.one (aE.int .i64)),aE.tup (aC.cons (aE.int .i64) (aC.one (aE.int .i64))),fun a=>(GA N) a.1 a.2,.pure,false⟩
theorem aCT (N:Nat):aB tab 276 (aKm N):=aB.of aBs (cx:=(aM (aG N) [(138,(aCh N)),(297,(KK N))] [] [] [])) rfl (aL.make ⟨(HS N),(KL N),trivial⟩ trivial trivial) (fun a=>by kernel_rfl)
def jF (_:Nat) (a:(Int×Int×(List (Int×Int×Int)))):Option (Nat×Nat×(List (Int×Int×Int))):=
 bif (((decide (0<=a.1))&&(decide (a.1<=a.2.1)))&&(decide (a.2.1<=(aa a.2.2.length))))&&(decide ((aa a.2.2.length)<=(aa a.2.2.length))) then
  bif a.1==a.2.1 then
   bif a.2.2.length==a.2.2.length then
    some (a.2.2.length,a.2.2.length,a.2.2)
   else
    none
  else
   (fF a.2.2 0 a.1).bind fun _=>
   bif ((decide (0<=a.2.1))&&(decide (a.2.1<=(aa a.2.2.length))))&&(decide ((aa a.2.2.length)<=(aa a.2.2.length))) then
    bif ((a.2.2.drop (0+a.2.1.toNat)).take (((aa a.2.2.length).toNat) -a.2.1.toNat)).isEmpty then
     bif ((decide (0<=(aa a.1.toNat)))&&(decide ((aa a.1.toNat)<=(aa a.2.2.length))))&&(decide ((aa a.2.2.length)<=(aa a.2.2.length))) then
      bif ah (((aa a.2.2.length).toNat) - ((aa a.1.toNat).toNat)) 0 then
       bif a.2.2.length==a.2.2.length then
        some (a.1.toNat,a.2.2.length,a.2.2)
       else
        none
      else
       bif (ag ((0+((aa a.1.toNat).toNat))+(((aa a.2.2.length).toNat) - ((aa a.1.toNat).toNat))) a.2.2.length)&&(!false) then
        bif ((dB a.2.2 (0+((aa a.1.toNat).toNat)) (ae (((aa a.2.2.length).toNat) - ((aa a.1.toNat).toNat)) (0,0,0))).length)==a.2.2.length then
         some (a.1.toNat,a.2.2.length,dB a.2.2 (0+((aa a.1.toNat).toNat)) (ae (((aa a.2.2.length).toNat) - ((aa a.1.toNat).toNat)) (0,0,0)))
        else
         none
       else
        none
     else
      none
    else
     bif ag (a.1.toNat+(((a.2.2.drop (0+a.2.1.toNat)).take (((aa a.2.2.length).toNat) -a.2.1.toNat)).length)) a.2.2.length then
      bif (ag (a.1.toNat+(((a.2.2.drop (0+a.2.1.toNat)).take (((aa a.2.2.length).toNat) -a.2.1.toNat)).length)) a.2.2.length)&&(!false) then
       bif ((decide (0<=(aa (a.1.toNat+(((a.2.2.drop (0+a.2.1.toNat)).take (((aa a.2.2.length).toNat) -a.2.1.toNat)).length)))))&&(decide ((aa (a.1.toNat+(((a.2.2.drop (0+a.2.1.toNat)).take (((aa a.2.2.length).toNat) -a.2.1.toNat)).length)))<=(aa a.2.2.length))))&&(decide ((aa a.2.2.length)<=(aa a.2.2.length))) then
        bif ah (((aa a.2.2.length).toNat) - ((aa (a.1.toNat+(((a.2.2.drop (0+a.2.1.toNat)).take (((aa a.2.2.length).toNat) -a.2.1.toNat)).length))).toNat)) 0 then
         bif ((dB a.2.2 a.1.toNat ((a.2.2.drop (0+a.2.1.toNat)).take (((aa a.2.2.length).toNat) -a.2.1.toNat))).length)==a.2.2.length then
          some (a.1.toNat+(((a.2.2.drop (0+a.2.1.toNat)).take (((aa a.2.2.length).toNat) -a.2.1.toNat)).length),a.2.2.length,dB a.2.2 a.1.toNat ((a.2.2.drop (0+a.2.1.toNat)).take (((aa a.2.2.length).toNat) -a.2.1.toNat)))
         else
          none
        else
         bif (ag ((0+((aa (a.1.toNat+(((a.2.2.drop (0+a.2.1.toNat)).take (((aa a.2.2.length).toNat) -a.2.1.toNat)).length))).toNat))+(((aa a.2.2.length).toNat) - ((aa (a.1.toNat+(((a.2.2.drop (0+a.2.1.toNat)).take (((aa a.2.2.length).toNat) -a.2.1.toNat)).length))).toNat))) ((dB a.2.2 a.1.toNat ((a.2.2.drop (0+a.2.1.toNat)).take (((aa a.2.2.length).toNat) -a.2.1.toNat))).length))&&(!false) then
          bif ((dB (dB a.2.2 a.1.toNat ((a.2.2.drop (0+a.2.1.toNat)).take (((aa a.2.2.length).toNat) -a.2.1.toNat))) (0+((aa (a.1.toNat+(((a.2.2.drop (0+a.2.1.toNat)).take (((aa a.2.2.length).toNat) -a.2.1.toNat)).length))).toNat)) (ae (((aa a.2.2.length).toNat) - ((aa (a.1.toNat+(((a.2.2.drop (0+a.2.1.toNat)).take (((aa a.2.2.length).toNat) -a.2.1.toNat)).length))).toNat)) (0,0,0))).length)==a.2.2.length then
           some (a.1.toNat+(((a.2.2.drop (0+a.2.1.toNat)).take (((aa a.2.2.length).toNat) -a.2.1.toNat)).length),a.2.2.length,dB (dB a.2.2 a.1.toNat ((a.2.2.drop (0+a.2.1.toNat)).take (((aa a.2.2.length).toNat) -a.2.1.toNat))) (0+((aa (a.1.toNat+(((a.2.2.drop (0+a.2.1.toNat)).take (((aa a.2.2.length).toNat) -a.2.1.toNat)).length))).toNat)) (ae (((aa a.2.2.length).toNat) - ((aa (a.1.toNat+(((a.2.2.drop (0+a.2.1.toNat)).take (((aa a.2.2.length).toNat) -a.2.1.toNat)).length))).toNat)) (0,0,0)))
          else
           none
         else
          none
       else
        none
      else
       none
     else
      none
   else
    none
 else
  none
def TG (N:Nat):bW:=⟨[.i,.i,.l [.i .i64,.i .i64,.i .i64]],[.own 0 false,.int .i64 0,.int .i64 0],[.arr [.i .i64,.i .i64,.i .i64] []],[.n,.n,.l [.i .i64,.i .i64,.i .i64]],.pre 0 0 0 false,[.arr [.i .i64,.i .i64,.i .i64] []],fun a=>(jF N) a⟩
theorem P7 (N:Nat):fL tab 277 (TG N):=fL.of aBt (wd:=true) (cx:=(aM (aG N) [] [] [] [])) (aL.make trivial trivial trivial) (fun a=>by kernel_rfl)
def AZ (N:Nat) (p0:aQ) (p1:Int):Option (aQ×(Int×Int)×Int):=
 ((GA N) p0 p1).bind fun a0=>
 bif a0.2 !=0 then
  some (aQ.mk 0 [],(0,0),a0.2)
 else
  (aZ p0.list).bind fun l1=>
  ((jF N) (a0.1,aA .i64 (a0.1+1),l1)).bind fun a2=>
  (aK p0.list a0.1).bind fun a3=>
  some (aQ.mk p0.next_ (a2.2.2.take a2.1),a3.2,0)
def aKn (N:Nat):aU:=⟨aC.cons (aE.agg eH) (aC.one (aE.int .i64)),aE.tup (aC.cons (aE.agg eH) (aC.cons (aE.agg (bJ.row fG)) (aC.one (aE.int .i64)))),fun a=>(AZ N) a.1 a.2,.frz,false⟩
theorem aCU (N:Nat):aB tab 240 (aKn N):=aB.of aA8 (cx:=(aM (aG N) [(276,(aKm N)),(218,aU.clone bX)] [(277,(TG N))] [] [])) rfl (aL.make ⟨(aCT N),oN,trivial⟩ ⟨(P7 N),trivial⟩ trivial) (fun a=>by kernel_rfl)
def mN (_:Nat) (p0:aJ):Option aJ:=
 (aZ p0.field.points).bind fun l0=>
 (aZ p0.certs.list).bind fun l1=>
 (aZ p0.due).bind fun l2=>
 (aZ p0.agenda.heap).bind fun l3=>
 (aZ p0.agenda.where_).bind fun l4=>
 (aZ p0.agenda.slots.uses).bind fun l5=>
 (aZ p0.agenda.slots.used).bind fun l6=>
 (aZ p0.agenda.slots.free).bind fun l7=>
 some (aJ.mk p0.now (Field.mk l0) (aQ.mk p0.certs.next_ l1) (aH.mk (aO.mk l5 l6 l7) l3 l4) l2)
def aCV (N:Nat):aU:=⟨aC.one (aE.agg bE),aE.agg bE,fun a=>(mN N) a,.own,true⟩
def OK (N:Nat):aU:=⟨aC.one (aE.agg bE),aE.agg bE,fun a=>(mN N) a,.frz,false⟩
theorem IA (N:Nat):aB tab 189 (aCV N):=aB.of NQ (cx:=(aM (aG N) [(75,aU.clone bX),(218,aU.clone bX),(219,aU.clone bX),(220,aU.clone gM),(40,aU.clone ki),(221,aU.clone kb)] [] [] [])) rfl (aL.make ⟨nE,oN,xS,mE,hO,mD,trivial⟩ trivial trivial) (fun a=>by kernel_rfl)
theorem D7 (N:Nat):aB tab 189 (OK N):=aB.of NQ (cx:=(aM (aG N) [(75,aU.clone bX),(218,aU.clone bX),(219,aU.clone bX),(220,aU.clone gM),(40,aU.clone ki),(221,aU.clone kb)] [] [] [])) rfl (aL.make ⟨nE,oN,xS,mE,hO,mD,trivial⟩ trivial trivial) (fun a=>by kernel_rfl)
def nV (N:Nat) (p0:Int×Int×Int) (p1:Int):Option Int:=
 ((dG N) p0.1 p1).bind fun n0=>
 some n0
def aKo (N:Nat):aU:=⟨aC.cons (aE.agg (bJ.row bX)) (aC.one (aE.int .i64)),aE.int .i64,fun a=>(nV N) a.1 a.2,.pure,false⟩
theorem aCW (N:Nat):aB tab 279 (aKo N):=aB.of aBv (cx:=(aM (aG N) [(126,(J8 N))] [] [] [])) rfl (aL.make ⟨(qA N),trivial⟩ trivial trivial) (fun a=>by kernel_rfl)
def eR (N:Nat) (s:((List (Int×Int×Int))×Int×Int×Int×Int)):Option (aW ((List (Int×Int×Int))×Int×Int×Int×Int) (Int×Bool)):=
 bif decide (s.2.2.2.1<s.2.2.2.2) then
  (aK s.1 (aA .i64 (kW .u64 (aA .u64 (aA .i64 (s.2.2.2.1+s.2.2.2.2))) 1))).bind fun a0=>
  ((nV N) a0 s.2.1).bind fun n1=>
  bif decide (n1<0) then
   some (.next (s.1,s.2.1,s.2.2.1,aA .i64 ((aA .i64 (kW .u64 (aA .u64 (aA .i64 (s.2.2.2.1+s.2.2.2.2))) 1))+1),s.2.2.2.2))
  else
   some (.next (s.1,s.2.1,s.2.2.1,s.2.2.2.1,aA .i64 (kW .u64 (aA .u64 (aA .i64 (s.2.2.2.1+s.2.2.2.2))) 1)))
 else
  bif decide (s.2.2.2.1<s.2.2.1) then
   (aK s.1 s.2.2.2.1).bind fun a2=>
   ((nV N) a2 s.2.1).bind fun n3=>
   some (.done (s.2.2.2.1,n3==0))
  else
   some (.done (s.2.2.2.1,false))
def cM (N:Nat) (p0:List (Int×Int×Int)) (p1:Int) (_:Unit):Option (Int×Bool):=
 (aS N) (eR N) (p0,p1,aa p0.length,0,aa p0.length)
def KM (N:Nat):aU:=⟨aC.cons (aE.sl bX) (aC.cons (aE.int .i64) (aC.one (aE.clo 279 aC.nil))),aE.tup (aC.cons (aE.int .i64) (aC.one aE.bool)),fun a=>(cM N) a.1 a.2.1 a.2.2,.pure,false⟩
theorem KN (N:Nat):aB tab 278 (KM N):=aB.of aBu (cx:=(aM (aG N) [(279,(aKo N))] [] [] [])) rfl (aL.make ⟨(aCW N),trivial⟩ trivial trivial) (fun a=>by kernel_rfl)
def sN (N:Nat) (p0:List (Int×Int×Int)) (p1:Int):Option (Int×Bool):=
 ((cM N) p0 p1 ()).bind fun a0=>
 some a0
def aIH (N:Nat):aU:=⟨aC.cons (aE.sl bX) (aC.one (aE.int .i64)),aE.tup (aC.cons (aE.int .i64) (aC.one aE.bool)),fun a=>(sN N) a.1 a.2,.pure,false⟩
theorem OL (N:Nat):aB tab 241 (aIH N):=aB.of aA9 (cx:=(aM (aG N) [(278,(KM N))] [] [] [])) rfl (aL.make ⟨(KN N),trivial⟩ trivial trivial) (fun a=>by kernel_rfl)
def D8 (N:Nat) (p0:aO) (p1:Int×Int):Option (Bool×Int):=
 ((pZ N) p0).bind fun n0=>
 bif n0 !=0 then
  some (false,n0)
 else
  bif decide (0<=p1.1) then
   bif decide (p1.1<(aa p0.used.length)) then
    (aK p0.used p1.1).bind fun b1=>
    bif b1 then
     (aK p0.uses p1.1).bind fun n2=>
     some (n2==p1.2,0)
    else
     some (false,0)
   else
    some (false,0)
  else
   some (false,0)
def aII (N:Nat):aU:=⟨aC.cons (aE.agg eG) (aC.one (aE.agg (bJ.row fG))),aE.tup (aC.cons aE.bool (aC.one (aE.int .i64))),fun a=>(D8 N) a.1 a.2,.pure,false⟩
theorem OM (N:Nat):aB tab 299 (aII N):=aB.of aBH (cx:=(aM (aG N) [(191,(aCk N))] [] [] [])) rfl (aL.make ⟨(HT N),trivial⟩ trivial trivial) (fun a=>by kernel_rfl)
def qE (N:Nat) (p0:aH) (p1:Int×Int):Option (Int×Int):=
 ((jO N) p0).bind fun n0=>
 bif n0 !=0 then
  some (0,n0)
 else
  ((D8 N) p0.slots p1).bind fun a1=>
  bif a1.2 !=0 then
   some (0,6)
  else
   bif !a1.1 then
    some (0,6)
   else
    (aK p0.where_ p1.1).bind fun n2=>
    some (n2,0)
def aIJ (N:Nat):aU:=⟨aC.cons (aE.agg bY) (aC.one (aE.agg (bJ.row fG))),aE.tup (aC.cons (aE.int .i64) (aC.one (aE.int .i64))),fun a=>(qE N) a.1 a.2,.pure,false⟩
theorem ON (N:Nat):aB tab 280 (aIJ N):=aB.of aBw (cx:=(aM (aG N) [(139,(S6 N)),(299,(aII N))] [] [] [])) rfl (aL.make ⟨(BM N),(OM N),trivial⟩ trivial trivial) (fun a=>by kernel_rfl)
def qV (_:Nat) (p0:List Int) (p1:Int):Option (List Int):=
 (aZ p0).bind fun l0=>
 (bD l0 [p1]).bind fun l1=>
 some l1
def aKp (N:Nat):aU:=⟨aC.cons (aE.sl ki) (aC.one (aE.int .i64)),aE.sl ki,fun a=>(qV N) a.1 a.2,.frz,false⟩
theorem aCX (N:Nat):aB tab 307 (aKp N):=aB.of aBM (cx:=(aM (aG N) [(308,aU.clone ki)] [] [] [])) rfl (aL.make ⟨J0,trivial⟩ trivial trivial) (fun a=>by kernel_rfl)
def GB (N:Nat) (p0:aO) (p1:Int×Int):Option (aO×Int):=
 ((D8 N) p0 p1).bind fun a0=>
 bif a0.2 !=0 then
  some (aO.mk [] [] [],a0.2)
 else
  bif !a0.1 then
   some (aO.mk [] [] [],6)
  else
   (aZ p0.uses).bind fun l1=>
   (aZ p0.used).bind fun l2=>
   ((qV N) p0.free p1.1).bind fun l3=>
   (aK l2 p1.1).bind fun _=>
   some (aO.mk l1 (bO l2 p1.1 false) l3,0)
def aKq (N:Nat):aU:=⟨aC.cons (aE.agg eG) (aC.one (aE.agg (bJ.row fG))),aE.tup (aC.cons (aE.agg eG) (aC.one (aE.int .i64))),fun a=>(GB N) a.1 a.2,.frz,false⟩
theorem aCY (N:Nat):aB tab 300 (aKq N):=aB.of aBI (cx:=(aM (aG N) [(299,(aII N)),(40,aU.clone ki),(221,aU.clone kb),(307,(aKp N))] [] [(305,SG)] [])) rfl (aL.make ⟨(OM N),hO,mD,(aCX N),trivial⟩ trivial ⟨NY,trivial⟩) (fun a=>by kernel_rfl)
def cB (_:Nat) (a:((List Int)×(List Bool)×(List Int)×Nat×Nat×Int×Int×Int×Int×Int×Int×(List (Int×Int×Int×Int×Int))×(List Int))):Option ((List (Int×Int×Int×Int×Int))×(List Int)):=
 (aK (a.2.2.2.2.2.2.2.2.2.2.2.1.take a.2.2.2.1) a.2.2.2.2.2.1).bind fun _=>
 (aK a.2.2.2.2.2.2.2.2.2.2.2.2 a.2.2.2.2.2.2.2.2.2.1).bind fun _=>
 bif ((bO a.2.2.2.2.2.2.2.2.2.2.2.1 a.2.2.2.2.2.1 (a.2.2.2.2.2.2.1,a.2.2.2.2.2.2.2.1,a.2.2.2.2.2.2.2.2.1,a.2.2.2.2.2.2.2.2.2.1,a.2.2.2.2.2.2.2.2.2.2.1)).length)==a.2.2.2.2.2.2.2.2.2.2.2.1.length then
  bif ((bO a.2.2.2.2.2.2.2.2.2.2.2.2 a.2.2.2.2.2.2.2.2.2.1 a.2.2.2.2.2.1).length)==a.2.2.2.2.2.2.2.2.2.2.2.2.length then
   some (bO a.2.2.2.2.2.2.2.2.2.2.2.1 a.2.2.2.2.2.1 (a.2.2.2.2.2.2.1,a.2.2.2.2.2.2.2.1,a.2.2.2.2.2.2.2.2.1,a.2.2.2.2.2.2.2.2.2.1,a.2.2.2.2.2.2.2.2.2.2.1),bO a.2.2.2.2.2.2.2.2.2.2.2.2 a.2.2.2.2.2.2.2.2.2.1 a.2.2.2.2.2.1)
  else
   none
 else
  none
def MJ (N:Nat):bW:=⟨[.l [.i .i64],.l [.b],.l [.i .i64],.n,.n,.i,.i,.i,.i,.i,.i,.l [.i .i64,.i .i64,.i .i64,.i .i64,.i .i64],.l [.i .i64]],[.agg [.sl [.i .i64] [],.sl [.b] [],.sl [.i .i64] [],.pre 0 0 0 false,.own 1 false],.int .i64 0,.agg [.int .i64 0,.int .i64 0,.int .i64 0,.int .i64 0,.int .i64 0]],[.arr [.i .i64,.i .i64,.i .i64,.i .i64,.i .i64] [],.arr [.i .i64] []],[.l [.i .i64,.i .i64,.i .i64,.i .i64,.i .i64],.l [.i .i64]],.tup [],[.arr [.i .i64,.i .i64,.i .i64,.i .i64,.i .i64] [],.arr [.i .i64] []],fun a=>(cB N) a⟩
theorem GC (N:Nat):fL tab 302 (MJ N):=fL.of NX (wd:=false) (cx:=(aM (aG N) [] [] [] [])) (aL.make trivial trivial trivial) (fun a=>by kernel_rfl)
def jP (N:Nat) (c0:((List Int)×(List Bool)×(List Int)×Nat×Nat×Int×Int×Int×Int×Int×Int×(List (Int×Int×Int×Int×Int))×(List Int))) (s:(Int×Int×(List (Int×Int×Int×Int×Int))×(List Int)×(List Int)×(List Bool)×(List Int)×Nat×Nat×Int×Int×Int×Int×Int)):Option (aW (Int×Int×(List (Int×Int×Int×Int×Int))×(List Int)×(List Int)×(List Bool)×(List Int)×Nat×Nat×Int×Int×Int×Int×Int) (aW (Int×(List (Int×Int×Int×Int×Int))×(List Int)×(List Int)×(List Bool)×(List Int)×Nat×Nat×Int×Int×Int×Int×Int) ((List (Int×Int×Int×Int×Int))×(List Int)))):=
 bif decide (s.2.1<(aa s.2.2.2.2.2.2.2.1)) then
  bif decide ((aA .i64 (s.2.1+1))<(aa s.2.2.2.2.2.2.2.1)) then
   (aK (s.2.2.1.take s.2.2.2.2.2.2.2.1) (aA .i64 (s.2.1+1))).bind fun a0=>
   (aK (s.2.2.1.take s.2.2.2.2.2.2.2.1) s.2.1).bind fun a1=>
   ((bV N) a0 a1).bind fun n2=>
   bif decide (n2<0) then
    (aK (s.2.2.1.take s.2.2.2.2.2.2.2.1) (aA .i64 (s.2.1+1))).bind fun a3=>
    ((bV N) a3 s.2.2.2.2.2.2.2.2.2).bind fun n4=>
    bif decide (0<=n4) then
     ((cB N) (s.2.2.2.2.1,s.2.2.2.2.2.1,s.2.2.2.2.2.2.1,s.2.2.2.2.2.2.2.1,s.2.2.2.2.2.2.2.2.1,s.1,s.2.2.2.2.2.2.2.2.2.1,s.2.2.2.2.2.2.2.2.2.2.1,s.2.2.2.2.2.2.2.2.2.2.2.1,s.2.2.2.2.2.2.2.2.2.2.2.2.1,s.2.2.2.2.2.2.2.2.2.2.2.2.2,s.2.2.1,s.2.2.2.1)).bind fun a5=>
     bif a5.1.length==c0.2.2.2.2.2.2.2.2.2.2.2.1.length then
      bif a5.2.length==c0.2.2.2.2.2.2.2.2.2.2.2.2.length then
       some (.done (.done a5))
      else
       none
     else
      none
    else
     (aK (s.2.2.1.take s.2.2.2.2.2.2.2.1) (aA .i64 (s.2.1+1))).bind fun a6=>
     ((cB N) (s.2.2.2.2.1,s.2.2.2.2.2.1,s.2.2.2.2.2.2.1,s.2.2.2.2.2.2.2.1,s.2.2.2.2.2.2.2.2.1,s.1,a6.1,a6.2.1,a6.2.2.1,a6.2.2.2.1,a6.2.2.2.2,s.2.2.1,s.2.2.2.1)).bind fun a7=>
     some (.next (aA .i64 (s.2.1+1),aA .i64 ((aA .i64 (2*(aA .i64 (s.2.1+1))))+1),a7.1,a7.2,s.2.2.2.2))
   else
    (aK (s.2.2.1.take s.2.2.2.2.2.2.2.1) s.2.1).bind fun a8=>
    ((bV N) a8 s.2.2.2.2.2.2.2.2.2).bind fun n9=>
    bif decide (0<=n9) then
     ((cB N) (s.2.2.2.2.1,s.2.2.2.2.2.1,s.2.2.2.2.2.2.1,s.2.2.2.2.2.2.2.1,s.2.2.2.2.2.2.2.2.1,s.1,s.2.2.2.2.2.2.2.2.2.1,s.2.2.2.2.2.2.2.2.2.2.1,s.2.2.2.2.2.2.2.2.2.2.2.1,s.2.2.2.2.2.2.2.2.2.2.2.2.1,s.2.2.2.2.2.2.2.2.2.2.2.2.2,s.2.2.1,s.2.2.2.1)).bind fun a10=>
     bif a10.1.length==c0.2.2.2.2.2.2.2.2.2.2.2.1.length then
      bif a10.2.length==c0.2.2.2.2.2.2.2.2.2.2.2.2.length then
       some (.done (.done a10))
      else
       none
     else
      none
    else
     (aK (s.2.2.1.take s.2.2.2.2.2.2.2.1) s.2.1).bind fun a11=>
     ((cB N) (s.2.2.2.2.1,s.2.2.2.2.2.1,s.2.2.2.2.2.2.1,s.2.2.2.2.2.2.2.1,s.2.2.2.2.2.2.2.2.1,s.1,a11.1,a11.2.1,a11.2.2.1,a11.2.2.2.1,a11.2.2.2.2,s.2.2.1,s.2.2.2.1)).bind fun a12=>
     some (.next (s.2.1,aA .i64 ((aA .i64 (2*s.2.1))+1),a12.1,a12.2,s.2.2.2.2))
  else
   (aK (s.2.2.1.take s.2.2.2.2.2.2.2.1) s.2.1).bind fun a13=>
   ((bV N) a13 s.2.2.2.2.2.2.2.2.2).bind fun n14=>
   bif decide (0<=n14) then
    ((cB N) (s.2.2.2.2.1,s.2.2.2.2.2.1,s.2.2.2.2.2.2.1,s.2.2.2.2.2.2.2.1,s.2.2.2.2.2.2.2.2.1,s.1,s.2.2.2.2.2.2.2.2.2.1,s.2.2.2.2.2.2.2.2.2.2.1,s.2.2.2.2.2.2.2.2.2.2.2.1,s.2.2.2.2.2.2.2.2.2.2.2.2.1,s.2.2.2.2.2.2.2.2.2.2.2.2.2,s.2.2.1,s.2.2.2.1)).bind fun a15=>
    bif a15.1.length==c0.2.2.2.2.2.2.2.2.2.2.2.1.length then
     bif a15.2.length==c0.2.2.2.2.2.2.2.2.2.2.2.2.length then
      some (.done (.done a15))
     else
      none
    else
     none
   else
    (aK (s.2.2.1.take s.2.2.2.2.2.2.2.1) s.2.1).bind fun a16=>
    ((cB N) (s.2.2.2.2.1,s.2.2.2.2.2.1,s.2.2.2.2.2.2.1,s.2.2.2.2.2.2.2.1,s.2.2.2.2.2.2.2.2.1,s.1,a16.1,a16.2.1,a16.2.2.1,a16.2.2.2.1,a16.2.2.2.2,s.2.2.1,s.2.2.2.1)).bind fun a17=>
    some (.next (s.2.1,aA .i64 ((aA .i64 (2*s.2.1))+1),a17.1,a17.2,s.2.2.2.2))
 else
  ((cB N) (s.2.2.2.2.1,s.2.2.2.2.2.1,s.2.2.2.2.2.2.1,s.2.2.2.2.2.2.2.1,s.2.2.2.2.2.2.2.2.1,s.1,s.2.2.2.2.2.2.2.2.2.1,s.2.2.2.2.2.2.2.2.2.2.1,s.2.2.2.2.2.2.2.2.2.2.2.1,s.2.2.2.2.2.2.2.2.2.2.2.2.1,s.2.2.2.2.2.2.2.2.2.2.2.2.2,s.2.2.1,s.2.2.2.1)).bind fun a18=>
  bif a18.1.length==c0.2.2.2.2.2.2.2.2.2.2.2.1.length then
   bif a18.2.length==c0.2.2.2.2.2.2.2.2.2.2.2.2.length then
    some (.done (.done a18))
   else
    none
  else
   none
def qF (N:Nat) (c0:((List Int)×(List Bool)×(List Int)×Nat×Nat×Int×Int×Int×Int×Int×Int×(List (Int×Int×Int×Int×Int))×(List Int))) (s:(Int×(List (Int×Int×Int×Int×Int))×(List Int)×(List Int)×(List Bool)×(List Int)×Nat×Nat×Int×Int×Int×Int×Int)):Option (aW (Int×(List (Int×Int×Int×Int×Int))×(List Int)×(List Int)×(List Bool)×(List Int)×Nat×Nat×Int×Int×Int×Int×Int) ((List (Int×Int×Int×Int×Int))×(List Int))):=
 bif decide (0<s.1) then
  (aK (s.2.1.take s.2.2.2.2.2.2.1) (aA .i64 (ac (aA .i64 (s.1-1)) 2))).bind fun a0=>
  ((bV N) s.2.2.2.2.2.2.2.2 a0).bind fun n1=>
  bif decide (n1<0) then
   (aK (s.2.1.take s.2.2.2.2.2.2.1) (aA .i64 (ac (aA .i64 (s.1-1)) 2))).bind fun a2=>
   ((cB N) (s.2.2.2.1,s.2.2.2.2.1,s.2.2.2.2.2.1,s.2.2.2.2.2.2.1,s.2.2.2.2.2.2.2.1,s.1,a2.1,a2.2.1,a2.2.2.1,a2.2.2.2.1,a2.2.2.2.2,s.2.1,s.2.2.1)).bind fun a3=>
   some (.next (aA .i64 (ac (aA .i64 (s.1-1)) 2),a3.1,a3.2,s.2.2.2))
  else
   (aS N) ((jP N) c0) (s.1,aA .i64 ((aA .i64 (2*s.1))+1),s.2)
 else
  (aS N) ((jP N) c0) (s.1,aA .i64 ((aA .i64 (2*s.1))+1),s.2)
def lJ (N:Nat) (a:((List Int)×(List Bool)×(List Int)×Nat×Nat×Int×Int×Int×Int×Int×Int×(List (Int×Int×Int×Int×Int))×(List Int))):Option ((List (Int×Int×Int×Int×Int))×(List Int)):=
 (aS N) ((qF N) a) (a.2.2.2.2.2.1,a.2.2.2.2.2.2.2.2.2.2.2.1,a.2.2.2.2.2.2.2.2.2.2.2.2,a.1,a.2.1,a.2.2.1,a.2.2.2.1,a.2.2.2.2.1,a.2.2.2.2.2.2.1,a.2.2.2.2.2.2.2.1,a.2.2.2.2.2.2.2.2.1,a.2.2.2.2.2.2.2.2.2.1,a.2.2.2.2.2.2.2.2.2.2.1)
def IB (N:Nat):bW:=⟨[.l [.i .i64],.l [.b],.l [.i .i64],.n,.n,.i,.i,.i,.i,.i,.i,.l [.i .i64,.i .i64,.i .i64,.i .i64,.i .i64],.l [.i .i64]],[.agg [.sl [.i .i64] [],.sl [.b] [],.sl [.i .i64] [],.pre 0 0 0 false,.own 1 false],.int .i64 0,.agg [.int .i64 0,.int .i64 0,.int .i64 0,.int .i64 0,.int .i64 0]],[.arr [.i .i64,.i .i64,.i .i64,.i .i64,.i .i64] [],.arr [.i .i64] []],[.l [.i .i64,.i .i64,.i .i64,.i .i64,.i .i64],.l [.i .i64]],.tup [],[.arr [.i .i64,.i .i64,.i .i64,.i .i64,.i .i64] [],.arr [.i .i64] []],fun a=>(lJ N) a⟩
theorem zU (N:Nat):fL tab 286 (IB N):=fL.of NU (wd:=false) (cx:=(aM (aG N) [(192,(aCu N))] [(302,(MJ N))] [] [])) (aL.make ⟨(HV N),trivial⟩ ⟨(GC N),trivial⟩ trivial) (fun a=>by kernel_rfl)
def uW (N:Nat) (p0:aH) (p1:Int):Option (aH×(Int×Int×Int×Int×Int)×Int):=
 (aK p0.heap p1).bind fun a0=>
 ((GB N) p0.slots a0.2.2.2).bind fun a1=>
 bif a1.2 !=0 then
  some (aH.mk (aO.mk [] [] []) [] [],(0,0,0,0,0),a1.2)
 else
  (aZ p0.heap).bind fun l2=>
  (aZ p0.where_).bind fun l3=>
  (aK l2 (aA .i64 ((aa l2.length) -1))).bind fun a4=>
  (fF l2 0 (aA .i64 ((aa l2.length) -1))).bind fun _=>
  (aK l3 a0.2.2.2.1).bind fun _=>
  bif decide (p1<(aA .i64 ((aa l2.length) -1))) then
   ((lJ N) (a1.1.uses,a1.1.used,a1.1.free,(aA .i64 ((aa l2.length) -1)).toNat,l2.length,p1,a4.1,a4.2.1,a4.2.2.1,a4.2.2.2.1,a4.2.2.2.2,l2,bO l3 a0.2.2.2.1 (-1))).bind fun a7=>
   some (aH.mk a1.1 (a7.1.take ((aA .i64 ((aa l2.length) -1)).toNat)) a7.2,a0,0)
  else
   some (aH.mk a1.1 (l2.take ((aA .i64 ((aa l2.length) -1)).toNat)) (bO l3 a0.2.2.2.1 (-1)),a0,0)
def aKr (N:Nat):aU:=⟨aC.cons (aE.agg bY) (aC.one (aE.int .i64)),aE.tup (aC.cons (aE.agg bY) (aC.cons (aE.agg (bJ.row gM)) (aC.one (aE.int .i64)))),fun a=>(uW N) a.1 a.2,.frz,false⟩
theorem aCZ (N:Nat):aB tab 281 (aKr N):=aB.of aBx (cx:=(aM (aG N) [(300,(aKq N)),(220,aU.clone gM),(40,aU.clone ki)] [(286,(IB N))] [(285,PY)] [])) rfl (aL.make ⟨(aCY N),mE,hO,trivial⟩ ⟨(zU N),trivial⟩ ⟨HJ,trivial⟩) (fun a=>by kernel_rfl)
def kN (N:Nat) (p0:aH) (p1:Int×Int):Option (aH×(Int×Int×Int×Int×Int)×Int):=
 ((qE N) p0 p1).bind fun a0=>
 bif a0.2 !=0 then
  some (aH.mk (aO.mk [] [] []) [] [],(0,0,0,0,0),a0.2)
 else
  ((uW N) p0 a0.1).bind fun a1=>
  some a1
def aIK (N:Nat):aU:=⟨aC.cons (aE.agg bY) (aC.one (aE.agg (bJ.row fG))),aE.tup (aC.cons (aE.agg bY) (aC.cons (aE.agg (bJ.row gM)) (aC.one (aE.int .i64)))),fun a=>(kN N) a.1 a.2,.frz,false⟩
theorem OO (N:Nat):aB tab 242 (aIK N):=aB.of aBa (cx:=(aM (aG N) [(280,(aIJ N)),(281,(aKr N))] [] [] [])) rfl (aL.make ⟨(ON N),(aCZ N),trivial⟩ trivial trivial) (fun a=>by kernel_rfl)
def jQ (_:Nat) (a:(Int×Int×(List (Int×Int×Int)))):Option (Nat×Nat×(List (Int×Int×Int))):=
 bif (((decide (0<=a.1))&&(decide (a.1<=a.2.1)))&&(decide (a.2.1<=(aa a.2.2.length))))&&(decide ((aa a.2.2.length)<=(aa a.2.2.length))) then
  bif a.1==a.2.1 then
   bif a.2.2.length==a.2.2.length then
    some (a.2.2.length,a.2.2.length,a.2.2)
   else
    none
  else
   (fF a.2.2 0 a.1).bind fun _=>
   bif ((decide (0<=a.2.1))&&(decide (a.2.1<=(aa a.2.2.length))))&&(decide ((aa a.2.2.length)<=(aa a.2.2.length))) then
    bif ((a.2.2.drop (0+a.2.1.toNat)).take (((aa a.2.2.length).toNat) -a.2.1.toNat)).isEmpty then
     bif ((decide (0<=(aa a.1.toNat)))&&(decide ((aa a.1.toNat)<=(aa a.2.2.length))))&&(decide ((aa a.2.2.length)<=(aa a.2.2.length))) then
      bif ah (((aa a.2.2.length).toNat) - ((aa a.1.toNat).toNat)) 0 then
       bif a.2.2.length==a.2.2.length then
        some (a.1.toNat,a.2.2.length,a.2.2)
       else
        none
      else
       bif (ag ((0+((aa a.1.toNat).toNat))+(((aa a.2.2.length).toNat) - ((aa a.1.toNat).toNat))) a.2.2.length)&&(!false) then
        bif ((dB a.2.2 (0+((aa a.1.toNat).toNat)) (ae (((aa a.2.2.length).toNat) - ((aa a.1.toNat).toNat)) (0,0,0))).length)==a.2.2.length then
         some (a.1.toNat,a.2.2.length,dB a.2.2 (0+((aa a.1.toNat).toNat)) (ae (((aa a.2.2.length).toNat) - ((aa a.1.toNat).toNat)) (0,0,0)))
        else
         none
       else
        none
     else
      none
    else
     bif ag (a.1.toNat+(((a.2.2.drop (0+a.2.1.toNat)).take (((aa a.2.2.length).toNat) -a.2.1.toNat)).length)) a.2.2.length then
      bif (ag (a.1.toNat+(((a.2.2.drop (0+a.2.1.toNat)).take (((aa a.2.2.length).toNat) -a.2.1.toNat)).length)) a.2.2.length)&&(!false) then
       bif ((decide (0<=(aa (a.1.toNat+(((a.2.2.drop (0+a.2.1.toNat)).take (((aa a.2.2.length).toNat) -a.2.1.toNat)).length)))))&&(decide ((aa (a.1.toNat+(((a.2.2.drop (0+a.2.1.toNat)).take (((aa a.2.2.length).toNat) -a.2.1.toNat)).length)))<=(aa a.2.2.length))))&&(decide ((aa a.2.2.length)<=(aa a.2.2.length))) then
        bif ah (((aa a.2.2.length).toNat) - ((aa (a.1.toNat+(((a.2.2.drop (0+a.2.1.toNat)).take (((aa a.2.2.length).toNat) -a.2.1.toNat)).length))).toNat)) 0 then
         bif ((dB a.2.2 a.1.toNat ((a.2.2.drop (0+a.2.1.toNat)).take (((aa a.2.2.length).toNat) -a.2.1.toNat))).length)==a.2.2.length then
          some (a.1.toNat+(((a.2.2.drop (0+a.2.1.toNat)).take (((aa a.2.2.length).toNat) -a.2.1.toNat)).length),a.2.2.length,dB a.2.2 a.1.toNat ((a.2.2.drop (0+a.2.1.toNat)).take (((aa a.2.2.length).toNat) -a.2.1.toNat)))
         else
          none
        else
         bif (ag ((0+((aa (a.1.toNat+(((a.2.2.drop (0+a.2.1.toNat)).take (((aa a.2.2.length).toNat) -a.2.1.toNat)).length))).toNat))+(((aa a.2.2.length).toNat) - ((aa (a.1.toNat+(((a.2.2.drop (0+a.2.1.toNat)).take (((aa a.2.2.length).toNat) -a.2.1.toNat)).length))).toNat))) ((dB a.2.2 a.1.toNat ((a.2.2.drop (0+a.2.1.toNat)).take (((aa a.2.2.length).toNat) -a.2.1.toNat))).length))&&(!false) then
          bif ((dB (dB a.2.2 a.1.toNat ((a.2.2.drop (0+a.2.1.toNat)).take (((aa a.2.2.length).toNat) -a.2.1.toNat))) (0+((aa (a.1.toNat+(((a.2.2.drop (0+a.2.1.toNat)).take (((aa a.2.2.length).toNat) -a.2.1.toNat)).length))).toNat)) (ae (((aa a.2.2.length).toNat) - ((aa (a.1.toNat+(((a.2.2.drop (0+a.2.1.toNat)).take (((aa a.2.2.length).toNat) -a.2.1.toNat)).length))).toNat)) (0,0,0))).length)==a.2.2.length then
           some (a.1.toNat+(((a.2.2.drop (0+a.2.1.toNat)).take (((aa a.2.2.length).toNat) -a.2.1.toNat)).length),a.2.2.length,dB (dB a.2.2 a.1.toNat ((a.2.2.drop (0+a.2.1.toNat)).take (((aa a.2.2.length).toNat) -a.2.1.toNat))) (0+((aa (a.1.toNat+(((a.2.2.drop (0+a.2.1.toNat)).take (((aa a.2.2.length).toNat) -a.2.1.toNat)).length))).toNat)) (ae (((aa a.2.2.length).toNat) - ((aa (a.1.toNat+(((a.2.2.drop (0+a.2.1.toNat)).take (((aa a.2.2.length).toNat) -a.2.1.toNat)).length))).toNat)) (0,0,0)))
          else
           none
         else
          none
       else
        none
      else
       none
     else
      none
   else
    none
 else
  none
def TH (N:Nat):bW:=⟨[.i,.i,.l [.i .i64,.i .i64,.i .i64]],[.own 0 false,.int .i64 0,.int .i64 0],[.arr [.i .i64,.i .i64,.i .i64] []],[.n,.n,.l [.i .i64,.i .i64,.i .i64]],.pre 0 0 0 false,[.arr [.i .i64,.i .i64,.i .i64] []],fun a=>(jQ N) a⟩
theorem P8 (N:Nat):fL tab 243 (TH N):=fL.of aBb (wd:=true) (cx:=(aM (aG N) [] [] [] [])) (aL.make trivial trivial trivial) (fun a=>by kernel_rfl)
def D9 (N:Nat) (p0:aJ) (p1:Int):Option (aJ×(Int×Int)×Int):=
 ((AZ N) p0.certs p1).bind fun a0=>
 bif a0.2.2 !=0 then
  some (aJ.mk (0,0) (Field.mk []) (aQ.mk 0 []) (aH.mk (aO.mk [] [] []) [] []) [],a0.2)
 else
  ((mN N) p0).bind fun r1=>
  ((sN N) p0.due p1).bind fun a2=>
  bif a2.2 then
   (aK p0.due a2.1).bind fun a3=>
   ((kN N) p0.agenda a3.2).bind fun a4=>
   bif a4.2.2 !=0 then
    some (aJ.mk (0,0) (Field.mk []) (aQ.mk 0 []) (aH.mk (aO.mk [] [] []) [] []) [],a0.2.1,a4.2.2)
   else
    ((jQ N) (a2.1,aA .i64 (a2.1+1),r1.due)).bind fun a5=>
    some (aJ.mk r1.now r1.field a0.1 a4.1 (a5.2.2.take a5.1),a0.2.1,0)
  else
   some (aJ.mk r1.now r1.field a0.1 r1.agenda r1.due,a0.2.1,0)
def aKs (N:Nat):aU:=⟨aC.cons (aE.agg bE) (aC.one (aE.int .i64)),aE.tup (aC.cons (aE.agg bE) (aC.cons (aE.agg (bJ.row fG)) (aC.one (aE.int .i64)))),fun a=>(D9 N) a.1 a.2,.frz,false⟩
theorem aC0 (N:Nat):aB tab 188 (aKs N):=aB.of aAD (cx:=(aM (aG N) [(240,(aKn N)),(189,(aCV N)),(189,(OK N)),(241,(aIH N)),(242,(aIK N))] [(243,(TH N))] [] [])) rfl (aL.make ⟨(aCU N),(IA N),(D7 N),(OL N),(OO N),trivial⟩ ⟨(P8 N),trivial⟩ trivial) (fun a=>by kernel_rfl)
def yB (N:Nat) (p0:aJ) (p1:Int):Option (aJ×Int):=
 ((jE N) p0).bind fun n0=>
 bif n0 !=0 then
  some (aJ.mk (0,0) (Field.mk []) (aQ.mk 0 []) (aH.mk (aO.mk [] [] []) [] []) [],n0)
 else
  ((D9 N) p0 p1).bind fun a1=>
  some (a1.1,a1.2.2)
def aKt (N:Nat):aU:=⟨aC.cons (aE.agg bE) (aC.one (aE.int .i64)),aE.tup (aC.cons (aE.agg bE) (aC.one (aE.int .i64))),fun a=>(yB N) a.1 a.2,.frz,false⟩
theorem aC1 (N:Nat):aB tab 213 (aKt N):=aB.of aAM (cx:=(aM (aG N) [(86,(c86 N)),(188,(aKs N))] [] [] [])) rfl (aL.make ⟨(D2 N),(aC0 N),trivial⟩ trivial trivial) (fun a=>by kernel_rfl)
def qY (_:Nat) (s:((List (Int×Int×Int))×(List (Int×Int×Int))×Int×Int)):Option (aW ((List (Int×Int×Int))×(List (Int×Int×Int))×Int×Int) Bool):=
 bif decide (s.2.2.2<s.2.2.1) then
  (aK s.1 s.2.2.2).bind fun a0=>
  (aK s.2.1 s.2.2.2).bind fun a1=>
  bif !((a0.1==a1.1)&&((a0.2.1==a1.2.1)&&(a0.2.2==a1.2.2))) then
   some (.done false)
  else
   some (.next (s.1,s.2.1,s.2.2.1,aA .i64 (s.2.2.2+1)))
 else
  some (.done true)
def mO (N:Nat) (p0:List (Int×Int×Int)) (p1:List (Int×Int×Int)):Option Bool:=
 bif (aa p0.length) !=(aa p1.length) then
  some false
 else
  (aS N) (qY N) (p0,p1,aa p0.length,0)
def aKu (N:Nat):aU:=⟨aC.cons (aE.sl bX) (aC.one (aE.sl bX)),aE.bool,fun a=>(mO N) a.1 a.2,.pure,false⟩
theorem aC2 (N:Nat):aB tab 214 (aKu N):=aB.of aAN (cx:=(aM (aG N) [] [] [] [])) rfl (aL.make trivial trivial trivial) (fun a=>by kernel_rfl)
def cC (_:Nat) (a:((List Int)×(List Bool)×(List Int)×Int×Int×Int×Int×Int×Int×(List (Int×Int×Int×Int×Int))×(List Int))):Option ((List (Int×Int×Int×Int×Int))×(List Int)):=
 (aK a.2.2.2.2.2.2.2.2.2.1 a.2.2.2.1).bind fun _=>
 (aK a.2.2.2.2.2.2.2.2.2.2 a.2.2.2.2.2.2.2.1).bind fun _=>
 bif ((bO a.2.2.2.2.2.2.2.2.2.1 a.2.2.2.1 (a.2.2.2.2.1,a.2.2.2.2.2.1,a.2.2.2.2.2.2.1,a.2.2.2.2.2.2.2.1,a.2.2.2.2.2.2.2.2.1)).length)==a.2.2.2.2.2.2.2.2.2.1.length then
  bif ((bO a.2.2.2.2.2.2.2.2.2.2 a.2.2.2.2.2.2.2.1 a.2.2.2.1).length)==a.2.2.2.2.2.2.2.2.2.2.length then
   some (bO a.2.2.2.2.2.2.2.2.2.1 a.2.2.2.1 (a.2.2.2.2.1,a.2.2.2.2.2.1,a.2.2.2.2.2.2.1,a.2.2.2.2.2.2.2.1,a.2.2.2.2.2.2.2.2.1),bO a.2.2.2.2.2.2.2.2.2.2 a.2.2.2.2.2.2.2.1 a.2.2.2.1)
  else
   none
 else
  none
def TI (N:Nat):bW:=⟨[.l [.i .i64],.l [.b],.l [.i .i64],.i,.i,.i,.i,.i,.i,.l [.i .i64,.i .i64,.i .i64,.i .i64,.i .i64],.l [.i .i64]],[.agg [.sl [.i .i64] [],.sl [.b] [],.sl [.i .i64] [],.own 0 false,.own 1 false],.int .i64 0,.agg [.int .i64 0,.int .i64 0,.int .i64 0,.int .i64 0,.int .i64 0]],[.arr [.i .i64,.i .i64,.i .i64,.i .i64,.i .i64] [],.arr [.i .i64] []],[.l [.i .i64,.i .i64,.i .i64,.i .i64,.i .i64],.l [.i .i64]],.tup [],[.arr [.i .i64,.i .i64,.i .i64,.i .i64,.i .i64] [],.arr [.i .i64] []],fun a=>(cC N) a⟩
theorem P9 (N:Nat):fL tab 302 (TI N):=fL.of NX (wd:=false) (cx:=(aM (aG N) [] [] [] [])) (aL.make trivial trivial trivial) (fun a=>by kernel_rfl)
end
end Go.Proofs.YtogihpogmfjoiaaGreat
