/- Plain functions for what the functions of the seat compute. Printed by a program. -/
import Derived.Test.YtmlghnibpjlchaaGreatBVm3
import Derived.Test.YtmlghnibpjlchaaGreatBQXT
set_option maxRecDepth 100000
namespace Go.Proofs.YtmlghnibpjlchaaGreat
open Go.Vm
noncomputable section
theorem Oc {f:FuncId} {x:aI} {α β:Type} {args:aB α} {res:aG β} {kd:Kd} {fn:α->Option β} {ow:Bool} (hf:aT f=some (.code x)) (ho:Z6 kd ow=true) (lp:Option Nat) (l:List (Nat×bF)) (h:CC aT l) (e: ∀a,aGh (mV lp l [] [] []) x args res kd a=fn a):aF aT f ⟨args,res,fn,kd,ow⟩:=aF.of hf (cx:=mV lp l [] [] []) ho (jY.make h trivial trivial) e
abbrev eS:List PT:=[.i .i64,.i .i64,.i .i64]
abbrev ki:List PT:=[.i .i64]
abbrev kb:List PT:=[.b]
abbrev iD:List PT:=[.i .i64,.i .i64,.i .i64,.i .i64,.i .i64]
abbrev gU:List PT:=[.i .i64,.i .i64]
abbrev yT:List PT:=[.b,.i .u64,.i .u64]
abbrev aL0:List PT:=[.i .i64,.i .i64,.i .i64,.i .i64]
abbrev kiu:List PT:=[.i .i64,.i .u64]
structure Field where
 points:List (Int×Int×Int)
def cF:bY Field:=bY.iso (bY.sl eS) (fun p=>⟨p⟩) (fun c=>c.points) (fun _=>rfl)
structure aR where
 uses:List Int
 used:List Bool
 free:List Int
def dW:bY aR:=bY.iso (bY.prod (bY.sl ki) (bY.prod (bY.sl kb) (bY.sl ki))) (fun p=>⟨p.1,p.2.1,p.2.2⟩) (fun c=>(c.uses,c.used,c.free)) (fun _=>rfl)
structure aJ where
 slots:aR
 heap:List (Int×Int×Int×Int×Int)
 where_:List Int
def bV:bY aJ:=bY.iso (bY.prod dW (bY.prod (bY.sl iD) (bY.sl ki))) (fun p=>⟨p.1,p.2.1,p.2.2⟩) (fun c=>(c.slots,c.heap,c.where_)) (fun _=>rfl)
structure aW where
 next_:Int
 list:List (Int×Int×Int)
def eV:bY aW:=bY.iso (bY.prod (bY.int .i64) (bY.sl eS)) (fun p=>⟨p.1,p.2⟩) (fun c=>(c.next_,c.list)) (fun _=>rfl)
structure aO where
 now:Int×Int
 field:Field
 certs:aW
 agenda:aJ
 due:List (Int×Int×Int)
def bR:bY aO:=bY.iso (bY.prod (bY.row gU) (bY.prod cF (bY.prod eV (bY.prod bV (bY.sl eS))))) (fun p=>⟨p.1,p.2.1,p.2.2.1,p.2.2.2.1,p.2.2.2.2⟩) (fun c=>(c.now,c.field,c.certs,c.agenda,c.due)) (fun _=>rfl)
structure dY where
 clock:aO
 heap:List Int
def gP:bY dY:=bY.iso (bY.prod bR (bY.sl ki)) (fun p=>⟨p.1,p.2⟩) (fun c=>(c.clock,c.heap)) (fun _=>rfl)
def mK (p0:Field):Option Bool:=
 bif decide (16<(Int.ofNat p0.points.length)) then
  bif decide ((Int.ofNat p0.points.length)<64) then
   some true
  else
   some (decide (70<(Int.ofNat p0.points.length)))
 else
  some (decide (70<(Int.ofNat p0.points.length)))
def c16:bF:=⟨aB.one (aG.agg cF),aG.bool,fun a=>mK a,.pure,false⟩
theorem XW:aF aT 16 c16:=Oc aJI rfl aC [] trivial fun a=>by kernel_rfl
def yU (p0:aR):Option Bool:=
 bif decide (210<(Int.ofNat p0.uses.length)) then
  some true
 else
  bif decide (210<(Int.ofNat p0.used.length)) then
   some true
  else
   some (decide (210<(Int.ofNat p0.free.length)))
def aL1:bF:=⟨aB.one (aG.agg dW),aG.bool,fun a=>yU a,.pure,false⟩
theorem aEl:aF aT 132 aL1:=Oc aCM rfl aC [] trivial fun a=>by kernel_rfl
def yV (p0:aJ):Option Bool:=
 (yU p0.slots).bind fun b0=>
 bif b0 then
  some true
 else
  bif decide (210<(Int.ofNat p0.heap.length)) then
   some true
  else
   some (decide (210<(Int.ofNat p0.where_.length)))
def c71:bF:=⟨aB.one (aG.agg bV),aG.bool,fun a=>yV a,.pure,false⟩
theorem aKv:aF aT 71 c71:=Oc aKf rfl aC [(132,aL1)] ⟨aEl,trivial⟩ fun a=>by kernel_rfl
def qH (p0:aO):Option Bool:=
 bif decide (40<(Int.ofNat p0.certs.list.length)) then
  some true
 else
  bif decide (40<(Int.ofNat p0.due.length)) then
   some true
  else
   (mK p0.field).bind fun b0=>
   bif b0 then
    some true
   else
    (yV p0.agenda).bind fun b1=>
    some b1
def c31:bF:=⟨aB.one (aG.agg bR),aG.bool,fun a=>qH a,.pure,false⟩
theorem aKw:aF aT 31 c31:=Oc aJT rfl aC [(16,c16),(71,c71)] ⟨XW,aKv,trivial⟩ fun a=>by kernel_rfl
def qI (p0:dY):Option Bool:=
 (qH p0.clock).bind fun b0=>
 bif b0 then
  some true
 else
  some (decide (70<(Int.ofNat p0.heap.length)))
def c7:bF:=⟨aB.one (aG.agg gP),aG.bool,fun a=>qI a,.pure,false⟩
theorem aL2:aF aT 7 c7:=Oc aLZ rfl aC [(31,c31)] ⟨aKw,trivial⟩ fun a=>by kernel_rfl
def nD (p0:Int):Option Bool:=
 bif decide (p0<(-1048576)) then
  some true
 else
  some (decide (1048576<p0))
def aL3:bF:=⟨aB.one (aG.int .i64),aG.bool,fun a=>nD a,.pure,false⟩
theorem aEm:aF aT 177 aL3:=Oc aDq rfl aC [] trivial fun a=>by kernel_rfl
def kU (p0:Int×Int×Int):Option Int:=
 bif decide (p0.1<0) then
  some 8
 else
  bif decide (65535<p0.1) then
   some 8
  else
   (nD p0.2.1).bind fun b0=>
   bif b0 then
    some 8
   else
    (nD p0.2.2).bind fun b1=>
    bif b1 then
     some 8
    else
     some 0
def aKx:bF:=⟨aB.one (aG.agg (bY.row eS)),aG.int .i64,fun a=>kU a,.pure,false⟩
theorem TK:aF aT 128 aKx:=Oc aCJ rfl aC [(177,aL3)] ⟨aEm,trivial⟩ fun a=>by kernel_rfl
def gG (s:((List (Int×Int×Int))×Int×Int×(List (Int×Int×Int)))):Option (bH ((List (Int×Int×Int))×Int×Int×(List (Int×Int×Int))) (bH ((List (Int×Int×Int))×Int×Int×(List (Int×Int×Int))) Int)):=
 bif decide (s.2.2.1<s.2.1) then
  (aL s.1 s.2.2.1).bind fun a0=>
  bif decide (0<s.2.2.1) then
   (aL s.2.2.2 (aA .i64 (s.2.2.1-1))).bind fun a1=>
   bif decide (a0.1<=a1.1) then
    some (.done (.done 32))
   else
    some (.next (s.1,s.2.1,aA .i64 (s.2.2.1+1),s.2.2.2))
  else
   some (.next (s.1,s.2.1,aA .i64 (s.2.2.1+1),s.2.2.2))
 else
  some (.done (.done 0))
def kH (s:((List (Int×Int×Int))×Int×Int×(List (Int×Int×Int)))):Option (bH ((List (Int×Int×Int))×Int×Int×(List (Int×Int×Int))) Int):=
 bif decide (s.2.2.1<s.2.1) then
  (aL s.1 s.2.2.1).bind fun a0=>
  (kU a0).bind fun n1=>
  bif n1 !=0 then
   some (.done n1)
  else
   some (.next (s.1,s.2.1,aA .i64 (s.2.2.1+1),s.2.2.2))
 else
  aK gG (s.2.2.2,Int.ofNat s.2.2.2.length,0,s.2.2.2)
def jC (p0:Field):Option Int:=
 bif decide (64<(Int.ofNat p0.points.length)) then
  some 4
 else
  aK kH (p0.points,Int.ofNat p0.points.length,0,p0.points)
def XX:bF:=⟨aB.one (aG.agg cF),aG.int .i64,fun a=>jC a,.pure,false⟩
theorem GI:aF aT 104 XX:=Oc aCm rfl aC [(128,aKx)] ⟨TK,trivial⟩ fun a=>by kernel_rfl
def jW (p0:Int):Option Int:=
 bif decide (p0<0) then
  some (aA .u64 (0- (aA .u64 p0)))
 else
  some (aA .u64 p0)
def c76:bF:=⟨aB.one (aG.int .i64),aG.int .u64,fun a=>jW a,.pure,false⟩
theorem Q4:aF aT 76 c76:=Oc aKh rfl aC [] trivial fun a=>by kernel_rfl
def rL (s:(Int×Int)):Option (bH (Int×Int) Int):=
 bif decide (0<s.2) then
  bif s.2==0 then
   none
  else
   some (.next (s.2,Int.tmod s.1 s.2))
 else
  some (.done s.1)
def vD (p0:Int) (p1:Int):Option Int:=
 aK rL (p0,p1)
def c75:bF:=⟨aB.cons (aG.int .u64) (aB.one (aG.int .u64)),aG.int .u64,fun a=>vD a.1 a.2,.pure,false⟩
theorem XY:aF aT 75 c75:=Oc aKg rfl aC [] trivial fun a=>by kernel_rfl
def fA (p0:Int×Int):Option Int:=
 bif decide (p0.2<1) then
  some 8
 else
  bif p0.1==(-9223372036854775808) then
   some 8
  else
   (jW p0.1).bind fun n0=>
   (vD (aA .u64 p0.2) n0).bind fun n1=>
   bif decide (1<n1) then
    some 8
   else
    some 0
def c33:bF:=⟨aB.one (aG.agg (bY.row gU)),aG.int .i64,fun a=>fA a,.pure,false⟩
theorem CE:aF aT 33 c33:=Oc aJU rfl aC [(76,c76),(75,c75)] ⟨Q4,XY,trivial⟩ fun a=>by kernel_rfl
def FU (s:(Int×Int×Int×(List Int)×(List Bool)×(List Int))):Option (bH (Int×Int×Int×(List Int)×(List Bool)×(List Int)) (aR×Int)):=
 bif decide (s.2.2.1<s.2.1) then
  (aL s.2.2.2.2.2 s.2.2.1).bind fun _=>
  some (.next (s.1,s.2.1,aA .i64 (s.2.2.1+1),s.2.2.2.1,s.2.2.2.2.1,cD s.2.2.2.2.2 s.2.2.1 (aA .i64 ((aA .i64 (s.1-1)) -s.2.2.1))))
 else
  some (.done (aR.mk s.2.2.2.1 s.2.2.2.2.1 s.2.2.2.2.2,0))
def DP (p0:Int):Option (aR×Int):=
 bif decide (p0<1) then
  some (aR.mk [] [] [],2)
 else
  bif decide (200<p0) then
   some (aR.mk [] [] [],2)
  else
   bif p0==p0 then
    (yJ p0 (0:Int)).bind fun l0=>
    bif p0==p0 then
     (yJ p0 (false:Bool)).bind fun l1=>
     bif p0==p0 then
      (yJ p0 (0:Int)).bind fun l2=>
      aK FU (p0,p0,0,l0,l1,l2)
     else
      none
    else
     none
   else
    none
def aL4:bF:=⟨aB.one (aG.int .i64),aG.tup (aB.cons (aG.agg dW) (aB.one (aG.int .i64))),fun a=>DP a,.frz,false⟩
theorem aEn:aF aT 155 aL4:=Oc aC6 rfl aC [] trivial fun a=>by kernel_rfl
def F8 (p0:Int) (p1:Int):Option (Int×Int):=
 some (aA .u32 (oO .u64 (aA .u64 ((aA .u64 p0)*(aA .u64 p1))) 32),aA .u32 (aA .u64 ((aA .u64 p0)*(aA .u64 p1))))
def aL5:bF:=⟨aB.cons (aG.int .u32) (aB.one (aG.int .u32)),aG.tup (aB.cons (aG.int .u32) (aB.one (aG.int .u32))),fun a=>F8 a.1 a.2,.pure,false⟩
theorem aEo:aF aT 226 aL5:=Oc aD4 rfl aC [] trivial fun a=>by kernel_rfl
def eM (p0:Int) (p1:Int):Option (Int×Int):=
 some (aA .u64 ((aA .u64 ((aA .u64 ((oO .u64 p0 32)*(oO .u64 p1 32)))+(oO .u64 (aA .u64 ((aA .u64 ((oO .u64 p0 32)*(F6 .u64 p1 4294967295)))+(oO .u64 (aA .u64 ((F6 .u64 p0 4294967295)*(F6 .u64 p1 4294967295))) 32))) 32)))+(oO .u64 (aA .u64 ((F6 .u64 (aA .u64 ((aA .u64 ((oO .u64 p0 32)*(F6 .u64 p1 4294967295)))+(oO .u64 (aA .u64 ((F6 .u64 p0 4294967295)*(F6 .u64 p1 4294967295))) 32))) 4294967295)+(aA .u64 ((F6 .u64 p0 4294967295)*(oO .u64 p1 32))))) 32)),aA .u64 (p0*p1))
def aEp:bF:=⟨aB.cons (aG.int .u64) (aB.one (aG.int .u64)),aG.tup (aB.cons (aG.int .u64) (aB.one (aG.int .u64))),fun a=>eM a.1 a.2,.pure,false⟩
theorem L3:aF aT 136 aEp:=Oc aCP rfl aC [] trivial fun a=>by kernel_rfl
def uH (p0:Int) (p1:Int):Option (Int×Int):=
 (eM p0 p1).bind fun a0=>
 some a0
def aKy:bF:=⟨aB.cons (aG.int .u64) (aB.one (aG.int .u64)),aG.tup (aB.cons (aG.int .u64) (aB.one (aG.int .u64))),fun a=>uH a.1 a.2,.pure,false⟩
theorem TL:aF aT 197 aKy:=Oc aDH rfl aC [(226,aL5),(136,aEp)] ⟨aEo,L3,trivial⟩ fun a=>by kernel_rfl
def kI (s:(Int×(List Int))):Option (bH (Int×(List Int)) (List Int)):=
 bif decide (s.1<(Int.ofNat s.2.length)) then
  bif ((decide (0<=s.1))&&(decide (s.1<=(Int.ofNat s.2.length))))&&(decide ((Int.ofNat s.2.length)<=(Int.ofNat s.2.length))) then
   (jJ s.2 0 s.1).bind fun _=>
   bif ((s.2.take s.1.toNat).take (((Int.ofNat s.2.length).toNat) -s.1.toNat)).isEmpty then
    some (.next (aA .i64 (s.1+0),s.2))
   else
    bif (Nat.ble ((0+s.1.toNat)+(((s.2.take s.1.toNat).take (((Int.ofNat s.2.length).toNat) -s.1.toNat)).length)) s.2.length)&&(!false) then
     some (.next (aA .i64 (s.1+(Int.ofNat (((s.2.take s.1.toNat).take (((Int.ofNat s.2.length).toNat) -s.1.toNat)).length))),iO s.2 (0+s.1.toNat) ((s.2.take s.1.toNat).take (((Int.ofNat s.2.length).toNat) -s.1.toNat))))
    else
     none
  else
   none
 else
  some (.done s.2)
def hG (p0:List Int) (p1:Int):Option (List Int):=
 bif decide (p1<0) then
  none
 else
  (uH (aA .u64 (Int.ofNat p0.length)) (aA .u64 p1)).bind fun a0=>
  bif decide (0<a0.1) then
   none
  else
   bif decide (9223372036854775807<a0.2) then
    none
   else
    bif (aA .i64 a0.2)==(aA .i64 a0.2) then
     (yJ (aA .i64 a0.2) (0:Int)).bind fun l1=>
     bif (p0.take l1.length).isEmpty then
      aK kI (0,l1)
     else
      bif (Nat.ble (0+((p0.take l1.length).length)) l1.length)&&(!false) then
       aK kI (Int.ofNat ((p0.take l1.length).length),iO l1 0 (p0.take l1.length))
      else
       none
    else
     none
def aL6:bF:=⟨aB.cons (aG.sl ki) (aB.one (aG.int .i64)),aG.sl ki,fun a=>hG a.1 a.2,.own,true⟩
def aGo:bF:=⟨aB.cons (aG.sl ki) (aB.one (aG.int .i64)),aG.sl ki,fun a=>hG a.1 a.2,.frz,false⟩
theorem aEq:aF aT 156 aL6:=Oc TD rfl aC [(197,aKy)] ⟨TL,trivial⟩ fun a=>by kernel_rfl
theorem XZ:aF aT 156 aGo:=Oc TD rfl aC [(197,aKy)] ⟨TL,trivial⟩ fun a=>by kernel_rfl
def wI (p0:Int):Option (aJ×Int):=
 (DP p0).bind fun a0=>
 bif a0.2 !=0 then
  some (aJ.mk (aR.mk [] [] []) [] [],a0.2)
 else
  (hG [-1] p0).bind fun l1=>
  some (aJ.mk a0.1 [] l1,0)
def aL7:bF:=⟨aB.one (aG.int .i64),aG.tup (aB.cons (aG.agg bV) (aB.one (aG.int .i64))),fun a=>wI a,.frz,false⟩
theorem aEr:aF aT 105 aL7:=Oc aCn rfl aC [(155,aL4),(156,aL6),(156,aGo)] ⟨aEn,aEq,XZ,trivial⟩ fun a=>by kernel_rfl
theorem GJ:aF aT 94 (bF.clone eS):=aF.clone aKs rfl
def zX (p0:Field) (p1:Int×Int):Option (aO×Int):=
 (jC p0).bind fun n0=>
 bif n0 !=0 then
  some (aO.mk (0,0) (Field.mk []) (aW.mk 0 []) (aJ.mk (aR.mk [] [] []) [] []) [],n0)
 else
  (fA p1).bind fun n1=>
  bif n1 !=0 then
   some (aO.mk (0,0) (Field.mk []) (aW.mk 0 []) (aJ.mk (aR.mk [] [] []) [] []) [],n1)
  else
   (wI 200).bind fun a2=>
   (cG p0.points).bind fun l3=>
   some (aO.mk p1 (Field.mk l3) (aW.mk 0 []) a2.1 [],a2.2)
def c50:bF:=⟨aB.cons (aG.agg cF) (aB.one (aG.agg (bY.row gU))),aG.tup (aB.cons (aG.agg bR) (aB.one (aG.int .i64))),fun a=>zX a.1 a.2,.frz,false⟩
theorem aKz:aF aT 50 c50:=Oc aJ0 rfl aC [(104,XX),(33,c33),(105,aL7),(94,bF.clone eS)] ⟨GI,CE,aEr,GJ,trivial⟩ fun a=>by kernel_rfl
def nE (s:((List Int)×Int×(List (Int×Int)))):Option (bH ((List Int)×Int×(List (Int×Int))) (List (Int×Int))):=
 bif decide (s.2.1<(Int.ofNat s.1.length)) then
  (aL s.1 s.2.1).bind fun n0=>
  (aL s.1 (aA .i64 (Int.tdiv (aA .i64 (s.2.1-1)) 2))).bind fun n1=>
  (bM s.2.2 [(n0,n1)]).bind fun l2=>
  some (.next (s.1,aA .i64 (s.2.1+1),l2))
 else
  some (.done s.2.2)
def mL (p0:List Int):Option (List (Int×Int)):=
 aK nE (p0,1,[])
def c53:bF:=⟨aB.one (aG.sl ki),aG.sl gU,fun a=>mL a,.frz,false⟩
theorem Q5:aF aT 53 c53:=Oc aJ3 rfl aC [] trivial fun a=>by kernel_rfl
def hH (s:((List (Int×Int))×Int×Int×Int×Int)):Option (bH ((List (Int×Int))×Int×Int×Int×Int) Int):=
 bif decide (s.2.2.1<s.2.1) then
  (aL s.1 s.2.2.1).bind fun a0=>
  bif (s.2.2.2.1==a0.1)&&(s.2.2.2.2==a0.2) then
   some (.done s.2.2.1)
  else
   some (.next (s.1,s.2.1,aA .i64 (s.2.2.1+1),s.2.2.2))
 else
  some (.done (-1))
def nF (p0:List (Int×Int)) (p1:Int×Int):Option Int:=
 aK hH (p0,Int.ofNat p0.length,0,p1)
def aL8:bF:=⟨aB.cons (aG.sl gU) (aB.one (aG.agg (bY.row gU))),aG.int .i64,fun a=>nF a.1 a.2,.pure,false⟩
theorem aEs:aF aT 120 aL8:=Oc aCB rfl aC [] trivial fun a=>by kernel_rfl
def fB (p0:List (Int×Int)) (p1:Int×Int):Option Bool:=
 (nF p0 p1).bind fun n0=>
 some (decide (0<=n0))
def c61:bF:=⟨aB.cons (aG.sl gU) (aB.one (aG.agg (bY.row gU))),aG.bool,fun a=>fB a.1 a.2,.pure,false⟩
theorem X0:aF aT 61 c61:=Oc aKa rfl aC [(120,aL8)] ⟨aEs,trivial⟩ fun a=>by kernel_rfl
def sD (p0:Int×Int):Option Bool:=
 bif decide (0<=(if p0.2<p0.1 then p0.2 else p0.1)) then
  bif decide ((if p0.2>p0.1 then p0.2 else p0.1)<=65535) then
   some (p0.1 !=p0.2)
  else
   some false
 else
  some false
def aKA:bF:=⟨aB.one (aG.agg (bY.row gU)),aG.bool,fun a=>sD a,.pure,false⟩
theorem TM:aF aT 166 aKA:=Oc aDf rfl aC [] trivial fun a=>by kernel_rfl
def pH (s:(Int×(List (Int×Int×Int))×Int×Int×Int×(List (Int×Int×Int))×(List (List Int)))):Option (bH (Int×(List (Int×Int×Int))×Int×Int×Int×(List (Int×Int×Int))×(List (List Int))) Int):=
 bif decide (s.2.2.2.1<s.2.2.1) then
  (aL s.2.1 s.2.2.2.1).bind fun a0=>
  (sD a0.2).bind fun b1=>
  bif !b1 then
   some (.done 8)
  else
   (NX s.2.2.2.2.2.2 [a0.2.1,a0.2.2]).bind fun b2=>
   bif b2 then
    some (.done 8)
   else
    bif decide (a0.1<=s.1) then
     some (.done 8)
    else
     bif decide (s.2.2.2.2.1<=a0.1) then
      some (.done 8)
     else
      (NY s.2.2.2.2.2.2 [a0.2.1,a0.2.2]).bind fun l3=>
      some (.next (a0.1,s.2.1,s.2.2.1,aA .i64 (s.2.2.2.1+1),s.2.2.2.2.1,s.2.2.2.2.2.1,l3))
 else
  some (.done 0)
def oR (p0:aW):Option Int:=
 bif decide (200<(Int.ofNat p0.list.length)) then
  some 8
 else
  bif decide (p0.next_<0) then
   some 8
  else
   bif decide (1000000<p0.next_) then
    some 8
   else
    aK pH (-1,p0.list,Int.ofNat p0.list.length,0,p0.next_,p0.list,[])
def aEt:bF:=⟨aB.one (aG.agg eV),aG.int .i64,fun a=>oR a,.pure,false⟩
theorem L4:aF aT 117 aEt:=Oc aCy rfl aC [(166,aKA)] ⟨TM,trivial⟩ fun a=>by kernel_rfl
theorem yW:aF aT 141 (bF.clone kb):=aF.clone aCU rfl
def fC (s:((List Bool)×Bool×Int×Int)):Option (bH ((List Bool)×Bool×Int×Int) Int):=
 bif decide (s.2.2.2<s.2.2.1) then
  (aL s.1 s.2.2.2).bind fun b0=>
  bif s.2.1==b0 then
   some (.done s.2.2.2)
  else
   some (.next (s.1,s.2.1,s.2.2.1,aA .i64 (s.2.2.2+1)))
 else
  some (.done (-1))
def nG (p0:List Bool) (p1:Bool):Option Int:=
 aK fC (p0,p1,Int.ofNat p0.length,0)
def aL9:bF:=⟨aB.cons (aG.sl kb) (aB.one aG.bool),aG.int .i64,fun a=>nG a.1 a.2,.pure,false⟩
theorem aEu:aF aT 234 aL9:=Oc aEa rfl aC [] trivial fun a=>by kernel_rfl
def dD (p0:List Bool) (p1:Bool):Option Bool:=
 (nG p0 p1).bind fun n0=>
 some (decide (0<=n0))
def aMa:bF:=⟨aB.cons (aG.sl kb) (aB.one aG.bool),aG.bool,fun a=>dD a.1 a.2,.pure,false⟩
theorem aEv:aF aT 212 aMa:=Oc aDU rfl aC [(234,aL9)] ⟨aEu,trivial⟩ fun a=>by kernel_rfl
def eW (s:((List Int)×Int×Int×(List Int)×(List Bool)×(List Int))):Option (bH ((List Int)×Int×Int×(List Int)×(List Bool)×(List Int)) (bH ((List Int)×Int×Int×(List Int)×(List Bool)×(List Int)×Int×(List Bool)) Int)):=
 bif decide (s.2.2.1<s.2.1) then
  (aL s.1 s.2.2.1).bind fun n0=>
  bif decide (n0<0) then
   some (.done (.done 8))
  else
   bif decide (1000000<n0) then
    some (.done (.done 8))
   else
    bif n0==0 then
     (aL s.2.2.2.2.1 s.2.2.1).bind fun b1=>
     bif b1 then
      some (.done (.done 8))
     else
      some (.next (s.1,s.2.1,aA .i64 (s.2.2.1+1),s.2.2.2))
    else
     some (.next (s.1,s.2.1,aA .i64 (s.2.2.1+1),s.2.2.2))
 else
  some (.done (.done 0))
def pI (c0:(List Bool)) (s:((List Int)×Int×Int×(List Int)×(List Bool)×(List Int)×Int×(List Bool))):Option (bH ((List Int)×Int×Int×(List Int)×(List Bool)×(List Int)×Int×(List Bool)) Int):=
 bif decide (s.2.2.1<s.2.1) then
  (aL s.1 s.2.2.1).bind fun n0=>
  bif decide (n0<0) then
   bif s.2.2.2.2.2.2.2.length==s.2.2.2.2.2.2.2.length then
    bif s.2.2.2.2.2.2.2.length==c0.length then
     bif s.2.2.2.2.2.2.2.length==c0.length then
      bif decide (0<=s.2.2.1) then
       some (.done 8)
      else
       (dD s.2.2.2.2.2.2.2 false).bind fun b1=>
       bif b1 then
        some (.done 8)
       else
        aK eW (s.2.2.2.1,Int.ofNat s.2.2.2.1.length,0,s.2.2.2.1,s.2.2.2.2.1,s.2.2.2.2.2.1)
     else
      none
    else
     none
   else
    none
  else
   bif decide (s.2.2.2.2.2.2.1<=n0) then
    bif s.2.2.2.2.2.2.2.length==s.2.2.2.2.2.2.2.length then
     bif s.2.2.2.2.2.2.2.length==c0.length then
      bif s.2.2.2.2.2.2.2.length==c0.length then
       bif decide (0<=s.2.2.1) then
        some (.done 8)
       else
        (dD s.2.2.2.2.2.2.2 false).bind fun b2=>
        bif b2 then
         some (.done 8)
        else
         aK eW (s.2.2.2.1,Int.ofNat s.2.2.2.1.length,0,s.2.2.2.1,s.2.2.2.2.1,s.2.2.2.2.2.1)
      else
       none
     else
      none
    else
     none
   else
    (aL s.2.2.2.2.2.2.2 n0).bind fun b3=>
    bif b3 then
     bif s.2.2.2.2.2.2.2.length==s.2.2.2.2.2.2.2.length then
      bif s.2.2.2.2.2.2.2.length==c0.length then
       bif s.2.2.2.2.2.2.2.length==c0.length then
        bif decide (0<=s.2.2.1) then
         some (.done 8)
        else
         (dD s.2.2.2.2.2.2.2 false).bind fun b4=>
         bif b4 then
          some (.done 8)
         else
          aK eW (s.2.2.2.1,Int.ofNat s.2.2.2.1.length,0,s.2.2.2.1,s.2.2.2.2.1,s.2.2.2.2.2.1)
       else
        none
      else
       none
     else
      none
    else
     (aL s.2.2.2.2.2.2.2 n0).bind fun _=>
     bif ((cD s.2.2.2.2.2.2.2 n0 true).length)==s.2.2.2.2.2.2.2.length then
      some (.next (s.1,s.2.1,aA .i64 (s.2.2.1+1),s.2.2.2.1,s.2.2.2.2.1,s.2.2.2.2.2.1,s.2.2.2.2.2.2.1,cD s.2.2.2.2.2.2.2 n0 true))
     else
      none
 else
  bif s.2.2.2.2.2.2.2.length==c0.length then
   bif s.2.2.2.2.2.2.2.length==c0.length then
    (dD s.2.2.2.2.2.2.2 false).bind fun b6=>
    bif b6 then
     some (.done 8)
    else
     aK eW (s.2.2.2.1,Int.ofNat s.2.2.2.1.length,0,s.2.2.2.1,s.2.2.2.2.1,s.2.2.2.2.2.1)
   else
    none
  else
   none
def oS (p0:aR):Option Int:=
 bif decide ((Int.ofNat p0.uses.length)<1) then
  some 8
 else
  bif decide (200<(Int.ofNat p0.uses.length)) then
   some 8
  else
   bif (Int.ofNat p0.used.length) !=(Int.ofNat p0.uses.length) then
    some 8
   else
    (cG p0.used).bind fun l0=>
    aK (pI l0) (p0.free,Int.ofNat p0.free.length,0,p0.uses,p0.used,p0.free,Int.ofNat p0.uses.length,l0)
def aEw:bF:=⟨aB.one (aG.agg dW),aG.int .i64,fun a=>oS a,.pure,false⟩
theorem L5:aF aT 167 aEw:=aF.of aDg (cx:=(mV aC [(141,bF.clone kb),(212,aMa)] [] [(210,aBH),(233,aB4),(211,aBJ)] [])) rfl (jY.make ⟨yW,aEv,trivial⟩ trivial ⟨aDS,aD9,aDT,trivial⟩) (fun a=>by kernel_rfl)
def wJ (p0:Int×Int) (p1:Int×Int):Option Int:=
 (fA p0).bind fun n0=>
 (fA p1).bind fun n1=>
 some (if n1>n0 then n1 else n0)
def c77:bF:=⟨aB.cons (aG.agg (bY.row gU)) (aB.one (aG.agg (bY.row gU))),aG.int .i64,fun a=>wJ a.1 a.2,.pure,false⟩
theorem aKB:aF aT 77 c77:=Oc aKi rfl aC [(33,c33)] ⟨CE,trivial⟩ fun a=>by kernel_rfl
def lR (p0:Int):Option Bool:=
 some (p0 !=p0)
def aMb:bF:=⟨aB.one (aG.int .i64),aG.bool,fun a=>lR a,.pure,false⟩
theorem aEx:aF aT 134 aMb:=Oc aCN rfl aC [] trivial fun a=>by kernel_rfl
def hJ (p0:Int) (p1:Int):Option Int:=
 (lR p0).bind fun b0=>
 (lR p1).bind fun b1=>
 bif b0 then
  bif b1 then
   some 0
  else
   some (-1)
 else
  bif b1 then
   some 1
  else
   bif decide (p0<p1) then
    some (-1)
   else
    bif decide (p1<p0) then
     some 1
    else
     some 0
def c78:bF:=⟨aB.cons (aG.int .i64) (aB.one (aG.int .i64)),aG.int .i64,fun a=>hJ a.1 a.2,.pure,false⟩
theorem X1:aF aT 78 c78:=Oc aKj rfl aC [(134,aMb)] ⟨aEx,trivial⟩ fun a=>by kernel_rfl
def qJ (p0:Int) (p1:Int):Option (Bool×Int×Int):=
 (jW p0).bind fun n0=>
 (jW p1).bind fun n1=>
 (eM n0 n1).bind fun a2=>
 some (!((decide (p0<0))==(decide (p1<0))),a2)
def c80:bF:=⟨aB.cons (aG.int .i64) (aB.one (aG.int .i64)),aG.agg (bY.row yT),fun a=>qJ a.1 a.2,.pure,false⟩
theorem aKC:aF aT 80 c80:=Oc aKl rfl aC [(76,c76),(136,aEp)] ⟨Q4,L3,trivial⟩ fun a=>by kernel_rfl
def kV (p0:Int):Option Bool:=
 some (p0 !=p0)
def aMc:bF:=⟨aB.one (aG.int .u64),aG.bool,fun a=>kV a,.pure,false⟩
theorem aEy:aF aT 183 aMc:=Oc aDt rfl aC [] trivial fun a=>by kernel_rfl
def gH (p0:Int) (p1:Int):Option Int:=
 (kV p0).bind fun b0=>
 (kV p1).bind fun b1=>
 bif b0 then
  bif b1 then
   some 0
  else
   some (-1)
 else
  bif b1 then
   some 1
  else
   bif decide (p0<p1) then
    some (-1)
   else
    bif decide (p1<p0) then
     some 1
    else
     some 0
def aMd:bF:=⟨aB.cons (aG.int .u64) (aB.one (aG.int .u64)),aG.int .i64,fun a=>gH a.1 a.2,.pure,false⟩
theorem aEz:aF aT 135 aMd:=Oc aCO rfl aC [(183,aMc)] ⟨aEy,trivial⟩ fun a=>by kernel_rfl
def pJ (p0:Bool×Int×Int) (p1:Bool×Int×Int):Option Int:=
 (gH p0.2.1 p1.2.1).bind fun n0=>
 bif n0 !=0 then
  some n0
 else
  (gH p0.2.2 p1.2.2).bind fun n1=>
  some n1
def c79:bF:=⟨aB.cons (aG.agg (bY.row yT)) (aB.one (aG.agg (bY.row yT))),aG.int .i64,fun a=>pJ a.1 a.2,.pure,false⟩
theorem aKD:aF aT 79 c79:=Oc aKk rfl aC [(135,aMd)] ⟨aEz,trivial⟩ fun a=>by kernel_rfl
def zY (p0:Int×Int) (p1:Int×Int):Option (Int×Int):=
 (wJ p0 p1).bind fun n0=>
 bif n0 !=0 then
  some (0,n0)
 else
  bif !((decide (p0.1<0))==(decide (p1.1<0))) then
   (hJ p0.1 p1.1).bind fun n1=>
   some (n1,0)
  else
   (qJ p0.1 p1.2).bind fun a2=>
   (qJ p1.1 p0.2).bind fun a3=>
   (pJ a2 a3).bind fun n4=>
   bif decide (p0.1<0) then
    some (aA .i64 (0-n4),0)
   else
    some (n4,0)
def c34:bF:=⟨aB.cons (aG.agg (bY.row gU)) (aB.one (aG.agg (bY.row gU))),aG.tup (aB.cons (aG.int .i64) (aB.one (aG.int .i64))),fun a=>zY a.1 a.2,.pure,false⟩
theorem aKE:aF aT 34 c34:=Oc aJV rfl aC [(77,c77),(78,c78),(80,c80),(79,c79)] ⟨aKB,X1,aKC,aKD,trivial⟩ fun a=>by kernel_rfl
def pK (p0:Int):Option Bool:=
 some (p0 !=p0)
def aMe:bF:=⟨aB.one (aG.int .i64),aG.bool,fun a=>pK a,.pure,false⟩
theorem aEA:aF aT 216 aMe:=Oc aDY rfl aC [] trivial fun a=>by kernel_rfl
def dT (p0:Int) (p1:Int):Option Int:=
 (pK p0).bind fun b0=>
 (pK p1).bind fun b1=>
 bif b0 then
  bif b1 then
   some 0
  else
   some (-1)
 else
  bif b1 then
   some 1
  else
   bif decide (p0<p1) then
    some (-1)
   else
    bif decide (p1<p0) then
     some 1
    else
     some 0
def Q6:bF:=⟨aB.cons (aG.int .i64) (aB.one (aG.int .i64)),aG.int .i64,fun a=>dT a.1 a.2,.pure,false⟩
theorem zZ:aF aT 180 Q6:=Oc aDs rfl aC [(216,aMe)] ⟨aEA,trivial⟩ fun a=>by kernel_rfl
def uI (s:(Int×(List Int)×Int×Int)):Option (bH (Int×(List Int)×Int×Int) Int):=
 bif decide (s.2.2.2<s.2.2.1) then
  (aL s.2.1 s.2.2.2).bind fun n0=>
  bif n0 !=s.1 then
   some (.done n0)
  else
   some (.next (s.1,s.2.1,s.2.2.1,aA .i64 (s.2.2.2+1)))
 else
  some (.done s.1)
def sE (p0:List Int):Option Int:=
 aK uI (0,p0,Int.ofNat p0.length,0)
def aKF:bF:=⟨aB.one (aG.sl ki),aG.int .i64,fun a=>sE a,.pure,false⟩
theorem TN:aF aT 196 aKF:=Oc aDG rfl aC [] trivial fun a=>by kernel_rfl
def bO (p0:Int×Int×Int×Int×Int) (p1:Int×Int×Int×Int×Int):Option Int:=
 (zY (p0.1,p0.2.1) (p1.1,p1.2.1)).bind fun a0=>
 (dT p0.2.2.1 p1.2.2.1).bind fun n1=>
 (sE [a0.1,n1]).bind fun n2=>
 some n2
def aEB:bF:=⟨aB.cons (aG.agg (bY.row iD)) (aB.one (aG.agg (bY.row iD))),aG.int .i64,fun a=>bO a.1 a.2,.pure,false⟩
theorem L6:aF aT 168 aEB:=Oc aDh rfl aC [(34,c34),(180,Q6),(196,aKF)] ⟨aKE,zZ,TN,trivial⟩ fun a=>by kernel_rfl
def gV (s:((List (Int×Int×Int×Int×Int))×Int×Int×(List Int)×(List Bool)×(List Int)×(List (Int×Int×Int×Int×Int))×(List Int)×(List (List Int)))):Option (bH ((List (Int×Int×Int×Int×Int))×Int×Int×(List Int)×(List Bool)×(List Int)×(List (Int×Int×Int×Int×Int))×(List Int)×(List (List Int))) (bH ((List Int)×Int×Int×(List Int)×(List Bool)×(List Int)×(List (Int×Int×Int×Int×Int))×(List Int)) Int)):=
 bif decide (s.2.2.1<s.2.1) then
  (aL s.1 s.2.2.1).bind fun a0=>
  (fA (a0.1,a0.2.1)).bind fun n1=>
  bif n1 !=0 then
   some (.done (.done 8))
  else
   bif decide (a0.2.2.1<0) then
    some (.done (.done 8))
   else
    bif decide (1000000<a0.2.2.1) then
     some (.done (.done 8))
    else
     (NX s.2.2.2.2.2.2.2.2 [a0.2.2.1]).bind fun b2=>
     bif b2 then
      some (.done (.done 8))
     else
      (NY s.2.2.2.2.2.2.2.2 [a0.2.2.1]).bind fun l3=>
      bif decide (0<s.2.2.1) then
       (aL s.2.2.2.2.2.2.1 (aA .i64 (Int.tdiv (aA .i64 (s.2.2.1-1)) 2))).bind fun a4=>
       (bO a0 a4).bind fun n5=>
       bif decide (n5<0) then
        some (.done (.done 8))
       else
        some (.next (s.1,s.2.1,aA .i64 (s.2.2.1+1),s.2.2.2.1,s.2.2.2.2.1,s.2.2.2.2.2.1,s.2.2.2.2.2.2.1,s.2.2.2.2.2.2.2.1,l3))
      else
       some (.next (s.1,s.2.1,aA .i64 (s.2.2.1+1),s.2.2.2.1,s.2.2.2.2.1,s.2.2.2.2.2.1,s.2.2.2.2.2.2.1,s.2.2.2.2.2.2.2.1,l3))
 else
  some (.done (.done 0))
def jT (s:((List Int)×Int×Int×(List Int)×(List Bool)×(List Int)×(List (Int×Int×Int×Int×Int))×(List Int))):Option (bH ((List Int)×Int×Int×(List Int)×(List Bool)×(List Int)×(List (Int×Int×Int×Int×Int))×(List Int)) Int):=
 bif decide (s.2.2.1<s.2.1) then
  (aL s.1 s.2.2.1).bind fun n0=>
  (aL s.2.2.2.2.1 s.2.2.1).bind fun b1=>
  bif !b1 then
   bif n0 !=(-1) then
    some (.done 8)
   else
    some (.next (s.1,s.2.1,aA .i64 (s.2.2.1+1),s.2.2.2))
  else
   bif decide (n0<0) then
    some (.done 8)
   else
    bif decide ((Int.ofNat s.2.2.2.2.2.2.1.length)<=n0) then
     some (.done 8)
    else
     (aL s.2.2.2.2.2.2.1 n0).bind fun a2=>
     (aL s.2.2.2.1 s.2.2.1).bind fun n3=>
     bif !((a2.2.2.2.1==s.2.2.1)&&(a2.2.2.2.2==n3)) then
      some (.done 8)
     else
      some (.next (s.1,s.2.1,aA .i64 (s.2.2.1+1),s.2.2.2))
 else
  aK gV (s.2.2.2.2.2.2.1,Int.ofNat s.2.2.2.2.2.2.1.length,0,s.2.2.2.1,s.2.2.2.2.1,s.2.2.2.2.2.1,s.2.2.2.2.2.2.1,s.2.2.2.2.2.2.2,[])
def hM (p0:aJ):Option Int:=
 (oS p0.slots).bind fun n0=>
 bif n0 !=0 then
  some 8
 else
  bif (Int.ofNat p0.where_.length) !=(Int.ofNat p0.slots.used.length) then
   some 8
  else
   bif (Int.ofNat p0.heap.length) !=(aA .i64 ((Int.ofNat p0.slots.used.length) - (Int.ofNat p0.slots.free.length))) then
    some 8
   else
    aK jT (p0.where_,Int.ofNat p0.where_.length,0,p0.slots.uses,p0.slots.used,p0.slots.free,p0.heap,p0.where_)
def VE:bF:=⟨aB.one (aG.agg bV),aG.int .i64,fun a=>hM a,.pure,false⟩
theorem DQ:aF aT 118 VE:=Oc aCz rfl aC [(167,aEw),(33,c33),(168,aEB)] ⟨L5,CE,L6,trivial⟩ fun a=>by kernel_rfl
def uJ (p0:Int×Int×Int) (p1:Int):Option Int:=
 (dT p0.1 p1).bind fun n0=>
 some n0
def aMf:bF:=⟨aB.cons (aG.agg (bY.row eS)) (aB.one (aG.int .i64)),aG.int .i64,fun a=>uJ a.1 a.2,.pure,false⟩
theorem aEC:aF aT 198 aMf:=Oc aDI rfl aC [(180,Q6)] ⟨zZ,trivial⟩ fun a=>by kernel_rfl
def gC (s:((List (Int×Int×Int))×Int×Int×Int×Int)):Option (bH ((List (Int×Int×Int))×Int×Int×Int×Int) (Int×Bool)):=
 bif decide (s.2.2.2.1<s.2.2.2.2) then
  (aL s.1 (aA .i64 (oO .u64 (aA .u64 (aA .i64 (s.2.2.2.1+s.2.2.2.2))) 1))).bind fun a0=>
  (uJ a0 s.2.1).bind fun n1=>
  bif decide (n1<0) then
   some (.next (s.1,s.2.1,s.2.2.1,aA .i64 ((aA .i64 (oO .u64 (aA .u64 (aA .i64 (s.2.2.2.1+s.2.2.2.2))) 1))+1),s.2.2.2.2))
  else
   some (.next (s.1,s.2.1,s.2.2.1,s.2.2.2.1,aA .i64 (oO .u64 (aA .u64 (aA .i64 (s.2.2.2.1+s.2.2.2.2))) 1)))
 else
  bif decide (s.2.2.2.1<s.2.2.1) then
   (aL s.1 s.2.2.2.1).bind fun a2=>
   (uJ a2 s.2.1).bind fun n3=>
   some (.done (s.2.2.2.1,n3==0))
  else
   some (.done (s.2.2.2.1,false))
def cH (p0:List (Int×Int×Int)) (p1:Int) (_:Unit):Option (Int×Bool):=
 aK gC (p0,p1,Int.ofNat p0.length,0,Int.ofNat p0.length)
def OL:bF:=⟨aB.cons (aG.sl eS) (aB.cons (aG.int .i64) (aB.one (aG.clo 198 aB.nil))),aG.tup (aB.cons (aG.int .i64) (aB.one aG.bool)),fun a=>cH a.1 a.2.1 a.2.2,.pure,false⟩
theorem OM:aF aT 178 OL:=Oc TF rfl aC [(198,aMf)] ⟨aEC,trivial⟩ fun a=>by kernel_rfl
def hO (p0:Field) (p1:Int):Option (Int×Int×Int):=
 (cH p0.points p1 ()).bind fun a0=>
 bif !a0.2 then
  some (-1,0,0)
 else
  (aL p0.points a0.1).bind fun a1=>
  some a1
def aED:bF:=⟨aB.cons (aG.agg cF) (aB.one (aG.int .i64)),aG.agg (bY.row eS),fun a=>hO a.1 a.2,.pure,false⟩
theorem L7:aF aT 157 aED:=Oc aC7 rfl aC [(178,OL)] ⟨OM,trivial⟩ fun a=>by kernel_rfl
def oT (p0:Int×Int×Int) (p1:Int×Int×Int) (p2:Int×Int):Option Int:=
 (kU p0).bind fun n0=>
 (kU p1).bind fun n1=>
 (fA p2).bind fun n2=>
 bif (if n2>(if n1>n0 then n1 else n0) then n2 else if n1>n0 then n1 else n0) !=0 then
  some (if n2>(if n1>n0 then n1 else n0) then n2 else if n1>n0 then n1 else n0)
 else
  bif p0.1==p1.1 then
   some 2
  else
   some 0
def aEE:bF:=⟨aB.cons (aG.agg (bY.row eS)) (aB.cons (aG.agg (bY.row eS)) (aB.one (aG.agg (bY.row gU)))),aG.int .i64,fun a=>oT a.1 a.2.1 a.2.2,.pure,false⟩
theorem L8:aF aT 152 aEE:=Oc aC4 rfl aC [(128,aKx),(33,c33)] ⟨TK,CE,trivial⟩ fun a=>by kernel_rfl
theorem X2:aF aT 225 (bF.add64):=aF.add64 aD3
def lM (s:(Int×Int×Int×Int×Int×Int×Int×Int×Int)):Option (bH (Int×Int×Int×Int×Int×Int×Int×Int×Int) (Int×Int)):=
 bif decide (s.2.2.2.2.1<2) then
  bif s.2.2.2.2.1==0 then
   (eM (aA .u64 s.1) (aA .u64 s.2.1)).bind fun a0=>
   bif decide (s.1<0) then
    bif decide (s.2.1<0) then
     (oQ s.2.2.2.2.2.2.2.2 a0.2 0).bind fun a1=>
     some (.next (s.1,s.2.1,s.2.2.1,s.2.2.2.1,aA .i64 (s.2.2.2.2.1+1),s.2.2.2.2.2.1,s.2.2.2.2.2.2.1,aA .i64 ((aA .i64 (s.2.2.2.2.2.2.2.1+(aA .i64 ((aA .i64 ((aA .i64 a0.1) -s.2.1)) -s.1))))+(aA .i64 a1.2)),a1.1))
    else
     (oQ s.2.2.2.2.2.2.2.2 a0.2 0).bind fun a2=>
     some (.next (s.1,s.2.1,s.2.2.1,s.2.2.2.1,aA .i64 (s.2.2.2.2.1+1),s.2.2.2.2.2.1,s.2.2.2.2.2.2.1,aA .i64 ((aA .i64 (s.2.2.2.2.2.2.2.1+(aA .i64 ((aA .i64 a0.1) -s.2.1))))+(aA .i64 a2.2)),a2.1))
   else
    bif decide (s.2.1<0) then
     (oQ s.2.2.2.2.2.2.2.2 a0.2 0).bind fun a3=>
     some (.next (s.1,s.2.1,s.2.2.1,s.2.2.2.1,aA .i64 (s.2.2.2.2.1+1),s.2.2.2.2.2.1,s.2.2.2.2.2.2.1,aA .i64 ((aA .i64 (s.2.2.2.2.2.2.2.1+(aA .i64 ((aA .i64 a0.1) -s.1))))+(aA .i64 a3.2)),a3.1))
    else
     (oQ s.2.2.2.2.2.2.2.2 a0.2 0).bind fun a4=>
     some (.next (s.1,s.2.1,s.2.2.1,s.2.2.2.1,aA .i64 (s.2.2.2.2.1+1),s.2.2.2.2.2.1,s.2.2.2.2.2.2.1,aA .i64 ((aA .i64 (s.2.2.2.2.2.2.2.1+(aA .i64 a0.1)))+(aA .i64 a4.2)),a4.1))
  else
   bif s.2.2.2.2.1==1 then
    (eM (aA .u64 s.2.2.1) (aA .u64 s.2.2.2.1)).bind fun a5=>
    bif decide (s.2.2.1<0) then
     bif decide (s.2.2.2.1<0) then
      (oQ s.2.2.2.2.2.2.2.2 a5.2 0).bind fun a6=>
      some (.next (s.1,s.2.1,s.2.2.1,s.2.2.2.1,aA .i64 (s.2.2.2.2.1+1),s.2.2.2.2.2.1,s.2.2.2.2.2.2.1,aA .i64 ((aA .i64 (s.2.2.2.2.2.2.2.1+(aA .i64 ((aA .i64 ((aA .i64 a5.1) -s.2.2.2.1)) -s.2.2.1))))+(aA .i64 a6.2)),a6.1))
     else
      (oQ s.2.2.2.2.2.2.2.2 a5.2 0).bind fun a7=>
      some (.next (s.1,s.2.1,s.2.2.1,s.2.2.2.1,aA .i64 (s.2.2.2.2.1+1),s.2.2.2.2.2.1,s.2.2.2.2.2.2.1,aA .i64 ((aA .i64 (s.2.2.2.2.2.2.2.1+(aA .i64 ((aA .i64 a5.1) -s.2.2.2.1))))+(aA .i64 a7.2)),a7.1))
    else
     bif decide (s.2.2.2.1<0) then
      (oQ s.2.2.2.2.2.2.2.2 a5.2 0).bind fun a8=>
      some (.next (s.1,s.2.1,s.2.2.1,s.2.2.2.1,aA .i64 (s.2.2.2.2.1+1),s.2.2.2.2.2.1,s.2.2.2.2.2.2.1,aA .i64 ((aA .i64 (s.2.2.2.2.2.2.2.1+(aA .i64 ((aA .i64 a5.1) -s.2.2.1))))+(aA .i64 a8.2)),a8.1))
     else
      (oQ s.2.2.2.2.2.2.2.2 a5.2 0).bind fun a9=>
      some (.next (s.1,s.2.1,s.2.2.1,s.2.2.2.1,aA .i64 (s.2.2.2.2.1+1),s.2.2.2.2.2.1,s.2.2.2.2.2.2.1,aA .i64 ((aA .i64 (s.2.2.2.2.2.2.2.1+(aA .i64 a5.1)))+(aA .i64 a9.2)),a9.1))
   else
    none
 else
  some (.done s.2.2.2.2.2.2.2)
def wK (p0:Int×Int×Int×Int):Option (Int×Int):=
 aK lM (p0.1,p0.2.1,p0.2.2.1,p0.2.2.2,0,0,0,0,0)
def aMg:bF:=⟨aB.one (aG.agg (bY.row aL0)),aG.agg (bY.row kiu),fun a=>wK a,.pure,false⟩
theorem aEF:aF aT 195 aMg:=Oc aDF rfl aC [(136,aEp),(225,bF.add64)] ⟨L3,X2,trivial⟩ fun a=>by kernel_rfl
def kJ (p0:Int×Int×Int) (p1:Int×Int×Int) (p2:Int×Int):Option Int:=
 (wK (aA .i64 (p0.2.1-p1.2.1),p2.2,aA .i64 (p0.2.2-p1.2.2),p2.1)).bind fun a0=>
 bif !((a0.1==0)&&(a0.2==0)) then
  bif decide (a0.1<0) then
   some (-1)
  else
   some 1
 else
  (hJ p0.2.2 p1.2.2).bind fun n1=>
  (dT p1.1 p0.1).bind fun n2=>
  (sE [n1,n2]).bind fun n3=>
  some n3
def aKG:bF:=⟨aB.cons (aG.agg (bY.row eS)) (aB.cons (aG.agg (bY.row eS)) (aB.one (aG.agg (bY.row gU)))),aG.int .i64,fun a=>kJ a.1 a.2.1 a.2.2,.pure,false⟩
theorem TO:aF aT 153 aKG:=Oc aC5 rfl aC [(195,aMg),(78,c78),(180,Q6),(196,aKF)] ⟨aEF,X1,zZ,TN,trivial⟩ fun a=>by kernel_rfl
def yX (p0:Bool×Int×Int) (p1:Int) (p2:Int):Option ((Int×Int)×Int):=
 bif decide (0<p0.2.1) then
  some ((0,0),16)
 else
  bif decide (9223372036854775807<p0.2.2) then
   some ((0,0),16)
  else
   bif decide (0<p1) then
    some ((0,0),16)
   else
    bif decide (9223372036854775807<p2) then
     some ((0,0),16)
    else
     bif p0.1 then
      some ((aA .i64 (0- (aA .i64 p0.2.2)),aA .i64 p2),0)
     else
      some ((aA .i64 p0.2.2,aA .i64 p2),0)
def aMh:bF:=⟨aB.cons (aG.agg (bY.row yT)) (aB.cons (aG.int .u64) (aB.one (aG.int .u64))),aG.tup (aB.cons (aG.agg (bY.row gU)) (aB.one (aG.int .i64))),fun a=>yX a.1 a.2.1 a.2.2,.pure,false⟩
theorem aEG:aF aT 243 aMh:=Oc aEi rfl aC [] trivial fun a=>by kernel_rfl
def wL (p0:Int) (p1:Int):Option ((Int×Int)×Int):=
 bif p1==0 then
  some ((0,0),26)
 else
  (jW p0).bind fun n0=>
  (jW p1).bind fun n1=>
  (vD n0 n1).bind fun n2=>
  (jW p0).bind fun n3=>
  bif n2==0 then
   none
  else
   (jW p1).bind fun n4=>
   bif n2==0 then
    none
   else
    (yX (!((decide (p0<0))==(decide (p1<0))),0,aA .u64 (Int.tdiv n3 n2)) 0 (aA .u64 (Int.tdiv n4 n2))).bind fun a5=>
    some a5
def aMi:bF:=⟨aB.cons (aG.int .i64) (aB.one (aG.int .i64)),aG.tup (aB.cons (aG.agg (bY.row gU)) (aB.one (aG.int .i64))),fun a=>wL a.1 a.2,.pure,false⟩
theorem aEH:aF aT 235 aMi:=Oc aEb rfl aC [(76,c76),(75,c75),(243,aMh)] ⟨Q4,XY,aEG,trivial⟩ fun a=>by kernel_rfl
def yY (p0:Int×Int×Int) (p1:Int×Int×Int):Option ((Int×Int)×Int):=
 (oT p0 p1 (0,1)).bind fun n0=>
 bif n0 !=0 then
  some ((0,0),n0)
 else
  bif p0.2.2==p1.2.2 then
   some ((0,0),6)
  else
   (wL (aA .i64 (p0.2.1-p1.2.1)) (aA .i64 (p1.2.2-p0.2.2))).bind fun a1=>
   some a1
def aMj:bF:=⟨aB.cons (aG.agg (bY.row eS)) (aB.one (aG.agg (bY.row eS))),aG.tup (aB.cons (aG.agg (bY.row gU)) (aB.one (aG.int .i64))),fun a=>yY a.1 a.2,.pure,false⟩
theorem aEI:aF aT 213 aMj:=Oc aDV rfl aC [(152,aEE),(235,aMi)] ⟨L8,aEH,trivial⟩ fun a=>by kernel_rfl
def rM (p0:Int×Int×Int) (p1:Int×Int×Int) (p2:Int×Int):Option ((Int×Int)×Bool×Int):=
 (oT p0 p1 p2).bind fun n0=>
 bif n0 !=0 then
  some ((0,0),false,n0)
 else
  (kJ p1 p0 p2).bind fun n1=>
  bif decide (0<n1) then
   some (p2,true,0)
  else
   bif decide (p1.2.2<=p0.2.2) then
    some ((0,0),false,0)
   else
    (yY p0 p1).bind fun a2=>
    some (a2.1,a2.2==0,a2.2)
def aMk:bF:=⟨aB.cons (aG.agg (bY.row eS)) (aB.cons (aG.agg (bY.row eS)) (aB.one (aG.agg (bY.row gU)))),aG.tup (aB.cons (aG.agg (bY.row gU)) (aB.cons aG.bool (aB.one (aG.int .i64)))),fun a=>rM a.1 a.2.1 a.2.2,.pure,false⟩
theorem aEJ:aF aT 169 aMk:=Oc aDi rfl aC [(152,aEE),(153,aKG),(213,aMj)] ⟨L8,TO,aEI,trivial⟩ fun a=>by kernel_rfl
def oU (p0:Field) (p1:Int×Int) (p2:Int×Int):Option ((Int×Int)×Bool×Int):=
 (hO p0 p1.2).bind fun a0=>
 (hO p0 p1.1).bind fun a1=>
 (rM a0 a1 p2).bind fun a2=>
 some a2
def aEK:bF:=⟨aB.cons (aG.agg cF) (aB.cons (aG.agg (bY.row gU)) (aB.one (aG.agg (bY.row gU)))),aG.tup (aB.cons (aG.agg (bY.row gU)) (aB.cons aG.bool (aB.one (aG.int .i64)))),fun a=>oU a.1 a.2.1 a.2.2,.pure,false⟩
theorem L9:aF aT 119 aEK:=Oc aCA rfl aC [(157,aED),(169,aMk)] ⟨L7,aEJ,trivial⟩ fun a=>by kernel_rfl
def bW (s:((List (Int×Int×Int))×(List (Int×Int×Int))×Int×Int×Int×Int×(List (Int×Int×Int))×Int×(List (Int×Int×Int))×(List Int)×(List Bool)×(List Int)×(List (Int×Int×Int×Int×Int))×(List Int)×(List (Int×Int×Int)))):Option (bH ((List (Int×Int×Int))×(List (Int×Int×Int))×Int×Int×Int×Int×(List (Int×Int×Int))×Int×(List (Int×Int×Int))×(List Int)×(List Bool)×(List Int)×(List (Int×Int×Int×Int×Int))×(List Int)×(List (Int×Int×Int))) (bH (Int×Int×Int×Int×(List (Int×Int×Int))×Int×(List (Int×Int×Int))×(List Int)×(List Bool)×(List Int)×(List (Int×Int×Int×Int×Int))×(List Int)×(List (Int×Int×Int))×(List Int)) Int)):=
 bif decide (s.2.2.2.1<s.2.2.1) then
  (aL s.2.1 s.2.2.2.1).bind fun a0=>
  (oU (Field.mk s.2.2.2.2.2.2.1) a0.2 (s.2.2.2.2.1,s.2.2.2.2.2.1)).bind fun a1=>
  bif a1.2.2 !=0 then
   some (.done (.done 8))
  else
   bif !a1.2.1 then
    some (.next (s.1,s.2.1,s.2.2.1,aA .i64 (s.2.2.2.1+1),s.2.2.2.2))
   else
    bif (Int.ofNat s.1.length)==0 then
     some (.done (.done 8))
    else
     (aL s.1 0).bind fun a2=>
     bif a2.1 !=a0.1 then
      some (.done (.done 8))
     else
      (aL s.1 0).bind fun a3=>
      bif decide (a3.2.1<0) then
       some (.done (.done 8))
      else
       bif decide (200<=a3.2.1) then
        some (.done (.done 8))
       else
        (aL s.2.2.2.2.2.2.2.2.2.2.2.2.2.1 a3.2.1).bind fun n4=>
        bif decide (n4<0) then
         some (.done (.done 8))
        else
         (aL s.2.2.2.2.2.2.2.2.2.2.2.2.2.1 a3.2.1).bind fun n5=>
         (aL s.2.2.2.2.2.2.2.2.2.2.2.2.1 n5).bind fun a6=>
         bif !((a6.1==a1.1.1)&&((a6.2.1==a1.1.2)&&((a6.2.2.1==a0.1)&&((a6.2.2.2.1==a3.2.1)&&(a6.2.2.2.2==a3.2.2))))) then
          some (.done (.done 8))
         else
          (jJ s.1 1 (Int.ofNat s.1.length)).bind fun l7=>
          some (.next (l7,s.2.1,s.2.2.1,aA .i64 (s.2.2.2.1+1),s.2.2.2.2))
 else
  bif decide (0<(Int.ofNat s.1.length)) then
   some (.done (.done 8))
  else
   some (.done (.done 0))
def dP (s:(Int×Int×Int×Int×(List (Int×Int×Int))×Int×(List (Int×Int×Int))×(List Int)×(List Bool)×(List Int)×(List (Int×Int×Int×Int×Int))×(List Int)×(List (Int×Int×Int))×(List Int))):Option (bH (Int×Int×Int×Int×(List (Int×Int×Int))×Int×(List (Int×Int×Int))×(List Int)×(List Bool)×(List Int)×(List (Int×Int×Int×Int×Int))×(List Int)×(List (Int×Int×Int))×(List Int)) Int):=
 bif decide (s.2.1<s.1) then
  (aL s.2.2.2.2.2.2.2.2.2.2.2.2.2 s.2.1).bind fun n0=>
  bif n0 !=0 then
   some (.done 8)
  else
   some (.next (s.1,aA .i64 (s.2.1+1),s.2.2))
 else
  bif (Int.ofNat s.2.2.2.2.2.2.2.2.2.2.2.1.length) !=200 then
   some (.done 8)
  else
   bif (Int.ofNat s.2.2.2.2.2.2.2.2.2.2.1.length) !=(Int.ofNat s.2.2.2.2.2.2.2.2.2.2.2.2.1.length) then
    some (.done 8)
   else
    aK bW (s.2.2.2.2.2.2.2.2.2.2.2.2.1,s.2.2.2.2.2.2.1,Int.ofNat s.2.2.2.2.2.2.1.length,0,s.2.2.1,s.2.2.2.1,s.2.2.2.2.1,s.2.2.2.2.2.1,s.2.2.2.2.2.2.1,s.2.2.2.2.2.2.2.1,s.2.2.2.2.2.2.2.2.1,s.2.2.2.2.2.2.2.2.2.1,s.2.2.2.2.2.2.2.2.2.2.1,s.2.2.2.2.2.2.2.2.2.2.2.1,s.2.2.2.2.2.2.2.2.2.2.2.2.1)
def hU (p0:aO):Option Int:=
 (fA p0.now).bind fun n0=>
 (jC p0.field).bind fun n1=>
 (oR p0.certs).bind fun n2=>
 (hM p0.agenda).bind fun n3=>
 aK dP (Int.ofNat ([n0,n1,n2,n3].length),0,p0.now.1,p0.now.2,p0.field.points,p0.certs.next_,p0.certs.list,p0.agenda.slots.uses,p0.agenda.slots.used,p0.agenda.slots.free,p0.agenda.heap,p0.agenda.where_,p0.due,[n0,n1,n2,n3])
def c59:bF:=⟨aB.one (aG.agg bR),aG.int .i64,fun a=>hU a,.pure,false⟩
theorem IQ:aF aT 59 c59:=Oc aJ8 rfl aC [(33,c33),(104,XX),(117,aEt),(118,VE),(119,aEK)] ⟨CE,GI,L4,DQ,L9,trivial⟩ fun a=>by kernel_rfl
def qK (p0:Int×Int×Int) (p1:Int):Option Int:=
 (dT p0.1 p1).bind fun n0=>
 some n0
def aMl:bF:=⟨aB.cons (aG.agg (bY.row eS)) (aB.one (aG.int .i64)),aG.int .i64,fun a=>qK a.1 a.2,.pure,false⟩
theorem aEL:aF aT 240 aMl:=Oc aEf rfl aC [(180,Q6)] ⟨zZ,trivial⟩ fun a=>by kernel_rfl
def aP (s:((List (Int×Int×Int))×Int×Int×Int×Int)):Option (bH ((List (Int×Int×Int))×Int×Int×Int×Int) (Int×Bool)):=
 bif decide (s.2.2.2.1<s.2.2.2.2) then
  (aL s.1 (aA .i64 (oO .u64 (aA .u64 (aA .i64 (s.2.2.2.1+s.2.2.2.2))) 1))).bind fun a0=>
  (qK a0 s.2.1).bind fun n1=>
  bif decide (n1<0) then
   some (.next (s.1,s.2.1,s.2.2.1,aA .i64 ((aA .i64 (oO .u64 (aA .u64 (aA .i64 (s.2.2.2.1+s.2.2.2.2))) 1))+1),s.2.2.2.2))
  else
   some (.next (s.1,s.2.1,s.2.2.1,s.2.2.2.1,aA .i64 (oO .u64 (aA .u64 (aA .i64 (s.2.2.2.1+s.2.2.2.2))) 1)))
 else
  bif decide (s.2.2.2.1<s.2.2.1) then
   (aL s.1 s.2.2.2.1).bind fun a2=>
   (qK a2 s.2.1).bind fun n3=>
   some (.done (s.2.2.2.1,n3==0))
  else
   some (.done (s.2.2.2.1,false))
def aU (p0:List (Int×Int×Int)) (p1:Int) (_:Unit):Option (Int×Bool):=
 aK aP (p0,p1,Int.ofNat p0.length,0,Int.ofNat p0.length)
def ON:bF:=⟨aB.cons (aG.sl eS) (aB.cons (aG.int .i64) (aB.one (aG.clo 240 aB.nil))),aG.tup (aB.cons (aG.int .i64) (aB.one aG.bool)),fun a=>aU a.1 a.2.1 a.2.2,.pure,false⟩
theorem OO:aF aT 239 ON:=Oc aEe rfl aC [(240,aMl)] ⟨aEL,trivial⟩ fun a=>by kernel_rfl
def KQ (p0:aW) (p1:Int):Option (Int×Int):=
 (oR p0).bind fun n0=>
 bif n0 !=0 then
  some (0,n0)
 else
  (aU p0.list p1 ()).bind fun a1=>
  bif !a1.2 then
   some (0,6)
  else
   some (a1.1,0)
def aMm:bF:=⟨aB.cons (aG.agg eV) (aB.one (aG.int .i64)),aG.tup (aB.cons (aG.int .i64) (aB.one (aG.int .i64))),fun a=>KQ a.1 a.2,.pure,false⟩
theorem aEM:aF aT 218 aMm:=Oc aDZ rfl aC [(117,aEt),(239,ON)] ⟨L4,OO,trivial⟩ fun a=>by kernel_rfl
theorem DR:aF aT 138 (bF.clone eS):=aF.clone aCR rfl
def mM (a:(Int×Int×(List (Int×Int×Int)))):Option (Nat×Nat×(List (Int×Int×Int))):=
 bif (((decide (0<=a.1))&&(decide (a.1<=a.2.1)))&&(decide (a.2.1<=(Int.ofNat a.2.2.length))))&&(decide ((Int.ofNat a.2.2.length)<=(Int.ofNat a.2.2.length))) then
  bif a.1==a.2.1 then
   bif a.2.2.length==a.2.2.length then
    some (a.2.2.length,a.2.2.length,a.2.2)
   else
    none
  else
   (jJ a.2.2 0 a.1).bind fun _=>
   bif ((decide (0<=a.2.1))&&(decide (a.2.1<=(Int.ofNat a.2.2.length))))&&(decide ((Int.ofNat a.2.2.length)<=(Int.ofNat a.2.2.length))) then
    bif ((a.2.2.drop (0+a.2.1.toNat)).take (((Int.ofNat a.2.2.length).toNat) -a.2.1.toNat)).isEmpty then
     bif ((decide (0<=(Int.ofNat a.1.toNat)))&&(decide ((Int.ofNat a.1.toNat)<=(Int.ofNat a.2.2.length))))&&(decide ((Int.ofNat a.2.2.length)<=(Int.ofNat a.2.2.length))) then
      bif Nat.beq (((Int.ofNat a.2.2.length).toNat) - ((Int.ofNat a.1.toNat).toNat)) 0 then
       bif a.2.2.length==a.2.2.length then
        some (a.1.toNat,a.2.2.length,a.2.2)
       else
        none
      else
       bif (Nat.ble ((0+((Int.ofNat a.1.toNat).toNat))+(((Int.ofNat a.2.2.length).toNat) - ((Int.ofNat a.1.toNat).toNat))) a.2.2.length)&&(!false) then
        bif ((iO a.2.2 (0+((Int.ofNat a.1.toNat).toNat)) (List.replicate (((Int.ofNat a.2.2.length).toNat) - ((Int.ofNat a.1.toNat).toNat)) (0,0,0))).length)==a.2.2.length then
         some (a.1.toNat,a.2.2.length,iO a.2.2 (0+((Int.ofNat a.1.toNat).toNat)) (List.replicate (((Int.ofNat a.2.2.length).toNat) - ((Int.ofNat a.1.toNat).toNat)) (0,0,0)))
        else
         none
       else
        none
     else
      none
    else
     bif Nat.ble (a.1.toNat+(((a.2.2.drop (0+a.2.1.toNat)).take (((Int.ofNat a.2.2.length).toNat) -a.2.1.toNat)).length)) a.2.2.length then
      bif (Nat.ble (a.1.toNat+(((a.2.2.drop (0+a.2.1.toNat)).take (((Int.ofNat a.2.2.length).toNat) -a.2.1.toNat)).length)) a.2.2.length)&&(!false) then
       bif ((decide (0<=(Int.ofNat (a.1.toNat+(((a.2.2.drop (0+a.2.1.toNat)).take (((Int.ofNat a.2.2.length).toNat) -a.2.1.toNat)).length)))))&&(decide ((Int.ofNat (a.1.toNat+(((a.2.2.drop (0+a.2.1.toNat)).take (((Int.ofNat a.2.2.length).toNat) -a.2.1.toNat)).length)))<=(Int.ofNat a.2.2.length))))&&(decide ((Int.ofNat a.2.2.length)<=(Int.ofNat a.2.2.length))) then
        bif Nat.beq (((Int.ofNat a.2.2.length).toNat) - ((Int.ofNat (a.1.toNat+(((a.2.2.drop (0+a.2.1.toNat)).take (((Int.ofNat a.2.2.length).toNat) -a.2.1.toNat)).length))).toNat)) 0 then
         bif ((iO a.2.2 a.1.toNat ((a.2.2.drop (0+a.2.1.toNat)).take (((Int.ofNat a.2.2.length).toNat) -a.2.1.toNat))).length)==a.2.2.length then
          some (a.1.toNat+(((a.2.2.drop (0+a.2.1.toNat)).take (((Int.ofNat a.2.2.length).toNat) -a.2.1.toNat)).length),a.2.2.length,iO a.2.2 a.1.toNat ((a.2.2.drop (0+a.2.1.toNat)).take (((Int.ofNat a.2.2.length).toNat) -a.2.1.toNat)))
         else
          none
        else
         bif (Nat.ble ((0+((Int.ofNat (a.1.toNat+(((a.2.2.drop (0+a.2.1.toNat)).take (((Int.ofNat a.2.2.length).toNat) -a.2.1.toNat)).length))).toNat))+(((Int.ofNat a.2.2.length).toNat) - ((Int.ofNat (a.1.toNat+(((a.2.2.drop (0+a.2.1.toNat)).take (((Int.ofNat a.2.2.length).toNat) -a.2.1.toNat)).length))).toNat))) ((iO a.2.2 a.1.toNat ((a.2.2.drop (0+a.2.1.toNat)).take (((Int.ofNat a.2.2.length).toNat) -a.2.1.toNat))).length))&&(!false) then
          bif ((iO (iO a.2.2 a.1.toNat ((a.2.2.drop (0+a.2.1.toNat)).take (((Int.ofNat a.2.2.length).toNat) -a.2.1.toNat))) (0+((Int.ofNat (a.1.toNat+(((a.2.2.drop (0+a.2.1.toNat)).take (((Int.ofNat a.2.2.length).toNat) -a.2.1.toNat)).length))).toNat)) (List.replicate (((Int.ofNat a.2.2.length).toNat) - ((Int.ofNat (a.1.toNat+(((a.2.2.drop (0+a.2.1.toNat)).take (((Int.ofNat a.2.2.length).toNat) -a.2.1.toNat)).length))).toNat)) (0,0,0))).length)==a.2.2.length then
           some (a.1.toNat+(((a.2.2.drop (0+a.2.1.toNat)).take (((Int.ofNat a.2.2.length).toNat) -a.2.1.toNat)).length),a.2.2.length,iO (iO a.2.2 a.1.toNat ((a.2.2.drop (0+a.2.1.toNat)).take (((Int.ofNat a.2.2.length).toNat) -a.2.1.toNat))) (0+((Int.ofNat (a.1.toNat+(((a.2.2.drop (0+a.2.1.toNat)).take (((Int.ofNat a.2.2.length).toNat) -a.2.1.toNat)).length))).toNat)) (List.replicate (((Int.ofNat a.2.2.length).toNat) - ((Int.ofNat (a.1.toNat+(((a.2.2.drop (0+a.2.1.toNat)).take (((Int.ofNat a.2.2.length).toNat) -a.2.1.toNat)).length))).toNat)) (0,0,0)))
          else
           none
         else
          none
       else
        none
      else
       none
     else
      none
   else
    none
 else
  none
def X3:dA:=⟨[.i,.i,.l [.i .i64,.i .i64,.i .i64]],[.own 0 false,.int .i64 0,.int .i64 0],[.arr [.i .i64,.i .i64,.i .i64] []],[.n,.n,.l [.i .i64,.i .i64,.i .i64]],.pre 0 0 0 false,[.arr [.i .i64,.i .i64,.i .i64] []],fun a=>mM a⟩
theorem VF:jS aT 219 X3:=jS.of aD0 (wd:=true) (cx:=(mV aC [] [] [] [])) (jY.make trivial trivial trivial) (fun a=>by kernel_rfl)
def FV (p0:aW) (p1:Int):Option (aW×(Int×Int)×Int):=
 (KQ p0 p1).bind fun a0=>
 bif a0.2 !=0 then
  some (aW.mk 0 [],(0,0),a0.2)
 else
  (cG p0.list).bind fun l1=>
  (mM (a0.1,aA .i64 (a0.1+1),l1)).bind fun a2=>
  (aL p0.list a0.1).bind fun a3=>
  some (aW.mk p0.next_ (a2.2.2.take a2.1),a3.2,0)
def aMn:bF:=⟨aB.cons (aG.agg eV) (aB.one (aG.int .i64)),aG.tup (aB.cons (aG.agg eV) (aB.cons (aG.agg (bY.row gU)) (aB.one (aG.int .i64)))),fun a=>FV a.1 a.2,.frz,false⟩
theorem aEN:aF aT 184 aMn:=aF.of aDu (cx:=(mV aC [(218,aMm),(138,bF.clone eS)] [(219,X3)] [] [])) rfl (jY.make ⟨aEM,DR,trivial⟩ ⟨VF,trivial⟩ trivial) (fun a=>by kernel_rfl)
theorem OP:aF aT 139 (bF.clone eS):=aF.clone aCS rfl
theorem yZ:aF aT 140 (bF.clone iD):=aF.clone aCT rfl
theorem wM:aF aT 37 (bF.clone ki):=aF.clone aJW rfl
def mA (p0:aO):Option aO:=
 (cG p0.field.points).bind fun l0=>
 (cG p0.certs.list).bind fun l1=>
 (cG p0.due).bind fun l2=>
 (cG p0.agenda.heap).bind fun l3=>
 (cG p0.agenda.where_).bind fun l4=>
 (cG p0.agenda.slots.uses).bind fun l5=>
 (cG p0.agenda.slots.used).bind fun l6=>
 (cG p0.agenda.slots.free).bind fun l7=>
 some (aO.mk p0.now (Field.mk l0) (aW.mk p0.certs.next_ l1) (aJ.mk (aR.mk l5 l6 l7) l3 l4) l2)
def c83:bF:=⟨aB.one (aG.agg bR),aG.agg bR,fun a=>mA a,.own,true⟩
def aEO:bF:=⟨aB.one (aG.agg bR),aG.agg bR,fun a=>mA a,.frz,false⟩
theorem Q7:aF aT 83 c83:=Oc XV rfl aC [(94,bF.clone eS),(138,bF.clone eS),(139,bF.clone eS),(140,bF.clone iD),(37,bF.clone ki),(141,bF.clone kb)] ⟨GJ,DR,OP,yZ,wM,yW,trivial⟩ fun a=>by kernel_rfl
theorem MA:aF aT 83 aEO:=Oc XV rfl aC [(94,bF.clone eS),(138,bF.clone eS),(139,bF.clone eS),(140,bF.clone iD),(37,bF.clone ki),(141,bF.clone kb)] ⟨GJ,DR,OP,yZ,wM,yW,trivial⟩ fun a=>by kernel_rfl
def uK (p0:Int×Int×Int) (p1:Int):Option Int:=
 (dT p0.1 p1).bind fun n0=>
 some n0
def aMo:bF:=⟨aB.cons (aG.agg (bY.row eS)) (aB.one (aG.int .i64)),aG.int .i64,fun a=>uK a.1 a.2,.pure,false⟩
theorem aEP:aF aT 200 aMo:=Oc aDK rfl aC [(180,Q6)] ⟨zZ,trivial⟩ fun a=>by kernel_rfl
def gS (s:((List (Int×Int×Int))×Int×Int×Int×Int)):Option (bH ((List (Int×Int×Int))×Int×Int×Int×Int) (Int×Bool)):=
 bif decide (s.2.2.2.1<s.2.2.2.2) then
  (aL s.1 (aA .i64 (oO .u64 (aA .u64 (aA .i64 (s.2.2.2.1+s.2.2.2.2))) 1))).bind fun a0=>
  (uK a0 s.2.1).bind fun n1=>
  bif decide (n1<0) then
   some (.next (s.1,s.2.1,s.2.2.1,aA .i64 ((aA .i64 (oO .u64 (aA .u64 (aA .i64 (s.2.2.2.1+s.2.2.2.2))) 1))+1),s.2.2.2.2))
  else
   some (.next (s.1,s.2.1,s.2.2.1,s.2.2.2.1,aA .i64 (oO .u64 (aA .u64 (aA .i64 (s.2.2.2.1+s.2.2.2.2))) 1)))
 else
  bif decide (s.2.2.2.1<s.2.2.1) then
   (aL s.1 s.2.2.2.1).bind fun a2=>
   (uK a2 s.2.1).bind fun n3=>
   some (.done (s.2.2.2.1,n3==0))
  else
   some (.done (s.2.2.2.1,false))
def dQ (p0:List (Int×Int×Int)) (p1:Int) (_:Unit):Option (Int×Bool):=
 aK gS (p0,p1,Int.ofNat p0.length,0,Int.ofNat p0.length)
def OQ:bF:=⟨aB.cons (aG.sl eS) (aB.cons (aG.int .i64) (aB.one (aG.clo 200 aB.nil))),aG.tup (aB.cons (aG.int .i64) (aB.one aG.bool)),fun a=>dQ a.1 a.2.1 a.2.2,.pure,false⟩
theorem OR:aF aT 199 OQ:=Oc aDJ rfl aC [(200,aMo)] ⟨aEP,trivial⟩ fun a=>by kernel_rfl
def zA (p0:List (Int×Int×Int)) (p1:Int):Option (Int×Bool):=
 (dQ p0 p1 ()).bind fun a0=>
 some a0
def aKH:bF:=⟨aB.cons (aG.sl eS) (aB.one (aG.int .i64)),aG.tup (aB.cons (aG.int .i64) (aB.one aG.bool)),fun a=>zA a.1 a.2,.pure,false⟩
theorem TP:aF aT 158 aKH:=Oc aC8 rfl aC [(199,OQ)] ⟨OR,trivial⟩ fun a=>by kernel_rfl
def IR (p0:aR) (p1:Int×Int):Option (Bool×Int):=
 (oS p0).bind fun n0=>
 bif n0 !=0 then
  some (false,n0)
 else
  bif decide (0<=p1.1) then
   bif decide (p1.1<(Int.ofNat p0.used.length)) then
    (aL p0.used p1.1).bind fun b1=>
    bif b1 then
     (aL p0.uses p1.1).bind fun n2=>
     some (n2==p1.2,0)
    else
     some (false,0)
   else
    some (false,0)
  else
   some (false,0)
def aKI:bF:=⟨aB.cons (aG.agg dW) (aB.one (aG.agg (bY.row gU))),aG.tup (aB.cons aG.bool (aB.one (aG.int .i64))),fun a=>IR a.1 a.2,.pure,false⟩
theorem TQ:aF aT 227 aKI:=Oc aD5 rfl aC [(167,aEw)] ⟨L5,trivial⟩ fun a=>by kernel_rfl
def wN (p0:aJ) (p1:Int×Int):Option (Int×Int):=
 (hM p0).bind fun n0=>
 bif n0 !=0 then
  some (0,n0)
 else
  (IR p0.slots p1).bind fun a1=>
  bif a1.2 !=0 then
   some (0,6)
  else
   bif !a1.1 then
    some (0,6)
   else
    (aL p0.where_ p1.1).bind fun n2=>
    some (n2,0)
def aKJ:bF:=⟨aB.cons (aG.agg bV) (aB.one (aG.agg (bY.row gU))),aG.tup (aB.cons (aG.int .i64) (aB.one (aG.int .i64))),fun a=>wN a.1 a.2,.pure,false⟩
theorem TR:aF aT 201 aKJ:=Oc aDL rfl aC [(118,VE),(227,aKI)] ⟨DQ,TQ,trivial⟩ fun a=>by kernel_rfl
theorem OS:aF aT 241 (bF.clone ki):=aF.clone aEg rfl
def xS (p0:List Int) (p1:Int):Option (List Int):=
 (cG p0).bind fun l0=>
 (bM l0 [p1]).bind fun l1=>
 some l1
def aMp:bF:=⟨aB.cons (aG.sl ki) (aB.one (aG.int .i64)),aG.sl ki,fun a=>xS a.1 a.2,.frz,false⟩
theorem aEQ:aF aT 242 aMp:=Oc aEh rfl aC [(241,bF.clone ki)] ⟨OS,trivial⟩ fun a=>by kernel_rfl
def KR (p0:aR) (p1:Int×Int):Option (aR×Int):=
 (IR p0 p1).bind fun a0=>
 bif a0.2 !=0 then
  some (aR.mk [] [] [],a0.2)
 else
  bif !a0.1 then
   some (aR.mk [] [] [],6)
  else
   (cG p0.uses).bind fun l1=>
   (cG p0.used).bind fun l2=>
   (xS p0.free p1.1).bind fun l3=>
   (aL l2 p1.1).bind fun _=>
   some (aR.mk l1 (cD l2 p1.1 false) l3,0)
def aMq:bF:=⟨aB.cons (aG.agg dW) (aB.one (aG.agg (bY.row gU))),aG.tup (aB.cons (aG.agg dW) (aB.one (aG.int .i64))),fun a=>KR a.1 a.2,.frz,false⟩
theorem aER:aF aT 232 aMq:=aF.of aD8 (cx:=(mV aC [(227,aKI),(37,bF.clone ki),(141,bF.clone kb),(242,aMp)] [] [(231,XN)] [])) rfl (jY.make ⟨TQ,wM,yW,aEQ,trivial⟩ trivial ⟨TJ,trivial⟩) (fun a=>by kernel_rfl)
def dF (a:((List Int)×(List Bool)×(List Int)×Nat×Nat×Int×Int×Int×Int×Int×Int×(List (Int×Int×Int×Int×Int))×(List Int))):Option ((List (Int×Int×Int×Int×Int))×(List Int)):=
 (aL (a.2.2.2.2.2.2.2.2.2.2.2.1.take a.2.2.2.1) a.2.2.2.2.2.1).bind fun _=>
 (aL a.2.2.2.2.2.2.2.2.2.2.2.2 a.2.2.2.2.2.2.2.2.2.1).bind fun _=>
 bif ((cD a.2.2.2.2.2.2.2.2.2.2.2.1 a.2.2.2.2.2.1 (a.2.2.2.2.2.2.1,a.2.2.2.2.2.2.2.1,a.2.2.2.2.2.2.2.2.1,a.2.2.2.2.2.2.2.2.2.1,a.2.2.2.2.2.2.2.2.2.2.1)).length)==a.2.2.2.2.2.2.2.2.2.2.2.1.length then
  bif ((cD a.2.2.2.2.2.2.2.2.2.2.2.2 a.2.2.2.2.2.2.2.2.2.1 a.2.2.2.2.2.1).length)==a.2.2.2.2.2.2.2.2.2.2.2.2.length then
   some (cD a.2.2.2.2.2.2.2.2.2.2.2.1 a.2.2.2.2.2.1 (a.2.2.2.2.2.2.1,a.2.2.2.2.2.2.2.1,a.2.2.2.2.2.2.2.2.1,a.2.2.2.2.2.2.2.2.2.1,a.2.2.2.2.2.2.2.2.2.2.1),cD a.2.2.2.2.2.2.2.2.2.2.2.2 a.2.2.2.2.2.2.2.2.2.1 a.2.2.2.2.2.1)
  else
   none
 else
  none
def Q8:dA:=⟨[.l [.i .i64],.l [.b],.l [.i .i64],.n,.n,.i,.i,.i,.i,.i,.i,.l [.i .i64,.i .i64,.i .i64,.i .i64,.i .i64],.l [.i .i64]],[.agg [.sl [.i .i64] [],.sl [.b] [],.sl [.i .i64] [],.pre 0 0 0 false,.own 1 false],.int .i64 0,.agg [.int .i64 0,.int .i64 0,.int .i64 0,.int .i64 0,.int .i64 0]],[.arr [.i .i64,.i .i64,.i .i64,.i .i64,.i .i64] [],.arr [.i .i64] []],[.l [.i .i64,.i .i64,.i .i64,.i .i64,.i .i64],.l [.i .i64]],.tup [],[.arr [.i .i64,.i .i64,.i .i64,.i .i64,.i .i64] [],.arr [.i .i64] []],fun a=>dF a⟩
theorem KS:jS aT 228 Q8:=jS.of TI (wd:=false) (cx:=(mV aC [] [] [] [])) (jY.make trivial trivial trivial) (fun a=>by kernel_rfl)
def nH (c0:((List Int)×(List Bool)×(List Int)×Nat×Nat×Int×Int×Int×Int×Int×Int×(List (Int×Int×Int×Int×Int))×(List Int))) (s:(Int×Int×(List (Int×Int×Int×Int×Int))×(List Int)×(List Int)×(List Bool)×(List Int)×Nat×Nat×Int×Int×Int×Int×Int)):Option (bH (Int×Int×(List (Int×Int×Int×Int×Int))×(List Int)×(List Int)×(List Bool)×(List Int)×Nat×Nat×Int×Int×Int×Int×Int) (bH (Int×(List (Int×Int×Int×Int×Int))×(List Int)×(List Int)×(List Bool)×(List Int)×Nat×Nat×Int×Int×Int×Int×Int) ((List (Int×Int×Int×Int×Int))×(List Int)))):=
 bif decide (s.2.1<(Int.ofNat s.2.2.2.2.2.2.2.1)) then
  bif decide ((aA .i64 (s.2.1+1))<(Int.ofNat s.2.2.2.2.2.2.2.1)) then
   (aL (s.2.2.1.take s.2.2.2.2.2.2.2.1) (aA .i64 (s.2.1+1))).bind fun a0=>
   (aL (s.2.2.1.take s.2.2.2.2.2.2.2.1) s.2.1).bind fun a1=>
   (bO a0 a1).bind fun n2=>
   bif decide (n2<0) then
    (aL (s.2.2.1.take s.2.2.2.2.2.2.2.1) (aA .i64 (s.2.1+1))).bind fun a3=>
    (bO a3 s.2.2.2.2.2.2.2.2.2).bind fun n4=>
    bif decide (0<=n4) then
     (dF (s.2.2.2.2.1,s.2.2.2.2.2.1,s.2.2.2.2.2.2.1,s.2.2.2.2.2.2.2.1,s.2.2.2.2.2.2.2.2.1,s.1,s.2.2.2.2.2.2.2.2.2.1,s.2.2.2.2.2.2.2.2.2.2.1,s.2.2.2.2.2.2.2.2.2.2.2.1,s.2.2.2.2.2.2.2.2.2.2.2.2.1,s.2.2.2.2.2.2.2.2.2.2.2.2.2,s.2.2.1,s.2.2.2.1)).bind fun a5=>
     bif a5.1.length==c0.2.2.2.2.2.2.2.2.2.2.2.1.length then
      bif a5.2.length==c0.2.2.2.2.2.2.2.2.2.2.2.2.length then
       some (.done (.done a5))
      else
       none
     else
      none
    else
     (aL (s.2.2.1.take s.2.2.2.2.2.2.2.1) (aA .i64 (s.2.1+1))).bind fun a6=>
     (dF (s.2.2.2.2.1,s.2.2.2.2.2.1,s.2.2.2.2.2.2.1,s.2.2.2.2.2.2.2.1,s.2.2.2.2.2.2.2.2.1,s.1,a6.1,a6.2.1,a6.2.2.1,a6.2.2.2.1,a6.2.2.2.2,s.2.2.1,s.2.2.2.1)).bind fun a7=>
     some (.next (aA .i64 (s.2.1+1),aA .i64 ((aA .i64 (2*(aA .i64 (s.2.1+1))))+1),a7.1,a7.2,s.2.2.2.2))
   else
    (aL (s.2.2.1.take s.2.2.2.2.2.2.2.1) s.2.1).bind fun a8=>
    (bO a8 s.2.2.2.2.2.2.2.2.2).bind fun n9=>
    bif decide (0<=n9) then
     (dF (s.2.2.2.2.1,s.2.2.2.2.2.1,s.2.2.2.2.2.2.1,s.2.2.2.2.2.2.2.1,s.2.2.2.2.2.2.2.2.1,s.1,s.2.2.2.2.2.2.2.2.2.1,s.2.2.2.2.2.2.2.2.2.2.1,s.2.2.2.2.2.2.2.2.2.2.2.1,s.2.2.2.2.2.2.2.2.2.2.2.2.1,s.2.2.2.2.2.2.2.2.2.2.2.2.2,s.2.2.1,s.2.2.2.1)).bind fun a10=>
     bif a10.1.length==c0.2.2.2.2.2.2.2.2.2.2.2.1.length then
      bif a10.2.length==c0.2.2.2.2.2.2.2.2.2.2.2.2.length then
       some (.done (.done a10))
      else
       none
     else
      none
    else
     (aL (s.2.2.1.take s.2.2.2.2.2.2.2.1) s.2.1).bind fun a11=>
     (dF (s.2.2.2.2.1,s.2.2.2.2.2.1,s.2.2.2.2.2.2.1,s.2.2.2.2.2.2.2.1,s.2.2.2.2.2.2.2.2.1,s.1,a11.1,a11.2.1,a11.2.2.1,a11.2.2.2.1,a11.2.2.2.2,s.2.2.1,s.2.2.2.1)).bind fun a12=>
     some (.next (s.2.1,aA .i64 ((aA .i64 (2*s.2.1))+1),a12.1,a12.2,s.2.2.2.2))
  else
   (aL (s.2.2.1.take s.2.2.2.2.2.2.2.1) s.2.1).bind fun a13=>
   (bO a13 s.2.2.2.2.2.2.2.2.2).bind fun n14=>
   bif decide (0<=n14) then
    (dF (s.2.2.2.2.1,s.2.2.2.2.2.1,s.2.2.2.2.2.2.1,s.2.2.2.2.2.2.2.1,s.2.2.2.2.2.2.2.2.1,s.1,s.2.2.2.2.2.2.2.2.2.1,s.2.2.2.2.2.2.2.2.2.2.1,s.2.2.2.2.2.2.2.2.2.2.2.1,s.2.2.2.2.2.2.2.2.2.2.2.2.1,s.2.2.2.2.2.2.2.2.2.2.2.2.2,s.2.2.1,s.2.2.2.1)).bind fun a15=>
    bif a15.1.length==c0.2.2.2.2.2.2.2.2.2.2.2.1.length then
     bif a15.2.length==c0.2.2.2.2.2.2.2.2.2.2.2.2.length then
      some (.done (.done a15))
     else
      none
    else
     none
   else
    (aL (s.2.2.1.take s.2.2.2.2.2.2.2.1) s.2.1).bind fun a16=>
    (dF (s.2.2.2.2.1,s.2.2.2.2.2.1,s.2.2.2.2.2.2.1,s.2.2.2.2.2.2.2.1,s.2.2.2.2.2.2.2.2.1,s.1,a16.1,a16.2.1,a16.2.2.1,a16.2.2.2.1,a16.2.2.2.2,s.2.2.1,s.2.2.2.1)).bind fun a17=>
    some (.next (s.2.1,aA .i64 ((aA .i64 (2*s.2.1))+1),a17.1,a17.2,s.2.2.2.2))
 else
  (dF (s.2.2.2.2.1,s.2.2.2.2.2.1,s.2.2.2.2.2.2.1,s.2.2.2.2.2.2.2.1,s.2.2.2.2.2.2.2.2.1,s.1,s.2.2.2.2.2.2.2.2.2.1,s.2.2.2.2.2.2.2.2.2.2.1,s.2.2.2.2.2.2.2.2.2.2.2.1,s.2.2.2.2.2.2.2.2.2.2.2.2.1,s.2.2.2.2.2.2.2.2.2.2.2.2.2,s.2.2.1,s.2.2.2.1)).bind fun a18=>
  bif a18.1.length==c0.2.2.2.2.2.2.2.2.2.2.2.1.length then
   bif a18.2.length==c0.2.2.2.2.2.2.2.2.2.2.2.2.length then
    some (.done (.done a18))
   else
    none
  else
   none
def wO (c0:((List Int)×(List Bool)×(List Int)×Nat×Nat×Int×Int×Int×Int×Int×Int×(List (Int×Int×Int×Int×Int))×(List Int))) (s:(Int×(List (Int×Int×Int×Int×Int))×(List Int)×(List Int)×(List Bool)×(List Int)×Nat×Nat×Int×Int×Int×Int×Int)):Option (bH (Int×(List (Int×Int×Int×Int×Int))×(List Int)×(List Int)×(List Bool)×(List Int)×Nat×Nat×Int×Int×Int×Int×Int) ((List (Int×Int×Int×Int×Int))×(List Int))):=
 bif decide (0<s.1) then
  (aL (s.2.1.take s.2.2.2.2.2.2.1) (aA .i64 (Int.tdiv (aA .i64 (s.1-1)) 2))).bind fun a0=>
  (bO s.2.2.2.2.2.2.2.2 a0).bind fun n1=>
  bif decide (n1<0) then
   (aL (s.2.1.take s.2.2.2.2.2.2.1) (aA .i64 (Int.tdiv (aA .i64 (s.1-1)) 2))).bind fun a2=>
   (dF (s.2.2.2.1,s.2.2.2.2.1,s.2.2.2.2.2.1,s.2.2.2.2.2.2.1,s.2.2.2.2.2.2.2.1,s.1,a2.1,a2.2.1,a2.2.2.1,a2.2.2.2.1,a2.2.2.2.2,s.2.1,s.2.2.1)).bind fun a3=>
   some (.next (aA .i64 (Int.tdiv (aA .i64 (s.1-1)) 2),a3.1,a3.2,s.2.2.2))
  else
   aK (nH c0) (s.1,aA .i64 ((aA .i64 (2*s.1))+1),s.2)
 else
  aK (nH c0) (s.1,aA .i64 ((aA .i64 (2*s.1))+1),s.2)
def rC (a:((List Int)×(List Bool)×(List Int)×Nat×Nat×Int×Int×Int×Int×Int×Int×(List (Int×Int×Int×Int×Int))×(List Int))):Option ((List (Int×Int×Int×Int×Int))×(List Int)):=
 aK (wO a) (a.2.2.2.2.2.1,a.2.2.2.2.2.2.2.2.2.2.2.1,a.2.2.2.2.2.2.2.2.2.2.2.2,a.1,a.2.1,a.2.2.1,a.2.2.2.1,a.2.2.2.2.1,a.2.2.2.2.2.2.1,a.2.2.2.2.2.2.2.1,a.2.2.2.2.2.2.2.2.1,a.2.2.2.2.2.2.2.2.2.1,a.2.2.2.2.2.2.2.2.2.2.1)
def MB:dA:=⟨[.l [.i .i64],.l [.b],.l [.i .i64],.n,.n,.i,.i,.i,.i,.i,.i,.l [.i .i64,.i .i64,.i .i64,.i .i64,.i .i64],.l [.i .i64]],[.agg [.sl [.i .i64] [],.sl [.b] [],.sl [.i .i64] [],.pre 0 0 0 false,.own 1 false],.int .i64 0,.agg [.int .i64 0,.int .i64 0,.int .i64 0,.int .i64 0,.int .i64 0]],[.arr [.i .i64,.i .i64,.i .i64,.i .i64,.i .i64] [],.arr [.i .i64] []],[.l [.i .i64,.i .i64,.i .i64,.i .i64,.i .i64],.l [.i .i64]],.tup [],[.arr [.i .i64,.i .i64,.i .i64,.i .i64,.i .i64] [],.arr [.i .i64] []],fun a=>rC a⟩
theorem E3:jS aT 203 MB:=jS.of TG (wd:=false) (cx:=(mV aC [(168,aEB)] [(228,Q8)] [] [])) (jY.make ⟨L6,trivial⟩ ⟨KS,trivial⟩ trivial) (fun a=>by kernel_rfl)
def A8 (p0:aJ) (p1:Int):Option (aJ×(Int×Int×Int×Int×Int)×Int):=
 (aL p0.heap p1).bind fun a0=>
 (KR p0.slots a0.2.2.2).bind fun a1=>
 bif a1.2 !=0 then
  some (aJ.mk (aR.mk [] [] []) [] [],(0,0,0,0,0),a1.2)
 else
  (cG p0.heap).bind fun l2=>
  (cG p0.where_).bind fun l3=>
  (aL l2 (aA .i64 ((Int.ofNat l2.length) -1))).bind fun a4=>
  (jJ l2 0 (aA .i64 ((Int.ofNat l2.length) -1))).bind fun _=>
  (aL l3 a0.2.2.2.1).bind fun _=>
  bif decide (p1<(aA .i64 ((Int.ofNat l2.length) -1))) then
   (rC (a1.1.uses,a1.1.used,a1.1.free,(aA .i64 ((Int.ofNat l2.length) -1)).toNat,l2.length,p1,a4.1,a4.2.1,a4.2.2.1,a4.2.2.2.1,a4.2.2.2.2,l2,cD l3 a0.2.2.2.1 (-1))).bind fun a7=>
   some (aJ.mk a1.1 (a7.1.take ((aA .i64 ((Int.ofNat l2.length) -1)).toNat)) a7.2,a0,0)
  else
   some (aJ.mk a1.1 (l2.take ((aA .i64 ((Int.ofNat l2.length) -1)).toNat)) (cD l3 a0.2.2.2.1 (-1)),a0,0)
def aMr:bF:=⟨aB.cons (aG.agg bV) (aB.one (aG.int .i64)),aG.tup (aB.cons (aG.agg bV) (aB.cons (aG.agg (bY.row iD)) (aB.one (aG.int .i64)))),fun a=>A8 a.1 a.2,.frz,false⟩
theorem aES:aF aT 207 aMr:=aF.of aDP (cx:=(mV aC [(232,aMq),(140,bF.clone iD),(37,bF.clone ki)] [(203,MB)] [(202,VD)] [])) rfl (jY.make ⟨aER,yZ,wM,trivial⟩ ⟨E3,trivial⟩ ⟨L0,trivial⟩) (fun a=>by kernel_rfl)
def pL (p0:aJ) (p1:Int×Int):Option (aJ×(Int×Int×Int×Int×Int)×Int):=
 (wN p0 p1).bind fun a0=>
 bif a0.2 !=0 then
  some (aJ.mk (aR.mk [] [] []) [] [],(0,0,0,0,0),a0.2)
 else
  (A8 p0 a0.1).bind fun a1=>
  some a1
def aKK:bF:=⟨aB.cons (aG.agg bV) (aB.one (aG.agg (bY.row gU))),aG.tup (aB.cons (aG.agg bV) (aB.cons (aG.agg (bY.row iD)) (aB.one (aG.int .i64)))),fun a=>pL a.1 a.2,.frz,false⟩
theorem TS:aF aT 161 aKK:=Oc aDb rfl aC [(201,aKJ),(207,aMr)] ⟨TR,aES,trivial⟩ fun a=>by kernel_rfl
def nI (a:(Int×Int×(List (Int×Int×Int)))):Option (Nat×Nat×(List (Int×Int×Int))):=
 bif (((decide (0<=a.1))&&(decide (a.1<=a.2.1)))&&(decide (a.2.1<=(Int.ofNat a.2.2.length))))&&(decide ((Int.ofNat a.2.2.length)<=(Int.ofNat a.2.2.length))) then
  bif a.1==a.2.1 then
   bif a.2.2.length==a.2.2.length then
    some (a.2.2.length,a.2.2.length,a.2.2)
   else
    none
  else
   (jJ a.2.2 0 a.1).bind fun _=>
   bif ((decide (0<=a.2.1))&&(decide (a.2.1<=(Int.ofNat a.2.2.length))))&&(decide ((Int.ofNat a.2.2.length)<=(Int.ofNat a.2.2.length))) then
    bif ((a.2.2.drop (0+a.2.1.toNat)).take (((Int.ofNat a.2.2.length).toNat) -a.2.1.toNat)).isEmpty then
     bif ((decide (0<=(Int.ofNat a.1.toNat)))&&(decide ((Int.ofNat a.1.toNat)<=(Int.ofNat a.2.2.length))))&&(decide ((Int.ofNat a.2.2.length)<=(Int.ofNat a.2.2.length))) then
      bif Nat.beq (((Int.ofNat a.2.2.length).toNat) - ((Int.ofNat a.1.toNat).toNat)) 0 then
       bif a.2.2.length==a.2.2.length then
        some (a.1.toNat,a.2.2.length,a.2.2)
       else
        none
      else
       bif (Nat.ble ((0+((Int.ofNat a.1.toNat).toNat))+(((Int.ofNat a.2.2.length).toNat) - ((Int.ofNat a.1.toNat).toNat))) a.2.2.length)&&(!false) then
        bif ((iO a.2.2 (0+((Int.ofNat a.1.toNat).toNat)) (List.replicate (((Int.ofNat a.2.2.length).toNat) - ((Int.ofNat a.1.toNat).toNat)) (0,0,0))).length)==a.2.2.length then
         some (a.1.toNat,a.2.2.length,iO a.2.2 (0+((Int.ofNat a.1.toNat).toNat)) (List.replicate (((Int.ofNat a.2.2.length).toNat) - ((Int.ofNat a.1.toNat).toNat)) (0,0,0)))
        else
         none
       else
        none
     else
      none
    else
     bif Nat.ble (a.1.toNat+(((a.2.2.drop (0+a.2.1.toNat)).take (((Int.ofNat a.2.2.length).toNat) -a.2.1.toNat)).length)) a.2.2.length then
      bif (Nat.ble (a.1.toNat+(((a.2.2.drop (0+a.2.1.toNat)).take (((Int.ofNat a.2.2.length).toNat) -a.2.1.toNat)).length)) a.2.2.length)&&(!false) then
       bif ((decide (0<=(Int.ofNat (a.1.toNat+(((a.2.2.drop (0+a.2.1.toNat)).take (((Int.ofNat a.2.2.length).toNat) -a.2.1.toNat)).length)))))&&(decide ((Int.ofNat (a.1.toNat+(((a.2.2.drop (0+a.2.1.toNat)).take (((Int.ofNat a.2.2.length).toNat) -a.2.1.toNat)).length)))<=(Int.ofNat a.2.2.length))))&&(decide ((Int.ofNat a.2.2.length)<=(Int.ofNat a.2.2.length))) then
        bif Nat.beq (((Int.ofNat a.2.2.length).toNat) - ((Int.ofNat (a.1.toNat+(((a.2.2.drop (0+a.2.1.toNat)).take (((Int.ofNat a.2.2.length).toNat) -a.2.1.toNat)).length))).toNat)) 0 then
         bif ((iO a.2.2 a.1.toNat ((a.2.2.drop (0+a.2.1.toNat)).take (((Int.ofNat a.2.2.length).toNat) -a.2.1.toNat))).length)==a.2.2.length then
          some (a.1.toNat+(((a.2.2.drop (0+a.2.1.toNat)).take (((Int.ofNat a.2.2.length).toNat) -a.2.1.toNat)).length),a.2.2.length,iO a.2.2 a.1.toNat ((a.2.2.drop (0+a.2.1.toNat)).take (((Int.ofNat a.2.2.length).toNat) -a.2.1.toNat)))
         else
          none
        else
         bif (Nat.ble ((0+((Int.ofNat (a.1.toNat+(((a.2.2.drop (0+a.2.1.toNat)).take (((Int.ofNat a.2.2.length).toNat) -a.2.1.toNat)).length))).toNat))+(((Int.ofNat a.2.2.length).toNat) - ((Int.ofNat (a.1.toNat+(((a.2.2.drop (0+a.2.1.toNat)).take (((Int.ofNat a.2.2.length).toNat) -a.2.1.toNat)).length))).toNat))) ((iO a.2.2 a.1.toNat ((a.2.2.drop (0+a.2.1.toNat)).take (((Int.ofNat a.2.2.length).toNat) -a.2.1.toNat))).length))&&(!false) then
          bif ((iO (iO a.2.2 a.1.toNat ((a.2.2.drop (0+a.2.1.toNat)).take (((Int.ofNat a.2.2.length).toNat) -a.2.1.toNat))) (0+((Int.ofNat (a.1.toNat+(((a.2.2.drop (0+a.2.1.toNat)).take (((Int.ofNat a.2.2.length).toNat) -a.2.1.toNat)).length))).toNat)) (List.replicate (((Int.ofNat a.2.2.length).toNat) - ((Int.ofNat (a.1.toNat+(((a.2.2.drop (0+a.2.1.toNat)).take (((Int.ofNat a.2.2.length).toNat) -a.2.1.toNat)).length))).toNat)) (0,0,0))).length)==a.2.2.length then
           some (a.1.toNat+(((a.2.2.drop (0+a.2.1.toNat)).take (((Int.ofNat a.2.2.length).toNat) -a.2.1.toNat)).length),a.2.2.length,iO (iO a.2.2 a.1.toNat ((a.2.2.drop (0+a.2.1.toNat)).take (((Int.ofNat a.2.2.length).toNat) -a.2.1.toNat))) (0+((Int.ofNat (a.1.toNat+(((a.2.2.drop (0+a.2.1.toNat)).take (((Int.ofNat a.2.2.length).toNat) -a.2.1.toNat)).length))).toNat)) (List.replicate (((Int.ofNat a.2.2.length).toNat) - ((Int.ofNat (a.1.toNat+(((a.2.2.drop (0+a.2.1.toNat)).take (((Int.ofNat a.2.2.length).toNat) -a.2.1.toNat)).length))).toNat)) (0,0,0)))
          else
           none
         else
          none
       else
        none
      else
       none
     else
      none
   else
    none
 else
  none
def X4:dA:=⟨[.i,.i,.l [.i .i64,.i .i64,.i .i64]],[.own 0 false,.int .i64 0,.int .i64 0],[.arr [.i .i64,.i .i64,.i .i64] []],[.n,.n,.l [.i .i64,.i .i64,.i .i64]],.pre 0 0 0 false,[.arr [.i .i64,.i .i64,.i .i64] []],fun a=>nI a⟩
theorem VG:jS aT 185 X4:=jS.of aDv (wd:=true) (cx:=(mV aC [] [] [] [])) (jY.make trivial trivial trivial) (fun a=>by kernel_rfl)
def IS (p0:aO) (p1:Int):Option (aO×(Int×Int)×Int):=
 (FV p0.certs p1).bind fun a0=>
 bif a0.2.2 !=0 then
  some (aO.mk (0,0) (Field.mk []) (aW.mk 0 []) (aJ.mk (aR.mk [] [] []) [] []) [],a0.2)
 else
  (mA p0).bind fun r1=>
  (zA p0.due p1).bind fun a2=>
  bif a2.2 then
   (aL p0.due a2.1).bind fun a3=>
   (pL p0.agenda a3.2).bind fun a4=>
   bif a4.2.2 !=0 then
    some (aO.mk (0,0) (Field.mk []) (aW.mk 0 []) (aJ.mk (aR.mk [] [] []) [] []) [],a0.2.1,a4.2.2)
   else
    (nI (a2.1,aA .i64 (a2.1+1),r1.due)).bind fun a5=>
    some (aO.mk r1.now r1.field a0.1 a4.1 (a5.2.2.take a5.1),a0.2.1,0)
  else
   some (aO.mk r1.now r1.field a0.1 r1.agenda r1.due,a0.2.1,0)
def aMs:bF:=⟨aB.cons (aG.agg bR) (aB.one (aG.int .i64)),aG.tup (aB.cons (aG.agg bR) (aB.cons (aG.agg (bY.row gU)) (aB.one (aG.int .i64)))),fun a=>IS a.1 a.2,.frz,false⟩
theorem aET:aF aT 137 aMs:=aF.of aCQ (cx:=(mV aC [(184,aMn),(83,c83),(83,aEO),(158,aKH),(161,aKK)] [(185,X4)] [] [])) rfl (jY.make ⟨aEN,Q7,MA,TP,TS,trivial⟩ ⟨VG,trivial⟩ trivial) (fun a=>by kernel_rfl)
def DS (p0:aO) (p1:Int):Option (aO×Int):=
 (hU p0).bind fun n0=>
 bif n0 !=0 then
  some (aO.mk (0,0) (Field.mk []) (aW.mk 0 []) (aJ.mk (aR.mk [] [] []) [] []) [],n0)
 else
  (IS p0 p1).bind fun a1=>
  some (a1.1,a1.2.2)
def aMt:bF:=⟨aB.cons (aG.agg bR) (aB.one (aG.int .i64)),aG.tup (aB.cons (aG.agg bR) (aB.one (aG.int .i64))),fun a=>DS a.1 a.2,.frz,false⟩
theorem aEU:aF aT 106 aMt:=Oc aCo rfl aC [(59,c59),(137,aMs)] ⟨IQ,aET,trivial⟩ fun a=>by kernel_rfl
def gQ (s:((List (Int×Int×Int))×(List (Int×Int×Int))×Int×Int)):Option (bH ((List (Int×Int×Int))×(List (Int×Int×Int))×Int×Int) Bool):=
 bif decide (s.2.2.2<s.2.2.1) then
  (aL s.1 s.2.2.2).bind fun a0=>
  (aL s.2.1 s.2.2.2).bind fun a1=>
  bif !((a0.1==a1.1)&&((a0.2.1==a1.2.1)&&(a0.2.2==a1.2.2))) then
   some (.done false)
  else
   some (.next (s.1,s.2.1,s.2.2.1,aA .i64 (s.2.2.2+1)))
 else
  some (.done true)
def jK (p0:List (Int×Int×Int)) (p1:List (Int×Int×Int)):Option Bool:=
 bif (Int.ofNat p0.length) !=(Int.ofNat p1.length) then
  some false
 else
  aK gQ (p0,p1,Int.ofNat p0.length,0)
def aMu:bF:=⟨aB.cons (aG.sl eS) (aB.one (aG.sl eS)),aG.bool,fun a=>jK a.1 a.2,.pure,false⟩
theorem aEV:aF aT 107 aMu:=Oc aCp rfl aC [] trivial fun a=>by kernel_rfl
def bJ (a:((List Int)×(List Bool)×(List Int)×Int×Int×Int×Int×Int×Int×(List (Int×Int×Int×Int×Int))×(List Int))):Option ((List (Int×Int×Int×Int×Int))×(List Int)):=
 (aL a.2.2.2.2.2.2.2.2.2.1 a.2.2.2.1).bind fun _=>
 (aL a.2.2.2.2.2.2.2.2.2.2 a.2.2.2.2.2.2.2.1).bind fun _=>
 bif ((cD a.2.2.2.2.2.2.2.2.2.1 a.2.2.2.1 (a.2.2.2.2.1,a.2.2.2.2.2.1,a.2.2.2.2.2.2.1,a.2.2.2.2.2.2.2.1,a.2.2.2.2.2.2.2.2.1)).length)==a.2.2.2.2.2.2.2.2.2.1.length then
  bif ((cD a.2.2.2.2.2.2.2.2.2.2 a.2.2.2.2.2.2.2.1 a.2.2.2.1).length)==a.2.2.2.2.2.2.2.2.2.2.length then
   some (cD a.2.2.2.2.2.2.2.2.2.1 a.2.2.2.1 (a.2.2.2.2.1,a.2.2.2.2.2.1,a.2.2.2.2.2.2.1,a.2.2.2.2.2.2.2.1,a.2.2.2.2.2.2.2.2.1),cD a.2.2.2.2.2.2.2.2.2.2 a.2.2.2.2.2.2.2.1 a.2.2.2.1)
  else
   none
 else
  none
def X5:dA:=⟨[.l [.i .i64],.l [.b],.l [.i .i64],.i,.i,.i,.i,.i,.i,.l [.i .i64,.i .i64,.i .i64,.i .i64,.i .i64],.l [.i .i64]],[.agg [.sl [.i .i64] [],.sl [.b] [],.sl [.i .i64] [],.own 0 false,.own 1 false],.int .i64 0,.agg [.int .i64 0,.int .i64 0,.int .i64 0,.int .i64 0,.int .i64 0]],[.arr [.i .i64,.i .i64,.i .i64,.i .i64,.i .i64] [],.arr [.i .i64] []],[.l [.i .i64,.i .i64,.i .i64,.i .i64,.i .i64],.l [.i .i64]],.tup [],[.arr [.i .i64,.i .i64,.i .i64,.i .i64,.i .i64] [],.arr [.i .i64] []],fun a=>bJ a⟩
theorem VH:jS aT 228 X5:=jS.of TI (wd:=false) (cx:=(mV aC [] [] [] [])) (jY.make trivial trivial trivial) (fun a=>by kernel_rfl)
def eF (c0:((List Int)×(List Bool)×(List Int)×Int×Int×Int×Int×Int×Int×(List (Int×Int×Int×Int×Int))×(List Int))) (s:(Int×Int×(List (Int×Int×Int×Int×Int))×(List Int)×(List Int)×(List Bool)×(List Int)×Int×Int×Int×Int×Int)):Option (bH (Int×Int×(List (Int×Int×Int×Int×Int))×(List Int)×(List Int)×(List Bool)×(List Int)×Int×Int×Int×Int×Int) (bH (Int×(List (Int×Int×Int×Int×Int))×(List Int)×(List Int)×(List Bool)×(List Int)×Int×Int×Int×Int×Int) ((List (Int×Int×Int×Int×Int))×(List Int)))):=
 bif decide (s.2.1<(Int.ofNat s.2.2.1.length)) then
  bif decide ((aA .i64 (s.2.1+1))<(Int.ofNat s.2.2.1.length)) then
   (aL s.2.2.1 (aA .i64 (s.2.1+1))).bind fun a0=>
   (aL s.2.2.1 s.2.1).bind fun a1=>
   (bO a0 a1).bind fun n2=>
   bif decide (n2<0) then
    (aL s.2.2.1 (aA .i64 (s.2.1+1))).bind fun a3=>
    (bO a3 s.2.2.2.2.2.2.2).bind fun n4=>
    bif decide (0<=n4) then
     (bJ (s.2.2.2.2.1,s.2.2.2.2.2.1,s.2.2.2.2.2.2.1,s.1,s.2.2.2.2.2.2.2.1,s.2.2.2.2.2.2.2.2.1,s.2.2.2.2.2.2.2.2.2.1,s.2.2.2.2.2.2.2.2.2.2.1,s.2.2.2.2.2.2.2.2.2.2.2,s.2.2.1,s.2.2.2.1)).bind fun a5=>
     bif a5.1.length==c0.2.2.2.2.2.2.2.2.2.1.length then
      bif a5.2.length==c0.2.2.2.2.2.2.2.2.2.2.length then
       some (.done (.done a5))
      else
       none
     else
      none
    else
     (aL s.2.2.1 (aA .i64 (s.2.1+1))).bind fun a6=>
     (bJ (s.2.2.2.2.1,s.2.2.2.2.2.1,s.2.2.2.2.2.2.1,s.1,a6.1,a6.2.1,a6.2.2.1,a6.2.2.2.1,a6.2.2.2.2,s.2.2.1,s.2.2.2.1)).bind fun a7=>
     some (.next (aA .i64 (s.2.1+1),aA .i64 ((aA .i64 (2*(aA .i64 (s.2.1+1))))+1),a7.1,a7.2,s.2.2.2.2))
   else
    (aL s.2.2.1 s.2.1).bind fun a8=>
    (bO a8 s.2.2.2.2.2.2.2).bind fun n9=>
    bif decide (0<=n9) then
     (bJ (s.2.2.2.2.1,s.2.2.2.2.2.1,s.2.2.2.2.2.2.1,s.1,s.2.2.2.2.2.2.2.1,s.2.2.2.2.2.2.2.2.1,s.2.2.2.2.2.2.2.2.2.1,s.2.2.2.2.2.2.2.2.2.2.1,s.2.2.2.2.2.2.2.2.2.2.2,s.2.2.1,s.2.2.2.1)).bind fun a10=>
     bif a10.1.length==c0.2.2.2.2.2.2.2.2.2.1.length then
      bif a10.2.length==c0.2.2.2.2.2.2.2.2.2.2.length then
       some (.done (.done a10))
      else
       none
     else
      none
    else
     (aL s.2.2.1 s.2.1).bind fun a11=>
     (bJ (s.2.2.2.2.1,s.2.2.2.2.2.1,s.2.2.2.2.2.2.1,s.1,a11.1,a11.2.1,a11.2.2.1,a11.2.2.2.1,a11.2.2.2.2,s.2.2.1,s.2.2.2.1)).bind fun a12=>
     some (.next (s.2.1,aA .i64 ((aA .i64 (2*s.2.1))+1),a12.1,a12.2,s.2.2.2.2))
  else
   (aL s.2.2.1 s.2.1).bind fun a13=>
   (bO a13 s.2.2.2.2.2.2.2).bind fun n14=>
   bif decide (0<=n14) then
    (bJ (s.2.2.2.2.1,s.2.2.2.2.2.1,s.2.2.2.2.2.2.1,s.1,s.2.2.2.2.2.2.2.1,s.2.2.2.2.2.2.2.2.1,s.2.2.2.2.2.2.2.2.2.1,s.2.2.2.2.2.2.2.2.2.2.1,s.2.2.2.2.2.2.2.2.2.2.2,s.2.2.1,s.2.2.2.1)).bind fun a15=>
    bif a15.1.length==c0.2.2.2.2.2.2.2.2.2.1.length then
     bif a15.2.length==c0.2.2.2.2.2.2.2.2.2.2.length then
      some (.done (.done a15))
     else
      none
    else
     none
   else
    (aL s.2.2.1 s.2.1).bind fun a16=>
    (bJ (s.2.2.2.2.1,s.2.2.2.2.2.1,s.2.2.2.2.2.2.1,s.1,a16.1,a16.2.1,a16.2.2.1,a16.2.2.2.1,a16.2.2.2.2,s.2.2.1,s.2.2.2.1)).bind fun a17=>
    some (.next (s.2.1,aA .i64 ((aA .i64 (2*s.2.1))+1),a17.1,a17.2,s.2.2.2.2))
 else
  (bJ (s.2.2.2.2.1,s.2.2.2.2.2.1,s.2.2.2.2.2.2.1,s.1,s.2.2.2.2.2.2.2.1,s.2.2.2.2.2.2.2.2.1,s.2.2.2.2.2.2.2.2.2.1,s.2.2.2.2.2.2.2.2.2.2.1,s.2.2.2.2.2.2.2.2.2.2.2,s.2.2.1,s.2.2.2.1)).bind fun a18=>
  bif a18.1.length==c0.2.2.2.2.2.2.2.2.2.1.length then
   bif a18.2.length==c0.2.2.2.2.2.2.2.2.2.2.length then
    some (.done (.done a18))
   else
    none
  else
   none
def dG (c0:((List Int)×(List Bool)×(List Int)×Int×Int×Int×Int×Int×Int×(List (Int×Int×Int×Int×Int))×(List Int))) (s:(Int×(List (Int×Int×Int×Int×Int))×(List Int)×(List Int)×(List Bool)×(List Int)×Int×Int×Int×Int×Int)):Option (bH (Int×(List (Int×Int×Int×Int×Int))×(List Int)×(List Int)×(List Bool)×(List Int)×Int×Int×Int×Int×Int) ((List (Int×Int×Int×Int×Int))×(List Int))):=
 bif decide (0<s.1) then
  (aL s.2.1 (aA .i64 (Int.tdiv (aA .i64 (s.1-1)) 2))).bind fun a0=>
  (bO s.2.2.2.2.2.2 a0).bind fun n1=>
  bif decide (n1<0) then
   (aL s.2.1 (aA .i64 (Int.tdiv (aA .i64 (s.1-1)) 2))).bind fun a2=>
   (bJ (s.2.2.2.1,s.2.2.2.2.1,s.2.2.2.2.2.1,s.1,a2.1,a2.2.1,a2.2.2.1,a2.2.2.2.1,a2.2.2.2.2,s.2.1,s.2.2.1)).bind fun a3=>
   some (.next (aA .i64 (Int.tdiv (aA .i64 (s.1-1)) 2),a3.1,a3.2,s.2.2.2))
  else
   aK (eF c0) (s.1,aA .i64 ((aA .i64 (2*s.1))+1),s.2)
 else
  aK (eF c0) (s.1,aA .i64 ((aA .i64 (2*s.1))+1),s.2)
def eK (a:((List Int)×(List Bool)×(List Int)×Int×Int×Int×Int×Int×Int×(List (Int×Int×Int×Int×Int))×(List Int))):Option ((List (Int×Int×Int×Int×Int))×(List Int)):=
 aK (dG a) (a.2.2.2.1,a.2.2.2.2.2.2.2.2.2.1,a.2.2.2.2.2.2.2.2.2.2,a.1,a.2.1,a.2.2.1,a.2.2.2.2.1,a.2.2.2.2.2.1,a.2.2.2.2.2.2.1,a.2.2.2.2.2.2.2.1,a.2.2.2.2.2.2.2.2.1)
def Q9:dA:=⟨[.l [.i .i64],.l [.b],.l [.i .i64],.i,.i,.i,.i,.i,.i,.l [.i .i64,.i .i64,.i .i64,.i .i64,.i .i64],.l [.i .i64]],[.agg [.sl [.i .i64] [],.sl [.b] [],.sl [.i .i64] [],.own 0 false,.own 1 false],.int .i64 0,.agg [.int .i64 0,.int .i64 0,.int .i64 0,.int .i64 0,.int .i64 0]],[.arr [.i .i64,.i .i64,.i .i64,.i .i64,.i .i64] [],.arr [.i .i64] []],[.l [.i .i64,.i .i64,.i .i64,.i .i64,.i .i64],.l [.i .i64]],.tup [],[.arr [.i .i64,.i .i64,.i .i64,.i .i64,.i .i64] [],.arr [.i .i64] []],fun a=>eK a⟩
theorem KT:jS aT 203 Q9:=jS.of TG (wd:=false) (cx:=(mV aC [(168,aEB)] [(228,Q8),(228,X5)] [] [])) (jY.make ⟨L6,trivial⟩ ⟨KS,VH,trivial⟩ trivial) (fun a=>by kernel_rfl)
def DT (p0:aJ) (p1:Int×Int) (p2:Int×Int):Option (aJ×Int):=
 (hM p0).bind fun n0=>
 (fA p2).bind fun n1=>
 bif (if n1>n0 then n1 else n0) !=0 then
  some (aJ.mk (aR.mk [] [] []) [] [],if n1>n0 then n1 else n0)
 else
  (wN p0 p1).bind fun a2=>
  bif a2.2 !=0 then
   some (aJ.mk (aR.mk [] [] []) [] [],a2.2)
  else
   (cG p0.heap).bind fun l3=>
   (cG p0.where_).bind fun l4=>
   (aL l3 a2.1).bind fun a5=>
   (eK (p0.slots.uses,p0.slots.used,p0.slots.free,a2.1,p2.1,p2.2,a5.2.2.1,a5.2.2.2.1,a5.2.2.2.2,l3,l4)).bind fun a6=>
   some (aJ.mk p0.slots a6.1 a6.2,0)
def aMv:bF:=⟨aB.cons (aG.agg bV) (aB.cons (aG.agg (bY.row gU)) (aB.one (aG.agg (bY.row gU)))),aG.tup (aB.cons (aG.agg bV) (aB.one (aG.int .i64))),fun a=>DT a.1 a.2.1 a.2.2,.frz,false⟩
theorem aEW:aF aT 159 aMv:=aF.of aC9 (cx:=(mV aC [(118,VE),(33,c33),(201,aKJ),(140,bF.clone iD),(37,bF.clone ki)] [(203,MB),(203,Q9)] [(202,VD)] [])) rfl (jY.make ⟨DQ,CE,TR,yZ,wM,trivial⟩ ⟨E3,KT,trivial⟩ ⟨L0,trivial⟩) (fun a=>by kernel_rfl)
def uL (p0:Int×Int×Int×Int×Int) (p1:Int):Option Bool:=
 some (p0.2.2.1==p1)
def aMw:bF:=⟨aB.cons (aG.agg (bY.row iD)) (aB.one (aG.ref (bY.int .i64))),aG.bool,fun a=>uL a.1 a.2,.pure,false⟩
theorem aEX:aF aT 205 aMw:=Oc aDN rfl aC [] trivial fun a=>by kernel_rfl
def bZ (s:((List (Int×Int×Int×Int×Int))×Int×Int×Int)):Option (bH ((List (Int×Int×Int×Int×Int))×Int×Int×Int) Int):=
 bif decide (s.2.2.2<s.2.2.1) then
  (aL s.1 s.2.2.2).bind fun a0=>
  (uL a0 s.2.1).bind fun b1=>
  bif b1 then
   some (.done s.2.2.2)
  else
   some (.next (s.1,s.2.1,s.2.2.1,aA .i64 (s.2.2.2+1)))
 else
  some (.done (-1))
def dH (p0:List (Int×Int×Int×Int×Int)) (p1:Int):Option Int:=
 aK bZ (p0,p1,Int.ofNat p0.length,0)
def OT:bF:=⟨aB.cons (aG.sl iD) (aB.one (aG.clo 205 (aB.one (aG.ref (bY.int .i64))))),aG.int .i64,fun a=>dH a.1 a.2,.pure,false⟩
theorem OU:aF aT 229 OT:=Oc aD6 rfl aC [(205,aMw)] ⟨aEX,trivial⟩ fun a=>by kernel_rfl
def cA (p0:List (Int×Int×Int×Int×Int)) (p1:Int):Option Bool:=
 (dH p0 p1).bind fun n0=>
 some (decide (0<=n0))
def OV:bF:=⟨aB.cons (aG.sl iD) (aB.one (aG.clo 205 (aB.one (aG.ref (bY.int .i64))))),aG.bool,fun a=>cA a.1 a.2,.pure,false⟩
theorem OW:aF aT 204 OV:=Oc aDM rfl aC [(229,OT)] ⟨OU,trivial⟩ fun a=>by kernel_rfl
def sF (p0:List Int):Option ((List Int)×Int):=
 (jJ p0 0 (aA .i64 ((Int.ofNat p0.length) -1))).bind fun l0=>
 (cG l0).bind fun l1=>
 (aL p0 (aA .i64 ((Int.ofNat p0.length) -1))).bind fun n2=>
 some (l1,n2)
def aMx:bF:=⟨aB.one (aG.sl ki),aG.tup (aB.cons (aG.sl ki) (aB.one (aG.int .i64))),fun a=>sF a,.frz,false⟩
theorem aEY:aF aT 230 aMx:=Oc aD7 rfl aC [(241,bF.clone ki)] ⟨OS,trivial⟩ fun a=>by kernel_rfl
def AA (p0:aR):Option (aR×(Int×Int)×Int):=
 (oS p0).bind fun n0=>
 bif n0 !=0 then
  some (aR.mk [] [] [],(0,0),n0)
 else
  bif (Int.ofNat p0.free.length)==0 then
   some (aR.mk [] [] [],(0,0),18)
  else
   (sF p0.free).bind fun a1=>
   (aL p0.uses a1.2).bind fun n2=>
   bif n2==1000000 then
    some (aR.mk [] [] [],(0,0),18)
   else
    (cG p0.uses).bind fun l3=>
    (cG p0.used).bind fun l4=>
    (aL l4 a1.2).bind fun _=>
    (aL l3 a1.2).bind fun n6=>
    (aL l3 a1.2).bind fun _=>
    (aL (cD l3 a1.2 (aA .i64 (n6+1))) a1.2).bind fun n8=>
    some (aR.mk (cD l3 a1.2 (aA .i64 (n6+1))) (cD l4 a1.2 true) a1.1,(a1.2,n8),0)
def aMy:bF:=⟨aB.one (aG.agg dW),aG.tup (aB.cons (aG.agg dW) (aB.cons (aG.agg (bY.row gU)) (aB.one (aG.int .i64)))),fun a=>AA a,.frz,false⟩
theorem aEZ:aF aT 206 aMy:=aF.of aDO (cx:=(mV aC [(167,aEw),(230,aMx),(37,bF.clone ki),(141,bF.clone kb)] [] [(231,XN)] [])) rfl (jY.make ⟨L5,aEY,wM,yW,trivial⟩ trivial ⟨TJ,trivial⟩) (fun a=>by kernel_rfl)
def jD (p0:aJ) (p1:Int×Int) (p2:Int):Option (aJ×(Int×Int)×Int):=
 (hM p0).bind fun n0=>
 (fA p1).bind fun n1=>
 bif (if n1>n0 then n1 else n0) !=0 then
  some (aJ.mk (aR.mk [] [] []) [] [],(0,0),if n1>n0 then n1 else n0)
 else
  bif decide (p2<0) then
   some (aJ.mk (aR.mk [] [] []) [] [],(0,0),2)
  else
   bif decide (1000000<p2) then
    some (aJ.mk (aR.mk [] [] []) [] [],(0,0),2)
   else
    (cA p0.heap p2).bind fun b2=>
    bif b2 then
     some (aJ.mk (aR.mk [] [] []) [] [],(0,0),14)
    else
     (AA p0.slots).bind fun a3=>
     bif a3.2.2 !=0 then
      some (aJ.mk (aR.mk [] [] []) [] [],(0,0),a3.2.2)
     else
      (cG p0.heap).bind fun l4=>
      (cG p0.where_).bind fun l5=>
      (bM l4 [(p1.1,p1.2,p2,a3.2.1)]).bind fun l6=>
      (eK (a3.1.uses,a3.1.used,a3.1.free,aA .i64 ((Int.ofNat l6.length) -1),p1.1,p1.2,p2,a3.2.1.1,a3.2.1.2,l6,l5)).bind fun a7=>
      some (aJ.mk a3.1 a7.1 a7.2,a3.2.1,0)
def aKL:bF:=⟨aB.cons (aG.agg bV) (aB.cons (aG.agg (bY.row gU)) (aB.one (aG.int .i64))),aG.tup (aB.cons (aG.agg bV) (aB.cons (aG.agg (bY.row gU)) (aB.one (aG.int .i64)))),fun a=>jD a.1 a.2.1 a.2.2,.frz,false⟩
theorem TU:aF aT 160 aKL:=aF.of aDa (cx:=(mV aC [(118,VE),(33,c33),(204,OV),(206,aMy),(140,bF.clone iD),(37,bF.clone ki)] [(203,MB),(203,Q9)] [(202,VD)] [])) rfl (jY.make ⟨DQ,CE,OW,aEZ,yZ,wM,trivial⟩ ⟨E3,KT,trivial⟩ ⟨L0,trivial⟩) (fun a=>by kernel_rfl)
def IT (s:((List (Int×Int×Int))×Int×Int×Int×Int×(List (Int×Int×Int))×Int×(List (Int×Int×Int))×(List Int)×(List Bool)×(List Int)×(List (Int×Int×Int×Int×Int))×(List Int)×(List (Int×Int×Int))×(List (Int×Int×Int))×Int×Int×Int×Int×Int×Int×(List (Int×Int×Int))×(List Int)×(List Bool)×(List Int)×(List (Int×Int×Int×Int×Int))×(List Int)×(List (Int×Int×Int))×(List (Int×Int×Int)))):Option (bH ((List (Int×Int×Int))×Int×Int×Int×Int×(List (Int×Int×Int))×Int×(List (Int×Int×Int))×(List Int)×(List Bool)×(List Int)×(List (Int×Int×Int×Int×Int))×(List Int)×(List (Int×Int×Int))×(List (Int×Int×Int))×Int×Int×Int×Int×Int×Int×(List (Int×Int×Int))×(List Int)×(List Bool)×(List Int)×(List (Int×Int×Int×Int×Int))×(List Int)×(List (Int×Int×Int))×(List (Int×Int×Int))) (bH ((List (Int×Int×Int))×Int×Int×Int×Int×(List (Int×Int×Int))×Int×(List (Int×Int×Int))×(List Int)×(List Bool)×(List Int)×(List (Int×Int×Int×Int×Int))×(List Int)×(List (Int×Int×Int))×(List (Int×Int×Int))×Int×Int×Int) (aO×Int))):=
 bif decide (s.2.2.1<s.2.1) then
  (aL s.1 s.2.2.1).bind fun a0=>
  (oU (Field.mk s.2.2.2.2.2.2.2.2.2.2.2.2.2.2.1) a0.2 (s.2.2.2.1,s.2.2.2.2.1)).bind fun a1=>
  (zA s.2.2.2.2.2.2.2.2.2.2.2.2.2.1 a0.1).bind fun a2=>
  bif a1.2.1 then
   bif a2.2 then
    (aL s.2.2.2.2.2.2.2.2.2.2.2.2.2.1 a2.1).bind fun a3=>
    (DT (aJ.mk (aR.mk s.2.2.2.2.2.2.2.2.2.2.2.2.2.2.2.2.2.2.2.2.2.2.1 s.2.2.2.2.2.2.2.2.2.2.2.2.2.2.2.2.2.2.2.2.2.2.2.1 s.2.2.2.2.2.2.2.2.2.2.2.2.2.2.2.2.2.2.2.2.2.2.2.2.1) s.2.2.2.2.2.2.2.2.2.2.2.2.2.2.2.2.2.2.2.2.2.2.2.2.2.1 s.2.2.2.2.2.2.2.2.2.2.2.2.2.2.2.2.2.2.2.2.2.2.2.2.2.2.1) a3.2 a1.1).bind fun a4=>
    (aL s.2.2.2.2.2.2.2.2.2.2.2.2.2.1 a2.1).bind fun a5=>
    (bM s.2.2.2.2.2.2.2.2.2.2.2.2.2.2.2.2.2.2.2.2.2.2.2.2.2.2.2.2 [a5]).bind fun l6=>
    bif a4.2 !=0 then
     some (.done (.done (aO.mk (0,0) (Field.mk []) (aW.mk 0 []) (aJ.mk (aR.mk [] [] []) [] []) [],a4.2)))
    else
     some (.next (s.1,s.2.1,aA .i64 (s.2.2.1+1),s.2.2.2.1,s.2.2.2.2.1,s.2.2.2.2.2.1,s.2.2.2.2.2.2.1,s.2.2.2.2.2.2.2.1,s.2.2.2.2.2.2.2.2.1,s.2.2.2.2.2.2.2.2.2.1,s.2.2.2.2.2.2.2.2.2.2.1,s.2.2.2.2.2.2.2.2.2.2.2.1,s.2.2.2.2.2.2.2.2.2.2.2.2.1,s.2.2.2.2.2.2.2.2.2.2.2.2.2.1,s.2.2.2.2.2.2.2.2.2.2.2.2.2.2.1,s.2.2.2.2.2.2.2.2.2.2.2.2.2.2.2.1,s.2.2.2.2.2.2.2.2.2.2.2.2.2.2.2.2.1,s.2.2.2.2.2.2.2.2.2.2.2.2.2.2.2.2.2.1,s.2.2.2.2.2.2.2.2.2.2.2.2.2.2.2.2.2.2.1,s.2.2.2.2.2.2.2.2.2.2.2.2.2.2.2.2.2.2.2.1,s.2.2.2.2.2.2.2.2.2.2.2.2.2.2.2.2.2.2.2.2.1,s.2.2.2.2.2.2.2.2.2.2.2.2.2.2.2.2.2.2.2.2.2.1,a4.1.slots.uses,a4.1.slots.used,a4.1.slots.free,a4.1.heap,a4.1.where_,s.2.2.2.2.2.2.2.2.2.2.2.2.2.2.2.2.2.2.2.2.2.2.2.2.2.2.2.1,l6))
   else
    bif a1.2.1 then
     (jD (aJ.mk (aR.mk s.2.2.2.2.2.2.2.2.2.2.2.2.2.2.2.2.2.2.2.2.2.2.1 s.2.2.2.2.2.2.2.2.2.2.2.2.2.2.2.2.2.2.2.2.2.2.2.1 s.2.2.2.2.2.2.2.2.2.2.2.2.2.2.2.2.2.2.2.2.2.2.2.2.1) s.2.2.2.2.2.2.2.2.2.2.2.2.2.2.2.2.2.2.2.2.2.2.2.2.2.1 s.2.2.2.2.2.2.2.2.2.2.2.2.2.2.2.2.2.2.2.2.2.2.2.2.2.2.1) a1.1 a0.1).bind fun a7=>
     (bM s.2.2.2.2.2.2.2.2.2.2.2.2.2.2.2.2.2.2.2.2.2.2.2.2.2.2.2.2 [(a0.1,a7.2.1)]).bind fun l8=>
     bif a7.2.2 !=0 then
      some (.done (.done (aO.mk (0,0) (Field.mk []) (aW.mk 0 []) (aJ.mk (aR.mk [] [] []) [] []) [],a7.2.2)))
     else
      some (.next (s.1,s.2.1,aA .i64 (s.2.2.1+1),s.2.2.2.1,s.2.2.2.2.1,s.2.2.2.2.2.1,s.2.2.2.2.2.2.1,s.2.2.2.2.2.2.2.1,s.2.2.2.2.2.2.2.2.1,s.2.2.2.2.2.2.2.2.2.1,s.2.2.2.2.2.2.2.2.2.2.1,s.2.2.2.2.2.2.2.2.2.2.2.1,s.2.2.2.2.2.2.2.2.2.2.2.2.1,s.2.2.2.2.2.2.2.2.2.2.2.2.2.1,s.2.2.2.2.2.2.2.2.2.2.2.2.2.2.1,s.2.2.2.2.2.2.2.2.2.2.2.2.2.2.2.1,s.2.2.2.2.2.2.2.2.2.2.2.2.2.2.2.2.1,s.2.2.2.2.2.2.2.2.2.2.2.2.2.2.2.2.2.1,s.2.2.2.2.2.2.2.2.2.2.2.2.2.2.2.2.2.2.1,s.2.2.2.2.2.2.2.2.2.2.2.2.2.2.2.2.2.2.2.1,s.2.2.2.2.2.2.2.2.2.2.2.2.2.2.2.2.2.2.2.2.1,s.2.2.2.2.2.2.2.2.2.2.2.2.2.2.2.2.2.2.2.2.2.1,a7.1.slots.uses,a7.1.slots.used,a7.1.slots.free,a7.1.heap,a7.1.where_,s.2.2.2.2.2.2.2.2.2.2.2.2.2.2.2.2.2.2.2.2.2.2.2.2.2.2.2.1,l8))
    else
     bif a2.2 then
      (aL s.2.2.2.2.2.2.2.2.2.2.2.2.2.1 a2.1).bind fun a9=>
      (pL (aJ.mk (aR.mk s.2.2.2.2.2.2.2.2.2.2.2.2.2.2.2.2.2.2.2.2.2.2.1 s.2.2.2.2.2.2.2.2.2.2.2.2.2.2.2.2.2.2.2.2.2.2.2.1 s.2.2.2.2.2.2.2.2.2.2.2.2.2.2.2.2.2.2.2.2.2.2.2.2.1) s.2.2.2.2.2.2.2.2.2.2.2.2.2.2.2.2.2.2.2.2.2.2.2.2.2.1 s.2.2.2.2.2.2.2.2.2.2.2.2.2.2.2.2.2.2.2.2.2.2.2.2.2.2.1) a9.2).bind fun a10=>
      bif a10.2.2 !=0 then
       some (.done (.done (aO.mk (0,0) (Field.mk []) (aW.mk 0 []) (aJ.mk (aR.mk [] [] []) [] []) [],a10.2.2)))
      else
       some (.next (s.1,s.2.1,aA .i64 (s.2.2.1+1),s.2.2.2.1,s.2.2.2.2.1,s.2.2.2.2.2.1,s.2.2.2.2.2.2.1,s.2.2.2.2.2.2.2.1,s.2.2.2.2.2.2.2.2.1,s.2.2.2.2.2.2.2.2.2.1,s.2.2.2.2.2.2.2.2.2.2.1,s.2.2.2.2.2.2.2.2.2.2.2.1,s.2.2.2.2.2.2.2.2.2.2.2.2.1,s.2.2.2.2.2.2.2.2.2.2.2.2.2.1,s.2.2.2.2.2.2.2.2.2.2.2.2.2.2.1,s.2.2.2.2.2.2.2.2.2.2.2.2.2.2.2.1,s.2.2.2.2.2.2.2.2.2.2.2.2.2.2.2.2.1,s.2.2.2.2.2.2.2.2.2.2.2.2.2.2.2.2.2.1,s.2.2.2.2.2.2.2.2.2.2.2.2.2.2.2.2.2.2.1,s.2.2.2.2.2.2.2.2.2.2.2.2.2.2.2.2.2.2.2.1,s.2.2.2.2.2.2.2.2.2.2.2.2.2.2.2.2.2.2.2.2.1,s.2.2.2.2.2.2.2.2.2.2.2.2.2.2.2.2.2.2.2.2.2.1,a10.1.slots.uses,a10.1.slots.used,a10.1.slots.free,a10.1.heap,a10.1.where_,s.2.2.2.2.2.2.2.2.2.2.2.2.2.2.2.2.2.2.2.2.2.2.2.2.2.2.2))
     else
      bif a1.2.2 !=0 then
       some (.done (.done (aO.mk (0,0) (Field.mk []) (aW.mk 0 []) (aJ.mk (aR.mk [] [] []) [] []) [],a1.2.2)))
      else
       some (.next (s.1,s.2.1,aA .i64 (s.2.2.1+1),s.2.2.2))
  else
   bif a1.2.1 then
    (jD (aJ.mk (aR.mk s.2.2.2.2.2.2.2.2.2.2.2.2.2.2.2.2.2.2.2.2.2.2.1 s.2.2.2.2.2.2.2.2.2.2.2.2.2.2.2.2.2.2.2.2.2.2.2.1 s.2.2.2.2.2.2.2.2.2.2.2.2.2.2.2.2.2.2.2.2.2.2.2.2.1) s.2.2.2.2.2.2.2.2.2.2.2.2.2.2.2.2.2.2.2.2.2.2.2.2.2.1 s.2.2.2.2.2.2.2.2.2.2.2.2.2.2.2.2.2.2.2.2.2.2.2.2.2.2.1) a1.1 a0.1).bind fun a11=>
    (bM s.2.2.2.2.2.2.2.2.2.2.2.2.2.2.2.2.2.2.2.2.2.2.2.2.2.2.2.2 [(a0.1,a11.2.1)]).bind fun l12=>
    bif a11.2.2 !=0 then
     some (.done (.done (aO.mk (0,0) (Field.mk []) (aW.mk 0 []) (aJ.mk (aR.mk [] [] []) [] []) [],a11.2.2)))
    else
     some (.next (s.1,s.2.1,aA .i64 (s.2.2.1+1),s.2.2.2.1,s.2.2.2.2.1,s.2.2.2.2.2.1,s.2.2.2.2.2.2.1,s.2.2.2.2.2.2.2.1,s.2.2.2.2.2.2.2.2.1,s.2.2.2.2.2.2.2.2.2.1,s.2.2.2.2.2.2.2.2.2.2.1,s.2.2.2.2.2.2.2.2.2.2.2.1,s.2.2.2.2.2.2.2.2.2.2.2.2.1,s.2.2.2.2.2.2.2.2.2.2.2.2.2.1,s.2.2.2.2.2.2.2.2.2.2.2.2.2.2.1,s.2.2.2.2.2.2.2.2.2.2.2.2.2.2.2.1,s.2.2.2.2.2.2.2.2.2.2.2.2.2.2.2.2.1,s.2.2.2.2.2.2.2.2.2.2.2.2.2.2.2.2.2.1,s.2.2.2.2.2.2.2.2.2.2.2.2.2.2.2.2.2.2.1,s.2.2.2.2.2.2.2.2.2.2.2.2.2.2.2.2.2.2.2.1,s.2.2.2.2.2.2.2.2.2.2.2.2.2.2.2.2.2.2.2.2.1,s.2.2.2.2.2.2.2.2.2.2.2.2.2.2.2.2.2.2.2.2.2.1,a11.1.slots.uses,a11.1.slots.used,a11.1.slots.free,a11.1.heap,a11.1.where_,s.2.2.2.2.2.2.2.2.2.2.2.2.2.2.2.2.2.2.2.2.2.2.2.2.2.2.2.1,l12))
   else
    bif a2.2 then
     (aL s.2.2.2.2.2.2.2.2.2.2.2.2.2.1 a2.1).bind fun a13=>
     (pL (aJ.mk (aR.mk s.2.2.2.2.2.2.2.2.2.2.2.2.2.2.2.2.2.2.2.2.2.2.1 s.2.2.2.2.2.2.2.2.2.2.2.2.2.2.2.2.2.2.2.2.2.2.2.1 s.2.2.2.2.2.2.2.2.2.2.2.2.2.2.2.2.2.2.2.2.2.2.2.2.1) s.2.2.2.2.2.2.2.2.2.2.2.2.2.2.2.2.2.2.2.2.2.2.2.2.2.1 s.2.2.2.2.2.2.2.2.2.2.2.2.2.2.2.2.2.2.2.2.2.2.2.2.2.2.1) a13.2).bind fun a14=>
     bif a14.2.2 !=0 then
      some (.done (.done (aO.mk (0,0) (Field.mk []) (aW.mk 0 []) (aJ.mk (aR.mk [] [] []) [] []) [],a14.2.2)))
     else
      some (.next (s.1,s.2.1,aA .i64 (s.2.2.1+1),s.2.2.2.1,s.2.2.2.2.1,s.2.2.2.2.2.1,s.2.2.2.2.2.2.1,s.2.2.2.2.2.2.2.1,s.2.2.2.2.2.2.2.2.1,s.2.2.2.2.2.2.2.2.2.1,s.2.2.2.2.2.2.2.2.2.2.1,s.2.2.2.2.2.2.2.2.2.2.2.1,s.2.2.2.2.2.2.2.2.2.2.2.2.1,s.2.2.2.2.2.2.2.2.2.2.2.2.2.1,s.2.2.2.2.2.2.2.2.2.2.2.2.2.2.1,s.2.2.2.2.2.2.2.2.2.2.2.2.2.2.2.1,s.2.2.2.2.2.2.2.2.2.2.2.2.2.2.2.2.1,s.2.2.2.2.2.2.2.2.2.2.2.2.2.2.2.2.2.1,s.2.2.2.2.2.2.2.2.2.2.2.2.2.2.2.2.2.2.1,s.2.2.2.2.2.2.2.2.2.2.2.2.2.2.2.2.2.2.2.1,s.2.2.2.2.2.2.2.2.2.2.2.2.2.2.2.2.2.2.2.2.1,s.2.2.2.2.2.2.2.2.2.2.2.2.2.2.2.2.2.2.2.2.2.1,a14.1.slots.uses,a14.1.slots.used,a14.1.slots.free,a14.1.heap,a14.1.where_,s.2.2.2.2.2.2.2.2.2.2.2.2.2.2.2.2.2.2.2.2.2.2.2.2.2.2.2))
    else
     bif a1.2.2 !=0 then
      some (.done (.done (aO.mk (0,0) (Field.mk []) (aW.mk 0 []) (aJ.mk (aR.mk [] [] []) [] []) [],a1.2.2)))
     else
      some (.next (s.1,s.2.1,aA .i64 (s.2.2.1+1),s.2.2.2))
 else
  some (.done (.done (aO.mk (s.2.2.2.2.2.2.2.2.2.2.2.2.2.2.2.2.2.2.1,s.2.2.2.2.2.2.2.2.2.2.2.2.2.2.2.2.2.2.2.1) (Field.mk s.2.2.2.2.2.2.2.2.2.2.2.2.2.2.2.2.2.2.2.2.2.2.2.2.2.2.2.1) (aW.mk s.2.2.2.2.2.2.2.2.2.2.2.2.2.2.2.2.2.2.2.2.1 s.2.2.2.2.2.2.2.2.2.2.2.2.2.2.2.2.2.2.2.2.2.1) (aJ.mk (aR.mk s.2.2.2.2.2.2.2.2.2.2.2.2.2.2.2.2.2.2.2.2.2.2.1 s.2.2.2.2.2.2.2.2.2.2.2.2.2.2.2.2.2.2.2.2.2.2.2.1 s.2.2.2.2.2.2.2.2.2.2.2.2.2.2.2.2.2.2.2.2.2.2.2.2.1) s.2.2.2.2.2.2.2.2.2.2.2.2.2.2.2.2.2.2.2.2.2.2.2.2.2.1 s.2.2.2.2.2.2.2.2.2.2.2.2.2.2.2.2.2.2.2.2.2.2.2.2.2.2.1) s.2.2.2.2.2.2.2.2.2.2.2.2.2.2.2.2.2.2.2.2.2.2.2.2.2.2.2.2,0)))
def IU (s:((List (Int×Int×Int))×Int×Int×Int×Int×(List (Int×Int×Int))×Int×(List (Int×Int×Int))×(List Int)×(List Bool)×(List Int)×(List (Int×Int×Int×Int×Int))×(List Int)×(List (Int×Int×Int))×(List (Int×Int×Int))×Int×Int×Int)):Option (bH ((List (Int×Int×Int))×Int×Int×Int×Int×(List (Int×Int×Int))×Int×(List (Int×Int×Int))×(List Int)×(List Bool)×(List Int)×(List (Int×Int×Int×Int×Int))×(List Int)×(List (Int×Int×Int))×(List (Int×Int×Int))×Int×Int×Int) (aO×Int)):=
 bif decide (s.2.2.1<s.2.1) then
  (aL s.1 s.2.2.1).bind fun a0=>
  (hO (Field.mk s.2.2.2.2.2.2.2.2.2.2.2.2.2.2.1) a0.2.1).bind fun a1=>
  bif decide (a1.1<0) then
   some (.done (aO.mk (0,0) (Field.mk []) (aW.mk 0 []) (aJ.mk (aR.mk [] [] []) [] []) [],6))
  else
   (hO (Field.mk s.2.2.2.2.2.2.2.2.2.2.2.2.2.2.1) a0.2.2).bind fun a2=>
   bif decide (a2.1<0) then
    some (.done (aO.mk (0,0) (Field.mk []) (aW.mk 0 []) (aJ.mk (aR.mk [] [] []) [] []) [],6))
   else
    some (.next (s.1,s.2.1,aA .i64 (s.2.2.1+1),s.2.2.2))
 else
  (mA (aO.mk (s.2.2.2.1,s.2.2.2.2.1) (Field.mk s.2.2.2.2.2.1) (aW.mk s.2.2.2.2.2.2.1 s.2.2.2.2.2.2.2.1) (aJ.mk (aR.mk s.2.2.2.2.2.2.2.2.1 s.2.2.2.2.2.2.2.2.2.1 s.2.2.2.2.2.2.2.2.2.2.1) s.2.2.2.2.2.2.2.2.2.2.2.1 s.2.2.2.2.2.2.2.2.2.2.2.2.1) s.2.2.2.2.2.2.2.2.2.2.2.2.2.1)).bind fun r3=>
  (cG s.2.2.2.2.2.2.2.2.2.2.2.2.2.2.1).bind fun l4=>
  aK IT (s.2.2.2.2.2.2.2.1,Int.ofNat s.2.2.2.2.2.2.2.1.length,0,s.2.2.2.1,s.2.2.2.2.1,s.2.2.2.2.2.1,s.2.2.2.2.2.2.1,s.2.2.2.2.2.2.2.1,s.2.2.2.2.2.2.2.2.1,s.2.2.2.2.2.2.2.2.2.1,s.2.2.2.2.2.2.2.2.2.2.1,s.2.2.2.2.2.2.2.2.2.2.2.1,s.2.2.2.2.2.2.2.2.2.2.2.2.1,s.2.2.2.2.2.2.2.2.2.2.2.2.2.1,s.2.2.2.2.2.2.2.2.2.2.2.2.2.2.1,s.2.2.2.2.2.2.2.2.2.2.2.2.2.2.2.1,s.2.2.2.2.2.2.2.2.2.2.2.2.2.2.2.2.1,s.2.2.2.2.2.2.2.2.2.2.2.2.2.2.2.2.2,r3.now.1,r3.now.2,r3.certs.next_,r3.certs.list,r3.agenda.slots.uses,r3.agenda.slots.used,r3.agenda.slots.free,r3.agenda.heap,r3.agenda.where_,l4,[])
def FW (p0:aO) (p1:Field):Option (aO×Int):=
 (hU p0).bind fun n0=>
 bif n0 !=0 then
  some (aO.mk (0,0) (Field.mk []) (aW.mk 0 []) (aJ.mk (aR.mk [] [] []) [] []) [],n0)
 else
  (jC p1).bind fun n1=>
  bif n1 !=0 then
   some (aO.mk (0,0) (Field.mk []) (aW.mk 0 []) (aJ.mk (aR.mk [] [] []) [] []) [],n1)
  else
   aK IU (p0.certs.list,Int.ofNat p0.certs.list.length,0,p0.now.1,p0.now.2,p0.field.points,p0.certs.next_,p0.certs.list,p0.agenda.slots.uses,p0.agenda.slots.used,p0.agenda.slots.free,p0.agenda.heap,p0.agenda.where_,p0.due,p1.points,0,0,0)
def aMz:bF:=⟨aB.cons (aG.agg bR) (aB.one (aG.agg cF)),aG.tup (aB.cons (aG.agg bR) (aB.one (aG.int .i64))),fun a=>FW a.1 a.2,.frz,false⟩
theorem aE0:aF aT 108 aMz:=Oc aCq rfl aC [(59,c59),(104,XX),(157,aED),(83,c83),(83,aEO),(94,bF.clone eS),(119,aEK),(158,aKH),(159,aMv),(160,aKL),(161,aKK)] ⟨IQ,GI,L7,Q7,MA,GJ,L9,TP,aEW,TU,TS,trivial⟩ fun a=>by kernel_rfl
def A9 (p0:Int×Int×Int) (p1:Int×Int):Option Bool:=
 some ((p0.2.1==p1.1)&&(p0.2.2==p1.2))
def aMA:bF:=⟨aB.cons (aG.agg (bY.row eS)) (aB.one (aG.ref (bY.row gU))),aG.bool,fun a=>A9 a.1 a.2,.pure,false⟩
theorem aE1:aF aT 110 aMA:=Oc aCr rfl aC [] trivial fun a=>by kernel_rfl
def kD (s:((List (Int×Int×Int))×Int×Int×Int×Int)):Option (bH ((List (Int×Int×Int))×Int×Int×Int×Int) Int):=
 bif decide (s.2.2.2.2<s.2.2.2.1) then
  (aL s.1 s.2.2.2.2).bind fun a0=>
  (A9 a0 (s.2.1,s.2.2.1)).bind fun b1=>
  bif b1 then
   some (.done s.2.2.2.2)
  else
   some (.next (s.1,s.2.1,s.2.2.1,s.2.2.2.1,aA .i64 (s.2.2.2.2+1)))
 else
  some (.done (-1))
def fV (p0:List (Int×Int×Int)) (p1:(Int×Int)):Option Int:=
 aK kD (p0,p1.1,p1.2,Int.ofNat p0.length,0)
def OX:bF:=⟨aB.cons (aG.sl eS) (aB.one (aG.clo 110 (aB.one (aG.ref (bY.row gU))))),aG.int .i64,fun a=>fV a.1 a.2,.pure,false⟩
theorem OY:aF aT 162 OX:=Oc TE rfl aC [(110,aMA)] ⟨aE1,trivial⟩ fun a=>by kernel_rfl
def cZ (p0:List (Int×Int×Int)) (p1:(Int×Int)):Option Bool:=
 (fV p0 p1).bind fun n0=>
 some (decide (0<=n0))
def OZ:bF:=⟨aB.cons (aG.sl eS) (aB.one (aG.clo 110 (aB.one (aG.ref (bY.row gU))))),aG.bool,fun a=>cZ a.1 a.2,.pure,false⟩
theorem O0:aF aT 109 OZ:=Oc TB rfl aC [(162,OX)] ⟨OY,trivial⟩ fun a=>by kernel_rfl
def cP (p0:Int):Option (aO×Int×Int):=
 some (aO.mk (0,0) (Field.mk []) (aW.mk 0 []) (aJ.mk (aR.mk [] [] []) [] []) [],0,p0)
def aMB:bF:=⟨aB.one (aG.int .i64),aG.tup (aB.cons (aG.agg bR) (aB.cons (aG.int .i64) (aB.one (aG.int .i64)))),fun a=>cP a,.frz,false⟩
theorem aE2:aF aT 163 aMB:=Oc aDc rfl aC [] trivial fun a=>by kernel_rfl
def CF (p0:Int×Int×Int) (p1:Int×Int):Option Bool:=
 some ((p0.2.1==p1.1)&&(p0.2.2==p1.2))
def aMC:bF:=⟨aB.cons (aG.agg (bY.row eS)) (aB.one (aG.ref (bY.row gU))),aG.bool,fun a=>CF a.1 a.2,.pure,false⟩
theorem aE3:aF aT 208 aMC:=Oc aDQ rfl aC [] trivial fun a=>by kernel_rfl
def cO (s:((List (Int×Int×Int))×Int×Int×Int×Int)):Option (bH ((List (Int×Int×Int))×Int×Int×Int×Int) Int):=
 bif decide (s.2.2.2.2<s.2.2.2.1) then
  (aL s.1 s.2.2.2.2).bind fun a0=>
  (CF a0 (s.2.1,s.2.2.1)).bind fun b1=>
  bif b1 then
   some (.done s.2.2.2.2)
  else
   some (.next (s.1,s.2.1,s.2.2.1,s.2.2.2.1,aA .i64 (s.2.2.2.2+1)))
 else
  some (.done (-1))
def dX (p0:List (Int×Int×Int)) (p1:(Int×Int)):Option Int:=
 aK cO (p0,p1.1,p1.2,Int.ofNat p0.length,0)
def O1:bF:=⟨aB.cons (aG.sl eS) (aB.one (aG.clo 208 (aB.one (aG.ref (bY.row gU))))),aG.int .i64,fun a=>dX a.1 a.2,.pure,false⟩
theorem O2:aF aT 162 O1:=Oc TE rfl aC [(208,aMC)] ⟨aE3,trivial⟩ fun a=>by kernel_rfl
def bP (p0:List (Int×Int×Int)) (p1:(Int×Int)):Option Bool:=
 (dX p0 p1).bind fun n0=>
 some (decide (0<=n0))
def O3:bF:=⟨aB.cons (aG.sl eS) (aB.one (aG.clo 208 (aB.one (aG.ref (bY.row gU))))),aG.bool,fun a=>bP a.1 a.2,.pure,false⟩
theorem O4:aF aT 109 O3:=Oc TB rfl aC [(162,O1)] ⟨O2,trivial⟩ fun a=>by kernel_rfl
def DU (p0:aW) (p1:Int×Int):Option (aW×Int×Int):=
 (oR p0).bind fun n0=>
 bif n0 !=0 then
  some (aW.mk 0 [],0,n0)
 else
  (sD p1).bind fun b1=>
  bif !b1 then
   some (aW.mk 0 [],0,8)
  else
   (bP p0.list p1).bind fun b2=>
   bif b2 then
    some (aW.mk 0 [],0,14)
   else
    bif (Int.ofNat p0.list.length)==200 then
     some (aW.mk 0 [],0,18)
    else
     bif p0.next_==1000000 then
      some (aW.mk 0 [],0,18)
     else
      (cG p0.list).bind fun l3=>
      (bM l3 [(p0.next_,p1)]).bind fun l4=>
      some (aW.mk (aA .i64 (p0.next_+1)) l4,p0.next_,0)
def aMD:bF:=⟨aB.cons (aG.agg eV) (aB.one (aG.agg (bY.row gU))),aG.tup (aB.cons (aG.agg eV) (aB.cons (aG.int .i64) (aB.one (aG.int .i64)))),fun a=>DU a.1 a.2,.frz,false⟩
theorem aE4:aF aT 164 aMD:=Oc aDd rfl aC [(117,aEt),(166,aKA),(109,O3),(138,bF.clone eS)] ⟨L4,TM,O4,DR,trivial⟩ fun a=>by kernel_rfl
def gB (p0:aO) (p1:Int×Int):Option (aO×Int×Int):=
 (hU p0).bind fun n0=>
 bif n0 !=0 then
  (cP n0).bind fun a1=>
  some a1
 else
  (DU p0.certs p1).bind fun a2=>
  bif a2.2.2==8 then
   (cP a2.2.2).bind fun a3=>
   some a3
  else
   (hO p0.field p1.1).bind fun a4=>
   bif decide (a4.1<0) then
    (cP 6).bind fun a5=>
    some a5
   else
    (hO p0.field p1.2).bind fun a6=>
    bif decide (a6.1<0) then
     (cP 6).bind fun a7=>
     some a7
    else
     bif a2.2.2 !=0 then
      (cP a2.2.2).bind fun a8=>
      some a8
     else
      (mA p0).bind fun r9=>
      (oU p0.field p1 p0.now).bind fun a10=>
      bif a10.2.2 !=0 then
       (cP a10.2.2).bind fun a11=>
       some a11
      else
       bif a10.2.1 then
        (jD p0.agenda a10.1 a2.2.1).bind fun a12=>
        bif a12.2.2 !=0 then
         (cP a12.2.2).bind fun a13=>
         some a13
        else
         (bM r9.due [(a2.2.1,a12.2.1)]).bind fun l14=>
         some (aO.mk r9.now r9.field a2.1 a12.1 l14,a2.2.1,0)
       else
        some (aO.mk r9.now r9.field a2.1 r9.agenda r9.due,a2.2.1,0)
def aME:bF:=⟨aB.cons (aG.agg bR) (aB.one (aG.agg (bY.row gU))),aG.tup (aB.cons (aG.agg bR) (aB.cons (aG.int .i64) (aB.one (aG.int .i64)))),fun a=>gB a.1 a.2,.frz,false⟩
theorem aE5:aF aT 111 aME:=Oc aCs rfl aC [(59,c59),(163,aMB),(164,aMD),(157,aED),(83,c83),(83,aEO),(119,aEK),(160,aKL)] ⟨IQ,aE2,aE4,L7,Q7,MA,L9,TU,trivial⟩ fun a=>by kernel_rfl
def dR (s:((List (Int×Int))×Int×Int×Int×Int×(List (Int×Int×Int))×Int×(List (Int×Int×Int))×(List Int)×(List Bool)×(List Int)×(List (Int×Int×Int×Int×Int))×(List Int)×(List (Int×Int×Int))×Int×Int×Int)):Option (bH ((List (Int×Int))×Int×Int×Int×Int×(List (Int×Int×Int))×Int×(List (Int×Int×Int))×(List Int)×(List Bool)×(List Int)×(List (Int×Int×Int×Int×Int))×(List Int)×(List (Int×Int×Int))×Int×Int×Int) (bH ((List (Int×Int))×(List (Int×Int×Int))×Int×Int×Int×Int×(List (Int×Int×Int))×Int×(List (Int×Int×Int))×(List Int)×(List Bool)×(List Int)×(List (Int×Int×Int×Int×Int))×(List Int)×(List (Int×Int×Int))×(List (Int×Int×Int))×Int×Int×Int) (aO×Int))):=
 bif decide (s.2.2.1<s.2.1) then
  (aL s.1 s.2.2.1).bind fun a0=>
  (cZ s.2.2.2.2.2.2.2.1 a0).bind fun b1=>
  bif b1 then
   some (.next (s.1,s.2.1,aA .i64 (s.2.2.1+1),s.2.2.2))
  else
   (gB (aO.mk (s.2.2.2.1,s.2.2.2.2.1) (Field.mk s.2.2.2.2.2.1) (aW.mk s.2.2.2.2.2.2.1 s.2.2.2.2.2.2.2.1) (aJ.mk (aR.mk s.2.2.2.2.2.2.2.2.1 s.2.2.2.2.2.2.2.2.2.1 s.2.2.2.2.2.2.2.2.2.2.1) s.2.2.2.2.2.2.2.2.2.2.2.1 s.2.2.2.2.2.2.2.2.2.2.2.2.1) s.2.2.2.2.2.2.2.2.2.2.2.2.2.1) a0).bind fun a2=>
   bif a2.2.2 !=0 then
    some (.done (.done (aO.mk (0,0) (Field.mk []) (aW.mk 0 []) (aJ.mk (aR.mk [] [] []) [] []) [],a2.2.2)))
   else
    some (.next (s.1,s.2.1,aA .i64 (s.2.2.1+1),a2.1.now.1,a2.1.now.2,a2.1.field.points,a2.1.certs.next_,a2.1.certs.list,a2.1.agenda.slots.uses,a2.1.agenda.slots.used,a2.1.agenda.slots.free,a2.1.agenda.heap,a2.1.agenda.where_,a2.1.due,s.2.2.2.2.2.2.2.2.2.2.2.2.2.2))
 else
  some (.done (.done (aO.mk (s.2.2.2.1,s.2.2.2.2.1) (Field.mk s.2.2.2.2.2.1) (aW.mk s.2.2.2.2.2.2.1 s.2.2.2.2.2.2.2.1) (aJ.mk (aR.mk s.2.2.2.2.2.2.2.2.1 s.2.2.2.2.2.2.2.2.2.1 s.2.2.2.2.2.2.2.2.2.2.1) s.2.2.2.2.2.2.2.2.2.2.2.1 s.2.2.2.2.2.2.2.2.2.2.2.2.1) s.2.2.2.2.2.2.2.2.2.2.2.2.2.1,0)))
def sG (s:((List (Int×Int))×(List (Int×Int×Int))×Int×Int×Int×Int×(List (Int×Int×Int))×Int×(List (Int×Int×Int))×(List Int)×(List Bool)×(List Int)×(List (Int×Int×Int×Int×Int))×(List Int)×(List (Int×Int×Int))×(List (Int×Int×Int))×Int×Int×Int)):Option (bH ((List (Int×Int))×(List (Int×Int×Int))×Int×Int×Int×Int×(List (Int×Int×Int))×Int×(List (Int×Int×Int))×(List Int)×(List Bool)×(List Int)×(List (Int×Int×Int×Int×Int))×(List Int)×(List (Int×Int×Int))×(List (Int×Int×Int))×Int×Int×Int) (aO×Int)):=
 bif decide (s.2.2.2.1<s.2.2.1) then
  (aL s.2.1 s.2.2.2.1).bind fun a0=>
  (fB s.1 a0.2).bind fun b1=>
  bif !b1 then
   (DS (aO.mk (s.2.2.2.2.1,s.2.2.2.2.2.1) (Field.mk s.2.2.2.2.2.2.1) (aW.mk s.2.2.2.2.2.2.2.1 s.2.2.2.2.2.2.2.2.1) (aJ.mk (aR.mk s.2.2.2.2.2.2.2.2.2.1 s.2.2.2.2.2.2.2.2.2.2.1 s.2.2.2.2.2.2.2.2.2.2.2.1) s.2.2.2.2.2.2.2.2.2.2.2.2.1 s.2.2.2.2.2.2.2.2.2.2.2.2.2.1) s.2.2.2.2.2.2.2.2.2.2.2.2.2.2.1) a0.1).bind fun a2=>
   some (.next (s.1,s.2.1,s.2.2.1,aA .i64 (s.2.2.2.1+1),a2.1.now.1,a2.1.now.2,a2.1.field.points,a2.1.certs.next_,a2.1.certs.list,a2.1.agenda.slots.uses,a2.1.agenda.slots.used,a2.1.agenda.slots.free,a2.1.agenda.heap,a2.1.agenda.where_,a2.1.due,s.2.2.2.2.2.2.2.2.2.2.2.2.2.2.2))
  else
   some (.next (s.1,s.2.1,s.2.2.1,aA .i64 (s.2.2.2.1+1),s.2.2.2.2))
 else
  (jK s.2.2.2.2.2.2.1 s.2.2.2.2.2.2.2.2.2.2.2.2.2.2.2.1).bind fun b3=>
  bif !b3 then
   (FW (aO.mk (s.2.2.2.2.1,s.2.2.2.2.2.1) (Field.mk s.2.2.2.2.2.2.1) (aW.mk s.2.2.2.2.2.2.2.1 s.2.2.2.2.2.2.2.2.1) (aJ.mk (aR.mk s.2.2.2.2.2.2.2.2.2.1 s.2.2.2.2.2.2.2.2.2.2.1 s.2.2.2.2.2.2.2.2.2.2.2.1) s.2.2.2.2.2.2.2.2.2.2.2.2.1 s.2.2.2.2.2.2.2.2.2.2.2.2.2.1) s.2.2.2.2.2.2.2.2.2.2.2.2.2.2.1) (Field.mk s.2.2.2.2.2.2.2.2.2.2.2.2.2.2.2.1)).bind fun a4=>
   bif a4.2 !=0 then
    some (.done (aO.mk (0,0) (Field.mk []) (aW.mk 0 []) (aJ.mk (aR.mk [] [] []) [] []) [],a4.2))
   else
    aK dR (s.1,Int.ofNat s.1.length,0,a4.1.now.1,a4.1.now.2,a4.1.field.points,a4.1.certs.next_,a4.1.certs.list,a4.1.agenda.slots.uses,a4.1.agenda.slots.used,a4.1.agenda.slots.free,a4.1.agenda.heap,a4.1.agenda.where_,a4.1.due,s.2.2.2.2.2.2.2.2.2.2.2.2.2.2.2.2)
  else
   aK dR (s.1,Int.ofNat s.1.length,0,s.2.2.2.2.1,s.2.2.2.2.2.1,s.2.2.2.2.2.2.1,s.2.2.2.2.2.2.2.1,s.2.2.2.2.2.2.2.2.1,s.2.2.2.2.2.2.2.2.2.1,s.2.2.2.2.2.2.2.2.2.2.1,s.2.2.2.2.2.2.2.2.2.2.2.1,s.2.2.2.2.2.2.2.2.2.2.2.2.1,s.2.2.2.2.2.2.2.2.2.2.2.2.2.1,s.2.2.2.2.2.2.2.2.2.2.2.2.2.2.1,s.2.2.2.2.2.2.2.2.2.2.2.2.2.2.2.2)
def qL (p0:aO) (p1:Field) (p2:List (Int×Int)):Option (aO×Int):=
 aK sG (p2,p0.certs.list,Int.ofNat p0.certs.list.length,0,p0.now.1,p0.now.2,p0.field.points,p0.certs.next_,p0.certs.list,p0.agenda.slots.uses,p0.agenda.slots.used,p0.agenda.slots.free,p0.agenda.heap,p0.agenda.where_,p0.due,p1.points,0,0,0)
def c52:bF:=⟨aB.cons (aG.agg bR) (aB.cons (aG.agg cF) (aB.one (aG.sl gU))),aG.tup (aB.cons (aG.agg bR) (aB.one (aG.int .i64))),fun a=>qL a.1 a.2.1 a.2.2,.frz,false⟩
theorem aKM:aF aT 52 c52:=Oc aJ2 rfl aC [(61,c61),(106,aMt),(107,aMu),(108,aMz),(109,OZ),(111,aME)] ⟨X0,aEU,aEV,aE0,O0,aE5,trivial⟩ fun a=>by kernel_rfl
def wP (p0:Int×Int×Int) (p1:Int):Option Int:=
 (dT p0.1 p1).bind fun n0=>
 some n0
def aMF:bF:=⟨aB.cons (aG.agg (bY.row eS)) (aB.one (aG.int .i64)),aG.int .i64,fun a=>wP a.1 a.2,.pure,false⟩
theorem aE6:aF aT 179 aMF:=Oc aDr rfl aC [(180,Q6)] ⟨zZ,trivial⟩ fun a=>by kernel_rfl
def gI (s:((List (Int×Int×Int))×Int×Int×Int×Int)):Option (bH ((List (Int×Int×Int))×Int×Int×Int×Int) (Int×Bool)):=
 bif decide (s.2.2.2.1<s.2.2.2.2) then
  (aL s.1 (aA .i64 (oO .u64 (aA .u64 (aA .i64 (s.2.2.2.1+s.2.2.2.2))) 1))).bind fun a0=>
  (wP a0 s.2.1).bind fun n1=>
  bif decide (n1<0) then
   some (.next (s.1,s.2.1,s.2.2.1,aA .i64 ((aA .i64 (oO .u64 (aA .u64 (aA .i64 (s.2.2.2.1+s.2.2.2.2))) 1))+1),s.2.2.2.2))
  else
   some (.next (s.1,s.2.1,s.2.2.1,s.2.2.2.1,aA .i64 (oO .u64 (aA .u64 (aA .i64 (s.2.2.2.1+s.2.2.2.2))) 1)))
 else
  bif decide (s.2.2.2.1<s.2.2.1) then
   (aL s.1 s.2.2.2.1).bind fun a2=>
   (wP a2 s.2.1).bind fun n3=>
   some (.done (s.2.2.2.1,n3==0))
  else
   some (.done (s.2.2.2.1,false))
def cK (p0:List (Int×Int×Int)) (p1:Int) (_:Unit):Option (Int×Bool):=
 aK gI (p0,p1,Int.ofNat p0.length,0,Int.ofNat p0.length)
def O5:bF:=⟨aB.cons (aG.sl eS) (aB.cons (aG.int .i64) (aB.one (aG.clo 179 aB.nil))),aG.tup (aB.cons (aG.int .i64) (aB.one aG.bool)),fun a=>cK a.1 a.2.1 a.2.2,.pure,false⟩
theorem O6:aF aT 178 O5:=Oc TF rfl aC [(179,aMF)] ⟨aE6,trivial⟩ fun a=>by kernel_rfl
def CG (p0:Field) (p1:Int):Option (Int×Bool):=
 (cK p0.points p1 ()).bind fun a0=>
 some a0
def aMG:bF:=⟨aB.cons (aG.agg cF) (aB.one (aG.int .i64)),aG.tup (aB.cons (aG.int .i64) (aB.one aG.bool)),fun a=>CG a.1 a.2,.pure,false⟩
theorem aE7:aF aT 129 aMG:=Oc aCK rfl aC [(178,O5)] ⟨O6,trivial⟩ fun a=>by kernel_rfl
def zB (p0:Field) (p1:Int):Option (Int×Int):=
 (jC p0).bind fun n0=>
 bif n0 !=0 then
  some (0,n0)
 else
  (CG p0 p1).bind fun a1=>
  bif !a1.2 then
   some (0,6)
  else
   some (a1.1,0)
def c92:bF:=⟨aB.cons (aG.agg cF) (aB.one (aG.int .i64)),aG.tup (aB.cons (aG.int .i64) (aB.one (aG.int .i64))),fun a=>zB a.1 a.2,.pure,false⟩
theorem aKN:aF aT 92 c92:=Oc aKr rfl aC [(104,XX),(129,aMG)] ⟨GI,aE7,trivial⟩ fun a=>by kernel_rfl
def sH (p0:Field) (p1:Int):Option ((Int×Int×Int)×Int):=
 (zB p0 p1).bind fun a0=>
 bif a0.2 !=0 then
  some ((0,0,0),a0.2)
 else
  (aL p0.points a0.1).bind fun a1=>
  some (a1,0)
def c96:bF:=⟨aB.cons (aG.agg cF) (aB.one (aG.int .i64)),aG.tup (aB.cons (aG.agg (bY.row eS)) (aB.one (aG.int .i64))),fun a=>sH a.1 a.2,.pure,false⟩
theorem aKO:aF aT 96 c96:=Oc aKt rfl aC [(92,c92)] ⟨aKN,trivial⟩ fun a=>by kernel_rfl
def nJ (p0:Int×Int×Int) (p1:Int×Int×Int) (p2:Int×Int):Option (Bool×Int):=
 (oT p0 p1 p2).bind fun n0=>
 bif n0 !=0 then
  some (false,n0)
 else
  (kJ p0 p1 p2).bind fun n1=>
  some (decide (0<n1),0)
def c97:bF:=⟨aB.cons (aG.agg (bY.row eS)) (aB.cons (aG.agg (bY.row eS)) (aB.one (aG.agg (bY.row gU)))),aG.tup (aB.cons aG.bool (aB.one (aG.int .i64))),fun a=>nJ a.1 a.2.1 a.2.2,.pure,false⟩
theorem aKP:aF aT 97 c97:=Oc aKu rfl aC [(152,aEE),(153,aKG)] ⟨L8,TO,trivial⟩ fun a=>by kernel_rfl
def qM (p0:Field) (p1:Int×Int) (p2:Int) (p3:Int):Option Bool:=
 (sH p0 p2).bind fun a0=>
 (sH p0 p3).bind fun a1=>
 (nJ a0.1 a1.1 p1).bind fun a2=>
 some a2.1
def c62:bF:=⟨aB.cons (aG.agg cF) (aB.cons (aG.agg (bY.row gU)) (aB.cons (aG.int .i64) (aB.one (aG.int .i64)))),aG.bool,fun a=>qM a.1 a.2.1 a.2.2.1 a.2.2.2,.pure,false⟩
theorem X6:aF aT 62 c62:=Oc aKb rfl aC [(96,c96),(97,c97)] ⟨aKO,aKP,trivial⟩ fun a=>by kernel_rfl
def eL (c0:((List (Int×Int×Int))×Int×Int×Int×(List Int))) (s:(Int×(List Int)×(List (Int×Int×Int))×Int×Int)):Option (bH (Int×(List Int)×(List (Int×Int×Int))×Int×Int) (List Int)):=
 bif decide (0<s.1) then
  (aL s.2.1 s.1).bind fun n0=>
  (aL s.2.1 (aA .i64 (Int.tdiv (aA .i64 (s.1-1)) 2))).bind fun n1=>
  (qM (Field.mk s.2.2.1) s.2.2.2 n0 n1).bind fun b2=>
  bif b2 then
   (aL s.2.1 (aA .i64 (Int.tdiv (aA .i64 (s.1-1)) 2))).bind fun n3=>
   (aL s.2.1 s.1).bind fun n4=>
   (aL s.2.1 s.1).bind fun _=>
   (aL (cD s.2.1 s.1 n3) (aA .i64 (Int.tdiv (aA .i64 (s.1-1)) 2))).bind fun _=>
   some (.next (aA .i64 (Int.tdiv (aA .i64 (s.1-1)) 2),cD (cD s.2.1 s.1 n3) (aA .i64 (Int.tdiv (aA .i64 (s.1-1)) 2)) n4,s.2.2))
  else
   bif s.2.1.length==c0.2.2.2.2.length then
    some (.done s.2.1)
   else
    none
 else
  bif s.2.1.length==c0.2.2.2.2.length then
   some (.done s.2.1)
  else
   none
def kW (a:((List (Int×Int×Int))×Int×Int×Int×(List Int))):Option (List Int):=
 aK (eL a) (a.2.2.2.1,a.2.2.2.2,a.1,a.2.1,a.2.2.1)
def aGp:dA:=⟨[.l [.i .i64,.i .i64,.i .i64],.i,.i,.i,.l [.i .i64]],[.agg [.sl [.i .i64,.i .i64,.i .i64] []],.agg [.int .i64 0,.int .i64 0],.own 0 false,.int .i64 0],[.arr [.i .i64] []],[.l [.i .i64]],.tup [],[.arr [.i .i64] []],fun a=>kW a⟩
theorem X7:jS aT 51 aGp:=jS.of aJ1 (wd:=false) (cx:=(mV aC [(62,c62)] [] [] [])) (jY.make ⟨X6,trivial⟩ trivial trivial) (fun a=>by kernel_rfl)
def iP (s:((List (Int×Int×Int))×Int×Int×(List (Int×Int×Int))×Int×Int×Int×Int×Int×Int×Int×(List (Int×Int×Int))×Int×(List (Int×Int×Int))×(List Int)×(List Bool)×(List Int)×(List (Int×Int×Int×Int×Int))×(List Int)×(List (Int×Int×Int))×Int×Int×Int×(List Int))):Option (bH ((List (Int×Int×Int))×Int×Int×(List (Int×Int×Int))×Int×Int×Int×Int×Int×Int×Int×(List (Int×Int×Int))×Int×(List (Int×Int×Int))×(List Int)×(List Bool)×(List Int)×(List (Int×Int×Int×Int×Int))×(List Int)×(List (Int×Int×Int))×Int×Int×Int×(List Int)) (dY×Int)):=
 bif decide (s.2.2.1<s.2.1) then
  (aL s.1 s.2.2.1).bind fun a0=>
  (bM s.2.2.2.2.2.2.2.2.2.2.2.2.2.2.2.2.2.2.2.2.2.2.2 [a0.1]).bind fun l1=>
  (kW (s.2.2.2.1,s.2.2.2.2.1,s.2.2.2.2.2.1,s.2.2.1,l1)).bind fun l2=>
  some (.next (s.1,s.2.1,aA .i64 (s.2.2.1+1),s.2.2.2.1,s.2.2.2.2.1,s.2.2.2.2.2.1,s.2.2.2.2.2.2.1,s.2.2.2.2.2.2.2.1,s.2.2.2.2.2.2.2.2.1,s.2.2.2.2.2.2.2.2.2.1,s.2.2.2.2.2.2.2.2.2.2.1,s.2.2.2.2.2.2.2.2.2.2.2.1,s.2.2.2.2.2.2.2.2.2.2.2.2.1,s.2.2.2.2.2.2.2.2.2.2.2.2.2.1,s.2.2.2.2.2.2.2.2.2.2.2.2.2.2.1,s.2.2.2.2.2.2.2.2.2.2.2.2.2.2.2.1,s.2.2.2.2.2.2.2.2.2.2.2.2.2.2.2.2.1,s.2.2.2.2.2.2.2.2.2.2.2.2.2.2.2.2.2.1,s.2.2.2.2.2.2.2.2.2.2.2.2.2.2.2.2.2.2.1,s.2.2.2.2.2.2.2.2.2.2.2.2.2.2.2.2.2.2.2.1,s.2.2.2.2.2.2.2.2.2.2.2.2.2.2.2.2.2.2.2.2.1,s.2.2.2.2.2.2.2.2.2.2.2.2.2.2.2.2.2.2.2.2.2.1,s.2.2.2.2.2.2.2.2.2.2.2.2.2.2.2.2.2.2.2.2.2.2.1,l2))
 else
  (mL s.2.2.2.2.2.2.2.2.2.2.2.2.2.2.2.2.2.2.2.2.2.2.2).bind fun l3=>
  (qL (aO.mk (s.2.2.2.2.2.2.2.2.2.1,s.2.2.2.2.2.2.2.2.2.2.1) (Field.mk s.2.2.2.2.2.2.2.2.2.2.2.1) (aW.mk s.2.2.2.2.2.2.2.2.2.2.2.2.1 s.2.2.2.2.2.2.2.2.2.2.2.2.2.1) (aJ.mk (aR.mk s.2.2.2.2.2.2.2.2.2.2.2.2.2.2.1 s.2.2.2.2.2.2.2.2.2.2.2.2.2.2.2.1 s.2.2.2.2.2.2.2.2.2.2.2.2.2.2.2.2.1) s.2.2.2.2.2.2.2.2.2.2.2.2.2.2.2.2.2.1 s.2.2.2.2.2.2.2.2.2.2.2.2.2.2.2.2.2.2.1) s.2.2.2.2.2.2.2.2.2.2.2.2.2.2.2.2.2.2.2.1) (Field.mk s.2.2.2.1) l3).bind fun a4=>
  some (.done (dY.mk a4.1 s.2.2.2.2.2.2.2.2.2.2.2.2.2.2.2.2.2.2.2.2.2.2.2,a4.2))
def mN (p0:Field) (p1:Int×Int):Option (dY×Int):=
 (zX p0 p1).bind fun a0=>
 bif a0.2 !=0 then
  some (dY.mk (aO.mk (0,0) (Field.mk []) (aW.mk 0 []) (aJ.mk (aR.mk [] [] []) [] []) []) [],a0.2)
 else
  aK iP (p0.points,Int.ofNat p0.points.length,0,p0.points,p1.1,p1.2,0,0,0,a0.1.now.1,a0.1.now.2,a0.1.field.points,a0.1.certs.next_,a0.1.certs.list,a0.1.agenda.slots.uses,a0.1.agenda.slots.used,a0.1.agenda.slots.free,a0.1.agenda.heap,a0.1.agenda.where_,a0.1.due,0,0,0,[])
def c17:bF:=⟨aB.cons (aG.agg cF) (aB.one (aG.agg (bY.row gU))),aG.tup (aB.cons (aG.agg gP) (aB.one (aG.int .i64))),fun a=>mN a.1 a.2,.frz,false⟩
theorem aKQ:aF aT 17 c17:=aF.of aJJ (cx:=(mV aC [(50,c50),(53,c53),(52,c52)] [(51,aGp)] [] [])) rfl (jY.make ⟨aKz,Q5,aKM,trivial⟩ ⟨X7,trivial⟩ trivial) (fun a=>by kernel_rfl)
def tQ (p0:Int×Int×Int):Option Int:=
 bif decide (p0.1<0) then
  some 8
 else
  bif decide (65535<p0.1) then
   some 8
  else
   bif decide (p0.2.1<(-1048576)) then
    some 8
   else
    bif decide (1048576<p0.2.1) then
     some 8
    else
     bif decide (p0.2.2<(-1048576)) then
      some 8
     else
      bif decide (1048576<p0.2.2) then
       some 8
      else
       some 0
def aMH:bF:=⟨aB.one (aG.agg (bY.row eS)),aG.int .i64,fun a=>tQ a,.pure,false⟩
theorem aE8:aF aT 112 aMH:=Oc aCt rfl aC [] trivial fun a=>by kernel_rfl
def gJ (s:(Int×(List (Int×Int×Int)))):Option (bH (Int×(List (Int×Int×Int))) (bH (Int×(List (Int×Int×Int))) Int)):=
 bif decide (s.1<(Int.ofNat s.2.length)) then
  (aL s.2 (aA .i64 (s.1-1))).bind fun a0=>
  (aL s.2 s.1).bind fun a1=>
  bif decide (a1.1<=a0.1) then
   some (.done (.done 32))
  else
   some (.next (aA .i64 (s.1+1),s.2))
 else
  some (.done (.done 0))
def kK (s:(Int×(List (Int×Int×Int)))):Option (bH (Int×(List (Int×Int×Int))) Int):=
 bif decide (s.1<(Int.ofNat s.2.length)) then
  (aL s.2 s.1).bind fun a0=>
  (tQ a0).bind fun n1=>
  bif n1 !=0 then
   some (.done 8)
  else
   some (.next (aA .i64 (s.1+1),s.2))
 else
  aK gJ (1,s.2)
def mO (p0:Field):Option Int:=
 bif decide (64<(Int.ofNat p0.points.length)) then
  some 4
 else
  aK kK (0,p0.points)
def c54:bF:=⟨aB.one (aG.agg cF),aG.int .i64,fun a=>mO a,.pure,false⟩
theorem X8:aF aT 54 c54:=Oc aJ4 rfl aC [(112,aMH)] ⟨aE8,trivial⟩ fun a=>by kernel_rfl
def fQ (p0:Int):Option Int:=
 bif decide (p0<0) then
  some (aA .u64 ((aA .u64 (aA .i64 (0- (aA .i64 (p0+1)))))+1))
 else
  some (aA .u64 p0)
def aE9:bF:=⟨aB.one (aG.int .i64),aG.int .u64,fun a=>fQ a,.pure,false⟩
theorem MC:aF aT 114 aE9:=Oc aCv rfl aC [] trivial fun a=>by kernel_rfl
def lS (s:(Int×Int)):Option (bH (Int×Int) Int):=
 bif s.2 !=0 then
  bif s.2==0 then
   none
  else
   some (.next (s.2,Int.tmod s.1 s.2))
 else
  some (.done s.1)
def nK (p0:Int) (p1:Int):Option Int:=
 aK lS (p0,p1)
def aKR:bF:=⟨aB.cons (aG.int .u64) (aB.one (aG.int .u64)),aG.int .u64,fun a=>nK a.1 a.2,.pure,false⟩
theorem TV:aF aT 113 aKR:=Oc aCu rfl aC [] trivial fun a=>by kernel_rfl
def mP (p0:Int×Int):Option Int:=
 bif decide (p0.2<1) then
  some 8
 else
  bif p0.1==(-9223372036854775808) then
   some 8
  else
   (fQ p0.1).bind fun n0=>
   (nK n0 (aA .u64 p0.2)).bind fun n1=>
   bif n1 !=1 then
    some 8
   else
    some 0
def c55:bF:=⟨aB.one (aG.agg (bY.row gU)),aG.int .i64,fun a=>mP a,.pure,false⟩
theorem RA:aF aT 55 c55:=Oc aJ5 rfl aC [(114,aE9),(113,aKR)] ⟨MC,TV,trivial⟩ fun a=>by kernel_rfl
def qN (s:(Int×Int×(List (Int×Int×Int)))):Option (bH (Int×Int×(List (Int×Int×Int))) Int):=
 bif decide (s.2.1<(Int.ofNat s.2.2.length)) then
  (aL s.2.2 s.2.1).bind fun a0=>
  bif a0.1==s.1 then
   some (.done s.2.1)
  else
   some (.next (s.1,aA .i64 (s.2.1+1),s.2.2))
 else
  some (.done (-1))
def fD (p0:Field) (p1:Int):Option Int:=
 aK qN (p1,0,p0.points)
def c64:bF:=⟨aB.cons (aG.agg cF) (aB.one (aG.int .i64)),aG.int .i64,fun a=>fD a.1 a.2,.pure,false⟩
theorem IV:aF aT 64 c64:=Oc aKd rfl aC [] trivial fun a=>by kernel_rfl
def pM (p0:Int) (p1:Int):Option (Bool×Int×Int):=
 some (false,aA .u64 ((aA .u64 ((aA .u64 ((aA .u64 (Int.tdiv p0 4294967296))*(aA .u64 (Int.tdiv p1 4294967296))))+(aA .u64 (Int.tdiv (aA .u64 ((aA .u64 ((aA .u64 (Int.tdiv p0 4294967296))*(Int.tmod p1 4294967296)))+(aA .u64 (Int.tdiv (aA .u64 ((Int.tmod p0 4294967296)*(Int.tmod p1 4294967296))) 4294967296)))) 4294967296))))+(aA .u64 (Int.tdiv (aA .u64 ((aA .u64 ((Int.tmod p0 4294967296)*(aA .u64 (Int.tdiv p1 4294967296))))+(Int.tmod (aA .u64 ((aA .u64 ((aA .u64 (Int.tdiv p0 4294967296))*(Int.tmod p1 4294967296)))+(aA .u64 (Int.tdiv (aA .u64 ((Int.tmod p0 4294967296)*(Int.tmod p1 4294967296))) 4294967296)))) 4294967296))) 4294967296))),aA .u64 ((aA .u64 ((Int.tmod (aA .u64 ((aA .u64 ((Int.tmod p0 4294967296)*(aA .u64 (Int.tdiv p1 4294967296))))+(Int.tmod (aA .u64 ((aA .u64 ((aA .u64 (Int.tdiv p0 4294967296))*(Int.tmod p1 4294967296)))+(aA .u64 (Int.tdiv (aA .u64 ((Int.tmod p0 4294967296)*(Int.tmod p1 4294967296))) 4294967296)))) 4294967296))) 4294967296)*4294967296))+(Int.tmod (aA .u64 ((Int.tmod p0 4294967296)*(Int.tmod p1 4294967296))) 4294967296)))
def aMI:bF:=⟨aB.cons (aG.int .u64) (aB.one (aG.int .u64)),aG.agg (bY.row yT),fun a=>pM a.1 a.2,.pure,false⟩
theorem aFa:aF aT 186 aMI:=Oc aDw rfl aC [] trivial fun a=>by kernel_rfl
def iE (p0:Int) (p1:Int):Option (Bool×Int×Int):=
 (fQ p0).bind fun n0=>
 (fQ p1).bind fun n1=>
 (pM n0 n1).bind fun a2=>
 bif !((decide (p0<0))==(decide (p1<0))) then
  bif p0 !=0 then
   some (p1 !=0,a2.2)
  else
   some (false,a2.2)
 else
  some (false,a2.2)
def aKS:bF:=⟨aB.cons (aG.int .i64) (aB.one (aG.int .i64)),aG.agg (bY.row yT),fun a=>iE a.1 a.2,.pure,false⟩
theorem TW:aF aT 142 aKS:=Oc aCV rfl aC [(114,aE9),(186,aMI)] ⟨MC,aFa,trivial⟩ fun a=>by kernel_rfl
def oV (p0:Bool×Int×Int) (p1:Bool×Int×Int):Option Int:=
 bif p0.2.1 !=p1.2.1 then
  bif decide (p0.2.1<p1.2.1) then
   some (-1)
  else
   some 1
 else
  bif p0.2.2 !=p1.2.2 then
   bif decide (p0.2.2<p1.2.2) then
    some (-1)
   else
    some 1
  else
   some 0
def aKT:bF:=⟨aB.cons (aG.agg (bY.row yT)) (aB.one (aG.agg (bY.row yT))),aG.int .i64,fun a=>oV a.1 a.2,.pure,false⟩
theorem TX:aF aT 144 aKT:=Oc aCX rfl aC [] trivial fun a=>by kernel_rfl
def qO (p0:Bool×Int×Int) (p1:Bool×Int×Int):Option (Bool×Int×Int):=
 bif decide (p0.2.2<p1.2.2) then
  some (false,aA .u64 ((aA .u64 (p0.2.1-p1.2.1)) -1),aA .u64 (p0.2.2-p1.2.2))
 else
  some (false,aA .u64 (p0.2.1-p1.2.1),aA .u64 (p0.2.2-p1.2.2))
def aMJ:bF:=⟨aB.cons (aG.agg (bY.row yT)) (aB.one (aG.agg (bY.row yT))),aG.agg (bY.row yT),fun a=>qO a.1 a.2,.pure,false⟩
theorem aFb:aF aT 245 aMJ:=Oc aEk rfl aC [] trivial fun a=>by kernel_rfl
def wQ (p0:Bool×Int×Int) (p1:Bool×Int×Int):Option (Bool×Int×Int):=
 bif p0.1==p1.1 then
  bif decide ((aA .u64 (p0.2.2+p1.2.2))<p0.2.2) then
   some (p0.1,aA .u64 ((aA .u64 (p0.2.1+p1.2.1))+1),aA .u64 (p0.2.2+p1.2.2))
  else
   some (p0.1,aA .u64 (p0.2.1+p1.2.1),aA .u64 (p0.2.2+p1.2.2))
 else
  (oV p0 p1).bind fun n0=>
  bif decide (0<=n0) then
   (qO p0 p1).bind fun a1=>
   bif p0.1 then
    bif decide (0<a1.2.1) then
     some (true,a1.2)
    else
     some (decide (0<a1.2.2),a1.2)
   else
    some (false,a1.2)
  else
   (qO p1 p0).bind fun a2=>
   some (p1.1,a2.2)
def aMK:bF:=⟨aB.cons (aG.agg (bY.row yT)) (aB.one (aG.agg (bY.row yT))),aG.agg (bY.row yT),fun a=>wQ a.1 a.2,.pure,false⟩
theorem aFc:aF aT 237 aMK:=Oc aEd rfl aC [(144,aKT),(245,aMJ)] ⟨TX,aFb,trivial⟩ fun a=>by kernel_rfl
def jL (p0:Bool×Int×Int):Option Int:=
 bif p0.2.1==0 then
  bif p0.2.2==0 then
   some 0
  else
   bif p0.1 then
    some (-1)
   else
    some 1
 else
  bif p0.1 then
   some (-1)
  else
   some 1
def aKU:bF:=⟨aB.one (aG.agg (bY.row yT)),aG.int .i64,fun a=>jL a,.pure,false⟩
theorem TY:aF aT 143 aKU:=Oc aCW rfl aC [] trivial fun a=>by kernel_rfl
def AB (p0:Int×Int×Int) (p1:Int×Int×Int) (p2:Int×Int):Option Int:=
 (iE (aA .i64 (p0.2.1-p1.2.1)) p2.2).bind fun a0=>
 (iE (aA .i64 (p0.2.2-p1.2.2)) p2.1).bind fun a1=>
 (wQ a0 a1).bind fun a2=>
 (jL a2).bind fun n3=>
 some n3
def aML:bF:=⟨aB.cons (aG.agg (bY.row eS)) (aB.cons (aG.agg (bY.row eS)) (aB.one (aG.agg (bY.row gU)))),aG.int .i64,fun a=>AB a.1 a.2.1 a.2.2,.pure,false⟩
theorem aFd:aF aT 215 aML:=Oc aDX rfl aC [(142,aKS),(237,aMK),(143,aKU)] ⟨TW,aFc,TY,trivial⟩ fun a=>by kernel_rfl
def mQ (p0:Int×Int×Int) (p1:Int×Int×Int) (p2:Int×Int):Option Bool:=
 (AB p0 p1 p2).bind fun n0=>
 bif n0 !=0 then
  some (decide (0<n0))
 else
  bif p0.2.2 !=p1.2.2 then
   some (decide (p1.2.2<p0.2.2))
  else
   some (decide (p0.1<p1.1))
def aFe:bF:=⟨aB.cons (aG.agg (bY.row eS)) (aB.cons (aG.agg (bY.row eS)) (aB.one (aG.agg (bY.row gU)))),aG.bool,fun a=>mQ a.1 a.2.1 a.2.2,.pure,false⟩
theorem MD:aF aT 176 aFe:=Oc aDp rfl aC [(215,aML)] ⟨aFd,trivial⟩ fun a=>by kernel_rfl
def tR (p0:Field) (p1:Int×Int) (p2:Int) (p3:Int):Option Bool:=
 (fD p0 p2).bind fun n0=>
 (aL p0.points n0).bind fun a1=>
 (fD p0 p3).bind fun n2=>
 (aL p0.points n2).bind fun a3=>
 (mQ a1 a3 p1).bind fun b4=>
 some b4
def aKV:bF:=⟨aB.cons (aG.agg cF) (aB.cons (aG.agg (bY.row gU)) (aB.cons (aG.int .i64) (aB.one (aG.int .i64)))),aG.bool,fun a=>tR a.1 a.2.1 a.2.2.1 a.2.2.2,.pure,false⟩
theorem TZ:aF aT 131 aKV:=Oc aCL rfl aC [(64,c64),(176,aFe)] ⟨IV,MD,trivial⟩ fun a=>by kernel_rfl
def iQ (s:(Int×(List (Int×Int×Int))×Int×Int×(List Int))):Option (bH (Int×(List (Int×Int×Int))×Int×Int×(List Int)) (List Int)):=
 bif decide (0<s.1) then
  (aL s.2.2.2.2 s.1).bind fun n0=>
  (aL s.2.2.2.2 (aA .i64 (Int.tdiv (aA .i64 (s.1-1)) 2))).bind fun n1=>
  (tR (Field.mk s.2.1) (s.2.2.1,s.2.2.2.1) n0 n1).bind fun b2=>
  bif b2 then
   (aL s.2.2.2.2 (aA .i64 (Int.tdiv (aA .i64 (s.1-1)) 2))).bind fun n3=>
   (aL s.2.2.2.2 s.1).bind fun n4=>
   (aL s.2.2.2.2 s.1).bind fun _=>
   (aL (cD s.2.2.2.2 s.1 n3) (aA .i64 (Int.tdiv (aA .i64 (s.1-1)) 2))).bind fun _=>
   some (.next (aA .i64 (Int.tdiv (aA .i64 (s.1-1)) 2),s.2.1,s.2.2.1,s.2.2.2.1,cD (cD s.2.2.2.2 s.1 n3) (aA .i64 (Int.tdiv (aA .i64 (s.1-1)) 2)) n4))
  else
   some (.done s.2.2.2.2)
 else
  some (.done s.2.2.2.2)
def qP (p0:Field) (p1:Int×Int) (p2:List Int) (p3:Int):Option (List Int):=
 (cG p2).bind fun l0=>
 aK iQ (p3,p0.points,p1.1,p1.2,l0)
def c68:bF:=⟨aB.cons (aG.agg cF) (aB.cons (aG.agg (bY.row gU)) (aB.cons (aG.sl ki) (aB.one (aG.int .i64)))),aG.sl ki,fun a=>qP a.1 a.2.1 a.2.2.1 a.2.2.2,.own,true⟩
def aMM:bF:=⟨aB.cons (aG.agg cF) (aB.cons (aG.agg (bY.row gU)) (aB.cons (aG.sl ki) (aB.one (aG.int .i64)))),aG.sl ki,fun a=>qP a.1 a.2.1 a.2.2.1 a.2.2.2,.frz,false⟩
theorem aKW:aF aT 68 c68:=Oc XQ rfl aC [(131,aKV)] ⟨TZ,trivial⟩ fun a=>by kernel_rfl
theorem aFf:aF aT 68 aMM:=Oc XQ rfl aC [(131,aKV)] ⟨TZ,trivial⟩ fun a=>by kernel_rfl
def mB (p0:Field):Option Field:=
 (cG p0.points).bind fun l0=>
 some (Field.mk l0)
def c72:bF:=⟨aB.one (aG.agg cF),aG.agg cF,fun a=>mB a,.own,true⟩
def X9:bF:=⟨aB.one (aG.agg cF),aG.agg cF,fun a=>mB a,.frz,false⟩
theorem ME:aF aT 72 c72:=Oc XS rfl aC [] trivial fun a=>by kernel_rfl
theorem GK:aF aT 72 X9:=Oc XS rfl aC [] trivial fun a=>by kernel_rfl
def zC (s:(Int×(List Int)×(List Bool)×(List Int))):Option (bH (Int×(List Int)×(List Bool)×(List Int)) aR):=
 bif decide (0<=s.1) then
  (bM s.2.2.2 [s.1]).bind fun l0=>
  some (.next (aA .i64 (s.1-1),s.2.1,s.2.2.1,l0))
 else
  some (.done (aR.mk s.2.1 s.2.2.1 s.2.2.2))
def tS (p0:Int):Option aR:=
 bif p0==p0 then
  (yJ p0 (0:Int)).bind fun l0=>
  bif p0==p0 then
   (yJ p0 (false:Bool)).bind fun l1=>
   aK zC (aA .i64 (p0-1),l0,l1,[])
  else
   none
 else
  none
def aMO:bF:=⟨aB.one (aG.int .i64),aG.agg dW,fun a=>tS a,.frz,false⟩
theorem aFg:aF aT 209 aMO:=Oc aDR rfl aC [] trivial fun a=>by kernel_rfl
def IW (s:(Int×Int×(List Int)×(List Bool)×(List Int)×(List Int))):Option (bH (Int×Int×(List Int)×(List Bool)×(List Int)×(List Int)) aJ):=
 bif decide (s.2.1<s.1) then
  (bM s.2.2.2.2.2 [-1]).bind fun l0=>
  some (.next (s.1,aA .i64 (s.2.1+1),s.2.2.1,s.2.2.2.1,s.2.2.2.2.1,l0))
 else
  some (.done (aJ.mk (aR.mk s.2.2.1 s.2.2.2.1 s.2.2.2.2.1) [] s.2.2.2.2.2))
def tT (p0:Int):Option aJ:=
 (tS p0).bind fun r0=>
 aK IW (p0,0,r0.uses,r0.used,r0.free,[])
def aMP:bF:=⟨aB.one (aG.int .i64),aG.agg bV,fun a=>tT a,.frz,false⟩
theorem aFh:aF aT 165 aMP:=Oc aDe rfl aC [(209,aMO)] ⟨aFg,trivial⟩ fun a=>by kernel_rfl
def tU (p0:Field) (p1:Int×Int):Option aO:=
 (mB p0).bind fun r0=>
 (tT 200).bind fun r1=>
 some (aO.mk p1 r0 (aW.mk 0 []) r1 [])
def aMQ:bF:=⟨aB.cons (aG.agg cF) (aB.one (aG.agg (bY.row gU))),aG.agg bR,fun a=>tU a.1 a.2,.frz,false⟩
theorem aFi:aF aT 115 aMQ:=Oc aCw rfl aC [(72,c72),(72,X9),(165,aMP)] ⟨ME,GK,aFh,trivial⟩ fun a=>by kernel_rfl
def O7 (s:((List Int)×Int×(List (Int×Int)))):Option (bH ((List Int)×Int×(List (Int×Int))) (List (Int×Int))):=
 bif decide (s.2.1<(Int.ofNat s.1.length)) then
  (aL s.1 s.2.1).bind fun n0=>
  (aL s.1 (aA .i64 (Int.tdiv (aA .i64 (s.2.1-1)) 2))).bind fun n1=>
  (bM s.2.2 [(n0,n1)]).bind fun l2=>
  some (.next (s.1,aA .i64 (s.2.1+1),l2))
 else
  some (.done s.2.2)
def vE (p0:List Int):Option (List (Int×Int)):=
 aK O7 (p0,1,[])
def c57:bF:=⟨aB.one (aG.sl ki),aG.sl gU,fun a=>vE a,.own,true⟩
def aFj:bF:=⟨aB.one (aG.sl ki),aG.sl gU,fun a=>vE a,.frz,false⟩
theorem RC:aF aT 57 c57:=Oc XP rfl aC [] trivial fun a=>by kernel_rfl
theorem MF:aF aT 57 aFj:=Oc XP rfl aC [] trivial fun a=>by kernel_rfl
def oW (p0:aW):Option aW:=
 (cG p0.list).bind fun l0=>
 some (aW.mk p0.next_ l0)
def c73:bF:=⟨aB.one (aG.agg eV),aG.agg eV,fun a=>oW a,.own,true⟩
def aFk:bF:=⟨aB.one (aG.agg eV),aG.agg eV,fun a=>oW a,.frz,false⟩
theorem RD:aF aT 73 c73:=Oc XT rfl aC [] trivial fun a=>by kernel_rfl
theorem MG:aF aT 73 aFk:=Oc XT rfl aC [] trivial fun a=>by kernel_rfl
def mC (p0:aR):Option aR:=
 (cG p0.uses).bind fun l0=>
 (cG p0.used).bind fun l1=>
 (cG p0.free).bind fun l2=>
 some (aR.mk l0 l1 l2)
def YA:bF:=⟨aB.one (aG.agg dW),aG.agg dW,fun a=>mC a,.own,true⟩
def O8:bF:=⟨aB.one (aG.agg dW),aG.agg dW,fun a=>mC a,.frz,false⟩
theorem GL:aF aT 133 YA:=Oc TC rfl aC [] trivial fun a=>by kernel_rfl
theorem DV:aF aT 133 O8:=Oc TC rfl aC [] trivial fun a=>by kernel_rfl
def kL (p0:aJ):Option aJ:=
 (mC p0.slots).bind fun r0=>
 (cG p0.heap).bind fun l1=>
 (cG p0.where_).bind fun l2=>
 some (aJ.mk r0 l1 l2)
def c74:bF:=⟨aB.one (aG.agg bV),aG.agg bV,fun a=>kL a,.own,true⟩
def VI:bF:=⟨aB.one (aG.agg bV),aG.agg bV,fun a=>kL a,.frz,false⟩
theorem IX:aF aT 74 c74:=Oc XU rfl aC [(133,YA),(133,O8)] ⟨GL,DV,trivial⟩ fun a=>by kernel_rfl
theorem DW:aF aT 74 VI:=Oc XU rfl aC [(133,YA),(133,O8)] ⟨GL,DV,trivial⟩ fun a=>by kernel_rfl
def kM (p0:aO):Option aO:=
 (mB p0.field).bind fun r0=>
 (oW p0.certs).bind fun r1=>
 (kL p0.agenda).bind fun r2=>
 (cG p0.due).bind fun l3=>
 some (aO.mk p0.now r0 r1 r2 l3)
def c32:bF:=⟨aB.one (aG.agg bR),aG.agg bR,fun a=>kM a,.own,true⟩
def YB:bF:=⟨aB.one (aG.agg bR),aG.agg bR,fun a=>kM a,.frz,false⟩
theorem MH:aF aT 32 c32:=Oc XO rfl aC [(72,c72),(72,X9),(73,c73),(73,aFk),(74,c74),(74,VI)] ⟨ME,GK,RD,MG,IX,DW,trivial⟩ fun a=>by kernel_rfl
theorem GM:aF aT 32 YB:=Oc XO rfl aC [(72,c72),(72,X9),(73,c73),(73,aFk),(74,c74),(74,VI)] ⟨ME,GK,RD,MG,IX,DW,trivial⟩ fun a=>by kernel_rfl
def O9 (s:((List (Int×Int))×Int×Int×Int)):Option (bH ((List (Int×Int))×Int×Int×Int) Bool):=
 bif decide (s.2.1<(Int.ofNat s.1.length)) then
  (aL s.1 s.2.1).bind fun a0=>
  bif (a0.1==s.2.2.1)&&(a0.2==s.2.2.2) then
   some (.done true)
  else
   some (.next (s.1,aA .i64 (s.2.1+1),s.2.2))
 else
  some (.done false)
def PA (p0:List (Int×Int)) (p1:Int×Int):Option Bool:=
 aK O9 (p0,0,p1)
def aMS:bF:=⟨aB.cons (aG.sl gU) (aB.one (aG.agg (bY.row gU))),aG.bool,fun a=>PA a.1 a.2,.pure,false⟩
theorem aFl:aF aT 147 aMS:=Oc aCZ rfl aC [] trivial fun a=>by kernel_rfl
def E4 (s:(Int×Int×Int×(List (Int×Int×Int))×Int×Int×(List (Int×Int×Int)))):Option (bH (Int×Int×Int×(List (Int×Int×Int))×Int×Int×(List (Int×Int×Int))) aW):=
 bif decide (s.2.1<(Int.ofNat s.2.2.2.1.length)) then
  (aL s.2.2.2.1 s.2.1).bind fun a0=>
  bif a0.1 !=s.1 then
   (aL s.2.2.2.1 s.2.1).bind fun a1=>
   (bM s.2.2.2.2.2.2 [a1]).bind fun l2=>
   some (.next (s.1,aA .i64 (s.2.1+1),s.2.2.1,s.2.2.2.1,s.2.2.2.2.1,s.2.2.2.2.2.1,l2))
  else
   some (.next (s.1,aA .i64 (s.2.1+1),s.2.2))
 else
  some (.done (aW.mk s.2.2.2.2.2.1 s.2.2.2.2.2.2))
def BA (p0:aW) (p1:Int):Option aW:=
 aK E4 (p1,0,p0.next_,p0.list,0,p0.next_,[])
def aMT:bF:=⟨aB.cons (aG.agg eV) (aB.one (aG.int .i64)),aG.agg eV,fun a=>BA a.1 a.2,.frz,false⟩
theorem aFm:aF aT 187 aMT:=Oc aDx rfl aC [] trivial fun a=>by kernel_rfl
def IY (s:(Int×Int×Int×Int×(List (Int×Int×Int))×Int×(List (Int×Int×Int))×(List Int)×(List Bool)×(List Int)×(List (Int×Int×Int×Int×Int))×(List Int)×(List (Int×Int×Int)))):Option (bH (Int×Int×Int×Int×(List (Int×Int×Int))×Int×(List (Int×Int×Int))×(List Int)×(List Bool)×(List Int)×(List (Int×Int×Int×Int×Int))×(List Int)×(List (Int×Int×Int))) Int):=
 bif decide (s.2.1<(Int.ofNat s.2.2.2.2.2.2.2.2.2.2.2.2.length)) then
  (aL s.2.2.2.2.2.2.2.2.2.2.2.2 s.2.1).bind fun a0=>
  bif a0.1==s.1 then
   some (.done s.2.1)
  else
   some (.next (s.1,aA .i64 (s.2.1+1),s.2.2))
 else
  some (.done (-1))
def zD (p0:aO) (p1:Int):Option Int:=
 aK IY (p1,0,p0.now.1,p0.now.2,p0.field.points,p0.certs.next_,p0.certs.list,p0.agenda.slots.uses,p0.agenda.slots.used,p0.agenda.slots.free,p0.agenda.heap,p0.agenda.where_,p0.due)
def aKX:bF:=⟨aB.cons (aG.agg bR) (aB.one (aG.int .i64)),aG.int .i64,fun a=>zD a.1 a.2,.pure,false⟩
theorem T0:aF aT 188 aKX:=Oc aDy rfl aC [] trivial fun a=>by kernel_rfl
def zE (p0:aR) (p1:Int×Int):Option aR:=
 (mC p0).bind fun r0=>
 (aL r0.used p1.1).bind fun _=>
 (bM r0.free [p1.1]).bind fun l2=>
 some (aR.mk r0.uses (cD r0.used p1.1 false) l2)
def aMU:bF:=⟨aB.cons (aG.agg dW) (aB.one (aG.agg (bY.row gU))),aG.agg dW,fun a=>zE a.1 a.2,.frz,false⟩
theorem aFn:aF aT 221 aMU:=Oc aD1 rfl aC [(133,YA),(133,O8)] ⟨GL,DV,trivial⟩ fun a=>by kernel_rfl
def pN (p0:Int×Int) (p1:Int×Int):Option Int:=
 (iE p0.1 p1.2).bind fun a0=>
 (iE p1.1 p0.2).bind fun a1=>
 (jL a0).bind fun n2=>
 (jL a1).bind fun n3=>
 bif n2 !=n3 then
  (jL a0).bind fun n4=>
  (jL a1).bind fun n5=>
  bif decide (n4<n5) then
   some (-1)
  else
   some 1
 else
  (jL a0).bind fun n6=>
  bif decide (n6<0) then
   (oV a1 a0).bind fun n7=>
   some n7
  else
   (oV a0 a1).bind fun n8=>
   some n8
def c84:bF:=⟨aB.cons (aG.agg (bY.row gU)) (aB.one (aG.agg (bY.row gU))),aG.int .i64,fun a=>pN a.1 a.2,.pure,false⟩
theorem aKY:aF aT 84 c84:=Oc aKm rfl aC [(142,aKS),(143,aKU),(144,aKT)] ⟨TW,TY,TX,trivial⟩ fun a=>by kernel_rfl
def dE (p0:Int×Int×Int×Int×Int) (p1:Int×Int×Int×Int×Int):Option Bool:=
 (pN (p0.1,p0.2.1) (p1.1,p1.2.1)).bind fun n0=>
 bif decide (n0<0) then
  some true
 else
  bif n0==0 then
   some (decide (p0.2.2.1<p1.2.2.1))
  else
   some false
def RE:bF:=⟨aB.cons (aG.agg (bY.row iD)) (aB.one (aG.agg (bY.row iD))),aG.bool,fun a=>dE a.1 a.2,.pure,false⟩
theorem AC:aF aT 173 RE:=Oc aDm rfl aC [(84,c84)] ⟨aKY,trivial⟩ fun a=>by kernel_rfl
def gD (a:(Int×Int×(List Int)×(List Bool)×(List Int)×(List (Int×Int×Int×Int×Int))×(List Int))):Option ((List Int)×(List Bool)×(List Int)×(List (Int×Int×Int×Int×Int))×(List Int)):=
 (aL a.2.2.2.2.2.1 a.2.1).bind fun a0=>
 (aL a.2.2.2.2.2.1 a.1).bind fun a1=>
 (aL a.2.2.2.2.2.1 a.1).bind fun _=>
 (aL (cD a.2.2.2.2.2.1 a.1 a0) a.2.1).bind fun _=>
 (aL (cD (cD a.2.2.2.2.2.1 a.1 a0) a.2.1 a1) a.1).bind fun a4=>
 (aL (cD (cD a.2.2.2.2.2.1 a.1 a0) a.2.1 a1) a.2.1).bind fun a5=>
 (aL a.2.2.2.2.2.2 a4.2.2.2.1).bind fun _=>
 (aL (cD a.2.2.2.2.2.2 a4.2.2.2.1 a.1) a5.2.2.2.1).bind fun _=>
 bif a.2.2.1.length==a.2.2.1.length then
  bif a.2.2.2.1.length==a.2.2.2.1.length then
   bif a.2.2.2.2.1.length==a.2.2.2.2.1.length then
    bif ((cD (cD a.2.2.2.2.2.1 a.1 a0) a.2.1 a1).length)==a.2.2.2.2.2.1.length then
     bif ((cD (cD a.2.2.2.2.2.2 a4.2.2.2.1 a.1) a5.2.2.2.1 a.2.1).length)==a.2.2.2.2.2.2.length then
      some (a.2.2.1,a.2.2.2.1,a.2.2.2.2.1,cD (cD a.2.2.2.2.2.1 a.1 a0) a.2.1 a1,cD (cD a.2.2.2.2.2.2 a4.2.2.2.1 a.1) a5.2.2.2.1 a.2.1)
     else
      none
    else
     none
   else
    none
  else
   none
 else
  none
def CH:dA:=⟨[.i,.i,.l [.i .i64],.l [.b],.l [.i .i64],.l [.i .i64,.i .i64,.i .i64,.i .i64,.i .i64],.l [.i .i64]],[.agg [.own 0 false,.own 1 false,.own 2 false,.own 3 false,.own 4 false],.int .i64 0,.int .i64 0],[.arr [.i .i64] [],.arr [.b] [],.arr [.i .i64] [],.arr [.i .i64,.i .i64,.i .i64,.i .i64,.i .i64] [],.arr [.i .i64] []],[.l [.i .i64],.l [.b],.l [.i .i64],.l [.i .i64,.i .i64,.i .i64,.i .i64,.i .i64],.l [.i .i64]],.tup [],[.arr [.i .i64] [],.arr [.b] [],.arr [.i .i64] [],.arr [.i .i64,.i .i64,.i .i64,.i .i64,.i .i64] [],.arr [.i .i64] []],fun a=>gD a⟩
theorem rQ:jS aT 220 CH:=jS.of L1 (wd:=false) (cx:=(mV aC [] [] [] [])) (jY.make trivial trivial trivial) (fun a=>by kernel_rfl)
def iR (a:((List Int)×(List Bool)×(List Int)×Nat×Nat×Int×Int×(List (Int×Int×Int×Int×Int))×(List Int))):Option ((List (Int×Int×Int×Int×Int))×(List Int)):=
 (aL (a.2.2.2.2.2.2.2.1.take a.2.2.2.1) a.2.2.2.2.2.2.1).bind fun a0=>
 (aL (a.2.2.2.2.2.2.2.1.take a.2.2.2.1) a.2.2.2.2.2.1).bind fun a1=>
 (aL (a.2.2.2.2.2.2.2.1.take a.2.2.2.1) a.2.2.2.2.2.1).bind fun _=>
 (aL ((cD a.2.2.2.2.2.2.2.1 a.2.2.2.2.2.1 a0).take a.2.2.2.1) a.2.2.2.2.2.2.1).bind fun _=>
 (aL ((cD (cD a.2.2.2.2.2.2.2.1 a.2.2.2.2.2.1 a0) a.2.2.2.2.2.2.1 a1).take a.2.2.2.1) a.2.2.2.2.2.1).bind fun a4=>
 (aL ((cD (cD a.2.2.2.2.2.2.2.1 a.2.2.2.2.2.1 a0) a.2.2.2.2.2.2.1 a1).take a.2.2.2.1) a.2.2.2.2.2.2.1).bind fun a5=>
 (aL a.2.2.2.2.2.2.2.2 a4.2.2.2.1).bind fun _=>
 (aL (cD a.2.2.2.2.2.2.2.2 a4.2.2.2.1 a.2.2.2.2.2.1) a5.2.2.2.1).bind fun _=>
 bif ((cD (cD a.2.2.2.2.2.2.2.1 a.2.2.2.2.2.1 a0) a.2.2.2.2.2.2.1 a1).length)==a.2.2.2.2.2.2.2.1.length then
  bif ((cD (cD a.2.2.2.2.2.2.2.2 a4.2.2.2.1 a.2.2.2.2.2.1) a5.2.2.2.1 a.2.2.2.2.2.2.1).length)==a.2.2.2.2.2.2.2.2.length then
   some (cD (cD a.2.2.2.2.2.2.2.1 a.2.2.2.2.2.1 a0) a.2.2.2.2.2.2.1 a1,cD (cD a.2.2.2.2.2.2.2.2 a4.2.2.2.1 a.2.2.2.2.2.1) a5.2.2.2.1 a.2.2.2.2.2.2.1)
  else
   none
 else
  none
def CI:dA:=⟨[.l [.i .i64],.l [.b],.l [.i .i64],.n,.n,.i,.i,.l [.i .i64,.i .i64,.i .i64,.i .i64,.i .i64],.l [.i .i64]],[.agg [.sl [.i .i64] [],.sl [.b] [],.sl [.i .i64] [],.pre 0 0 0 false,.own 1 false],.int .i64 0,.int .i64 0],[.arr [.i .i64,.i .i64,.i .i64,.i .i64,.i .i64] [],.arr [.i .i64] []],[.l [.i .i64,.i .i64,.i .i64,.i .i64,.i .i64],.l [.i .i64]],.tup [],[.arr [.i .i64,.i .i64,.i .i64,.i .i64,.i .i64] [],.arr [.i .i64] []],fun a=>iR a⟩
theorem rR:jS aT 220 CI:=jS.of L1 (wd:=false) (cx:=(mV aC [] [] [] [])) (jY.make trivial trivial trivial) (fun a=>by kernel_rfl)
def DX (c0:((List Int)×(List Bool)×(List Int)×Nat×Nat×Int×(List (Int×Int×Int×Int×Int))×(List Int))) (s:(Int×(List (Int×Int×Int×Int×Int))×(List Int)×(List Int)×(List Bool)×(List Int)×Nat×Nat)):Option (bH (Int×(List (Int×Int×Int×Int×Int))×(List Int)×(List Int)×(List Bool)×(List Int)×Nat×Nat) (Int×(List (Int×Int×Int×Int×Int))×(List Int))):=
 bif decide (0<s.1) then
  (aL (s.2.1.take s.2.2.2.2.2.2.1) s.1).bind fun a0=>
  (aL (s.2.1.take s.2.2.2.2.2.2.1) (aA .i64 (Int.tdiv (aA .i64 (s.1-1)) 2))).bind fun a1=>
  (dE a0 a1).bind fun b2=>
  bif b2 then
   (iR (s.2.2.2.1,s.2.2.2.2.1,s.2.2.2.2.2.1,s.2.2.2.2.2.2.1,s.2.2.2.2.2.2.2,s.1,aA .i64 (Int.tdiv (aA .i64 (s.1-1)) 2),s.2.1,s.2.2.1)).bind fun a3=>
   some (.next (aA .i64 (Int.tdiv (aA .i64 (s.1-1)) 2),a3.1,a3.2,s.2.2.2))
  else
   bif s.2.1.length==c0.2.2.2.2.2.2.1.length then
    bif s.2.2.1.length==c0.2.2.2.2.2.2.2.length then
     some (.done (s.1,s.2.1,s.2.2.1))
    else
     none
   else
    none
 else
  bif s.2.1.length==c0.2.2.2.2.2.2.1.length then
   bif s.2.2.1.length==c0.2.2.2.2.2.2.2.length then
    some (.done (s.1,s.2.1,s.2.2.1))
   else
    none
  else
   none
def sI (a:((List Int)×(List Bool)×(List Int)×Nat×Nat×Int×(List (Int×Int×Int×Int×Int))×(List Int))):Option (Int×(List (Int×Int×Int×Int×Int))×(List Int)):=
 aK (DX a) (a.2.2.2.2.2.1,a.2.2.2.2.2.2.1,a.2.2.2.2.2.2.2,a.1,a.2.1,a.2.2.1,a.2.2.2.1,a.2.2.2.2.1)
def MI:dA:=⟨[.l [.i .i64],.l [.b],.l [.i .i64],.n,.n,.i,.l [.i .i64,.i .i64,.i .i64,.i .i64,.i .i64],.l [.i .i64]],[.agg [.sl [.i .i64] [],.sl [.b] [],.sl [.i .i64] [],.pre 0 0 0 false,.own 1 false],.int .i64 0],[.arr [.i .i64,.i .i64,.i .i64,.i .i64,.i .i64] [],.arr [.i .i64] []],[.i,.l [.i .i64,.i .i64,.i .i64,.i .i64,.i .i64],.l [.i .i64]],.int .i64 0,[.arr [.i .i64,.i .i64,.i .i64,.i .i64,.i .i64] [],.arr [.i .i64] []],fun a=>sI a⟩
theorem E5:jS aT 223 MI:=jS.of L2 (wd:=true) (cx:=(mV aC [(173,RE)] [(220,CH),(220,CI)] [] [])) (jY.make ⟨AC,trivial⟩ ⟨rQ,rR,trivial⟩ trivial) (fun a=>by kernel_rfl)
def AT (c0:((List Int)×(List Bool)×(List Int)×Nat×Nat×Int×(List (Int×Int×Int×Int×Int))×(List Int))) (s:(Int×(List (Int×Int×Int×Int×Int))×(List Int)×(List Int)×(List Bool)×(List Int)×Nat×Nat)):Option (bH (Int×(List (Int×Int×Int×Int×Int))×(List Int)×(List Int)×(List Bool)×(List Int)×Nat×Nat) ((List (Int×Int×Int×Int×Int))×(List Int))):=
 bif decide ((Int.ofNat s.2.2.2.2.2.2.1)<=(aA .i64 ((aA .i64 (2*s.1))+1))) then
  bif s.2.1.length==c0.2.2.2.2.2.2.1.length then
   bif s.2.2.1.length==c0.2.2.2.2.2.2.2.length then
    some (.done (s.2.1,s.2.2.1))
   else
    none
  else
   none
 else
  bif decide ((aA .i64 ((aA .i64 ((aA .i64 (2*s.1))+1))+1))<(Int.ofNat s.2.2.2.2.2.2.1)) then
   (aL (s.2.1.take s.2.2.2.2.2.2.1) (aA .i64 ((aA .i64 ((aA .i64 (2*s.1))+1))+1))).bind fun a0=>
   (aL (s.2.1.take s.2.2.2.2.2.2.1) (aA .i64 ((aA .i64 (2*s.1))+1))).bind fun a1=>
   (dE a0 a1).bind fun b2=>
   bif b2 then
    (aL (s.2.1.take s.2.2.2.2.2.2.1) (aA .i64 ((aA .i64 ((aA .i64 (2*s.1))+1))+1))).bind fun a3=>
    (aL (s.2.1.take s.2.2.2.2.2.2.1) s.1).bind fun a4=>
    (dE a3 a4).bind fun b5=>
    bif !b5 then
     bif s.2.1.length==c0.2.2.2.2.2.2.1.length then
      bif s.2.2.1.length==c0.2.2.2.2.2.2.2.length then
       some (.done (s.2.1,s.2.2.1))
      else
       none
     else
      none
    else
     (iR (s.2.2.2.1,s.2.2.2.2.1,s.2.2.2.2.2.1,s.2.2.2.2.2.2.1,s.2.2.2.2.2.2.2,s.1,aA .i64 ((aA .i64 ((aA .i64 (2*s.1))+1))+1),s.2.1,s.2.2.1)).bind fun a6=>
     some (.next (aA .i64 ((aA .i64 ((aA .i64 (2*s.1))+1))+1),a6.1,a6.2,s.2.2.2))
   else
    (aL (s.2.1.take s.2.2.2.2.2.2.1) (aA .i64 ((aA .i64 (2*s.1))+1))).bind fun a7=>
    (aL (s.2.1.take s.2.2.2.2.2.2.1) s.1).bind fun a8=>
    (dE a7 a8).bind fun b9=>
    bif !b9 then
     bif s.2.1.length==c0.2.2.2.2.2.2.1.length then
      bif s.2.2.1.length==c0.2.2.2.2.2.2.2.length then
       some (.done (s.2.1,s.2.2.1))
      else
       none
     else
      none
    else
     (iR (s.2.2.2.1,s.2.2.2.2.1,s.2.2.2.2.2.1,s.2.2.2.2.2.2.1,s.2.2.2.2.2.2.2,s.1,aA .i64 ((aA .i64 (2*s.1))+1),s.2.1,s.2.2.1)).bind fun a10=>
     some (.next (aA .i64 ((aA .i64 (2*s.1))+1),a10.1,a10.2,s.2.2.2))
  else
   (aL (s.2.1.take s.2.2.2.2.2.2.1) (aA .i64 ((aA .i64 (2*s.1))+1))).bind fun a11=>
   (aL (s.2.1.take s.2.2.2.2.2.2.1) s.1).bind fun a12=>
   (dE a11 a12).bind fun b13=>
   bif !b13 then
    bif s.2.1.length==c0.2.2.2.2.2.2.1.length then
     bif s.2.2.1.length==c0.2.2.2.2.2.2.2.length then
      some (.done (s.2.1,s.2.2.1))
     else
      none
    else
     none
   else
    (iR (s.2.2.2.1,s.2.2.2.2.1,s.2.2.2.2.2.1,s.2.2.2.2.2.2.1,s.2.2.2.2.2.2.2,s.1,aA .i64 ((aA .i64 (2*s.1))+1),s.2.1,s.2.2.1)).bind fun a14=>
    some (.next (aA .i64 ((aA .i64 (2*s.1))+1),a14.1,a14.2,s.2.2.2))
def oX (a:((List Int)×(List Bool)×(List Int)×Nat×Nat×Int×(List (Int×Int×Int×Int×Int))×(List Int))):Option ((List (Int×Int×Int×Int×Int))×(List Int)):=
 aK (AT a) (a.2.2.2.2.2.1,a.2.2.2.2.2.2.1,a.2.2.2.2.2.2.2,a.1,a.2.1,a.2.2.1,a.2.2.2.1,a.2.2.2.2.1)
def RF:dA:=⟨[.l [.i .i64],.l [.b],.l [.i .i64],.n,.n,.i,.l [.i .i64,.i .i64,.i .i64,.i .i64,.i .i64],.l [.i .i64]],[.agg [.sl [.i .i64] [],.sl [.b] [],.sl [.i .i64] [],.pre 0 0 0 false,.own 1 false],.int .i64 0],[.arr [.i .i64,.i .i64,.i .i64,.i .i64,.i .i64] [],.arr [.i .i64] []],[.l [.i .i64,.i .i64,.i .i64,.i .i64,.i .i64],.l [.i .i64]],.tup [],[.arr [.i .i64,.i .i64,.i .i64,.i .i64,.i .i64] [],.arr [.i .i64] []],fun a=>oX a⟩
theorem KU:jS aT 222 RF:=jS.of TH (wd:=false) (cx:=(mV aC [(173,RE)] [(220,CH),(220,CI)] [] [])) (jY.make ⟨AC,trivial⟩ ⟨rQ,rR,trivial⟩ trivial) (fun a=>by kernel_rfl)
def lN (p0:aJ) (p1:Int×Int):Option aJ:=
 (kL p0).bind fun r0=>
 (aL r0.where_ p1.1).bind fun n1=>
 bif n1 !=(aA .i64 ((Int.ofNat r0.heap.length) -1)) then
  (gD (n1,aA .i64 ((Int.ofNat r0.heap.length) -1),r0.slots.uses,r0.slots.used,r0.slots.free,r0.heap,r0.where_)).bind fun a2=>
  (jJ a2.2.2.2.1 0 (aA .i64 ((Int.ofNat r0.heap.length) -1))).bind fun _=>
  (aL a2.2.2.2.2 p1.1).bind fun _=>
  (zE (aR.mk a2.1 a2.2.1 a2.2.2.1) p1).bind fun r5=>
  bif n1 !=(aA .i64 ((Int.ofNat r0.heap.length) -1)) then
   (sI (r5.uses,r5.used,r5.free,(aA .i64 ((Int.ofNat r0.heap.length) -1)).toNat,a2.2.2.2.1.length,n1,a2.2.2.2.1,cD a2.2.2.2.2 p1.1 (-1))).bind fun a6=>
   (oX (r5.uses,r5.used,r5.free,(aA .i64 ((Int.ofNat r0.heap.length) -1)).toNat,a2.2.2.2.1.length,a6)).bind fun a7=>
   some (aJ.mk r5 (a7.1.take ((aA .i64 ((Int.ofNat r0.heap.length) -1)).toNat)) a7.2)
  else
   some (aJ.mk r5 (a2.2.2.2.1.take ((aA .i64 ((Int.ofNat r0.heap.length) -1)).toNat)) (cD a2.2.2.2.2 p1.1 (-1)))
 else
  (jJ r0.heap 0 (aA .i64 ((Int.ofNat r0.heap.length) -1))).bind fun _=>
  (aL r0.where_ p1.1).bind fun _=>
  (zE r0.slots p1).bind fun r10=>
  bif n1 !=(aA .i64 ((Int.ofNat r0.heap.length) -1)) then
   (sI (r10.uses,r10.used,r10.free,(aA .i64 ((Int.ofNat r0.heap.length) -1)).toNat,r0.heap.length,n1,r0.heap,cD r0.where_ p1.1 (-1))).bind fun a11=>
   (oX (r10.uses,r10.used,r10.free,(aA .i64 ((Int.ofNat r0.heap.length) -1)).toNat,r0.heap.length,a11)).bind fun a12=>
   some (aJ.mk r10 (a12.1.take ((aA .i64 ((Int.ofNat r0.heap.length) -1)).toNat)) a12.2)
  else
   some (aJ.mk r10 (r0.heap.take ((aA .i64 ((Int.ofNat r0.heap.length) -1)).toNat)) (cD r0.where_ p1.1 (-1)))
def aKZ:bF:=⟨aB.cons (aG.agg bV) (aB.one (aG.agg (bY.row gU))),aG.agg bV,fun a=>lN a.1 a.2,.frz,false⟩
theorem T1:aF aT 189 aKZ:=aF.of aDz (cx:=(mV aC [(74,c74),(74,VI),(221,aMU)] [(220,CH),(220,CI),(223,MI),(222,RF)] [] [])) rfl (jY.make ⟨IX,DW,aFn,trivial⟩ ⟨rQ,rR,E5,KU,trivial⟩ trivial) (fun a=>by kernel_rfl)
def IZ (p0:aO) (p1:Int):Option aO:=
 (kM p0).bind fun r0=>
 (BA p0.certs p1).bind fun r1=>
 (zD p0 p1).bind fun n2=>
 bif decide (0<=n2) then
  (aL p0.due n2).bind fun a3=>
  (lN p0.agenda a3.2).bind fun r4=>
  (jJ p0.due 0 n2).bind fun l5=>
  (cG l5).bind fun l6=>
  (jJ p0.due (aA .i64 (n2+1)) (Int.ofNat p0.due.length)).bind fun l7=>
  bif l7.isEmpty then
   some (aO.mk r0.now r0.field r1 r4 l6)
  else
   (bM l6 l7).bind fun l8=>
   some (aO.mk r0.now r0.field r1 r4 l8)
 else
  some (aO.mk r0.now r0.field r1 r0.agenda r0.due)
def aMV:bF:=⟨aB.cons (aG.agg bR) (aB.one (aG.int .i64)),aG.agg bR,fun a=>IZ a.1 a.2,.frz,false⟩
theorem aFo:aF aT 146 aMV:=Oc aCY rfl aC [(32,c32),(32,YB),(187,aMT),(188,aKX),(189,aKZ)] ⟨MH,GM,aFm,T0,T1,trivial⟩ fun a=>by kernel_rfl
def pO (s:(Int×(List (Int×Int×Int))×(List (Int×Int×Int)))):Option (bH (Int×(List (Int×Int×Int))×(List (Int×Int×Int))) Bool):=
 bif decide (s.1<(Int.ofNat s.2.1.length)) then
  (aL s.2.1 s.1).bind fun a0=>
  (aL s.2.2 s.1).bind fun a1=>
  bif !((a0.1==a1.1)&&((a0.2.1==a1.2.1)&&(a0.2.2==a1.2.2))) then
   some (.done false)
  else
   some (.next (aA .i64 (s.1+1),s.2))
 else
  some (.done true)
def sJ (p0:Field) (p1:Field):Option Bool:=
 bif (Int.ofNat p0.points.length) !=(Int.ofNat p1.points.length) then
  some false
 else
  aK pO (0,p0.points,p1.points)
def c89:bF:=⟨aB.cons (aG.agg cF) (aB.one (aG.agg cF)),aG.bool,fun a=>sJ a.1 a.2,.pure,false⟩
theorem YC:aF aT 89 c89:=Oc aKo rfl aC [] trivial fun a=>by kernel_rfl
def oY (p0:Bool) (p1:Bool×Int×Int) (p2:Bool×Int×Int):Option ((Int×Int)×Int):=
 bif decide (0<p1.2.1) then
  some ((0,0),16)
 else
  bif decide (9223372036854775807<p1.2.2) then
   some ((0,0),16)
  else
   bif decide (0<p2.2.1) then
    some ((0,0),16)
   else
    bif decide (9223372036854775807<p2.2.2) then
     some ((0,0),16)
    else
     bif p0 then
      some ((aA .i64 (0- (aA .i64 p1.2.2)),aA .i64 p2.2.2),0)
     else
      some ((aA .i64 p1.2.2,aA .i64 p2.2.2),0)
def aMW:bF:=⟨aB.cons aG.bool (aB.cons (aG.agg (bY.row yT)) (aB.one (aG.agg (bY.row yT)))),aG.tup (aB.cons (aG.agg (bY.row gU)) (aB.one (aG.int .i64))),fun a=>oY a.1 a.2.1 a.2.2,.pure,false⟩
theorem aFp:aF aT 244 aMW:=Oc aEj rfl aC [] trivial fun a=>by kernel_rfl
def kN (p0:Int) (p1:Int):Option ((Int×Int)×Int):=
 bif p1==0 then
  some ((0,0),26)
 else
  (fQ p0).bind fun n0=>
  (fQ p1).bind fun n1=>
  (nK n0 n1).bind fun n2=>
  bif !((decide (p0<0))==(decide (p1<0))) then
   (fQ p0).bind fun n3=>
   bif n2==0 then
    none
   else
    (fQ p1).bind fun n4=>
    bif n2==0 then
     none
    else
     (oY (p0 !=0) (false,0,aA .u64 (Int.tdiv n3 n2)) (false,0,aA .u64 (Int.tdiv n4 n2))).bind fun a5=>
     some a5
  else
   (fQ p0).bind fun n6=>
   bif n2==0 then
    none
   else
    (fQ p1).bind fun n7=>
    bif n2==0 then
     none
    else
     (oY false (false,0,aA .u64 (Int.tdiv n6 n2)) (false,0,aA .u64 (Int.tdiv n7 n2))).bind fun a8=>
     some a8
def aMX:bF:=⟨aB.cons (aG.int .i64) (aB.one (aG.int .i64)),aG.tup (aB.cons (aG.agg (bY.row gU)) (aB.one (aG.int .i64))),fun a=>kN a.1 a.2,.pure,false⟩
theorem aFq:aF aT 236 aMX:=Oc aEc rfl aC [(114,aE9),(113,aKR),(244,aMW)] ⟨MC,TV,aFp,trivial⟩ fun a=>by kernel_rfl
def AD (p0:Int×Int×Int) (p1:Int×Int×Int):Option (Int×Int):=
 (kN (aA .i64 (p0.2.1-p1.2.1)) (aA .i64 (p1.2.2-p0.2.2))).bind fun a0=>
 some a0.1
def aMY:bF:=⟨aB.cons (aG.agg (bY.row eS)) (aB.one (aG.agg (bY.row eS))),aG.agg (bY.row gU),fun a=>AD a.1 a.2,.pure,false⟩
theorem aFr:aF aT 214 aMY:=Oc aDW rfl aC [(236,aMX)] ⟨aFq,trivial⟩ fun a=>by kernel_rfl
def pP (p0:Int×Int×Int) (p1:Int×Int×Int) (p2:Int×Int):Option ((Int×Int)×Bool):=
 (mQ p1 p0 p2).bind fun b0=>
 bif b0 then
  some (p2,true)
 else
  bif decide (p0.2.2<p1.2.2) then
   (AD p0 p1).bind fun a1=>
   some (a1,true)
  else
   some ((0,0),false)
def aMZ:bF:=⟨aB.cons (aG.agg (bY.row eS)) (aB.cons (aG.agg (bY.row eS)) (aB.one (aG.agg (bY.row gU)))),aG.tup (aB.cons (aG.agg (bY.row gU)) (aB.one aG.bool)),fun a=>pP a.1 a.2.1 a.2.2,.pure,false⟩
theorem aFs:aF aT 174 aMZ:=Oc aDn rfl aC [(176,aFe),(214,aMY)] ⟨MD,aFr,trivial⟩ fun a=>by kernel_rfl
def oZ (p0:Field) (p1:Int×Int) (p2:Int×Int):Option ((Int×Int)×Bool):=
 (fD p0 p1.2).bind fun n0=>
 (aL p0.points n0).bind fun a1=>
 (fD p0 p1.1).bind fun n2=>
 (aL p0.points n2).bind fun a3=>
 (pP a1 a3 p2).bind fun a4=>
 some a4
def aFt:bF:=⟨aB.cons (aG.agg cF) (aB.cons (aG.agg (bY.row gU)) (aB.one (aG.agg (bY.row gU)))),aG.tup (aB.cons (aG.agg (bY.row gU)) (aB.one aG.bool)),fun a=>oZ a.1 a.2.1 a.2.2,.pure,false⟩
theorem MJ:aF aT 124 aFt:=Oc aCF rfl aC [(64,c64),(174,aMZ)] ⟨IV,aFs,trivial⟩ fun a=>by kernel_rfl
def DY (c0:(Int×(List Int)×(List Bool)×(List Int)×(List (Int×Int×Int×Int×Int))×(List Int))) (s:(Int×(List Int)×(List Bool)×(List Int)×(List (Int×Int×Int×Int×Int))×(List Int))):Option (bH (Int×(List Int)×(List Bool)×(List Int)×(List (Int×Int×Int×Int×Int))×(List Int)) (Int×(List Int)×(List Bool)×(List Int)×(List (Int×Int×Int×Int×Int))×(List Int))):=
 bif decide (0<s.1) then
  (aL s.2.2.2.2.1 s.1).bind fun a0=>
  (aL s.2.2.2.2.1 (aA .i64 (Int.tdiv (aA .i64 (s.1-1)) 2))).bind fun a1=>
  (dE a0 a1).bind fun b2=>
  bif b2 then
   (gD (s.1,aA .i64 (Int.tdiv (aA .i64 (s.1-1)) 2),s.2)).bind fun a3=>
   some (.next (aA .i64 (Int.tdiv (aA .i64 (s.1-1)) 2),a3))
  else
   bif s.2.1.length==c0.2.1.length then
    bif s.2.2.1.length==c0.2.2.1.length then
     bif s.2.2.2.1.length==c0.2.2.2.1.length then
      bif s.2.2.2.2.1.length==c0.2.2.2.2.1.length then
       bif s.2.2.2.2.2.length==c0.2.2.2.2.2.length then
        some (.done s)
       else
        none
      else
       none
     else
      none
    else
     none
   else
    none
 else
  bif s.2.1.length==c0.2.1.length then
   bif s.2.2.1.length==c0.2.2.1.length then
    bif s.2.2.2.1.length==c0.2.2.2.1.length then
     bif s.2.2.2.2.1.length==c0.2.2.2.2.1.length then
      bif s.2.2.2.2.2.length==c0.2.2.2.2.2.length then
       some (.done s)
      else
       none
     else
      none
    else
     none
   else
    none
  else
   none
def zF (a:(Int×(List Int)×(List Bool)×(List Int)×(List (Int×Int×Int×Int×Int))×(List Int))):Option (Int×(List Int)×(List Bool)×(List Int)×(List (Int×Int×Int×Int×Int))×(List Int)):=
 aK (DY a) a
def RG:dA:=⟨[.i,.l [.i .i64],.l [.b],.l [.i .i64],.l [.i .i64,.i .i64,.i .i64,.i .i64,.i .i64],.l [.i .i64]],[.agg [.own 0 false,.own 1 false,.own 2 false,.own 3 false,.own 4 false],.int .i64 0],[.arr [.i .i64] [],.arr [.b] [],.arr [.i .i64] [],.arr [.i .i64,.i .i64,.i .i64,.i .i64,.i .i64] [],.arr [.i .i64] []],[.i,.l [.i .i64],.l [.b],.l [.i .i64],.l [.i .i64,.i .i64,.i .i64,.i .i64,.i .i64],.l [.i .i64]],.int .i64 0,[.arr [.i .i64] [],.arr [.b] [],.arr [.i .i64] [],.arr [.i .i64,.i .i64,.i .i64,.i .i64,.i .i64] [],.arr [.i .i64] []],fun a=>zF a⟩
theorem KV:jS aT 223 RG:=jS.of L2 (wd:=false) (cx:=(mV aC [(173,RE)] [(220,CH),(220,CI)] [] [])) (jY.make ⟨AC,trivial⟩ ⟨rQ,rR,trivial⟩ trivial) (fun a=>by kernel_rfl)
def AU (c0:(Int×(List Int)×(List Bool)×(List Int)×(List (Int×Int×Int×Int×Int))×(List Int))) (s:(Int×(List Int)×(List Bool)×(List Int)×(List (Int×Int×Int×Int×Int))×(List Int))):Option (bH (Int×(List Int)×(List Bool)×(List Int)×(List (Int×Int×Int×Int×Int))×(List Int)) ((List Int)×(List Bool)×(List Int)×(List (Int×Int×Int×Int×Int))×(List Int))):=
 bif decide ((Int.ofNat s.2.2.2.2.1.length)<=(aA .i64 ((aA .i64 (2*s.1))+1))) then
  bif s.2.1.length==c0.2.1.length then
   bif s.2.2.1.length==c0.2.2.1.length then
    bif s.2.2.2.1.length==c0.2.2.2.1.length then
     bif s.2.2.2.2.1.length==c0.2.2.2.2.1.length then
      bif s.2.2.2.2.2.length==c0.2.2.2.2.2.length then
       some (.done s.2)
      else
       none
     else
      none
    else
     none
   else
    none
  else
   none
 else
  bif decide ((aA .i64 ((aA .i64 ((aA .i64 (2*s.1))+1))+1))<(Int.ofNat s.2.2.2.2.1.length)) then
   (aL s.2.2.2.2.1 (aA .i64 ((aA .i64 ((aA .i64 (2*s.1))+1))+1))).bind fun a0=>
   (aL s.2.2.2.2.1 (aA .i64 ((aA .i64 (2*s.1))+1))).bind fun a1=>
   (dE a0 a1).bind fun b2=>
   bif b2 then
    (aL s.2.2.2.2.1 (aA .i64 ((aA .i64 ((aA .i64 (2*s.1))+1))+1))).bind fun a3=>
    (aL s.2.2.2.2.1 s.1).bind fun a4=>
    (dE a3 a4).bind fun b5=>
    bif !b5 then
     bif s.2.1.length==c0.2.1.length then
      bif s.2.2.1.length==c0.2.2.1.length then
       bif s.2.2.2.1.length==c0.2.2.2.1.length then
        bif s.2.2.2.2.1.length==c0.2.2.2.2.1.length then
         bif s.2.2.2.2.2.length==c0.2.2.2.2.2.length then
          some (.done s.2)
         else
          none
        else
         none
       else
        none
      else
       none
     else
      none
    else
     (gD (s.1,aA .i64 ((aA .i64 ((aA .i64 (2*s.1))+1))+1),s.2)).bind fun a6=>
     some (.next (aA .i64 ((aA .i64 ((aA .i64 (2*s.1))+1))+1),a6))
   else
    (aL s.2.2.2.2.1 (aA .i64 ((aA .i64 (2*s.1))+1))).bind fun a7=>
    (aL s.2.2.2.2.1 s.1).bind fun a8=>
    (dE a7 a8).bind fun b9=>
    bif !b9 then
     bif s.2.1.length==c0.2.1.length then
      bif s.2.2.1.length==c0.2.2.1.length then
       bif s.2.2.2.1.length==c0.2.2.2.1.length then
        bif s.2.2.2.2.1.length==c0.2.2.2.2.1.length then
         bif s.2.2.2.2.2.length==c0.2.2.2.2.2.length then
          some (.done s.2)
         else
          none
        else
         none
       else
        none
      else
       none
     else
      none
    else
     (gD (s.1,aA .i64 ((aA .i64 (2*s.1))+1),s.2)).bind fun a10=>
     some (.next (aA .i64 ((aA .i64 (2*s.1))+1),a10))
  else
   (aL s.2.2.2.2.1 (aA .i64 ((aA .i64 (2*s.1))+1))).bind fun a11=>
   (aL s.2.2.2.2.1 s.1).bind fun a12=>
   (dE a11 a12).bind fun b13=>
   bif !b13 then
    bif s.2.1.length==c0.2.1.length then
     bif s.2.2.1.length==c0.2.2.1.length then
      bif s.2.2.2.1.length==c0.2.2.2.1.length then
       bif s.2.2.2.2.1.length==c0.2.2.2.2.1.length then
        bif s.2.2.2.2.2.length==c0.2.2.2.2.2.length then
         some (.done s.2)
        else
         none
       else
        none
      else
       none
     else
      none
    else
     none
   else
    (gD (s.1,aA .i64 ((aA .i64 (2*s.1))+1),s.2)).bind fun a14=>
    some (.next (aA .i64 ((aA .i64 (2*s.1))+1),a14))
def vF (a:(Int×(List Int)×(List Bool)×(List Int)×(List (Int×Int×Int×Int×Int))×(List Int))):Option ((List Int)×(List Bool)×(List Int)×(List (Int×Int×Int×Int×Int))×(List Int)):=
 aK (AU a) a
def YD:dA:=⟨[.i,.l [.i .i64],.l [.b],.l [.i .i64],.l [.i .i64,.i .i64,.i .i64,.i .i64,.i .i64],.l [.i .i64]],[.agg [.own 0 false,.own 1 false,.own 2 false,.own 3 false,.own 4 false],.int .i64 0],[.arr [.i .i64] [],.arr [.b] [],.arr [.i .i64] [],.arr [.i .i64,.i .i64,.i .i64,.i .i64,.i .i64] [],.arr [.i .i64] []],[.l [.i .i64],.l [.b],.l [.i .i64],.l [.i .i64,.i .i64,.i .i64,.i .i64,.i .i64],.l [.i .i64]],.tup [],[.arr [.i .i64] [],.arr [.b] [],.arr [.i .i64] [],.arr [.i .i64,.i .i64,.i .i64,.i .i64,.i .i64] [],.arr [.i .i64] []],fun a=>vF a⟩
theorem VJ:jS aT 222 YD:=jS.of TH (wd:=false) (cx:=(mV aC [(173,RE)] [(220,CH),(220,CI)] [] [])) (jY.make ⟨AC,trivial⟩ ⟨rQ,rR,trivial⟩ trivial) (fun a=>by kernel_rfl)
def BB (p0:aJ) (p1:Int×Int) (p2:Int×Int):Option aJ:=
 (kL p0).bind fun r0=>
 (aL r0.where_ p1.1).bind fun n1=>
 (aL r0.heap n1).bind fun a2=>
 (zF (n1,r0.slots.uses,r0.slots.used,r0.slots.free,cD r0.heap n1 (p2.1,p2.2,a2.2.2),r0.where_)).bind fun a3=>
 (vF a3).bind fun a4=>
 some (aJ.mk (aR.mk a4.1 a4.2.1 a4.2.2.1) a4.2.2.2.1 a4.2.2.2.2)
def aM0:bF:=⟨aB.cons (aG.agg bV) (aB.cons (aG.agg (bY.row gU)) (aB.one (aG.agg (bY.row gU)))),aG.agg bV,fun a=>BB a.1 a.2.1 a.2.2,.frz,false⟩
theorem aFu:aF aT 190 aM0:=aF.of aDA (cx:=(mV aC [(74,c74),(74,VI)] [(223,MI),(222,RF),(223,RG),(222,YD)] [] [])) rfl (jY.make ⟨IX,DW,trivial⟩ ⟨E5,KU,KV,VJ,trivial⟩ trivial) (fun a=>by kernel_rfl)
def eT (p0:aR):Option Bool:=
 bif decide (0<(Int.ofNat p0.free.length)) then
  (aL p0.free (aA .i64 ((Int.ofNat p0.free.length) -1))).bind fun n0=>
  (aL p0.uses n0).bind fun n1=>
  some (decide (n1<1000000))
 else
  some false
def aK0:bF:=⟨aB.one (aG.agg dW),aG.bool,fun a=>eT a,.pure,false⟩
theorem T2:aF aT 191 aK0:=Oc aDB rfl aC [] trivial fun a=>by kernel_rfl
def tV (p0:aR):Option (aR×(Int×Int)):=
 (mC p0).bind fun r0=>
 (aL r0.free (aA .i64 ((Int.ofNat r0.free.length) -1))).bind fun n1=>
 (jJ r0.free 0 (aA .i64 ((Int.ofNat r0.free.length) -1))).bind fun _=>
 (aL r0.uses n1).bind fun n3=>
 (aL r0.uses n1).bind fun _=>
 (aL r0.used n1).bind fun _=>
 (aL (cD r0.uses n1 (aA .i64 (n3+1))) n1).bind fun n6=>
 some (aR.mk (cD r0.uses n1 (aA .i64 (n3+1))) (cD r0.used n1 true) (r0.free.take ((aA .i64 ((Int.ofNat r0.free.length) -1)).toNat)),n1,n6)
def aM1:bF:=⟨aB.one (aG.agg dW),aG.tup (aB.cons (aG.agg dW) (aB.one (aG.agg (bY.row gU)))),fun a=>tV a,.frz,false⟩
theorem aFv:aF aT 224 aM1:=Oc aD2 rfl aC [(133,YA),(133,O8)] ⟨GL,DV,trivial⟩ fun a=>by kernel_rfl
def kX (a:((List Int)×(List Bool)×(List Int)×Int×Int×(List (Int×Int×Int×Int×Int))×(List Int))):Option ((List (Int×Int×Int×Int×Int))×(List Int)):=
 (aL a.2.2.2.2.2.1 a.2.2.2.2.1).bind fun a0=>
 (aL a.2.2.2.2.2.1 a.2.2.2.1).bind fun a1=>
 (aL a.2.2.2.2.2.1 a.2.2.2.1).bind fun _=>
 (aL (cD a.2.2.2.2.2.1 a.2.2.2.1 a0) a.2.2.2.2.1).bind fun _=>
 (aL (cD (cD a.2.2.2.2.2.1 a.2.2.2.1 a0) a.2.2.2.2.1 a1) a.2.2.2.1).bind fun a4=>
 (aL (cD (cD a.2.2.2.2.2.1 a.2.2.2.1 a0) a.2.2.2.2.1 a1) a.2.2.2.2.1).bind fun a5=>
 (aL a.2.2.2.2.2.2 a4.2.2.2.1).bind fun _=>
 (aL (cD a.2.2.2.2.2.2 a4.2.2.2.1 a.2.2.2.1) a5.2.2.2.1).bind fun _=>
 bif ((cD (cD a.2.2.2.2.2.1 a.2.2.2.1 a0) a.2.2.2.2.1 a1).length)==a.2.2.2.2.2.1.length then
  bif ((cD (cD a.2.2.2.2.2.2 a4.2.2.2.1 a.2.2.2.1) a5.2.2.2.1 a.2.2.2.2.1).length)==a.2.2.2.2.2.2.length then
   some (cD (cD a.2.2.2.2.2.1 a.2.2.2.1 a0) a.2.2.2.2.1 a1,cD (cD a.2.2.2.2.2.2 a4.2.2.2.1 a.2.2.2.1) a5.2.2.2.1 a.2.2.2.2.1)
  else
   none
 else
  none
def YE:dA:=⟨[.l [.i .i64],.l [.b],.l [.i .i64],.i,.i,.l [.i .i64,.i .i64,.i .i64,.i .i64,.i .i64],.l [.i .i64]],[.agg [.sl [.i .i64] [],.sl [.b] [],.sl [.i .i64] [],.own 0 false,.own 1 false],.int .i64 0,.int .i64 0],[.arr [.i .i64,.i .i64,.i .i64,.i .i64,.i .i64] [],.arr [.i .i64] []],[.l [.i .i64,.i .i64,.i .i64,.i .i64,.i .i64],.l [.i .i64]],.tup [],[.arr [.i .i64,.i .i64,.i .i64,.i .i64,.i .i64] [],.arr [.i .i64] []],fun a=>kX a⟩
theorem VK:jS aT 220 YE:=jS.of L1 (wd:=false) (cx:=(mV aC [] [] [] [])) (jY.make trivial trivial trivial) (fun a=>by kernel_rfl)
def fL (c0:((List Int)×(List Bool)×(List Int)×Int×(List (Int×Int×Int×Int×Int))×(List Int))) (s:(Int×(List (Int×Int×Int×Int×Int))×(List Int)×(List Int)×(List Bool)×(List Int))):Option (bH (Int×(List (Int×Int×Int×Int×Int))×(List Int)×(List Int)×(List Bool)×(List Int)) (Int×(List (Int×Int×Int×Int×Int))×(List Int))):=
 bif decide (0<s.1) then
  (aL s.2.1 s.1).bind fun a0=>
  (aL s.2.1 (aA .i64 (Int.tdiv (aA .i64 (s.1-1)) 2))).bind fun a1=>
  (dE a0 a1).bind fun b2=>
  bif b2 then
   (kX (s.2.2.2.1,s.2.2.2.2.1,s.2.2.2.2.2,s.1,aA .i64 (Int.tdiv (aA .i64 (s.1-1)) 2),s.2.1,s.2.2.1)).bind fun a3=>
   some (.next (aA .i64 (Int.tdiv (aA .i64 (s.1-1)) 2),a3.1,a3.2,s.2.2.2))
  else
   bif s.2.1.length==c0.2.2.2.2.1.length then
    bif s.2.2.1.length==c0.2.2.2.2.2.length then
     some (.done (s.1,s.2.1,s.2.2.1))
    else
     none
   else
    none
 else
  bif s.2.1.length==c0.2.2.2.2.1.length then
   bif s.2.2.1.length==c0.2.2.2.2.2.length then
    some (.done (s.1,s.2.1,s.2.2.1))
   else
    none
  else
   none
def nL (a:((List Int)×(List Bool)×(List Int)×Int×(List (Int×Int×Int×Int×Int))×(List Int))):Option (Int×(List (Int×Int×Int×Int×Int))×(List Int)):=
 aK (fL a) (a.2.2.2.1,a.2.2.2.2.1,a.2.2.2.2.2,a.1,a.2.1,a.2.2.1)
def YF:dA:=⟨[.l [.i .i64],.l [.b],.l [.i .i64],.i,.l [.i .i64,.i .i64,.i .i64,.i .i64,.i .i64],.l [.i .i64]],[.agg [.sl [.i .i64] [],.sl [.b] [],.sl [.i .i64] [],.own 0 false,.own 1 false],.int .i64 0],[.arr [.i .i64,.i .i64,.i .i64,.i .i64,.i .i64] [],.arr [.i .i64] []],[.i,.l [.i .i64,.i .i64,.i .i64,.i .i64,.i .i64],.l [.i .i64]],.int .i64 0,[.arr [.i .i64,.i .i64,.i .i64,.i .i64,.i .i64] [],.arr [.i .i64] []],fun a=>nL a⟩
theorem VL:jS aT 223 YF:=jS.of L2 (wd:=true) (cx:=(mV aC [(173,RE)] [(220,CH),(220,CI),(220,YE)] [] [])) (jY.make ⟨AC,trivial⟩ ⟨rQ,rR,VK,trivial⟩ trivial) (fun a=>by kernel_rfl)
def dI (p0:aJ) (p1:Int×Int) (p2:Int):Option (aJ×(Int×Int)):=
 (kL p0).bind fun r0=>
 (tV r0.slots).bind fun a1=>
 (bM r0.heap [(p1.1,p1.2,p2,a1.2)]).bind fun l2=>
 (aL r0.where_ a1.2.1).bind fun _=>
 (nL (a1.1.uses,a1.1.used,a1.1.free,aA .i64 ((Int.ofNat l2.length) -1),l2,cD r0.where_ a1.2.1 (aA .i64 ((Int.ofNat l2.length) -1)))).bind fun a4=>
 some (aJ.mk a1.1 a4.2.1 a4.2.2,a1.2)
def aK1:bF:=⟨aB.cons (aG.agg bV) (aB.cons (aG.agg (bY.row gU)) (aB.one (aG.int .i64))),aG.tup (aB.cons (aG.agg bV) (aB.one (aG.agg (bY.row gU)))),fun a=>dI a.1 a.2.1 a.2.2,.frz,false⟩
theorem T3:aF aT 192 aK1:=aF.of aDC (cx:=(mV aC [(74,c74),(74,VI),(224,aM1)] [(223,MI),(223,RG),(223,YF)] [] [])) rfl (jY.make ⟨IX,DW,aFv,trivial⟩ ⟨E5,KV,VL,trivial⟩ trivial) (fun a=>by kernel_rfl)
def E6 (s:(Int×Int×Int×(List (Int×Int×Int))×Int×(List (Int×Int×Int))×(List Int)×(List Bool)×(List Int)×(List (Int×Int×Int×Int×Int))×(List Int)×(List (Int×Int×Int))×(List (Int×Int×Int))×Int×Int×Int×Int×Int×(List (Int×Int×Int))×Int×(List (Int×Int×Int))×(List Int)×(List Bool)×(List Int)×(List (Int×Int×Int×Int×Int))×(List Int)×(List (Int×Int×Int)))):Option (bH (Int×Int×Int×(List (Int×Int×Int))×Int×(List (Int×Int×Int))×(List Int)×(List Bool)×(List Int)×(List (Int×Int×Int×Int×Int))×(List Int)×(List (Int×Int×Int))×(List (Int×Int×Int))×Int×Int×Int×Int×Int×(List (Int×Int×Int))×Int×(List (Int×Int×Int))×(List Int)×(List Bool)×(List Int)×(List (Int×Int×Int×Int×Int))×(List Int)×(List (Int×Int×Int))) (aO×Int)):=
 bif decide (s.1<(Int.ofNat s.2.2.2.2.2.1.length)) then
  (aL s.2.2.2.2.2.1 s.1).bind fun a0=>
  (zD (aO.mk (s.2.1,s.2.2.1) (Field.mk s.2.2.2.1) (aW.mk s.2.2.2.2.1 s.2.2.2.2.2.1) (aJ.mk (aR.mk s.2.2.2.2.2.2.1 s.2.2.2.2.2.2.2.1 s.2.2.2.2.2.2.2.2.1) s.2.2.2.2.2.2.2.2.2.1 s.2.2.2.2.2.2.2.2.2.2.1) s.2.2.2.2.2.2.2.2.2.2.2.1) a0.1).bind fun n1=>
  (oZ (Field.mk s.2.2.2.2.2.2.2.2.2.2.2.2.1) a0.2 (s.2.1,s.2.2.1)).bind fun a2=>
  bif a2.2 then
   bif decide (0<=n1) then
    (aL s.2.2.2.2.2.2.2.2.2.2.2.1 n1).bind fun a3=>
    (BB (aJ.mk (aR.mk s.2.2.2.2.2.2.2.2.2.2.2.2.2.2.2.2.2.2.2.2.2.1 s.2.2.2.2.2.2.2.2.2.2.2.2.2.2.2.2.2.2.2.2.2.2.1 s.2.2.2.2.2.2.2.2.2.2.2.2.2.2.2.2.2.2.2.2.2.2.2.1) s.2.2.2.2.2.2.2.2.2.2.2.2.2.2.2.2.2.2.2.2.2.2.2.2.1 s.2.2.2.2.2.2.2.2.2.2.2.2.2.2.2.2.2.2.2.2.2.2.2.2.2.1) a3.2 a2.1).bind fun r4=>
    (aL s.2.2.2.2.2.2.2.2.2.2.2.1 n1).bind fun a5=>
    (bM s.2.2.2.2.2.2.2.2.2.2.2.2.2.2.2.2.2.2.2.2.2.2.2.2.2.2 [a5]).bind fun l6=>
    bif !a2.2 then
     bif decide (0<=n1) then
      (aL s.2.2.2.2.2.2.2.2.2.2.2.1 n1).bind fun a7=>
      (lN r4 a7.2).bind fun r8=>
      bif !a2.2 then
       some (.next (aA .i64 (s.1+1),s.2.1,s.2.2.1,s.2.2.2.1,s.2.2.2.2.1,s.2.2.2.2.2.1,s.2.2.2.2.2.2.1,s.2.2.2.2.2.2.2.1,s.2.2.2.2.2.2.2.2.1,s.2.2.2.2.2.2.2.2.2.1,s.2.2.2.2.2.2.2.2.2.2.1,s.2.2.2.2.2.2.2.2.2.2.2.1,s.2.2.2.2.2.2.2.2.2.2.2.2.1,s.2.2.2.2.2.2.2.2.2.2.2.2.2.1,s.2.2.2.2.2.2.2.2.2.2.2.2.2.2.1,s.2.2.2.2.2.2.2.2.2.2.2.2.2.2.2.1,s.2.2.2.2.2.2.2.2.2.2.2.2.2.2.2.2.1,s.2.2.2.2.2.2.2.2.2.2.2.2.2.2.2.2.2.1,s.2.2.2.2.2.2.2.2.2.2.2.2.2.2.2.2.2.2.1,s.2.2.2.2.2.2.2.2.2.2.2.2.2.2.2.2.2.2.2.1,s.2.2.2.2.2.2.2.2.2.2.2.2.2.2.2.2.2.2.2.2.1,r8.slots.uses,r8.slots.used,r8.slots.free,r8.heap,r8.where_,l6))
      else
       bif decide (0<=n1) then
        some (.next (aA .i64 (s.1+1),s.2.1,s.2.2.1,s.2.2.2.1,s.2.2.2.2.1,s.2.2.2.2.2.1,s.2.2.2.2.2.2.1,s.2.2.2.2.2.2.2.1,s.2.2.2.2.2.2.2.2.1,s.2.2.2.2.2.2.2.2.2.1,s.2.2.2.2.2.2.2.2.2.2.1,s.2.2.2.2.2.2.2.2.2.2.2.1,s.2.2.2.2.2.2.2.2.2.2.2.2.1,s.2.2.2.2.2.2.2.2.2.2.2.2.2.1,s.2.2.2.2.2.2.2.2.2.2.2.2.2.2.1,s.2.2.2.2.2.2.2.2.2.2.2.2.2.2.2.1,s.2.2.2.2.2.2.2.2.2.2.2.2.2.2.2.2.1,s.2.2.2.2.2.2.2.2.2.2.2.2.2.2.2.2.2.1,s.2.2.2.2.2.2.2.2.2.2.2.2.2.2.2.2.2.2.1,s.2.2.2.2.2.2.2.2.2.2.2.2.2.2.2.2.2.2.2.1,s.2.2.2.2.2.2.2.2.2.2.2.2.2.2.2.2.2.2.2.2.1,r8.slots.uses,r8.slots.used,r8.slots.free,r8.heap,r8.where_,l6))
       else
        (eT r8.slots).bind fun b9=>
        bif !b9 then
         some (.done (aO.mk (0,0) (Field.mk []) (aW.mk 0 []) (aJ.mk (aR.mk [] [] []) [] []) [],18))
        else
         (dI r8 a2.1 a0.1).bind fun a10=>
         (bM l6 [(a0.1,a10.2)]).bind fun l11=>
         some (.next (aA .i64 (s.1+1),s.2.1,s.2.2.1,s.2.2.2.1,s.2.2.2.2.1,s.2.2.2.2.2.1,s.2.2.2.2.2.2.1,s.2.2.2.2.2.2.2.1,s.2.2.2.2.2.2.2.2.1,s.2.2.2.2.2.2.2.2.2.1,s.2.2.2.2.2.2.2.2.2.2.1,s.2.2.2.2.2.2.2.2.2.2.2.1,s.2.2.2.2.2.2.2.2.2.2.2.2.1,s.2.2.2.2.2.2.2.2.2.2.2.2.2.1,s.2.2.2.2.2.2.2.2.2.2.2.2.2.2.1,s.2.2.2.2.2.2.2.2.2.2.2.2.2.2.2.1,s.2.2.2.2.2.2.2.2.2.2.2.2.2.2.2.2.1,s.2.2.2.2.2.2.2.2.2.2.2.2.2.2.2.2.2.1,s.2.2.2.2.2.2.2.2.2.2.2.2.2.2.2.2.2.2.1,s.2.2.2.2.2.2.2.2.2.2.2.2.2.2.2.2.2.2.2.1,s.2.2.2.2.2.2.2.2.2.2.2.2.2.2.2.2.2.2.2.2.1,a10.1.slots.uses,a10.1.slots.used,a10.1.slots.free,a10.1.heap,a10.1.where_,l11))
     else
      bif !a2.2 then
       some (.next (aA .i64 (s.1+1),s.2.1,s.2.2.1,s.2.2.2.1,s.2.2.2.2.1,s.2.2.2.2.2.1,s.2.2.2.2.2.2.1,s.2.2.2.2.2.2.2.1,s.2.2.2.2.2.2.2.2.1,s.2.2.2.2.2.2.2.2.2.1,s.2.2.2.2.2.2.2.2.2.2.1,s.2.2.2.2.2.2.2.2.2.2.2.1,s.2.2.2.2.2.2.2.2.2.2.2.2.1,s.2.2.2.2.2.2.2.2.2.2.2.2.2.1,s.2.2.2.2.2.2.2.2.2.2.2.2.2.2.1,s.2.2.2.2.2.2.2.2.2.2.2.2.2.2.2.1,s.2.2.2.2.2.2.2.2.2.2.2.2.2.2.2.2.1,s.2.2.2.2.2.2.2.2.2.2.2.2.2.2.2.2.2.1,s.2.2.2.2.2.2.2.2.2.2.2.2.2.2.2.2.2.2.1,s.2.2.2.2.2.2.2.2.2.2.2.2.2.2.2.2.2.2.2.1,s.2.2.2.2.2.2.2.2.2.2.2.2.2.2.2.2.2.2.2.2.1,r4.slots.uses,r4.slots.used,r4.slots.free,r4.heap,r4.where_,l6))
      else
       bif decide (0<=n1) then
        some (.next (aA .i64 (s.1+1),s.2.1,s.2.2.1,s.2.2.2.1,s.2.2.2.2.1,s.2.2.2.2.2.1,s.2.2.2.2.2.2.1,s.2.2.2.2.2.2.2.1,s.2.2.2.2.2.2.2.2.1,s.2.2.2.2.2.2.2.2.2.1,s.2.2.2.2.2.2.2.2.2.2.1,s.2.2.2.2.2.2.2.2.2.2.2.1,s.2.2.2.2.2.2.2.2.2.2.2.2.1,s.2.2.2.2.2.2.2.2.2.2.2.2.2.1,s.2.2.2.2.2.2.2.2.2.2.2.2.2.2.1,s.2.2.2.2.2.2.2.2.2.2.2.2.2.2.2.1,s.2.2.2.2.2.2.2.2.2.2.2.2.2.2.2.2.1,s.2.2.2.2.2.2.2.2.2.2.2.2.2.2.2.2.2.1,s.2.2.2.2.2.2.2.2.2.2.2.2.2.2.2.2.2.2.1,s.2.2.2.2.2.2.2.2.2.2.2.2.2.2.2.2.2.2.2.1,s.2.2.2.2.2.2.2.2.2.2.2.2.2.2.2.2.2.2.2.2.1,r4.slots.uses,r4.slots.used,r4.slots.free,r4.heap,r4.where_,l6))
       else
        (eT r4.slots).bind fun b12=>
        bif !b12 then
         some (.done (aO.mk (0,0) (Field.mk []) (aW.mk 0 []) (aJ.mk (aR.mk [] [] []) [] []) [],18))
        else
         (dI r4 a2.1 a0.1).bind fun a13=>
         (bM l6 [(a0.1,a13.2)]).bind fun l14=>
         some (.next (aA .i64 (s.1+1),s.2.1,s.2.2.1,s.2.2.2.1,s.2.2.2.2.1,s.2.2.2.2.2.1,s.2.2.2.2.2.2.1,s.2.2.2.2.2.2.2.1,s.2.2.2.2.2.2.2.2.1,s.2.2.2.2.2.2.2.2.2.1,s.2.2.2.2.2.2.2.2.2.2.1,s.2.2.2.2.2.2.2.2.2.2.2.1,s.2.2.2.2.2.2.2.2.2.2.2.2.1,s.2.2.2.2.2.2.2.2.2.2.2.2.2.1,s.2.2.2.2.2.2.2.2.2.2.2.2.2.2.1,s.2.2.2.2.2.2.2.2.2.2.2.2.2.2.2.1,s.2.2.2.2.2.2.2.2.2.2.2.2.2.2.2.2.1,s.2.2.2.2.2.2.2.2.2.2.2.2.2.2.2.2.2.1,s.2.2.2.2.2.2.2.2.2.2.2.2.2.2.2.2.2.2.1,s.2.2.2.2.2.2.2.2.2.2.2.2.2.2.2.2.2.2.2.1,s.2.2.2.2.2.2.2.2.2.2.2.2.2.2.2.2.2.2.2.2.1,a13.1.slots.uses,a13.1.slots.used,a13.1.slots.free,a13.1.heap,a13.1.where_,l14))
    else
     bif !a2.2 then
      some (.next (aA .i64 (s.1+1),s.2.1,s.2.2.1,s.2.2.2.1,s.2.2.2.2.1,s.2.2.2.2.2.1,s.2.2.2.2.2.2.1,s.2.2.2.2.2.2.2.1,s.2.2.2.2.2.2.2.2.1,s.2.2.2.2.2.2.2.2.2.1,s.2.2.2.2.2.2.2.2.2.2.1,s.2.2.2.2.2.2.2.2.2.2.2.1,s.2.2.2.2.2.2.2.2.2.2.2.2.1,s.2.2.2.2.2.2.2.2.2.2.2.2.2.1,s.2.2.2.2.2.2.2.2.2.2.2.2.2.2.1,s.2.2.2.2.2.2.2.2.2.2.2.2.2.2.2.1,s.2.2.2.2.2.2.2.2.2.2.2.2.2.2.2.2.1,s.2.2.2.2.2.2.2.2.2.2.2.2.2.2.2.2.2.1,s.2.2.2.2.2.2.2.2.2.2.2.2.2.2.2.2.2.2.1,s.2.2.2.2.2.2.2.2.2.2.2.2.2.2.2.2.2.2.2.1,s.2.2.2.2.2.2.2.2.2.2.2.2.2.2.2.2.2.2.2.2.1,r4.slots.uses,r4.slots.used,r4.slots.free,r4.heap,r4.where_,l6))
     else
      bif decide (0<=n1) then
       some (.next (aA .i64 (s.1+1),s.2.1,s.2.2.1,s.2.2.2.1,s.2.2.2.2.1,s.2.2.2.2.2.1,s.2.2.2.2.2.2.1,s.2.2.2.2.2.2.2.1,s.2.2.2.2.2.2.2.2.1,s.2.2.2.2.2.2.2.2.2.1,s.2.2.2.2.2.2.2.2.2.2.1,s.2.2.2.2.2.2.2.2.2.2.2.1,s.2.2.2.2.2.2.2.2.2.2.2.2.1,s.2.2.2.2.2.2.2.2.2.2.2.2.2.1,s.2.2.2.2.2.2.2.2.2.2.2.2.2.2.1,s.2.2.2.2.2.2.2.2.2.2.2.2.2.2.2.1,s.2.2.2.2.2.2.2.2.2.2.2.2.2.2.2.2.1,s.2.2.2.2.2.2.2.2.2.2.2.2.2.2.2.2.2.1,s.2.2.2.2.2.2.2.2.2.2.2.2.2.2.2.2.2.2.1,s.2.2.2.2.2.2.2.2.2.2.2.2.2.2.2.2.2.2.2.1,s.2.2.2.2.2.2.2.2.2.2.2.2.2.2.2.2.2.2.2.2.1,r4.slots.uses,r4.slots.used,r4.slots.free,r4.heap,r4.where_,l6))
      else
       (eT r4.slots).bind fun b15=>
       bif !b15 then
        some (.done (aO.mk (0,0) (Field.mk []) (aW.mk 0 []) (aJ.mk (aR.mk [] [] []) [] []) [],18))
       else
        (dI r4 a2.1 a0.1).bind fun a16=>
        (bM l6 [(a0.1,a16.2)]).bind fun l17=>
        some (.next (aA .i64 (s.1+1),s.2.1,s.2.2.1,s.2.2.2.1,s.2.2.2.2.1,s.2.2.2.2.2.1,s.2.2.2.2.2.2.1,s.2.2.2.2.2.2.2.1,s.2.2.2.2.2.2.2.2.1,s.2.2.2.2.2.2.2.2.2.1,s.2.2.2.2.2.2.2.2.2.2.1,s.2.2.2.2.2.2.2.2.2.2.2.1,s.2.2.2.2.2.2.2.2.2.2.2.2.1,s.2.2.2.2.2.2.2.2.2.2.2.2.2.1,s.2.2.2.2.2.2.2.2.2.2.2.2.2.2.1,s.2.2.2.2.2.2.2.2.2.2.2.2.2.2.2.1,s.2.2.2.2.2.2.2.2.2.2.2.2.2.2.2.2.1,s.2.2.2.2.2.2.2.2.2.2.2.2.2.2.2.2.2.1,s.2.2.2.2.2.2.2.2.2.2.2.2.2.2.2.2.2.2.1,s.2.2.2.2.2.2.2.2.2.2.2.2.2.2.2.2.2.2.2.1,s.2.2.2.2.2.2.2.2.2.2.2.2.2.2.2.2.2.2.2.2.1,a16.1.slots.uses,a16.1.slots.used,a16.1.slots.free,a16.1.heap,a16.1.where_,l17))
   else
    bif !a2.2 then
     bif decide (0<=n1) then
      (aL s.2.2.2.2.2.2.2.2.2.2.2.1 n1).bind fun a18=>
      (lN (aJ.mk (aR.mk s.2.2.2.2.2.2.2.2.2.2.2.2.2.2.2.2.2.2.2.2.2.1 s.2.2.2.2.2.2.2.2.2.2.2.2.2.2.2.2.2.2.2.2.2.2.1 s.2.2.2.2.2.2.2.2.2.2.2.2.2.2.2.2.2.2.2.2.2.2.2.1) s.2.2.2.2.2.2.2.2.2.2.2.2.2.2.2.2.2.2.2.2.2.2.2.2.1 s.2.2.2.2.2.2.2.2.2.2.2.2.2.2.2.2.2.2.2.2.2.2.2.2.2.1) a18.2).bind fun r19=>
      bif !a2.2 then
       some (.next (aA .i64 (s.1+1),s.2.1,s.2.2.1,s.2.2.2.1,s.2.2.2.2.1,s.2.2.2.2.2.1,s.2.2.2.2.2.2.1,s.2.2.2.2.2.2.2.1,s.2.2.2.2.2.2.2.2.1,s.2.2.2.2.2.2.2.2.2.1,s.2.2.2.2.2.2.2.2.2.2.1,s.2.2.2.2.2.2.2.2.2.2.2.1,s.2.2.2.2.2.2.2.2.2.2.2.2.1,s.2.2.2.2.2.2.2.2.2.2.2.2.2.1,s.2.2.2.2.2.2.2.2.2.2.2.2.2.2.1,s.2.2.2.2.2.2.2.2.2.2.2.2.2.2.2.1,s.2.2.2.2.2.2.2.2.2.2.2.2.2.2.2.2.1,s.2.2.2.2.2.2.2.2.2.2.2.2.2.2.2.2.2.1,s.2.2.2.2.2.2.2.2.2.2.2.2.2.2.2.2.2.2.1,s.2.2.2.2.2.2.2.2.2.2.2.2.2.2.2.2.2.2.2.1,s.2.2.2.2.2.2.2.2.2.2.2.2.2.2.2.2.2.2.2.2.1,r19.slots.uses,r19.slots.used,r19.slots.free,r19.heap,r19.where_,s.2.2.2.2.2.2.2.2.2.2.2.2.2.2.2.2.2.2.2.2.2.2.2.2.2.2))
      else
       bif decide (0<=n1) then
        some (.next (aA .i64 (s.1+1),s.2.1,s.2.2.1,s.2.2.2.1,s.2.2.2.2.1,s.2.2.2.2.2.1,s.2.2.2.2.2.2.1,s.2.2.2.2.2.2.2.1,s.2.2.2.2.2.2.2.2.1,s.2.2.2.2.2.2.2.2.2.1,s.2.2.2.2.2.2.2.2.2.2.1,s.2.2.2.2.2.2.2.2.2.2.2.1,s.2.2.2.2.2.2.2.2.2.2.2.2.1,s.2.2.2.2.2.2.2.2.2.2.2.2.2.1,s.2.2.2.2.2.2.2.2.2.2.2.2.2.2.1,s.2.2.2.2.2.2.2.2.2.2.2.2.2.2.2.1,s.2.2.2.2.2.2.2.2.2.2.2.2.2.2.2.2.1,s.2.2.2.2.2.2.2.2.2.2.2.2.2.2.2.2.2.1,s.2.2.2.2.2.2.2.2.2.2.2.2.2.2.2.2.2.2.1,s.2.2.2.2.2.2.2.2.2.2.2.2.2.2.2.2.2.2.2.1,s.2.2.2.2.2.2.2.2.2.2.2.2.2.2.2.2.2.2.2.2.1,r19.slots.uses,r19.slots.used,r19.slots.free,r19.heap,r19.where_,s.2.2.2.2.2.2.2.2.2.2.2.2.2.2.2.2.2.2.2.2.2.2.2.2.2.2))
       else
        (eT r19.slots).bind fun b20=>
        bif !b20 then
         some (.done (aO.mk (0,0) (Field.mk []) (aW.mk 0 []) (aJ.mk (aR.mk [] [] []) [] []) [],18))
        else
         (dI r19 a2.1 a0.1).bind fun a21=>
         (bM s.2.2.2.2.2.2.2.2.2.2.2.2.2.2.2.2.2.2.2.2.2.2.2.2.2.2 [(a0.1,a21.2)]).bind fun l22=>
         some (.next (aA .i64 (s.1+1),s.2.1,s.2.2.1,s.2.2.2.1,s.2.2.2.2.1,s.2.2.2.2.2.1,s.2.2.2.2.2.2.1,s.2.2.2.2.2.2.2.1,s.2.2.2.2.2.2.2.2.1,s.2.2.2.2.2.2.2.2.2.1,s.2.2.2.2.2.2.2.2.2.2.1,s.2.2.2.2.2.2.2.2.2.2.2.1,s.2.2.2.2.2.2.2.2.2.2.2.2.1,s.2.2.2.2.2.2.2.2.2.2.2.2.2.1,s.2.2.2.2.2.2.2.2.2.2.2.2.2.2.1,s.2.2.2.2.2.2.2.2.2.2.2.2.2.2.2.1,s.2.2.2.2.2.2.2.2.2.2.2.2.2.2.2.2.1,s.2.2.2.2.2.2.2.2.2.2.2.2.2.2.2.2.2.1,s.2.2.2.2.2.2.2.2.2.2.2.2.2.2.2.2.2.2.1,s.2.2.2.2.2.2.2.2.2.2.2.2.2.2.2.2.2.2.2.1,s.2.2.2.2.2.2.2.2.2.2.2.2.2.2.2.2.2.2.2.2.1,a21.1.slots.uses,a21.1.slots.used,a21.1.slots.free,a21.1.heap,a21.1.where_,l22))
     else
      bif !a2.2 then
       some (.next (aA .i64 (s.1+1),s.2))
      else
       bif decide (0<=n1) then
        some (.next (aA .i64 (s.1+1),s.2))
       else
        (eT (aR.mk s.2.2.2.2.2.2.2.2.2.2.2.2.2.2.2.2.2.2.2.2.2.1 s.2.2.2.2.2.2.2.2.2.2.2.2.2.2.2.2.2.2.2.2.2.2.1 s.2.2.2.2.2.2.2.2.2.2.2.2.2.2.2.2.2.2.2.2.2.2.2.1)).bind fun b23=>
        bif !b23 then
         some (.done (aO.mk (0,0) (Field.mk []) (aW.mk 0 []) (aJ.mk (aR.mk [] [] []) [] []) [],18))
        else
         (dI (aJ.mk (aR.mk s.2.2.2.2.2.2.2.2.2.2.2.2.2.2.2.2.2.2.2.2.2.1 s.2.2.2.2.2.2.2.2.2.2.2.2.2.2.2.2.2.2.2.2.2.2.1 s.2.2.2.2.2.2.2.2.2.2.2.2.2.2.2.2.2.2.2.2.2.2.2.1) s.2.2.2.2.2.2.2.2.2.2.2.2.2.2.2.2.2.2.2.2.2.2.2.2.1 s.2.2.2.2.2.2.2.2.2.2.2.2.2.2.2.2.2.2.2.2.2.2.2.2.2.1) a2.1 a0.1).bind fun a24=>
         (bM s.2.2.2.2.2.2.2.2.2.2.2.2.2.2.2.2.2.2.2.2.2.2.2.2.2.2 [(a0.1,a24.2)]).bind fun l25=>
         some (.next (aA .i64 (s.1+1),s.2.1,s.2.2.1,s.2.2.2.1,s.2.2.2.2.1,s.2.2.2.2.2.1,s.2.2.2.2.2.2.1,s.2.2.2.2.2.2.2.1,s.2.2.2.2.2.2.2.2.1,s.2.2.2.2.2.2.2.2.2.1,s.2.2.2.2.2.2.2.2.2.2.1,s.2.2.2.2.2.2.2.2.2.2.2.1,s.2.2.2.2.2.2.2.2.2.2.2.2.1,s.2.2.2.2.2.2.2.2.2.2.2.2.2.1,s.2.2.2.2.2.2.2.2.2.2.2.2.2.2.1,s.2.2.2.2.2.2.2.2.2.2.2.2.2.2.2.1,s.2.2.2.2.2.2.2.2.2.2.2.2.2.2.2.2.1,s.2.2.2.2.2.2.2.2.2.2.2.2.2.2.2.2.2.1,s.2.2.2.2.2.2.2.2.2.2.2.2.2.2.2.2.2.2.1,s.2.2.2.2.2.2.2.2.2.2.2.2.2.2.2.2.2.2.2.1,s.2.2.2.2.2.2.2.2.2.2.2.2.2.2.2.2.2.2.2.2.1,a24.1.slots.uses,a24.1.slots.used,a24.1.slots.free,a24.1.heap,a24.1.where_,l25))
    else
     bif !a2.2 then
      some (.next (aA .i64 (s.1+1),s.2))
     else
      bif decide (0<=n1) then
       some (.next (aA .i64 (s.1+1),s.2))
      else
       (eT (aR.mk s.2.2.2.2.2.2.2.2.2.2.2.2.2.2.2.2.2.2.2.2.2.1 s.2.2.2.2.2.2.2.2.2.2.2.2.2.2.2.2.2.2.2.2.2.2.1 s.2.2.2.2.2.2.2.2.2.2.2.2.2.2.2.2.2.2.2.2.2.2.2.1)).bind fun b26=>
       bif !b26 then
        some (.done (aO.mk (0,0) (Field.mk []) (aW.mk 0 []) (aJ.mk (aR.mk [] [] []) [] []) [],18))
       else
        (dI (aJ.mk (aR.mk s.2.2.2.2.2.2.2.2.2.2.2.2.2.2.2.2.2.2.2.2.2.1 s.2.2.2.2.2.2.2.2.2.2.2.2.2.2.2.2.2.2.2.2.2.2.1 s.2.2.2.2.2.2.2.2.2.2.2.2.2.2.2.2.2.2.2.2.2.2.2.1) s.2.2.2.2.2.2.2.2.2.2.2.2.2.2.2.2.2.2.2.2.2.2.2.2.1 s.2.2.2.2.2.2.2.2.2.2.2.2.2.2.2.2.2.2.2.2.2.2.2.2.2.1) a2.1 a0.1).bind fun a27=>
        (bM s.2.2.2.2.2.2.2.2.2.2.2.2.2.2.2.2.2.2.2.2.2.2.2.2.2.2 [(a0.1,a27.2)]).bind fun l28=>
        some (.next (aA .i64 (s.1+1),s.2.1,s.2.2.1,s.2.2.2.1,s.2.2.2.2.1,s.2.2.2.2.2.1,s.2.2.2.2.2.2.1,s.2.2.2.2.2.2.2.1,s.2.2.2.2.2.2.2.2.1,s.2.2.2.2.2.2.2.2.2.1,s.2.2.2.2.2.2.2.2.2.2.1,s.2.2.2.2.2.2.2.2.2.2.2.1,s.2.2.2.2.2.2.2.2.2.2.2.2.1,s.2.2.2.2.2.2.2.2.2.2.2.2.2.1,s.2.2.2.2.2.2.2.2.2.2.2.2.2.2.1,s.2.2.2.2.2.2.2.2.2.2.2.2.2.2.2.1,s.2.2.2.2.2.2.2.2.2.2.2.2.2.2.2.2.1,s.2.2.2.2.2.2.2.2.2.2.2.2.2.2.2.2.2.1,s.2.2.2.2.2.2.2.2.2.2.2.2.2.2.2.2.2.2.1,s.2.2.2.2.2.2.2.2.2.2.2.2.2.2.2.2.2.2.2.1,s.2.2.2.2.2.2.2.2.2.2.2.2.2.2.2.2.2.2.2.2.1,a27.1.slots.uses,a27.1.slots.used,a27.1.slots.free,a27.1.heap,a27.1.where_,l28))
  else
   bif !a2.2 then
    bif decide (0<=n1) then
     (aL s.2.2.2.2.2.2.2.2.2.2.2.1 n1).bind fun a29=>
     (lN (aJ.mk (aR.mk s.2.2.2.2.2.2.2.2.2.2.2.2.2.2.2.2.2.2.2.2.2.1 s.2.2.2.2.2.2.2.2.2.2.2.2.2.2.2.2.2.2.2.2.2.2.1 s.2.2.2.2.2.2.2.2.2.2.2.2.2.2.2.2.2.2.2.2.2.2.2.1) s.2.2.2.2.2.2.2.2.2.2.2.2.2.2.2.2.2.2.2.2.2.2.2.2.1 s.2.2.2.2.2.2.2.2.2.2.2.2.2.2.2.2.2.2.2.2.2.2.2.2.2.1) a29.2).bind fun r30=>
     bif !a2.2 then
      some (.next (aA .i64 (s.1+1),s.2.1,s.2.2.1,s.2.2.2.1,s.2.2.2.2.1,s.2.2.2.2.2.1,s.2.2.2.2.2.2.1,s.2.2.2.2.2.2.2.1,s.2.2.2.2.2.2.2.2.1,s.2.2.2.2.2.2.2.2.2.1,s.2.2.2.2.2.2.2.2.2.2.1,s.2.2.2.2.2.2.2.2.2.2.2.1,s.2.2.2.2.2.2.2.2.2.2.2.2.1,s.2.2.2.2.2.2.2.2.2.2.2.2.2.1,s.2.2.2.2.2.2.2.2.2.2.2.2.2.2.1,s.2.2.2.2.2.2.2.2.2.2.2.2.2.2.2.1,s.2.2.2.2.2.2.2.2.2.2.2.2.2.2.2.2.1,s.2.2.2.2.2.2.2.2.2.2.2.2.2.2.2.2.2.1,s.2.2.2.2.2.2.2.2.2.2.2.2.2.2.2.2.2.2.1,s.2.2.2.2.2.2.2.2.2.2.2.2.2.2.2.2.2.2.2.1,s.2.2.2.2.2.2.2.2.2.2.2.2.2.2.2.2.2.2.2.2.1,r30.slots.uses,r30.slots.used,r30.slots.free,r30.heap,r30.where_,s.2.2.2.2.2.2.2.2.2.2.2.2.2.2.2.2.2.2.2.2.2.2.2.2.2.2))
     else
      bif decide (0<=n1) then
       some (.next (aA .i64 (s.1+1),s.2.1,s.2.2.1,s.2.2.2.1,s.2.2.2.2.1,s.2.2.2.2.2.1,s.2.2.2.2.2.2.1,s.2.2.2.2.2.2.2.1,s.2.2.2.2.2.2.2.2.1,s.2.2.2.2.2.2.2.2.2.1,s.2.2.2.2.2.2.2.2.2.2.1,s.2.2.2.2.2.2.2.2.2.2.2.1,s.2.2.2.2.2.2.2.2.2.2.2.2.1,s.2.2.2.2.2.2.2.2.2.2.2.2.2.1,s.2.2.2.2.2.2.2.2.2.2.2.2.2.2.1,s.2.2.2.2.2.2.2.2.2.2.2.2.2.2.2.1,s.2.2.2.2.2.2.2.2.2.2.2.2.2.2.2.2.1,s.2.2.2.2.2.2.2.2.2.2.2.2.2.2.2.2.2.1,s.2.2.2.2.2.2.2.2.2.2.2.2.2.2.2.2.2.2.1,s.2.2.2.2.2.2.2.2.2.2.2.2.2.2.2.2.2.2.2.1,s.2.2.2.2.2.2.2.2.2.2.2.2.2.2.2.2.2.2.2.2.1,r30.slots.uses,r30.slots.used,r30.slots.free,r30.heap,r30.where_,s.2.2.2.2.2.2.2.2.2.2.2.2.2.2.2.2.2.2.2.2.2.2.2.2.2.2))
      else
       (eT r30.slots).bind fun b31=>
       bif !b31 then
        some (.done (aO.mk (0,0) (Field.mk []) (aW.mk 0 []) (aJ.mk (aR.mk [] [] []) [] []) [],18))
       else
        (dI r30 a2.1 a0.1).bind fun a32=>
        (bM s.2.2.2.2.2.2.2.2.2.2.2.2.2.2.2.2.2.2.2.2.2.2.2.2.2.2 [(a0.1,a32.2)]).bind fun l33=>
        some (.next (aA .i64 (s.1+1),s.2.1,s.2.2.1,s.2.2.2.1,s.2.2.2.2.1,s.2.2.2.2.2.1,s.2.2.2.2.2.2.1,s.2.2.2.2.2.2.2.1,s.2.2.2.2.2.2.2.2.1,s.2.2.2.2.2.2.2.2.2.1,s.2.2.2.2.2.2.2.2.2.2.1,s.2.2.2.2.2.2.2.2.2.2.2.1,s.2.2.2.2.2.2.2.2.2.2.2.2.1,s.2.2.2.2.2.2.2.2.2.2.2.2.2.1,s.2.2.2.2.2.2.2.2.2.2.2.2.2.2.1,s.2.2.2.2.2.2.2.2.2.2.2.2.2.2.2.1,s.2.2.2.2.2.2.2.2.2.2.2.2.2.2.2.2.1,s.2.2.2.2.2.2.2.2.2.2.2.2.2.2.2.2.2.1,s.2.2.2.2.2.2.2.2.2.2.2.2.2.2.2.2.2.2.1,s.2.2.2.2.2.2.2.2.2.2.2.2.2.2.2.2.2.2.2.1,s.2.2.2.2.2.2.2.2.2.2.2.2.2.2.2.2.2.2.2.2.1,a32.1.slots.uses,a32.1.slots.used,a32.1.slots.free,a32.1.heap,a32.1.where_,l33))
    else
     bif !a2.2 then
      some (.next (aA .i64 (s.1+1),s.2))
     else
      bif decide (0<=n1) then
       some (.next (aA .i64 (s.1+1),s.2))
      else
       (eT (aR.mk s.2.2.2.2.2.2.2.2.2.2.2.2.2.2.2.2.2.2.2.2.2.1 s.2.2.2.2.2.2.2.2.2.2.2.2.2.2.2.2.2.2.2.2.2.2.1 s.2.2.2.2.2.2.2.2.2.2.2.2.2.2.2.2.2.2.2.2.2.2.2.1)).bind fun b34=>
       bif !b34 then
        some (.done (aO.mk (0,0) (Field.mk []) (aW.mk 0 []) (aJ.mk (aR.mk [] [] []) [] []) [],18))
       else
        (dI (aJ.mk (aR.mk s.2.2.2.2.2.2.2.2.2.2.2.2.2.2.2.2.2.2.2.2.2.1 s.2.2.2.2.2.2.2.2.2.2.2.2.2.2.2.2.2.2.2.2.2.2.1 s.2.2.2.2.2.2.2.2.2.2.2.2.2.2.2.2.2.2.2.2.2.2.2.1) s.2.2.2.2.2.2.2.2.2.2.2.2.2.2.2.2.2.2.2.2.2.2.2.2.1 s.2.2.2.2.2.2.2.2.2.2.2.2.2.2.2.2.2.2.2.2.2.2.2.2.2.1) a2.1 a0.1).bind fun a35=>
        (bM s.2.2.2.2.2.2.2.2.2.2.2.2.2.2.2.2.2.2.2.2.2.2.2.2.2.2 [(a0.1,a35.2)]).bind fun l36=>
        some (.next (aA .i64 (s.1+1),s.2.1,s.2.2.1,s.2.2.2.1,s.2.2.2.2.1,s.2.2.2.2.2.1,s.2.2.2.2.2.2.1,s.2.2.2.2.2.2.2.1,s.2.2.2.2.2.2.2.2.1,s.2.2.2.2.2.2.2.2.2.1,s.2.2.2.2.2.2.2.2.2.2.1,s.2.2.2.2.2.2.2.2.2.2.2.1,s.2.2.2.2.2.2.2.2.2.2.2.2.1,s.2.2.2.2.2.2.2.2.2.2.2.2.2.1,s.2.2.2.2.2.2.2.2.2.2.2.2.2.2.1,s.2.2.2.2.2.2.2.2.2.2.2.2.2.2.2.1,s.2.2.2.2.2.2.2.2.2.2.2.2.2.2.2.2.1,s.2.2.2.2.2.2.2.2.2.2.2.2.2.2.2.2.2.1,s.2.2.2.2.2.2.2.2.2.2.2.2.2.2.2.2.2.2.1,s.2.2.2.2.2.2.2.2.2.2.2.2.2.2.2.2.2.2.2.1,s.2.2.2.2.2.2.2.2.2.2.2.2.2.2.2.2.2.2.2.2.1,a35.1.slots.uses,a35.1.slots.used,a35.1.slots.free,a35.1.heap,a35.1.where_,l36))
   else
    bif !a2.2 then
     some (.next (aA .i64 (s.1+1),s.2))
    else
     bif decide (0<=n1) then
      some (.next (aA .i64 (s.1+1),s.2))
     else
      (eT (aR.mk s.2.2.2.2.2.2.2.2.2.2.2.2.2.2.2.2.2.2.2.2.2.1 s.2.2.2.2.2.2.2.2.2.2.2.2.2.2.2.2.2.2.2.2.2.2.1 s.2.2.2.2.2.2.2.2.2.2.2.2.2.2.2.2.2.2.2.2.2.2.2.1)).bind fun b37=>
      bif !b37 then
       some (.done (aO.mk (0,0) (Field.mk []) (aW.mk 0 []) (aJ.mk (aR.mk [] [] []) [] []) [],18))
      else
       (dI (aJ.mk (aR.mk s.2.2.2.2.2.2.2.2.2.2.2.2.2.2.2.2.2.2.2.2.2.1 s.2.2.2.2.2.2.2.2.2.2.2.2.2.2.2.2.2.2.2.2.2.2.1 s.2.2.2.2.2.2.2.2.2.2.2.2.2.2.2.2.2.2.2.2.2.2.2.1) s.2.2.2.2.2.2.2.2.2.2.2.2.2.2.2.2.2.2.2.2.2.2.2.2.1 s.2.2.2.2.2.2.2.2.2.2.2.2.2.2.2.2.2.2.2.2.2.2.2.2.2.1) a2.1 a0.1).bind fun a38=>
       (bM s.2.2.2.2.2.2.2.2.2.2.2.2.2.2.2.2.2.2.2.2.2.2.2.2.2.2 [(a0.1,a38.2)]).bind fun l39=>
       some (.next (aA .i64 (s.1+1),s.2.1,s.2.2.1,s.2.2.2.1,s.2.2.2.2.1,s.2.2.2.2.2.1,s.2.2.2.2.2.2.1,s.2.2.2.2.2.2.2.1,s.2.2.2.2.2.2.2.2.1,s.2.2.2.2.2.2.2.2.2.1,s.2.2.2.2.2.2.2.2.2.2.1,s.2.2.2.2.2.2.2.2.2.2.2.1,s.2.2.2.2.2.2.2.2.2.2.2.2.1,s.2.2.2.2.2.2.2.2.2.2.2.2.2.1,s.2.2.2.2.2.2.2.2.2.2.2.2.2.2.1,s.2.2.2.2.2.2.2.2.2.2.2.2.2.2.2.1,s.2.2.2.2.2.2.2.2.2.2.2.2.2.2.2.2.1,s.2.2.2.2.2.2.2.2.2.2.2.2.2.2.2.2.2.1,s.2.2.2.2.2.2.2.2.2.2.2.2.2.2.2.2.2.2.1,s.2.2.2.2.2.2.2.2.2.2.2.2.2.2.2.2.2.2.2.1,s.2.2.2.2.2.2.2.2.2.2.2.2.2.2.2.2.2.2.2.2.1,a38.1.slots.uses,a38.1.slots.used,a38.1.slots.free,a38.1.heap,a38.1.where_,l39))
 else
  some (.done (aO.mk (s.2.2.2.2.2.2.2.2.2.2.2.2.2.2.2.2.1,s.2.2.2.2.2.2.2.2.2.2.2.2.2.2.2.2.2.1) (Field.mk s.2.2.2.2.2.2.2.2.2.2.2.2.2.2.2.2.2.2.1) (aW.mk s.2.2.2.2.2.2.2.2.2.2.2.2.2.2.2.2.2.2.2.1 s.2.2.2.2.2.2.2.2.2.2.2.2.2.2.2.2.2.2.2.2.1) (aJ.mk (aR.mk s.2.2.2.2.2.2.2.2.2.2.2.2.2.2.2.2.2.2.2.2.2.1 s.2.2.2.2.2.2.2.2.2.2.2.2.2.2.2.2.2.2.2.2.2.2.1 s.2.2.2.2.2.2.2.2.2.2.2.2.2.2.2.2.2.2.2.2.2.2.2.1) s.2.2.2.2.2.2.2.2.2.2.2.2.2.2.2.2.2.2.2.2.2.2.2.2.1 s.2.2.2.2.2.2.2.2.2.2.2.2.2.2.2.2.2.2.2.2.2.2.2.2.2.1) s.2.2.2.2.2.2.2.2.2.2.2.2.2.2.2.2.2.2.2.2.2.2.2.2.2.2,0))
def BC (p0:aO) (p1:Field):Option (aO×Int):=
 (kM p0).bind fun r0=>
 (mB p1).bind fun r1=>
 aK E6 (0,p0.now.1,p0.now.2,p0.field.points,p0.certs.next_,p0.certs.list,p0.agenda.slots.uses,p0.agenda.slots.used,p0.agenda.slots.free,p0.agenda.heap,p0.agenda.where_,p0.due,p1.points,0,0,0,r0.now.1,r0.now.2,r1.points,r0.certs.next_,r0.certs.list,r0.agenda.slots.uses,r0.agenda.slots.used,r0.agenda.slots.free,r0.agenda.heap,r0.agenda.where_,[])
def aM2:bF:=⟨aB.cons (aG.agg bR) (aB.one (aG.agg cF)),aG.tup (aB.cons (aG.agg bR) (aB.one (aG.int .i64))),fun a=>BC a.1 a.2,.frz,false⟩
theorem aFw:aF aT 148 aM2:=Oc aC0 rfl aC [(32,c32),(32,YB),(72,c72),(72,X9),(188,aKX),(124,aFt),(190,aM0),(189,aKZ),(191,aK0),(192,aK1)] ⟨MH,GM,ME,GK,T0,MJ,aFu,T1,T2,T3,trivial⟩ fun a=>by kernel_rfl
def rN (s:(Int×Int×(List (Int×Int×Int))×Int×Int)):Option (bH (Int×Int×(List (Int×Int×Int))×Int×Int) Bool):=
 bif decide (s.1<(Int.ofNat s.2.2.1.length)) then
  (aL s.2.2.1 s.1).bind fun a0=>
  bif (a0.2.1==s.2.2.2.1)&&(a0.2.2==s.2.2.2.2) then
   some (.done true)
  else
   some (.next (aA .i64 (s.1+1),s.2))
 else
  some (.done false)
def rS (p0:aW) (p1:Int×Int):Option Bool:=
 aK rN (0,p0.next_,p0.list,p1)
def aFx:bF:=⟨aB.cons (aG.agg eV) (aB.one (aG.agg (bY.row gU))),aG.bool,fun a=>rS a.1 a.2,.pure,false⟩
theorem MK:aF aT 126 aFx:=Oc aCH rfl aC [] trivial fun a=>by kernel_rfl
def sK (p0:Int×Int):Option Bool:=
 bif decide (0<=p0.1) then
  bif decide (p0.1<=65535) then
   bif decide (0<=p0.2) then
    bif decide (p0.2<=65535) then
     some (p0.1 !=p0.2)
    else
     some false
   else
    some false
  else
   some false
 else
  some false
def aK2:bF:=⟨aB.one (aG.agg (bY.row gU)),aG.bool,fun a=>sK a,.pure,false⟩
theorem T4:aF aT 170 aK2:=Oc aDj rfl aC [] trivial fun a=>by kernel_rfl
end
end Go.Proofs.YtmlghnibpjlchaaGreat
