/- Plain functions for what the functions of the seat compute. Printed by a program. -/
import Derived.Test.YtlnclppkepgdmaaGreatAVm3
import Derived.Test.YtlnclppkepgdmaaGreatAQXT
set_option maxRecDepth 100000
namespace Go.Proofs.YtlnclppkepgdmaaGreat
open Go.Vm
noncomputable section
theorem Oc {f:FuncId} {x:aM} {α β:Type} {args:aB α} {res:aJ β} {kd:Kd} {fn:α->Option β} {ow:Bool} (hf:tab f=some (.code x)) (ho:aGG kd ow=true) (lp:Option Nat) (l:List (Nat×bG)) (h:HM tab l) (e: ∀a,aNS (mS lp l [] [] []) x args res kd a=fn a):aI tab f ⟨args,res,fn,kd,ow⟩:=aI.of hf (cx:=mS lp l [] [] []) ho (kC.make h trivial trivial) e
abbrev eW:List PT:=[.i .i64,.i .i64,.i .i64]
abbrev ki:List PT:=[.i .i64]
abbrev kb:List PT:=[.b]
abbrev mG:List PT:=[.i .i64,.i .i64,.i .i64,.i .i64,.i .i64]
abbrev jC:List PT:=[.i .i64,.i .i64]
abbrev aUC:List PT:=[.i .i64,.i .i64,.i .i64,.i .i64]
abbrev kiu:List PT:=[.i .i64,.i .u64]
abbrev EM:List PT:=[.b,.i .u64,.i .u64]
structure Field where
 points:List (Int×Int×Int)
def bR:cP Field:=cP.iso (cP.sl eW) (fun p=>⟨p⟩) (fun c=>c.points) (fun _=>rfl)
structure aV where
 uses:List Int
 used:List Bool
 free:List Int
def gC:cP aV:=cP.iso (cP.prod (cP.sl ki) (cP.prod (cP.sl kb) (cP.sl ki))) (fun p=>⟨p.1,p.2.1,p.2.2⟩) (fun c=>(c.uses,c.used,c.free)) (fun _=>rfl)
structure aO where
 slots:aV
 heap:List (Int×Int×Int×Int×Int)
 where_:List Int
def dE:cP aO:=cP.iso (cP.prod gC (cP.prod (cP.sl mG) (cP.sl ki))) (fun p=>⟨p.1,p.2.1,p.2.2⟩) (fun c=>(c.slots,c.heap,c.where_)) (fun _=>rfl)
structure bI where
 next_:Int
 list:List (Int×Int×Int)
def hO:cP bI:=cP.iso (cP.prod (cP.int .i64) (cP.sl eW)) (fun p=>⟨p.1,p.2⟩) (fun c=>(c.next_,c.list)) (fun _=>rfl)
structure aQ where
 now:Int×Int
 field:Field
 certs:bI
 agenda:aO
 due:List (Int×Int×Int)
def bV:cP aQ:=cP.iso (cP.prod (cP.row jC) (cP.prod bR (cP.prod hO (cP.prod dE (cP.sl eW))))) (fun p=>⟨p.1,p.2.1,p.2.2.1,p.2.2.2.1,p.2.2.2.2⟩) (fun c=>(c.now,c.field,c.certs,c.agenda,c.due)) (fun _=>rfl)
structure bH where
 places:List Int
 wins:List Int
def fW:cP bH:=cP.iso (cP.prod (cP.sl ki) (cP.sl ki)) (fun p=>⟨p.1,p.2⟩) (fun c=>(c.places,c.wins)) (fun _=>rfl)
structure dV where
 clock:aQ
 bracket:bH
def hZ:cP dV:=cP.iso (cP.prod bV fW) (fun p=>⟨p.1,p.2⟩) (fun c=>(c.clock,c.bracket)) (fun _=>rfl)
theorem BK:aI tab 124 (bG.clone eW):=aI.clone aJB rfl
theorem rU:aI tab 67 (bG.clone ki):=aI.clone aSk rfl
theorem aE0:aI tab 300 (bG.add64):=aI.add64 aLj
theorem xW:aI tab 184 (bG.clone kb):=aI.clone aKd rfl
theorem BL:aI tab 181 (bG.clone eW):=aI.clone aKa rfl
theorem JD:aI tab 182 (bG.clone eW):=aI.clone aKb rfl
theorem xX:aI tab 183 (bG.clone mG):=aI.clone aKc rfl
theorem XH:aI tab 315 (bG.clone ki):=aI.clone aLp rfl
abbrev jR:aQ:=aQ.mk (0,0) (Field.mk []) (bI.mk 0 []) (aO.mk (aV.mk [] [] []) [] []) []
section
abbrev kW:=List (Int×Int×Int×Int×Int)
abbrev bX:=List (Int×Int×Int)
abbrev rV:=List (Int×Int)
abbrev aDl:=rV×rV×Int×Int×Int×Int×bX×Int×bX×(List Int)×(List Bool)×(List Int)×kW×(List Int)×bX×bX×Int×Int×Int
abbrev aUD:=bO aDl (aQ×Int)
abbrev Zt1:=bO aDl aUD
abbrev Zt3:=bX×Int×Int×Int×Int×bX×Int×bX×(List Int)×(List Bool)×(List Int)×kW×(List Int)×bX×bX×Int×Int×Int×Int×Int×Int×bX×(List Int)×(List Bool)×(List Int)×kW×(List Int)×bX×bX
abbrev aUE:=rV×bX×Int×Int×Int×Int×bX×Int×bX×(List Int)×(List Bool)×(List Int)×kW×(List Int)×bX×bX×Int×Int×Int
abbrev Zt6:=bO aUE (aQ×Int)
abbrev aUF:=bX×Int×Int×Int×Int×bX×Int×bX×(List Int)×(List Bool)×(List Int)×kW×(List Int)×bX×bX×Int×Int×Int
abbrev Zt7:=bO aUF (aQ×Int)
abbrev Zt8:=bX×bX×Int×Int×Int×Int×bX×Int×bX×(List Int)×(List Bool)×(List Int)×kW×(List Int)×bX
abbrev Zt9:=rV×Int×Int×Int×Int×bX×Int×bX×(List Int)×(List Bool)×(List Int)×kW×(List Int)×bX×Int×Int×Int
abbrev aUG:=Int×Int×Int×Int×bX×Int×bX×(List Int)×(List Bool)×(List Int)×kW×(List Int)×bX×(List Int)
abbrev aUH:=bO aUG Int
abbrev aSO:=Int×Int×Int×Int×bX×Int×bX×(List Int)×(List Bool)×(List Int)×kW×(List Int)×bX
abbrev aUI:=bO aSO Int
abbrev aUJ:=Int×kW×(List Int)×(List Int)×(List Bool)×(List Int)×Nat×Nat×Int×Int×Int×Int×Int
abbrev QY:=kW×(List Int)
abbrev aUK:=bO aUJ QY
abbrev aUL:=Int×kW×(List Int)×(List Int)×(List Bool)×(List Int)×Int×Int×Int×Int×Int
abbrev aUM:=bO aUL QY
abbrev aUN:=kW×Int×Int×(List Int)×(List Bool)×(List Int)×kW×(List Int)×(List (List Int))
abbrev aUO:=Int×Int×kW×(List Int)×(List Int)×(List Bool)×(List Int)×Nat×Nat×Int×Int×Int×Int×Int
abbrev aLs:=(List Int)×(List Bool)×(List Int)×Nat×Nat×Int×Int×Int×Int×Int×Int×kW×(List Int)
abbrev aUP:=Int×Int×kW×(List Int)×(List Int)×(List Bool)×(List Int)×Int×Int×Int×Int×Int
abbrev aLt:=(List Int)×(List Bool)×(List Int)×Int×Int×Int×Int×Int×Int×kW×(List Int)
abbrev aUQ:=(List Int)×Int×Int×(List Int)×(List Bool)×(List Int)×kW×(List Int)
abbrev aUR:=bO aUQ Int
abbrev aLu:=(List Int)×(List Bool)×(List Int)×Nat×Nat×Int×kW×(List Int)
abbrev aLv:=Int×kW×(List Int)×(List Int)×(List Bool)×(List Int)×Nat×Nat
abbrev aUS:=(List Int)×Int×Int×bX×Int×Int×(List (Int×Bool))
abbrev aUT:=bO aUS (bH×Int)
abbrev aSP:=Int×Int×(List Int)×(List Bool)×(List Int)×kW×(List Int)
abbrev aUU:=(List Int)×(List Bool)×(List Int)×Int×kW×(List Int)
abbrev aUV:=Int×kW×(List Int)×(List Int)×(List Bool)×(List Int)
abbrev aUW:=Int×bX×Int×Int×Int×bX×(List (List Int))
abbrev aUX:=(List Int)×Int×Int×(List Int)×(List Bool)×(List Int)×Int×(List Bool)
abbrev aUY:=bO aUX Int
abbrev aSQ:=(List Int)×(List Bool)×(List Int)×kW×(List Int)
abbrev aUZ:=Int×Int×Int×bX×Int×Int×bX
abbrev aDm:=Int×bX×Int×Int×(List Int)×(List Int)
abbrev QZ:=bX×Int×Int×Int×Int
abbrev aE1:=bO QZ (Int×Bool)
abbrev aE2:=bX×Int×Int×bX
abbrev aLw:=Int×kW×(List Int)
abbrev XI:=Int×bX
abbrev aLx:=bO XI (List Int)
abbrev aE3:=Int×Int×bX
abbrev aSR:=bO aE3 Int
abbrev JE:=Int×(List Int)×(List Bool)×(List Int)×kW×(List Int)
variable [LP]
def qS (p0:Field):Option Bool:=bif decide (16<(Int.ofNat p0.points.length)) then bif decide ((Int.ofNat p0.points.length)<64) then some true else some (decide (70<(Int.ofNat p0.points.length))) else some (decide (70<(Int.ofNat p0.points.length)))
def c16:bG:=⟨aB.one (aJ.agg bR),aJ.bool,fun a=>qS a,.pure,false⟩
theorem aE4:aI tab 16 c16:=Oc aRL rfl aG [] trivial fun a=>by kernel_rfl
def EN (p0:aV):Option Bool:=bif decide (210<(Int.ofNat p0.uses.length)) then some true else bif decide (210<(Int.ofNat p0.used.length)) then some true else some (decide (210<(Int.ofNat p0.free.length)))
def aU0:bG:=⟨aB.one (aJ.agg gC),aJ.bool,fun a=>EN a,.pure,false⟩
theorem aLy:aI tab 168 aU0:=Oc aJ0 rfl aG [] trivial fun a=>by kernel_rfl
def EO (p0:aO):Option Bool:=(EN p0.slots).bind fun b0=>bif b0 then some true else bif decide (210<(Int.ofNat p0.heap.length)) then some true else some (decide (210<(Int.ofNat p0.where_.length)))
def aU1:bG:=⟨aB.one (aJ.agg dE),aJ.bool,fun a=>EO a,.pure,false⟩
theorem aLz:aI tab 102 aU1:=Oc aJm rfl aG [(168,aU0)] ⟨aLy,trivial⟩ fun a=>by kernel_rfl
def vO (p0:aQ):Option Bool:=bif decide (40<(Int.ofNat p0.certs.list.length)) then some true else bif decide (40<(Int.ofNat p0.due.length)) then some true else (qS p0.field).bind fun b0=>bif b0 then some true else (EO p0.agenda).bind fun b1=>some b1
def c45:bG:=⟨aB.one (aJ.agg bV),aJ.bool,fun a=>vO a,.pure,false⟩
theorem aSS:aI tab 45 c45:=Oc aR4 rfl aG [(16,c16),(102,aU1)] ⟨aE4,aLz,trivial⟩ fun a=>by kernel_rfl
def EP (p0:bH):Option Bool:=bif decide (70<(Int.ofNat p0.places.length)) then some true else some (decide (70<(Int.ofNat p0.wins.length)))
def c46:bG:=⟨aB.one (aJ.agg fW),aJ.bool,fun a=>EP a,.pure,false⟩
theorem aST:aI tab 46 c46:=Oc aR5 rfl aG [] trivial fun a=>by kernel_rfl
def vP (p0:dV):Option Bool:=(vO p0.clock).bind fun b0=>bif b0 then some true else (EP p0.bracket).bind fun b1=>some b1
def c9:bG:=⟨aB.one (aJ.agg hZ),aJ.bool,fun a=>vP a,.pure,false⟩
theorem aU2:aI tab 9 c9:=Oc aUB rfl aG [(45,c45),(46,c46)] ⟨aSS,aST,trivial⟩ fun a=>by kernel_rfl
def rW (p0:Int):Option Bool:=bif decide (p0<(-1048576)) then some true else some (decide (1048576<p0))
def aU3:bG:=⟨aB.one (aJ.int .i64),aJ.bool,fun a=>rW a,.pure,false⟩
theorem aLA:aI tab 249 aU3:=Oc aKW rfl aG [] trivial fun a=>by kernel_rfl
def oP (p0:Int×Int×Int):Option Int:=bif decide (p0.1<0) then some 8 else bif decide (65535<p0.1) then some 8 else (rW p0.2.1).bind fun b0=>bif b0 then some 8 else (rW p0.2.2).bind fun b1=>bif b1 then some 8 else some 0
def aSU:bG:=⟨aB.one (aJ.agg (cP.row eW)),aJ.int .i64,fun a=>oP a,.pure,false⟩
theorem aB3:aI tab 191 aSU:=Oc aKj rfl aG [(249,aU3)] ⟨aLA,trivial⟩ fun a=>by kernel_rfl
def jS (s:aE2):Option (bO aE2 (bO aE2 Int)):=bif decide (s.2.2.1<s.2.1) then (aN s.1 s.2.2.1).bind fun a0=>bif decide (0<s.2.2.1) then (aN s.2.2.2 (aA .i64 (s.2.2.1-1))).bind fun a1=>bif decide (a0.1<=a1.1) then some (.done (.done 32)) else some (.next (s.1,s.2.1,aA .i64 (s.2.2.1+1),s.2.2.2)) else some (.next (s.1,s.2.1,aA .i64 (s.2.2.1+1),s.2.2.2)) else some (.done (.done 0))
def nU (s:aE2):Option (bO aE2 Int):=bif decide (s.2.2.1<s.2.1) then (aN s.1 s.2.2.1).bind fun a0=>(oP a0).bind fun n1=>bif n1 !=0 then some (.done n1) else some (.next (s.1,s.2.1,aA .i64 (s.2.2.1+1),s.2.2.2)) else aH jS (s.2.2.2,Int.ofNat s.2.2.2.length,0,s.2.2.2)
def fX (p0:Field):Option Int:=bif decide (64<(Int.ofNat p0.points.length)) then some 4 else aH nU (p0.points,Int.ofNat p0.points.length,0,p0.points)
def aAu:bG:=⟨aB.one (aJ.agg bR),aJ.int .i64,fun a=>fX a,.pure,false⟩
theorem F0s:aI tab 122 aAu:=Oc aJz rfl aG [(191,aSU)] ⟨aB3,trivial⟩ fun a=>by kernel_rfl
def nA (p0:Int):Option Int:=bif decide (p0<0) then some (aA .u64 (0- (aA .u64 p0))) else some (aA .u64 p0)
def aLB:bG:=⟨aB.one (aJ.int .i64),aJ.int .u64,fun a=>nA a,.pure,false⟩
theorem UH:aI tab 106 aLB:=Oc aJo rfl aG [] trivial fun a=>by kernel_rfl
def wY (s:(Int×Int)):Option (bO (Int×Int) Int):=bif decide (0<s.2) then bif s.2==0 then none else some (.next (s.2,Int.tmod s.1 s.2)) else some (.done s.1)
def BM (p0:Int) (p1:Int):Option Int:=aH wY (p0,p1)
def aSV:bG:=⟨aB.cons (aJ.int .u64) (aB.one (aJ.int .u64)),aJ.int .u64,fun a=>BM a.1 a.2,.pure,false⟩
theorem aB4:aI tab 105 aSV:=Oc aJn rfl aG [] trivial fun a=>by kernel_rfl
def gV (p0:Int×Int):Option Int:=bif decide (p0.2<1) then some 8 else bif p0.1==(-9223372036854775808) then some 8 else (nA p0.1).bind fun n0=>(BM (aA .u64 p0.2) n0).bind fun n1=>bif decide (1<n1) then some 8 else some 0
def c49:bG:=⟨aB.one (aJ.agg (cP.row jC)),aJ.int .i64,fun a=>gV a,.pure,false⟩
theorem EQ:aI tab 49 c49:=Oc aR6 rfl aG [(106,aLB),(105,aSV)] ⟨UH,aB4,trivial⟩ fun a=>by kernel_rfl
def L2 (s:(Int×Int×Int×(List Int)×(List Bool)×(List Int))):Option (bO (Int×Int×Int×(List Int)×(List Bool)×(List Int)) (aV×Int)):=bif decide (s.2.2.1<s.2.1) then (aN s.2.2.2.2.2 s.2.2.1).bind fun _=>some (.next (s.1,s.2.1,aA .i64 (s.2.2.1+1),s.2.2.2.1,s.2.2.2.2.1,cO s.2.2.2.2.2 s.2.2.1 (aA .i64 ((aA .i64 (s.1-1)) -s.2.2.1)))) else some (.done (aV.mk s.2.2.2.1 s.2.2.2.2.1 s.2.2.2.2.2,0))
def JF (p0:Int):Option (aV×Int):=bif decide (p0<1) then some (aV.mk [] [] [],2) else bif decide (200<p0) then some (aV.mk [] [] [],2) else bif p0==p0 then (tB p0 (0:Int)).bind fun l0=>bif p0==p0 then (tB p0 (false:Bool)).bind fun l1=>bif p0==p0 then (tB p0 (0:Int)).bind fun l2=>aH L2 (p0,p0,0,l0,l1,l2) else none else none else none
def aU4:bG:=⟨aB.one (aJ.int .i64),aJ.tup (aB.cons (aJ.agg gC) (aB.one (aJ.int .i64))),fun a=>JF a,.frz,false⟩
theorem aLD:aI tab 192 aU4:=Oc aKk rfl aG [] trivial fun a=>by kernel_rfl
def MK (p0:Int) (p1:Int):Option (Int×Int):=some (aA .u32 (rJ .u64 (aA .u64 ((aA .u64 p0)*(aA .u64 p1))) 32),aA .u32 (aA .u64 ((aA .u64 p0)*(aA .u64 p1))))
def aU5:bG:=⟨aB.cons (aJ.int .u32) (aB.one (aJ.int .u32)),aJ.tup (aB.cons (aJ.int .u32) (aB.one (aJ.int .u32))),fun a=>MK a.1 a.2,.pure,false⟩
theorem aLE:aI tab 250 aU5:=Oc aKX rfl aG [] trivial fun a=>by kernel_rfl
def fS (p0:Int) (p1:Int):Option (Int×Int):=some (aA .u64 ((aA .u64 ((aA .u64 ((rJ .u64 p0 32)*(rJ .u64 p1 32)))+(rJ .u64 (aA .u64 ((aA .u64 ((rJ .u64 p0 32)*(HD .u64 p1 4294967295)))+(rJ .u64 (aA .u64 ((HD .u64 p0 4294967295)*(HD .u64 p1 4294967295))) 32))) 32)))+(rJ .u64 (aA .u64 ((HD .u64 (aA .u64 ((aA .u64 ((rJ .u64 p0 32)*(HD .u64 p1 4294967295)))+(rJ .u64 (aA .u64 ((HD .u64 p0 4294967295)*(HD .u64 p1 4294967295))) 32))) 4294967295)+(aA .u64 ((HD .u64 p0 4294967295)*(rJ .u64 p1 32))))) 32)),aA .u64 (p0*p1))
def aLF:bG:=⟨aB.cons (aJ.int .u64) (aB.one (aJ.int .u64)),aJ.tup (aB.cons (aJ.int .u64) (aB.one (aJ.int .u64))),fun a=>fS a.1 a.2,.pure,false⟩
theorem UI:aI tab 172 aLF:=Oc aJ3 rfl aG [] trivial fun a=>by kernel_rfl
def gG (p0:Int) (p1:Int):Option (Int×Int):=(fS p0 p1).bind fun a0=>some a0
def aSW:bG:=⟨aB.cons (aJ.int .u64) (aB.one (aJ.int .u64)),aJ.tup (aB.cons (aJ.int .u64) (aB.one (aJ.int .u64))),fun a=>gG a.1 a.2,.pure,false⟩
theorem aB5:aI tab 193 aSW:=Oc aKl rfl aG [(250,aU5),(172,aLF)] ⟨aLE,UI,trivial⟩ fun a=>by kernel_rfl
def cU (s:(Int×(List Int))):Option (bO (Int×(List Int)) (List Int)):=bif decide (s.1<(Int.ofNat s.2.length)) then bif ((decide (0<=s.1))&&(decide (s.1<=(Int.ofNat s.2.length))))&&(decide ((Int.ofNat s.2.length)<=(Int.ofNat s.2.length))) then (jE s.2 0 s.1).bind fun _=>bif ((s.2.take s.1.toNat).take (((Int.ofNat s.2.length).toNat) -s.1.toNat)).isEmpty then some (.next (aA .i64 (s.1+0),s.2)) else bif (Nat.ble ((0+s.1.toNat)+(((s.2.take s.1.toNat).take (((Int.ofNat s.2.length).toNat) -s.1.toNat)).length)) s.2.length)&&(!false) then some (.next (aA .i64 (s.1+(Int.ofNat (((s.2.take s.1.toNat).take (((Int.ofNat s.2.length).toNat) -s.1.toNat)).length))),jJ s.2 (0+s.1.toNat) ((s.2.take s.1.toNat).take (((Int.ofNat s.2.length).toNat) -s.1.toNat)))) else none else none else some (.done s.2)
def bY (p0:List Int) (p1:Int):Option (List Int):=bif decide (p1<0) then none else (gG (aA .u64 (Int.ofNat p0.length)) (aA .u64 p1)).bind fun a0=>bif decide (0<a0.1) then none else bif decide (9223372036854775807<a0.2) then none else bif (aA .i64 a0.2)==(aA .i64 a0.2) then (tB (aA .i64 a0.2) (0:Int)).bind fun l1=>bif (p0.take l1.length).isEmpty then aH cU (0,l1) else bif (Nat.ble (0+((p0.take l1.length).length)) l1.length)&&(!false) then aH cU (Int.ofNat ((p0.take l1.length).length),jJ l1 0 (p0.take l1.length)) else none else none
def aSX:bG:=⟨aB.cons (aJ.sl ki) (aB.one (aJ.int .i64)),aJ.sl ki,fun a=>bY a.1 a.2,.own,true⟩
def aE5:bG:=⟨aB.cons (aJ.sl ki) (aB.one (aJ.int .i64)),aJ.sl ki,fun a=>bY a.1 a.2,.frz,false⟩
theorem aB6:aI tab 125 aSX:=Oc aBQ rfl aG [(193,aSW)] ⟨aB5,trivial⟩ fun a=>by kernel_rfl
theorem XJ:aI tab 125 aE5:=Oc aBQ rfl aG [(193,aSW)] ⟨aB5,trivial⟩ fun a=>by kernel_rfl
def CL (p0:Int):Option (aO×Int):=(JF p0).bind fun a0=>bif a0.2 !=0 then some (aO.mk (aV.mk [] [] []) [] [],a0.2) else (bY [-1] p0).bind fun l1=>some (aO.mk a0.1 [] l1,0)
def aU6:bG:=⟨aB.one (aJ.int .i64),aJ.tup (aB.cons (aJ.agg dE) (aB.one (aJ.int .i64))),fun a=>CL a,.frz,false⟩
theorem aLG:aI tab 123 aU6:=Oc aJA rfl aG [(192,aU4),(125,aSX),(125,aE5)] ⟨aLD,aB6,XJ,trivial⟩ fun a=>by kernel_rfl
def FT (p0:Field) (p1:Int×Int):Option (aQ×Int):=(fX p0).bind fun n0=>bif n0 !=0 then some (jR,n0) else (gV p1).bind fun n1=>bif n1 !=0 then some (jR,n1) else (CL 200).bind fun a2=>(bZ p0.points).bind fun l3=>some (aQ.mk p1 (Field.mk l3) (bI.mk 0 []) a2.1 [],a2.2)
def c59:bG:=⟨aB.cons (aJ.agg bR) (aB.one (aJ.agg (cP.row jC))),aJ.tup (aB.cons (aJ.agg bV) (aB.one (aJ.int .i64))),fun a=>FT a.1 a.2,.frz,false⟩
theorem aSY:aI tab 59 c59:=Oc aSc rfl aG [(122,aAu),(49,c49),(123,aU6),(124,bG.clone eW)] ⟨F0s,EQ,aLG,BK,trivial⟩ fun a=>by kernel_rfl
def mU (s:(bX×Int×Int×(List Int))):Option (bO (bX×Int×Int×(List Int)) aLx):=bif decide (s.2.2.1<s.2.1) then (aN s.1 s.2.2.1).bind fun a0=>(aN s.2.2.2 s.2.2.1).bind fun _=>some (.next (s.1,s.2.1,aA .i64 (s.2.2.1+1),cO s.2.2.2 s.2.2.1 a0.1)) else some (.done (.done s.2.2.2))
def pU (s:XI):Option aLx:=bif decide (s.1<(Int.ofNat s.2.length)) then some (.next (aA .i64 (s.1*2),s.2)) else (bY [-1] s.1).bind fun l0=>aH mU (s.2,Int.ofNat s.2.length,0,l0)
def rX (p0:Field):Option (List Int):=aH pU (1,p0.points)
def c60:bG:=⟨aB.one (aJ.agg bR),aJ.sl ki,fun a=>rX a,.frz,false⟩
theorem aSZ:aI tab 60 c60:=Oc aSd rfl aG [(125,aSX),(125,aE5)] ⟨aB6,XJ,trivial⟩ fun a=>by kernel_rfl
def AO (p0:Field) (p1:Int×Int):Option Int:=(fX p0).bind fun n0=>bif n0 !=0 then some n0 else (gV p1).bind fun n1=>some n1
def aU7:bG:=⟨aB.cons (aJ.agg bR) (aB.one (aJ.agg (cP.row jC))),aJ.int .i64,fun a=>AO a.1 a.2,.pure,false⟩
theorem aLH:aI tab 185 aU7:=Oc aKe rfl aG [(122,aAu),(49,c49)] ⟨F0s,EQ,trivial⟩ fun a=>by kernel_rfl
def uI (p0:Int):Option Bool:=some (p0 !=p0)
def aU8:bG:=⟨aB.one (aJ.int .i64),aJ.bool,fun a=>uI a,.pure,false⟩
theorem aLI:aI tab 260 aU8:=Oc aK1 rfl aG [] trivial fun a=>by kernel_rfl
def eU (p0:Int) (p1:Int):Option Int:=(uI p0).bind fun b0=>(uI p1).bind fun b1=>bif b0 then bif b1 then some 0 else some (-1) else bif b1 then some 1 else bif decide (p0<p1) then some (-1) else bif decide (p1<p0) then some 1 else some 0
def XK:bG:=⟨aB.cons (aJ.int .i64) (aB.one (aJ.int .i64)),aJ.int .i64,fun a=>eU a.1 a.2,.pure,false⟩
theorem CN:aI tab 232 XK:=Oc aKG rfl aG [(260,aU8)] ⟨aLI,trivial⟩ fun a=>by kernel_rfl
def xY (p0:Int×Int×Int) (p1:Int):Option Int:=(eU p0.1 p1).bind fun n0=>some n0
def aU9:bG:=⟨aB.cons (aJ.agg (cP.row eW)) (aB.one (aJ.int .i64)),aJ.int .i64,fun a=>xY a.1 a.2,.pure,false⟩
theorem aLJ:aI tab 293 aU9:=Oc aLg rfl aG [(232,XK)] ⟨CN,trivial⟩ fun a=>by kernel_rfl
def jF (s:QZ):Option aE1:=bif decide (s.2.2.2.1<s.2.2.2.2) then (aN s.1 (aA .i64 (rJ .u64 (aA .u64 (aA .i64 (s.2.2.2.1+s.2.2.2.2))) 1))).bind fun a0=>(xY a0 s.2.1).bind fun n1=>bif decide (n1<0) then some (.next (s.1,s.2.1,s.2.2.1,aA .i64 ((aA .i64 (rJ .u64 (aA .u64 (aA .i64 (s.2.2.2.1+s.2.2.2.2))) 1))+1),s.2.2.2.2)) else some (.next (s.1,s.2.1,s.2.2.1,s.2.2.2.1,aA .i64 (rJ .u64 (aA .u64 (aA .i64 (s.2.2.2.1+s.2.2.2.2))) 1))) else bif decide (s.2.2.2.1<s.2.2.1) then (aN s.1 s.2.2.2.1).bind fun a2=>(xY a2 s.2.1).bind fun n3=>some (.done (s.2.2.2.1,n3==0)) else some (.done (s.2.2.2.1,false))
def dC (p0:List (Int×Int×Int)) (p1:Int) (_:Unit):Option (Int×Bool):=aH jF (p0,p1,Int.ofNat p0.length,0,Int.ofNat p0.length)
def XL:bG:=⟨aB.cons (aJ.sl eW) (aB.cons (aJ.int .i64) (aB.one (aJ.clo 293 aB.nil))),aJ.tup (aB.cons (aJ.int .i64) (aB.one aJ.bool)),fun a=>dC a.1 a.2.1 a.2.2,.pure,false⟩
theorem XM:aI tab 253 XL:=Oc UF rfl aG [(293,aU9)] ⟨aLJ,trivial⟩ fun a=>by kernel_rfl
def kH (p0:Field) (p1:Int):Option (Int×Bool):=(dC p0.points p1 ()).bind fun a0=>some a0
def aS0:bG:=⟨aB.cons (aJ.agg bR) (aB.one (aJ.int .i64)),aJ.tup (aB.cons (aJ.int .i64) (aB.one aJ.bool)),fun a=>kH a.1 a.2,.pure,false⟩
theorem aB7:aI tab 247 aS0:=Oc aKU rfl aG [(253,XL)] ⟨XM,trivial⟩ fun a=>by kernel_rfl
def oQ (s:((List Int)×Int×Int×bX)):Option (bO ((List Int)×Int×Int×bX) Bool):=bif decide (s.2.2.1<s.2.1) then (aN s.1 s.2.2.1).bind fun n0=>(kH (Field.mk s.2.2.2) n0).bind fun a1=>bif a1.2 then some (.next (s.1,s.2.1,aA .i64 (s.2.2.1+1),s.2.2.2)) else bif !(n0==(-1)) then some (.done (!(decide (0<=s.2.2.1)))) else some (.next (s.1,s.2.1,aA .i64 (s.2.2.1+1),s.2.2.2)) else some (.done (!(decide (0<=(-1)))))
def uJ (p0:Field) (p1:List Int):Option Bool:=aH oQ (p1,Int.ofNat p1.length,0,p0.points)
def aVa:bG:=⟨aB.cons (aJ.agg bR) (aB.one (aJ.sl ki)),aJ.bool,fun a=>uJ a.1 a.2,.pure,false⟩
theorem aLK:aI tab 186 aVa:=aI.of aKf (cx:=(mS aG [(247,aS0)] [] [(132,aDh),(200,aAt),(134,XG),(201,aDi),(246,aIx)] [])) rfl (kC.make ⟨aB7,trivial⟩ trivial ⟨T9,MY,JC,UD,aKT,trivial⟩) (fun a=>by kernel_rfl)
def gM (p0:bH) (p1:Int):Option Int:=bif decide (0<=(aA .i64 (p1- (Int.ofNat p0.wins.length)))) then (aN p0.places (aA .i64 (p1- (Int.ofNat p0.wins.length)))).bind fun n0=>some n0 else (aN p0.wins p1).bind fun n1=>some n1
def aLL:bG:=⟨aB.cons (aJ.agg fW) (aB.one (aJ.int .i64)),aJ.int .i64,fun a=>gM a.1 a.2,.pure,false⟩
theorem UJ:aI tab 126 aLL:=Oc aJC rfl aG [] trivial fun a=>by kernel_rfl
def tM (p0:Int×Int×Int) (p1:Int×Int×Int) (p2:Int×Int):Option Int:=(oP p0).bind fun n0=>(oP p1).bind fun n1=>(gV p2).bind fun n2=>bif (if n2>(if n1>n0 then n1 else n0) then n2 else if n1>n0 then n1 else n0) !=0 then some (if n2>(if n1>n0 then n1 else n0) then n2 else if n1>n0 then n1 else n0) else bif p0.1==p1.1 then some 2 else some 0
def aLM:bG:=⟨aB.cons (aJ.agg (cP.row eW)) (aB.cons (aJ.agg (cP.row eW)) (aB.one (aJ.agg (cP.row jC)))),aJ.int .i64,fun a=>tM a.1 a.2.1 a.2.2,.pure,false⟩
theorem UK:aI tab 225 aLM:=Oc aKB rfl aG [(191,aSU),(49,c49)] ⟨aB3,EQ,trivial⟩ fun a=>by kernel_rfl
def pK (s:(Int×Int×Int×Int×Int×Int×Int×Int×Int)):Option (bO (Int×Int×Int×Int×Int×Int×Int×Int×Int) (Int×Int)):=bif decide (s.2.2.2.2.1<2) then bif s.2.2.2.2.1==0 then (fS (aA .u64 s.1) (aA .u64 s.2.1)).bind fun a0=>bif decide (s.1<0) then bif decide (s.2.1<0) then (tL s.2.2.2.2.2.2.2.2 a0.2 0).bind fun a1=>some (.next (s.1,s.2.1,s.2.2.1,s.2.2.2.1,aA .i64 (s.2.2.2.2.1+1),s.2.2.2.2.2.1,s.2.2.2.2.2.2.1,aA .i64 ((aA .i64 (s.2.2.2.2.2.2.2.1+(aA .i64 ((aA .i64 ((aA .i64 a0.1) -s.2.1)) -s.1))))+(aA .i64 a1.2)),a1.1)) else (tL s.2.2.2.2.2.2.2.2 a0.2 0).bind fun a2=>some (.next (s.1,s.2.1,s.2.2.1,s.2.2.2.1,aA .i64 (s.2.2.2.2.1+1),s.2.2.2.2.2.1,s.2.2.2.2.2.2.1,aA .i64 ((aA .i64 (s.2.2.2.2.2.2.2.1+(aA .i64 ((aA .i64 a0.1) -s.2.1))))+(aA .i64 a2.2)),a2.1)) else bif decide (s.2.1<0) then (tL s.2.2.2.2.2.2.2.2 a0.2 0).bind fun a3=>some (.next (s.1,s.2.1,s.2.2.1,s.2.2.2.1,aA .i64 (s.2.2.2.2.1+1),s.2.2.2.2.2.1,s.2.2.2.2.2.2.1,aA .i64 ((aA .i64 (s.2.2.2.2.2.2.2.1+(aA .i64 ((aA .i64 a0.1) -s.1))))+(aA .i64 a3.2)),a3.1)) else (tL s.2.2.2.2.2.2.2.2 a0.2 0).bind fun a4=>some (.next (s.1,s.2.1,s.2.2.1,s.2.2.2.1,aA .i64 (s.2.2.2.2.1+1),s.2.2.2.2.2.1,s.2.2.2.2.2.2.1,aA .i64 ((aA .i64 (s.2.2.2.2.2.2.2.1+(aA .i64 a0.1)))+(aA .i64 a4.2)),a4.1)) else bif s.2.2.2.2.1==1 then (fS (aA .u64 s.2.2.1) (aA .u64 s.2.2.2.1)).bind fun a5=>bif decide (s.2.2.1<0) then bif decide (s.2.2.2.1<0) then (tL s.2.2.2.2.2.2.2.2 a5.2 0).bind fun a6=>some (.next (s.1,s.2.1,s.2.2.1,s.2.2.2.1,aA .i64 (s.2.2.2.2.1+1),s.2.2.2.2.2.1,s.2.2.2.2.2.2.1,aA .i64 ((aA .i64 (s.2.2.2.2.2.2.2.1+(aA .i64 ((aA .i64 ((aA .i64 a5.1) -s.2.2.2.1)) -s.2.2.1))))+(aA .i64 a6.2)),a6.1)) else (tL s.2.2.2.2.2.2.2.2 a5.2 0).bind fun a7=>some (.next (s.1,s.2.1,s.2.2.1,s.2.2.2.1,aA .i64 (s.2.2.2.2.1+1),s.2.2.2.2.2.1,s.2.2.2.2.2.2.1,aA .i64 ((aA .i64 (s.2.2.2.2.2.2.2.1+(aA .i64 ((aA .i64 a5.1) -s.2.2.2.1))))+(aA .i64 a7.2)),a7.1)) else bif decide (s.2.2.2.1<0) then (tL s.2.2.2.2.2.2.2.2 a5.2 0).bind fun a8=>some (.next (s.1,s.2.1,s.2.2.1,s.2.2.2.1,aA .i64 (s.2.2.2.2.1+1),s.2.2.2.2.2.1,s.2.2.2.2.2.2.1,aA .i64 ((aA .i64 (s.2.2.2.2.2.2.2.1+(aA .i64 ((aA .i64 a5.1) -s.2.2.1))))+(aA .i64 a8.2)),a8.1)) else (tL s.2.2.2.2.2.2.2.2 a5.2 0).bind fun a9=>some (.next (s.1,s.2.1,s.2.2.1,s.2.2.2.1,aA .i64 (s.2.2.2.2.1+1),s.2.2.2.2.2.1,s.2.2.2.2.2.2.1,aA .i64 ((aA .i64 (s.2.2.2.2.2.2.2.1+(aA .i64 a5.1)))+(aA .i64 a9.2)),a9.1)) else none else some (.done s.2.2.2.2.2.2.2)
def CO (p0:Int×Int×Int×Int):Option (Int×Int):=aH pK (p0.1,p0.2.1,p0.2.2.1,p0.2.2.2,0,0,0,0,0)
def aVb:bG:=⟨aB.one (aJ.agg (cP.row aUC)),aJ.agg (cP.row kiu),fun a=>CO a,.pure,false⟩
theorem aLN:aI tab 271 aVb:=Oc aK4 rfl aG [(172,aLF),(300,bG.add64)] ⟨UI,aE0,trivial⟩ fun a=>by kernel_rfl
def pV (p0:Int):Option Bool:=some (p0 !=p0)
def aVc:bG:=⟨aB.one (aJ.int .i64),aJ.bool,fun a=>pV a,.pure,false⟩
theorem aLO:aI tab 170 aVc:=Oc aJ1 rfl aG [] trivial fun a=>by kernel_rfl
def kI (p0:Int) (p1:Int):Option Int:=(pV p0).bind fun b0=>(pV p1).bind fun b1=>bif b0 then bif b1 then some 0 else some (-1) else bif b1 then some 1 else bif decide (p0<p1) then some (-1) else bif decide (p1<p0) then some 1 else some 0
def aS1:bG:=⟨aB.cons (aJ.int .i64) (aB.one (aJ.int .i64)),aJ.int .i64,fun a=>kI a.1 a.2,.pure,false⟩
theorem aB8:aI tab 108 aS1:=Oc aJq rfl aG [(170,aVc)] ⟨aLO,trivial⟩ fun a=>by kernel_rfl
def AP (s:(Int×(List Int)×Int×Int)):Option (bO (Int×(List Int)×Int×Int) Int):=bif decide (s.2.2.2<s.2.2.1) then (aN s.2.1 s.2.2.2).bind fun n0=>bif n0 !=s.1 then some (.done n0) else some (.next (s.1,s.2.1,s.2.2.1,aA .i64 (s.2.2.2+1))) else some (.done s.1)
def xZ (p0:List Int):Option Int:=aH AP (0,p0,Int.ofNat p0.length,0)
def aS2:bG:=⟨aB.one (aJ.sl ki),aJ.int .i64,fun a=>xZ a,.pure,false⟩
theorem aB9:aI tab 231 aS2:=Oc aKF rfl aG [] trivial fun a=>by kernel_rfl
def nV (p0:Int×Int×Int) (p1:Int×Int×Int) (p2:Int×Int):Option Int:=(CO (aA .i64 (p0.2.1-p1.2.1),p2.2,aA .i64 (p0.2.2-p1.2.2),p2.1)).bind fun a0=>bif !((a0.1==0)&&(a0.2==0)) then bif decide (a0.1<0) then some (-1) else some 1 else (kI p0.2.2 p1.2.2).bind fun n1=>(eU p1.1 p0.1).bind fun n2=>(xZ [n1,n2]).bind fun n3=>some n3
def aS3:bG:=⟨aB.cons (aJ.agg (cP.row eW)) (aB.cons (aJ.agg (cP.row eW)) (aB.one (aJ.agg (cP.row jC)))),aJ.int .i64,fun a=>nV a.1 a.2.1 a.2.2,.pure,false⟩
theorem aCa:aI tab 226 aS3:=Oc aKC rfl aG [(271,aVb),(108,aS1),(232,XK),(231,aS2)] ⟨aLN,aB8,CN,aB9,trivial⟩ fun a=>by kernel_rfl
def rY (p0:Int×Int×Int) (p1:Int×Int×Int) (p2:Int×Int):Option (Bool×Int):=(tM p0 p1 p2).bind fun n0=>bif n0 !=0 then some (false,n0) else (nV p0 p1 p2).bind fun n1=>some (decide (0<n1),0)
def aVd:bG:=⟨aB.cons (aJ.agg (cP.row eW)) (aB.cons (aJ.agg (cP.row eW)) (aB.one (aJ.agg (cP.row jC)))),aJ.tup (aB.cons aJ.bool (aB.one (aJ.int .i64))),fun a=>rY a.1 a.2.1 a.2.2,.pure,false⟩
theorem aLP:aI tab 159 aVd:=Oc aJX rfl aG [(225,aLM),(226,aS3)] ⟨UK,aCa,trivial⟩ fun a=>by kernel_rfl
def qT (p0:Field) (p1:Int×Int) (p2:Int) (p3:Int):Option Int:=bif decide ((if p3<p2 then p3 else p2)<0) then some (if p3>p2 then p3 else p2) else (kH p0 p2).bind fun a0=>(kH p0 p3).bind fun a1=>(aN p0.points a0.1).bind fun a2=>(aN p0.points a1.1).bind fun a3=>(rY a2 a3 p1).bind fun a4=>bif a4.1 then some p2 else some p3
def aVe:bG:=⟨aB.cons (aJ.agg bR) (aB.cons (aJ.agg (cP.row jC)) (aB.cons (aJ.int .i64) (aB.one (aJ.int .i64)))),aJ.int .i64,fun a=>qT a.1 a.2.1 a.2.2.1 a.2.2.2,.pure,false⟩
theorem aLQ:aI tab 187 aVe:=Oc aKg rfl aG [(247,aS0),(159,aVd)] ⟨aB7,aLP,trivial⟩ fun a=>by kernel_rfl
def K0 (s:aDm):Option (bO aDm (bH×Int)):=bif decide (0<=s.1) then (gM (bH.mk s.2.2.2.2.1 s.2.2.2.2.2) (aA .i64 ((aA .i64 (2*s.1))+1))).bind fun n0=>(gM (bH.mk s.2.2.2.2.1 s.2.2.2.2.2) (aA .i64 ((aA .i64 (2*s.1))+2))).bind fun n1=>(qT (Field.mk s.2.1) (s.2.2.1,s.2.2.2.1) n0 n1).bind fun n2=>(aN s.2.2.2.2.2 s.1).bind fun _=>some (.next (aA .i64 (s.1-1),s.2.1,s.2.2.1,s.2.2.2.1,s.2.2.2.2.1,cO s.2.2.2.2.2 s.1 n2)) else some (.done (bH.mk s.2.2.2.2.1 s.2.2.2.2.2,0))
def jL (s:aDm):Option (bO aDm aUT):=bif decide (0<=s.1) then (gM (bH.mk s.2.2.2.2.1 s.2.2.2.2.2) (aA .i64 ((aA .i64 (2*s.1))+1))).bind fun n0=>(gM (bH.mk s.2.2.2.2.1 s.2.2.2.2.2) (aA .i64 ((aA .i64 (2*s.1))+2))).bind fun n1=>(qT (Field.mk s.2.1) (s.2.2.1,s.2.2.2.1) n0 n1).bind fun n2=>(aN s.2.2.2.2.2 s.1).bind fun _=>some (.next (aA .i64 (s.1-1),s.2.1,s.2.2.1,s.2.2.2.1,s.2.2.2.2.1,cO s.2.2.2.2.2 s.1 n2)) else some (.done (.done (bH.mk s.2.2.2.2.1 s.2.2.2.2.2,0)))
def oR (c0:Int) (c1:(List Int)) (s:aUS):Option aUT:=bif decide (s.2.2.1<s.2.1) then (aN s.1 s.2.2.1).bind fun n0=>bif !(!(vK false s.2.2.2.2.2.2 n0)) then bif !(!(decide (0<=s.2.2.1))) then some (.done (bH.mk [] [],14)) else bif c0 !=0 then some (.done (bH.mk [] [],c0)) else (bZ c1).bind fun l1=>bif (aA .i64 ((Int.ofNat c1.length) -1))==(aA .i64 ((Int.ofNat c1.length) -1)) then (tB (aA .i64 ((Int.ofNat c1.length) -1)) (0:Int)).bind fun l2=>aH jL (aA .i64 ((Int.ofNat l2.length) -1),s.2.2.2.1,s.2.2.2.2.1,s.2.2.2.2.2.1,l1,l2) else none else some (.next (s.1,s.2.1,aA .i64 (s.2.2.1+1),s.2.2.2.1,s.2.2.2.2.1,s.2.2.2.2.2.1,tC s.2.2.2.2.2.2 n0 (decide (0<=n0)))) else bif c0 !=0 then some (.done (bH.mk [] [],c0)) else (bZ c1).bind fun l3=>bif (aA .i64 ((Int.ofNat c1.length) -1))==(aA .i64 ((Int.ofNat c1.length) -1)) then (tB (aA .i64 ((Int.ofNat c1.length) -1)) (0:Int)).bind fun l4=>aH jL (aA .i64 ((Int.ofNat l4.length) -1),s.2.2.2.1,s.2.2.2.2.1,s.2.2.2.2.2.1,l3,l4) else none
def uK (p0:Field) (p1:Int×Int) (p2:List Int):Option (bH×Int):=(AO p0 p1).bind fun n0=>bif n0 !=0 then bif n0 !=0 then some (bH.mk [] [],n0) else (bZ p2).bind fun l1=>bif (aA .i64 ((Int.ofNat p2.length) -1))==(aA .i64 ((Int.ofNat p2.length) -1)) then (tB (aA .i64 ((Int.ofNat p2.length) -1)) (0:Int)).bind fun l2=>aH K0 (aA .i64 ((Int.ofNat l2.length) -1),p0.points,p1.1,p1.2,l1,l2) else none else bif decide ((Int.ofNat p2.length)<1) then some (bH.mk [] [],2) else bif decide (64<(Int.ofNat p2.length)) then some (bH.mk [] [],2) else (uJ p0 p2).bind fun b3=>bif !b3 then some (bH.mk [] [],6) else aH (oR n0 p2) (p2,Int.ofNat p2.length,0,p0.points,p1.1,p1.2,tC [] (-1) false)
def aVf:bG:=⟨aB.cons (aJ.agg bR) (aB.cons (aJ.agg (cP.row jC)) (aB.one (aJ.sl ki))),aJ.tup (aB.cons (aJ.agg fW) (aB.one (aJ.int .i64))),fun a=>uK a.1 a.2.1 a.2.2,.frz,false⟩
theorem aLR:aI tab 115 aVf:=aI.of aJv (cx:=(mS aG [(185,aU7),(186,aVa),(67,bG.clone ki),(126,aLL),(187,aVe)] [] [(131,aEU),(132,aDh),(200,aAt),(134,XG),(201,aDi),(199,aEV)] [])) rfl (kC.make ⟨aLH,aLK,rU,UJ,aLQ,trivial⟩ trivial ⟨aBR,T9,MY,JC,UD,aBW,trivial⟩) (fun a=>by kernel_rfl)
def Q0 (p0:Int) (p1:bH):Option Int:=bif decide (p0<(Int.ofNat p1.wins.length)) then (aN p1.wins p0).bind fun n0=>some n0 else (aN p1.places (aA .i64 (p0- (Int.ofNat p1.wins.length)))).bind fun n1=>some n1
def aVg:bG:=⟨aB.cons (aJ.int .i64) (aB.one (aJ.ref fW)),aJ.int .i64,fun a=>Q0 a.1 a.2,.pure,false⟩
theorem aLS:aI tab 116 aVg:=Oc aBP rfl aG [] trivial fun a=>by kernel_rfl
def nW (s:((List Int)×Int×Int×(List Int)×(List Int)×rV)):Option (bO ((List Int)×Int×Int×(List Int)×(List Int)×rV) (bH×rV)):=match s with |(a,b,d,e,f,g)=>bif decide (d<b) then (aN a d).bind fun n0=>bif decide ((aA .i64 ((aA .i64 (2*d))+1))<(Int.ofNat f.length)) then (aN f (aA .i64 ((aA .i64 (2*d))+1))).bind fun n1=>bif g.length==g.length then bif decide ((aA .i64 ((aA .i64 (2*d))+2))<(Int.ofNat f.length)) then (aN f (aA .i64 ((aA .i64 (2*d))+2))).bind fun n2=>bif g.length==g.length then bif decide (0<=n1) then bif decide (0<=n2) then (bT g [(aA .i64 ((aA .i64 (n1+n2)) -n0),n0)]).bind fun l3=>some (.next (a,b,aA .i64 (d+1),e,f,l3)) else some (.next (a,b,aA .i64 (d+1),(e,f,g))) else some (.next (a,b,aA .i64 (d+1),(e,f,g))) else none else (aN e (aA .i64 ((aA .i64 ((aA .i64 (2*d))+2)) - (Int.ofNat f.length)))).bind fun n4=>bif g.length==g.length then bif decide (0<=n1) then bif decide (0<=n4) then (bT g [(aA .i64 ((aA .i64 (n1+n4)) -n0),n0)]).bind fun l5=>some (.next (a,b,aA .i64 (d+1),e,f,l5)) else some (.next (a,b,aA .i64 (d+1),(e,f,g))) else some (.next (a,b,aA .i64 (d+1),(e,f,g))) else none else none else (aN e (aA .i64 ((aA .i64 ((aA .i64 (2*d))+1)) - (Int.ofNat f.length)))).bind fun n6=>bif g.length==g.length then bif decide ((aA .i64 ((aA .i64 (2*d))+2))<(Int.ofNat f.length)) then (aN f (aA .i64 ((aA .i64 (2*d))+2))).bind fun n7=>bif g.length==g.length then bif decide (0<=n6) then bif decide (0<=n7) then (bT g [(aA .i64 ((aA .i64 (n6+n7)) -n0),n0)]).bind fun l8=>some (.next (a,b,aA .i64 (d+1),e,f,l8)) else some (.next (a,b,aA .i64 (d+1),(e,f,g))) else some (.next (a,b,aA .i64 (d+1),(e,f,g))) else none else (aN e (aA .i64 ((aA .i64 ((aA .i64 (2*d))+2)) - (Int.ofNat f.length)))).bind fun n9=>bif g.length==g.length then bif decide (0<=n6) then bif decide (0<=n9) then (bT g [(aA .i64 ((aA .i64 (n6+n9)) -n0),n0)]).bind fun l10=>some (.next (a,b,aA .i64 (d+1),e,f,l10)) else some (.next (a,b,aA .i64 (d+1),(e,f,g))) else some (.next (a,b,aA .i64 (d+1),(e,f,g))) else none else none else some (.done (bH.mk e f,g))
def nX (p0:Field) (p1:Int×Int) (p2:List Int):Option (bH×rV):=(uK p0 p1 p2).bind fun a0=>aH nW (a0.1.wins,Int.ofNat a0.1.wins.length,0,a0.1.places,a0.1.wins,[])
def c54:bG:=⟨aB.cons (aJ.agg bR) (aB.cons (aJ.agg (cP.row jC)) (aB.one (aJ.sl ki))),aJ.tup (aB.cons (aJ.agg fW) (aB.one (aJ.sl jC))),fun a=>nX a.1 a.2.1 a.2.2,.frz,false⟩
theorem aAv:aI tab 54 c54:=aI.of aR9 (cx:=(mS aG [(115,aVf),(116,aVg)] [] [(116,aGV)] [])) rfl (kC.make ⟨aLR,aLS,trivial⟩ trivial ⟨aBP,trivial⟩) (fun a=>by kernel_rfl)
def yA (p0:Int×Int):Option Bool:=bif decide (0<=(if p0.2<p0.1 then p0.2 else p0.1)) then bif decide ((if p0.2>p0.1 then p0.2 else p0.1)<=65535) then some (p0.1 !=p0.2) else some false else some false
def aS4:bG:=⟨aB.one (aJ.agg (cP.row jC)),aJ.bool,fun a=>yA a,.pure,false⟩
theorem aCb:aI tab 194 aS4:=Oc aKm rfl aG [] trivial fun a=>by kernel_rfl
def uL (s:aUW):Option (bO aUW Int):=bif decide (s.2.2.2.1<s.2.2.1) then (aN s.2.1 s.2.2.2.1).bind fun a0=>(yA a0.2).bind fun b1=>bif !b1 then some (.done 8) else (WJ s.2.2.2.2.2.2 [a0.2.1,a0.2.2]).bind fun b2=>bif b2 then some (.done 8) else bif decide (a0.1<=s.1) then some (.done 8) else bif decide (s.2.2.2.2.1<=a0.1) then some (.done 8) else (WK s.2.2.2.2.2.2 [a0.2.1,a0.2.2]).bind fun l3=>some (.next (a0.1,s.2.1,s.2.2.1,aA .i64 (s.2.2.2.1+1),s.2.2.2.2.1,s.2.2.2.2.2.1,l3)) else some (.done 0)
def tN (p0:bI):Option Int:=bif decide (200<(Int.ofNat p0.list.length)) then some 8 else bif decide (p0.next_<0) then some 8 else bif decide (1000000<p0.next_) then some 8 else aH uL (-1,p0.list,Int.ofNat p0.list.length,0,p0.next_,p0.list,[])
def aLT:bG:=⟨aB.one (aJ.agg hO),aJ.int .i64,fun a=>tN a,.pure,false⟩
theorem UL:aI tab 128 aLT:=Oc aJE rfl aG [(194,aS4)] ⟨aCb,trivial⟩ fun a=>by kernel_rfl
def iA (s:((List Bool)×Bool×Int×Int)):Option (bO ((List Bool)×Bool×Int×Int) Int):=bif decide (s.2.2.2<s.2.2.1) then (aN s.1 s.2.2.2).bind fun b0=>bif s.2.1==b0 then some (.done s.2.2.2) else some (.next (s.1,s.2.1,s.2.2.1,aA .i64 (s.2.2.2+1))) else some (.done (-1))
def rZ (p0:List Bool) (p1:Bool):Option Int:=aH iA (p0,p1,Int.ofNat p0.length,0)
def aVh:bG:=⟨aB.cons (aJ.sl kb) (aB.one aJ.bool),aJ.int .i64,fun a=>rZ a.1 a.2,.pure,false⟩
theorem aLU:aI tab 294 aVh:=Oc aLh rfl aG [] trivial fun a=>by kernel_rfl
def eL (p0:List Bool) (p1:Bool):Option Bool:=(rZ p0 p1).bind fun n0=>some (decide (0<=n0))
def aVi:bG:=⟨aB.cons (aJ.sl kb) (aB.one aJ.bool),aJ.bool,fun a=>eL a.1 a.2,.pure,false⟩
theorem aLV:aI tab 252 aVi:=Oc aKZ rfl aG [(294,aVh)] ⟨aLU,trivial⟩ fun a=>by kernel_rfl
def hU (s:((List Int)×Int×Int×(List Int)×(List Bool)×(List Int))):Option (bO ((List Int)×Int×Int×(List Int)×(List Bool)×(List Int)) aUY):=bif decide (s.2.2.1<s.2.1) then (aN s.1 s.2.2.1).bind fun n0=>bif decide (n0<0) then some (.done (.done 8)) else bif decide (1000000<n0) then some (.done (.done 8)) else bif n0==0 then (aN s.2.2.2.2.1 s.2.2.1).bind fun b1=>bif b1 then some (.done (.done 8)) else some (.next (s.1,s.2.1,aA .i64 (s.2.2.1+1),s.2.2.2)) else some (.next (s.1,s.2.1,aA .i64 (s.2.2.1+1),s.2.2.2)) else some (.done (.done 0))
def uM (c0:(List Bool)) (s:aUX):Option aUY:=match s with |(a,b,d,e,f,g,h,i)=>bif decide (d<b) then (aN a d).bind fun n0=>bif decide (n0<0) then bif i.length==i.length then bif i.length==c0.length then bif i.length==c0.length then bif decide (0<=d) then some (.done 8) else (eL i false).bind fun b1=>bif b1 then some (.done 8) else aH hU (e,Int.ofNat e.length,0,e,f,g) else none else none else none else bif decide (h<=n0) then bif i.length==i.length then bif i.length==c0.length then bif i.length==c0.length then bif decide (0<=d) then some (.done 8) else (eL i false).bind fun b2=>bif b2 then some (.done 8) else aH hU (e,Int.ofNat e.length,0,e,f,g) else none else none else none else (aN i n0).bind fun b3=>bif b3 then bif i.length==i.length then bif i.length==c0.length then bif i.length==c0.length then bif decide (0<=d) then some (.done 8) else (eL i false).bind fun b4=>bif b4 then some (.done 8) else aH hU (e,Int.ofNat e.length,0,e,f,g) else none else none else none else (aN i n0).bind fun _=>bif ((cO i n0 true).length)==i.length then some (.next (a,b,aA .i64 (d+1),e,f,g,h,cO i n0 true)) else none else bif i.length==c0.length then bif i.length==c0.length then (eL i false).bind fun b6=>bif b6 then some (.done 8) else aH hU (e,Int.ofNat e.length,0,e,f,g) else none else none
def tO (p0:aV):Option Int:=bif decide ((Int.ofNat p0.uses.length)<1) then some 8 else bif decide (200<(Int.ofNat p0.uses.length)) then some 8 else bif (Int.ofNat p0.used.length) !=(Int.ofNat p0.uses.length) then some 8 else (bZ p0.used).bind fun l0=>aH (uM l0) (p0.free,Int.ofNat p0.free.length,0,p0.uses,p0.used,p0.free,Int.ofNat p0.uses.length,l0)
def aLW:bG:=⟨aB.one (aJ.agg gC),aJ.int .i64,fun a=>tO a,.pure,false⟩
theorem UM:aI tab 195 aLW:=aI.of aKn (cx:=(mS aG [(184,bG.clone kb),(252,aVi)] [] [(200,aAt),(134,XG),(251,aID)] [])) rfl (kC.make ⟨xW,aLV,trivial⟩ trivial ⟨MY,JC,aKY,trivial⟩) (fun a=>by kernel_rfl)
def CP (p0:Int×Int) (p1:Int×Int):Option Int:=(gV p0).bind fun n0=>(gV p1).bind fun n1=>some (if n1>n0 then n1 else n0)
def aVj:bG:=⟨aB.cons (aJ.agg (cP.row jC)) (aB.one (aJ.agg (cP.row jC))),aJ.int .i64,fun a=>CP a.1 a.2,.pure,false⟩
theorem aLX:aI tab 107 aVj:=Oc aJp rfl aG [(49,c49)] ⟨EQ,trivial⟩ fun a=>by kernel_rfl
def vQ (p0:Int) (p1:Int):Option (Bool×Int×Int):=(nA p0).bind fun n0=>(nA p1).bind fun n1=>(fS n0 n1).bind fun a2=>some (!((decide (p0<0))==(decide (p1<0))),a2)
def aVk:bG:=⟨aB.cons (aJ.int .i64) (aB.one (aJ.int .i64)),aJ.agg (cP.row EM),fun a=>vQ a.1 a.2,.pure,false⟩
theorem aLY:aI tab 110 aVk:=Oc aJs rfl aG [(106,aLB),(172,aLF)] ⟨UH,UI,trivial⟩ fun a=>by kernel_rfl
def oS (p0:Int):Option Bool:=some (p0 !=p0)
def aVl:bG:=⟨aB.one (aJ.int .u64),aJ.bool,fun a=>oS a,.pure,false⟩
theorem aLZ:aI tab 233 aVl:=Oc aKH rfl aG [] trivial fun a=>by kernel_rfl
def jT (p0:Int) (p1:Int):Option Int:=(oS p0).bind fun b0=>(oS p1).bind fun b1=>bif b0 then bif b1 then some 0 else some (-1) else bif b1 then some 1 else bif decide (p0<p1) then some (-1) else bif decide (p1<p0) then some 1 else some 0
def aVm:bG:=⟨aB.cons (aJ.int .u64) (aB.one (aJ.int .u64)),aJ.int .i64,fun a=>jT a.1 a.2,.pure,false⟩
theorem aL0:aI tab 171 aVm:=Oc aJ2 rfl aG [(233,aVl)] ⟨aLZ,trivial⟩ fun a=>by kernel_rfl
def uN (p0:Bool×Int×Int) (p1:Bool×Int×Int):Option Int:=(jT p0.2.1 p1.2.1).bind fun n0=>bif n0 !=0 then some n0 else (jT p0.2.2 p1.2.2).bind fun n1=>some n1
def aVn:bG:=⟨aB.cons (aJ.agg (cP.row EM)) (aB.one (aJ.agg (cP.row EM))),aJ.int .i64,fun a=>uN a.1 a.2,.pure,false⟩
theorem aL1:aI tab 109 aVn:=Oc aJr rfl aG [(171,aVm)] ⟨aL0,trivial⟩ fun a=>by kernel_rfl
def FU (p0:Int×Int) (p1:Int×Int):Option (Int×Int):=(CP p0 p1).bind fun n0=>bif n0 !=0 then some (0,n0) else bif !((decide (p0.1<0))==(decide (p1.1<0))) then (kI p0.1 p1.1).bind fun n1=>some (n1,0) else (vQ p0.1 p1.2).bind fun a2=>(vQ p1.1 p0.2).bind fun a3=>(uN a2 a3).bind fun n4=>bif decide (p0.1<0) then some (aA .i64 (0-n4),0) else some (n4,0)
def c50:bG:=⟨aB.cons (aJ.agg (cP.row jC)) (aB.one (aJ.agg (cP.row jC))),aJ.tup (aB.cons (aJ.int .i64) (aB.one (aJ.int .i64))),fun a=>FU a.1 a.2,.pure,false⟩
theorem aS5:aI tab 50 c50:=Oc aR7 rfl aG [(107,aVj),(108,aS1),(110,aVk),(109,aVn)] ⟨aLX,aB8,aLY,aL1,trivial⟩ fun a=>by kernel_rfl
def cM (p0:Int×Int×Int×Int×Int) (p1:Int×Int×Int×Int×Int):Option Int:=(FU (p0.1,p0.2.1) (p1.1,p1.2.1)).bind fun a0=>(eU p0.2.2.1 p1.2.2.1).bind fun n1=>(xZ [a0.1,n1]).bind fun n2=>some n2
def aL2:bG:=⟨aB.cons (aJ.agg (cP.row mG)) (aB.one (aJ.agg (cP.row mG))),aJ.int .i64,fun a=>cM a.1 a.2,.pure,false⟩
theorem UN:aI tab 196 aL2:=Oc aKo rfl aG [(50,c50),(232,XK),(231,aS2)] ⟨aS5,CN,aB9,trivial⟩ fun a=>by kernel_rfl
def kD (s:aUN):Option (bO aUN aUR):=bif decide (s.2.2.1<s.2.1) then (aN s.1 s.2.2.1).bind fun a0=>(gV (a0.1,a0.2.1)).bind fun n1=>bif n1 !=0 then some (.done (.done 8)) else bif decide (a0.2.2.1<0) then some (.done (.done 8)) else bif decide (1000000<a0.2.2.1) then some (.done (.done 8)) else (WJ s.2.2.2.2.2.2.2.2 [a0.2.2.1]).bind fun b2=>bif b2 then some (.done (.done 8)) else (WK s.2.2.2.2.2.2.2.2 [a0.2.2.1]).bind fun l3=>bif decide (0<s.2.2.1) then (aN s.2.2.2.2.2.2.1 (aA .i64 (Int.tdiv (aA .i64 (s.2.2.1-1)) 2))).bind fun a4=>(cM a0 a4).bind fun n5=>bif decide (n5<0) then some (.done (.done 8)) else some (.next (s.1,s.2.1,aA .i64 (s.2.2.1+1),s.2.2.2.1,s.2.2.2.2.1,s.2.2.2.2.2.1,s.2.2.2.2.2.2.1,s.2.2.2.2.2.2.2.1,l3)) else some (.next (s.1,s.2.1,aA .i64 (s.2.2.1+1),s.2.2.2.1,s.2.2.2.2.1,s.2.2.2.2.2.1,s.2.2.2.2.2.2.1,s.2.2.2.2.2.2.2.1,l3)) else some (.done (.done 0))
def mV (s:aUQ):Option aUR:=bif decide (s.2.2.1<s.2.1) then (aN s.1 s.2.2.1).bind fun n0=>(aN s.2.2.2.2.1 s.2.2.1).bind fun b1=>bif !b1 then bif n0 !=(-1) then some (.done 8) else some (.next (s.1,s.2.1,aA .i64 (s.2.2.1+1),s.2.2.2)) else bif decide (n0<0) then some (.done 8) else bif decide ((Int.ofNat s.2.2.2.2.2.2.1.length)<=n0) then some (.done 8) else (aN s.2.2.2.2.2.2.1 n0).bind fun a2=>(aN s.2.2.2.1 s.2.2.1).bind fun n3=>bif !((a2.2.2.2.1==s.2.2.1)&&(a2.2.2.2.2==n3)) then some (.done 8) else some (.next (s.1,s.2.1,aA .i64 (s.2.2.1+1),s.2.2.2)) else aH kD (s.2.2.2.2.2.2.1,Int.ofNat s.2.2.2.2.2.2.1.length,0,s.2.2.2.1,s.2.2.2.2.1,s.2.2.2.2.2.1,s.2.2.2.2.2.2.1,s.2.2.2.2.2.2.2,[])
def mH (p0:aO):Option Int:=(tO p0.slots).bind fun n0=>bif n0 !=0 then some 8 else bif (Int.ofNat p0.where_.length) !=(Int.ofNat p0.slots.used.length) then some 8 else bif (Int.ofNat p0.heap.length) !=(aA .i64 ((Int.ofNat p0.slots.used.length) - (Int.ofNat p0.slots.free.length))) then some 8 else aH mV (p0.where_,Int.ofNat p0.where_.length,0,p0.slots.uses,p0.slots.used,p0.slots.free,p0.heap,p0.where_)
def aE6:bG:=⟨aB.one (aJ.agg dE),aJ.int .i64,fun a=>mH a,.pure,false⟩
theorem MZ:aI tab 129 aE6:=Oc aJF rfl aG [(195,aLW),(49,c49),(196,aL2)] ⟨UM,EQ,UN,trivial⟩ fun a=>by kernel_rfl
def AQ (p0:Int×Int×Int) (p1:Int):Option Int:=(eU p0.1 p1).bind fun n0=>some n0
def aVo:bG:=⟨aB.cons (aJ.agg (cP.row eW)) (aB.one (aJ.int .i64)),aJ.int .i64,fun a=>AQ a.1 a.2,.pure,false⟩
theorem aL3:aI tab 254 aVo:=Oc aK0 rfl aG [(232,XK)] ⟨CN,trivial⟩ fun a=>by kernel_rfl
def jM (s:QZ):Option aE1:=bif decide (s.2.2.2.1<s.2.2.2.2) then (aN s.1 (aA .i64 (rJ .u64 (aA .u64 (aA .i64 (s.2.2.2.1+s.2.2.2.2))) 1))).bind fun a0=>(AQ a0 s.2.1).bind fun n1=>bif decide (n1<0) then some (.next (s.1,s.2.1,s.2.2.1,aA .i64 ((aA .i64 (rJ .u64 (aA .u64 (aA .i64 (s.2.2.2.1+s.2.2.2.2))) 1))+1),s.2.2.2.2)) else some (.next (s.1,s.2.1,s.2.2.1,s.2.2.2.1,aA .i64 (rJ .u64 (aA .u64 (aA .i64 (s.2.2.2.1+s.2.2.2.2))) 1))) else bif decide (s.2.2.2.1<s.2.2.1) then (aN s.1 s.2.2.2.1).bind fun a2=>(AQ a2 s.2.1).bind fun n3=>some (.done (s.2.2.2.1,n3==0)) else some (.done (s.2.2.2.1,false))
def dG (p0:List (Int×Int×Int)) (p1:Int) (_:Unit):Option (Int×Bool):=aH jM (p0,p1,Int.ofNat p0.length,0,Int.ofNat p0.length)
def XN:bG:=⟨aB.cons (aJ.sl eW) (aB.cons (aJ.int .i64) (aB.one (aJ.clo 254 aB.nil))),aJ.tup (aB.cons (aJ.int .i64) (aB.one aJ.bool)),fun a=>dG a.1 a.2.1 a.2.2,.pure,false⟩
theorem XO:aI tab 253 XN:=Oc UF rfl aG [(254,aVo)] ⟨aL3,trivial⟩ fun a=>by kernel_rfl
def kJ (p0:Field) (p1:Int):Option (Int×Int×Int):=(dG p0.points p1 ()).bind fun a0=>bif !a0.2 then some (-1,0,0) else (aN p0.points a0.1).bind fun a1=>some a1
def aL4:bG:=⟨aB.cons (aJ.agg bR) (aB.one (aJ.int .i64)),aJ.agg (cP.row eW),fun a=>kJ a.1 a.2,.pure,false⟩
theorem UO:aI tab 198 aL4:=Oc aKq rfl aG [(253,XN)] ⟨XO,trivial⟩ fun a=>by kernel_rfl
def ES (p0:Bool×Int×Int) (p1:Int) (p2:Int):Option ((Int×Int)×Int):=bif decide (0<p0.2.1) then some ((0,0),16) else bif decide (9223372036854775807<p0.2.2) then some ((0,0),16) else bif decide (0<p1) then some ((0,0),16) else bif decide (9223372036854775807<p2) then some ((0,0),16) else bif p0.1 then some ((aA .i64 (0- (aA .i64 p0.2.2)),aA .i64 p2),0) else some ((aA .i64 p0.2.2,aA .i64 p2),0)
def aVp:bG:=⟨aB.cons (aJ.agg (cP.row EM)) (aB.cons (aJ.int .u64) (aB.one (aJ.int .u64))),aJ.tup (aB.cons (aJ.agg (cP.row jC)) (aB.one (aJ.int .i64))),fun a=>ES a.1 a.2.1 a.2.2,.pure,false⟩
theorem aL5:aI tab 273 aVp:=Oc aK6 rfl aG [] trivial fun a=>by kernel_rfl
def CQ (p0:Int) (p1:Int):Option ((Int×Int)×Int):=bif p1==0 then some ((0,0),26) else (nA p0).bind fun n0=>(nA p1).bind fun n1=>(BM n0 n1).bind fun n2=>(nA p0).bind fun n3=>bif n2==0 then none else (nA p1).bind fun n4=>bif n2==0 then none else (ES (!((decide (p0<0))==(decide (p1<0))),0,aA .u64 (Int.tdiv n3 n2)) 0 (aA .u64 (Int.tdiv n4 n2))).bind fun a5=>some a5
def aVq:bG:=⟨aB.cons (aJ.int .i64) (aB.one (aJ.int .i64)),aJ.tup (aB.cons (aJ.agg (cP.row jC)) (aB.one (aJ.int .i64))),fun a=>CQ a.1 a.2,.pure,false⟩
theorem aL6:aI tab 229 aVq:=Oc aKE rfl aG [(106,aLB),(105,aSV),(273,aVp)] ⟨UH,aB4,aL5,trivial⟩ fun a=>by kernel_rfl
def ET (p0:Int×Int×Int) (p1:Int×Int×Int):Option ((Int×Int)×Int):=(tM p0 p1 (0,1)).bind fun n0=>bif n0 !=0 then some ((0,0),n0) else bif p0.2.2==p1.2.2 then some ((0,0),6) else (CQ (aA .i64 (p0.2.1-p1.2.1)) (aA .i64 (p1.2.2-p0.2.2))).bind fun a1=>some a1
def aVr:bG:=⟨aB.cons (aJ.agg (cP.row eW)) (aB.one (aJ.agg (cP.row eW))),aJ.tup (aB.cons (aJ.agg (cP.row jC)) (aB.one (aJ.int .i64))),fun a=>ET a.1 a.2,.pure,false⟩
theorem aL7:aI tab 163 aVr:=Oc aJZ rfl aG [(225,aLM),(229,aVq)] ⟨UK,aL6,trivial⟩ fun a=>by kernel_rfl
def wZ (p0:Int×Int×Int) (p1:Int×Int×Int) (p2:Int×Int):Option ((Int×Int)×Bool×Int):=(tM p0 p1 p2).bind fun n0=>bif n0 !=0 then some ((0,0),false,n0) else (nV p1 p0 p2).bind fun n1=>bif decide (0<n1) then some (p2,true,0) else bif decide (p1.2.2<=p0.2.2) then some ((0,0),false,0) else (ET p0 p1).bind fun a2=>some (a2.1,a2.2==0,a2.2)
def aVs:bG:=⟨aB.cons (aJ.agg (cP.row eW)) (aB.cons (aJ.agg (cP.row eW)) (aB.one (aJ.agg (cP.row jC)))),aJ.tup (aB.cons (aJ.agg (cP.row jC)) (aB.cons aJ.bool (aB.one (aJ.int .i64)))),fun a=>wZ a.1 a.2.1 a.2.2,.pure,false⟩
theorem aL8:aI tab 197 aVs:=Oc aKp rfl aG [(225,aLM),(226,aS3),(163,aVr)] ⟨UK,aCa,aL7,trivial⟩ fun a=>by kernel_rfl
def tP (p0:Field) (p1:Int×Int) (p2:Int×Int):Option ((Int×Int)×Bool×Int):=(kJ p0 p1.2).bind fun a0=>(kJ p0 p1.1).bind fun a1=>(wZ a0 a1 p2).bind fun a2=>some a2
def aL9:bG:=⟨aB.cons (aJ.agg bR) (aB.cons (aJ.agg (cP.row jC)) (aB.one (aJ.agg (cP.row jC)))),aJ.tup (aB.cons (aJ.agg (cP.row jC)) (aB.cons aJ.bool (aB.one (aJ.int .i64)))),fun a=>tP a.1 a.2.1 a.2.2,.pure,false⟩
theorem UP:aI tab 130 aL9:=Oc aJG rfl aG [(198,aL4),(197,aVs)] ⟨UO,aL8,trivial⟩ fun a=>by kernel_rfl
def cZ (s:Zt8):Option (bO Zt8 aUH):=bif decide (s.2.2.2.1<s.2.2.1) then (aN s.2.1 s.2.2.2.1).bind fun a0=>(tP (Field.mk s.2.2.2.2.2.2.1) a0.2 (s.2.2.2.2.1,s.2.2.2.2.2.1)).bind fun a1=>bif a1.2.2 !=0 then some (.done (.done 8)) else bif !a1.2.1 then some (.next (s.1,s.2.1,s.2.2.1,aA .i64 (s.2.2.2.1+1),s.2.2.2.2)) else bif (Int.ofNat s.1.length)==0 then some (.done (.done 8)) else (aN s.1 0).bind fun a2=>bif a2.1 !=a0.1 then some (.done (.done 8)) else (aN s.1 0).bind fun a3=>bif decide (a3.2.1<0) then some (.done (.done 8)) else bif decide (200<=a3.2.1) then some (.done (.done 8)) else (aN s.2.2.2.2.2.2.2.2.2.2.2.2.2.1 a3.2.1).bind fun n4=>bif decide (n4<0) then some (.done (.done 8)) else (aN s.2.2.2.2.2.2.2.2.2.2.2.2.2.1 a3.2.1).bind fun n5=>(aN s.2.2.2.2.2.2.2.2.2.2.2.2.1 n5).bind fun a6=>bif !((a6.1==a1.1.1)&&((a6.2.1==a1.1.2)&&((a6.2.2.1==a0.1)&&((a6.2.2.2.1==a3.2.1)&&(a6.2.2.2.2==a3.2.2))))) then some (.done (.done 8)) else (jE s.1 1 (Int.ofNat s.1.length)).bind fun l7=>some (.next (l7,s.2.1,s.2.2.1,aA .i64 (s.2.2.2.1+1),s.2.2.2.2)) else bif decide (0<(Int.ofNat s.1.length)) then some (.done (.done 8)) else some (.done (.done 0))
def fM (s:aUG):Option aUH:=match s with |(a,b,d,e,f,g,h,i,j,k,l,m,n,o)=>bif decide (b<a) then (aN o b).bind fun n0=>bif n0 !=0 then some (.done 8) else some (.next (a,aA .i64 (b+1),(d,e,f,g,h,i,j,k,l,m,n,o))) else bif (Int.ofNat m.length) !=200 then some (.done 8) else bif (Int.ofNat l.length) !=(Int.ofNat n.length) then some (.done 8) else aH cZ (n,h,Int.ofNat h.length,0,d,e,f,g,h,i,j,k,l,m,n)
def iB (p0:aQ):Option Int:=(gV p0.now).bind fun n0=>(fX p0.field).bind fun n1=>(tN p0.certs).bind fun n2=>(mH p0.agenda).bind fun n3=>aH fM (Int.ofNat ([n0,n1,n2,n3].length),0,p0.now.1,p0.now.2,p0.field.points,p0.certs.next_,p0.certs.list,p0.agenda.slots.uses,p0.agenda.slots.used,p0.agenda.slots.free,p0.agenda.heap,p0.agenda.where_,p0.due,[n0,n1,n2,n3])
def c65:bG:=⟨aB.one (aJ.agg bV),aJ.int .i64,fun a=>iB a,.pure,false⟩
theorem O2:aI tab 65 c65:=Oc aSi rfl aG [(49,c49),(122,aAu),(128,aLT),(129,aE6),(130,aL9)] ⟨EQ,F0s,UL,MZ,UP,trivial⟩ fun a=>by kernel_rfl
def kK (s:(rV×Int×Int×Int×Int)):Option (bO (rV×Int×Int×Int×Int) Int):=bif decide (s.2.2.1<s.2.1) then (aN s.1 s.2.2.1).bind fun a0=>bif (s.2.2.2.1==a0.1)&&(s.2.2.2.2==a0.2) then some (.done s.2.2.1) else some (.next (s.1,s.2.1,aA .i64 (s.2.2.1+1),s.2.2.2)) else some (.done (-1))
def sA (p0:List (Int×Int)) (p1:Int×Int):Option Int:=aH kK (p0,Int.ofNat p0.length,0,p1)
def aVt:bG:=⟨aB.cons (aJ.sl jC) (aB.one (aJ.agg (cP.row jC))),aJ.int .i64,fun a=>sA a.1 a.2,.pure,false⟩
theorem aMa:aI tab 213 aVt:=Oc aKr rfl aG [] trivial fun a=>by kernel_rfl
def eM (p0:List (Int×Int)) (p1:Int×Int):Option Bool:=(sA p0 p1).bind fun n0=>some (decide (0<=n0))
def aE7:bG:=⟨aB.cons (aJ.sl jC) (aB.one (aJ.agg (cP.row jC))),aJ.bool,fun a=>eM a.1 a.2,.pure,false⟩
theorem M0:aI tab 138 aE7:=Oc aJI rfl aG [(213,aVt)] ⟨aMa,trivial⟩ fun a=>by kernel_rfl
def CR (p0:Int×Int×Int) (p1:Int):Option Int:=(eU p0.1 p1).bind fun n0=>some n0
def aVu:bG:=⟨aB.cons (aJ.agg (cP.row eW)) (aB.one (aJ.int .i64)),aJ.int .i64,fun a=>CR a.1 a.2,.pure,false⟩
theorem aMb:aI tab 307 aVu:=Oc aLl rfl aG [(232,XK)] ⟨CN,trivial⟩ fun a=>by kernel_rfl
def jU (s:QZ):Option aE1:=bif decide (s.2.2.2.1<s.2.2.2.2) then (aN s.1 (aA .i64 (rJ .u64 (aA .u64 (aA .i64 (s.2.2.2.1+s.2.2.2.2))) 1))).bind fun a0=>(CR a0 s.2.1).bind fun n1=>bif decide (n1<0) then some (.next (s.1,s.2.1,s.2.2.1,aA .i64 ((aA .i64 (rJ .u64 (aA .u64 (aA .i64 (s.2.2.2.1+s.2.2.2.2))) 1))+1),s.2.2.2.2)) else some (.next (s.1,s.2.1,s.2.2.1,s.2.2.2.1,aA .i64 (rJ .u64 (aA .u64 (aA .i64 (s.2.2.2.1+s.2.2.2.2))) 1))) else bif decide (s.2.2.2.1<s.2.2.1) then (aN s.1 s.2.2.2.1).bind fun a2=>(CR a2 s.2.1).bind fun n3=>some (.done (s.2.2.2.1,n3==0)) else some (.done (s.2.2.2.1,false))
def dI (p0:List (Int×Int×Int)) (p1:Int) (_:Unit):Option (Int×Bool):=aH jU (p0,p1,Int.ofNat p0.length,0,Int.ofNat p0.length)
def XP:bG:=⟨aB.cons (aJ.sl eW) (aB.cons (aJ.int .i64) (aB.one (aJ.clo 307 aB.nil))),aJ.tup (aB.cons (aJ.int .i64) (aB.one aJ.bool)),fun a=>dI a.1 a.2.1 a.2.2,.pure,false⟩
theorem XQ:aI tab 253 XP:=Oc UF rfl aG [(307,aVu)] ⟨aMb,trivial⟩ fun a=>by kernel_rfl
def HO (p0:Field) (p1:Int):Option (Int×Bool):=(dI p0.points p1 ()).bind fun a0=>some a0
def aVv:bG:=⟨aB.cons (aJ.agg bR) (aB.one (aJ.int .i64)),aJ.tup (aB.cons (aJ.int .i64) (aB.one aJ.bool)),fun a=>HO a.1 a.2,.pure,false⟩
theorem aMc:aI tab 288 aVv:=Oc aLb rfl aG [(253,XP)] ⟨XQ,trivial⟩ fun a=>by kernel_rfl
def EU (p0:Field) (p1:Int):Option (Int×Int):=(fX p0).bind fun n0=>bif n0 !=0 then some (0,n0) else (HO p0 p1).bind fun a1=>bif !a1.2 then some (0,6) else some (a1.1,0)
def aVw:bG:=⟨aB.cons (aJ.agg bR) (aB.one (aJ.int .i64)),aJ.tup (aB.cons (aJ.int .i64) (aB.one (aJ.int .i64))),fun a=>EU a.1 a.2,.pure,false⟩
theorem aMd:aI tab 240 aVw:=Oc aKO rfl aG [(122,aAu),(288,aVv)] ⟨F0s,aMc,trivial⟩ fun a=>by kernel_rfl
def yB (p0:Field) (p1:Int):Option ((Int×Int×Int)×Int):=(EU p0 p1).bind fun a0=>bif a0.2 !=0 then some ((0,0,0),a0.2) else (aN p0.points a0.1).bind fun a1=>some (a1,0)
def aVx:bG:=⟨aB.cons (aJ.agg bR) (aB.one (aJ.int .i64)),aJ.tup (aB.cons (aJ.agg (cP.row eW)) (aB.one (aJ.int .i64))),fun a=>yB a.1 a.2,.pure,false⟩
theorem aMe:aI tab 178 aVx:=Oc aJ8 rfl aG [(240,aVw)] ⟨aMd,trivial⟩ fun a=>by kernel_rfl
def yC (p0:aQ):Option aQ:=(bZ p0.field.points).bind fun l0=>(bZ p0.certs.list).bind fun l1=>(bZ p0.due).bind fun l2=>(bZ p0.agenda.heap).bind fun l3=>(bZ p0.agenda.where_).bind fun l4=>(bZ p0.agenda.slots.uses).bind fun l5=>(bZ p0.agenda.slots.used).bind fun l6=>(bZ p0.agenda.slots.free).bind fun l7=>some (aQ.mk p0.now (Field.mk l0) (bI.mk p0.certs.next_ l1) (aO.mk (aV.mk l5 l6 l7) l3 l4) l2)
def aVy:bG:=⟨aB.one (aJ.agg bV),aJ.agg bV,fun a=>yC a,.own,true⟩
def aNY:bG:=⟨aB.one (aJ.agg bV),aJ.agg bV,fun a=>yC a,.frz,false⟩
theorem aMf:aI tab 180 aVy:=Oc aBV rfl aG [(124,bG.clone eW),(181,bG.clone eW),(182,bG.clone eW),(183,bG.clone mG),(67,bG.clone ki),(184,bG.clone kb)] ⟨BK,BL,JD,xX,rU,xW,trivial⟩ fun a=>by kernel_rfl
theorem aE8:aI tab 180 aNY:=Oc aBV rfl aG [(124,bG.clone eW),(181,bG.clone eW),(182,bG.clone eW),(183,bG.clone mG),(67,bG.clone ki),(184,bG.clone kb)] ⟨BK,BL,JD,xX,rU,xW,trivial⟩ fun a=>by kernel_rfl
def vR (p0:Int×Int×Int) (p1:Int):Option Int:=(eU p0.1 p1).bind fun n0=>some n0
def aVz:bG:=⟨aB.cons (aJ.agg (cP.row eW)) (aB.one (aJ.int .i64)),aJ.int .i64,fun a=>vR a.1 a.2,.pure,false⟩
theorem aMg:aI tab 283 aVz:=Oc aK8 rfl aG [(232,XK)] ⟨CN,trivial⟩ fun a=>by kernel_rfl
def aS (s:QZ):Option aE1:=bif decide (s.2.2.2.1<s.2.2.2.2) then (aN s.1 (aA .i64 (rJ .u64 (aA .u64 (aA .i64 (s.2.2.2.1+s.2.2.2.2))) 1))).bind fun a0=>(vR a0 s.2.1).bind fun n1=>bif decide (n1<0) then some (.next (s.1,s.2.1,s.2.2.1,aA .i64 ((aA .i64 (rJ .u64 (aA .u64 (aA .i64 (s.2.2.2.1+s.2.2.2.2))) 1))+1),s.2.2.2.2)) else some (.next (s.1,s.2.1,s.2.2.1,s.2.2.2.1,aA .i64 (rJ .u64 (aA .u64 (aA .i64 (s.2.2.2.1+s.2.2.2.2))) 1))) else bif decide (s.2.2.2.1<s.2.2.1) then (aN s.1 s.2.2.2.1).bind fun a2=>(vR a2 s.2.1).bind fun n3=>some (.done (s.2.2.2.1,n3==0)) else some (.done (s.2.2.2.1,false))
def aR (p0:List (Int×Int×Int)) (p1:Int) (_:Unit):Option (Int×Bool):=aH aS (p0,p1,Int.ofNat p0.length,0,Int.ofNat p0.length)
def XS:bG:=⟨aB.cons (aJ.sl eW) (aB.cons (aJ.int .i64) (aB.one (aJ.clo 283 aB.nil))),aJ.tup (aB.cons (aJ.int .i64) (aB.one aJ.bool)),fun a=>aR a.1 a.2.1 a.2.2,.pure,false⟩
theorem XT:aI tab 282 XS:=Oc aK7 rfl aG [(283,aVz)] ⟨aMg,trivial⟩ fun a=>by kernel_rfl
def K1 (p0:bI) (p1:Int):Option (Int×Int):=(tN p0).bind fun n0=>bif n0 !=0 then some (0,n0) else (aR p0.list p1 ()).bind fun a1=>bif !a1.2 then some (0,6) else some (a1.1,0)
def aVA:bG:=⟨aB.cons (aJ.agg hO) (aB.one (aJ.int .i64)),aJ.tup (aB.cons (aJ.int .i64) (aB.one (aJ.int .i64))),fun a=>K1 a.1 a.2,.pure,false⟩
theorem aMh:aI tab 234 aVA:=Oc aKI rfl aG [(128,aLT),(282,XS)] ⟨UL,XT,trivial⟩ fun a=>by kernel_rfl
def eI (a:aE3):Option (Nat×Nat×bX):=bif (((decide (0<=a.1))&&(decide (a.1<=a.2.1)))&&(decide (a.2.1<=(Int.ofNat a.2.2.length))))&&(decide ((Int.ofNat a.2.2.length)<=(Int.ofNat a.2.2.length))) then bif a.1==a.2.1 then bif a.2.2.length==a.2.2.length then some (a.2.2.length,a.2.2.length,a.2.2) else none else (jE a.2.2 0 a.1).bind fun _=>bif ((decide (0<=a.2.1))&&(decide (a.2.1<=(Int.ofNat a.2.2.length))))&&(decide ((Int.ofNat a.2.2.length)<=(Int.ofNat a.2.2.length))) then bif ((a.2.2.drop (0+a.2.1.toNat)).take (((Int.ofNat a.2.2.length).toNat) -a.2.1.toNat)).isEmpty then bif ((decide (0<=(Int.ofNat a.1.toNat)))&&(decide ((Int.ofNat a.1.toNat)<=(Int.ofNat a.2.2.length))))&&(decide ((Int.ofNat a.2.2.length)<=(Int.ofNat a.2.2.length))) then bif Nat.beq (((Int.ofNat a.2.2.length).toNat) - ((Int.ofNat a.1.toNat).toNat)) 0 then bif a.2.2.length==a.2.2.length then some (a.1.toNat,a.2.2.length,a.2.2) else none else bif (Nat.ble ((0+((Int.ofNat a.1.toNat).toNat))+(((Int.ofNat a.2.2.length).toNat) - ((Int.ofNat a.1.toNat).toNat))) a.2.2.length)&&(!false) then bif ((jJ a.2.2 (0+((Int.ofNat a.1.toNat).toNat)) (List.replicate (((Int.ofNat a.2.2.length).toNat) - ((Int.ofNat a.1.toNat).toNat)) (0,0,0))).length)==a.2.2.length then some (a.1.toNat,a.2.2.length,jJ a.2.2 (0+((Int.ofNat a.1.toNat).toNat)) (List.replicate (((Int.ofNat a.2.2.length).toNat) - ((Int.ofNat a.1.toNat).toNat)) (0,0,0))) else none else none else none else bif Nat.ble (a.1.toNat+(((a.2.2.drop (0+a.2.1.toNat)).take (((Int.ofNat a.2.2.length).toNat) -a.2.1.toNat)).length)) a.2.2.length then bif (Nat.ble (a.1.toNat+(((a.2.2.drop (0+a.2.1.toNat)).take (((Int.ofNat a.2.2.length).toNat) -a.2.1.toNat)).length)) a.2.2.length)&&(!false) then bif ((decide (0<=(Int.ofNat (a.1.toNat+(((a.2.2.drop (0+a.2.1.toNat)).take (((Int.ofNat a.2.2.length).toNat) -a.2.1.toNat)).length)))))&&(decide ((Int.ofNat (a.1.toNat+(((a.2.2.drop (0+a.2.1.toNat)).take (((Int.ofNat a.2.2.length).toNat) -a.2.1.toNat)).length)))<=(Int.ofNat a.2.2.length))))&&(decide ((Int.ofNat a.2.2.length)<=(Int.ofNat a.2.2.length))) then bif Nat.beq (((Int.ofNat a.2.2.length).toNat) - ((Int.ofNat (a.1.toNat+(((a.2.2.drop (0+a.2.1.toNat)).take (((Int.ofNat a.2.2.length).toNat) -a.2.1.toNat)).length))).toNat)) 0 then bif ((jJ a.2.2 a.1.toNat ((a.2.2.drop (0+a.2.1.toNat)).take (((Int.ofNat a.2.2.length).toNat) -a.2.1.toNat))).length)==a.2.2.length then some (a.1.toNat+(((a.2.2.drop (0+a.2.1.toNat)).take (((Int.ofNat a.2.2.length).toNat) -a.2.1.toNat)).length),a.2.2.length,jJ a.2.2 a.1.toNat ((a.2.2.drop (0+a.2.1.toNat)).take (((Int.ofNat a.2.2.length).toNat) -a.2.1.toNat))) else none else bif (Nat.ble ((0+((Int.ofNat (a.1.toNat+(((a.2.2.drop (0+a.2.1.toNat)).take (((Int.ofNat a.2.2.length).toNat) -a.2.1.toNat)).length))).toNat))+(((Int.ofNat a.2.2.length).toNat) - ((Int.ofNat (a.1.toNat+(((a.2.2.drop (0+a.2.1.toNat)).take (((Int.ofNat a.2.2.length).toNat) -a.2.1.toNat)).length))).toNat))) ((jJ a.2.2 a.1.toNat ((a.2.2.drop (0+a.2.1.toNat)).take (((Int.ofNat a.2.2.length).toNat) -a.2.1.toNat))).length))&&(!false) then bif ((jJ (jJ a.2.2 a.1.toNat ((a.2.2.drop (0+a.2.1.toNat)).take (((Int.ofNat a.2.2.length).toNat) -a.2.1.toNat))) (0+((Int.ofNat (a.1.toNat+(((a.2.2.drop (0+a.2.1.toNat)).take (((Int.ofNat a.2.2.length).toNat) -a.2.1.toNat)).length))).toNat)) (List.replicate (((Int.ofNat a.2.2.length).toNat) - ((Int.ofNat (a.1.toNat+(((a.2.2.drop (0+a.2.1.toNat)).take (((Int.ofNat a.2.2.length).toNat) -a.2.1.toNat)).length))).toNat)) (0,0,0))).length)==a.2.2.length then some (a.1.toNat+(((a.2.2.drop (0+a.2.1.toNat)).take (((Int.ofNat a.2.2.length).toNat) -a.2.1.toNat)).length),a.2.2.length,jJ (jJ a.2.2 a.1.toNat ((a.2.2.drop (0+a.2.1.toNat)).take (((Int.ofNat a.2.2.length).toNat) -a.2.1.toNat))) (0+((Int.ofNat (a.1.toNat+(((a.2.2.drop (0+a.2.1.toNat)).take (((Int.ofNat a.2.2.length).toNat) -a.2.1.toNat)).length))).toNat)) (List.replicate (((Int.ofNat a.2.2.length).toNat) - ((Int.ofNat (a.1.toNat+(((a.2.2.drop (0+a.2.1.toNat)).take (((Int.ofNat a.2.2.length).toNat) -a.2.1.toNat)).length))).toNat)) (0,0,0))) else none else none else none else none else none else none else none
def aE9:eH:=⟨[.i,.i,.l [.i .i64,.i .i64,.i .i64]],[.own 0 false,.int .i64 0,.int .i64 0],[.arr [.i .i64,.i .i64,.i .i64] []],[.n,.n,.l [.i .i64,.i .i64,.i .i64]],.pre 0 0 0 false,[.arr [.i .i64,.i .i64,.i .i64] []],fun a=>eI a⟩
theorem aDn:mT tab 235 aE9:=mT.of aKJ (wd:=true) (cx:=(mS aG [] [] [] [])) (kC.make trivial trivial trivial) (fun a=>by kernel_rfl)
def zN (p0:bI) (p1:Int):Option (bI×(Int×Int)×Int):=(K1 p0 p1).bind fun a0=>bif a0.2 !=0 then some (bI.mk 0 [],(0,0),a0.2) else (bZ p0.list).bind fun l1=>(eI (a0.1,aA .i64 (a0.1+1),l1)).bind fun a2=>(aN p0.list a0.1).bind fun a3=>some (bI.mk p0.next_ (a2.2.2.take a2.1),a3.2,0)
def aVB:bG:=⟨aB.cons (aJ.agg hO) (aB.one (aJ.int .i64)),aJ.tup (aB.cons (aJ.agg hO) (aB.cons (aJ.agg (cP.row jC)) (aB.one (aJ.int .i64)))),fun a=>zN a.1 a.2,.frz,false⟩
theorem aMi:aI tab 174 aVB:=aI.of aJ4 (cx:=(mS aG [(234,aVA),(181,bG.clone eW)] [(235,aE9)] [] [])) rfl (kC.make ⟨aMh,BL,trivial⟩ ⟨aDn,trivial⟩ trivial) (fun a=>by kernel_rfl)
def nY (p0:aQ):Option aQ:=(bZ p0.field.points).bind fun l0=>(bZ p0.certs.list).bind fun l1=>(bZ p0.due).bind fun l2=>(bZ p0.agenda.heap).bind fun l3=>(bZ p0.agenda.where_).bind fun l4=>(bZ p0.agenda.slots.uses).bind fun l5=>(bZ p0.agenda.slots.used).bind fun l6=>(bZ p0.agenda.slots.free).bind fun l7=>some (aQ.mk p0.now (Field.mk l0) (bI.mk p0.certs.next_ l1) (aO.mk (aV.mk l5 l6 l7) l3 l4) l2)
def aMj:bG:=⟨aB.one (aJ.agg bV),aJ.agg bV,fun a=>nY a,.own,true⟩
def aCc:bG:=⟨aB.one (aJ.agg bV),aJ.agg bV,fun a=>nY a,.frz,false⟩
theorem UQ:aI tab 114 aMj:=Oc aBO rfl aG [(124,bG.clone eW),(181,bG.clone eW),(182,bG.clone eW),(183,bG.clone mG),(67,bG.clone ki),(184,bG.clone kb)] ⟨BK,BL,JD,xX,rU,xW,trivial⟩ fun a=>by kernel_rfl
theorem O3:aI tab 114 aCc:=Oc aBO rfl aG [(124,bG.clone eW),(181,bG.clone eW),(182,bG.clone eW),(183,bG.clone mG),(67,bG.clone ki),(184,bG.clone kb)] ⟨BK,BL,JD,xX,rU,xW,trivial⟩ fun a=>by kernel_rfl
def AR (p0:Int×Int×Int) (p1:Int):Option Int:=(eU p0.1 p1).bind fun n0=>some n0
def aVC:bG:=⟨aB.cons (aJ.agg (cP.row eW)) (aB.one (aJ.int .i64)),aJ.int .i64,fun a=>AR a.1 a.2,.pure,false⟩
theorem aMk:aI tab 237 aVC:=Oc aKL rfl aG [(232,XK)] ⟨CN,trivial⟩ fun a=>by kernel_rfl
def kA (s:QZ):Option aE1:=bif decide (s.2.2.2.1<s.2.2.2.2) then (aN s.1 (aA .i64 (rJ .u64 (aA .u64 (aA .i64 (s.2.2.2.1+s.2.2.2.2))) 1))).bind fun a0=>(AR a0 s.2.1).bind fun n1=>bif decide (n1<0) then some (.next (s.1,s.2.1,s.2.2.1,aA .i64 ((aA .i64 (rJ .u64 (aA .u64 (aA .i64 (s.2.2.2.1+s.2.2.2.2))) 1))+1),s.2.2.2.2)) else some (.next (s.1,s.2.1,s.2.2.1,s.2.2.2.1,aA .i64 (rJ .u64 (aA .u64 (aA .i64 (s.2.2.2.1+s.2.2.2.2))) 1))) else bif decide (s.2.2.2.1<s.2.2.1) then (aN s.1 s.2.2.2.1).bind fun a2=>(AR a2 s.2.1).bind fun n3=>some (.done (s.2.2.2.1,n3==0)) else some (.done (s.2.2.2.1,false))
def dJ (p0:List (Int×Int×Int)) (p1:Int) (_:Unit):Option (Int×Bool):=aH kA (p0,p1,Int.ofNat p0.length,0,Int.ofNat p0.length)
def XU:bG:=⟨aB.cons (aJ.sl eW) (aB.cons (aJ.int .i64) (aB.one (aJ.clo 237 aB.nil))),aJ.tup (aB.cons (aJ.int .i64) (aB.one aJ.bool)),fun a=>dJ a.1 a.2.1 a.2.2,.pure,false⟩
theorem XV:aI tab 236 XU:=Oc aKK rfl aG [(237,aVC)] ⟨aMk,trivial⟩ fun a=>by kernel_rfl
def qU (p0:List (Int×Int×Int)) (p1:Int):Option (Int×Bool):=(dJ p0 p1 ()).bind fun a0=>some a0
def aS6:bG:=⟨aB.cons (aJ.sl eW) (aB.one (aJ.int .i64)),aJ.tup (aB.cons (aJ.int .i64) (aB.one aJ.bool)),fun a=>qU a.1 a.2,.pure,false⟩
theorem aCd:aI tab 175 aS6:=Oc aJ5 rfl aG [(236,XU)] ⟨XV,trivial⟩ fun a=>by kernel_rfl
def EV (p0:aV) (p1:Int×Int):Option (Bool×Int):=(tO p0).bind fun n0=>bif n0 !=0 then some (false,n0) else bif decide (0<=p1.1) then bif decide (p1.1<(Int.ofNat p0.used.length)) then (aN p0.used p1.1).bind fun b1=>bif b1 then (aN p0.uses p1.1).bind fun n2=>some (n2==p1.2,0) else some (false,0) else some (false,0) else some (false,0)
def aS7:bG:=⟨aB.cons (aJ.agg gC) (aB.one (aJ.agg (cP.row jC))),aJ.tup (aB.cons aJ.bool (aB.one (aJ.int .i64))),fun a=>EV a.1 a.2,.pure,false⟩
theorem aCe:aI tab 284 aS7:=Oc aK9 rfl aG [(195,aLW)] ⟨UM,trivial⟩ fun a=>by kernel_rfl
def sB (p0:aO) (p1:Int×Int):Option (Int×Int):=(mH p0).bind fun n0=>bif n0 !=0 then some (0,n0) else (EV p0.slots p1).bind fun a1=>bif a1.2 !=0 then some (0,6) else bif !a1.1 then some (0,6) else (aN p0.where_ p1.1).bind fun n2=>some (n2,0)
def aS8:bG:=⟨aB.cons (aJ.agg dE) (aB.one (aJ.agg (cP.row jC))),aJ.tup (aB.cons (aJ.int .i64) (aB.one (aJ.int .i64))),fun a=>sB a.1 a.2,.pure,false⟩
theorem aCf:aI tab 238 aS8:=Oc aKM rfl aG [(129,aE6),(284,aS7)] ⟨MZ,aCe,trivial⟩ fun a=>by kernel_rfl
def wL (p0:List Int) (p1:Int):Option (List Int):=(bZ p0).bind fun l0=>(bT l0 [p1]).bind fun l1=>some l1
def aVD:bG:=⟨aB.cons (aJ.sl ki) (aB.one (aJ.int .i64)),aJ.sl ki,fun a=>wL a.1 a.2,.frz,false⟩
theorem aMl:aI tab 305 aVD:=Oc aLk rfl aG [(315,bG.clone ki)] ⟨XH,trivial⟩ fun a=>by kernel_rfl
def FV (p0:aV) (p1:Int×Int):Option (aV×Int):=(EV p0 p1).bind fun a0=>bif a0.2 !=0 then some (aV.mk [] [] [],a0.2) else bif !a0.1 then some (aV.mk [] [] [],6) else (bZ p0.uses).bind fun l1=>(bZ p0.used).bind fun l2=>(wL p0.free p1.1).bind fun l3=>(aN l2 p1.1).bind fun _=>some (aV.mk l1 (cO l2 p1.1 false) l3,0)
def aVE:bG:=⟨aB.cons (aJ.agg gC) (aB.one (aJ.agg (cP.row jC))),aJ.tup (aB.cons (aJ.agg gC) (aB.one (aJ.int .i64))),fun a=>FV a.1 a.2,.frz,false⟩
theorem aMm:aI tab 285 aVE:=aI.of aLa (cx:=(mS aG [(284,aS7),(67,bG.clone ki),(184,bG.clone kb),(305,aVD)] [] [(304,aEW)] [])) rfl (kC.make ⟨aCe,rU,xW,aMl,trivial⟩ trivial ⟨aBZ,trivial⟩) (fun a=>by kernel_rfl)
def cA (a:aLs):Option QY:=(aN (a.2.2.2.2.2.2.2.2.2.2.2.1.take a.2.2.2.1) a.2.2.2.2.2.1).bind fun _=>(aN a.2.2.2.2.2.2.2.2.2.2.2.2 a.2.2.2.2.2.2.2.2.2.1).bind fun _=>bif ((cO a.2.2.2.2.2.2.2.2.2.2.2.1 a.2.2.2.2.2.1 (a.2.2.2.2.2.2.1,a.2.2.2.2.2.2.2.1,a.2.2.2.2.2.2.2.2.1,a.2.2.2.2.2.2.2.2.2.1,a.2.2.2.2.2.2.2.2.2.2.1)).length)==a.2.2.2.2.2.2.2.2.2.2.2.1.length then bif ((cO a.2.2.2.2.2.2.2.2.2.2.2.2 a.2.2.2.2.2.2.2.2.2.1 a.2.2.2.2.2.1).length)==a.2.2.2.2.2.2.2.2.2.2.2.2.length then some (cO a.2.2.2.2.2.2.2.2.2.2.2.1 a.2.2.2.2.2.1 (a.2.2.2.2.2.2.1,a.2.2.2.2.2.2.2.1,a.2.2.2.2.2.2.2.2.1,a.2.2.2.2.2.2.2.2.2.1,a.2.2.2.2.2.2.2.2.2.2.1),cO a.2.2.2.2.2.2.2.2.2.2.2.2 a.2.2.2.2.2.2.2.2.2.1 a.2.2.2.2.2.1) else none else none
def aAw:eH:=⟨[.l [.i .i64],.l [.b],.l [.i .i64],.n,.n,.i,.i,.i,.i,.i,.i,.l [.i .i64,.i .i64,.i .i64,.i .i64,.i .i64],.l [.i .i64]],[.agg [.sl [.i .i64] [],.sl [.b] [],.sl [.i .i64] [],.pre 0 0 0 false,.own 1 false],.int .i64 0,.agg [.int .i64 0,.int .i64 0,.int .i64 0,.int .i64 0,.int .i64 0]],[.arr [.i .i64,.i .i64,.i .i64,.i .i64,.i .i64] [],.arr [.i .i64] []],[.l [.i .i64,.i .i64,.i .i64,.i .i64,.i .i64],.l [.i .i64]],.tup [],[.arr [.i .i64,.i .i64,.i .i64,.i .i64,.i .i64] [],.arr [.i .i64] []],fun a=>cA a⟩
theorem SD:mT tab 306 aAw:=mT.of aB0 (wd:=false) (cx:=(mS aG [] [] [] [])) (kC.make trivial trivial trivial) (fun a=>by kernel_rfl)
def gN (c0:aLs) (s:aUO):Option (bO aUO aUK):=match s with |(a,b,d,e,f,g,h,i,j,k,l,m,n,o)=>bif decide (b<(Int.ofNat i)) then bif decide ((aA .i64 (b+1))<(Int.ofNat i)) then (aN (d.take i) (aA .i64 (b+1))).bind fun a0=>(aN (d.take i) b).bind fun a1=>(cM a0 a1).bind fun n2=>bif decide (n2<0) then (aN (d.take i) (aA .i64 (b+1))).bind fun a3=>(cM a3 (k,l,m,n,o)).bind fun n4=>bif decide (0<=n4) then (cA (f,g,h,i,j,a,k,l,m,n,o,d,e)).bind fun a5=>bif a5.1.length==c0.2.2.2.2.2.2.2.2.2.2.2.1.length then bif a5.2.length==c0.2.2.2.2.2.2.2.2.2.2.2.2.length then some (.done (.done a5)) else none else none else (aN (d.take i) (aA .i64 (b+1))).bind fun a6=>(cA (f,g,h,i,j,a,a6.1,a6.2.1,a6.2.2.1,a6.2.2.2.1,a6.2.2.2.2,d,e)).bind fun a7=>some (.next (aA .i64 (b+1),aA .i64 ((aA .i64 (2*(aA .i64 (b+1))))+1),a7.1,a7.2,(f,g,h,i,j,k,l,m,n,o))) else (aN (d.take i) b).bind fun a8=>(cM a8 (k,l,m,n,o)).bind fun n9=>bif decide (0<=n9) then (cA (f,g,h,i,j,a,k,l,m,n,o,d,e)).bind fun a10=>bif a10.1.length==c0.2.2.2.2.2.2.2.2.2.2.2.1.length then bif a10.2.length==c0.2.2.2.2.2.2.2.2.2.2.2.2.length then some (.done (.done a10)) else none else none else (aN (d.take i) b).bind fun a11=>(cA (f,g,h,i,j,a,a11.1,a11.2.1,a11.2.2.1,a11.2.2.2.1,a11.2.2.2.2,d,e)).bind fun a12=>some (.next (b,aA .i64 ((aA .i64 (2*b))+1),a12.1,a12.2,(f,g,h,i,j,k,l,m,n,o))) else (aN (d.take i) b).bind fun a13=>(cM a13 (k,l,m,n,o)).bind fun n14=>bif decide (0<=n14) then (cA (f,g,h,i,j,a,k,l,m,n,o,d,e)).bind fun a15=>bif a15.1.length==c0.2.2.2.2.2.2.2.2.2.2.2.1.length then bif a15.2.length==c0.2.2.2.2.2.2.2.2.2.2.2.2.length then some (.done (.done a15)) else none else none else (aN (d.take i) b).bind fun a16=>(cA (f,g,h,i,j,a,a16.1,a16.2.1,a16.2.2.1,a16.2.2.2.1,a16.2.2.2.2,d,e)).bind fun a17=>some (.next (b,aA .i64 ((aA .i64 (2*b))+1),a17.1,a17.2,(f,g,h,i,j,k,l,m,n,o))) else (cA (f,g,h,i,j,a,k,l,m,n,o,d,e)).bind fun a18=>bif a18.1.length==c0.2.2.2.2.2.2.2.2.2.2.2.1.length then bif a18.2.length==c0.2.2.2.2.2.2.2.2.2.2.2.2.length then some (.done (.done a18)) else none else none
def eX (c0:aLs) (s:aUJ):Option aUK:=bif decide (0<s.1) then (aN (s.2.1.take s.2.2.2.2.2.2.1) (aA .i64 (Int.tdiv (aA .i64 (s.1-1)) 2))).bind fun a0=>(cM s.2.2.2.2.2.2.2.2 a0).bind fun n1=>bif decide (n1<0) then (aN (s.2.1.take s.2.2.2.2.2.2.1) (aA .i64 (Int.tdiv (aA .i64 (s.1-1)) 2))).bind fun a2=>(cA (s.2.2.2.1,s.2.2.2.2.1,s.2.2.2.2.2.1,s.2.2.2.2.2.2.1,s.2.2.2.2.2.2.2.1,s.1,a2.1,a2.2.1,a2.2.2.1,a2.2.2.2.1,a2.2.2.2.2,s.2.1,s.2.2.1)).bind fun a3=>some (.next (aA .i64 (Int.tdiv (aA .i64 (s.1-1)) 2),a3.1,a3.2,s.2.2.2)) else aH (gN c0) (s.1,aA .i64 ((aA .i64 (2*s.1))+1),s.2) else aH (gN c0) (s.1,aA .i64 ((aA .i64 (2*s.1))+1),s.2)
def kY (a:aLs):Option QY:=aH (eX a) (a.2.2.2.2.2.1,a.2.2.2.2.2.2.2.2.2.2.2.1,a.2.2.2.2.2.2.2.2.2.2.2.2,a.1,a.2.1,a.2.2.1,a.2.2.2.1,a.2.2.2.2.1,a.2.2.2.2.2.2.1,a.2.2.2.2.2.2.2.1,a.2.2.2.2.2.2.2.2.1,a.2.2.2.2.2.2.2.2.2.1,a.2.2.2.2.2.2.2.2.2.2.1)
def UR:eH:=⟨[.l [.i .i64],.l [.b],.l [.i .i64],.n,.n,.i,.i,.i,.i,.i,.i,.l [.i .i64,.i .i64,.i .i64,.i .i64,.i .i64],.l [.i .i64]],[.agg [.sl [.i .i64] [],.sl [.b] [],.sl [.i .i64] [],.pre 0 0 0 false,.own 1 false],.int .i64 0,.agg [.int .i64 0,.int .i64 0,.int .i64 0,.int .i64 0,.int .i64 0]],[.arr [.i .i64,.i .i64,.i .i64,.i .i64,.i .i64] [],.arr [.i .i64] []],[.l [.i .i64,.i .i64,.i .i64,.i .i64,.i .i64],.l [.i .i64]],.tup [],[.arr [.i .i64,.i .i64,.i .i64,.i .i64,.i .i64] [],.arr [.i .i64] []],fun a=>kY a⟩
theorem K2:mT tab 287 UR:=mT.of aBY (wd:=false) (cx:=(mS aG [(196,aL2)] [(306,aAw)] [] [])) (kC.make ⟨UN,trivial⟩ ⟨SD,trivial⟩ trivial) (fun a=>by kernel_rfl)
def uO (p0:aO) (p1:Int):Option (aO×(Int×Int×Int×Int×Int)×Int):=(aN p0.heap p1).bind fun a0=>(FV p0.slots a0.2.2.2).bind fun a1=>bif a1.2 !=0 then some (aO.mk (aV.mk [] [] []) [] [],(0,0,0,0,0),a1.2) else (bZ p0.heap).bind fun l2=>(bZ p0.where_).bind fun l3=>(aN l2 (aA .i64 ((Int.ofNat l2.length) -1))).bind fun a4=>(jE l2 0 (aA .i64 ((Int.ofNat l2.length) -1))).bind fun _=>(aN l3 a0.2.2.2.1).bind fun _=>bif decide (p1<(aA .i64 ((Int.ofNat l2.length) -1))) then (kY (a1.1.uses,a1.1.used,a1.1.free,(aA .i64 ((Int.ofNat l2.length) -1)).toNat,l2.length,p1,a4.1,a4.2.1,a4.2.2.1,a4.2.2.2.1,a4.2.2.2.2,l2,cO l3 a0.2.2.2.1 (-1))).bind fun a7=>some (aO.mk a1.1 (a7.1.take ((aA .i64 ((Int.ofNat l2.length) -1)).toNat)) a7.2,a0,0) else some (aO.mk a1.1 (l2.take ((aA .i64 ((Int.ofNat l2.length) -1)).toNat)) (cO l3 a0.2.2.2.1 (-1)),a0,0)
def aVF:bG:=⟨aB.cons (aJ.agg dE) (aB.one (aJ.int .i64)),aJ.tup (aB.cons (aJ.agg dE) (aB.cons (aJ.agg (cP.row mG)) (aB.one (aJ.int .i64)))),fun a=>uO a.1 a.2,.frz,false⟩
theorem aMn:aI tab 239 aVF:=aI.of aKN (cx:=(mS aG [(285,aVE),(183,bG.clone mG),(67,bG.clone ki)] [(287,UR)] [(286,aDj)] [])) rfl (kC.make ⟨aMm,xX,rU,trivial⟩ ⟨K2,trivial⟩ ⟨UG,trivial⟩) (fun a=>by kernel_rfl)
def nB (p0:aO) (p1:Int×Int):Option (aO×(Int×Int×Int×Int×Int)×Int):=(sB p0 p1).bind fun a0=>bif a0.2 !=0 then some (aO.mk (aV.mk [] [] []) [] [],(0,0,0,0,0),a0.2) else (uO p0 a0.1).bind fun a1=>some a1
def aS9:bG:=⟨aB.cons (aJ.agg dE) (aB.one (aJ.agg (cP.row jC))),aJ.tup (aB.cons (aJ.agg dE) (aB.cons (aJ.agg (cP.row mG)) (aB.one (aJ.int .i64)))),fun a=>nB a.1 a.2,.frz,false⟩
theorem aCg:aI tab 176 aS9:=Oc aJ6 rfl aG [(238,aS8),(239,aVF)] ⟨aCf,aMn,trivial⟩ fun a=>by kernel_rfl
def mI (a:aE3):Option (Nat×Nat×bX):= eI a
def aFa:eH:=⟨[.i,.i,.l [.i .i64,.i .i64,.i .i64]],[.own 0 false,.int .i64 0,.int .i64 0],[.arr [.i .i64,.i .i64,.i .i64] []],[.n,.n,.l [.i .i64,.i .i64,.i .i64]],.pre 0 0 0 false,[.arr [.i .i64,.i .i64,.i .i64] []],fun a=>mI a⟩
theorem aDo:mT tab 177 aFa:=mT.of aJ7 (wd:=true) (cx:=(mS aG [] [] [] [])) (kC.make trivial trivial trivial) (fun a=>by kernel_rfl)
def tQ (p0:aQ) (p1:Int):Option (aQ×(Int×Int)×Int):=(zN p0.certs p1).bind fun a0=>bif a0.2.2 !=0 then some (jR,a0.2) else (nY p0).bind fun r1=>(qU p0.due p1).bind fun a2=>bif a2.2 then (aN p0.due a2.1).bind fun a3=>(nB p0.agenda a3.2).bind fun a4=>bif a4.2.2 !=0 then some (jR,a0.2.1,a4.2.2) else (mI (a2.1,aA .i64 (a2.1+1),r1.due)).bind fun a5=>some (aQ.mk r1.now r1.field a0.1 a4.1 (a5.2.2.take a5.1),a0.2.1,0) else some (aQ.mk r1.now r1.field a0.1 r1.agenda r1.due,a0.2.1,0)
def aVG:bG:=⟨aB.cons (aJ.agg bV) (aB.one (aJ.int .i64)),aJ.tup (aB.cons (aJ.agg bV) (aB.cons (aJ.agg (cP.row jC)) (aB.one (aJ.int .i64)))),fun a=>tQ a.1 a.2,.frz,false⟩
theorem aMo:aI tab 112 aVG:=aI.of aJt (cx:=(mS aG [(174,aVB),(114,aMj),(114,aCc),(175,aS6),(176,aS9)] [(177,aFa)] [] [])) rfl (kC.make ⟨aMi,UQ,O3,aCd,aCg,trivial⟩ ⟨aDo,trivial⟩ trivial) (fun a=>by kernel_rfl)
def xA (p0:aQ) (p1:Int):Option (aQ×Int):=(iB p0).bind fun n0=>bif n0 !=0 then some (jR,n0) else (tQ p0 p1).bind fun a1=>some (a1.1,a1.2.2)
def aVH:bG:=⟨aB.cons (aJ.agg bV) (aB.one (aJ.int .i64)),aJ.tup (aB.cons (aJ.agg bV) (aB.one (aJ.int .i64))),fun a=>xA a.1 a.2,.frz,false⟩
theorem aMp:aI tab 241 aVH:=Oc aKP rfl aG [(65,c65),(112,aVG)] ⟨O2,aMo,trivial⟩ fun a=>by kernel_rfl
def jZ (s:(bX×bX×Int×Int)):Option (bO (bX×bX×Int×Int) Bool):=bif decide (s.2.2.2<s.2.2.1) then (aN s.1 s.2.2.2).bind fun a0=>(aN s.2.1 s.2.2.2).bind fun a1=>bif !((a0.1==a1.1)&&((a0.2.1==a1.2.1)&&(a0.2.2==a1.2.2))) then some (.done false) else some (.next (s.1,s.2.1,s.2.2.1,aA .i64 (s.2.2.2+1))) else some (.done true)
def mJ (p0:List (Int×Int×Int)) (p1:List (Int×Int×Int)):Option Bool:=bif (Int.ofNat p0.length) !=(Int.ofNat p1.length) then some false else aH jZ (p0,p1,Int.ofNat p0.length,0)
def aVI:bG:=⟨aB.cons (aJ.sl eW) (aB.one (aJ.sl eW)),aJ.bool,fun a=>mJ a.1 a.2,.pure,false⟩
theorem aMq:aI tab 242 aVI:=Oc aKQ rfl aG [] trivial fun a=>by kernel_rfl
def cB (a:aLt):Option QY:=(aN a.2.2.2.2.2.2.2.2.2.1 a.2.2.2.1).bind fun _=>(aN a.2.2.2.2.2.2.2.2.2.2 a.2.2.2.2.2.2.2.1).bind fun _=>bif ((cO a.2.2.2.2.2.2.2.2.2.1 a.2.2.2.1 (a.2.2.2.2.1,a.2.2.2.2.2.1,a.2.2.2.2.2.2.1,a.2.2.2.2.2.2.2.1,a.2.2.2.2.2.2.2.2.1)).length)==a.2.2.2.2.2.2.2.2.2.1.length then bif ((cO a.2.2.2.2.2.2.2.2.2.2 a.2.2.2.2.2.2.2.1 a.2.2.2.1).length)==a.2.2.2.2.2.2.2.2.2.2.length then some (cO a.2.2.2.2.2.2.2.2.2.1 a.2.2.2.1 (a.2.2.2.2.1,a.2.2.2.2.2.1,a.2.2.2.2.2.2.1,a.2.2.2.2.2.2.2.1,a.2.2.2.2.2.2.2.2.1),cO a.2.2.2.2.2.2.2.2.2.2 a.2.2.2.2.2.2.2.1 a.2.2.2.1) else none else none
def aFb:eH:=⟨[.l [.i .i64],.l [.b],.l [.i .i64],.i,.i,.i,.i,.i,.i,.l [.i .i64,.i .i64,.i .i64,.i .i64,.i .i64],.l [.i .i64]],[.agg [.sl [.i .i64] [],.sl [.b] [],.sl [.i .i64] [],.own 0 false,.own 1 false],.int .i64 0,.agg [.int .i64 0,.int .i64 0,.int .i64 0,.int .i64 0,.int .i64 0]],[.arr [.i .i64,.i .i64,.i .i64,.i .i64,.i .i64] [],.arr [.i .i64] []],[.l [.i .i64,.i .i64,.i .i64,.i .i64,.i .i64],.l [.i .i64]],.tup [],[.arr [.i .i64,.i .i64,.i .i64,.i .i64,.i .i64] [],.arr [.i .i64] []],fun a=>cB a⟩
theorem aDp:mT tab 306 aFb:=mT.of aB0 (wd:=false) (cx:=(mS aG [] [] [] [])) (kC.make trivial trivial trivial) (fun a=>by kernel_rfl)
def gO (c0:aLt) (s:aUP):Option (bO aUP aUM):=match s with |(a,b,d,e,f,g,h,i,j,k,l,m)=>bif decide (b<(Int.ofNat d.length)) then bif decide ((aA .i64 (b+1))<(Int.ofNat d.length)) then (aN d (aA .i64 (b+1))).bind fun a0=>(aN d b).bind fun a1=>(cM a0 a1).bind fun n2=>bif decide (n2<0) then (aN d (aA .i64 (b+1))).bind fun a3=>(cM a3 (i,j,k,l,m)).bind fun n4=>bif decide (0<=n4) then (cB (f,g,h,a,i,j,k,l,m,d,e)).bind fun a5=>bif a5.1.length==c0.2.2.2.2.2.2.2.2.2.1.length then bif a5.2.length==c0.2.2.2.2.2.2.2.2.2.2.length then some (.done (.done a5)) else none else none else (aN d (aA .i64 (b+1))).bind fun a6=>(cB (f,g,h,a,a6.1,a6.2.1,a6.2.2.1,a6.2.2.2.1,a6.2.2.2.2,d,e)).bind fun a7=>some (.next (aA .i64 (b+1),aA .i64 ((aA .i64 (2*(aA .i64 (b+1))))+1),a7.1,a7.2,(f,g,h,i,j,k,l,m))) else (aN d b).bind fun a8=>(cM a8 (i,j,k,l,m)).bind fun n9=>bif decide (0<=n9) then (cB (f,g,h,a,i,j,k,l,m,d,e)).bind fun a10=>bif a10.1.length==c0.2.2.2.2.2.2.2.2.2.1.length then bif a10.2.length==c0.2.2.2.2.2.2.2.2.2.2.length then some (.done (.done a10)) else none else none else (aN d b).bind fun a11=>(cB (f,g,h,a,a11.1,a11.2.1,a11.2.2.1,a11.2.2.2.1,a11.2.2.2.2,d,e)).bind fun a12=>some (.next (b,aA .i64 ((aA .i64 (2*b))+1),a12.1,a12.2,(f,g,h,i,j,k,l,m))) else (aN d b).bind fun a13=>(cM a13 (i,j,k,l,m)).bind fun n14=>bif decide (0<=n14) then (cB (f,g,h,a,i,j,k,l,m,d,e)).bind fun a15=>bif a15.1.length==c0.2.2.2.2.2.2.2.2.2.1.length then bif a15.2.length==c0.2.2.2.2.2.2.2.2.2.2.length then some (.done (.done a15)) else none else none else (aN d b).bind fun a16=>(cB (f,g,h,a,a16.1,a16.2.1,a16.2.2.1,a16.2.2.2.1,a16.2.2.2.2,d,e)).bind fun a17=>some (.next (b,aA .i64 ((aA .i64 (2*b))+1),a17.1,a17.2,(f,g,h,i,j,k,l,m))) else (cB (f,g,h,a,i,j,k,l,m,d,e)).bind fun a18=>bif a18.1.length==c0.2.2.2.2.2.2.2.2.2.1.length then bif a18.2.length==c0.2.2.2.2.2.2.2.2.2.2.length then some (.done (.done a18)) else none else none
def eY (c0:aLt) (s:aUL):Option aUM:=bif decide (0<s.1) then (aN s.2.1 (aA .i64 (Int.tdiv (aA .i64 (s.1-1)) 2))).bind fun a0=>(cM s.2.2.2.2.2.2 a0).bind fun n1=>bif decide (n1<0) then (aN s.2.1 (aA .i64 (Int.tdiv (aA .i64 (s.1-1)) 2))).bind fun a2=>(cB (s.2.2.2.1,s.2.2.2.2.1,s.2.2.2.2.2.1,s.1,a2.1,a2.2.1,a2.2.2.1,a2.2.2.2.1,a2.2.2.2.2,s.2.1,s.2.2.1)).bind fun a3=>some (.next (aA .i64 (Int.tdiv (aA .i64 (s.1-1)) 2),a3.1,a3.2,s.2.2.2)) else aH (gO c0) (s.1,aA .i64 ((aA .i64 (2*s.1))+1),s.2) else aH (gO c0) (s.1,aA .i64 ((aA .i64 (2*s.1))+1),s.2)
def fG (a:aLt):Option QY:=aH (eY a) (a.2.2.2.1,a.2.2.2.2.2.2.2.2.2.1,a.2.2.2.2.2.2.2.2.2.2,a.1,a.2.1,a.2.2.1,a.2.2.2.2.1,a.2.2.2.2.2.1,a.2.2.2.2.2.2.1,a.2.2.2.2.2.2.2.1,a.2.2.2.2.2.2.2.2.1)
def aAx:eH:=⟨[.l [.i .i64],.l [.b],.l [.i .i64],.i,.i,.i,.i,.i,.i,.l [.i .i64,.i .i64,.i .i64,.i .i64,.i .i64],.l [.i .i64]],[.agg [.sl [.i .i64] [],.sl [.b] [],.sl [.i .i64] [],.own 0 false,.own 1 false],.int .i64 0,.agg [.int .i64 0,.int .i64 0,.int .i64 0,.int .i64 0,.int .i64 0]],[.arr [.i .i64,.i .i64,.i .i64,.i .i64,.i .i64] [],.arr [.i .i64] []],[.l [.i .i64,.i .i64,.i .i64,.i .i64,.i .i64],.l [.i .i64]],.tup [],[.arr [.i .i64,.i .i64,.i .i64,.i .i64,.i .i64] [],.arr [.i .i64] []],fun a=>fG a⟩
theorem SF:mT tab 287 aAx:=mT.of aBY (wd:=false) (cx:=(mS aG [(196,aL2)] [(306,aAw),(306,aFb)] [] [])) (kC.make ⟨UN,trivial⟩ ⟨SD,aDp,trivial⟩ trivial) (fun a=>by kernel_rfl)
def xB (p0:aO) (p1:Int×Int) (p2:Int×Int):Option (aO×Int):=(mH p0).bind fun n0=>(gV p2).bind fun n1=>bif (if n1>n0 then n1 else n0) !=0 then some (aO.mk (aV.mk [] [] []) [] [],if n1>n0 then n1 else n0) else (sB p0 p1).bind fun a2=>bif a2.2 !=0 then some (aO.mk (aV.mk [] [] []) [] [],a2.2) else (bZ p0.heap).bind fun l3=>(bZ p0.where_).bind fun l4=>(aN l3 a2.1).bind fun a5=>(fG (p0.slots.uses,p0.slots.used,p0.slots.free,a2.1,p2.1,p2.2,a5.2.2.1,a5.2.2.2.1,a5.2.2.2.2,l3,l4)).bind fun a6=>some (aO.mk p0.slots a6.1 a6.2,0)
def aVJ:bG:=⟨aB.cons (aJ.agg dE) (aB.cons (aJ.agg (cP.row jC)) (aB.one (aJ.agg (cP.row jC)))),aJ.tup (aB.cons (aJ.agg dE) (aB.one (aJ.int .i64))),fun a=>xB a.1 a.2.1 a.2.2,.frz,false⟩
theorem aMr:aI tab 289 aVJ:=aI.of aLc (cx:=(mS aG [(129,aE6),(49,c49),(238,aS8),(183,bG.clone mG),(67,bG.clone ki)] [(287,UR),(287,aAx)] [(286,aDj)] [])) rfl (kC.make ⟨MZ,EQ,aCf,xX,rU,trivial⟩ ⟨K2,SF,trivial⟩ ⟨UG,trivial⟩) (fun a=>by kernel_rfl)
def AS (p0:Int×Int×Int×Int×Int) (p1:Int):Option Bool:=some (p0.2.2.1==p1)
def aVK:bG:=⟨aB.cons (aJ.agg (cP.row mG)) (aB.one (aJ.ref (cP.int .i64))),aJ.bool,fun a=>AS a.1 a.2,.pure,false⟩
theorem aMs:aI tab 309 aVK:=Oc aB1 rfl aG [] trivial fun a=>by kernel_rfl
def dA (s:(kW×Int×Int×Int)):Option (bO (kW×Int×Int×Int) Int):=bif decide (s.2.2.2<s.2.2.1) then (aN s.1 s.2.2.2).bind fun a0=>(AS a0 s.2.1).bind fun b1=>bif b1 then some (.done s.2.2.2) else some (.next (s.1,s.2.1,s.2.2.1,aA .i64 (s.2.2.2+1))) else some (.done (-1))
def eZ (p0:List (Int×Int×Int×Int×Int)) (p1:Int):Option Int:=aH dA (p0,p1,Int.ofNat p0.length,0)
def XW:bG:=⟨aB.cons (aJ.sl mG) (aB.one (aJ.clo 309 (aB.one (aJ.ref (cP.int .i64))))),aJ.int .i64,fun a=>eZ a.1 a.2,.pure,false⟩
theorem XX:aI tab 316 XW:=aI.of aLq (cx:=(mS aG [(309,aVK)] [] [(309,aI7)] [])) rfl (kC.make ⟨aMs,trivial⟩ trivial ⟨aB1,trivial⟩) (fun a=>by kernel_rfl)
def dB (p0:List (Int×Int×Int×Int×Int)) (p1:Int):Option Bool:=(eZ p0 p1).bind fun n0=>some (decide (0<=n0))
def XY:bG:=⟨aB.cons (aJ.sl mG) (aB.one (aJ.clo 309 (aB.one (aJ.ref (cP.int .i64))))),aJ.bool,fun a=>dB a.1 a.2,.pure,false⟩
theorem XZ:aI tab 308 XY:=Oc aLm rfl aG [(316,XW)] ⟨XX,trivial⟩ fun a=>by kernel_rfl
def yD (p0:List Int):Option ((List Int)×Int):=(jE p0 0 (aA .i64 ((Int.ofNat p0.length) -1))).bind fun l0=>(bZ l0).bind fun l1=>(aN p0 (aA .i64 ((Int.ofNat p0.length) -1))).bind fun n2=>some (l1,n2)
def aVL:bG:=⟨aB.one (aJ.sl ki),aJ.tup (aB.cons (aJ.sl ki) (aB.one (aJ.int .i64))),fun a=>yD a,.frz,false⟩
theorem aMt:aI tab 317 aVL:=Oc aLr rfl aG [(315,bG.clone ki)] ⟨XH,trivial⟩ fun a=>by kernel_rfl
def FW (p0:aV):Option (aV×(Int×Int)×Int):=(tO p0).bind fun n0=>bif n0 !=0 then some (aV.mk [] [] [],(0,0),n0) else bif (Int.ofNat p0.free.length)==0 then some (aV.mk [] [] [],(0,0),18) else (yD p0.free).bind fun a1=>(aN p0.uses a1.2).bind fun n2=>bif n2==1000000 then some (aV.mk [] [] [],(0,0),18) else (bZ p0.uses).bind fun l3=>(bZ p0.used).bind fun l4=>(aN l4 a1.2).bind fun _=>(aN l3 a1.2).bind fun n6=>(aN l3 a1.2).bind fun _=>(aN (cO l3 a1.2 (aA .i64 (n6+1))) a1.2).bind fun n8=>some (aV.mk (cO l3 a1.2 (aA .i64 (n6+1))) (cO l4 a1.2 true) a1.1,(a1.2,n8),0)
def aVM:bG:=⟨aB.one (aJ.agg gC),aJ.tup (aB.cons (aJ.agg gC) (aB.cons (aJ.agg (cP.row jC)) (aB.one (aJ.int .i64)))),fun a=>FW a,.frz,false⟩
theorem aMu:aI tab 310 aVM:=aI.of aLn (cx:=(mS aG [(195,aLW),(317,aVL),(67,bG.clone ki),(184,bG.clone kb)] [] [(304,aEW)] [])) rfl (kC.make ⟨UM,aMt,rU,xW,trivial⟩ trivial ⟨aBZ,trivial⟩) (fun a=>by kernel_rfl)
def mC (p0:aO) (p1:Int×Int) (p2:Int):Option (aO×(Int×Int)×Int):=(mH p0).bind fun n0=>(gV p1).bind fun n1=>bif (if n1>n0 then n1 else n0) !=0 then some (aO.mk (aV.mk [] [] []) [] [],(0,0),if n1>n0 then n1 else n0) else bif decide (p2<0) then some (aO.mk (aV.mk [] [] []) [] [],(0,0),2) else bif decide (1000000<p2) then some (aO.mk (aV.mk [] [] []) [] [],(0,0),2) else (dB p0.heap p2).bind fun b2=>bif b2 then some (aO.mk (aV.mk [] [] []) [] [],(0,0),14) else (FW p0.slots).bind fun a3=>bif a3.2.2 !=0 then some (aO.mk (aV.mk [] [] []) [] [],(0,0),a3.2.2) else (bZ p0.heap).bind fun l4=>(bZ p0.where_).bind fun l5=>(bT l4 [(p1.1,p1.2,p2,a3.2.1)]).bind fun l6=>(fG (a3.1.uses,a3.1.used,a3.1.free,aA .i64 ((Int.ofNat l6.length) -1),p1.1,p1.2,p2,a3.2.1.1,a3.2.1.2,l6,l5)).bind fun a7=>some (aO.mk a3.1 a7.1 a7.2,a3.2.1,0)
def aTa:bG:=⟨aB.cons (aJ.agg dE) (aB.cons (aJ.agg (cP.row jC)) (aB.one (aJ.int .i64))),aJ.tup (aB.cons (aJ.agg dE) (aB.cons (aJ.agg (cP.row jC)) (aB.one (aJ.int .i64)))),fun a=>mC a.1 a.2.1 a.2.2,.frz,false⟩
theorem aCh:aI tab 290 aTa:=aI.of aLd (cx:=(mS aG [(129,aE6),(49,c49),(308,XY),(310,aVM),(183,bG.clone mG),(67,bG.clone ki)] [(287,UR),(287,aAx)] [(286,aDj)] [])) rfl (kC.make ⟨MZ,EQ,XZ,aMu,xX,rU,trivial⟩ ⟨K2,SF,trivial⟩ ⟨UG,trivial⟩) (fun a=>by kernel_rfl)
def dQ (s:Zt3):Option (bO Zt3 Zt7):=match s with |(a,b,d,e,f,g,h,i,j,k,l,m,n,o,q,r,t,u,v,w,x,y,z,A,B,C,D,E,F)=>bif decide (d<b) then (aN a d).bind fun a0=>(tP (Field.mk q) a0.2 (e,f)).bind fun a1=>(qU o a0.1).bind fun a2=>bif a1.2.1 then bif a2.2 then (aN o a2.1).bind fun a3=>(xB (aO.mk (aV.mk z A B) C D) a3.2 a1.1).bind fun a4=>(aN o a2.1).bind fun a5=>(bT F [a5]).bind fun l6=>bif a4.2 !=0 then some (.done (.done (jR,a4.2))) else some (.next (a,b,aA .i64 (d+1),e,f,g,h,i,j,k,l,m,n,o,q,r,t,u,v,w,x,y,a4.1.slots.uses,a4.1.slots.used,a4.1.slots.free,a4.1.heap,a4.1.where_,E,l6)) else bif a1.2.1 then (mC (aO.mk (aV.mk z A B) C D) a1.1 a0.1).bind fun a7=>(bT F [(a0.1,a7.2.1)]).bind fun l8=>bif a7.2.2 !=0 then some (.done (.done (jR,a7.2.2))) else some (.next (a,b,aA .i64 (d+1),e,f,g,h,i,j,k,l,m,n,o,q,r,t,u,v,w,x,y,a7.1.slots.uses,a7.1.slots.used,a7.1.slots.free,a7.1.heap,a7.1.where_,E,l8)) else bif a2.2 then (aN o a2.1).bind fun a9=>(nB (aO.mk (aV.mk z A B) C D) a9.2).bind fun a10=>bif a10.2.2 !=0 then some (.done (.done (jR,a10.2.2))) else some (.next (a,b,aA .i64 (d+1),e,f,g,h,i,j,k,l,m,n,o,q,r,t,u,v,w,x,y,a10.1.slots.uses,a10.1.slots.used,a10.1.slots.free,a10.1.heap,a10.1.where_,(E,F))) else bif a1.2.2 !=0 then some (.done (.done (jR,a1.2.2))) else some (.next (a,b,aA .i64 (d+1),(e,f,g,h,i,j,k,l,m,n,o,q,r,t,u,v,w,x,y,z,A,B,C,D,E,F))) else bif a1.2.1 then (mC (aO.mk (aV.mk z A B) C D) a1.1 a0.1).bind fun a11=>(bT F [(a0.1,a11.2.1)]).bind fun l12=>bif a11.2.2 !=0 then some (.done (.done (jR,a11.2.2))) else some (.next (a,b,aA .i64 (d+1),e,f,g,h,i,j,k,l,m,n,o,q,r,t,u,v,w,x,y,a11.1.slots.uses,a11.1.slots.used,a11.1.slots.free,a11.1.heap,a11.1.where_,E,l12)) else bif a2.2 then (aN o a2.1).bind fun a13=>(nB (aO.mk (aV.mk z A B) C D) a13.2).bind fun a14=>bif a14.2.2 !=0 then some (.done (.done (jR,a14.2.2))) else some (.next (a,b,aA .i64 (d+1),e,f,g,h,i,j,k,l,m,n,o,q,r,t,u,v,w,x,y,a14.1.slots.uses,a14.1.slots.used,a14.1.slots.free,a14.1.heap,a14.1.where_,(E,F))) else bif a1.2.2 !=0 then some (.done (.done (jR,a1.2.2))) else some (.next (a,b,aA .i64 (d+1),(e,f,g,h,i,j,k,l,m,n,o,q,r,t,u,v,w,x,y,z,A,B,C,D,E,F))) else some (.done (.done (aQ.mk (v,w) (Field.mk E) (bI.mk x y) (aO.mk (aV.mk z A B) C D) F,0)))
def lJ (s:aUF):Option Zt7:=match s with |(a,b,d,e,f,g,h,i,j,k,l,m,n,o,q,r,t,u)=>bif decide (d<b) then (aN a d).bind fun a0=>(kJ (Field.mk q) a0.2.1).bind fun a1=>bif decide (a1.1<0) then some (.done (jR,6)) else (kJ (Field.mk q) a0.2.2).bind fun a2=>bif decide (a2.1<0) then some (.done (jR,6)) else some (.next (a,b,aA .i64 (d+1),(e,f,g,h,i,j,k,l,m,n,o,q,r,t,u))) else (nY (aQ.mk (e,f) (Field.mk g) (bI.mk h i) (aO.mk (aV.mk j k l) m n) o)).bind fun r3=>(bZ q).bind fun l4=>aH dQ (i,Int.ofNat i.length,0,e,f,g,h,i,j,k,l,m,n,o,q,r,t,u,r3.now.1,r3.now.2,r3.certs.next_,r3.certs.list,r3.agenda.slots.uses,r3.agenda.slots.used,r3.agenda.slots.free,r3.agenda.heap,r3.agenda.where_,l4,[])
def qV (p0:aQ) (p1:Field):Option (aQ×Int):=(iB p0).bind fun n0=>bif n0 !=0 then some (jR,n0) else (fX p1).bind fun n1=>bif n1 !=0 then some (jR,n1) else aH lJ (p0.certs.list,Int.ofNat p0.certs.list.length,0,p0.now.1,p0.now.2,p0.field.points,p0.certs.next_,p0.certs.list,p0.agenda.slots.uses,p0.agenda.slots.used,p0.agenda.slots.free,p0.agenda.heap,p0.agenda.where_,p0.due,p1.points,0,0,0)
def aVN:bG:=⟨aB.cons (aJ.agg bV) (aB.one (aJ.agg bR)),aJ.tup (aB.cons (aJ.agg bV) (aB.one (aJ.int .i64))),fun a=>qV a.1 a.2,.frz,false⟩
theorem aMv:aI tab 243 aVN:=Oc aKR rfl aG [(65,c65),(122,aAu),(198,aL4),(114,aMj),(114,aCc),(124,bG.clone eW),(130,aL9),(175,aS6),(289,aVJ),(290,aTa),(176,aS9)] ⟨O2,F0s,UO,UQ,O3,BK,UP,aCd,aMr,aCh,aCg,trivial⟩ fun a=>by kernel_rfl
def GQ (p0:Int×Int×Int) (p1:Int×Int):Option Bool:=some ((p0.2.1==p1.1)&&(p0.2.2==p1.2))
def aVO:bG:=⟨aB.cons (aJ.agg (cP.row eW)) (aB.one (aJ.ref (cP.row jC))),aJ.bool,fun a=>GQ a.1 a.2,.pure,false⟩
theorem aMw:aI tab 244 aVO:=Oc aBX rfl aG [] trivial fun a=>by kernel_rfl
def nL (s:QZ):Option (bO QZ Int):=bif decide (s.2.2.2.2<s.2.2.2.1) then (aN s.1 s.2.2.2.2).bind fun a0=>(GQ a0 (s.2.1,s.2.2.1)).bind fun b1=>bif b1 then some (.done s.2.2.2.2) else some (.next (s.1,s.2.1,s.2.2.1,s.2.2.2.1,aA .i64 (s.2.2.2.2+1))) else some (.done (-1))
def iY (p0:List (Int×Int×Int)) (p1:(Int×Int)):Option Int:=aH nL (p0,p1.1,p1.2,Int.ofNat p0.length,0)
def X0:bG:=⟨aB.cons (aJ.sl eW) (aB.one (aJ.clo 244 (aB.one (aJ.ref (cP.row jC))))),aJ.int .i64,fun a=>iY a.1 a.2,.pure,false⟩
theorem X1:aI tab 214 X0:=aI.of UE (cx:=(mS aG [(244,aVO)] [] [(244,aIu)] [])) rfl (kC.make ⟨aMw,trivial⟩ trivial ⟨aBX,trivial⟩) (fun a=>by kernel_rfl)
def eG (p0:List (Int×Int×Int)) (p1:(Int×Int)):Option Bool:=(iY p0 p1).bind fun n0=>some (decide (0<=n0))
def X2:bG:=⟨aB.cons (aJ.sl eW) (aB.one (aJ.clo 244 (aB.one (aJ.ref (cP.row jC))))),aJ.bool,fun a=>eG a.1 a.2,.pure,false⟩
theorem X3:aI tab 139 X2:=Oc UA rfl aG [(214,X0)] ⟨X1,trivial⟩ fun a=>by kernel_rfl
def dP (p0:Int):Option (aQ×Int×Int):=some (jR,0,p0)
def aVP:bG:=⟨aB.one (aJ.int .i64),aJ.tup (aB.cons (aJ.agg bV) (aB.cons (aJ.int .i64) (aB.one (aJ.int .i64)))),fun a=>dP a,.frz,false⟩
theorem aMx:aI tab 291 aVP:=Oc aLe rfl aG [] trivial fun a=>by kernel_rfl
def HP (p0:Int×Int×Int) (p1:Int×Int):Option Bool:=some ((p0.2.1==p1.1)&&(p0.2.2==p1.2))
def aVQ:bG:=⟨aB.cons (aJ.agg (cP.row eW)) (aB.one (aJ.ref (cP.row jC))),aJ.bool,fun a=>HP a.1 a.2,.pure,false⟩
theorem aMy:aI tab 311 aVQ:=Oc aB2 rfl aG [] trivial fun a=>by kernel_rfl
def dO (s:QZ):Option (bO QZ Int):=bif decide (s.2.2.2.2<s.2.2.2.1) then (aN s.1 s.2.2.2.2).bind fun a0=>(HP a0 (s.2.1,s.2.2.1)).bind fun b1=>bif b1 then some (.done s.2.2.2.2) else some (.next (s.1,s.2.1,s.2.2.1,s.2.2.2.1,aA .i64 (s.2.2.2.2+1))) else some (.done (-1))
def gE (p0:List (Int×Int×Int)) (p1:(Int×Int)):Option Int:=aH dO (p0,p1.1,p1.2,Int.ofNat p0.length,0)
def X4:bG:=⟨aB.cons (aJ.sl eW) (aB.one (aJ.clo 311 (aB.one (aJ.ref (cP.row jC))))),aJ.int .i64,fun a=>gE a.1 a.2,.pure,false⟩
theorem X5:aI tab 214 X4:=aI.of UE (cx:=(mS aG [(311,aVQ)] [] [(311,aJa)] [])) rfl (kC.make ⟨aMy,trivial⟩ trivial ⟨aB2,trivial⟩) (fun a=>by kernel_rfl)
def cN (p0:List (Int×Int×Int)) (p1:(Int×Int)):Option Bool:=(gE p0 p1).bind fun n0=>some (decide (0<=n0))
def X6:bG:=⟨aB.cons (aJ.sl eW) (aB.one (aJ.clo 311 (aB.one (aJ.ref (cP.row jC))))),aJ.bool,fun a=>cN a.1 a.2,.pure,false⟩
theorem X7:aI tab 139 X6:=Oc UA rfl aG [(214,X4)] ⟨X5,trivial⟩ fun a=>by kernel_rfl
def JG (p0:bI) (p1:Int×Int):Option (bI×Int×Int):=(tN p0).bind fun n0=>bif n0 !=0 then some (bI.mk 0 [],0,n0) else (yA p1).bind fun b1=>bif !b1 then some (bI.mk 0 [],0,8) else (cN p0.list p1).bind fun b2=>bif b2 then some (bI.mk 0 [],0,14) else bif (Int.ofNat p0.list.length)==200 then some (bI.mk 0 [],0,18) else bif p0.next_==1000000 then some (bI.mk 0 [],0,18) else (bZ p0.list).bind fun l3=>(bT l3 [(p0.next_,p1)]).bind fun l4=>some (bI.mk (aA .i64 (p0.next_+1)) l4,p0.next_,0)
def aVR:bG:=⟨aB.cons (aJ.agg hO) (aB.one (aJ.agg (cP.row jC))),aJ.tup (aB.cons (aJ.agg hO) (aB.cons (aJ.int .i64) (aB.one (aJ.int .i64)))),fun a=>JG a.1 a.2,.frz,false⟩
theorem aMz:aI tab 292 aVR:=Oc aLf rfl aG [(128,aLT),(194,aS4),(139,X6),(181,bG.clone eW)] ⟨UL,aCb,X7,BL,trivial⟩ fun a=>by kernel_rfl
def jI (p0:aQ) (p1:Int×Int):Option (aQ×Int×Int):=(iB p0).bind fun n0=>bif n0 !=0 then (dP n0).bind fun a1=>some a1 else (JG p0.certs p1).bind fun a2=>bif a2.2.2==8 then (dP a2.2.2).bind fun a3=>some a3 else (kJ p0.field p1.1).bind fun a4=>bif decide (a4.1<0) then (dP 6).bind fun a5=>some a5 else (kJ p0.field p1.2).bind fun a6=>bif decide (a6.1<0) then (dP 6).bind fun a7=>some a7 else bif a2.2.2 !=0 then (dP a2.2.2).bind fun a8=>some a8 else (nY p0).bind fun r9=>(tP p0.field p1 p0.now).bind fun a10=>bif a10.2.2 !=0 then (dP a10.2.2).bind fun a11=>some a11 else bif a10.2.1 then (mC p0.agenda a10.1 a2.2.1).bind fun a12=>bif a12.2.2 !=0 then (dP a12.2.2).bind fun a13=>some a13 else (bT r9.due [(a2.2.1,a12.2.1)]).bind fun l14=>some (aQ.mk r9.now r9.field a2.1 a12.1 l14,a2.2.1,0) else some (aQ.mk r9.now r9.field a2.1 r9.agenda r9.due,a2.2.1,0)
def aVS:bG:=⟨aB.cons (aJ.agg bV) (aB.one (aJ.agg (cP.row jC))),aJ.tup (aB.cons (aJ.agg bV) (aB.cons (aJ.int .i64) (aB.one (aJ.int .i64)))),fun a=>jI a.1 a.2,.frz,false⟩
theorem aMA:aI tab 245 aVS:=Oc aKS rfl aG [(65,c65),(291,aVP),(292,aVR),(198,aL4),(114,aMj),(114,aCc),(130,aL9),(290,aTa)] ⟨O2,aMx,aMz,UO,UQ,O3,UP,aCh,trivial⟩ fun a=>by kernel_rfl
def fN (s:Zt9):Option (bO Zt9 Zt6):=match s with |(a,b,d,e,f,g,h,i,j,k,l,m,n,o,q,r,t)=>bif decide (d<b) then (aN a d).bind fun a0=>(eG i a0).bind fun b1=>bif b1 then some (.next (a,b,aA .i64 (d+1),(e,f,g,h,i,j,k,l,m,n,o,q,r,t))) else (jI (aQ.mk (e,f) (Field.mk g) (bI.mk h i) (aO.mk (aV.mk j k l) m n) o) a0).bind fun a2=>bif a2.2.2 !=0 then some (.done (.done (jR,a2.2.2))) else some (.next (a,b,aA .i64 (d+1),a2.1.now.1,a2.1.now.2,a2.1.field.points,a2.1.certs.next_,a2.1.certs.list,a2.1.agenda.slots.uses,a2.1.agenda.slots.used,a2.1.agenda.slots.free,a2.1.agenda.heap,a2.1.agenda.where_,a2.1.due,(q,r,t))) else some (.done (.done (aQ.mk (e,f) (Field.mk g) (bI.mk h i) (aO.mk (aV.mk j k l) m n) o,0)))
def eN (s:aUE):Option Zt6:=match s with |(a,b,d,e,f,g,h,i,j,k,l,m,n,o,q,r,t,u,v)=>bif decide (e<d) then (aN b e).bind fun a0=>(eM a a0.2).bind fun b1=>bif !b1 then (xA (aQ.mk (f,g) (Field.mk h) (bI.mk i j) (aO.mk (aV.mk k l m) n o) q) a0.1).bind fun a2=>some (.next (a,b,d,aA .i64 (e+1),a2.1.now.1,a2.1.now.2,a2.1.field.points,a2.1.certs.next_,a2.1.certs.list,a2.1.agenda.slots.uses,a2.1.agenda.slots.used,a2.1.agenda.slots.free,a2.1.agenda.heap,a2.1.agenda.where_,a2.1.due,(r,t,u,v))) else some (.next (a,b,d,aA .i64 (e+1),(f,g,h,i,j,k,l,m,n,o,q,r,t,u,v))) else (mJ h r).bind fun b3=>bif !b3 then (qV (aQ.mk (f,g) (Field.mk h) (bI.mk i j) (aO.mk (aV.mk k l m) n o) q) (Field.mk r)).bind fun a4=>bif a4.2 !=0 then some (.done (jR,a4.2)) else aH fN (a,Int.ofNat a.length,0,a4.1.now.1,a4.1.now.2,a4.1.field.points,a4.1.certs.next_,a4.1.certs.list,a4.1.agenda.slots.uses,a4.1.agenda.slots.used,a4.1.agenda.slots.free,a4.1.agenda.heap,a4.1.agenda.where_,a4.1.due,(t,u,v)) else aH fN (a,Int.ofNat a.length,0,f,g,h,i,j,k,l,m,n,o,q,(t,u,v))
def vS (p0:aQ) (p1:Field) (p2:List (Int×Int)):Option (aQ×Int):=aH eN (p2,p0.certs.list,Int.ofNat p0.certs.list.length,0,p0.now.1,p0.now.2,p0.field.points,p0.certs.next_,p0.certs.list,p0.agenda.slots.uses,p0.agenda.slots.used,p0.agenda.slots.free,p0.agenda.heap,p0.agenda.where_,p0.due,p1.points,0,0,0)
def aVT:bG:=⟨aB.cons (aJ.agg bV) (aB.cons (aJ.agg bR) (aB.one (aJ.sl jC))),aJ.tup (aB.cons (aJ.agg bV) (aB.one (aJ.int .i64))),fun a=>vS a.1 a.2.1 a.2.2,.frz,false⟩
theorem aMB:aI tab 179 aVT:=Oc aJ9 rfl aG [(138,aE7),(241,aVH),(242,aVI),(243,aVN),(139,X2),(245,aVS)] ⟨M0,aMp,aMq,aMv,X3,aMA,trivial⟩ fun a=>by kernel_rfl
def fO (s:aDl):Option (bO aDl Zt1):=match s with |(a,b,d,e,f,g,h,i,j,k,l,m,n,o,q,r,t,u,v)=>bif decide (e<d) then (aN b e).bind fun a0=>(yB (Field.mk r) a0.1).bind fun a1=>(yB (Field.mk r) a0.2).bind fun a2=>bif a1.2 !=0 then some (.done (.done (.done (jR,6)))) else bif a2.2 !=0 then some (.done (.done (.done (jR,6)))) else some (.next (a,b,d,aA .i64 (e+1),(f,g,h,i,j,k,l,m,n,o,q,r,t,u,v))) else (yC (aQ.mk (f,g) (Field.mk h) (bI.mk i j) (aO.mk (aV.mk k l m) n o) q)).bind fun r3=>(vS r3 (Field.mk r) a).bind fun a4=>some (.done (.done (.done a4)))
def eO (s:aDl):Option Zt1:=bif decide (s.2.2.2.1<s.2.2.1) then (aN s.2.1 s.2.2.2.1).bind fun a0=>(jE s.1 0 s.2.2.2.1).bind fun l1=>(eM l1 a0).bind fun b2=>bif b2 then some (.done (.done (jR,14))) else some (.next (s.1,s.2.1,s.2.2.1,aA .i64 (s.2.2.2.1+1),s.2.2.2.2)) else aH fO (s.1,s.1,Int.ofNat s.1.length,0,s.2.2.2.2)
def eQ (s:aDl):Option aUD:=bif decide (s.2.2.2.1<s.2.2.1) then (aN s.2.1 s.2.2.2.1).bind fun a0=>bif decide (a0.1<0) then some (.done (jR,8)) else bif decide (a0.2<0) then some (.done (jR,8)) else bif decide (65535<a0.1) then some (.done (jR,8)) else bif decide (65535<a0.2) then some (.done (jR,8)) else bif a0.1==a0.2 then some (.done (jR,8)) else some (.next (s.1,s.2.1,s.2.2.1,aA .i64 (s.2.2.2.1+1),s.2.2.2.2)) else aH eO (s.1,s.1,Int.ofNat s.1.length,0,s.2.2.2.2)
def qW (p0:aQ) (p1:Field) (p2:List (Int×Int)):Option (aQ×Int):=(iB p0).bind fun n0=>bif n0 !=0 then some (jR,n0) else (fX p1).bind fun n1=>bif n1 !=0 then some (jR,n1) else aH eQ (p2,p2,Int.ofNat p2.length,0,p0.now.1,p0.now.2,p0.field.points,p0.certs.next_,p0.certs.list,p0.agenda.slots.uses,p0.agenda.slots.used,p0.agenda.slots.free,p0.agenda.heap,p0.agenda.where_,p0.due,p1.points,0,0,0)
def aVU:bG:=⟨aB.cons (aJ.agg bV) (aB.cons (aJ.agg bR) (aB.one (aJ.sl jC))),aJ.tup (aB.cons (aJ.agg bV) (aB.one (aJ.int .i64))),fun a=>qW a.1 a.2.1 a.2.2,.frz,false⟩
theorem aMC:aI tab 113 aVU:=Oc aJu rfl aG [(65,c65),(122,aAu),(138,aE7),(178,aVx),(180,aVy),(180,aNY),(179,aVT)] ⟨O2,F0s,M0,aMe,aMf,aE8,aMB,trivial⟩ fun a=>by kernel_rfl
def lK (p0:aQ) (p1:Field) (p2:List Int):Option (dV×Int):=(nX p1 p0.now p2).bind fun a0=>(qW p0 p1 a0.2).bind fun a1=>bif a1.2 !=0 then some (dV.mk jR (bH.mk [] []),a1.2) else some (dV.mk a1.1 a0.1,0)
def c52:bG:=⟨aB.cons (aJ.agg bV) (aB.cons (aJ.agg bR) (aB.one (aJ.sl ki))),aJ.tup (aB.cons (aJ.agg hZ) (aB.one (aJ.int .i64))),fun a=>lK a.1 a.2.1 a.2.2,.frz,false⟩
theorem aTb:aI tab 52 c52:=Oc aR8 rfl aG [(54,c54),(113,aVU)] ⟨aAv,aMC,trivial⟩ fun a=>by kernel_rfl
def oT (p0:Field) (p1:Int×Int):Option (dV×Int):=(FT p0 p1).bind fun a0=>bif a0.2 !=0 then some (dV.mk jR (bH.mk [] []),a0.2) else (rX p0).bind fun l1=>(lK a0.1 p0 l1).bind fun a2=>some a2
def c17:bG:=⟨aB.cons (aJ.agg bR) (aB.one (aJ.agg (cP.row jC))),aJ.tup (aB.cons (aJ.agg hZ) (aB.one (aJ.int .i64))),fun a=>oT a.1 a.2,.frz,false⟩
theorem aTc:aI tab 17 c17:=Oc aRM rfl aG [(59,c59),(60,c60),(52,c52)] ⟨aSY,aSZ,aTb,trivial⟩ fun a=>by kernel_rfl
def zO (p0:Int×Int×Int):Option Int:=bif decide (p0.1<0) then some 8 else bif decide (65535<p0.1) then some 8 else bif decide (p0.2.1<(-1048576)) then some 8 else bif decide (1048576<p0.2.1) then some 8 else bif decide (p0.2.2<(-1048576)) then some 8 else bif decide (1048576<p0.2.2) then some 8 else some 0
def c85:bG:=⟨aB.one (aJ.agg (cP.row eW)),aJ.int .i64,fun a=>zO a,.pure,false⟩
theorem aTd:aI tab 85 c85:=Oc aSC rfl aG [] trivial fun a=>by kernel_rfl
def jV (s:XI):Option (bO XI (bO XI Int)):=bif decide (s.1<(Int.ofNat s.2.length)) then (aN s.2 (aA .i64 (s.1-1))).bind fun a0=>(aN s.2 s.1).bind fun a1=>bif decide (a1.1<=a0.1) then some (.done (.done 32)) else some (.next (aA .i64 (s.1+1),s.2)) else some (.done (.done 0))
def nZ (s:XI):Option (bO XI Int):=bif decide (s.1<(Int.ofNat s.2.length)) then (aN s.2 s.1).bind fun a0=>(zO a0).bind fun n1=>bif n1 !=0 then some (.done 8) else some (.next (aA .i64 (s.1+1),s.2)) else aH jV (1,s.2)
def qX (p0:Field):Option Int:=bif decide (64<(Int.ofNat p0.points.length)) then some 4 else aH nZ (0,p0.points)
def c29:bG:=⟨aB.one (aJ.agg bR),aJ.int .i64,fun a=>qX a,.pure,false⟩
theorem aFc:aI tab 29 c29:=Oc aRV rfl aG [(85,c85)] ⟨aTd,trivial⟩ fun a=>by kernel_rfl
def iR (p0:Int):Option Int:=bif decide (p0<0) then some (aA .u64 ((aA .u64 (aA .i64 (0- (aA .i64 (p0+1)))))+1)) else some (aA .u64 p0)
def c95:bG:=⟨aB.one (aJ.int .i64),aJ.int .u64,fun a=>iR a,.pure,false⟩
theorem aAy:aI tab 95 c95:=Oc aSK rfl aG [] trivial fun a=>by kernel_rfl
def pW (s:(Int×Int)):Option (bO (Int×Int) Int):=bif s.2 !=0 then bif s.2==0 then none else some (.next (s.2,Int.tmod s.1 s.2)) else some (.done s.1)
def sC (p0:Int) (p1:Int):Option Int:=aH pW (p0,p1)
def c94:bG:=⟨aB.cons (aJ.int .u64) (aB.one (aJ.int .u64)),aJ.int .u64,fun a=>sC a.1 a.2,.pure,false⟩
theorem aFd:aI tab 94 c94:=Oc aSJ rfl aG [] trivial fun a=>by kernel_rfl
def qY (p0:Int×Int):Option Int:=bif decide (p0.2<1) then some 8 else bif p0.1==(-9223372036854775808) then some 8 else (iR p0.1).bind fun n0=>(sC n0 (aA .u64 p0.2)).bind fun n1=>bif n1 !=1 then some 8 else some 0
def c36:bG:=⟨aB.one (aJ.agg (cP.row jC)),aJ.int .i64,fun a=>qY a,.pure,false⟩
theorem aAz:aI tab 36 c36:=Oc aRZ rfl aG [(95,c95),(94,c94)] ⟨aAy,aFd,trivial⟩ fun a=>by kernel_rfl
def oA (p0:Field):Option Field:=(bZ p0.points).bind fun l0=>some (Field.mk l0)
def c91:bG:=⟨aB.one (aJ.agg bR),aJ.agg bR,fun a=>oA a,.own,true⟩
def aFe:bG:=⟨aB.one (aJ.agg bR),aJ.agg bR,fun a=>oA a,.frz,false⟩
theorem US:aI tab 91 c91:=Oc aEZ rfl aG [] trivial fun a=>by kernel_rfl
theorem M1:aI tab 91 aFe:=Oc aEZ rfl aG [] trivial fun a=>by kernel_rfl
def EW (s:(Int×(List Int)×(List Bool)×(List Int))):Option (bO (Int×(List Int)×(List Bool)×(List Int)) aV):=bif decide (0<=s.1) then (bT s.2.2.2 [s.1]).bind fun l0=>some (.next (aA .i64 (s.1-1),s.2.1,s.2.2.1,l0)) else some (.done (aV.mk s.2.1 s.2.2.1 s.2.2.2))
def zP (p0:Int):Option aV:=bif p0==p0 then (tB p0 (0:Int)).bind fun l0=>bif p0==p0 then (tB p0 (false:Bool)).bind fun l1=>aH EW (aA .i64 (p0-1),l0,l1,[]) else none else none
def aVW:bG:=⟨aB.one (aJ.int .i64),aJ.agg gC,fun a=>zP a,.frz,false⟩
theorem aMD:aI tab 156 aVW:=Oc aJW rfl aG [] trivial fun a=>by kernel_rfl
def O4 (s:(Int×Int×(List Int)×(List Bool)×(List Int)×(List Int))):Option (bO (Int×Int×(List Int)×(List Bool)×(List Int)×(List Int)) aO):=bif decide (s.2.1<s.1) then (bT s.2.2.2.2.2 [-1]).bind fun l0=>some (.next (s.1,aA .i64 (s.2.1+1),s.2.2.1,s.2.2.2.1,s.2.2.2.2.1,l0)) else some (.done (aO.mk (aV.mk s.2.2.1 s.2.2.2.1 s.2.2.2.2.1) [] s.2.2.2.2.2))
def zQ (p0:Int):Option aO:=(zP p0).bind fun r0=>aH O4 (p0,0,r0.uses,r0.used,r0.free,[])
def c92:bG:=⟨aB.one (aJ.int .i64),aJ.agg dE,fun a=>zQ a,.frz,false⟩
theorem aTe:aI tab 92 c92:=Oc aSI rfl aG [(156,aVW)] ⟨aMD,trivial⟩ fun a=>by kernel_rfl
def zR (p0:Field) (p1:Int×Int):Option aQ:=(oA p0).bind fun r0=>(zQ 200).bind fun r1=>some (aQ.mk p1 r0 (bI.mk 0 []) r1 [])
def c33:bG:=⟨aB.cons (aJ.agg bR) (aB.one (aJ.agg (cP.row jC))),aJ.agg bV,fun a=>zR a.1 a.2,.frz,false⟩
theorem aTf:aI tab 33 c33:=Oc aRY rfl aG [(91,c91),(91,aFe),(92,c92)] ⟨US,M1,aTe,trivial⟩ fun a=>by kernel_rfl
def sD (s:(Int×Int×bX×(List Int))):Option (bO (Int×Int×bX×(List Int)) aLx):=bif decide (s.2.1<s.1) then bif decide (s.2.1<(Int.ofNat s.2.2.1.length)) then (aN s.2.2.1 s.2.1).bind fun a0=>(bT s.2.2.2 [a0.1]).bind fun l1=>some (.next (s.1,aA .i64 (s.2.1+1),s.2.2.1,l1)) else (bT s.2.2.2 [-1]).bind fun l2=>some (.next (s.1,aA .i64 (s.2.1+1),s.2.2.1,l2)) else some (.done (.done s.2.2.2))
def sE (s:XI):Option aLx:=bif decide (s.1<(Int.ofNat s.2.length)) then some (.next (aA .i64 (s.1*2),s.2)) else aH sD (s.1,0,s.2,[])
def vT (p0:Field):Option (List Int):=aH sE (1,p0.points)
def c61:bG:=⟨aB.one (aJ.agg bR),aJ.sl ki,fun a=>vT a,.frz,false⟩
theorem aTg:aI tab 61 c61:=Oc aSe rfl aG [] trivial fun a=>by kernel_rfl
def jW (p0:bH) (p1:Int):Option Int:=bif decide (p1<(Int.ofNat p0.wins.length)) then (aN p0.wins p1).bind fun n0=>some n0 else (aN p0.places (aA .i64 (p1- (Int.ofNat p0.wins.length)))).bind fun n1=>some n1
def c40:bG:=⟨aB.cons (aJ.agg fW) (aB.one (aJ.int .i64)),aJ.int .i64,fun a=>jW a.1 a.2,.pure,false⟩
theorem UT:aI tab 40 c40:=Oc aR0 rfl aG [] trivial fun a=>by kernel_rfl
def vU (s:aE3):Option aSR:=bif decide (s.2.1<(Int.ofNat s.2.2.length)) then (aN s.2.2 s.2.1).bind fun a0=>bif a0.1==s.1 then some (.done s.2.1) else some (.next (s.1,aA .i64 (s.2.1+1),s.2.2)) else some (.done (-1))
def iC (p0:Field) (p1:Int):Option Int:=aH vU (p1,0,p0.points)
def c97:bG:=⟨aB.cons (aJ.agg bR) (aB.one (aJ.int .i64)),aJ.int .i64,fun a=>iC a.1 a.2,.pure,false⟩
theorem O5:aI tab 97 c97:=Oc aSM rfl aG [] trivial fun a=>by kernel_rfl
def uP (p0:Int) (p1:Int):Option (Bool×Int×Int):=some (false,aA .u64 ((aA .u64 ((aA .u64 ((aA .u64 (Int.tdiv p0 4294967296))*(aA .u64 (Int.tdiv p1 4294967296))))+(aA .u64 (Int.tdiv (aA .u64 ((aA .u64 ((aA .u64 (Int.tdiv p0 4294967296))*(Int.tmod p1 4294967296)))+(aA .u64 (Int.tdiv (aA .u64 ((Int.tmod p0 4294967296)*(Int.tmod p1 4294967296))) 4294967296)))) 4294967296))))+(aA .u64 (Int.tdiv (aA .u64 ((aA .u64 ((Int.tmod p0 4294967296)*(aA .u64 (Int.tdiv p1 4294967296))))+(Int.tmod (aA .u64 ((aA .u64 ((aA .u64 (Int.tdiv p0 4294967296))*(Int.tmod p1 4294967296)))+(aA .u64 (Int.tdiv (aA .u64 ((Int.tmod p0 4294967296)*(Int.tmod p1 4294967296))) 4294967296)))) 4294967296))) 4294967296))),aA .u64 ((aA .u64 ((Int.tmod (aA .u64 ((aA .u64 ((Int.tmod p0 4294967296)*(aA .u64 (Int.tdiv p1 4294967296))))+(Int.tmod (aA .u64 ((aA .u64 ((aA .u64 (Int.tdiv p0 4294967296))*(Int.tmod p1 4294967296)))+(aA .u64 (Int.tdiv (aA .u64 ((Int.tmod p0 4294967296)*(Int.tmod p1 4294967296))) 4294967296)))) 4294967296))) 4294967296)*4294967296))+(Int.tmod (aA .u64 ((Int.tmod p0 4294967296)*(Int.tmod p1 4294967296))) 4294967296)))
def aVY:bG:=⟨aB.cons (aJ.int .u64) (aB.one (aJ.int .u64)),aJ.agg (cP.row EM),fun a=>uP a.1 a.2,.pure,false⟩
theorem aME:aI tab 152 aVY:=Oc aJS rfl aG [] trivial fun a=>by kernel_rfl
def kO (p0:Int) (p1:Int):Option (Bool×Int×Int):=(iR p0).bind fun n0=>(iR p1).bind fun n1=>(uP n0 n1).bind fun a2=>bif !((decide (p0<0))==(decide (p1<0))) then bif p0 !=0 then some (p1 !=0,a2.2) else some (false,a2.2) else some (false,a2.2)
def c86:bG:=⟨aB.cons (aJ.int .i64) (aB.one (aJ.int .i64)),aJ.agg (cP.row EM),fun a=>kO a.1 a.2,.pure,false⟩
theorem aFf:aI tab 86 c86:=Oc aSD rfl aG [(95,c95),(152,aVY)] ⟨aAy,aME,trivial⟩ fun a=>by kernel_rfl
def tR (p0:Bool×Int×Int) (p1:Bool×Int×Int):Option Int:=bif p0.2.1 !=p1.2.1 then bif decide (p0.2.1<p1.2.1) then some (-1) else some 1 else bif p0.2.2 !=p1.2.2 then bif decide (p0.2.2<p1.2.2) then some (-1) else some 1 else some 0
def c88:bG:=⟨aB.cons (aJ.agg (cP.row EM)) (aB.one (aJ.agg (cP.row EM))),aJ.int .i64,fun a=>tR a.1 a.2,.pure,false⟩
theorem aFg:aI tab 88 c88:=Oc aSF rfl aG [] trivial fun a=>by kernel_rfl
def vV (p0:Bool×Int×Int) (p1:Bool×Int×Int):Option (Bool×Int×Int):=bif decide (p0.2.2<p1.2.2) then some (false,aA .u64 ((aA .u64 (p0.2.1-p1.2.1)) -1),aA .u64 (p0.2.2-p1.2.2)) else some (false,aA .u64 (p0.2.1-p1.2.1),aA .u64 (p0.2.2-p1.2.2))
def aVZ:bG:=⟨aB.cons (aJ.agg (cP.row EM)) (aB.one (aJ.agg (cP.row EM))),aJ.agg (cP.row EM),fun a=>vV a.1 a.2,.pure,false⟩
theorem aMF:aI tab 272 aVZ:=Oc aK5 rfl aG [] trivial fun a=>by kernel_rfl
def CS (p0:Bool×Int×Int) (p1:Bool×Int×Int):Option (Bool×Int×Int):=bif p0.1==p1.1 then bif decide ((aA .u64 (p0.2.2+p1.2.2))<p0.2.2) then some (p0.1,aA .u64 ((aA .u64 (p0.2.1+p1.2.1))+1),aA .u64 (p0.2.2+p1.2.2)) else some (p0.1,aA .u64 (p0.2.1+p1.2.1),aA .u64 (p0.2.2+p1.2.2)) else (tR p0 p1).bind fun n0=>bif decide (0<=n0) then (vV p0 p1).bind fun a1=>bif p0.1 then bif decide (0<a1.2.1) then some (true,a1.2) else some (decide (0<a1.2.2),a1.2) else some (false,a1.2) else (vV p1 p0).bind fun a2=>some (p1.1,a2.2)
def aV0:bG:=⟨aB.cons (aJ.agg (cP.row EM)) (aB.one (aJ.agg (cP.row EM))),aJ.agg (cP.row EM),fun a=>CS a.1 a.2,.pure,false⟩
theorem aMG:aI tab 227 aV0:=Oc aKD rfl aG [(88,c88),(272,aVZ)] ⟨aFg,aMF,trivial⟩ fun a=>by kernel_rfl
def mK (p0:Bool×Int×Int):Option Int:=bif p0.2.1==0 then bif p0.2.2==0 then some 0 else bif p0.1 then some (-1) else some 1 else bif p0.1 then some (-1) else some 1
def c87:bG:=⟨aB.one (aJ.agg (cP.row EM)),aJ.int .i64,fun a=>mK a,.pure,false⟩
theorem aFh:aI tab 87 c87:=Oc aSE rfl aG [] trivial fun a=>by kernel_rfl
def FX (p0:Int×Int×Int) (p1:Int×Int×Int) (p2:Int×Int):Option Int:=(kO (aA .i64 (p0.2.1-p1.2.1)) p2.2).bind fun a0=>(kO (aA .i64 (p0.2.2-p1.2.2)) p2.1).bind fun a1=>(CS a0 a1).bind fun a2=>(mK a2).bind fun n3=>some n3
def aV1:bG:=⟨aB.cons (aJ.agg (cP.row eW)) (aB.cons (aJ.agg (cP.row eW)) (aB.one (aJ.agg (cP.row jC)))),aJ.int .i64,fun a=>FX a.1 a.2.1 a.2.2,.pure,false⟩
theorem aMH:aI tab 160 aV1:=Oc aJY rfl aG [(86,c86),(227,aV0),(87,c87)] ⟨aFf,aMG,aFh,trivial⟩ fun a=>by kernel_rfl
def oB (p0:Int×Int×Int) (p1:Int×Int×Int) (p2:Int×Int):Option Bool:=(FX p0 p1 p2).bind fun n0=>bif n0 !=0 then some (decide (0<n0)) else bif p0.2.2 !=p1.2.2 then some (decide (p1.2.2<p0.2.2)) else some (decide (p0.1<p1.1))
def c98:bG:=⟨aB.cons (aJ.agg (cP.row eW)) (aB.cons (aJ.agg (cP.row eW)) (aB.one (aJ.agg (cP.row jC)))),aJ.bool,fun a=>oB a.1 a.2.1 a.2.2,.pure,false⟩
theorem UU:aI tab 98 c98:=Oc aSN rfl aG [(160,aV1)] ⟨aMH,trivial⟩ fun a=>by kernel_rfl
def xJ (p0:Field) (p1:Int×Int) (p2:Int) (p3:Int):Option Int:=bif decide (p2<0) then some p3 else bif decide (p3<0) then some p2 else (iC p0 p2).bind fun n0=>(aN p0.points n0).bind fun a1=>(iC p0 p3).bind fun n2=>(aN p0.points n2).bind fun a3=>(oB a1 a3 p1).bind fun b4=>bif b4 then some p2 else some p3
def c41:bG:=⟨aB.cons (aJ.agg bR) (aB.cons (aJ.agg (cP.row jC)) (aB.cons (aJ.int .i64) (aB.one (aJ.int .i64)))),aJ.int .i64,fun a=>xJ a.1 a.2.1 a.2.2.1 a.2.2.2,.pure,false⟩
theorem aFi:aI tab 41 c41:=Oc aR1 rfl aG [(97,c97),(98,c98)] ⟨O5,UU,trivial⟩ fun a=>by kernel_rfl
def oC (s:aDm):Option (bO aDm bH):=bif decide (0<=s.1) then (jW (bH.mk s.2.2.2.2.1 s.2.2.2.2.2) (aA .i64 ((aA .i64 (2*s.1))+1))).bind fun n0=>(jW (bH.mk s.2.2.2.2.1 s.2.2.2.2.2) (aA .i64 ((aA .i64 (2*s.1))+2))).bind fun n1=>(xJ (Field.mk s.2.1) (s.2.2.1,s.2.2.2.1) n0 n1).bind fun n2=>(aN s.2.2.2.2.2 s.1).bind fun _=>some (.next (aA .i64 (s.1-1),s.2.1,s.2.2.1,s.2.2.2.1,s.2.2.2.2.1,cO s.2.2.2.2.2 s.1 n2)) else some (.done (bH.mk s.2.2.2.2.1 s.2.2.2.2.2))
def zS (p0:Field) (p1:Int×Int) (p2:List Int):Option bH:=(bZ p2).bind fun l0=>bif (aA .i64 ((Int.ofNat p2.length) -1))==(aA .i64 ((Int.ofNat p2.length) -1)) then (tB (aA .i64 ((Int.ofNat p2.length) -1)) (0:Int)).bind fun l1=>aH oC (aA .i64 ((Int.ofNat l1.length) -1),p0.points,p1.1,p1.2,l0,l1) else none
def aV3:bG:=⟨aB.cons (aJ.agg bR) (aB.cons (aJ.agg (cP.row jC)) (aB.one (aJ.sl ki))),aJ.agg fW,fun a=>zS a.1 a.2.1 a.2.2,.frz,false⟩
theorem aMI:aI tab 153 aV3:=Oc aJT rfl aG [(40,c40),(41,c41)] ⟨UT,aFi,trivial⟩ fun a=>by kernel_rfl
def CT (p0:Field) (p1:Int×Int) (p2:List Int):Option bH:=(zS p0 p1 p2).bind fun r0=>some r0
def c89:bG:=⟨aB.cons (aJ.agg bR) (aB.cons (aJ.agg (cP.row jC)) (aB.one (aJ.sl ki))),aJ.agg fW,fun a=>CT a.1 a.2.1 a.2.2,.frz,false⟩
theorem aTh:aI tab 89 c89:=Oc aSG rfl aG [(153,aV3)] ⟨aMI,trivial⟩ fun a=>by kernel_rfl
def zT (s:(Int×(List Int)×(List Int)×rV)):Option (bO (Int×(List Int)×(List Int)×rV) rV):=bif decide (s.1<(Int.ofNat s.2.2.1.length)) then (jW (bH.mk s.2.1 s.2.2.1) (aA .i64 ((aA .i64 (2*s.1))+1))).bind fun n0=>(jW (bH.mk s.2.1 s.2.2.1) (aA .i64 ((aA .i64 (2*s.1))+2))).bind fun n1=>bif decide (n0<0) then some (.next (aA .i64 (s.1+1),s.2)) else bif decide (n1<0) then some (.next (aA .i64 (s.1+1),s.2)) else (aN s.2.2.1 s.1).bind fun n2=>bif n2==n0 then (bT s.2.2.2 [(n1,n0)]).bind fun l3=>some (.next (aA .i64 (s.1+1),s.2.1,s.2.2.1,l3)) else (bT s.2.2.2 [(n0,n1)]).bind fun l4=>some (.next (aA .i64 (s.1+1),s.2.1,s.2.2.1,l4)) else some (.done s.2.2.2)
def vW (p0:bH):Option rV:=aH zT (0,p0.places,p0.wins,[])
def c62:bG:=⟨aB.one (aJ.agg fW),aJ.sl jC,fun a=>vW a,.frz,false⟩
theorem aAA:aI tab 62 c62:=Oc aSf rfl aG [(40,c40)] ⟨UT,trivial⟩ fun a=>by kernel_rfl
def tT (p0:bI):Option bI:=(bZ p0.list).bind fun l0=>some (bI.mk p0.next_ l0)
def aMJ:bG:=⟨aB.one (aJ.agg hO),aJ.agg hO,fun a=>tT a,.own,true⟩
def aCi:bG:=⟨aB.one (aJ.agg hO),aJ.agg hO,fun a=>tT a,.frz,false⟩
theorem UV:aI tab 103 aMJ:=Oc aBM rfl aG [] trivial fun a=>by kernel_rfl
theorem O6:aI tab 103 aCi:=Oc aBM rfl aG [] trivial fun a=>by kernel_rfl
def qG (p0:aV):Option aV:=(bZ p0.uses).bind fun l0=>(bZ p0.used).bind fun l1=>(bZ p0.free).bind fun l2=>some (aV.mk l0 l1 l2)
def aFj:bG:=⟨aB.one (aJ.agg gC),aJ.agg gC,fun a=>qG a,.own,true⟩
def X8:bG:=⟨aB.one (aJ.agg gC),aJ.agg gC,fun a=>qG a,.frz,false⟩
theorem M2:aI tab 169 aFj:=Oc aBU rfl aG [] trivial fun a=>by kernel_rfl
theorem JH:aI tab 169 X8:=Oc aBU rfl aG [] trivial fun a=>by kernel_rfl
def oD (p0:aO):Option aO:=(qG p0.slots).bind fun r0=>(bZ p0.heap).bind fun l1=>(bZ p0.where_).bind fun l2=>some (aO.mk r0 l1 l2)
def aDq:bG:=⟨aB.one (aJ.agg dE),aJ.agg dE,fun a=>oD a,.own,true⟩
def SG:bG:=⟨aB.one (aJ.agg dE),aJ.agg dE,fun a=>oD a,.frz,false⟩
theorem JI:aI tab 104 aDq:=Oc aBN rfl aG [(169,aFj),(169,X8)] ⟨M2,JH,trivial⟩ fun a=>by kernel_rfl
theorem EX:aI tab 104 SG:=Oc aBN rfl aG [(169,aFj),(169,X8)] ⟨M2,JH,trivial⟩ fun a=>by kernel_rfl
def oE (p0:aQ):Option aQ:=(oA p0.field).bind fun r0=>(tT p0.certs).bind fun r1=>(oD p0.agenda).bind fun r2=>(bZ p0.due).bind fun l3=>some (aQ.mk p0.now r0 r1 r2 l3)
def c47:bG:=⟨aB.one (aJ.agg bV),aJ.agg bV,fun a=>oE a,.own,true⟩
def aFk:bG:=⟨aB.one (aJ.agg bV),aJ.agg bV,fun a=>oE a,.frz,false⟩
theorem UW:aI tab 47 c47:=Oc aEY rfl aG [(91,c91),(91,aFe),(103,aMJ),(103,aCi),(104,aDq),(104,SG)] ⟨US,M1,UV,O6,JI,EX,trivial⟩ fun a=>by kernel_rfl
theorem M3:aI tab 47 aFk:=Oc aEY rfl aG [(91,c91),(91,aFe),(103,aMJ),(103,aCi),(104,aDq),(104,SG)] ⟨US,M1,UV,O6,JI,EX,trivial⟩ fun a=>by kernel_rfl
def zU (s:(rV×Int×Int×Int)):Option (bO (rV×Int×Int×Int) Bool):=bif decide (s.2.1<(Int.ofNat s.1.length)) then (aN s.1 s.2.1).bind fun a0=>bif (a0.1==s.2.2.1)&&(a0.2==s.2.2.2) then some (.done true) else some (.next (s.1,aA .i64 (s.2.1+1),s.2.2)) else some (.done false)
def JJ (p0:List (Int×Int)) (p1:Int×Int):Option Bool:=aH zU (p0,0,p1)
def c44:bG:=⟨aB.cons (aJ.sl jC) (aB.one (aJ.agg (cP.row jC))),aJ.bool,fun a=>JJ a.1 a.2,.pure,false⟩
theorem aTi:aI tab 44 c44:=Oc aR3 rfl aG [] trivial fun a=>by kernel_rfl
def lL (s:aUZ):Option (bO aUZ bI):=bif decide (s.2.1<(Int.ofNat s.2.2.2.1.length)) then (aN s.2.2.2.1 s.2.1).bind fun a0=>bif a0.1 !=s.1 then (aN s.2.2.2.1 s.2.1).bind fun a1=>(bT s.2.2.2.2.2.2 [a1]).bind fun l2=>some (.next (s.1,aA .i64 (s.2.1+1),s.2.2.1,s.2.2.2.1,s.2.2.2.2.1,s.2.2.2.2.2.1,l2)) else some (.next (s.1,aA .i64 (s.2.1+1),s.2.2)) else some (.done (bI.mk s.2.2.2.2.2.1 s.2.2.2.2.2.2))
def uQ (p0:bI) (p1:Int):Option bI:=aH lL (p1,0,p0.next_,p0.list,0,p0.next_,[])
def c82:bG:=⟨aB.cons (aJ.agg hO) (aB.one (aJ.int .i64)),aJ.agg hO,fun a=>uQ a.1 a.2,.frz,false⟩
theorem aTj:aI tab 82 c82:=Oc aSz rfl aG [] trivial fun a=>by kernel_rfl
def sF (s:aSO):Option aUI:=bif decide (s.2.1<(Int.ofNat s.2.2.2.2.2.2.2.2.2.2.2.2.length)) then (aN s.2.2.2.2.2.2.2.2.2.2.2.2 s.2.1).bind fun a0=>bif a0.1==s.1 then some (.done s.2.1) else some (.next (s.1,aA .i64 (s.2.1+1),s.2.2)) else some (.done (-1))
def qZ (p0:aQ) (p1:Int):Option Int:=aH sF (p1,0,p0.now.1,p0.now.2,p0.field.points,p0.certs.next_,p0.certs.list,p0.agenda.slots.uses,p0.agenda.slots.used,p0.agenda.slots.free,p0.agenda.heap,p0.agenda.where_,p0.due)
def c83:bG:=⟨aB.cons (aJ.agg bV) (aB.one (aJ.int .i64)),aJ.int .i64,fun a=>qZ a.1 a.2,.pure,false⟩
theorem aFl:aI tab 83 c83:=Oc aSA rfl aG [] trivial fun a=>by kernel_rfl
def rA (p0:aV) (p1:Int×Int):Option aV:=(qG p0).bind fun r0=>(aN r0.used p1.1).bind fun _=>(bT r0.free [p1.1]).bind fun l2=>some (aV.mk r0.uses (cO r0.used p1.1 false) l2)
def aV5:bG:=⟨aB.cons (aJ.agg gC) (aB.one (aJ.agg (cP.row jC))),aJ.agg gC,fun a=>rA a.1 a.2,.frz,false⟩
theorem aMK:aI tab 149 aV5:=Oc aJR rfl aG [(169,aFj),(169,X8)] ⟨M2,JH,trivial⟩ fun a=>by kernel_rfl
def uR (p0:Int×Int) (p1:Int×Int):Option Int:=(kO p0.1 p1.2).bind fun a0=>(kO p1.1 p0.2).bind fun a1=>(mK a0).bind fun n2=>(mK a1).bind fun n3=>bif n2 !=n3 then (mK a0).bind fun n4=>(mK a1).bind fun n5=>bif decide (n4<n5) then some (-1) else some 1 else (mK a0).bind fun n6=>bif decide (n6<0) then (tR a1 a0).bind fun n7=>some n7 else (tR a0 a1).bind fun n8=>some n8
def c31:bG:=⟨aB.cons (aJ.agg (cP.row jC)) (aB.one (aJ.agg (cP.row jC))),aJ.int .i64,fun a=>uR a.1 a.2,.pure,false⟩
theorem aTk:aI tab 31 c31:=Oc aRW rfl aG [(86,c86),(87,c87),(88,c88)] ⟨aFf,aFh,aFg,trivial⟩ fun a=>by kernel_rfl
def eS (p0:Int×Int×Int×Int×Int) (p1:Int×Int×Int×Int×Int):Option Bool:=(uR (p0.1,p0.2.1) (p1.1,p1.2.1)).bind fun n0=>bif decide (n0<0) then some true else bif n0==0 then some (decide (p0.2.2.1<p1.2.2.1)) else some false
def aAB:bG:=⟨aB.cons (aJ.agg (cP.row mG)) (aB.one (aJ.agg (cP.row mG))),aJ.bool,fun a=>eS a.1 a.2,.pure,false⟩
theorem FY:aI tab 217 aAB:=Oc aKu rfl aG [(31,c31)] ⟨aTk,trivial⟩ fun a=>by kernel_rfl
def fY (a:aSP):Option aSQ:=(aN a.2.2.2.2.2.1 a.2.1).bind fun a0=>(aN a.2.2.2.2.2.1 a.1).bind fun a1=>(aN a.2.2.2.2.2.1 a.1).bind fun _=>(aN (cO a.2.2.2.2.2.1 a.1 a0) a.2.1).bind fun _=>(aN (cO (cO a.2.2.2.2.2.1 a.1 a0) a.2.1 a1) a.1).bind fun a4=>(aN (cO (cO a.2.2.2.2.2.1 a.1 a0) a.2.1 a1) a.2.1).bind fun a5=>(aN a.2.2.2.2.2.2 a4.2.2.2.1).bind fun _=>(aN (cO a.2.2.2.2.2.2 a4.2.2.2.1 a.1) a5.2.2.2.1).bind fun _=>bif a.2.2.1.length==a.2.2.1.length then bif a.2.2.2.1.length==a.2.2.2.1.length then bif a.2.2.2.2.1.length==a.2.2.2.2.1.length then bif ((cO (cO a.2.2.2.2.2.1 a.1 a0) a.2.1 a1).length)==a.2.2.2.2.2.1.length then bif ((cO (cO a.2.2.2.2.2.2 a4.2.2.2.1 a.1) a5.2.2.2.1 a.2.1).length)==a.2.2.2.2.2.2.length then some (a.2.2.1,a.2.2.2.1,a.2.2.2.2.1,cO (cO a.2.2.2.2.2.1 a.1 a0) a.2.1 a1,cO (cO a.2.2.2.2.2.2 a4.2.2.2.1 a.1) a5.2.2.2.1 a.2.1) else none else none else none else none else none
def HQ:eH:=⟨[.i,.i,.l [.i .i64],.l [.b],.l [.i .i64],.l [.i .i64,.i .i64,.i .i64,.i .i64,.i .i64],.l [.i .i64]],[.agg [.own 0 false,.own 1 false,.own 2 false,.own 3 false,.own 4 false],.int .i64 0,.int .i64 0],[.arr [.i .i64] [],.arr [.b] [],.arr [.i .i64] [],.arr [.i .i64,.i .i64,.i .i64,.i .i64,.i .i64] [],.arr [.i .i64] []],[.l [.i .i64],.l [.b],.l [.i .i64],.l [.i .i64,.i .i64,.i .i64,.i .i64,.i .i64],.l [.i .i64]],.tup [],[.arr [.i .i64] [],.arr [.b] [],.arr [.i .i64] [],.arr [.i .i64,.i .i64,.i .i64,.i .i64,.i .i64] [],.arr [.i .i64] []],fun a=>fY a⟩
theorem xK:mT tab 148 HQ:=mT.of UB (wd:=false) (cx:=(mS aG [] [] [] [])) (kC.make trivial trivial trivial) (fun a=>by kernel_rfl)
def gY (a:((List Int)×(List Bool)×(List Int)×Nat×Nat×Int×Int×kW×(List Int))):Option QY:=(aN (a.2.2.2.2.2.2.2.1.take a.2.2.2.1) a.2.2.2.2.2.2.1).bind fun a0=>(aN (a.2.2.2.2.2.2.2.1.take a.2.2.2.1) a.2.2.2.2.2.1).bind fun a1=>(aN (a.2.2.2.2.2.2.2.1.take a.2.2.2.1) a.2.2.2.2.2.1).bind fun _=>(aN ((cO a.2.2.2.2.2.2.2.1 a.2.2.2.2.2.1 a0).take a.2.2.2.1) a.2.2.2.2.2.2.1).bind fun _=>(aN ((cO (cO a.2.2.2.2.2.2.2.1 a.2.2.2.2.2.1 a0) a.2.2.2.2.2.2.1 a1).take a.2.2.2.1) a.2.2.2.2.2.1).bind fun a4=>(aN ((cO (cO a.2.2.2.2.2.2.2.1 a.2.2.2.2.2.1 a0) a.2.2.2.2.2.2.1 a1).take a.2.2.2.1) a.2.2.2.2.2.2.1).bind fun a5=>(aN a.2.2.2.2.2.2.2.2 a4.2.2.2.1).bind fun _=>(aN (cO a.2.2.2.2.2.2.2.2 a4.2.2.2.1 a.2.2.2.2.2.1) a5.2.2.2.1).bind fun _=>bif ((cO (cO a.2.2.2.2.2.2.2.1 a.2.2.2.2.2.1 a0) a.2.2.2.2.2.2.1 a1).length)==a.2.2.2.2.2.2.2.1.length then bif ((cO (cO a.2.2.2.2.2.2.2.2 a4.2.2.2.1 a.2.2.2.2.2.1) a5.2.2.2.1 a.2.2.2.2.2.2.1).length)==a.2.2.2.2.2.2.2.2.length then some (cO (cO a.2.2.2.2.2.2.2.1 a.2.2.2.2.2.1 a0) a.2.2.2.2.2.2.1 a1,cO (cO a.2.2.2.2.2.2.2.2 a4.2.2.2.1 a.2.2.2.2.2.1) a5.2.2.2.1 a.2.2.2.2.2.2.1) else none else none
def HR:eH:=⟨[.l [.i .i64],.l [.b],.l [.i .i64],.n,.n,.i,.i,.l [.i .i64,.i .i64,.i .i64,.i .i64,.i .i64],.l [.i .i64]],[.agg [.sl [.i .i64] [],.sl [.b] [],.sl [.i .i64] [],.pre 0 0 0 false,.own 1 false],.int .i64 0,.int .i64 0],[.arr [.i .i64,.i .i64,.i .i64,.i .i64,.i .i64] [],.arr [.i .i64] []],[.l [.i .i64,.i .i64,.i .i64,.i .i64,.i .i64],.l [.i .i64]],.tup [],[.arr [.i .i64,.i .i64,.i .i64,.i .i64,.i .i64] [],.arr [.i .i64] []],fun a=>gY a⟩
theorem xL:mT tab 148 HR:=mT.of UB (wd:=false) (cx:=(mS aG [] [] [] [])) (kC.make trivial trivial trivial) (fun a=>by kernel_rfl)
def iM (c0:aLu) (s:aLv):Option (bO aLv aLw):=bif decide (0<s.1) then (aN (s.2.1.take s.2.2.2.2.2.2.1) s.1).bind fun a0=>(aN (s.2.1.take s.2.2.2.2.2.2.1) (aA .i64 (Int.tdiv (aA .i64 (s.1-1)) 2))).bind fun a1=>(eS a0 a1).bind fun b2=>bif b2 then (gY (s.2.2.2.1,s.2.2.2.2.1,s.2.2.2.2.2.1,s.2.2.2.2.2.2.1,s.2.2.2.2.2.2.2,s.1,aA .i64 (Int.tdiv (aA .i64 (s.1-1)) 2),s.2.1,s.2.2.1)).bind fun a3=>some (.next (aA .i64 (Int.tdiv (aA .i64 (s.1-1)) 2),a3.1,a3.2,s.2.2.2)) else bif s.2.1.length==c0.2.2.2.2.2.2.1.length then bif s.2.2.1.length==c0.2.2.2.2.2.2.2.length then some (.done (s.1,s.2.1,s.2.2.1)) else none else none else bif s.2.1.length==c0.2.2.2.2.2.2.1.length then bif s.2.2.1.length==c0.2.2.2.2.2.2.2.length then some (.done (s.1,s.2.1,s.2.2.1)) else none else none
def oF (a:aLu):Option aLw:=aH (iM a) (a.2.2.2.2.2.1,a.2.2.2.2.2.2.1,a.2.2.2.2.2.2.2,a.1,a.2.1,a.2.2.1,a.2.2.2.1,a.2.2.2.2.1)
def UX:eH:=⟨[.l [.i .i64],.l [.b],.l [.i .i64],.n,.n,.i,.l [.i .i64,.i .i64,.i .i64,.i .i64,.i .i64],.l [.i .i64]],[.agg [.sl [.i .i64] [],.sl [.b] [],.sl [.i .i64] [],.pre 0 0 0 false,.own 1 false],.int .i64 0],[.arr [.i .i64,.i .i64,.i .i64,.i .i64,.i .i64] [],.arr [.i .i64] []],[.i,.l [.i .i64,.i .i64,.i .i64,.i .i64,.i .i64],.l [.i .i64]],.int .i64 0,[.arr [.i .i64,.i .i64,.i .i64,.i .i64,.i .i64] [],.arr [.i .i64] []],fun a=>oF a⟩
theorem K3:mT tab 151 UX:=mT.of UC (wd:=true) (cx:=(mS aG [(217,aAB)] [(148,HQ),(148,HR)] [] [])) (kC.make ⟨FY,trivial⟩ ⟨xK,xL,trivial⟩ trivial) (fun a=>by kernel_rfl)
def kZ (c0:aLu) (s:aLv):Option (bO aLv QY):=match s with |(a,b,d,e,f,g,h,i)=>bif decide ((Int.ofNat h)<=(aA .i64 ((aA .i64 (2*a))+1))) then bif b.length==c0.2.2.2.2.2.2.1.length then bif d.length==c0.2.2.2.2.2.2.2.length then some (.done (b,d)) else none else none else bif decide ((aA .i64 ((aA .i64 ((aA .i64 (2*a))+1))+1))<(Int.ofNat h)) then (aN (b.take h) (aA .i64 ((aA .i64 ((aA .i64 (2*a))+1))+1))).bind fun a0=>(aN (b.take h) (aA .i64 ((aA .i64 (2*a))+1))).bind fun a1=>(eS a0 a1).bind fun b2=>bif b2 then (aN (b.take h) (aA .i64 ((aA .i64 ((aA .i64 (2*a))+1))+1))).bind fun a3=>(aN (b.take h) a).bind fun a4=>(eS a3 a4).bind fun b5=>bif !b5 then bif b.length==c0.2.2.2.2.2.2.1.length then bif d.length==c0.2.2.2.2.2.2.2.length then some (.done (b,d)) else none else none else (gY (e,f,g,h,i,a,aA .i64 ((aA .i64 ((aA .i64 (2*a))+1))+1),b,d)).bind fun a6=>some (.next (aA .i64 ((aA .i64 ((aA .i64 (2*a))+1))+1),a6.1,a6.2,(e,f,g,h,i))) else (aN (b.take h) (aA .i64 ((aA .i64 (2*a))+1))).bind fun a7=>(aN (b.take h) a).bind fun a8=>(eS a7 a8).bind fun b9=>bif !b9 then bif b.length==c0.2.2.2.2.2.2.1.length then bif d.length==c0.2.2.2.2.2.2.2.length then some (.done (b,d)) else none else none else (gY (e,f,g,h,i,a,aA .i64 ((aA .i64 (2*a))+1),b,d)).bind fun a10=>some (.next (aA .i64 ((aA .i64 (2*a))+1),a10.1,a10.2,(e,f,g,h,i))) else (aN (b.take h) (aA .i64 ((aA .i64 (2*a))+1))).bind fun a11=>(aN (b.take h) a).bind fun a12=>(eS a11 a12).bind fun b13=>bif !b13 then bif b.length==c0.2.2.2.2.2.2.1.length then bif d.length==c0.2.2.2.2.2.2.2.length then some (.done (b,d)) else none else none else (gY (e,f,g,h,i,a,aA .i64 ((aA .i64 (2*a))+1),b,d)).bind fun a14=>some (.next (aA .i64 ((aA .i64 (2*a))+1),a14.1,a14.2,(e,f,g,h,i)))
def lM (a:aLu):Option QY:=aH (kZ a) (a.2.2.2.2.2.1,a.2.2.2.2.2.2.1,a.2.2.2.2.2.2.2,a.1,a.2.1,a.2.2.1,a.2.2.2.1,a.2.2.2.2.1)
def aAC:eH:=⟨[.l [.i .i64],.l [.b],.l [.i .i64],.n,.n,.i,.l [.i .i64,.i .i64,.i .i64,.i .i64,.i .i64],.l [.i .i64]],[.agg [.sl [.i .i64] [],.sl [.b] [],.sl [.i .i64] [],.pre 0 0 0 false,.own 1 false],.int .i64 0],[.arr [.i .i64,.i .i64,.i .i64,.i .i64,.i .i64] [],.arr [.i .i64] []],[.l [.i .i64,.i .i64,.i .i64,.i .i64,.i .i64],.l [.i .i64]],.tup [],[.arr [.i .i64,.i .i64,.i .i64,.i .i64,.i .i64] [],.arr [.i .i64] []],fun a=>lM a⟩
theorem SH:mT tab 150 aAC:=mT.of aBT (wd:=false) (cx:=(mS aG [(217,aAB)] [(148,HQ),(148,HR)] [] [])) (kC.make ⟨FY,trivial⟩ ⟨xK,xL,trivial⟩ trivial) (fun a=>by kernel_rfl)
def kQ (p0:aO) (p1:Int×Int):Option aO:=(oD p0).bind fun r0=>(aN r0.where_ p1.1).bind fun n1=>bif n1 !=(aA .i64 ((Int.ofNat r0.heap.length) -1)) then (fY (n1,aA .i64 ((Int.ofNat r0.heap.length) -1),r0.slots.uses,r0.slots.used,r0.slots.free,r0.heap,r0.where_)).bind fun a2=>(jE a2.2.2.2.1 0 (aA .i64 ((Int.ofNat r0.heap.length) -1))).bind fun _=>(aN a2.2.2.2.2 p1.1).bind fun _=>(rA (aV.mk a2.1 a2.2.1 a2.2.2.1) p1).bind fun r5=>bif n1 !=(aA .i64 ((Int.ofNat r0.heap.length) -1)) then (oF (r5.uses,r5.used,r5.free,(aA .i64 ((Int.ofNat r0.heap.length) -1)).toNat,a2.2.2.2.1.length,n1,a2.2.2.2.1,cO a2.2.2.2.2 p1.1 (-1))).bind fun a6=>(lM (r5.uses,r5.used,r5.free,(aA .i64 ((Int.ofNat r0.heap.length) -1)).toNat,a2.2.2.2.1.length,a6)).bind fun a7=>some (aO.mk r5 (a7.1.take ((aA .i64 ((Int.ofNat r0.heap.length) -1)).toNat)) a7.2) else some (aO.mk r5 (a2.2.2.2.1.take ((aA .i64 ((Int.ofNat r0.heap.length) -1)).toNat)) (cO a2.2.2.2.2 p1.1 (-1))) else (jE r0.heap 0 (aA .i64 ((Int.ofNat r0.heap.length) -1))).bind fun _=>(aN r0.where_ p1.1).bind fun _=>(rA r0.slots p1).bind fun r10=>bif n1 !=(aA .i64 ((Int.ofNat r0.heap.length) -1)) then (oF (r10.uses,r10.used,r10.free,(aA .i64 ((Int.ofNat r0.heap.length) -1)).toNat,r0.heap.length,n1,r0.heap,cO r0.where_ p1.1 (-1))).bind fun a11=>(lM (r10.uses,r10.used,r10.free,(aA .i64 ((Int.ofNat r0.heap.length) -1)).toNat,r0.heap.length,a11)).bind fun a12=>some (aO.mk r10 (a12.1.take ((aA .i64 ((Int.ofNat r0.heap.length) -1)).toNat)) a12.2) else some (aO.mk r10 (r0.heap.take ((aA .i64 ((Int.ofNat r0.heap.length) -1)).toNat)) (cO r0.where_ p1.1 (-1)))
def c84:bG:=⟨aB.cons (aJ.agg dE) (aB.one (aJ.agg (cP.row jC))),aJ.agg dE,fun a=>kQ a.1 a.2,.frz,false⟩
theorem aFm:aI tab 84 c84:=aI.of aSB (cx:=(mS aG [(104,aDq),(104,SG),(149,aV5)] [(148,HQ),(148,HR),(151,UX),(150,aAC)] [] [])) rfl (kC.make ⟨JI,EX,aMK,trivial⟩ ⟨xK,xL,K3,SH,trivial⟩ trivial) (fun a=>by kernel_rfl)
def yE (p0:aQ) (p1:Int):Option aQ:=(oE p0).bind fun r0=>(uQ p0.certs p1).bind fun r1=>(qZ p0 p1).bind fun n2=>bif decide (0<=n2) then (aN p0.due n2).bind fun a3=>(kQ p0.agenda a3.2).bind fun r4=>(jE p0.due 0 n2).bind fun l5=>(bZ l5).bind fun l6=>(jE p0.due (aA .i64 (n2+1)) (Int.ofNat p0.due.length)).bind fun l7=>bif l7.isEmpty then some (aQ.mk r0.now r0.field r1 r4 l6) else (bT l6 l7).bind fun l8=>some (aQ.mk r0.now r0.field r1 r4 l8) else some (aQ.mk r0.now r0.field r1 r0.agenda r0.due)
def c27:bG:=⟨aB.cons (aJ.agg bV) (aB.one (aJ.int .i64)),aJ.agg bV,fun a=>yE a.1 a.2,.frz,false⟩
theorem aTl:aI tab 27 c27:=Oc aRU rfl aG [(47,c47),(47,aFk),(82,c82),(83,c83),(84,c84)] ⟨UW,M3,aTj,aFl,aFm,trivial⟩ fun a=>by kernel_rfl
def uS (s:(Int×bX×bX)):Option (bO (Int×bX×bX) Bool):=bif decide (s.1<(Int.ofNat s.2.1.length)) then (aN s.2.1 s.1).bind fun a0=>(aN s.2.2 s.1).bind fun a1=>bif !((a0.1==a1.1)&&((a0.2.1==a1.2.1)&&(a0.2.2==a1.2.2))) then some (.done false) else some (.next (aA .i64 (s.1+1),s.2)) else some (.done true)
def yF (p0:Field) (p1:Field):Option Bool:=bif (Int.ofNat p0.points.length) !=(Int.ofNat p1.points.length) then some false else aH uS (0,p0.points,p1.points)
def aTm:bG:=⟨aB.cons (aJ.agg bR) (aB.one (aJ.agg bR)),aJ.bool,fun a=>yF a.1 a.2,.pure,false⟩
theorem aCj:aI tab 119 aTm:=Oc aJw rfl aG [] trivial fun a=>by kernel_rfl
def tU (p0:Bool) (p1:Bool×Int×Int) (p2:Bool×Int×Int):Option ((Int×Int)×Int):=bif decide (0<p1.2.1) then some ((0,0),16) else bif decide (9223372036854775807<p1.2.2) then some ((0,0),16) else bif decide (0<p2.2.1) then some ((0,0),16) else bif decide (9223372036854775807<p2.2.2) then some ((0,0),16) else bif p0 then some ((aA .i64 (0- (aA .i64 p1.2.2)),aA .i64 p2.2.2),0) else some ((aA .i64 p1.2.2,aA .i64 p2.2.2),0)
def aV6:bG:=⟨aB.cons aJ.bool (aB.cons (aJ.agg (cP.row EM)) (aB.one (aJ.agg (cP.row EM)))),aJ.tup (aB.cons (aJ.agg (cP.row jC)) (aB.one (aJ.int .i64))),fun a=>tU a.1 a.2.1 a.2.2,.pure,false⟩
theorem aML:aI tab 312 aV6:=Oc aLo rfl aG [] trivial fun a=>by kernel_rfl
def oG (p0:Int) (p1:Int):Option ((Int×Int)×Int):=bif p1==0 then some ((0,0),26) else (iR p0).bind fun n0=>(iR p1).bind fun n1=>(sC n0 n1).bind fun n2=>bif !((decide (p0<0))==(decide (p1<0))) then (iR p0).bind fun n3=>bif n2==0 then none else (iR p1).bind fun n4=>bif n2==0 then none else (tU (p0 !=0) (false,0,aA .u64 (Int.tdiv n3 n2)) (false,0,aA .u64 (Int.tdiv n4 n2))).bind fun a5=>some a5 else (iR p0).bind fun n6=>bif n2==0 then none else (iR p1).bind fun n7=>bif n2==0 then none else (tU false (false,0,aA .u64 (Int.tdiv n6 n2)) (false,0,aA .u64 (Int.tdiv n7 n2))).bind fun a8=>some a8
def aV7:bG:=⟨aB.cons (aJ.int .i64) (aB.one (aJ.int .i64)),aJ.tup (aB.cons (aJ.agg (cP.row jC)) (aB.one (aJ.int .i64))),fun a=>oG a.1 a.2,.pure,false⟩
theorem aMM:aI tab 296 aV7:=Oc aLi rfl aG [(95,c95),(94,c94),(312,aV6)] ⟨aAy,aFd,aML,trivial⟩ fun a=>by kernel_rfl
def FZ (p0:Int×Int×Int) (p1:Int×Int×Int):Option (Int×Int):=(oG (aA .i64 (p0.2.1-p1.2.1)) (aA .i64 (p1.2.2-p0.2.2))).bind fun a0=>some a0.1
def aV8:bG:=⟨aB.cons (aJ.agg (cP.row eW)) (aB.one (aJ.agg (cP.row eW))),aJ.agg (cP.row jC),fun a=>FZ a.1 a.2,.pure,false⟩
theorem aMN:aI tab 261 aV8:=Oc aK2 rfl aG [(296,aV7)] ⟨aMM,trivial⟩ fun a=>by kernel_rfl
def uT (p0:Int×Int×Int) (p1:Int×Int×Int) (p2:Int×Int):Option ((Int×Int)×Bool):=(oB p1 p0 p2).bind fun b0=>bif b0 then some (p2,true) else bif decide (p0.2.2<p1.2.2) then (FZ p0 p1).bind fun a1=>some (a1,true) else some ((0,0),false)
def aV9:bG:=⟨aB.cons (aJ.agg (cP.row eW)) (aB.cons (aJ.agg (cP.row eW)) (aB.one (aJ.agg (cP.row jC)))),aJ.tup (aB.cons (aJ.agg (cP.row jC)) (aB.one aJ.bool)),fun a=>uT a.1 a.2.1 a.2.2,.pure,false⟩
theorem aMO:aI tab 218 aV9:=Oc aKv rfl aG [(98,c98),(261,aV8)] ⟨UU,aMN,trivial⟩ fun a=>by kernel_rfl
def tV (p0:Field) (p1:Int×Int) (p2:Int×Int):Option ((Int×Int)×Bool):=(iC p0 p1.2).bind fun n0=>(aN p0.points n0).bind fun a1=>(iC p0 p1.1).bind fun n2=>(aN p0.points n2).bind fun a3=>(uT a1 a3 p2).bind fun a4=>some a4
def aMP:bG:=⟨aB.cons (aJ.agg bR) (aB.cons (aJ.agg (cP.row jC)) (aB.one (aJ.agg (cP.row jC)))),aJ.tup (aB.cons (aJ.agg (cP.row jC)) (aB.one aJ.bool)),fun a=>tV a.1 a.2.1 a.2.2,.pure,false⟩
theorem UY:aI tab 143 aMP:=Oc aJM rfl aG [(97,c97),(218,aV9)] ⟨O5,aMO,trivial⟩ fun a=>by kernel_rfl
def iN (c0:JE) (s:JE):Option (bO JE JE):=bif decide (0<s.1) then (aN s.2.2.2.2.1 s.1).bind fun a0=>(aN s.2.2.2.2.1 (aA .i64 (Int.tdiv (aA .i64 (s.1-1)) 2))).bind fun a1=>(eS a0 a1).bind fun b2=>bif b2 then (fY (s.1,aA .i64 (Int.tdiv (aA .i64 (s.1-1)) 2),s.2)).bind fun a3=>some (.next (aA .i64 (Int.tdiv (aA .i64 (s.1-1)) 2),a3)) else bif s.2.1.length==c0.2.1.length then bif s.2.2.1.length==c0.2.2.1.length then bif s.2.2.2.1.length==c0.2.2.2.1.length then bif s.2.2.2.2.1.length==c0.2.2.2.2.1.length then bif s.2.2.2.2.2.length==c0.2.2.2.2.2.length then some (.done s) else none else none else none else none else none else bif s.2.1.length==c0.2.1.length then bif s.2.2.1.length==c0.2.2.1.length then bif s.2.2.2.1.length==c0.2.2.2.1.length then bif s.2.2.2.2.1.length==c0.2.2.2.2.1.length then bif s.2.2.2.2.2.length==c0.2.2.2.2.2.length then some (.done s) else none else none else none else none else none
def sG (a:JE):Option JE:=aH (iN a) a
def aAD:eH:=⟨[.i,.l [.i .i64],.l [.b],.l [.i .i64],.l [.i .i64,.i .i64,.i .i64,.i .i64,.i .i64],.l [.i .i64]],[.agg [.own 0 false,.own 1 false,.own 2 false,.own 3 false,.own 4 false],.int .i64 0],[.arr [.i .i64] [],.arr [.b] [],.arr [.i .i64] [],.arr [.i .i64,.i .i64,.i .i64,.i .i64,.i .i64] [],.arr [.i .i64] []],[.i,.l [.i .i64],.l [.b],.l [.i .i64],.l [.i .i64,.i .i64,.i .i64,.i .i64,.i .i64],.l [.i .i64]],.int .i64 0,[.arr [.i .i64] [],.arr [.b] [],.arr [.i .i64] [],.arr [.i .i64,.i .i64,.i .i64,.i .i64,.i .i64] [],.arr [.i .i64] []],fun a=>sG a⟩
theorem SI:mT tab 151 aAD:=mT.of UC (wd:=false) (cx:=(mS aG [(217,aAB)] [(148,HQ),(148,HR)] [] [])) (kC.make ⟨FY,trivial⟩ ⟨xK,xL,trivial⟩ trivial) (fun a=>by kernel_rfl)
def lA (c0:JE) (s:JE):Option (bO JE aSQ):=bif decide ((Int.ofNat s.2.2.2.2.1.length)<=(aA .i64 ((aA .i64 (2*s.1))+1))) then bif s.2.1.length==c0.2.1.length then bif s.2.2.1.length==c0.2.2.1.length then bif s.2.2.2.1.length==c0.2.2.2.1.length then bif s.2.2.2.2.1.length==c0.2.2.2.2.1.length then bif s.2.2.2.2.2.length==c0.2.2.2.2.2.length then some (.done s.2) else none else none else none else none else none else bif decide ((aA .i64 ((aA .i64 ((aA .i64 (2*s.1))+1))+1))<(Int.ofNat s.2.2.2.2.1.length)) then (aN s.2.2.2.2.1 (aA .i64 ((aA .i64 ((aA .i64 (2*s.1))+1))+1))).bind fun a0=>(aN s.2.2.2.2.1 (aA .i64 ((aA .i64 (2*s.1))+1))).bind fun a1=>(eS a0 a1).bind fun b2=>bif b2 then (aN s.2.2.2.2.1 (aA .i64 ((aA .i64 ((aA .i64 (2*s.1))+1))+1))).bind fun a3=>(aN s.2.2.2.2.1 s.1).bind fun a4=>(eS a3 a4).bind fun b5=>bif !b5 then bif s.2.1.length==c0.2.1.length then bif s.2.2.1.length==c0.2.2.1.length then bif s.2.2.2.1.length==c0.2.2.2.1.length then bif s.2.2.2.2.1.length==c0.2.2.2.2.1.length then bif s.2.2.2.2.2.length==c0.2.2.2.2.2.length then some (.done s.2) else none else none else none else none else none else (fY (s.1,aA .i64 ((aA .i64 ((aA .i64 (2*s.1))+1))+1),s.2)).bind fun a6=>some (.next (aA .i64 ((aA .i64 ((aA .i64 (2*s.1))+1))+1),a6)) else (aN s.2.2.2.2.1 (aA .i64 ((aA .i64 (2*s.1))+1))).bind fun a7=>(aN s.2.2.2.2.1 s.1).bind fun a8=>(eS a7 a8).bind fun b9=>bif !b9 then bif s.2.1.length==c0.2.1.length then bif s.2.2.1.length==c0.2.2.1.length then bif s.2.2.2.1.length==c0.2.2.2.1.length then bif s.2.2.2.2.1.length==c0.2.2.2.2.1.length then bif s.2.2.2.2.2.length==c0.2.2.2.2.2.length then some (.done s.2) else none else none else none else none else none else (fY (s.1,aA .i64 ((aA .i64 (2*s.1))+1),s.2)).bind fun a10=>some (.next (aA .i64 ((aA .i64 (2*s.1))+1),a10)) else (aN s.2.2.2.2.1 (aA .i64 ((aA .i64 (2*s.1))+1))).bind fun a11=>(aN s.2.2.2.2.1 s.1).bind fun a12=>(eS a11 a12).bind fun b13=>bif !b13 then bif s.2.1.length==c0.2.1.length then bif s.2.2.1.length==c0.2.2.1.length then bif s.2.2.2.1.length==c0.2.2.2.1.length then bif s.2.2.2.2.1.length==c0.2.2.2.2.1.length then bif s.2.2.2.2.2.length==c0.2.2.2.2.2.length then some (.done s.2) else none else none else none else none else none else (fY (s.1,aA .i64 ((aA .i64 (2*s.1))+1),s.2)).bind fun a14=>some (.next (aA .i64 ((aA .i64 (2*s.1))+1),a14))
def oU (a:JE):Option aSQ:=aH (lA a) a
def aFn:eH:=⟨[.i,.l [.i .i64],.l [.b],.l [.i .i64],.l [.i .i64,.i .i64,.i .i64,.i .i64,.i .i64],.l [.i .i64]],[.agg [.own 0 false,.own 1 false,.own 2 false,.own 3 false,.own 4 false],.int .i64 0],[.arr [.i .i64] [],.arr [.b] [],.arr [.i .i64] [],.arr [.i .i64,.i .i64,.i .i64,.i .i64,.i .i64] [],.arr [.i .i64] []],[.l [.i .i64],.l [.b],.l [.i .i64],.l [.i .i64,.i .i64,.i .i64,.i .i64,.i .i64],.l [.i .i64]],.tup [],[.arr [.i .i64] [],.arr [.b] [],.arr [.i .i64] [],.arr [.i .i64,.i .i64,.i .i64,.i .i64,.i .i64] [],.arr [.i .i64] []],fun a=>oU a⟩
theorem aDr:mT tab 150 aFn:=mT.of aBT (wd:=false) (cx:=(mS aG [(217,aAB)] [(148,HQ),(148,HR)] [] [])) (kC.make ⟨FY,trivial⟩ ⟨xK,xL,trivial⟩ trivial) (fun a=>by kernel_rfl)
def uU (p0:aO) (p1:Int×Int) (p2:Int×Int):Option aO:=(oD p0).bind fun r0=>(aN r0.where_ p1.1).bind fun n1=>(aN r0.heap n1).bind fun a2=>(sG (n1,r0.slots.uses,r0.slots.used,r0.slots.free,cO r0.heap n1 (p2.1,p2.2,a2.2.2),r0.where_)).bind fun a3=>(oU a3).bind fun a4=>some (aO.mk (aV.mk a4.1 a4.2.1 a4.2.2.1) a4.2.2.2.1 a4.2.2.2.2)
def aWa:bG:=⟨aB.cons (aJ.agg dE) (aB.cons (aJ.agg (cP.row jC)) (aB.one (aJ.agg (cP.row jC)))),aJ.agg dE,fun a=>uU a.1 a.2.1 a.2.2,.frz,false⟩
theorem aMQ:aI tab 220 aWa:=aI.of aKx (cx:=(mS aG [(104,aDq),(104,SG)] [(151,UX),(150,aAC),(151,aAD),(150,aFn)] [] [])) rfl (kC.make ⟨JI,EX,trivial⟩ ⟨K3,SH,SI,aDr,trivial⟩ trivial) (fun a=>by kernel_rfl)
def gZ (p0:aV):Option Bool:=bif decide (0<(Int.ofNat p0.free.length)) then (aN p0.free (aA .i64 ((Int.ofNat p0.free.length) -1))).bind fun n0=>(aN p0.uses n0).bind fun n1=>some (decide (n1<1000000)) else some false
def aTn:bG:=⟨aB.one (aJ.agg gC),aJ.bool,fun a=>gZ a,.pure,false⟩
theorem aCk:aI tab 221 aTn:=Oc aKy rfl aG [] trivial fun a=>by kernel_rfl
def zV (p0:aV):Option (aV×(Int×Int)):=(qG p0).bind fun r0=>(aN r0.free (aA .i64 ((Int.ofNat r0.free.length) -1))).bind fun n1=>(jE r0.free 0 (aA .i64 ((Int.ofNat r0.free.length) -1))).bind fun _=>(aN r0.uses n1).bind fun n3=>(aN r0.uses n1).bind fun _=>(aN r0.used n1).bind fun _=>(aN (cO r0.uses n1 (aA .i64 (n3+1))) n1).bind fun n6=>some (aV.mk (cO r0.uses n1 (aA .i64 (n3+1))) (cO r0.used n1 true) (r0.free.take ((aA .i64 ((Int.ofNat r0.free.length) -1)).toNat)),n1,n6)
def aWb:bG:=⟨aB.one (aJ.agg gC),aJ.tup (aB.cons (aJ.agg gC) (aB.one (aJ.agg (cP.row jC)))),fun a=>zV a,.frz,false⟩
theorem aMR:aI tab 262 aWb:=Oc aK3 rfl aG [(169,aFj),(169,X8)] ⟨M2,JH,trivial⟩ fun a=>by kernel_rfl
def oV (a:((List Int)×(List Bool)×(List Int)×Int×Int×kW×(List Int))):Option QY:=(aN a.2.2.2.2.2.1 a.2.2.2.2.1).bind fun a0=>(aN a.2.2.2.2.2.1 a.2.2.2.1).bind fun a1=>(aN a.2.2.2.2.2.1 a.2.2.2.1).bind fun _=>(aN (cO a.2.2.2.2.2.1 a.2.2.2.1 a0) a.2.2.2.2.1).bind fun _=>(aN (cO (cO a.2.2.2.2.2.1 a.2.2.2.1 a0) a.2.2.2.2.1 a1) a.2.2.2.1).bind fun a4=>(aN (cO (cO a.2.2.2.2.2.1 a.2.2.2.1 a0) a.2.2.2.2.1 a1) a.2.2.2.2.1).bind fun a5=>(aN a.2.2.2.2.2.2 a4.2.2.2.1).bind fun _=>(aN (cO a.2.2.2.2.2.2 a4.2.2.2.1 a.2.2.2.1) a5.2.2.2.1).bind fun _=>bif ((cO (cO a.2.2.2.2.2.1 a.2.2.2.1 a0) a.2.2.2.2.1 a1).length)==a.2.2.2.2.2.1.length then bif ((cO (cO a.2.2.2.2.2.2 a4.2.2.2.1 a.2.2.2.1) a5.2.2.2.1 a.2.2.2.2.1).length)==a.2.2.2.2.2.2.length then some (cO (cO a.2.2.2.2.2.1 a.2.2.2.1 a0) a.2.2.2.2.1 a1,cO (cO a.2.2.2.2.2.2 a4.2.2.2.1 a.2.2.2.1) a5.2.2.2.1 a.2.2.2.2.1) else none else none
def aFo:eH:=⟨[.l [.i .i64],.l [.b],.l [.i .i64],.i,.i,.l [.i .i64,.i .i64,.i .i64,.i .i64,.i .i64],.l [.i .i64]],[.agg [.sl [.i .i64] [],.sl [.b] [],.sl [.i .i64] [],.own 0 false,.own 1 false],.int .i64 0,.int .i64 0],[.arr [.i .i64,.i .i64,.i .i64,.i .i64,.i .i64] [],.arr [.i .i64] []],[.l [.i .i64,.i .i64,.i .i64,.i .i64,.i .i64],.l [.i .i64]],.tup [],[.arr [.i .i64,.i .i64,.i .i64,.i .i64,.i .i64] [],.arr [.i .i64] []],fun a=>oV a⟩
theorem aDs:mT tab 148 aFo:=mT.of UB (wd:=false) (cx:=(mS aG [] [] [] [])) (kC.make trivial trivial trivial) (fun a=>by kernel_rfl)
def iO (c0:aUU) (s:aUV):Option (bO aUV aLw):=bif decide (0<s.1) then (aN s.2.1 s.1).bind fun a0=>(aN s.2.1 (aA .i64 (Int.tdiv (aA .i64 (s.1-1)) 2))).bind fun a1=>(eS a0 a1).bind fun b2=>bif b2 then (oV (s.2.2.2.1,s.2.2.2.2.1,s.2.2.2.2.2,s.1,aA .i64 (Int.tdiv (aA .i64 (s.1-1)) 2),s.2.1,s.2.2.1)).bind fun a3=>some (.next (aA .i64 (Int.tdiv (aA .i64 (s.1-1)) 2),a3.1,a3.2,s.2.2.2)) else bif s.2.1.length==c0.2.2.2.2.1.length then bif s.2.2.1.length==c0.2.2.2.2.2.length then some (.done (s.1,s.2.1,s.2.2.1)) else none else none else bif s.2.1.length==c0.2.2.2.2.1.length then bif s.2.2.1.length==c0.2.2.2.2.2.length then some (.done (s.1,s.2.1,s.2.2.1)) else none else none
def sH (a:aUU):Option aLw:=aH (iO a) (a.2.2.2.1,a.2.2.2.2.1,a.2.2.2.2.2,a.1,a.2.1,a.2.2.1)
def aFp:eH:=⟨[.l [.i .i64],.l [.b],.l [.i .i64],.i,.l [.i .i64,.i .i64,.i .i64,.i .i64,.i .i64],.l [.i .i64]],[.agg [.sl [.i .i64] [],.sl [.b] [],.sl [.i .i64] [],.own 0 false,.own 1 false],.int .i64 0],[.arr [.i .i64,.i .i64,.i .i64,.i .i64,.i .i64] [],.arr [.i .i64] []],[.i,.l [.i .i64,.i .i64,.i .i64,.i .i64,.i .i64],.l [.i .i64]],.int .i64 0,[.arr [.i .i64,.i .i64,.i .i64,.i .i64,.i .i64] [],.arr [.i .i64] []],fun a=>sH a⟩
theorem aDt:mT tab 151 aFp:=mT.of UC (wd:=true) (cx:=(mS aG [(217,aAB)] [(148,HQ),(148,HR),(148,aFo)] [] [])) (kC.make ⟨FY,trivial⟩ ⟨xK,xL,aDs,trivial⟩ trivial) (fun a=>by kernel_rfl)
def fA (p0:aO) (p1:Int×Int) (p2:Int):Option (aO×(Int×Int)):=(oD p0).bind fun r0=>(zV r0.slots).bind fun a1=>(bT r0.heap [(p1.1,p1.2,p2,a1.2)]).bind fun l2=>(aN r0.where_ a1.2.1).bind fun _=>(sH (a1.1.uses,a1.1.used,a1.1.free,aA .i64 ((Int.ofNat l2.length) -1),l2,cO r0.where_ a1.2.1 (aA .i64 ((Int.ofNat l2.length) -1)))).bind fun a4=>some (aO.mk a1.1 a4.2.1 a4.2.2,a1.2)
def aTo:bG:=⟨aB.cons (aJ.agg dE) (aB.cons (aJ.agg (cP.row jC)) (aB.one (aJ.int .i64))),aJ.tup (aB.cons (aJ.agg dE) (aB.one (aJ.agg (cP.row jC)))),fun a=>fA a.1 a.2.1 a.2.2,.frz,false⟩
theorem aCl:aI tab 222 aTo:=aI.of aKz (cx:=(mS aG [(104,aDq),(104,SG),(262,aWb)] [(151,UX),(151,aAD),(151,aFp)] [] [])) rfl (kC.make ⟨JI,EX,aMR,trivial⟩ ⟨K3,SI,aDt,trivial⟩ trivial) (fun a=>by kernel_rfl)
end
end
end Go.Proofs.YtlnclppkepgdmaaGreat
