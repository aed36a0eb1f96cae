/- Plain functions for what the functions of the seat compute. Printed by a program. -/
import Derived.Test.YtbncnimfgdelaaaGreatFEVm3
import Derived.Test.YtbncnimfgdelaaaGreatFEQXT
set_option maxRecDepth 100000
namespace Go.Proofs.YtbncnimfgdelaaaGreat
open Go.Vm
noncomputable section
theorem Oc {f:FuncId} {x:aM} {α β:Type} {args:aB α} {res:aJ β} {kd:Kd} {fn:α->Option β} {ow:Bool} (hf:tab f=some (.code x)) (ho:aBs kd ow=true) (lp:Option Nat) (l:List (Nat×bN)) (h:DG tab l) (e: ∀a,aHb (wI lp l [] [] []) x args res kd a=fn a):aI tab f ⟨args,res,fn,kd,ow⟩:=aI.of hf (cx:=wI lp l [] [] []) ho (pF.make h trivial trivial) e
abbrev eL:List PT:=[.i .i64,.i .i64,.i .i64]
abbrev jL:List PT:=[.i .i64,.i .i64]
abbrev ki:List PT:=[.i .i64]
abbrev kb:List PT:=[.b]
abbrev jE:List PT:=[.i .i64,.i .i64,.i .i64,.i .i64,.i .i64]
abbrev aLV:List PT:=[.i .i64,.i .i64,.i .i64,.i .i64]
abbrev kiu:List PT:=[.i .i64,.i .u64]
abbrev AE:List PT:=[.b,.i .u64,.i .u64]
structure Field where
 points:List (Int×Int×Int)
def dB:cJ Field:=cJ.iso (cJ.sl eL) (fun p=>⟨p⟩) (fun c=>c.points) (fun _=>rfl)
structure aW where
 uses:List Int
 used:List Bool
 free:List Int
def qC:cJ aW:=cJ.iso (cJ.prod (cJ.sl ki) (cJ.prod (cJ.sl kb) (cJ.sl ki))) (fun p=>⟨p.1,p.2.1,p.2.2⟩) (fun c=>(c.uses,c.used,c.free)) (fun _=>rfl)
structure aO where
 slots:aW
 heap:List (Int×Int×Int×Int×Int)
 where_:List Int
def gS:cJ aO:=cJ.iso (cJ.prod qC (cJ.prod (cJ.sl jE) (cJ.sl ki))) (fun p=>⟨p.1,p.2.1,p.2.2⟩) (fun c=>(c.slots,c.heap,c.where_)) (fun _=>rfl)
structure aZ where
 next_:Int
 list:List (Int×Int×Int)
def qD:cJ aZ:=cJ.iso (cJ.prod (cJ.int .i64) (cJ.sl eL)) (fun p=>⟨p.1,p.2⟩) (fun c=>(c.next_,c.list)) (fun _=>rfl)
structure aR where
 now:Int×Int
 field:Field
 certs:aZ
 agenda:aO
 due:List (Int×Int×Int)
def cW:cJ aR:=cJ.iso (cJ.prod (cJ.row jL) (cJ.prod dB (cJ.prod qD (cJ.prod gS (cJ.sl eL))))) (fun p=>⟨p.1,p.2.1,p.2.2.1,p.2.2.2.1,p.2.2.2.2⟩) (fun c=>(c.now,c.field,c.certs,c.agenda,c.due)) (fun _=>rfl)
structure dT where
 clock:aR
 up:List Int
def tD:cJ dT:=cJ.iso (cJ.prod cW (cJ.sl ki)) (fun p=>⟨p.1,p.2⟩) (fun c=>(c.clock,c.up)) (fun _=>rfl)
theorem BC:aI tab 89 (bN.clone eL):=aI.clone aKE rfl
theorem Z0:aI tab 277 (bN.add64):=aI.add64 aEY
theorem tF:aI tab 197 (bN.clone kb):=aI.clone aEk rfl
theorem wL:aI tab 193 (bN.clone eL):=aI.clone aEg rfl
theorem ES:aI tab 194 (bN.clone eL):=aI.clone aEh rfl
theorem tG:aI tab 195 (bN.clone jE):=aI.clone aEi rfl
theorem nW:aI tab 196 (bN.clone ki):=aI.clone aEj rfl
theorem QH:aI tab 293 (bN.clone ki):=aI.clone aE7 rfl
abbrev jF:aR:=aR.mk (0,0) (Field.mk []) (aZ.mk 0 []) (aO.mk (aW.mk [] [] []) [] []) []
section
abbrev aLW:=Bool×Int×Int×(List (Int×Int×Int))×Int×Int×(List (Int×Int×Int))×Int×(List (Int×Int×Int))×(List Int)×(List Bool)×(List Int)×(List (Int×Int×Int×Int×Int))×(List Int)×(List (Int×Int×Int))×(List Int)×(List Int)
abbrev aLX:=Bool×Int×(List (Int×Int×Int))×Int×Int×(List (Int×Int×Int))×Int×(List (Int×Int×Int))×(List Int)×(List Bool)×(List Int)×(List (Int×Int×Int×Int×Int))×(List Int)×(List (Int×Int×Int))×(List Int)
abbrev aLY:=bO aLX Bool
abbrev aLZ:=bO aLW aLY
abbrev aL0:=Bool×Int×Int×Int×(List (Int×Int×Int))×Int×Int×(List (Int×Int×Int))×Int×(List (Int×Int×Int))×(List Int)×(List Bool)×(List Int)×(List (Int×Int×Int×Int×Int))×(List Int)×(List (Int×Int×Int))×(List Int)×(List Int)
abbrev Zt1:=bO aL0 aLZ
abbrev gY:=List (Int×Int)
abbrev XF:=gY×gY×Int×Int×Int×Int×(List (Int×Int×Int))×Int×(List (Int×Int×Int))×(List Int)×(List Bool)×(List Int)×(List (Int×Int×Int×Int×Int))×(List Int)×(List (Int×Int×Int))×(List (Int×Int×Int))×Int×Int×Int
abbrev aL1:=bO XF (aR×Int)
abbrev Zt2:=bO XF aL1
abbrev Zt3:=(List (Int×Int×Int))×Int×Int×Int×Int×(List (Int×Int×Int))×Int×(List (Int×Int×Int))×(List Int)×(List Bool)×(List Int)×(List (Int×Int×Int×Int×Int))×(List Int)×(List (Int×Int×Int))×(List (Int×Int×Int))×Int×Int×Int×Int×Int×Int×(List (Int×Int×Int))×(List Int)×(List Bool)×(List Int)×(List (Int×Int×Int×Int×Int))×(List Int)×(List (Int×Int×Int))×(List (Int×Int×Int))
abbrev aL2:=gY×(List (Int×Int×Int))×Int×Int×Int×Int×(List (Int×Int×Int))×Int×(List (Int×Int×Int))×(List Int)×(List Bool)×(List Int)×(List (Int×Int×Int×Int×Int))×(List Int)×(List (Int×Int×Int))×(List (Int×Int×Int))×Int×Int×Int
abbrev Zt4:=bO aL2 (aR×Int)
abbrev aL3:=(List (Int×Int×Int))×Int×Int×Int×Int×(List (Int×Int×Int))×Int×(List (Int×Int×Int))×(List Int)×(List Bool)×(List Int)×(List (Int×Int×Int×Int×Int))×(List Int)×(List (Int×Int×Int))×(List (Int×Int×Int))×Int×Int×Int
abbrev Zt5:=bO aL3 (aR×Int)
abbrev Zt6:=(List (Int×Int×Int))×(List (Int×Int×Int))×Int×Int×Int×Int×(List (Int×Int×Int))×Int×(List (Int×Int×Int))×(List Int)×(List Bool)×(List Int)×(List (Int×Int×Int×Int×Int))×(List Int)×(List (Int×Int×Int))
abbrev Zt7:=Bool×Int×Int×Int×(List (Int×Int×Int))×Int×Int×(List (Int×Int×Int))×Int×(List (Int×Int×Int))×(List Int)×(List Bool)×(List Int)×(List (Int×Int×Int×Int×Int))×(List Int)×(List (Int×Int×Int))×(List Int)
abbrev Zt8:=Int×Int×(List (Int×Int×Int))×Int×(List (Int×Int×Int))×(List Int)×(List Bool)×(List Int)×(List (Int×Int×Int×Int×Int))×(List Int)×(List (Int×Int×Int))×(List Int)×Int×Int×Int×Int×Int×gY
abbrev Zt9:=gY×Int×Int×Int×Int×(List (Int×Int×Int))×Int×(List (Int×Int×Int))×(List Int)×(List Bool)×(List Int)×(List (Int×Int×Int×Int×Int))×(List Int)×(List (Int×Int×Int))×Int×Int×Int
abbrev aL4:=Int×Int×Int×Int×(List (Int×Int×Int))×Int×(List (Int×Int×Int))×(List Int)×(List Bool)×(List Int)×(List (Int×Int×Int×Int×Int))×(List Int)×(List (Int×Int×Int))×(List Int)
abbrev aL5:=bO aL4 Int
abbrev aL6:=gY×Int×Int×Int×(List (Int×Int×Int))×Int×(List (Int×Int×Int))×(List Int)×(List Bool)×(List Int)×(List (Int×Int×Int×Int×Int))×(List Int)×(List (Int×Int×Int))
abbrev aL7:=Int×Int×Int×Int×(List (Int×Int×Int))×Int×(List (Int×Int×Int))×(List Int)×(List Bool)×(List Int)×(List (Int×Int×Int×Int×Int))×(List Int)×(List (Int×Int×Int))
abbrev aL8:=Int×(List (Int×Int×Int×Int×Int))×(List Int)×(List Int)×(List Bool)×(List Int)×Nat×Nat×Int×Int×Int×Int×Int
abbrev XG:=(List (Int×Int×Int×Int×Int))×(List Int)
abbrev aL9:=bO aL8 XG
abbrev aMa:=Int×(List (Int×Int×Int×Int×Int))×(List Int)×(List Int)×(List Bool)×(List Int)×Int×Int×Int×Int×Int
abbrev aMb:=bO aMa XG
abbrev aMc:=Int×Int×Nat×Nat×Nat×Int×Int×(List (Int×Int×Int))×gY×Int×Int×Int×Int×Int
abbrev TF:=(List (Int×Int×Int))×gY
abbrev aMd:=bO aMc TF
abbrev aMe:=(List (Int×Int×Int×Int×Int))×Int×Int×(List Int)×(List Bool)×(List Int)×(List (Int×Int×Int×Int×Int))×(List Int)×(List (List Int))
abbrev aMf:=(List (Int×Int×Int))×Int×Int×(List (Int×Int×Int))×Int×Int×gY×Int×Int×Int×Int×Int
abbrev aMg:=bO aMf gY
abbrev aMh:=Int×(List (Int×Int×Int))×Int×Int×gY×Int×Int×Int×Int×Int×(List (Int×Int×Int))×(List (Int×Int×Int))
abbrev aMi:=Int×Int×Int×(List (Int×Int×Int))×gY×Int×Int×Int×Int×Int×(List (Int×Int×Int))×(List (Int×Int×Int))
abbrev aMj:=Int×Int×(List (Int×Int×Int×Int×Int))×(List Int)×(List Int)×(List Bool)×(List Int)×Nat×Nat×Int×Int×Int×Int×Int
abbrev aE8:=(List Int)×(List Bool)×(List Int)×Nat×Nat×Int×Int×Int×Int×Int×Int×(List (Int×Int×Int×Int×Int))×(List Int)
abbrev aMk:=Int×Int×(List (Int×Int×Int×Int×Int))×(List Int)×(List Int)×(List Bool)×(List Int)×Int×Int×Int×Int×Int
abbrev aMl:=Int×Int×(List Int)×(List Bool)×(List Int)×(List (Int×Int×Int×Int×Int))×(List Int)×Int×Int×Int×Int×Int
abbrev aE9:=(List Int)×(List Bool)×(List Int)×Int×Int×Int×Int×Int×Int×(List (Int×Int×Int×Int×Int))×(List Int)
abbrev aMm:=(List Int)×Int×Int×(List Int)×(List Bool)×(List Int)×(List (Int×Int×Int×Int×Int))×(List Int)
abbrev aMn:=bO aMm Int
abbrev aFa:=Int×(List Int)×(List Bool)×(List Int)×(List (Int×Int×Int×Int×Int))×(List Int)
abbrev aKK:=bO aFa Int
abbrev aMo:=Int×Int×(List Int)×(List Bool)×(List Int)×(List (Int×Int×Int×Int×Int))×(List Int)
abbrev aMp:=Int×(List (Int×Int×Int))×Int×Int×Int×(List (Int×Int×Int))×(List (List Int))
abbrev aMq:=(List Int)×Int×Int×(List Int)×(List Bool)×(List Int)×Int×(List Bool)
abbrev aMr:=bO aMq Int
abbrev aMs:=(List (Int×Int×Int))×Int×Int×gY×(List Int)×gY
abbrev aFb:=(List (Int×Int×Int))×Int×Int×Int×Int×gY
abbrev QI:=Int×Int×Int×Int×(List (Int×Int×Int))×gY
abbrev N3:=(List (Int×Int×Int))×Int×Int×Int×Int
abbrev aFc:=bO N3 (Int×Bool)
abbrev Z1:=(List (Int×Int×Int))×Int×Int×(List (Int×Int×Int))
abbrev Z2:=Int×Int×(List Int)×(List Bool)×(List Int)×(List Bool)
abbrev Z3:=Int×Int×(List (Int×Int×Int))
abbrev aKL:=bO Z3 Int
abbrev aKM:=(List Int)×Int×Int×gY
abbrev Z4:=Int×(List (Int×Int×Int))
variable [LP]
def G8:Option Field:=some (Field.mk [(1,0,2),(2,6,-1),(5,0,0)])
def c42:bN:=⟨aB.nil,aJ.agg dB,fun _=>G8,.frz,false⟩
theorem aKN:aI tab 42 c42:=Oc aKf rfl aG [] trivial fun a=>by kernel_rfl
def KD (p0:Int):Option (Int×Int):=some (p0,1)
def c43:bN:=⟨aB.one (aJ.int .i64),aJ.agg (cJ.row jL),fun a=>KD a,.pure,false⟩
theorem aKO:aI tab 43 c43:=Oc aKg rfl aG [] trivial fun a=>by kernel_rfl
def nX (p0:Int):Option Bool:=bif decide (p0<(-1048576)) then some true else some (decide (1048576<p0))
def aMt:bN:=⟨aB.one (aJ.int .i64),aJ.bool,fun a=>nX a,.pure,false⟩
theorem aFd:aI tab 141 aMt:=Oc aDO rfl aG [] trivial fun a=>by kernel_rfl
def lZ (p0:Int×Int×Int):Option Int:=bif decide (p0.1<0) then some 8 else bif decide (65535<p0.1) then some 8 else (nX p0.2.1).bind fun b0=>bif b0 then some 8 else (nX p0.2.2).bind fun b1=>bif b1 then some 8 else some 0
def c86:bN:=⟨aB.one (aJ.agg (cJ.row eL)),aJ.int .i64,fun a=>lZ a,.pure,false⟩
theorem Z5:aI tab 86 c86:=Oc aKC rfl aG [(141,aMt)] ⟨aFd,trivial⟩ fun a=>by kernel_rfl
def iA (s:Z1):Option (bO Z1 (bO Z1 Int)):=bif decide (s.2.2.1<s.2.1) then (aK s.1 s.2.2.1).bind fun a0=>bif decide (0<s.2.2.1) then (aK s.2.2.2 (aA .i64 (s.2.2.1-1))).bind fun a1=>bif decide (a0.1<=a1.1) then some (.done (.done 32)) else some (.next (s.1,s.2.1,aA .i64 (s.2.2.1+1),s.2.2.2)) else some (.next (s.1,s.2.1,aA .i64 (s.2.2.1+1),s.2.2.2)) else some (.done (.done 0))
def lO (s:Z1):Option (bO Z1 Int):=bif decide (s.2.2.1<s.2.1) then (aK s.1 s.2.2.1).bind fun a0=>(lZ a0).bind fun n1=>bif n1 !=0 then some (.done n1) else some (.next (s.1,s.2.1,aA .i64 (s.2.2.1+1),s.2.2.2)) else aE iA (s.2.2.2,Int.ofNat s.2.2.2.length,0,s.2.2.2)
def hH (p0:Field):Option Int:=bif decide (64<(Int.ofNat p0.points.length)) then some 4 else aE lO (p0.points,Int.ofNat p0.points.length,0,p0.points)
def c85:bN:=⟨aB.one (aJ.agg dB),aJ.int .i64,fun a=>hH a,.pure,false⟩
theorem KE:aI tab 85 c85:=Oc aKB rfl aG [(86,c86)] ⟨Z5,trivial⟩ fun a=>by kernel_rfl
def lA (p0:Int):Option Int:=bif decide (p0<0) then some (aA .u64 (0- (aA .u64 p0))) else some (aA .u64 p0)
def aFe:bN:=⟨aB.one (aJ.int .i64),aJ.int .u64,fun a=>lA a,.pure,false⟩
theorem N4:aI tab 129 aFe:=Oc aDH rfl aG [] trivial fun a=>by kernel_rfl
def sK (s:(Int×Int)):Option (bO (Int×Int) Int):=bif decide (0<s.2) then bif s.2==0 then none else some (.next (s.2,Int.tmod s.1 s.2)) else some (.done s.1)
def wM (p0:Int) (p1:Int):Option Int:=aE sK (p0,p1)
def aKP:bN:=⟨aB.cons (aJ.int .u64) (aB.one (aJ.int .u64)),aJ.int .u64,fun a=>wM a.1 a.2,.pure,false⟩
theorem VI:aI tab 128 aKP:=Oc aDG rfl aG [] trivial fun a=>by kernel_rfl
def eM (p0:Int×Int):Option Int:=bif decide (p0.2<1) then some 8 else bif p0.1==(-9223372036854775808) then some 8 else (lA p0.1).bind fun n0=>(wM (aA .u64 p0.2) n0).bind fun n1=>bif decide (1<n1) then some 8 else some 0
def c72:bN:=⟨aB.one (aJ.agg (cJ.row jL)),aJ.int .i64,fun a=>eM a,.pure,false⟩
theorem xU:aI tab 72 c72:=Oc aKx rfl aG [(129,aFe),(128,aKP)] ⟨N4,VI,trivial⟩ fun a=>by kernel_rfl
def G9 (s:(Int×Int×Int×(List Int)×(List Bool)×(List Int))):Option (bO (Int×Int×Int×(List Int)×(List Bool)×(List Int)) (aW×Int)):=bif decide (s.2.2.1<s.2.1) then (aK s.2.2.2.2.2 s.2.2.1).bind fun _=>some (.next (s.1,s.2.1,aA .i64 (s.2.2.1+1),s.2.2.2.1,s.2.2.2.2.1,cL s.2.2.2.2.2 s.2.2.1 (aA .i64 ((aA .i64 (s.1-1)) -s.2.2.1)))) else some (.done (aW.mk s.2.2.2.1 s.2.2.2.2.1 s.2.2.2.2.2,0))
def ET (p0:Int):Option (aW×Int):=bif decide (p0<1) then some (aW.mk [] [] [],2) else bif decide (200<p0) then some (aW.mk [] [] [],2) else bif p0==p0 then (sZ p0 (0:Int)).bind fun l0=>bif p0==p0 then (sZ p0 (false:Bool)).bind fun l1=>bif p0==p0 then (sZ p0 (0:Int)).bind fun l2=>aE G9 (p0,p0,0,l0,l1,l2) else none else none else none
def aMu:bN:=⟨aB.one (aJ.int .i64),aJ.tup (aB.cons (aJ.agg qC) (aB.one (aJ.int .i64))),fun a=>ET a,.frz,false⟩
theorem aFf:aI tab 164 aMu:=Oc aDV rfl aG [] trivial fun a=>by kernel_rfl
def HU (p0:Int) (p1:Int):Option (Int×Int):=some (aA .u32 (iG .u64 (aA .u64 ((aA .u64 p0)*(aA .u64 p1))) 32),aA .u32 (aA .u64 ((aA .u64 p0)*(aA .u64 p1))))
def aMv:bN:=⟨aB.cons (aJ.int .u32) (aB.one (aJ.int .u32)),aJ.tup (aB.cons (aJ.int .u32) (aB.one (aJ.int .u32))),fun a=>HU a.1 a.2,.pure,false⟩
theorem aFg:aI tab 256 aMv:=Oc aEM rfl aG [] trivial fun a=>by kernel_rfl
def fL (p0:Int) (p1:Int):Option (Int×Int):=some (aA .u64 ((aA .u64 ((aA .u64 ((iG .u64 p0 32)*(iG .u64 p1 32)))+(iG .u64 (aA .u64 ((aA .u64 ((iG .u64 p0 32)*(mZ .u64 p1 4294967295)))+(iG .u64 (aA .u64 ((mZ .u64 p0 4294967295)*(mZ .u64 p1 4294967295))) 32))) 32)))+(iG .u64 (aA .u64 ((mZ .u64 (aA .u64 ((aA .u64 ((iG .u64 p0 32)*(mZ .u64 p1 4294967295)))+(iG .u64 (aA .u64 ((mZ .u64 p0 4294967295)*(mZ .u64 p1 4294967295))) 32))) 4294967295)+(aA .u64 ((mZ .u64 p0 4294967295)*(iG .u64 p1 32))))) 32)),aA .u64 (p0*p1))
def aFh:bN:=⟨aB.cons (aJ.int .u64) (aB.one (aJ.int .u64)),aJ.tup (aB.cons (aJ.int .u64) (aB.one (aJ.int .u64))),fun a=>fL a.1 a.2,.pure,false⟩
theorem N5:aI tab 187 aFh:=Oc aEa rfl aG [] trivial fun a=>by kernel_rfl
def vL (p0:Int) (p1:Int):Option (Int×Int):=(fL p0 p1).bind fun a0=>some a0
def aKQ:bN:=⟨aB.cons (aJ.int .u64) (aB.one (aJ.int .u64)),aJ.tup (aB.cons (aJ.int .u64) (aB.one (aJ.int .u64))),fun a=>vL a.1 a.2,.pure,false⟩
theorem VJ:aI tab 210 aKQ:=Oc aEr rfl aG [(256,aMv),(187,aFh)] ⟨aFg,N5,trivial⟩ fun a=>by kernel_rfl
def lP (s:(Int×(List Int))):Option (bO (Int×(List Int)) (List Int)):=bif decide (s.1<(Int.ofNat s.2.length)) then bif ((decide (0<=s.1))&&(decide (s.1<=(Int.ofNat s.2.length))))&&(decide ((Int.ofNat s.2.length)<=(Int.ofNat s.2.length))) then (iL s.2 0 s.1).bind fun _=>bif ((s.2.take s.1.toNat).take (((Int.ofNat s.2.length).toNat) -s.1.toNat)).isEmpty then some (.next (aA .i64 (s.1+0),s.2)) else bif (Nat.ble ((0+s.1.toNat)+(((s.2.take s.1.toNat).take (((Int.ofNat s.2.length).toNat) -s.1.toNat)).length)) s.2.length)&&(!false) then some (.next (aA .i64 (s.1+(Int.ofNat (((s.2.take s.1.toNat).take (((Int.ofNat s.2.length).toNat) -s.1.toNat)).length))),mL s.2 (0+s.1.toNat) ((s.2.take s.1.toNat).take (((Int.ofNat s.2.length).toNat) -s.1.toNat)))) else none else none else some (.done s.2)
def iQ (p0:List Int) (p1:Int):Option (List Int):=bif decide (p1<0) then none else (vL (aA .u64 (Int.ofNat p0.length)) (aA .u64 p1)).bind fun a0=>bif decide (0<a0.1) then none else bif decide (9223372036854775807<a0.2) then none else bif (aA .i64 a0.2)==(aA .i64 a0.2) then (sZ (aA .i64 a0.2) (0:Int)).bind fun l1=>bif (p0.take l1.length).isEmpty then aE lP (0,l1) else bif (Nat.ble (0+((p0.take l1.length).length)) l1.length)&&(!false) then aE lP (Int.ofNat ((p0.take l1.length).length),mL l1 0 (p0.take l1.length)) else none else none
def aMw:bN:=⟨aB.cons (aJ.sl ki) (aB.one (aJ.int .i64)),aJ.sl ki,fun a=>iQ a.1 a.2,.own,true⟩
def aHh:bN:=⟨aB.cons (aJ.sl ki) (aB.one (aJ.int .i64)),aJ.sl ki,fun a=>iQ a.1 a.2,.frz,false⟩
theorem aFi:aI tab 165 aMw:=Oc VB rfl aG [(210,aKQ)] ⟨VJ,trivial⟩ fun a=>by kernel_rfl
theorem Z6:aI tab 165 aHh:=Oc VB rfl aG [(210,aKQ)] ⟨VJ,trivial⟩ fun a=>by kernel_rfl
def xV (p0:Int):Option (aO×Int):=(ET p0).bind fun a0=>bif a0.2 !=0 then some (aO.mk (aW.mk [] [] []) [] [],a0.2) else (iQ [-1] p0).bind fun l1=>some (aO.mk a0.1 [] l1,0)
def aMx:bN:=⟨aB.one (aJ.int .i64),aJ.tup (aB.cons (aJ.agg gS) (aB.one (aJ.int .i64))),fun a=>xV a,.frz,false⟩
theorem aFj:aI tab 105 aMx:=Oc aDr rfl aG [(164,aMu),(165,aMw),(165,aHh)] ⟨aFf,aFi,Z6,trivial⟩ fun a=>by kernel_rfl
def BD (p0:Field) (p1:Int×Int):Option (aR×Int):=(hH p0).bind fun n0=>bif n0 !=0 then some (jF,n0) else (eM p1).bind fun n1=>bif n1 !=0 then some (jF,n1) else (xV 200).bind fun a2=>(bQ p0.points).bind fun l3=>some (aR.mk p1 (Field.mk l3) (aZ.mk 0 []) a2.1 [],a2.2)
def c53:bN:=⟨aB.cons (aJ.agg dB) (aB.one (aJ.agg (cJ.row jL))),aJ.tup (aB.cons (aJ.agg cW) (aB.one (aJ.int .i64))),fun a=>BD a.1 a.2,.frz,false⟩
theorem aKR:aI tab 53 c53:=Oc aKi rfl aG [(85,c85),(72,c72),(105,aMx),(89,bN.clone eL)] ⟨KE,xU,aFj,BC,trivial⟩ fun a=>by kernel_rfl
def pG (p0:Int×Int×Int) (p1:Int×Int×Int) (p2:Int×Int):Option Int:=(lZ p0).bind fun n0=>(lZ p1).bind fun n1=>(eM p2).bind fun n2=>bif (if n2>(if n1>n0 then n1 else n0) then n2 else if n1>n0 then n1 else n0) !=0 then some (if n2>(if n1>n0 then n1 else n0) then n2 else if n1>n0 then n1 else n0) else bif p0.1==p1.1 then some 2 else some 0
def aFk:bN:=⟨aB.cons (aJ.agg (cJ.row eL)) (aB.cons (aJ.agg (cJ.row eL)) (aB.one (aJ.agg (cJ.row jL)))),aJ.int .i64,fun a=>pG a.1 a.2.1 a.2.2,.pure,false⟩
theorem N6:aI tab 203 aFk:=Oc aEm rfl aG [(86,c86),(72,c72)] ⟨Z5,xU,trivial⟩ fun a=>by kernel_rfl
def mO (s:(Int×Int×Int×Int×Int×Int×Int×Int×Int)):Option (bO (Int×Int×Int×Int×Int×Int×Int×Int×Int) (Int×Int)):=bif decide (s.2.2.2.2.1<2) then bif s.2.2.2.2.1==0 then (fL (aA .u64 s.1) (aA .u64 s.2.1)).bind fun a0=>bif decide (s.1<0) then bif decide (s.2.1<0) then (pE s.2.2.2.2.2.2.2.2 a0.2 0).bind fun a1=>some (.next (s.1,s.2.1,s.2.2.1,s.2.2.2.1,aA .i64 (s.2.2.2.2.1+1),s.2.2.2.2.2.1,s.2.2.2.2.2.2.1,aA .i64 ((aA .i64 (s.2.2.2.2.2.2.2.1+(aA .i64 ((aA .i64 ((aA .i64 a0.1) -s.2.1)) -s.1))))+(aA .i64 a1.2)),a1.1)) else (pE s.2.2.2.2.2.2.2.2 a0.2 0).bind fun a2=>some (.next (s.1,s.2.1,s.2.2.1,s.2.2.2.1,aA .i64 (s.2.2.2.2.1+1),s.2.2.2.2.2.1,s.2.2.2.2.2.2.1,aA .i64 ((aA .i64 (s.2.2.2.2.2.2.2.1+(aA .i64 ((aA .i64 a0.1) -s.2.1))))+(aA .i64 a2.2)),a2.1)) else bif decide (s.2.1<0) then (pE s.2.2.2.2.2.2.2.2 a0.2 0).bind fun a3=>some (.next (s.1,s.2.1,s.2.2.1,s.2.2.2.1,aA .i64 (s.2.2.2.2.1+1),s.2.2.2.2.2.1,s.2.2.2.2.2.2.1,aA .i64 ((aA .i64 (s.2.2.2.2.2.2.2.1+(aA .i64 ((aA .i64 a0.1) -s.1))))+(aA .i64 a3.2)),a3.1)) else (pE s.2.2.2.2.2.2.2.2 a0.2 0).bind fun a4=>some (.next (s.1,s.2.1,s.2.2.1,s.2.2.2.1,aA .i64 (s.2.2.2.2.1+1),s.2.2.2.2.2.1,s.2.2.2.2.2.2.1,aA .i64 ((aA .i64 (s.2.2.2.2.2.2.2.1+(aA .i64 a0.1)))+(aA .i64 a4.2)),a4.1)) else bif s.2.2.2.2.1==1 then (fL (aA .u64 s.2.2.1) (aA .u64 s.2.2.2.1)).bind fun a5=>bif decide (s.2.2.1<0) then bif decide (s.2.2.2.1<0) then (pE s.2.2.2.2.2.2.2.2 a5.2 0).bind fun a6=>some (.next (s.1,s.2.1,s.2.2.1,s.2.2.2.1,aA .i64 (s.2.2.2.2.1+1),s.2.2.2.2.2.1,s.2.2.2.2.2.2.1,aA .i64 ((aA .i64 (s.2.2.2.2.2.2.2.1+(aA .i64 ((aA .i64 ((aA .i64 a5.1) -s.2.2.2.1)) -s.2.2.1))))+(aA .i64 a6.2)),a6.1)) else (pE s.2.2.2.2.2.2.2.2 a5.2 0).bind fun a7=>some (.next (s.1,s.2.1,s.2.2.1,s.2.2.2.1,aA .i64 (s.2.2.2.2.1+1),s.2.2.2.2.2.1,s.2.2.2.2.2.2.1,aA .i64 ((aA .i64 (s.2.2.2.2.2.2.2.1+(aA .i64 ((aA .i64 a5.1) -s.2.2.2.1))))+(aA .i64 a7.2)),a7.1)) else bif decide (s.2.2.2.1<0) then (pE s.2.2.2.2.2.2.2.2 a5.2 0).bind fun a8=>some (.next (s.1,s.2.1,s.2.2.1,s.2.2.2.1,aA .i64 (s.2.2.2.2.1+1),s.2.2.2.2.2.1,s.2.2.2.2.2.2.1,aA .i64 ((aA .i64 (s.2.2.2.2.2.2.2.1+(aA .i64 ((aA .i64 a5.1) -s.2.2.1))))+(aA .i64 a8.2)),a8.1)) else (pE s.2.2.2.2.2.2.2.2 a5.2 0).bind fun a9=>some (.next (s.1,s.2.1,s.2.2.1,s.2.2.2.1,aA .i64 (s.2.2.2.2.1+1),s.2.2.2.2.2.1,s.2.2.2.2.2.2.1,aA .i64 ((aA .i64 (s.2.2.2.2.2.2.2.1+(aA .i64 a5.1)))+(aA .i64 a9.2)),a9.1)) else none else some (.done s.2.2.2.2.2.2.2)
def xW (p0:Int×Int×Int×Int):Option (Int×Int):=aE mO (p0.1,p0.2.1,p0.2.2.1,p0.2.2.2,0,0,0,0,0)
def aMy:bN:=⟨aB.one (aJ.agg (cJ.row aLV)),aJ.agg (cJ.row kiu),fun a=>xW a,.pure,false⟩
theorem aFl:aI tab 245 aMy:=Oc aEJ rfl aG [(187,aFh),(277,bN.add64)] ⟨N5,Z0,trivial⟩ fun a=>by kernel_rfl
def mU (p0:Int):Option Bool:=some (p0 !=p0)
def aMz:bN:=⟨aB.one (aJ.int .i64),aJ.bool,fun a=>mU a,.pure,false⟩
theorem aFm:aI tab 185 aMz:=Oc aD8 rfl aG [] trivial fun a=>by kernel_rfl
def iR (p0:Int) (p1:Int):Option Int:=(mU p0).bind fun b0=>(mU p1).bind fun b1=>bif b0 then bif b1 then some 0 else some (-1) else bif b1 then some 1 else bif decide (p0<p1) then some (-1) else bif decide (p1<p0) then some 1 else some 0
def aKS:bN:=⟨aB.cons (aJ.int .i64) (aB.one (aJ.int .i64)),aJ.int .i64,fun a=>iR a.1 a.2,.pure,false⟩
theorem VK:aI tab 131 aKS:=Oc aDJ rfl aG [(185,aMz)] ⟨aFm,trivial⟩ fun a=>by kernel_rfl
def qE (p0:Int):Option Bool:=some (p0 !=p0)
def aMA:bN:=⟨aB.one (aJ.int .i64),aJ.bool,fun a=>qE a,.pure,false⟩
theorem aFn:aI tab 199 aMA:=Oc aEl rfl aG [] trivial fun a=>by kernel_rfl
def eD (p0:Int) (p1:Int):Option Int:=(qE p0).bind fun b0=>(qE p1).bind fun b1=>bif b0 then bif b1 then some 0 else some (-1) else bif b1 then some 1 else bif decide (p0<p1) then some (-1) else bif decide (p1<p0) then some 1 else some 0
def TG:bN:=⟨aB.cons (aJ.int .i64) (aB.one (aJ.int .i64)),aJ.int .i64,fun a=>eD a.1 a.2,.pure,false⟩
theorem BE:aI tab 144 TG:=Oc aDQ rfl aG [(199,aMA)] ⟨aFn,trivial⟩ fun a=>by kernel_rfl
def vM (s:(Int×(List Int)×Int×Int)):Option (bO (Int×(List Int)×Int×Int) Int):=bif decide (s.2.2.2<s.2.2.1) then (aK s.2.1 s.2.2.2).bind fun n0=>bif n0 !=s.1 then some (.done n0) else some (.next (s.1,s.2.1,s.2.2.1,aA .i64 (s.2.2.2+1))) else some (.done s.1)
def tH (p0:List Int):Option Int:=aE vM (0,p0,Int.ofNat p0.length,0)
def aKT:bN:=⟨aB.one (aJ.sl ki),aJ.int .i64,fun a=>tH a,.pure,false⟩
theorem VL:aI tab 209 aKT:=Oc aEq rfl aG [] trivial fun a=>by kernel_rfl
def lQ (p0:Int×Int×Int) (p1:Int×Int×Int) (p2:Int×Int):Option Int:=(xW (aA .i64 (p0.2.1-p1.2.1),p2.2,aA .i64 (p0.2.2-p1.2.2),p2.1)).bind fun a0=>bif !((a0.1==0)&&(a0.2==0)) then bif decide (a0.1<0) then some (-1) else some 1 else (iR p0.2.2 p1.2.2).bind fun n1=>(eD p1.1 p0.1).bind fun n2=>(tH [n1,n2]).bind fun n3=>some n3
def aKU:bN:=⟨aB.cons (aJ.agg (cJ.row eL)) (aB.cons (aJ.agg (cJ.row eL)) (aB.one (aJ.agg (cJ.row jL)))),aJ.int .i64,fun a=>lQ a.1 a.2.1 a.2.2,.pure,false⟩
theorem VM:aI tab 204 aKU:=Oc aEn rfl aG [(245,aMy),(131,aKS),(144,TG),(209,aKT)] ⟨aFl,VK,BE,VL,trivial⟩ fun a=>by kernel_rfl
def kK (p0:Int×Int×Int) (p1:Int×Int×Int) (p2:Int×Int):Option (Bool×Int):=(pG p0 p1 p2).bind fun n0=>bif n0 !=0 then some (false,n0) else (lQ p0 p1 p2).bind fun n1=>some (decide (0<n1),0)
def aKV:bN:=⟨aB.cons (aJ.agg (cJ.row eL)) (aB.cons (aJ.agg (cJ.row eL)) (aB.one (aJ.agg (cJ.row jL)))),aJ.tup (aB.cons aJ.bool (aB.one (aJ.int .i64))),fun a=>kK a.1 a.2.1 a.2.2,.pure,false⟩
theorem VN:aI tab 154 aKV:=Oc aDS rfl aG [(203,aFk),(204,aKU)] ⟨N6,VM,trivial⟩ fun a=>by kernel_rfl
def fW (c0:(QI->(Option TF))) (c1:QI) (s:aMi):Option (bO aMi aMd):=match s with |(a,b,d,e,f,g,h,i,j,k,l,m)=>bif decide (d<b) then (aK e d).bind fun a0=>bif a0.1 !=i then bif decide (a<0) then none else bif (mZ .i64 (iG .i64 a0.1 a) 1)==0 then (aY l [a0]).bind fun l1=>bif (mZ .i64 (iG .i64 a0.1 a) 1)==0 then some (.next (a,b,aA .i64 (d+1),e,f,g,h,i,j,k,l1,m)) else bif (mZ .i64 (iG .i64 a0.1 a) 1)==1 then none else none else bif (mZ .i64 (iG .i64 a0.1 a) 1)==1 then (aY m [a0]).bind fun l2=>bif (mZ .i64 (iG .i64 a0.1 a) 1)==0 then none else bif (mZ .i64 (iG .i64 a0.1 a) 1)==1 then some (.next (a,b,aA .i64 (d+1),e,f,g,h,i,j,k,l,l2)) else none else none else some (.next (a,b,aA .i64 (d+1),(e,f,g,h,i,j,k,l,m))) else (c0 (g,h,i,aA .i64 (a+1),l,f)).bind fun a3=>(c0 (g,h,i,aA .i64 (a+1),m,a3.2)).bind fun a4=>bif e.length==c1.2.2.2.2.1.length then some (.done (.done (e,a4.2))) else none
def iS (c0:(QI->(Option TF))) (c1:QI) (s:aMc):Option aMd:=match s with |(a,b,d,e,f,g,h,i,j,k,l,m,n,o)=>bif decide (h<g) then (aK ((i.drop d).take e) h).bind fun a0=>(kK a0 (m,n,o) (k,l)).bind fun a1=>bif a1.1 then some (.next (a,b,d,e,f,g,aA .i64 (h+1),i,j,k,l,a0)) else some (.next (a,b,d,e,f,g,aA .i64 (h+1),(i,j,k,l,m,n,o))) else aE (fW c0 c1) (b,Int.ofNat i.length,0,i,lE j m a,k,l,m,n,o,[],[])
def mH (self:QI->Option TF) (a:QI):Option TF:=bif (Int.ofNat a.2.2.2.2.1.length)==0 then bif a.2.2.2.2.1.length==a.2.2.2.2.1.length then some a.2.2.2.2 else none else (aK a.2.2.2.2.1 0).bind fun a0=>bif ((decide (0<=1))&&(decide (1<=(Int.ofNat a.2.2.2.2.1.length))))&&(decide ((Int.ofNat a.2.2.2.2.1.length)<=(Int.ofNat a.2.2.2.2.1.length))) then aE (iS self a) (a.2.2.1,a.2.2.2.1,1,((Int.ofNat a.2.2.2.2.1.length).toNat) -1,a.2.2.2.2.1.length-1,Int.ofNat (((Int.ofNat a.2.2.2.2.1.length).toNat) -1),0,a.2.2.2.2.1,a.2.2.2.2.2,a.1,a.2.1,a0) else none
def fI:Nat->QI->Option TF |0,_=>none |n+1,a=>mH (fI n) a
def fC (a:QI):Option TF:=fI 1000000 a
def TH:eK:=⟨[.i,.i,.i,.i,.l [.i .i64,.i .i64,.i .i64],.l [.i .i64,(.i .i64)]],[.own 0 false,.agg [.int .i64 0,.int .i64 0],.int .i64 0,.int .i64 0,.mp 1],[.arr [.i .i64,.i .i64,.i .i64] [],.tab (.i .i64) []],[.l [.i .i64,.i .i64,.i .i64],.l [.i .i64,(.i .i64)]],.tup [],[.arr [.i .i64,.i .i64,.i .i64] [],.tab (.i .i64) []],fun a=>fC a⟩
theorem KF: ∀n,oT tab 110 ⟨[.i,.i,.i,.i,.l [.i .i64,.i .i64,.i .i64],.l [.i .i64,(.i .i64)]],[.own 0 false,.agg [.int .i64 0,.int .i64 0],.int .i64 0,.int .i64 0,.mp 1],[.arr [.i .i64,.i .i64,.i .i64] [],.tab (.i .i64) []],[.l [.i .i64,.i .i64,.i .i64],.l [.i .i64,(.i .i64)]],.tup [],[.arr [.i .i64,.i .i64,.i .i64] [],.tab (.i .i64) []],fun a=>fI n a⟩
 |0=>oT.zero (fun _=>rfl)
 |n+1=>oT.of U8 (wd:=false) (cx:=(wI aG [(154,aKV)] [(110,⟨[.i,.i,.i,.i,.l [.i .i64,.i .i64,.i .i64],.l [.i .i64,(.i .i64)]],[.own 0 false,.agg [.int .i64 0,.int .i64 0],.int .i64 0,.int .i64 0,.mp 1],[.arr [.i .i64,.i .i64,.i .i64] [],.tab (.i .i64) []],[.l [.i .i64,.i .i64,.i .i64],.l [.i .i64,(.i .i64)]],.tup [],[.arr [.i .i64,.i .i64,.i .i64] [],.tab (.i .i64) []],fun a=>fI n a⟩)] [] [])) (pF.make ⟨VN,trivial⟩ ⟨(KF n),trivial⟩ trivial) (fun a=>by kernel_rfl)
theorem MP:oT tab 110 TH:=KF 1000000
def fX (s:aMh):Option (bO aMh aMg):=match s with |(a,b,d,e,f,g,h,i,j,k,l,m)=>bif decide (e<d) then (aK b e).bind fun a0=>bif a0.1 !=i then bif decide (a<0) then none else bif (mZ .i64 (iG .i64 a0.1 a) 1)==0 then (aY l [a0]).bind fun l1=>bif (mZ .i64 (iG .i64 a0.1 a) 1)==0 then some (.next (a,b,d,aA .i64 (e+1),f,g,h,i,j,k,l1,m)) else bif (mZ .i64 (iG .i64 a0.1 a) 1)==1 then none else none else bif (mZ .i64 (iG .i64 a0.1 a) 1)==1 then (aY m [a0]).bind fun l2=>bif (mZ .i64 (iG .i64 a0.1 a) 1)==0 then none else bif (mZ .i64 (iG .i64 a0.1 a) 1)==1 then some (.next (a,b,d,aA .i64 (e+1),f,g,h,i,j,k,l,l2)) else none else none else some (.next (a,b,d,aA .i64 (e+1),(f,g,h,i,j,k,l,m))) else (fC (g,h,i,aA .i64 (a+1),l,f)).bind fun a3=>(fC (g,h,i,aA .i64 (a+1),m,a3.2)).bind fun a4=>some (.done (.done a4.2))
def iT (s:aMf):Option aMg:=match s with |(a,b,d,e,f,g,h,i,j,k,l,m)=>bif decide (g<f) then (aK e g).bind fun a0=>(kK a0 (k,l,m) (i,j)).bind fun a1=>bif a1.1 then some (.next (a,b,d,e,f,aA .i64 (g+1),h,i,j,a0)) else some (.next (a,b,d,e,f,aA .i64 (g+1),(h,i,j,k,l,m))) else aE fX (d,a,Int.ofNat a.length,0,lE h k b,i,j,k,l,m,[],[])
def jM (_:aFb->Option gY) (a:aFb):Option gY:=bif (Int.ofNat a.1.length)==0 then some a.2.2.2.2.2 else (aK a.1 0).bind fun a0=>(iL a.1 1 (Int.ofNat a.1.length)).bind fun l1=>aE iT (a.1,a.2.2.2.1,a.2.2.2.2.1,l1,Int.ofNat l1.length,0,a.2.2.2.2.2,a.2.1,a.2.2.1,a0)
def fJ:Nat->aFb->Option gY |0,_=>none |n+1,a=>jM (fJ n) a
def nY (a:aFb):Option gY:=fJ 1000000 a
def Z7:eK:=⟨[.l [.i .i64,.i .i64,.i .i64],.i,.i,.i,.i,.l [.i .i64,(.i .i64)]],[.sl [.i .i64,.i .i64,.i .i64] [],.agg [.int .i64 0,.int .i64 0],.int .i64 0,.int .i64 0,.mp 0],[.tab (.i .i64) []],[.l [.i .i64,(.i .i64)]],.tup [],[.tab (.i .i64) []],fun a=>nY a⟩
theorem KG: ∀n,oT tab 110 ⟨[.l [.i .i64,.i .i64,.i .i64],.i,.i,.i,.i,.l [.i .i64,(.i .i64)]],[.sl [.i .i64,.i .i64,.i .i64] [],.agg [.int .i64 0,.int .i64 0],.int .i64 0,.int .i64 0,.mp 0],[.tab (.i .i64) []],[.l [.i .i64,(.i .i64)]],.tup [],[.tab (.i .i64) []],fun a=>fJ n a⟩
 |0=>oT.zero (fun _=>rfl)
 |n+1=>oT.of U8 (wd:=true) (cx:=(wI aG [(154,aKV)] [(110,⟨[.l [.i .i64,.i .i64,.i .i64],.i,.i,.i,.i,.l [.i .i64,(.i .i64)]],[.sl [.i .i64,.i .i64,.i .i64] [],.agg [.int .i64 0,.int .i64 0],.int .i64 0,.int .i64 0,.mp 0],[.tab (.i .i64) []],[.l [.i .i64,(.i .i64)]],.tup [],[.tab (.i .i64) []],fun a=>fJ n a⟩),(110,TH)] [] [])) (pF.make ⟨VN,trivial⟩ ⟨(KG n),MP,trivial⟩ trivial) (fun a=>by kernel_rfl)
theorem XH:oT tab 110 Z7:=KG 1000000
def nZ (s:aMs):Option (bO aMs ((List Int)×gY)):=bif decide (s.2.2.1<s.2.1) then (aK s.1 s.2.2.1).bind fun a0=>(aY s.2.2.2.2.1 [jI 0 s.2.2.2.1 a0.1]).bind fun l1=>bif decide (0<=(jI 0 s.2.2.2.1 a0.1)) then (aY s.2.2.2.2.2 [(a0.1,jI 0 s.2.2.2.1 a0.1)]).bind fun l2=>some (.next (s.1,s.2.1,aA .i64 (s.2.2.1+1),s.2.2.2.1,l1,l2)) else some (.next (s.1,s.2.1,aA .i64 (s.2.2.1+1),s.2.2.2.1,l1,s.2.2.2.2.2)) else some (.done s.2.2.2.2)
def lR (p0:Field) (p1:Int×Int):Option ((List Int)×gY):=(nY (p0.points,p1.1,p1.2,-1,0,[])).bind fun l0=>aE nZ (p0.points,Int.ofNat p0.points.length,0,l0,[],[])
def c57:bN:=⟨aB.cons (aJ.agg dB) (aB.one (aJ.agg (cJ.row jL))),aJ.tup (aB.cons (aJ.sl ki) (aB.one (aJ.sl jL))),fun a=>lR a.1 a.2,.frz,false⟩
theorem TI:aI tab 57 c57:=aI.of aKk (cx:=(wI aG [] [(110,TH),(110,Z7)] [] [])) rfl (pF.make trivial ⟨MP,XH,trivial⟩ trivial) (fun a=>by kernel_rfl)
def tI (p0:Int×Int):Option Bool:=bif decide (0<=(if p0.2<p0.1 then p0.2 else p0.1)) then bif decide ((if p0.2>p0.1 then p0.2 else p0.1)<=65535) then some (p0.1 !=p0.2) else some false else some false
def aKW:bN:=⟨aB.one (aJ.agg (cJ.row jL)),aJ.bool,fun a=>tI a,.pure,false⟩
theorem VO:aI tab 174 aKW:=Oc aDY rfl aG [] trivial fun a=>by kernel_rfl
def qF (s:aMp):Option (bO aMp Int):=bif decide (s.2.2.2.1<s.2.2.1) then (aK s.2.1 s.2.2.2.1).bind fun a0=>(tI a0.2).bind fun b1=>bif !b1 then some (.done 8) else (PR s.2.2.2.2.2.2 [a0.2.1,a0.2.2]).bind fun b2=>bif b2 then some (.done 8) else bif decide (a0.1<=s.1) then some (.done 8) else bif decide (s.2.2.2.2.1<=a0.1) then some (.done 8) else (PS s.2.2.2.2.2.2 [a0.2.1,a0.2.2]).bind fun l3=>some (.next (a0.1,s.2.1,s.2.2.1,aA .i64 (s.2.2.2.1+1),s.2.2.2.2.1,s.2.2.2.2.2.1,l3)) else some (.done 0)
def pH (p0:aZ):Option Int:=bif decide (200<(Int.ofNat p0.list.length)) then some 8 else bif decide (p0.next_<0) then some 8 else bif decide (1000000<p0.next_) then some 8 else aE qF (-1,p0.list,Int.ofNat p0.list.length,0,p0.next_,p0.list,[])
def aFo:bN:=⟨aB.one (aJ.agg qD),aJ.int .i64,fun a=>pH a,.pure,false⟩
theorem N7:aI tab 114 aFo:=Oc aDu rfl aG [(174,aKW)] ⟨VO,trivial⟩ fun a=>by kernel_rfl
def fY (s:((List Bool)×Bool×Int×Int)):Option (bO ((List Bool)×Bool×Int×Int) Int):=bif decide (s.2.2.2<s.2.2.1) then (aK s.1 s.2.2.2).bind fun b0=>bif s.2.1==b0 then some (.done s.2.2.2) else some (.next (s.1,s.2.1,s.2.2.1,aA .i64 (s.2.2.2+1))) else some (.done (-1))
def oA (p0:List Bool) (p1:Bool):Option Int:=aE fY (p0,p1,Int.ofNat p0.length,0)
def aMB:bN:=⟨aB.cons (aJ.sl kb) (aB.one aJ.bool),aJ.int .i64,fun a=>oA a.1 a.2,.pure,false⟩
theorem aFp:aI tab 264 aMB:=Oc aES rfl aG [] trivial fun a=>by kernel_rfl
def dG (p0:List Bool) (p1:Bool):Option Bool:=(oA p0 p1).bind fun n0=>some (decide (0<=n0))
def aMC:bN:=⟨aB.cons (aJ.sl kb) (aB.one aJ.bool),aJ.bool,fun a=>dG a.1 a.2,.pure,false⟩
theorem aFq:aI tab 224 aMC:=Oc aEz rfl aG [(264,aMB)] ⟨aFp,trivial⟩ fun a=>by kernel_rfl
def fP (s:((List Int)×Int×Int×(List Int)×(List Bool)×(List Int))):Option (bO ((List Int)×Int×Int×(List Int)×(List Bool)×(List Int)) aMr):=bif decide (s.2.2.1<s.2.1) then (aK s.1 s.2.2.1).bind fun n0=>bif decide (n0<0) then some (.done (.done 8)) else bif decide (1000000<n0) then some (.done (.done 8)) else bif n0==0 then (aK s.2.2.2.2.1 s.2.2.1).bind fun b1=>bif b1 then some (.done (.done 8)) else some (.next (s.1,s.2.1,aA .i64 (s.2.2.1+1),s.2.2.2)) else some (.next (s.1,s.2.1,aA .i64 (s.2.2.1+1),s.2.2.2)) else some (.done (.done 0))
def qG (c0:(List Bool)) (s:aMq):Option aMr:=match s with |(a,b,d,e,f,g,h,i)=>bif decide (d<b) then (aK a d).bind fun n0=>bif decide (n0<0) then bif i.length==i.length then bif i.length==c0.length then bif i.length==c0.length then bif decide (0<=d) then some (.done 8) else (dG i false).bind fun b1=>bif b1 then some (.done 8) else aE fP (e,Int.ofNat e.length,0,e,f,g) else none else none else none else bif decide (h<=n0) then bif i.length==i.length then bif i.length==c0.length then bif i.length==c0.length then bif decide (0<=d) then some (.done 8) else (dG i false).bind fun b2=>bif b2 then some (.done 8) else aE fP (e,Int.ofNat e.length,0,e,f,g) else none else none else none else (aK i n0).bind fun b3=>bif b3 then bif i.length==i.length then bif i.length==c0.length then bif i.length==c0.length then bif decide (0<=d) then some (.done 8) else (dG i false).bind fun b4=>bif b4 then some (.done 8) else aE fP (e,Int.ofNat e.length,0,e,f,g) else none else none else none else (aK i n0).bind fun _=>bif ((cL i n0 true).length)==i.length then some (.next (a,b,aA .i64 (d+1),e,f,g,h,cL i n0 true)) else none else bif i.length==c0.length then bif i.length==c0.length then (dG i false).bind fun b6=>bif b6 then some (.done 8) else aE fP (e,Int.ofNat e.length,0,e,f,g) else none else none
def pI (p0:aW):Option Int:=bif decide ((Int.ofNat p0.uses.length)<1) then some 8 else bif decide (200<(Int.ofNat p0.uses.length)) then some 8 else bif (Int.ofNat p0.used.length) !=(Int.ofNat p0.uses.length) then some 8 else (bQ p0.used).bind fun l0=>aE (qG l0) (p0.free,Int.ofNat p0.free.length,0,p0.uses,p0.used,p0.free,Int.ofNat p0.uses.length,l0)
def aFr:bN:=⟨aB.one (aJ.agg qC),aJ.int .i64,fun a=>pI a,.pure,false⟩
theorem N8:aI tab 175 aFr:=aI.of aDZ (cx:=(wI aG [(197,bN.clone kb),(224,aMC)] [] [(222,aCC),(263,aCZ),(223,aCE)] [])) rfl (pF.make ⟨tF,aFq,trivial⟩ trivial ⟨aEx,aER,aEy,trivial⟩) (fun a=>by kernel_rfl)
def xX (p0:Int×Int) (p1:Int×Int):Option Int:=(eM p0).bind fun n0=>(eM p1).bind fun n1=>some (if n1>n0 then n1 else n0)
def aMD:bN:=⟨aB.cons (aJ.agg (cJ.row jL)) (aB.one (aJ.agg (cJ.row jL))),aJ.int .i64,fun a=>xX a.1 a.2,.pure,false⟩
theorem aFs:aI tab 130 aMD:=Oc aDI rfl aG [(72,c72)] ⟨xU,trivial⟩ fun a=>by kernel_rfl
def rE (p0:Int) (p1:Int):Option (Bool×Int×Int):=(lA p0).bind fun n0=>(lA p1).bind fun n1=>(fL n0 n1).bind fun a2=>some (!((decide (p0<0))==(decide (p1<0))),a2)
def aME:bN:=⟨aB.cons (aJ.int .i64) (aB.one (aJ.int .i64)),aJ.agg (cJ.row AE),fun a=>rE a.1 a.2,.pure,false⟩
theorem aFt:aI tab 133 aME:=Oc aDL rfl aG [(129,aFe),(187,aFh)] ⟨N4,N5,trivial⟩ fun a=>by kernel_rfl
def mA (p0:Int):Option Bool:=some (p0 !=p0)
def aMF:bN:=⟨aB.one (aJ.int .u64),aJ.bool,fun a=>mA a,.pure,false⟩
theorem aFu:aI tab 227 aMF:=Oc aEC rfl aG [] trivial fun a=>by kernel_rfl
def iB (p0:Int) (p1:Int):Option Int:=(mA p0).bind fun b0=>(mA p1).bind fun b1=>bif b0 then bif b1 then some 0 else some (-1) else bif b1 then some 1 else bif decide (p0<p1) then some (-1) else bif decide (p1<p0) then some 1 else some 0
def aMG:bN:=⟨aB.cons (aJ.int .u64) (aB.one (aJ.int .u64)),aJ.int .i64,fun a=>iB a.1 a.2,.pure,false⟩
theorem aFv:aI tab 186 aMG:=Oc aD9 rfl aG [(227,aMF)] ⟨aFu,trivial⟩ fun a=>by kernel_rfl
def qH (p0:Bool×Int×Int) (p1:Bool×Int×Int):Option Int:=(iB p0.2.1 p1.2.1).bind fun n0=>bif n0 !=0 then some n0 else (iB p0.2.2 p1.2.2).bind fun n1=>some n1
def aMH:bN:=⟨aB.cons (aJ.agg (cJ.row AE)) (aB.one (aJ.agg (cJ.row AE))),aJ.int .i64,fun a=>qH a.1 a.2,.pure,false⟩
theorem aFw:aI tab 132 aMH:=Oc aDK rfl aG [(186,aMG)] ⟨aFv,trivial⟩ fun a=>by kernel_rfl
def pJ (p0:Int×Int) (p1:Int×Int):Option (Int×Int):=(xX p0 p1).bind fun n0=>bif n0 !=0 then some (0,n0) else bif !((decide (p0.1<0))==(decide (p1.1<0))) then (iR p0.1 p1.1).bind fun n1=>some (n1,0) else (rE p0.1 p1.2).bind fun a2=>(rE p1.1 p0.2).bind fun a3=>(qH a2 a3).bind fun n4=>bif decide (p0.1<0) then some (aA .i64 (0-n4),0) else some (n4,0)
def c73:bN:=⟨aB.cons (aJ.agg (cJ.row jL)) (aB.one (aJ.agg (cJ.row jL))),aJ.tup (aB.cons (aJ.int .i64) (aB.one (aJ.int .i64))),fun a=>pJ a.1 a.2,.pure,false⟩
theorem TJ:aI tab 73 c73:=Oc aKy rfl aG [(130,aMD),(131,aKS),(133,aME),(132,aMH)] ⟨aFs,VK,aFt,aFw,trivial⟩ fun a=>by kernel_rfl
def bR (p0:Int×Int×Int×Int×Int) (p1:Int×Int×Int×Int×Int):Option Int:=(pJ (p0.1,p0.2.1) (p1.1,p1.2.1)).bind fun a0=>(eD p0.2.2.1 p1.2.2.1).bind fun n1=>(tH [a0.1,n1]).bind fun n2=>some n2
def aFx:bN:=⟨aB.cons (aJ.agg (cJ.row jE)) (aB.one (aJ.agg (cJ.row jE))),aJ.int .i64,fun a=>bR a.1 a.2,.pure,false⟩
theorem N9:aI tab 176 aFx:=Oc aD0 rfl aG [(73,c73),(144,TG),(209,aKT)] ⟨TJ,BE,VL,trivial⟩ fun a=>by kernel_rfl
def iM (s:aMe):Option (bO aMe aMn):=bif decide (s.2.2.1<s.2.1) then (aK s.1 s.2.2.1).bind fun a0=>(eM (a0.1,a0.2.1)).bind fun n1=>bif n1 !=0 then some (.done (.done 8)) else bif decide (a0.2.2.1<0) then some (.done (.done 8)) else bif decide (1000000<a0.2.2.1) then some (.done (.done 8)) else (PR s.2.2.2.2.2.2.2.2 [a0.2.2.1]).bind fun b2=>bif b2 then some (.done (.done 8)) else (PS s.2.2.2.2.2.2.2.2 [a0.2.2.1]).bind fun l3=>bif decide (0<s.2.2.1) then (aK s.2.2.2.2.2.2.1 (aA .i64 (Int.tdiv (aA .i64 (s.2.2.1-1)) 2))).bind fun a4=>(bR a0 a4).bind fun n5=>bif decide (n5<0) then some (.done (.done 8)) else some (.next (s.1,s.2.1,aA .i64 (s.2.2.1+1),s.2.2.2.1,s.2.2.2.2.1,s.2.2.2.2.2.1,s.2.2.2.2.2.2.1,s.2.2.2.2.2.2.2.1,l3)) else some (.next (s.1,s.2.1,aA .i64 (s.2.2.1+1),s.2.2.2.1,s.2.2.2.2.1,s.2.2.2.2.2.1,s.2.2.2.2.2.2.1,s.2.2.2.2.2.2.2.1,l3)) else some (.done (.done 0))
def kU (s:aMm):Option aMn:=bif decide (s.2.2.1<s.2.1) then (aK s.1 s.2.2.1).bind fun n0=>(aK s.2.2.2.2.1 s.2.2.1).bind fun b1=>bif !b1 then bif n0 !=(-1) then some (.done 8) else some (.next (s.1,s.2.1,aA .i64 (s.2.2.1+1),s.2.2.2)) else bif decide (n0<0) then some (.done 8) else bif decide ((Int.ofNat s.2.2.2.2.2.2.1.length)<=n0) then some (.done 8) else (aK s.2.2.2.2.2.2.1 n0).bind fun a2=>(aK s.2.2.2.1 s.2.2.1).bind fun n3=>bif !((a2.2.2.2.1==s.2.2.1)&&(a2.2.2.2.2==n3)) then some (.done 8) else some (.next (s.1,s.2.1,aA .i64 (s.2.2.1+1),s.2.2.2)) else aE iM (s.2.2.2.2.2.2.1,Int.ofNat s.2.2.2.2.2.2.1.length,0,s.2.2.2.1,s.2.2.2.2.1,s.2.2.2.2.2.1,s.2.2.2.2.2.2.1,s.2.2.2.2.2.2.2,[])
def iU (p0:aO):Option Int:=(pI p0.slots).bind fun n0=>bif n0 !=0 then some 8 else bif (Int.ofNat p0.where_.length) !=(Int.ofNat p0.slots.used.length) then some 8 else bif (Int.ofNat p0.heap.length) !=(aA .i64 ((Int.ofNat p0.slots.used.length) - (Int.ofNat p0.slots.free.length))) then some 8 else aE kU (p0.where_,Int.ofNat p0.where_.length,0,p0.slots.uses,p0.slots.used,p0.slots.free,p0.heap,p0.where_)
def XI:bN:=⟨aB.one (aJ.agg gS),aJ.int .i64,fun a=>iU a,.pure,false⟩
theorem EU:aI tab 115 XI:=Oc aDv rfl aG [(175,aFr),(72,c72),(176,aFx)] ⟨N8,xU,N9,trivial⟩ fun a=>by kernel_rfl
def vN (p0:Int×Int×Int) (p1:Int):Option Int:=(eD p0.1 p1).bind fun n0=>some n0
def aMI:bN:=⟨aB.cons (aJ.agg (cJ.row eL)) (aB.one (aJ.int .i64)),aJ.int .i64,fun a=>vN a.1 a.2,.pure,false⟩
theorem aFy:aI tab 225 aMI:=Oc aEA rfl aG [(144,TG)] ⟨BE,trivial⟩ fun a=>by kernel_rfl
def hM (s:N3):Option aFc:=bif decide (s.2.2.2.1<s.2.2.2.2) then (aK s.1 (aA .i64 (iG .u64 (aA .u64 (aA .i64 (s.2.2.2.1+s.2.2.2.2))) 1))).bind fun a0=>(vN a0 s.2.1).bind fun n1=>bif decide (n1<0) then some (.next (s.1,s.2.1,s.2.2.1,aA .i64 ((aA .i64 (iG .u64 (aA .u64 (aA .i64 (s.2.2.2.1+s.2.2.2.2))) 1))+1),s.2.2.2.2)) else some (.next (s.1,s.2.1,s.2.2.1,s.2.2.2.1,aA .i64 (iG .u64 (aA .u64 (aA .i64 (s.2.2.2.1+s.2.2.2.2))) 1))) else bif decide (s.2.2.2.1<s.2.2.1) then (aK s.1 s.2.2.2.1).bind fun a2=>(vN a2 s.2.1).bind fun n3=>some (.done (s.2.2.2.1,n3==0)) else some (.done (s.2.2.2.1,false))
def cH (p0:List (Int×Int×Int)) (p1:Int) (_:Unit):Option (Int×Bool):=aE hM (p0,p1,Int.ofNat p0.length,0,Int.ofNat p0.length)
def QJ:bN:=⟨aB.cons (aJ.sl eL) (aB.cons (aJ.int .i64) (aB.one (aJ.clo 225 aB.nil))),aJ.tup (aB.cons (aJ.int .i64) (aB.one aJ.bool)),fun a=>cH a.1 a.2.1 a.2.2,.pure,false⟩
theorem QK:aI tab 142 QJ:=Oc VA rfl aG [(225,aMI)] ⟨aFy,trivial⟩ fun a=>by kernel_rfl
def iV (p0:Field) (p1:Int):Option (Int×Int×Int):=(cH p0.points p1 ()).bind fun a0=>bif !a0.2 then some (-1,0,0) else (aK p0.points a0.1).bind fun a1=>some a1
def aFz:bN:=⟨aB.cons (aJ.agg dB) (aB.one (aJ.int .i64)),aJ.agg (cJ.row eL),fun a=>iV a.1 a.2,.pure,false⟩
theorem OA:aI tab 178 aFz:=Oc aD2 rfl aG [(142,QJ)] ⟨QK,trivial⟩ fun a=>by kernel_rfl
def AF (p0:Bool×Int×Int) (p1:Int) (p2:Int):Option ((Int×Int)×Int):=bif decide (0<p0.2.1) then some ((0,0),16) else bif decide (9223372036854775807<p0.2.2) then some ((0,0),16) else bif decide (0<p1) then some ((0,0),16) else bif decide (9223372036854775807<p2) then some ((0,0),16) else bif p0.1 then some ((aA .i64 (0- (aA .i64 p0.2.2)),aA .i64 p2),0) else some ((aA .i64 p0.2.2,aA .i64 p2),0)
def aMJ:bN:=⟨aB.cons (aJ.agg (cJ.row AE)) (aB.cons (aJ.int .u64) (aB.one (aJ.int .u64))),aJ.tup (aB.cons (aJ.agg (cJ.row jL)) (aB.one (aJ.int .i64))),fun a=>AF a.1 a.2.1 a.2.2,.pure,false⟩
theorem aFA:aI tab 247 aMJ:=Oc aEL rfl aG [] trivial fun a=>by kernel_rfl
def xY (p0:Int) (p1:Int):Option ((Int×Int)×Int):=bif p1==0 then some ((0,0),26) else (lA p0).bind fun n0=>(lA p1).bind fun n1=>(wM n0 n1).bind fun n2=>(lA p0).bind fun n3=>bif n2==0 then none else (lA p1).bind fun n4=>bif n2==0 then none else (AF (!((decide (p0<0))==(decide (p1<0))),0,aA .u64 (Int.tdiv n3 n2)) 0 (aA .u64 (Int.tdiv n4 n2))).bind fun a5=>some a5
def aMK:bN:=⟨aB.cons (aJ.int .i64) (aB.one (aJ.int .i64)),aJ.tup (aB.cons (aJ.agg (cJ.row jL)) (aB.one (aJ.int .i64))),fun a=>xY a.1 a.2,.pure,false⟩
theorem aFB:aI tab 207 aMK:=Oc aEp rfl aG [(129,aFe),(128,aKP),(247,aMJ)] ⟨N4,VI,aFA,trivial⟩ fun a=>by kernel_rfl
def AG (p0:Int×Int×Int) (p1:Int×Int×Int):Option ((Int×Int)×Int):=(pG p0 p1 (0,1)).bind fun n0=>bif n0 !=0 then some ((0,0),n0) else bif p0.2.2==p1.2.2 then some ((0,0),6) else (xY (aA .i64 (p0.2.1-p1.2.1)) (aA .i64 (p1.2.2-p0.2.2))).bind fun a1=>some a1
def aML:bN:=⟨aB.cons (aJ.agg (cJ.row eL)) (aB.one (aJ.agg (cJ.row eL))),aJ.tup (aB.cons (aJ.agg (cJ.row jL)) (aB.one (aJ.int .i64))),fun a=>AG a.1 a.2,.pure,false⟩
theorem aFC:aI tab 158 aML:=Oc aDU rfl aG [(203,aFk),(207,aMK)] ⟨N6,aFB,trivial⟩ fun a=>by kernel_rfl
def sL (p0:Int×Int×Int) (p1:Int×Int×Int) (p2:Int×Int):Option ((Int×Int)×Bool×Int):=(pG p0 p1 p2).bind fun n0=>bif n0 !=0 then some ((0,0),false,n0) else (lQ p1 p0 p2).bind fun n1=>bif decide (0<n1) then some (p2,true,0) else bif decide (p1.2.2<=p0.2.2) then some ((0,0),false,0) else (AG p0 p1).bind fun a2=>some (a2.1,a2.2==0,a2.2)
def aMM:bN:=⟨aB.cons (aJ.agg (cJ.row eL)) (aB.cons (aJ.agg (cJ.row eL)) (aB.one (aJ.agg (cJ.row jL)))),aJ.tup (aB.cons (aJ.agg (cJ.row jL)) (aB.cons aJ.bool (aB.one (aJ.int .i64)))),fun a=>sL a.1 a.2.1 a.2.2,.pure,false⟩
theorem aFD:aI tab 177 aMM:=Oc aD1 rfl aG [(203,aFk),(204,aKU),(158,aML)] ⟨N6,VM,aFC,trivial⟩ fun a=>by kernel_rfl
def pK (p0:Field) (p1:Int×Int) (p2:Int×Int):Option ((Int×Int)×Bool×Int):=(iV p0 p1.2).bind fun a0=>(iV p0 p1.1).bind fun a1=>(sL a0 a1 p2).bind fun a2=>some a2
def aFE:bN:=⟨aB.cons (aJ.agg dB) (aB.cons (aJ.agg (cJ.row jL)) (aB.one (aJ.agg (cJ.row jL)))),aJ.tup (aB.cons (aJ.agg (cJ.row jL)) (aB.cons aJ.bool (aB.one (aJ.int .i64)))),fun a=>pK a.1 a.2.1 a.2.2,.pure,false⟩
theorem OB:aI tab 116 aFE:=Oc aDw rfl aG [(178,aFz),(177,aMM)] ⟨OA,aFD,trivial⟩ fun a=>by kernel_rfl
def bY (s:Zt6):Option (bO Zt6 aL5):=bif decide (s.2.2.2.1<s.2.2.1) then (aK s.2.1 s.2.2.2.1).bind fun a0=>(pK (Field.mk s.2.2.2.2.2.2.1) a0.2 (s.2.2.2.2.1,s.2.2.2.2.2.1)).bind fun a1=>bif a1.2.2 !=0 then some (.done (.done 8)) else bif !a1.2.1 then some (.next (s.1,s.2.1,s.2.2.1,aA .i64 (s.2.2.2.1+1),s.2.2.2.2)) else bif (Int.ofNat s.1.length)==0 then some (.done (.done 8)) else (aK s.1 0).bind fun a2=>bif a2.1 !=a0.1 then some (.done (.done 8)) else (aK s.1 0).bind fun a3=>bif decide (a3.2.1<0) then some (.done (.done 8)) else bif decide (200<=a3.2.1) then some (.done (.done 8)) else (aK s.2.2.2.2.2.2.2.2.2.2.2.2.2.1 a3.2.1).bind fun n4=>bif decide (n4<0) then some (.done (.done 8)) else (aK s.2.2.2.2.2.2.2.2.2.2.2.2.2.1 a3.2.1).bind fun n5=>(aK s.2.2.2.2.2.2.2.2.2.2.2.2.1 n5).bind fun a6=>bif !((a6.1==a1.1.1)&&((a6.2.1==a1.1.2)&&((a6.2.2.1==a0.1)&&((a6.2.2.2.1==a3.2.1)&&(a6.2.2.2.2==a3.2.2))))) then some (.done (.done 8)) else (iL s.1 1 (Int.ofNat s.1.length)).bind fun l7=>some (.next (l7,s.2.1,s.2.2.1,aA .i64 (s.2.2.2.1+1),s.2.2.2.2)) else bif decide (0<(Int.ofNat s.1.length)) then some (.done (.done 8)) else some (.done (.done 0))
def dU (s:aL4):Option aL5:=match s with |(a,b,d,e,f,g,h,i,j,k,l,m,n,o)=>bif decide (b<a) then (aK o b).bind fun n0=>bif n0 !=0 then some (.done 8) else some (.next (a,aA .i64 (b+1),(d,e,f,g,h,i,j,k,l,m,n,o))) else bif (Int.ofNat m.length) !=200 then some (.done 8) else bif (Int.ofNat l.length) !=(Int.ofNat n.length) then some (.done 8) else aE bY (n,h,Int.ofNat h.length,0,d,e,f,g,h,i,j,k,l,m,n)
def fZ (p0:aR):Option Int:=(eM p0.now).bind fun n0=>(hH p0.field).bind fun n1=>(pH p0.certs).bind fun n2=>(iU p0.agenda).bind fun n3=>aE dU (Int.ofNat ([n0,n1,n2,n3].length),0,p0.now.1,p0.now.2,p0.field.points,p0.certs.next_,p0.certs.list,p0.agenda.slots.uses,p0.agenda.slots.used,p0.agenda.slots.free,p0.agenda.heap,p0.agenda.where_,p0.due,[n0,n1,n2,n3])
def c62:bN:=⟨aB.one (aJ.agg cW),aJ.int .i64,fun a=>fZ a,.pure,false⟩
theorem GD:aI tab 62 c62:=Oc aKo rfl aG [(72,c72),(85,c85),(114,aFo),(115,XI),(116,aFE)] ⟨xU,KE,N7,EU,OB,trivial⟩ fun a=>by kernel_rfl
def iW (s:(gY×Int×Int×Int×Int)):Option (bO (gY×Int×Int×Int×Int) Int):=bif decide (s.2.2.1<s.2.1) then (aK s.1 s.2.2.1).bind fun a0=>bif (s.2.2.2.1==a0.1)&&(s.2.2.2.2==a0.2) then some (.done s.2.2.1) else some (.next (s.1,s.2.1,aA .i64 (s.2.2.1+1),s.2.2.2)) else some (.done (-1))
def oB (p0:List (Int×Int)) (p1:Int×Int):Option Int:=aE iW (p0,Int.ofNat p0.length,0,p1)
def aMN:bN:=⟨aB.cons (aJ.sl jL) (aB.one (aJ.agg (cJ.row jL))),aJ.int .i64,fun a=>oB a.1 a.2,.pure,false⟩
theorem aFF:aI tab 117 aMN:=Oc aDx rfl aG [] trivial fun a=>by kernel_rfl
def eN (p0:List (Int×Int)) (p1:Int×Int):Option Bool:=(oB p0 p1).bind fun n0=>some (decide (0<=n0))
def c64:bN:=⟨aB.cons (aJ.sl jL) (aB.one (aJ.agg (cJ.row jL))),aJ.bool,fun a=>eN a.1 a.2,.pure,false⟩
theorem TK:aI tab 64 c64:=Oc aKq rfl aG [(117,aMN)] ⟨aFF,trivial⟩ fun a=>by kernel_rfl
def xZ (p0:Int×Int×Int) (p1:Int):Option Int:=(eD p0.1 p1).bind fun n0=>some n0
def aMO:bN:=⟨aB.cons (aJ.agg (cJ.row eL)) (aB.one (aJ.int .i64)),aJ.int .i64,fun a=>xZ a.1 a.2,.pure,false⟩
theorem aFG:aI tab 143 aMO:=Oc aDP rfl aG [(144,TG)] ⟨BE,trivial⟩ fun a=>by kernel_rfl
def iC (s:N3):Option aFc:=bif decide (s.2.2.2.1<s.2.2.2.2) then (aK s.1 (aA .i64 (iG .u64 (aA .u64 (aA .i64 (s.2.2.2.1+s.2.2.2.2))) 1))).bind fun a0=>(xZ a0 s.2.1).bind fun n1=>bif decide (n1<0) then some (.next (s.1,s.2.1,s.2.2.1,aA .i64 ((aA .i64 (iG .u64 (aA .u64 (aA .i64 (s.2.2.2.1+s.2.2.2.2))) 1))+1),s.2.2.2.2)) else some (.next (s.1,s.2.1,s.2.2.1,s.2.2.2.1,aA .i64 (iG .u64 (aA .u64 (aA .i64 (s.2.2.2.1+s.2.2.2.2))) 1))) else bif decide (s.2.2.2.1<s.2.2.1) then (aK s.1 s.2.2.2.1).bind fun a2=>(xZ a2 s.2.1).bind fun n3=>some (.done (s.2.2.2.1,n3==0)) else some (.done (s.2.2.2.1,false))
def cK (p0:List (Int×Int×Int)) (p1:Int) (_:Unit):Option (Int×Bool):=aE iC (p0,p1,Int.ofNat p0.length,0,Int.ofNat p0.length)
def QL:bN:=⟨aB.cons (aJ.sl eL) (aB.cons (aJ.int .i64) (aB.one (aJ.clo 143 aB.nil))),aJ.tup (aB.cons (aJ.int .i64) (aB.one aJ.bool)),fun a=>cK a.1 a.2.1 a.2.2,.pure,false⟩
theorem QM:aI tab 142 QL:=Oc VA rfl aG [(143,aMO)] ⟨aFG,trivial⟩ fun a=>by kernel_rfl
def DI (p0:Field) (p1:Int):Option (Int×Bool):=(cK p0.points p1 ()).bind fun a0=>some a0
def c87:bN:=⟨aB.cons (aJ.agg dB) (aB.one (aJ.int .i64)),aJ.tup (aB.cons (aJ.int .i64) (aB.one aJ.bool)),fun a=>DI a.1 a.2,.pure,false⟩
theorem aKY:aI tab 87 c87:=Oc aKD rfl aG [(142,QL)] ⟨QM,trivial⟩ fun a=>by kernel_rfl
def AH (p0:Field) (p1:Int):Option (Int×Int):=(hH p0).bind fun n0=>bif n0 !=0 then some (0,n0) else (DI p0 p1).bind fun a1=>bif !a1.2 then some (0,6) else some (a1.1,0)
def c90:bN:=⟨aB.cons (aJ.agg dB) (aB.one (aJ.int .i64)),aJ.tup (aB.cons (aJ.int .i64) (aB.one (aJ.int .i64))),fun a=>AH a.1 a.2,.pure,false⟩
theorem aKZ:aI tab 90 c90:=Oc aKF rfl aG [(85,c85),(87,c87)] ⟨KE,aKY,trivial⟩ fun a=>by kernel_rfl
def tJ (p0:Field) (p1:Int):Option ((Int×Int×Int)×Int):=(AH p0 p1).bind fun a0=>bif a0.2 !=0 then some ((0,0,0),a0.2) else (aK p0.points a0.1).bind fun a1=>some (a1,0)
def aMP:bN:=⟨aB.cons (aJ.agg dB) (aB.one (aJ.int .i64)),aJ.tup (aB.cons (aJ.agg (cJ.row eL)) (aB.one (aJ.int .i64))),fun a=>tJ a.1 a.2,.pure,false⟩
theorem aFH:aI tab 166 aMP:=Oc aDW rfl aG [(90,c90)] ⟨aKZ,trivial⟩ fun a=>by kernel_rfl
def tK (p0:aR):Option aR:=(bQ p0.field.points).bind fun l0=>(bQ p0.certs.list).bind fun l1=>(bQ p0.due).bind fun l2=>(bQ p0.agenda.heap).bind fun l3=>(bQ p0.agenda.where_).bind fun l4=>(bQ p0.agenda.slots.uses).bind fun l5=>(bQ p0.agenda.slots.used).bind fun l6=>(bQ p0.agenda.slots.free).bind fun l7=>some (aR.mk p0.now (Field.mk l0) (aZ.mk p0.certs.next_ l1) (aO.mk (aW.mk l5 l6 l7) l3 l4) l2)
def aMQ:bN:=⟨aB.one (aJ.agg cW),aJ.agg cW,fun a=>tK a,.own,true⟩
def aHi:bN:=⟨aB.one (aJ.agg cW),aJ.agg cW,fun a=>tK a,.frz,false⟩
theorem aFI:aI tab 168 aMQ:=Oc VC rfl aG [(89,bN.clone eL),(193,bN.clone eL),(194,bN.clone eL),(195,bN.clone jE),(196,bN.clone ki),(197,bN.clone kb)] ⟨BC,wL,ES,tG,nW,tF,trivial⟩ fun a=>by kernel_rfl
theorem Z8:aI tab 168 aHi:=Oc VC rfl aG [(89,bN.clone eL),(193,bN.clone eL),(194,bN.clone eL),(195,bN.clone jE),(196,bN.clone ki),(197,bN.clone kb)] ⟨BC,wL,ES,tG,nW,tF,trivial⟩ fun a=>by kernel_rfl
def rF (p0:Int×Int×Int) (p1:Int):Option Int:=(eD p0.1 p1).bind fun n0=>some n0
def aMR:bN:=⟨aB.cons (aJ.agg (cJ.row eL)) (aB.one (aJ.int .i64)),aJ.int .i64,fun a=>rF a.1 a.2,.pure,false⟩
theorem aFJ:aI tab 267 aMR:=Oc aEV rfl aG [(144,TG)] ⟨BE,trivial⟩ fun a=>by kernel_rfl
def aS (s:N3):Option aFc:=bif decide (s.2.2.2.1<s.2.2.2.2) then (aK s.1 (aA .i64 (iG .u64 (aA .u64 (aA .i64 (s.2.2.2.1+s.2.2.2.2))) 1))).bind fun a0=>(rF a0 s.2.1).bind fun n1=>bif decide (n1<0) then some (.next (s.1,s.2.1,s.2.2.1,aA .i64 ((aA .i64 (iG .u64 (aA .u64 (aA .i64 (s.2.2.2.1+s.2.2.2.2))) 1))+1),s.2.2.2.2)) else some (.next (s.1,s.2.1,s.2.2.1,s.2.2.2.1,aA .i64 (iG .u64 (aA .u64 (aA .i64 (s.2.2.2.1+s.2.2.2.2))) 1))) else bif decide (s.2.2.2.1<s.2.2.1) then (aK s.1 s.2.2.2.1).bind fun a2=>(rF a2 s.2.1).bind fun n3=>some (.done (s.2.2.2.1,n3==0)) else some (.done (s.2.2.2.1,false))
def aT (p0:List (Int×Int×Int)) (p1:Int) (_:Unit):Option (Int×Bool):=aE aS (p0,p1,Int.ofNat p0.length,0,Int.ofNat p0.length)
def QN:bN:=⟨aB.cons (aJ.sl eL) (aB.cons (aJ.int .i64) (aB.one (aJ.clo 267 aB.nil))),aJ.tup (aB.cons (aJ.int .i64) (aB.one aJ.bool)),fun a=>aT a.1 a.2.1 a.2.2,.pure,false⟩
theorem QO:aI tab 266 QN:=Oc aEU rfl aG [(267,aMR)] ⟨aFJ,trivial⟩ fun a=>by kernel_rfl
def MQ (p0:aZ) (p1:Int):Option (Int×Int):=(pH p0).bind fun n0=>bif n0 !=0 then some (0,n0) else (aT p0.list p1 ()).bind fun a1=>bif !a1.2 then some (0,6) else some (a1.1,0)
def aMS:bN:=⟨aB.cons (aJ.agg qD) (aB.one (aJ.int .i64)),aJ.tup (aB.cons (aJ.int .i64) (aB.one (aJ.int .i64))),fun a=>MQ a.1 a.2,.pure,false⟩
theorem aFK:aI tab 228 aMS:=Oc aED rfl aG [(114,aFo),(266,QN)] ⟨N7,QO,trivial⟩ fun a=>by kernel_rfl
def jS (a:Z3):Option (Nat×Nat×(List (Int×Int×Int))):=bif (((decide (0<=a.1))&&(decide (a.1<=a.2.1)))&&(decide (a.2.1<=(Int.ofNat a.2.2.length))))&&(decide ((Int.ofNat a.2.2.length)<=(Int.ofNat a.2.2.length))) then bif a.1==a.2.1 then bif a.2.2.length==a.2.2.length then some (a.2.2.length,a.2.2.length,a.2.2) else none else (iL a.2.2 0 a.1).bind fun _=>bif ((decide (0<=a.2.1))&&(decide (a.2.1<=(Int.ofNat a.2.2.length))))&&(decide ((Int.ofNat a.2.2.length)<=(Int.ofNat a.2.2.length))) then bif ((a.2.2.drop (0+a.2.1.toNat)).take (((Int.ofNat a.2.2.length).toNat) -a.2.1.toNat)).isEmpty then bif ((decide (0<=(Int.ofNat a.1.toNat)))&&(decide ((Int.ofNat a.1.toNat)<=(Int.ofNat a.2.2.length))))&&(decide ((Int.ofNat a.2.2.length)<=(Int.ofNat a.2.2.length))) then bif Nat.beq (((Int.ofNat a.2.2.length).toNat) - ((Int.ofNat a.1.toNat).toNat)) 0 then bif a.2.2.length==a.2.2.length then some (a.1.toNat,a.2.2.length,a.2.2) else none else bif (Nat.ble ((0+((Int.ofNat a.1.toNat).toNat))+(((Int.ofNat a.2.2.length).toNat) - ((Int.ofNat a.1.toNat).toNat))) a.2.2.length)&&(!false) then bif ((mL a.2.2 (0+((Int.ofNat a.1.toNat).toNat)) (List.replicate (((Int.ofNat a.2.2.length).toNat) - ((Int.ofNat a.1.toNat).toNat)) (0,0,0))).length)==a.2.2.length then some (a.1.toNat,a.2.2.length,mL a.2.2 (0+((Int.ofNat a.1.toNat).toNat)) (List.replicate (((Int.ofNat a.2.2.length).toNat) - ((Int.ofNat a.1.toNat).toNat)) (0,0,0))) else none else none else none else bif Nat.ble (a.1.toNat+(((a.2.2.drop (0+a.2.1.toNat)).take (((Int.ofNat a.2.2.length).toNat) -a.2.1.toNat)).length)) a.2.2.length then bif (Nat.ble (a.1.toNat+(((a.2.2.drop (0+a.2.1.toNat)).take (((Int.ofNat a.2.2.length).toNat) -a.2.1.toNat)).length)) a.2.2.length)&&(!false) then bif ((decide (0<=(Int.ofNat (a.1.toNat+(((a.2.2.drop (0+a.2.1.toNat)).take (((Int.ofNat a.2.2.length).toNat) -a.2.1.toNat)).length)))))&&(decide ((Int.ofNat (a.1.toNat+(((a.2.2.drop (0+a.2.1.toNat)).take (((Int.ofNat a.2.2.length).toNat) -a.2.1.toNat)).length)))<=(Int.ofNat a.2.2.length))))&&(decide ((Int.ofNat a.2.2.length)<=(Int.ofNat a.2.2.length))) then bif Nat.beq (((Int.ofNat a.2.2.length).toNat) - ((Int.ofNat (a.1.toNat+(((a.2.2.drop (0+a.2.1.toNat)).take (((Int.ofNat a.2.2.length).toNat) -a.2.1.toNat)).length))).toNat)) 0 then bif ((mL a.2.2 a.1.toNat ((a.2.2.drop (0+a.2.1.toNat)).take (((Int.ofNat a.2.2.length).toNat) -a.2.1.toNat))).length)==a.2.2.length then some (a.1.toNat+(((a.2.2.drop (0+a.2.1.toNat)).take (((Int.ofNat a.2.2.length).toNat) -a.2.1.toNat)).length),a.2.2.length,mL a.2.2 a.1.toNat ((a.2.2.drop (0+a.2.1.toNat)).take (((Int.ofNat a.2.2.length).toNat) -a.2.1.toNat))) else none else bif (Nat.ble ((0+((Int.ofNat (a.1.toNat+(((a.2.2.drop (0+a.2.1.toNat)).take (((Int.ofNat a.2.2.length).toNat) -a.2.1.toNat)).length))).toNat))+(((Int.ofNat a.2.2.length).toNat) - ((Int.ofNat (a.1.toNat+(((a.2.2.drop (0+a.2.1.toNat)).take (((Int.ofNat a.2.2.length).toNat) -a.2.1.toNat)).length))).toNat))) ((mL a.2.2 a.1.toNat ((a.2.2.drop (0+a.2.1.toNat)).take (((Int.ofNat a.2.2.length).toNat) -a.2.1.toNat))).length))&&(!false) then bif ((mL (mL a.2.2 a.1.toNat ((a.2.2.drop (0+a.2.1.toNat)).take (((Int.ofNat a.2.2.length).toNat) -a.2.1.toNat))) (0+((Int.ofNat (a.1.toNat+(((a.2.2.drop (0+a.2.1.toNat)).take (((Int.ofNat a.2.2.length).toNat) -a.2.1.toNat)).length))).toNat)) (List.replicate (((Int.ofNat a.2.2.length).toNat) - ((Int.ofNat (a.1.toNat+(((a.2.2.drop (0+a.2.1.toNat)).take (((Int.ofNat a.2.2.length).toNat) -a.2.1.toNat)).length))).toNat)) (0,0,0))).length)==a.2.2.length then some (a.1.toNat+(((a.2.2.drop (0+a.2.1.toNat)).take (((Int.ofNat a.2.2.length).toNat) -a.2.1.toNat)).length),a.2.2.length,mL (mL a.2.2 a.1.toNat ((a.2.2.drop (0+a.2.1.toNat)).take (((Int.ofNat a.2.2.length).toNat) -a.2.1.toNat))) (0+((Int.ofNat (a.1.toNat+(((a.2.2.drop (0+a.2.1.toNat)).take (((Int.ofNat a.2.2.length).toNat) -a.2.1.toNat)).length))).toNat)) (List.replicate (((Int.ofNat a.2.2.length).toNat) - ((Int.ofNat (a.1.toNat+(((a.2.2.drop (0+a.2.1.toNat)).take (((Int.ofNat a.2.2.length).toNat) -a.2.1.toNat)).length))).toNat)) (0,0,0))) else none else none else none else none else none else none else none
def Z9:eK:=⟨[.i,.i,.l [.i .i64,.i .i64,.i .i64]],[.own 0 false,.int .i64 0,.int .i64 0],[.arr [.i .i64,.i .i64,.i .i64] []],[.n,.n,.l [.i .i64,.i .i64,.i .i64]],.pre 0 0 0 false,[.arr [.i .i64,.i .i64,.i .i64] []],fun a=>jS a⟩
theorem XJ:oT tab 229 Z9:=oT.of aEE (wd:=true) (cx:=(wI aG [] [] [] [])) (pF.make trivial trivial trivial) (fun a=>by kernel_rfl)
def HA (p0:aZ) (p1:Int):Option (aZ×(Int×Int)×Int):=(MQ p0 p1).bind fun a0=>bif a0.2 !=0 then some (aZ.mk 0 [],(0,0),a0.2) else (bQ p0.list).bind fun l1=>(jS (a0.1,aA .i64 (a0.1+1),l1)).bind fun a2=>(aK p0.list a0.1).bind fun a3=>some (aZ.mk p0.next_ (a2.2.2.take a2.1),a3.2,0)
def aMT:bN:=⟨aB.cons (aJ.agg qD) (aB.one (aJ.int .i64)),aJ.tup (aB.cons (aJ.agg qD) (aB.cons (aJ.agg (cJ.row jL)) (aB.one (aJ.int .i64)))),fun a=>HA a.1 a.2,.frz,false⟩
theorem aFL:aI tab 189 aMT:=aI.of aEc (cx:=(wI aG [(228,aMS),(193,bN.clone eL)] [(229,Z9)] [] [])) rfl (pF.make ⟨aFK,wL,trivial⟩ ⟨XJ,trivial⟩ trivial) (fun a=>by kernel_rfl)
def kL (p0:aR):Option aR:=(bQ p0.field.points).bind fun l0=>(bQ p0.certs.list).bind fun l1=>(bQ p0.due).bind fun l2=>(bQ p0.agenda.heap).bind fun l3=>(bQ p0.agenda.where_).bind fun l4=>(bQ p0.agenda.slots.uses).bind fun l5=>(bQ p0.agenda.slots.used).bind fun l6=>(bQ p0.agenda.slots.free).bind fun l7=>some (aR.mk p0.now (Field.mk l0) (aZ.mk p0.certs.next_ l1) (aO.mk (aW.mk l5 l6 l7) l3 l4) l2)
def aAa:bN:=⟨aB.one (aJ.agg cW),aJ.agg cW,fun a=>kL a,.own,true⟩
def QP:bN:=⟨aB.one (aJ.agg cW),aJ.agg cW,fun a=>kL a,.frz,false⟩
theorem IG:aI tab 136 aAa:=Oc U9 rfl aG [(89,bN.clone eL),(193,bN.clone eL),(194,bN.clone eL),(195,bN.clone jE),(196,bN.clone ki),(197,bN.clone kb)] ⟨BC,wL,ES,tG,nW,tF,trivial⟩ fun a=>by kernel_rfl
theorem EV:aI tab 136 QP:=Oc U9 rfl aG [(89,bN.clone eL),(193,bN.clone eL),(194,bN.clone eL),(195,bN.clone jE),(196,bN.clone ki),(197,bN.clone kb)] ⟨BC,wL,ES,tG,nW,tF,trivial⟩ fun a=>by kernel_rfl
def vO (p0:Int×Int×Int) (p1:Int):Option Int:=(eD p0.1 p1).bind fun n0=>some n0
def aMU:bN:=⟨aB.cons (aJ.agg (cJ.row eL)) (aB.one (aJ.int .i64)),aJ.int .i64,fun a=>vO a.1 a.2,.pure,false⟩
theorem aFM:aI tab 231 aMU:=Oc aEG rfl aG [(144,TG)] ⟨BE,trivial⟩ fun a=>by kernel_rfl
def iH (s:N3):Option aFc:=bif decide (s.2.2.2.1<s.2.2.2.2) then (aK s.1 (aA .i64 (iG .u64 (aA .u64 (aA .i64 (s.2.2.2.1+s.2.2.2.2))) 1))).bind fun a0=>(vO a0 s.2.1).bind fun n1=>bif decide (n1<0) then some (.next (s.1,s.2.1,s.2.2.1,aA .i64 ((aA .i64 (iG .u64 (aA .u64 (aA .i64 (s.2.2.2.1+s.2.2.2.2))) 1))+1),s.2.2.2.2)) else some (.next (s.1,s.2.1,s.2.2.1,s.2.2.2.1,aA .i64 (iG .u64 (aA .u64 (aA .i64 (s.2.2.2.1+s.2.2.2.2))) 1))) else bif decide (s.2.2.2.1<s.2.2.1) then (aK s.1 s.2.2.2.1).bind fun a2=>(vO a2 s.2.1).bind fun n3=>some (.done (s.2.2.2.1,n3==0)) else some (.done (s.2.2.2.1,false))
def dV (p0:List (Int×Int×Int)) (p1:Int) (_:Unit):Option (Int×Bool):=aE iH (p0,p1,Int.ofNat p0.length,0,Int.ofNat p0.length)
def QQ:bN:=⟨aB.cons (aJ.sl eL) (aB.cons (aJ.int .i64) (aB.one (aJ.clo 231 aB.nil))),aJ.tup (aB.cons (aJ.int .i64) (aB.one aJ.bool)),fun a=>dV a.1 a.2.1 a.2.2,.pure,false⟩
theorem QR:aI tab 230 QQ:=Oc aEF rfl aG [(231,aMU)] ⟨aFM,trivial⟩ fun a=>by kernel_rfl
def AI (p0:List (Int×Int×Int)) (p1:Int):Option (Int×Bool):=(dV p0 p1 ()).bind fun a0=>some a0
def aK0:bN:=⟨aB.cons (aJ.sl eL) (aB.one (aJ.int .i64)),aJ.tup (aB.cons (aJ.int .i64) (aB.one aJ.bool)),fun a=>AI a.1 a.2,.pure,false⟩
theorem VP:aI tab 190 aK0:=Oc aEd rfl aG [(230,QQ)] ⟨QR,trivial⟩ fun a=>by kernel_rfl
def KH (p0:aW) (p1:Int×Int):Option (Bool×Int):=(pI p0).bind fun n0=>bif n0 !=0 then some (false,n0) else bif decide (0<=p1.1) then bif decide (p1.1<(Int.ofNat p0.used.length)) then (aK p0.used p1.1).bind fun b1=>bif b1 then (aK p0.uses p1.1).bind fun n2=>some (n2==p1.2,0) else some (false,0) else some (false,0) else some (false,0)
def aK1:bN:=⟨aB.cons (aJ.agg qC) (aB.one (aJ.agg (cJ.row jL))),aJ.tup (aB.cons aJ.bool (aB.one (aJ.int .i64))),fun a=>KH a.1 a.2,.pure,false⟩
theorem VQ:aI tab 268 aK1:=Oc aEW rfl aG [(175,aFr)] ⟨N8,trivial⟩ fun a=>by kernel_rfl
def yA (p0:aO) (p1:Int×Int):Option (Int×Int):=(iU p0).bind fun n0=>bif n0 !=0 then some (0,n0) else (KH p0.slots p1).bind fun a1=>bif a1.2 !=0 then some (0,6) else bif !a1.1 then some (0,6) else (aK p0.where_ p1.1).bind fun n2=>some (n2,0)
def aK2:bN:=⟨aB.cons (aJ.agg gS) (aB.one (aJ.agg (cJ.row jL))),aJ.tup (aB.cons (aJ.int .i64) (aB.one (aJ.int .i64))),fun a=>yA a.1 a.2,.pure,false⟩
theorem VS:aI tab 232 aK2:=Oc aEH rfl aG [(115,XI),(268,aK1)] ⟨EU,VQ,trivial⟩ fun a=>by kernel_rfl
def zC (p0:List Int) (p1:Int):Option (List Int):=(bQ p0).bind fun l0=>(aY l0 [p1]).bind fun l1=>some l1
def aMV:bN:=⟨aB.cons (aJ.sl ki) (aB.one (aJ.int .i64)),aJ.sl ki,fun a=>zC a.1 a.2,.frz,false⟩
theorem aFN:aI tab 287 aMV:=Oc aE4 rfl aG [(293,bN.clone ki)] ⟨QH,trivial⟩ fun a=>by kernel_rfl
def MR (p0:aW) (p1:Int×Int):Option (aW×Int):=(KH p0 p1).bind fun a0=>bif a0.2 !=0 then some (aW.mk [] [] [],a0.2) else bif !a0.1 then some (aW.mk [] [] [],6) else (bQ p0.uses).bind fun l1=>(bQ p0.used).bind fun l2=>(zC p0.free p1.1).bind fun l3=>(aK l2 p1.1).bind fun _=>some (aW.mk l1 (cL l2 p1.1 false) l3,0)
def aMW:bN:=⟨aB.cons (aJ.agg qC) (aB.one (aJ.agg (cJ.row jL))),aJ.tup (aB.cons (aJ.agg qC) (aB.one (aJ.int .i64))),fun a=>MR a.1 a.2,.frz,false⟩
theorem aFO:aI tab 269 aMW:=aI.of aEX (cx:=(wI aG [(268,aK1),(196,bN.clone ki),(197,bN.clone kb),(287,aMV)] [] [(286,ZZ)] [])) rfl (pF.make ⟨VQ,nW,tF,aFN,trivial⟩ trivial ⟨VG,trivial⟩) (fun a=>by kernel_rfl)
def dM (a:aE8):Option XG:=(aK (a.2.2.2.2.2.2.2.2.2.2.2.1.take a.2.2.2.1) a.2.2.2.2.2.1).bind fun _=>(aK a.2.2.2.2.2.2.2.2.2.2.2.2 a.2.2.2.2.2.2.2.2.2.1).bind fun _=>bif ((cL a.2.2.2.2.2.2.2.2.2.2.2.1 a.2.2.2.2.2.1 (a.2.2.2.2.2.2.1,a.2.2.2.2.2.2.2.1,a.2.2.2.2.2.2.2.2.1,a.2.2.2.2.2.2.2.2.2.1,a.2.2.2.2.2.2.2.2.2.2.1)).length)==a.2.2.2.2.2.2.2.2.2.2.2.1.length then bif ((cL a.2.2.2.2.2.2.2.2.2.2.2.2 a.2.2.2.2.2.2.2.2.2.1 a.2.2.2.2.2.1).length)==a.2.2.2.2.2.2.2.2.2.2.2.2.length then some (cL a.2.2.2.2.2.2.2.2.2.2.2.1 a.2.2.2.2.2.1 (a.2.2.2.2.2.2.1,a.2.2.2.2.2.2.2.1,a.2.2.2.2.2.2.2.2.1,a.2.2.2.2.2.2.2.2.2.1,a.2.2.2.2.2.2.2.2.2.2.1),cL a.2.2.2.2.2.2.2.2.2.2.2.2 a.2.2.2.2.2.2.2.2.2.1 a.2.2.2.2.2.1) else none else none
def TL:eK:=⟨[.l [.i .i64],.l [.b],.l [.i .i64],.n,.n,.i,.i,.i,.i,.i,.i,.l [.i .i64,.i .i64,.i .i64,.i .i64,.i .i64],.l [.i .i64]],[.agg [.sl [.i .i64] [],.sl [.b] [],.sl [.i .i64] [],.pre 0 0 0 false,.own 1 false],.int .i64 0,.agg [.int .i64 0,.int .i64 0,.int .i64 0,.int .i64 0,.int .i64 0]],[.arr [.i .i64,.i .i64,.i .i64,.i .i64,.i .i64] [],.arr [.i .i64] []],[.l [.i .i64,.i .i64,.i .i64,.i .i64,.i .i64],.l [.i .i64]],.tup [],[.arr [.i .i64,.i .i64,.i .i64,.i .i64,.i .i64] [],.arr [.i .i64] []],fun a=>dM a⟩
theorem MS:oT tab 288 TL:=oT.of VH (wd:=false) (cx:=(wI aG [] [] [] [])) (pF.make trivial trivial trivial) (fun a=>by kernel_rfl)
def oC (c0:aE8) (s:aMj):Option (bO aMj aL9):=match s with |(a,b,d,e,f,g,h,i,j,k,l,m,n,o)=>bif decide (b<(Int.ofNat i)) then bif decide ((aA .i64 (b+1))<(Int.ofNat i)) then (aK (d.take i) (aA .i64 (b+1))).bind fun a0=>(aK (d.take i) b).bind fun a1=>(bR a0 a1).bind fun n2=>bif decide (n2<0) then (aK (d.take i) (aA .i64 (b+1))).bind fun a3=>(bR a3 (k,l,m,n,o)).bind fun n4=>bif decide (0<=n4) then (dM (f,g,h,i,j,a,k,l,m,n,o,d,e)).bind fun a5=>bif a5.1.length==c0.2.2.2.2.2.2.2.2.2.2.2.1.length then bif a5.2.length==c0.2.2.2.2.2.2.2.2.2.2.2.2.length then some (.done (.done a5)) else none else none else (aK (d.take i) (aA .i64 (b+1))).bind fun a6=>(dM (f,g,h,i,j,a,a6.1,a6.2.1,a6.2.2.1,a6.2.2.2.1,a6.2.2.2.2,d,e)).bind fun a7=>some (.next (aA .i64 (b+1),aA .i64 ((aA .i64 (2*(aA .i64 (b+1))))+1),a7.1,a7.2,(f,g,h,i,j,k,l,m,n,o))) else (aK (d.take i) b).bind fun a8=>(bR a8 (k,l,m,n,o)).bind fun n9=>bif decide (0<=n9) then (dM (f,g,h,i,j,a,k,l,m,n,o,d,e)).bind fun a10=>bif a10.1.length==c0.2.2.2.2.2.2.2.2.2.2.2.1.length then bif a10.2.length==c0.2.2.2.2.2.2.2.2.2.2.2.2.length then some (.done (.done a10)) else none else none else (aK (d.take i) b).bind fun a11=>(dM (f,g,h,i,j,a,a11.1,a11.2.1,a11.2.2.1,a11.2.2.2.1,a11.2.2.2.2,d,e)).bind fun a12=>some (.next (b,aA .i64 ((aA .i64 (2*b))+1),a12.1,a12.2,(f,g,h,i,j,k,l,m,n,o))) else (aK (d.take i) b).bind fun a13=>(bR a13 (k,l,m,n,o)).bind fun n14=>bif decide (0<=n14) then (dM (f,g,h,i,j,a,k,l,m,n,o,d,e)).bind fun a15=>bif a15.1.length==c0.2.2.2.2.2.2.2.2.2.2.2.1.length then bif a15.2.length==c0.2.2.2.2.2.2.2.2.2.2.2.2.length then some (.done (.done a15)) else none else none else (aK (d.take i) b).bind fun a16=>(dM (f,g,h,i,j,a,a16.1,a16.2.1,a16.2.2.1,a16.2.2.2.1,a16.2.2.2.2,d,e)).bind fun a17=>some (.next (b,aA .i64 ((aA .i64 (2*b))+1),a17.1,a17.2,(f,g,h,i,j,k,l,m,n,o))) else (dM (f,g,h,i,j,a,k,l,m,n,o,d,e)).bind fun a18=>bif a18.1.length==c0.2.2.2.2.2.2.2.2.2.2.2.1.length then bif a18.2.length==c0.2.2.2.2.2.2.2.2.2.2.2.2.length then some (.done (.done a18)) else none else none
def yB (c0:aE8) (s:aL8):Option aL9:=bif decide (0<s.1) then (aK (s.2.1.take s.2.2.2.2.2.2.1) (aA .i64 (Int.tdiv (aA .i64 (s.1-1)) 2))).bind fun a0=>(bR s.2.2.2.2.2.2.2.2 a0).bind fun n1=>bif decide (n1<0) then (aK (s.2.1.take s.2.2.2.2.2.2.1) (aA .i64 (Int.tdiv (aA .i64 (s.1-1)) 2))).bind fun a2=>(dM (s.2.2.2.1,s.2.2.2.2.1,s.2.2.2.2.2.1,s.2.2.2.2.2.2.1,s.2.2.2.2.2.2.2.1,s.1,a2.1,a2.2.1,a2.2.2.1,a2.2.2.2.1,a2.2.2.2.2,s.2.1,s.2.2.1)).bind fun a3=>some (.next (aA .i64 (Int.tdiv (aA .i64 (s.1-1)) 2),a3.1,a3.2,s.2.2.2)) else aE (oC c0) (s.1,aA .i64 ((aA .i64 (2*s.1))+1),s.2) else aE (oC c0) (s.1,aA .i64 ((aA .i64 (2*s.1))+1),s.2)
def sC (a:aE8):Option XG:=aE (yB a) (a.2.2.2.2.2.1,a.2.2.2.2.2.2.2.2.2.2.2.1,a.2.2.2.2.2.2.2.2.2.2.2.2,a.1,a.2.1,a.2.2.1,a.2.2.2.1,a.2.2.2.2.1,a.2.2.2.2.2.2.1,a.2.2.2.2.2.2.2.1,a.2.2.2.2.2.2.2.2.1,a.2.2.2.2.2.2.2.2.2.1,a.2.2.2.2.2.2.2.2.2.2.1)
def OC:eK:=⟨[.l [.i .i64],.l [.b],.l [.i .i64],.n,.n,.i,.i,.i,.i,.i,.i,.l [.i .i64,.i .i64,.i .i64,.i .i64,.i .i64],.l [.i .i64]],[.agg [.sl [.i .i64] [],.sl [.b] [],.sl [.i .i64] [],.pre 0 0 0 false,.own 1 false],.int .i64 0,.agg [.int .i64 0,.int .i64 0,.int .i64 0,.int .i64 0,.int .i64 0]],[.arr [.i .i64,.i .i64,.i .i64,.i .i64,.i .i64] [],.arr [.i .i64] []],[.l [.i .i64,.i .i64,.i .i64,.i .i64,.i .i64],.l [.i .i64]],.tup [],[.arr [.i .i64,.i .i64,.i .i64,.i .i64,.i .i64] [],.arr [.i .i64] []],fun a=>sC a⟩
theorem GE:oT tab 271 OC:=oT.of VF (wd:=false) (cx:=(wI aG [(176,aFx)] [(288,TL)] [] [])) (pF.make ⟨N9,trivial⟩ ⟨MS,trivial⟩ trivial) (fun a=>by kernel_rfl)
def CD (p0:aO) (p1:Int):Option (aO×(Int×Int×Int×Int×Int)×Int):=(aK p0.heap p1).bind fun a0=>(MR p0.slots a0.2.2.2).bind fun a1=>bif a1.2 !=0 then some (aO.mk (aW.mk [] [] []) [] [],(0,0,0,0,0),a1.2) else (bQ p0.heap).bind fun l2=>(bQ p0.where_).bind fun l3=>(aK l2 (aA .i64 ((Int.ofNat l2.length) -1))).bind fun a4=>(iL l2 0 (aA .i64 ((Int.ofNat l2.length) -1))).bind fun _=>(aK l3 a0.2.2.2.1).bind fun _=>bif decide (p1<(aA .i64 ((Int.ofNat l2.length) -1))) then (sC (a1.1.uses,a1.1.used,a1.1.free,(aA .i64 ((Int.ofNat l2.length) -1)).toNat,l2.length,p1,a4.1,a4.2.1,a4.2.2.1,a4.2.2.2.1,a4.2.2.2.2,l2,cL l3 a0.2.2.2.1 (-1))).bind fun a7=>some (aO.mk a1.1 (a7.1.take ((aA .i64 ((Int.ofNat l2.length) -1)).toNat)) a7.2,a0,0) else some (aO.mk a1.1 (l2.take ((aA .i64 ((Int.ofNat l2.length) -1)).toNat)) (cL l3 a0.2.2.2.1 (-1)),a0,0)
def aMX:bN:=⟨aB.cons (aJ.agg gS) (aB.one (aJ.int .i64)),aJ.tup (aB.cons (aJ.agg gS) (aB.cons (aJ.agg (cJ.row jE)) (aB.one (aJ.int .i64)))),fun a=>CD a.1 a.2,.frz,false⟩
theorem aFP:aI tab 233 aMX:=aI.of aEI (cx:=(wI aG [(269,aMW),(195,bN.clone jE),(196,bN.clone ki)] [(271,OC)] [(270,XE)] [])) rfl (pF.make ⟨aFO,tG,nW,trivial⟩ ⟨GE,trivial⟩ ⟨N2,trivial⟩) (fun a=>by kernel_rfl)
def qI (p0:aO) (p1:Int×Int):Option (aO×(Int×Int×Int×Int×Int)×Int):=(yA p0 p1).bind fun a0=>bif a0.2 !=0 then some (aO.mk (aW.mk [] [] []) [] [],(0,0,0,0,0),a0.2) else (CD p0 a0.1).bind fun a1=>some a1
def aK3:bN:=⟨aB.cons (aJ.agg gS) (aB.one (aJ.agg (cJ.row jL))),aJ.tup (aB.cons (aJ.agg gS) (aB.cons (aJ.agg (cJ.row jE)) (aB.one (aJ.int .i64)))),fun a=>qI a.1 a.2,.frz,false⟩
theorem VT:aI tab 191 aK3:=Oc aEe rfl aG [(232,aK2),(233,aMX)] ⟨VS,aFP,trivial⟩ fun a=>by kernel_rfl
def oD (a:Z3):Option (Nat×Nat×(List (Int×Int×Int))):= jS a
def aAb:eK:=⟨[.i,.i,.l [.i .i64,.i .i64,.i .i64]],[.own 0 false,.int .i64 0,.int .i64 0],[.arr [.i .i64,.i .i64,.i .i64] []],[.n,.n,.l [.i .i64,.i .i64,.i .i64]],.pre 0 0 0 false,[.arr [.i .i64,.i .i64,.i .i64] []],fun a=>oD a⟩
theorem XK:oT tab 192 aAb:=oT.of aEf (wd:=true) (cx:=(wI aG [] [] [] [])) (pF.make trivial trivial trivial) (fun a=>by kernel_rfl)
def yC (p0:aR) (p1:Int):Option (aR×(Int×Int)×Int):=(HA p0.certs p1).bind fun a0=>bif a0.2.2 !=0 then some (jF,a0.2) else (kL p0).bind fun r1=>(AI p0.due p1).bind fun a2=>bif a2.2 then (aK p0.due a2.1).bind fun a3=>(qI p0.agenda a3.2).bind fun a4=>bif a4.2.2 !=0 then some (jF,a0.2.1,a4.2.2) else (oD (a2.1,aA .i64 (a2.1+1),r1.due)).bind fun a5=>some (aR.mk r1.now r1.field a0.1 a4.1 (a5.2.2.take a5.1),a0.2.1,0) else some (aR.mk r1.now r1.field a0.1 r1.agenda r1.due,a0.2.1,0)
def aK4:bN:=⟨aB.cons (aJ.agg cW) (aB.one (aJ.int .i64)),aJ.tup (aB.cons (aJ.agg cW) (aB.cons (aJ.agg (cJ.row jL)) (aB.one (aJ.int .i64)))),fun a=>yC a.1 a.2,.frz,false⟩
theorem VU:aI tab 135 aK4:=aI.of aDN (cx:=(wI aG [(189,aMT),(136,aAa),(136,QP),(190,aK0),(191,aK3)] [(192,aAb)] [] [])) rfl (pF.make ⟨aFL,IG,EV,VP,VT,trivial⟩ ⟨XK,trivial⟩ trivial) (fun a=>by kernel_rfl)
def EW (p0:aR) (p1:Int):Option (aR×Int):=(fZ p0).bind fun n0=>bif n0 !=0 then some (jF,n0) else (yC p0 p1).bind fun a1=>some (a1.1,a1.2.2)
def aMY:bN:=⟨aB.cons (aJ.agg cW) (aB.one (aJ.int .i64)),aJ.tup (aB.cons (aJ.agg cW) (aB.one (aJ.int .i64))),fun a=>EW a.1 a.2,.frz,false⟩
theorem aFQ:aI tab 211 aMY:=Oc aEs rfl aG [(62,c62),(135,aK4)] ⟨GD,VU,trivial⟩ fun a=>by kernel_rfl
def iE (s:((List (Int×Int×Int))×(List (Int×Int×Int))×Int×Int)):Option (bO ((List (Int×Int×Int))×(List (Int×Int×Int))×Int×Int) Bool):=bif decide (s.2.2.2<s.2.2.1) then (aK s.1 s.2.2.2).bind fun a0=>(aK s.2.1 s.2.2.2).bind fun a1=>bif !((a0.1==a1.1)&&((a0.2.1==a1.2.1)&&(a0.2.2==a1.2.2))) then some (.done false) else some (.next (s.1,s.2.1,s.2.2.1,aA .i64 (s.2.2.2+1))) else some (.done true)
def kM (p0:List (Int×Int×Int)) (p1:List (Int×Int×Int)):Option Bool:=bif (Int.ofNat p0.length) !=(Int.ofNat p1.length) then some false else aE iE (p0,p1,Int.ofNat p0.length,0)
def aMZ:bN:=⟨aB.cons (aJ.sl eL) (aB.one (aJ.sl eL)),aJ.bool,fun a=>kM a.1 a.2,.pure,false⟩
theorem aFR:aI tab 212 aMZ:=Oc aEt rfl aG [] trivial fun a=>by kernel_rfl
def bK (a:aE9):Option XG:=(aK a.2.2.2.2.2.2.2.2.2.1 a.2.2.2.1).bind fun _=>(aK a.2.2.2.2.2.2.2.2.2.2 a.2.2.2.2.2.2.2.1).bind fun _=>bif ((cL a.2.2.2.2.2.2.2.2.2.1 a.2.2.2.1 (a.2.2.2.2.1,a.2.2.2.2.2.1,a.2.2.2.2.2.2.1,a.2.2.2.2.2.2.2.1,a.2.2.2.2.2.2.2.2.1)).length)==a.2.2.2.2.2.2.2.2.2.1.length then bif ((cL a.2.2.2.2.2.2.2.2.2.2 a.2.2.2.2.2.2.2.1 a.2.2.2.1).length)==a.2.2.2.2.2.2.2.2.2.2.length then some (cL a.2.2.2.2.2.2.2.2.2.1 a.2.2.2.1 (a.2.2.2.2.1,a.2.2.2.2.2.1,a.2.2.2.2.2.2.1,a.2.2.2.2.2.2.2.1,a.2.2.2.2.2.2.2.2.1),cL a.2.2.2.2.2.2.2.2.2.2 a.2.2.2.2.2.2.2.1 a.2.2.2.1) else none else none
def aAc:eK:=⟨[.l [.i .i64],.l [.b],.l [.i .i64],.i,.i,.i,.i,.i,.i,.l [.i .i64,.i .i64,.i .i64,.i .i64,.i .i64],.l [.i .i64]],[.agg [.sl [.i .i64] [],.sl [.b] [],.sl [.i .i64] [],.own 0 false,.own 1 false],.int .i64 0,.agg [.int .i64 0,.int .i64 0,.int .i64 0,.int .i64 0,.int .i64 0]],[.arr [.i .i64,.i .i64,.i .i64,.i .i64,.i .i64] [],.arr [.i .i64] []],[.l [.i .i64,.i .i64,.i .i64,.i .i64,.i .i64],.l [.i .i64]],.tup [],[.arr [.i .i64,.i .i64,.i .i64,.i .i64,.i .i64] [],.arr [.i .i64] []],fun a=>bK a⟩
theorem XL:oT tab 288 aAc:=oT.of VH (wd:=false) (cx:=(wI aG [] [] [] [])) (pF.make trivial trivial trivial) (fun a=>by kernel_rfl)
def fD (c0:aE9) (s:aMk):Option (bO aMk aMb):=match s with |(a,b,d,e,f,g,h,i,j,k,l,m)=>bif decide (b<(Int.ofNat d.length)) then bif decide ((aA .i64 (b+1))<(Int.ofNat d.length)) then (aK d (aA .i64 (b+1))).bind fun a0=>(aK d b).bind fun a1=>(bR a0 a1).bind fun n2=>bif decide (n2<0) then (aK d (aA .i64 (b+1))).bind fun a3=>(bR a3 (i,j,k,l,m)).bind fun n4=>bif decide (0<=n4) then (bK (f,g,h,a,i,j,k,l,m,d,e)).bind fun a5=>bif a5.1.length==c0.2.2.2.2.2.2.2.2.2.1.length then bif a5.2.length==c0.2.2.2.2.2.2.2.2.2.2.length then some (.done (.done a5)) else none else none else (aK d (aA .i64 (b+1))).bind fun a6=>(bK (f,g,h,a,a6.1,a6.2.1,a6.2.2.1,a6.2.2.2.1,a6.2.2.2.2,d,e)).bind fun a7=>some (.next (aA .i64 (b+1),aA .i64 ((aA .i64 (2*(aA .i64 (b+1))))+1),a7.1,a7.2,(f,g,h,i,j,k,l,m))) else (aK d b).bind fun a8=>(bR a8 (i,j,k,l,m)).bind fun n9=>bif decide (0<=n9) then (bK (f,g,h,a,i,j,k,l,m,d,e)).bind fun a10=>bif a10.1.length==c0.2.2.2.2.2.2.2.2.2.1.length then bif a10.2.length==c0.2.2.2.2.2.2.2.2.2.2.length then some (.done (.done a10)) else none else none else (aK d b).bind fun a11=>(bK (f,g,h,a,a11.1,a11.2.1,a11.2.2.1,a11.2.2.2.1,a11.2.2.2.2,d,e)).bind fun a12=>some (.next (b,aA .i64 ((aA .i64 (2*b))+1),a12.1,a12.2,(f,g,h,i,j,k,l,m))) else (aK d b).bind fun a13=>(bR a13 (i,j,k,l,m)).bind fun n14=>bif decide (0<=n14) then (bK (f,g,h,a,i,j,k,l,m,d,e)).bind fun a15=>bif a15.1.length==c0.2.2.2.2.2.2.2.2.2.1.length then bif a15.2.length==c0.2.2.2.2.2.2.2.2.2.2.length then some (.done (.done a15)) else none else none else (aK d b).bind fun a16=>(bK (f,g,h,a,a16.1,a16.2.1,a16.2.2.1,a16.2.2.2.1,a16.2.2.2.2,d,e)).bind fun a17=>some (.next (b,aA .i64 ((aA .i64 (2*b))+1),a17.1,a17.2,(f,g,h,i,j,k,l,m))) else (bK (f,g,h,a,i,j,k,l,m,d,e)).bind fun a18=>bif a18.1.length==c0.2.2.2.2.2.2.2.2.2.1.length then bif a18.2.length==c0.2.2.2.2.2.2.2.2.2.2.length then some (.done (.done a18)) else none else none
def dN (c0:aE9) (s:aMa):Option aMb:=bif decide (0<s.1) then (aK s.2.1 (aA .i64 (Int.tdiv (aA .i64 (s.1-1)) 2))).bind fun a0=>(bR s.2.2.2.2.2.2 a0).bind fun n1=>bif decide (n1<0) then (aK s.2.1 (aA .i64 (Int.tdiv (aA .i64 (s.1-1)) 2))).bind fun a2=>(bK (s.2.2.2.1,s.2.2.2.2.1,s.2.2.2.2.2.1,s.1,a2.1,a2.2.1,a2.2.2.1,a2.2.2.2.1,a2.2.2.2.2,s.2.1,s.2.2.1)).bind fun a3=>some (.next (aA .i64 (Int.tdiv (aA .i64 (s.1-1)) 2),a3.1,a3.2,s.2.2.2)) else aE (fD c0) (s.1,aA .i64 ((aA .i64 (2*s.1))+1),s.2) else aE (fD c0) (s.1,aA .i64 ((aA .i64 (2*s.1))+1),s.2)
def fK (a:aE9):Option XG:=aE (dN a) (a.2.2.2.1,a.2.2.2.2.2.2.2.2.2.1,a.2.2.2.2.2.2.2.2.2.2,a.1,a.2.1,a.2.2.1,a.2.2.2.2.1,a.2.2.2.2.2.1,a.2.2.2.2.2.2.1,a.2.2.2.2.2.2.2.1,a.2.2.2.2.2.2.2.2.1)
def TM:eK:=⟨[.l [.i .i64],.l [.b],.l [.i .i64],.i,.i,.i,.i,.i,.i,.l [.i .i64,.i .i64,.i .i64,.i .i64,.i .i64],.l [.i .i64]],[.agg [.sl [.i .i64] [],.sl [.b] [],.sl [.i .i64] [],.own 0 false,.own 1 false],.int .i64 0,.agg [.int .i64 0,.int .i64 0,.int .i64 0,.int .i64 0,.int .i64 0]],[.arr [.i .i64,.i .i64,.i .i64,.i .i64,.i .i64] [],.arr [.i .i64] []],[.l [.i .i64,.i .i64,.i .i64,.i .i64,.i .i64],.l [.i .i64]],.tup [],[.arr [.i .i64,.i .i64,.i .i64,.i .i64,.i .i64] [],.arr [.i .i64] []],fun a=>fK a⟩
theorem MT:oT tab 271 TM:=oT.of VF (wd:=false) (cx:=(wI aG [(176,aFx)] [(288,TL),(288,aAc)] [] [])) (pF.make ⟨N9,trivial⟩ ⟨MS,XL,trivial⟩ trivial) (fun a=>by kernel_rfl)
def EX (p0:aO) (p1:Int×Int) (p2:Int×Int):Option (aO×Int):=(iU p0).bind fun n0=>(eM p2).bind fun n1=>bif (if n1>n0 then n1 else n0) !=0 then some (aO.mk (aW.mk [] [] []) [] [],if n1>n0 then n1 else n0) else (yA p0 p1).bind fun a2=>bif a2.2 !=0 then some (aO.mk (aW.mk [] [] []) [] [],a2.2) else (bQ p0.heap).bind fun l3=>(bQ p0.where_).bind fun l4=>(aK l3 a2.1).bind fun a5=>(fK (p0.slots.uses,p0.slots.used,p0.slots.free,a2.1,p2.1,p2.2,a5.2.2.1,a5.2.2.2.1,a5.2.2.2.2,l3,l4)).bind fun a6=>some (aO.mk p0.slots a6.1 a6.2,0)
def aM0:bN:=⟨aB.cons (aJ.agg gS) (aB.cons (aJ.agg (cJ.row jL)) (aB.one (aJ.agg (cJ.row jL)))),aJ.tup (aB.cons (aJ.agg gS) (aB.one (aJ.int .i64))),fun a=>EX a.1 a.2.1 a.2.2,.frz,false⟩
theorem aFS:aI tab 257 aM0:=aI.of aEN (cx:=(wI aG [(115,XI),(72,c72),(232,aK2),(195,bN.clone jE),(196,bN.clone ki)] [(271,OC),(271,TM)] [(270,XE)] [])) rfl (pF.make ⟨EU,xU,VS,tG,nW,trivial⟩ ⟨GE,MT,trivial⟩ ⟨N2,trivial⟩) (fun a=>by kernel_rfl)
def vP (p0:Int×Int×Int×Int×Int) (p1:Int):Option Bool:=some (p0.2.2.1==p1)
def aM1:bN:=⟨aB.cons (aJ.agg (cJ.row jE)) (aB.one (aJ.ref (cJ.int .i64))),aJ.bool,fun a=>vP a.1 a.2,.pure,false⟩
theorem aFT:aI tab 282 aM1:=Oc aE0 rfl aG [] trivial fun a=>by kernel_rfl
def bZ (s:((List (Int×Int×Int×Int×Int))×Int×Int×Int)):Option (bO ((List (Int×Int×Int×Int×Int))×Int×Int×Int) Int):=bif decide (s.2.2.2<s.2.2.1) then (aK s.1 s.2.2.2).bind fun a0=>(vP a0 s.2.1).bind fun b1=>bif b1 then some (.done s.2.2.2) else some (.next (s.1,s.2.1,s.2.2.1,aA .i64 (s.2.2.2+1))) else some (.done (-1))
def dO (p0:List (Int×Int×Int×Int×Int)) (p1:Int):Option Int:=aE bZ (p0,p1,Int.ofNat p0.length,0)
def QS:bN:=⟨aB.cons (aJ.sl jE) (aB.one (aJ.clo 282 (aB.one (aJ.ref (cJ.int .i64))))),aJ.int .i64,fun a=>dO a.1 a.2,.pure,false⟩
theorem QT:aI tab 291 QS:=Oc aE5 rfl aG [(282,aM1)] ⟨aFT,trivial⟩ fun a=>by kernel_rfl
def cA (p0:List (Int×Int×Int×Int×Int)) (p1:Int):Option Bool:=(dO p0 p1).bind fun n0=>some (decide (0<=n0))
def QU:bN:=⟨aB.cons (aJ.sl jE) (aB.one (aJ.clo 282 (aB.one (aJ.ref (cJ.int .i64))))),aJ.bool,fun a=>cA a.1 a.2,.pure,false⟩
theorem QV:aI tab 281 QU:=Oc aEZ rfl aG [(291,QS)] ⟨QT,trivial⟩ fun a=>by kernel_rfl
def tL (p0:List Int):Option ((List Int)×Int):=(iL p0 0 (aA .i64 ((Int.ofNat p0.length) -1))).bind fun l0=>(bQ l0).bind fun l1=>(aK p0 (aA .i64 ((Int.ofNat p0.length) -1))).bind fun n2=>some (l1,n2)
def aM2:bN:=⟨aB.one (aJ.sl ki),aJ.tup (aB.cons (aJ.sl ki) (aB.one (aJ.int .i64))),fun a=>tL a,.frz,false⟩
theorem aFU:aI tab 292 aM2:=Oc aE6 rfl aG [(293,bN.clone ki)] ⟨QH,trivial⟩ fun a=>by kernel_rfl
def BF (p0:aW):Option (aW×(Int×Int)×Int):=(pI p0).bind fun n0=>bif n0 !=0 then some (aW.mk [] [] [],(0,0),n0) else bif (Int.ofNat p0.free.length)==0 then some (aW.mk [] [] [],(0,0),18) else (tL p0.free).bind fun a1=>(aK p0.uses a1.2).bind fun n2=>bif n2==1000000 then some (aW.mk [] [] [],(0,0),18) else (bQ p0.uses).bind fun l3=>(bQ p0.used).bind fun l4=>(aK l4 a1.2).bind fun _=>(aK l3 a1.2).bind fun n6=>(aK l3 a1.2).bind fun _=>(aK (cL l3 a1.2 (aA .i64 (n6+1))) a1.2).bind fun n8=>some (aW.mk (cL l3 a1.2 (aA .i64 (n6+1))) (cL l4 a1.2 true) a1.1,(a1.2,n8),0)
def aM3:bN:=⟨aB.one (aJ.agg qC),aJ.tup (aB.cons (aJ.agg qC) (aB.cons (aJ.agg (cJ.row jL)) (aB.one (aJ.int .i64)))),fun a=>BF a,.frz,false⟩
theorem aFV:aI tab 283 aM3:=aI.of aE1 (cx:=(wI aG [(175,aFr),(292,aM2),(196,bN.clone ki),(197,bN.clone kb)] [] [(286,ZZ)] [])) rfl (pF.make ⟨N8,aFU,nW,tF,trivial⟩ trivial ⟨VG,trivial⟩) (fun a=>by kernel_rfl)
def kG (p0:aO) (p1:Int×Int) (p2:Int):Option (aO×(Int×Int)×Int):=(iU p0).bind fun n0=>(eM p1).bind fun n1=>bif (if n1>n0 then n1 else n0) !=0 then some (aO.mk (aW.mk [] [] []) [] [],(0,0),if n1>n0 then n1 else n0) else bif decide (p2<0) then some (aO.mk (aW.mk [] [] []) [] [],(0,0),2) else bif decide (1000000<p2) then some (aO.mk (aW.mk [] [] []) [] [],(0,0),2) else (cA p0.heap p2).bind fun b2=>bif b2 then some (aO.mk (aW.mk [] [] []) [] [],(0,0),14) else (BF p0.slots).bind fun a3=>bif a3.2.2 !=0 then some (aO.mk (aW.mk [] [] []) [] [],(0,0),a3.2.2) else (bQ p0.heap).bind fun l4=>(bQ p0.where_).bind fun l5=>(aY l4 [(p1.1,p1.2,p2,a3.2.1)]).bind fun l6=>(fK (a3.1.uses,a3.1.used,a3.1.free,aA .i64 ((Int.ofNat l6.length) -1),p1.1,p1.2,p2,a3.2.1.1,a3.2.1.2,l6,l5)).bind fun a7=>some (aO.mk a3.1 a7.1 a7.2,a3.2.1,0)
def aK5:bN:=⟨aB.cons (aJ.agg gS) (aB.cons (aJ.agg (cJ.row jL)) (aB.one (aJ.int .i64))),aJ.tup (aB.cons (aJ.agg gS) (aB.cons (aJ.agg (cJ.row jL)) (aB.one (aJ.int .i64)))),fun a=>kG a.1 a.2.1 a.2.2,.frz,false⟩
theorem VV:aI tab 258 aK5:=aI.of aEO (cx:=(wI aG [(115,XI),(72,c72),(281,QU),(283,aM3),(195,bN.clone jE),(196,bN.clone ki)] [(271,OC),(271,TM)] [(270,XE)] [])) rfl (pF.make ⟨EU,xU,QV,aFV,tG,nW,trivial⟩ ⟨GE,MT,trivial⟩ ⟨N2,trivial⟩) (fun a=>by kernel_rfl)
def KI (s:Zt3):Option (bO Zt3 Zt5):=match s with |(a,b,d,e,f,g,h,i,j,k,l,m,n,o,q,r,t,u,v,w,x,y,z,A,B,C,D,E,F)=>bif decide (d<b) then (aK a d).bind fun a0=>(pK (Field.mk q) a0.2 (e,f)).bind fun a1=>(AI o a0.1).bind fun a2=>bif a1.2.1 then bif a2.2 then (aK o a2.1).bind fun a3=>(EX (aO.mk (aW.mk z A B) C D) a3.2 a1.1).bind fun a4=>(aK o a2.1).bind fun a5=>(aY F [a5]).bind fun l6=>bif a4.2 !=0 then some (.done (.done (jF,a4.2))) else some (.next (a,b,aA .i64 (d+1),e,f,g,h,i,j,k,l,m,n,o,q,r,t,u,v,w,x,y,a4.1.slots.uses,a4.1.slots.used,a4.1.slots.free,a4.1.heap,a4.1.where_,E,l6)) else bif a1.2.1 then (kG (aO.mk (aW.mk z A B) C D) a1.1 a0.1).bind fun a7=>(aY F [(a0.1,a7.2.1)]).bind fun l8=>bif a7.2.2 !=0 then some (.done (.done (jF,a7.2.2))) else some (.next (a,b,aA .i64 (d+1),e,f,g,h,i,j,k,l,m,n,o,q,r,t,u,v,w,x,y,a7.1.slots.uses,a7.1.slots.used,a7.1.slots.free,a7.1.heap,a7.1.where_,E,l8)) else bif a2.2 then (aK o a2.1).bind fun a9=>(qI (aO.mk (aW.mk z A B) C D) a9.2).bind fun a10=>bif a10.2.2 !=0 then some (.done (.done (jF,a10.2.2))) else some (.next (a,b,aA .i64 (d+1),e,f,g,h,i,j,k,l,m,n,o,q,r,t,u,v,w,x,y,a10.1.slots.uses,a10.1.slots.used,a10.1.slots.free,a10.1.heap,a10.1.where_,(E,F))) else bif a1.2.2 !=0 then some (.done (.done (jF,a1.2.2))) else some (.next (a,b,aA .i64 (d+1),(e,f,g,h,i,j,k,l,m,n,o,q,r,t,u,v,w,x,y,z,A,B,C,D,E,F))) else bif a1.2.1 then (kG (aO.mk (aW.mk z A B) C D) a1.1 a0.1).bind fun a11=>(aY F [(a0.1,a11.2.1)]).bind fun l12=>bif a11.2.2 !=0 then some (.done (.done (jF,a11.2.2))) else some (.next (a,b,aA .i64 (d+1),e,f,g,h,i,j,k,l,m,n,o,q,r,t,u,v,w,x,y,a11.1.slots.uses,a11.1.slots.used,a11.1.slots.free,a11.1.heap,a11.1.where_,E,l12)) else bif a2.2 then (aK o a2.1).bind fun a13=>(qI (aO.mk (aW.mk z A B) C D) a13.2).bind fun a14=>bif a14.2.2 !=0 then some (.done (.done (jF,a14.2.2))) else some (.next (a,b,aA .i64 (d+1),e,f,g,h,i,j,k,l,m,n,o,q,r,t,u,v,w,x,y,a14.1.slots.uses,a14.1.slots.used,a14.1.slots.free,a14.1.heap,a14.1.where_,(E,F))) else bif a1.2.2 !=0 then some (.done (.done (jF,a1.2.2))) else some (.next (a,b,aA .i64 (d+1),(e,f,g,h,i,j,k,l,m,n,o,q,r,t,u,v,w,x,y,z,A,B,C,D,E,F))) else some (.done (.done (aR.mk (v,w) (Field.mk E) (aZ.mk x y) (aO.mk (aW.mk z A B) C D) F,0)))
def KJ (s:aL3):Option Zt5:=match s with |(a,b,d,e,f,g,h,i,j,k,l,m,n,o,q,r,t,u)=>bif decide (d<b) then (aK a d).bind fun a0=>(iV (Field.mk q) a0.2.1).bind fun a1=>bif decide (a1.1<0) then some (.done (jF,6)) else (iV (Field.mk q) a0.2.2).bind fun a2=>bif decide (a2.1<0) then some (.done (jF,6)) else some (.next (a,b,aA .i64 (d+1),(e,f,g,h,i,j,k,l,m,n,o,q,r,t,u))) else (kL (aR.mk (e,f) (Field.mk g) (aZ.mk h i) (aO.mk (aW.mk j k l) m n) o)).bind fun r3=>(bQ q).bind fun l4=>aE KI (i,Int.ofNat i.length,0,e,f,g,h,i,j,k,l,m,n,o,q,r,t,u,r3.now.1,r3.now.2,r3.certs.next_,r3.certs.list,r3.agenda.slots.uses,r3.agenda.slots.used,r3.agenda.slots.free,r3.agenda.heap,r3.agenda.where_,l4,[])
def HB (p0:aR) (p1:Field):Option (aR×Int):=(fZ p0).bind fun n0=>bif n0 !=0 then some (jF,n0) else (hH p1).bind fun n1=>bif n1 !=0 then some (jF,n1) else aE KJ (p0.certs.list,Int.ofNat p0.certs.list.length,0,p0.now.1,p0.now.2,p0.field.points,p0.certs.next_,p0.certs.list,p0.agenda.slots.uses,p0.agenda.slots.used,p0.agenda.slots.free,p0.agenda.heap,p0.agenda.where_,p0.due,p1.points,0,0,0)
def aM4:bN:=⟨aB.cons (aJ.agg cW) (aB.one (aJ.agg dB)),aJ.tup (aB.cons (aJ.agg cW) (aB.one (aJ.int .i64))),fun a=>HB a.1 a.2,.frz,false⟩
theorem aFW:aI tab 213 aM4:=Oc aEu rfl aG [(62,c62),(85,c85),(178,aFz),(136,aAa),(136,QP),(89,bN.clone eL),(116,aFE),(190,aK0),(257,aM0),(258,aK5),(191,aK3)] ⟨GD,KE,OA,IG,EV,BC,OB,VP,aFS,VV,VT,trivial⟩ fun a=>by kernel_rfl
def CE (p0:Int×Int×Int) (p1:Int×Int):Option Bool:=some ((p0.2.1==p1.1)&&(p0.2.2==p1.2))
def aM5:bN:=⟨aB.cons (aJ.agg (cJ.row eL)) (aB.one (aJ.ref (cJ.row jL))),aJ.bool,fun a=>CE a.1 a.2,.pure,false⟩
theorem aFX:aI tab 215 aM5:=Oc aEv rfl aG [] trivial fun a=>by kernel_rfl
def lG (s:N3):Option (bO N3 Int):=bif decide (s.2.2.2.2<s.2.2.2.1) then (aK s.1 s.2.2.2.2).bind fun a0=>(CE a0 (s.2.1,s.2.2.1)).bind fun b1=>bif b1 then some (.done s.2.2.2.2) else some (.next (s.1,s.2.1,s.2.2.1,s.2.2.2.1,aA .i64 (s.2.2.2.2+1))) else some (.done (-1))
def gT (p0:List (Int×Int×Int)) (p1:(Int×Int)):Option Int:=aE lG (p0,p1.1,p1.2,Int.ofNat p0.length,0)
def QW:bN:=⟨aB.cons (aJ.sl eL) (aB.one (aJ.clo 215 (aB.one (aJ.ref (cJ.row jL))))),aJ.int .i64,fun a=>gT a.1 a.2,.pure,false⟩
theorem QX:aI tab 259 QW:=Oc VE rfl aG [(215,aM5)] ⟨aFX,trivial⟩ fun a=>by kernel_rfl
def dE (p0:List (Int×Int×Int)) (p1:(Int×Int)):Option Bool:=(gT p0 p1).bind fun n0=>some (decide (0<=n0))
def QY:bN:=⟨aB.cons (aJ.sl eL) (aB.one (aJ.clo 215 (aB.one (aJ.ref (cJ.row jL))))),aJ.bool,fun a=>dE a.1 a.2,.pure,false⟩
theorem QZ:aI tab 214 QY:=Oc VD rfl aG [(259,QW)] ⟨QX,trivial⟩ fun a=>by kernel_rfl
def cQ (p0:Int):Option (aR×Int×Int):=some (jF,0,p0)
def aM6:bN:=⟨aB.one (aJ.int .i64),aJ.tup (aB.cons (aJ.agg cW) (aB.cons (aJ.int .i64) (aB.one (aJ.int .i64)))),fun a=>cQ a,.frz,false⟩
theorem aFY:aI tab 260 aM6:=Oc aEP rfl aG [] trivial fun a=>by kernel_rfl
def DJ (p0:Int×Int×Int) (p1:Int×Int):Option Bool:=some ((p0.2.1==p1.1)&&(p0.2.2==p1.2))
def aM7:bN:=⟨aB.cons (aJ.agg (cJ.row eL)) (aB.one (aJ.ref (cJ.row jL))),aJ.bool,fun a=>DJ a.1 a.2,.pure,false⟩
theorem aFZ:aI tab 284 aM7:=Oc aE2 rfl aG [] trivial fun a=>by kernel_rfl
def cP (s:N3):Option (bO N3 Int):=bif decide (s.2.2.2.2<s.2.2.2.1) then (aK s.1 s.2.2.2.2).bind fun a0=>(DJ a0 (s.2.1,s.2.2.1)).bind fun b1=>bif b1 then some (.done s.2.2.2.2) else some (.next (s.1,s.2.1,s.2.2.1,s.2.2.2.1,aA .i64 (s.2.2.2.2+1))) else some (.done (-1))
def eW (p0:List (Int×Int×Int)) (p1:(Int×Int)):Option Int:=aE cP (p0,p1.1,p1.2,Int.ofNat p0.length,0)
def Q0:bN:=⟨aB.cons (aJ.sl eL) (aB.one (aJ.clo 284 (aB.one (aJ.ref (cJ.row jL))))),aJ.int .i64,fun a=>eW a.1 a.2,.pure,false⟩
theorem Q1:aI tab 259 Q0:=Oc VE rfl aG [(284,aM7)] ⟨aFZ,trivial⟩ fun a=>by kernel_rfl
def bS (p0:List (Int×Int×Int)) (p1:(Int×Int)):Option Bool:=(eW p0 p1).bind fun n0=>some (decide (0<=n0))
def Q2:bN:=⟨aB.cons (aJ.sl eL) (aB.one (aJ.clo 284 (aB.one (aJ.ref (cJ.row jL))))),aJ.bool,fun a=>bS a.1 a.2,.pure,false⟩
theorem Q3:aI tab 214 Q2:=Oc VD rfl aG [(259,Q0)] ⟨Q1,trivial⟩ fun a=>by kernel_rfl
def EY (p0:aZ) (p1:Int×Int):Option (aZ×Int×Int):=(pH p0).bind fun n0=>bif n0 !=0 then some (aZ.mk 0 [],0,n0) else (tI p1).bind fun b1=>bif !b1 then some (aZ.mk 0 [],0,8) else (bS p0.list p1).bind fun b2=>bif b2 then some (aZ.mk 0 [],0,14) else bif (Int.ofNat p0.list.length)==200 then some (aZ.mk 0 [],0,18) else bif p0.next_==1000000 then some (aZ.mk 0 [],0,18) else (bQ p0.list).bind fun l3=>(aY l3 [(p0.next_,p1)]).bind fun l4=>some (aZ.mk (aA .i64 (p0.next_+1)) l4,p0.next_,0)
def aM8:bN:=⟨aB.cons (aJ.agg qD) (aB.one (aJ.agg (cJ.row jL))),aJ.tup (aB.cons (aJ.agg qD) (aB.cons (aJ.int .i64) (aB.one (aJ.int .i64)))),fun a=>EY a.1 a.2,.frz,false⟩
theorem aF0:aI tab 261 aM8:=Oc aEQ rfl aG [(114,aFo),(174,aKW),(214,Q2),(193,bN.clone eL)] ⟨N7,VO,Q3,wL,trivial⟩ fun a=>by kernel_rfl
def hJ (p0:aR) (p1:Int×Int):Option (aR×Int×Int):=(fZ p0).bind fun n0=>bif n0 !=0 then (cQ n0).bind fun a1=>some a1 else (EY p0.certs p1).bind fun a2=>bif a2.2.2==8 then (cQ a2.2.2).bind fun a3=>some a3 else (iV p0.field p1.1).bind fun a4=>bif decide (a4.1<0) then (cQ 6).bind fun a5=>some a5 else (iV p0.field p1.2).bind fun a6=>bif decide (a6.1<0) then (cQ 6).bind fun a7=>some a7 else bif a2.2.2 !=0 then (cQ a2.2.2).bind fun a8=>some a8 else (kL p0).bind fun r9=>(pK p0.field p1 p0.now).bind fun a10=>bif a10.2.2 !=0 then (cQ a10.2.2).bind fun a11=>some a11 else bif a10.2.1 then (kG p0.agenda a10.1 a2.2.1).bind fun a12=>bif a12.2.2 !=0 then (cQ a12.2.2).bind fun a13=>some a13 else (aY r9.due [(a2.2.1,a12.2.1)]).bind fun l14=>some (aR.mk r9.now r9.field a2.1 a12.1 l14,a2.2.1,0) else some (aR.mk r9.now r9.field a2.1 r9.agenda r9.due,a2.2.1,0)
def aM9:bN:=⟨aB.cons (aJ.agg cW) (aB.one (aJ.agg (cJ.row jL))),aJ.tup (aB.cons (aJ.agg cW) (aB.cons (aJ.int .i64) (aB.one (aJ.int .i64)))),fun a=>hJ a.1 a.2,.frz,false⟩
theorem aF1:aI tab 216 aM9:=Oc aEw rfl aG [(62,c62),(260,aM6),(261,aM8),(178,aFz),(136,aAa),(136,QP),(116,aFE),(258,aK5)] ⟨GD,aFY,aF0,OA,IG,EV,OB,VV,trivial⟩ fun a=>by kernel_rfl
def dW (s:Zt9):Option (bO Zt9 Zt4):=match s with |(a,b,d,e,f,g,h,i,j,k,l,m,n,o,q,r,t)=>bif decide (d<b) then (aK a d).bind fun a0=>(dE i a0).bind fun b1=>bif b1 then some (.next (a,b,aA .i64 (d+1),(e,f,g,h,i,j,k,l,m,n,o,q,r,t))) else (hJ (aR.mk (e,f) (Field.mk g) (aZ.mk h i) (aO.mk (aW.mk j k l) m n) o) a0).bind fun a2=>bif a2.2.2 !=0 then some (.done (.done (jF,a2.2.2))) else some (.next (a,b,aA .i64 (d+1),a2.1.now.1,a2.1.now.2,a2.1.field.points,a2.1.certs.next_,a2.1.certs.list,a2.1.agenda.slots.uses,a2.1.agenda.slots.used,a2.1.agenda.slots.free,a2.1.agenda.heap,a2.1.agenda.where_,a2.1.due,(q,r,t))) else some (.done (.done (aR.mk (e,f) (Field.mk g) (aZ.mk h i) (aO.mk (aW.mk j k l) m n) o,0)))
def tM (s:aL2):Option Zt4:=match s with |(a,b,d,e,f,g,h,i,j,k,l,m,n,o,q,r,t,u,v)=>bif decide (e<d) then (aK b e).bind fun a0=>(eN a a0.2).bind fun b1=>bif !b1 then (EW (aR.mk (f,g) (Field.mk h) (aZ.mk i j) (aO.mk (aW.mk k l m) n o) q) a0.1).bind fun a2=>some (.next (a,b,d,aA .i64 (e+1),a2.1.now.1,a2.1.now.2,a2.1.field.points,a2.1.certs.next_,a2.1.certs.list,a2.1.agenda.slots.uses,a2.1.agenda.slots.used,a2.1.agenda.slots.free,a2.1.agenda.heap,a2.1.agenda.where_,a2.1.due,(r,t,u,v))) else some (.next (a,b,d,aA .i64 (e+1),(f,g,h,i,j,k,l,m,n,o,q,r,t,u,v))) else (kM h r).bind fun b3=>bif !b3 then (HB (aR.mk (f,g) (Field.mk h) (aZ.mk i j) (aO.mk (aW.mk k l m) n o) q) (Field.mk r)).bind fun a4=>bif a4.2 !=0 then some (.done (jF,a4.2)) else aE dW (a,Int.ofNat a.length,0,a4.1.now.1,a4.1.now.2,a4.1.field.points,a4.1.certs.next_,a4.1.certs.list,a4.1.agenda.slots.uses,a4.1.agenda.slots.used,a4.1.agenda.slots.free,a4.1.agenda.heap,a4.1.agenda.where_,a4.1.due,(t,u,v)) else aE dW (a,Int.ofNat a.length,0,f,g,h,i,j,k,l,m,n,o,q,(t,u,v))
def rG (p0:aR) (p1:Field) (p2:List (Int×Int)):Option (aR×Int):=aE tM (p2,p0.certs.list,Int.ofNat p0.certs.list.length,0,p0.now.1,p0.now.2,p0.field.points,p0.certs.next_,p0.certs.list,p0.agenda.slots.uses,p0.agenda.slots.used,p0.agenda.slots.free,p0.agenda.heap,p0.agenda.where_,p0.due,p1.points,0,0,0)
def aNa:bN:=⟨aB.cons (aJ.agg cW) (aB.cons (aJ.agg dB) (aB.one (aJ.sl jL))),aJ.tup (aB.cons (aJ.agg cW) (aB.one (aJ.int .i64))),fun a=>rG a.1 a.2.1 a.2.2,.frz,false⟩
theorem aF2:aI tab 167 aNa:=Oc aDX rfl aG [(64,c64),(211,aMY),(212,aMZ),(213,aM4),(214,QY),(216,aM9)] ⟨TK,aFQ,aFR,aFW,QZ,aF1,trivial⟩ fun a=>by kernel_rfl
def dX (s:XF):Option (bO XF Zt2):=match s with |(a,b,d,e,f,g,h,i,j,k,l,m,n,o,q,r,t,u,v)=>bif decide (e<d) then (aK b e).bind fun a0=>(tJ (Field.mk r) a0.1).bind fun a1=>(tJ (Field.mk r) a0.2).bind fun a2=>bif a1.2 !=0 then some (.done (.done (.done (jF,6)))) else bif a2.2 !=0 then some (.done (.done (.done (jF,6)))) else some (.next (a,b,d,aA .i64 (e+1),(f,g,h,i,j,k,l,m,n,o,q,r,t,u,v))) else (tK (aR.mk (f,g) (Field.mk h) (aZ.mk i j) (aO.mk (aW.mk k l m) n o) q)).bind fun r3=>(rG r3 (Field.mk r) a).bind fun a4=>some (.done (.done (.done a4)))
def dH (s:XF):Option Zt2:=bif decide (s.2.2.2.1<s.2.2.1) then (aK s.2.1 s.2.2.2.1).bind fun a0=>(iL s.1 0 s.2.2.2.1).bind fun l1=>(eN l1 a0).bind fun b2=>bif b2 then some (.done (.done (jF,14))) else some (.next (s.1,s.2.1,s.2.2.1,aA .i64 (s.2.2.2.1+1),s.2.2.2.2)) else aE dX (s.1,s.1,Int.ofNat s.1.length,0,s.2.2.2.2)
def dI (s:XF):Option aL1:=bif decide (s.2.2.2.1<s.2.2.1) then (aK s.2.1 s.2.2.2.1).bind fun a0=>bif decide (a0.1<0) then some (.done (jF,8)) else bif decide (a0.2<0) then some (.done (jF,8)) else bif decide (65535<a0.1) then some (.done (jF,8)) else bif decide (65535<a0.2) then some (.done (jF,8)) else bif a0.1==a0.2 then some (.done (jF,8)) else some (.next (s.1,s.2.1,s.2.2.1,aA .i64 (s.2.2.2.1+1),s.2.2.2.2)) else aE dH (s.1,s.1,Int.ofNat s.1.length,0,s.2.2.2.2)
def nJ (p0:aR) (p1:Field) (p2:List (Int×Int)):Option (aR×Int):=(fZ p0).bind fun n0=>bif n0 !=0 then some (jF,n0) else (hH p1).bind fun n1=>bif n1 !=0 then some (jF,n1) else aE dI (p2,p2,Int.ofNat p2.length,0,p0.now.1,p0.now.2,p0.field.points,p0.certs.next_,p0.certs.list,p0.agenda.slots.uses,p0.agenda.slots.used,p0.agenda.slots.free,p0.agenda.heap,p0.agenda.where_,p0.due,p1.points,0,0,0)
def aNb:bN:=⟨aB.cons (aJ.agg cW) (aB.cons (aJ.agg dB) (aB.one (aJ.sl jL))),aJ.tup (aB.cons (aJ.agg cW) (aB.one (aJ.int .i64))),fun a=>nJ a.1 a.2.1 a.2.2,.frz,false⟩
theorem aF3:aI tab 106 aNb:=Oc aDs rfl aG [(62,c62),(85,c85),(64,c64),(166,aMP),(168,aMQ),(168,aHi),(167,aNa)] ⟨GD,KE,TK,aFH,aFI,Z8,aF2,trivial⟩ fun a=>by kernel_rfl
def oE (p0:aR) (p1:Field):Option (dT×Int):=(lR p1 p0.now).bind fun a0=>(nJ p0 p1 a0.2).bind fun a1=>bif a1.2 !=0 then some (dT.mk jF [],a1.2) else some (dT.mk a1.1 a0.1,0)
def c54:bN:=⟨aB.cons (aJ.agg cW) (aB.one (aJ.agg dB)),aJ.tup (aB.cons (aJ.agg tD) (aB.one (aJ.int .i64))),fun a=>oE a.1 a.2,.frz,false⟩
theorem aAd:aI tab 54 c54:=Oc aKj rfl aG [(57,c57),(106,aNb)] ⟨TI,aF3,trivial⟩ fun a=>by kernel_rfl
def oF (p0:Field) (p1:Int×Int):Option (dT×Int):=(BD p0 p1).bind fun a0=>bif a0.2 !=0 then some (dT.mk jF [],a0.2) else (oE a0.1 p0).bind fun a1=>some a1
def c12:bN:=⟨aB.cons (aJ.agg dB) (aB.one (aJ.agg (cJ.row jL))),aJ.tup (aB.cons (aJ.agg tD) (aB.one (aJ.int .i64))),fun a=>oF a.1 a.2,.frz,false⟩
theorem aAe:aI tab 12 c12:=Oc aJ4 rfl aG [(53,c53),(54,c54)] ⟨aKR,aAd,trivial⟩ fun a=>by kernel_rfl
def BV (s:((List Int)×(List Int)×Int×Int)):Option (bO ((List Int)×(List Int)×Int×Int) Bool):=bif decide (s.2.2.2<s.2.2.1) then (aK s.1 s.2.2.2).bind fun n0=>(aK s.2.1 s.2.2.2).bind fun n1=>bif n0 !=n1 then some (.done false) else some (.next (s.1,s.2.1,s.2.2.1,aA .i64 (s.2.2.2+1))) else some (.done true)
def wN (p0:List Int) (p1:List Int):Option Bool:=bif (Int.ofNat p0.length) !=(Int.ofNat p1.length) then some false else aE BV (p0,p1,Int.ofNat p0.length,0)
def c63:bN:=⟨aB.cons (aJ.sl ki) (aB.one (aJ.sl ki)),aJ.bool,fun a=>wN a.1 a.2,.pure,false⟩
theorem aK6:aI tab 63 c63:=Oc aKp rfl aG [] trivial fun a=>by kernel_rfl
def HV (s:(gY×(List (Int×Int×Int))×Int×Int)):Option (bO (gY×(List (Int×Int×Int))×Int×Int) Int):=bif decide (s.2.2.2<s.2.2.1) then (aK s.2.1 s.2.2.2).bind fun a0=>(eN s.1 a0.2).bind fun b1=>bif !b1 then some (.done 8) else some (.next (s.1,s.2.1,s.2.2.1,aA .i64 (s.2.2.2+1))) else some (.done 0)
def yD (p0:dT):Option Int:=(fZ p0.clock).bind fun n0=>bif n0 !=0 then some 8 else (lR p0.clock.field p0.clock.now).bind fun a1=>(wN a1.1 p0.up).bind fun b2=>bif !b2 then some 8 else bif (Int.ofNat a1.2.length) !=(Int.ofNat p0.clock.certs.list.length) then some 8 else aE HV (a1.2,p0.clock.certs.list,Int.ofNat p0.clock.certs.list.length,0)
def c19:bN:=⟨aB.one (aJ.agg tD),aJ.int .i64,fun a=>yD a,.pure,false⟩
theorem aAf:aI tab 19 c19:=Oc aJ6 rfl aG [(62,c62),(57,c57),(63,c63),(64,c64)] ⟨GD,TI,aK6,TK,trivial⟩ fun a=>by kernel_rfl
def KK (p0:aO):Option ((Int×Int×Int×Int×Int)×Int):=(iU p0).bind fun n0=>bif n0 !=0 then some ((0,0,0,0,0),n0) else bif (Int.ofNat p0.heap.length)==0 then some ((0,0,0,0,0),42) else (aK p0.heap 0).bind fun a1=>some (a1,0)
def aNc:bN:=⟨aB.one (aJ.agg gS),aJ.tup (aB.cons (aJ.agg (cJ.row jE)) (aB.one (aJ.int .i64))),fun a=>KK a,.pure,false⟩
theorem aF4:aI tab 188 aNc:=Oc aEb rfl aG [(115,XI)] ⟨EU,trivial⟩ fun a=>by kernel_rfl
def AJ (p0:aR) (p1:Int×Int):Option (Bool×Int):=(fZ p0).bind fun n0=>(eM p1).bind fun n1=>bif (if n1>n0 then n1 else n0) !=0 then some (false,if n1>n0 then n1 else n0) else (pJ p1 p0.now).bind fun a2=>bif decide (a2.1<0) then some (false,44) else (KK p0.agenda).bind fun a3=>bif a3.2 !=0 then some (false,0) else (pJ (a3.1.1,a3.1.2.1) p1).bind fun a4=>some (decide (a4.1<=0),0)
def aK7:bN:=⟨aB.cons (aJ.agg cW) (aB.one (aJ.agg (cJ.row jL))),aJ.tup (aB.cons aJ.bool (aB.one (aJ.int .i64))),fun a=>AJ a.1 a.2,.pure,false⟩
theorem VW:aI tab 134 aK7:=Oc aDM rfl aG [(62,c62),(72,c72),(73,c73),(188,aNc)] ⟨GD,xU,TJ,aF4,trivial⟩ fun a=>by kernel_rfl
def KL (p0:aR) (p1:Int×Int):Option (aR×(Int×Int×Int×Int×Int)×(Int×Int)×Int):=(AJ p0 p1).bind fun a0=>bif a0.2==0 then bif !a0.1 then some (jF,(0,0,0,0,0),(0,0),6) else bif a0.2 !=0 then some (jF,(0,0,0,0,0),(0,0),a0.2) else (aK p0.agenda.heap 0).bind fun a1=>(yC p0 a1.2.2.1).bind fun a2=>bif a2.2.2 !=0 then some (jF,(0,0,0,0,0),(0,0),a2.2.2) else some (aR.mk (a1.1,a1.2.1) a2.1.field a2.1.certs a2.1.agenda a2.1.due,a1,a2.2.1,0) else bif a0.2 !=0 then some (jF,(0,0,0,0,0),(0,0),a0.2) else (aK p0.agenda.heap 0).bind fun a3=>(yC p0 a3.2.2.1).bind fun a4=>bif a4.2.2 !=0 then some (jF,(0,0,0,0,0),(0,0),a4.2.2) else some (aR.mk (a3.1,a3.2.1) a4.1.field a4.1.certs a4.1.agenda a4.1.due,a3,a4.2.1,0)
def c74:bN:=⟨aB.cons (aJ.agg cW) (aB.one (aJ.agg (cJ.row jL))),aJ.tup (aB.cons (aJ.agg cW) (aB.cons (aJ.agg (cJ.row jE)) (aB.cons (aJ.agg (cJ.row jL)) (aB.one (aJ.int .i64))))),fun a=>KL a.1 a.2,.frz,false⟩
theorem aK8:aI tab 74 c74:=Oc aKz rfl aG [(134,aK7),(135,aK4)] ⟨VW,VU,trivial⟩ fun a=>by kernel_rfl
def KM (p0:aR) (p1:Int×Int):Option (aR×Int):=(AJ p0 p1).bind fun a0=>bif a0.2==0 then bif a0.1 then some (jF,36) else bif a0.2 !=0 then some (jF,a0.2) else (kL p0).bind fun r1=>some (aR.mk p1 r1.field r1.certs r1.agenda r1.due,0) else bif a0.2 !=0 then some (jF,a0.2) else (kL p0).bind fun r2=>some (aR.mk p1 r2.field r2.certs r2.agenda r2.due,0)
def c75:bN:=⟨aB.cons (aJ.agg cW) (aB.one (aJ.agg (cJ.row jL))),aJ.tup (aB.cons (aJ.agg cW) (aB.one (aJ.int .i64))),fun a=>KM a.1 a.2,.frz,false⟩
theorem aK9:aI tab 75 c75:=Oc aKA rfl aG [(134,aK7),(136,aAa),(136,QP)] ⟨VW,IG,EV,trivial⟩ fun a=>by kernel_rfl
def EZ (s:Zt8):Option (bO Zt8 (dT×gY×Int)):=match s with |(a,b,d,e,f,g,h,i,j,k,l,_,n,o,q,r,t,u)=>(KL (aR.mk (a,b) (Field.mk d) (aZ.mk e f) (aO.mk (aW.mk g h i) j k) l) (n,o)).bind fun a0=>bif a0.2.2.2 !=0 then (KM (aR.mk (a,b) (Field.mk d) (aZ.mk e f) (aO.mk (aW.mk g h i) j k) l) (n,o)).bind fun a1=>(lR a1.1.field (n,o)).bind fun a2=>some (.done (dT.mk a1.1 a2.1,u,0)) else (oE a0.1 a0.1.field).bind fun a3=>bif a3.2 !=0 then some (.done (dT.mk jF [],[],a3.2)) else (aY u [a0.2.2.1]).bind fun l4=>some (.next (a3.1.clock.now.1,a3.1.clock.now.2,a3.1.clock.field.points,a3.1.clock.certs.next_,a3.1.clock.certs.list,a3.1.clock.agenda.slots.uses,a3.1.clock.agenda.slots.used,a3.1.clock.agenda.slots.free,a3.1.clock.agenda.heap,a3.1.clock.agenda.where_,a3.1.clock.due,a3.1.up,n,o,q,r,t,l4))
def AL (p0:dT) (p1:Int×Int):Option (dT×gY×Int):=(yD p0).bind fun n0=>bif n0 !=0 then some (dT.mk jF [],[],n0) else (eM p1).bind fun n1=>bif n1 !=0 then some (dT.mk jF [],[],8) else (pJ p1 p0.clock.now).bind fun a2=>bif decide (a2.1<0) then some (dT.mk jF [],[],44) else aE EZ (p0.clock.now.1,p0.clock.now.2,p0.clock.field.points,p0.clock.certs.next_,p0.clock.certs.list,p0.clock.agenda.slots.uses,p0.clock.agenda.slots.used,p0.clock.agenda.slots.free,p0.clock.agenda.heap,p0.clock.agenda.where_,p0.clock.due,p0.up,p1.1,p1.2,0,0,0,[])
def c28:bN:=⟨aB.cons (aJ.agg tD) (aB.one (aJ.agg (cJ.row jL))),aJ.tup (aB.cons (aJ.agg tD) (aB.cons (aJ.sl jL) (aB.one (aJ.int .i64)))),fun a=>AL a.1 a.2,.frz,false⟩
theorem aLa:aI tab 28 c28:=Oc aKd rfl aG [(19,c19),(72,c72),(73,c73),(74,c74),(54,c54),(75,c75),(57,c57)] ⟨aAf,xU,TJ,aK8,aAd,aK9,TI,trivial⟩ fun a=>by kernel_rfl
def BW (s:((List Int)×Int×Int×Int)):Option (bO ((List Int)×Int×Int×Int) Int):=bif decide (s.2.2.2<s.2.2.1) then (aK s.1 s.2.2.2).bind fun n0=>bif s.2.1==n0 then some (.done s.2.2.2) else some (.next (s.1,s.2.1,s.2.2.1,aA .i64 (s.2.2.2+1))) else some (.done (-1))
def wO (p0:List Int) (p1:Int):Option Int:=aE BW (p0,p1,Int.ofNat p0.length,0)
def c59:bN:=⟨aB.cons (aJ.sl ki) (aB.one (aJ.int .i64)),aJ.int .i64,fun a=>wO a.1 a.2,.pure,false⟩
theorem aLb:aI tab 59 c59:=Oc aKm rfl aG [] trivial fun a=>by kernel_rfl
def CF (p0:dT):Option (Int×Int):=(yD p0).bind fun n0=>bif n0 !=0 then some (0,n0) else (wO p0.up (-1)).bind fun n1=>bif decide (n1<0) then some (0,42) else (aK p0.clock.field.points n1).bind fun a2=>some (a2.1,0)
def c16:bN:=⟨aB.one (aJ.agg tD),aJ.tup (aB.cons (aJ.int .i64) (aB.one (aJ.int .i64))),fun a=>CF a,.pure,false⟩
theorem aLc:aI tab 16 c16:=Oc aJ5 rfl aG [(19,c19),(59,c59)] ⟨aAf,aLb,trivial⟩ fun a=>by kernel_rfl
def mB (s:((List Int)×(List Int)×Int)):Option (bO ((List Int)×(List Int)×Int) Bool):=bif decide (s.2.2<(Int.ofNat s.1.length)) then (aK s.1 s.2.2).bind fun n0=>(aK s.2.1 s.2.2).bind fun n1=>bif n0 !=n1 then some (.done false) else some (.next (s.1,s.2.1,aA .i64 (s.2.2+1))) else some (.done true)
def lB (p0:List Int) (p1:List Int):Option Bool:=bif (Int.ofNat p0.length) !=(Int.ofNat p1.length) then some false else aE mB (p0,p1,0)
def c41:bN:=⟨aB.cons (aJ.sl ki) (aB.one (aJ.sl ki)),aJ.bool,fun a=>lB a.1 a.2,.pure,false⟩
theorem aAg:aI tab 41 c41:=Oc aKe rfl aG [] trivial fun a=>by kernel_rfl
def DK (s:(gY×gY×Int)):Option (bO (gY×gY×Int) Bool):=bif decide (s.2.2<(Int.ofNat s.1.length)) then (aK s.1 s.2.2).bind fun a0=>(aK s.2.1 s.2.2).bind fun a1=>bif !((a0.1==a1.1)&&(a0.2==a1.2)) then some (.done false) else some (.next (s.1,s.2.1,aA .i64 (s.2.2+1))) else some (.done true)
def zD (p0:List (Int×Int)) (p1:List (Int×Int)):Option Bool:=bif (Int.ofNat p0.length) !=(Int.ofNat p1.length) then some false else aE DK (p0,p1,0)
def c21:bN:=⟨aB.cons (aJ.sl jL) (aB.one (aJ.sl jL)),aJ.bool,fun a=>zD a.1 a.2,.pure,false⟩
theorem aLd:aI tab 21 c21:=Oc aJ8 rfl aG [] trivial fun a=>by kernel_rfl
def Q4:Option Bool:=G8.bind fun r0=>(KD 0).bind fun a1=>(oF r0 a1).bind fun a2=>(KD 2).bind fun a3=>(AL a2.1 a3).bind fun a4=>(CF a4.1).bind fun a5=>bif a2.2==0 then bif a4.2.2==0 then bif a5.2==0 then bif a5.1==1 then (lB a2.1.up [2,-1,1]).bind fun b6=>bif b6 then (lB a4.1.up [-1,1,1]).bind fun b7=>bif b7 then (zD a4.2.1 [(1,2)]).bind fun b8=>some b8 else some false else some false else some false else some false else some false else some false
def aOP:bN:=⟨aB.nil,aJ.bool,fun _=>Q4,.pure,false⟩
theorem aF5:aI tab 22 aOP:=Oc aJ9 rfl aG [(42,c42),(43,c43),(12,c12),(28,c28),(16,c16),(41,c41),(21,c21)] ⟨aKN,aKO,aAe,aLa,aLc,aAg,aLd,trivial⟩ fun a=>by kernel_rfl
def c22:bN:=⟨aB.nil,aJ.bool,fun _=>some true,.pure,false⟩
end
theorem aLe:aI tab 22 c22:=aI.at0 (@aF5 (LP.of 1000000)) (by kernel_rfl)
section
variable [LP]
def rH (p0:Field):Option Bool:=bif decide (16<(Int.ofNat p0.points.length)) then bif decide ((Int.ofNat p0.points.length)<64) then some true else some (decide (70<(Int.ofNat p0.points.length))) else some (decide (70<(Int.ofNat p0.points.length)))
def c10:bN:=⟨aB.one (aJ.agg dB),aJ.bool,fun a=>rH a,.pure,false⟩
theorem aLf:aI tab 10 c10:=Oc aJ3 rfl aG [] trivial fun a=>by kernel_rfl
def uT (p0:Int×Int×Int):Option Int:=bif decide (p0.1<0) then some 8 else bif decide (65535<p0.1) then some 8 else bif decide (p0.2.1<(-1048576)) then some 8 else bif decide (1048576<p0.2.1) then some 8 else bif decide (p0.2.2<(-1048576)) then some 8 else bif decide (1048576<p0.2.2) then some 8 else some 0
def c68:bN:=⟨aB.one (aJ.agg (cJ.row eL)),aJ.int .i64,fun a=>uT a,.pure,false⟩
theorem aLg:aI tab 68 c68:=Oc aKu rfl aG [] trivial fun a=>by kernel_rfl
def iD (s:Z4):Option (bO Z4 (bO Z4 Int)):=bif decide (s.1<(Int.ofNat s.2.length)) then (aK s.2 (aA .i64 (s.1-1))).bind fun a0=>(aK s.2 s.1).bind fun a1=>bif decide (a1.1<=a0.1) then some (.done (.done 32)) else some (.next (aA .i64 (s.1+1),s.2)) else some (.done (.done 0))
def lS (s:Z4):Option (bO Z4 Int):=bif decide (s.1<(Int.ofNat s.2.length)) then (aK s.2 s.1).bind fun a0=>(uT a0).bind fun n1=>bif n1 !=0 then some (.done 8) else some (.next (aA .i64 (s.1+1),s.2)) else aE iD (1,s.2)
def rI (p0:Field):Option Int:=bif decide (64<(Int.ofNat p0.points.length)) then some 4 else aE lS (0,p0.points)
def c23:bN:=⟨aB.one (aJ.agg dB),aJ.int .i64,fun a=>rI a,.pure,false⟩
theorem aAh:aI tab 23 c23:=Oc aKa rfl aG [(68,c68)] ⟨aLg,trivial⟩ fun a=>by kernel_rfl
def gP (p0:Int):Option Int:=bif decide (p0<0) then some (aA .u64 ((aA .u64 (aA .i64 (0- (aA .i64 (p0+1)))))+1)) else some (aA .u64 p0)
def c70:bN:=⟨aB.one (aJ.int .i64),aJ.int .u64,fun a=>gP a,.pure,false⟩
theorem TN:aI tab 70 c70:=Oc aKw rfl aG [] trivial fun a=>by kernel_rfl
def mV (s:(Int×Int)):Option (bO (Int×Int) Int):=bif s.2 !=0 then bif s.2==0 then none else some (.next (s.2,Int.tmod s.1 s.2)) else some (.done s.1)
def oG (p0:Int) (p1:Int):Option Int:=aE mV (p0,p1)
def c69:bN:=⟨aB.cons (aJ.int .u64) (aB.one (aJ.int .u64)),aJ.int .u64,fun a=>oG a.1 a.2,.pure,false⟩
theorem aAi:aI tab 69 c69:=Oc aKv rfl aG [] trivial fun a=>by kernel_rfl
def nK (p0:Int×Int):Option Int:=bif decide (p0.2<1) then some 8 else bif p0.1==(-9223372036854775808) then some 8 else (gP p0.1).bind fun n0=>(oG n0 (aA .u64 p0.2)).bind fun n1=>bif n1 !=1 then some 8 else some 0
def c24:bN:=⟨aB.one (aJ.agg (cJ.row jL)),aJ.int .i64,fun a=>nK a,.pure,false⟩
theorem TO:aI tab 24 c24:=Oc aKb rfl aG [(70,c70),(69,c69)] ⟨TN,aAi,trivial⟩ fun a=>by kernel_rfl
def tN (p0:Int×Int):Option Bool:=bif decide (0<=p0.1) then bif decide (p0.1<=65535) then bif decide (0<=p0.2) then bif decide (p0.2<=65535) then some (p0.1 !=p0.2) else some false else some false else some false else some false
def c99:bN:=⟨aB.one (aJ.agg (cJ.row jL)),aJ.bool,fun a=>tN a,.pure,false⟩
theorem aLh:aI tab 99 c99:=Oc aKJ rfl aG [] trivial fun a=>by kernel_rfl
def fE (s:(Int×Int×Int×(List (Int×Int×Int))×Int×Int×Int)):Option (bO (Int×Int×Int×(List (Int×Int×Int))×Int×Int×Int) aKL):=bif decide (s.2.1<s.1) then (aK s.2.2.2.1 s.2.1).bind fun a0=>bif (a0.2.1==s.2.2.2.2.2.1)&&(a0.2.2==s.2.2.2.2.2.2) then some (.done (.done 8)) else some (.next (s.1,aA .i64 (s.2.1+1),s.2.2)) else some (.done (.next (aA .i64 (s.1+1),s.2.2.1,s.2.2.2.1)))
def oH (s:Z3):Option aKL:=bif decide (s.1<(Int.ofNat s.2.2.length)) then (aK s.2.2 s.1).bind fun a0=>(tN a0.2).bind fun b1=>bif !b1 then some (.done 8) else bif decide (a0.1<0) then some (.done 8) else bif decide (s.2.1<=a0.1) then some (.done 8) else bif decide (0<s.1) then (aK s.2.2 (aA .i64 (s.1-1))).bind fun a2=>bif decide (a0.1<=a2.1) then some (.done 8) else aE fE (s.1,0,s.2.1,s.2.2,a0) else aE fE (s.1,0,s.2.1,s.2.2,a0) else some (.done 0)
def rJ (p0:aZ):Option Int:=bif decide (200<(Int.ofNat p0.list.length)) then some 8 else bif decide (p0.next_<0) then some 8 else bif decide (1000000<p0.next_) then some 8 else aE oH (0,p0.next_,p0.list)
def aNd:bN:=⟨aB.one (aJ.agg qD),aJ.int .i64,fun a=>rJ a,.pure,false⟩
theorem aF6:aI tab 118 aNd:=Oc aDy rfl aG [(99,c99)] ⟨aLh,trivial⟩ fun a=>by kernel_rfl
def rL (s:Z3):Option aKL:=bif decide (s.2.1<(Int.ofNat s.2.2.length)) then (aK s.2.2 s.2.1).bind fun a0=>bif a0.1==s.1 then some (.done s.2.1) else some (.next (s.1,aA .i64 (s.2.1+1),s.2.2)) else some (.done (-1))
def gU (p0:Field) (p1:Int):Option Int:=aE rL (p1,0,p0.points)
def c25:bN:=⟨aB.cons (aJ.agg dB) (aB.one (aJ.int .i64)),aJ.int .i64,fun a=>gU a.1 a.2,.pure,false⟩
theorem KN:aI tab 25 c25:=Oc aKc rfl aG [] trivial fun a=>by kernel_rfl
def oI (s:(Int×Int×(List (Int×Int×Int))×(List (Int×Int×Int)))):Option (bO (Int×Int×(List (Int×Int×Int))×(List (Int×Int×Int))) Bool):=bif decide (s.1<(Int.ofNat s.2.2.1.length)) then (aK s.2.2.1 s.1).bind fun a0=>(gU (Field.mk s.2.2.2) a0.2.1).bind fun n1=>bif decide (n1<0) then some (.done false) else (aK s.2.2.1 s.1).bind fun a2=>(gU (Field.mk s.2.2.2) a2.2.2).bind fun n3=>bif decide (n3<0) then some (.done false) else some (.next (aA .i64 (s.1+1),s.2)) else some (.done true)
def uU (p0:aZ) (p1:Field):Option Bool:=aE oI (0,p0.next_,p0.list,p1.points)
def aNe:bN:=⟨aB.cons (aJ.agg qD) (aB.one (aJ.agg dB)),aJ.bool,fun a=>uU a.1 a.2,.pure,false⟩
theorem aF7:aI tab 119 aNe:=Oc aDz rfl aG [(25,c25)] ⟨KN,trivial⟩ fun a=>by kernel_rfl
def jT (s:Z2):Option (bO Z2 (bO Z2 Int)):=bif decide (s.2.1<s.1) then (aK s.2.2.1 s.2.1).bind fun n0=>bif decide (n0<0) then some (.done (.done 8)) else (aK s.2.2.1 s.2.1).bind fun n1=>bif decide (1000000<n1) then some (.done (.done 8)) else (aK s.2.2.2.1 s.2.1).bind fun b2=>(aK s.2.2.2.2.2 s.2.1).bind fun b3=>bif b2==b3 then some (.done (.done 8)) else (aK s.2.2.2.1 s.2.1).bind fun b4=>bif b4 then (aK s.2.2.1 s.2.1).bind fun n5=>bif decide (n5<1) then some (.done (.done 8)) else some (.next (s.1,aA .i64 (s.2.1+1),s.2.2)) else some (.next (s.1,aA .i64 (s.2.1+1),s.2.2)) else some (.done (.done 0))
def oJ (s:Z2):Option (bO Z2 Int):=bif decide (s.2.1<(Int.ofNat s.2.2.2.2.1.length)) then (aK s.2.2.2.2.1 s.2.1).bind fun n0=>bif decide (n0<0) then some (.done 8) else (aK s.2.2.2.2.1 s.2.1).bind fun n1=>bif decide (s.1<=n1) then some (.done 8) else (aK s.2.2.2.2.1 s.2.1).bind fun n2=>(aK s.2.2.2.2.2 n2).bind fun b3=>bif b3 then some (.done 8) else (aK s.2.2.2.2.1 s.2.1).bind fun n4=>(aK s.2.2.2.2.2 n4).bind fun _=>some (.next (s.1,aA .i64 (s.2.1+1),s.2.2.1,s.2.2.2.1,s.2.2.2.2.1,cL s.2.2.2.2.2 n4 true)) else aE jT (s.1,0,s.2.2)
def uV (p0:aW):Option Int:=bif decide ((Int.ofNat p0.uses.length)<1) then some 8 else bif decide (200<(Int.ofNat p0.uses.length)) then some 8 else bif (Int.ofNat p0.used.length) !=(Int.ofNat p0.uses.length) then some 8 else bif decide ((Int.ofNat p0.uses.length)<(Int.ofNat p0.free.length)) then some 8 else bif (Int.ofNat p0.uses.length)==(Int.ofNat p0.uses.length) then (sZ (Int.ofNat p0.uses.length) (false:Bool)).bind fun l0=>aE oJ (Int.ofNat p0.uses.length,0,p0.uses,p0.used,p0.free,l0) else none
def aNf:bN:=⟨aB.one (aJ.agg qC),aJ.int .i64,fun a=>uV a,.pure,false⟩
theorem aF8:aI tab 179 aNf:=Oc aD3 rfl aG [] trivial fun a=>by kernel_rfl
def tO (p0:aW) (p1:Int×Int):Option Bool:=bif decide (0<=p1.1) then bif decide (p1.1<(Int.ofNat p0.uses.length)) then (aK p0.used p1.1).bind fun b0=>bif b0 then (aK p0.uses p1.1).bind fun n1=>some (n1==p1.2) else some false else some false else some false
def aLi:bN:=⟨aB.cons (aJ.agg qC) (aB.one (aJ.agg (cJ.row jL))),aJ.bool,fun a=>tO a.1 a.2,.pure,false⟩
theorem VX:aI tab 183 aLi:=Oc aD7 rfl aG [] trivial fun a=>by kernel_rfl
def mW (s:aMo):Option (bO aMo Bool):=bif decide (s.2.1<s.1) then (aK s.2.2.2.1 s.2.1).bind fun b0=>bif !b0 then (aK s.2.2.2.2.2.2 s.2.1).bind fun n1=>bif n1 !=(-1) then some (.done false) else some (.next (s.1,aA .i64 (s.2.1+1),s.2.2)) else (aK s.2.2.2.2.2.2 s.2.1).bind fun n2=>bif decide (n2<0) then some (.done false) else bif decide ((Int.ofNat s.2.2.2.2.2.1.length)<=n2) then some (.done false) else (aK s.2.2.2.2.2.1 n2).bind fun a3=>bif a3.2.2.2.1 !=s.2.1 then some (.done false) else (aK s.2.2.2.2.2.1 n2).bind fun a4=>(tO (aW.mk s.2.2.1 s.2.2.2.1 s.2.2.2.2.1) a4.2.2.2).bind fun b5=>bif !b5 then some (.done false) else some (.next (s.1,aA .i64 (s.2.1+1),s.2.2)) else some (.done true)
def sM (p0:aO):Option Bool:=bif (Int.ofNat p0.where_.length) !=(Int.ofNat p0.slots.uses.length) then some false else bif (Int.ofNat p0.heap.length) !=(aA .i64 ((Int.ofNat p0.slots.uses.length) - (Int.ofNat p0.slots.free.length))) then some false else aE mW (Int.ofNat p0.slots.uses.length,0,p0.slots.uses,p0.slots.used,p0.slots.free,p0.heap,p0.where_)
def aNg:bN:=⟨aB.one (aJ.agg gS),aJ.bool,fun a=>sM a,.pure,false⟩
theorem aF9:aI tab 180 aNg:=Oc aD4 rfl aG [(183,aLi)] ⟨VX,trivial⟩ fun a=>by kernel_rfl
def qJ (p0:Int) (p1:Int):Option (Bool×Int×Int):=some (false,aA .u64 ((aA .u64 ((aA .u64 ((aA .u64 (Int.tdiv p0 4294967296))*(aA .u64 (Int.tdiv p1 4294967296))))+(aA .u64 (Int.tdiv (aA .u64 ((aA .u64 ((aA .u64 (Int.tdiv p0 4294967296))*(Int.tmod p1 4294967296)))+(aA .u64 (Int.tdiv (aA .u64 ((Int.tmod p0 4294967296)*(Int.tmod p1 4294967296))) 4294967296)))) 4294967296))))+(aA .u64 (Int.tdiv (aA .u64 ((aA .u64 ((Int.tmod p0 4294967296)*(aA .u64 (Int.tdiv p1 4294967296))))+(Int.tmod (aA .u64 ((aA .u64 ((aA .u64 (Int.tdiv p0 4294967296))*(Int.tmod p1 4294967296)))+(aA .u64 (Int.tdiv (aA .u64 ((Int.tmod p0 4294967296)*(Int.tmod p1 4294967296))) 4294967296)))) 4294967296))) 4294967296))),aA .u64 ((aA .u64 ((Int.tmod (aA .u64 ((aA .u64 ((Int.tmod p0 4294967296)*(aA .u64 (Int.tdiv p1 4294967296))))+(Int.tmod (aA .u64 ((aA .u64 ((aA .u64 (Int.tdiv p0 4294967296))*(Int.tmod p1 4294967296)))+(aA .u64 (Int.tdiv (aA .u64 ((Int.tmod p0 4294967296)*(Int.tmod p1 4294967296))) 4294967296)))) 4294967296))) 4294967296)*4294967296))+(Int.tmod (aA .u64 ((Int.tmod p0 4294967296)*(Int.tmod p1 4294967296))) 4294967296)))
def aNh:bN:=⟨aB.cons (aJ.int .u64) (aB.one (aJ.int .u64)),aJ.agg (cJ.row AE),fun a=>qJ a.1 a.2,.pure,false⟩
theorem aGa:aI tab 151 aNh:=Oc aDR rfl aG [] trivial fun a=>by kernel_rfl
def jG (p0:Int) (p1:Int):Option (Bool×Int×Int):=(gP p0).bind fun n0=>(gP p1).bind fun n1=>(qJ n0 n1).bind fun a2=>bif !((decide (p0<0))==(decide (p1<0))) then bif p0 !=0 then some (p1 !=0,a2.2) else some (false,a2.2) else some (false,a2.2)
def c95:bN:=⟨aB.cons (aJ.int .i64) (aB.one (aJ.int .i64)),aJ.agg (cJ.row AE),fun a=>jG a.1 a.2,.pure,false⟩
theorem aAj:aI tab 95 c95:=Oc aKG rfl aG [(70,c70),(151,aNh)] ⟨TN,aGa,trivial⟩ fun a=>by kernel_rfl
def kN (p0:Bool×Int×Int):Option Int:=bif p0.2.1==0 then bif p0.2.2==0 then some 0 else bif p0.1 then some (-1) else some 1 else bif p0.1 then some (-1) else some 1
def c96:bN:=⟨aB.one (aJ.agg (cJ.row AE)),aJ.int .i64,fun a=>kN a,.pure,false⟩
theorem aAk:aI tab 96 c96:=Oc aKH rfl aG [] trivial fun a=>by kernel_rfl
def pL (p0:Bool×Int×Int) (p1:Bool×Int×Int):Option Int:=bif p0.2.1 !=p1.2.1 then bif decide (p0.2.1<p1.2.1) then some (-1) else some 1 else bif p0.2.2 !=p1.2.2 then bif decide (p0.2.2<p1.2.2) then some (-1) else some 1 else some 0
def c97:bN:=⟨aB.cons (aJ.agg (cJ.row AE)) (aB.one (aJ.agg (cJ.row AE))),aJ.int .i64,fun a=>pL a.1 a.2,.pure,false⟩
theorem aAl:aI tab 97 c97:=Oc aKI rfl aG [] trivial fun a=>by kernel_rfl
def qK (p0:Int×Int) (p1:Int×Int):Option Int:=(jG p0.1 p1.2).bind fun a0=>(jG p1.1 p0.2).bind fun a1=>(kN a0).bind fun n2=>(kN a1).bind fun n3=>bif n2 !=n3 then (kN a0).bind fun n4=>(kN a1).bind fun n5=>bif decide (n4<n5) then some (-1) else some 1 else (kN a0).bind fun n6=>bif decide (n6<0) then (pL a1 a0).bind fun n7=>some n7 else (pL a0 a1).bind fun n8=>some n8
def c45:bN:=⟨aB.cons (aJ.agg (cJ.row jL)) (aB.one (aJ.agg (cJ.row jL))),aJ.int .i64,fun a=>qK a.1 a.2,.pure,false⟩
theorem aLj:aI tab 45 c45:=Oc aKh rfl aG [(95,c95),(96,c96),(97,c97)] ⟨aAj,aAk,aAl,trivial⟩ fun a=>by kernel_rfl
def dJ (p0:Int×Int×Int×Int×Int) (p1:Int×Int×Int×Int×Int):Option Bool:=(qK (p0.1,p0.2.1) (p1.1,p1.2.1)).bind fun n0=>bif decide (n0<0) then some true else bif n0==0 then some (decide (p0.2.2.1<p1.2.2.1)) else some false
def aNi:bN:=⟨aB.cons (aJ.agg (cJ.row jE)) (aB.one (aJ.agg (cJ.row jE))),aJ.bool,fun a=>dJ a.1 a.2,.pure,false⟩
theorem aGb:aI tab 181 aNi:=Oc aD5 rfl aG [(45,c45)] ⟨aLj,trivial⟩ fun a=>by kernel_rfl
def jU (s:aMl):Option (bO aMl aKK):=bif decide (s.2.1<s.1) then (aK s.2.2.2.2.2.1 s.2.1).bind fun a0=>bif a0.2.2.1==s.2.2.2.2.2.2.2.2.2.1 then some (.done (.done 8)) else some (.next (s.1,aA .i64 (s.2.1+1),s.2.2)) else some (.done (.next (aA .i64 (s.1+1),s.2.2.1,s.2.2.2.1,s.2.2.2.2.1,s.2.2.2.2.2.1,s.2.2.2.2.2.2.1)))
def jV (s:aFa):Option (bO aFa aKK):=bif decide (s.1<(Int.ofNat s.2.2.2.2.1.length)) then (aK s.2.2.2.2.1 s.1).bind fun a0=>(aK s.2.2.2.2.1 (aA .i64 (Int.tdiv (aA .i64 (s.1-1)) 2))).bind fun a1=>(dJ a0 a1).bind fun b2=>bif b2 then some (.done (.done 8)) else some (.next (aA .i64 (s.1+1),s.2)) else some (.done (.done 0))
def oK (s:aFa):Option aKK:=bif decide (s.1<(Int.ofNat s.2.2.2.2.1.length)) then (aK s.2.2.2.2.1 s.1).bind fun a0=>(nK (a0.1,a0.2.1)).bind fun n1=>bif n1 !=0 then some (.done 8) else bif decide (a0.2.2.1<0) then some (.done 8) else bif decide (1000000<a0.2.2.1) then some (.done 8) else aE jU (s.1,0,s.2.1,s.2.2.1,s.2.2.2.1,s.2.2.2.2.1,s.2.2.2.2.2,a0) else aE jV (1,s.2)
def rM (p0:aO):Option Int:=(uV p0.slots).bind fun n0=>bif n0 !=0 then some 8 else (sM p0).bind fun b1=>bif !b1 then some 8 else aE oK (0,p0.slots.uses,p0.slots.used,p0.slots.free,p0.heap,p0.where_)
def aLk:bN:=⟨aB.one (aJ.agg gS),aJ.int .i64,fun a=>rM a,.pure,false⟩
theorem VY:aI tab 120 aLk:=Oc aDA rfl aG [(179,aNf),(180,aNg),(24,c24),(181,aNi)] ⟨aF8,aF9,TO,aGb,trivial⟩ fun a=>by kernel_rfl
def rN (p0:Bool×Int×Int) (p1:Bool×Int×Int):Option (Bool×Int×Int):=bif decide (p0.2.2<p1.2.2) then some (false,aA .u64 ((aA .u64 (p0.2.1-p1.2.1)) -1),aA .u64 (p0.2.2-p1.2.2)) else some (false,aA .u64 (p0.2.1-p1.2.1),aA .u64 (p0.2.2-p1.2.2))
def aNj:bN:=⟨aB.cons (aJ.agg (cJ.row AE)) (aB.one (aJ.agg (cJ.row AE))),aJ.agg (cJ.row AE),fun a=>rN a.1 a.2,.pure,false⟩
theorem aGc:aI tab 246 aNj:=Oc aEK rfl aG [] trivial fun a=>by kernel_rfl
def yE (p0:Bool×Int×Int) (p1:Bool×Int×Int):Option (Bool×Int×Int):=bif p0.1==p1.1 then bif decide ((aA .u64 (p0.2.2+p1.2.2))<p0.2.2) then some (p0.1,aA .u64 ((aA .u64 (p0.2.1+p1.2.1))+1),aA .u64 (p0.2.2+p1.2.2)) else some (p0.1,aA .u64 (p0.2.1+p1.2.1),aA .u64 (p0.2.2+p1.2.2)) else (pL p0 p1).bind fun n0=>bif decide (0<=n0) then (rN p0 p1).bind fun a1=>bif p0.1 then bif decide (0<a1.2.1) then some (true,a1.2) else some (decide (0<a1.2.2),a1.2) else some (false,a1.2) else (rN p1 p0).bind fun a2=>some (p1.1,a2.2)
def aNk:bN:=⟨aB.cons (aJ.agg (cJ.row AE)) (aB.one (aJ.agg (cJ.row AE))),aJ.agg (cJ.row AE),fun a=>yE a.1 a.2,.pure,false⟩
theorem aGd:aI tab 205 aNk:=Oc aEo rfl aG [(97,c97),(246,aNj)] ⟨aAl,aGc,trivial⟩ fun a=>by kernel_rfl
def BG (p0:Int×Int×Int) (p1:Int×Int×Int) (p2:Int×Int):Option Int:=(jG (aA .i64 (p0.2.1-p1.2.1)) p2.2).bind fun a0=>(jG (aA .i64 (p0.2.2-p1.2.2)) p2.1).bind fun a1=>(yE a0 a1).bind fun a2=>(kN a2).bind fun n3=>some n3
def aNl:bN:=⟨aB.cons (aJ.agg (cJ.row eL)) (aB.cons (aJ.agg (cJ.row eL)) (aB.one (aJ.agg (cJ.row jL)))),aJ.int .i64,fun a=>BG a.1 a.2.1 a.2.2,.pure,false⟩
theorem aGe:aI tab 155 aNl:=Oc aDT rfl aG [(95,c95),(205,aNk),(96,c96)] ⟨aAj,aGd,aAk,trivial⟩ fun a=>by kernel_rfl
def nL (p0:Int×Int×Int) (p1:Int×Int×Int) (p2:Int×Int):Option Bool:=(BG p0 p1 p2).bind fun n0=>bif n0 !=0 then some (decide (0<n0)) else bif p0.2.2 !=p1.2.2 then some (decide (p1.2.2<p0.2.2)) else some (decide (p0.1<p1.1))
def aGf:bN:=⟨aB.cons (aJ.agg (cJ.row eL)) (aB.cons (aJ.agg (cJ.row eL)) (aB.one (aJ.agg (cJ.row jL)))),aJ.bool,fun a=>nL a.1 a.2.1 a.2.2,.pure,false⟩
theorem OD:aI tab 100 aGf:=Oc aDq rfl aG [(155,aNl)] ⟨aGe,trivial⟩ fun a=>by kernel_rfl
def pM (p0:Bool) (p1:Bool×Int×Int) (p2:Bool×Int×Int):Option ((Int×Int)×Int):=bif decide (0<p1.2.1) then some ((0,0),16) else bif decide (9223372036854775807<p1.2.2) then some ((0,0),16) else bif decide (0<p2.2.1) then some ((0,0),16) else bif decide (9223372036854775807<p2.2.2) then some ((0,0),16) else bif p0 then some ((aA .i64 (0- (aA .i64 p1.2.2)),aA .i64 p2.2.2),0) else some ((aA .i64 p1.2.2,aA .i64 p2.2.2),0)
def aNm:bN:=⟨aB.cons aJ.bool (aB.cons (aJ.agg (cJ.row AE)) (aB.one (aJ.agg (cJ.row AE)))),aJ.tup (aB.cons (aJ.agg (cJ.row jL)) (aB.one (aJ.int .i64))),fun a=>pM a.1 a.2.1 a.2.2,.pure,false⟩
theorem aGg:aI tab 285 aNm:=Oc aE3 rfl aG [] trivial fun a=>by kernel_rfl
def lT (p0:Int) (p1:Int):Option ((Int×Int)×Int):=bif p1==0 then some ((0,0),26) else (gP p0).bind fun n0=>(gP p1).bind fun n1=>(oG n0 n1).bind fun n2=>bif !((decide (p0<0))==(decide (p1<0))) then (gP p0).bind fun n3=>bif n2==0 then none else (gP p1).bind fun n4=>bif n2==0 then none else (pM (p0 !=0) (false,0,aA .u64 (Int.tdiv n3 n2)) (false,0,aA .u64 (Int.tdiv n4 n2))).bind fun a5=>some a5 else (gP p0).bind fun n6=>bif n2==0 then none else (gP p1).bind fun n7=>bif n2==0 then none else (pM false (false,0,aA .u64 (Int.tdiv n6 n2)) (false,0,aA .u64 (Int.tdiv n7 n2))).bind fun a8=>some a8
def aNn:bN:=⟨aB.cons (aJ.int .i64) (aB.one (aJ.int .i64)),aJ.tup (aB.cons (aJ.agg (cJ.row jL)) (aB.one (aJ.int .i64))),fun a=>lT a.1 a.2,.pure,false⟩
theorem aGh:aI tab 265 aNn:=Oc aET rfl aG [(70,c70),(69,c69),(285,aNm)] ⟨TN,aAi,aGg,trivial⟩ fun a=>by kernel_rfl
def BH (p0:Int×Int×Int) (p1:Int×Int×Int):Option (Int×Int):=(lT (aA .i64 (p0.2.1-p1.2.1)) (aA .i64 (p1.2.2-p0.2.2))).bind fun a0=>some a0.1
def aNo:bN:=⟨aB.cons (aJ.agg (cJ.row eL)) (aB.one (aJ.agg (cJ.row eL))),aJ.agg (cJ.row jL),fun a=>BH a.1 a.2,.pure,false⟩
theorem aGi:aI tab 226 aNo:=Oc aEB rfl aG [(265,aNn)] ⟨aGh,trivial⟩ fun a=>by kernel_rfl
def qL (p0:Int×Int×Int) (p1:Int×Int×Int) (p2:Int×Int):Option ((Int×Int)×Bool):=(nL p1 p0 p2).bind fun b0=>bif b0 then some (p2,true) else bif decide (p0.2.2<p1.2.2) then (BH p0 p1).bind fun a1=>some (a1,true) else some ((0,0),false)
def aNp:bN:=⟨aB.cons (aJ.agg (cJ.row eL)) (aB.cons (aJ.agg (cJ.row eL)) (aB.one (aJ.agg (cJ.row jL)))),aJ.tup (aB.cons (aJ.agg (cJ.row jL)) (aB.one aJ.bool)),fun a=>qL a.1 a.2.1 a.2.2,.pure,false⟩
theorem aGj:aI tab 182 aNp:=Oc aD6 rfl aG [(100,aGf),(226,aNo)] ⟨OD,aGi,trivial⟩ fun a=>by kernel_rfl
def pN (p0:Field) (p1:Int×Int) (p2:Int×Int):Option ((Int×Int)×Bool):=(gU p0 p1.2).bind fun n0=>(aK p0.points n0).bind fun a1=>(gU p0 p1.1).bind fun n2=>(aK p0.points n2).bind fun a3=>(qL a1 a3 p2).bind fun a4=>some a4
def aNq:bN:=⟨aB.cons (aJ.agg dB) (aB.cons (aJ.agg (cJ.row jL)) (aB.one (aJ.agg (cJ.row jL)))),aJ.tup (aB.cons (aJ.agg (cJ.row jL)) (aB.one aJ.bool)),fun a=>pN a.1 a.2.1 a.2.2,.pure,false⟩
theorem aGk:aI tab 121 aNq:=Oc aDB rfl aG [(25,c25),(182,aNp)] ⟨KN,aGj,trivial⟩ fun a=>by kernel_rfl
def tP (p0:aO) (p1:Int×Int):Option ((Int×Int×Int×Int×Int)×Int):=(rM p0).bind fun n0=>bif n0 !=0 then some ((0,0,0,0,0),8) else (tO p0.slots p1).bind fun b1=>bif !b1 then some ((0,0,0,0,0),6) else (aK p0.where_ p1.1).bind fun n2=>(aK p0.heap n2).bind fun a3=>some (a3,0)
def aNr:bN:=⟨aB.cons (aJ.agg gS) (aB.one (aJ.agg (cJ.row jL))),aJ.tup (aB.cons (aJ.agg (cJ.row jE)) (aB.one (aJ.int .i64))),fun a=>tP a.1 a.2,.pure,false⟩
theorem aGl:aI tab 122 aNr:=Oc aDC rfl aG [(120,aLk),(183,aLi)] ⟨VY,VX,trivial⟩ fun a=>by kernel_rfl
def cT (s:aL7):Option (bO aL7 Int):=bif decide (s.2.1<(Int.ofNat s.2.2.2.2.2.2.1.length)) then (aK s.2.2.2.2.2.2.1 s.2.1).bind fun a0=>(pN (Field.mk s.2.2.2.2.1) a0.2 (s.2.2.1,s.2.2.2.1)).bind fun a1=>bif !a1.2 then some (.next (s.1,aA .i64 (s.2.1+1),s.2.2)) else bif decide ((Int.ofNat s.2.2.2.2.2.2.2.2.2.2.2.2.length)<=s.1) then some (.done 8) else (aK s.2.2.2.2.2.2.2.2.2.2.2.2 s.1).bind fun a2=>bif a2.1 !=a0.1 then some (.done 8) else (aK s.2.2.2.2.2.2.2.2.2.2.2.2 s.1).bind fun a3=>(tP (aO.mk (aW.mk s.2.2.2.2.2.2.2.1 s.2.2.2.2.2.2.2.2.1 s.2.2.2.2.2.2.2.2.2.1) s.2.2.2.2.2.2.2.2.2.2.1 s.2.2.2.2.2.2.2.2.2.2.2.1) a3.2).bind fun a4=>bif a4.2 !=0 then some (.done 8) else bif a4.1.2.2.1 !=a0.1 then some (.done 8) else bif !((a4.1.1==a1.1.1)&&(a4.1.2.1==a1.1.2)) then some (.done 8) else some (.next (aA .i64 (s.1+1),aA .i64 (s.2.1+1),s.2.2)) else bif s.1 !=(Int.ofNat s.2.2.2.2.2.2.2.2.2.2.2.2.length) then some (.done 8) else some (.done 0)
def uW (p0:aR):Option Int:=(nK p0.now).bind fun n0=>bif n0 !=0 then some 8 else (rI p0.field).bind fun n1=>bif n1 !=0 then some 8 else (rJ p0.certs).bind fun n2=>bif n2 !=0 then some 8 else (uU p0.certs p0.field).bind fun b3=>bif !b3 then some 8 else (rM p0.agenda).bind fun n4=>bif n4 !=0 then some 8 else bif (Int.ofNat p0.agenda.where_.length) !=200 then some 8 else bif (Int.ofNat p0.agenda.heap.length) !=(Int.ofNat p0.due.length) then some 8 else aE cT (0,0,p0.now.1,p0.now.2,p0.field.points,p0.certs.next_,p0.certs.list,p0.agenda.slots.uses,p0.agenda.slots.used,p0.agenda.slots.free,p0.agenda.heap,p0.agenda.where_,p0.due)
def c65:bN:=⟨aB.one (aJ.agg cW),aJ.int .i64,fun a=>uW a,.pure,false⟩
theorem aLl:aI tab 65 c65:=Oc aKr rfl aG [(24,c24),(23,c23),(118,aNd),(119,aNe),(120,aLk),(121,aNq),(122,aNr)] ⟨TO,aAh,aF6,aF7,VY,aGk,aGl,trivial⟩ fun a=>by kernel_rfl
def kV (s:(Int×Int×(List (Int×Int×Int))×Int×Int×Int×Int×Int)):Option (bO (Int×Int×(List (Int×Int×Int))×Int×Int×Int×Int×Int) Int):=bif decide (s.2.1<(Int.ofNat s.2.2.1.length)) then (aK s.2.2.1 s.2.1).bind fun a0=>bif a0.1 !=s.2.2.2.1 then (aK s.2.2.1 s.2.1).bind fun a1=>(nL a1 (s.2.2.2.1,s.2.2.2.2.1,s.2.2.2.2.2.1) s.2.2.2.2.2.2).bind fun b2=>bif b2 then some (.next (aA .i64 (s.1+1),aA .i64 (s.2.1+1),s.2.2)) else some (.next (s.1,aA .i64 (s.2.1+1),s.2.2)) else some (.next (s.1,aA .i64 (s.2.1+1),s.2.2)) else some (.done s.1)
def sN (p0:Field) (p1:Int×Int×Int) (p2:Int×Int):Option Int:=aE kV (0,0,p0.points,p1.1,p1.2.1,p1.2.2,p2)
def aNs:bN:=⟨aB.cons (aJ.agg dB) (aB.cons (aJ.agg (cJ.row eL)) (aB.one (aJ.agg (cJ.row jL)))),aJ.int .i64,fun a=>sN a.1 a.2.1 a.2.2,.pure,false⟩
theorem aGm:aI tab 111 aNs:=Oc aDt rfl aG [(100,aGf)] ⟨OD,trivial⟩ fun a=>by kernel_rfl
def jW (s:(Int×(List (Int×Int×Int))×Int×Int×(List Int))):Option (bO (Int×(List (Int×Int×Int))×Int×Int×(List Int)) (List Int)):=bif decide (s.1<(Int.ofNat s.2.1.length)) then (aK s.2.1 s.1).bind fun a0=>(sN (Field.mk s.2.1) a0 (s.2.2.1,s.2.2.2.1)).bind fun n1=>(aK s.2.1 s.1).bind fun a2=>(aK s.2.2.2.2 n1).bind fun _=>some (.next (aA .i64 (s.1+1),s.2.1,s.2.2.1,s.2.2.2.1,cL s.2.2.2.2 n1 a2.1)) else some (.done s.2.2.2.2)
def qM (p0:Field) (p1:Int×Int):Option (List Int):=bif (Int.ofNat p0.points.length)==(Int.ofNat p0.points.length) then (sZ (Int.ofNat p0.points.length) (0:Int)).bind fun l0=>aE jW (0,p0.points,p1.1,p1.2,l0) else none
def c60:bN:=⟨aB.cons (aJ.agg dB) (aB.one (aJ.agg (cJ.row jL))),aJ.sl ki,fun a=>qM a.1 a.2,.frz,false⟩
theorem aLm:aI tab 60 c60:=Oc aKn rfl aG [(111,aNs)] ⟨aGm,trivial⟩ fun a=>by kernel_rfl
def mP (c0:(((List Int)×Int×Int)->(Option gY))) (s:((List Int)×Int×Int×Int×gY×(List Int))):Option (bO ((List Int)×Int×Int×Int×gY×(List Int)) (bO aKM gY)):=bif decide (s.2.2.2.1<(Int.ofNat s.1.length)) then (aK s.1 s.2.2.2.1).bind fun n0=>bif decide (s.2.1<0) then none else bif (Int.tmod (iG .i64 n0 s.2.1) 2)==s.2.2.1 then (aK s.1 s.2.2.2.1).bind fun n1=>(aY s.2.2.2.2.2 [n1]).bind fun l2=>some (.next (s.1,s.2.1,s.2.2.1,aA .i64 (s.2.2.2.1+1),s.2.2.2.2.1,l2)) else some (.next (s.1,s.2.1,s.2.2.1,aA .i64 (s.2.2.2.1+1),s.2.2.2.2)) else (aK s.1 0).bind fun n3=>(c0 (s.2.2.2.2.2,n3,aA .i64 (s.2.1+1))).bind fun l4=>bif l4.isEmpty then some (.done (.next (s.1,s.2.1,aA .i64 (s.2.2.1+1),s.2.2.2.2.1))) else (aY s.2.2.2.2.1 l4).bind fun l5=>some (.done (.next (s.1,s.2.1,aA .i64 (s.2.2.1+1),l5)))
def qN (c0:(((List Int)×Int×Int)->(Option gY))) (s:aKM):Option (bO aKM gY):=bif decide (s.2.2.1<2) then aE (mP c0) (s.1,s.2.1,s.2.2.1,1,s.2.2.2,[]) else some (.done s.2.2.2)
def yF (self:(List Int)×Int×Int->Option gY) (a:(List Int)×Int×Int):Option gY:=bif (Int.ofNat a.1.length)==0 then some [] else (aK a.1 0).bind fun n0=>aE (qN self) (a.1,a.2.2,0,[(n0,a.2.1)])
def fQ:Nat->(List Int)×Int×Int->Option gY |0,_=>none |n+1,a=>yF (fQ n) a
def DL (p0:List Int) (p1:Int) (p2:Int):Option gY:=fQ 1000000 (p0,p1,p2)
def aNt:bN:=⟨aB.cons (aJ.sl ki) (aB.cons (aJ.int .i64) (aB.one (aJ.int .i64))),aJ.sl jL,fun a=>DL a.1 a.2.1 a.2.2,.frz,false⟩
theorem Q5: ∀n,aI tab 123 ⟨aB.cons (aJ.sl ki) (aB.cons (aJ.int .i64) (aB.one (aJ.int .i64))),aJ.sl jL,fun a=>fQ n a,.frz,false⟩
 |0=>aI.zero (fun _=>rfl)
 |n+1=>Oc aDD rfl aG [(123,⟨aB.cons (aJ.sl ki) (aB.cons (aJ.int .i64) (aB.one (aJ.int .i64))),aJ.sl jL,fun a=>fQ n a,.frz,false⟩)] ⟨(Q5 n),trivial⟩ fun a=>by kernel_rfl
theorem aGn:aI tab 123 aNt:=Q5 1000000
def uX (s:(gY×Int×(List (Int×Int×Int))×(List Int))):Option (bO (gY×Int×(List (Int×Int×Int))×(List Int)) (List Int)):=bif decide (s.2.1<(Int.ofNat s.1.length)) then (aK s.1 s.2.1).bind fun a0=>(gU (Field.mk s.2.2.1) a0.1).bind fun n1=>(aK s.1 s.2.1).bind fun a2=>(aK s.2.2.2 n1).bind fun _=>some (.next (s.1,aA .i64 (s.2.1+1),s.2.2.1,cL s.2.2.2 n1 a2.2)) else some (.done s.2.2.2)
def AM (p0:Field) (p1:Int×Int):Option (List Int):=(qM p0 p1).bind fun l0=>(DL l0 (-1) 0).bind fun l1=>bif (Int.ofNat p0.points.length)==(Int.ofNat p0.points.length) then (sZ (Int.ofNat p0.points.length) (0:Int)).bind fun l2=>aE uX (l1,0,p0.points,l2) else none
def c66:bN:=⟨aB.cons (aJ.agg dB) (aB.one (aJ.agg (cJ.row jL))),aJ.sl ki,fun a=>AM a.1 a.2,.frz,false⟩
theorem aLn:aI tab 66 c66:=Oc aKs rfl aG [(60,c60),(123,aNt),(25,c25)] ⟨aLm,aGn,KN,trivial⟩ fun a=>by kernel_rfl
def uY (s:((List Int)×Int×(List (Int×Int×Int))×gY)):Option (bO ((List Int)×Int×(List (Int×Int×Int))×gY) gY):=bif decide (s.2.1<(Int.ofNat s.1.length)) then (aK s.1 s.2.1).bind fun n0=>bif decide (0<=n0) then (aK s.2.2.1 s.2.1).bind fun a1=>(aK s.1 s.2.1).bind fun n2=>(aY s.2.2.2 [(a1.1,n2)]).bind fun l3=>some (.next (s.1,aA .i64 (s.2.1+1),s.2.2.1,l3)) else some (.next (s.1,aA .i64 (s.2.1+1),s.2.2)) else some (.done s.2.2.2)
def AN (p0:Field) (p1:List Int):Option gY:=aE uY (p1,0,p0.points,[])
def c58:bN:=⟨aB.cons (aJ.agg dB) (aB.one (aJ.sl ki)),aJ.sl jL,fun a=>AN a.1 a.2,.frz,false⟩
theorem aLo:aI tab 58 c58:=Oc aKl rfl aG [] trivial fun a=>by kernel_rfl
def sO (s:(Int×Int×(List (Int×Int×Int))×Int×Int)):Option (bO (Int×Int×(List (Int×Int×Int))×Int×Int) Bool):=bif decide (s.1<(Int.ofNat s.2.2.1.length)) then (aK s.2.2.1 s.1).bind fun a0=>bif (a0.2.1==s.2.2.2.1)&&(a0.2.2==s.2.2.2.2) then some (.done true) else some (.next (aA .i64 (s.1+1),s.2)) else some (.done false)
def sT (p0:aZ) (p1:Int×Int):Option Bool:=aE sO (0,p0.next_,p0.list,p1)
def aNu:bN:=⟨aB.cons (aJ.agg qD) (aB.one (aJ.agg (cJ.row jL))),aJ.bool,fun a=>sT a.1 a.2,.pure,false⟩
theorem aGo:aI tab 124 aNu:=Oc aDE rfl aG [] trivial fun a=>by kernel_rfl
def yG (p0:Int×Int) (p1:Field) (p2:Int×Int):Option Bool:=(gU p1 p0.2).bind fun n0=>(aK p1.points n0).bind fun a1=>(gU p1 p0.1).bind fun n2=>(aK p1.points n2).bind fun a3=>(nL a1 a3 p2).bind fun b4=>some b4
def aNv:bN:=⟨aB.cons (aJ.agg (cJ.row jL)) (aB.cons (aJ.agg dB) (aB.one (aJ.agg (cJ.row jL)))),aJ.bool,fun a=>yG a.1 a.2.1 a.2.2,.pure,false⟩
theorem aGp:aI tab 125 aNv:=Oc aDF rfl aG [(25,c25),(100,aGf)] ⟨KN,OD,trivial⟩ fun a=>by kernel_rfl
def qO (s:aL6):Option (bO aL6 Bool):=bif decide (s.2.1<(Int.ofNat s.1.length)) then (aK s.1 s.2.1).bind fun a0=>(sT (aZ.mk s.2.2.2.2.2.1 s.2.2.2.2.2.2.1) a0).bind fun b1=>bif !b1 then some (.done false) else (aK s.1 s.2.1).bind fun a2=>(yG a2 (Field.mk s.2.2.2.2.1) (s.2.2.1,s.2.2.2.1)).bind fun b3=>bif !b3 then some (.done false) else some (.next (s.1,aA .i64 (s.2.1+1),s.2.2)) else some (.done true)
def yH (p0:aR) (p1:List (Int×Int)):Option Bool:=bif (Int.ofNat p0.certs.list.length) !=(Int.ofNat p1.length) then some false else aE qO (p1,0,p0.now.1,p0.now.2,p0.field.points,p0.certs.next_,p0.certs.list,p0.agenda.slots.uses,p0.agenda.slots.used,p0.agenda.slots.free,p0.agenda.heap,p0.agenda.where_,p0.due)
def c67:bN:=⟨aB.cons (aJ.agg cW) (aB.one (aJ.sl jL)),aJ.bool,fun a=>yH a.1 a.2,.pure,false⟩
theorem aLp:aI tab 67 c67:=Oc aKt rfl aG [(124,aNu),(125,aNv)] ⟨aGo,aGp,trivial⟩ fun a=>by kernel_rfl
def uZ (p0:dT):Option Int:=(uW p0.clock).bind fun n0=>bif n0 !=0 then some 8 else (AM p0.clock.field p0.clock.now).bind fun l1=>(lB l1 p0.up).bind fun b2=>bif !b2 then some 8 else (AN p0.clock.field l1).bind fun l3=>(yH p0.clock l3).bind fun b4=>bif !b4 then some 8 else some 0
def c20:bN:=⟨aB.one (aJ.agg tD),aJ.int .i64,fun a=>uZ a,.pure,false⟩
theorem aLq:aI tab 20 c20:=Oc aJ7 rfl aG [(65,c65),(66,c66),(41,c41),(58,c58),(67,c67)] ⟨aLl,aLn,aAg,aLo,aLp,trivial⟩ fun a=>by kernel_rfl
def eO (s:Zt7):Option (bO Zt7 Zt1):=bif decide (s.2.2.2.1<s.2.1) then (aK s.2.2.2.2.2.2.2.2.2.2.2.2.2.2.2.2 s.2.1).bind fun n0=>bif decide (0<=n0) then (aK s.2.2.2.2.2.2.2.2.2.2.2.2.2.2.2.2 s.2.2.2.1).bind fun n1=>(aK s.2.2.2.2.2.2.2.2.2.2.2.2.2.2.2.2 s.2.1).bind fun n2=>bif n1==n2 then (aK s.2.2.2.2.1 s.2.1).bind fun a3=>bif decide ((aA .i64 (s.2.2.1-1))<0) then none else (aK s.2.2.2.2.1 s.2.2.2.1).bind fun a4=>bif decide ((aA .i64 (s.2.2.1-1))<0) then none else bif (Int.tmod (iG .i64 a3.1 (aA .i64 (s.2.2.1-1))) 2)==(Int.tmod (iG .i64 a4.1 (aA .i64 (s.2.2.1-1))) 2) then some (.done (.done (.done (.done false)))) else some (.next (s.1,s.2.1,s.2.2.1,aA .i64 (s.2.2.2.1+1),s.2.2.2.2)) else some (.next (s.1,s.2.1,s.2.2.1,aA .i64 (s.2.2.2.1+1),s.2.2.2.2)) else some (.next (s.1,s.2.1,s.2.2.1,aA .i64 (s.2.2.2.1+1),s.2.2.2.2)) else some (.done (.done (.done (.next (s.1,aA .i64 (s.2.1+1),s.2.2.2.2)))))
def eQ (s:aL0):Option Zt1:=match s with |(a,b,d,e,f,g,h,i,j,k,l,m,n,o,q,r,t,u)=>bif decide (e<=d) then bif decide (e<0) then none else (aK u (aA .i64 (d-e))).bind fun n0=>(aK f b).bind fun a1=>bif (mZ .i64 n0 (aA .i64 ((YU .i64 1 e) -1))) !=(mZ .i64 a1.1 (aA .i64 ((YU .i64 1 e) -1))) then some (.done (.done (.done false))) else some (.next (a,b,d,aA .i64 (e+1),(f,g,h,i,j,k,l,m,n,o,q,r,t,u))) else aE eO (a,b,d,0,f,g,h,i,j,k,l,m,n,o,q,r,t)
def gA (s:aLW):Option aLZ:=match s with |(a,b,d,e,f,g,h,i,j,k,l,m,n,o,q,r,t)=>bif decide (0<=d) then bif decide ((Int.ofNat t.length)<20) then (gU (Field.mk e) d).bind fun n0=>bif decide (n0<0) then some (.done (.done false)) else (aY t [d]).bind fun l1=>(aK r n0).bind fun n2=>some (.next (a,b,n2,e,f,g,h,i,j,k,l,m,n,o,q,r,l1)) else bif decide (0<=d) then some (.done (.done false)) else bif decide (16<(aA .i64 ((Int.ofNat t.length) -1))) then some (.done (.done false)) else aE eQ (a,b,aA .i64 ((Int.ofNat t.length) -1),1,(e,f,g,h,i,j,k,l,m,n,o,q,r,t)) else bif decide (0<=d) then some (.done (.done false)) else bif decide (16<(aA .i64 ((Int.ofNat t.length) -1))) then some (.done (.done false)) else aE eQ (a,b,aA .i64 ((Int.ofNat t.length) -1),1,(e,f,g,h,i,j,k,l,m,n,o,q,r,t))
def iX (s:aLX):Option aLY:=match s with |(a,b,d,e,f,g,h,i,j,k,l,m,n,o,q)=>bif decide (b<(Int.ofNat d.length)) then (aK d b).bind fun a0=>(aK q b).bind fun n1=>aE gA (a,b,n1,d,e,f,g,h,i,j,k,l,m,n,o,q,[a0.1]) else some (.done a)
def oL (p0:Field) (p1:Int×Int):Option Bool:=(Option.some true).bind fun b0=>(rH p0).bind fun b1=>bif b1 then some b0 else (rI p0).bind fun n2=>bif n2 !=0 then some b0 else (nK p1).bind fun n3=>bif n3 !=0 then some b0 else bif !b0 then some b0 else (oF p0 p1).bind fun a4=>bif a4.2 !=0 then some false else (uZ a4.1).bind fun n5=>bif n5 !=0 then some false else aE iX (b0,0,p0.points,a4.1.clock.now.1,a4.1.clock.now.2,a4.1.clock.field.points,a4.1.clock.certs.next_,a4.1.clock.certs.list,a4.1.clock.agenda.slots.uses,a4.1.clock.agenda.slots.used,a4.1.clock.agenda.slots.free,a4.1.clock.agenda.heap,a4.1.clock.agenda.where_,a4.1.clock.due,a4.1.up)
def c4:bN:=⟨aB.cons (aJ.agg dB) (aB.one (aJ.agg (cJ.row jL))),aJ.bool,fun a=>oL a.1 a.2,.pure,false⟩
theorem aNw:aI tab 4 c4:=Oc aHg rfl aG [(22,c22),(10,c10),(23,c23),(24,c24),(12,c12),(20,c20),(25,c25)] ⟨aLe,aLf,aAh,TO,aAe,aLq,KN,trivial⟩ fun a=>by kernel_rfl
end
end
end Go.Proofs.YtbncnimfgdelaaaGreat
