/- Plain functions for what the functions of the seat compute. Printed by a program. -/
import Derived.Test.YtlnclppkepgdmaaGreatCVm3
import Derived.Test.YtlnclppkepgdmaaGreatCQXT
open Int renaming ofNat->aa,tdiv->ac,tmod->ae
open List renaming replicate->af
open Nat renaming ble->ai
set_option maxRecDepth 100000
namespace Go.Proofs.YtlnclppkepgdmaaGreat
open Go.Vm
noncomputable section
theorem Oc {f:FuncId} {x:aN} {α β:Type} {args:aF α} {res:aM β} {kd:Kd} {fn:α->Option β} {ow:Bool} (hf:tab f=some (.code x)) (ho:aGU kd ow=true) (lp:Option Nat) (l:List (Nat×bV)) (h:IH tab l) (e: ∀a,aNK (qH lp l [] [] []) x args res kd a=fn a):aJ tab f ⟨args,res,fn,kd,ow⟩:=aJ.of hf (cx:=qH lp l [] [] []) ho (nG.make h trivial trivial) e
abbrev fH:List PT:=[.i .i64,.i .i64,.i .i64]
abbrev jY:List PT:=[.i .i64,.i .i64]
abbrev ki:List PT:=[.i .i64]
abbrev kb:List PT:=[.b]
abbrev lA:List PT:=[.i .i64,.i .i64,.i .i64,.i .i64,.i .i64]
abbrev aUe:List PT:=[.i .i64,.i .i64,.i .i64,.i .i64]
abbrev kiu:List PT:=[.i .i64,.i .u64]
abbrev FA:List PT:=[.b,.i .u64,.i .u64]
structure Field where
 points:List (Int×Int×Int)
def dH:cS Field:=cS.iso (cS.sl fH) (fun p=>⟨p⟩) (fun c=>c.points) (fun _=>rfl)
structure aU where
 uses:List Int
 used:List Bool
 free:List Int
def pZ:cS aU:=cS.iso (cS.prod (cS.sl ki) (cS.prod (cS.sl kb) (cS.sl ki))) (fun p=>⟨p.1,p.2.1,p.2.2⟩) (fun c=>(c.uses,c.used,c.free)) (fun _=>rfl)
structure aP where
 slots:aU
 heap:List (Int×Int×Int×Int×Int)
 where_:List Int
def hJ:cS aP:=cS.iso (cS.prod pZ (cS.prod (cS.sl lA) (cS.sl ki))) (fun p=>⟨p.1,p.2.1,p.2.2⟩) (fun c=>(c.slots,c.heap,c.where_)) (fun _=>rfl)
structure bK where
 next_:Int
 list:List (Int×Int×Int)
def rS:cS bK:=cS.iso (cS.prod (cS.int .i64) (cS.sl fH)) (fun p=>⟨p.1,p.2⟩) (fun c=>(c.next_,c.list)) (fun _=>rfl)
structure aO where
 now:Int×Int
 field:Field
 certs:bK
 agenda:aP
 due:List (Int×Int×Int)
def dI:cS aO:=cS.iso (cS.prod (cS.row jY) (cS.prod dH (cS.prod rS (cS.prod hJ (cS.sl fH))))) (fun p=>⟨p.1,p.2.1,p.2.2.1,p.2.2.2.1,p.2.2.2.2⟩) (fun c=>(c.now,c.field,c.certs,c.agenda,c.due)) (fun _=>rfl)
structure bG where
 places:List Int
 wins:List Int
def hO:cS bG:=cS.iso (cS.prod (cS.sl ki) (cS.sl ki)) (fun p=>⟨p.1,p.2⟩) (fun c=>(c.places,c.wins)) (fun _=>rfl)
structure bO where
 clock:aO
 bracket:bG
def kQ:cS bO:=cS.iso (cS.prod dI hO) (fun p=>⟨p.1,p.2⟩) (fun c=>(c.clock,c.bracket)) (fun _=>rfl)
theorem yI:aJ tab 124 (bV.clone fH):=aJ.clone aJM rfl
theorem rT:aJ tab 67 (bV.clone ki):=aJ.clone aR8 rfl
theorem aE9:aJ tab 300 (bV.add64):=aJ.add64 aLn
theorem yJ:aJ tab 184 (bV.clone kb):=aJ.clone aKl rfl
theorem B8:aJ tab 181 (bV.clone fH):=aJ.clone aKi rfl
theorem J3:aJ tab 182 (bV.clone fH):=aJ.clone aKj rfl
theorem yK:aJ tab 183 (bV.clone lA):=aJ.clone aKk rfl
theorem XZ:aJ tab 315 (bV.clone ki):=aJ.clone aLt rfl
abbrev lB:aO:=aO.mk (0,0) (Field.mk []) (bK.mk 0 []) (aP.mk (aU.mk [] [] []) [] []) []
section
abbrev rH:=List (Int×Int×Int×Int×Int)
abbrev cT:=List (Int×Int×Int)
abbrev qJ:=List (Int×Int)
abbrev aDv:=qJ×qJ×Int×Int×Int×Int×cT×Int×cT×(List Int)×(List Bool)×(List Int)×rH×(List Int)×cT×cT×Int×Int×Int
abbrev aUf:=bS aDv (aO×Int)
abbrev Zt1:=bS aDv aUf
abbrev Zt4:=cT×Int×Int×Int×Int×cT×Int×cT×(List Int)×(List Bool)×(List Int)×rH×(List Int)×cT×cT×Int×Int×Int×Int×Int×Int×cT×(List Int)×(List Bool)×(List Int)×rH×(List Int)×cT×cT
abbrev aUg:=qJ×cT×Int×Int×Int×Int×cT×Int×cT×(List Int)×(List Bool)×(List Int)×rH×(List Int)×cT×cT×Int×Int×Int
abbrev Zt5:=bS aUg (aO×Int)
abbrev aUh:=cT×Int×Int×Int×Int×cT×Int×cT×(List Int)×(List Bool)×(List Int)×rH×(List Int)×cT×cT×Int×Int×Int
abbrev Zt6:=bS aUh (aO×Int)
abbrev Zt7:=Int×Int×cT×Int×cT×(List Int)×(List Bool)×(List Int)×rH×(List Int)×cT×(List Int)×(List Int)×Int×Int×Int×Int×Int×qJ
abbrev Zt8:=cT×cT×Int×Int×Int×Int×cT×Int×cT×(List Int)×(List Bool)×(List Int)×rH×(List Int)×cT
abbrev Zt9:=qJ×Int×Int×Int×Int×cT×Int×cT×(List Int)×(List Bool)×(List Int)×rH×(List Int)×cT×Int×Int×Int
abbrev aUi:=Int×Int×Int×Int×cT×Int×cT×(List Int)×(List Bool)×(List Int)×rH×(List Int)×cT×(List Int)
abbrev aUj:=bS aUi Int
abbrev aUk:=Int×Int×Int×Int×cT×Int×cT×(List Int)×(List Bool)×(List Int)×rH×(List Int)×cT
abbrev aUl:=Int×rH×(List Int)×(List Int)×(List Bool)×(List Int)×Nat×Nat×Int×Int×Int×Int×Int
abbrev aDw:=rH×(List Int)
abbrev aUm:=bS aUl aDw
abbrev aUn:=Int×rH×(List Int)×(List Int)×(List Bool)×(List Int)×Int×Int×Int×Int×Int
abbrev aUo:=bS aUn aDw
abbrev aLw:=(List Int)×Int×Int×(List Int)×(List Int)×(List (Int×Bool))
abbrev aUp:=bS aLw Int
abbrev aUq:=bS aLw aUp
abbrev aUr:=rH×Int×Int×(List Int)×(List Bool)×(List Int)×rH×(List Int)×(List (List Int))
abbrev aUs:=Int×Int×rH×(List Int)×(List Int)×(List Bool)×(List Int)×Nat×Nat×Int×Int×Int×Int×Int
abbrev aLx:=(List Int)×(List Bool)×(List Int)×Nat×Nat×Int×Int×Int×Int×Int×Int×rH×(List Int)
abbrev aUt:=Int×Int×rH×(List Int)×(List Int)×(List Bool)×(List Int)×Int×Int×Int×Int×Int
abbrev aUu:=Int×Int×(List Int)×(List Bool)×(List Int)×rH×(List Int)×Int×Int×Int×Int×Int
abbrev aLy:=(List Int)×(List Bool)×(List Int)×Int×Int×Int×Int×Int×Int×rH×(List Int)
abbrev aUv:=(List Int)×Int×Int×(List Int)×(List Bool)×(List Int)×rH×(List Int)
abbrev aUw:=bS aUv Int
abbrev aUx:=(List Int)×Int×Int×cT×Int×Int×(List (Int×Bool))
abbrev aUy:=bS aUx (bG×Int)
abbrev aLz:=Int×(List Int)×(List Bool)×(List Int)×rH×(List Int)
abbrev aSx:=bS aLz Int
abbrev aUz:=Int×Int×(List Int)×(List Bool)×(List Int)×rH×(List Int)
abbrev aUA:=Int×cT×Int×Int×Int×cT×(List (List Int))
abbrev aUB:=(List Int)×Int×Int×(List Int)×(List Bool)×(List Int)×Int×(List Bool)
abbrev aUC:=bS aUB Int
abbrev aLA:=Int×cT×Int×Int×(List Int)×(List Int)
abbrev RQ:=cT×Int×Int×Int×Int
abbrev aFa:=bS RQ (Int×Bool)
abbrev aFb:=cT×Int×Int×cT
abbrev aFc:=Int×Int×(List Int)×(List Bool)×(List Int)×(List Bool)
abbrev aFd:=Int×Int×cT
abbrev aSy:=bS aFd Int
abbrev X0:=Int×cT
abbrev aFe:=Int×Int×(List Int)
variable [LP]
def MW:Option Field:=some (Field.mk [(1,0,2),(2,6,-1),(5,0,0)])
def c25:bV:=⟨aF.nil,aM.agg dH,fun _=>MW,.frz,false⟩
theorem aSz:aJ tab 25 c25:=Oc aRE rfl aI [] trivial fun a=>by kernel_rfl
def PO (p0:Int):Option (Int×Int):=some (p0,1)
def c26:bV:=⟨aF.one (aM.int .i64),aM.agg (cS.row jY),fun a=>PO a,.pure,false⟩
theorem aSA:aJ tab 26 c26:=Oc aRF rfl aI [] trivial fun a=>by kernel_rfl
def rU (p0:Int):Option Bool:=bif decide (p0<(-1048576)) then some true else some (decide (1048576<p0))
def aUD:bV:=⟨aF.one (aM.int .i64),aM.bool,fun a=>rU a,.pure,false⟩
theorem aLB:aJ tab 249 aUD:=Oc aK0 rfl aI [] trivial fun a=>by kernel_rfl
def oW (p0:Int×Int×Int):Option Int:=bif decide (p0.1<0) then some 8 else bif decide (65535<p0.1) then some 8 else (rU p0.2.1).bind fun b0=>bif b0 then some 8 else (rU p0.2.2).bind fun b1=>bif b1 then some 8 else some 0
def aSB:bV:=⟨aF.one (aM.agg (cS.row fH)),aM.int .i64,fun a=>oW a,.pure,false⟩
theorem aCi:aJ tab 191 aSB:=Oc aKp rfl aI [(249,aUD)] ⟨aLB,trivial⟩ fun a=>by kernel_rfl
def jZ (s:aFb):Option (bS aFb (bS aFb Int)):=bif decide (s.2.2.1<s.2.1) then (aL s.1 s.2.2.1).bind fun a0=>bif decide (0<s.2.2.1) then (aL s.2.2.2 (aA .i64 (s.2.2.1-1))).bind fun a1=>bif decide (a0.1<=a1.1) then some (.done (.done 32)) else some (.next (s.1,s.2.1,aA .i64 (s.2.2.1+1),s.2.2.2)) else some (.next (s.1,s.2.1,aA .i64 (s.2.2.1+1),s.2.2.2)) else some (.done (.done 0))
def oI (s:aFb):Option (bS aFb Int):=bif decide (s.2.2.1<s.2.1) then (aL s.1 s.2.2.1).bind fun a0=>(oW a0).bind fun n1=>bif n1 !=0 then some (.done n1) else some (.next (s.1,s.2.1,aA .i64 (s.2.2.1+1),s.2.2.2)) else aG jZ (s.2.2.2,aa s.2.2.2.length,0,s.2.2.2)
def eW (p0:Field):Option Int:=bif decide (64<(aa p0.points.length)) then some 4 else aG oI (p0.points,aa p0.points.length,0,p0.points)
def X1:bV:=⟨aF.one (aM.agg dH),aM.int .i64,fun a=>eW a,.pure,false⟩
theorem C9:aJ tab 122 X1:=Oc aJK rfl aI [(191,aSB)] ⟨aCi,trivial⟩ fun a=>by kernel_rfl
def nN (p0:Int):Option Int:=bif decide (p0<0) then some (aA .u64 (0- (aA .u64 p0))) else some (aA .u64 p0)
def aLC:bV:=⟨aF.one (aM.int .i64),aM.int .u64,fun a=>nN a,.pure,false⟩
theorem U3:aJ tab 106 aLC:=Oc aJB rfl aI [] trivial fun a=>by kernel_rfl
def xL (s:(Int×Int)):Option (bS (Int×Int) Int):=bif decide (0<s.2) then bif s.2==0 then none else some (.next (s.2,ae s.1 s.2)) else some (.done s.1)
def B9 (p0:Int) (p1:Int):Option Int:=aG xL (p0,p1)
def aSC:bV:=⟨aF.cons (aM.int .u64) (aF.one (aM.int .u64)),aM.int .u64,fun a=>B9 a.1 a.2,.pure,false⟩
theorem aCj:aJ tab 105 aSC:=Oc aJA rfl aI [] trivial fun a=>by kernel_rfl
def eL (p0:Int×Int):Option Int:=bif decide (p0.2<1) then some 8 else bif p0.1==(-9223372036854775808) then some 8 else (nN p0.1).bind fun n0=>(B9 (aA .u64 p0.2) n0).bind fun n1=>bif decide (1<n1) then some 8 else some 0
def c49:bV:=⟨aF.one (aM.agg (cS.row jY)),aM.int .i64,fun a=>eL a,.pure,false⟩
theorem yL:aJ tab 49 c49:=Oc aRV rfl aI [(106,aLC),(105,aSC)] ⟨U3,aCj,trivial⟩ fun a=>by kernel_rfl
def X2 (s:(Int×Int×Int×(List Int)×(List Bool)×(List Int))):Option (bS (Int×Int×Int×(List Int)×(List Bool)×(List Int)) (aU×Int)):=bif decide (s.2.2.1<s.2.1) then (aL s.2.2.2.2.2 s.2.2.1).bind fun _=>some (.next (s.1,s.2.1,aA .i64 (s.2.2.1+1),s.2.2.2.1,s.2.2.2.2.1,cL s.2.2.2.2.2 s.2.2.1 (aA .i64 ((aA .i64 (s.1-1)) -s.2.2.1)))) else some (.done (aU.mk s.2.2.2.1 s.2.2.2.2.1 s.2.2.2.2.2,0))
def X3 (p0:Int):Option (aU×Int):=bif decide (p0<1) then some (aU.mk [] [] [],2) else bif decide (200<p0) then some (aU.mk [] [] [],2) else bif p0==p0 then (xB p0 (0:Int)).bind fun l0=>bif p0==p0 then (xB p0 (false:Bool)).bind fun l1=>bif p0==p0 then (xB p0 (0:Int)).bind fun l2=>aG X2 (p0,p0,0,l0,l1,l2) else none else none else none
def aUE:bV:=⟨aF.one (aM.int .i64),aM.tup (aF.cons (aM.agg pZ) (aF.one (aM.int .i64))),fun a=>X3 a,.frz,false⟩
theorem aLD:aJ tab 192 aUE:=Oc aKq rfl aI [] trivial fun a=>by kernel_rfl
def NA (p0:Int) (p1:Int):Option (Int×Int):=some (aA .u32 (iM .u64 (aA .u64 ((aA .u64 p0)*(aA .u64 p1))) 32),aA .u32 (aA .u64 ((aA .u64 p0)*(aA .u64 p1))))
def aUF:bV:=⟨aF.cons (aM.int .u32) (aF.one (aM.int .u32)),aM.tup (aF.cons (aM.int .u32) (aF.one (aM.int .u32))),fun a=>NA a.1 a.2,.pure,false⟩
theorem aLE:aJ tab 250 aUF:=Oc aK1 rfl aI [] trivial fun a=>by kernel_rfl
def iY (p0:Int) (p1:Int):Option (Int×Int):=some (aA .u64 ((aA .u64 ((aA .u64 ((iM .u64 p0 32)*(iM .u64 p1 32)))+(iM .u64 (aA .u64 ((aA .u64 ((iM .u64 p0 32)*(HY .u64 p1 4294967295)))+(iM .u64 (aA .u64 ((HY .u64 p0 4294967295)*(HY .u64 p1 4294967295))) 32))) 32)))+(iM .u64 (aA .u64 ((HY .u64 (aA .u64 ((aA .u64 ((iM .u64 p0 32)*(HY .u64 p1 4294967295)))+(iM .u64 (aA .u64 ((HY .u64 p0 4294967295)*(HY .u64 p1 4294967295))) 32))) 4294967295)+(aA .u64 ((HY .u64 p0 4294967295)*(iM .u64 p1 32))))) 32)),aA .u64 (p0*p1))
def aLF:bV:=⟨aF.cons (aM.int .u64) (aF.one (aM.int .u64)),aM.tup (aF.cons (aM.int .u64) (aF.one (aM.int .u64))),fun a=>iY a.1 a.2,.pure,false⟩
theorem U4:aJ tab 172 aLF:=Oc aKa rfl aI [] trivial fun a=>by kernel_rfl
def HC (p0:Int) (p1:Int):Option (Int×Int):=(iY p0 p1).bind fun a0=>some a0
def aSD:bV:=⟨aF.cons (aM.int .u64) (aF.one (aM.int .u64)),aM.tup (aF.cons (aM.int .u64) (aF.one (aM.int .u64))),fun a=>HC a.1 a.2,.pure,false⟩
theorem aCk:aJ tab 193 aSD:=Oc aKr rfl aI [(250,aUF),(172,aLF)] ⟨aLE,U4,trivial⟩ fun a=>by kernel_rfl
def vO (s:(Int×(List Int))):Option (bS (Int×(List Int)) (List Int)):=bif decide (s.1<(aa s.2.length)) then bif ((decide (0<=s.1))&&(decide (s.1<=(aa s.2.length))))&&(decide ((aa s.2.length)<=(aa s.2.length))) then (iX s.2 0 s.1).bind fun _=>bif ((s.2.take s.1.toNat).take (((aa s.2.length).toNat) -s.1.toNat)).isEmpty then some (.next (aA .i64 (s.1+0),s.2)) else bif (ai ((0+s.1.toNat)+(((s.2.take s.1.toNat).take (((aa s.2.length).toNat) -s.1.toNat)).length)) s.2.length)&&(!false) then some (.next (aA .i64 (s.1+(aa (((s.2.take s.1.toNat).take (((aa s.2.length).toNat) -s.1.toNat)).length))),jP s.2 (0+s.1.toNat) ((s.2.take s.1.toNat).take (((aa s.2.length).toNat) -s.1.toNat)))) else none else none else some (.done s.2)
def nW (p0:List Int) (p1:Int):Option (List Int):=bif decide (p1<0) then none else (HC (aA .u64 (aa p0.length)) (aA .u64 p1)).bind fun a0=>bif decide (0<a0.1) then none else bif decide (9223372036854775807<a0.2) then none else bif (aA .i64 a0.2)==(aA .i64 a0.2) then (xB (aA .i64 a0.2) (0:Int)).bind fun l1=>bif (p0.take l1.length).isEmpty then aG vO (0,l1) else bif (ai (0+((p0.take l1.length).length)) l1.length)&&(!false) then aG vO (aa ((p0.take l1.length).length),jP l1 0 (p0.take l1.length)) else none else none
def aSE:bV:=⟨aF.cons (aM.sl ki) (aF.one (aM.int .i64)),aM.sl ki,fun a=>nW a.1 a.2,.own,true⟩
def aFf:bV:=⟨aF.cons (aM.sl ki) (aF.one (aM.int .i64)),aM.sl ki,fun a=>nW a.1 a.2,.frz,false⟩
theorem aCl:aJ tab 125 aSE:=Oc aB6 rfl aI [(193,aSD)] ⟨aCk,trivial⟩ fun a=>by kernel_rfl
theorem X4:aJ tab 125 aFf:=Oc aB6 rfl aI [(193,aSD)] ⟨aCk,trivial⟩ fun a=>by kernel_rfl
def PP (p0:Int):Option (aP×Int):=(X3 p0).bind fun a0=>bif a0.2 !=0 then some (aP.mk (aU.mk [] [] []) [] [],a0.2) else (nW [-1] p0).bind fun l1=>some (aP.mk a0.1 [] l1,0)
def aUG:bV:=⟨aF.one (aM.int .i64),aM.tup (aF.cons (aM.agg hJ) (aF.one (aM.int .i64))),fun a=>PP a,.frz,false⟩
theorem aLG:aJ tab 123 aUG:=Oc aJL rfl aI [(192,aUE),(125,aSE),(125,aFf)] ⟨aLD,aCl,X4,trivial⟩ fun a=>by kernel_rfl
def S8 (p0:Field) (p1:Int×Int):Option (aO×Int):=(eW p0).bind fun n0=>bif n0 !=0 then some (lB,n0) else (eL p1).bind fun n1=>bif n1 !=0 then some (lB,n1) else (PP 200).bind fun a2=>(cA p0.points).bind fun l3=>some (aO.mk p1 (Field.mk l3) (bK.mk 0 []) a2.1 [],a2.2)
def c59:bV:=⟨aF.cons (aM.agg dH) (aF.one (aM.agg (cS.row jY))),aM.tup (aF.cons (aM.agg dI) (aF.one (aM.int .i64))),fun a=>S8 a.1 a.2,.frz,false⟩
theorem aSF:aJ tab 59 c59:=Oc aR2 rfl aI [(122,X1),(49,c49),(123,aUG),(124,bV.clone fH)] ⟨C9,yL,aLG,yI,trivial⟩ fun a=>by kernel_rfl
def NB (s:(cT×Int×Int×(List Int))):Option (bS (cT×Int×Int×(List Int)) (bS X0 (List Int))):=bif decide (s.2.2.1<s.2.1) then (aL s.1 s.2.2.1).bind fun a0=>(aL s.2.2.2 s.2.2.1).bind fun _=>some (.next (s.1,s.2.1,aA .i64 (s.2.2.1+1),cL s.2.2.2 s.2.2.1 a0.1)) else some (.done (.done s.2.2.2))
def NC (s:X0):Option (bS X0 (List Int)):=bif decide (s.1<(aa s.2.length)) then some (.next (aA .i64 (s.1*2),s.2)) else (nW [-1] s.1).bind fun l0=>aG NB (s.2,aa s.2.length,0,l0)
def J4 (p0:Field):Option (List Int):=aG NC (1,p0.points)
def c60:bV:=⟨aF.one (aM.agg dH),aM.sl ki,fun a=>J4 a,.frz,false⟩
theorem aSG:aJ tab 60 c60:=Oc aR3 rfl aI [(125,aSE),(125,aFf)] ⟨aCl,X4,trivial⟩ fun a=>by kernel_rfl
def A6 (p0:Field) (p1:Int×Int):Option Int:=(eW p0).bind fun n0=>bif n0 !=0 then some n0 else (eL p1).bind fun n1=>some n1
def aUH:bV:=⟨aF.cons (aM.agg dH) (aF.one (aM.agg (cS.row jY))),aM.int .i64,fun a=>A6 a.1 a.2,.pure,false⟩
theorem aLH:aJ tab 185 aUH:=Oc aKm rfl aI [(122,X1),(49,c49)] ⟨C9,yL,trivial⟩ fun a=>by kernel_rfl
def uM (p0:Int):Option Bool:=some (p0 !=p0)
def aUI:bV:=⟨aF.one (aM.int .i64),aM.bool,fun a=>uM a,.pure,false⟩
theorem aLI:aJ tab 260 aUI:=Oc aK5 rfl aI [] trivial fun a=>by kernel_rfl
def fG (p0:Int) (p1:Int):Option Int:=(uM p0).bind fun b0=>(uM p1).bind fun b1=>bif b0 then bif b1 then some 0 else some (-1) else bif b1 then some 1 else bif decide (p0<p1) then some (-1) else bif decide (p1<p0) then some 1 else some 0
def X5:bV:=⟨aF.cons (aM.int .i64) (aF.one (aM.int .i64)),aM.int .i64,fun a=>fG a.1 a.2,.pure,false⟩
theorem DA:aJ tab 232 X5:=Oc aKL rfl aI [(260,aUI)] ⟨aLI,trivial⟩ fun a=>by kernel_rfl
def yM (p0:Int×Int×Int) (p1:Int):Option Int:=(fG p0.1 p1).bind fun n0=>some n0
def aUJ:bV:=⟨aF.cons (aM.agg (cS.row fH)) (aF.one (aM.int .i64)),aM.int .i64,fun a=>yM a.1 a.2,.pure,false⟩
theorem aLJ:aJ tab 293 aUJ:=Oc aLk rfl aI [(232,X5)] ⟨DA,trivial⟩ fun a=>by kernel_rfl
def jK (s:RQ):Option aFa:=bif decide (s.2.2.2.1<s.2.2.2.2) then (aL s.1 (aA .i64 (iM .u64 (aA .u64 (aA .i64 (s.2.2.2.1+s.2.2.2.2))) 1))).bind fun a0=>(yM a0 s.2.1).bind fun n1=>bif decide (n1<0) then some (.next (s.1,s.2.1,s.2.2.1,aA .i64 ((aA .i64 (iM .u64 (aA .u64 (aA .i64 (s.2.2.2.1+s.2.2.2.2))) 1))+1),s.2.2.2.2)) else some (.next (s.1,s.2.1,s.2.2.1,s.2.2.2.1,aA .i64 (iM .u64 (aA .u64 (aA .i64 (s.2.2.2.1+s.2.2.2.2))) 1))) else bif decide (s.2.2.2.1<s.2.2.1) then (aL s.1 s.2.2.2.1).bind fun a2=>(yM a2 s.2.1).bind fun n3=>some (.done (s.2.2.2.1,n3==0)) else some (.done (s.2.2.2.1,false))
def dF (p0:List (Int×Int×Int)) (p1:Int) (_:Unit):Option (Int×Bool):=aG jK (p0,p1,aa p0.length,0,aa p0.length)
def X6:bV:=⟨aF.cons (aM.sl fH) (aF.cons (aM.int .i64) (aF.one (aM.clo 293 aF.nil))),aM.tup (aF.cons (aM.int .i64) (aF.one aM.bool)),fun a=>dF a.1 a.2.1 a.2.2,.pure,false⟩
theorem X7:aJ tab 253 X6:=Oc U1 rfl aI [(293,aUJ)] ⟨aLJ,trivial⟩ fun a=>by kernel_rfl
def kS (p0:Field) (p1:Int):Option (Int×Bool):=(dF p0.points p1 ()).bind fun a0=>some a0
def aSH:bV:=⟨aF.cons (aM.agg dH) (aF.one (aM.int .i64)),aM.tup (aF.cons (aM.int .i64) (aF.one aM.bool)),fun a=>kS a.1 a.2,.pure,false⟩
theorem aCm:aJ tab 247 aSH:=Oc aKZ rfl aI [(253,X6)] ⟨X7,trivial⟩ fun a=>by kernel_rfl
def oX (s:((List Int)×Int×Int×cT)):Option (bS ((List Int)×Int×Int×cT) Bool):=bif decide (s.2.2.1<s.2.1) then (aL s.1 s.2.2.1).bind fun n0=>(kS (Field.mk s.2.2.2) n0).bind fun a1=>bif a1.2 then some (.next (s.1,s.2.1,aA .i64 (s.2.2.1+1),s.2.2.2)) else bif !(n0==(-1)) then some (.done (!(decide (0<=s.2.2.1)))) else some (.next (s.1,s.2.1,aA .i64 (s.2.2.1+1),s.2.2.2)) else some (.done (!(decide (0<=(-1)))))
def uN (p0:Field) (p1:List Int):Option Bool:=aG oX (p1,aa p1.length,0,p0.points)
def aUK:bV:=⟨aF.cons (aM.agg dH) (aF.one (aM.sl ki)),aM.bool,fun a=>uN a.1 a.2,.pure,false⟩
theorem aLK:aJ tab 186 aUK:=aJ.of aKn (cx:=(qH aI [(247,aSH)] [] [(132,aDr),(200,aAS),(134,XY),(201,aDs),(246,aIy)] [])) rfl (nG.make ⟨aCm,trivial⟩ trivial ⟨UX,NP,J2,UZ,aKY,trivial⟩) (fun a=>by kernel_rfl)
def gP (p0:bG) (p1:Int):Option Int:=bif decide (0<=(aA .i64 (p1- (aa p0.wins.length)))) then (aL p0.places (aA .i64 (p1- (aa p0.wins.length)))).bind fun n0=>some n0 else (aL p0.wins p1).bind fun n1=>some n1
def aLL:bV:=⟨aF.cons (aM.agg hO) (aF.one (aM.int .i64)),aM.int .i64,fun a=>gP a.1 a.2,.pure,false⟩
theorem U5:aJ tab 126 aLL:=Oc aJN rfl aI [] trivial fun a=>by kernel_rfl
def tI (p0:Int×Int×Int) (p1:Int×Int×Int) (p2:Int×Int):Option Int:=(oW p0).bind fun n0=>(oW p1).bind fun n1=>(eL p2).bind fun n2=>bif (if n2>(if n1>n0 then n1 else n0) then n2 else if n1>n0 then n1 else n0) !=0 then some (if n2>(if n1>n0 then n1 else n0) then n2 else if n1>n0 then n1 else n0) else bif p0.1==p1.1 then some 2 else some 0
def aLM:bV:=⟨aF.cons (aM.agg (cS.row fH)) (aF.cons (aM.agg (cS.row fH)) (aF.one (aM.agg (cS.row jY)))),aM.int .i64,fun a=>tI a.1 a.2.1 a.2.2,.pure,false⟩
theorem U6:aJ tab 225 aLM:=Oc aKG rfl aI [(191,aSB),(49,c49)] ⟨aCi,yL,trivial⟩ fun a=>by kernel_rfl
def pQ (s:(Int×Int×Int×Int×Int×Int×Int×Int×Int)):Option (bS (Int×Int×Int×Int×Int×Int×Int×Int×Int) (Int×Int)):=bif decide (s.2.2.2.2.1<2) then bif s.2.2.2.2.1==0 then (iY (aA .u64 s.1) (aA .u64 s.2.1)).bind fun a0=>bif decide (s.1<0) then bif decide (s.2.1<0) then (tH s.2.2.2.2.2.2.2.2 a0.2 0).bind fun a1=>some (.next (s.1,s.2.1,s.2.2.1,s.2.2.2.1,aA .i64 (s.2.2.2.2.1+1),s.2.2.2.2.2.1,s.2.2.2.2.2.2.1,aA .i64 ((aA .i64 (s.2.2.2.2.2.2.2.1+(aA .i64 ((aA .i64 ((aA .i64 a0.1) -s.2.1)) -s.1))))+(aA .i64 a1.2)),a1.1)) else (tH s.2.2.2.2.2.2.2.2 a0.2 0).bind fun a2=>some (.next (s.1,s.2.1,s.2.2.1,s.2.2.2.1,aA .i64 (s.2.2.2.2.1+1),s.2.2.2.2.2.1,s.2.2.2.2.2.2.1,aA .i64 ((aA .i64 (s.2.2.2.2.2.2.2.1+(aA .i64 ((aA .i64 a0.1) -s.2.1))))+(aA .i64 a2.2)),a2.1)) else bif decide (s.2.1<0) then (tH s.2.2.2.2.2.2.2.2 a0.2 0).bind fun a3=>some (.next (s.1,s.2.1,s.2.2.1,s.2.2.2.1,aA .i64 (s.2.2.2.2.1+1),s.2.2.2.2.2.1,s.2.2.2.2.2.2.1,aA .i64 ((aA .i64 (s.2.2.2.2.2.2.2.1+(aA .i64 ((aA .i64 a0.1) -s.1))))+(aA .i64 a3.2)),a3.1)) else (tH s.2.2.2.2.2.2.2.2 a0.2 0).bind fun a4=>some (.next (s.1,s.2.1,s.2.2.1,s.2.2.2.1,aA .i64 (s.2.2.2.2.1+1),s.2.2.2.2.2.1,s.2.2.2.2.2.2.1,aA .i64 ((aA .i64 (s.2.2.2.2.2.2.2.1+(aA .i64 a0.1)))+(aA .i64 a4.2)),a4.1)) else bif s.2.2.2.2.1==1 then (iY (aA .u64 s.2.2.1) (aA .u64 s.2.2.2.1)).bind fun a5=>bif decide (s.2.2.1<0) then bif decide (s.2.2.2.1<0) then (tH s.2.2.2.2.2.2.2.2 a5.2 0).bind fun a6=>some (.next (s.1,s.2.1,s.2.2.1,s.2.2.2.1,aA .i64 (s.2.2.2.2.1+1),s.2.2.2.2.2.1,s.2.2.2.2.2.2.1,aA .i64 ((aA .i64 (s.2.2.2.2.2.2.2.1+(aA .i64 ((aA .i64 ((aA .i64 a5.1) -s.2.2.2.1)) -s.2.2.1))))+(aA .i64 a6.2)),a6.1)) else (tH s.2.2.2.2.2.2.2.2 a5.2 0).bind fun a7=>some (.next (s.1,s.2.1,s.2.2.1,s.2.2.2.1,aA .i64 (s.2.2.2.2.1+1),s.2.2.2.2.2.1,s.2.2.2.2.2.2.1,aA .i64 ((aA .i64 (s.2.2.2.2.2.2.2.1+(aA .i64 ((aA .i64 a5.1) -s.2.2.2.1))))+(aA .i64 a7.2)),a7.1)) else bif decide (s.2.2.2.1<0) then (tH s.2.2.2.2.2.2.2.2 a5.2 0).bind fun a8=>some (.next (s.1,s.2.1,s.2.2.1,s.2.2.2.1,aA .i64 (s.2.2.2.2.1+1),s.2.2.2.2.2.1,s.2.2.2.2.2.2.1,aA .i64 ((aA .i64 (s.2.2.2.2.2.2.2.1+(aA .i64 ((aA .i64 a5.1) -s.2.2.1))))+(aA .i64 a8.2)),a8.1)) else (tH s.2.2.2.2.2.2.2.2 a5.2 0).bind fun a9=>some (.next (s.1,s.2.1,s.2.2.1,s.2.2.2.1,aA .i64 (s.2.2.2.2.1+1),s.2.2.2.2.2.1,s.2.2.2.2.2.2.1,aA .i64 ((aA .i64 (s.2.2.2.2.2.2.2.1+(aA .i64 a5.1)))+(aA .i64 a9.2)),a9.1)) else none else some (.done s.2.2.2.2.2.2.2)
def DB (p0:Int×Int×Int×Int):Option (Int×Int):=aG pQ (p0.1,p0.2.1,p0.2.2.1,p0.2.2.2,0,0,0,0,0)
def aUL:bV:=⟨aF.one (aM.agg (cS.row aUe)),aM.agg (cS.row kiu),fun a=>DB a,.pure,false⟩
theorem aLN:aJ tab 271 aUL:=Oc aK8 rfl aI [(172,aLF),(300,bV.add64)] ⟨U4,aE9,trivial⟩ fun a=>by kernel_rfl
def qA (p0:Int):Option Bool:=some (p0 !=p0)
def aUM:bV:=⟨aF.one (aM.int .i64),aM.bool,fun a=>qA a,.pure,false⟩
theorem aLO:aJ tab 170 aUM:=Oc aJ8 rfl aI [] trivial fun a=>by kernel_rfl
def kT (p0:Int) (p1:Int):Option Int:=(qA p0).bind fun b0=>(qA p1).bind fun b1=>bif b0 then bif b1 then some 0 else some (-1) else bif b1 then some 1 else bif decide (p0<p1) then some (-1) else bif decide (p1<p0) then some 1 else some 0
def aSI:bV:=⟨aF.cons (aM.int .i64) (aF.one (aM.int .i64)),aM.int .i64,fun a=>kT a.1 a.2,.pure,false⟩
theorem aCn:aJ tab 108 aSI:=Oc aJD rfl aI [(170,aUM)] ⟨aLO,trivial⟩ fun a=>by kernel_rfl
def A7 (s:(Int×(List Int)×Int×Int)):Option (bS (Int×(List Int)×Int×Int) Int):=bif decide (s.2.2.2<s.2.2.1) then (aL s.2.1 s.2.2.2).bind fun n0=>bif n0 !=s.1 then some (.done n0) else some (.next (s.1,s.2.1,s.2.2.1,aA .i64 (s.2.2.2+1))) else some (.done s.1)
def yN (p0:List Int):Option Int:=aG A7 (0,p0,aa p0.length,0)
def aSJ:bV:=⟨aF.one (aM.sl ki),aM.int .i64,fun a=>yN a,.pure,false⟩
theorem aCo:aJ tab 231 aSJ:=Oc aKK rfl aI [] trivial fun a=>by kernel_rfl
def oJ (p0:Int×Int×Int) (p1:Int×Int×Int) (p2:Int×Int):Option Int:=(DB (aA .i64 (p0.2.1-p1.2.1),p2.2,aA .i64 (p0.2.2-p1.2.2),p2.1)).bind fun a0=>bif !((a0.1==0)&&(a0.2==0)) then bif decide (a0.1<0) then some (-1) else some 1 else (kT p0.2.2 p1.2.2).bind fun n1=>(fG p1.1 p0.1).bind fun n2=>(yN [n1,n2]).bind fun n3=>some n3
def aSK:bV:=⟨aF.cons (aM.agg (cS.row fH)) (aF.cons (aM.agg (cS.row fH)) (aF.one (aM.agg (cS.row jY)))),aM.int .i64,fun a=>oJ a.1 a.2.1 a.2.2,.pure,false⟩
theorem aCp:aJ tab 226 aSK:=Oc aKH rfl aI [(271,aUL),(108,aSI),(232,X5),(231,aSJ)] ⟨aLN,aCn,DA,aCo,trivial⟩ fun a=>by kernel_rfl
def mV (p0:Int×Int×Int) (p1:Int×Int×Int) (p2:Int×Int):Option (Bool×Int):=(tI p0 p1 p2).bind fun n0=>bif n0 !=0 then some (false,n0) else (oJ p0 p1 p2).bind fun n1=>some (decide (0<n1),0)
def aLP:bV:=⟨aF.cons (aM.agg (cS.row fH)) (aF.cons (aM.agg (cS.row fH)) (aF.one (aM.agg (cS.row jY)))),aM.tup (aF.cons aM.bool (aF.one (aM.int .i64))),fun a=>mV a.1 a.2.1 a.2.2,.pure,false⟩
theorem U7:aJ tab 159 aLP:=Oc aJ4 rfl aI [(225,aLM),(226,aSK)] ⟨U6,aCp,trivial⟩ fun a=>by kernel_rfl
def qX (p0:Field) (p1:Int×Int) (p2:Int) (p3:Int):Option Int:=bif decide ((if p3<p2 then p3 else p2)<0) then some (if p3>p2 then p3 else p2) else (kS p0 p2).bind fun a0=>(kS p0 p3).bind fun a1=>(aL p0.points a0.1).bind fun a2=>(aL p0.points a1.1).bind fun a3=>(mV a2 a3 p1).bind fun a4=>bif a4.1 then some p2 else some p3
def aUN:bV:=⟨aF.cons (aM.agg dH) (aF.cons (aM.agg (cS.row jY)) (aF.cons (aM.int .i64) (aF.one (aM.int .i64)))),aM.int .i64,fun a=>qX a.1 a.2.1 a.2.2.1 a.2.2.2,.pure,false⟩
theorem aLQ:aJ tab 187 aUN:=Oc aKo rfl aI [(247,aSH),(159,aLP)] ⟨aCm,U7,trivial⟩ fun a=>by kernel_rfl
def LS (s:aLA):Option (bS aLA (bG×Int)):=bif decide (0<=s.1) then (gP (bG.mk s.2.2.2.2.1 s.2.2.2.2.2) (aA .i64 ((aA .i64 (2*s.1))+1))).bind fun n0=>(gP (bG.mk s.2.2.2.2.1 s.2.2.2.2.2) (aA .i64 ((aA .i64 (2*s.1))+2))).bind fun n1=>(qX (Field.mk s.2.1) (s.2.2.1,s.2.2.2.1) n0 n1).bind fun n2=>(aL s.2.2.2.2.2 s.1).bind fun _=>some (.next (aA .i64 (s.1-1),s.2.1,s.2.2.1,s.2.2.2.1,s.2.2.2.2.1,cL s.2.2.2.2.2 s.1 n2)) else some (.done (bG.mk s.2.2.2.2.1 s.2.2.2.2.2,0))
def jR (s:aLA):Option (bS aLA aUy):=bif decide (0<=s.1) then (gP (bG.mk s.2.2.2.2.1 s.2.2.2.2.2) (aA .i64 ((aA .i64 (2*s.1))+1))).bind fun n0=>(gP (bG.mk s.2.2.2.2.1 s.2.2.2.2.2) (aA .i64 ((aA .i64 (2*s.1))+2))).bind fun n1=>(qX (Field.mk s.2.1) (s.2.2.1,s.2.2.2.1) n0 n1).bind fun n2=>(aL s.2.2.2.2.2 s.1).bind fun _=>some (.next (aA .i64 (s.1-1),s.2.1,s.2.2.1,s.2.2.2.1,s.2.2.2.2.1,cL s.2.2.2.2.2 s.1 n2)) else some (.done (.done (bG.mk s.2.2.2.2.1 s.2.2.2.2.2,0)))
def oY (c0:Int) (c1:(List Int)) (s:aUx):Option aUy:=bif decide (s.2.2.1<s.2.1) then (aL s.1 s.2.2.1).bind fun n0=>bif !(!(vK false s.2.2.2.2.2.2 n0)) then bif !(!(decide (0<=s.2.2.1))) then some (.done (bG.mk [] [],14)) else bif c0 !=0 then some (.done (bG.mk [] [],c0)) else (cA c1).bind fun l1=>bif (aA .i64 ((aa c1.length) -1))==(aA .i64 ((aa c1.length) -1)) then (xB (aA .i64 ((aa c1.length) -1)) (0:Int)).bind fun l2=>aG jR (aA .i64 ((aa l2.length) -1),s.2.2.2.1,s.2.2.2.2.1,s.2.2.2.2.2.1,l1,l2) else none else some (.next (s.1,s.2.1,aA .i64 (s.2.2.1+1),s.2.2.2.1,s.2.2.2.2.1,s.2.2.2.2.2.1,sX s.2.2.2.2.2.2 n0 (decide (0<=n0)))) else bif c0 !=0 then some (.done (bG.mk [] [],c0)) else (cA c1).bind fun l3=>bif (aA .i64 ((aa c1.length) -1))==(aA .i64 ((aa c1.length) -1)) then (xB (aA .i64 ((aa c1.length) -1)) (0:Int)).bind fun l4=>aG jR (aA .i64 ((aa l4.length) -1),s.2.2.2.1,s.2.2.2.2.1,s.2.2.2.2.2.1,l3,l4) else none
def uO (p0:Field) (p1:Int×Int) (p2:List Int):Option (bG×Int):=(A6 p0 p1).bind fun n0=>bif n0 !=0 then bif n0 !=0 then some (bG.mk [] [],n0) else (cA p2).bind fun l1=>bif (aA .i64 ((aa p2.length) -1))==(aA .i64 ((aa p2.length) -1)) then (xB (aA .i64 ((aa p2.length) -1)) (0:Int)).bind fun l2=>aG LS (aA .i64 ((aa l2.length) -1),p0.points,p1.1,p1.2,l1,l2) else none else bif decide ((aa p2.length)<1) then some (bG.mk [] [],2) else bif decide (64<(aa p2.length)) then some (bG.mk [] [],2) else (uN p0 p2).bind fun b3=>bif !b3 then some (bG.mk [] [],6) else aG (oY n0 p2) (p2,aa p2.length,0,p0.points,p1.1,p1.2,sX [] (-1) false)
def aUO:bV:=⟨aF.cons (aM.agg dH) (aF.cons (aM.agg (cS.row jY)) (aF.one (aM.sl ki))),aM.tup (aF.cons (aM.agg hO) (aF.one (aM.int .i64))),fun a=>uO a.1 a.2.1 a.2.2,.frz,false⟩
theorem aLR:aJ tab 115 aUO:=aJ.of aJJ (cx:=(qH aI [(185,aUH),(186,aUK),(67,bV.clone ki),(126,aLL),(187,aUN)] [] [(131,aE4),(132,aDr),(200,aAS),(134,XY),(201,aDs),(199,aE6)] [])) rfl (nG.make ⟨aLH,aLK,rT,U5,aLQ,trivial⟩ trivial ⟨aB7,UX,NP,J2,UZ,aCb,trivial⟩) (fun a=>by kernel_rfl)
def RR (p0:Int) (p1:bG):Option Int:=bif decide (p0<(aa p1.wins.length)) then (aL p1.wins p0).bind fun n0=>some n0 else (aL p1.places (aA .i64 (p0- (aa p1.wins.length)))).bind fun n1=>some n1
def aUP:bV:=⟨aF.cons (aM.int .i64) (aF.one (aM.ref hO)),aM.int .i64,fun a=>RR a.1 a.2,.pure,false⟩
theorem aLS:aJ tab 116 aUP:=Oc aB5 rfl aI [] trivial fun a=>by kernel_rfl
def oK (s:((List Int)×Int×Int×(List Int)×(List Int)×qJ)):Option (bS ((List Int)×Int×Int×(List Int)×(List Int)×qJ) (bG×qJ)):=match s with |(a,b,d,e,f,g)=>bif decide (d<b) then (aL a d).bind fun n0=>bif decide ((aA .i64 ((aA .i64 (2*d))+1))<(aa f.length)) then (aL f (aA .i64 ((aA .i64 (2*d))+1))).bind fun n1=>bif g.length==g.length then bif decide ((aA .i64 ((aA .i64 (2*d))+2))<(aa f.length)) then (aL f (aA .i64 ((aA .i64 (2*d))+2))).bind fun n2=>bif g.length==g.length then bif decide (0<=n1) then bif decide (0<=n2) then (bZ g [(aA .i64 ((aA .i64 (n1+n2)) -n0),n0)]).bind fun l3=>some (.next (a,b,aA .i64 (d+1),e,f,l3)) else some (.next (a,b,aA .i64 (d+1),(e,f,g))) else some (.next (a,b,aA .i64 (d+1),(e,f,g))) else none else (aL e (aA .i64 ((aA .i64 ((aA .i64 (2*d))+2)) - (aa f.length)))).bind fun n4=>bif g.length==g.length then bif decide (0<=n1) then bif decide (0<=n4) then (bZ g [(aA .i64 ((aA .i64 (n1+n4)) -n0),n0)]).bind fun l5=>some (.next (a,b,aA .i64 (d+1),e,f,l5)) else some (.next (a,b,aA .i64 (d+1),(e,f,g))) else some (.next (a,b,aA .i64 (d+1),(e,f,g))) else none else none else (aL e (aA .i64 ((aA .i64 ((aA .i64 (2*d))+1)) - (aa f.length)))).bind fun n6=>bif g.length==g.length then bif decide ((aA .i64 ((aA .i64 (2*d))+2))<(aa f.length)) then (aL f (aA .i64 ((aA .i64 (2*d))+2))).bind fun n7=>bif g.length==g.length then bif decide (0<=n6) then bif decide (0<=n7) then (bZ g [(aA .i64 ((aA .i64 (n6+n7)) -n0),n0)]).bind fun l8=>some (.next (a,b,aA .i64 (d+1),e,f,l8)) else some (.next (a,b,aA .i64 (d+1),(e,f,g))) else some (.next (a,b,aA .i64 (d+1),(e,f,g))) else none else (aL e (aA .i64 ((aA .i64 ((aA .i64 (2*d))+2)) - (aa f.length)))).bind fun n9=>bif g.length==g.length then bif decide (0<=n6) then bif decide (0<=n9) then (bZ g [(aA .i64 ((aA .i64 (n6+n9)) -n0),n0)]).bind fun l10=>some (.next (a,b,aA .i64 (d+1),e,f,l10)) else some (.next (a,b,aA .i64 (d+1),(e,f,g))) else some (.next (a,b,aA .i64 (d+1),(e,f,g))) else none else none else some (.done (bG.mk e f,g))
def jM (p0:Field) (p1:Int×Int) (p2:List Int):Option (bG×qJ):=(uO p0 p1 p2).bind fun a0=>aG oK (a0.1.wins,aa a0.1.wins.length,0,a0.1.places,a0.1.wins,[])
def c54:bV:=⟨aF.cons (aM.agg dH) (aF.cons (aM.agg (cS.row jY)) (aF.one (aM.sl ki))),aM.tup (aF.cons (aM.agg hO) (aF.one (aM.sl jY))),fun a=>jM a.1 a.2.1 a.2.2,.frz,false⟩
theorem U8:aJ tab 54 c54:=aJ.of aR0 (cx:=(qH aI [(115,aUO),(116,aUP)] [] [(116,aG8)] [])) rfl (nG.make ⟨aLR,aLS,trivial⟩ trivial ⟨aB5,trivial⟩) (fun a=>by kernel_rfl)
def yO (p0:Int×Int):Option Bool:=bif decide (0<=(if p0.2<p0.1 then p0.2 else p0.1)) then bif decide ((if p0.2>p0.1 then p0.2 else p0.1)<=65535) then some (p0.1 !=p0.2) else some false else some false
def aSL:bV:=⟨aF.one (aM.agg (cS.row jY)),aM.bool,fun a=>yO a,.pure,false⟩
theorem aCq:aJ tab 194 aSL:=Oc aKs rfl aI [] trivial fun a=>by kernel_rfl
def uP (s:aUA):Option (bS aUA Int):=bif decide (s.2.2.2.1<s.2.2.1) then (aL s.2.1 s.2.2.2.1).bind fun a0=>(yO a0.2).bind fun b1=>bif !b1 then some (.done 8) else (W5 s.2.2.2.2.2.2 [a0.2.1,a0.2.2]).bind fun b2=>bif b2 then some (.done 8) else bif decide (a0.1<=s.1) then some (.done 8) else bif decide (s.2.2.2.2.1<=a0.1) then some (.done 8) else (W6 s.2.2.2.2.2.2 [a0.2.1,a0.2.2]).bind fun l3=>some (.next (a0.1,s.2.1,s.2.2.1,aA .i64 (s.2.2.2.1+1),s.2.2.2.2.1,s.2.2.2.2.2.1,l3)) else some (.done 0)
def tJ (p0:bK):Option Int:=bif decide (200<(aa p0.list.length)) then some 8 else bif decide (p0.next_<0) then some 8 else bif decide (1000000<p0.next_) then some 8 else aG uP (-1,p0.list,aa p0.list.length,0,p0.next_,p0.list,[])
def aLT:bV:=⟨aF.one (aM.agg rS),aM.int .i64,fun a=>tJ a,.pure,false⟩
theorem U9:aJ tab 128 aLT:=Oc aJO rfl aI [(194,aSL)] ⟨aCq,trivial⟩ fun a=>by kernel_rfl
def iH (s:((List Bool)×Bool×Int×Int)):Option (bS ((List Bool)×Bool×Int×Int) Int):=bif decide (s.2.2.2<s.2.2.1) then (aL s.1 s.2.2.2).bind fun b0=>bif s.2.1==b0 then some (.done s.2.2.2) else some (.next (s.1,s.2.1,s.2.2.1,aA .i64 (s.2.2.2+1))) else some (.done (-1))
def rV (p0:List Bool) (p1:Bool):Option Int:=aG iH (p0,p1,aa p0.length,0)
def aUR:bV:=⟨aF.cons (aM.sl kb) (aF.one aM.bool),aM.int .i64,fun a=>rV a.1 a.2,.pure,false⟩
theorem aLU:aJ tab 294 aUR:=Oc aLl rfl aI [] trivial fun a=>by kernel_rfl
def eX (p0:List Bool) (p1:Bool):Option Bool:=(rV p0 p1).bind fun n0=>some (decide (0<=n0))
def aUS:bV:=⟨aF.cons (aM.sl kb) (aF.one aM.bool),aM.bool,fun a=>eX a.1 a.2,.pure,false⟩
theorem aLV:aJ tab 252 aUS:=Oc aK3 rfl aI [(294,aUR)] ⟨aLU,trivial⟩ fun a=>by kernel_rfl
def iB (s:((List Int)×Int×Int×(List Int)×(List Bool)×(List Int))):Option (bS ((List Int)×Int×Int×(List Int)×(List Bool)×(List Int)) aUC):=bif decide (s.2.2.1<s.2.1) then (aL s.1 s.2.2.1).bind fun n0=>bif decide (n0<0) then some (.done (.done 8)) else bif decide (1000000<n0) then some (.done (.done 8)) else bif n0==0 then (aL s.2.2.2.2.1 s.2.2.1).bind fun b1=>bif b1 then some (.done (.done 8)) else some (.next (s.1,s.2.1,aA .i64 (s.2.2.1+1),s.2.2.2)) else some (.next (s.1,s.2.1,aA .i64 (s.2.2.1+1),s.2.2.2)) else some (.done (.done 0))
def uQ (c0:(List Bool)) (s:aUB):Option aUC:=match s with |(a,b,d,e,f,g,h,i)=>bif decide (d<b) then (aL a d).bind fun n0=>bif decide (n0<0) then bif i.length==i.length then bif i.length==c0.length then bif i.length==c0.length then bif decide (0<=d) then some (.done 8) else (eX i false).bind fun b1=>bif b1 then some (.done 8) else aG iB (e,aa e.length,0,e,f,g) else none else none else none else bif decide (h<=n0) then bif i.length==i.length then bif i.length==c0.length then bif i.length==c0.length then bif decide (0<=d) then some (.done 8) else (eX i false).bind fun b2=>bif b2 then some (.done 8) else aG iB (e,aa e.length,0,e,f,g) else none else none else none else (aL i n0).bind fun b3=>bif b3 then bif i.length==i.length then bif i.length==c0.length then bif i.length==c0.length then bif decide (0<=d) then some (.done 8) else (eX i false).bind fun b4=>bif b4 then some (.done 8) else aG iB (e,aa e.length,0,e,f,g) else none else none else none else (aL i n0).bind fun _=>bif ((cL i n0 true).length)==i.length then some (.next (a,b,aA .i64 (d+1),e,f,g,h,cL i n0 true)) else none else bif i.length==c0.length then bif i.length==c0.length then (eX i false).bind fun b6=>bif b6 then some (.done 8) else aG iB (e,aa e.length,0,e,f,g) else none else none
def tK (p0:aU):Option Int:=bif decide ((aa p0.uses.length)<1) then some 8 else bif decide (200<(aa p0.uses.length)) then some 8 else bif (aa p0.used.length) !=(aa p0.uses.length) then some 8 else (cA p0.used).bind fun l0=>aG (uQ l0) (p0.free,aa p0.free.length,0,p0.uses,p0.used,p0.free,aa p0.uses.length,l0)
def aLW:bV:=⟨aF.one (aM.agg pZ),aM.int .i64,fun a=>tK a,.pure,false⟩
theorem VA:aJ tab 195 aLW:=aJ.of aKt (cx:=(qH aI [(184,bV.clone kb),(252,aUS)] [] [(200,aAS),(134,XY),(251,aID)] [])) rfl (nG.make ⟨yJ,aLV,trivial⟩ trivial ⟨NP,J2,aK2,trivial⟩) (fun a=>by kernel_rfl)
def DC (p0:Int×Int) (p1:Int×Int):Option Int:=(eL p0).bind fun n0=>(eL p1).bind fun n1=>some (if n1>n0 then n1 else n0)
def aUT:bV:=⟨aF.cons (aM.agg (cS.row jY)) (aF.one (aM.agg (cS.row jY))),aM.int .i64,fun a=>DC a.1 a.2,.pure,false⟩
theorem aLX:aJ tab 107 aUT:=Oc aJC rfl aI [(49,c49)] ⟨yL,trivial⟩ fun a=>by kernel_rfl
def vP (p0:Int) (p1:Int):Option (Bool×Int×Int):=(nN p0).bind fun n0=>(nN p1).bind fun n1=>(iY n0 n1).bind fun a2=>some (!((decide (p0<0))==(decide (p1<0))),a2)
def aUU:bV:=⟨aF.cons (aM.int .i64) (aF.one (aM.int .i64)),aM.agg (cS.row FA),fun a=>vP a.1 a.2,.pure,false⟩
theorem aLY:aJ tab 110 aUU:=Oc aJF rfl aI [(106,aLC),(172,aLF)] ⟨U3,U4,trivial⟩ fun a=>by kernel_rfl
def oZ (p0:Int):Option Bool:=some (p0 !=p0)
def aUV:bV:=⟨aF.one (aM.int .u64),aM.bool,fun a=>oZ a,.pure,false⟩
theorem aLZ:aJ tab 233 aUV:=Oc aKM rfl aI [] trivial fun a=>by kernel_rfl
def kA (p0:Int) (p1:Int):Option Int:=(oZ p0).bind fun b0=>(oZ p1).bind fun b1=>bif b0 then bif b1 then some 0 else some (-1) else bif b1 then some 1 else bif decide (p0<p1) then some (-1) else bif decide (p1<p0) then some 1 else some 0
def aUW:bV:=⟨aF.cons (aM.int .u64) (aF.one (aM.int .u64)),aM.int .i64,fun a=>kA a.1 a.2,.pure,false⟩
theorem aL0:aJ tab 171 aUW:=Oc aJ9 rfl aI [(233,aUV)] ⟨aLZ,trivial⟩ fun a=>by kernel_rfl
def uR (p0:Bool×Int×Int) (p1:Bool×Int×Int):Option Int:=(kA p0.2.1 p1.2.1).bind fun n0=>bif n0 !=0 then some n0 else (kA p0.2.2 p1.2.2).bind fun n1=>some n1
def aUX:bV:=⟨aF.cons (aM.agg (cS.row FA)) (aF.one (aM.agg (cS.row FA))),aM.int .i64,fun a=>uR a.1 a.2,.pure,false⟩
theorem aL1:aJ tab 109 aUX:=Oc aJE rfl aI [(171,aUW)] ⟨aL0,trivial⟩ fun a=>by kernel_rfl
def tL (p0:Int×Int) (p1:Int×Int):Option (Int×Int):=(DC p0 p1).bind fun n0=>bif n0 !=0 then some (0,n0) else bif !((decide (p0.1<0))==(decide (p1.1<0))) then (kT p0.1 p1.1).bind fun n1=>some (n1,0) else (vP p0.1 p1.2).bind fun a2=>(vP p1.1 p0.2).bind fun a3=>(uR a2 a3).bind fun n4=>bif decide (p0.1<0) then some (aA .i64 (0-n4),0) else some (n4,0)
def c50:bV:=⟨aF.cons (aM.agg (cS.row jY)) (aF.one (aM.agg (cS.row jY))),aM.tup (aF.cons (aM.int .i64) (aF.one (aM.int .i64))),fun a=>tL a.1 a.2,.pure,false⟩
theorem aAT:aJ tab 50 c50:=Oc aRW rfl aI [(107,aUT),(108,aSI),(110,aUU),(109,aUX)] ⟨aLX,aCn,aLY,aL1,trivial⟩ fun a=>by kernel_rfl
def cO (p0:Int×Int×Int×Int×Int) (p1:Int×Int×Int×Int×Int):Option Int:=(tL (p0.1,p0.2.1) (p1.1,p1.2.1)).bind fun a0=>(fG p0.2.2.1 p1.2.2.1).bind fun n1=>(yN [a0.1,n1]).bind fun n2=>some n2
def aL2:bV:=⟨aF.cons (aM.agg (cS.row lA)) (aF.one (aM.agg (cS.row lA))),aM.int .i64,fun a=>cO a.1 a.2,.pure,false⟩
theorem VB:aJ tab 196 aL2:=Oc aKu rfl aI [(50,c50),(232,X5),(231,aSJ)] ⟨aAT,DA,aCo,trivial⟩ fun a=>by kernel_rfl
def kJ (s:aUr):Option (bS aUr aUw):=bif decide (s.2.2.1<s.2.1) then (aL s.1 s.2.2.1).bind fun a0=>(eL (a0.1,a0.2.1)).bind fun n1=>bif n1 !=0 then some (.done (.done 8)) else bif decide (a0.2.2.1<0) then some (.done (.done 8)) else bif decide (1000000<a0.2.2.1) then some (.done (.done 8)) else (W5 s.2.2.2.2.2.2.2.2 [a0.2.2.1]).bind fun b2=>bif b2 then some (.done (.done 8)) else (W6 s.2.2.2.2.2.2.2.2 [a0.2.2.1]).bind fun l3=>bif decide (0<s.2.2.1) then (aL s.2.2.2.2.2.2.1 (aA .i64 (ac (aA .i64 (s.2.2.1-1)) 2))).bind fun a4=>(cO a0 a4).bind fun n5=>bif decide (n5<0) then some (.done (.done 8)) else some (.next (s.1,s.2.1,aA .i64 (s.2.2.1+1),s.2.2.2.1,s.2.2.2.2.1,s.2.2.2.2.2.1,s.2.2.2.2.2.2.1,s.2.2.2.2.2.2.2.1,l3)) else some (.next (s.1,s.2.1,aA .i64 (s.2.2.1+1),s.2.2.2.1,s.2.2.2.2.1,s.2.2.2.2.2.1,s.2.2.2.2.2.2.1,s.2.2.2.2.2.2.2.1,l3)) else some (.done (.done 0))
def nH (s:aUv):Option aUw:=bif decide (s.2.2.1<s.2.1) then (aL s.1 s.2.2.1).bind fun n0=>(aL s.2.2.2.2.1 s.2.2.1).bind fun b1=>bif !b1 then bif n0 !=(-1) then some (.done 8) else some (.next (s.1,s.2.1,aA .i64 (s.2.2.1+1),s.2.2.2)) else bif decide (n0<0) then some (.done 8) else bif decide ((aa s.2.2.2.2.2.2.1.length)<=n0) then some (.done 8) else (aL s.2.2.2.2.2.2.1 n0).bind fun a2=>(aL s.2.2.2.1 s.2.2.1).bind fun n3=>bif !((a2.2.2.2.1==s.2.2.1)&&(a2.2.2.2.2==n3)) then some (.done 8) else some (.next (s.1,s.2.1,aA .i64 (s.2.2.1+1),s.2.2.2)) else aG kJ (s.2.2.2.2.2.2.1,aa s.2.2.2.2.2.2.1.length,0,s.2.2.2.1,s.2.2.2.2.1,s.2.2.2.2.2.1,s.2.2.2.2.2.2.1,s.2.2.2.2.2.2.2,[])
def kU (p0:aP):Option Int:=(tK p0.slots).bind fun n0=>bif n0 !=0 then some 8 else bif (aa p0.where_.length) !=(aa p0.slots.used.length) then some 8 else bif (aa p0.heap.length) !=(aA .i64 ((aa p0.slots.used.length) - (aa p0.slots.free.length))) then some 8 else aG nH (p0.where_,aa p0.where_.length,0,p0.slots.uses,p0.slots.used,p0.slots.free,p0.heap,p0.where_)
def aDx:bV:=⟨aF.one (aM.agg hJ),aM.int .i64,fun a=>kU a,.pure,false⟩
theorem J5:aJ tab 129 aDx:=Oc aJP rfl aI [(195,aLW),(49,c49),(196,aL2)] ⟨VA,yL,VB,trivial⟩ fun a=>by kernel_rfl
def A8 (p0:Int×Int×Int) (p1:Int):Option Int:=(fG p0.1 p1).bind fun n0=>some n0
def aUY:bV:=⟨aF.cons (aM.agg (cS.row fH)) (aF.one (aM.int .i64)),aM.int .i64,fun a=>A8 a.1 a.2,.pure,false⟩
theorem aL3:aJ tab 254 aUY:=Oc aK4 rfl aI [(232,X5)] ⟨DA,trivial⟩ fun a=>by kernel_rfl
def jS (s:RQ):Option aFa:=bif decide (s.2.2.2.1<s.2.2.2.2) then (aL s.1 (aA .i64 (iM .u64 (aA .u64 (aA .i64 (s.2.2.2.1+s.2.2.2.2))) 1))).bind fun a0=>(A8 a0 s.2.1).bind fun n1=>bif decide (n1<0) then some (.next (s.1,s.2.1,s.2.2.1,aA .i64 ((aA .i64 (iM .u64 (aA .u64 (aA .i64 (s.2.2.2.1+s.2.2.2.2))) 1))+1),s.2.2.2.2)) else some (.next (s.1,s.2.1,s.2.2.1,s.2.2.2.1,aA .i64 (iM .u64 (aA .u64 (aA .i64 (s.2.2.2.1+s.2.2.2.2))) 1))) else bif decide (s.2.2.2.1<s.2.2.1) then (aL s.1 s.2.2.2.1).bind fun a2=>(A8 a2 s.2.1).bind fun n3=>some (.done (s.2.2.2.1,n3==0)) else some (.done (s.2.2.2.1,false))
def dK (p0:List (Int×Int×Int)) (p1:Int) (_:Unit):Option (Int×Bool):=aG jS (p0,p1,aa p0.length,0,aa p0.length)
def X8:bV:=⟨aF.cons (aM.sl fH) (aF.cons (aM.int .i64) (aF.one (aM.clo 254 aF.nil))),aM.tup (aF.cons (aM.int .i64) (aF.one aM.bool)),fun a=>dK a.1 a.2.1 a.2.2,.pure,false⟩
theorem X9:aJ tab 253 X8:=Oc U1 rfl aI [(254,aUY)] ⟨aL3,trivial⟩ fun a=>by kernel_rfl
def kV (p0:Field) (p1:Int):Option (Int×Int×Int):=(dK p0.points p1 ()).bind fun a0=>bif !a0.2 then some (-1,0,0) else (aL p0.points a0.1).bind fun a1=>some a1
def aL4:bV:=⟨aF.cons (aM.agg dH) (aF.one (aM.int .i64)),aM.agg (cS.row fH),fun a=>kV a.1 a.2,.pure,false⟩
theorem VC:aJ tab 198 aL4:=Oc aKw rfl aI [(253,X8)] ⟨X9,trivial⟩ fun a=>by kernel_rfl
def FB (p0:Bool×Int×Int) (p1:Int) (p2:Int):Option ((Int×Int)×Int):=bif decide (0<p0.2.1) then some ((0,0),16) else bif decide (9223372036854775807<p0.2.2) then some ((0,0),16) else bif decide (0<p1) then some ((0,0),16) else bif decide (9223372036854775807<p2) then some ((0,0),16) else bif p0.1 then some ((aA .i64 (0- (aA .i64 p0.2.2)),aA .i64 p2),0) else some ((aA .i64 p0.2.2,aA .i64 p2),0)
def aUZ:bV:=⟨aF.cons (aM.agg (cS.row FA)) (aF.cons (aM.int .u64) (aF.one (aM.int .u64))),aM.tup (aF.cons (aM.agg (cS.row jY)) (aF.one (aM.int .i64))),fun a=>FB a.1 a.2.1 a.2.2,.pure,false⟩
theorem aL5:aJ tab 273 aUZ:=Oc aLa rfl aI [] trivial fun a=>by kernel_rfl
def DD (p0:Int) (p1:Int):Option ((Int×Int)×Int):=bif p1==0 then some ((0,0),26) else (nN p0).bind fun n0=>(nN p1).bind fun n1=>(B9 n0 n1).bind fun n2=>(nN p0).bind fun n3=>bif n2==0 then none else (nN p1).bind fun n4=>bif n2==0 then none else (FB (!((decide (p0<0))==(decide (p1<0))),0,aA .u64 (ac n3 n2)) 0 (aA .u64 (ac n4 n2))).bind fun a5=>some a5
def aU0:bV:=⟨aF.cons (aM.int .i64) (aF.one (aM.int .i64)),aM.tup (aF.cons (aM.agg (cS.row jY)) (aF.one (aM.int .i64))),fun a=>DD a.1 a.2,.pure,false⟩
theorem aL6:aJ tab 229 aU0:=Oc aKJ rfl aI [(106,aLC),(105,aSC),(273,aUZ)] ⟨U3,aCj,aL5,trivial⟩ fun a=>by kernel_rfl
def FC (p0:Int×Int×Int) (p1:Int×Int×Int):Option ((Int×Int)×Int):=(tI p0 p1 (0,1)).bind fun n0=>bif n0 !=0 then some ((0,0),n0) else bif p0.2.2==p1.2.2 then some ((0,0),6) else (DD (aA .i64 (p0.2.1-p1.2.1)) (aA .i64 (p1.2.2-p0.2.2))).bind fun a1=>some a1
def aU1:bV:=⟨aF.cons (aM.agg (cS.row fH)) (aF.one (aM.agg (cS.row fH))),aM.tup (aF.cons (aM.agg (cS.row jY)) (aF.one (aM.int .i64))),fun a=>FC a.1 a.2,.pure,false⟩
theorem aL7:aJ tab 163 aU1:=Oc aJ6 rfl aI [(225,aLM),(229,aU0)] ⟨U6,aL6,trivial⟩ fun a=>by kernel_rfl
def xM (p0:Int×Int×Int) (p1:Int×Int×Int) (p2:Int×Int):Option ((Int×Int)×Bool×Int):=(tI p0 p1 p2).bind fun n0=>bif n0 !=0 then some ((0,0),false,n0) else (oJ p1 p0 p2).bind fun n1=>bif decide (0<n1) then some (p2,true,0) else bif decide (p1.2.2<=p0.2.2) then some ((0,0),false,0) else (FC p0 p1).bind fun a2=>some (a2.1,a2.2==0,a2.2)
def aU2:bV:=⟨aF.cons (aM.agg (cS.row fH)) (aF.cons (aM.agg (cS.row fH)) (aF.one (aM.agg (cS.row jY)))),aM.tup (aF.cons (aM.agg (cS.row jY)) (aF.cons aM.bool (aF.one (aM.int .i64)))),fun a=>xM a.1 a.2.1 a.2.2,.pure,false⟩
theorem aL8:aJ tab 197 aU2:=Oc aKv rfl aI [(225,aLM),(226,aSK),(163,aU1)] ⟨U6,aCp,aL7,trivial⟩ fun a=>by kernel_rfl
def tM (p0:Field) (p1:Int×Int) (p2:Int×Int):Option ((Int×Int)×Bool×Int):=(kV p0 p1.2).bind fun a0=>(kV p0 p1.1).bind fun a1=>(xM a0 a1 p2).bind fun a2=>some a2
def aL9:bV:=⟨aF.cons (aM.agg dH) (aF.cons (aM.agg (cS.row jY)) (aF.one (aM.agg (cS.row jY)))),aM.tup (aF.cons (aM.agg (cS.row jY)) (aF.cons aM.bool (aF.one (aM.int .i64)))),fun a=>tM a.1 a.2.1 a.2.2,.pure,false⟩
theorem VD:aJ tab 130 aL9:=Oc aJQ rfl aI [(198,aL4),(197,aU2)] ⟨VC,aL8,trivial⟩ fun a=>by kernel_rfl
def dA (s:Zt8):Option (bS Zt8 aUj):=bif decide (s.2.2.2.1<s.2.2.1) then (aL s.2.1 s.2.2.2.1).bind fun a0=>(tM (Field.mk s.2.2.2.2.2.2.1) a0.2 (s.2.2.2.2.1,s.2.2.2.2.2.1)).bind fun a1=>bif a1.2.2 !=0 then some (.done (.done 8)) else bif !a1.2.1 then some (.next (s.1,s.2.1,s.2.2.1,aA .i64 (s.2.2.2.1+1),s.2.2.2.2)) else bif (aa s.1.length)==0 then some (.done (.done 8)) else (aL s.1 0).bind fun a2=>bif a2.1 !=a0.1 then some (.done (.done 8)) else (aL s.1 0).bind fun a3=>bif decide (a3.2.1<0) then some (.done (.done 8)) else bif decide (200<=a3.2.1) then some (.done (.done 8)) else (aL s.2.2.2.2.2.2.2.2.2.2.2.2.2.1 a3.2.1).bind fun n4=>bif decide (n4<0) then some (.done (.done 8)) else (aL s.2.2.2.2.2.2.2.2.2.2.2.2.2.1 a3.2.1).bind fun n5=>(aL s.2.2.2.2.2.2.2.2.2.2.2.2.1 n5).bind fun a6=>bif !((a6.1==a1.1.1)&&((a6.2.1==a1.1.2)&&((a6.2.2.1==a0.1)&&((a6.2.2.2.1==a3.2.1)&&(a6.2.2.2.2==a3.2.2))))) then some (.done (.done 8)) else (iX s.1 1 (aa s.1.length)).bind fun l7=>some (.next (l7,s.2.1,s.2.2.1,aA .i64 (s.2.2.2.1+1),s.2.2.2.2)) else bif decide (0<(aa s.1.length)) then some (.done (.done 8)) else some (.done (.done 0))
def fW (s:aUi):Option aUj:=match s with |(a,b,d,e,f,g,h,i,j,k,l,m,n,o)=>bif decide (b<a) then (aL o b).bind fun n0=>bif n0 !=0 then some (.done 8) else some (.next (a,aA .i64 (b+1),(d,e,f,g,h,i,j,k,l,m,n,o))) else bif (aa m.length) !=200 then some (.done 8) else bif (aa l.length) !=(aa n.length) then some (.done 8) else aG dA (n,h,aa h.length,0,d,e,f,g,h,i,j,k,l,m,n)
def gY (p0:aO):Option Int:=(eL p0.now).bind fun n0=>(eW p0.field).bind fun n1=>(tJ p0.certs).bind fun n2=>(kU p0.agenda).bind fun n3=>aG fW (aa ([n0,n1,n2,n3].length),0,p0.now.1,p0.now.2,p0.field.points,p0.certs.next_,p0.certs.list,p0.agenda.slots.uses,p0.agenda.slots.used,p0.agenda.slots.free,p0.agenda.heap,p0.agenda.where_,p0.due,[n0,n1,n2,n3])
def c65:bV:=⟨aF.one (aM.agg dI),aM.int .i64,fun a=>gY a,.pure,false⟩
theorem LT:aJ tab 65 c65:=Oc aR6 rfl aI [(49,c49),(122,X1),(128,aLT),(129,aDx),(130,aL9)] ⟨yL,C9,U9,J5,VD,trivial⟩ fun a=>by kernel_rfl
def kW (s:(qJ×Int×Int×Int×Int)):Option (bS (qJ×Int×Int×Int×Int) Int):=bif decide (s.2.2.1<s.2.1) then (aL s.1 s.2.2.1).bind fun a0=>bif (s.2.2.2.1==a0.1)&&(s.2.2.2.2==a0.2) then some (.done s.2.2.1) else some (.next (s.1,s.2.1,aA .i64 (s.2.2.1+1),s.2.2.2)) else some (.done (-1))
def rW (p0:List (Int×Int)) (p1:Int×Int):Option Int:=aG kW (p0,aa p0.length,0,p1)
def aU3:bV:=⟨aF.cons (aM.sl jY) (aF.one (aM.agg (cS.row jY))),aM.int .i64,fun a=>rW a.1 a.2,.pure,false⟩
theorem aMa:aJ tab 213 aU3:=Oc aKz rfl aI [] trivial fun a=>by kernel_rfl
def eY (p0:List (Int×Int)) (p1:Int×Int):Option Bool:=(rW p0 p1).bind fun n0=>some (decide (0<=n0))
def aFg:bV:=⟨aF.cons (aM.sl jY) (aF.one (aM.agg (cS.row jY))),aM.bool,fun a=>eY a.1 a.2,.pure,false⟩
theorem NQ:aJ tab 138 aFg:=Oc aJT rfl aI [(213,aU3)] ⟨aMa,trivial⟩ fun a=>by kernel_rfl
def DE (p0:Int×Int×Int) (p1:Int):Option Int:=(fG p0.1 p1).bind fun n0=>some n0
def aU4:bV:=⟨aF.cons (aM.agg (cS.row fH)) (aF.one (aM.int .i64)),aM.int .i64,fun a=>DE a.1 a.2,.pure,false⟩
theorem aMb:aJ tab 307 aU4:=Oc aLp rfl aI [(232,X5)] ⟨DA,trivial⟩ fun a=>by kernel_rfl
def kB (s:RQ):Option aFa:=bif decide (s.2.2.2.1<s.2.2.2.2) then (aL s.1 (aA .i64 (iM .u64 (aA .u64 (aA .i64 (s.2.2.2.1+s.2.2.2.2))) 1))).bind fun a0=>(DE a0 s.2.1).bind fun n1=>bif decide (n1<0) then some (.next (s.1,s.2.1,s.2.2.1,aA .i64 ((aA .i64 (iM .u64 (aA .u64 (aA .i64 (s.2.2.2.1+s.2.2.2.2))) 1))+1),s.2.2.2.2)) else some (.next (s.1,s.2.1,s.2.2.1,s.2.2.2.1,aA .i64 (iM .u64 (aA .u64 (aA .i64 (s.2.2.2.1+s.2.2.2.2))) 1))) else bif decide (s.2.2.2.1<s.2.2.1) then (aL s.1 s.2.2.2.1).bind fun a2=>(DE a2 s.2.1).bind fun n3=>some (.done (s.2.2.2.1,n3==0)) else some (.done (s.2.2.2.1,false))
def dN (p0:List (Int×Int×Int)) (p1:Int) (_:Unit):Option (Int×Bool):=aG kB (p0,p1,aa p0.length,0,aa p0.length)
def YA:bV:=⟨aF.cons (aM.sl fH) (aF.cons (aM.int .i64) (aF.one (aM.clo 307 aF.nil))),aM.tup (aF.cons (aM.int .i64) (aF.one aM.bool)),fun a=>dN a.1 a.2.1 a.2.2,.pure,false⟩
theorem YB:aJ tab 253 YA:=Oc U1 rfl aI [(307,aU4)] ⟨aMb,trivial⟩ fun a=>by kernel_rfl
def IJ (p0:Field) (p1:Int):Option (Int×Bool):=(dN p0.points p1 ()).bind fun a0=>some a0
def aU5:bV:=⟨aF.cons (aM.agg dH) (aF.one (aM.int .i64)),aM.tup (aF.cons (aM.int .i64) (aF.one aM.bool)),fun a=>IJ a.1 a.2,.pure,false⟩
theorem aMc:aJ tab 288 aU5:=Oc aLf rfl aI [(253,YA)] ⟨YB,trivial⟩ fun a=>by kernel_rfl
def FD (p0:Field) (p1:Int):Option (Int×Int):=(eW p0).bind fun n0=>bif n0 !=0 then some (0,n0) else (IJ p0 p1).bind fun a1=>bif !a1.2 then some (0,6) else some (a1.1,0)
def aU6:bV:=⟨aF.cons (aM.agg dH) (aF.one (aM.int .i64)),aM.tup (aF.cons (aM.int .i64) (aF.one (aM.int .i64))),fun a=>FD a.1 a.2,.pure,false⟩
theorem aMd:aJ tab 240 aU6:=Oc aKT rfl aI [(122,X1),(288,aU5)] ⟨C9,aMc,trivial⟩ fun a=>by kernel_rfl
def yP (p0:Field) (p1:Int):Option ((Int×Int×Int)×Int):=(FD p0 p1).bind fun a0=>bif a0.2 !=0 then some ((0,0,0),a0.2) else (aL p0.points a0.1).bind fun a1=>some (a1,0)
def aU7:bV:=⟨aF.cons (aM.agg dH) (aF.one (aM.int .i64)),aM.tup (aF.cons (aM.agg (cS.row fH)) (aF.one (aM.int .i64))),fun a=>yP a.1 a.2,.pure,false⟩
theorem aMe:aJ tab 178 aU7:=Oc aKg rfl aI [(240,aU6)] ⟨aMd,trivial⟩ fun a=>by kernel_rfl
def yQ (p0:aO):Option aO:=(cA p0.field.points).bind fun l0=>(cA p0.certs.list).bind fun l1=>(cA p0.due).bind fun l2=>(cA p0.agenda.heap).bind fun l3=>(cA p0.agenda.where_).bind fun l4=>(cA p0.agenda.slots.uses).bind fun l5=>(cA p0.agenda.slots.used).bind fun l6=>(cA p0.agenda.slots.free).bind fun l7=>some (aO.mk p0.now (Field.mk l0) (bK.mk p0.certs.next_ l1) (aP.mk (aU.mk l5 l6 l7) l3 l4) l2)
def aU8:bV:=⟨aF.one (aM.agg dI),aM.agg dI,fun a=>yQ a,.own,true⟩
def aNQ:bV:=⟨aF.one (aM.agg dI),aM.agg dI,fun a=>yQ a,.frz,false⟩
theorem aMf:aJ tab 180 aU8:=Oc aCa rfl aI [(124,bV.clone fH),(181,bV.clone fH),(182,bV.clone fH),(183,bV.clone lA),(67,bV.clone ki),(184,bV.clone kb)] ⟨yI,B8,J3,yK,rT,yJ,trivial⟩ fun a=>by kernel_rfl
theorem aFh:aJ tab 180 aNQ:=Oc aCa rfl aI [(124,bV.clone fH),(181,bV.clone fH),(182,bV.clone fH),(183,bV.clone lA),(67,bV.clone ki),(184,bV.clone kb)] ⟨yI,B8,J3,yK,rT,yJ,trivial⟩ fun a=>by kernel_rfl
def vQ (p0:Int×Int×Int) (p1:Int):Option Int:=(fG p0.1 p1).bind fun n0=>some n0
def aU9:bV:=⟨aF.cons (aM.agg (cS.row fH)) (aF.one (aM.int .i64)),aM.int .i64,fun a=>vQ a.1 a.2,.pure,false⟩
theorem aMg:aJ tab 283 aU9:=Oc aLc rfl aI [(232,X5)] ⟨DA,trivial⟩ fun a=>by kernel_rfl
def aS (s:RQ):Option aFa:=bif decide (s.2.2.2.1<s.2.2.2.2) then (aL s.1 (aA .i64 (iM .u64 (aA .u64 (aA .i64 (s.2.2.2.1+s.2.2.2.2))) 1))).bind fun a0=>(vQ a0 s.2.1).bind fun n1=>bif decide (n1<0) then some (.next (s.1,s.2.1,s.2.2.1,aA .i64 ((aA .i64 (iM .u64 (aA .u64 (aA .i64 (s.2.2.2.1+s.2.2.2.2))) 1))+1),s.2.2.2.2)) else some (.next (s.1,s.2.1,s.2.2.1,s.2.2.2.1,aA .i64 (iM .u64 (aA .u64 (aA .i64 (s.2.2.2.1+s.2.2.2.2))) 1))) else bif decide (s.2.2.2.1<s.2.2.1) then (aL s.1 s.2.2.2.1).bind fun a2=>(vQ a2 s.2.1).bind fun n3=>some (.done (s.2.2.2.1,n3==0)) else some (.done (s.2.2.2.1,false))
def aR (p0:List (Int×Int×Int)) (p1:Int) (_:Unit):Option (Int×Bool):=aG aS (p0,p1,aa p0.length,0,aa p0.length)
def YC:bV:=⟨aF.cons (aM.sl fH) (aF.cons (aM.int .i64) (aF.one (aM.clo 283 aF.nil))),aM.tup (aF.cons (aM.int .i64) (aF.one aM.bool)),fun a=>aR a.1 a.2.1 a.2.2,.pure,false⟩
theorem YD:aJ tab 282 YC:=Oc aLb rfl aI [(283,aU9)] ⟨aMg,trivial⟩ fun a=>by kernel_rfl
def LU (p0:bK) (p1:Int):Option (Int×Int):=(tJ p0).bind fun n0=>bif n0 !=0 then some (0,n0) else (aR p0.list p1 ()).bind fun a1=>bif !a1.2 then some (0,6) else some (a1.1,0)
def aVa:bV:=⟨aF.cons (aM.agg rS) (aF.one (aM.int .i64)),aM.tup (aF.cons (aM.int .i64) (aF.one (aM.int .i64))),fun a=>LU a.1 a.2,.pure,false⟩
theorem aMh:aJ tab 234 aVa:=Oc aKN rfl aI [(128,aLT),(282,YC)] ⟨U9,YD,trivial⟩ fun a=>by kernel_rfl
def eT (a:aFd):Option (Nat×Nat×cT):=bif (((decide (0<=a.1))&&(decide (a.1<=a.2.1)))&&(decide (a.2.1<=(aa a.2.2.length))))&&(decide ((aa a.2.2.length)<=(aa a.2.2.length))) then bif a.1==a.2.1 then bif a.2.2.length==a.2.2.length then some (a.2.2.length,a.2.2.length,a.2.2) else none else (iX a.2.2 0 a.1).bind fun _=>bif ((decide (0<=a.2.1))&&(decide (a.2.1<=(aa a.2.2.length))))&&(decide ((aa a.2.2.length)<=(aa a.2.2.length))) then bif ((a.2.2.drop (0+a.2.1.toNat)).take (((aa a.2.2.length).toNat) -a.2.1.toNat)).isEmpty then bif ((decide (0<=(aa a.1.toNat)))&&(decide ((aa a.1.toNat)<=(aa a.2.2.length))))&&(decide ((aa a.2.2.length)<=(aa a.2.2.length))) then bif Nat.beq (((aa a.2.2.length).toNat) - ((aa a.1.toNat).toNat)) 0 then bif a.2.2.length==a.2.2.length then some (a.1.toNat,a.2.2.length,a.2.2) else none else bif (ai ((0+((aa a.1.toNat).toNat))+(((aa a.2.2.length).toNat) - ((aa a.1.toNat).toNat))) a.2.2.length)&&(!false) then bif ((jP a.2.2 (0+((aa a.1.toNat).toNat)) (af (((aa a.2.2.length).toNat) - ((aa a.1.toNat).toNat)) (0,0,0))).length)==a.2.2.length then some (a.1.toNat,a.2.2.length,jP a.2.2 (0+((aa a.1.toNat).toNat)) (af (((aa a.2.2.length).toNat) - ((aa a.1.toNat).toNat)) (0,0,0))) else none else none else none else bif ai (a.1.toNat+(((a.2.2.drop (0+a.2.1.toNat)).take (((aa a.2.2.length).toNat) -a.2.1.toNat)).length)) a.2.2.length then bif (ai (a.1.toNat+(((a.2.2.drop (0+a.2.1.toNat)).take (((aa a.2.2.length).toNat) -a.2.1.toNat)).length)) a.2.2.length)&&(!false) then bif ((decide (0<=(aa (a.1.toNat+(((a.2.2.drop (0+a.2.1.toNat)).take (((aa a.2.2.length).toNat) -a.2.1.toNat)).length)))))&&(decide ((aa (a.1.toNat+(((a.2.2.drop (0+a.2.1.toNat)).take (((aa a.2.2.length).toNat) -a.2.1.toNat)).length)))<=(aa a.2.2.length))))&&(decide ((aa a.2.2.length)<=(aa a.2.2.length))) then bif Nat.beq (((aa a.2.2.length).toNat) - ((aa (a.1.toNat+(((a.2.2.drop (0+a.2.1.toNat)).take (((aa a.2.2.length).toNat) -a.2.1.toNat)).length))).toNat)) 0 then bif ((jP a.2.2 a.1.toNat ((a.2.2.drop (0+a.2.1.toNat)).take (((aa a.2.2.length).toNat) -a.2.1.toNat))).length)==a.2.2.length then some (a.1.toNat+(((a.2.2.drop (0+a.2.1.toNat)).take (((aa a.2.2.length).toNat) -a.2.1.toNat)).length),a.2.2.length,jP a.2.2 a.1.toNat ((a.2.2.drop (0+a.2.1.toNat)).take (((aa a.2.2.length).toNat) -a.2.1.toNat))) else none else bif (ai ((0+((aa (a.1.toNat+(((a.2.2.drop (0+a.2.1.toNat)).take (((aa a.2.2.length).toNat) -a.2.1.toNat)).length))).toNat))+(((aa a.2.2.length).toNat) - ((aa (a.1.toNat+(((a.2.2.drop (0+a.2.1.toNat)).take (((aa a.2.2.length).toNat) -a.2.1.toNat)).length))).toNat))) ((jP a.2.2 a.1.toNat ((a.2.2.drop (0+a.2.1.toNat)).take (((aa a.2.2.length).toNat) -a.2.1.toNat))).length))&&(!false) then bif ((jP (jP a.2.2 a.1.toNat ((a.2.2.drop (0+a.2.1.toNat)).take (((aa a.2.2.length).toNat) -a.2.1.toNat))) (0+((aa (a.1.toNat+(((a.2.2.drop (0+a.2.1.toNat)).take (((aa a.2.2.length).toNat) -a.2.1.toNat)).length))).toNat)) (af (((aa a.2.2.length).toNat) - ((aa (a.1.toNat+(((a.2.2.drop (0+a.2.1.toNat)).take (((aa a.2.2.length).toNat) -a.2.1.toNat)).length))).toNat)) (0,0,0))).length)==a.2.2.length then some (a.1.toNat+(((a.2.2.drop (0+a.2.1.toNat)).take (((aa a.2.2.length).toNat) -a.2.1.toNat)).length),a.2.2.length,jP (jP a.2.2 a.1.toNat ((a.2.2.drop (0+a.2.1.toNat)).take (((aa a.2.2.length).toNat) -a.2.1.toNat))) (0+((aa (a.1.toNat+(((a.2.2.drop (0+a.2.1.toNat)).take (((aa a.2.2.length).toNat) -a.2.1.toNat)).length))).toNat)) (af (((aa a.2.2.length).toNat) - ((aa (a.1.toNat+(((a.2.2.drop (0+a.2.1.toNat)).take (((aa a.2.2.length).toNat) -a.2.1.toNat)).length))).toNat)) (0,0,0))) else none else none else none else none else none else none else none
def aFi:fV:=⟨[.i,.i,.l [.i .i64,.i .i64,.i .i64]],[.own 0 false,.int .i64 0,.int .i64 0],[.arr [.i .i64,.i .i64,.i .i64] []],[.n,.n,.l [.i .i64,.i .i64,.i .i64]],.pre 0 0 0 false,[.arr [.i .i64,.i .i64,.i .i64] []],fun a=>eT a⟩
theorem aDy:rG tab 235 aFi:=rG.of aKO (wd:=true) (cx:=(qH aI [] [] [] [])) (nG.make trivial trivial trivial) (fun a=>by kernel_rfl)
def AF (p0:bK) (p1:Int):Option (bK×(Int×Int)×Int):=(LU p0 p1).bind fun a0=>bif a0.2 !=0 then some (bK.mk 0 [],(0,0),a0.2) else (cA p0.list).bind fun l1=>(eT (a0.1,aA .i64 (a0.1+1),l1)).bind fun a2=>(aL p0.list a0.1).bind fun a3=>some (bK.mk p0.next_ (a2.2.2.take a2.1),a3.2,0)
def aVb:bV:=⟨aF.cons (aM.agg rS) (aF.one (aM.int .i64)),aM.tup (aF.cons (aM.agg rS) (aF.cons (aM.agg (cS.row jY)) (aF.one (aM.int .i64)))),fun a=>AF a.1 a.2,.frz,false⟩
theorem aMi:aJ tab 174 aVb:=aJ.of aKc (cx:=(qH aI [(234,aVa),(181,bV.clone fH)] [(235,aFi)] [] [])) rfl (nG.make ⟨aMh,B8,trivial⟩ ⟨aDy,trivial⟩ trivial) (fun a=>by kernel_rfl)
def lC (p0:aO):Option aO:=(cA p0.field.points).bind fun l0=>(cA p0.certs.list).bind fun l1=>(cA p0.due).bind fun l2=>(cA p0.agenda.heap).bind fun l3=>(cA p0.agenda.where_).bind fun l4=>(cA p0.agenda.slots.uses).bind fun l5=>(cA p0.agenda.slots.used).bind fun l6=>(cA p0.agenda.slots.free).bind fun l7=>some (aO.mk p0.now (Field.mk l0) (bK.mk p0.certs.next_ l1) (aP.mk (aU.mk l5 l6 l7) l3 l4) l2)
def aFj:bV:=⟨aF.one (aM.agg dI),aM.agg dI,fun a=>lC a,.own,true⟩
def YE:bV:=⟨aF.one (aM.agg dI),aM.agg dI,fun a=>lC a,.frz,false⟩
theorem NR:aJ tab 114 aFj:=Oc aB4 rfl aI [(124,bV.clone fH),(181,bV.clone fH),(182,bV.clone fH),(183,bV.clone lA),(67,bV.clone ki),(184,bV.clone kb)] ⟨yI,B8,J3,yK,rT,yJ,trivial⟩ fun a=>by kernel_rfl
theorem J6:aJ tab 114 YE:=Oc aB4 rfl aI [(124,bV.clone fH),(181,bV.clone fH),(182,bV.clone fH),(183,bV.clone lA),(67,bV.clone ki),(184,bV.clone kb)] ⟨yI,B8,J3,yK,rT,yJ,trivial⟩ fun a=>by kernel_rfl
def A9 (p0:Int×Int×Int) (p1:Int):Option Int:=(fG p0.1 p1).bind fun n0=>some n0
def aVc:bV:=⟨aF.cons (aM.agg (cS.row fH)) (aF.one (aM.int .i64)),aM.int .i64,fun a=>A9 a.1 a.2,.pure,false⟩
theorem aMj:aJ tab 237 aVc:=Oc aKQ rfl aI [(232,X5)] ⟨DA,trivial⟩ fun a=>by kernel_rfl
def kH (s:RQ):Option aFa:=bif decide (s.2.2.2.1<s.2.2.2.2) then (aL s.1 (aA .i64 (iM .u64 (aA .u64 (aA .i64 (s.2.2.2.1+s.2.2.2.2))) 1))).bind fun a0=>(A9 a0 s.2.1).bind fun n1=>bif decide (n1<0) then some (.next (s.1,s.2.1,s.2.2.1,aA .i64 ((aA .i64 (iM .u64 (aA .u64 (aA .i64 (s.2.2.2.1+s.2.2.2.2))) 1))+1),s.2.2.2.2)) else some (.next (s.1,s.2.1,s.2.2.1,s.2.2.2.1,aA .i64 (iM .u64 (aA .u64 (aA .i64 (s.2.2.2.1+s.2.2.2.2))) 1))) else bif decide (s.2.2.2.1<s.2.2.1) then (aL s.1 s.2.2.2.1).bind fun a2=>(A9 a2 s.2.1).bind fun n3=>some (.done (s.2.2.2.1,n3==0)) else some (.done (s.2.2.2.1,false))
def dR (p0:List (Int×Int×Int)) (p1:Int) (_:Unit):Option (Int×Bool):=aG kH (p0,p1,aa p0.length,0,aa p0.length)
def YF:bV:=⟨aF.cons (aM.sl fH) (aF.cons (aM.int .i64) (aF.one (aM.clo 237 aF.nil))),aM.tup (aF.cons (aM.int .i64) (aF.one aM.bool)),fun a=>dR a.1 a.2.1 a.2.2,.pure,false⟩
theorem YG:aJ tab 236 YF:=Oc aKP rfl aI [(237,aVc)] ⟨aMj,trivial⟩ fun a=>by kernel_rfl
def qY (p0:List (Int×Int×Int)) (p1:Int):Option (Int×Bool):=(dR p0 p1 ()).bind fun a0=>some a0
def aSN:bV:=⟨aF.cons (aM.sl fH) (aF.one (aM.int .i64)),aM.tup (aF.cons (aM.int .i64) (aF.one aM.bool)),fun a=>qY a.1 a.2,.pure,false⟩
theorem aCr:aJ tab 175 aSN:=Oc aKd rfl aI [(236,YF)] ⟨YG,trivial⟩ fun a=>by kernel_rfl
def FE (p0:aU) (p1:Int×Int):Option (Bool×Int):=(tK p0).bind fun n0=>bif n0 !=0 then some (false,n0) else bif decide (0<=p1.1) then bif decide (p1.1<(aa p0.used.length)) then (aL p0.used p1.1).bind fun b1=>bif b1 then (aL p0.uses p1.1).bind fun n2=>some (n2==p1.2,0) else some (false,0) else some (false,0) else some (false,0)
def aSO:bV:=⟨aF.cons (aM.agg pZ) (aF.one (aM.agg (cS.row jY))),aM.tup (aF.cons aM.bool (aF.one (aM.int .i64))),fun a=>FE a.1 a.2,.pure,false⟩
theorem aCs:aJ tab 284 aSO:=Oc aLd rfl aI [(195,aLW)] ⟨VA,trivial⟩ fun a=>by kernel_rfl
def rX (p0:aP) (p1:Int×Int):Option (Int×Int):=(kU p0).bind fun n0=>bif n0 !=0 then some (0,n0) else (FE p0.slots p1).bind fun a1=>bif a1.2 !=0 then some (0,6) else bif !a1.1 then some (0,6) else (aL p0.where_ p1.1).bind fun n2=>some (n2,0)
def aSP:bV:=⟨aF.cons (aM.agg hJ) (aF.one (aM.agg (cS.row jY))),aM.tup (aF.cons (aM.int .i64) (aF.one (aM.int .i64))),fun a=>rX a.1 a.2,.pure,false⟩
theorem aCt:aJ tab 238 aSP:=Oc aKR rfl aI [(129,aDx),(284,aSO)] ⟨J5,aCs,trivial⟩ fun a=>by kernel_rfl
def wT (p0:List Int) (p1:Int):Option (List Int):=(cA p0).bind fun l0=>(bZ l0 [p1]).bind fun l1=>some l1
def aVd:bV:=⟨aF.cons (aM.sl ki) (aF.one (aM.int .i64)),aM.sl ki,fun a=>wT a.1 a.2,.frz,false⟩
theorem aMk:aJ tab 305 aVd:=Oc aLo rfl aI [(315,bV.clone ki)] ⟨XZ,trivial⟩ fun a=>by kernel_rfl
def GJ (p0:aU) (p1:Int×Int):Option (aU×Int):=(FE p0 p1).bind fun a0=>bif a0.2 !=0 then some (aU.mk [] [] [],a0.2) else bif !a0.1 then some (aU.mk [] [] [],6) else (cA p0.uses).bind fun l1=>(cA p0.used).bind fun l2=>(wT p0.free p1.1).bind fun l3=>(aL l2 p1.1).bind fun _=>some (aU.mk l1 (cL l2 p1.1 false) l3,0)
def aVe:bV:=⟨aF.cons (aM.agg pZ) (aF.one (aM.agg (cS.row jY))),aM.tup (aF.cons (aM.agg pZ) (aF.one (aM.int .i64))),fun a=>GJ a.1 a.2,.frz,false⟩
theorem aMl:aJ tab 285 aVe:=aJ.of aLe (cx:=(qH aI [(284,aSO),(67,bV.clone ki),(184,bV.clone kb),(305,aVd)] [] [(304,aE7)] [])) rfl (nG.make ⟨aCs,rT,yJ,aMk,trivial⟩ trivial ⟨aCe,trivial⟩) (fun a=>by kernel_rfl)
def cE (a:aLx):Option aDw:=(aL (a.2.2.2.2.2.2.2.2.2.2.2.1.take a.2.2.2.1) a.2.2.2.2.2.1).bind fun _=>(aL a.2.2.2.2.2.2.2.2.2.2.2.2 a.2.2.2.2.2.2.2.2.2.1).bind fun _=>bif ((cL a.2.2.2.2.2.2.2.2.2.2.2.1 a.2.2.2.2.2.1 (a.2.2.2.2.2.2.1,a.2.2.2.2.2.2.2.1,a.2.2.2.2.2.2.2.2.1,a.2.2.2.2.2.2.2.2.2.1,a.2.2.2.2.2.2.2.2.2.2.1)).length)==a.2.2.2.2.2.2.2.2.2.2.2.1.length then bif ((cL a.2.2.2.2.2.2.2.2.2.2.2.2 a.2.2.2.2.2.2.2.2.2.1 a.2.2.2.2.2.1).length)==a.2.2.2.2.2.2.2.2.2.2.2.2.length then some (cL a.2.2.2.2.2.2.2.2.2.2.2.1 a.2.2.2.2.2.1 (a.2.2.2.2.2.2.1,a.2.2.2.2.2.2.2.1,a.2.2.2.2.2.2.2.2.1,a.2.2.2.2.2.2.2.2.2.1,a.2.2.2.2.2.2.2.2.2.2.1),cL a.2.2.2.2.2.2.2.2.2.2.2.2 a.2.2.2.2.2.2.2.2.2.1 a.2.2.2.2.2.1) else none else none
def aAU:fV:=⟨[.l [.i .i64],.l [.b],.l [.i .i64],.n,.n,.i,.i,.i,.i,.i,.i,.l [.i .i64,.i .i64,.i .i64,.i .i64,.i .i64],.l [.i .i64]],[.agg [.sl [.i .i64] [],.sl [.b] [],.sl [.i .i64] [],.pre 0 0 0 false,.own 1 false],.int .i64 0,.agg [.int .i64 0,.int .i64 0,.int .i64 0,.int .i64 0,.int .i64 0]],[.arr [.i .i64,.i .i64,.i .i64,.i .i64,.i .i64] [],.arr [.i .i64] []],[.l [.i .i64,.i .i64,.i .i64,.i .i64,.i .i64],.l [.i .i64]],.tup [],[.arr [.i .i64,.i .i64,.i .i64,.i .i64,.i .i64] [],.arr [.i .i64] []],fun a=>cE a⟩
theorem S9:rG tab 306 aAU:=rG.of aCf (wd:=false) (cx:=(qH aI [] [] [] [])) (nG.make trivial trivial trivial) (fun a=>by kernel_rfl)
def gQ (c0:aLx) (s:aUs):Option (bS aUs aUm):=match s with |(a,b,d,e,f,g,h,i,j,k,l,m,n,o)=>bif decide (b<(aa i)) then bif decide ((aA .i64 (b+1))<(aa i)) then (aL (d.take i) (aA .i64 (b+1))).bind fun a0=>(aL (d.take i) b).bind fun a1=>(cO a0 a1).bind fun n2=>bif decide (n2<0) then (aL (d.take i) (aA .i64 (b+1))).bind fun a3=>(cO a3 (k,l,m,n,o)).bind fun n4=>bif decide (0<=n4) then (cE (f,g,h,i,j,a,k,l,m,n,o,d,e)).bind fun a5=>bif a5.1.length==c0.2.2.2.2.2.2.2.2.2.2.2.1.length then bif a5.2.length==c0.2.2.2.2.2.2.2.2.2.2.2.2.length then some (.done (.done a5)) else none else none else (aL (d.take i) (aA .i64 (b+1))).bind fun a6=>(cE (f,g,h,i,j,a,a6.1,a6.2.1,a6.2.2.1,a6.2.2.2.1,a6.2.2.2.2,d,e)).bind fun a7=>some (.next (aA .i64 (b+1),aA .i64 ((aA .i64 (2*(aA .i64 (b+1))))+1),a7.1,a7.2,(f,g,h,i,j,k,l,m,n,o))) else (aL (d.take i) b).bind fun a8=>(cO a8 (k,l,m,n,o)).bind fun n9=>bif decide (0<=n9) then (cE (f,g,h,i,j,a,k,l,m,n,o,d,e)).bind fun a10=>bif a10.1.length==c0.2.2.2.2.2.2.2.2.2.2.2.1.length then bif a10.2.length==c0.2.2.2.2.2.2.2.2.2.2.2.2.length then some (.done (.done a10)) else none else none else (aL (d.take i) b).bind fun a11=>(cE (f,g,h,i,j,a,a11.1,a11.2.1,a11.2.2.1,a11.2.2.2.1,a11.2.2.2.2,d,e)).bind fun a12=>some (.next (b,aA .i64 ((aA .i64 (2*b))+1),a12.1,a12.2,(f,g,h,i,j,k,l,m,n,o))) else (aL (d.take i) b).bind fun a13=>(cO a13 (k,l,m,n,o)).bind fun n14=>bif decide (0<=n14) then (cE (f,g,h,i,j,a,k,l,m,n,o,d,e)).bind fun a15=>bif a15.1.length==c0.2.2.2.2.2.2.2.2.2.2.2.1.length then bif a15.2.length==c0.2.2.2.2.2.2.2.2.2.2.2.2.length then some (.done (.done a15)) else none else none else (aL (d.take i) b).bind fun a16=>(cE (f,g,h,i,j,a,a16.1,a16.2.1,a16.2.2.1,a16.2.2.2.1,a16.2.2.2.2,d,e)).bind fun a17=>some (.next (b,aA .i64 ((aA .i64 (2*b))+1),a17.1,a17.2,(f,g,h,i,j,k,l,m,n,o))) else (cE (f,g,h,i,j,a,k,l,m,n,o,d,e)).bind fun a18=>bif a18.1.length==c0.2.2.2.2.2.2.2.2.2.2.2.1.length then bif a18.2.length==c0.2.2.2.2.2.2.2.2.2.2.2.2.length then some (.done (.done a18)) else none else none
def fI (c0:aLx) (s:aUl):Option aUm:=bif decide (0<s.1) then (aL (s.2.1.take s.2.2.2.2.2.2.1) (aA .i64 (ac (aA .i64 (s.1-1)) 2))).bind fun a0=>(cO s.2.2.2.2.2.2.2.2 a0).bind fun n1=>bif decide (n1<0) then (aL (s.2.1.take s.2.2.2.2.2.2.1) (aA .i64 (ac (aA .i64 (s.1-1)) 2))).bind fun a2=>(cE (s.2.2.2.1,s.2.2.2.2.1,s.2.2.2.2.2.1,s.2.2.2.2.2.2.1,s.2.2.2.2.2.2.2.1,s.1,a2.1,a2.2.1,a2.2.2.1,a2.2.2.2.1,a2.2.2.2.2,s.2.1,s.2.2.1)).bind fun a3=>some (.next (aA .i64 (ac (aA .i64 (s.1-1)) 2),a3.1,a3.2,s.2.2.2)) else aG (gQ c0) (s.1,aA .i64 ((aA .i64 (2*s.1))+1),s.2) else aG (gQ c0) (s.1,aA .i64 ((aA .i64 (2*s.1))+1),s.2)
def lK (a:aLx):Option aDw:=aG (fI a) (a.2.2.2.2.2.1,a.2.2.2.2.2.2.2.2.2.2.2.1,a.2.2.2.2.2.2.2.2.2.2.2.2,a.1,a.2.1,a.2.2.1,a.2.2.2.1,a.2.2.2.2.1,a.2.2.2.2.2.2.1,a.2.2.2.2.2.2.2.1,a.2.2.2.2.2.2.2.2.1,a.2.2.2.2.2.2.2.2.2.1,a.2.2.2.2.2.2.2.2.2.2.1)
def VE:fV:=⟨[.l [.i .i64],.l [.b],.l [.i .i64],.n,.n,.i,.i,.i,.i,.i,.i,.l [.i .i64,.i .i64,.i .i64,.i .i64,.i .i64],.l [.i .i64]],[.agg [.sl [.i .i64] [],.sl [.b] [],.sl [.i .i64] [],.pre 0 0 0 false,.own 1 false],.int .i64 0,.agg [.int .i64 0,.int .i64 0,.int .i64 0,.int .i64 0,.int .i64 0]],[.arr [.i .i64,.i .i64,.i .i64,.i .i64,.i .i64] [],.arr [.i .i64] []],[.l [.i .i64,.i .i64,.i .i64,.i .i64,.i .i64],.l [.i .i64]],.tup [],[.arr [.i .i64,.i .i64,.i .i64,.i .i64,.i .i64] [],.arr [.i .i64] []],fun a=>lK a⟩
theorem LV:rG tab 287 VE:=rG.of aCd (wd:=false) (cx:=(qH aI [(196,aL2)] [(306,aAU)] [] [])) (nG.make ⟨VB,trivial⟩ ⟨S9,trivial⟩ trivial) (fun a=>by kernel_rfl)
def uS (p0:aP) (p1:Int):Option (aP×(Int×Int×Int×Int×Int)×Int):=(aL p0.heap p1).bind fun a0=>(GJ p0.slots a0.2.2.2).bind fun a1=>bif a1.2 !=0 then some (aP.mk (aU.mk [] [] []) [] [],(0,0,0,0,0),a1.2) else (cA p0.heap).bind fun l2=>(cA p0.where_).bind fun l3=>(aL l2 (aA .i64 ((aa l2.length) -1))).bind fun a4=>(iX l2 0 (aA .i64 ((aa l2.length) -1))).bind fun _=>(aL l3 a0.2.2.2.1).bind fun _=>bif decide (p1<(aA .i64 ((aa l2.length) -1))) then (lK (a1.1.uses,a1.1.used,a1.1.free,(aA .i64 ((aa l2.length) -1)).toNat,l2.length,p1,a4.1,a4.2.1,a4.2.2.1,a4.2.2.2.1,a4.2.2.2.2,l2,cL l3 a0.2.2.2.1 (-1))).bind fun a7=>some (aP.mk a1.1 (a7.1.take ((aA .i64 ((aa l2.length) -1)).toNat)) a7.2,a0,0) else some (aP.mk a1.1 (l2.take ((aA .i64 ((aa l2.length) -1)).toNat)) (cL l3 a0.2.2.2.1 (-1)),a0,0)
def aVf:bV:=⟨aF.cons (aM.agg hJ) (aF.one (aM.int .i64)),aM.tup (aF.cons (aM.agg hJ) (aF.cons (aM.agg (cS.row lA)) (aF.one (aM.int .i64)))),fun a=>uS a.1 a.2,.frz,false⟩
theorem aMm:aJ tab 239 aVf:=aJ.of aKS (cx:=(qH aI [(285,aVe),(183,bV.clone lA),(67,bV.clone ki)] [(287,VE)] [(286,aDt)] [])) rfl (nG.make ⟨aMl,yK,rT,trivial⟩ ⟨LV,trivial⟩ ⟨U2,trivial⟩) (fun a=>by kernel_rfl)
def nO (p0:aP) (p1:Int×Int):Option (aP×(Int×Int×Int×Int×Int)×Int):=(rX p0 p1).bind fun a0=>bif a0.2 !=0 then some (aP.mk (aU.mk [] [] []) [] [],(0,0,0,0,0),a0.2) else (uS p0 a0.1).bind fun a1=>some a1
def aSQ:bV:=⟨aF.cons (aM.agg hJ) (aF.one (aM.agg (cS.row jY))),aM.tup (aF.cons (aM.agg hJ) (aF.cons (aM.agg (cS.row lA)) (aF.one (aM.int .i64)))),fun a=>nO a.1 a.2,.frz,false⟩
theorem aCu:aJ tab 176 aSQ:=Oc aKe rfl aI [(238,aSP),(239,aVf)] ⟨aCt,aMm,trivial⟩ fun a=>by kernel_rfl
def mW (a:aFd):Option (Nat×Nat×cT):= eT a
def aFk:fV:=⟨[.i,.i,.l [.i .i64,.i .i64,.i .i64]],[.own 0 false,.int .i64 0,.int .i64 0],[.arr [.i .i64,.i .i64,.i .i64] []],[.n,.n,.l [.i .i64,.i .i64,.i .i64]],.pre 0 0 0 false,[.arr [.i .i64,.i .i64,.i .i64] []],fun a=>mW a⟩
theorem aDz:rG tab 177 aFk:=rG.of aKf (wd:=true) (cx:=(qH aI [] [] [] [])) (nG.make trivial trivial trivial) (fun a=>by kernel_rfl)
def mX (p0:aO) (p1:Int):Option (aO×(Int×Int)×Int):=(AF p0.certs p1).bind fun a0=>bif a0.2.2 !=0 then some (lB,a0.2) else (lC p0).bind fun r1=>(qY p0.due p1).bind fun a2=>bif a2.2 then (aL p0.due a2.1).bind fun a3=>(nO p0.agenda a3.2).bind fun a4=>bif a4.2.2 !=0 then some (lB,a0.2.1,a4.2.2) else (mW (a2.1,aA .i64 (a2.1+1),r1.due)).bind fun a5=>some (aO.mk r1.now r1.field a0.1 a4.1 (a5.2.2.take a5.1),a0.2.1,0) else some (aO.mk r1.now r1.field a0.1 r1.agenda r1.due,a0.2.1,0)
def aSR:bV:=⟨aF.cons (aM.agg dI) (aF.one (aM.int .i64)),aM.tup (aF.cons (aM.agg dI) (aF.cons (aM.agg (cS.row jY)) (aF.one (aM.int .i64)))),fun a=>mX a.1 a.2,.frz,false⟩
theorem aCv:aJ tab 112 aSR:=aJ.of aJH (cx:=(qH aI [(174,aVb),(114,aFj),(114,YE),(175,aSN),(176,aSQ)] [(177,aFk)] [] [])) rfl (nG.make ⟨aMi,NR,J6,aCr,aCu,trivial⟩ ⟨aDz,trivial⟩ trivial) (fun a=>by kernel_rfl)
def xN (p0:aO) (p1:Int):Option (aO×Int):=(gY p0).bind fun n0=>bif n0 !=0 then some (lB,n0) else (mX p0 p1).bind fun a1=>some (a1.1,a1.2.2)
def aVg:bV:=⟨aF.cons (aM.agg dI) (aF.one (aM.int .i64)),aM.tup (aF.cons (aM.agg dI) (aF.one (aM.int .i64))),fun a=>xN a.1 a.2,.frz,false⟩
theorem aMn:aJ tab 241 aVg:=Oc aKU rfl aI [(65,c65),(112,aSR)] ⟨LT,aCv,trivial⟩ fun a=>by kernel_rfl
def kG (s:(cT×cT×Int×Int)):Option (bS (cT×cT×Int×Int) Bool):=bif decide (s.2.2.2<s.2.2.1) then (aL s.1 s.2.2.2).bind fun a0=>(aL s.2.1 s.2.2.2).bind fun a1=>bif !((a0.1==a1.1)&&((a0.2.1==a1.2.1)&&(a0.2.2==a1.2.2))) then some (.done false) else some (.next (s.1,s.2.1,s.2.2.1,aA .i64 (s.2.2.2+1))) else some (.done true)
def mY (p0:List (Int×Int×Int)) (p1:List (Int×Int×Int)):Option Bool:=bif (aa p0.length) !=(aa p1.length) then some false else aG kG (p0,p1,aa p0.length,0)
def aVh:bV:=⟨aF.cons (aM.sl fH) (aF.one (aM.sl fH)),aM.bool,fun a=>mY a.1 a.2,.pure,false⟩
theorem aMo:aJ tab 242 aVh:=Oc aKV rfl aI [] trivial fun a=>by kernel_rfl
def cH (a:aLy):Option aDw:=(aL a.2.2.2.2.2.2.2.2.2.1 a.2.2.2.1).bind fun _=>(aL a.2.2.2.2.2.2.2.2.2.2 a.2.2.2.2.2.2.2.1).bind fun _=>bif ((cL a.2.2.2.2.2.2.2.2.2.1 a.2.2.2.1 (a.2.2.2.2.1,a.2.2.2.2.2.1,a.2.2.2.2.2.2.1,a.2.2.2.2.2.2.2.1,a.2.2.2.2.2.2.2.2.1)).length)==a.2.2.2.2.2.2.2.2.2.1.length then bif ((cL a.2.2.2.2.2.2.2.2.2.2 a.2.2.2.2.2.2.2.1 a.2.2.2.1).length)==a.2.2.2.2.2.2.2.2.2.2.length then some (cL a.2.2.2.2.2.2.2.2.2.1 a.2.2.2.1 (a.2.2.2.2.1,a.2.2.2.2.2.1,a.2.2.2.2.2.2.1,a.2.2.2.2.2.2.2.1,a.2.2.2.2.2.2.2.2.1),cL a.2.2.2.2.2.2.2.2.2.2 a.2.2.2.2.2.2.2.1 a.2.2.2.1) else none else none
def aFl:fV:=⟨[.l [.i .i64],.l [.b],.l [.i .i64],.i,.i,.i,.i,.i,.i,.l [.i .i64,.i .i64,.i .i64,.i .i64,.i .i64],.l [.i .i64]],[.agg [.sl [.i .i64] [],.sl [.b] [],.sl [.i .i64] [],.own 0 false,.own 1 false],.int .i64 0,.agg [.int .i64 0,.int .i64 0,.int .i64 0,.int .i64 0,.int .i64 0]],[.arr [.i .i64,.i .i64,.i .i64,.i .i64,.i .i64] [],.arr [.i .i64] []],[.l [.i .i64,.i .i64,.i .i64,.i .i64,.i .i64],.l [.i .i64]],.tup [],[.arr [.i .i64,.i .i64,.i .i64,.i .i64,.i .i64] [],.arr [.i .i64] []],fun a=>cH a⟩
theorem aDA:rG tab 306 aFl:=rG.of aCf (wd:=false) (cx:=(qH aI [] [] [] [])) (nG.make trivial trivial trivial) (fun a=>by kernel_rfl)
def gR (c0:aLy) (s:aUt):Option (bS aUt aUo):=match s with |(a,b,d,e,f,g,h,i,j,k,l,m)=>bif decide (b<(aa d.length)) then bif decide ((aA .i64 (b+1))<(aa d.length)) then (aL d (aA .i64 (b+1))).bind fun a0=>(aL d b).bind fun a1=>(cO a0 a1).bind fun n2=>bif decide (n2<0) then (aL d (aA .i64 (b+1))).bind fun a3=>(cO a3 (i,j,k,l,m)).bind fun n4=>bif decide (0<=n4) then (cH (f,g,h,a,i,j,k,l,m,d,e)).bind fun a5=>bif a5.1.length==c0.2.2.2.2.2.2.2.2.2.1.length then bif a5.2.length==c0.2.2.2.2.2.2.2.2.2.2.length then some (.done (.done a5)) else none else none else (aL d (aA .i64 (b+1))).bind fun a6=>(cH (f,g,h,a,a6.1,a6.2.1,a6.2.2.1,a6.2.2.2.1,a6.2.2.2.2,d,e)).bind fun a7=>some (.next (aA .i64 (b+1),aA .i64 ((aA .i64 (2*(aA .i64 (b+1))))+1),a7.1,a7.2,(f,g,h,i,j,k,l,m))) else (aL d b).bind fun a8=>(cO a8 (i,j,k,l,m)).bind fun n9=>bif decide (0<=n9) then (cH (f,g,h,a,i,j,k,l,m,d,e)).bind fun a10=>bif a10.1.length==c0.2.2.2.2.2.2.2.2.2.1.length then bif a10.2.length==c0.2.2.2.2.2.2.2.2.2.2.length then some (.done (.done a10)) else none else none else (aL d b).bind fun a11=>(cH (f,g,h,a,a11.1,a11.2.1,a11.2.2.1,a11.2.2.2.1,a11.2.2.2.2,d,e)).bind fun a12=>some (.next (b,aA .i64 ((aA .i64 (2*b))+1),a12.1,a12.2,(f,g,h,i,j,k,l,m))) else (aL d b).bind fun a13=>(cO a13 (i,j,k,l,m)).bind fun n14=>bif decide (0<=n14) then (cH (f,g,h,a,i,j,k,l,m,d,e)).bind fun a15=>bif a15.1.length==c0.2.2.2.2.2.2.2.2.2.1.length then bif a15.2.length==c0.2.2.2.2.2.2.2.2.2.2.length then some (.done (.done a15)) else none else none else (aL d b).bind fun a16=>(cH (f,g,h,a,a16.1,a16.2.1,a16.2.2.1,a16.2.2.2.1,a16.2.2.2.2,d,e)).bind fun a17=>some (.next (b,aA .i64 ((aA .i64 (2*b))+1),a17.1,a17.2,(f,g,h,i,j,k,l,m))) else (cH (f,g,h,a,i,j,k,l,m,d,e)).bind fun a18=>bif a18.1.length==c0.2.2.2.2.2.2.2.2.2.1.length then bif a18.2.length==c0.2.2.2.2.2.2.2.2.2.2.length then some (.done (.done a18)) else none else none
def fJ (c0:aLy) (s:aUn):Option aUo:=bif decide (0<s.1) then (aL s.2.1 (aA .i64 (ac (aA .i64 (s.1-1)) 2))).bind fun a0=>(cO s.2.2.2.2.2.2 a0).bind fun n1=>bif decide (n1<0) then (aL s.2.1 (aA .i64 (ac (aA .i64 (s.1-1)) 2))).bind fun a2=>(cH (s.2.2.2.1,s.2.2.2.2.1,s.2.2.2.2.2.1,s.1,a2.1,a2.2.1,a2.2.2.1,a2.2.2.2.1,a2.2.2.2.2,s.2.1,s.2.2.1)).bind fun a3=>some (.next (aA .i64 (ac (aA .i64 (s.1-1)) 2),a3.1,a3.2,s.2.2.2)) else aG (gR c0) (s.1,aA .i64 ((aA .i64 (2*s.1))+1),s.2) else aG (gR c0) (s.1,aA .i64 ((aA .i64 (2*s.1))+1),s.2)
def fQ (a:aLy):Option aDw:=aG (fJ a) (a.2.2.2.1,a.2.2.2.2.2.2.2.2.2.1,a.2.2.2.2.2.2.2.2.2.2,a.1,a.2.1,a.2.2.1,a.2.2.2.2.1,a.2.2.2.2.2.1,a.2.2.2.2.2.2.1,a.2.2.2.2.2.2.2.1,a.2.2.2.2.2.2.2.2.1)
def aAV:fV:=⟨[.l [.i .i64],.l [.b],.l [.i .i64],.i,.i,.i,.i,.i,.i,.l [.i .i64,.i .i64,.i .i64,.i .i64,.i .i64],.l [.i .i64]],[.agg [.sl [.i .i64] [],.sl [.b] [],.sl [.i .i64] [],.own 0 false,.own 1 false],.int .i64 0,.agg [.int .i64 0,.int .i64 0,.int .i64 0,.int .i64 0,.int .i64 0]],[.arr [.i .i64,.i .i64,.i .i64,.i .i64,.i .i64] [],.arr [.i .i64] []],[.l [.i .i64,.i .i64,.i .i64,.i .i64,.i .i64],.l [.i .i64]],.tup [],[.arr [.i .i64,.i .i64,.i .i64,.i .i64,.i .i64] [],.arr [.i .i64] []],fun a=>fQ a⟩
theorem TA:rG tab 287 aAV:=rG.of aCd (wd:=false) (cx:=(qH aI [(196,aL2)] [(306,aAU),(306,aFl)] [] [])) (nG.make ⟨VB,trivial⟩ ⟨S9,aDA,trivial⟩ trivial) (fun a=>by kernel_rfl)
def xO (p0:aP) (p1:Int×Int) (p2:Int×Int):Option (aP×Int):=(kU p0).bind fun n0=>(eL p2).bind fun n1=>bif (if n1>n0 then n1 else n0) !=0 then some (aP.mk (aU.mk [] [] []) [] [],if n1>n0 then n1 else n0) else (rX p0 p1).bind fun a2=>bif a2.2 !=0 then some (aP.mk (aU.mk [] [] []) [] [],a2.2) else (cA p0.heap).bind fun l3=>(cA p0.where_).bind fun l4=>(aL l3 a2.1).bind fun a5=>(fQ (p0.slots.uses,p0.slots.used,p0.slots.free,a2.1,p2.1,p2.2,a5.2.2.1,a5.2.2.2.1,a5.2.2.2.2,l3,l4)).bind fun a6=>some (aP.mk p0.slots a6.1 a6.2,0)
def aVi:bV:=⟨aF.cons (aM.agg hJ) (aF.cons (aM.agg (cS.row jY)) (aF.one (aM.agg (cS.row jY)))),aM.tup (aF.cons (aM.agg hJ) (aF.one (aM.int .i64))),fun a=>xO a.1 a.2.1 a.2.2,.frz,false⟩
theorem aMp:aJ tab 289 aVi:=aJ.of aLg (cx:=(qH aI [(129,aDx),(49,c49),(238,aSP),(183,bV.clone lA),(67,bV.clone ki)] [(287,VE),(287,aAV)] [(286,aDt)] [])) rfl (nG.make ⟨J5,yL,aCt,yK,rT,trivial⟩ ⟨LV,TA,trivial⟩ ⟨U2,trivial⟩) (fun a=>by kernel_rfl)
def BA (p0:Int×Int×Int×Int×Int) (p1:Int):Option Bool:=some (p0.2.2.1==p1)
def aVj:bV:=⟨aF.cons (aM.agg (cS.row lA)) (aF.one (aM.ref (cS.int .i64))),aM.bool,fun a=>BA a.1 a.2,.pure,false⟩
theorem aMq:aJ tab 309 aVj:=Oc aCg rfl aI [] trivial fun a=>by kernel_rfl
def dC (s:(rH×Int×Int×Int)):Option (bS (rH×Int×Int×Int) Int):=bif decide (s.2.2.2<s.2.2.1) then (aL s.1 s.2.2.2).bind fun a0=>(BA a0 s.2.1).bind fun b1=>bif b1 then some (.done s.2.2.2) else some (.next (s.1,s.2.1,s.2.2.1,aA .i64 (s.2.2.2+1))) else some (.done (-1))
def fK (p0:List (Int×Int×Int×Int×Int)) (p1:Int):Option Int:=aG dC (p0,p1,aa p0.length,0)
def YH:bV:=⟨aF.cons (aM.sl lA) (aF.one (aM.clo 309 (aF.one (aM.ref (cS.int .i64))))),aM.int .i64,fun a=>fK a.1 a.2,.pure,false⟩
theorem YI:aJ tab 316 YH:=aJ.of aLu (cx:=(qH aI [(309,aVj)] [] [(309,aJj)] [])) rfl (nG.make ⟨aMq,trivial⟩ trivial ⟨aCg,trivial⟩) (fun a=>by kernel_rfl)
def dD (p0:List (Int×Int×Int×Int×Int)) (p1:Int):Option Bool:=(fK p0 p1).bind fun n0=>some (decide (0<=n0))
def YJ:bV:=⟨aF.cons (aM.sl lA) (aF.one (aM.clo 309 (aF.one (aM.ref (cS.int .i64))))),aM.bool,fun a=>dD a.1 a.2,.pure,false⟩
theorem YK:aJ tab 308 YJ:=Oc aLq rfl aI [(316,YH)] ⟨YI,trivial⟩ fun a=>by kernel_rfl
def yR (p0:List Int):Option ((List Int)×Int):=(iX p0 0 (aA .i64 ((aa p0.length) -1))).bind fun l0=>(cA l0).bind fun l1=>(aL p0 (aA .i64 ((aa p0.length) -1))).bind fun n2=>some (l1,n2)
def aVk:bV:=⟨aF.one (aM.sl ki),aM.tup (aF.cons (aM.sl ki) (aF.one (aM.int .i64))),fun a=>yR a,.frz,false⟩
theorem aMr:aJ tab 317 aVk:=Oc aLv rfl aI [(315,bV.clone ki)] ⟨XZ,trivial⟩ fun a=>by kernel_rfl
def GK (p0:aU):Option (aU×(Int×Int)×Int):=(tK p0).bind fun n0=>bif n0 !=0 then some (aU.mk [] [] [],(0,0),n0) else bif (aa p0.free.length)==0 then some (aU.mk [] [] [],(0,0),18) else (yR p0.free).bind fun a1=>(aL p0.uses a1.2).bind fun n2=>bif n2==1000000 then some (aU.mk [] [] [],(0,0),18) else (cA p0.uses).bind fun l3=>(cA p0.used).bind fun l4=>(aL l4 a1.2).bind fun _=>(aL l3 a1.2).bind fun n6=>(aL l3 a1.2).bind fun _=>(aL (cL l3 a1.2 (aA .i64 (n6+1))) a1.2).bind fun n8=>some (aU.mk (cL l3 a1.2 (aA .i64 (n6+1))) (cL l4 a1.2 true) a1.1,(a1.2,n8),0)
def aVl:bV:=⟨aF.one (aM.agg pZ),aM.tup (aF.cons (aM.agg pZ) (aF.cons (aM.agg (cS.row jY)) (aF.one (aM.int .i64)))),fun a=>GK a,.frz,false⟩
theorem aMs:aJ tab 310 aVl:=aJ.of aLr (cx:=(qH aI [(195,aLW),(317,aVk),(67,bV.clone ki),(184,bV.clone kb)] [] [(304,aE7)] [])) rfl (nG.make ⟨VA,aMr,rT,yJ,trivial⟩ trivial ⟨aCe,trivial⟩) (fun a=>by kernel_rfl)
def mO (p0:aP) (p1:Int×Int) (p2:Int):Option (aP×(Int×Int)×Int):=(kU p0).bind fun n0=>(eL p1).bind fun n1=>bif (if n1>n0 then n1 else n0) !=0 then some (aP.mk (aU.mk [] [] []) [] [],(0,0),if n1>n0 then n1 else n0) else bif decide (p2<0) then some (aP.mk (aU.mk [] [] []) [] [],(0,0),2) else bif decide (1000000<p2) then some (aP.mk (aU.mk [] [] []) [] [],(0,0),2) else (dD p0.heap p2).bind fun b2=>bif b2 then some (aP.mk (aU.mk [] [] []) [] [],(0,0),14) else (GK p0.slots).bind fun a3=>bif a3.2.2 !=0 then some (aP.mk (aU.mk [] [] []) [] [],(0,0),a3.2.2) else (cA p0.heap).bind fun l4=>(cA p0.where_).bind fun l5=>(bZ l4 [(p1.1,p1.2,p2,a3.2.1)]).bind fun l6=>(fQ (a3.1.uses,a3.1.used,a3.1.free,aA .i64 ((aa l6.length) -1),p1.1,p1.2,p2,a3.2.1.1,a3.2.1.2,l6,l5)).bind fun a7=>some (aP.mk a3.1 a7.1 a7.2,a3.2.1,0)
def aSS:bV:=⟨aF.cons (aM.agg hJ) (aF.cons (aM.agg (cS.row jY)) (aF.one (aM.int .i64))),aM.tup (aF.cons (aM.agg hJ) (aF.cons (aM.agg (cS.row jY)) (aF.one (aM.int .i64)))),fun a=>mO a.1 a.2.1 a.2.2,.frz,false⟩
theorem aCw:aJ tab 290 aSS:=aJ.of aLh (cx:=(qH aI [(129,aDx),(49,c49),(308,YJ),(310,aVl),(183,bV.clone lA),(67,bV.clone ki)] [(287,VE),(287,aAV)] [(286,aDt)] [])) rfl (nG.make ⟨J5,yL,YK,aMs,yK,rT,trivial⟩ ⟨LV,TA,trivial⟩ ⟨U2,trivial⟩) (fun a=>by kernel_rfl)
def dY (s:Zt4):Option (bS Zt4 Zt6):=match s with |(a,b,d,e,f,g,h,i,j,k,l,m,n,o,q,r,t,u,v,w,x,y,z,A,B,C,D,E,F)=>bif decide (d<b) then (aL a d).bind fun a0=>(tM (Field.mk q) a0.2 (e,f)).bind fun a1=>(qY o a0.1).bind fun a2=>bif a1.2.1 then bif a2.2 then (aL o a2.1).bind fun a3=>(xO (aP.mk (aU.mk z A B) C D) a3.2 a1.1).bind fun a4=>(aL o a2.1).bind fun a5=>(bZ F [a5]).bind fun l6=>bif a4.2 !=0 then some (.done (.done (lB,a4.2))) else some (.next (a,b,aA .i64 (d+1),e,f,g,h,i,j,k,l,m,n,o,q,r,t,u,v,w,x,y,a4.1.slots.uses,a4.1.slots.used,a4.1.slots.free,a4.1.heap,a4.1.where_,E,l6)) else bif a1.2.1 then (mO (aP.mk (aU.mk z A B) C D) a1.1 a0.1).bind fun a7=>(bZ F [(a0.1,a7.2.1)]).bind fun l8=>bif a7.2.2 !=0 then some (.done (.done (lB,a7.2.2))) else some (.next (a,b,aA .i64 (d+1),e,f,g,h,i,j,k,l,m,n,o,q,r,t,u,v,w,x,y,a7.1.slots.uses,a7.1.slots.used,a7.1.slots.free,a7.1.heap,a7.1.where_,E,l8)) else bif a2.2 then (aL o a2.1).bind fun a9=>(nO (aP.mk (aU.mk z A B) C D) a9.2).bind fun a10=>bif a10.2.2 !=0 then some (.done (.done (lB,a10.2.2))) else some (.next (a,b,aA .i64 (d+1),e,f,g,h,i,j,k,l,m,n,o,q,r,t,u,v,w,x,y,a10.1.slots.uses,a10.1.slots.used,a10.1.slots.free,a10.1.heap,a10.1.where_,(E,F))) else bif a1.2.2 !=0 then some (.done (.done (lB,a1.2.2))) else some (.next (a,b,aA .i64 (d+1),(e,f,g,h,i,j,k,l,m,n,o,q,r,t,u,v,w,x,y,z,A,B,C,D,E,F))) else bif a1.2.1 then (mO (aP.mk (aU.mk z A B) C D) a1.1 a0.1).bind fun a11=>(bZ F [(a0.1,a11.2.1)]).bind fun l12=>bif a11.2.2 !=0 then some (.done (.done (lB,a11.2.2))) else some (.next (a,b,aA .i64 (d+1),e,f,g,h,i,j,k,l,m,n,o,q,r,t,u,v,w,x,y,a11.1.slots.uses,a11.1.slots.used,a11.1.slots.free,a11.1.heap,a11.1.where_,E,l12)) else bif a2.2 then (aL o a2.1).bind fun a13=>(nO (aP.mk (aU.mk z A B) C D) a13.2).bind fun a14=>bif a14.2.2 !=0 then some (.done (.done (lB,a14.2.2))) else some (.next (a,b,aA .i64 (d+1),e,f,g,h,i,j,k,l,m,n,o,q,r,t,u,v,w,x,y,a14.1.slots.uses,a14.1.slots.used,a14.1.slots.free,a14.1.heap,a14.1.where_,(E,F))) else bif a1.2.2 !=0 then some (.done (.done (lB,a1.2.2))) else some (.next (a,b,aA .i64 (d+1),(e,f,g,h,i,j,k,l,m,n,o,q,r,t,u,v,w,x,y,z,A,B,C,D,E,F))) else some (.done (.done (aO.mk (v,w) (Field.mk E) (bK.mk x y) (aP.mk (aU.mk z A B) C D) F,0)))
def lV (s:aUh):Option Zt6:=match s with |(a,b,d,e,f,g,h,i,j,k,l,m,n,o,q,r,t,u)=>bif decide (d<b) then (aL a d).bind fun a0=>(kV (Field.mk q) a0.2.1).bind fun a1=>bif decide (a1.1<0) then some (.done (lB,6)) else (kV (Field.mk q) a0.2.2).bind fun a2=>bif decide (a2.1<0) then some (.done (lB,6)) else some (.next (a,b,aA .i64 (d+1),(e,f,g,h,i,j,k,l,m,n,o,q,r,t,u))) else (lC (aO.mk (e,f) (Field.mk g) (bK.mk h i) (aP.mk (aU.mk j k l) m n) o)).bind fun r3=>(cA q).bind fun l4=>aG dY (i,aa i.length,0,e,f,g,h,i,j,k,l,m,n,o,q,r,t,u,r3.now.1,r3.now.2,r3.certs.next_,r3.certs.list,r3.agenda.slots.uses,r3.agenda.slots.used,r3.agenda.slots.free,r3.agenda.heap,r3.agenda.where_,l4,[])
def qZ (p0:aO) (p1:Field):Option (aO×Int):=(gY p0).bind fun n0=>bif n0 !=0 then some (lB,n0) else (eW p1).bind fun n1=>bif n1 !=0 then some (lB,n1) else aG lV (p0.certs.list,aa p0.certs.list.length,0,p0.now.1,p0.now.2,p0.field.points,p0.certs.next_,p0.certs.list,p0.agenda.slots.uses,p0.agenda.slots.used,p0.agenda.slots.free,p0.agenda.heap,p0.agenda.where_,p0.due,p1.points,0,0,0)
def aVm:bV:=⟨aF.cons (aM.agg dI) (aF.one (aM.agg dH)),aM.tup (aF.cons (aM.agg dI) (aF.one (aM.int .i64))),fun a=>qZ a.1 a.2,.frz,false⟩
theorem aMt:aJ tab 243 aVm:=Oc aKW rfl aI [(65,c65),(122,X1),(198,aL4),(114,aFj),(114,YE),(124,bV.clone fH),(130,aL9),(175,aSN),(289,aVi),(290,aSS),(176,aSQ)] ⟨LT,C9,VC,NR,J6,yI,VD,aCr,aMp,aCw,aCu,trivial⟩ fun a=>by kernel_rfl
def HD (p0:Int×Int×Int) (p1:Int×Int):Option Bool:=some ((p0.2.1==p1.1)&&(p0.2.2==p1.2))
def aVn:bV:=⟨aF.cons (aM.agg (cS.row fH)) (aF.one (aM.ref (cS.row jY))),aM.bool,fun a=>HD a.1 a.2,.pure,false⟩
theorem aMu:aJ tab 244 aVn:=Oc aCc rfl aI [] trivial fun a=>by kernel_rfl
def nY (s:RQ):Option (bS RQ Int):=bif decide (s.2.2.2.2<s.2.2.2.1) then (aL s.1 s.2.2.2.2).bind fun a0=>(HD a0 (s.2.1,s.2.2.1)).bind fun b1=>bif b1 then some (.done s.2.2.2.2) else some (.next (s.1,s.2.1,s.2.2.1,s.2.2.2.1,aA .i64 (s.2.2.2.2+1))) else some (.done (-1))
def jF (p0:List (Int×Int×Int)) (p1:(Int×Int)):Option Int:=aG nY (p0,p1.1,p1.2,aa p0.length,0)
def YL:bV:=⟨aF.cons (aM.sl fH) (aF.one (aM.clo 244 (aF.one (aM.ref (cS.row jY))))),aM.int .i64,fun a=>jF a.1 a.2,.pure,false⟩
theorem YM:aJ tab 214 YL:=aJ.of U0 (cx:=(qH aI [(244,aVn)] [] [(244,aIv)] [])) rfl (nG.make ⟨aMu,trivial⟩ trivial ⟨aCc,trivial⟩) (fun a=>by kernel_rfl)
def eS (p0:List (Int×Int×Int)) (p1:(Int×Int)):Option Bool:=(jF p0 p1).bind fun n0=>some (decide (0<=n0))
def YN:bV:=⟨aF.cons (aM.sl fH) (aF.one (aM.clo 244 (aF.one (aM.ref (cS.row jY))))),aM.bool,fun a=>eS a.1 a.2,.pure,false⟩
theorem YO:aJ tab 139 YN:=Oc UY rfl aI [(214,YL)] ⟨YM,trivial⟩ fun a=>by kernel_rfl
def dX (p0:Int):Option (aO×Int×Int):=some (lB,0,p0)
def aVo:bV:=⟨aF.one (aM.int .i64),aM.tup (aF.cons (aM.agg dI) (aF.cons (aM.int .i64) (aF.one (aM.int .i64)))),fun a=>dX a,.frz,false⟩
theorem aMv:aJ tab 291 aVo:=Oc aLi rfl aI [] trivial fun a=>by kernel_rfl
def IK (p0:Int×Int×Int) (p1:Int×Int):Option Bool:=some ((p0.2.1==p1.1)&&(p0.2.2==p1.2))
def aVp:bV:=⟨aF.cons (aM.agg (cS.row fH)) (aF.one (aM.ref (cS.row jY))),aM.bool,fun a=>IK a.1 a.2,.pure,false⟩
theorem aMw:aJ tab 311 aVp:=Oc aCh rfl aI [] trivial fun a=>by kernel_rfl
def dW (s:RQ):Option (bS RQ Int):=bif decide (s.2.2.2.2<s.2.2.2.1) then (aL s.1 s.2.2.2.2).bind fun a0=>(IK a0 (s.2.1,s.2.2.1)).bind fun b1=>bif b1 then some (.done s.2.2.2.2) else some (.next (s.1,s.2.1,s.2.2.1,s.2.2.2.1,aA .i64 (s.2.2.2.2+1))) else some (.done (-1))
def gH (p0:List (Int×Int×Int)) (p1:(Int×Int)):Option Int:=aG dW (p0,p1.1,p1.2,aa p0.length,0)
def YP:bV:=⟨aF.cons (aM.sl fH) (aF.one (aM.clo 311 (aF.one (aM.ref (cS.row jY))))),aM.int .i64,fun a=>gH a.1 a.2,.pure,false⟩
theorem YQ:aJ tab 214 YP:=aJ.of U0 (cx:=(qH aI [(311,aVp)] [] [(311,aJm)] [])) rfl (nG.make ⟨aMw,trivial⟩ trivial ⟨aCh,trivial⟩) (fun a=>by kernel_rfl)
def cP (p0:List (Int×Int×Int)) (p1:(Int×Int)):Option Bool:=(gH p0 p1).bind fun n0=>some (decide (0<=n0))
def YR:bV:=⟨aF.cons (aM.sl fH) (aF.one (aM.clo 311 (aF.one (aM.ref (cS.row jY))))),aM.bool,fun a=>cP a.1 a.2,.pure,false⟩
theorem YS:aJ tab 139 YR:=Oc UY rfl aI [(214,YP)] ⟨YQ,trivial⟩ fun a=>by kernel_rfl
def J7 (p0:bK) (p1:Int×Int):Option (bK×Int×Int):=(tJ p0).bind fun n0=>bif n0 !=0 then some (bK.mk 0 [],0,n0) else (yO p1).bind fun b1=>bif !b1 then some (bK.mk 0 [],0,8) else (cP p0.list p1).bind fun b2=>bif b2 then some (bK.mk 0 [],0,14) else bif (aa p0.list.length)==200 then some (bK.mk 0 [],0,18) else bif p0.next_==1000000 then some (bK.mk 0 [],0,18) else (cA p0.list).bind fun l3=>(bZ l3 [(p0.next_,p1)]).bind fun l4=>some (bK.mk (aA .i64 (p0.next_+1)) l4,p0.next_,0)
def aVq:bV:=⟨aF.cons (aM.agg rS) (aF.one (aM.agg (cS.row jY))),aM.tup (aF.cons (aM.agg rS) (aF.cons (aM.int .i64) (aF.one (aM.int .i64)))),fun a=>J7 a.1 a.2,.frz,false⟩
theorem aMx:aJ tab 292 aVq:=Oc aLj rfl aI [(128,aLT),(194,aSL),(139,YR),(181,bV.clone fH)] ⟨U9,aCq,YS,B8,trivial⟩ fun a=>by kernel_rfl
def jN (p0:aO) (p1:Int×Int):Option (aO×Int×Int):=(gY p0).bind fun n0=>bif n0 !=0 then (dX n0).bind fun a1=>some a1 else (J7 p0.certs p1).bind fun a2=>bif a2.2.2==8 then (dX a2.2.2).bind fun a3=>some a3 else (kV p0.field p1.1).bind fun a4=>bif decide (a4.1<0) then (dX 6).bind fun a5=>some a5 else (kV p0.field p1.2).bind fun a6=>bif decide (a6.1<0) then (dX 6).bind fun a7=>some a7 else bif a2.2.2 !=0 then (dX a2.2.2).bind fun a8=>some a8 else (lC p0).bind fun r9=>(tM p0.field p1 p0.now).bind fun a10=>bif a10.2.2 !=0 then (dX a10.2.2).bind fun a11=>some a11 else bif a10.2.1 then (mO p0.agenda a10.1 a2.2.1).bind fun a12=>bif a12.2.2 !=0 then (dX a12.2.2).bind fun a13=>some a13 else (bZ r9.due [(a2.2.1,a12.2.1)]).bind fun l14=>some (aO.mk r9.now r9.field a2.1 a12.1 l14,a2.2.1,0) else some (aO.mk r9.now r9.field a2.1 r9.agenda r9.due,a2.2.1,0)
def aVr:bV:=⟨aF.cons (aM.agg dI) (aF.one (aM.agg (cS.row jY))),aM.tup (aF.cons (aM.agg dI) (aF.cons (aM.int .i64) (aF.one (aM.int .i64)))),fun a=>jN a.1 a.2,.frz,false⟩
theorem aMy:aJ tab 245 aVr:=Oc aKX rfl aI [(65,c65),(291,aVo),(292,aVq),(198,aL4),(114,aFj),(114,YE),(130,aL9),(290,aSS)] ⟨LT,aMv,aMx,VC,NR,J6,VD,aCw,trivial⟩ fun a=>by kernel_rfl
def fX (s:Zt9):Option (bS Zt9 Zt5):=match s with |(a,b,d,e,f,g,h,i,j,k,l,m,n,o,q,r,t)=>bif decide (d<b) then (aL a d).bind fun a0=>(eS i a0).bind fun b1=>bif b1 then some (.next (a,b,aA .i64 (d+1),(e,f,g,h,i,j,k,l,m,n,o,q,r,t))) else (jN (aO.mk (e,f) (Field.mk g) (bK.mk h i) (aP.mk (aU.mk j k l) m n) o) a0).bind fun a2=>bif a2.2.2 !=0 then some (.done (.done (lB,a2.2.2))) else some (.next (a,b,aA .i64 (d+1),a2.1.now.1,a2.1.now.2,a2.1.field.points,a2.1.certs.next_,a2.1.certs.list,a2.1.agenda.slots.uses,a2.1.agenda.slots.used,a2.1.agenda.slots.free,a2.1.agenda.heap,a2.1.agenda.where_,a2.1.due,(q,r,t))) else some (.done (.done (aO.mk (e,f) (Field.mk g) (bK.mk h i) (aP.mk (aU.mk j k l) m n) o,0)))
def eZ (s:aUg):Option Zt5:=match s with |(a,b,d,e,f,g,h,i,j,k,l,m,n,o,q,r,t,u,v)=>bif decide (e<d) then (aL b e).bind fun a0=>(eY a a0.2).bind fun b1=>bif !b1 then (xN (aO.mk (f,g) (Field.mk h) (bK.mk i j) (aP.mk (aU.mk k l m) n o) q) a0.1).bind fun a2=>some (.next (a,b,d,aA .i64 (e+1),a2.1.now.1,a2.1.now.2,a2.1.field.points,a2.1.certs.next_,a2.1.certs.list,a2.1.agenda.slots.uses,a2.1.agenda.slots.used,a2.1.agenda.slots.free,a2.1.agenda.heap,a2.1.agenda.where_,a2.1.due,(r,t,u,v))) else some (.next (a,b,d,aA .i64 (e+1),(f,g,h,i,j,k,l,m,n,o,q,r,t,u,v))) else (mY h r).bind fun b3=>bif !b3 then (qZ (aO.mk (f,g) (Field.mk h) (bK.mk i j) (aP.mk (aU.mk k l m) n o) q) (Field.mk r)).bind fun a4=>bif a4.2 !=0 then some (.done (lB,a4.2)) else aG fX (a,aa a.length,0,a4.1.now.1,a4.1.now.2,a4.1.field.points,a4.1.certs.next_,a4.1.certs.list,a4.1.agenda.slots.uses,a4.1.agenda.slots.used,a4.1.agenda.slots.free,a4.1.agenda.heap,a4.1.agenda.where_,a4.1.due,(t,u,v)) else aG fX (a,aa a.length,0,f,g,h,i,j,k,l,m,n,o,q,(t,u,v))
def vR (p0:aO) (p1:Field) (p2:List (Int×Int)):Option (aO×Int):=aG eZ (p2,p0.certs.list,aa p0.certs.list.length,0,p0.now.1,p0.now.2,p0.field.points,p0.certs.next_,p0.certs.list,p0.agenda.slots.uses,p0.agenda.slots.used,p0.agenda.slots.free,p0.agenda.heap,p0.agenda.where_,p0.due,p1.points,0,0,0)
def aVs:bV:=⟨aF.cons (aM.agg dI) (aF.cons (aM.agg dH) (aF.one (aM.sl jY))),aM.tup (aF.cons (aM.agg dI) (aF.one (aM.int .i64))),fun a=>vR a.1 a.2.1 a.2.2,.frz,false⟩
theorem aMz:aJ tab 179 aVs:=Oc aKh rfl aI [(138,aFg),(241,aVg),(242,aVh),(243,aVm),(139,YN),(245,aVr)] ⟨NQ,aMn,aMo,aMt,YO,aMy,trivial⟩ fun a=>by kernel_rfl
def fY (s:aDv):Option (bS aDv Zt1):=match s with |(a,b,d,e,f,g,h,i,j,k,l,m,n,o,q,r,t,u,v)=>bif decide (e<d) then (aL b e).bind fun a0=>(yP (Field.mk r) a0.1).bind fun a1=>(yP (Field.mk r) a0.2).bind fun a2=>bif a1.2 !=0 then some (.done (.done (.done (lB,6)))) else bif a2.2 !=0 then some (.done (.done (.done (lB,6)))) else some (.next (a,b,d,aA .i64 (e+1),(f,g,h,i,j,k,l,m,n,o,q,r,t,u,v))) else (yQ (aO.mk (f,g) (Field.mk h) (bK.mk i j) (aP.mk (aU.mk k l m) n o) q)).bind fun r3=>(vR r3 (Field.mk r) a).bind fun a4=>some (.done (.done (.done a4)))
def fA (s:aDv):Option Zt1:=bif decide (s.2.2.2.1<s.2.2.1) then (aL s.2.1 s.2.2.2.1).bind fun a0=>(iX s.1 0 s.2.2.2.1).bind fun l1=>(eY l1 a0).bind fun b2=>bif b2 then some (.done (.done (lB,14))) else some (.next (s.1,s.2.1,s.2.2.1,aA .i64 (s.2.2.2.1+1),s.2.2.2.2)) else aG fY (s.1,s.1,aa s.1.length,0,s.2.2.2.2)
def fB (s:aDv):Option aUf:=bif decide (s.2.2.2.1<s.2.2.1) then (aL s.2.1 s.2.2.2.1).bind fun a0=>bif decide (a0.1<0) then some (.done (lB,8)) else bif decide (a0.2<0) then some (.done (lB,8)) else bif decide (65535<a0.1) then some (.done (lB,8)) else bif decide (65535<a0.2) then some (.done (lB,8)) else bif a0.1==a0.2 then some (.done (lB,8)) else some (.next (s.1,s.2.1,s.2.2.1,aA .i64 (s.2.2.2.1+1),s.2.2.2.2)) else aG fA (s.1,s.1,aa s.1.length,0,s.2.2.2.2)
def rA (p0:aO) (p1:Field) (p2:List (Int×Int)):Option (aO×Int):=(gY p0).bind fun n0=>bif n0 !=0 then some (lB,n0) else (eW p1).bind fun n1=>bif n1 !=0 then some (lB,n1) else aG fB (p2,p2,aa p2.length,0,p0.now.1,p0.now.2,p0.field.points,p0.certs.next_,p0.certs.list,p0.agenda.slots.uses,p0.agenda.slots.used,p0.agenda.slots.free,p0.agenda.heap,p0.agenda.where_,p0.due,p1.points,0,0,0)
def aVt:bV:=⟨aF.cons (aM.agg dI) (aF.cons (aM.agg dH) (aF.one (aM.sl jY))),aM.tup (aF.cons (aM.agg dI) (aF.one (aM.int .i64))),fun a=>rA a.1 a.2.1 a.2.2,.frz,false⟩
theorem aMA:aJ tab 113 aVt:=Oc aJI rfl aI [(65,c65),(122,X1),(138,aFg),(178,aU7),(180,aU8),(180,aNQ),(179,aVs)] ⟨LT,C9,NQ,aMe,aMf,aFh,aMz,trivial⟩ fun a=>by kernel_rfl
def kC (p0:aO) (p1:Field) (p2:List Int):Option (bO×Int):=(jM p1 p0.now p2).bind fun a0=>(rA p0 p1 a0.2).bind fun a1=>bif a1.2 !=0 then some (bO.mk lB (bG.mk [] []),a1.2) else some (bO.mk a1.1 a0.1,0)
def c52:bV:=⟨aF.cons (aM.agg dI) (aF.cons (aM.agg dH) (aF.one (aM.sl ki))),aM.tup (aF.cons (aM.agg kQ) (aF.one (aM.int .i64))),fun a=>kC a.1 a.2.1 a.2.2,.frz,false⟩
theorem aFm:aJ tab 52 c52:=Oc aRY rfl aI [(54,c54),(113,aVt)] ⟨U8,aMA,trivial⟩ fun a=>by kernel_rfl
def J8 (p0:Field) (p1:Int×Int):Option (bO×Int):=(S8 p0 p1).bind fun a0=>bif a0.2 !=0 then some (bO.mk lB (bG.mk [] []),a0.2) else (J4 p0).bind fun l1=>(kC a0.1 p0 l1).bind fun a2=>some a2
def c17:bV:=⟨aF.cons (aM.agg dH) (aF.one (aM.agg (cS.row jY))),aM.tup (aF.cons (aM.agg kQ) (aF.one (aM.int .i64))),fun a=>J8 a.1 a.2,.frz,false⟩
theorem aST:aJ tab 17 c17:=Oc aRz rfl aI [(59,c59),(60,c60),(52,c52)] ⟨aSF,aSG,aFm,trivial⟩ fun a=>by kernel_rfl
def wU (p0:Int):Option Bool:=bif decide ((-1)<=p0) then some (decide (p0<=65535)) else some false
def aVu:bV:=⟨aF.one (aM.int .i64),aM.bool,fun a=>wU a,.pure,false⟩
theorem aMB:aJ tab 133 aVu:=Oc aJR rfl aI [] trivial fun a=>by kernel_rfl
def jT (s:((List Int)×Int×Int×(List Int)×(List Int))):Option (bS ((List Int)×Int×Int×(List Int)×(List Int)) aUq):=bif decide (s.2.2.1<s.2.1) then (aL s.1 s.2.2.1).bind fun n0=>(gP (bG.mk s.2.2.2.1 s.2.2.2.2) (aA .i64 ((aA .i64 (2*s.2.2.1))+1))).bind fun n1=>(gP (bG.mk s.2.2.2.1 s.2.2.2.2) (aA .i64 ((aA .i64 (2*s.2.2.1))+2))).bind fun n2=>bif n0 !=n1 then bif n0 !=n2 then some (.done (.done (.done 8))) else bif decide (n0<0) then bif decide (0<=(if n2>n1 then n2 else n1)) then some (.done (.done (.done 8))) else some (.next (s.1,s.2.1,aA .i64 (s.2.2.1+1),s.2.2.2)) else some (.next (s.1,s.2.1,aA .i64 (s.2.2.1+1),s.2.2.2)) else bif decide (n0<0) then bif decide (0<=(if n2>n1 then n2 else n1)) then some (.done (.done (.done 8))) else some (.next (s.1,s.2.1,aA .i64 (s.2.2.1+1),s.2.2.2)) else some (.next (s.1,s.2.1,aA .i64 (s.2.2.1+1),s.2.2.2)) else some (.done (.done (.done 0)))
def jU (s:aLw):Option aUq:=bif decide (s.2.2.1<s.2.1) then (aL s.1 s.2.2.1).bind fun n0=>(wU n0).bind fun b1=>bif !b1 then bif !(!(decide (0<=s.2.2.1))) then some (.done (.done 8)) else aG jT (s.2.2.2.2.1,aa s.2.2.2.2.1.length,0,s.2.2.2.1,s.2.2.2.2.1) else some (.next (s.1,s.2.1,aA .i64 (s.2.2.1+1),s.2.2.2)) else aG jT (s.2.2.2.2.1,aa s.2.2.2.2.1.length,0,s.2.2.2.1,s.2.2.2.2.1)
def pA (s:aLw):Option aUp:=bif decide (s.2.2.1<s.2.1) then (aL s.1 s.2.2.1).bind fun n0=>bif !(!(vK false s.2.2.2.2.2 n0)) then bif !(!(decide (0<=s.2.2.1))) then some (.done 8) else aG jU (s.2.2.2.1,aa s.2.2.2.1.length,0,s.2.2.2.1,s.2.2.2.2.1,sX s.2.2.2.2.2 n0 (decide (0<=n0))) else some (.next (s.1,s.2.1,aA .i64 (s.2.2.1+1),s.2.2.2.1,s.2.2.2.2.1,sX s.2.2.2.2.2 n0 (decide (0<=n0)))) else aG jU (s.2.2.2.1,aa s.2.2.2.1.length,0,s.2.2.2)
def lD (p0:bG):Option Int:=bif decide ((aa p0.places.length)<1) then some 8 else bif decide (64<(aa p0.places.length)) then some 8 else bif (aa p0.wins.length) !=(aA .i64 ((aa p0.places.length) -1)) then some 8 else aG pA (p0.places,aa p0.places.length,0,p0.places,p0.wins,sX [] (-1) false)
def c66:bV:=⟨aF.one (aM.agg hO),aM.int .i64,fun a=>lD a,.pure,false⟩
theorem aFn:aJ tab 66 c66:=aJ.of aR7 (cx:=(qH aI [(133,aVu),(126,aLL)] [] [(131,aE4),(132,aDr),(200,aAS),(134,XY),(201,aDs),(199,aE6)] [])) rfl (nG.make ⟨aMB,U5,trivial⟩ trivial ⟨aB7,UX,NP,J2,UZ,aCb,trivial⟩) (fun a=>by kernel_rfl)
def yS (p0:Int) (p1:Int×Int×Int):Option Bool:=some (p0==p1.1)
def c72:bV:=⟨aF.cons (aM.int .i64) (aF.one (aM.agg (cS.row fH))),aM.bool,fun a=>yS a.1 a.2,.pure,false⟩
theorem aSU:aJ tab 72 c72:=Oc aSd rfl aI [] trivial fun a=>by kernel_rfl
def cK (s:(cT×(List Int)×Int×Int)):Option (bS (cT×(List Int)×Int×Int) Bool):=bif decide (s.2.2.2<s.2.2.1) then (aL s.2.1 s.2.2.2).bind fun n0=>(aL s.1 s.2.2.2).bind fun a1=>(yS n0 a1).bind fun b2=>bif !b2 then some (.done false) else some (.next (s.1,s.2.1,s.2.2.1,aA .i64 (s.2.2.2+1))) else some (.done true)
def cQ (p0:List Int) (p1:List (Int×Int×Int)) (_:Unit):Option Bool:=bif (aa p0.length) !=(aa p1.length) then some false else aG cK (p1,p0,aa p0.length,0)
def aFo:bV:=⟨aF.cons (aM.sl ki) (aF.cons (aM.sl fH) (aF.one (aM.clo 72 aF.nil))),aM.bool,fun a=>cQ a.1 a.2.1 a.2.2,.pure,false⟩
theorem aDB:aJ tab 71 aFo:=Oc aSc rfl aI [(72,c72)] ⟨aSU,trivial⟩ fun a=>by kernel_rfl
def lL (s:((List Int)×(List Int)×Int×Int)):Option (bS ((List Int)×(List Int)×Int×Int) Bool):=bif decide (s.2.2.2<s.2.2.1) then (aL s.1 s.2.2.2).bind fun n0=>(aL s.2.1 s.2.2.2).bind fun n1=>bif n0 !=n1 then some (.done false) else some (.next (s.1,s.2.1,s.2.2.1,aA .i64 (s.2.2.2+1))) else some (.done true)
def pB (p0:List Int) (p1:List Int):Option Bool:=bif (aa p0.length) !=(aa p1.length) then some false else aG lL (p0,p1,aa p0.length,0)
def c73:bV:=⟨aF.cons (aM.sl ki) (aF.one (aM.sl ki)),aM.bool,fun a=>pB a.1 a.2,.pure,false⟩
theorem aSV:aJ tab 73 c73:=Oc aSe rfl aI [] trivial fun a=>by kernel_rfl
def HE (p0:Int×Int×Int) (p1:List (Int×Int)):Option Bool:=(eY p1 p0.2).bind fun b0=>some (!b0)
def aVv:bV:=⟨aF.cons (aM.agg (cS.row fH)) (aF.one (aM.ref (cS.sl jY))),aM.bool,fun a=>HE a.1 a.2,.pure,false⟩
theorem aMC:aJ tab 137 aVv:=Oc aB8 rfl aI [(138,aFg)] ⟨NQ,trivial⟩ fun a=>by kernel_rfl
def nZ (s:(cT×qJ×Int×Int)):Option (bS (cT×qJ×Int×Int) Int):=bif decide (s.2.2.2<s.2.2.1) then (aL s.1 s.2.2.2).bind fun a0=>(HE a0 s.2.1).bind fun b1=>bif b1 then some (.done s.2.2.2) else some (.next (s.1,s.2.1,s.2.2.1,aA .i64 (s.2.2.2+1))) else some (.done (-1))
def jG (p0:List (Int×Int×Int)) (p1:qJ):Option Int:=aG nZ (p0,p1,aa p0.length,0)
def YT:bV:=⟨aF.cons (aM.sl fH) (aF.one (aM.clo 137 (aF.one (aM.ref (cS.sl jY))))),aM.int .i64,fun a=>jG a.1 a.2,.pure,false⟩
theorem YU:aJ tab 214 YT:=aJ.of U0 (cx:=(qH aI [(137,aVv),(138,aFg)] [] [(137,aHm)] [])) rfl (nG.make ⟨aMC,NQ,trivial⟩ trivial ⟨aB8,trivial⟩) (fun a=>by kernel_rfl)
def hY (p0:List (Int×Int×Int)) (p1:qJ):Option Bool:=(jG p0 p1).bind fun n0=>some (decide (0<=n0))
def YV:bV:=⟨aF.cons (aM.sl fH) (aF.one (aM.clo 137 (aF.one (aM.ref (cS.sl jY))))),aM.bool,fun a=>hY a.1 a.2,.pure,false⟩
theorem YW:aJ tab 139 YV:=Oc UY rfl aI [(214,YT)] ⟨YU,trivial⟩ fun a=>by kernel_rfl
def FF (p0:aO) (p1:List (Int×Int)):Option Bool:=bif (aa p1.length)==(aa p0.certs.list.length) then (hY p0.certs.list p1).bind fun b0=>some (!b0) else some false
def c74:bV:=⟨aF.cons (aM.agg dI) (aF.one (aM.sl jY)),aM.bool,fun a=>FF a.1 a.2,.pure,false⟩
theorem aSW:aJ tab 74 c74:=Oc aSf rfl aI [(139,YV)] ⟨YW,trivial⟩ fun a=>by kernel_rfl
def lW (p0:Int):Option Bool:=some (decide (p0<0))
def c69:bV:=⟨aF.one (aM.int .i64),aM.bool,fun a=>lW a,.pure,false⟩
theorem aSX:aJ tab 69 c69:=Oc aSa rfl aI [] trivial fun a=>by kernel_rfl
def bH (c0:(List Int)) (s:aFe):Option (bS aFe (bS aFe (Nat×Nat×(List Int)))):=bif decide (s.2.1<(aa s.2.2.length)) then (aL s.2.2 s.2.1).bind fun n0=>(lW n0).bind fun b1=>bif !b1 then (aL s.2.2 s.1).bind fun _=>some (.next (aA .i64 (s.1+1),aA .i64 (s.2.1+1),cL s.2.2 s.1 n0)) else some (.next (s.1,aA .i64 (s.2.1+1),s.2.2)) else bif ((decide (0<=s.1))&&(decide (s.1<=(aa s.2.2.length))))&&(decide ((aa s.2.2.length)<=(aa s.2.2.length))) then bif Nat.beq (((aa s.2.2.length).toNat) -s.1.toNat) 0 then (iX s.2.2 0 s.1).bind fun _=>bif s.2.2.length==c0.length then some (.done (.done (s.1.toNat,s.2.2.length,s.2.2))) else none else bif (ai ((0+s.1.toNat)+(((aa s.2.2.length).toNat) -s.1.toNat)) s.2.2.length)&&(!false) then (iX (jP s.2.2 (0+s.1.toNat) (af (((aa s.2.2.length).toNat) -s.1.toNat) 0)) 0 s.1).bind fun _=>bif ((jP s.2.2 (0+s.1.toNat) (af (((aa s.2.2.length).toNat) -s.1.toNat) 0)).length)==c0.length then some (.done (.done (s.1.toNat,(jP s.2.2 (0+s.1.toNat) (af (((aa s.2.2.length).toNat) -s.1.toNat) 0)).length,jP s.2.2 (0+s.1.toNat) (af (((aa s.2.2.length).toNat) -s.1.toNat) 0)))) else none else none else none
def bI (c0:(List Int)) (s:aFe):Option (bS aFe (Nat×Nat×(List Int))):=bif decide (s.2.1<s.1) then (aL s.2.2 s.2.1).bind fun n0=>(lW n0).bind fun b1=>bif b1 then bif s.2.2.length==c0.length then bif s.2.1==(-1) then bif s.2.2.length==c0.length then some (.done (s.2.2.length,s.2.2.length,s.2.2)) else none else aG (bH c0) (s.2.1,aA .i64 (s.2.1+1),s.2.2) else none else some (.next (s.1,aA .i64 (s.2.1+1),s.2.2)) else bif s.2.2.length==c0.length then bif s.2.2.length==c0.length then some (.done (s.2.2.length,s.2.2.length,s.2.2)) else none else none
def cM (a:(List Int)):Option (Nat×Nat×(List Int)):=aG (bI a) (aa a.length,0,a)
def aNR:fV:=⟨[.l [.i .i64]],[.own 0 false,.clo 69 [] []],[.arr [.i .i64] []],[.n,.n,.l [.i .i64]],.pre 0 0 0 false,[.arr [.i .i64] []],fun a=>cM a⟩
theorem aFp:rG tab 68 aNR:=rG.of aR9 (wd:=true) (cx:=(qH aI [(69,c69)] [] [(134,XY)] [])) (nG.make ⟨aSX,trivial⟩ trivial ⟨J2,trivial⟩) (fun a=>by kernel_rfl)
def iC (p0:bO):Option Int:=(gY p0.clock).bind fun n0=>bif n0 !=0 then some 8 else (lD p0.bracket).bind fun n1=>bif n1 !=0 then some 8 else bif (HY .i64 (aa p0.bracket.places.length) (aA .i64 ((aa p0.bracket.places.length) -1))) !=0 then some 8 else (cA p0.bracket.places).bind fun l2=>(cM l2).bind fun a3=>(GC UG a3.1 a3.2.2).bind fun l4=>bif l4.length==a3.2.2.length then (cQ (l4.take a3.1) p0.clock.field.points ()).bind fun b5=>bif !b5 then some 8 else (jM p0.clock.field p0.clock.now p0.bracket.places).bind fun a6=>(pB a6.1.wins p0.bracket.wins).bind fun b7=>bif !b7 then some 8 else (FF p0.clock a6.2).bind fun b8=>bif !b8 then some 8 else some 0 else none
def c23:bV:=⟨aF.one (aM.agg kQ),aM.int .i64,fun a=>iC a,.pure,false⟩
theorem aAW:aJ tab 23 c23:=aJ.of aRC (cx:=(qH aI [(65,c65),(66,c66),(67,bV.clone ki),(71,aFo),(54,c54),(73,c73),(74,c74)] [(68,aNR)] [(70,.srt aAy)] [])) rfl (nG.make ⟨LT,aFn,rT,aDB,U8,aSV,aSW,trivial⟩ ⟨aFp,trivial⟩ ⟨aSb,trivial⟩) (fun a=>by kernel_rfl)
def IL (p0:aP):Option ((Int×Int×Int×Int×Int)×Int):=(kU p0).bind fun n0=>bif n0 !=0 then some ((0,0,0,0,0),n0) else bif (aa p0.heap.length)==0 then some ((0,0,0,0,0),42) else (aL p0.heap 0).bind fun a1=>some (a1,0)
def aVw:bV:=⟨aF.one (aM.agg hJ),aM.tup (aF.cons (aM.agg (cS.row lA)) (aF.one (aM.int .i64))),fun a=>IL a,.pure,false⟩
theorem aMD:aJ tab 173 aVw:=Oc aKb rfl aI [(129,aDx)] ⟨J5,trivial⟩ fun a=>by kernel_rfl
def vS (p0:aO) (p1:Int×Int):Option (Bool×Int):=(gY p0).bind fun n0=>(eL p1).bind fun n1=>bif (if n1>n0 then n1 else n0) !=0 then some (false,if n1>n0 then n1 else n0) else (tL p1 p0.now).bind fun a2=>bif decide (a2.1<0) then some (false,44) else (IL p0.agenda).bind fun a3=>bif a3.2 !=0 then some (false,0) else (tL (a3.1.1,a3.1.2.1) p1).bind fun a4=>some (decide (a4.1<=0),0)
def aSY:bV:=⟨aF.cons (aM.agg dI) (aF.one (aM.agg (cS.row jY))),aM.tup (aF.cons aM.bool (aF.one (aM.int .i64))),fun a=>vS a.1 a.2,.pure,false⟩
theorem aCx:aJ tab 111 aSY:=Oc aJG rfl aI [(65,c65),(49,c49),(50,c50),(173,aVw)] ⟨LT,yL,aAT,aMD,trivial⟩ fun a=>by kernel_rfl
def tN (p0:aO) (p1:Int×Int):Option (aO×(Int×Int×Int×Int×Int)×(Int×Int)×Int):=(vS p0 p1).bind fun a0=>bif a0.2==0 then bif !a0.1 then some (lB,(0,0,0,0,0),(0,0),6) else bif a0.2 !=0 then some (lB,(0,0,0,0,0),(0,0),a0.2) else (aL p0.agenda.heap 0).bind fun a1=>(mX p0 a1.2.2.1).bind fun a2=>bif a2.2.2 !=0 then some (lB,(0,0,0,0,0),(0,0),a2.2.2) else some (aO.mk (a1.1,a1.2.1) a2.1.field a2.1.certs a2.1.agenda a2.1.due,a1,a2.2.1,0) else bif a0.2 !=0 then some (lB,(0,0,0,0,0),(0,0),a0.2) else (aL p0.agenda.heap 0).bind fun a3=>(mX p0 a3.2.2.1).bind fun a4=>bif a4.2.2 !=0 then some (lB,(0,0,0,0,0),(0,0),a4.2.2) else some (aO.mk (a3.1,a3.2.1) a4.1.field a4.1.certs a4.1.agenda a4.1.due,a3,a4.2.1,0)
def c51:bV:=⟨aF.cons (aM.agg dI) (aF.one (aM.agg (cS.row jY))),aM.tup (aF.cons (aM.agg dI) (aF.cons (aM.agg (cS.row lA)) (aF.cons (aM.agg (cS.row jY)) (aF.one (aM.int .i64))))),fun a=>tN a.1 a.2,.frz,false⟩
theorem aSZ:aJ tab 51 c51:=Oc aRX rfl aI [(111,aSY),(112,aSR)] ⟨aCx,aCv,trivial⟩ fun a=>by kernel_rfl
def DF (p0:aO) (p1:Int×Int):Option (aO×Int):=(vS p0 p1).bind fun a0=>bif a0.2==0 then bif a0.1 then some (lB,36) else bif a0.2 !=0 then some (lB,a0.2) else (lC p0).bind fun r1=>some (aO.mk p1 r1.field r1.certs r1.agenda r1.due,0) else bif a0.2 !=0 then some (lB,a0.2) else (lC p0).bind fun r2=>some (aO.mk p1 r2.field r2.certs r2.agenda r2.due,0)
def c53:bV:=⟨aF.cons (aM.agg dI) (aF.one (aM.agg (cS.row jY))),aM.tup (aF.cons (aM.agg dI) (aF.one (aM.int .i64))),fun a=>DF a.1 a.2,.frz,false⟩
theorem aS0:aJ tab 53 c53:=Oc aRZ rfl aI [(111,aSY),(114,aFj),(114,YE)] ⟨aCx,NR,J6,trivial⟩ fun a=>by kernel_rfl
def fR (s:Zt7):Option (bS Zt7 (bO×qJ×Int)):=match s with |(a,b,d,e,f,g,h,i,j,k,l,m,n,o,q,r,t,u,v)=>(tN (aO.mk (a,b) (Field.mk d) (bK.mk e f) (aP.mk (aU.mk g h i) j k) l) (o,q)).bind fun a0=>bif a0.2.2.2 !=0 then (DF (aO.mk (a,b) (Field.mk d) (bK.mk e f) (aP.mk (aU.mk g h i) j k) l) (o,q)).bind fun a1=>(jM a1.1.field (o,q) m).bind fun a2=>some (.done (bO.mk a1.1 a2.1,v,0)) else (kC a0.1 a0.1.field m).bind fun a3=>bif a3.2 !=0 then some (.done (bO.mk lB (bG.mk [] []),[],a3.2)) else (bZ v [a0.2.2.1]).bind fun l4=>some (.next (a3.1.clock.now.1,a3.1.clock.now.2,a3.1.clock.field.points,a3.1.clock.certs.next_,a3.1.clock.certs.list,a3.1.clock.agenda.slots.uses,a3.1.clock.agenda.slots.used,a3.1.clock.agenda.slots.free,a3.1.clock.agenda.heap,a3.1.clock.agenda.where_,a3.1.clock.due,a3.1.bracket.places,a3.1.bracket.wins,o,q,r,t,u,l4))
def iI (p0:bO) (p1:Int×Int):Option (bO×qJ×Int):=(iC p0).bind fun n0=>bif n0 !=0 then some (bO.mk lB (bG.mk [] []),[],n0) else (eL p1).bind fun n1=>bif n1 !=0 then some (bO.mk lB (bG.mk [] []),[],8) else (tL p1 p0.clock.now).bind fun a2=>bif decide (a2.1<0) then some (bO.mk lB (bG.mk [] []),[],44) else aG fR (p0.clock.now.1,p0.clock.now.2,p0.clock.field.points,p0.clock.certs.next_,p0.clock.certs.list,p0.clock.agenda.slots.uses,p0.clock.agenda.slots.used,p0.clock.agenda.slots.free,p0.clock.agenda.heap,p0.clock.agenda.where_,p0.clock.due,p0.bracket.places,p0.bracket.wins,p1.1,p1.2,0,0,0,[])
def c12:bV:=⟨aF.cons (aM.agg kQ) (aF.one (aM.agg (cS.row jY))),aM.tup (aF.cons (aM.agg kQ) (aF.cons (aM.sl jY) (aF.one (aM.int .i64)))),fun a=>iI a.1 a.2,.frz,false⟩
theorem aFq:aJ tab 12 c12:=Oc aRw rfl aI [(23,c23),(49,c49),(50,c50),(51,c51),(52,c52),(53,c53),(54,c54)] ⟨aAW,yL,aAT,aSZ,aFm,aS0,U8,trivial⟩ fun a=>by kernel_rfl
def yT (p0:bG):Option (Int×Int):=(lD p0).bind fun n0=>bif n0 !=0 then some (0,n0) else (gP p0 0).bind fun n1=>bif decide (0<=n1) then some (n1,0) else some (0,42)
def c63:bV:=⟨aF.one (aM.agg hO),aM.tup (aF.cons (aM.int .i64) (aF.one (aM.int .i64))),fun a=>yT a,.pure,false⟩
theorem aS1:aJ tab 63 c63:=Oc aR5 rfl aI [(66,c66),(126,aLL)] ⟨aFn,U5,trivial⟩ fun a=>by kernel_rfl
def nP (p0:bO):Option (Int×Int):=(iC p0).bind fun n0=>bif n0 !=0 then some (0,n0) else (yT p0.bracket).bind fun a1=>some a1
def c21:bV:=⟨aF.one (aM.agg kQ),aM.tup (aF.cons (aM.int .i64) (aF.one (aM.int .i64))),fun a=>nP a,.pure,false⟩
theorem aFr:aJ tab 21 c21:=Oc aRB rfl aI [(23,c23),(63,c63)] ⟨aAW,aS1,trivial⟩ fun a=>by kernel_rfl
def pC (s:((List Int)×(List Int)×Int)):Option (bS ((List Int)×(List Int)×Int) Bool):=bif decide (s.2.2<(aa s.1.length)) then (aL s.1 s.2.2).bind fun n0=>(aL s.2.1 s.2.2).bind fun n1=>bif n0 !=n1 then some (.done false) else some (.next (s.1,s.2.1,aA .i64 (s.2.2+1))) else some (.done true)
def nQ (p0:List Int) (p1:List Int):Option Bool:=bif (aa p0.length) !=(aa p1.length) then some false else aG pC (p0,p1,0)
def c42:bV:=⟨aF.cons (aM.sl ki) (aF.one (aM.sl ki)),aM.bool,fun a=>nQ a.1 a.2,.pure,false⟩
theorem aFs:aJ tab 42 c42:=Oc aRR rfl aI [] trivial fun a=>by kernel_rfl
def IM (p0:bG) (p1:bG):Option Bool:=(nQ p0.places p1.places).bind fun b0=>bif b0 then (nQ p0.wins p1.wins).bind fun b1=>some b1 else some false
def c58:bV:=⟨aF.cons (aM.agg hO) (aF.one (aM.agg hO)),aM.bool,fun a=>IM a.1 a.2,.pure,false⟩
theorem aS2:aJ tab 58 c58:=Oc aR1 rfl aI [(42,c42)] ⟨aFs,trivial⟩ fun a=>by kernel_rfl
def IN (s:(qJ×qJ×Int)):Option (bS (qJ×qJ×Int) Bool):=bif decide (s.2.2<(aa s.1.length)) then (aL s.1 s.2.2).bind fun a0=>(aL s.2.1 s.2.2).bind fun a1=>bif !((a0.1==a1.1)&&(a0.2==a1.2)) then some (.done false) else some (.next (s.1,s.2.1,aA .i64 (s.2.2+1))) else some (.done true)
def ED (p0:List (Int×Int)) (p1:List (Int×Int)):Option Bool:=bif (aa p0.length) !=(aa p1.length) then some false else aG IN (p0,p1,0)
def c15:bV:=⟨aF.cons (aM.sl jY) (aF.one (aM.sl jY)),aM.bool,fun a=>ED a.1 a.2,.pure,false⟩
theorem aS3:aJ tab 15 c15:=Oc aRx rfl aI [] trivial fun a=>by kernel_rfl
def YX:Option Bool:=MW.bind fun r0=>(PO 0).bind fun a1=>(J8 r0 a1).bind fun a2=>(PO 2).bind fun a3=>(iI a2.1 a3).bind fun a4=>(nP a4.1).bind fun a5=>bif a2.2==0 then bif a4.2.2==0 then bif a5.2==0 then bif a5.1==1 then (IM a2.1.bracket (bG.mk [1,2,5,-1] [2,2,5])).bind fun b6=>bif b6 then (IM a4.1.bracket (bG.mk [1,2,5,-1] [1,1,5])).bind fun b7=>bif b7 then (ED a4.2.1 [(1,2)]).bind fun b8=>some b8 else some false else some false else some false else some false else some false else some false
def aXO:bV:=⟨aF.nil,aM.bool,fun _=>YX,.pure,false⟩
theorem aME:aJ tab 28 aXO:=Oc aRG rfl aI [(25,c25),(26,c26),(17,c17),(12,c12),(21,c21),(58,c58),(15,c15)] ⟨aSz,aSA,aST,aFq,aFr,aS2,aS3,trivial⟩ fun a=>by kernel_rfl
def c28:bV:=⟨aF.nil,aM.bool,fun _=>some true,.pure,false⟩
end
theorem aS4:aJ tab 28 c28:=aJ.at0 (@aME (LP.of 1000000)) (by kernel_rfl)
section
variable [LP]
def vT (p0:Field):Option Bool:=bif decide (16<(aa p0.points.length)) then bif decide ((aa p0.points.length)<64) then some true else some (decide (70<(aa p0.points.length))) else some (decide (70<(aa p0.points.length)))
def c16:bV:=⟨aF.one (aM.agg dH),aM.bool,fun a=>vT a,.pure,false⟩
theorem aS5:aJ tab 16 c16:=Oc aRy rfl aI [] trivial fun a=>by kernel_rfl
def FG (p0:aU):Option Bool:=bif decide (210<(aa p0.uses.length)) then some true else bif decide (210<(aa p0.used.length)) then some true else some (decide (210<(aa p0.free.length)))
def aVx:bV:=⟨aF.one (aM.agg pZ),aM.bool,fun a=>FG a,.pure,false⟩
theorem aMF:aJ tab 168 aVx:=Oc aJ7 rfl aI [] trivial fun a=>by kernel_rfl
def FH (p0:aP):Option Bool:=(FG p0.slots).bind fun b0=>bif b0 then some true else bif decide (210<(aa p0.heap.length)) then some true else some (decide (210<(aa p0.where_.length)))
def aVy:bV:=⟨aF.one (aM.agg hJ),aM.bool,fun a=>FH a,.pure,false⟩
theorem aMG:aJ tab 102 aVy:=Oc aJz rfl aI [(168,aVx)] ⟨aMF,trivial⟩ fun a=>by kernel_rfl
def vU (p0:aO):Option Bool:=bif decide (40<(aa p0.certs.list.length)) then some true else bif decide (40<(aa p0.due.length)) then some true else (vT p0.field).bind fun b0=>bif b0 then some true else (FH p0.agenda).bind fun b1=>some b1
def c45:bV:=⟨aF.one (aM.agg dI),aM.bool,fun a=>vU a,.pure,false⟩
theorem aS6:aJ tab 45 c45:=Oc aRT rfl aI [(16,c16),(102,aVy)] ⟨aS5,aMG,trivial⟩ fun a=>by kernel_rfl
def FI (p0:bG):Option Bool:=bif decide (70<(aa p0.places.length)) then some true else some (decide (70<(aa p0.wins.length)))
def c46:bV:=⟨aF.one (aM.agg hO),aM.bool,fun a=>FI a,.pure,false⟩
theorem aS7:aJ tab 46 c46:=Oc aRU rfl aI [] trivial fun a=>by kernel_rfl
def vV (p0:bO):Option Bool:=(vU p0.clock).bind fun b0=>bif b0 then some true else (FI p0.bracket).bind fun b1=>some b1
def c9:bV:=⟨aF.one (aM.agg kQ),aM.bool,fun a=>vV a,.pure,false⟩
theorem aVz:aJ tab 9 c9:=Oc aUd rfl aI [(45,c45),(46,c46)] ⟨aS6,aS7,trivial⟩ fun a=>by kernel_rfl
def IP (p0:Field):Option Bool:=some (decide (10<(aa p0.points.length)))
def c10:bV:=⟨aF.one (aM.agg dH),aM.bool,fun a=>IP a,.pure,false⟩
theorem aS8:aJ tab 10 c10:=Oc aRv rfl aI [] trivial fun a=>by kernel_rfl
def iZ (p0:Int):Option Int:=bif decide (p0<0) then some (aA .u64 ((aA .u64 (aA .i64 (0- (aA .i64 (p0+1)))))+1)) else some (aA .u64 p0)
def c95:bV:=⟨aF.one (aM.int .i64),aM.int .u64,fun a=>iZ a,.pure,false⟩
theorem aAX:aJ tab 95 c95:=Oc aSt rfl aI [] trivial fun a=>by kernel_rfl
def qB (s:(Int×Int)):Option (bS (Int×Int) Int):=bif s.2 !=0 then bif s.2==0 then none else some (.next (s.2,ae s.1 s.2)) else some (.done s.1)
def rY (p0:Int) (p1:Int):Option Int:=aG qB (p0,p1)
def c94:bV:=⟨aF.cons (aM.int .u64) (aF.one (aM.int .u64)),aM.int .u64,fun a=>rY a.1 a.2,.pure,false⟩
theorem aFt:aJ tab 94 c94:=Oc aSs rfl aI [] trivial fun a=>by kernel_rfl
def oL (p0:Int×Int):Option Int:=bif decide (p0.2<1) then some 8 else bif p0.1==(-9223372036854775808) then some 8 else (iZ p0.1).bind fun n0=>(rY n0 (aA .u64 p0.2)).bind fun n1=>bif n1 !=1 then some 8 else some 0
def c36:bV:=⟨aF.one (aM.agg (cS.row jY)),aM.int .i64,fun a=>oL a,.pure,false⟩
theorem aAY:aJ tab 36 c36:=Oc aRL rfl aI [(95,c95),(94,c94)] ⟨aAX,aFt,trivial⟩ fun a=>by kernel_rfl
def AG (p0:Int×Int×Int):Option Int:=bif decide (p0.1<0) then some 8 else bif decide (65535<p0.1) then some 8 else bif decide (p0.2.1<(-1048576)) then some 8 else bif decide (1048576<p0.2.1) then some 8 else bif decide (p0.2.2<(-1048576)) then some 8 else bif decide (1048576<p0.2.2) then some 8 else some 0
def c85:bV:=⟨aF.one (aM.agg (cS.row fH)),aM.int .i64,fun a=>AG a,.pure,false⟩
theorem aS9:aJ tab 85 c85:=Oc aSn rfl aI [] trivial fun a=>by kernel_rfl
def kD (s:X0):Option (bS X0 (bS X0 Int)):=bif decide (s.1<(aa s.2.length)) then (aL s.2 (aA .i64 (s.1-1))).bind fun a0=>(aL s.2 s.1).bind fun a1=>bif decide (a1.1<=a0.1) then some (.done (.done 32)) else some (.next (aA .i64 (s.1+1),s.2)) else some (.done (.done 0))
def oM (s:X0):Option (bS X0 Int):=bif decide (s.1<(aa s.2.length)) then (aL s.2 s.1).bind fun a0=>(AG a0).bind fun n1=>bif n1 !=0 then some (.done 8) else some (.next (aA .i64 (s.1+1),s.2)) else aG kD (1,s.2)
def AH (p0:Field):Option Int:=bif decide (64<(aa p0.points.length)) then some 4 else aG oM (0,p0.points)
def c29:bV:=⟨aF.one (aM.agg dH),aM.int .i64,fun a=>AH a,.pure,false⟩
theorem aTa:aJ tab 29 c29:=Oc aRH rfl aI [(85,c85)] ⟨aS9,trivial⟩ fun a=>by kernel_rfl
def tO (p0:Int×Int):Option Bool:=bif decide (0<=p0.1) then bif decide (p0.1<=65535) then bif decide (0<=p0.2) then bif decide (p0.2<=65535) then some (p0.1 !=p0.2) else some false else some false else some false else some false
def c96:bV:=⟨aF.one (aM.agg (cS.row jY)),aM.bool,fun a=>tO a,.pure,false⟩
theorem aFu:aJ tab 96 c96:=Oc aSu rfl aI [] trivial fun a=>by kernel_rfl
def gS (s:(Int×Int×Int×cT×Int×Int×Int)):Option (bS (Int×Int×Int×cT×Int×Int×Int) aSy):=bif decide (s.2.1<s.1) then (aL s.2.2.2.1 s.2.1).bind fun a0=>bif (a0.2.1==s.2.2.2.2.2.1)&&(a0.2.2==s.2.2.2.2.2.2) then some (.done (.done 8)) else some (.next (s.1,aA .i64 (s.2.1+1),s.2.2)) else some (.done (.next (aA .i64 (s.1+1),s.2.2.1,s.2.2.2.1)))
def rZ (s:aFd):Option aSy:=bif decide (s.1<(aa s.2.2.length)) then (aL s.2.2 s.1).bind fun a0=>(tO a0.2).bind fun b1=>bif !b1 then some (.done 8) else bif decide (a0.1<0) then some (.done 8) else bif decide (s.2.1<=a0.1) then some (.done 8) else bif decide (0<s.1) then (aL s.2.2 (aA .i64 (s.1-1))).bind fun a2=>bif decide (a0.1<=a2.1) then some (.done 8) else aG gS (s.1,0,s.2.1,s.2.2,a0) else aG gS (s.1,0,s.2.1,s.2.2,a0) else some (.done 0)
def vW (p0:bK):Option Int:=bif decide (200<(aa p0.list.length)) then some 8 else bif decide (p0.next_<0) then some 8 else bif decide (1000000<p0.next_) then some 8 else aG rZ (0,p0.next_,p0.list)
def aVA:bV:=⟨aF.one (aM.agg rS),aM.int .i64,fun a=>vW a,.pure,false⟩
theorem aMH:aJ tab 140 aVA:=Oc aJU rfl aI [(96,c96)] ⟨aFu,trivial⟩ fun a=>by kernel_rfl
def vX (s:aFd):Option aSy:=bif decide (s.2.1<(aa s.2.2.length)) then (aL s.2.2 s.2.1).bind fun a0=>bif a0.1==s.1 then some (.done s.2.1) else some (.next (s.1,aA .i64 (s.2.1+1),s.2.2)) else some (.done (-1))
def fZ (p0:Field) (p1:Int):Option Int:=aG vX (p1,0,p0.points)
def c97:bV:=⟨aF.cons (aM.agg dH) (aF.one (aM.int .i64)),aM.int .i64,fun a=>fZ a.1 a.2,.pure,false⟩
theorem IQ:aJ tab 97 c97:=Oc aSv rfl aI [] trivial fun a=>by kernel_rfl
def sA (s:(Int×Int×cT×cT)):Option (bS (Int×Int×cT×cT) Bool):=bif decide (s.1<(aa s.2.2.1.length)) then (aL s.2.2.1 s.1).bind fun a0=>(fZ (Field.mk s.2.2.2) a0.2.1).bind fun n1=>bif decide (n1<0) then some (.done false) else (aL s.2.2.1 s.1).bind fun a2=>(fZ (Field.mk s.2.2.2) a2.2.2).bind fun n3=>bif decide (n3<0) then some (.done false) else some (.next (aA .i64 (s.1+1),s.2)) else some (.done true)
def AI (p0:bK) (p1:Field):Option Bool:=aG sA (0,p0.next_,p0.list,p1.points)
def aVB:bV:=⟨aF.cons (aM.agg rS) (aF.one (aM.agg dH)),aM.bool,fun a=>AI a.1 a.2,.pure,false⟩
theorem aMI:aJ tab 141 aVB:=Oc aJV rfl aI [(97,c97)] ⟨IQ,trivial⟩ fun a=>by kernel_rfl
def lX (s:aFc):Option (bS aFc (bS aFc Int)):=bif decide (s.2.1<s.1) then (aL s.2.2.1 s.2.1).bind fun n0=>bif decide (n0<0) then some (.done (.done 8)) else (aL s.2.2.1 s.2.1).bind fun n1=>bif decide (1000000<n1) then some (.done (.done 8)) else (aL s.2.2.2.1 s.2.1).bind fun b2=>(aL s.2.2.2.2.2 s.2.1).bind fun b3=>bif b2==b3 then some (.done (.done 8)) else (aL s.2.2.2.1 s.2.1).bind fun b4=>bif b4 then (aL s.2.2.1 s.2.1).bind fun n5=>bif decide (n5<1) then some (.done (.done 8)) else some (.next (s.1,aA .i64 (s.2.1+1),s.2.2)) else some (.next (s.1,aA .i64 (s.2.1+1),s.2.2)) else some (.done (.done 0))
def sB (s:aFc):Option (bS aFc Int):=bif decide (s.2.1<(aa s.2.2.2.2.1.length)) then (aL s.2.2.2.2.1 s.2.1).bind fun n0=>bif decide (n0<0) then some (.done 8) else (aL s.2.2.2.2.1 s.2.1).bind fun n1=>bif decide (s.1<=n1) then some (.done 8) else (aL s.2.2.2.2.1 s.2.1).bind fun n2=>(aL s.2.2.2.2.2 n2).bind fun b3=>bif b3 then some (.done 8) else (aL s.2.2.2.2.1 s.2.1).bind fun n4=>(aL s.2.2.2.2.2 n4).bind fun _=>some (.next (s.1,aA .i64 (s.2.1+1),s.2.2.1,s.2.2.2.1,s.2.2.2.2.1,cL s.2.2.2.2.2 n4 true)) else aG lX (s.1,0,s.2.2)
def AJ (p0:aU):Option Int:=bif decide ((aa p0.uses.length)<1) then some 8 else bif decide (200<(aa p0.uses.length)) then some 8 else bif (aa p0.used.length) !=(aa p0.uses.length) then some 8 else bif decide ((aa p0.uses.length)<(aa p0.free.length)) then some 8 else bif (aa p0.uses.length)==(aa p0.uses.length) then (xB (aa p0.uses.length) (false:Bool)).bind fun l0=>aG sB (aa p0.uses.length,0,p0.uses,p0.used,p0.free,l0) else none
def aVC:bV:=⟨aF.one (aM.agg pZ),aM.int .i64,fun a=>AJ a,.pure,false⟩
theorem aMJ:aJ tab 215 aVC:=Oc aKA rfl aI [] trivial fun a=>by kernel_rfl
def yU (p0:aU) (p1:Int×Int):Option Bool:=bif decide (0<=p1.1) then bif decide (p1.1<(aa p0.uses.length)) then (aL p0.used p1.1).bind fun b0=>bif b0 then (aL p0.uses p1.1).bind fun n1=>some (n1==p1.2) else some false else some false else some false
def aTb:bV:=⟨aF.cons (aM.agg pZ) (aF.one (aM.agg (cS.row jY))),aM.bool,fun a=>yU a.1 a.2,.pure,false⟩
theorem aCy:aJ tab 219 aTb:=Oc aKE rfl aI [] trivial fun a=>by kernel_rfl
def qC (s:aUz):Option (bS aUz Bool):=bif decide (s.2.1<s.1) then (aL s.2.2.2.1 s.2.1).bind fun b0=>bif !b0 then (aL s.2.2.2.2.2.2 s.2.1).bind fun n1=>bif n1 !=(-1) then some (.done false) else some (.next (s.1,aA .i64 (s.2.1+1),s.2.2)) else (aL s.2.2.2.2.2.2 s.2.1).bind fun n2=>bif decide (n2<0) then some (.done false) else bif decide ((aa s.2.2.2.2.2.1.length)<=n2) then some (.done false) else (aL s.2.2.2.2.2.1 n2).bind fun a3=>bif a3.2.2.2.1 !=s.2.1 then some (.done false) else (aL s.2.2.2.2.2.1 n2).bind fun a4=>(yU (aU.mk s.2.2.1 s.2.2.2.1 s.2.2.2.2.1) a4.2.2.2).bind fun b5=>bif !b5 then some (.done false) else some (.next (s.1,aA .i64 (s.2.1+1),s.2.2)) else some (.done true)
def xP (p0:aP):Option Bool:=bif (aa p0.where_.length) !=(aa p0.slots.uses.length) then some false else bif (aa p0.heap.length) !=(aA .i64 ((aa p0.slots.uses.length) - (aa p0.slots.free.length))) then some false else aG qC (aa p0.slots.uses.length,0,p0.slots.uses,p0.slots.used,p0.slots.free,p0.heap,p0.where_)
def aVD:bV:=⟨aF.one (aM.agg hJ),aM.bool,fun a=>xP a,.pure,false⟩
theorem aMK:aJ tab 216 aVD:=Oc aKB rfl aI [(219,aTb)] ⟨aCy,trivial⟩ fun a=>by kernel_rfl
def uT (p0:Int) (p1:Int):Option (Bool×Int×Int):=some (false,aA .u64 ((aA .u64 ((aA .u64 ((aA .u64 (ac p0 4294967296))*(aA .u64 (ac p1 4294967296))))+(aA .u64 (ac (aA .u64 ((aA .u64 ((aA .u64 (ac p0 4294967296))*(ae p1 4294967296)))+(aA .u64 (ac (aA .u64 ((ae p0 4294967296)*(ae p1 4294967296))) 4294967296)))) 4294967296))))+(aA .u64 (ac (aA .u64 ((aA .u64 ((ae p0 4294967296)*(aA .u64 (ac p1 4294967296))))+(ae (aA .u64 ((aA .u64 ((aA .u64 (ac p0 4294967296))*(ae p1 4294967296)))+(aA .u64 (ac (aA .u64 ((ae p0 4294967296)*(ae p1 4294967296))) 4294967296)))) 4294967296))) 4294967296))),aA .u64 ((aA .u64 ((ae (aA .u64 ((aA .u64 ((ae p0 4294967296)*(aA .u64 (ac p1 4294967296))))+(ae (aA .u64 ((aA .u64 ((aA .u64 (ac p0 4294967296))*(ae p1 4294967296)))+(aA .u64 (ac (aA .u64 ((ae p0 4294967296)*(ae p1 4294967296))) 4294967296)))) 4294967296))) 4294967296)*4294967296))+(ae (aA .u64 ((ae p0 4294967296)*(ae p1 4294967296))) 4294967296)))
def aVE:bV:=⟨aF.cons (aM.int .u64) (aF.one (aM.int .u64)),aM.agg (cS.row FA),fun a=>uT a.1 a.2,.pure,false⟩
theorem aML:aJ tab 152 aVE:=Oc aJ2 rfl aI [] trivial fun a=>by kernel_rfl
def lE (p0:Int) (p1:Int):Option (Bool×Int×Int):=(iZ p0).bind fun n0=>(iZ p1).bind fun n1=>(uT n0 n1).bind fun a2=>bif !((decide (p0<0))==(decide (p1<0))) then bif p0 !=0 then some (p1 !=0,a2.2) else some (false,a2.2) else some (false,a2.2)
def c86:bV:=⟨aF.cons (aM.int .i64) (aF.one (aM.int .i64)),aM.agg (cS.row FA),fun a=>lE a.1 a.2,.pure,false⟩
theorem aFv:aJ tab 86 c86:=Oc aSo rfl aI [(95,c95),(152,aVE)] ⟨aAX,aML,trivial⟩ fun a=>by kernel_rfl
def mZ (p0:Bool×Int×Int):Option Int:=bif p0.2.1==0 then bif p0.2.2==0 then some 0 else bif p0.1 then some (-1) else some 1 else bif p0.1 then some (-1) else some 1
def c87:bV:=⟨aF.one (aM.agg (cS.row FA)),aM.int .i64,fun a=>mZ a,.pure,false⟩
theorem aFw:aJ tab 87 c87:=Oc aSp rfl aI [] trivial fun a=>by kernel_rfl
def tQ (p0:Bool×Int×Int) (p1:Bool×Int×Int):Option Int:=bif p0.2.1 !=p1.2.1 then bif decide (p0.2.1<p1.2.1) then some (-1) else some 1 else bif p0.2.2 !=p1.2.2 then bif decide (p0.2.2<p1.2.2) then some (-1) else some 1 else some 0
def c88:bV:=⟨aF.cons (aM.agg (cS.row FA)) (aF.one (aM.agg (cS.row FA))),aM.int .i64,fun a=>tQ a.1 a.2,.pure,false⟩
theorem aFx:aJ tab 88 c88:=Oc aSq rfl aI [] trivial fun a=>by kernel_rfl
def lF (p0:Int×Int) (p1:Int×Int):Option Int:=(lE p0.1 p1.2).bind fun a0=>(lE p1.1 p0.2).bind fun a1=>(mZ a0).bind fun n2=>(mZ a1).bind fun n3=>bif n2 !=n3 then (mZ a0).bind fun n4=>(mZ a1).bind fun n5=>bif decide (n4<n5) then some (-1) else some 1 else (mZ a0).bind fun n6=>bif decide (n6<0) then (tQ a1 a0).bind fun n7=>some n7 else (tQ a0 a1).bind fun n8=>some n8
def c31:bV:=⟨aF.cons (aM.agg (cS.row jY)) (aF.one (aM.agg (cS.row jY))),aM.int .i64,fun a=>lF a.1 a.2,.pure,false⟩
theorem aAZ:aJ tab 31 c31:=Oc aRI rfl aI [(86,c86),(87,c87),(88,c88)] ⟨aFv,aFw,aFx,trivial⟩ fun a=>by kernel_rfl
def fC (p0:Int×Int×Int×Int×Int) (p1:Int×Int×Int×Int×Int):Option Bool:=(lF (p0.1,p0.2.1) (p1.1,p1.2.1)).bind fun n0=>bif decide (n0<0) then some true else bif n0==0 then some (decide (p0.2.2.1<p1.2.2.1)) else some false
def aVF:bV:=⟨aF.cons (aM.agg (cS.row lA)) (aF.one (aM.agg (cS.row lA))),aM.bool,fun a=>fC a.1 a.2,.pure,false⟩
theorem aMM:aJ tab 217 aVF:=Oc aKC rfl aI [(31,c31)] ⟨aAZ,trivial⟩ fun a=>by kernel_rfl
def lY (s:aUu):Option (bS aUu aSx):=bif decide (s.2.1<s.1) then (aL s.2.2.2.2.2.1 s.2.1).bind fun a0=>bif a0.2.2.1==s.2.2.2.2.2.2.2.2.2.1 then some (.done (.done 8)) else some (.next (s.1,aA .i64 (s.2.1+1),s.2.2)) else some (.done (.next (aA .i64 (s.1+1),s.2.2.1,s.2.2.2.1,s.2.2.2.2.1,s.2.2.2.2.2.1,s.2.2.2.2.2.2.1)))
def lZ (s:aLz):Option (bS aLz aSx):=bif decide (s.1<(aa s.2.2.2.2.1.length)) then (aL s.2.2.2.2.1 s.1).bind fun a0=>(aL s.2.2.2.2.1 (aA .i64 (ac (aA .i64 (s.1-1)) 2))).bind fun a1=>(fC a0 a1).bind fun b2=>bif b2 then some (.done (.done 8)) else some (.next (aA .i64 (s.1+1),s.2)) else some (.done (.done 0))
def sC (s:aLz):Option aSx:=bif decide (s.1<(aa s.2.2.2.2.1.length)) then (aL s.2.2.2.2.1 s.1).bind fun a0=>(oL (a0.1,a0.2.1)).bind fun n1=>bif n1 !=0 then some (.done 8) else bif decide (a0.2.2.1<0) then some (.done 8) else bif decide (1000000<a0.2.2.1) then some (.done 8) else aG lY (s.1,0,s.2.1,s.2.2.1,s.2.2.2.1,s.2.2.2.2.1,s.2.2.2.2.2,a0) else aG lZ (1,s.2)
def vY (p0:aP):Option Int:=(AJ p0.slots).bind fun n0=>bif n0 !=0 then some 8 else (xP p0).bind fun b1=>bif !b1 then some 8 else aG sC (0,p0.slots.uses,p0.slots.used,p0.slots.free,p0.heap,p0.where_)
def aTc:bV:=⟨aF.one (aM.agg hJ),aM.int .i64,fun a=>vY a,.pure,false⟩
theorem aCz:aJ tab 142 aTc:=Oc aJW rfl aI [(215,aVC),(216,aVD),(36,c36),(217,aVF)] ⟨aMJ,aMK,aAY,aMM,trivial⟩ fun a=>by kernel_rfl
def vZ (p0:Bool×Int×Int) (p1:Bool×Int×Int):Option (Bool×Int×Int):=bif decide (p0.2.2<p1.2.2) then some (false,aA .u64 ((aA .u64 (p0.2.1-p1.2.1)) -1),aA .u64 (p0.2.2-p1.2.2)) else some (false,aA .u64 (p0.2.1-p1.2.1),aA .u64 (p0.2.2-p1.2.2))
def aVG:bV:=⟨aF.cons (aM.agg (cS.row FA)) (aF.one (aM.agg (cS.row FA))),aM.agg (cS.row FA),fun a=>vZ a.1 a.2,.pure,false⟩
theorem aMN:aJ tab 272 aVG:=Oc aK9 rfl aI [] trivial fun a=>by kernel_rfl
def DG (p0:Bool×Int×Int) (p1:Bool×Int×Int):Option (Bool×Int×Int):=bif p0.1==p1.1 then bif decide ((aA .u64 (p0.2.2+p1.2.2))<p0.2.2) then some (p0.1,aA .u64 ((aA .u64 (p0.2.1+p1.2.1))+1),aA .u64 (p0.2.2+p1.2.2)) else some (p0.1,aA .u64 (p0.2.1+p1.2.1),aA .u64 (p0.2.2+p1.2.2)) else (tQ p0 p1).bind fun n0=>bif decide (0<=n0) then (vZ p0 p1).bind fun a1=>bif p0.1 then bif decide (0<a1.2.1) then some (true,a1.2) else some (decide (0<a1.2.2),a1.2) else some (false,a1.2) else (vZ p1 p0).bind fun a2=>some (p1.1,a2.2)
def aVH:bV:=⟨aF.cons (aM.agg (cS.row FA)) (aF.one (aM.agg (cS.row FA))),aM.agg (cS.row FA),fun a=>DG a.1 a.2,.pure,false⟩
theorem aMO:aJ tab 227 aVH:=Oc aKI rfl aI [(88,c88),(272,aVG)] ⟨aFx,aMN,trivial⟩ fun a=>by kernel_rfl
def GL (p0:Int×Int×Int) (p1:Int×Int×Int) (p2:Int×Int):Option Int:=(lE (aA .i64 (p0.2.1-p1.2.1)) p2.2).bind fun a0=>(lE (aA .i64 (p0.2.2-p1.2.2)) p2.1).bind fun a1=>(DG a0 a1).bind fun a2=>(mZ a2).bind fun n3=>some n3
def aVI:bV:=⟨aF.cons (aM.agg (cS.row fH)) (aF.cons (aM.agg (cS.row fH)) (aF.one (aM.agg (cS.row jY)))),aM.int .i64,fun a=>GL a.1 a.2.1 a.2.2,.pure,false⟩
theorem aMP:aJ tab 160 aVI:=Oc aJ5 rfl aI [(86,c86),(227,aVH),(87,c87)] ⟨aFv,aMO,aFw,trivial⟩ fun a=>by kernel_rfl
def mP (p0:Int×Int×Int) (p1:Int×Int×Int) (p2:Int×Int):Option Bool:=(GL p0 p1 p2).bind fun n0=>bif n0 !=0 then some (decide (0<n0)) else bif p0.2.2 !=p1.2.2 then some (decide (p1.2.2<p0.2.2)) else some (decide (p0.1<p1.1))
def c98:bV:=⟨aF.cons (aM.agg (cS.row fH)) (aF.cons (aM.agg (cS.row fH)) (aF.one (aM.agg (cS.row jY)))),aM.bool,fun a=>mP a.1 a.2.1 a.2.2,.pure,false⟩
theorem VF:aJ tab 98 c98:=Oc aSw rfl aI [(160,aVI)] ⟨aMP,trivial⟩ fun a=>by kernel_rfl
def tT (p0:Bool) (p1:Bool×Int×Int) (p2:Bool×Int×Int):Option ((Int×Int)×Int):=bif decide (0<p1.2.1) then some ((0,0),16) else bif decide (9223372036854775807<p1.2.2) then some ((0,0),16) else bif decide (0<p2.2.1) then some ((0,0),16) else bif decide (9223372036854775807<p2.2.2) then some ((0,0),16) else bif p0 then some ((aA .i64 (0- (aA .i64 p1.2.2)),aA .i64 p2.2.2),0) else some ((aA .i64 p1.2.2,aA .i64 p2.2.2),0)
def aVK:bV:=⟨aF.cons aM.bool (aF.cons (aM.agg (cS.row FA)) (aF.one (aM.agg (cS.row FA)))),aM.tup (aF.cons (aM.agg (cS.row jY)) (aF.one (aM.int .i64))),fun a=>tT a.1 a.2.1 a.2.2,.pure,false⟩
theorem aMQ:aJ tab 312 aVK:=Oc aLs rfl aI [] trivial fun a=>by kernel_rfl
def oN (p0:Int) (p1:Int):Option ((Int×Int)×Int):=bif p1==0 then some ((0,0),26) else (iZ p0).bind fun n0=>(iZ p1).bind fun n1=>(rY n0 n1).bind fun n2=>bif !((decide (p0<0))==(decide (p1<0))) then (iZ p0).bind fun n3=>bif n2==0 then none else (iZ p1).bind fun n4=>bif n2==0 then none else (tT (p0 !=0) (false,0,aA .u64 (ac n3 n2)) (false,0,aA .u64 (ac n4 n2))).bind fun a5=>some a5 else (iZ p0).bind fun n6=>bif n2==0 then none else (iZ p1).bind fun n7=>bif n2==0 then none else (tT false (false,0,aA .u64 (ac n6 n2)) (false,0,aA .u64 (ac n7 n2))).bind fun a8=>some a8
def aVL:bV:=⟨aF.cons (aM.int .i64) (aF.one (aM.int .i64)),aM.tup (aF.cons (aM.agg (cS.row jY)) (aF.one (aM.int .i64))),fun a=>oN a.1 a.2,.pure,false⟩
theorem aMR:aJ tab 296 aVL:=Oc aLm rfl aI [(95,c95),(94,c94),(312,aVK)] ⟨aAX,aFt,aMQ,trivial⟩ fun a=>by kernel_rfl
def GM (p0:Int×Int×Int) (p1:Int×Int×Int):Option (Int×Int):=(oN (aA .i64 (p0.2.1-p1.2.1)) (aA .i64 (p1.2.2-p0.2.2))).bind fun a0=>some a0.1
def aVM:bV:=⟨aF.cons (aM.agg (cS.row fH)) (aF.one (aM.agg (cS.row fH))),aM.agg (cS.row jY),fun a=>GM a.1 a.2,.pure,false⟩
theorem aMS:aJ tab 261 aVM:=Oc aK6 rfl aI [(296,aVL)] ⟨aMR,trivial⟩ fun a=>by kernel_rfl
def uU (p0:Int×Int×Int) (p1:Int×Int×Int) (p2:Int×Int):Option ((Int×Int)×Bool):=(mP p1 p0 p2).bind fun b0=>bif b0 then some (p2,true) else bif decide (p0.2.2<p1.2.2) then (GM p0 p1).bind fun a1=>some (a1,true) else some ((0,0),false)
def aVN:bV:=⟨aF.cons (aM.agg (cS.row fH)) (aF.cons (aM.agg (cS.row fH)) (aF.one (aM.agg (cS.row jY)))),aM.tup (aF.cons (aM.agg (cS.row jY)) (aF.one aM.bool)),fun a=>uU a.1 a.2.1 a.2.2,.pure,false⟩
theorem aMT:aJ tab 218 aVN:=Oc aKD rfl aI [(98,c98),(261,aVM)] ⟨VF,aMS,trivial⟩ fun a=>by kernel_rfl
def tU (p0:Field) (p1:Int×Int) (p2:Int×Int):Option ((Int×Int)×Bool):=(fZ p0 p1.2).bind fun n0=>(aL p0.points n0).bind fun a1=>(fZ p0 p1.1).bind fun n2=>(aL p0.points n2).bind fun a3=>(uU a1 a3 p2).bind fun a4=>some a4
def aVO:bV:=⟨aF.cons (aM.agg dH) (aF.cons (aM.agg (cS.row jY)) (aF.one (aM.agg (cS.row jY)))),aM.tup (aF.cons (aM.agg (cS.row jY)) (aF.one aM.bool)),fun a=>tU a.1 a.2.1 a.2.2,.pure,false⟩
theorem aMU:aJ tab 143 aVO:=Oc aJX rfl aI [(97,c97),(218,aVN)] ⟨IQ,aMT,trivial⟩ fun a=>by kernel_rfl
def yV (p0:aP) (p1:Int×Int):Option ((Int×Int×Int×Int×Int)×Int):=(vY p0).bind fun n0=>bif n0 !=0 then some ((0,0,0,0,0),8) else (yU p0.slots p1).bind fun b1=>bif !b1 then some ((0,0,0,0,0),6) else (aL p0.where_ p1.1).bind fun n2=>(aL p0.heap n2).bind fun a3=>some (a3,0)
def aVP:bV:=⟨aF.cons (aM.agg hJ) (aF.one (aM.agg (cS.row jY))),aM.tup (aF.cons (aM.agg (cS.row lA)) (aF.one (aM.int .i64))),fun a=>yV a.1 a.2,.pure,false⟩
theorem aMV:aJ tab 144 aVP:=Oc aJY rfl aI [(142,aTc),(219,aTb)] ⟨aCz,aCy,trivial⟩ fun a=>by kernel_rfl
def dZ (s:aUk):Option (bS aUk Int):=bif decide (s.2.1<(aa s.2.2.2.2.2.2.1.length)) then (aL s.2.2.2.2.2.2.1 s.2.1).bind fun a0=>(tU (Field.mk s.2.2.2.2.1) a0.2 (s.2.2.1,s.2.2.2.1)).bind fun a1=>bif !a1.2 then some (.next (s.1,aA .i64 (s.2.1+1),s.2.2)) else bif decide ((aa s.2.2.2.2.2.2.2.2.2.2.2.2.length)<=s.1) then some (.done 8) else (aL s.2.2.2.2.2.2.2.2.2.2.2.2 s.1).bind fun a2=>bif a2.1 !=a0.1 then some (.done 8) else (aL s.2.2.2.2.2.2.2.2.2.2.2.2 s.1).bind fun a3=>(yV (aP.mk (aU.mk s.2.2.2.2.2.2.2.1 s.2.2.2.2.2.2.2.2.1 s.2.2.2.2.2.2.2.2.2.1) s.2.2.2.2.2.2.2.2.2.2.1 s.2.2.2.2.2.2.2.2.2.2.2.1) a3.2).bind fun a4=>bif a4.2 !=0 then some (.done 8) else bif a4.1.2.2.1 !=a0.1 then some (.done 8) else bif !((a4.1.1==a1.1.1)&&(a4.1.2.1==a1.1.2)) then some (.done 8) else some (.next (aA .i64 (s.1+1),aA .i64 (s.2.1+1),s.2.2)) else bif s.1 !=(aa s.2.2.2.2.2.2.2.2.2.2.2.2.length) then some (.done 8) else some (.done 0)
def AL (p0:aO):Option Int:=(oL p0.now).bind fun n0=>bif n0 !=0 then some 8 else (AH p0.field).bind fun n1=>bif n1 !=0 then some 8 else (vW p0.certs).bind fun n2=>bif n2 !=0 then some 8 else (AI p0.certs p0.field).bind fun b3=>bif !b3 then some 8 else (vY p0.agenda).bind fun n4=>bif n4 !=0 then some 8 else bif (aa p0.agenda.where_.length) !=200 then some 8 else bif (aa p0.agenda.heap.length) !=(aa p0.due.length) then some 8 else aG dZ (0,0,p0.now.1,p0.now.2,p0.field.points,p0.certs.next_,p0.certs.list,p0.agenda.slots.uses,p0.agenda.slots.used,p0.agenda.slots.free,p0.agenda.heap,p0.agenda.where_,p0.due)
def c75:bV:=⟨aF.one (aM.agg dI),aM.int .i64,fun a=>AL a,.pure,false⟩
theorem aTd:aJ tab 75 c75:=Oc aSg rfl aI [(36,c36),(29,c29),(140,aVA),(141,aVB),(142,aTc),(143,aVO),(144,aVP)] ⟨aAY,aTa,aMH,aMI,aCz,aMU,aMV,trivial⟩ fun a=>by kernel_rfl
def sD (s:((List Int)×Int×Int)):Option (bS ((List Int)×Int×Int) (bS ((List Int)×Int) Bool)):=bif decide (s.2.2<s.2.1) then (aL s.1 s.2.1).bind fun n0=>bif decide (0<=n0) then (aL s.1 s.2.2).bind fun n1=>(aL s.1 s.2.1).bind fun n2=>bif n1==n2 then some (.done (.done true)) else some (.next (s.1,s.2.1,aA .i64 (s.2.2+1))) else some (.next (s.1,s.2.1,aA .i64 (s.2.2+1))) else some (.done (.next (s.1,aA .i64 (s.2.1+1))))
def sE (s:((List Int)×Int)):Option (bS ((List Int)×Int) Bool):=bif decide (s.2<(aa s.1.length)) then aG sD (s.1,s.2,0) else some (.done false)
def FJ (p0:List Int):Option Bool:=aG sE (p0,0)
def aVQ:bV:=⟨aF.one (aM.sl ki),aM.bool,fun a=>FJ a,.pure,false⟩
theorem aMW:aJ tab 145 aVQ:=Oc aJZ rfl aI [] trivial fun a=>by kernel_rfl
def gT (p0:bG) (p1:Int):Option Int:=bif decide (p1<(aa p0.wins.length)) then (aL p0.wins p1).bind fun n0=>some n0 else (aL p0.places (aA .i64 (p1- (aa p0.wins.length)))).bind fun n1=>some n1
def c40:bV:=⟨aF.cons (aM.agg hO) (aF.one (aM.int .i64)),aM.int .i64,fun a=>gT a.1 a.2,.pure,false⟩
theorem VG:aJ tab 40 c40:=Oc aRP rfl aI [] trivial fun a=>by kernel_rfl
def oO (s:(Int×(List Int)×(List Int))):Option (bS (Int×(List Int)×(List Int)) (bS (Int×Int×(List Int)×(List Int)) Int)):=bif decide (s.1<(aa s.2.2.length)) then (gT (bG.mk s.2.1 s.2.2) (aA .i64 ((aA .i64 (2*s.1))+1))).bind fun n0=>(gT (bG.mk s.2.1 s.2.2) (aA .i64 ((aA .i64 (2*s.1))+2))).bind fun n1=>(aL s.2.2 s.1).bind fun n2=>bif n2 !=n0 then (aL s.2.2 s.1).bind fun n3=>bif n3 !=n1 then some (.done (.done 8)) else (aL s.2.2 s.1).bind fun n4=>bif n4==(-1) then bif n0 !=(-1) then some (.done (.done 8)) else bif n1 !=(-1) then some (.done (.done 8)) else some (.next (aA .i64 (s.1+1),s.2)) else some (.next (aA .i64 (s.1+1),s.2)) else (aL s.2.2 s.1).bind fun n5=>bif n5==(-1) then bif n0 !=(-1) then some (.done (.done 8)) else bif n1 !=(-1) then some (.done (.done 8)) else some (.next (aA .i64 (s.1+1),s.2)) else some (.next (aA .i64 (s.1+1),s.2)) else some (.done (.done 0))
def sF (s:(Int×Int×(List Int)×(List Int))):Option (bS (Int×Int×(List Int)×(List Int)) Int):=bif decide (s.2.1<s.1) then (aL s.2.2.1 s.2.1).bind fun n0=>bif decide (n0<(-1)) then some (.done 8) else (aL s.2.2.1 s.2.1).bind fun n1=>bif decide (65535<n1) then some (.done 8) else some (.next (s.1,aA .i64 (s.2.1+1),s.2.2)) else aG oO (0,s.2.2)
def wB (p0:bG):Option Int:=bif decide ((aa p0.places.length)<1) then some 8 else bif decide (64<(aa p0.places.length)) then some 8 else bif (aa p0.wins.length) !=(aA .i64 ((aa p0.places.length) -1)) then some 8 else (FJ p0.places).bind fun b0=>bif b0 then some 8 else aG sF (aa p0.places.length,0,p0.places,p0.wins)
def c76:bV:=⟨aF.one (aM.agg hO),aM.int .i64,fun a=>wB a,.pure,false⟩
theorem aTe:aJ tab 76 c76:=Oc aSh rfl aI [(145,aVQ),(40,c40)] ⟨aMW,VG,trivial⟩ fun a=>by kernel_rfl
end
end
end Go.Proofs.YtlnclppkepgdmaaGreat
