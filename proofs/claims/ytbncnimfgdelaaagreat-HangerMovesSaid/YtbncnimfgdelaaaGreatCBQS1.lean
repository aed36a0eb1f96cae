/- Plain functions for what the functions of the seat compute. Printed by a program. -/
import Derived.Test.YtbncnimfgdelaaaGreatCBVm3
import Derived.Test.YtbncnimfgdelaaaGreatCBQXT
set_option maxRecDepth 100000
namespace Go.Proofs.YtbncnimfgdelaaaGreat
open Go.Vm
noncomputable section
theorem Oc {f:FuncId} {x:aM} {α β:Type} {args:aC α} {res:aH β} {kd:Kd} {fn:α->Option β} {ow:Bool} (hf:tab f=some (.code x)) (ho:aFw kd ow=true) (lp:Option Nat) (l:List (Nat×bM)) (h:G9 tab l) (e: ∀a,aMa (pQ lp l [] [] []) x args res kd a=fn a):aI tab f ⟨args,res,fn,kd,ow⟩:=aI.of hf (cx:=pQ lp l [] [] []) ho (mF.make h trivial trivial) e
abbrev dZ:List PT:=[.i .i64,.i .i64,.i .i64]
abbrev ki:List PT:=[.i .i64]
abbrev kb:List PT:=[.b]
abbrev kI:List PT:=[.i .i64,.i .i64,.i .i64,.i .i64,.i .i64]
abbrev jH:List PT:=[.i .i64,.i .i64]
abbrev EK:List PT:=[.b,.i .u64,.i .u64]
abbrev aSI:List PT:=[.i .i64,.i .i64,.i .i64,.i .i64]
abbrev kiu:List PT:=[.i .i64,.i .u64]
structure Field where
 points:List (Int×Int×Int)
def bN:cD Field:=cD.iso (cD.sl dZ) (fun p=>⟨p⟩) (fun c=>c.points) (fun _=>rfl)
structure bA where
 uses:List Int
 used:List Bool
 free:List Int
def hJ:cD bA:=cD.iso (cD.prod (cD.sl ki) (cD.prod (cD.sl kb) (cD.sl ki))) (fun p=>⟨p.1,p.2.1,p.2.2⟩) (fun c=>(c.uses,c.used,c.free)) (fun _=>rfl)
structure aQ where
 slots:bA
 heap:List (Int×Int×Int×Int×Int)
 where_:List Int
def dB:cD aQ:=cD.iso (cD.prod hJ (cD.prod (cD.sl kI) (cD.sl ki))) (fun p=>⟨p.1,p.2.1,p.2.2⟩) (fun c=>(c.slots,c.heap,c.where_)) (fun _=>rfl)
structure bK where
 next_:Int
 list:List (Int×Int×Int)
def hM:cD bK:=cD.iso (cD.prod (cD.int .i64) (cD.sl dZ)) (fun p=>⟨p.1,p.2⟩) (fun c=>(c.next_,c.list)) (fun _=>rfl)
structure aP where
 now:Int×Int
 field:Field
 certs:bK
 agenda:aQ
 due:List (Int×Int×Int)
def bL:cD aP:=cD.iso (cD.prod (cD.row jH) (cD.prod bN (cD.prod hM (cD.prod dB (cD.sl dZ))))) (fun p=>⟨p.1,p.2.1,p.2.2.1,p.2.2.2.1,p.2.2.2.2⟩) (fun c=>(c.now,c.field,c.certs,c.agenda,c.due)) (fun _=>rfl)
structure aZ where
 clock:aP
 up:List Int
def bU:cD aZ:=cD.iso (cD.prod bL (cD.sl ki)) (fun p=>⟨p.1,p.2⟩) (fun c=>(c.clock,c.up)) (fun _=>rfl)
theorem yF:aI tab 197 (bM.clone kb):=aI.clone aIY rfl
theorem aDQ:aI tab 277 (bM.add64):=aI.add64 aJH
theorem BL:aI tab 193 (bM.clone dZ):=aI.clone aIU rfl
theorem zQ:aI tab 89 (bM.clone dZ):=aI.clone aQR rfl
theorem IW:aI tab 194 (bM.clone dZ):=aI.clone aIV rfl
theorem yG:aI tab 195 (bM.clone kI):=aI.clone aIW rfl
theorem sJ:aI tab 196 (bM.clone ki):=aI.clone aIX rfl
theorem VJ:aI tab 293 (bM.clone ki):=aI.clone aJQ rfl
abbrev eY:aP:=aP.mk (0,0) (Field.mk []) (bK.mk 0 []) (aQ.mk (bA.mk [] [] []) [] []) []
section
abbrev kT:=List (Int×Int×Int×Int×Int)
abbrev bT:=List (Int×Int×Int)
abbrev iH:=List (Int×Int)
abbrev aB6:=iH×iH×Int×Int×Int×Int×bT×Int×bT×(List Int)×(List Bool)×(List Int)×kT×(List Int)×bT×bT×Int×Int×Int
abbrev aSJ:=cC aB6 (aP×Int)
abbrev Zt1:=cC aB6 aSJ
abbrev Zt3:=bT×Int×Int×Int×Int×bT×Int×bT×(List Int)×(List Bool)×(List Int)×kT×(List Int)×bT×bT×Int×Int×Int×Int×Int×Int×bT×(List Int)×(List Bool)×(List Int)×kT×(List Int)×bT×bT
abbrev aSK:=iH×bT×Int×Int×Int×Int×bT×Int×bT×(List Int)×(List Bool)×(List Int)×kT×(List Int)×bT×bT×Int×Int×Int
abbrev Zt6:=cC aSK (aP×Int)
abbrev aSL:=bT×Int×Int×Int×Int×bT×Int×bT×(List Int)×(List Bool)×(List Int)×kT×(List Int)×bT×bT×Int×Int×Int
abbrev Zt7:=cC aSL (aP×Int)
abbrev Zt8:=bT×bT×Int×Int×Int×Int×bT×Int×bT×(List Int)×(List Bool)×(List Int)×kT×(List Int)×bT
abbrev Zt9:=Int×Int×bT×Int×bT×(List Int)×(List Bool)×(List Int)×kT×(List Int)×bT×(List Int)×Int×Int×Int×Int×Int×iH
abbrev aSM:=iH×Int×Int×Int×Int×bT×Int×bT×(List Int)×(List Bool)×(List Int)×kT×(List Int)×bT×Int×Int×Int
abbrev aSN:=Int×Int×Int×Int×bT×Int×bT×(List Int)×(List Bool)×(List Int)×kT×(List Int)×bT×(List Int)
abbrev aSO:=cC aSN Int
abbrev aSP:=iH×Int×Int×Int×bT×Int×bT×(List Int)×(List Bool)×(List Int)×kT×(List Int)×bT
abbrev aQ1:=Int×Int×Int×Int×bT×Int×bT×(List Int)×(List Bool)×(List Int)×kT×(List Int)×bT
abbrev aSQ:=cC aQ1 Int
abbrev aSR:=Int×kT×(List Int)×(List Int)×(List Bool)×(List Int)×Nat×Nat×Int×Int×Int×Int×Int
abbrev PZ:=kT×(List Int)
abbrev aSS:=cC aSR PZ
abbrev aST:=Int×kT×(List Int)×(List Int)×(List Bool)×(List Int)×Int×Int×Int×Int×Int
abbrev aSU:=cC aST PZ
abbrev aSV:=Int×Int×Nat×Nat×Nat×Int×Int×bT×iH×Int×Int×Int×Int×Int
abbrev YT:=bT×iH
abbrev aSW:=cC aSV YT
abbrev aSX:=kT×Int×Int×(List Int)×(List Bool)×(List Int)×kT×(List Int)×(List (List Int))
abbrev aSY:=bT×Int×Int×bT×Int×Int×iH×Int×Int×Int×Int×Int
abbrev aSZ:=cC aSY iH
abbrev aS0:=Int×bT×Int×Int×iH×Int×Int×Int×Int×Int×bT×bT
abbrev aS1:=Int×Int×Int×bT×iH×Int×Int×Int×Int×Int×bT×bT
abbrev aS2:=Int×Int×kT×(List Int)×(List Int)×(List Bool)×(List Int)×Nat×Nat×Int×Int×Int×Int×Int
abbrev aJR:=(List Int)×(List Bool)×(List Int)×Nat×Nat×Int×Int×Int×Int×Int×Int×kT×(List Int)
abbrev aS3:=Int×Int×kT×(List Int)×(List Int)×(List Bool)×(List Int)×Int×Int×Int×Int×Int
abbrev aS4:=Int×Int×(List Int)×(List Bool)×(List Int)×kT×(List Int)×Int×Int×Int×Int×Int
abbrev aJS:=(List Int)×(List Bool)×(List Int)×Int×Int×Int×Int×Int×Int×kT×(List Int)
abbrev aS5:=(List Int)×Int×Int×(List Int)×(List Bool)×(List Int)×kT×(List Int)
abbrev aS6:=cC aS5 Int
abbrev aJT:=(List Int)×(List Bool)×(List Int)×Nat×Nat×Int×kT×(List Int)
abbrev aJU:=Int×kT×(List Int)×(List Int)×(List Bool)×(List Int)×Nat×Nat
abbrev IX:=Int×(List Int)×(List Bool)×(List Int)×kT×(List Int)
abbrev aQ2:=cC IX Int
abbrev aQ3:=Int×Int×(List Int)×(List Bool)×(List Int)×kT×(List Int)
abbrev aS7:=Int×bT×Int×Int×Int×bT×(List (List Int))
abbrev aS8:=(List Int)×Int×Int×(List Int)×(List Bool)×(List Int)×Int×(List Bool)
abbrev aS9:=cC aS8 Int
abbrev aTa:=bT×Int×Int×iH×(List Int)×iH
abbrev aQ4:=(List Int)×(List Bool)×(List Int)×kT×(List Int)
abbrev aTb:=Int×Int×Int×bT×Int×Int×bT
abbrev aJV:=bT×Int×Int×Int×Int×iH
abbrev VK:=Int×Int×Int×Int×bT×iH
abbrev SS:=bT×Int×Int×Int×Int
abbrev aJW:=cC SS (Int×Bool)
abbrev aDR:=bT×Int×Int×bT
abbrev aJX:=Int×Int×bT×bT
abbrev aDS:=Int×Int×(List Int)×(List Bool)×(List Int)×(List Bool)
abbrev aJY:=Int×kT×(List Int)
abbrev aB7:=Int×Int×bT
abbrev aQ5:=cC aB7 Int
abbrev aQ6:=(List Int)×Int×Int×iH
abbrev aDT:=aZ×iH×Int
abbrev aDU:=Int×bT
abbrev aJZ:=(List Int)×(List Int)×Int
variable [LP]
def vY (p0:Field):Option Bool:=bif decide (16<(Int.ofNat p0.points.length)) then bif decide ((Int.ofNat p0.points.length)<64) then some true else some (decide (70<(Int.ofNat p0.points.length))) else some (decide (70<(Int.ofNat p0.points.length)))
def c10:bM:=⟨aC.one (aH.agg bN),aH.bool,fun a=>vY a,.pure,false⟩
theorem aQ7:aI tab 10 c10:=Oc aPV rfl aG [] trivial fun a=>by kernel_rfl
def EL (p0:bA):Option Bool:=bif decide (210<(Int.ofNat p0.uses.length)) then some true else bif decide (210<(Int.ofNat p0.used.length)) then some true else some (decide (210<(Int.ofNat p0.free.length)))
def aTc:bM:=⟨aC.one (aH.agg hJ),aH.bool,fun a=>EL a,.pure,false⟩
theorem aJ0:aI tab 163 aTc:=Oc aIv rfl aG [] trivial fun a=>by kernel_rfl
def EM (p0:aQ):Option Bool:=(EL p0.slots).bind fun b0=>bif b0 then some true else bif decide (210<(Int.ofNat p0.heap.length)) then some true else some (decide (210<(Int.ofNat p0.where_.length)))
def aTd:bM:=⟨aC.one (aH.agg dB),aH.bool,fun a=>EM a,.pure,false⟩
theorem aJ1:aI tab 104 aTd:=Oc aHT rfl aG [(163,aTc)] ⟨aJ0,trivial⟩ fun a=>by kernel_rfl
def vZ (p0:aP):Option Bool:=bif decide (40<(Int.ofNat p0.certs.list.length)) then some true else bif decide (40<(Int.ofNat p0.due.length)) then some true else (vY p0.field).bind fun b0=>bif b0 then some true else (EM p0.agenda).bind fun b1=>some b1
def c52:bM:=⟨aC.one (aH.agg bL),aH.bool,fun a=>vZ a,.pure,false⟩
theorem aQ8:aI tab 52 c52:=Oc aQl rfl aG [(10,c10),(104,aTd)] ⟨aQ7,aJ1,trivial⟩ fun a=>by kernel_rfl
def wB (p0:aZ):Option Bool:=(vZ p0.clock).bind fun b0=>bif b0 then some true else some (decide (70<(Int.ofNat p0.up.length)))
def c11:bM:=⟨aC.one (aH.agg bU),aH.bool,fun a=>wB a,.pure,false⟩
theorem aQ9:aI tab 11 c11:=Oc aPW rfl aG [(52,c52)] ⟨aQ8,trivial⟩ fun a=>by kernel_rfl
def HB (p0:Field):Option Bool:=some (decide (10<(Int.ofNat p0.points.length)))
def c26:bM:=⟨aC.one (aH.agg bN),aH.bool,fun a=>HB a,.pure,false⟩
theorem aRa:aI tab 26 c26:=Oc aP4 rfl aG [] trivial fun a=>by kernel_rfl
def nF (p0:Field):Option Field:=(bX p0.points).bind fun l0=>some (Field.mk l0)
def aDV:bM:=⟨aC.one (aH.agg bN),aH.agg bN,fun a=>nF a,.own,true⟩
def VL:bM:=⟨aC.one (aH.agg bN),aH.agg bN,fun a=>nF a,.frz,false⟩
theorem MI:aI tab 108 aDV:=Oc aAE rfl aG [] trivial fun a=>by kernel_rfl
theorem IY:aI tab 108 VL:=Oc aAE rfl aG [] trivial fun a=>by kernel_rfl
def rB (p0:bK):Option bK:=(bX p0.list).bind fun l0=>some (bK.mk p0.next_ l0)
def aJ2:bM:=⟨aC.one (aH.agg hM),aH.agg hM,fun a=>rB a,.own,true⟩
def aAS:bM:=⟨aC.one (aH.agg hM),aH.agg hM,fun a=>rB a,.frz,false⟩
theorem ST:aI tab 126 aJ2:=Oc aAG rfl aG [] trivial fun a=>by kernel_rfl
theorem OL:aI tab 126 aAS:=Oc aAG rfl aG [] trivial fun a=>by kernel_rfl
def oW (p0:bA):Option bA:=(bX p0.uses).bind fun l0=>(bX p0.used).bind fun l1=>(bX p0.free).bind fun l2=>some (bA.mk l0 l1 l2)
def aDW:bM:=⟨aC.one (aH.agg hJ),aH.agg hJ,fun a=>oW a,.own,true⟩
def VM:bM:=⟨aC.one (aH.agg hJ),aH.agg hJ,fun a=>oW a,.frz,false⟩
theorem MJ:aI tab 184 aDW:=Oc aAM rfl aG [] trivial fun a=>by kernel_rfl
theorem IZ:aI tab 184 VM:=Oc aAM rfl aG [] trivial fun a=>by kernel_rfl
def nG (p0:aQ):Option aQ:=(oW p0.slots).bind fun r0=>(bX p0.heap).bind fun l1=>(bX p0.where_).bind fun l2=>some (aQ.mk r0 l1 l2)
def aB8:bM:=⟨aC.one (aH.agg dB),aH.agg dB,fun a=>nG a,.own,true⟩
def QY:bM:=⟨aC.one (aH.agg dB),aH.agg dB,fun a=>nG a,.frz,false⟩
theorem I0:aI tab 127 aB8:=Oc aAH rfl aG [(184,aDW),(184,VM)] ⟨MJ,IZ,trivial⟩ fun a=>by kernel_rfl
theorem EN:aI tab 127 QY:=Oc aAH rfl aG [(184,aDW),(184,VM)] ⟨MJ,IZ,trivial⟩ fun a=>by kernel_rfl
def jB (p0:aP):Option aP:=(nF p0.field).bind fun r0=>(rB p0.certs).bind fun r1=>(nG p0.agenda).bind fun r2=>(bX p0.due).bind fun l3=>some (aP.mk p0.now r0 r1 r2 l3)
def c71:bM:=⟨aC.one (aH.agg bL),aH.agg bL,fun a=>jB a,.own,true⟩
def VN:bM:=⟨aC.one (aH.agg bL),aH.agg bL,fun a=>jB a,.frz,false⟩
theorem HC:aI tab 71 c71:=Oc aDP rfl aG [(108,aDV),(108,VL),(126,aJ2),(126,aAS),(127,aB8),(127,QY)] ⟨MI,IY,ST,OL,I0,EN,trivial⟩ fun a=>by kernel_rfl
theorem CN:aI tab 71 VN:=Oc aDP rfl aG [(108,aDV),(108,VL),(126,aJ2),(126,aAS),(127,aB8),(127,QY)] ⟨MI,IY,ST,OL,I0,EN,trivial⟩ fun a=>by kernel_rfl
def yH (p0:aZ):Option aZ:=(jB p0.clock).bind fun r0=>(bX p0.up).bind fun l1=>some (aZ.mk r0 l1)
def c27:bM:=⟨aC.one (aH.agg bU),aH.agg bU,fun a=>yH a,.own,true⟩
def aTe:bM:=⟨aC.one (aH.agg bU),aH.agg bU,fun a=>yH a,.frz,false⟩
theorem aRb:aI tab 27 c27:=Oc aDO rfl aG [(71,c71),(71,VN)] ⟨HC,CN,trivial⟩ fun a=>by kernel_rfl
theorem aJ3:aI tab 27 aTe:=Oc aDO rfl aG [(71,c71),(71,VN)] ⟨HC,CN,trivial⟩ fun a=>by kernel_rfl
def oE (p0:Int):Option Int:=bif decide (p0<0) then some (aA .u64 (0- (aA .u64 p0))) else some (aA .u64 p0)
def aJ4:bM:=⟨aC.one (aH.int .i64),aH.int .u64,fun a=>oE a,.pure,false⟩
theorem SU:aI tab 129 aJ4:=Oc aIc rfl aG [] trivial fun a=>by kernel_rfl
def xG (s:(Int×Int)):Option (cC (Int×Int) Int):=bif decide (0<s.2) then bif s.2==0 then none else some (.next (s.2,Int.tmod s.1 s.2)) else some (.done s.1)
def BM (p0:Int) (p1:Int):Option Int:=aJ xG (p0,p1)
def aRc:bM:=⟨aC.cons (aH.int .u64) (aC.one (aH.int .u64)),aH.int .u64,fun a=>BM a.1 a.2,.pure,false⟩
theorem aAT:aI tab 128 aRc:=Oc aIb rfl aG [] trivial fun a=>by kernel_rfl
def gZ (p0:Int×Int):Option Int:=bif decide (p0.2<1) then some 8 else bif p0.1==(-9223372036854775808) then some 8 else (oE p0.1).bind fun n0=>(BM (aA .u64 p0.2) n0).bind fun n1=>bif decide (1<n1) then some 8 else some 0
def c72:bM:=⟨aC.one (aH.agg (cD.row jH)),aH.int .i64,fun a=>gZ a,.pure,false⟩
theorem EO:aI tab 72 c72:=Oc aQB rfl aG [(129,aJ4),(128,aRc)] ⟨SU,aAT,trivial⟩ fun a=>by kernel_rfl
def sK (p0:Int):Option Bool:=bif decide (p0<(-1048576)) then some true else some (decide (1048576<p0))
def aTf:bM:=⟨aC.one (aH.int .i64),aH.bool,fun a=>sK a,.pure,false⟩
theorem aJ6:aI tab 141 aTf:=Oc aIn rfl aG [] trivial fun a=>by kernel_rfl
def kU (p0:Int×Int×Int):Option Int:=bif decide (p0.1<0) then some 8 else bif decide (65535<p0.1) then some 8 else (sK p0.2.1).bind fun b0=>bif b0 then some 8 else (sK p0.2.2).bind fun b1=>bif b1 then some 8 else some 0
def c86:bM:=⟨aC.one (aH.agg (cD.row dZ)),aH.int .i64,fun a=>kU a,.pure,false⟩
theorem SW:aI tab 86 c86:=Oc aQO rfl aG [(141,aTf)] ⟨aJ6,trivial⟩ fun a=>by kernel_rfl
def jW (s:aDR):Option (cC aDR (cC aDR Int)):=bif decide (s.2.2.1<s.2.1) then (aN s.1 s.2.2.1).bind fun a0=>bif decide (0<s.2.2.1) then (aN s.2.2.2 (aA .i64 (s.2.2.1-1))).bind fun a1=>bif decide (a0.1<=a1.1) then some (.done (.done 32)) else some (.next (s.1,s.2.1,aA .i64 (s.2.2.1+1),s.2.2.2)) else some (.next (s.1,s.2.1,aA .i64 (s.2.2.1+1),s.2.2.2)) else some (.done (.done 0))
def oX (s:aDR):Option (cC aDR Int):=bif decide (s.2.2.1<s.2.1) then (aN s.1 s.2.2.1).bind fun a0=>(kU a0).bind fun n1=>bif n1 !=0 then some (.done n1) else some (.next (s.1,s.2.1,aA .i64 (s.2.2.1+1),s.2.2.2)) else aJ jW (s.2.2.2,Int.ofNat s.2.2.2.length,0,s.2.2.2)
def eI (p0:Field):Option Int:=bif decide (64<(Int.ofNat p0.points.length)) then some 4 else aJ oX (p0.points,Int.ofNat p0.points.length,0,p0.points)
def c85:bM:=⟨aC.one (aH.agg bN),aH.int .i64,fun a=>eI a,.pure,false⟩
theorem KL:aI tab 85 c85:=Oc aQN rfl aG [(86,c86)] ⟨SW,trivial⟩ fun a=>by kernel_rfl
def yI (p0:Int×Int):Option Bool:=bif decide (0<=(if p0.2<p0.1 then p0.2 else p0.1)) then bif decide ((if p0.2>p0.1 then p0.2 else p0.1)<=65535) then some (p0.1 !=p0.2) else some false else some false
def aRe:bM:=⟨aC.one (aH.agg (cD.row jH)),aH.bool,fun a=>yI a,.pure,false⟩
theorem aAU:aI tab 174 aRe:=Oc aIC rfl aG [] trivial fun a=>by kernel_rfl
def uT (s:aS7):Option (cC aS7 Int):=bif decide (s.2.2.2.1<s.2.2.1) then (aN s.2.1 s.2.2.2.1).bind fun a0=>(yI a0.2).bind fun b1=>bif !b1 then some (.done 8) else (UT s.2.2.2.2.2.2 [a0.2.1,a0.2.2]).bind fun b2=>bif b2 then some (.done 8) else bif decide (a0.1<=s.1) then some (.done 8) else bif decide (s.2.2.2.2.1<=a0.1) then some (.done 8) else (UU s.2.2.2.2.2.2 [a0.2.1,a0.2.2]).bind fun l3=>some (.next (a0.1,s.2.1,s.2.2.1,aA .i64 (s.2.2.2.1+1),s.2.2.2.2.1,s.2.2.2.2.2.1,l3)) else some (.done 0)
def tV (p0:bK):Option Int:=bif decide (200<(Int.ofNat p0.list.length)) then some 8 else bif decide (p0.next_<0) then some 8 else bif decide (1000000<p0.next_) then some 8 else aJ uT (-1,p0.list,Int.ofNat p0.list.length,0,p0.next_,p0.list,[])
def aJ7:bM:=⟨aC.one (aH.agg hM),aH.int .i64,fun a=>tV a,.pure,false⟩
theorem SX:aI tab 114 aJ7:=Oc aHZ rfl aG [(174,aRe)] ⟨aAU,trivial⟩ fun a=>by kernel_rfl
def iI (s:((List Bool)×Bool×Int×Int)):Option (cC ((List Bool)×Bool×Int×Int) Int):=bif decide (s.2.2.2<s.2.2.1) then (aN s.1 s.2.2.2).bind fun b0=>bif s.2.1==b0 then some (.done s.2.2.2) else some (.next (s.1,s.2.1,s.2.2.1,aA .i64 (s.2.2.2+1))) else some (.done (-1))
def sL (p0:List Bool) (p1:Bool):Option Int:=aJ iI (p0,p1,Int.ofNat p0.length,0)
def aTh:bM:=⟨aC.cons (aH.sl kb) (aC.one aH.bool),aH.int .i64,fun a=>sL a.1 a.2,.pure,false⟩
theorem aJ8:aI tab 264 aTh:=Oc aJB rfl aG [] trivial fun a=>by kernel_rfl
def eM (p0:List Bool) (p1:Bool):Option Bool:=(sL p0 p1).bind fun n0=>some (decide (0<=n0))
def aTi:bM:=⟨aC.cons (aH.sl kb) (aC.one aH.bool),aH.bool,fun a=>eM a.1 a.2,.pure,false⟩
theorem aJ9:aI tab 224 aTi:=Oc aJi rfl aG [(264,aTh)] ⟨aJ8,trivial⟩ fun a=>by kernel_rfl
def iD (s:((List Int)×Int×Int×(List Int)×(List Bool)×(List Int))):Option (cC ((List Int)×Int×Int×(List Int)×(List Bool)×(List Int)) aS9):=bif decide (s.2.2.1<s.2.1) then (aN s.1 s.2.2.1).bind fun n0=>bif decide (n0<0) then some (.done (.done 8)) else bif decide (1000000<n0) then some (.done (.done 8)) else bif n0==0 then (aN s.2.2.2.2.1 s.2.2.1).bind fun b1=>bif b1 then some (.done (.done 8)) else some (.next (s.1,s.2.1,aA .i64 (s.2.2.1+1),s.2.2.2)) else some (.next (s.1,s.2.1,aA .i64 (s.2.2.1+1),s.2.2.2)) else some (.done (.done 0))
def uU (c0:(List Bool)) (s:aS8):Option aS9:=match s with |(a,b,d,e,f,g,h,i)=>bif decide (d<b) then (aN a d).bind fun n0=>bif decide (n0<0) then bif i.length==i.length then bif i.length==c0.length then bif i.length==c0.length then bif decide (0<=d) then some (.done 8) else (eM i false).bind fun b1=>bif b1 then some (.done 8) else aJ iD (e,Int.ofNat e.length,0,e,f,g) else none else none else none else bif decide (h<=n0) then bif i.length==i.length then bif i.length==c0.length then bif i.length==c0.length then bif decide (0<=d) then some (.done 8) else (eM i false).bind fun b2=>bif b2 then some (.done 8) else aJ iD (e,Int.ofNat e.length,0,e,f,g) else none else none else none else (aN i n0).bind fun b3=>bif b3 then bif i.length==i.length then bif i.length==c0.length then bif i.length==c0.length then bif decide (0<=d) then some (.done 8) else (eM i false).bind fun b4=>bif b4 then some (.done 8) else aJ iD (e,Int.ofNat e.length,0,e,f,g) else none else none else none else (aN i n0).bind fun _=>bif ((cP i n0 true).length)==i.length then some (.next (a,b,aA .i64 (d+1),e,f,g,h,cP i n0 true)) else none else bif i.length==c0.length then bif i.length==c0.length then (eM i false).bind fun b6=>bif b6 then some (.done 8) else aJ iD (e,Int.ofNat e.length,0,e,f,g) else none else none
def tX (p0:bA):Option Int:=bif decide ((Int.ofNat p0.uses.length)<1) then some 8 else bif decide (200<(Int.ofNat p0.uses.length)) then some 8 else bif (Int.ofNat p0.used.length) !=(Int.ofNat p0.uses.length) then some 8 else (bX p0.used).bind fun l0=>aJ (uU l0) (p0.free,Int.ofNat p0.free.length,0,p0.uses,p0.used,p0.free,Int.ofNat p0.uses.length,l0)
def aKa:bM:=⟨aC.one (aH.agg hJ),aH.int .i64,fun a=>tX a,.pure,false⟩
theorem SY:aI tab 175 aKa:=aI.of aID (cx:=(pQ aG [(197,bM.clone kb),(224,aTi)] [] [(222,aG3),(263,aHq),(223,aG5)] [])) rfl (mF.make ⟨yF,aJ9,trivial⟩ trivial ⟨aJg,aJA,aJh,trivial⟩) (fun a=>by kernel_rfl)
def CO (p0:Int×Int) (p1:Int×Int):Option Int:=(gZ p0).bind fun n0=>(gZ p1).bind fun n1=>some (if n1>n0 then n1 else n0)
def aTj:bM:=⟨aC.cons (aH.agg (cD.row jH)) (aC.one (aH.agg (cD.row jH))),aH.int .i64,fun a=>CO a.1 a.2,.pure,false⟩
theorem aKb:aI tab 130 aTj:=Oc aId rfl aG [(72,c72)] ⟨EO,trivial⟩ fun a=>by kernel_rfl
def qR (p0:Int):Option Bool:=some (p0 !=p0)
def aTk:bM:=⟨aC.one (aH.int .i64),aH.bool,fun a=>qR a,.pure,false⟩
theorem aKc:aI tab 185 aTk:=Oc aIM rfl aG [] trivial fun a=>by kernel_rfl
def kV (p0:Int) (p1:Int):Option Int:=(qR p0).bind fun b0=>(qR p1).bind fun b1=>bif b0 then bif b1 then some 0 else some (-1) else bif b1 then some 1 else bif decide (p0<p1) then some (-1) else bif decide (p1<p0) then some 1 else some 0
def aRf:bM:=⟨aC.cons (aH.int .i64) (aC.one (aH.int .i64)),aH.int .i64,fun a=>kV a.1 a.2,.pure,false⟩
theorem aAV:aI tab 131 aRf:=Oc aIe rfl aG [(185,aTk)] ⟨aKc,trivial⟩ fun a=>by kernel_rfl
def kJ (p0:Int) (p1:Int):Option (Int×Int):=some (aA .u64 ((aA .u64 ((aA .u64 ((lG .u64 p0 32)*(lG .u64 p1 32)))+(lG .u64 (aA .u64 ((aA .u64 ((lG .u64 p0 32)*(tR .u64 p1 4294967295)))+(lG .u64 (aA .u64 ((tR .u64 p0 4294967295)*(tR .u64 p1 4294967295))) 32))) 32)))+(lG .u64 (aA .u64 ((tR .u64 (aA .u64 ((aA .u64 ((lG .u64 p0 32)*(tR .u64 p1 4294967295)))+(lG .u64 (aA .u64 ((tR .u64 p0 4294967295)*(tR .u64 p1 4294967295))) 32))) 4294967295)+(aA .u64 ((tR .u64 p0 4294967295)*(lG .u64 p1 32))))) 32)),aA .u64 (p0*p1))
def aRg:bM:=⟨aC.cons (aH.int .u64) (aC.one (aH.int .u64)),aH.tup (aC.cons (aH.int .u64) (aC.one (aH.int .u64))),fun a=>kJ a.1 a.2,.pure,false⟩
theorem aAW:aI tab 187 aRg:=Oc aIO rfl aG [] trivial fun a=>by kernel_rfl
def wC (p0:Int) (p1:Int):Option (Bool×Int×Int):=(oE p0).bind fun n0=>(oE p1).bind fun n1=>(kJ n0 n1).bind fun a2=>some (!((decide (p0<0))==(decide (p1<0))),a2)
def aTl:bM:=⟨aC.cons (aH.int .i64) (aC.one (aH.int .i64)),aH.agg (cD.row EK),fun a=>wC a.1 a.2,.pure,false⟩
theorem aKd:aI tab 133 aTl:=Oc aIg rfl aG [(129,aJ4),(187,aRg)] ⟨SU,aAW,trivial⟩ fun a=>by kernel_rfl
def pR (p0:Int):Option Bool:=some (p0 !=p0)
def aTm:bM:=⟨aC.one (aH.int .u64),aH.bool,fun a=>pR a,.pure,false⟩
theorem aKe:aI tab 227 aTm:=Oc aJl rfl aG [] trivial fun a=>by kernel_rfl
def jX (p0:Int) (p1:Int):Option Int:=(pR p0).bind fun b0=>(pR p1).bind fun b1=>bif b0 then bif b1 then some 0 else some (-1) else bif b1 then some 1 else bif decide (p0<p1) then some (-1) else bif decide (p1<p0) then some 1 else some 0
def aTn:bM:=⟨aC.cons (aH.int .u64) (aC.one (aH.int .u64)),aH.int .i64,fun a=>jX a.1 a.2,.pure,false⟩
theorem aKf:aI tab 186 aTn:=Oc aIN rfl aG [(227,aTm)] ⟨aKe,trivial⟩ fun a=>by kernel_rfl
def uV (p0:Bool×Int×Int) (p1:Bool×Int×Int):Option Int:=(jX p0.2.1 p1.2.1).bind fun n0=>bif n0 !=0 then some n0 else (jX p0.2.2 p1.2.2).bind fun n1=>some n1
def aTo:bM:=⟨aC.cons (aH.agg (cD.row EK)) (aC.one (aH.agg (cD.row EK))),aH.int .i64,fun a=>uV a.1 a.2,.pure,false⟩
theorem aKg:aI tab 132 aTo:=Oc aIf rfl aG [(186,aTn)] ⟨aKf,trivial⟩ fun a=>by kernel_rfl
def tY (p0:Int×Int) (p1:Int×Int):Option (Int×Int):=(CO p0 p1).bind fun n0=>bif n0 !=0 then some (0,n0) else bif !((decide (p0.1<0))==(decide (p1.1<0))) then (kV p0.1 p1.1).bind fun n1=>some (n1,0) else (wC p0.1 p1.2).bind fun a2=>(wC p1.1 p0.2).bind fun a3=>(uV a2 a3).bind fun n4=>bif decide (p0.1<0) then some (aA .i64 (0-n4),0) else some (n4,0)
def c73:bM:=⟨aC.cons (aH.agg (cD.row jH)) (aC.one (aH.agg (cD.row jH))),aH.tup (aC.cons (aH.int .i64) (aC.one (aH.int .i64))),fun a=>tY a.1 a.2,.pure,false⟩
theorem YU:aI tab 73 c73:=Oc aQC rfl aG [(130,aTj),(131,aRf),(133,aTl),(132,aTo)] ⟨aKb,aAV,aKd,aKg,trivial⟩ fun a=>by kernel_rfl
def uW (p0:Int):Option Bool:=some (p0 !=p0)
def aTp:bM:=⟨aC.one (aH.int .i64),aH.bool,fun a=>uW a,.pure,false⟩
theorem aKh:aI tab 199 aTp:=Oc aI0 rfl aG [] trivial fun a=>by kernel_rfl
def fU (p0:Int) (p1:Int):Option Int:=(uW p0).bind fun b0=>(uW p1).bind fun b1=>bif b0 then bif b1 then some 0 else some (-1) else bif b1 then some 1 else bif decide (p0<p1) then some (-1) else bif decide (p1<p0) then some 1 else some 0
def YV:bM:=⟨aC.cons (aH.int .i64) (aC.one (aH.int .i64)),aH.int .i64,fun a=>fU a.1 a.2,.pure,false⟩
theorem FK:aI tab 144 YV:=Oc aIp rfl aG [(199,aTp)] ⟨aKh,trivial⟩ fun a=>by kernel_rfl
def AR (s:(Int×(List Int)×Int×Int)):Option (cC (Int×(List Int)×Int×Int) Int):=bif decide (s.2.2.2<s.2.2.1) then (aN s.2.1 s.2.2.2).bind fun n0=>bif n0 !=s.1 then some (.done n0) else some (.next (s.1,s.2.1,s.2.2.1,aA .i64 (s.2.2.2+1))) else some (.done s.1)
def yJ (p0:List Int):Option Int:=aJ AR (0,p0,Int.ofNat p0.length,0)
def aRh:bM:=⟨aC.one (aH.sl ki),aH.int .i64,fun a=>yJ a,.pure,false⟩
theorem aAX:aI tab 209 aRh:=Oc aI5 rfl aG [] trivial fun a=>by kernel_rfl
def cH (p0:Int×Int×Int×Int×Int) (p1:Int×Int×Int×Int×Int):Option Int:=(tY (p0.1,p0.2.1) (p1.1,p1.2.1)).bind fun a0=>(fU p0.2.2.1 p1.2.2.1).bind fun n1=>(yJ [a0.1,n1]).bind fun n2=>some n2
def aKi:bM:=⟨aC.cons (aH.agg (cD.row kI)) (aC.one (aH.agg (cD.row kI))),aH.int .i64,fun a=>cH a.1 a.2,.pure,false⟩
theorem SZ:aI tab 176 aKi:=Oc aIE rfl aG [(73,c73),(144,YV),(209,aRh)] ⟨YU,FK,aAX,trivial⟩ fun a=>by kernel_rfl
def kK (s:aSX):Option (cC aSX aS6):=bif decide (s.2.2.1<s.2.1) then (aN s.1 s.2.2.1).bind fun a0=>(gZ (a0.1,a0.2.1)).bind fun n1=>bif n1 !=0 then some (.done (.done 8)) else bif decide (a0.2.2.1<0) then some (.done (.done 8)) else bif decide (1000000<a0.2.2.1) then some (.done (.done 8)) else (UT s.2.2.2.2.2.2.2.2 [a0.2.2.1]).bind fun b2=>bif b2 then some (.done (.done 8)) else (UU s.2.2.2.2.2.2.2.2 [a0.2.2.1]).bind fun l3=>bif decide (0<s.2.2.1) then (aN s.2.2.2.2.2.2.1 (aA .i64 (Int.tdiv (aA .i64 (s.2.2.1-1)) 2))).bind fun a4=>(cH a0 a4).bind fun n5=>bif decide (n5<0) then some (.done (.done 8)) else some (.next (s.1,s.2.1,aA .i64 (s.2.2.1+1),s.2.2.2.1,s.2.2.2.2.1,s.2.2.2.2.2.1,s.2.2.2.2.2.2.1,s.2.2.2.2.2.2.2.1,l3)) else some (.next (s.1,s.2.1,aA .i64 (s.2.2.1+1),s.2.2.2.1,s.2.2.2.2.1,s.2.2.2.2.2.1,s.2.2.2.2.2.2.1,s.2.2.2.2.2.2.2.1,l3)) else some (.done (.done 0))
def nW (s:aS5):Option aS6:=bif decide (s.2.2.1<s.2.1) then (aN s.1 s.2.2.1).bind fun n0=>(aN s.2.2.2.2.1 s.2.2.1).bind fun b1=>bif !b1 then bif n0 !=(-1) then some (.done 8) else some (.next (s.1,s.2.1,aA .i64 (s.2.2.1+1),s.2.2.2)) else bif decide (n0<0) then some (.done 8) else bif decide ((Int.ofNat s.2.2.2.2.2.2.1.length)<=n0) then some (.done 8) else (aN s.2.2.2.2.2.2.1 n0).bind fun a2=>(aN s.2.2.2.1 s.2.2.1).bind fun n3=>bif !((a2.2.2.2.1==s.2.2.1)&&(a2.2.2.2.2==n3)) then some (.done 8) else some (.next (s.1,s.2.1,aA .i64 (s.2.2.1+1),s.2.2.2)) else aJ kK (s.2.2.2.2.2.2.1,Int.ofNat s.2.2.2.2.2.2.1.length,0,s.2.2.2.1,s.2.2.2.2.1,s.2.2.2.2.2.1,s.2.2.2.2.2.2.1,s.2.2.2.2.2.2.2,[])
def kW (p0:aQ):Option Int:=(tX p0.slots).bind fun n0=>bif n0 !=0 then some 8 else bif (Int.ofNat p0.where_.length) !=(Int.ofNat p0.slots.used.length) then some 8 else bif (Int.ofNat p0.heap.length) !=(aA .i64 ((Int.ofNat p0.slots.used.length) - (Int.ofNat p0.slots.free.length))) then some 8 else aJ nW (p0.where_,Int.ofNat p0.where_.length,0,p0.slots.uses,p0.slots.used,p0.slots.free,p0.heap,p0.where_)
def aB9:bM:=⟨aC.one (aH.agg dB),aH.int .i64,fun a=>kW a,.pure,false⟩
theorem I1:aI tab 115 aB9:=Oc aH0 rfl aG [(175,aKa),(72,c72),(176,aKi)] ⟨SY,EO,SZ,trivial⟩ fun a=>by kernel_rfl
def AS (p0:Int×Int×Int) (p1:Int):Option Int:=(fU p0.1 p1).bind fun n0=>some n0
def aTq:bM:=⟨aC.cons (aH.agg (cD.row dZ)) (aC.one (aH.int .i64)),aH.int .i64,fun a=>AS a.1 a.2,.pure,false⟩
theorem aKj:aI tab 225 aTq:=Oc aJj rfl aG [(144,YV)] ⟨FK,trivial⟩ fun a=>by kernel_rfl
def jR (s:SS):Option aJW:=bif decide (s.2.2.2.1<s.2.2.2.2) then (aN s.1 (aA .i64 (lG .u64 (aA .u64 (aA .i64 (s.2.2.2.1+s.2.2.2.2))) 1))).bind fun a0=>(AS a0 s.2.1).bind fun n1=>bif decide (n1<0) then some (.next (s.1,s.2.1,s.2.2.1,aA .i64 ((aA .i64 (lG .u64 (aA .u64 (aA .i64 (s.2.2.2.1+s.2.2.2.2))) 1))+1),s.2.2.2.2)) else some (.next (s.1,s.2.1,s.2.2.1,s.2.2.2.1,aA .i64 (lG .u64 (aA .u64 (aA .i64 (s.2.2.2.1+s.2.2.2.2))) 1))) else bif decide (s.2.2.2.1<s.2.2.1) then (aN s.1 s.2.2.2.1).bind fun a2=>(AS a2 s.2.1).bind fun n3=>some (.done (s.2.2.2.1,n3==0)) else some (.done (s.2.2.2.1,false))
def cZ (p0:List (Int×Int×Int)) (p1:Int) (_:Unit):Option (Int×Bool):=aJ jR (p0,p1,Int.ofNat p0.length,0,Int.ofNat p0.length)
def VO:bM:=⟨aC.cons (aH.sl dZ) (aC.cons (aH.int .i64) (aC.one (aH.clo 225 aC.nil))),aH.tup (aC.cons (aH.int .i64) (aC.one aH.bool)),fun a=>cZ a.1 a.2.1 a.2.2,.pure,false⟩
theorem VP:aI tab 142 VO:=Oc aAJ rfl aG [(225,aTq)] ⟨aKj,trivial⟩ fun a=>by kernel_rfl
def kX (p0:Field) (p1:Int):Option (Int×Int×Int):=(cZ p0.points p1 ()).bind fun a0=>bif !a0.2 then some (-1,0,0) else (aN p0.points a0.1).bind fun a1=>some a1
def aKk:bM:=⟨aC.cons (aH.agg bN) (aC.one (aH.int .i64)),aH.agg (cD.row dZ),fun a=>kX a.1 a.2,.pure,false⟩
theorem S0:aI tab 178 aKk:=Oc aIG rfl aG [(142,VO)] ⟨VP,trivial⟩ fun a=>by kernel_rfl
def tZ (p0:Int×Int×Int) (p1:Int×Int×Int) (p2:Int×Int):Option Int:=(kU p0).bind fun n0=>(kU p1).bind fun n1=>(gZ p2).bind fun n2=>bif (if n2>(if n1>n0 then n1 else n0) then n2 else if n1>n0 then n1 else n0) !=0 then some (if n2>(if n1>n0 then n1 else n0) then n2 else if n1>n0 then n1 else n0) else bif p0.1==p1.1 then some 2 else some 0
def aKl:bM:=⟨aC.cons (aH.agg (cD.row dZ)) (aC.cons (aH.agg (cD.row dZ)) (aC.one (aH.agg (cD.row jH)))),aH.int .i64,fun a=>tZ a.1 a.2.1 a.2.2,.pure,false⟩
theorem S1:aI tab 203 aKl:=Oc aI1 rfl aG [(86,c86),(72,c72)] ⟨SW,EO,trivial⟩ fun a=>by kernel_rfl
def qI (s:(Int×Int×Int×Int×Int×Int×Int×Int×Int)):Option (cC (Int×Int×Int×Int×Int×Int×Int×Int×Int) (Int×Int)):=bif decide (s.2.2.2.2.1<2) then bif s.2.2.2.2.1==0 then (kJ (aA .u64 s.1) (aA .u64 s.2.1)).bind fun a0=>bif decide (s.1<0) then bif decide (s.2.1<0) then (tU s.2.2.2.2.2.2.2.2 a0.2 0).bind fun a1=>some (.next (s.1,s.2.1,s.2.2.1,s.2.2.2.1,aA .i64 (s.2.2.2.2.1+1),s.2.2.2.2.2.1,s.2.2.2.2.2.2.1,aA .i64 ((aA .i64 (s.2.2.2.2.2.2.2.1+(aA .i64 ((aA .i64 ((aA .i64 a0.1) -s.2.1)) -s.1))))+(aA .i64 a1.2)),a1.1)) else (tU s.2.2.2.2.2.2.2.2 a0.2 0).bind fun a2=>some (.next (s.1,s.2.1,s.2.2.1,s.2.2.2.1,aA .i64 (s.2.2.2.2.1+1),s.2.2.2.2.2.1,s.2.2.2.2.2.2.1,aA .i64 ((aA .i64 (s.2.2.2.2.2.2.2.1+(aA .i64 ((aA .i64 a0.1) -s.2.1))))+(aA .i64 a2.2)),a2.1)) else bif decide (s.2.1<0) then (tU s.2.2.2.2.2.2.2.2 a0.2 0).bind fun a3=>some (.next (s.1,s.2.1,s.2.2.1,s.2.2.2.1,aA .i64 (s.2.2.2.2.1+1),s.2.2.2.2.2.1,s.2.2.2.2.2.2.1,aA .i64 ((aA .i64 (s.2.2.2.2.2.2.2.1+(aA .i64 ((aA .i64 a0.1) -s.1))))+(aA .i64 a3.2)),a3.1)) else (tU s.2.2.2.2.2.2.2.2 a0.2 0).bind fun a4=>some (.next (s.1,s.2.1,s.2.2.1,s.2.2.2.1,aA .i64 (s.2.2.2.2.1+1),s.2.2.2.2.2.1,s.2.2.2.2.2.2.1,aA .i64 ((aA .i64 (s.2.2.2.2.2.2.2.1+(aA .i64 a0.1)))+(aA .i64 a4.2)),a4.1)) else bif s.2.2.2.2.1==1 then (kJ (aA .u64 s.2.2.1) (aA .u64 s.2.2.2.1)).bind fun a5=>bif decide (s.2.2.1<0) then bif decide (s.2.2.2.1<0) then (tU s.2.2.2.2.2.2.2.2 a5.2 0).bind fun a6=>some (.next (s.1,s.2.1,s.2.2.1,s.2.2.2.1,aA .i64 (s.2.2.2.2.1+1),s.2.2.2.2.2.1,s.2.2.2.2.2.2.1,aA .i64 ((aA .i64 (s.2.2.2.2.2.2.2.1+(aA .i64 ((aA .i64 ((aA .i64 a5.1) -s.2.2.2.1)) -s.2.2.1))))+(aA .i64 a6.2)),a6.1)) else (tU s.2.2.2.2.2.2.2.2 a5.2 0).bind fun a7=>some (.next (s.1,s.2.1,s.2.2.1,s.2.2.2.1,aA .i64 (s.2.2.2.2.1+1),s.2.2.2.2.2.1,s.2.2.2.2.2.2.1,aA .i64 ((aA .i64 (s.2.2.2.2.2.2.2.1+(aA .i64 ((aA .i64 a5.1) -s.2.2.2.1))))+(aA .i64 a7.2)),a7.1)) else bif decide (s.2.2.2.1<0) then (tU s.2.2.2.2.2.2.2.2 a5.2 0).bind fun a8=>some (.next (s.1,s.2.1,s.2.2.1,s.2.2.2.1,aA .i64 (s.2.2.2.2.1+1),s.2.2.2.2.2.1,s.2.2.2.2.2.2.1,aA .i64 ((aA .i64 (s.2.2.2.2.2.2.2.1+(aA .i64 ((aA .i64 a5.1) -s.2.2.1))))+(aA .i64 a8.2)),a8.1)) else (tU s.2.2.2.2.2.2.2.2 a5.2 0).bind fun a9=>some (.next (s.1,s.2.1,s.2.2.1,s.2.2.2.1,aA .i64 (s.2.2.2.2.1+1),s.2.2.2.2.2.1,s.2.2.2.2.2.2.1,aA .i64 ((aA .i64 (s.2.2.2.2.2.2.2.1+(aA .i64 a5.1)))+(aA .i64 a9.2)),a9.1)) else none else some (.done s.2.2.2.2.2.2.2)
def CP (p0:Int×Int×Int×Int):Option (Int×Int):=aJ qI (p0.1,p0.2.1,p0.2.2.1,p0.2.2.2,0,0,0,0,0)
def aTr:bM:=⟨aC.one (aH.agg (cD.row aSI)),aH.agg (cD.row kiu),fun a=>CP a,.pure,false⟩
theorem aKm:aI tab 245 aTr:=Oc aJs rfl aG [(187,aRg),(277,bM.add64)] ⟨aAW,aDQ,trivial⟩ fun a=>by kernel_rfl
def oY (p0:Int×Int×Int) (p1:Int×Int×Int) (p2:Int×Int):Option Int:=(CP (aA .i64 (p0.2.1-p1.2.1),p2.2,aA .i64 (p0.2.2-p1.2.2),p2.1)).bind fun a0=>bif !((a0.1==0)&&(a0.2==0)) then bif decide (a0.1<0) then some (-1) else some 1 else (kV p0.2.2 p1.2.2).bind fun n1=>(fU p1.1 p0.1).bind fun n2=>(yJ [n1,n2]).bind fun n3=>some n3
def aRi:bM:=⟨aC.cons (aH.agg (cD.row dZ)) (aC.cons (aH.agg (cD.row dZ)) (aC.one (aH.agg (cD.row jH)))),aH.int .i64,fun a=>oY a.1 a.2.1 a.2.2,.pure,false⟩
theorem aAY:aI tab 204 aRi:=Oc aI2 rfl aG [(245,aTr),(131,aRf),(144,YV),(209,aRh)] ⟨aKm,aAV,FK,aAX,trivial⟩ fun a=>by kernel_rfl
def EP (p0:Bool×Int×Int) (p1:Int) (p2:Int):Option ((Int×Int)×Int):=bif decide (0<p0.2.1) then some ((0,0),16) else bif decide (9223372036854775807<p0.2.2) then some ((0,0),16) else bif decide (0<p1) then some ((0,0),16) else bif decide (9223372036854775807<p2) then some ((0,0),16) else bif p0.1 then some ((aA .i64 (0- (aA .i64 p0.2.2)),aA .i64 p2),0) else some ((aA .i64 p0.2.2,aA .i64 p2),0)
def aTs:bM:=⟨aC.cons (aH.agg (cD.row EK)) (aC.cons (aH.int .u64) (aC.one (aH.int .u64))),aH.tup (aC.cons (aH.agg (cD.row jH)) (aC.one (aH.int .i64))),fun a=>EP a.1 a.2.1 a.2.2,.pure,false⟩
theorem aKn:aI tab 247 aTs:=Oc aJu rfl aG [] trivial fun a=>by kernel_rfl
def CQ (p0:Int) (p1:Int):Option ((Int×Int)×Int):=bif p1==0 then some ((0,0),26) else (oE p0).bind fun n0=>(oE p1).bind fun n1=>(BM n0 n1).bind fun n2=>(oE p0).bind fun n3=>bif n2==0 then none else (oE p1).bind fun n4=>bif n2==0 then none else (EP (!((decide (p0<0))==(decide (p1<0))),0,aA .u64 (Int.tdiv n3 n2)) 0 (aA .u64 (Int.tdiv n4 n2))).bind fun a5=>some a5
def aTt:bM:=⟨aC.cons (aH.int .i64) (aC.one (aH.int .i64)),aH.tup (aC.cons (aH.agg (cD.row jH)) (aC.one (aH.int .i64))),fun a=>CQ a.1 a.2,.pure,false⟩
theorem aKo:aI tab 207 aTt:=Oc aI4 rfl aG [(129,aJ4),(128,aRc),(247,aTs)] ⟨SU,aAT,aKn,trivial⟩ fun a=>by kernel_rfl
def EQ (p0:Int×Int×Int) (p1:Int×Int×Int):Option ((Int×Int)×Int):=(tZ p0 p1 (0,1)).bind fun n0=>bif n0 !=0 then some ((0,0),n0) else bif p0.2.2==p1.2.2 then some ((0,0),6) else (CQ (aA .i64 (p0.2.1-p1.2.1)) (aA .i64 (p1.2.2-p0.2.2))).bind fun a1=>some a1
def aTu:bM:=⟨aC.cons (aH.agg (cD.row dZ)) (aC.one (aH.agg (cD.row dZ))),aH.tup (aC.cons (aH.agg (cD.row jH)) (aC.one (aH.int .i64))),fun a=>EQ a.1 a.2,.pure,false⟩
theorem aKp:aI tab 158 aTu:=Oc aIu rfl aG [(203,aKl),(207,aTt)] ⟨S1,aKo,trivial⟩ fun a=>by kernel_rfl
def xH (p0:Int×Int×Int) (p1:Int×Int×Int) (p2:Int×Int):Option ((Int×Int)×Bool×Int):=(tZ p0 p1 p2).bind fun n0=>bif n0 !=0 then some ((0,0),false,n0) else (oY p1 p0 p2).bind fun n1=>bif decide (0<n1) then some (p2,true,0) else bif decide (p1.2.2<=p0.2.2) then some ((0,0),false,0) else (EQ p0 p1).bind fun a2=>some (a2.1,a2.2==0,a2.2)
def aTv:bM:=⟨aC.cons (aH.agg (cD.row dZ)) (aC.cons (aH.agg (cD.row dZ)) (aC.one (aH.agg (cD.row jH)))),aH.tup (aC.cons (aH.agg (cD.row jH)) (aC.cons aH.bool (aC.one (aH.int .i64)))),fun a=>xH a.1 a.2.1 a.2.2,.pure,false⟩
theorem aKq:aI tab 177 aTv:=Oc aIF rfl aG [(203,aKl),(204,aRi),(158,aTu)] ⟨S1,aAY,aKp,trivial⟩ fun a=>by kernel_rfl
def uA (p0:Field) (p1:Int×Int) (p2:Int×Int):Option ((Int×Int)×Bool×Int):=(kX p0 p1.2).bind fun a0=>(kX p0 p1.1).bind fun a1=>(xH a0 a1 p2).bind fun a2=>some a2
def aKr:bM:=⟨aC.cons (aH.agg bN) (aC.cons (aH.agg (cD.row jH)) (aC.one (aH.agg (cD.row jH)))),aH.tup (aC.cons (aH.agg (cD.row jH)) (aC.cons aH.bool (aC.one (aH.int .i64)))),fun a=>uA a.1 a.2.1 a.2.2,.pure,false⟩
theorem S2:aI tab 116 aKr:=Oc aH1 rfl aG [(178,aKk),(177,aTv)] ⟨S0,aKq,trivial⟩ fun a=>by kernel_rfl
def cR (s:Zt8):Option (cC Zt8 aSO):=bif decide (s.2.2.2.1<s.2.2.1) then (aN s.2.1 s.2.2.2.1).bind fun a0=>(uA (Field.mk s.2.2.2.2.2.2.1) a0.2 (s.2.2.2.2.1,s.2.2.2.2.2.1)).bind fun a1=>bif a1.2.2 !=0 then some (.done (.done 8)) else bif !a1.2.1 then some (.next (s.1,s.2.1,s.2.2.1,aA .i64 (s.2.2.2.1+1),s.2.2.2.2)) else bif (Int.ofNat s.1.length)==0 then some (.done (.done 8)) else (aN s.1 0).bind fun a2=>bif a2.1 !=a0.1 then some (.done (.done 8)) else (aN s.1 0).bind fun a3=>bif decide (a3.2.1<0) then some (.done (.done 8)) else bif decide (200<=a3.2.1) then some (.done (.done 8)) else (aN s.2.2.2.2.2.2.2.2.2.2.2.2.2.1 a3.2.1).bind fun n4=>bif decide (n4<0) then some (.done (.done 8)) else (aN s.2.2.2.2.2.2.2.2.2.2.2.2.2.1 a3.2.1).bind fun n5=>(aN s.2.2.2.2.2.2.2.2.2.2.2.2.1 n5).bind fun a6=>bif !((a6.1==a1.1.1)&&((a6.2.1==a1.1.2)&&((a6.2.2.1==a0.1)&&((a6.2.2.2.1==a3.2.1)&&(a6.2.2.2.2==a3.2.2))))) then some (.done (.done 8)) else (jL s.1 1 (Int.ofNat s.1.length)).bind fun l7=>some (.next (l7,s.2.1,s.2.2.1,aA .i64 (s.2.2.2.1+1),s.2.2.2.2)) else bif decide (0<(Int.ofNat s.1.length)) then some (.done (.done 8)) else some (.done (.done 0))
def fO (s:aSN):Option aSO:=match s with |(a,b,d,e,f,g,h,i,j,k,l,m,n,o)=>bif decide (b<a) then (aN o b).bind fun n0=>bif n0 !=0 then some (.done 8) else some (.next (a,aA .i64 (b+1),(d,e,f,g,h,i,j,k,l,m,n,o))) else bif (Int.ofNat m.length) !=200 then some (.done 8) else bif (Int.ofNat l.length) !=(Int.ofNat n.length) then some (.done 8) else aJ cR (n,h,Int.ofNat h.length,0,d,e,f,g,h,i,j,k,l,m,n)
def hH (p0:aP):Option Int:=(gZ p0.now).bind fun n0=>(eI p0.field).bind fun n1=>(tV p0.certs).bind fun n2=>(kW p0.agenda).bind fun n3=>aJ fO (Int.ofNat ([n0,n1,n2,n3].length),0,p0.now.1,p0.now.2,p0.field.points,p0.certs.next_,p0.certs.list,p0.agenda.slots.uses,p0.agenda.slots.used,p0.agenda.slots.free,p0.agenda.heap,p0.agenda.where_,p0.due,[n0,n1,n2,n3])
def c62:bM:=⟨aC.one (aH.agg bL),aH.int .i64,fun a=>hH a,.pure,false⟩
theorem KM:aI tab 62 c62:=Oc aQs rfl aG [(72,c72),(85,c85),(114,aJ7),(115,aB9),(116,aKr)] ⟨EO,KL,SX,I1,S2,trivial⟩ fun a=>by kernel_rfl
def nH (p0:Int×Int×Int) (p1:Int×Int×Int) (p2:Int×Int):Option (Bool×Int):=(tZ p0 p1 p2).bind fun n0=>bif n0 !=0 then some (false,n0) else (oY p0 p1 p2).bind fun n1=>some (decide (0<n1),0)
def aRk:bM:=⟨aC.cons (aH.agg (cD.row dZ)) (aC.cons (aH.agg (cD.row dZ)) (aC.one (aH.agg (cD.row jH)))),aH.tup (aC.cons aH.bool (aC.one (aH.int .i64))),fun a=>nH a.1 a.2.1 a.2.2,.pure,false⟩
theorem aAZ:aI tab 154 aRk:=Oc aIs rfl aG [(203,aKl),(204,aRi)] ⟨S1,aAY,trivial⟩ fun a=>by kernel_rfl
def iJ (c0:(VK->(Option YT))) (c1:VK) (s:aS1):Option (cC aS1 aSW):=match s with |(a,b,d,e,f,g,h,i,j,k,l,m)=>bif decide (d<b) then (aN e d).bind fun a0=>bif a0.1 !=i then bif decide (a<0) then none else bif (tR .i64 (lG .i64 a0.1 a) 1)==0 then (bH l [a0]).bind fun l1=>bif (tR .i64 (lG .i64 a0.1 a) 1)==0 then some (.next (a,b,aA .i64 (d+1),e,f,g,h,i,j,k,l1,m)) else bif (tR .i64 (lG .i64 a0.1 a) 1)==1 then none else none else bif (tR .i64 (lG .i64 a0.1 a) 1)==1 then (bH m [a0]).bind fun l2=>bif (tR .i64 (lG .i64 a0.1 a) 1)==0 then none else bif (tR .i64 (lG .i64 a0.1 a) 1)==1 then some (.next (a,b,aA .i64 (d+1),e,f,g,h,i,j,k,l,l2)) else none else none else some (.next (a,b,aA .i64 (d+1),(e,f,g,h,i,j,k,l,m))) else (c0 (g,h,i,aA .i64 (a+1),l,f)).bind fun a3=>(c0 (g,h,i,aA .i64 (a+1),m,a3.2)).bind fun a4=>bif e.length==c1.2.2.2.2.1.length then some (.done (.done (e,a4.2))) else none
def kY (c0:(VK->(Option YT))) (c1:VK) (s:aSV):Option aSW:=match s with |(a,b,d,e,f,g,h,i,j,k,l,m,n,o)=>bif decide (h<g) then (aN ((i.drop d).take e) h).bind fun a0=>(nH a0 (m,n,o) (k,l)).bind fun a1=>bif a1.1 then some (.next (a,b,d,e,f,g,aA .i64 (h+1),i,j,k,l,a0)) else some (.next (a,b,d,e,f,g,aA .i64 (h+1),(i,j,k,l,m,n,o))) else aJ (iJ c0 c1) (b,Int.ofNat i.length,0,i,oN j m a,k,l,m,n,o,[],[])
def qD (self:VK->Option YT) (a:VK):Option YT:=bif (Int.ofNat a.2.2.2.2.1.length)==0 then bif a.2.2.2.2.1.length==a.2.2.2.2.1.length then some a.2.2.2.2 else none else (aN a.2.2.2.2.1 0).bind fun a0=>bif ((decide (0<=1))&&(decide (1<=(Int.ofNat a.2.2.2.2.1.length))))&&(decide ((Int.ofNat a.2.2.2.2.1.length)<=(Int.ofNat a.2.2.2.2.1.length))) then aJ (kY self a) (a.2.2.1,a.2.2.2.1,1,((Int.ofNat a.2.2.2.2.1.length).toNat) -1,a.2.2.2.2.1.length-1,Int.ofNat (((Int.ofNat a.2.2.2.2.1.length).toNat) -1),0,a.2.2.2.2.1,a.2.2.2.2.2,a.1,a.2.1,a0) else none
def gW:Nat->VK->Option YT |0,_=>none |n+1,a=>qD (gW n) a
def gN (a:VK):Option YT:=gW 1000000 a
def YW:eH:=⟨[.i,.i,.i,.i,.l [.i .i64,.i .i64,.i .i64],.l [.i .i64,(.i .i64)]],[.own 0 false,.agg [.int .i64 0,.int .i64 0],.int .i64 0,.int .i64 0,.mp 1],[.arr [.i .i64,.i .i64,.i .i64] [],.tab (.i .i64) []],[.l [.i .i64,.i .i64,.i .i64],.l [.i .i64,(.i .i64)]],.tup [],[.arr [.i .i64,.i .i64,.i .i64] [],.tab (.i .i64) []],fun a=>gN a⟩
theorem OM: ∀n,kC tab 110 ⟨[.i,.i,.i,.i,.l [.i .i64,.i .i64,.i .i64],.l [.i .i64,(.i .i64)]],[.own 0 false,.agg [.int .i64 0,.int .i64 0],.int .i64 0,.int .i64 0,.mp 1],[.arr [.i .i64,.i .i64,.i .i64] [],.tab (.i .i64) []],[.l [.i .i64,.i .i64,.i .i64],.l [.i .i64,(.i .i64)]],.tup [],[.arr [.i .i64,.i .i64,.i .i64] [],.tab (.i .i64) []],fun a=>gW n a⟩
 |0=>kC.zero (fun _=>rfl)
 |n+1=>kC.of aAF (wd:=false) (cx:=(pQ aG [(154,aRk)] [(110,⟨[.i,.i,.i,.i,.l [.i .i64,.i .i64,.i .i64],.l [.i .i64,(.i .i64)]],[.own 0 false,.agg [.int .i64 0,.int .i64 0],.int .i64 0,.int .i64 0,.mp 1],[.arr [.i .i64,.i .i64,.i .i64] [],.tab (.i .i64) []],[.l [.i .i64,.i .i64,.i .i64],.l [.i .i64,(.i .i64)]],.tup [],[.arr [.i .i64,.i .i64,.i .i64] [],.tab (.i .i64) []],fun a=>gW n a⟩)] [] [])) (mF.make ⟨aAZ,trivial⟩ ⟨(OM n),trivial⟩ trivial) (fun a=>by kernel_rfl)
theorem QZ:kC tab 110 YW:=OM 1000000
def iK (s:aS0):Option (cC aS0 aSZ):=match s with |(a,b,d,e,f,g,h,i,j,k,l,m)=>bif decide (e<d) then (aN b e).bind fun a0=>bif a0.1 !=i then bif decide (a<0) then none else bif (tR .i64 (lG .i64 a0.1 a) 1)==0 then (bH l [a0]).bind fun l1=>bif (tR .i64 (lG .i64 a0.1 a) 1)==0 then some (.next (a,b,d,aA .i64 (e+1),f,g,h,i,j,k,l1,m)) else bif (tR .i64 (lG .i64 a0.1 a) 1)==1 then none else none else bif (tR .i64 (lG .i64 a0.1 a) 1)==1 then (bH m [a0]).bind fun l2=>bif (tR .i64 (lG .i64 a0.1 a) 1)==0 then none else bif (tR .i64 (lG .i64 a0.1 a) 1)==1 then some (.next (a,b,d,aA .i64 (e+1),f,g,h,i,j,k,l,l2)) else none else none else some (.next (a,b,d,aA .i64 (e+1),(f,g,h,i,j,k,l,m))) else (gN (g,h,i,aA .i64 (a+1),l,f)).bind fun a3=>(gN (g,h,i,aA .i64 (a+1),m,a3.2)).bind fun a4=>some (.done (.done a4.2))
def kZ (s:aSY):Option aSZ:=match s with |(a,b,d,e,f,g,h,i,j,k,l,m)=>bif decide (g<f) then (aN e g).bind fun a0=>(nH a0 (k,l,m) (i,j)).bind fun a1=>bif a1.1 then some (.next (a,b,d,e,f,aA .i64 (g+1),h,i,j,a0)) else some (.next (a,b,d,e,f,aA .i64 (g+1),(h,i,j,k,l,m))) else aJ iK (d,a,Int.ofNat a.length,0,oN h k b,i,j,k,l,m,[],[])
def lT (_:aJV->Option iH) (a:aJV):Option iH:=bif (Int.ofNat a.1.length)==0 then some a.2.2.2.2.2 else (aN a.1 0).bind fun a0=>(jL a.1 1 (Int.ofNat a.1.length)).bind fun l1=>aJ kZ (a.1,a.2.2.2.1,a.2.2.2.2.1,l1,Int.ofNat l1.length,0,a.2.2.2.2.2,a.2.1,a.2.2.1,a0)
def gX:Nat->aJV->Option iH |0,_=>none |n+1,a=>lT (gX n) a
def sM (a:aJV):Option iH:=gX 1000000 a
def aDX:eH:=⟨[.l [.i .i64,.i .i64,.i .i64],.i,.i,.i,.i,.l [.i .i64,(.i .i64)]],[.sl [.i .i64,.i .i64,.i .i64] [],.agg [.int .i64 0,.int .i64 0],.int .i64 0,.int .i64 0,.mp 0],[.tab (.i .i64) []],[.l [.i .i64,(.i .i64)]],.tup [],[.tab (.i .i64) []],fun a=>sM a⟩
theorem ON: ∀n,kC tab 110 ⟨[.l [.i .i64,.i .i64,.i .i64],.i,.i,.i,.i,.l [.i .i64,(.i .i64)]],[.sl [.i .i64,.i .i64,.i .i64] [],.agg [.int .i64 0,.int .i64 0],.int .i64 0,.int .i64 0,.mp 0],[.tab (.i .i64) []],[.l [.i .i64,(.i .i64)]],.tup [],[.tab (.i .i64) []],fun a=>gX n a⟩
 |0=>kC.zero (fun _=>rfl)
 |n+1=>kC.of aAF (wd:=true) (cx:=(pQ aG [(154,aRk)] [(110,⟨[.l [.i .i64,.i .i64,.i .i64],.i,.i,.i,.i,.l [.i .i64,(.i .i64)]],[.sl [.i .i64,.i .i64,.i .i64] [],.agg [.int .i64 0,.int .i64 0],.int .i64 0,.int .i64 0,.mp 0],[.tab (.i .i64) []],[.l [.i .i64,(.i .i64)]],.tup [],[.tab (.i .i64) []],fun a=>gX n a⟩),(110,YW)] [] [])) (mF.make ⟨aAZ,trivial⟩ ⟨(ON n),QZ,trivial⟩ trivial) (fun a=>by kernel_rfl)
theorem aCa:kC tab 110 aDX:=ON 1000000
def sN (s:aTa):Option (cC aTa ((List Int)×iH)):=bif decide (s.2.2.1<s.2.1) then (aN s.1 s.2.2.1).bind fun a0=>(bH s.2.2.2.2.1 [lR 0 s.2.2.2.1 a0.1]).bind fun l1=>bif decide (0<=(lR 0 s.2.2.2.1 a0.1)) then (bH s.2.2.2.2.2 [(a0.1,lR 0 s.2.2.2.1 a0.1)]).bind fun l2=>some (.next (s.1,s.2.1,aA .i64 (s.2.2.1+1),s.2.2.2.1,l1,l2)) else some (.next (s.1,s.2.1,aA .i64 (s.2.2.1+1),s.2.2.2.1,l1,s.2.2.2.2.2)) else some (.done s.2.2.2.2)
def lA (p0:Field) (p1:Int×Int):Option ((List Int)×iH):=(sM (p0.points,p1.1,p1.2,-1,0,[])).bind fun l0=>aJ sN (p0.points,Int.ofNat p0.points.length,0,l0,[],[])
def c57:bM:=⟨aC.cons (aH.agg bN) (aC.one (aH.agg (cD.row jH))),aH.tup (aC.cons (aH.sl ki) (aC.one (aH.sl jH))),fun a=>lA a.1 a.2,.frz,false⟩
theorem YX:aI tab 57 c57:=aI.of aQo (cx:=(pQ aG [] [(110,YW),(110,aDX)] [] [])) rfl (mF.make trivial ⟨QZ,aCa,trivial⟩ trivial) (fun a=>by kernel_rfl)
def lU (s:((List Int)×(List Int)×Int×Int)):Option (cC ((List Int)×(List Int)×Int×Int) Bool):=bif decide (s.2.2.2<s.2.2.1) then (aN s.1 s.2.2.2).bind fun n0=>(aN s.2.1 s.2.2.2).bind fun n1=>bif n0 !=n1 then some (.done false) else some (.next (s.1,s.2.1,s.2.2.1,aA .i64 (s.2.2.2+1))) else some (.done true)
def pS (p0:List Int) (p1:List Int):Option Bool:=bif (Int.ofNat p0.length) !=(Int.ofNat p1.length) then some false else aJ lU (p0,p1,Int.ofNat p0.length,0)
def c63:bM:=⟨aC.cons (aH.sl ki) (aC.one (aH.sl ki)),aH.bool,fun a=>pS a.1 a.2,.pure,false⟩
theorem aRl:aI tab 63 c63:=Oc aQt rfl aG [] trivial fun a=>by kernel_rfl
def lB (s:(iH×Int×Int×Int×Int)):Option (cC (iH×Int×Int×Int×Int) Int):=bif decide (s.2.2.1<s.2.1) then (aN s.1 s.2.2.1).bind fun a0=>bif (s.2.2.2.1==a0.1)&&(s.2.2.2.2==a0.2) then some (.done s.2.2.1) else some (.next (s.1,s.2.1,aA .i64 (s.2.2.1+1),s.2.2.2)) else some (.done (-1))
def sO (p0:List (Int×Int)) (p1:Int×Int):Option Int:=aJ lB (p0,Int.ofNat p0.length,0,p1)
def aTw:bM:=⟨aC.cons (aH.sl jH) (aC.one (aH.agg (cD.row jH))),aH.int .i64,fun a=>sO a.1 a.2,.pure,false⟩
theorem aKs:aI tab 117 aTw:=Oc aH2 rfl aG [] trivial fun a=>by kernel_rfl
def gA (p0:List (Int×Int)) (p1:Int×Int):Option Bool:=(sO p0 p1).bind fun n0=>some (decide (0<=n0))
def c64:bM:=⟨aC.cons (aH.sl jH) (aC.one (aH.agg (cD.row jH))),aH.bool,fun a=>gA a.1 a.2,.pure,false⟩
theorem YY:aI tab 64 c64:=Oc aQu rfl aG [(117,aTw)] ⟨aKs,trivial⟩ fun a=>by kernel_rfl
def nX (s:(iH×bT×Int×Int)):Option (cC (iH×bT×Int×Int) Int):=bif decide (s.2.2.2<s.2.2.1) then (aN s.2.1 s.2.2.2).bind fun a0=>(gA s.1 a0.2).bind fun b1=>bif !b1 then some (.done 8) else some (.next (s.1,s.2.1,s.2.2.1,aA .i64 (s.2.2.2+1))) else some (.done 0)
def nI (p0:aZ):Option Int:=(hH p0.clock).bind fun n0=>bif n0 !=0 then some 8 else (lA p0.clock.field p0.clock.now).bind fun a1=>(pS a1.1 p0.up).bind fun b2=>bif !b2 then some 8 else bif (Int.ofNat a1.2.length) !=(Int.ofNat p0.clock.certs.list.length) then some 8 else aJ nX (a1.2,p0.clock.certs.list,Int.ofNat p0.clock.certs.list.length,0)
def c19:bM:=⟨aC.one (aH.agg bU),aH.int .i64,fun a=>nI a,.pure,false⟩
theorem S3:aI tab 19 c19:=Oc aPY rfl aG [(62,c62),(57,c57),(63,c63),(64,c64)] ⟨KM,YX,aRl,YY,trivial⟩ fun a=>by kernel_rfl
def HD (p0:aQ):Option ((Int×Int×Int×Int×Int)×Int):=(kW p0).bind fun n0=>bif n0 !=0 then some ((0,0,0,0,0),n0) else bif (Int.ofNat p0.heap.length)==0 then some ((0,0,0,0,0),42) else (aN p0.heap 0).bind fun a1=>some (a1,0)
def aTy:bM:=⟨aC.one (aH.agg dB),aH.tup (aC.cons (aH.agg (cD.row kI)) (aC.one (aH.int .i64))),fun a=>HD a,.pure,false⟩
theorem aKt:aI tab 188 aTy:=Oc aIP rfl aG [(115,aB9)] ⟨I1,trivial⟩ fun a=>by kernel_rfl
def wD (p0:aP) (p1:Int×Int):Option (Bool×Int):=(hH p0).bind fun n0=>(gZ p1).bind fun n1=>bif (if n1>n0 then n1 else n0) !=0 then some (false,if n1>n0 then n1 else n0) else (tY p1 p0.now).bind fun a2=>bif decide (a2.1<0) then some (false,44) else (HD p0.agenda).bind fun a3=>bif a3.2 !=0 then some (false,0) else (tY (a3.1.1,a3.1.2.1) p1).bind fun a4=>some (decide (a4.1<=0),0)
def aRm:bM:=⟨aC.cons (aH.agg bL) (aC.one (aH.agg (cD.row jH))),aH.tup (aC.cons aH.bool (aC.one (aH.int .i64))),fun a=>wD a.1 a.2,.pure,false⟩
theorem aA0:aI tab 134 aRm:=Oc aIh rfl aG [(62,c62),(72,c72),(73,c73),(188,aTy)] ⟨KM,EO,YU,aKt,trivial⟩ fun a=>by kernel_rfl
def wE (p0:Int×Int×Int) (p1:Int):Option Int:=(fU p0.1 p1).bind fun n0=>some n0
def aTz:bM:=⟨aC.cons (aH.agg (cD.row dZ)) (aC.one (aH.int .i64)),aH.int .i64,fun a=>wE a.1 a.2,.pure,false⟩
theorem aKu:aI tab 267 aTz:=Oc aJE rfl aG [(144,YV)] ⟨FK,trivial⟩ fun a=>by kernel_rfl
def aS (s:SS):Option aJW:=bif decide (s.2.2.2.1<s.2.2.2.2) then (aN s.1 (aA .i64 (lG .u64 (aA .u64 (aA .i64 (s.2.2.2.1+s.2.2.2.2))) 1))).bind fun a0=>(wE a0 s.2.1).bind fun n1=>bif decide (n1<0) then some (.next (s.1,s.2.1,s.2.2.1,aA .i64 ((aA .i64 (lG .u64 (aA .u64 (aA .i64 (s.2.2.2.1+s.2.2.2.2))) 1))+1),s.2.2.2.2)) else some (.next (s.1,s.2.1,s.2.2.1,s.2.2.2.1,aA .i64 (lG .u64 (aA .u64 (aA .i64 (s.2.2.2.1+s.2.2.2.2))) 1))) else bif decide (s.2.2.2.1<s.2.2.1) then (aN s.1 s.2.2.2.1).bind fun a2=>(wE a2 s.2.1).bind fun n3=>some (.done (s.2.2.2.1,n3==0)) else some (.done (s.2.2.2.1,false))
def aT (p0:List (Int×Int×Int)) (p1:Int) (_:Unit):Option (Int×Bool):=aJ aS (p0,p1,Int.ofNat p0.length,0,Int.ofNat p0.length)
def VQ:bM:=⟨aC.cons (aH.sl dZ) (aC.cons (aH.int .i64) (aC.one (aH.clo 267 aC.nil))),aH.tup (aC.cons (aH.int .i64) (aC.one aH.bool)),fun a=>aT a.1 a.2.1 a.2.2,.pure,false⟩
theorem VS:aI tab 266 VQ:=Oc aJD rfl aG [(267,aTz)] ⟨aKu,trivial⟩ fun a=>by kernel_rfl
def KN (p0:bK) (p1:Int):Option (Int×Int):=(tV p0).bind fun n0=>bif n0 !=0 then some (0,n0) else (aT p0.list p1 ()).bind fun a1=>bif !a1.2 then some (0,6) else some (a1.1,0)
def aTA:bM:=⟨aC.cons (aH.agg hM) (aC.one (aH.int .i64)),aH.tup (aC.cons (aH.int .i64) (aC.one (aH.int .i64))),fun a=>KN a.1 a.2,.pure,false⟩
theorem aKv:aI tab 228 aTA:=Oc aJm rfl aG [(114,aJ7),(266,VQ)] ⟨SX,VS,trivial⟩ fun a=>by kernel_rfl
def cW (a:aB7):Option (Nat×Nat×bT):=bif (((decide (0<=a.1))&&(decide (a.1<=a.2.1)))&&(decide (a.2.1<=(Int.ofNat a.2.2.length))))&&(decide ((Int.ofNat a.2.2.length)<=(Int.ofNat a.2.2.length))) then bif a.1==a.2.1 then bif a.2.2.length==a.2.2.length then some (a.2.2.length,a.2.2.length,a.2.2) else none else (jL a.2.2 0 a.1).bind fun _=>bif ((decide (0<=a.2.1))&&(decide (a.2.1<=(Int.ofNat a.2.2.length))))&&(decide ((Int.ofNat a.2.2.length)<=(Int.ofNat a.2.2.length))) then bif ((a.2.2.drop (0+a.2.1.toNat)).take (((Int.ofNat a.2.2.length).toNat) -a.2.1.toNat)).isEmpty then bif ((decide (0<=(Int.ofNat a.1.toNat)))&&(decide ((Int.ofNat a.1.toNat)<=(Int.ofNat a.2.2.length))))&&(decide ((Int.ofNat a.2.2.length)<=(Int.ofNat a.2.2.length))) then bif Nat.beq (((Int.ofNat a.2.2.length).toNat) - ((Int.ofNat a.1.toNat).toNat)) 0 then bif a.2.2.length==a.2.2.length then some (a.1.toNat,a.2.2.length,a.2.2) else none else bif (Nat.ble ((0+((Int.ofNat a.1.toNat).toNat))+(((Int.ofNat a.2.2.length).toNat) - ((Int.ofNat a.1.toNat).toNat))) a.2.2.length)&&(!false) then bif ((nE a.2.2 (0+((Int.ofNat a.1.toNat).toNat)) (List.replicate (((Int.ofNat a.2.2.length).toNat) - ((Int.ofNat a.1.toNat).toNat)) (0,0,0))).length)==a.2.2.length then some (a.1.toNat,a.2.2.length,nE a.2.2 (0+((Int.ofNat a.1.toNat).toNat)) (List.replicate (((Int.ofNat a.2.2.length).toNat) - ((Int.ofNat a.1.toNat).toNat)) (0,0,0))) else none else none else none else bif Nat.ble (a.1.toNat+(((a.2.2.drop (0+a.2.1.toNat)).take (((Int.ofNat a.2.2.length).toNat) -a.2.1.toNat)).length)) a.2.2.length then bif (Nat.ble (a.1.toNat+(((a.2.2.drop (0+a.2.1.toNat)).take (((Int.ofNat a.2.2.length).toNat) -a.2.1.toNat)).length)) a.2.2.length)&&(!false) then bif ((decide (0<=(Int.ofNat (a.1.toNat+(((a.2.2.drop (0+a.2.1.toNat)).take (((Int.ofNat a.2.2.length).toNat) -a.2.1.toNat)).length)))))&&(decide ((Int.ofNat (a.1.toNat+(((a.2.2.drop (0+a.2.1.toNat)).take (((Int.ofNat a.2.2.length).toNat) -a.2.1.toNat)).length)))<=(Int.ofNat a.2.2.length))))&&(decide ((Int.ofNat a.2.2.length)<=(Int.ofNat a.2.2.length))) then bif Nat.beq (((Int.ofNat a.2.2.length).toNat) - ((Int.ofNat (a.1.toNat+(((a.2.2.drop (0+a.2.1.toNat)).take (((Int.ofNat a.2.2.length).toNat) -a.2.1.toNat)).length))).toNat)) 0 then bif ((nE a.2.2 a.1.toNat ((a.2.2.drop (0+a.2.1.toNat)).take (((Int.ofNat a.2.2.length).toNat) -a.2.1.toNat))).length)==a.2.2.length then some (a.1.toNat+(((a.2.2.drop (0+a.2.1.toNat)).take (((Int.ofNat a.2.2.length).toNat) -a.2.1.toNat)).length),a.2.2.length,nE a.2.2 a.1.toNat ((a.2.2.drop (0+a.2.1.toNat)).take (((Int.ofNat a.2.2.length).toNat) -a.2.1.toNat))) else none else bif (Nat.ble ((0+((Int.ofNat (a.1.toNat+(((a.2.2.drop (0+a.2.1.toNat)).take (((Int.ofNat a.2.2.length).toNat) -a.2.1.toNat)).length))).toNat))+(((Int.ofNat a.2.2.length).toNat) - ((Int.ofNat (a.1.toNat+(((a.2.2.drop (0+a.2.1.toNat)).take (((Int.ofNat a.2.2.length).toNat) -a.2.1.toNat)).length))).toNat))) ((nE a.2.2 a.1.toNat ((a.2.2.drop (0+a.2.1.toNat)).take (((Int.ofNat a.2.2.length).toNat) -a.2.1.toNat))).length))&&(!false) then bif ((nE (nE a.2.2 a.1.toNat ((a.2.2.drop (0+a.2.1.toNat)).take (((Int.ofNat a.2.2.length).toNat) -a.2.1.toNat))) (0+((Int.ofNat (a.1.toNat+(((a.2.2.drop (0+a.2.1.toNat)).take (((Int.ofNat a.2.2.length).toNat) -a.2.1.toNat)).length))).toNat)) (List.replicate (((Int.ofNat a.2.2.length).toNat) - ((Int.ofNat (a.1.toNat+(((a.2.2.drop (0+a.2.1.toNat)).take (((Int.ofNat a.2.2.length).toNat) -a.2.1.toNat)).length))).toNat)) (0,0,0))).length)==a.2.2.length then some (a.1.toNat+(((a.2.2.drop (0+a.2.1.toNat)).take (((Int.ofNat a.2.2.length).toNat) -a.2.1.toNat)).length),a.2.2.length,nE (nE a.2.2 a.1.toNat ((a.2.2.drop (0+a.2.1.toNat)).take (((Int.ofNat a.2.2.length).toNat) -a.2.1.toNat))) (0+((Int.ofNat (a.1.toNat+(((a.2.2.drop (0+a.2.1.toNat)).take (((Int.ofNat a.2.2.length).toNat) -a.2.1.toNat)).length))).toNat)) (List.replicate (((Int.ofNat a.2.2.length).toNat) - ((Int.ofNat (a.1.toNat+(((a.2.2.drop (0+a.2.1.toNat)).take (((Int.ofNat a.2.2.length).toNat) -a.2.1.toNat)).length))).toNat)) (0,0,0))) else none else none else none else none else none else none else none
def aDY:eH:=⟨[.i,.i,.l [.i .i64,.i .i64,.i .i64]],[.own 0 false,.int .i64 0,.int .i64 0],[.arr [.i .i64,.i .i64,.i .i64] []],[.n,.n,.l [.i .i64,.i .i64,.i .i64]],.pre 0 0 0 false,[.arr [.i .i64,.i .i64,.i .i64] []],fun a=>cW a⟩
theorem aCb:kC tab 229 aDY:=kC.of aJn (wd:=true) (cx:=(pQ aG [] [] [] [])) (mF.make trivial trivial trivial) (fun a=>by kernel_rfl)
def zR (p0:bK) (p1:Int):Option (bK×(Int×Int)×Int):=(KN p0 p1).bind fun a0=>bif a0.2 !=0 then some (bK.mk 0 [],(0,0),a0.2) else (bX p0.list).bind fun l1=>(cW (a0.1,aA .i64 (a0.1+1),l1)).bind fun a2=>(aN p0.list a0.1).bind fun a3=>some (bK.mk p0.next_ (a2.2.2.take a2.1),a3.2,0)
def aTB:bM:=⟨aC.cons (aH.agg hM) (aC.one (aH.int .i64)),aH.tup (aC.cons (aH.agg hM) (aC.cons (aH.agg (cD.row jH)) (aC.one (aH.int .i64)))),fun a=>zR a.1 a.2,.frz,false⟩
theorem aKw:aI tab 189 aTB:=aI.of aIQ (cx:=(pQ aG [(228,aTA),(193,bM.clone dZ)] [(229,aDY)] [] [])) rfl (mF.make ⟨aKv,BL,trivial⟩ ⟨aCb,trivial⟩ trivial) (fun a=>by kernel_rfl)
def lH (p0:aP):Option aP:=(bX p0.field.points).bind fun l0=>(bX p0.certs.list).bind fun l1=>(bX p0.due).bind fun l2=>(bX p0.agenda.heap).bind fun l3=>(bX p0.agenda.where_).bind fun l4=>(bX p0.agenda.slots.uses).bind fun l5=>(bX p0.agenda.slots.used).bind fun l6=>(bX p0.agenda.slots.free).bind fun l7=>some (aP.mk p0.now (Field.mk l0) (bK.mk p0.certs.next_ l1) (aQ.mk (bA.mk l5 l6 l7) l3 l4) l2)
def aDZ:bM:=⟨aC.one (aH.agg bL),aH.agg bL,fun a=>lH a,.own,true⟩
def VT:bM:=⟨aC.one (aH.agg bL),aH.agg bL,fun a=>lH a,.frz,false⟩
theorem MK:aI tab 136 aDZ:=Oc aAI rfl aG [(89,bM.clone dZ),(193,bM.clone dZ),(194,bM.clone dZ),(195,bM.clone kI),(196,bM.clone ki),(197,bM.clone kb)] ⟨zQ,BL,IW,yG,sJ,yF,trivial⟩ fun a=>by kernel_rfl
theorem I2:aI tab 136 VT:=Oc aAI rfl aG [(89,bM.clone dZ),(193,bM.clone dZ),(194,bM.clone dZ),(195,bM.clone kI),(196,bM.clone ki),(197,bM.clone kb)] ⟨zQ,BL,IW,yG,sJ,yF,trivial⟩ fun a=>by kernel_rfl
def AT (p0:Int×Int×Int) (p1:Int):Option Int:=(fU p0.1 p1).bind fun n0=>some n0
def aTC:bM:=⟨aC.cons (aH.agg (cD.row dZ)) (aC.one (aH.int .i64)),aH.int .i64,fun a=>AT a.1 a.2,.pure,false⟩
theorem aKx:aI tab 231 aTC:=Oc aJp rfl aG [(144,YV)] ⟨FK,trivial⟩ fun a=>by kernel_rfl
def kD (s:SS):Option aJW:=bif decide (s.2.2.2.1<s.2.2.2.2) then (aN s.1 (aA .i64 (lG .u64 (aA .u64 (aA .i64 (s.2.2.2.1+s.2.2.2.2))) 1))).bind fun a0=>(AT a0 s.2.1).bind fun n1=>bif decide (n1<0) then some (.next (s.1,s.2.1,s.2.2.1,aA .i64 ((aA .i64 (lG .u64 (aA .u64 (aA .i64 (s.2.2.2.1+s.2.2.2.2))) 1))+1),s.2.2.2.2)) else some (.next (s.1,s.2.1,s.2.2.1,s.2.2.2.1,aA .i64 (lG .u64 (aA .u64 (aA .i64 (s.2.2.2.1+s.2.2.2.2))) 1))) else bif decide (s.2.2.2.1<s.2.2.1) then (aN s.1 s.2.2.2.1).bind fun a2=>(AT a2 s.2.1).bind fun n3=>some (.done (s.2.2.2.1,n3==0)) else some (.done (s.2.2.2.1,false))
def dD (p0:List (Int×Int×Int)) (p1:Int) (_:Unit):Option (Int×Bool):=aJ kD (p0,p1,Int.ofNat p0.length,0,Int.ofNat p0.length)
def VU:bM:=⟨aC.cons (aH.sl dZ) (aC.cons (aH.int .i64) (aC.one (aH.clo 231 aC.nil))),aH.tup (aC.cons (aH.int .i64) (aC.one aH.bool)),fun a=>dD a.1 a.2.1 a.2.2,.pure,false⟩
theorem VV:aI tab 230 VU:=Oc aJo rfl aG [(231,aTC)] ⟨aKx,trivial⟩ fun a=>by kernel_rfl
def rQ (p0:List (Int×Int×Int)) (p1:Int):Option (Int×Bool):=(dD p0 p1 ()).bind fun a0=>some a0
def aRn:bM:=⟨aC.cons (aH.sl dZ) (aC.one (aH.int .i64)),aH.tup (aC.cons (aH.int .i64) (aC.one aH.bool)),fun a=>rQ a.1 a.2,.pure,false⟩
theorem aA1:aI tab 190 aRn:=Oc aIR rfl aG [(230,VU)] ⟨VV,trivial⟩ fun a=>by kernel_rfl
def ES (p0:bA) (p1:Int×Int):Option (Bool×Int):=(tX p0).bind fun n0=>bif n0 !=0 then some (false,n0) else bif decide (0<=p1.1) then bif decide (p1.1<(Int.ofNat p0.used.length)) then (aN p0.used p1.1).bind fun b1=>bif b1 then (aN p0.uses p1.1).bind fun n2=>some (n2==p1.2,0) else some (false,0) else some (false,0) else some (false,0)
def aRo:bM:=⟨aC.cons (aH.agg hJ) (aC.one (aH.agg (cD.row jH))),aH.tup (aC.cons aH.bool (aC.one (aH.int .i64))),fun a=>ES a.1 a.2,.pure,false⟩
theorem aA2:aI tab 268 aRo:=Oc aJF rfl aG [(175,aKa)] ⟨SY,trivial⟩ fun a=>by kernel_rfl
def sP (p0:aQ) (p1:Int×Int):Option (Int×Int):=(kW p0).bind fun n0=>bif n0 !=0 then some (0,n0) else (ES p0.slots p1).bind fun a1=>bif a1.2 !=0 then some (0,6) else bif !a1.1 then some (0,6) else (aN p0.where_ p1.1).bind fun n2=>some (n2,0)
def aRp:bM:=⟨aC.cons (aH.agg dB) (aC.one (aH.agg (cD.row jH))),aH.tup (aC.cons (aH.int .i64) (aC.one (aH.int .i64))),fun a=>sP a.1 a.2,.pure,false⟩
theorem aA3:aI tab 232 aRp:=Oc aJq rfl aG [(115,aB9),(268,aRo)] ⟨I1,aA2,trivial⟩ fun a=>by kernel_rfl
def wT (p0:List Int) (p1:Int):Option (List Int):=(bX p0).bind fun l0=>(bH l0 [p1]).bind fun l1=>some l1
def aTD:bM:=⟨aC.cons (aH.sl ki) (aC.one (aH.int .i64)),aH.sl ki,fun a=>wT a.1 a.2,.frz,false⟩
theorem aKy:aI tab 287 aTD:=Oc aJN rfl aG [(293,bM.clone ki)] ⟨VJ,trivial⟩ fun a=>by kernel_rfl
def FL (p0:bA) (p1:Int×Int):Option (bA×Int):=(ES p0 p1).bind fun a0=>bif a0.2 !=0 then some (bA.mk [] [] [],a0.2) else bif !a0.1 then some (bA.mk [] [] [],6) else (bX p0.uses).bind fun l1=>(bX p0.used).bind fun l2=>(wT p0.free p1.1).bind fun l3=>(aN l2 p1.1).bind fun _=>some (bA.mk l1 (cP l2 p1.1 false) l3,0)
def aTE:bM:=⟨aC.cons (aH.agg hJ) (aC.one (aH.agg (cD.row jH))),aH.tup (aC.cons (aH.agg hJ) (aC.one (aH.int .i64))),fun a=>FL a.1 a.2,.frz,false⟩
theorem aKz:aI tab 269 aTE:=aI.of aJG (cx:=(pQ aG [(268,aRo),(196,bM.clone ki),(197,bM.clone kb),(287,aTD)] [] [(286,aDL)] [])) rfl (mF.make ⟨aA2,sJ,yF,aKy,trivial⟩ trivial ⟨aAQ,trivial⟩) (fun a=>by kernel_rfl)
def bY (a:aJR):Option PZ:=(aN (a.2.2.2.2.2.2.2.2.2.2.2.1.take a.2.2.2.1) a.2.2.2.2.2.1).bind fun _=>(aN a.2.2.2.2.2.2.2.2.2.2.2.2 a.2.2.2.2.2.2.2.2.2.1).bind fun _=>bif ((cP a.2.2.2.2.2.2.2.2.2.2.2.1 a.2.2.2.2.2.1 (a.2.2.2.2.2.2.1,a.2.2.2.2.2.2.2.1,a.2.2.2.2.2.2.2.2.1,a.2.2.2.2.2.2.2.2.2.1,a.2.2.2.2.2.2.2.2.2.2.1)).length)==a.2.2.2.2.2.2.2.2.2.2.2.1.length then bif ((cP a.2.2.2.2.2.2.2.2.2.2.2.2 a.2.2.2.2.2.2.2.2.2.1 a.2.2.2.2.2.1).length)==a.2.2.2.2.2.2.2.2.2.2.2.2.length then some (cP a.2.2.2.2.2.2.2.2.2.2.2.1 a.2.2.2.2.2.1 (a.2.2.2.2.2.2.1,a.2.2.2.2.2.2.2.1,a.2.2.2.2.2.2.2.2.1,a.2.2.2.2.2.2.2.2.2.1,a.2.2.2.2.2.2.2.2.2.2.1),cP a.2.2.2.2.2.2.2.2.2.2.2.2 a.2.2.2.2.2.2.2.2.2.1 a.2.2.2.2.2.1) else none else none
def YZ:eH:=⟨[.l [.i .i64],.l [.b],.l [.i .i64],.n,.n,.i,.i,.i,.i,.i,.i,.l [.i .i64,.i .i64,.i .i64,.i .i64,.i .i64],.l [.i .i64]],[.agg [.sl [.i .i64] [],.sl [.b] [],.sl [.i .i64] [],.pre 0 0 0 false,.own 1 false],.int .i64 0,.agg [.int .i64 0,.int .i64 0,.int .i64 0,.int .i64 0,.int .i64 0]],[.arr [.i .i64,.i .i64,.i .i64,.i .i64,.i .i64] [],.arr [.i .i64] []],[.l [.i .i64,.i .i64,.i .i64,.i .i64,.i .i64],.l [.i .i64]],.tup [],[.arr [.i .i64,.i .i64,.i .i64,.i .i64,.i .i64] [],.arr [.i .i64] []],fun a=>bY a⟩
theorem Q0:kC tab 288 YZ:=kC.of aAR (wd:=false) (cx:=(pQ aG [] [] [] [])) (mF.make trivial trivial trivial) (fun a=>by kernel_rfl)
def gO (c0:aJR) (s:aS2):Option (cC aS2 aSS):=match s with |(a,b,d,e,f,g,h,i,j,k,l,m,n,o)=>bif decide (b<(Int.ofNat i)) then bif decide ((aA .i64 (b+1))<(Int.ofNat i)) then (aN (d.take i) (aA .i64 (b+1))).bind fun a0=>(aN (d.take i) b).bind fun a1=>(cH a0 a1).bind fun n2=>bif decide (n2<0) then (aN (d.take i) (aA .i64 (b+1))).bind fun a3=>(cH a3 (k,l,m,n,o)).bind fun n4=>bif decide (0<=n4) then (bY (f,g,h,i,j,a,k,l,m,n,o,d,e)).bind fun a5=>bif a5.1.length==c0.2.2.2.2.2.2.2.2.2.2.2.1.length then bif a5.2.length==c0.2.2.2.2.2.2.2.2.2.2.2.2.length then some (.done (.done a5)) else none else none else (aN (d.take i) (aA .i64 (b+1))).bind fun a6=>(bY (f,g,h,i,j,a,a6.1,a6.2.1,a6.2.2.1,a6.2.2.2.1,a6.2.2.2.2,d,e)).bind fun a7=>some (.next (aA .i64 (b+1),aA .i64 ((aA .i64 (2*(aA .i64 (b+1))))+1),a7.1,a7.2,(f,g,h,i,j,k,l,m,n,o))) else (aN (d.take i) b).bind fun a8=>(cH a8 (k,l,m,n,o)).bind fun n9=>bif decide (0<=n9) then (bY (f,g,h,i,j,a,k,l,m,n,o,d,e)).bind fun a10=>bif a10.1.length==c0.2.2.2.2.2.2.2.2.2.2.2.1.length then bif a10.2.length==c0.2.2.2.2.2.2.2.2.2.2.2.2.length then some (.done (.done a10)) else none else none else (aN (d.take i) b).bind fun a11=>(bY (f,g,h,i,j,a,a11.1,a11.2.1,a11.2.2.1,a11.2.2.2.1,a11.2.2.2.2,d,e)).bind fun a12=>some (.next (b,aA .i64 ((aA .i64 (2*b))+1),a12.1,a12.2,(f,g,h,i,j,k,l,m,n,o))) else (aN (d.take i) b).bind fun a13=>(cH a13 (k,l,m,n,o)).bind fun n14=>bif decide (0<=n14) then (bY (f,g,h,i,j,a,k,l,m,n,o,d,e)).bind fun a15=>bif a15.1.length==c0.2.2.2.2.2.2.2.2.2.2.2.1.length then bif a15.2.length==c0.2.2.2.2.2.2.2.2.2.2.2.2.length then some (.done (.done a15)) else none else none else (aN (d.take i) b).bind fun a16=>(bY (f,g,h,i,j,a,a16.1,a16.2.1,a16.2.2.1,a16.2.2.2.1,a16.2.2.2.2,d,e)).bind fun a17=>some (.next (b,aA .i64 ((aA .i64 (2*b))+1),a17.1,a17.2,(f,g,h,i,j,k,l,m,n,o))) else (bY (f,g,h,i,j,a,k,l,m,n,o,d,e)).bind fun a18=>bif a18.1.length==c0.2.2.2.2.2.2.2.2.2.2.2.1.length then bif a18.2.length==c0.2.2.2.2.2.2.2.2.2.2.2.2.length then some (.done (.done a18)) else none else none
def eZ (c0:aJR) (s:aSR):Option aSS:=bif decide (0<s.1) then (aN (s.2.1.take s.2.2.2.2.2.2.1) (aA .i64 (Int.tdiv (aA .i64 (s.1-1)) 2))).bind fun a0=>(cH s.2.2.2.2.2.2.2.2 a0).bind fun n1=>bif decide (n1<0) then (aN (s.2.1.take s.2.2.2.2.2.2.1) (aA .i64 (Int.tdiv (aA .i64 (s.1-1)) 2))).bind fun a2=>(bY (s.2.2.2.1,s.2.2.2.2.1,s.2.2.2.2.2.1,s.2.2.2.2.2.2.1,s.2.2.2.2.2.2.2.1,s.1,a2.1,a2.2.1,a2.2.2.1,a2.2.2.2.1,a2.2.2.2.2,s.2.1,s.2.2.1)).bind fun a3=>some (.next (aA .i64 (Int.tdiv (aA .i64 (s.1-1)) 2),a3.1,a3.2,s.2.2.2)) else aJ (gO c0) (s.1,aA .i64 ((aA .i64 (2*s.1))+1),s.2) else aJ (gO c0) (s.1,aA .i64 ((aA .i64 (2*s.1))+1),s.2)
def lV (a:aJR):Option PZ:=aJ (eZ a) (a.2.2.2.2.2.1,a.2.2.2.2.2.2.2.2.2.2.2.1,a.2.2.2.2.2.2.2.2.2.2.2.2,a.1,a.2.1,a.2.2.1,a.2.2.2.1,a.2.2.2.2.1,a.2.2.2.2.2.2.1,a.2.2.2.2.2.2.2.1,a.2.2.2.2.2.2.2.2.1,a.2.2.2.2.2.2.2.2.2.1,a.2.2.2.2.2.2.2.2.2.2.1)
def S4:eH:=⟨[.l [.i .i64],.l [.b],.l [.i .i64],.n,.n,.i,.i,.i,.i,.i,.i,.l [.i .i64,.i .i64,.i .i64,.i .i64,.i .i64],.l [.i .i64]],[.agg [.sl [.i .i64] [],.sl [.b] [],.sl [.i .i64] [],.pre 0 0 0 false,.own 1 false],.int .i64 0,.agg [.int .i64 0,.int .i64 0,.int .i64 0,.int .i64 0,.int .i64 0]],[.arr [.i .i64,.i .i64,.i .i64,.i .i64,.i .i64] [],.arr [.i .i64] []],[.l [.i .i64,.i .i64,.i .i64,.i .i64,.i .i64],.l [.i .i64]],.tup [],[.arr [.i .i64,.i .i64,.i .i64,.i .i64,.i .i64] [],.arr [.i .i64] []],fun a=>lV a⟩
theorem KO:kC tab 271 S4:=kC.of aAP (wd:=false) (cx:=(pQ aG [(176,aKi)] [(288,YZ)] [] [])) (mF.make ⟨SZ,trivial⟩ ⟨Q0,trivial⟩ trivial) (fun a=>by kernel_rfl)
def uX (p0:aQ) (p1:Int):Option (aQ×(Int×Int×Int×Int×Int)×Int):=(aN p0.heap p1).bind fun a0=>(FL p0.slots a0.2.2.2).bind fun a1=>bif a1.2 !=0 then some (aQ.mk (bA.mk [] [] []) [] [],(0,0,0,0,0),a1.2) else (bX p0.heap).bind fun l2=>(bX p0.where_).bind fun l3=>(aN l2 (aA .i64 ((Int.ofNat l2.length) -1))).bind fun a4=>(jL l2 0 (aA .i64 ((Int.ofNat l2.length) -1))).bind fun _=>(aN l3 a0.2.2.2.1).bind fun _=>bif decide (p1<(aA .i64 ((Int.ofNat l2.length) -1))) then (lV (a1.1.uses,a1.1.used,a1.1.free,(aA .i64 ((Int.ofNat l2.length) -1)).toNat,l2.length,p1,a4.1,a4.2.1,a4.2.2.1,a4.2.2.2.1,a4.2.2.2.2,l2,cP l3 a0.2.2.2.1 (-1))).bind fun a7=>some (aQ.mk a1.1 (a7.1.take ((aA .i64 ((Int.ofNat l2.length) -1)).toNat)) a7.2,a0,0) else some (aQ.mk a1.1 (l2.take ((aA .i64 ((Int.ofNat l2.length) -1)).toNat)) (cP l3 a0.2.2.2.1 (-1)),a0,0)
def aTF:bM:=⟨aC.cons (aH.agg dB) (aC.one (aH.int .i64)),aH.tup (aC.cons (aH.agg dB) (aC.cons (aH.agg (cD.row kI)) (aC.one (aH.int .i64)))),fun a=>uX a.1 a.2,.frz,false⟩
theorem aKA:aI tab 233 aTF:=aI.of aJr (cx:=(pQ aG [(269,aTE),(195,bM.clone kI),(196,bM.clone ki)] [(271,S4)] [(270,aB4)] [])) rfl (mF.make ⟨aKz,yG,sJ,trivial⟩ ⟨KO,trivial⟩ ⟨SQ,trivial⟩) (fun a=>by kernel_rfl)
def oF (p0:aQ) (p1:Int×Int):Option (aQ×(Int×Int×Int×Int×Int)×Int):=(sP p0 p1).bind fun a0=>bif a0.2 !=0 then some (aQ.mk (bA.mk [] [] []) [] [],(0,0,0,0,0),a0.2) else (uX p0 a0.1).bind fun a1=>some a1
def aRq:bM:=⟨aC.cons (aH.agg dB) (aC.one (aH.agg (cD.row jH))),aH.tup (aC.cons (aH.agg dB) (aC.cons (aH.agg (cD.row kI)) (aC.one (aH.int .i64)))),fun a=>oF a.1 a.2,.frz,false⟩
theorem aA4:aI tab 191 aRq:=Oc aIS rfl aG [(232,aRp),(233,aTF)] ⟨aA3,aKA,trivial⟩ fun a=>by kernel_rfl
def nJ (a:aB7):Option (Nat×Nat×bT):= cW a
def aD0:eH:=⟨[.i,.i,.l [.i .i64,.i .i64,.i .i64]],[.own 0 false,.int .i64 0,.int .i64 0],[.arr [.i .i64,.i .i64,.i .i64] []],[.n,.n,.l [.i .i64,.i .i64,.i .i64]],.pre 0 0 0 false,[.arr [.i .i64,.i .i64,.i .i64] []],fun a=>nJ a⟩
theorem aCc:kC tab 192 aD0:=kC.of aIT (wd:=true) (cx:=(pQ aG [] [] [] [])) (mF.make trivial trivial trivial) (fun a=>by kernel_rfl)
def nK (p0:aP) (p1:Int):Option (aP×(Int×Int)×Int):=(zR p0.certs p1).bind fun a0=>bif a0.2.2 !=0 then some (eY,a0.2) else (lH p0).bind fun r1=>(rQ p0.due p1).bind fun a2=>bif a2.2 then (aN p0.due a2.1).bind fun a3=>(oF p0.agenda a3.2).bind fun a4=>bif a4.2.2 !=0 then some (eY,a0.2.1,a4.2.2) else (nJ (a2.1,aA .i64 (a2.1+1),r1.due)).bind fun a5=>some (aP.mk r1.now r1.field a0.1 a4.1 (a5.2.2.take a5.1),a0.2.1,0) else some (aP.mk r1.now r1.field a0.1 r1.agenda r1.due,a0.2.1,0)
def aRr:bM:=⟨aC.cons (aH.agg bL) (aC.one (aH.int .i64)),aH.tup (aC.cons (aH.agg bL) (aC.cons (aH.agg (cD.row jH)) (aC.one (aH.int .i64)))),fun a=>nK a.1 a.2,.frz,false⟩
theorem aA5:aI tab 135 aRr:=aI.of aIi (cx:=(pQ aG [(189,aTB),(136,aDZ),(136,VT),(190,aRn),(191,aRq)] [(192,aD0)] [] [])) rfl (mF.make ⟨aKw,MK,I2,aA1,aA4,trivial⟩ ⟨aCc,trivial⟩ trivial) (fun a=>by kernel_rfl)
def uB (p0:aP) (p1:Int×Int):Option (aP×(Int×Int×Int×Int×Int)×(Int×Int)×Int):=(wD p0 p1).bind fun a0=>bif a0.2==0 then bif !a0.1 then some (eY,(0,0,0,0,0),(0,0),6) else bif a0.2 !=0 then some (eY,(0,0,0,0,0),(0,0),a0.2) else (aN p0.agenda.heap 0).bind fun a1=>(nK p0 a1.2.2.1).bind fun a2=>bif a2.2.2 !=0 then some (eY,(0,0,0,0,0),(0,0),a2.2.2) else some (aP.mk (a1.1,a1.2.1) a2.1.field a2.1.certs a2.1.agenda a2.1.due,a1,a2.2.1,0) else bif a0.2 !=0 then some (eY,(0,0,0,0,0),(0,0),a0.2) else (aN p0.agenda.heap 0).bind fun a3=>(nK p0 a3.2.2.1).bind fun a4=>bif a4.2.2 !=0 then some (eY,(0,0,0,0,0),(0,0),a4.2.2) else some (aP.mk (a3.1,a3.2.1) a4.1.field a4.1.certs a4.1.agenda a4.1.due,a3,a4.2.1,0)
def c74:bM:=⟨aC.cons (aH.agg bL) (aC.one (aH.agg (cD.row jH))),aH.tup (aC.cons (aH.agg bL) (aC.cons (aH.agg (cD.row kI)) (aC.cons (aH.agg (cD.row jH)) (aC.one (aH.int .i64))))),fun a=>uB a.1 a.2,.frz,false⟩
theorem aRs:aI tab 74 c74:=Oc aQD rfl aG [(134,aRm),(135,aRr)] ⟨aA0,aA5,trivial⟩ fun a=>by kernel_rfl
def CR (p0:Int×Int×Int) (p1:Int):Option Int:=(fU p0.1 p1).bind fun n0=>some n0
def aTG:bM:=⟨aC.cons (aH.agg (cD.row dZ)) (aC.one (aH.int .i64)),aH.int .i64,fun a=>CR a.1 a.2,.pure,false⟩
theorem aKB:aI tab 143 aTG:=Oc aIo rfl aG [(144,YV)] ⟨FK,trivial⟩ fun a=>by kernel_rfl
def jY (s:SS):Option aJW:=bif decide (s.2.2.2.1<s.2.2.2.2) then (aN s.1 (aA .i64 (lG .u64 (aA .u64 (aA .i64 (s.2.2.2.1+s.2.2.2.2))) 1))).bind fun a0=>(CR a0 s.2.1).bind fun n1=>bif decide (n1<0) then some (.next (s.1,s.2.1,s.2.2.1,aA .i64 ((aA .i64 (lG .u64 (aA .u64 (aA .i64 (s.2.2.2.1+s.2.2.2.2))) 1))+1),s.2.2.2.2)) else some (.next (s.1,s.2.1,s.2.2.1,s.2.2.2.1,aA .i64 (lG .u64 (aA .u64 (aA .i64 (s.2.2.2.1+s.2.2.2.2))) 1))) else bif decide (s.2.2.2.1<s.2.2.1) then (aN s.1 s.2.2.2.1).bind fun a2=>(CR a2 s.2.1).bind fun n3=>some (.done (s.2.2.2.1,n3==0)) else some (.done (s.2.2.2.1,false))
def dC (p0:List (Int×Int×Int)) (p1:Int) (_:Unit):Option (Int×Bool):=aJ jY (p0,p1,Int.ofNat p0.length,0,Int.ofNat p0.length)
def VW:bM:=⟨aC.cons (aH.sl dZ) (aC.cons (aH.int .i64) (aC.one (aH.clo 143 aC.nil))),aH.tup (aC.cons (aH.int .i64) (aC.one aH.bool)),fun a=>dC a.1 a.2.1 a.2.2,.pure,false⟩
theorem VX:aI tab 142 VW:=Oc aAJ rfl aG [(143,aTG)] ⟨aKB,trivial⟩ fun a=>by kernel_rfl
def lI (p0:Field) (p1:Int):Option (Int×Bool):=(dC p0.points p1 ()).bind fun a0=>some a0
def c87:bM:=⟨aC.cons (aH.agg bN) (aC.one (aH.int .i64)),aH.tup (aC.cons (aH.int .i64) (aC.one aH.bool)),fun a=>lI a.1 a.2,.pure,false⟩
theorem aD1:aI tab 87 c87:=Oc aQP rfl aG [(142,VW)] ⟨VX,trivial⟩ fun a=>by kernel_rfl
def lC (p0:Field) (p1:Int):Option (Int×Int):=(eI p0).bind fun n0=>bif n0 !=0 then some (0,n0) else (lI p0 p1).bind fun a1=>bif !a1.2 then some (0,6) else some (a1.1,0)
def c90:bM:=⟨aC.cons (aH.agg bN) (aC.one (aH.int .i64)),aH.tup (aC.cons (aH.int .i64) (aC.one (aH.int .i64))),fun a=>lC a.1 a.2,.pure,false⟩
theorem Y0:aI tab 90 c90:=Oc aQS rfl aG [(85,c85),(87,c87)] ⟨KL,aD1,trivial⟩ fun a=>by kernel_rfl
def yK (p0:Field) (p1:Int):Option ((Int×Int×Int)×Int):=(lC p0 p1).bind fun a0=>bif a0.2 !=0 then some ((0,0,0),a0.2) else (aN p0.points a0.1).bind fun a1=>some (a1,0)
def aTH:bM:=⟨aC.cons (aH.agg bN) (aC.one (aH.int .i64)),aH.tup (aC.cons (aH.agg (cD.row dZ)) (aC.one (aH.int .i64))),fun a=>yK a.1 a.2,.pure,false⟩
theorem aKC:aI tab 166 aTH:=Oc aIw rfl aG [(90,c90)] ⟨Y0,trivial⟩ fun a=>by kernel_rfl
def yL (p0:aP):Option aP:=(bX p0.field.points).bind fun l0=>(bX p0.certs.list).bind fun l1=>(bX p0.due).bind fun l2=>(bX p0.agenda.heap).bind fun l3=>(bX p0.agenda.where_).bind fun l4=>(bX p0.agenda.slots.uses).bind fun l5=>(bX p0.agenda.slots.used).bind fun l6=>(bX p0.agenda.slots.free).bind fun l7=>some (aP.mk p0.now (Field.mk l0) (bK.mk p0.certs.next_ l1) (aQ.mk (bA.mk l5 l6 l7) l3 l4) l2)
def aTI:bM:=⟨aC.one (aH.agg bL),aH.agg bL,fun a=>yL a,.own,true⟩
def aMh:bM:=⟨aC.one (aH.agg bL),aH.agg bL,fun a=>yL a,.frz,false⟩
theorem aKD:aI tab 168 aTI:=Oc aAL rfl aG [(89,bM.clone dZ),(193,bM.clone dZ),(194,bM.clone dZ),(195,bM.clone kI),(196,bM.clone ki),(197,bM.clone kb)] ⟨zQ,BL,IW,yG,sJ,yF,trivial⟩ fun a=>by kernel_rfl
theorem aD2:aI tab 168 aMh:=Oc aAL rfl aG [(89,bM.clone dZ),(193,bM.clone dZ),(194,bM.clone dZ),(195,bM.clone kI),(196,bM.clone ki),(197,bM.clone kb)] ⟨zQ,BL,IW,yG,sJ,yF,trivial⟩ fun a=>by kernel_rfl
def xI (p0:aP) (p1:Int):Option (aP×Int):=(hH p0).bind fun n0=>bif n0 !=0 then some (eY,n0) else (nK p0 p1).bind fun a1=>some (a1.1,a1.2.2)
def aTJ:bM:=⟨aC.cons (aH.agg bL) (aC.one (aH.int .i64)),aH.tup (aC.cons (aH.agg bL) (aC.one (aH.int .i64))),fun a=>xI a.1 a.2,.frz,false⟩
theorem aKE:aI tab 211 aTJ:=Oc aI6 rfl aG [(62,c62),(135,aRr)] ⟨KM,aA5,trivial⟩ fun a=>by kernel_rfl
def kB (s:(bT×bT×Int×Int)):Option (cC (bT×bT×Int×Int) Bool):=bif decide (s.2.2.2<s.2.2.1) then (aN s.1 s.2.2.2).bind fun a0=>(aN s.2.1 s.2.2.2).bind fun a1=>bif !((a0.1==a1.1)&&((a0.2.1==a1.2.1)&&(a0.2.2==a1.2.2))) then some (.done false) else some (.next (s.1,s.2.1,s.2.2.1,aA .i64 (s.2.2.2+1))) else some (.done true)
def nL (p0:List (Int×Int×Int)) (p1:List (Int×Int×Int)):Option Bool:=bif (Int.ofNat p0.length) !=(Int.ofNat p1.length) then some false else aJ kB (p0,p1,Int.ofNat p0.length,0)
def aTK:bM:=⟨aC.cons (aH.sl dZ) (aC.one (aH.sl dZ)),aH.bool,fun a=>nL a.1 a.2,.pure,false⟩
theorem aKF:aI tab 212 aTK:=Oc aI7 rfl aG [] trivial fun a=>by kernel_rfl
def bZ (a:aJS):Option PZ:=(aN a.2.2.2.2.2.2.2.2.2.1 a.2.2.2.1).bind fun _=>(aN a.2.2.2.2.2.2.2.2.2.2 a.2.2.2.2.2.2.2.1).bind fun _=>bif ((cP a.2.2.2.2.2.2.2.2.2.1 a.2.2.2.1 (a.2.2.2.2.1,a.2.2.2.2.2.1,a.2.2.2.2.2.2.1,a.2.2.2.2.2.2.2.1,a.2.2.2.2.2.2.2.2.1)).length)==a.2.2.2.2.2.2.2.2.2.1.length then bif ((cP a.2.2.2.2.2.2.2.2.2.2 a.2.2.2.2.2.2.2.1 a.2.2.2.1).length)==a.2.2.2.2.2.2.2.2.2.2.length then some (cP a.2.2.2.2.2.2.2.2.2.1 a.2.2.2.1 (a.2.2.2.2.1,a.2.2.2.2.2.1,a.2.2.2.2.2.2.1,a.2.2.2.2.2.2.2.1,a.2.2.2.2.2.2.2.2.1),cP a.2.2.2.2.2.2.2.2.2.2 a.2.2.2.2.2.2.2.1 a.2.2.2.1) else none else none
def aD3:eH:=⟨[.l [.i .i64],.l [.b],.l [.i .i64],.i,.i,.i,.i,.i,.i,.l [.i .i64,.i .i64,.i .i64,.i .i64,.i .i64],.l [.i .i64]],[.agg [.sl [.i .i64] [],.sl [.b] [],.sl [.i .i64] [],.own 0 false,.own 1 false],.int .i64 0,.agg [.int .i64 0,.int .i64 0,.int .i64 0,.int .i64 0,.int .i64 0]],[.arr [.i .i64,.i .i64,.i .i64,.i .i64,.i .i64] [],.arr [.i .i64] []],[.l [.i .i64,.i .i64,.i .i64,.i .i64,.i .i64],.l [.i .i64]],.tup [],[.arr [.i .i64,.i .i64,.i .i64,.i .i64,.i .i64] [],.arr [.i .i64] []],fun a=>bZ a⟩
theorem aCd:kC tab 288 aD3:=kC.of aAR (wd:=false) (cx:=(pQ aG [] [] [] [])) (mF.make trivial trivial trivial) (fun a=>by kernel_rfl)
def gQ (c0:aJS) (s:aS3):Option (cC aS3 aSU):=match s with |(a,b,d,e,f,g,h,i,j,k,l,m)=>bif decide (b<(Int.ofNat d.length)) then bif decide ((aA .i64 (b+1))<(Int.ofNat d.length)) then (aN d (aA .i64 (b+1))).bind fun a0=>(aN d b).bind fun a1=>(cH a0 a1).bind fun n2=>bif decide (n2<0) then (aN d (aA .i64 (b+1))).bind fun a3=>(cH a3 (i,j,k,l,m)).bind fun n4=>bif decide (0<=n4) then (bZ (f,g,h,a,i,j,k,l,m,d,e)).bind fun a5=>bif a5.1.length==c0.2.2.2.2.2.2.2.2.2.1.length then bif a5.2.length==c0.2.2.2.2.2.2.2.2.2.2.length then some (.done (.done a5)) else none else none else (aN d (aA .i64 (b+1))).bind fun a6=>(bZ (f,g,h,a,a6.1,a6.2.1,a6.2.2.1,a6.2.2.2.1,a6.2.2.2.2,d,e)).bind fun a7=>some (.next (aA .i64 (b+1),aA .i64 ((aA .i64 (2*(aA .i64 (b+1))))+1),a7.1,a7.2,(f,g,h,i,j,k,l,m))) else (aN d b).bind fun a8=>(cH a8 (i,j,k,l,m)).bind fun n9=>bif decide (0<=n9) then (bZ (f,g,h,a,i,j,k,l,m,d,e)).bind fun a10=>bif a10.1.length==c0.2.2.2.2.2.2.2.2.2.1.length then bif a10.2.length==c0.2.2.2.2.2.2.2.2.2.2.length then some (.done (.done a10)) else none else none else (aN d b).bind fun a11=>(bZ (f,g,h,a,a11.1,a11.2.1,a11.2.2.1,a11.2.2.2.1,a11.2.2.2.2,d,e)).bind fun a12=>some (.next (b,aA .i64 ((aA .i64 (2*b))+1),a12.1,a12.2,(f,g,h,i,j,k,l,m))) else (aN d b).bind fun a13=>(cH a13 (i,j,k,l,m)).bind fun n14=>bif decide (0<=n14) then (bZ (f,g,h,a,i,j,k,l,m,d,e)).bind fun a15=>bif a15.1.length==c0.2.2.2.2.2.2.2.2.2.1.length then bif a15.2.length==c0.2.2.2.2.2.2.2.2.2.2.length then some (.done (.done a15)) else none else none else (aN d b).bind fun a16=>(bZ (f,g,h,a,a16.1,a16.2.1,a16.2.2.1,a16.2.2.2.1,a16.2.2.2.2,d,e)).bind fun a17=>some (.next (b,aA .i64 ((aA .i64 (2*b))+1),a17.1,a17.2,(f,g,h,i,j,k,l,m))) else (bZ (f,g,h,a,i,j,k,l,m,d,e)).bind fun a18=>bif a18.1.length==c0.2.2.2.2.2.2.2.2.2.1.length then bif a18.2.length==c0.2.2.2.2.2.2.2.2.2.2.length then some (.done (.done a18)) else none else none
def fA (c0:aJS) (s:aST):Option aSU:=bif decide (0<s.1) then (aN s.2.1 (aA .i64 (Int.tdiv (aA .i64 (s.1-1)) 2))).bind fun a0=>(cH s.2.2.2.2.2.2 a0).bind fun n1=>bif decide (n1<0) then (aN s.2.1 (aA .i64 (Int.tdiv (aA .i64 (s.1-1)) 2))).bind fun a2=>(bZ (s.2.2.2.1,s.2.2.2.2.1,s.2.2.2.2.2.1,s.1,a2.1,a2.2.1,a2.2.2.1,a2.2.2.2.1,a2.2.2.2.2,s.2.1,s.2.2.1)).bind fun a3=>some (.next (aA .i64 (Int.tdiv (aA .i64 (s.1-1)) 2),a3.1,a3.2,s.2.2.2)) else aJ (gQ c0) (s.1,aA .i64 ((aA .i64 (2*s.1))+1),s.2) else aJ (gQ c0) (s.1,aA .i64 ((aA .i64 (2*s.1))+1),s.2)
def fJ (a:aJS):Option PZ:=aJ (fA a) (a.2.2.2.1,a.2.2.2.2.2.2.2.2.2.1,a.2.2.2.2.2.2.2.2.2.2,a.1,a.2.1,a.2.2.1,a.2.2.2.2.1,a.2.2.2.2.2.1,a.2.2.2.2.2.2.1,a.2.2.2.2.2.2.2.1,a.2.2.2.2.2.2.2.2.1)
def Y1:eH:=⟨[.l [.i .i64],.l [.b],.l [.i .i64],.i,.i,.i,.i,.i,.i,.l [.i .i64,.i .i64,.i .i64,.i .i64,.i .i64],.l [.i .i64]],[.agg [.sl [.i .i64] [],.sl [.b] [],.sl [.i .i64] [],.own 0 false,.own 1 false],.int .i64 0,.agg [.int .i64 0,.int .i64 0,.int .i64 0,.int .i64 0,.int .i64 0]],[.arr [.i .i64,.i .i64,.i .i64,.i .i64,.i .i64] [],.arr [.i .i64] []],[.l [.i .i64,.i .i64,.i .i64,.i .i64,.i .i64],.l [.i .i64]],.tup [],[.arr [.i .i64,.i .i64,.i .i64,.i .i64,.i .i64] [],.arr [.i .i64] []],fun a=>fJ a⟩
theorem Q1:kC tab 271 Y1:=kC.of aAP (wd:=false) (cx:=(pQ aG [(176,aKi)] [(288,YZ),(288,aD3)] [] [])) (mF.make ⟨SZ,trivial⟩ ⟨Q0,aCd,trivial⟩ trivial) (fun a=>by kernel_rfl)
def xJ (p0:aQ) (p1:Int×Int) (p2:Int×Int):Option (aQ×Int):=(kW p0).bind fun n0=>(gZ p2).bind fun n1=>bif (if n1>n0 then n1 else n0) !=0 then some (aQ.mk (bA.mk [] [] []) [] [],if n1>n0 then n1 else n0) else (sP p0 p1).bind fun a2=>bif a2.2 !=0 then some (aQ.mk (bA.mk [] [] []) [] [],a2.2) else (bX p0.heap).bind fun l3=>(bX p0.where_).bind fun l4=>(aN l3 a2.1).bind fun a5=>(fJ (p0.slots.uses,p0.slots.used,p0.slots.free,a2.1,p2.1,p2.2,a5.2.2.1,a5.2.2.2.1,a5.2.2.2.2,l3,l4)).bind fun a6=>some (aQ.mk p0.slots a6.1 a6.2,0)
def aTL:bM:=⟨aC.cons (aH.agg dB) (aC.cons (aH.agg (cD.row jH)) (aC.one (aH.agg (cD.row jH)))),aH.tup (aC.cons (aH.agg dB) (aC.one (aH.int .i64))),fun a=>xJ a.1 a.2.1 a.2.2,.frz,false⟩
theorem aKG:aI tab 257 aTL:=aI.of aJv (cx:=(pQ aG [(115,aB9),(72,c72),(232,aRp),(195,bM.clone kI),(196,bM.clone ki)] [(271,S4),(271,Y1)] [(270,aB4)] [])) rfl (mF.make ⟨I1,EO,aA3,yG,sJ,trivial⟩ ⟨KO,Q1,trivial⟩ ⟨SQ,trivial⟩) (fun a=>by kernel_rfl)
def AU (p0:Int×Int×Int×Int×Int) (p1:Int):Option Bool:=some (p0.2.2.1==p1)
def aTM:bM:=⟨aC.cons (aH.agg (cD.row kI)) (aC.one (aH.ref (cD.int .i64))),aH.bool,fun a=>AU a.1 a.2,.pure,false⟩
theorem aKH:aI tab 282 aTM:=Oc aJJ rfl aG [] trivial fun a=>by kernel_rfl
def cT (s:(kT×Int×Int×Int)):Option (cC (kT×Int×Int×Int) Int):=bif decide (s.2.2.2<s.2.2.1) then (aN s.1 s.2.2.2).bind fun a0=>(AU a0 s.2.1).bind fun b1=>bif b1 then some (.done s.2.2.2) else some (.next (s.1,s.2.1,s.2.2.1,aA .i64 (s.2.2.2+1))) else some (.done (-1))
def fB (p0:List (Int×Int×Int×Int×Int)) (p1:Int):Option Int:=aJ cT (p0,p1,Int.ofNat p0.length,0)
def VY:bM:=⟨aC.cons (aH.sl kI) (aC.one (aH.clo 282 (aC.one (aH.ref (cD.int .i64))))),aH.int .i64,fun a=>fB a.1 a.2,.pure,false⟩
theorem VZ:aI tab 291 VY:=Oc aJO rfl aG [(282,aTM)] ⟨aKH,trivial⟩ fun a=>by kernel_rfl
def cU (p0:List (Int×Int×Int×Int×Int)) (p1:Int):Option Bool:=(fB p0 p1).bind fun n0=>some (decide (0<=n0))
def V0:bM:=⟨aC.cons (aH.sl kI) (aC.one (aH.clo 282 (aC.one (aH.ref (cD.int .i64))))),aH.bool,fun a=>cU a.1 a.2,.pure,false⟩
theorem V1:aI tab 281 V0:=Oc aJI rfl aG [(291,VY)] ⟨VZ,trivial⟩ fun a=>by kernel_rfl
def yM (p0:List Int):Option ((List Int)×Int):=(jL p0 0 (aA .i64 ((Int.ofNat p0.length) -1))).bind fun l0=>(bX l0).bind fun l1=>(aN p0 (aA .i64 ((Int.ofNat p0.length) -1))).bind fun n2=>some (l1,n2)
def aTN:bM:=⟨aC.one (aH.sl ki),aH.tup (aC.cons (aH.sl ki) (aC.one (aH.int .i64))),fun a=>yM a,.frz,false⟩
theorem aKI:aI tab 292 aTN:=Oc aJP rfl aG [(293,bM.clone ki)] ⟨VJ,trivial⟩ fun a=>by kernel_rfl
def FM (p0:bA):Option (bA×(Int×Int)×Int):=(tX p0).bind fun n0=>bif n0 !=0 then some (bA.mk [] [] [],(0,0),n0) else bif (Int.ofNat p0.free.length)==0 then some (bA.mk [] [] [],(0,0),18) else (yM p0.free).bind fun a1=>(aN p0.uses a1.2).bind fun n2=>bif n2==1000000 then some (bA.mk [] [] [],(0,0),18) else (bX p0.uses).bind fun l3=>(bX p0.used).bind fun l4=>(aN l4 a1.2).bind fun _=>(aN l3 a1.2).bind fun n6=>(aN l3 a1.2).bind fun _=>(aN (cP l3 a1.2 (aA .i64 (n6+1))) a1.2).bind fun n8=>some (bA.mk (cP l3 a1.2 (aA .i64 (n6+1))) (cP l4 a1.2 true) a1.1,(a1.2,n8),0)
def aTO:bM:=⟨aC.one (aH.agg hJ),aH.tup (aC.cons (aH.agg hJ) (aC.cons (aH.agg (cD.row jH)) (aC.one (aH.int .i64)))),fun a=>FM a,.frz,false⟩
theorem aKJ:aI tab 283 aTO:=aI.of aJK (cx:=(pQ aG [(175,aKa),(292,aTN),(196,bM.clone ki),(197,bM.clone kb)] [] [(286,aDL)] [])) rfl (mF.make ⟨SY,aKI,sJ,yF,trivial⟩ trivial ⟨aAQ,trivial⟩) (fun a=>by kernel_rfl)
def nA (p0:aQ) (p1:Int×Int) (p2:Int):Option (aQ×(Int×Int)×Int):=(kW p0).bind fun n0=>(gZ p1).bind fun n1=>bif (if n1>n0 then n1 else n0) !=0 then some (aQ.mk (bA.mk [] [] []) [] [],(0,0),if n1>n0 then n1 else n0) else bif decide (p2<0) then some (aQ.mk (bA.mk [] [] []) [] [],(0,0),2) else bif decide (1000000<p2) then some (aQ.mk (bA.mk [] [] []) [] [],(0,0),2) else (cU p0.heap p2).bind fun b2=>bif b2 then some (aQ.mk (bA.mk [] [] []) [] [],(0,0),14) else (FM p0.slots).bind fun a3=>bif a3.2.2 !=0 then some (aQ.mk (bA.mk [] [] []) [] [],(0,0),a3.2.2) else (bX p0.heap).bind fun l4=>(bX p0.where_).bind fun l5=>(bH l4 [(p1.1,p1.2,p2,a3.2.1)]).bind fun l6=>(fJ (a3.1.uses,a3.1.used,a3.1.free,aA .i64 ((Int.ofNat l6.length) -1),p1.1,p1.2,p2,a3.2.1.1,a3.2.1.2,l6,l5)).bind fun a7=>some (aQ.mk a3.1 a7.1 a7.2,a3.2.1,0)
def aRt:bM:=⟨aC.cons (aH.agg dB) (aC.cons (aH.agg (cD.row jH)) (aC.one (aH.int .i64))),aH.tup (aC.cons (aH.agg dB) (aC.cons (aH.agg (cD.row jH)) (aC.one (aH.int .i64)))),fun a=>nA a.1 a.2.1 a.2.2,.frz,false⟩
theorem aA6:aI tab 258 aRt:=aI.of aJw (cx:=(pQ aG [(115,aB9),(72,c72),(281,V0),(283,aTO),(195,bM.clone kI),(196,bM.clone ki)] [(271,S4),(271,Y1)] [(270,aB4)] [])) rfl (mF.make ⟨I1,EO,V1,aKJ,yG,sJ,trivial⟩ ⟨KO,Q1,trivial⟩ ⟨SQ,trivial⟩) (fun a=>by kernel_rfl)
def dN (s:Zt3):Option (cC Zt3 Zt7):=match s with |(a,b,d,e,f,g,h,i,j,k,l,m,n,o,q,r,t,u,v,w,x,y,z,A,B,C,D,E,F)=>bif decide (d<b) then (aN a d).bind fun a0=>(uA (Field.mk q) a0.2 (e,f)).bind fun a1=>(rQ o a0.1).bind fun a2=>bif a1.2.1 then bif a2.2 then (aN o a2.1).bind fun a3=>(xJ (aQ.mk (bA.mk z A B) C D) a3.2 a1.1).bind fun a4=>(aN o a2.1).bind fun a5=>(bH F [a5]).bind fun l6=>bif a4.2 !=0 then some (.done (.done (eY,a4.2))) else some (.next (a,b,aA .i64 (d+1),e,f,g,h,i,j,k,l,m,n,o,q,r,t,u,v,w,x,y,a4.1.slots.uses,a4.1.slots.used,a4.1.slots.free,a4.1.heap,a4.1.where_,E,l6)) else bif a1.2.1 then (nA (aQ.mk (bA.mk z A B) C D) a1.1 a0.1).bind fun a7=>(bH F [(a0.1,a7.2.1)]).bind fun l8=>bif a7.2.2 !=0 then some (.done (.done (eY,a7.2.2))) else some (.next (a,b,aA .i64 (d+1),e,f,g,h,i,j,k,l,m,n,o,q,r,t,u,v,w,x,y,a7.1.slots.uses,a7.1.slots.used,a7.1.slots.free,a7.1.heap,a7.1.where_,E,l8)) else bif a2.2 then (aN o a2.1).bind fun a9=>(oF (aQ.mk (bA.mk z A B) C D) a9.2).bind fun a10=>bif a10.2.2 !=0 then some (.done (.done (eY,a10.2.2))) else some (.next (a,b,aA .i64 (d+1),e,f,g,h,i,j,k,l,m,n,o,q,r,t,u,v,w,x,y,a10.1.slots.uses,a10.1.slots.used,a10.1.slots.free,a10.1.heap,a10.1.where_,(E,F))) else bif a1.2.2 !=0 then some (.done (.done (eY,a1.2.2))) else some (.next (a,b,aA .i64 (d+1),(e,f,g,h,i,j,k,l,m,n,o,q,r,t,u,v,w,x,y,z,A,B,C,D,E,F))) else bif a1.2.1 then (nA (aQ.mk (bA.mk z A B) C D) a1.1 a0.1).bind fun a11=>(bH F [(a0.1,a11.2.1)]).bind fun l12=>bif a11.2.2 !=0 then some (.done (.done (eY,a11.2.2))) else some (.next (a,b,aA .i64 (d+1),e,f,g,h,i,j,k,l,m,n,o,q,r,t,u,v,w,x,y,a11.1.slots.uses,a11.1.slots.used,a11.1.slots.free,a11.1.heap,a11.1.where_,E,l12)) else bif a2.2 then (aN o a2.1).bind fun a13=>(oF (aQ.mk (bA.mk z A B) C D) a13.2).bind fun a14=>bif a14.2.2 !=0 then some (.done (.done (eY,a14.2.2))) else some (.next (a,b,aA .i64 (d+1),e,f,g,h,i,j,k,l,m,n,o,q,r,t,u,v,w,x,y,a14.1.slots.uses,a14.1.slots.used,a14.1.slots.free,a14.1.heap,a14.1.where_,(E,F))) else bif a1.2.2 !=0 then some (.done (.done (eY,a1.2.2))) else some (.next (a,b,aA .i64 (d+1),(e,f,g,h,i,j,k,l,m,n,o,q,r,t,u,v,w,x,y,z,A,B,C,D,E,F))) else some (.done (.done (aP.mk (v,w) (Field.mk E) (bK.mk x y) (aQ.mk (bA.mk z A B) C D) F,0)))
def mG (s:aSL):Option Zt7:=match s with |(a,b,d,e,f,g,h,i,j,k,l,m,n,o,q,r,t,u)=>bif decide (d<b) then (aN a d).bind fun a0=>(kX (Field.mk q) a0.2.1).bind fun a1=>bif decide (a1.1<0) then some (.done (eY,6)) else (kX (Field.mk q) a0.2.2).bind fun a2=>bif decide (a2.1<0) then some (.done (eY,6)) else some (.next (a,b,aA .i64 (d+1),(e,f,g,h,i,j,k,l,m,n,o,q,r,t,u))) else (lH (aP.mk (e,f) (Field.mk g) (bK.mk h i) (aQ.mk (bA.mk j k l) m n) o)).bind fun r3=>(bX q).bind fun l4=>aJ dN (i,Int.ofNat i.length,0,e,f,g,h,i,j,k,l,m,n,o,q,r,t,u,r3.now.1,r3.now.2,r3.certs.next_,r3.certs.list,r3.agenda.slots.uses,r3.agenda.slots.used,r3.agenda.slots.free,r3.agenda.heap,r3.agenda.where_,l4,[])
def rR (p0:aP) (p1:Field):Option (aP×Int):=(hH p0).bind fun n0=>bif n0 !=0 then some (eY,n0) else (eI p1).bind fun n1=>bif n1 !=0 then some (eY,n1) else aJ mG (p0.certs.list,Int.ofNat p0.certs.list.length,0,p0.now.1,p0.now.2,p0.field.points,p0.certs.next_,p0.certs.list,p0.agenda.slots.uses,p0.agenda.slots.used,p0.agenda.slots.free,p0.agenda.heap,p0.agenda.where_,p0.due,p1.points,0,0,0)
def aTP:bM:=⟨aC.cons (aH.agg bL) (aC.one (aH.agg bN)),aH.tup (aC.cons (aH.agg bL) (aC.one (aH.int .i64))),fun a=>rR a.1 a.2,.frz,false⟩
theorem aKK:aI tab 213 aTP:=Oc aI8 rfl aG [(62,c62),(85,c85),(178,aKk),(136,aDZ),(136,VT),(89,bM.clone dZ),(116,aKr),(190,aRn),(257,aTL),(258,aRt),(191,aRq)] ⟨KM,KL,S0,MK,I2,zQ,S2,aA1,aKG,aA6,aA4,trivial⟩ fun a=>by kernel_rfl
def GH (p0:Int×Int×Int) (p1:Int×Int):Option Bool:=some ((p0.2.1==p1.1)&&(p0.2.2==p1.2))
def aTQ:bM:=⟨aC.cons (aH.agg (cD.row dZ)) (aC.one (aH.ref (cD.row jH))),aH.bool,fun a=>GH a.1 a.2,.pure,false⟩
theorem aKL:aI tab 215 aTQ:=Oc aI9 rfl aG [] trivial fun a=>by kernel_rfl
def oP (s:SS):Option (cC SS Int):=bif decide (s.2.2.2.2<s.2.2.2.1) then (aN s.1 s.2.2.2.2).bind fun a0=>(GH a0 (s.2.1,s.2.2.1)).bind fun b1=>bif b1 then some (.done s.2.2.2.2) else some (.next (s.1,s.2.1,s.2.2.1,s.2.2.2.1,aA .i64 (s.2.2.2.2+1))) else some (.done (-1))
def jI (p0:List (Int×Int×Int)) (p1:(Int×Int)):Option Int:=aJ oP (p0,p1.1,p1.2,Int.ofNat p0.length,0)
def V2:bM:=⟨aC.cons (aH.sl dZ) (aC.one (aH.clo 215 (aC.one (aH.ref (cD.row jH))))),aH.int .i64,fun a=>jI a.1 a.2,.pure,false⟩
theorem V3:aI tab 259 V2:=Oc aAO rfl aG [(215,aTQ)] ⟨aKL,trivial⟩ fun a=>by kernel_rfl
def eK (p0:List (Int×Int×Int)) (p1:(Int×Int)):Option Bool:=(jI p0 p1).bind fun n0=>some (decide (0<=n0))
def V4:bM:=⟨aC.cons (aH.sl dZ) (aC.one (aH.clo 215 (aC.one (aH.ref (cD.row jH))))),aH.bool,fun a=>eK a.1 a.2,.pure,false⟩
theorem V5:aI tab 214 V4:=Oc aAN rfl aG [(259,V2)] ⟨V3,trivial⟩ fun a=>by kernel_rfl
def dJ (p0:Int):Option (aP×Int×Int):=some (eY,0,p0)
def aTR:bM:=⟨aC.one (aH.int .i64),aH.tup (aC.cons (aH.agg bL) (aC.cons (aH.int .i64) (aC.one (aH.int .i64)))),fun a=>dJ a,.frz,false⟩
theorem aKM:aI tab 260 aTR:=Oc aJx rfl aG [] trivial fun a=>by kernel_rfl
def HE (p0:Int×Int×Int) (p1:Int×Int):Option Bool:=some ((p0.2.1==p1.1)&&(p0.2.2==p1.2))
def aTS:bM:=⟨aC.cons (aH.agg (cD.row dZ)) (aC.one (aH.ref (cD.row jH))),aH.bool,fun a=>HE a.1 a.2,.pure,false⟩
theorem aKN:aI tab 284 aTS:=Oc aJL rfl aG [] trivial fun a=>by kernel_rfl
def dI (s:SS):Option (cC SS Int):=bif decide (s.2.2.2.2<s.2.2.2.1) then (aN s.1 s.2.2.2.2).bind fun a0=>(HE a0 (s.2.1,s.2.2.1)).bind fun b1=>bif b1 then some (.done s.2.2.2.2) else some (.next (s.1,s.2.1,s.2.2.1,s.2.2.2.1,aA .i64 (s.2.2.2.2+1))) else some (.done (-1))
def gH (p0:List (Int×Int×Int)) (p1:(Int×Int)):Option Int:=aJ dI (p0,p1.1,p1.2,Int.ofNat p0.length,0)
def V6:bM:=⟨aC.cons (aH.sl dZ) (aC.one (aH.clo 284 (aC.one (aH.ref (cD.row jH))))),aH.int .i64,fun a=>gH a.1 a.2,.pure,false⟩
theorem V7:aI tab 259 V6:=Oc aAO rfl aG [(284,aTS)] ⟨aKN,trivial⟩ fun a=>by kernel_rfl
def cI (p0:List (Int×Int×Int)) (p1:(Int×Int)):Option Bool:=(gH p0 p1).bind fun n0=>some (decide (0<=n0))
def V8:bM:=⟨aC.cons (aH.sl dZ) (aC.one (aH.clo 284 (aC.one (aH.ref (cD.row jH))))),aH.bool,fun a=>cI a.1 a.2,.pure,false⟩
theorem V9:aI tab 214 V8:=Oc aAN rfl aG [(259,V6)] ⟨V7,trivial⟩ fun a=>by kernel_rfl
def I3 (p0:bK) (p1:Int×Int):Option (bK×Int×Int):=(tV p0).bind fun n0=>bif n0 !=0 then some (bK.mk 0 [],0,n0) else (yI p1).bind fun b1=>bif !b1 then some (bK.mk 0 [],0,8) else (cI p0.list p1).bind fun b2=>bif b2 then some (bK.mk 0 [],0,14) else bif (Int.ofNat p0.list.length)==200 then some (bK.mk 0 [],0,18) else bif p0.next_==1000000 then some (bK.mk 0 [],0,18) else (bX p0.list).bind fun l3=>(bH l3 [(p0.next_,p1)]).bind fun l4=>some (bK.mk (aA .i64 (p0.next_+1)) l4,p0.next_,0)
def aTT:bM:=⟨aC.cons (aH.agg hM) (aC.one (aH.agg (cD.row jH))),aH.tup (aC.cons (aH.agg hM) (aC.cons (aH.int .i64) (aC.one (aH.int .i64)))),fun a=>I3 a.1 a.2,.frz,false⟩
theorem aKO:aI tab 261 aTT:=Oc aJy rfl aG [(114,aJ7),(174,aRe),(214,V8),(193,bM.clone dZ)] ⟨SX,aAU,V9,BL,trivial⟩ fun a=>by kernel_rfl
def jP (p0:aP) (p1:Int×Int):Option (aP×Int×Int):=(hH p0).bind fun n0=>bif n0 !=0 then (dJ n0).bind fun a1=>some a1 else (I3 p0.certs p1).bind fun a2=>bif a2.2.2==8 then (dJ a2.2.2).bind fun a3=>some a3 else (kX p0.field p1.1).bind fun a4=>bif decide (a4.1<0) then (dJ 6).bind fun a5=>some a5 else (kX p0.field p1.2).bind fun a6=>bif decide (a6.1<0) then (dJ 6).bind fun a7=>some a7 else bif a2.2.2 !=0 then (dJ a2.2.2).bind fun a8=>some a8 else (lH p0).bind fun r9=>(uA p0.field p1 p0.now).bind fun a10=>bif a10.2.2 !=0 then (dJ a10.2.2).bind fun a11=>some a11 else bif a10.2.1 then (nA p0.agenda a10.1 a2.2.1).bind fun a12=>bif a12.2.2 !=0 then (dJ a12.2.2).bind fun a13=>some a13 else (bH r9.due [(a2.2.1,a12.2.1)]).bind fun l14=>some (aP.mk r9.now r9.field a2.1 a12.1 l14,a2.2.1,0) else some (aP.mk r9.now r9.field a2.1 r9.agenda r9.due,a2.2.1,0)
def aTU:bM:=⟨aC.cons (aH.agg bL) (aC.one (aH.agg (cD.row jH))),aH.tup (aC.cons (aH.agg bL) (aC.cons (aH.int .i64) (aC.one (aH.int .i64)))),fun a=>jP a.1 a.2,.frz,false⟩
theorem aKP:aI tab 216 aTU:=Oc aJa rfl aG [(62,c62),(260,aTR),(261,aTT),(178,aKk),(136,aDZ),(136,VT),(116,aKr),(258,aRt)] ⟨KM,aKM,aKO,S0,MK,I2,S2,aA6,trivial⟩ fun a=>by kernel_rfl
def fP (s:aSM):Option (cC aSM Zt6):=match s with |(a,b,d,e,f,g,h,i,j,k,l,m,n,o,q,r,t)=>bif decide (d<b) then (aN a d).bind fun a0=>(eK i a0).bind fun b1=>bif b1 then some (.next (a,b,aA .i64 (d+1),(e,f,g,h,i,j,k,l,m,n,o,q,r,t))) else (jP (aP.mk (e,f) (Field.mk g) (bK.mk h i) (aQ.mk (bA.mk j k l) m n) o) a0).bind fun a2=>bif a2.2.2 !=0 then some (.done (.done (eY,a2.2.2))) else some (.next (a,b,aA .i64 (d+1),a2.1.now.1,a2.1.now.2,a2.1.field.points,a2.1.certs.next_,a2.1.certs.list,a2.1.agenda.slots.uses,a2.1.agenda.slots.used,a2.1.agenda.slots.free,a2.1.agenda.heap,a2.1.agenda.where_,a2.1.due,(q,r,t))) else some (.done (.done (aP.mk (e,f) (Field.mk g) (bK.mk h i) (aQ.mk (bA.mk j k l) m n) o,0)))
def eN (s:aSK):Option Zt6:=match s with |(a,b,d,e,f,g,h,i,j,k,l,m,n,o,q,r,t,u,v)=>bif decide (e<d) then (aN b e).bind fun a0=>(gA a a0.2).bind fun b1=>bif !b1 then (xI (aP.mk (f,g) (Field.mk h) (bK.mk i j) (aQ.mk (bA.mk k l m) n o) q) a0.1).bind fun a2=>some (.next (a,b,d,aA .i64 (e+1),a2.1.now.1,a2.1.now.2,a2.1.field.points,a2.1.certs.next_,a2.1.certs.list,a2.1.agenda.slots.uses,a2.1.agenda.slots.used,a2.1.agenda.slots.free,a2.1.agenda.heap,a2.1.agenda.where_,a2.1.due,(r,t,u,v))) else some (.next (a,b,d,aA .i64 (e+1),(f,g,h,i,j,k,l,m,n,o,q,r,t,u,v))) else (nL h r).bind fun b3=>bif !b3 then (rR (aP.mk (f,g) (Field.mk h) (bK.mk i j) (aQ.mk (bA.mk k l m) n o) q) (Field.mk r)).bind fun a4=>bif a4.2 !=0 then some (.done (eY,a4.2)) else aJ fP (a,Int.ofNat a.length,0,a4.1.now.1,a4.1.now.2,a4.1.field.points,a4.1.certs.next_,a4.1.certs.list,a4.1.agenda.slots.uses,a4.1.agenda.slots.used,a4.1.agenda.slots.free,a4.1.agenda.heap,a4.1.agenda.where_,a4.1.due,(t,u,v)) else aJ fP (a,Int.ofNat a.length,0,f,g,h,i,j,k,l,m,n,o,q,(t,u,v))
def wF (p0:aP) (p1:Field) (p2:List (Int×Int)):Option (aP×Int):=aJ eN (p2,p0.certs.list,Int.ofNat p0.certs.list.length,0,p0.now.1,p0.now.2,p0.field.points,p0.certs.next_,p0.certs.list,p0.agenda.slots.uses,p0.agenda.slots.used,p0.agenda.slots.free,p0.agenda.heap,p0.agenda.where_,p0.due,p1.points,0,0,0)
def aTV:bM:=⟨aC.cons (aH.agg bL) (aC.cons (aH.agg bN) (aC.one (aH.sl jH))),aH.tup (aC.cons (aH.agg bL) (aC.one (aH.int .i64))),fun a=>wF a.1 a.2.1 a.2.2,.frz,false⟩
theorem aKQ:aI tab 167 aTV:=Oc aIx rfl aG [(64,c64),(211,aTJ),(212,aTK),(213,aTP),(214,V4),(216,aTU)] ⟨YY,aKE,aKF,aKK,V5,aKP,trivial⟩ fun a=>by kernel_rfl
def fQ (s:aB6):Option (cC aB6 Zt1):=match s with |(a,b,d,e,f,g,h,i,j,k,l,m,n,o,q,r,t,u,v)=>bif decide (e<d) then (aN b e).bind fun a0=>(yK (Field.mk r) a0.1).bind fun a1=>(yK (Field.mk r) a0.2).bind fun a2=>bif a1.2 !=0 then some (.done (.done (.done (eY,6)))) else bif a2.2 !=0 then some (.done (.done (.done (eY,6)))) else some (.next (a,b,d,aA .i64 (e+1),(f,g,h,i,j,k,l,m,n,o,q,r,t,u,v))) else (yL (aP.mk (f,g) (Field.mk h) (bK.mk i j) (aQ.mk (bA.mk k l m) n o) q)).bind fun r3=>(wF r3 (Field.mk r) a).bind fun a4=>some (.done (.done (.done a4)))
def eO (s:aB6):Option Zt1:=bif decide (s.2.2.2.1<s.2.2.1) then (aN s.2.1 s.2.2.2.1).bind fun a0=>(jL s.1 0 s.2.2.2.1).bind fun l1=>(gA l1 a0).bind fun b2=>bif b2 then some (.done (.done (eY,14))) else some (.next (s.1,s.2.1,s.2.2.1,aA .i64 (s.2.2.2.1+1),s.2.2.2.2)) else aJ fQ (s.1,s.1,Int.ofNat s.1.length,0,s.2.2.2.2)
def eQ (s:aB6):Option aSJ:=bif decide (s.2.2.2.1<s.2.2.1) then (aN s.2.1 s.2.2.2.1).bind fun a0=>bif decide (a0.1<0) then some (.done (eY,8)) else bif decide (a0.2<0) then some (.done (eY,8)) else bif decide (65535<a0.1) then some (.done (eY,8)) else bif decide (65535<a0.2) then some (.done (eY,8)) else bif a0.1==a0.2 then some (.done (eY,8)) else some (.next (s.1,s.2.1,s.2.2.1,aA .i64 (s.2.2.2.1+1),s.2.2.2.2)) else aJ eO (s.1,s.1,Int.ofNat s.1.length,0,s.2.2.2.2)
def rS (p0:aP) (p1:Field) (p2:List (Int×Int)):Option (aP×Int):=(hH p0).bind fun n0=>bif n0 !=0 then some (eY,n0) else (eI p1).bind fun n1=>bif n1 !=0 then some (eY,n1) else aJ eQ (p2,p2,Int.ofNat p2.length,0,p0.now.1,p0.now.2,p0.field.points,p0.certs.next_,p0.certs.list,p0.agenda.slots.uses,p0.agenda.slots.used,p0.agenda.slots.free,p0.agenda.heap,p0.agenda.where_,p0.due,p1.points,0,0,0)
def aTW:bM:=⟨aC.cons (aH.agg bL) (aC.cons (aH.agg bN) (aC.one (aH.sl jH))),aH.tup (aC.cons (aH.agg bL) (aC.one (aH.int .i64))),fun a=>rS a.1 a.2.1 a.2.2,.frz,false⟩
theorem aKR:aI tab 106 aTW:=Oc aHU rfl aG [(62,c62),(85,c85),(64,c64),(166,aTH),(168,aTI),(168,aMh),(167,aTV)] ⟨KM,KL,YY,aKC,aKD,aD2,aKQ,trivial⟩ fun a=>by kernel_rfl
def eA (p0:aP) (p1:Field):Option (aZ×Int):=(lA p1 p0.now).bind fun a0=>(rS p0 p1 a0.2).bind fun a1=>bif a1.2 !=0 then some (aZ.mk eY [],a1.2) else some (aZ.mk a1.1 a0.1,0)
def c54:bM:=⟨aC.cons (aH.agg bL) (aC.one (aH.agg bN)),aH.tup (aC.cons (aH.agg bU) (aC.one (aH.int .i64))),fun a=>eA a.1 a.2,.frz,false⟩
theorem S5:aI tab 54 c54:=Oc aQm rfl aG [(57,c57),(106,aTW)] ⟨YX,aKR,trivial⟩ fun a=>by kernel_rfl
def CS (p0:aP) (p1:Int×Int):Option (aP×Int):=(wD p0 p1).bind fun a0=>bif a0.2==0 then bif a0.1 then some (eY,36) else bif a0.2 !=0 then some (eY,a0.2) else (lH p0).bind fun r1=>some (aP.mk p1 r1.field r1.certs r1.agenda r1.due,0) else bif a0.2 !=0 then some (eY,a0.2) else (lH p0).bind fun r2=>some (aP.mk p1 r2.field r2.certs r2.agenda r2.due,0)
def c75:bM:=⟨aC.cons (aH.agg bL) (aC.one (aH.agg (cD.row jH))),aH.tup (aC.cons (aH.agg bL) (aC.one (aH.int .i64))),fun a=>CS a.1 a.2,.frz,false⟩
theorem aRu:aI tab 75 c75:=Oc aQE rfl aG [(134,aRm),(136,aDZ),(136,VT)] ⟨aA0,MK,I2,trivial⟩ fun a=>by kernel_rfl
def iV (s:Zt9):Option (cC Zt9 aDT):=match s with |(a,b,d,e,f,g,h,i,j,k,l,m,n,o,q,r,t,u)=>(uB (aP.mk (a,b) (Field.mk d) (bK.mk e f) (aQ.mk (bA.mk g h i) j k) l) (n,o)).bind fun a0=>bif a0.2.2.2 !=0 then (CS (aP.mk (a,b) (Field.mk d) (bK.mk e f) (aQ.mk (bA.mk g h i) j k) l) (n,o)).bind fun a1=>(lA a1.1.field (n,o)).bind fun a2=>some (.done (aZ.mk a1.1 a2.1,u,0)) else (eA a0.1 a0.1.field).bind fun a3=>bif a3.2 !=0 then some (.done (aZ.mk eY [],[],a3.2)) else (bH u [a0.2.2.1]).bind fun l4=>some (.next (a3.1.clock.now.1,a3.1.clock.now.2,a3.1.clock.field.points,a3.1.clock.certs.next_,a3.1.clock.certs.list,a3.1.clock.agenda.slots.uses,a3.1.clock.agenda.slots.used,a3.1.clock.agenda.slots.free,a3.1.clock.agenda.heap,a3.1.clock.agenda.where_,a3.1.clock.due,a3.1.up,n,o,q,r,t,l4))
def iL (p0:aZ) (p1:Int×Int):Option aDT:=(nI p0).bind fun n0=>bif n0 !=0 then some (aZ.mk eY [],[],n0) else (gZ p1).bind fun n1=>bif n1 !=0 then some (aZ.mk eY [],[],8) else (tY p1 p0.clock.now).bind fun a2=>bif decide (a2.1<0) then some (aZ.mk eY [],[],44) else aJ iV (p0.clock.now.1,p0.clock.now.2,p0.clock.field.points,p0.clock.certs.next_,p0.clock.certs.list,p0.clock.agenda.slots.uses,p0.clock.agenda.slots.used,p0.clock.agenda.slots.free,p0.clock.agenda.heap,p0.clock.agenda.where_,p0.clock.due,p0.up,p1.1,p1.2,0,0,0,[])
def c28:bM:=⟨aC.cons (aH.agg bU) (aC.one (aH.agg (cD.row jH))),aH.tup (aC.cons (aH.agg bU) (aC.cons (aH.sl jH) (aC.one (aH.int .i64)))),fun a=>iL a.1 a.2,.frz,false⟩
theorem aRv:aI tab 28 c28:=Oc aP5 rfl aG [(19,c19),(72,c72),(73,c73),(74,c74),(54,c54),(75,c75),(57,c57)] ⟨S3,EO,YU,aRs,S5,aRu,YX,trivial⟩ fun a=>by kernel_rfl
def jC (p0:Int):Option Int:=bif decide (p0<0) then some (aA .u64 ((aA .u64 (aA .i64 (0- (aA .i64 (p0+1)))))+1)) else some (aA .u64 p0)
def c70:bM:=⟨aC.one (aH.int .i64),aH.int .u64,fun a=>jC a,.pure,false⟩
theorem Y2:aI tab 70 c70:=Oc aQA rfl aG [] trivial fun a=>by kernel_rfl
def qS (s:(Int×Int)):Option (cC (Int×Int) Int):=bif s.2 !=0 then bif s.2==0 then none else some (.next (s.2,Int.tmod s.1 s.2)) else some (.done s.1)
def sQ (p0:Int) (p1:Int):Option Int:=aJ qS (p0,p1)
def c69:bM:=⟨aC.cons (aH.int .u64) (aC.one (aH.int .u64)),aH.int .u64,fun a=>sQ a.1 a.2,.pure,false⟩
theorem aD4:aI tab 69 c69:=Oc aQz rfl aG [] trivial fun a=>by kernel_rfl
def rT (p0:Int×Int):Option Int:=bif decide (p0.2<1) then some 8 else bif p0.1==(-9223372036854775808) then some 8 else (jC p0.1).bind fun n0=>(sQ n0 (aA .u64 p0.2)).bind fun n1=>bif n1 !=1 then some 8 else some 0
def c24:bM:=⟨aC.one (aH.agg (cD.row jH)),aH.int .i64,fun a=>rT a,.pure,false⟩
theorem Y3:aI tab 24 c24:=Oc aP2 rfl aG [(70,c70),(69,c69)] ⟨Y2,aD4,trivial⟩ fun a=>by kernel_rfl
def rU (p0:Int×Int×Int):Option Int:=bif decide (p0.1<0) then some 8 else bif decide (65535<p0.1) then some 8 else bif decide (p0.2.1<(-1048576)) then some 8 else bif decide (1048576<p0.2.1) then some 8 else bif decide (p0.2.2<(-1048576)) then some 8 else bif decide (1048576<p0.2.2) then some 8 else some 0
def c68:bM:=⟨aC.one (aH.agg (cD.row dZ)),aH.int .i64,fun a=>rU a,.pure,false⟩
theorem Y4:aI tab 68 c68:=Oc aQy rfl aG [] trivial fun a=>by kernel_rfl
def jZ (s:aDU):Option (cC aDU (cC aDU Int)):=bif decide (s.1<(Int.ofNat s.2.length)) then (aN s.2 (aA .i64 (s.1-1))).bind fun a0=>(aN s.2 s.1).bind fun a1=>bif decide (a1.1<=a0.1) then some (.done (.done 32)) else some (.next (aA .i64 (s.1+1),s.2)) else some (.done (.done 0))
def oZ (s:aDU):Option (cC aDU Int):=bif decide (s.1<(Int.ofNat s.2.length)) then (aN s.2 s.1).bind fun a0=>(rU a0).bind fun n1=>bif n1 !=0 then some (.done 8) else some (.next (aA .i64 (s.1+1),s.2)) else aJ jZ (1,s.2)
def iM (p0:Field):Option Int:=bif decide (64<(Int.ofNat p0.points.length)) then some 4 else aJ oZ (0,p0.points)
def c23:bM:=⟨aC.one (aH.agg bN),aH.int .i64,fun a=>iM a,.pure,false⟩
theorem S6:aI tab 23 c23:=Oc aP1 rfl aG [(68,c68)] ⟨Y4,trivial⟩ fun a=>by kernel_rfl
def yN (p0:Int×Int):Option Bool:=bif decide (0<=p0.1) then bif decide (p0.1<=65535) then bif decide (0<=p0.2) then bif decide (p0.2<=65535) then some (p0.1 !=p0.2) else some false else some false else some false else some false
def c99:bM:=⟨aC.one (aH.agg (cD.row jH)),aH.bool,fun a=>yN a,.pure,false⟩
theorem aD5:aI tab 99 c99:=Oc aQ0 rfl aG [] trivial fun a=>by kernel_rfl
def gS (s:(Int×Int×Int×bT×Int×Int×Int)):Option (cC (Int×Int×Int×bT×Int×Int×Int) aQ5):=bif decide (s.2.1<s.1) then (aN s.2.2.2.1 s.2.1).bind fun a0=>bif (a0.2.1==s.2.2.2.2.2.1)&&(a0.2.2==s.2.2.2.2.2.2) then some (.done (.done 8)) else some (.next (s.1,aA .i64 (s.2.1+1),s.2.2)) else some (.done (.next (aA .i64 (s.1+1),s.2.2.1,s.2.2.2.1)))
def sR (s:aB7):Option aQ5:=bif decide (s.1<(Int.ofNat s.2.2.length)) then (aN s.2.2 s.1).bind fun a0=>(yN a0.2).bind fun b1=>bif !b1 then some (.done 8) else bif decide (a0.1<0) then some (.done 8) else bif decide (s.2.1<=a0.1) then some (.done 8) else bif decide (0<s.1) then (aN s.2.2 (aA .i64 (s.1-1))).bind fun a2=>bif decide (a0.1<=a2.1) then some (.done 8) else aJ gS (s.1,0,s.2.1,s.2.2,a0) else aJ gS (s.1,0,s.2.1,s.2.2,a0) else some (.done 0)
def wG (p0:bK):Option Int:=bif decide (200<(Int.ofNat p0.list.length)) then some 8 else bif decide (p0.next_<0) then some 8 else bif decide (1000000<p0.next_) then some 8 else aJ sR (0,p0.next_,p0.list)
def aRw:bM:=⟨aC.one (aH.agg hM),aH.int .i64,fun a=>wG a,.pure,false⟩
theorem aA7:aI tab 118 aRw:=Oc aH3 rfl aG [(99,c99)] ⟨aD5,trivial⟩ fun a=>by kernel_rfl
def wH (s:aB7):Option aQ5:=bif decide (s.2.1<(Int.ofNat s.2.2.length)) then (aN s.2.2 s.2.1).bind fun a0=>bif a0.1==s.1 then some (.done s.2.1) else some (.next (s.1,aA .i64 (s.2.1+1),s.2.2)) else some (.done (-1))
def hO (p0:Field) (p1:Int):Option Int:=aJ wH (p1,0,p0.points)
def c25:bM:=⟨aC.cons (aH.agg bN) (aC.one (aH.int .i64)),aH.int .i64,fun a=>hO a.1 a.2,.pure,false⟩
theorem HF:aI tab 25 c25:=Oc aP3 rfl aG [] trivial fun a=>by kernel_rfl
def sS (s:aJX):Option (cC aJX Bool):=bif decide (s.1<(Int.ofNat s.2.2.1.length)) then (aN s.2.2.1 s.1).bind fun a0=>(hO (Field.mk s.2.2.2) a0.2.1).bind fun n1=>bif decide (n1<0) then some (.done false) else (aN s.2.2.1 s.1).bind fun a2=>(hO (Field.mk s.2.2.2) a2.2.2).bind fun n3=>bif decide (n3<0) then some (.done false) else some (.next (aA .i64 (s.1+1),s.2)) else some (.done true)
def zS (p0:bK) (p1:Field):Option Bool:=aJ sS (0,p0.next_,p0.list,p1.points)
def aTZ:bM:=⟨aC.cons (aH.agg hM) (aC.one (aH.agg bN)),aH.bool,fun a=>zS a.1 a.2,.pure,false⟩
theorem aKS:aI tab 119 aTZ:=Oc aH4 rfl aG [(25,c25)] ⟨HF,trivial⟩ fun a=>by kernel_rfl
def mH (s:aDS):Option (cC aDS (cC aDS Int)):=bif decide (s.2.1<s.1) then (aN s.2.2.1 s.2.1).bind fun n0=>bif decide (n0<0) then some (.done (.done 8)) else (aN s.2.2.1 s.2.1).bind fun n1=>bif decide (1000000<n1) then some (.done (.done 8)) else (aN s.2.2.2.1 s.2.1).bind fun b2=>(aN s.2.2.2.2.2 s.2.1).bind fun b3=>bif b2==b3 then some (.done (.done 8)) else (aN s.2.2.2.1 s.2.1).bind fun b4=>bif b4 then (aN s.2.2.1 s.2.1).bind fun n5=>bif decide (n5<1) then some (.done (.done 8)) else some (.next (s.1,aA .i64 (s.2.1+1),s.2.2)) else some (.next (s.1,aA .i64 (s.2.1+1),s.2.2)) else some (.done (.done 0))
def sU (s:aDS):Option (cC aDS Int):=bif decide (s.2.1<(Int.ofNat s.2.2.2.2.1.length)) then (aN s.2.2.2.2.1 s.2.1).bind fun n0=>bif decide (n0<0) then some (.done 8) else (aN s.2.2.2.2.1 s.2.1).bind fun n1=>bif decide (s.1<=n1) then some (.done 8) else (aN s.2.2.2.2.1 s.2.1).bind fun n2=>(aN s.2.2.2.2.2 n2).bind fun b3=>bif b3 then some (.done 8) else (aN s.2.2.2.2.1 s.2.1).bind fun n4=>(aN s.2.2.2.2.2 n4).bind fun _=>some (.next (s.1,aA .i64 (s.2.1+1),s.2.2.1,s.2.2.2.1,s.2.2.2.2.1,cP s.2.2.2.2.2 n4 true)) else aJ mH (s.1,0,s.2.2)
def zT (p0:bA):Option Int:=bif decide ((Int.ofNat p0.uses.length)<1) then some 8 else bif decide (200<(Int.ofNat p0.uses.length)) then some 8 else bif (Int.ofNat p0.used.length) !=(Int.ofNat p0.uses.length) then some 8 else bif decide ((Int.ofNat p0.uses.length)<(Int.ofNat p0.free.length)) then some 8 else bif (Int.ofNat p0.uses.length)==(Int.ofNat p0.uses.length) then (EB (Int.ofNat p0.uses.length) (false:Bool)).bind fun l0=>aJ sU (Int.ofNat p0.uses.length,0,p0.uses,p0.used,p0.free,l0) else none
def aT0:bM:=⟨aC.one (aH.agg hJ),aH.int .i64,fun a=>zT a,.pure,false⟩
theorem aKT:aI tab 179 aT0:=Oc aIH rfl aG [] trivial fun a=>by kernel_rfl
def yO (p0:bA) (p1:Int×Int):Option Bool:=bif decide (0<=p1.1) then bif decide (p1.1<(Int.ofNat p0.uses.length)) then (aN p0.used p1.1).bind fun b0=>bif b0 then (aN p0.uses p1.1).bind fun n1=>some (n1==p1.2) else some false else some false else some false
def aRx:bM:=⟨aC.cons (aH.agg hJ) (aC.one (aH.agg (cD.row jH))),aH.bool,fun a=>yO a.1 a.2,.pure,false⟩
theorem aA8:aI tab 183 aRx:=Oc aIL rfl aG [] trivial fun a=>by kernel_rfl
def qT (s:aQ3):Option (cC aQ3 Bool):=bif decide (s.2.1<s.1) then (aN s.2.2.2.1 s.2.1).bind fun b0=>bif !b0 then (aN s.2.2.2.2.2.2 s.2.1).bind fun n1=>bif n1 !=(-1) then some (.done false) else some (.next (s.1,aA .i64 (s.2.1+1),s.2.2)) else (aN s.2.2.2.2.2.2 s.2.1).bind fun n2=>bif decide (n2<0) then some (.done false) else bif decide ((Int.ofNat s.2.2.2.2.2.1.length)<=n2) then some (.done false) else (aN s.2.2.2.2.2.1 n2).bind fun a3=>bif a3.2.2.2.1 !=s.2.1 then some (.done false) else (aN s.2.2.2.2.2.1 n2).bind fun a4=>(yO (bA.mk s.2.2.1 s.2.2.2.1 s.2.2.2.2.1) a4.2.2.2).bind fun b5=>bif !b5 then some (.done false) else some (.next (s.1,aA .i64 (s.2.1+1),s.2.2)) else some (.done true)
def xK (p0:aQ):Option Bool:=bif (Int.ofNat p0.where_.length) !=(Int.ofNat p0.slots.uses.length) then some false else bif (Int.ofNat p0.heap.length) !=(aA .i64 ((Int.ofNat p0.slots.uses.length) - (Int.ofNat p0.slots.free.length))) then some false else aJ qT (Int.ofNat p0.slots.uses.length,0,p0.slots.uses,p0.slots.used,p0.slots.free,p0.heap,p0.where_)
def aT1:bM:=⟨aC.one (aH.agg dB),aH.bool,fun a=>xK a,.pure,false⟩
theorem aKU:aI tab 180 aT1:=Oc aII rfl aG [(183,aRx)] ⟨aA8,trivial⟩ fun a=>by kernel_rfl
def uY (p0:Int) (p1:Int):Option (Bool×Int×Int):=some (false,aA .u64 ((aA .u64 ((aA .u64 ((aA .u64 (Int.tdiv p0 4294967296))*(aA .u64 (Int.tdiv p1 4294967296))))+(aA .u64 (Int.tdiv (aA .u64 ((aA .u64 ((aA .u64 (Int.tdiv p0 4294967296))*(Int.tmod p1 4294967296)))+(aA .u64 (Int.tdiv (aA .u64 ((Int.tmod p0 4294967296)*(Int.tmod p1 4294967296))) 4294967296)))) 4294967296))))+(aA .u64 (Int.tdiv (aA .u64 ((aA .u64 ((Int.tmod p0 4294967296)*(aA .u64 (Int.tdiv p1 4294967296))))+(Int.tmod (aA .u64 ((aA .u64 ((aA .u64 (Int.tdiv p0 4294967296))*(Int.tmod p1 4294967296)))+(aA .u64 (Int.tdiv (aA .u64 ((Int.tmod p0 4294967296)*(Int.tmod p1 4294967296))) 4294967296)))) 4294967296))) 4294967296))),aA .u64 ((aA .u64 ((Int.tmod (aA .u64 ((aA .u64 ((Int.tmod p0 4294967296)*(aA .u64 (Int.tdiv p1 4294967296))))+(Int.tmod (aA .u64 ((aA .u64 ((aA .u64 (Int.tdiv p0 4294967296))*(Int.tmod p1 4294967296)))+(aA .u64 (Int.tdiv (aA .u64 ((Int.tmod p0 4294967296)*(Int.tmod p1 4294967296))) 4294967296)))) 4294967296))) 4294967296)*4294967296))+(Int.tmod (aA .u64 ((Int.tmod p0 4294967296)*(Int.tmod p1 4294967296))) 4294967296)))
def aT2:bM:=⟨aC.cons (aH.int .u64) (aC.one (aH.int .u64)),aH.agg (cD.row EK),fun a=>uY a.1 a.2,.pure,false⟩
theorem aKV:aI tab 151 aT2:=Oc aIr rfl aG [] trivial fun a=>by kernel_rfl
def lJ (p0:Int) (p1:Int):Option (Bool×Int×Int):=(jC p0).bind fun n0=>(jC p1).bind fun n1=>(uY n0 n1).bind fun a2=>bif !((decide (p0<0))==(decide (p1<0))) then bif p0 !=0 then some (p1 !=0,a2.2) else some (false,a2.2) else some (false,a2.2)
def c95:bM:=⟨aC.cons (aH.int .i64) (aC.one (aH.int .i64)),aH.agg (cD.row EK),fun a=>lJ a.1 a.2,.pure,false⟩
theorem aD6:aI tab 95 c95:=Oc aQX rfl aG [(70,c70),(151,aT2)] ⟨Y2,aKV,trivial⟩ fun a=>by kernel_rfl
def nM (p0:Bool×Int×Int):Option Int:=bif p0.2.1==0 then bif p0.2.2==0 then some 0 else bif p0.1 then some (-1) else some 1 else bif p0.1 then some (-1) else some 1
def c96:bM:=⟨aC.one (aH.agg (cD.row EK)),aH.int .i64,fun a=>nM a,.pure,false⟩
theorem aD7:aI tab 96 c96:=Oc aQY rfl aG [] trivial fun a=>by kernel_rfl
def uC (p0:Bool×Int×Int) (p1:Bool×Int×Int):Option Int:=bif p0.2.1 !=p1.2.1 then bif decide (p0.2.1<p1.2.1) then some (-1) else some 1 else bif p0.2.2 !=p1.2.2 then bif decide (p0.2.2<p1.2.2) then some (-1) else some 1 else some 0
def c97:bM:=⟨aC.cons (aH.agg (cD.row EK)) (aC.one (aH.agg (cD.row EK))),aH.int .i64,fun a=>uC a.1 a.2,.pure,false⟩
theorem aD8:aI tab 97 c97:=Oc aQZ rfl aG [] trivial fun a=>by kernel_rfl
def oG (p0:Int×Int) (p1:Int×Int):Option Int:=(lJ p0.1 p1.2).bind fun a0=>(lJ p1.1 p0.2).bind fun a1=>(nM a0).bind fun n2=>(nM a1).bind fun n3=>bif n2 !=n3 then (nM a0).bind fun n4=>(nM a1).bind fun n5=>bif decide (n4<n5) then some (-1) else some 1 else (nM a0).bind fun n6=>bif decide (n6<0) then (uC a1 a0).bind fun n7=>some n7 else (uC a0 a1).bind fun n8=>some n8
def c45:bM:=⟨aC.cons (aH.agg (cD.row jH)) (aC.one (aH.agg (cD.row jH))),aH.int .i64,fun a=>oG a.1 a.2,.pure,false⟩
theorem Y5:aI tab 45 c45:=Oc aQj rfl aG [(95,c95),(96,c96),(97,c97)] ⟨aD6,aD7,aD8,trivial⟩ fun a=>by kernel_rfl
def eS (p0:Int×Int×Int×Int×Int) (p1:Int×Int×Int×Int×Int):Option Bool:=(oG (p0.1,p0.2.1) (p1.1,p1.2.1)).bind fun n0=>bif decide (n0<0) then some true else bif n0==0 then some (decide (p0.2.2.1<p1.2.2.1)) else some false
def Y6:bM:=⟨aC.cons (aH.agg (cD.row kI)) (aC.one (aH.agg (cD.row kI))),aH.bool,fun a=>eS a.1 a.2,.pure,false⟩
theorem FN:aI tab 181 Y6:=Oc aIJ rfl aG [(45,c45)] ⟨Y5,trivial⟩ fun a=>by kernel_rfl
def mI (s:aS4):Option (cC aS4 aQ2):=bif decide (s.2.1<s.1) then (aN s.2.2.2.2.2.1 s.2.1).bind fun a0=>bif a0.2.2.1==s.2.2.2.2.2.2.2.2.2.1 then some (.done (.done 8)) else some (.next (s.1,aA .i64 (s.2.1+1),s.2.2)) else some (.done (.next (aA .i64 (s.1+1),s.2.2.1,s.2.2.2.1,s.2.2.2.2.1,s.2.2.2.2.2.1,s.2.2.2.2.2.2.1)))
def mJ (s:IX):Option (cC IX aQ2):=bif decide (s.1<(Int.ofNat s.2.2.2.2.1.length)) then (aN s.2.2.2.2.1 s.1).bind fun a0=>(aN s.2.2.2.2.1 (aA .i64 (Int.tdiv (aA .i64 (s.1-1)) 2))).bind fun a1=>(eS a0 a1).bind fun b2=>bif b2 then some (.done (.done 8)) else some (.next (aA .i64 (s.1+1),s.2)) else some (.done (.done 0))
def sV (s:IX):Option aQ2:=bif decide (s.1<(Int.ofNat s.2.2.2.2.1.length)) then (aN s.2.2.2.2.1 s.1).bind fun a0=>(rT (a0.1,a0.2.1)).bind fun n1=>bif n1 !=0 then some (.done 8) else bif decide (a0.2.2.1<0) then some (.done 8) else bif decide (1000000<a0.2.2.1) then some (.done 8) else aJ mI (s.1,0,s.2.1,s.2.2.1,s.2.2.2.1,s.2.2.2.2.1,s.2.2.2.2.2,a0) else aJ mJ (1,s.2)
def wI (p0:aQ):Option Int:=(zT p0.slots).bind fun n0=>bif n0 !=0 then some 8 else (xK p0).bind fun b1=>bif !b1 then some 8 else aJ sV (0,p0.slots.uses,p0.slots.used,p0.slots.free,p0.heap,p0.where_)
def aRy:bM:=⟨aC.one (aH.agg dB),aH.int .i64,fun a=>wI a,.pure,false⟩
theorem aA9:aI tab 120 aRy:=Oc aH5 rfl aG [(179,aT0),(180,aT1),(24,c24),(181,Y6)] ⟨aKT,aKU,Y3,FN,trivial⟩ fun a=>by kernel_rfl
def wJ (p0:Bool×Int×Int) (p1:Bool×Int×Int):Option (Bool×Int×Int):=bif decide (p0.2.2<p1.2.2) then some (false,aA .u64 ((aA .u64 (p0.2.1-p1.2.1)) -1),aA .u64 (p0.2.2-p1.2.2)) else some (false,aA .u64 (p0.2.1-p1.2.1),aA .u64 (p0.2.2-p1.2.2))
def aT3:bM:=⟨aC.cons (aH.agg (cD.row EK)) (aC.one (aH.agg (cD.row EK))),aH.agg (cD.row EK),fun a=>wJ a.1 a.2,.pure,false⟩
theorem aKW:aI tab 246 aT3:=Oc aJt rfl aG [] trivial fun a=>by kernel_rfl
def CT (p0:Bool×Int×Int) (p1:Bool×Int×Int):Option (Bool×Int×Int):=bif p0.1==p1.1 then bif decide ((aA .u64 (p0.2.2+p1.2.2))<p0.2.2) then some (p0.1,aA .u64 ((aA .u64 (p0.2.1+p1.2.1))+1),aA .u64 (p0.2.2+p1.2.2)) else some (p0.1,aA .u64 (p0.2.1+p1.2.1),aA .u64 (p0.2.2+p1.2.2)) else (uC p0 p1).bind fun n0=>bif decide (0<=n0) then (wJ p0 p1).bind fun a1=>bif p0.1 then bif decide (0<a1.2.1) then some (true,a1.2) else some (decide (0<a1.2.2),a1.2) else some (false,a1.2) else (wJ p1 p0).bind fun a2=>some (p1.1,a2.2)
def aT4:bM:=⟨aC.cons (aH.agg (cD.row EK)) (aC.one (aH.agg (cD.row EK))),aH.agg (cD.row EK),fun a=>CT a.1 a.2,.pure,false⟩
theorem aKX:aI tab 205 aT4:=Oc aI3 rfl aG [(97,c97),(246,aT3)] ⟨aD8,aKW,trivial⟩ fun a=>by kernel_rfl
def FO (p0:Int×Int×Int) (p1:Int×Int×Int) (p2:Int×Int):Option Int:=(lJ (aA .i64 (p0.2.1-p1.2.1)) p2.2).bind fun a0=>(lJ (aA .i64 (p0.2.2-p1.2.2)) p2.1).bind fun a1=>(CT a0 a1).bind fun a2=>(nM a2).bind fun n3=>some n3
def aT5:bM:=⟨aC.cons (aH.agg (cD.row dZ)) (aC.cons (aH.agg (cD.row dZ)) (aC.one (aH.agg (cD.row jH)))),aH.int .i64,fun a=>FO a.1 a.2.1 a.2.2,.pure,false⟩
theorem aKY:aI tab 155 aT5:=Oc aIt rfl aG [(95,c95),(205,aT4),(96,c96)] ⟨aD6,aKX,aD7,trivial⟩ fun a=>by kernel_rfl
def rV (p0:Int×Int×Int) (p1:Int×Int×Int) (p2:Int×Int):Option Bool:=(FO p0 p1 p2).bind fun n0=>bif n0 !=0 then some (decide (0<n0)) else bif p0.2.2 !=p1.2.2 then some (decide (p1.2.2<p0.2.2)) else some (decide (p0.1<p1.1))
def aKZ:bM:=⟨aC.cons (aH.agg (cD.row dZ)) (aC.cons (aH.agg (cD.row dZ)) (aC.one (aH.agg (cD.row jH)))),aH.bool,fun a=>rV a.1 a.2.1 a.2.2,.pure,false⟩
theorem S7:aI tab 100 aKZ:=Oc aHS rfl aG [(155,aT5)] ⟨aKY,trivial⟩ fun a=>by kernel_rfl
def uD (p0:Bool) (p1:Bool×Int×Int) (p2:Bool×Int×Int):Option ((Int×Int)×Int):=bif decide (0<p1.2.1) then some ((0,0),16) else bif decide (9223372036854775807<p1.2.2) then some ((0,0),16) else bif decide (0<p2.2.1) then some ((0,0),16) else bif decide (9223372036854775807<p2.2.2) then some ((0,0),16) else bif p0 then some ((aA .i64 (0- (aA .i64 p1.2.2)),aA .i64 p2.2.2),0) else some ((aA .i64 p1.2.2,aA .i64 p2.2.2),0)
def aT6:bM:=⟨aC.cons aH.bool (aC.cons (aH.agg (cD.row EK)) (aC.one (aH.agg (cD.row EK)))),aH.tup (aC.cons (aH.agg (cD.row jH)) (aC.one (aH.int .i64))),fun a=>uD a.1 a.2.1 a.2.2,.pure,false⟩
theorem aK0:aI tab 285 aT6:=Oc aJM rfl aG [] trivial fun a=>by kernel_rfl
def pA (p0:Int) (p1:Int):Option ((Int×Int)×Int):=bif p1==0 then some ((0,0),26) else (jC p0).bind fun n0=>(jC p1).bind fun n1=>(sQ n0 n1).bind fun n2=>bif !((decide (p0<0))==(decide (p1<0))) then (jC p0).bind fun n3=>bif n2==0 then none else (jC p1).bind fun n4=>bif n2==0 then none else (uD (p0 !=0) (false,0,aA .u64 (Int.tdiv n3 n2)) (false,0,aA .u64 (Int.tdiv n4 n2))).bind fun a5=>some a5 else (jC p0).bind fun n6=>bif n2==0 then none else (jC p1).bind fun n7=>bif n2==0 then none else (uD false (false,0,aA .u64 (Int.tdiv n6 n2)) (false,0,aA .u64 (Int.tdiv n7 n2))).bind fun a8=>some a8
def aT7:bM:=⟨aC.cons (aH.int .i64) (aC.one (aH.int .i64)),aH.tup (aC.cons (aH.agg (cD.row jH)) (aC.one (aH.int .i64))),fun a=>pA a.1 a.2,.pure,false⟩
theorem aK1:aI tab 265 aT7:=Oc aJC rfl aG [(70,c70),(69,c69),(285,aT6)] ⟨Y2,aD4,aK0,trivial⟩ fun a=>by kernel_rfl
def FP (p0:Int×Int×Int) (p1:Int×Int×Int):Option (Int×Int):=(pA (aA .i64 (p0.2.1-p1.2.1)) (aA .i64 (p1.2.2-p0.2.2))).bind fun a0=>some a0.1
def aT8:bM:=⟨aC.cons (aH.agg (cD.row dZ)) (aC.one (aH.agg (cD.row dZ))),aH.agg (cD.row jH),fun a=>FP a.1 a.2,.pure,false⟩
theorem aK2:aI tab 226 aT8:=Oc aJk rfl aG [(265,aT7)] ⟨aK1,trivial⟩ fun a=>by kernel_rfl
def uZ (p0:Int×Int×Int) (p1:Int×Int×Int) (p2:Int×Int):Option ((Int×Int)×Bool):=(rV p1 p0 p2).bind fun b0=>bif b0 then some (p2,true) else bif decide (p0.2.2<p1.2.2) then (FP p0 p1).bind fun a1=>some (a1,true) else some ((0,0),false)
def aT9:bM:=⟨aC.cons (aH.agg (cD.row dZ)) (aC.cons (aH.agg (cD.row dZ)) (aC.one (aH.agg (cD.row jH)))),aH.tup (aC.cons (aH.agg (cD.row jH)) (aC.one aH.bool)),fun a=>uZ a.1 a.2.1 a.2.2,.pure,false⟩
theorem aK3:aI tab 182 aT9:=Oc aIK rfl aG [(100,aKZ),(226,aT8)] ⟨S7,aK2,trivial⟩ fun a=>by kernel_rfl
def uE (p0:Field) (p1:Int×Int) (p2:Int×Int):Option ((Int×Int)×Bool):=(hO p0 p1.2).bind fun n0=>(aN p0.points n0).bind fun a1=>(hO p0 p1.1).bind fun n2=>(aN p0.points n2).bind fun a3=>(uZ a1 a3 p2).bind fun a4=>some a4
def aK4:bM:=⟨aC.cons (aH.agg bN) (aC.cons (aH.agg (cD.row jH)) (aC.one (aH.agg (cD.row jH)))),aH.tup (aC.cons (aH.agg (cD.row jH)) (aC.one aH.bool)),fun a=>uE a.1 a.2.1 a.2.2,.pure,false⟩
theorem S8:aI tab 121 aK4:=Oc aH6 rfl aG [(25,c25),(182,aT9)] ⟨HF,aK3,trivial⟩ fun a=>by kernel_rfl
def yP (p0:aQ) (p1:Int×Int):Option ((Int×Int×Int×Int×Int)×Int):=(wI p0).bind fun n0=>bif n0 !=0 then some ((0,0,0,0,0),8) else (yO p0.slots p1).bind fun b1=>bif !b1 then some ((0,0,0,0,0),6) else (aN p0.where_ p1.1).bind fun n2=>(aN p0.heap n2).bind fun a3=>some (a3,0)
def aUa:bM:=⟨aC.cons (aH.agg dB) (aC.one (aH.agg (cD.row jH))),aH.tup (aC.cons (aH.agg (cD.row kI)) (aC.one (aH.int .i64))),fun a=>yP a.1 a.2,.pure,false⟩
theorem aK5:aI tab 122 aUa:=Oc aH7 rfl aG [(120,aRy),(183,aRx)] ⟨aA9,aA8,trivial⟩ fun a=>by kernel_rfl
def dO (s:aQ1):Option aSQ:=bif decide (s.2.1<(Int.ofNat s.2.2.2.2.2.2.1.length)) then (aN s.2.2.2.2.2.2.1 s.2.1).bind fun a0=>(uE (Field.mk s.2.2.2.2.1) a0.2 (s.2.2.1,s.2.2.2.1)).bind fun a1=>bif !a1.2 then some (.next (s.1,aA .i64 (s.2.1+1),s.2.2)) else bif decide ((Int.ofNat s.2.2.2.2.2.2.2.2.2.2.2.2.length)<=s.1) then some (.done 8) else (aN s.2.2.2.2.2.2.2.2.2.2.2.2 s.1).bind fun a2=>bif a2.1 !=a0.1 then some (.done 8) else (aN s.2.2.2.2.2.2.2.2.2.2.2.2 s.1).bind fun a3=>(yP (aQ.mk (bA.mk s.2.2.2.2.2.2.2.1 s.2.2.2.2.2.2.2.2.1 s.2.2.2.2.2.2.2.2.2.1) s.2.2.2.2.2.2.2.2.2.2.1 s.2.2.2.2.2.2.2.2.2.2.2.1) a3.2).bind fun a4=>bif a4.2 !=0 then some (.done 8) else bif a4.1.2.2.1 !=a0.1 then some (.done 8) else bif !((a4.1.1==a1.1.1)&&(a4.1.2.1==a1.1.2)) then some (.done 8) else some (.next (aA .i64 (s.1+1),aA .i64 (s.2.1+1),s.2.2)) else bif s.1 !=(Int.ofNat s.2.2.2.2.2.2.2.2.2.2.2.2.length) then some (.done 8) else some (.done 0)
def zU (p0:aP):Option Int:=(rT p0.now).bind fun n0=>bif n0 !=0 then some 8 else (iM p0.field).bind fun n1=>bif n1 !=0 then some 8 else (wG p0.certs).bind fun n2=>bif n2 !=0 then some 8 else (zS p0.certs p0.field).bind fun b3=>bif !b3 then some 8 else (wI p0.agenda).bind fun n4=>bif n4 !=0 then some 8 else bif (Int.ofNat p0.agenda.where_.length) !=200 then some 8 else bif (Int.ofNat p0.agenda.heap.length) !=(Int.ofNat p0.due.length) then some 8 else aJ dO (0,0,p0.now.1,p0.now.2,p0.field.points,p0.certs.next_,p0.certs.list,p0.agenda.slots.uses,p0.agenda.slots.used,p0.agenda.slots.free,p0.agenda.heap,p0.agenda.where_,p0.due)
def c65:bM:=⟨aC.one (aH.agg bL),aH.int .i64,fun a=>zU a,.pure,false⟩
theorem aRz:aI tab 65 c65:=Oc aQv rfl aG [(24,c24),(23,c23),(118,aRw),(119,aTZ),(120,aRy),(121,aK4),(122,aUa)] ⟨Y3,S6,aA7,aKS,aA9,S8,aK5,trivial⟩ fun a=>by kernel_rfl
def nY (s:(Int×Int×bT×Int×Int×Int×Int×Int)):Option (cC (Int×Int×bT×Int×Int×Int×Int×Int) Int):=bif decide (s.2.1<(Int.ofNat s.2.2.1.length)) then (aN s.2.2.1 s.2.1).bind fun a0=>bif a0.1 !=s.2.2.2.1 then (aN s.2.2.1 s.2.1).bind fun a1=>(rV a1 (s.2.2.2.1,s.2.2.2.2.1,s.2.2.2.2.2.1) s.2.2.2.2.2.2).bind fun b2=>bif b2 then some (.next (aA .i64 (s.1+1),aA .i64 (s.2.1+1),s.2.2)) else some (.next (s.1,aA .i64 (s.2.1+1),s.2.2)) else some (.next (s.1,aA .i64 (s.2.1+1),s.2.2)) else some (.done s.1)
def xL (p0:Field) (p1:Int×Int×Int) (p2:Int×Int):Option Int:=aJ nY (0,0,p0.points,p1.1,p1.2.1,p1.2.2,p2)
def aUb:bM:=⟨aC.cons (aH.agg bN) (aC.cons (aH.agg (cD.row dZ)) (aC.one (aH.agg (cD.row jH)))),aH.int .i64,fun a=>xL a.1 a.2.1 a.2.2,.pure,false⟩
theorem aK6:aI tab 111 aUb:=Oc aHW rfl aG [(100,aKZ)] ⟨S7,trivial⟩ fun a=>by kernel_rfl
def mK (s:(Int×bT×Int×Int×(List Int))):Option (cC (Int×bT×Int×Int×(List Int)) (List Int)):=bif decide (s.1<(Int.ofNat s.2.1.length)) then (aN s.2.1 s.1).bind fun a0=>(xL (Field.mk s.2.1) a0 (s.2.2.1,s.2.2.2.1)).bind fun n1=>(aN s.2.1 s.1).bind fun a2=>(aN s.2.2.2.2 n1).bind fun _=>some (.next (aA .i64 (s.1+1),s.2.1,s.2.2.1,s.2.2.2.1,cP s.2.2.2.2 n1 a2.1)) else some (.done s.2.2.2.2)
def vA (p0:Field) (p1:Int×Int):Option (List Int):=bif (Int.ofNat p0.points.length)==(Int.ofNat p0.points.length) then (EB (Int.ofNat p0.points.length) (0:Int)).bind fun l0=>aJ mK (0,p0.points,p1.1,p1.2,l0) else none
def c60:bM:=⟨aC.cons (aH.agg bN) (aC.one (aH.agg (cD.row jH))),aH.sl ki,fun a=>vA a.1 a.2,.frz,false⟩
theorem aRA:aI tab 60 c60:=Oc aQq rfl aG [(111,aUb)] ⟨aK6,trivial⟩ fun a=>by kernel_rfl
def qJ (c0:(((List Int)×Int×Int)->(Option iH))) (s:((List Int)×Int×Int×Int×iH×(List Int))):Option (cC ((List Int)×Int×Int×Int×iH×(List Int)) (cC aQ6 iH)):=bif decide (s.2.2.2.1<(Int.ofNat s.1.length)) then (aN s.1 s.2.2.2.1).bind fun n0=>bif decide (s.2.1<0) then none else bif (Int.tmod (lG .i64 n0 s.2.1) 2)==s.2.2.1 then (aN s.1 s.2.2.2.1).bind fun n1=>(bH s.2.2.2.2.2 [n1]).bind fun l2=>some (.next (s.1,s.2.1,s.2.2.1,aA .i64 (s.2.2.2.1+1),s.2.2.2.2.1,l2)) else some (.next (s.1,s.2.1,s.2.2.1,aA .i64 (s.2.2.2.1+1),s.2.2.2.2)) else (aN s.1 0).bind fun n3=>(c0 (s.2.2.2.2.2,n3,aA .i64 (s.2.1+1))).bind fun l4=>bif l4.isEmpty then some (.done (.next (s.1,s.2.1,aA .i64 (s.2.2.1+1),s.2.2.2.2.1))) else (bH s.2.2.2.2.1 l4).bind fun l5=>some (.done (.next (s.1,s.2.1,aA .i64 (s.2.2.1+1),l5)))
def vB (c0:(((List Int)×Int×Int)->(Option iH))) (s:aQ6):Option (cC aQ6 iH):=bif decide (s.2.2.1<2) then aJ (qJ c0) (s.1,s.2.1,s.2.2.1,1,s.2.2.2,[]) else some (.done s.2.2.2)
def CU (self:(List Int)×Int×Int->Option iH) (a:(List Int)×Int×Int):Option iH:=bif (Int.ofNat a.1.length)==0 then some [] else (aN a.1 0).bind fun n0=>aJ (vB self) (a.1,a.2.2,0,[(n0,a.2.1)])
def iE:Nat->(List Int)×Int×Int->Option iH |0,_=>none |n+1,a=>CU (iE n) a
def HG (p0:List Int) (p1:Int) (p2:Int):Option iH:=iE 1000000 (p0,p1,p2)
def aUc:bM:=⟨aC.cons (aH.sl ki) (aC.cons (aH.int .i64) (aC.one (aH.int .i64))),aH.sl jH,fun a=>HG a.1 a.2.1 a.2.2,.frz,false⟩
theorem WA: ∀n,aI tab 123 ⟨aC.cons (aH.sl ki) (aC.cons (aH.int .i64) (aC.one (aH.int .i64))),aH.sl jH,fun a=>iE n a,.frz,false⟩
 |0=>aI.zero (fun _=>rfl)
 |n+1=>Oc aH8 rfl aG [(123,⟨aC.cons (aH.sl ki) (aC.cons (aH.int .i64) (aC.one (aH.int .i64))),aH.sl jH,fun a=>iE n a,.frz,false⟩)] ⟨(WA n),trivial⟩ fun a=>by kernel_rfl
theorem aK7:aI tab 123 aUc:=WA 1000000
def zV (s:(iH×Int×bT×(List Int))):Option (cC (iH×Int×bT×(List Int)) (List Int)):=bif decide (s.2.1<(Int.ofNat s.1.length)) then (aN s.1 s.2.1).bind fun a0=>(hO (Field.mk s.2.2.1) a0.1).bind fun n1=>(aN s.1 s.2.1).bind fun a2=>(aN s.2.2.2 n1).bind fun _=>some (.next (s.1,aA .i64 (s.2.1+1),s.2.2.1,cP s.2.2.2 n1 a2.2)) else some (.done s.2.2.2)
def BN (p0:Field) (p1:Int×Int):Option (List Int):=(vA p0 p1).bind fun l0=>(HG l0 (-1) 0).bind fun l1=>bif (Int.ofNat p0.points.length)==(Int.ofNat p0.points.length) then (EB (Int.ofNat p0.points.length) (0:Int)).bind fun l2=>aJ zV (l1,0,p0.points,l2) else none
def c66:bM:=⟨aC.cons (aH.agg bN) (aC.one (aH.agg (cD.row jH))),aH.sl ki,fun a=>BN a.1 a.2,.frz,false⟩
theorem aD9:aI tab 66 c66:=Oc aQw rfl aG [(60,c60),(123,aUc),(25,c25)] ⟨aRA,aK7,HF,trivial⟩ fun a=>by kernel_rfl
def pT (s:aJZ):Option (cC aJZ Bool):=bif decide (s.2.2<(Int.ofNat s.1.length)) then (aN s.1 s.2.2).bind fun n0=>(aN s.2.1 s.2.2).bind fun n1=>bif n0 !=n1 then some (.done false) else some (.next (s.1,s.2.1,aA .i64 (s.2.2+1))) else some (.done true)
def qK (p0:List Int) (p1:List Int):Option Bool:=bif (Int.ofNat p0.length) !=(Int.ofNat p1.length) then some false else aJ pT (p0,p1,0)
def c41:bM:=⟨aC.cons (aH.sl ki) (aC.one (aH.sl ki)),aH.bool,fun a=>qK a.1 a.2,.pure,false⟩
theorem aEa:aI tab 41 c41:=Oc aQh rfl aG [] trivial fun a=>by kernel_rfl
def zW (s:((List Int)×Int×bT×iH)):Option (cC ((List Int)×Int×bT×iH) iH):=bif decide (s.2.1<(Int.ofNat s.1.length)) then (aN s.1 s.2.1).bind fun n0=>bif decide (0<=n0) then (aN s.2.2.1 s.2.1).bind fun a1=>(aN s.1 s.2.1).bind fun n2=>(bH s.2.2.2 [(a1.1,n2)]).bind fun l3=>some (.next (s.1,aA .i64 (s.2.1+1),s.2.2.1,l3)) else some (.next (s.1,aA .i64 (s.2.1+1),s.2.2)) else some (.done s.2.2.2)
def BO (p0:Field) (p1:List Int):Option iH:=aJ zW (p1,0,p0.points,[])
def c58:bM:=⟨aC.cons (aH.agg bN) (aC.one (aH.sl ki)),aH.sl jH,fun a=>BO a.1 a.2,.frz,false⟩
theorem aEb:aI tab 58 c58:=Oc aQp rfl aG [] trivial fun a=>by kernel_rfl
def xM (s:(Int×Int×bT×Int×Int)):Option (cC (Int×Int×bT×Int×Int) Bool):=bif decide (s.1<(Int.ofNat s.2.2.1.length)) then (aN s.2.2.1 s.1).bind fun a0=>bif (a0.2.1==s.2.2.2.1)&&(a0.2.2==s.2.2.2.2) then some (.done true) else some (.next (aA .i64 (s.1+1),s.2)) else some (.done false)
def xU (p0:bK) (p1:Int×Int):Option Bool:=aJ xM (0,p0.next_,p0.list,p1)
def aK8:bM:=⟨aC.cons (aH.agg hM) (aC.one (aH.agg (cD.row jH))),aH.bool,fun a=>xU a.1 a.2,.pure,false⟩
theorem S9:aI tab 124 aK8:=Oc aH9 rfl aG [] trivial fun a=>by kernel_rfl
def CV (p0:Int×Int) (p1:Field) (p2:Int×Int):Option Bool:=(hO p1 p0.2).bind fun n0=>(aN p1.points n0).bind fun a1=>(hO p1 p0.1).bind fun n2=>(aN p1.points n2).bind fun a3=>(rV a1 a3 p2).bind fun b4=>some b4
def aUd:bM:=⟨aC.cons (aH.agg (cD.row jH)) (aC.cons (aH.agg bN) (aC.one (aH.agg (cD.row jH)))),aH.bool,fun a=>CV a.1 a.2.1 a.2.2,.pure,false⟩
theorem aK9:aI tab 125 aUd:=Oc aIa rfl aG [(25,c25),(100,aKZ)] ⟨HF,S7,trivial⟩ fun a=>by kernel_rfl
def vC (s:aSP):Option (cC aSP Bool):=bif decide (s.2.1<(Int.ofNat s.1.length)) then (aN s.1 s.2.1).bind fun a0=>(xU (bK.mk s.2.2.2.2.2.1 s.2.2.2.2.2.2.1) a0).bind fun b1=>bif !b1 then some (.done false) else (aN s.1 s.2.1).bind fun a2=>(CV a2 (Field.mk s.2.2.2.2.1) (s.2.2.1,s.2.2.2.1)).bind fun b3=>bif !b3 then some (.done false) else some (.next (s.1,aA .i64 (s.2.1+1),s.2.2)) else some (.done true)
def CW (p0:aP) (p1:List (Int×Int)):Option Bool:=bif (Int.ofNat p0.certs.list.length) !=(Int.ofNat p1.length) then some false else aJ vC (p1,0,p0.now.1,p0.now.2,p0.field.points,p0.certs.next_,p0.certs.list,p0.agenda.slots.uses,p0.agenda.slots.used,p0.agenda.slots.free,p0.agenda.heap,p0.agenda.where_,p0.due)
def c67:bM:=⟨aC.cons (aH.agg bL) (aC.one (aH.sl jH)),aH.bool,fun a=>CW a.1 a.2,.pure,false⟩
theorem aRB:aI tab 67 c67:=Oc aQx rfl aG [(124,aK8),(125,aUd)] ⟨S9,aK9,trivial⟩ fun a=>by kernel_rfl
def iN (p0:aZ):Option Int:=(zU p0.clock).bind fun n0=>bif n0 !=0 then some 8 else (BN p0.clock.field p0.clock.now).bind fun l1=>(qK l1 p0.up).bind fun b2=>bif !b2 then some 8 else (BO p0.clock.field l1).bind fun l3=>(CW p0.clock l3).bind fun b4=>bif !b4 then some 8 else some 0
def c20:bM:=⟨aC.one (aH.agg bU),aH.int .i64,fun a=>iN a,.pure,false⟩
theorem TA:aI tab 20 c20:=Oc aPZ rfl aG [(65,c65),(66,c66),(41,c41),(58,c58),(67,c67)] ⟨aRz,aD9,aEa,aEb,aRB,trivial⟩ fun a=>by kernel_rfl
def lD (p0:aP) (p1:Int×Int):Option Int:=(rT p1).bind fun n0=>bif n0 !=0 then some 8 else (oG p1 p0.now).bind fun n1=>bif decide (n1<0) then some 44 else some 0
def c76:bM:=⟨aC.cons (aH.agg bL) (aC.one (aH.agg (cD.row jH))),aH.int .i64,fun a=>lD a.1 a.2,.pure,false⟩
theorem aRC:aI tab 76 c76:=Oc aQF rfl aG [(24,c24),(45,c45)] ⟨Y3,Y5,trivial⟩ fun a=>by kernel_rfl
def zX (p0:aP) (p1:Int×Int):Option Bool:=bif decide (0<(Int.ofNat p0.agenda.heap.length)) then (aN p0.agenda.heap 0).bind fun a0=>(oG (a0.1,a0.2.1) p1).bind fun n1=>some (decide (n1<=0)) else some false
def aUf:bM:=⟨aC.cons (aH.agg bL) (aC.one (aH.agg (cD.row jH))),aH.bool,fun a=>zX a.1 a.2,.pure,false⟩
theorem aLa:aI tab 137 aUf:=Oc aIj rfl aG [(45,c45)] ⟨Y5,trivial⟩ fun a=>by kernel_rfl
def zY (s:(Int×Int×Int×bT)):Option (cC (Int×Int×Int×bT) Int):=bif decide (s.2.1<(Int.ofNat s.2.2.2.length)) then (aN s.2.2.2 s.2.1).bind fun a0=>bif a0.1==s.1 then some (.done s.2.1) else some (.next (s.1,aA .i64 (s.2.1+1),s.2.2)) else some (.done (-1))
def OO (p0:bK) (p1:Int):Option Int:=aJ zY (p1,0,p0.next_,p0.list)
def aUg:bM:=⟨aC.cons (aH.agg hM) (aC.one (aH.int .i64)),aH.int .i64,fun a=>OO a.1 a.2,.pure,false⟩
theorem aLb:aI tab 198 aUg:=Oc aIZ rfl aG [] trivial fun a=>by kernel_rfl
def mL (s:aTb):Option (cC aTb bK):=bif decide (s.2.1<(Int.ofNat s.2.2.2.1.length)) then (aN s.2.2.2.1 s.2.1).bind fun a0=>bif a0.1 !=s.1 then (aN s.2.2.2.1 s.2.1).bind fun a1=>(bH s.2.2.2.2.2.2 [a1]).bind fun l2=>some (.next (s.1,aA .i64 (s.2.1+1),s.2.2.1,s.2.2.2.1,s.2.2.2.2.1,s.2.2.2.2.2.1,l2)) else some (.next (s.1,aA .i64 (s.2.1+1),s.2.2)) else some (.done (bK.mk s.2.2.2.2.2.1 s.2.2.2.2.2.2))
def vD (p0:bK) (p1:Int):Option bK:=aJ mL (p1,0,p0.next_,p0.list,0,p0.next_,[])
def c92:bM:=⟨aC.cons (aH.agg hM) (aC.one (aH.int .i64)),aH.agg hM,fun a=>vD a.1 a.2,.frz,false⟩
theorem aRD:aI tab 92 c92:=Oc aQU rfl aG [] trivial fun a=>by kernel_rfl
def sW (s:aQ1):Option aSQ:=bif decide (s.2.1<(Int.ofNat s.2.2.2.2.2.2.2.2.2.2.2.2.length)) then (aN s.2.2.2.2.2.2.2.2.2.2.2.2 s.2.1).bind fun a0=>bif a0.1==s.1 then some (.done s.2.1) else some (.next (s.1,aA .i64 (s.2.1+1),s.2.2)) else some (.done (-1))
def rW (p0:aP) (p1:Int):Option Int:=aJ sW (p1,0,p0.now.1,p0.now.2,p0.field.points,p0.certs.next_,p0.certs.list,p0.agenda.slots.uses,p0.agenda.slots.used,p0.agenda.slots.free,p0.agenda.heap,p0.agenda.where_,p0.due)
def c93:bM:=⟨aC.cons (aH.agg bL) (aC.one (aH.int .i64)),aH.int .i64,fun a=>rW a.1 a.2,.pure,false⟩
theorem aEc:aI tab 93 c93:=Oc aQV rfl aG [] trivial fun a=>by kernel_rfl
def rX (p0:bA) (p1:Int×Int):Option bA:=(oW p0).bind fun r0=>(aN r0.used p1.1).bind fun _=>(bH r0.free [p1.1]).bind fun l2=>some (bA.mk r0.uses (cP r0.used p1.1 false) l2)
def aUh:bM:=⟨aC.cons (aH.agg hJ) (aC.one (aH.agg (cD.row jH))),aH.agg hJ,fun a=>rX a.1 a.2,.frz,false⟩
theorem aLc:aI tab 148 aUh:=Oc aIq rfl aG [(184,aDW),(184,VM)] ⟨MJ,IZ,trivial⟩ fun a=>by kernel_rfl
def gB (a:aQ3):Option aQ4:=(aN a.2.2.2.2.2.1 a.2.1).bind fun a0=>(aN a.2.2.2.2.2.1 a.1).bind fun a1=>(aN a.2.2.2.2.2.1 a.1).bind fun _=>(aN (cP a.2.2.2.2.2.1 a.1 a0) a.2.1).bind fun _=>(aN (cP (cP a.2.2.2.2.2.1 a.1 a0) a.2.1 a1) a.1).bind fun a4=>(aN (cP (cP a.2.2.2.2.2.1 a.1 a0) a.2.1 a1) a.2.1).bind fun a5=>(aN a.2.2.2.2.2.2 a4.2.2.2.1).bind fun _=>(aN (cP a.2.2.2.2.2.2 a4.2.2.2.1 a.1) a5.2.2.2.1).bind fun _=>bif a.2.2.1.length==a.2.2.1.length then bif a.2.2.2.1.length==a.2.2.2.1.length then bif a.2.2.2.2.1.length==a.2.2.2.2.1.length then bif ((cP (cP a.2.2.2.2.2.1 a.1 a0) a.2.1 a1).length)==a.2.2.2.2.2.1.length then bif ((cP (cP a.2.2.2.2.2.2 a4.2.2.2.1 a.1) a5.2.2.2.1 a.2.1).length)==a.2.2.2.2.2.2.length then some (a.2.2.1,a.2.2.2.1,a.2.2.2.2.1,cP (cP a.2.2.2.2.2.1 a.1 a0) a.2.1 a1,cP (cP a.2.2.2.2.2.2 a4.2.2.2.1 a.1) a5.2.2.2.1 a.2.1) else none else none else none else none else none
def HH:eH:=⟨[.i,.i,.l [.i .i64],.l [.b],.l [.i .i64],.l [.i .i64,.i .i64,.i .i64,.i .i64,.i .i64],.l [.i .i64]],[.agg [.own 0 false,.own 1 false,.own 2 false,.own 3 false,.own 4 false],.int .i64 0,.int .i64 0],[.arr [.i .i64] [],.arr [.b] [],.arr [.i .i64] [],.arr [.i .i64,.i .i64,.i .i64,.i .i64,.i .i64] [],.arr [.i .i64] []],[.l [.i .i64],.l [.b],.l [.i .i64],.l [.i .i64,.i .i64,.i .i64,.i .i64,.i .i64],.l [.i .i64]],.tup [],[.arr [.i .i64] [],.arr [.b] [],.arr [.i .i64] [],.arr [.i .i64,.i .i64,.i .i64,.i .i64,.i .i64] [],.arr [.i .i64] []],fun a=>gB a⟩
theorem xV:kC tab 147 HH:=kC.of SN (wd:=false) (cx:=(pQ aG [] [] [] [])) (mF.make trivial trivial trivial) (fun a=>by kernel_rfl)
def iA (a:((List Int)×(List Bool)×(List Int)×Nat×Nat×Int×Int×kT×(List Int))):Option PZ:=(aN (a.2.2.2.2.2.2.2.1.take a.2.2.2.1) a.2.2.2.2.2.2.1).bind fun a0=>(aN (a.2.2.2.2.2.2.2.1.take a.2.2.2.1) a.2.2.2.2.2.1).bind fun a1=>(aN (a.2.2.2.2.2.2.2.1.take a.2.2.2.1) a.2.2.2.2.2.1).bind fun _=>(aN ((cP a.2.2.2.2.2.2.2.1 a.2.2.2.2.2.1 a0).take a.2.2.2.1) a.2.2.2.2.2.2.1).bind fun _=>(aN ((cP (cP a.2.2.2.2.2.2.2.1 a.2.2.2.2.2.1 a0) a.2.2.2.2.2.2.1 a1).take a.2.2.2.1) a.2.2.2.2.2.1).bind fun a4=>(aN ((cP (cP a.2.2.2.2.2.2.2.1 a.2.2.2.2.2.1 a0) a.2.2.2.2.2.2.1 a1).take a.2.2.2.1) a.2.2.2.2.2.2.1).bind fun a5=>(aN a.2.2.2.2.2.2.2.2 a4.2.2.2.1).bind fun _=>(aN (cP a.2.2.2.2.2.2.2.2 a4.2.2.2.1 a.2.2.2.2.2.1) a5.2.2.2.1).bind fun _=>bif ((cP (cP a.2.2.2.2.2.2.2.1 a.2.2.2.2.2.1 a0) a.2.2.2.2.2.2.1 a1).length)==a.2.2.2.2.2.2.2.1.length then bif ((cP (cP a.2.2.2.2.2.2.2.2 a4.2.2.2.1 a.2.2.2.2.2.1) a5.2.2.2.1 a.2.2.2.2.2.2.1).length)==a.2.2.2.2.2.2.2.2.length then some (cP (cP a.2.2.2.2.2.2.2.1 a.2.2.2.2.2.1 a0) a.2.2.2.2.2.2.1 a1,cP (cP a.2.2.2.2.2.2.2.2 a4.2.2.2.1 a.2.2.2.2.2.1) a5.2.2.2.1 a.2.2.2.2.2.2.1) else none else none
def HI:eH:=⟨[.l [.i .i64],.l [.b],.l [.i .i64],.n,.n,.i,.i,.l [.i .i64,.i .i64,.i .i64,.i .i64,.i .i64],.l [.i .i64]],[.agg [.sl [.i .i64] [],.sl [.b] [],.sl [.i .i64] [],.pre 0 0 0 false,.own 1 false],.int .i64 0,.int .i64 0],[.arr [.i .i64,.i .i64,.i .i64,.i .i64,.i .i64] [],.arr [.i .i64] []],[.l [.i .i64,.i .i64,.i .i64,.i .i64,.i .i64],.l [.i .i64]],.tup [],[.arr [.i .i64,.i .i64,.i .i64,.i .i64,.i .i64] [],.arr [.i .i64] []],fun a=>iA a⟩
theorem xW:kC tab 147 HI:=kC.of SN (wd:=false) (cx:=(pQ aG [] [] [] [])) (mF.make trivial trivial trivial) (fun a=>by kernel_rfl)
def iW (c0:aJT) (s:aJU):Option (cC aJU aJY):=bif decide (0<s.1) then (aN (s.2.1.take s.2.2.2.2.2.2.1) s.1).bind fun a0=>(aN (s.2.1.take s.2.2.2.2.2.2.1) (aA .i64 (Int.tdiv (aA .i64 (s.1-1)) 2))).bind fun a1=>(eS a0 a1).bind fun b2=>bif b2 then (iA (s.2.2.2.1,s.2.2.2.2.1,s.2.2.2.2.2.1,s.2.2.2.2.2.2.1,s.2.2.2.2.2.2.2,s.1,aA .i64 (Int.tdiv (aA .i64 (s.1-1)) 2),s.2.1,s.2.2.1)).bind fun a3=>some (.next (aA .i64 (Int.tdiv (aA .i64 (s.1-1)) 2),a3.1,a3.2,s.2.2.2)) else bif s.2.1.length==c0.2.2.2.2.2.2.1.length then bif s.2.2.1.length==c0.2.2.2.2.2.2.2.length then some (.done (s.1,s.2.1,s.2.2.1)) else none else none else bif s.2.1.length==c0.2.2.2.2.2.2.1.length then bif s.2.2.1.length==c0.2.2.2.2.2.2.2.length then some (.done (s.1,s.2.1,s.2.2.1)) else none else none
def pB (a:aJT):Option aJY:=aJ (iW a) (a.2.2.2.2.2.1,a.2.2.2.2.2.2.1,a.2.2.2.2.2.2.2,a.1,a.2.1,a.2.2.1,a.2.2.2.1,a.2.2.2.2.1)
def TB:eH:=⟨[.l [.i .i64],.l [.b],.l [.i .i64],.n,.n,.i,.l [.i .i64,.i .i64,.i .i64,.i .i64,.i .i64],.l [.i .i64]],[.agg [.sl [.i .i64] [],.sl [.b] [],.sl [.i .i64] [],.pre 0 0 0 false,.own 1 false],.int .i64 0],[.arr [.i .i64,.i .i64,.i .i64,.i .i64,.i .i64] [],.arr [.i .i64] []],[.i,.l [.i .i64,.i .i64,.i .i64,.i .i64,.i .i64],.l [.i .i64]],.int .i64 0,[.arr [.i .i64,.i .i64,.i .i64,.i .i64,.i .i64] [],.arr [.i .i64] []],fun a=>pB a⟩
theorem KP:kC tab 150 TB:=kC.of SP (wd:=true) (cx:=(pQ aG [(181,Y6)] [(147,HH),(147,HI)] [] [])) (mF.make ⟨FN,trivial⟩ ⟨xV,xW,trivial⟩ trivial) (fun a=>by kernel_rfl)
def lW (c0:aJT) (s:aJU):Option (cC aJU PZ):=match s with |(a,b,d,e,f,g,h,i)=>bif decide ((Int.ofNat h)<=(aA .i64 ((aA .i64 (2*a))+1))) then bif b.length==c0.2.2.2.2.2.2.1.length then bif d.length==c0.2.2.2.2.2.2.2.length then some (.done (b,d)) else none else none else bif decide ((aA .i64 ((aA .i64 ((aA .i64 (2*a))+1))+1))<(Int.ofNat h)) then (aN (b.take h) (aA .i64 ((aA .i64 ((aA .i64 (2*a))+1))+1))).bind fun a0=>(aN (b.take h) (aA .i64 ((aA .i64 (2*a))+1))).bind fun a1=>(eS a0 a1).bind fun b2=>bif b2 then (aN (b.take h) (aA .i64 ((aA .i64 ((aA .i64 (2*a))+1))+1))).bind fun a3=>(aN (b.take h) a).bind fun a4=>(eS a3 a4).bind fun b5=>bif !b5 then bif b.length==c0.2.2.2.2.2.2.1.length then bif d.length==c0.2.2.2.2.2.2.2.length then some (.done (b,d)) else none else none else (iA (e,f,g,h,i,a,aA .i64 ((aA .i64 ((aA .i64 (2*a))+1))+1),b,d)).bind fun a6=>some (.next (aA .i64 ((aA .i64 ((aA .i64 (2*a))+1))+1),a6.1,a6.2,(e,f,g,h,i))) else (aN (b.take h) (aA .i64 ((aA .i64 (2*a))+1))).bind fun a7=>(aN (b.take h) a).bind fun a8=>(eS a7 a8).bind fun b9=>bif !b9 then bif b.length==c0.2.2.2.2.2.2.1.length then bif d.length==c0.2.2.2.2.2.2.2.length then some (.done (b,d)) else none else none else (iA (e,f,g,h,i,a,aA .i64 ((aA .i64 (2*a))+1),b,d)).bind fun a10=>some (.next (aA .i64 ((aA .i64 (2*a))+1),a10.1,a10.2,(e,f,g,h,i))) else (aN (b.take h) (aA .i64 ((aA .i64 (2*a))+1))).bind fun a11=>(aN (b.take h) a).bind fun a12=>(eS a11 a12).bind fun b13=>bif !b13 then bif b.length==c0.2.2.2.2.2.2.1.length then bif d.length==c0.2.2.2.2.2.2.2.length then some (.done (b,d)) else none else none else (iA (e,f,g,h,i,a,aA .i64 ((aA .i64 (2*a))+1),b,d)).bind fun a14=>some (.next (aA .i64 ((aA .i64 (2*a))+1),a14.1,a14.2,(e,f,g,h,i)))
def mM (a:aJT):Option PZ:=aJ (lW a) (a.2.2.2.2.2.1,a.2.2.2.2.2.2.1,a.2.2.2.2.2.2.2,a.1,a.2.1,a.2.2.1,a.2.2.2.1,a.2.2.2.2.1)
def Y7:eH:=⟨[.l [.i .i64],.l [.b],.l [.i .i64],.n,.n,.i,.l [.i .i64,.i .i64,.i .i64,.i .i64,.i .i64],.l [.i .i64]],[.agg [.sl [.i .i64] [],.sl [.b] [],.sl [.i .i64] [],.pre 0 0 0 false,.own 1 false],.int .i64 0],[.arr [.i .i64,.i .i64,.i .i64,.i .i64,.i .i64] [],.arr [.i .i64] []],[.l [.i .i64,.i .i64,.i .i64,.i .i64,.i .i64],.l [.i .i64]],.tup [],[.arr [.i .i64,.i .i64,.i .i64,.i .i64,.i .i64] [],.arr [.i .i64] []],fun a=>mM a⟩
end
end
end Go.Proofs.YtbncnimfgdelaaaGreat
