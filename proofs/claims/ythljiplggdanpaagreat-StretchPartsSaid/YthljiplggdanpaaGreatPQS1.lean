/- Plain functions for what the functions of the seat compute. Printed by a program. -/
import Derived.Test.YthljiplggdanpaaGreatPVm3
import Derived.Test.YthljiplggdanpaaGreatPQXT
open Int renaming ofNat->EQ,tdiv->If,tmod->IR
open Nat renaming ble->NE
open List renaming replicate->PP,length->UV
open Option renaming some->WF,none->aa9
open Bool renaming true->aaE,false->aaF
open Decidable renaming decide->ab1
set_option maxRecDepth 100000
namespace Go.Proofs.YthljiplggdanpaaGreat
open Go.Vm
noncomputable section
theorem Ob {f:FuncId} {x:ax} {α β:Type} {args:bJ α} {res:Arg β} {kd:Kd} {fn:α->Option β} {ow:Bool} (hf:nB f=WF (.code x)) (lp:Option Nat) (l:List (Nat×D7)) (h:AN nB l) (ho:Wu kd ow=aaE:=by rfl) (e: ∀a,Uz (BU lp l [] [] []) x args res kd a=fn a:=by intro a;kernel_rfl):jj nB f ⟨args,res,fn,kd,ow⟩:=jj.of hf (cx:=BU lp l [] [] []) ho (vu.make h trivial trivial) e
structure Ce where
 i:Nat
 c:D7
 ok:jj nB i c
def ceL:List Ce->List (Nat×D7) | []=>[] |e::r=>(e.i,e.c)::ceL r
theorem Zq: ∀l:List Ce,AN nB (ceL l)
 | []=>trivial
 |e::r=>⟨e.ok,Zq r⟩
structure Pe where
 i:Nat
 c:fb
 ok:nC nB i c
def peL:List Pe->List (Nat×fb) | []=>[] |e::r=>(e.i,e.c)::peL r
theorem Zr: ∀l:List Pe,H7 nB (peL l)
 | []=>trivial
 |e::r=>⟨e.ok,Zr r⟩
structure Fe where
 i:Nat
 c:Cd
 ok:nB i=WF c.ent
def feL:List Fe->List (Nat×Cd) | []=>[] |e::r=>(e.i,e.c)::feL r
theorem Zs: ∀l:List Fe,AO nB (feL l)
 | []=>trivial
 |e::r=>⟨e.ok,Zs r⟩
def Oe [LP] (f:FuncId) {x:ax} {α β:Type} (hf:nB f=WF (.code x)) (l:List Ce) (p:List Pe) (k:List Fe) (args:bJ α) (res:Arg β) (kd:Kd) (fg:α->Option β) (ow:Bool:=aaF) (ho:Wu kd ow=aaE:=by rfl) (e: ∀a,Uz (BU oI (ceL l) (peL p) (feL k) []) x args res kd a=fg a:=by intro a;kernel_rfl):Ce:=⟨f,⟨args,res,fg,kd,ow⟩,jj.of hf (cx:=BU oI (ceL l) (peL p) (feL k) []) ho (vu.make (Zq l) (Zr p) (Zs k)) e⟩
abbrev Oc [LP] (f:FuncId) {x:ax} {α β:Type} (hf:nB f=WF (.code x)) (l:List Ce) (args:bJ α) (res:Arg β) (kd:Kd) (fg:α->Option β) (ow:Bool:=aaF) (ho:Wu kd ow=aaE:=by rfl) (e: ∀a,Uz (BU oI (ceL l) [] [] []) x args res kd a=fg a:=by intro a;kernel_rfl):Ce:=Oe f hf l [] [] args res kd fg ow ho e
abbrev u2 {α β γ:Type} (f:α->β->γ) (a:α×β):γ:=f a.1 a.2
abbrev u3 {α β γ δ:Type} (f:α->β->γ->δ) (a:α×β×γ):δ:=f a.1 a.2.1 a.2.2
abbrev aG {α β:Type} (x:bL α) (y:bJ β):=bJ.cons (Arg.agg x) y
abbrev aL {β:Type} (x:List PT) (y:bJ β):=bJ.cons (Arg.sl x) y
abbrev aI {β:Type} (y:bJ β):=bJ.cons (Arg.int .i64) y
abbrev gG {α:Type} (x:bL α):=bJ.one (Arg.agg x)
abbrev gL (x:List PT):=bJ.one (Arg.sl x)
abbrev gI:=bJ.one (Arg.int .i64)
abbrev tG {α:Type} (x:bL α):=Arg.cV (aG x gI)
abbrev kb:List PT:=[.b]
abbrev ki:List PT:=[.i .i64]
abbrev dB:List PT:=[.i .i64,.i .i64,.i .i64]
abbrev oM:List PT:=[.i .i64,.i .i64,.i .i64,.i .i64,.i .i64]
abbrev fQ:List PT:=[.i .i64,.i .i64]
abbrev CA:List PT:=[.b,.i .u64,.i .u64]
abbrev aj1:List PT:=[.i .i64,.i .i64,.i .i64,.i .i64]
abbrev kiu:List PT:=[.i .i64,.i .u64]
abbrev CB:List PT:=[.i .u8,.i .i64,.i .i64,.i .i64,.i .i64,.i .i64,.i .i64]
structure Field where
 am:List (Int×Int×Int)
def bw:bL Field:=bL.H4 (bL.sl dB) (fun p=>⟨p⟩) (fun c=>c.am) (fun _=>rfl)
structure bD where
 aC:List Int
 be:List Bool
 bi:List Int
def pD:bL bD:=bL.H4 (bL.prod (bL.sl ki) (bL.prod (bL.sl kb) (bL.sl ki))) (fun p=>⟨p.1,p.2.1,p.2.2⟩) (fun c=>(c.aC,c.be,c.bi)) (fun _=>rfl)
structure aV where
 aj:bD
 bv:List (Int×Int×Int×Int×Int)
 aB:List Int
def gX:bL aV:=bL.H4 (bL.prod pD (bL.prod (bL.sl oM) (bL.sl ki))) (fun p=>⟨p.1,p.2.1,p.2.2⟩) (fun c=>(c.aj,c.bv,c.aB)) (fun _=>rfl)
structure bX where
 aU:Int
 ce:List (Int×Int×Int)
def pE:bL bX:=bL.H4 (bL.prod (bL.int .i64) (bL.sl dB)) (fun p=>⟨p.1,p.2⟩) (fun c=>(c.aU,c.ce)) (fun _=>rfl)
structure aH where
 ii:Int×Int
 io:Field
 af:bX
 ae:aV
 jp:List (Int×Int×Int)
def b9:bL aH:=bL.H4 (bL.prod (bL.row fQ) (bL.prod bw (bL.prod pE (bL.prod gX (bL.sl dB))))) (fun p=>⟨p.1,p.2.1,p.2.2.1,p.2.2.2.1,p.2.2.2.2⟩) (fun c=>(c.ii,c.io,c.af,c.ae,c.jp)) (fun _=>rfl)
structure bE where
 kw:aH
 bv:List Int
def kV:bL bE:=bL.H4 (bL.prod b9 (bL.sl ki)) (fun p=>⟨p.1,p.2⟩) (fun c=>(c.kw,c.bv)) (fun _=>rfl)
structure bG where
 aW:List Int
 k8:List Int
def iD:bL bG:=bL.H4 (bL.prod (bL.sl ki) (bL.sl ki)) (fun p=>⟨p.1,p.2⟩) (fun c=>(c.aW,c.k8)) (fun _=>rfl)
structure bN where
 kw:aH
 lc:bG
def iP:bL bN:=bL.H4 (bL.prod b9 iD) (fun p=>⟨p.1,p.2⟩) (fun c=>(c.kw,c.lc)) (fun _=>rfl)
structure Tree where
 ls:Int
 lw:List (Int×Int×Int)
def xx:bL Tree:=bL.H4 (bL.prod (bL.int .i64) (bL.sl dB)) (fun p=>⟨p.1,p.2⟩) (fun c=>(c.ls,c.lw)) (fun _=>rfl)
structure bC where
 kw:aH
 pp:Tree
def fF:bL bC:=bL.H4 (bL.prod b9 xx) (fun p=>⟨p.1,p.2⟩) (fun c=>(c.kw,c.pp)) (fun _=>rfl)
structure bH where
 kw:aH
 up:List Int
def fG:bL bH:=bL.H4 (bL.prod b9 (bL.sl ki)) (fun p=>⟨p.1,p.2⟩) (fun c=>(c.kw,c.up)) (fun _=>rfl)
structure Choice where
 ut:Int
 bv:bE
 gC:bN
 dU:bC
 cH:bH
def dN:bL Choice:=bL.H4 (bL.prod (bL.int .u8) (bL.prod kV (bL.prod iP (bL.prod fF fG)))) (fun p=>⟨p.1,p.2.1,p.2.2.1,p.2.2.2.1,p.2.2.2.2⟩) (fun c=>(c.ut,c.bv,c.gC,c.dU,c.cH)) (fun _=>rfl)
def xy:Ce:=⟨213,(D7.clone kb),jj.clone rfl rfl⟩
def Zt:Ce:=⟨313,(D7.UB),jj.UB rfl⟩
def iu:Ce:=⟨100,(D7.clone ki),jj.clone rfl rfl⟩
def wK:Ce:=⟨59,(D7.clone dB),jj.clone rfl rfl⟩
def zT:Ce:=⟨210,(D7.clone dB),jj.clone rfl rfl⟩
def F0:Ce:=⟨211,(D7.clone dB),jj.clone rfl rfl⟩
def xz:Ce:=⟨212,(D7.clone oM),jj.clone rfl rfl⟩
def QK:Ce:=⟨322,(D7.clone ki),jj.clone rfl rfl⟩
abbrev dI:aH:=aH.mk (0,0) (Field.mk []) (bX.mk 0 []) (aV.mk (bD.mk [] [] []) [] []) []
section
abbrev fH:=List (Int×Int×Int×Int×Int)
abbrev aN:=List (Int×Int×Int)
abbrev Zt7:=Int×Int×Int×aN×Int×aN×(List Int)×(List Bool)×(List Int)×fH×(List Int)×aN×Int×Int×aN×Int×aN×(List Int)×(List Bool)×(List Int)×fH×(List Int)×aN
abbrev bK:=List (Int×Int)
abbrev aj2:=bK×aN×Int×Int×Int×Int×aN×Int×aN×(List Int)×(List Bool)×(List Int)×fH×(List Int)×aN×(List Int)
abbrev aj3:=aN×aN×Int×Int×Int×Int×aN×Int×aN×(List Int)×(List Bool)×(List Int)×fH×(List Int)×aN
abbrev aj4:=aN×Int×Int×Int×Int×aN×Int×aN×(List Int)×(List Bool)×(List Int)×fH×(List Int)×aN×(List Int)
abbrev aj5:=Step aj4 Int
abbrev acM:=Int×Int×Int×Int×aN×Int×aN×(List Int)×(List Bool)×(List Int)×fH×(List Int)×aN×(List Int)
abbrev aj6:=Step acM Int
abbrev aj7:=Int×Int×Int×aN×Int×aN×(List Int)×(List Bool)×(List Int)×fH×(List Int)×aN×(List Int)
abbrev aj8:=Step aj7 Int
abbrev aj9:=bK×Int×Int×Int×aN×Int×aN×(List Int)×(List Bool)×(List Int)×fH×(List Int)×aN
abbrev aj':=Int×Int×Int×Int×aN×Int×aN×(List Int)×(List Bool)×(List Int)×fH×(List Int)×aN
abbrev aka:=Step (Int×Int×Int×Int×aN×(List Int)) (Tree×bK)
abbrev akb:=aN×Int×Int×Int×Int×aN×(List Int)
abbrev agm:=Step akb aka
abbrev akc:=Int×(List Int)×(List Bool)×(List Int)×fH×(List Int)×(List Int)×(List Bool)×(List Int)×fH×(List Int)
abbrev akd:=Nat×Nat×Int×aN×Int×Int×aN×Int×Int×Int×Int×aN×(List Int)×Int×Int×Int×Int×Int×Int
abbrev ake:=Int×Int×Nat×Nat×Nat×Int×Int×aN×bK×Int×Int×Int×Int×Int
abbrev Kx:=aN×bK
abbrev akf:=Step ake Kx
abbrev UP:=(List Int)×Int×Int×(List Int)×(List Int)×(List (Int×Bool))
abbrev akg:=Step UP Int
abbrev akh:=Step UP akg
abbrev aki:=fH×Int×Int×(List Int)×(List Bool)×(List Int)×fH×(List Int)×(List (List Int))
abbrev akj:=Nat×Nat×aN×Int×Int×aN×Int×Int×Int×Int×aN×(List Int)
abbrev akk:=Step akj (Tree×Int)
abbrev akl:=Int×Int×Int×aN×bK×Int×Int×Int×Int×Int×aN×aN
abbrev akm:=Int×Int×(List Int)×(List Bool)×(List Int)×fH×(List Int)×Int×Int×Int×Int×Int
abbrev akn:=(List Int)×Int×Int×(List Int)×(List Bool)×(List Int)×fH×(List Int)
abbrev ako:=Step akn Int
abbrev akp:=Int×aN×Int×Int×Int×Int×Int×Int×Int×aN×(List Int)
abbrev akq:=aN×Int×Int×Int×Int×aN×(List Int)×bK
abbrev akr:=(List Int)×Int×Int×aN×Int×Int×(List (Int×Bool))
abbrev aks:=Step akr (bG×Int)
abbrev acN:=Int×(List Int)×(List Bool)×(List Int)×fH×(List Int)
abbrev agn:=Step acN Int
abbrev akt:=Int×Int×(List Int)×(List Bool)×(List Int)×fH×(List Int)
abbrev aku:=Int×aN×Int×Int×Int×aN×(List (List Int))
abbrev akv:=(List Int)×Int×Int×(List Int)×(List Bool)×(List Int)×Int×(List Bool)
abbrev akw:=Step akv Int
abbrev MO:=Int×Int×(List Int)
abbrev Zu:=Step MO (Nat×Nat×(List Int))
abbrev akx:=Step MO Zu
abbrev aky:=Step (Int×Int×aN×bK) bK
abbrev acO:=aN×Int×Int×Int×Int×Int×aN
abbrev akz:=Int×aN×Int×Int×Int×Int×aN
abbrev ago:=Int×Int×aN×Int×aN
abbrev akA:=Step ago Bool
abbrev Zv:=aN×aN×Int×Int
abbrev akB:=Step Zv Bool
abbrev QL:=Int×Int×Int×Int×aN×bK
abbrev Zw:=(List Int)×Int×Int×bK
abbrev agp:=Step Zw bK
abbrev acP:=Int×aN×Int×Int×(List Int)×(List Int)
abbrev Ea:=aN×Int×Int×Int×Int
abbrev Zx:=Step Ea (Int×Bool)
abbrev Zy:=aN×Int×Int×aN
abbrev Zz:=Int×Int×(List Int)×(List Bool)×(List Int)×(List Bool)
abbrev acQ:=aN×bK×Int×Int
abbrev MP:=Int×Int×aN
abbrev agq:=Step MP Int
abbrev acR:=(List Int)×Int×bK
abbrev Ow:=Int×aN
abbrev acS:=(List Int)×(List Int)×Int
variable [LP]
def IJ (s:(Int×Int)):Option (Step (Int×Int) (Int×Int)):=bif ab1 (s.2<s.1) then WF (.next (s.1,aa .i64 (s.2*2))) else WF (.done (s.2,0))
def F1 (p0:Int):Option (Int×Int):=bif ab1 (p0<0) then WF (0,2) else bif ab1 (64<p0) then WF (0,2) else aq IJ (p0,1)
def c11:Ce:=Oc 11 rfl [] gI (Arg.cV (aI gI)) .pure F1
def Hf (s:(Int×Int×(List Bool)×Int×Int×(List Int))):Option (Step (Int×Int×(List Bool)×Int×Int×(List Int)) ((List Int)×Int)):=match s with |(a,b,d,e,f,g)=>bif ab1 (f<e) then (aD d f).bind fun b0=>bif b0 then bif ab1 (b<64) then bif b==a then (aX g [aa .i64 (2*a)]).bind fun l1=>WF (.next (aa .i64 (2*a),aa .i64 (b+1),d,e,aa .i64 (f+1),l1)) else (aX g [a]).bind fun l2=>WF (.next (a,aa .i64 (b+1),d,e,aa .i64 (f+1),l2)) else bif !b0 then bif ab1 (0<b) then bif ab1 (1<a) then bif ab1 ((aa .i64 (4*(aa .i64 (b-1))))<=a) then (aX g [aa .i64 (If a 2)]).bind fun l3=>WF (.next (aa .i64 (If a 2),aa .i64 (b-1),d,e,aa .i64 (f+1),l3)) else (aX g [a]).bind fun l4=>WF (.next (a,aa .i64 (b-1),d,e,aa .i64 (f+1),l4)) else (aX g [a]).bind fun l5=>WF (.next (a,aa .i64 (b-1),d,e,aa .i64 (f+1),l5)) else (aX g [a]).bind fun l6=>WF (.next (a,b,d,e,aa .i64 (f+1),l6)) else (aX g [a]).bind fun l7=>WF (.next (a,b,d,e,aa .i64 (f+1),l7)) else bif !b0 then bif ab1 (0<b) then bif ab1 (1<a) then bif ab1 ((aa .i64 (4*(aa .i64 (b-1))))<=a) then (aX g [aa .i64 (If a 2)]).bind fun l8=>WF (.next (aa .i64 (If a 2),aa .i64 (b-1),d,e,aa .i64 (f+1),l8)) else (aX g [a]).bind fun l9=>WF (.next (a,aa .i64 (b-1),d,e,aa .i64 (f+1),l9)) else (aX g [a]).bind fun l10=>WF (.next (a,aa .i64 (b-1),d,e,aa .i64 (f+1),l10)) else (aX g [a]).bind fun l11=>WF (.next (a,b,d,e,aa .i64 (f+1),l11)) else (aX g [a]).bind fun l12=>WF (.next (a,b,d,e,aa .i64 (f+1),l12)) else WF (.done (g,0))
def Eb (p0:List Bool):Option ((List Int)×Int):=bif ab1 (1000<(EQ (UV p0))) then WF ([],4) else aq Hf (1,0,p0,EQ (UV p0),0,[])
def c12:Ce:=Oe 12 rfl [] [] [⟨33,x33,rfl⟩,⟨34,x34,rfl⟩] (gL kb) (Arg.cV (aL ki gI)) .jS Eb
def Hg (s:(Int×Int×(List Bool)×Int×Int×Int)):Option (Step (Int×Int×(List Bool)×Int×Int×Int) (Int×Int)):=match s with |(a,b,d,e,f,g)=>bif ab1 (f<e) then (aD d f).bind fun b0=>bif b0 then bif ab1 (b<64) then bif b==a then WF (.next (aa .i64 (2*a),aa .i64 (b+1),d,e,aa .i64 (f+1),aa .i64 (g+b))) else WF (.next (a,aa .i64 (b+1),d,e,aa .i64 (f+1),aa .i64 (g+0))) else bif !b0 then bif ab1 (0<b) then bif ab1 (1<a) then bif ab1 ((aa .i64 (4*(aa .i64 (b-1))))<=a) then WF (.next (aa .i64 (If a 2),aa .i64 (b-1),d,e,aa .i64 (f+1),aa .i64 (g+(aa .i64 (b-1))))) else WF (.next (a,aa .i64 (b-1),d,e,aa .i64 (f+1),aa .i64 (g+0))) else WF (.next (a,aa .i64 (b-1),d,e,aa .i64 (f+1),aa .i64 (g+0))) else WF (.next (a,b,d,e,aa .i64 (f+1),aa .i64 (g+0))) else WF (.next (a,b,d,e,aa .i64 (f+1),aa .i64 (g+0))) else bif !b0 then bif ab1 (0<b) then bif ab1 (1<a) then bif ab1 ((aa .i64 (4*(aa .i64 (b-1))))<=a) then WF (.next (aa .i64 (If a 2),aa .i64 (b-1),d,e,aa .i64 (f+1),aa .i64 (g+(aa .i64 (b-1))))) else WF (.next (a,aa .i64 (b-1),d,e,aa .i64 (f+1),aa .i64 (g+0))) else WF (.next (a,aa .i64 (b-1),d,e,aa .i64 (f+1),aa .i64 (g+0))) else WF (.next (a,b,d,e,aa .i64 (f+1),aa .i64 (g+0))) else WF (.next (a,b,d,e,aa .i64 (f+1),aa .i64 (g+0))) else WF (.done (g,0))
def Ec (p0:List Bool):Option (Int×Int):=bif ab1 (1000<(EQ (UV p0))) then WF (0,4) else aq Hg (1,0,p0,EQ (UV p0),0,0)
def c13:Ce:=Oe 13 rfl [] [] [⟨33,x33,rfl⟩,⟨35,x35,rfl⟩] (gL kb) (Arg.cV (aI gI)) .pure Ec
def iE (s:acS):Option (Step acS Bool):=bif ab1 (s.2.2<(EQ (UV s.1))) then (aD s.1 s.2.2).bind fun n0=>(aD s.2.1 s.2.2).bind fun n1=>bif n0 !=n1 then WF (.done aaF) else WF (.next (s.1,s.2.1,aa .i64 (s.2.2+1))) else WF (.done aaE)
def eN (p0:List Int) (p1:List Int):Option Bool:=bif (EQ (UV p0)) !=(EQ (UV p1)) then WF aaF else aq iE (p0,p1,0)
def c14:Ce:=Oc 14 rfl [] (aL ki (gL ki)) Arg.bool .pure (u2 eN)
def QM:Option Bool:=(F1 5).bind fun a0=>(Eb [aaE,aaE,aaE,aaF,aaF,aaF]).bind fun a1=>(Ec [aaE,aaE,aaE,aaF,aaF,aaF]).bind fun a2=>bif a0.2==0 then bif a0.1==8 then bif a1.2==0 then (eN a1.1 [1,2,4,4,2,1]).bind fun b3=>bif b3 then bif a2.2==0 then WF (a2.1==4) else WF aaF else WF aaF else WF aaF else WF aaF else WF aaF
def c4v:Ce:=Oc 4 rfl [c11,c12,c13,c14] bJ.nil Arg.bool .pure (fun _=>QM)
end
def c4:Ce:=⟨4,⟨bJ.nil,Arg.bool,fun _=>WF aaE,.pure,aaF⟩,jj.at0 ((@c4v (LP.of 1000000)).ok) (by kernel_rfl)⟩
section
variable [LP]
def vv (p0:Field):Option Bool:=bif ab1 (16<(EQ (UV p0.am))) then bif ab1 ((EQ (UV p0.am))<64) then WF aaE else WF (ab1 (70<(EQ (UV p0.am)))) else WF (ab1 (70<(EQ (UV p0.am))))
def c69:Ce:=Oc 69 rfl [] (gG bw) Arg.bool .pure vv
def CC (p0:bD):Option Bool:=bif ab1 (210<(EQ (UV p0.aC))) then WF aaE else bif ab1 (210<(EQ (UV p0.be))) then WF aaE else WF (ab1 (210<(EQ (UV p0.bi))))
def arn:Ce:=Oc 121 rfl [] (gG pD) Arg.bool .pure CC
def CD (p0:aV):Option Bool:=(CC p0.aj).bind fun b0=>bif b0 then WF aaE else bif ab1 (210<(EQ (UV p0.bv))) then WF aaE else WF (ab1 (210<(EQ (UV p0.aB))))
def c70:Ce:=Oc 70 rfl [arn] (gG gX) Arg.bool .pure CD
def nj (p0:aH):Option Bool:=bif ab1 (40<(EQ (UV p0.af.ce))) then WF aaE else bif ab1 (40<(EQ (UV p0.jp))) then WF aaE else (vv p0.io).bind fun b0=>bif b0 then WF aaE else (CD p0.ae).bind fun b1=>WF b1
def c36:Ce:=Oc 36 rfl [c69,c70] (gG b9) Arg.bool .pure nj
def vw (p0:bE):Option Bool:=(nj p0.kw).bind fun b0=>bif b0 then WF aaE else WF (ab1 (70<(EQ (UV p0.bv))))
def c15:Ce:=Oc 15 rfl [c36] (gG kV) Arg.bool .pure vw
def CE (p0:bG):Option Bool:=bif ab1 (70<(EQ (UV p0.aW))) then WF aaE else WF (ab1 (70<(EQ (UV p0.k8))))
def c37:Ce:=Oc 37 rfl [] (gG iD) Arg.bool .pure CE
def vz (p0:bN):Option Bool:=(nj p0.kw).bind fun b0=>bif b0 then WF aaE else (CE p0.lc).bind fun b1=>WF b1
def c16:Ce:=Oc 16 rfl [c36,c37] (gG iP) Arg.bool .pure vz
def CF (p0:Tree):Option Bool:=WF (ab1 (70<(EQ (UV p0.lw))))
def c38:Ce:=Oc 38 rfl [] (gG xx) Arg.bool .pure CF
def vA (p0:bC):Option Bool:=(nj p0.kw).bind fun b0=>bif b0 then WF aaE else (CF p0.pp).bind fun b1=>WF b1
def c17:Ce:=Oc 17 rfl [c36,c38] (gG fF) Arg.bool .pure vA
def vB (p0:bH):Option Bool:=(nj p0.kw).bind fun b0=>bif b0 then WF aaE else WF (ab1 (70<(EQ (UV p0.up))))
def c18:Ce:=Oc 18 rfl [c36] (gG fG) Arg.bool .pure vB
def CG (p0:Choice):Option Bool:=(vw p0.bv).bind fun b0=>bif b0 then WF aaE else (vz p0.gC).bind fun b1=>bif b1 then WF aaE else (vA p0.dU).bind fun b2=>bif b2 then WF aaE else (vB p0.cH).bind fun b3=>WF b3
def c5:Ce:=Oc 5 rfl [c15,c16,c17,c18] (gG dN) Arg.bool .pure CG
def nm (p0:Choice):Option aH:=bif p0.ut==1 then WF p0.bv.kw else bif p0.ut==2 then WF p0.gC.kw else bif p0.ut==3 then WF p0.dU.kw else WF p0.cH.kw
def c7:Ce:=Oc 7 rfl [] (gG dN) (Arg.agg b9) .jS nm
def ES (p0:Field):Option Bool:=WF (ab1 (10<(EQ (UV p0.am))))
def c6:Ce:=Oc 6 rfl [] (gG bw) Arg.bool .pure ES
def uL (s:(Int×aN×aN)):Option (Step (Int×aN×aN) Bool):=bif ab1 (s.1<(EQ (UV s.2.1))) then (aD s.2.1 s.1).bind fun a0=>(aD s.2.2 s.1).bind fun a1=>bif !((a0.1==a1.1)&&((a0.2.1==a1.2.1)&&(a0.2.2==a1.2.2))) then WF (.done aaF) else WF (.next (aa .i64 (s.1+1),s.2)) else WF (.done aaE)
def tZ (p0:Field) (p1:Field):Option Bool:=bif (EQ (UV p0.am)) !=(EQ (UV p1.am)) then WF aaF else aq uL (0,p0.am,p1.am)
def c71:Ce:=Oc 71 rfl [] (aG bw (gG bw)) Arg.bool .pure (u2 tZ)
def za (s:ago):Option akA:=bif ab1 (s.1<(EQ (UV s.2.2.1))) then (aD s.2.2.1 s.1).bind fun a0=>(aD s.2.2.2.2 s.1).bind fun a1=>bif !((a0.1==a1.1)&&((a0.2.1==a1.2.1)&&(a0.2.2==a1.2.2))) then WF (.done aaF) else WF (.next (aa .i64 (s.1+1),s.2)) else WF (.done aaE)
def qG (p0:bX) (p1:bX):Option Bool:=bif p0.aU !=p1.aU then WF aaF else bif (EQ (UV p0.ce)) !=(EQ (UV p1.ce)) then WF aaF else aq za (0,p0.aU,p0.ce,p1.aU,p1.ce)
def c72:Ce:=Oc 72 rfl [] (aG pE (gG pE)) Arg.bool .pure (u2 qG)
def sw (s:acS):Option (Step acS Bool):=bif ab1 (s.2.2<(EQ (UV s.1))) then (aD s.1 s.2.2).bind fun n0=>(aD s.2.1 s.2.2).bind fun n1=>bif n0 !=n1 then WF (.done aaF) else WF (.next (s.1,s.2.1,aa .i64 (s.2.2+1))) else WF (.done aaE)
def iQ (p0:List Int) (p1:List Int):Option Bool:=bif (EQ (UV p0)) !=(EQ (UV p1)) then WF aaF else aq sw (p0,p1,0)
def akD:Ce:=Oc 123 rfl [] (aL ki (gL ki)) Arg.bool .pure (u2 iQ)
def qH (s:((List Bool)×(List Bool)×Int)):Option (Step ((List Bool)×(List Bool)×Int) Bool):=bif ab1 (s.2.2<(EQ (UV s.1))) then (aD s.1 s.2.2).bind fun b0=>(aD s.2.1 s.2.2).bind fun b1=>bif !(b0==b1) then WF (.done aaF) else WF (.next (s.1,s.2.1,aa .i64 (s.2.2+1))) else WF (.done aaE)
def lf (p0:List Bool) (p1:List Bool):Option Bool:=bif (EQ (UV p0)) !=(EQ (UV p1)) then WF aaF else aq qH (p0,p1,0)
def aro:Ce:=Oc 179 rfl [] (aL kb (gL kb)) Arg.bool .pure (u2 lf)
def ua (p0:bD) (p1:bD):Option Bool:=(iQ p0.aC p1.aC).bind fun b0=>bif b0 then (lf p0.be p1.be).bind fun b1=>bif b1 then (iQ p0.bi p1.bi).bind fun b2=>WF b2 else WF aaF else WF aaF
def arp:Ce:=Oc 122 rfl [akD,aro] (aG pD (gG pD)) Arg.bool .pure (u2 ua)
def uM (s:akc):Option (Step akc Bool):=bif ab1 (s.1<(EQ (UV s.2.2.2.2.1))) then (aD s.2.2.2.2.1 s.1).bind fun a0=>(aD s.2.2.2.2.2.2.2.2.2.1 s.1).bind fun a1=>bif !((a0.1==a1.1)&&((a0.2.1==a1.2.1)&&((a0.2.2.1==a1.2.2.1)&&((a0.2.2.2.1==a1.2.2.2.1)&&(a0.2.2.2.2==a1.2.2.2.2))))) then WF (.done aaF) else WF (.next (aa .i64 (s.1+1),s.2)) else WF (.done aaE)
def qI (p0:aV) (p1:aV):Option Bool:=(ua p0.aj p1.aj).bind fun b0=>bif !b0 then WF aaF else (iQ p0.aB p1.aB).bind fun b1=>bif !b1 then WF aaF else bif (EQ (UV p0.bv)) !=(EQ (UV p1.bv)) then WF aaF else aq uM (0,p0.aj.aC,p0.aj.be,p0.aj.bi,p0.bv,p0.aB,p1.aj.aC,p1.aj.be,p1.aj.bi,p1.bv,p1.aB)
def c73:Ce:=Oc 73 rfl [arp,akD] (aG gX (gG gX)) Arg.bool .pure (u2 qI)
def zb (s:Zt7):Option (Step Zt7 Bool):=bif ab1 (s.1<(EQ (UV s.2.2.2.2.2.2.2.2.2.2.2.1))) then (aD s.2.2.2.2.2.2.2.2.2.2.2.1 s.1).bind fun a0=>(aD s.2.2.2.2.2.2.2.2.2.2.2.2.2.2.2.2.2.2.2.2.2.2 s.1).bind fun a1=>bif !((a0.1==a1.1)&&((a0.2.1==a1.2.1)&&(a0.2.2==a1.2.2))) then WF (.done aaF) else WF (.next (aa .i64 (s.1+1),s.2)) else WF (.done aaE)
def lN (p0:aH) (p1:aH):Option Bool:=bif !((p0.ii.1==p1.ii.1)&&(p0.ii.2==p1.ii.2)) then WF aaF else (tZ p0.io p1.io).bind fun b0=>bif !b0 then WF aaF else (qG p0.af p1.af).bind fun b1=>bif !b1 then WF aaF else (qI p0.ae p1.ae).bind fun b2=>bif !b2 then WF aaF else bif (EQ (UV p0.jp)) !=(EQ (UV p1.jp)) then WF aaF else aq zb (0,p0.ii.1,p0.ii.2,p0.io.am,p0.af.aU,p0.af.ce,p0.ae.aj.aC,p0.ae.aj.be,p0.ae.aj.bi,p0.ae.bv,p0.ae.aB,p0.jp,p1.ii.1,p1.ii.2,p1.io.am,p1.af.aU,p1.af.ce,p1.ae.aj.aC,p1.ae.aj.be,p1.ae.aj.bi,p1.ae.bv,p1.ae.aB,p1.jp)
def c39:Ce:=Oc 39 rfl [c71,c72,c73] (aG b9 (gG b9)) Arg.bool .pure (u2 lN)
def ju (p0:bE) (p1:bE):Option Bool:=(lN p0.kw p1.kw).bind fun b0=>bif b0 then (eN p0.bv p1.bv).bind fun b1=>WF b1 else WF aaF
def c19:Ce:=Oc 19 rfl [c39,c14] (aG kV (gG kV)) Arg.bool .pure (u2 ju)
def AW (p0:bG) (p1:bG):Option Bool:=(eN p0.aW p1.aW).bind fun b0=>bif b0 then (eN p0.k8 p1.k8).bind fun b1=>WF b1 else WF aaF
def c40:Ce:=Oc 40 rfl [c14] (aG iD (gG iD)) Arg.bool .pure (u2 AW)
def jv (p0:bN) (p1:bN):Option Bool:=(lN p0.kw p1.kw).bind fun b0=>bif b0 then (AW p0.lc p1.lc).bind fun b1=>WF b1 else WF aaF
def c20:Ce:=Oc 20 rfl [c39,c40] (aG iP (gG iP)) Arg.bool .pure (u2 jv)
def sx (s:ago):Option akA:=bif ab1 (s.1<(EQ (UV s.2.2.1))) then (aD s.2.2.1 s.1).bind fun a0=>(aD s.2.2.2.2 s.1).bind fun a1=>bif !((a0.1==a1.1)&&((a0.2.1==a1.2.1)&&(a0.2.2==a1.2.2))) then WF (.done aaF) else WF (.next (aa .i64 (s.1+1),s.2)) else WF (.done aaE)
def rl (p0:Tree) (p1:Tree):Option Bool:=bif p0.ls !=p1.ls then WF aaF else bif (EQ (UV p0.lw)) !=(EQ (UV p1.lw)) then WF aaF else aq sx (0,p0.ls,p0.lw,p1.ls,p1.lw)
def c41:Ce:=Oc 41 rfl [] (aG xx (gG xx)) Arg.bool .pure (u2 rl)
def jw (p0:bC) (p1:bC):Option Bool:=(lN p0.kw p1.kw).bind fun b0=>bif b0 then (rl p0.pp p1.pp).bind fun b1=>WF b1 else WF aaF
def c21:Ce:=Oc 21 rfl [c39,c41] (aG fF (gG fF)) Arg.bool .pure (u2 jw)
def jx (p0:bH) (p1:bH):Option Bool:=(lN p0.kw p1.kw).bind fun b0=>bif b0 then (eN p0.up p1.up).bind fun b1=>WF b1 else WF aaF
def c22:Ce:=Oc 22 rfl [c39,c14] (aG fG (gG fG)) Arg.bool .pure (u2 jx)
def jy (p0:Int):Option Int:=bif ab1 (p0<0) then WF (aa .u64 ((aa .u64 (aa .i64 (0- (aa .i64 (p0+1)))))+1)) else WF (aa .u64 p0)
def c89:Ce:=Oc 89 rfl [] gI (Arg.int .u64) .pure jy
def vU (s:(Int×Int)):Option (Step (Int×Int) Int):=bif s.2 !=0 then bif s.2==0 then aa9 else WF (.next (s.2,IR s.1 s.2)) else WF (.done s.1)
def sy (p0:Int) (p1:Int):Option Int:=aq vU (p0,p1)
def c88:Ce:=Oc 88 rfl [] (bJ.cons (Arg.int .u64) (bJ.one (Arg.int .u64))) (Arg.int .u64) .pure (u2 sy)
def oN (p0:Int×Int):Option Int:=bif ab1 (p0.2<1) then WF 8 else bif p0.1==(-9223372036854775808) then WF 8 else (jy p0.1).bind fun n0=>(sy n0 (aa .u64 p0.2)).bind fun n1=>bif n1 !=1 then WF 8 else WF 0
def c56:Ce:=Oc 56 rfl [c89,c88] (gG (bL.row fQ)) (Arg.int .i64) .pure oN
def yp (p0:Int×Int×Int):Option Int:=bif ab1 (p0.1<0) then WF 8 else bif ab1 (65535<p0.1) then WF 8 else bif ab1 (p0.2.1<(-1048576)) then WF 8 else bif ab1 (1048576<p0.2.1) then WF 8 else bif ab1 (p0.2.2<(-1048576)) then WF 8 else bif ab1 (1048576<p0.2.2) then WF 8 else WF 0
def art:Ce:=Oc 124 rfl [] (gG (bL.row dB)) (Arg.int .i64) .pure yp
def kB (s:Ow):Option (Step Ow (Step Ow Int)):=bif ab1 (s.1<(EQ (UV s.2))) then (aD s.2 (aa .i64 (s.1-1))).bind fun a0=>(aD s.2 s.1).bind fun a1=>bif ab1 (a1.1<=a0.1) then WF (.done (.done 32)) else WF (.next (aa .i64 (s.1+1),s.2)) else WF (.done (.done 0))
def oO (s:Ow):Option (Step Ow Int):=bif ab1 (s.1<(EQ (UV s.2))) then (aD s.2 s.1).bind fun a0=>(yp a0).bind fun n1=>bif n1 !=0 then WF (.done 8) else WF (.next (aa .i64 (s.1+1),s.2)) else aq kB (1,s.2)
def yq (p0:Field):Option Int:=bif ab1 (64<(EQ (UV p0.am))) then WF 4 else aq oO (0,p0.am)
def c74:Ce:=Oc 74 rfl [art] (gG bw) (Arg.int .i64) .pure yq
def AX (p0:Int×Int):Option Bool:=bif ab1 (0<=p0.1) then bif ab1 (p0.1<=65535) then bif ab1 (0<=p0.2) then bif ab1 (p0.2<=65535) then WF (p0.1 !=p0.2) else WF aaF else WF aaF else WF aaF else WF aaF
def aru:Ce:=Oc 125 rfl [] (gG (bL.row fQ)) Arg.bool .pure AX
def iR (s:(Int×Int×Int×aN×Int×Int×Int)):Option (Step (Int×Int×Int×aN×Int×Int×Int) agq):=bif ab1 (s.2.1<s.1) then (aD s.2.2.2.1 s.2.1).bind fun a0=>bif (a0.2.1==s.2.2.2.2.2.1)&&(a0.2.2==s.2.2.2.2.2.2) then WF (.done (.done 8)) else WF (.next (s.1,aa .i64 (s.2.1+1),s.2.2)) else WF (.done (.next (aa .i64 (s.1+1),s.2.2.1,s.2.2.2.1)))
def sA (s:MP):Option agq:=bif ab1 (s.1<(EQ (UV s.2.2))) then (aD s.2.2 s.1).bind fun a0=>(AX a0.2).bind fun b1=>bif !b1 then WF (.done 8) else bif ab1 (a0.1<0) then WF (.done 8) else bif ab1 (s.2.1<=a0.1) then WF (.done 8) else bif ab1 (0<s.1) then (aD s.2.2 (aa .i64 (s.1-1))).bind fun a2=>bif ab1 (a0.1<=a2.1) then WF (.done 8) else aq iR (s.1,0,s.2.1,s.2.2,a0) else aq iR (s.1,0,s.2.1,s.2.2,a0) else WF (.done 0)
def yr (p0:bX):Option Int:=bif ab1 (200<(EQ (UV p0.ce))) then WF 8 else bif ab1 (p0.aU<0) then WF 8 else bif ab1 (1000000<p0.aU) then WF 8 else aq sA (0,p0.aU,p0.ce)
def c75:Ce:=Oc 75 rfl [aru] (gG pE) (Arg.int .i64) .pure yr
def yt (s:MP):Option agq:=bif ab1 (s.2.1<(EQ (UV s.2.2))) then (aD s.2.2 s.2.1).bind fun a0=>bif a0.1==s.1 then WF (.done s.2.1) else WF (.next (s.1,aa .i64 (s.2.1+1),s.2.2)) else WF (.done (-1))
def iv (p0:Field) (p1:Int):Option Int:=aq yt (p1,0,p0.am)
def c43:Ce:=Oc 43 rfl [] (aG bw gI) (Arg.int .i64) .pure (u2 iv)
def sB (s:(Int×Int×aN×aN)):Option (Step (Int×Int×aN×aN) Bool):=bif ab1 (s.1<(EQ (UV s.2.2.1))) then (aD s.2.2.1 s.1).bind fun a0=>(iv (Field.mk s.2.2.2) a0.2.1).bind fun n1=>bif ab1 (n1<0) then WF (.done aaF) else (aD s.2.2.1 s.1).bind fun a2=>(iv (Field.mk s.2.2.2) a2.2.2).bind fun n3=>bif ab1 (n3<0) then WF (.done aaF) else WF (.next (aa .i64 (s.1+1),s.2)) else WF (.done aaE)
def yu (p0:bX) (p1:Field):Option Bool:=aq sB (0,p0.aU,p0.ce,p1.am)
def c76:Ce:=Oc 76 rfl [c43] (aG pE (gG bw)) Arg.bool .pure (u2 yu)
def mI (s:Zz):Option (Step Zz (Step Zz Int)):=bif ab1 (s.2.1<s.1) then (aD s.2.2.1 s.2.1).bind fun n0=>bif ab1 (n0<0) then WF (.done (.done 8)) else (aD s.2.2.1 s.2.1).bind fun n1=>bif ab1 (1000000<n1) then WF (.done (.done 8)) else (aD s.2.2.2.1 s.2.1).bind fun b2=>(aD s.2.2.2.2.2 s.2.1).bind fun b3=>bif b2==b3 then WF (.done (.done 8)) else (aD s.2.2.2.1 s.2.1).bind fun b4=>bif b4 then (aD s.2.2.1 s.2.1).bind fun n5=>bif ab1 (n5<1) then WF (.done (.done 8)) else WF (.next (s.1,aa .i64 (s.2.1+1),s.2.2)) else WF (.next (s.1,aa .i64 (s.2.1+1),s.2.2)) else WF (.done (.done 0))
def sC (s:Zz):Option (Step Zz Int):=bif ab1 (s.2.1<(EQ (UV s.2.2.2.2.1))) then (aD s.2.2.2.2.1 s.2.1).bind fun n0=>bif ab1 (n0<0) then WF (.done 8) else (aD s.2.2.2.2.1 s.2.1).bind fun n1=>bif ab1 (s.1<=n1) then WF (.done 8) else (aD s.2.2.2.2.1 s.2.1).bind fun n2=>(aD s.2.2.2.2.2 n2).bind fun b3=>bif b3 then WF (.done 8) else (aD s.2.2.2.2.1 s.2.1).bind fun n4=>(aD s.2.2.2.2.2 n4).bind fun _=>WF (.next (s.1,aa .i64 (s.2.1+1),s.2.2.1,s.2.2.2.1,s.2.2.2.2.1,cA s.2.2.2.2.2 n4 aaE)) else aq mI (s.1,0,s.2.2)
def yv (p0:bD):Option Int:=bif ab1 ((EQ (UV p0.aC))<1) then WF 8 else bif ab1 (200<(EQ (UV p0.aC))) then WF 8 else bif (EQ (UV p0.be)) !=(EQ (UV p0.aC)) then WF 8 else bif ab1 ((EQ (UV p0.aC))<(EQ (UV p0.bi))) then WF 8 else bif (EQ (UV p0.aC))==(EQ (UV p0.aC)) then (qd (EQ (UV p0.aC)) (aaF:Bool)).bind fun l0=>aq sC (EQ (UV p0.aC),0,p0.aC,p0.be,p0.bi,l0) else aa9
def arv:Ce:=Oc 126 rfl [] (gG pD) (Arg.int .i64) .pure yv
def xA (p0:bD) (p1:Int×Int):Option Bool:=bif ab1 (0<=p1.1) then bif ab1 (p1.1<(EQ (UV p0.aC))) then (aD p0.be p1.1).bind fun b0=>bif b0 then (aD p0.aC p1.1).bind fun n1=>WF (n1==p1.2) else WF aaF else WF aaF else WF aaF
def akE:Ce:=Oc 130 rfl [] (aG pD (gG (bL.row fQ))) Arg.bool .pure (u2 xA)
def qv (s:akt):Option (Step akt Bool):=bif ab1 (s.2.1<s.1) then (aD s.2.2.2.1 s.2.1).bind fun b0=>bif !b0 then (aD s.2.2.2.2.2.2 s.2.1).bind fun n1=>bif n1 !=(-1) then WF (.done aaF) else WF (.next (s.1,aa .i64 (s.2.1+1),s.2.2)) else (aD s.2.2.2.2.2.2 s.2.1).bind fun n2=>bif ab1 (n2<0) then WF (.done aaF) else bif ab1 ((EQ (UV s.2.2.2.2.2.1))<=n2) then WF (.done aaF) else (aD s.2.2.2.2.2.1 n2).bind fun a3=>bif a3.2.2.2.1 !=s.2.1 then WF (.done aaF) else (aD s.2.2.2.2.2.1 n2).bind fun a4=>(xA (bD.mk s.2.2.1 s.2.2.2.1 s.2.2.2.2.1) a4.2.2.2).bind fun b5=>bif !b5 then WF (.done aaF) else WF (.next (s.1,aa .i64 (s.2.1+1),s.2.2)) else WF (.done aaE)
def wL (p0:aV):Option Bool:=bif (EQ (UV p0.aB)) !=(EQ (UV p0.aj.aC)) then WF aaF else bif (EQ (UV p0.bv)) !=(aa .i64 ((EQ (UV p0.aj.aC)) - (EQ (UV p0.aj.bi)))) then WF aaF else aq qv (EQ (UV p0.aj.aC),0,p0.aj.aC,p0.aj.be,p0.aj.bi,p0.bv,p0.aB)
def arw:Ce:=Oc 127 rfl [akE] (gG gX) Arg.bool .pure wL
def uN (p0:Int) (p1:Int):Option (Bool×Int×Int):=WF (aaF,aa .u64 ((aa .u64 ((aa .u64 ((aa .u64 (If p0 4294967296))*(aa .u64 (If p1 4294967296))))+(aa .u64 (If (aa .u64 ((aa .u64 ((aa .u64 (If p0 4294967296))*(IR p1 4294967296)))+(aa .u64 (If (aa .u64 ((IR p0 4294967296)*(IR p1 4294967296))) 4294967296)))) 4294967296))))+(aa .u64 (If (aa .u64 ((aa .u64 ((IR p0 4294967296)*(aa .u64 (If p1 4294967296))))+(IR (aa .u64 ((aa .u64 ((aa .u64 (If p0 4294967296))*(IR p1 4294967296)))+(aa .u64 (If (aa .u64 ((IR p0 4294967296)*(IR p1 4294967296))) 4294967296)))) 4294967296))) 4294967296))),aa .u64 ((aa .u64 ((IR (aa .u64 ((aa .u64 ((IR p0 4294967296)*(aa .u64 (If p1 4294967296))))+(IR (aa .u64 ((aa .u64 ((aa .u64 (If p0 4294967296))*(IR p1 4294967296)))+(aa .u64 (If (aa .u64 ((IR p0 4294967296)*(IR p1 4294967296))) 4294967296)))) 4294967296))) 4294967296)*4294967296))+(IR (aa .u64 ((IR p0 4294967296)*(IR p1 4294967296))) 4294967296)))
def arx:Ce:=Oc 283 rfl [] (bJ.cons (Arg.int .u64) (bJ.one (Arg.int .u64))) (Arg.agg (bL.row CA)) .pure (u2 uN)
def lO (p0:Int) (p1:Int):Option (Bool×Int×Int):=(jy p0).bind fun n0=>(jy p1).bind fun n1=>(uN n0 n1).bind fun a2=>bif !((ab1 (p0<0))==(ab1 (p1<0))) then bif p0 !=0 then WF (p1 !=0,a2.2) else WF (aaF,a2.2) else WF (aaF,a2.2)
def akF:Ce:=Oc 235 rfl [c89,arx] (aI gI) (Arg.agg (bL.row CA)) .pure (u2 lO)
def nE (p0:Bool×Int×Int):Option Int:=bif p0.2.1==0 then bif p0.2.2==0 then WF 0 else bif p0.1 then WF (-1) else WF 1 else bif p0.1 then WF (-1) else WF 1
def akG:Ce:=Oc 236 rfl [] (gG (bL.row CA)) (Arg.int .i64) .pure nE
def uc (p0:Bool×Int×Int) (p1:Bool×Int×Int):Option Int:=bif p0.2.1 !=p1.2.1 then bif ab1 (p0.2.1<p1.2.1) then WF (-1) else WF 1 else bif p0.2.2 !=p1.2.2 then bif ab1 (p0.2.2<p1.2.2) then WF (-1) else WF 1 else WF 0
def akH:Ce:=Oc 237 rfl [] (aG (bL.row CA) (gG (bL.row CA))) (Arg.int .i64) .pure (u2 uc)
def uO (p0:Int×Int) (p1:Int×Int):Option Int:=(lO p0.1 p1.2).bind fun a0=>(lO p1.1 p0.2).bind fun a1=>(nE a0).bind fun n2=>(nE a1).bind fun n3=>bif n2 !=n3 then (nE a0).bind fun n4=>(nE a1).bind fun n5=>bif ab1 (n4<n5) then WF (-1) else WF 1 else (nE a0).bind fun n6=>bif ab1 (n6<0) then (uc a1 a0).bind fun n7=>WF n7 else (uc a0 a1).bind fun n8=>WF n8
def ary:Ce:=Oc 180 rfl [akF,akG,akH] (aG (bL.row fQ) (gG (bL.row fQ))) (Arg.int .i64) .pure (u2 uO)
def AY (p0:Int×Int×Int×Int×Int) (p1:Int×Int×Int×Int×Int):Option Bool:=(uO (p0.1,p0.2.1) (p1.1,p1.2.1)).bind fun n0=>bif ab1 (n0<0) then WF aaE else bif n0==0 then WF (ab1 (p0.2.2.1<p1.2.2.1)) else WF aaF
def arz:Ce:=Oc 128 rfl [ary] (aG (bL.row oM) (gG (bL.row oM))) Arg.bool .pure (u2 AY)
def oP (s:akm):Option (Step akm agn):=bif ab1 (s.2.1<s.1) then (aD s.2.2.2.2.2.1 s.2.1).bind fun a0=>bif a0.2.2.1==s.2.2.2.2.2.2.2.2.2.1 then WF (.done (.done 8)) else WF (.next (s.1,aa .i64 (s.2.1+1),s.2.2)) else WF (.done (.next (aa .i64 (s.1+1),s.2.2.1,s.2.2.2.1,s.2.2.2.2.1,s.2.2.2.2.2.1,s.2.2.2.2.2.2.1)))
def mJ (s:acN):Option (Step acN agn):=bif ab1 (s.1<(EQ (UV s.2.2.2.2.1))) then (aD s.2.2.2.2.1 s.1).bind fun a0=>(aD s.2.2.2.2.1 (aa .i64 (If (aa .i64 (s.1-1)) 2))).bind fun a1=>(AY a0 a1).bind fun b2=>bif b2 then WF (.done (.done 8)) else WF (.next (aa .i64 (s.1+1),s.2)) else WF (.done (.done 0))
def sD (s:acN):Option agn:=bif ab1 (s.1<(EQ (UV s.2.2.2.2.1))) then (aD s.2.2.2.2.1 s.1).bind fun a0=>(oN (a0.1,a0.2.1)).bind fun n1=>bif n1 !=0 then WF (.done 8) else bif ab1 (a0.2.2.1<0) then WF (.done 8) else bif ab1 (1000000<a0.2.2.1) then WF (.done 8) else aq oP (s.1,0,s.2.1,s.2.2.1,s.2.2.2.1,s.2.2.2.2.1,s.2.2.2.2.2,a0) else aq mJ (1,s.2)
def vC (p0:aV):Option Int:=(yv p0.aj).bind fun n0=>bif n0 !=0 then WF 8 else (wL p0).bind fun b1=>bif !b1 then WF 8 else aq sD (0,p0.aj.aC,p0.aj.be,p0.aj.bi,p0.bv,p0.aB)
def c77:Ce:=Oc 77 rfl [arv,arw,c56,arz] (gG gX) (Arg.int .i64) .pure vC
def vD (p0:Bool×Int×Int) (p1:Bool×Int×Int):Option (Bool×Int×Int):=bif ab1 (p0.2.2<p1.2.2) then WF (aaF,aa .u64 ((aa .u64 (p0.2.1-p1.2.1)) -1),aa .u64 (p0.2.2-p1.2.2)) else WF (aaF,aa .u64 (p0.2.1-p1.2.1),aa .u64 (p0.2.2-p1.2.2))
def arA:Ce:=Oc 285 rfl [] (aG (bL.row CA) (gG (bL.row CA))) (Arg.agg (bL.row CA)) .pure (u2 vD)
def AZ (p0:Bool×Int×Int) (p1:Bool×Int×Int):Option (Bool×Int×Int):=bif p0.1==p1.1 then bif ab1 ((aa .u64 (p0.2.2+p1.2.2))<p0.2.2) then WF (p0.1,aa .u64 ((aa .u64 (p0.2.1+p1.2.1))+1),aa .u64 (p0.2.2+p1.2.2)) else WF (p0.1,aa .u64 (p0.2.1+p1.2.1),aa .u64 (p0.2.2+p1.2.2)) else (uc p0 p1).bind fun n0=>bif ab1 (0<=n0) then (vD p0 p1).bind fun a1=>bif p0.1 then bif ab1 (0<a1.2.1) then WF (aaE,a1.2) else WF (ab1 (0<a1.2.2),a1.2) else WF (aaF,a1.2) else (vD p1 p0).bind fun a2=>WF (p1.1,a2.2)
def arB:Ce:=Oc 239 rfl [akH,arA] (aG (bL.row CA) (gG (bL.row CA))) (Arg.agg (bL.row CA)) .pure (u2 AZ)
def Du (p0:Int×Int×Int) (p1:Int×Int×Int) (p2:Int×Int):Option Int:=(lO (aa .i64 (p0.2.1-p1.2.1)) p2.2).bind fun a0=>(lO (aa .i64 (p0.2.2-p1.2.2)) p2.1).bind fun a1=>(AZ a0 a1).bind fun a2=>(nE a2).bind fun n3=>WF n3
def arC:Ce:=Oc 182 rfl [akF,arB,akG] (aG (bL.row dB) (aG (bL.row dB) (gG (bL.row fQ)))) (Arg.int .i64) .pure (u3 Du)
def np (p0:Int×Int×Int) (p1:Int×Int×Int) (p2:Int×Int):Option Bool:=(Du p0 p1 p2).bind fun n0=>bif n0 !=0 then WF (ab1 (0<n0)) else bif p0.2.2 !=p1.2.2 then WF (ab1 (p1.2.2<p0.2.2)) else WF (ab1 (p0.1<p1.1))
def ZA:Ce:=Oc 131 rfl [arC] (aG (bL.row dB) (aG (bL.row dB) (gG (bL.row fQ)))) Arg.bool .pure (u3 np)
def ud (p0:Bool) (p1:Bool×Int×Int) (p2:Bool×Int×Int):Option ((Int×Int)×Int):=bif ab1 (0<p1.2.1) then WF ((0,0),16) else bif ab1 (9223372036854775807<p1.2.2) then WF ((0,0),16) else bif ab1 (0<p2.2.1) then WF ((0,0),16) else bif ab1 (9223372036854775807<p2.2.2) then WF ((0,0),16) else bif p0 then WF ((aa .i64 (0- (aa .i64 p1.2.2)),aa .i64 p2.2.2),0) else WF ((aa .i64 p1.2.2,aa .i64 p2.2.2),0)
def arD:Ce:=Oc 284 rfl [] (bJ.cons Arg.bool (aG (bL.row CA) (gG (bL.row CA)))) (tG (bL.row fQ)) .pure (u3 ud)
def oQ (p0:Int) (p1:Int):Option ((Int×Int)×Int):=bif p1==0 then WF ((0,0),26) else (jy p0).bind fun n0=>(jy p1).bind fun n1=>(sy n0 n1).bind fun n2=>bif !((ab1 (p0<0))==(ab1 (p1<0))) then (jy p0).bind fun n3=>bif n2==0 then aa9 else (jy p1).bind fun n4=>bif n2==0 then aa9 else (ud (p0 !=0) (aaF,0,aa .u64 (If n3 n2)) (aaF,0,aa .u64 (If n4 n2))).bind fun a5=>WF a5 else (jy p0).bind fun n6=>bif n2==0 then aa9 else (jy p1).bind fun n7=>bif n2==0 then aa9 else (ud aaF (aaF,0,aa .u64 (If n6 n2)) (aaF,0,aa .u64 (If n7 n2))).bind fun a8=>WF a8
def arE:Ce:=Oc 238 rfl [c89,c88,arD] (aI gI) (tG (bL.row fQ)) .pure (u2 oQ)
def Dv (p0:Int×Int×Int) (p1:Int×Int×Int):Option (Int×Int):=(oQ (aa .i64 (p0.2.1-p1.2.1)) (aa .i64 (p1.2.2-p0.2.2))).bind fun a0=>WF a0.1
def arF:Ce:=Oc 181 rfl [arE] (aG (bL.row dB) (gG (bL.row dB))) (Arg.agg (bL.row fQ)) .pure (u2 Dv)
def uP (p0:Int×Int×Int) (p1:Int×Int×Int) (p2:Int×Int):Option ((Int×Int)×Bool):=(np p1 p0 p2).bind fun b0=>bif b0 then WF (p2,aaE) else bif ab1 (p0.2.2<p1.2.2) then (Dv p0 p1).bind fun a1=>WF (a1,aaE) else WF ((0,0),aaF)
def arG:Ce:=Oc 129 rfl [ZA,arF] (aG (bL.row dB) (aG (bL.row dB) (gG (bL.row fQ)))) (Arg.cV (aG (bL.row fQ) (bJ.one Arg.bool))) .pure (u3 uP)
def A0 (p0:Field) (p1:Int×Int) (p2:Int×Int):Option ((Int×Int)×Bool):=(iv p0 p1.2).bind fun n0=>(aD p0.am n0).bind fun a1=>(iv p0 p1.1).bind fun n2=>(aD p0.am n2).bind fun a3=>(uP a1 a3 p2).bind fun a4=>WF a4
def c78:Ce:=Oc 78 rfl [c43,arG] (aG bw (aG (bL.row fQ) (gG (bL.row fQ)))) (Arg.cV (aG (bL.row fQ) (bJ.one Arg.bool))) .pure (u3 A0)
def A2 (p0:aV) (p1:Int×Int):Option ((Int×Int×Int×Int×Int)×Int):=(vC p0).bind fun n0=>bif n0 !=0 then WF ((0,0,0,0,0),8) else (xA p0.aj p1).bind fun b1=>bif !b1 then WF ((0,0,0,0,0),6) else (aD p0.aB p1.1).bind fun n2=>(aD p0.bv n2).bind fun a3=>WF (a3,0)
def c79:Ce:=Oc 79 rfl [c77,akE] (aG gX (gG (bL.row fQ))) (tG (bL.row oM)) .pure (u2 A2)
def dV (s:aj'):Option (Step aj' Int):=bif ab1 (s.2.1<(EQ (UV s.2.2.2.2.2.2.1))) then (aD s.2.2.2.2.2.2.1 s.2.1).bind fun a0=>(A0 (Field.mk s.2.2.2.2.1) a0.2 (s.2.2.1,s.2.2.2.1)).bind fun a1=>bif !a1.2 then WF (.next (s.1,aa .i64 (s.2.1+1),s.2.2)) else bif ab1 ((EQ (UV s.2.2.2.2.2.2.2.2.2.2.2.2))<=s.1) then WF (.done 8) else (aD s.2.2.2.2.2.2.2.2.2.2.2.2 s.1).bind fun a2=>bif a2.1 !=a0.1 then WF (.done 8) else (aD s.2.2.2.2.2.2.2.2.2.2.2.2 s.1).bind fun a3=>(A2 (aV.mk (bD.mk s.2.2.2.2.2.2.2.1 s.2.2.2.2.2.2.2.2.1 s.2.2.2.2.2.2.2.2.2.1) s.2.2.2.2.2.2.2.2.2.2.1 s.2.2.2.2.2.2.2.2.2.2.2.1) a3.2).bind fun a4=>bif a4.2 !=0 then WF (.done 8) else bif a4.1.2.2.1 !=a0.1 then WF (.done 8) else bif !((a4.1.1==a1.1.1)&&(a4.1.2.1==a1.1.2)) then WF (.done 8) else WF (.next (aa .i64 (s.1+1),aa .i64 (s.2.1+1),s.2.2)) else bif s.1 !=(EQ (UV s.2.2.2.2.2.2.2.2.2.2.2.2)) then WF (.done 8) else WF (.done 0)
def oR (p0:aH):Option Int:=(oN p0.ii).bind fun n0=>bif n0 !=0 then WF 8 else (yq p0.io).bind fun n1=>bif n1 !=0 then WF 8 else (yr p0.af).bind fun n2=>bif n2 !=0 then WF 8 else (yu p0.af p0.io).bind fun b3=>bif !b3 then WF 8 else (vC p0.ae).bind fun n4=>bif n4 !=0 then WF 8 else bif (EQ (UV p0.ae.aB)) !=200 then WF 8 else bif (EQ (UV p0.ae.bv)) !=(EQ (UV p0.jp)) then WF 8 else aq dV (0,0,p0.ii.1,p0.ii.2,p0.io.am,p0.af.aU,p0.af.ce,p0.ae.aj.aC,p0.ae.aj.be,p0.ae.aj.bi,p0.ae.bv,p0.ae.aB,p0.jp)
def c42:Ce:=Oc 42 rfl [c56,c74,c75,c76,c77,c78,c79] (gG b9) (Arg.int .i64) .pure oR
def QN (s:acR):Option (Step acR bK):=bif ab1 (s.2.1<(EQ (UV s.1))) then (aD s.1 s.2.1).bind fun n0=>(aD s.1 (aa .i64 (If (aa .i64 (s.2.1-1)) 2))).bind fun n1=>(aX s.2.2 [(n0,n1)]).bind fun l2=>WF (.next (s.1,aa .i64 (s.2.1+1),l2)) else WF (.done s.2.2)
def F2 (p0:List Int):Option bK:=aq QN (p0,1,[])
def c45:Ce:=Oc 45 rfl [] (gL ki) (Arg.sl fQ) .own F2 aaE
def arH:Ce:=Oc 45 rfl [] (gL ki) (Arg.sl fQ) .jS F2
def wM (s:(Int×Int×aN×Int×Int)):Option (Step (Int×Int×aN×Int×Int) Bool):=bif ab1 (s.1<(EQ (UV s.2.2.1))) then (aD s.2.2.1 s.1).bind fun a0=>bif (a0.2.1==s.2.2.2.1)&&(a0.2.2==s.2.2.2.2) then WF (.done aaE) else WF (.next (aa .i64 (s.1+1),s.2)) else WF (.done aaF)
def Hh (p0:bX) (p1:Int×Int):Option Bool:=aq wM (0,p0.aU,p0.ce,p1)
def c80:Ce:=Oc 80 rfl [] (aG pE (gG (bL.row fQ))) Arg.bool .pure (u2 Hh)
def A3 (p0:Int×Int) (p1:Field) (p2:Int×Int):Option Bool:=(iv p1 p0.2).bind fun n0=>(aD p1.am n0).bind fun a1=>(iv p1 p0.1).bind fun n2=>(aD p1.am n2).bind fun a3=>(np a1 a3 p2).bind fun b4=>WF b4
def c81:Ce:=Oc 81 rfl [c43,ZA] (aG (bL.row fQ) (aG bw (gG (bL.row fQ)))) Arg.bool .pure (u3 A3)
def uQ (s:aj9):Option (Step aj9 Bool):=bif ab1 (s.2.1<(EQ (UV s.1))) then (aD s.1 s.2.1).bind fun a0=>(Hh (bX.mk s.2.2.2.2.2.1 s.2.2.2.2.2.2.1) a0).bind fun b1=>bif !b1 then WF (.done aaF) else (aD s.1 s.2.1).bind fun a2=>(A3 a2 (Field.mk s.2.2.2.2.1) (s.2.2.1,s.2.2.2.1)).bind fun b3=>bif !b3 then WF (.done aaF) else WF (.next (s.1,aa .i64 (s.2.1+1),s.2.2)) else WF (.done aaE)
def qJ (p0:aH) (p1:List (Int×Int)):Option Bool:=bif (EQ (UV p0.af.ce)) !=(EQ (UV p1)) then WF aaF else aq uQ (p1,0,p0.ii.1,p0.ii.2,p0.io.am,p0.af.aU,p0.af.ce,p0.ae.aj.aC,p0.ae.aj.be,p0.ae.aj.bi,p0.ae.bv,p0.ae.aB,p0.jp)
def c44:Ce:=Oc 44 rfl [c80,c81] (aG b9 (gL fQ)) Arg.bool .pure (u2 qJ)
def sE (s:acM):Option (Step acM aj8):=bif ab1 (s.2.1<s.1) then (aD s.2.2.2.2.2.2.2.2.2.2.2.2.2 s.2.1).bind fun n0=>(aD s.2.2.2.2.2.2.2.2.2.2.2.2.2 s.1).bind fun n1=>bif n0==n1 then WF (.done (.done 8)) else WF (.next (s.1,aa .i64 (s.2.1+1),s.2.2)) else WF (.done (.next (aa .i64 (s.1+1),s.2.2)))
def oS (s:aj7):Option aj8:=bif ab1 (s.1<(EQ (UV s.2.2.2.2.2.2.2.2.2.2.2.2))) then (aD s.2.2.2.2.2.2.2.2.2.2.2.2 s.1).bind fun n0=>(iv (Field.mk s.2.2.2.1) n0).bind fun n1=>bif ab1 (n1<0) then WF (.done 8) else aq sE (s.1,0,s.2) else (F2 s.2.2.2.2.2.2.2.2.2.2.2.2).bind fun l2=>(qJ (aH.mk (s.2.1,s.2.2.1) (Field.mk s.2.2.2.1) (bX.mk s.2.2.2.2.1 s.2.2.2.2.2.1) (aV.mk (bD.mk s.2.2.2.2.2.2.1 s.2.2.2.2.2.2.2.1 s.2.2.2.2.2.2.2.2.1) s.2.2.2.2.2.2.2.2.2.1 s.2.2.2.2.2.2.2.2.2.2.1) s.2.2.2.2.2.2.2.2.2.2.2.1) l2).bind fun b3=>bif !b3 then WF (.done 8) else WF (.done 0)
def rp (p0:bE):Option Int:=(oR p0.kw).bind fun n0=>bif n0 !=0 then WF 8 else bif (EQ (UV p0.bv)) !=(EQ (UV p0.kw.io.am)) then WF 8 else aq oS (0,p0.kw.ii.1,p0.kw.ii.2,p0.kw.io.am,p0.kw.af.aU,p0.kw.af.ce,p0.kw.ae.aj.aC,p0.kw.ae.aj.be,p0.kw.ae.aj.bi,p0.kw.ae.bv,p0.kw.ae.aB,p0.kw.jp,p0.bv)
def c23:Ce:=Oc 23 rfl [c42,c43,c45,arH,c44] (gG kV) (Arg.int .i64) .pure rp
def sF (s:((List Int)×Int×Int)):Option (Step ((List Int)×Int×Int) (Step ((List Int)×Int) Bool)):=bif ab1 (s.2.2<s.2.1) then (aD s.1 s.2.1).bind fun n0=>bif ab1 (0<=n0) then (aD s.1 s.2.2).bind fun n1=>(aD s.1 s.2.1).bind fun n2=>bif n1==n2 then WF (.done (.done aaE)) else WF (.next (s.1,s.2.1,aa .i64 (s.2.2+1))) else WF (.next (s.1,s.2.1,aa .i64 (s.2.2+1))) else WF (.done (.next (s.1,aa .i64 (s.2.1+1))))
def sG (s:((List Int)×Int)):Option (Step ((List Int)×Int) Bool):=bif ab1 (s.2<(EQ (UV s.1))) then aq sF (s.1,s.2,0) else WF (.done aaF)
def CH (p0:List Int):Option Bool:=aq sG (p0,0)
def c82:Ce:=Oc 82 rfl [] (gL ki) Arg.bool .pure CH
def nF (p0:bG) (p1:Int):Option Int:=bif ab1 (p1<(EQ (UV p0.k8))) then (aD p0.k8 p1).bind fun n0=>WF n0 else (aD p0.aW (aa .i64 (p1- (EQ (UV p0.k8))))).bind fun n1=>WF n1
def c83:Ce:=Oc 83 rfl [] (aG iD gI) (Arg.int .i64) .pure (u2 nF)
def oT (s:(Int×(List Int)×(List Int))):Option (Step (Int×(List Int)×(List Int)) (Step (Int×Int×(List Int)×(List Int)) Int)):=bif ab1 (s.1<(EQ (UV s.2.2))) then (nF (bG.mk s.2.1 s.2.2) (aa .i64 ((aa .i64 (2*s.1))+1))).bind fun n0=>(nF (bG.mk s.2.1 s.2.2) (aa .i64 ((aa .i64 (2*s.1))+2))).bind fun n1=>(aD s.2.2 s.1).bind fun n2=>bif n2 !=n0 then (aD s.2.2 s.1).bind fun n3=>bif n3 !=n1 then WF (.done (.done 8)) else (aD s.2.2 s.1).bind fun n4=>bif n4==(-1) then bif n0 !=(-1) then WF (.done (.done 8)) else bif n1 !=(-1) then WF (.done (.done 8)) else WF (.next (aa .i64 (s.1+1),s.2)) else WF (.next (aa .i64 (s.1+1),s.2)) else (aD s.2.2 s.1).bind fun n5=>bif n5==(-1) then bif n0 !=(-1) then WF (.done (.done 8)) else bif n1 !=(-1) then WF (.done (.done 8)) else WF (.next (aa .i64 (s.1+1),s.2)) else WF (.next (aa .i64 (s.1+1),s.2)) else WF (.done (.done 0))
def sH (s:(Int×Int×(List Int)×(List Int))):Option (Step (Int×Int×(List Int)×(List Int)) Int):=bif ab1 (s.2.1<s.1) then (aD s.2.2.1 s.2.1).bind fun n0=>bif ab1 (n0<(-1)) then WF (.done 8) else (aD s.2.2.1 s.2.1).bind fun n1=>bif ab1 (65535<n1) then WF (.done 8) else WF (.next (s.1,aa .i64 (s.2.1+1),s.2.2)) else aq oT (0,s.2.2)
def yw (p0:bG):Option Int:=bif ab1 ((EQ (UV p0.aW))<1) then WF 8 else bif ab1 (64<(EQ (UV p0.aW))) then WF 8 else bif (EQ (UV p0.k8)) !=(aa .i64 ((EQ (UV p0.aW)) -1)) then WF 8 else (CH p0.aW).bind fun b0=>bif b0 then WF 8 else aq sH (EQ (UV p0.aW),0,p0.aW,p0.k8)
def c46:Ce:=Oc 46 rfl [c82,c83] (gG iD) (Arg.int .i64) .pure yw
def xB (s:(Int×Int)):Option (Step (Int×Int) Bool):=bif ab1 (s.2<=64) then bif s.1==s.2 then WF (.done aaE) else WF (.next (s.1,aa .i64 (s.2*2))) else WF (.done aaF)
def CI (p0:Int):Option Bool:=aq xB (p0,1)
def c47:Ce:=Oc 47 rfl [] gI Arg.bool .pure CI
def sI (s:((List Int)×Int×aN)):Option (Step ((List Int)×Int×aN) Bool):=bif ab1 (s.2.1<(EQ (UV s.1))) then (aD s.1 s.2.1).bind fun n0=>bif n0 !=(-1) then (aD s.1 s.2.1).bind fun n1=>(iv (Field.mk s.2.2) n1).bind fun n2=>bif ab1 (n2<0) then WF (.done aaF) else WF (.next (s.1,aa .i64 (s.2.1+1),s.2.2)) else WF (.next (s.1,aa .i64 (s.2.1+1),s.2.2)) else WF (.done aaE)
def yx (p0:Field) (p1:List Int):Option Bool:=aq sI (p1,0,p0.am)
def c48:Ce:=Oc 48 rfl [c43] (aG bw (gL ki)) Arg.bool .pure (u2 yx)
def wN (s:((List Int)×Int×(List Int))):Option (Step ((List Int)×Int×(List Int)) (List Int)):=bif ab1 (s.2.1<(EQ (UV s.1))) then (aD s.1 s.2.1).bind fun n0=>bif ab1 (0<=n0) then (aD s.1 s.2.1).bind fun n1=>(aX s.2.2 [n1]).bind fun l2=>WF (.next (s.1,aa .i64 (s.2.1+1),l2)) else WF (.next (s.1,aa .i64 (s.2.1+1),s.2.2)) else WF (.done s.2.2)
def Hi (p0:List Int):Option (List Int):=aq wN (p0,0,[])
def c49:Ce:=Oc 49 rfl [] (gL ki) (Arg.sl ki) .jS Hi
def Dw (p0:Field) (p1:Int×Int) (p2:Int) (p3:Int):Option Int:=bif ab1 (p2<0) then WF p3 else bif ab1 (p3<0) then WF p2 else (iv p0 p2).bind fun n0=>(aD p0.am n0).bind fun a1=>(iv p0 p3).bind fun n2=>(aD p0.am n2).bind fun a3=>(np a1 a3 p1).bind fun b4=>bif b4 then WF p2 else WF p3
def c84:Ce:=Oc 84 rfl [c43,ZA] (aG bw (aG (bL.row fQ) (aI gI))) (Arg.int .i64) .pure (fun a=>Dw a.1 a.2.1 a.2.2.1 a.2.2.2)
def uR (s:(Int×(List Int)×(List Int)×aN×Int×Int)):Option (Step (Int×(List Int)×(List Int)×aN×Int×Int) Bool):=bif ab1 (s.1<(EQ (UV s.2.2.1))) then (aD s.2.2.1 s.1).bind fun n0=>(nF (bG.mk s.2.1 s.2.2.1) (aa .i64 ((aa .i64 (2*s.1))+1))).bind fun n1=>(nF (bG.mk s.2.1 s.2.2.1) (aa .i64 ((aa .i64 (2*s.1))+2))).bind fun n2=>(Dw (Field.mk s.2.2.2.1) s.2.2.2.2 n1 n2).bind fun n3=>bif n0 !=n3 then WF (.done aaF) else WF (.next (aa .i64 (s.1+1),s.2)) else WF (.done aaE)
def ET (p0:bG) (p1:Field) (p2:Int×Int):Option Bool:=aq uR (0,p0.aW,p0.k8,p1.am,p2)
def c50:Ce:=Oc 50 rfl [c83,c84] (aG iD (aG bw (gG (bL.row fQ)))) Arg.bool .pure (u3 ET)
def yz (s:(Int×(List Int)×(List Int)×bK)):Option (Step (Int×(List Int)×(List Int)×bK) bK):=bif ab1 (s.1<(EQ (UV s.2.2.1))) then (nF (bG.mk s.2.1 s.2.2.1) (aa .i64 ((aa .i64 (2*s.1))+1))).bind fun n0=>(nF (bG.mk s.2.1 s.2.2.1) (aa .i64 ((aa .i64 (2*s.1))+2))).bind fun n1=>bif ab1 (n0<0) then WF (.next (aa .i64 (s.1+1),s.2)) else bif ab1 (n1<0) then WF (.next (aa .i64 (s.1+1),s.2)) else (aD s.2.2.1 s.1).bind fun n2=>bif n2==n0 then (aX s.2.2.2 [(n1,n0)]).bind fun l3=>WF (.next (aa .i64 (s.1+1),s.2.1,s.2.2.1,l3)) else (aX s.2.2.2 [(n0,n1)]).bind fun l4=>WF (.next (aa .i64 (s.1+1),s.2.1,s.2.2.1,l4)) else WF (.done s.2.2.2)
def Ky (p0:bG):Option bK:=aq yz (0,p0.aW,p0.k8,[])
def c51:Ce:=Oc 51 rfl [c83] (gG iD) (Arg.sl fQ) .jS Ky
def rq (p0:bN):Option Int:=(oR p0.kw).bind fun n0=>bif n0 !=0 then WF 8 else (yw p0.lc).bind fun n1=>bif n1 !=0 then WF 8 else (CI (EQ (UV p0.lc.aW))).bind fun b2=>bif !b2 then WF 8 else (yx p0.kw.io p0.lc.aW).bind fun b3=>bif !b3 then WF 8 else (Hi p0.lc.aW).bind fun l4=>bif (EQ (UV l4)) !=(EQ (UV p0.kw.io.am)) then WF 8 else (ET p0.lc p0.kw.io p0.kw.ii).bind fun b5=>bif !b5 then WF 8 else (Ky p0.lc).bind fun l6=>(qJ p0.kw l6).bind fun b7=>bif !b7 then WF 8 else WF 0
def c24:Ce:=Oc 24 rfl [c42,c46,c47,c48,c49,c50,c51,c44] (gG iP) (Arg.int .i64) .pure rq
def lA (s:(Int×Int×Int×aN×Int×Int)):Option (Step (Int×Int×Int×aN×Int×Int) Int):=bif ab1 (s.2.2.1<s.1) then bif ab1 (s.2.1<0) then WF (.next (s.1,s.2.2.1,aa .i64 (s.2.2.1+1),s.2.2.2)) else (aD s.2.2.2.1 s.2.2.1).bind fun a0=>(aD s.2.2.2.1 s.2.1).bind fun a1=>(np a0 a1 s.2.2.2.2).bind fun b2=>bif b2 then WF (.next (s.1,s.2.2.1,aa .i64 (s.2.2.1+1),s.2.2.2)) else WF (.next (s.1,s.2.1,aa .i64 (s.2.2.1+1),s.2.2.2)) else WF (.done s.2.1)
def zV (p0:Field) (p1:Int×Int) (p2:Int) (p3:Int):Option Int:=aq lA (p3,-1,p2,p0.am,p1)
def akI:Ce:=Oc 183 rfl [ZA] (aG bw (aG (bL.row fQ) (aI gI))) (Arg.int .i64) .pure (fun a=>zV a.1 a.2.1 a.2.2.1 a.2.2.2)
def gA (self:acO->Option Ow) (a:acO):Option Ow:=(zV (Field.mk a.1) (a.2.1,a.2.2.1) a.2.2.2.2.1 a.2.2.2.2.2.1).bind fun n0=>bif ab1 (0<=n0) then (self (a.1,a.2.1,a.2.2.1,a.2.2.2.1,a.2.2.2.2.1,n0,a.2.2.2.2.2.2)).bind fun a1=>(aD a1.2 n0).bind fun a2=>(self (a.1,a.2.1,a.2.2.1,a.2.2.2.1,aa .i64 (n0+1),a.2.2.2.2.2.1,cA a1.2 n0 (a2.1,a1.1,a2.2.2))).bind fun a3=>(aD a3.2 n0).bind fun a4=>bif ((cA a3.2 n0 (a4.1,a4.2.1,a3.1)).length)==(UV a.2.2.2.2.2.2) then WF (n0,cA a3.2 n0 (a4.1,a4.2.1,a3.1)) else aa9 else bif (UV a.2.2.2.2.2.2)==(UV a.2.2.2.2.2.2) then WF (n0,a.2.2.2.2.2.2) else aa9
def kD:Nat->acO->Option Ow |0,_=>aa9 |n+1,a=>gA (kD n) a
def ug (a:acO):Option Ow:=kD 1000000 a
def agt:fb:=⟨[.l [.i .i64,.i .i64,.i .i64],.i,.i,.i,.i,.i,.l [.i .i64,.i .i64,.i .i64]],[.agg [.sl [.i .i64,.i .i64,.i .i64] []],.agg [.int .i64 0,.int .i64 0],.agg [.int .i64 0,.own 0 aaF],.int .i64 0,.int .i64 0],[.arr [.i .i64,.i .i64,.i .i64] []],[.i,.l [.i .i64,.i .i64,.i .i64]],.int .i64 0,[.arr [.i .i64,.i .i64,.i .i64] []],fun a=>ug a⟩
theorem Kz: ∀n,nC nB 132 ⟨[.l [.i .i64,.i .i64,.i .i64],.i,.i,.i,.i,.i,.l [.i .i64,.i .i64,.i .i64]],[.agg [.sl [.i .i64,.i .i64,.i .i64] []],.agg [.int .i64 0,.int .i64 0],.agg [.int .i64 0,.own 0 aaF],.int .i64 0,.int .i64 0],[.arr [.i .i64,.i .i64,.i .i64] []],[.i,.l [.i .i64,.i .i64,.i .i64]],.int .i64 0,[.arr [.i .i64,.i .i64,.i .i64] []],fun a=>kD n a⟩
 |0=>nC.zero (fun _=>rfl)
 |n+1=>nC.of rfl (wd:=aaF) (cx:=(BU oI [(183,akI.c)] [(132,⟨[.l [.i .i64,.i .i64,.i .i64],.i,.i,.i,.i,.i,.l [.i .i64,.i .i64,.i .i64]],[.agg [.sl [.i .i64,.i .i64,.i .i64] []],.agg [.int .i64 0,.int .i64 0],.agg [.int .i64 0,.own 0 aaF],.int .i64 0,.int .i64 0],[.arr [.i .i64,.i .i64,.i .i64] []],[.i,.l [.i .i64,.i .i64,.i .i64]],.int .i64 0,[.arr [.i .i64,.i .i64,.i .i64] []],fun a=>kD n a⟩)] [] [])) (vu.make ⟨akI.ok,trivial⟩ ⟨(Kz n),trivial⟩ trivial) (fun a=>by kernel_rfl)
theorem Wz:nC nB 132 agt:=Kz 1000000
def qe (s:akz):Option (Step akz Tree):=bif ab1 (s.1<(EQ (UV s.2.1))) then (aD s.2.1 s.1).bind fun a0=>(aX s.2.2.2.2.2.2 [(a0.1,0,0)]).bind fun l1=>WF (.next (aa .i64 (s.1+1),s.2.1,s.2.2.1,s.2.2.2.1,s.2.2.2.2.1,s.2.2.2.2.2.1,l1)) else (ug (s.2.1,s.2.2.1,s.2.2.2.1,s.2.2.2.2.2.1,0,EQ (UV s.2.1),s.2.2.2.2.2.2)).bind fun a2=>WF (.done (Tree.mk a2.1 a2.2))
def EU (p0:Field) (p1:Int×Int):Option Tree:=aq qe (0,p0.am,p1.1,p1.2,0,0,[])
def c85:Ce:=Oe 85 rfl [] [⟨132,_,Wz⟩] [] (aG bw (gG (bL.row fQ))) (Arg.agg xx) .jS (u2 EU)
def A4 (p0:Field) (p1:Int×Int):Option Tree:=(EU p0 p1).bind fun r0=>WF r0
def c52:Ce:=Oc 52 rfl [c85] (aG bw (gG (bL.row fQ))) (Arg.agg xx) .jS (u2 A4)
def ru (s:(Int×Int×Int×aN×bK)):Option (Step (Int×Int×Int×aN×bK) aky):=bif ab1 (s.2.1<(EQ (UV s.2.2.2.1))) then (aD s.2.2.2.1 s.2.1).bind fun a0=>bif a0.2.1==s.1 then (aD s.2.2.2.1 s.1).bind fun a1=>(aD s.2.2.2.1 s.2.1).bind fun a2=>(aX s.2.2.2.2 [(a1.1,a2.1)]).bind fun l3=>WF (.next (s.1,aa .i64 (s.2.1+1),s.2.2.1,s.2.2.2.1,l3)) else (aD s.2.2.2.1 s.2.1).bind fun a4=>bif a4.2.2==s.1 then (aD s.2.2.2.1 s.1).bind fun a5=>(aD s.2.2.2.1 s.2.1).bind fun a6=>(aX s.2.2.2.2 [(a5.1,a6.1)]).bind fun l7=>WF (.next (s.1,aa .i64 (s.2.1+1),s.2.2.1,s.2.2.2.1,l7)) else WF (.next (s.1,aa .i64 (s.2.1+1),s.2.2)) else WF (.done (.next (aa .i64 (s.1+1),s.2.2)))
def vE (s:(Int×Int×aN×bK)):Option aky:=bif ab1 (s.1<(EQ (UV s.2.2.1))) then aq ru (s.1,0,s.2) else WF (.done s.2.2.2)
def F3 (p0:Tree):Option bK:=aq vE (0,p0.ls,p0.lw,[])
def c53:Ce:=Oc 53 rfl [] (gG xx) (Arg.sl fQ) .jS F3
def ry (p0:bC):Option Int:=(oR p0.kw).bind fun n0=>bif n0 !=0 then WF 8 else (A4 p0.kw.io p0.kw.ii).bind fun r1=>(rl r1 p0.pp).bind fun b2=>bif !b2 then WF 8 else (F3 r1).bind fun l3=>(qJ p0.kw l3).bind fun b4=>bif !b4 then WF 8 else WF 0
def c25:Ce:=Oc 25 rfl [c42,c52,c41,c53,c44] (gG fF) (Arg.int .i64) .pure ry
def nT (s:(Int×Int×aN×Int×Int×Int×Int×Int)):Option (Step (Int×Int×aN×Int×Int×Int×Int×Int) Int):=bif ab1 (s.2.1<(EQ (UV s.2.2.1))) then (aD s.2.2.1 s.2.1).bind fun a0=>bif a0.1 !=s.2.2.2.1 then (aD s.2.2.1 s.2.1).bind fun a1=>(np a1 (s.2.2.2.1,s.2.2.2.2.1,s.2.2.2.2.2.1) s.2.2.2.2.2.2).bind fun b2=>bif b2 then WF (.next (aa .i64 (s.1+1),aa .i64 (s.2.1+1),s.2.2)) else WF (.next (s.1,aa .i64 (s.2.1+1),s.2.2)) else WF (.next (s.1,aa .i64 (s.2.1+1),s.2.2)) else WF (.done s.1)
def wO (p0:Field) (p1:Int×Int×Int) (p2:Int×Int):Option Int:=aq nT (0,0,p0.am,p1.1,p1.2.1,p1.2.2,p2)
def arJ:Ce:=Oc 133 rfl [ZA] (aG bw (aG (bL.row dB) (gG (bL.row fQ)))) (Arg.int .i64) .pure (u3 wO)
def mK (s:(Int×aN×Int×Int×(List Int))):Option (Step (Int×aN×Int×Int×(List Int)) (List Int)):=bif ab1 (s.1<(EQ (UV s.2.1))) then (aD s.2.1 s.1).bind fun a0=>(wO (Field.mk s.2.1) a0 (s.2.2.1,s.2.2.2.1)).bind fun n1=>(aD s.2.1 s.1).bind fun a2=>(aD s.2.2.2.2 n1).bind fun _=>WF (.next (aa .i64 (s.1+1),s.2.1,s.2.2.1,s.2.2.2.1,cA s.2.2.2.2 n1 a2.1)) else WF (.done s.2.2.2.2)
def uT (p0:Field) (p1:Int×Int):Option (List Int):=bif (EQ (UV p0.am))==(EQ (UV p0.am)) then (qd (EQ (UV p0.am)) (0:Int)).bind fun l0=>aq mK (0,p0.am,p1.1,p1.2,l0) else aa9
def c87:Ce:=Oc 87 rfl [arJ] (aG bw (gG (bL.row fQ))) (Arg.sl ki) .jS (u2 uT)
def qf (c0:(((List Int)×Int×Int)->(Option bK))) (s:((List Int)×Int×Int×Int×bK×(List Int))):Option (Step ((List Int)×Int×Int×Int×bK×(List Int)) agp):=bif ab1 (s.2.2.2.1<(EQ (UV s.1))) then (aD s.1 s.2.2.2.1).bind fun n0=>bif ab1 (s.2.1<0) then aa9 else bif (IR (kr .i64 n0 s.2.1) 2)==s.2.2.1 then (aD s.1 s.2.2.2.1).bind fun n1=>(aX s.2.2.2.2.2 [n1]).bind fun l2=>WF (.next (s.1,s.2.1,s.2.2.1,aa .i64 (s.2.2.2.1+1),s.2.2.2.2.1,l2)) else WF (.next (s.1,s.2.1,s.2.2.1,aa .i64 (s.2.2.2.1+1),s.2.2.2.2)) else (aD s.1 0).bind fun n3=>(c0 (s.2.2.2.2.2,n3,aa .i64 (s.2.1+1))).bind fun l4=>bif l4.isEmpty then WF (.done (.next (s.1,s.2.1,aa .i64 (s.2.2.1+1),s.2.2.2.2.1))) else (aX s.2.2.2.2.1 l4).bind fun l5=>WF (.done (.next (s.1,s.2.1,aa .i64 (s.2.2.1+1),l5)))
def LX (c0:(((List Int)×Int×Int)->(Option bK))) (s:Zw):Option agp:=bif ab1 (s.2.2.1<2) then aq (qf c0) (s.1,s.2.1,s.2.2.1,1,s.2.2.2,[]) else WF (.done s.2.2.2)
def A5 (self:(List Int)×Int×Int->Option bK) (a:(List Int)×Int×Int):Option bK:=bif (EQ (UV a.1))==0 then WF [] else (aD a.1 0).bind fun n0=>aq (LX self) (a.1,a.2.2,0,[(n0,a.2.1)])
def sJ:Nat->(List Int)×Int×Int->Option bK |0,_=>aa9 |n+1,a=>A5 (sJ n) a
def EV (p0:List Int) (p1:Int) (p2:Int):Option bK:=sJ 1000000 (p0,p1,p2)
theorem UQ: ∀n,jj nB 86 ⟨bJ.cons (Arg.sl ki) (bJ.cons (Arg.int .i64) (bJ.one (Arg.int .i64))),Arg.sl fQ,fun a=>sJ n a,.jS,aaF⟩
 |0=>jj.zero (fun _=>rfl)
 |n+1=>Ob rfl oI [(86,⟨bJ.cons (Arg.sl ki) (bJ.cons (Arg.int .i64) (bJ.one (Arg.int .i64))),Arg.sl fQ,fun a=>sJ n a,.jS,aaF⟩)] ⟨(UQ n),trivial⟩
def c86:Ce:=⟨86,⟨bJ.cons (Arg.sl ki) (bJ.cons (Arg.int .i64) (bJ.one (Arg.int .i64))),Arg.sl fQ,fun a=>EV a.1 a.2.1 a.2.2,.jS,aaF⟩,UQ 1000000⟩
def yA (s:(bK×Int×aN×(List Int))):Option (Step (bK×Int×aN×(List Int)) (List Int)):=bif ab1 (s.2.1<(EQ (UV s.1))) then (aD s.1 s.2.1).bind fun a0=>(iv (Field.mk s.2.2.1) a0.1).bind fun n1=>(aD s.1 s.2.1).bind fun a2=>(aD s.2.2.2 n1).bind fun _=>WF (.next (s.1,aa .i64 (s.2.1+1),s.2.2.1,cA s.2.2.2 n1 a2.2)) else WF (.done s.2.2.2)
def F4 (p0:Field) (p1:Int×Int):Option (List Int):=(uT p0 p1).bind fun l0=>(EV l0 (-1) 0).bind fun l1=>bif (EQ (UV p0.am))==(EQ (UV p0.am)) then (qd (EQ (UV p0.am)) (0:Int)).bind fun l2=>aq yA (l1,0,p0.am,l2) else aa9
def c54:Ce:=Oc 54 rfl [c87,c86,c43] (aG bw (gG (bL.row fQ))) (Arg.sl ki) .jS (u2 F4)
def yB (s:((List Int)×Int×aN×bK)):Option (Step ((List Int)×Int×aN×bK) bK):=bif ab1 (s.2.1<(EQ (UV s.1))) then (aD s.1 s.2.1).bind fun n0=>bif ab1 (0<=n0) then (aD s.2.2.1 s.2.1).bind fun a1=>(aD s.1 s.2.1).bind fun n2=>(aX s.2.2.2 [(a1.1,n2)]).bind fun l3=>WF (.next (s.1,aa .i64 (s.2.1+1),s.2.2.1,l3)) else WF (.next (s.1,aa .i64 (s.2.1+1),s.2.2)) else WF (.done s.2.2.2)
def KA (p0:Field) (p1:List Int):Option bK:=aq yB (p1,0,p0.am,[])
def c55:Ce:=Oc 55 rfl [] (aG bw (gL ki)) (Arg.sl fQ) .jS (u2 KA)
def rz (p0:bH):Option Int:=(oR p0.kw).bind fun n0=>bif n0 !=0 then WF 8 else (F4 p0.kw.io p0.kw.ii).bind fun l1=>(eN l1 p0.up).bind fun b2=>bif !b2 then WF 8 else (KA p0.kw.io l1).bind fun l3=>(qJ p0.kw l3).bind fun b4=>bif !b4 then WF 8 else WF 0
def c26:Ce:=Oc 26 rfl [c42,c54,c14,c55,c44] (gG fG) (Arg.int .i64) .pure rz
def rA (p0:Int×Int):Option Int:=(oN p0).bind fun n0=>bif n0 !=0 then (oN p0).bind fun n1=>WF n1 else bif ab1 (1073741824<p0.1) then WF 2 else bif ab1 (p0.1<(-1073741824)) then WF 2 else bif ab1 (1024<p0.2) then WF 2 else WF 0
def c27:Ce:=Oc 27 rfl [c56] (gG (bL.row fQ)) (Arg.int .i64) .pure rA
abbrev KT (r:Type):=Int×Int×aN×Int×aN×(List Int)×(List Bool)×(List Int)×fH×(List Int)×aN×r
abbrev CT (r:Type):=Int×KT ((List Int)×KT ((List Int)×(List Int)×KT (Int×aN×KT r)))
def kZ {r:Type} (k:aH) (x:r):KT r:=(k.ii.1,k.ii.2,k.io.am,k.af.aU,k.af.ce,k.ae.aj.aC,k.ae.aj.be,k.ae.aj.bi,k.ae.bv,k.ae.aB,k.jp,x)
def kR {r:Type} (p:KT r):r:=p.2.2.2.2.2.2.2.2.2.2.2
def kC {r:Type} (p:KT r):aH:=aH.mk (p.1,p.2.1) (Field.mk p.2.2.1) (bX.mk p.2.2.2.1 p.2.2.2.2.1) (aV.mk (bD.mk p.2.2.2.2.2.1 p.2.2.2.2.2.2.1 p.2.2.2.2.2.2.2.1) p.2.2.2.2.2.2.2.2.1 p.2.2.2.2.2.2.2.2.2.1) p.2.2.2.2.2.2.2.2.2.2.1
def cZ {r:Type} (c:Choice) (x:r):CT r:=(c.ut,kZ c.bv.kw (c.bv.bv,kZ c.gC.kw (c.gC.lc.aW,c.gC.lc.k8,kZ c.dU.kw (c.dU.pp.ls,c.dU.pp.lw,kZ c.cH.kw x))))
def cR {r:Type} (p:CT r):r:=kR (kR (kR (kR p.2).2).2.2).2.2
def cM {r:Type} (p:CT r) (up:List Int):Choice:=Choice.mk p.1 (bE.mk (kC p.2) (kR p.2).1) (bN.mk (kC (kR p.2).2) (bG.mk (kR (kR p.2).2).1 (kR (kR p.2).2).2.1)) (bC.mk (kC (kR (kR p.2).2).2.2) (Tree.mk (kR (kR (kR p.2).2).2.2).1 (kR (kR (kR p.2).2).2.2).2.1)) (bH.mk (kC (kR (kR (kR p.2).2).2.2).2.2) up)
def qK:Choice:=Choice.mk 0 (bE.mk dI []) (bN.mk dI (bG.mk [] [])) (bC.mk dI (Tree.mk 0 [])) (bH.mk dI [])
def WA (p0:Choice) (n:Int):Option Int:=bif n !=0 then WF 8 else (nm p0).bind fun r=>(rA r.ii).bind fun m=>bif m !=0 then WF 8 else WF 0
def rc5 (p0:Choice):Option Int:=bif p0.ut==1 then (rp p0.bv).bind fun n=>WA p0 n else bif p0.ut==2 then (rq p0.gC).bind fun n=>WA p0 n else bif p0.ut==3 then (ry p0.dU).bind fun n=>WA p0 n else bif p0.ut==4 then (rz p0.cH).bind fun n=>WA p0 n else WF 8
def rc4 (p0:Choice):Option Int:=bif p0.ut !=4 then (jx p0.cH qK.cH).bind fun b=>bif !b then WF 8 else rc5 p0 else rc5 p0
def rc3 (p0:Choice):Option Int:=bif p0.ut !=3 then (jw p0.dU qK.dU).bind fun b=>bif !b then WF 8 else rc4 p0 else rc4 p0
def rc2 (p0:Choice):Option Int:=bif p0.ut !=2 then (jv p0.gC qK.gC).bind fun b=>bif !b then WF 8 else rc3 p0 else rc3 p0
def gD (p0:Choice):Option Int:=bif p0.ut !=1 then (ju p0.bv qK.bv).bind fun b=>bif !b then WF 8 else rc2 p0 else rc2 p0
def c8:Ce:=Oc 8 rfl [c19,c20,c21,c22,c23,c24,c25,c26,c7,c27] (gG dN) (Arg.int .i64) .pure gD
def iS (p0:aH):Option Bool:=bif (p0.ii.1==0)&&(p0.ii.2==0) then bif p0.af.aU==0 then WF ((aa .i64 ((aa .i64 ((aa .i64 ((aa .i64 ((aa .i64 ((aa .i64 ((aa .i64 ((EQ (UV p0.io.am))+(EQ (UV p0.af.ce))))+(EQ (UV p0.ae.bv))))+(EQ (UV p0.ae.aB))))+(EQ (UV p0.ae.aj.aC))))+(EQ (UV p0.ae.aj.be))))+(EQ (UV p0.ae.aj.bi))))+(EQ (UV p0.jp))))==0) else WF aaF else WF aaF
def c90:Ce:=Oc 90 rfl [] (gG b9) Arg.bool .pure iS
def mL (p0:Int):Option Int:=bif ab1 (p0<0) then WF (aa .u64 (0- (aa .u64 p0))) else WF (aa .u64 p0)
def c96:Ce:=Oc 96 rfl [] gI (Arg.int .u64) .pure mL
def A6 (s:(Int×Int)):Option (Step (Int×Int) Int):=bif ab1 (0<s.2) then bif s.2==0 then aa9 else WF (.next (s.2,IR s.1 s.2)) else WF (.done s.1)
def zW (p0:Int) (p1:Int):Option Int:=aq A6 (p0,p1)
def c95:Ce:=Oc 95 rfl [] (bJ.cons (Arg.int .u64) (bJ.one (Arg.int .u64))) (Arg.int .u64) .pure (u2 zW)
def dC (p0:Int×Int):Option Int:=bif ab1 (p0.2<1) then WF 8 else bif p0.1==(-9223372036854775808) then WF 8 else (mL p0.1).bind fun n0=>(zW (aa .u64 p0.2) n0).bind fun n1=>bif ab1 (1<n1) then WF 8 else WF 0
def S8:Ce:=Oc 60 rfl [c96,c95] (gG (bL.row fQ)) (Arg.int .i64) .pure dC
def sK (p0:Int):Option Bool:=bif ab1 (p0<(-1048576)) then WF aaE else WF (ab1 (1048576<p0))
def arK:Ce:=Oc 276 rfl [] gI Arg.bool .pure sK
def lB (p0:Int×Int×Int):Option Int:=bif ab1 (p0.1<0) then WF 8 else bif ab1 (65535<p0.1) then WF 8 else (sK p0.2.1).bind fun b0=>bif b0 then WF 8 else (sK p0.2.2).bind fun b1=>bif b1 then WF 8 else WF 0
def acT:Ce:=Oc 223 rfl [arK] (gG (bL.row dB)) (Arg.int .i64) .pure lB
def kE (s:Zy):Option (Step Zy (Step Zy Int)):=bif ab1 (s.2.2.1<s.2.1) then (aD s.1 s.2.2.1).bind fun a0=>bif ab1 (0<s.2.2.1) then (aD s.2.2.2 (aa .i64 (s.2.2.1-1))).bind fun a1=>bif ab1 (a0.1<=a1.1) then WF (.done (.done 32)) else WF (.next (s.1,s.2.1,aa .i64 (s.2.2.1+1),s.2.2.2)) else WF (.next (s.1,s.2.1,aa .i64 (s.2.2.1+1),s.2.2.2)) else WF (.done (.done 0))
def oU (s:Zy):Option (Step Zy Int):=bif ab1 (s.2.2.1<s.2.1) then (aD s.1 s.2.2.1).bind fun a0=>(lB a0).bind fun n1=>bif n1 !=0 then WF (.done n1) else WF (.next (s.1,s.2.1,aa .i64 (s.2.2.1+1),s.2.2.2)) else aq kE (s.2.2.2,EQ (UV s.2.2.2),0,s.2.2.2)
def cY (p0:Field):Option Int:=bif ab1 (64<(EQ (UV p0.am))) then WF 4 else aq oU (p0.am,EQ (UV p0.am),0,p0.am)
def QO:Ce:=Oc 184 rfl [acT] (gG bw) (Arg.int .i64) .pure cY
def xC (p0:Int×Int):Option Bool:=bif ab1 (0<=(if p0.2<p0.1 then p0.2 else p0.1)) then bif ab1 ((if p0.2>p0.1 then p0.2 else p0.1)<=65535) then WF (p0.1 !=p0.2) else WF aaF else WF aaF
def akK:Ce:=Oc 240 rfl [] (gG (bL.row fQ)) Arg.bool .pure xC
def uU (s:aku):Option (Step aku Int):=bif ab1 (s.2.2.2.1<s.2.2.1) then (aD s.2.1 s.2.2.2.1).bind fun a0=>(xC a0.2).bind fun b1=>bif !b1 then WF (.done 8) else (Qh s.2.2.2.2.2.2 [a0.2.1,a0.2.2]).bind fun b2=>bif b2 then WF (.done 8) else bif ab1 (a0.1<=s.1) then WF (.done 8) else bif ab1 (s.2.2.2.2.1<=a0.1) then WF (.done 8) else (Qi s.2.2.2.2.2.2 [a0.2.1,a0.2.2]).bind fun l3=>WF (.next (a0.1,s.2.1,s.2.2.1,aa .i64 (s.2.2.2.1+1),s.2.2.2.2.1,s.2.2.2.2.2.1,l3)) else WF (.done 0)
def uh (p0:bX):Option Int:=bif ab1 (200<(EQ (UV p0.ce))) then WF 8 else bif ab1 (p0.aU<0) then WF 8 else bif ab1 (1000000<p0.aU) then WF 8 else aq uU (-1,p0.ce,EQ (UV p0.ce),0,p0.aU,p0.ce,[])
def agx:Ce:=Oc 185 rfl [akK] (gG pE) (Arg.int .i64) .pure uh
def iT (s:((List Bool)×Bool×Int×Int)):Option (Step ((List Bool)×Bool×Int×Int) Int):=bif ab1 (s.2.2.2<s.2.2.1) then (aD s.1 s.2.2.2).bind fun b0=>bif s.2.1==b0 then WF (.done s.2.2.2) else WF (.next (s.1,s.2.1,s.2.2.1,aa .i64 (s.2.2.2+1))) else WF (.done (-1))
def sL (p0:List Bool) (p1:Bool):Option Int:=aq iT (p0,p1,EQ (UV p0),0)
def arL:Ce:=Oc 311 rfl [] (aL kb (bJ.one Arg.bool)) (Arg.int .i64) .pure (u2 sL)
def fh (p0:List Bool) (p1:Bool):Option Bool:=(sL p0 p1).bind fun n0=>WF (ab1 (0<=n0))
def arM:Ce:=Oc 287 rfl [arL] (aL kb (bJ.one Arg.bool)) Arg.bool .pure (u2 fh)
def iK (s:((List Int)×Int×Int×(List Int)×(List Bool)×(List Int))):Option (Step ((List Int)×Int×Int×(List Int)×(List Bool)×(List Int)) akw):=bif ab1 (s.2.2.1<s.2.1) then (aD s.1 s.2.2.1).bind fun n0=>bif ab1 (n0<0) then WF (.done (.done 8)) else bif ab1 (1000000<n0) then WF (.done (.done 8)) else bif n0==0 then (aD s.2.2.2.2.1 s.2.2.1).bind fun b1=>bif b1 then WF (.done (.done 8)) else WF (.next (s.1,s.2.1,aa .i64 (s.2.2.1+1),s.2.2.2)) else WF (.next (s.1,s.2.1,aa .i64 (s.2.2.1+1),s.2.2.2)) else WF (.done (.done 0))
def uW (c0:(List Bool)) (s:akv):Option akw:=match s with |(a,b,d,e,f,g,h,i)=>bif ab1 (d<b) then (aD a d).bind fun n0=>bif ab1 (n0<0) then bif (UV i)==(UV i) then bif (UV i)==(UV c0) then bif (UV i)==(UV c0) then bif ab1 (0<=d) then WF (.done 8) else (fh i aaF).bind fun b1=>bif b1 then WF (.done 8) else aq iK (e,EQ (UV e),0,e,f,g) else aa9 else aa9 else aa9 else bif ab1 (h<=n0) then bif (UV i)==(UV i) then bif (UV i)==(UV c0) then bif (UV i)==(UV c0) then bif ab1 (0<=d) then WF (.done 8) else (fh i aaF).bind fun b2=>bif b2 then WF (.done 8) else aq iK (e,EQ (UV e),0,e,f,g) else aa9 else aa9 else aa9 else (aD i n0).bind fun b3=>bif b3 then bif (UV i)==(UV i) then bif (UV i)==(UV c0) then bif (UV i)==(UV c0) then bif ab1 (0<=d) then WF (.done 8) else (fh i aaF).bind fun b4=>bif b4 then WF (.done 8) else aq iK (e,EQ (UV e),0,e,f,g) else aa9 else aa9 else aa9 else (aD i n0).bind fun _=>bif ((cA i n0 aaE).length)==(UV i) then WF (.next (a,b,aa .i64 (d+1),e,f,g,h,cA i n0 aaE)) else aa9 else bif (UV i)==(UV c0) then bif (UV i)==(UV c0) then (fh i aaF).bind fun b6=>bif b6 then WF (.done 8) else aq iK (e,EQ (UV e),0,e,f,g) else aa9 else aa9
def uj (p0:bD):Option Int:=bif ab1 ((EQ (UV p0.aC))<1) then WF 8 else bif ab1 (200<(EQ (UV p0.aC))) then WF 8 else bif (EQ (UV p0.be)) !=(EQ (UV p0.aC)) then WF 8 else (cw p0.be).bind fun l0=>aq (uW l0) (p0.bi,EQ (UV p0.bi),0,p0.aC,p0.be,p0.bi,EQ (UV p0.aC),l0)
def agy:Ce:=Oe 241 rfl [xy,arM] [] [⟨248,Zk,rfl⟩,⟨195,S7,rfl⟩,⟨286,ajO,rfl⟩] (gG pD) (Arg.int .i64) .pure uj
def A7 (p0:Int×Int) (p1:Int×Int):Option Int:=(dC p0).bind fun n0=>(dC p1).bind fun n1=>WF (if n1>n0 then n1 else n0)
def arN:Ce:=Oc 149 rfl [S8] (aG (bL.row fQ) (gG (bL.row fQ))) (Arg.int .i64) .pure (u2 A7)
def qw (p0:Int):Option Bool:=WF (p0 !=p0)
def arO:Ce:=Oc 201 rfl [] gI Arg.bool .pure qw
def lC (p0:Int) (p1:Int):Option Int:=(qw p0).bind fun b0=>(qw p1).bind fun b1=>bif b0 then bif b1 then WF 0 else WF (-1) else bif b1 then WF 1 else bif ab1 (p0<p1) then WF (-1) else bif ab1 (p1<p0) then WF 1 else WF 0
def akL:Ce:=Oc 150 rfl [arO] (aI gI) (Arg.int .i64) .pure (u2 lC)
def fY (p0:Int) (p1:Int):Option (Int×Int):=WF (aa .u64 ((aa .u64 ((aa .u64 ((kr .u64 p0 32)*(kr .u64 p1 32)))+(kr .u64 (aa .u64 ((aa .u64 ((kr .u64 p0 32)*(rT .u64 p1 4294967295)))+(kr .u64 (aa .u64 ((rT .u64 p0 4294967295)*(rT .u64 p1 4294967295))) 32))) 32)))+(kr .u64 (aa .u64 ((rT .u64 (aa .u64 ((aa .u64 ((kr .u64 p0 32)*(rT .u64 p1 4294967295)))+(kr .u64 (aa .u64 ((rT .u64 p0 4294967295)*(rT .u64 p1 4294967295))) 32))) 4294967295)+(aa .u64 ((rT .u64 p0 4294967295)*(kr .u64 p1 32))))) 32)),aa .u64 (p0*p1))
def agz:Ce:=Oc 203 rfl [] (bJ.cons (Arg.int .u64) (bJ.one (Arg.int .u64))) (Arg.cV (bJ.cons (Arg.int .u64) (bJ.one (Arg.int .u64)))) .pure (u2 fY)
def vF (p0:Int) (p1:Int):Option (Bool×Int×Int):=(mL p0).bind fun n0=>(mL p1).bind fun n1=>(fY n0 n1).bind fun a2=>WF (!((ab1 (p0<0))==(ab1 (p1<0))),a2)
def arP:Ce:=Oc 152 rfl [c96,agz] (aI gI) (Arg.agg (bL.row CA)) .pure (u2 vF)
def pF (p0:Int):Option Bool:=WF (p0 !=p0)
def arQ:Ce:=Oc 262 rfl [] (bJ.one (Arg.int .u64)) Arg.bool .pure pF
def kF (p0:Int) (p1:Int):Option Int:=(pF p0).bind fun b0=>(pF p1).bind fun b1=>bif b0 then bif b1 then WF 0 else WF (-1) else bif b1 then WF 1 else bif ab1 (p0<p1) then WF (-1) else bif ab1 (p1<p0) then WF 1 else WF 0
def arR:Ce:=Oc 202 rfl [arQ] (bJ.cons (Arg.int .u64) (bJ.one (Arg.int .u64))) (Arg.int .i64) .pure (u2 kF)
def uX (p0:Bool×Int×Int) (p1:Bool×Int×Int):Option Int:=(kF p0.2.1 p1.2.1).bind fun n0=>bif n0 !=0 then WF n0 else (kF p0.2.2 p1.2.2).bind fun n1=>WF n1
def arS:Ce:=Oc 151 rfl [arR] (aG (bL.row CA) (gG (bL.row CA))) (Arg.int .i64) .pure (u2 uX)
def oh (p0:Int×Int) (p1:Int×Int):Option (Int×Int):=(A7 p0 p1).bind fun n0=>bif n0 !=0 then WF (0,n0) else bif !((ab1 (p0.1<0))==(ab1 (p1.1<0))) then (lC p0.1 p1.1).bind fun n1=>WF (n1,0) else (vF p0.1 p1.2).bind fun a2=>(vF p1.1 p0.2).bind fun a3=>(uX a2 a3).bind fun n4=>bif ab1 (p0.1<0) then WF (aa .i64 (0-n4),0) else WF (n4,0)
def c97:Ce:=Oc 97 rfl [arN,akL,arP,arS] (aG (bL.row fQ) (gG (bL.row fQ))) (Arg.cV (aI gI)) .pure (u2 oh)
def cmp_isNaN_int (p0:Int):Option Bool:=WF (p0 !=p0)
def arT:Ce:=Oc 297 rfl [] gI Arg.bool .pure cmp_isNaN_int
def fv (p0:Int) (p1:Int):Option Int:=(cmp_isNaN_int p0).bind fun b0=>(cmp_isNaN_int p1).bind fun b1=>bif b0 then bif b1 then WF 0 else WF (-1) else bif b1 then WF 1 else bif ab1 (p0<p1) then WF (-1) else bif ab1 (p1<p0) then WF 1 else WF 0
def S9:Ce:=Oc 271 rfl [arT] (aI gI) (Arg.int .i64) .pure (u2 fv)
def zc (s:(Int×(List Int)×Int×Int)):Option (Step (Int×(List Int)×Int×Int) Int):=bif ab1 (s.2.2.2<s.2.2.1) then (aD s.2.1 s.2.2.2).bind fun n0=>bif n0 !=s.1 then WF (.done n0) else WF (.next (s.1,s.2.1,s.2.2.1,aa .i64 (s.2.2.2+1))) else WF (.done s.1)
def xD (p0:List Int):Option Int:=aq zc (0,p0,EQ (UV p0),0)
def akM:Ce:=Oc 288 rfl [] (gL ki) (Arg.int .i64) .pure xD
def cK (p0:Int×Int×Int×Int×Int) (p1:Int×Int×Int×Int×Int):Option Int:=(oh (p0.1,p0.2.1) (p1.1,p1.2.1)).bind fun a0=>(fv p0.2.2.1 p1.2.2.1).bind fun n1=>(xD [a0.1,n1]).bind fun n2=>WF n2
def ZB:Ce:=Oc 242 rfl [c97,S9,akM] (aG (bL.row oM) (gG (bL.row oM))) (Arg.int .i64) .pure (u2 cK)
def lg (s:aki):Option (Step aki ako):=bif ab1 (s.2.2.1<s.2.1) then (aD s.1 s.2.2.1).bind fun a0=>(dC (a0.1,a0.2.1)).bind fun n1=>bif n1 !=0 then WF (.done (.done 8)) else bif ab1 (a0.2.2.1<0) then WF (.done (.done 8)) else bif ab1 (1000000<a0.2.2.1) then WF (.done (.done 8)) else (Qh s.2.2.2.2.2.2.2.2 [a0.2.2.1]).bind fun b2=>bif b2 then WF (.done (.done 8)) else (Qi s.2.2.2.2.2.2.2.2 [a0.2.2.1]).bind fun l3=>bif ab1 (0<s.2.2.1) then (aD s.2.2.2.2.2.2.1 (aa .i64 (If (aa .i64 (s.2.2.1-1)) 2))).bind fun a4=>(cK a0 a4).bind fun n5=>bif ab1 (n5<0) then WF (.done (.done 8)) else WF (.next (s.1,s.2.1,aa .i64 (s.2.2.1+1),s.2.2.2.1,s.2.2.2.2.1,s.2.2.2.2.2.1,s.2.2.2.2.2.2.1,s.2.2.2.2.2.2.2.1,l3)) else WF (.next (s.1,s.2.1,aa .i64 (s.2.2.1+1),s.2.2.2.1,s.2.2.2.2.1,s.2.2.2.2.2.1,s.2.2.2.2.2.2.1,s.2.2.2.2.2.2.2.1,l3)) else WF (.done (.done 0))
def nU (s:akn):Option ako:=bif ab1 (s.2.2.1<s.2.1) then (aD s.1 s.2.2.1).bind fun n0=>(aD s.2.2.2.2.1 s.2.2.1).bind fun b1=>bif !b1 then bif n0 !=(-1) then WF (.done 8) else WF (.next (s.1,s.2.1,aa .i64 (s.2.2.1+1),s.2.2.2)) else bif ab1 (n0<0) then WF (.done 8) else bif ab1 ((EQ (UV s.2.2.2.2.2.2.1))<=n0) then WF (.done 8) else (aD s.2.2.2.2.2.2.1 n0).bind fun a2=>(aD s.2.2.2.1 s.2.2.1).bind fun n3=>bif !((a2.2.2.2.1==s.2.2.1)&&(a2.2.2.2.2==n3)) then WF (.done 8) else WF (.next (s.1,s.2.1,aa .i64 (s.2.2.1+1),s.2.2.2)) else aq lg (s.2.2.2.2.2.2.1,EQ (UV s.2.2.2.2.2.2.1),0,s.2.2.2.1,s.2.2.2.2.1,s.2.2.2.2.2.1,s.2.2.2.2.2.2.1,s.2.2.2.2.2.2.2,[])
def lD (p0:aV):Option Int:=(uj p0.aj).bind fun n0=>bif n0 !=0 then WF 8 else bif (EQ (UV p0.aB)) !=(EQ (UV p0.aj.be)) then WF 8 else bif (EQ (UV p0.bv)) !=(aa .i64 ((EQ (UV p0.aj.be)) - (EQ (UV p0.aj.bi)))) then WF 8 else aq nU (p0.aB,EQ (UV p0.aB),0,p0.aj.aC,p0.aj.be,p0.aj.bi,p0.bv,p0.aB)
def ZC:Ce:=Oc 186 rfl [agy,S8,ZB] (gG gX) (Arg.int .i64) .pure lD
def zd (p0:Int×Int×Int) (p1:Int):Option Int:=(fv p0.1 p1).bind fun n0=>WF n0
def arU:Ce:=Oc 290 rfl [S9] (aG (bL.row dB) gI) (Arg.int .i64) .pure (u2 zd)
def jY (s:Ea):Option Zx:=bif ab1 (s.2.2.2.1<s.2.2.2.2) then (aD s.1 (aa .i64 (kr .u64 (aa .u64 (aa .i64 (s.2.2.2.1+s.2.2.2.2))) 1))).bind fun a0=>(zd a0 s.2.1).bind fun n1=>bif ab1 (n1<0) then WF (.next (s.1,s.2.1,s.2.2.1,aa .i64 ((aa .i64 (kr .u64 (aa .u64 (aa .i64 (s.2.2.2.1+s.2.2.2.2))) 1))+1),s.2.2.2.2)) else WF (.next (s.1,s.2.1,s.2.2.1,s.2.2.2.1,aa .i64 (kr .u64 (aa .u64 (aa .i64 (s.2.2.2.1+s.2.2.2.2))) 1))) else bif ab1 (s.2.2.2.1<s.2.2.1) then (aD s.1 s.2.2.2.1).bind fun a2=>(zd a2 s.2.1).bind fun n3=>WF (.done (s.2.2.2.1,n3==0)) else WF (.done (s.2.2.2.1,aaF))
def dA (p0:List (Int×Int×Int)) (p1:Int) (_:Unit):Option (Int×Bool):=aq jY (p0,p1,EQ (UV p0),0,EQ (UV p0))
def ZD:Ce:=Oc 277 rfl [arU] (aL dB (aI (bJ.one (Arg.fx 290 bJ.nil)))) (Arg.cV (aI (bJ.one Arg.bool))) .pure (u3 dA)
def lF (p0:Field) (p1:Int):Option (Int×Int×Int):=(dA p0.am p1 ()).bind fun a0=>bif !a0.2 then WF (-1,0,0) else (aD p0.am a0.1).bind fun a1=>WF a1
def agA:Ce:=Oc 244 rfl [ZD] (aG bw gI) (Arg.agg (bL.row dB)) .pure (u2 lF)
def uo (p0:Int×Int×Int) (p1:Int×Int×Int) (p2:Int×Int):Option Int:=(lB p0).bind fun n0=>(lB p1).bind fun n1=>(dC p2).bind fun n2=>bif (if n2>(if n1>n0 then n1 else n0) then n2 else if n1>n0 then n1 else n0) !=0 then WF (if n2>(if n1>n0 then n1 else n0) then n2 else if n1>n0 then n1 else n0) else bif p0.1==p1.1 then WF 2 else WF 0
def agB:Ce:=Oc 245 rfl [acT,S8] (aG (bL.row dB) (aG (bL.row dB) (gG (bL.row fQ)))) (Arg.int .i64) .pure (u3 uo)
def qg (s:(Int×Int×Int×Int×Int×Int×Int×Int×Int)):Option (Step (Int×Int×Int×Int×Int×Int×Int×Int×Int) (Int×Int)):=bif ab1 (s.2.2.2.2.1<2) then bif s.2.2.2.2.1==0 then (fY (aa .u64 s.1) (aa .u64 s.2.1)).bind fun a0=>bif ab1 (s.1<0) then bif ab1 (s.2.1<0) then (tX s.2.2.2.2.2.2.2.2 a0.2 0).bind fun a1=>WF (.next (s.1,s.2.1,s.2.2.1,s.2.2.2.1,aa .i64 (s.2.2.2.2.1+1),s.2.2.2.2.2.1,s.2.2.2.2.2.2.1,aa .i64 ((aa .i64 (s.2.2.2.2.2.2.2.1+(aa .i64 ((aa .i64 ((aa .i64 a0.1) -s.2.1)) -s.1))))+(aa .i64 a1.2)),a1.1)) else (tX s.2.2.2.2.2.2.2.2 a0.2 0).bind fun a2=>WF (.next (s.1,s.2.1,s.2.2.1,s.2.2.2.1,aa .i64 (s.2.2.2.2.1+1),s.2.2.2.2.2.1,s.2.2.2.2.2.2.1,aa .i64 ((aa .i64 (s.2.2.2.2.2.2.2.1+(aa .i64 ((aa .i64 a0.1) -s.2.1))))+(aa .i64 a2.2)),a2.1)) else bif ab1 (s.2.1<0) then (tX s.2.2.2.2.2.2.2.2 a0.2 0).bind fun a3=>WF (.next (s.1,s.2.1,s.2.2.1,s.2.2.2.1,aa .i64 (s.2.2.2.2.1+1),s.2.2.2.2.2.1,s.2.2.2.2.2.2.1,aa .i64 ((aa .i64 (s.2.2.2.2.2.2.2.1+(aa .i64 ((aa .i64 a0.1) -s.1))))+(aa .i64 a3.2)),a3.1)) else (tX s.2.2.2.2.2.2.2.2 a0.2 0).bind fun a4=>WF (.next (s.1,s.2.1,s.2.2.1,s.2.2.2.1,aa .i64 (s.2.2.2.2.1+1),s.2.2.2.2.2.1,s.2.2.2.2.2.2.1,aa .i64 ((aa .i64 (s.2.2.2.2.2.2.2.1+(aa .i64 a0.1)))+(aa .i64 a4.2)),a4.1)) else bif s.2.2.2.2.1==1 then (fY (aa .u64 s.2.2.1) (aa .u64 s.2.2.2.1)).bind fun a5=>bif ab1 (s.2.2.1<0) then bif ab1 (s.2.2.2.1<0) then (tX s.2.2.2.2.2.2.2.2 a5.2 0).bind fun a6=>WF (.next (s.1,s.2.1,s.2.2.1,s.2.2.2.1,aa .i64 (s.2.2.2.2.1+1),s.2.2.2.2.2.1,s.2.2.2.2.2.2.1,aa .i64 ((aa .i64 (s.2.2.2.2.2.2.2.1+(aa .i64 ((aa .i64 ((aa .i64 a5.1) -s.2.2.2.1)) -s.2.2.1))))+(aa .i64 a6.2)),a6.1)) else (tX s.2.2.2.2.2.2.2.2 a5.2 0).bind fun a7=>WF (.next (s.1,s.2.1,s.2.2.1,s.2.2.2.1,aa .i64 (s.2.2.2.2.1+1),s.2.2.2.2.2.1,s.2.2.2.2.2.2.1,aa .i64 ((aa .i64 (s.2.2.2.2.2.2.2.1+(aa .i64 ((aa .i64 a5.1) -s.2.2.2.1))))+(aa .i64 a7.2)),a7.1)) else bif ab1 (s.2.2.2.1<0) then (tX s.2.2.2.2.2.2.2.2 a5.2 0).bind fun a8=>WF (.next (s.1,s.2.1,s.2.2.1,s.2.2.2.1,aa .i64 (s.2.2.2.2.1+1),s.2.2.2.2.2.1,s.2.2.2.2.2.2.1,aa .i64 ((aa .i64 (s.2.2.2.2.2.2.2.1+(aa .i64 ((aa .i64 a5.1) -s.2.2.1))))+(aa .i64 a8.2)),a8.1)) else (tX s.2.2.2.2.2.2.2.2 a5.2 0).bind fun a9=>WF (.next (s.1,s.2.1,s.2.2.1,s.2.2.2.1,aa .i64 (s.2.2.2.2.1+1),s.2.2.2.2.2.1,s.2.2.2.2.2.2.1,aa .i64 ((aa .i64 (s.2.2.2.2.2.2.2.1+(aa .i64 a5.1)))+(aa .i64 a9.2)),a9.1)) else aa9 else WF (.done s.2.2.2.2.2.2.2)
def A8 (p0:Int×Int×Int×Int):Option (Int×Int):=aq qg (p0.1,p0.2.1,p0.2.2.1,p0.2.2.2,0,0,0,0,0)
def arV:Ce:=Oc 291 rfl [agz,Zt] (gG (bL.row aj1)) (Arg.agg (bL.row kiu)) .pure A8
def oV (p0:Int×Int×Int) (p1:Int×Int×Int) (p2:Int×Int):Option Int:=(A8 (aa .i64 (p0.2.1-p1.2.1),p2.2,aa .i64 (p0.2.2-p1.2.2),p2.1)).bind fun a0=>bif !((a0.1==0)&&(a0.2==0)) then bif ab1 (a0.1<0) then WF (-1) else WF 1 else (lC p0.2.2 p1.2.2).bind fun n1=>(fv p1.1 p0.1).bind fun n2=>(xD [n1,n2]).bind fun n3=>WF n3
def akN:Ce:=Oc 246 rfl [arV,akL,S9,akM] (aG (bL.row dB) (aG (bL.row dB) (gG (bL.row fQ)))) (Arg.int .i64) .pure (u3 oV)
def CJ (p0:Bool×Int×Int) (p1:Int) (p2:Int):Option ((Int×Int)×Int):=bif ab1 (0<p0.2.1) then WF ((0,0),16) else bif ab1 (9223372036854775807<p0.2.2) then WF ((0,0),16) else bif ab1 (0<p1) then WF ((0,0),16) else bif ab1 (9223372036854775807<p2) then WF ((0,0),16) else bif p0.1 then WF ((aa .i64 (0- (aa .i64 p0.2.2)),aa .i64 p2),0) else WF ((aa .i64 p0.2.2,aa .i64 p2),0)
def arW:Ce:=Oc 321 rfl [] (aG (bL.row CA) (bJ.cons (Arg.int .u64) (bJ.one (Arg.int .u64)))) (tG (bL.row fQ)) .pure (u3 CJ)
def A9 (p0:Int) (p1:Int):Option ((Int×Int)×Int):=bif p1==0 then WF ((0,0),26) else (mL p0).bind fun n0=>(mL p1).bind fun n1=>(zW n0 n1).bind fun n2=>(mL p0).bind fun n3=>bif n2==0 then aa9 else (mL p1).bind fun n4=>bif n2==0 then aa9 else (CJ (!((ab1 (p0<0))==(ab1 (p1<0))),0,aa .u64 (If n3 n2)) 0 (aa .u64 (If n4 n2))).bind fun a5=>WF a5
def arX:Ce:=Oc 312 rfl [c96,c95,arW] (aI gI) (tG (bL.row fQ)) .pure (u2 A9)
def CK (p0:Int×Int×Int) (p1:Int×Int×Int):Option ((Int×Int)×Int):=(uo p0 p1 (0,1)).bind fun n0=>bif n0 !=0 then WF ((0,0),n0) else bif p0.2.2==p1.2.2 then WF ((0,0),6) else (A9 (aa .i64 (p0.2.1-p1.2.1)) (aa .i64 (p1.2.2-p0.2.2))).bind fun a1=>WF a1
def arY:Ce:=Oc 289 rfl [agB,arX] (aG (bL.row dB) (gG (bL.row dB))) (tG (bL.row fQ)) .pure (u2 CK)
def wP (p0:Int×Int×Int) (p1:Int×Int×Int) (p2:Int×Int):Option ((Int×Int)×Bool×Int):=(uo p0 p1 p2).bind fun n0=>bif n0 !=0 then WF ((0,0),aaF,n0) else (oV p1 p0 p2).bind fun n1=>bif ab1 (0<n1) then WF (p2,aaE,0) else bif ab1 (p1.2.2<=p0.2.2) then WF ((0,0),aaF,0) else (CK p0 p1).bind fun a2=>WF (a2.1,a2.2==0,a2.2)
def arZ:Ce:=Oc 243 rfl [agB,akN,arY] (aG (bL.row dB) (aG (bL.row dB) (gG (bL.row fQ)))) (Arg.cV (aG (bL.row fQ) (bJ.cons Arg.bool gI))) .pure (u3 wP)
def uq (p0:Field) (p1:Int×Int) (p2:Int×Int):Option ((Int×Int)×Bool×Int):=(lF p0 p1.2).bind fun a0=>(lF p0 p1.1).bind fun a1=>(wP a0 a1 p2).bind fun a2=>WF a2
def agC:Ce:=Oc 187 rfl [agA,arZ] (aG bw (aG (bL.row fQ) (gG (bL.row fQ)))) (Arg.cV (aG (bL.row fQ) (bJ.cons Arg.bool gI))) .pure (u3 uq)
def df (s:aj3):Option (Step aj3 aj6):=bif ab1 (s.2.2.2.1<s.2.2.1) then (aD s.2.1 s.2.2.2.1).bind fun a0=>(uq (Field.mk s.2.2.2.2.2.2.1) a0.2 (s.2.2.2.2.1,s.2.2.2.2.2.1)).bind fun a1=>bif a1.2.2 !=0 then WF (.done (.done 8)) else bif !a1.2.1 then WF (.next (s.1,s.2.1,s.2.2.1,aa .i64 (s.2.2.2.1+1),s.2.2.2.2)) else bif (EQ (UV s.1))==0 then WF (.done (.done 8)) else (aD s.1 0).bind fun a2=>bif a2.1 !=a0.1 then WF (.done (.done 8)) else (aD s.1 0).bind fun a3=>bif ab1 (a3.2.1<0) then WF (.done (.done 8)) else bif ab1 (200<=a3.2.1) then WF (.done (.done 8)) else (aD s.2.2.2.2.2.2.2.2.2.2.2.2.2.1 a3.2.1).bind fun n4=>bif ab1 (n4<0) then WF (.done (.done 8)) else (aD s.2.2.2.2.2.2.2.2.2.2.2.2.2.1 a3.2.1).bind fun n5=>(aD s.2.2.2.2.2.2.2.2.2.2.2.2.1 n5).bind fun a6=>bif !((a6.1==a1.1.1)&&((a6.2.1==a1.1.2)&&((a6.2.2.1==a0.1)&&((a6.2.2.2.1==a3.2.1)&&(a6.2.2.2.2==a3.2.2))))) then WF (.done (.done 8)) else (gW s.1 1 (EQ (UV s.1))).bind fun l7=>WF (.next (l7,s.2.1,s.2.2.1,aa .i64 (s.2.2.2.1+1),s.2.2.2.2)) else bif ab1 (0<(EQ (UV s.1))) then WF (.done (.done 8)) else WF (.done (.done 0))
def fT (s:acM):Option aj6:=match s with |(a,b,d,e,f,g,h,i,j,k,l,m,n,o)=>bif ab1 (b<a) then (aD o b).bind fun n0=>bif n0 !=0 then WF (.done 8) else WF (.next (a,aa .i64 (b+1),(d,e,f,g,h,i,j,k,l,m,n,o))) else bif (EQ (UV m)) !=200 then WF (.done 8) else bif (EQ (UV l)) !=(EQ (UV n)) then WF (.done 8) else aq df (n,h,EQ (UV h),0,d,e,f,g,h,i,j,k,l,m,n)
def fj (p0:aH):Option Int:=(dC p0.ii).bind fun n0=>(cY p0.io).bind fun n1=>(uh p0.af).bind fun n2=>(lD p0.ae).bind fun n3=>aq fT (EQ ([n0,n1,n2,n3].length),0,p0.ii.1,p0.ii.2,p0.io.am,p0.af.aU,p0.af.ce,p0.ae.aj.aC,p0.ae.aj.be,p0.ae.aj.bi,p0.ae.bv,p0.ae.aB,p0.jp,[n0,n1,n2,n3])
def Ox:Ce:=Oc 134 rfl [S8,QO,agx,ZC,agC] (gG b9) (Arg.int .i64) .pure fj
def mq (s:((List Int)×Int×Int×Int)):Option (Step ((List Int)×Int×Int×Int) Int):=bif ab1 (s.2.2.2<s.2.2.1) then (aD s.1 s.2.2.2).bind fun n0=>bif s.2.1==n0 then WF (.done s.2.2.2) else WF (.next (s.1,s.2.1,s.2.2.1,aa .i64 (s.2.2.2+1))) else WF (.done (-1))
def da (p0:List Int) (p1:Int):Option Int:=aq mq (p0,p1,EQ (UV p0),0)
def WB:Ce:=Oc 153 rfl [] (aL ki gI) (Arg.int .i64) .pure (u2 da)
def mu (p0:List Int) (p1:Int):Option Bool:=(da p0 p1).bind fun n0=>WF (ab1 (0<=n0))
def ar0:Ce:=Oc 135 rfl [WB] (aL ki gI) Arg.bool .pure (u2 mu)
def sM (s:acR):Option (Step acR bK):=bif ab1 (s.2.1<(EQ (UV s.1))) then (aD s.1 s.2.1).bind fun n0=>(aD s.1 (aa .i64 (If (aa .i64 (s.2.1-1)) 2))).bind fun n1=>(aX s.2.2 [(n0,n1)]).bind fun l2=>WF (.next (s.1,aa .i64 (s.2.1+1),l2)) else WF (.done s.2.2)
def rB (p0:List Int):Option bK:=aq sM (p0,1,[])
def akO:Ce:=Oc 136 rfl [] (gL ki) (Arg.sl fQ) .jS rB
def lG (s:(bK×Int×Int×Int×Int)):Option (Step (bK×Int×Int×Int×Int) Int):=bif ab1 (s.2.2.1<s.2.1) then (aD s.1 s.2.2.1).bind fun a0=>bif (s.2.2.2.1==a0.1)&&(s.2.2.2.2==a0.2) then WF (.done s.2.2.1) else WF (.next (s.1,s.2.1,aa .i64 (s.2.2.1+1),s.2.2.2)) else WF (.done (-1))
def sN (p0:List (Int×Int)) (p1:Int×Int):Option Int:=aq lG (p0,EQ (UV p0),0,p1)
def ar1:Ce:=Oc 188 rfl [] (aL fQ (gG (bL.row fQ))) (Arg.int .i64) .pure (u2 sN)
def dD (p0:List (Int×Int)) (p1:Int×Int):Option Bool:=(sN p0 p1).bind fun n0=>WF (ab1 (0<=n0))
def QP:Ce:=Oc 137 rfl [ar1] (aL fQ (gG (bL.row fQ))) Arg.bool .pure (u2 dD)
def A' (p0:Int×Int×Int) (p1:Int):Option Int:=(fv p0.1 p1).bind fun n0=>WF n0
def ar2:Ce:=Oc 278 rfl [S9] (aG (bL.row dB) gI) (Arg.int .i64) .pure (u2 A')
def kG (s:Ea):Option Zx:=bif ab1 (s.2.2.2.1<s.2.2.2.2) then (aD s.1 (aa .i64 (kr .u64 (aa .u64 (aa .i64 (s.2.2.2.1+s.2.2.2.2))) 1))).bind fun a0=>(A' a0 s.2.1).bind fun n1=>bif ab1 (n1<0) then WF (.next (s.1,s.2.1,s.2.2.1,aa .i64 ((aa .i64 (kr .u64 (aa .u64 (aa .i64 (s.2.2.2.1+s.2.2.2.2))) 1))+1),s.2.2.2.2)) else WF (.next (s.1,s.2.1,s.2.2.1,s.2.2.2.1,aa .i64 (kr .u64 (aa .u64 (aa .i64 (s.2.2.2.1+s.2.2.2.2))) 1))) else bif ab1 (s.2.2.2.1<s.2.2.1) then (aD s.1 s.2.2.2.1).bind fun a2=>(A' a2 s.2.1).bind fun n3=>WF (.done (s.2.2.2.1,n3==0)) else WF (.done (s.2.2.2.1,aaF))
def dE (p0:List (Int×Int×Int)) (p1:Int) (_:Unit):Option (Int×Bool):=aq kG (p0,p1,EQ (UV p0),0,EQ (UV p0))
def ZE:Ce:=Oc 277 rfl [ar2] (aL dB (aI (bJ.one (Arg.fx 278 bJ.nil)))) (Arg.cV (aI (bJ.one Arg.bool))) .pure (u3 dE)
def kH (p0:Field) (p1:Int):Option (Int×Bool):=(dE p0.am p1 ()).bind fun a0=>WF a0
def akP:Ce:=Oc 224 rfl [ZE] (aG bw gI) (Arg.cV (aI (bJ.one Arg.bool))) .pure (u2 kH)
def jT (p0:Field) (p1:Int):Option (Int×Int):=(cY p0).bind fun n0=>bif n0 !=0 then WF (0,n0) else (kH p0 p1).bind fun a1=>bif !a1.2 then WF (0,6) else WF (a1.1,0)
def agD:Ce:=Oc 233 rfl [QO,akP] (aG bw gI) (Arg.cV (aI gI)) .pure (u2 jT)
def dh (p0:Field) (p1:Int):Option ((Int×Int×Int)×Int):=(jT p0 p1).bind fun a0=>bif a0.2 !=0 then WF ((0,0,0),a0.2) else (aD p0.am a0.1).bind fun a1=>WF (a1,0)
def ZF:Ce:=Oc 189 rfl [agD] (aG bw gI) (tG (bL.row dB)) .pure (u2 dh)
def cP (p0:Int×Int×Int) (p1:Int×Int×Int) (p2:Int×Int):Option (Bool×Int):=(uo p0 p1 p2).bind fun n0=>bif n0 !=0 then WF (aaF,n0) else (oV p0 p1 p2).bind fun n1=>WF (ab1 (0<n1),0)
def LY:Ce:=Oc 190 rfl [agB,akN] (aG (bL.row dB) (aG (bL.row dB) (gG (bL.row fQ)))) (Arg.cV (bJ.cons Arg.bool gI)) .pure (u3 cP)
def yC (p0:Field) (p1:Int×Int) (p2:Int) (p3:Int):Option Bool:=(dh p0 p2).bind fun a0=>(dh p0 p3).bind fun a1=>(cP a0.1 a1.1 p1).bind fun a2=>WF a2.1
def ar3:Ce:=Oc 138 rfl [ZF,LY] (aG bw (aG (bL.row fQ) (aI gI))) Arg.bool .pure (fun a=>yC a.1 a.2.1 a.2.2.1 a.2.2.2)
def sO (s:aj2):Option (Step aj2 aj5):=bif ab1 (s.2.2.2.1<s.2.2.1) then (aD s.2.1 s.2.2.2.1).bind fun a0=>(dD s.1 a0.2).bind fun b1=>bif !b1 then WF (.done (.done 8)) else (yC (Field.mk s.2.2.2.2.2.2.1) (s.2.2.2.2.1,s.2.2.2.2.2.1) a0.2.2 a0.2.1).bind fun b2=>bif !b2 then WF (.done (.done 8)) else WF (.next (s.1,s.2.1,s.2.2.1,aa .i64 (s.2.2.2.1+1),s.2.2.2.2)) else WF (.done (.done 0))
def sP (s:aj4):Option aj5:=bif ab1 (s.2.2.1<s.2.1) then (aD s.1 s.2.2.1).bind fun a0=>(mu s.2.2.2.2.2.2.2.2.2.2.2.2.2.2 a0.1).bind fun b1=>bif !b1 then WF (.done 8) else WF (.next (s.1,s.2.1,aa .i64 (s.2.2.1+1),s.2.2.2)) else (rB s.2.2.2.2.2.2.2.2.2.2.2.2.2.2).bind fun l2=>bif (EQ (UV l2)) !=(EQ (UV s.2.2.2.2.2.2.2.1)) then WF (.done 8) else aq sO (l2,s.2.2.2.2.2.2.2.1,EQ (UV s.2.2.2.2.2.2.2.1),0,s.2.2.2)
def jU (p0:bE):Option Int:=(fj p0.kw).bind fun n0=>bif n0 !=0 then WF 8 else bif (EQ (UV p0.bv)) !=(EQ (UV p0.kw.io.am)) then WF 8 else aq sP (p0.kw.io.am,EQ (UV p0.kw.io.am),0,p0.kw.ii.1,p0.kw.ii.2,p0.kw.io.am,p0.kw.af.aU,p0.kw.af.ce,p0.kw.ae.aj.aC,p0.kw.ae.aj.be,p0.kw.ae.aj.bi,p0.kw.ae.bv,p0.kw.ae.aB,p0.kw.jp,p0.bv)
def c91:Ce:=Oc 91 rfl [Ox,ar0,akO,QP,ar3] (gG kV) (Arg.int .i64) .pure jU
def vV (p0:Int):Option Bool:=bif ab1 ((-1)<=p0) then WF (ab1 (p0<=65535)) else WF aaF
def ar4:Ce:=Oc 193 rfl [] gI Arg.bool .pure vV
def jN (p0:bG) (p1:Int):Option Int:=bif ab1 (0<=(aa .i64 (p1- (EQ (UV p0.k8))))) then (aD p0.aW (aa .i64 (p1- (EQ (UV p0.k8))))).bind fun n0=>WF n0 else (aD p0.k8 p1).bind fun n1=>WF n1
def akR:Ce:=Oc 194 rfl [] (aG iD gI) (Arg.int .i64) .pure (u2 jN)
def jZ (s:((List Int)×Int×Int×(List Int)×(List Int))):Option (Step ((List Int)×Int×Int×(List Int)×(List Int)) akh):=bif ab1 (s.2.2.1<s.2.1) then (aD s.1 s.2.2.1).bind fun n0=>(jN (bG.mk s.2.2.2.1 s.2.2.2.2) (aa .i64 ((aa .i64 (2*s.2.2.1))+1))).bind fun n1=>(jN (bG.mk s.2.2.2.1 s.2.2.2.2) (aa .i64 ((aa .i64 (2*s.2.2.1))+2))).bind fun n2=>bif n0 !=n1 then bif n0 !=n2 then WF (.done (.done (.done 8))) else bif ab1 (n0<0) then bif ab1 (0<=(if n2>n1 then n2 else n1)) then WF (.done (.done (.done 8))) else WF (.next (s.1,s.2.1,aa .i64 (s.2.2.1+1),s.2.2.2)) else WF (.next (s.1,s.2.1,aa .i64 (s.2.2.1+1),s.2.2.2)) else bif ab1 (n0<0) then bif ab1 (0<=(if n2>n1 then n2 else n1)) then WF (.done (.done (.done 8))) else WF (.next (s.1,s.2.1,aa .i64 (s.2.2.1+1),s.2.2.2)) else WF (.next (s.1,s.2.1,aa .i64 (s.2.2.1+1),s.2.2.2)) else WF (.done (.done (.done 0)))
def j0 (s:UP):Option akh:=bif ab1 (s.2.2.1<s.2.1) then (aD s.1 s.2.2.1).bind fun n0=>(vV n0).bind fun b1=>bif !b1 then bif !(!(ab1 (0<=s.2.2.1))) then WF (.done (.done 8)) else aq jZ (s.2.2.2.2.1,EQ (UV s.2.2.2.2.1),0,s.2.2.2.1,s.2.2.2.2.1) else WF (.next (s.1,s.2.1,aa .i64 (s.2.2.1+1),s.2.2.2)) else aq jZ (s.2.2.2.2.1,EQ (UV s.2.2.2.2.1),0,s.2.2.2.1,s.2.2.2.2.1)
def pG (s:UP):Option akg:=bif ab1 (s.2.2.1<s.2.1) then (aD s.1 s.2.2.1).bind fun n0=>bif !(!(jR aaF s.2.2.2.2.2 n0)) then bif !(!(ab1 (0<=s.2.2.1))) then WF (.done 8) else aq j0 (s.2.2.2.1,EQ (UV s.2.2.2.1),0,s.2.2.2.1,s.2.2.2.2.1,mf s.2.2.2.2.2 n0 (ab1 (0<=n0))) else WF (.next (s.1,s.2.1,aa .i64 (s.2.2.1+1),s.2.2.2.1,s.2.2.2.2.1,mf s.2.2.2.2.2 n0 (ab1 (0<=n0)))) else aq j0 (s.2.2.2.1,EQ (UV s.2.2.2.1),0,s.2.2.2)
def uY (p0:bG):Option Int:=bif ab1 ((EQ (UV p0.aW))<1) then WF 8 else bif ab1 (64<(EQ (UV p0.aW))) then WF 8 else bif (EQ (UV p0.k8)) !=(aa .i64 ((EQ (UV p0.aW)) -1)) then WF 8 else aq pG (p0.aW,EQ (UV p0.aW),0,p0.aW,p0.k8,mf [] (-1) aaF)
def ar5:Ce:=Oe 139 rfl [ar4,akR] [] [⟨191,af9,rfl⟩,⟨192,acv,rfl⟩,⟨248,Zk,rfl⟩,⟨195,S7,rfl⟩,⟨249,acz,rfl⟩,⟨247,af',rfl⟩] (gG iD) (Arg.int .i64) .pure uY
def xE (p0:Int) (p1:Int×Int×Int):Option Bool:=WF (p0==p1.1)
def ar6:Ce:=Oc 144 rfl [] (aI (gG (bL.row dB))) Arg.bool .pure (u2 xE)
def cC (s:(aN×(List Int)×Int×Int)):Option (Step (aN×(List Int)×Int×Int) Bool):=bif ab1 (s.2.2.2<s.2.2.1) then (aD s.2.1 s.2.2.2).bind fun n0=>(aD s.1 s.2.2.2).bind fun a1=>(xE n0 a1).bind fun b2=>bif !b2 then WF (.done aaF) else WF (.next (s.1,s.2.1,s.2.2.1,aa .i64 (s.2.2.2+1))) else WF (.done aaE)
def cQ (p0:List Int) (p1:List (Int×Int×Int)) (_:Unit):Option Bool:=bif (EQ (UV p0)) !=(EQ (UV p1)) then WF aaF else aq cC (p1,p0,EQ (UV p0),0)
def ZG:Ce:=Oc 143 rfl [ar6] (aL ki (aL dB (bJ.one (Arg.fx 144 bJ.nil)))) Arg.bool .pure (u3 cQ)
def ze (p0:Field) (p1:Int×Int):Option Int:=(cY p0).bind fun n0=>bif n0 !=0 then WF n0 else (dC p1).bind fun n1=>WF n1
def ar7:Ce:=Oc 219 rfl [QO,S8] (aG bw (gG (bL.row fQ))) (Arg.int .i64) .pure (u2 ze)
def xF (p0:Int×Int×Int) (p1:Int):Option Int:=(fv p0.1 p1).bind fun n0=>WF n0
def ar8:Ce:=Oc 308 rfl [S9] (aG (bL.row dB) gI) (Arg.int .i64) .pure (u2 xF)
def jO (s:Ea):Option Zx:=bif ab1 (s.2.2.2.1<s.2.2.2.2) then (aD s.1 (aa .i64 (kr .u64 (aa .u64 (aa .i64 (s.2.2.2.1+s.2.2.2.2))) 1))).bind fun a0=>(xF a0 s.2.1).bind fun n1=>bif ab1 (n1<0) then WF (.next (s.1,s.2.1,s.2.2.1,aa .i64 ((aa .i64 (kr .u64 (aa .u64 (aa .i64 (s.2.2.2.1+s.2.2.2.2))) 1))+1),s.2.2.2.2)) else WF (.next (s.1,s.2.1,s.2.2.1,s.2.2.2.1,aa .i64 (kr .u64 (aa .u64 (aa .i64 (s.2.2.2.1+s.2.2.2.2))) 1))) else bif ab1 (s.2.2.2.1<s.2.2.1) then (aD s.1 s.2.2.2.1).bind fun a2=>(xF a2 s.2.1).bind fun n3=>WF (.done (s.2.2.2.1,n3==0)) else WF (.done (s.2.2.2.1,aaF))
def dt (p0:List (Int×Int×Int)) (p1:Int) (_:Unit):Option (Int×Bool):=aq jO (p0,p1,EQ (UV p0),0,EQ (UV p0))
def ZH:Ce:=Oc 277 rfl [ar8] (aL dB (aI (bJ.one (Arg.fx 308 bJ.nil)))) (Arg.cV (aI (bJ.one Arg.bool))) .pure (u3 dt)
def lH (p0:Field) (p1:Int):Option (Int×Bool):=(dt p0.am p1 ()).bind fun a0=>WF a0
def akS:Ce:=Oc 275 rfl [ZH] (aG bw gI) (Arg.cV (aI (bJ.one Arg.bool))) .pure (u2 lH)
def pH (s:((List Int)×Int×Int×aN)):Option (Step ((List Int)×Int×Int×aN) Bool):=bif ab1 (s.2.2.1<s.2.1) then (aD s.1 s.2.2.1).bind fun n0=>(lH (Field.mk s.2.2.2) n0).bind fun a1=>bif a1.2 then WF (.next (s.1,s.2.1,aa .i64 (s.2.2.1+1),s.2.2.2)) else bif !(n0==(-1)) then WF (.done (!(ab1 (0<=s.2.2.1)))) else WF (.next (s.1,s.2.1,aa .i64 (s.2.2.1+1),s.2.2.2)) else WF (.done (!(ab1 (0<=(-1)))))
def zf (p0:Field) (p1:List Int):Option Bool:=aq pH (p1,EQ (UV p1),0,p0.am)
def ar9:Ce:=Oe 220 rfl [akS] [] [⟨192,acv,rfl⟩,⟨248,Zk,rfl⟩,⟨195,S7,rfl⟩,⟨249,acz,rfl⟩,⟨274,ajN,rfl⟩] (aG bw (gL ki)) Arg.bool .pure (u2 zf)
def vG (p0:Field) (p1:Int×Int) (p2:Int) (p3:Int):Option Int:=bif ab1 ((if p3<p2 then p3 else p2)<0) then WF (if p3>p2 then p3 else p2) else (lH p0 p2).bind fun a0=>(lH p0 p3).bind fun a1=>(aD p0.am a0.1).bind fun a2=>(aD p0.am a1.1).bind fun a3=>(cP a2 a3 p1).bind fun a4=>bif a4.1 then WF p2 else WF p3
def ar':Ce:=Oc 221 rfl [akS,LY] (aG bw (aG (bL.row fQ) (aI gI))) (Arg.int .i64) .pure (fun a=>vG a.1 a.2.1 a.2.2.1 a.2.2.2)
def Hj (s:acP):Option (Step acP (bG×Int)):=bif ab1 (0<=s.1) then (jN (bG.mk s.2.2.2.2.1 s.2.2.2.2.2) (aa .i64 ((aa .i64 (2*s.1))+1))).bind fun n0=>(jN (bG.mk s.2.2.2.2.1 s.2.2.2.2.2) (aa .i64 ((aa .i64 (2*s.1))+2))).bind fun n1=>(vG (Field.mk s.2.1) (s.2.2.1,s.2.2.2.1) n0 n1).bind fun n2=>(aD s.2.2.2.2.2 s.1).bind fun _=>WF (.next (aa .i64 (s.1-1),s.2.1,s.2.2.1,s.2.2.2.1,s.2.2.2.2.1,cA s.2.2.2.2.2 s.1 n2)) else WF (.done (bG.mk s.2.2.2.2.1 s.2.2.2.2.2,0))
def mM (s:acP):Option (Step acP aks):=bif ab1 (0<=s.1) then (jN (bG.mk s.2.2.2.2.1 s.2.2.2.2.2) (aa .i64 ((aa .i64 (2*s.1))+1))).bind fun n0=>(jN (bG.mk s.2.2.2.2.1 s.2.2.2.2.2) (aa .i64 ((aa .i64 (2*s.1))+2))).bind fun n1=>(vG (Field.mk s.2.1) (s.2.2.1,s.2.2.2.1) n0 n1).bind fun n2=>(aD s.2.2.2.2.2 s.1).bind fun _=>WF (.next (aa .i64 (s.1-1),s.2.1,s.2.2.1,s.2.2.2.1,s.2.2.2.2.1,cA s.2.2.2.2.2 s.1 n2)) else WF (.done (.done (bG.mk s.2.2.2.2.1 s.2.2.2.2.2,0)))
def pI (c0:Int) (c1:(List Int)) (s:akr):Option aks:=bif ab1 (s.2.2.1<s.2.1) then (aD s.1 s.2.2.1).bind fun n0=>bif !(!(jR aaF s.2.2.2.2.2.2 n0)) then bif !(!(ab1 (0<=s.2.2.1))) then WF (.done (bG.mk [] [],14)) else bif c0 !=0 then WF (.done (bG.mk [] [],c0)) else (cw c1).bind fun l1=>bif (aa .i64 ((EQ (UV c1)) -1))==(aa .i64 ((EQ (UV c1)) -1)) then (qd (aa .i64 ((EQ (UV c1)) -1)) (0:Int)).bind fun l2=>aq mM (aa .i64 ((EQ (UV l2)) -1),s.2.2.2.1,s.2.2.2.2.1,s.2.2.2.2.2.1,l1,l2) else aa9 else WF (.next (s.1,s.2.1,aa .i64 (s.2.2.1+1),s.2.2.2.1,s.2.2.2.2.1,s.2.2.2.2.2.1,mf s.2.2.2.2.2.2 n0 (ab1 (0<=n0)))) else bif c0 !=0 then WF (.done (bG.mk [] [],c0)) else (cw c1).bind fun l3=>bif (aa .i64 ((EQ (UV c1)) -1))==(aa .i64 ((EQ (UV c1)) -1)) then (qd (aa .i64 ((EQ (UV c1)) -1)) (0:Int)).bind fun l4=>aq mM (aa .i64 ((EQ (UV l4)) -1),s.2.2.2.1,s.2.2.2.2.1,s.2.2.2.2.2.1,l3,l4) else aa9
def qh (p0:Field) (p1:Int×Int) (p2:List Int):Option (bG×Int):=(ze p0 p1).bind fun n0=>bif n0 !=0 then bif n0 !=0 then WF (bG.mk [] [],n0) else (cw p2).bind fun l1=>bif (aa .i64 ((EQ (UV p2)) -1))==(aa .i64 ((EQ (UV p2)) -1)) then (qd (aa .i64 ((EQ (UV p2)) -1)) (0:Int)).bind fun l2=>aq Hj (aa .i64 ((EQ (UV l2)) -1),p0.am,p1.1,p1.2,l1,l2) else aa9 else bif ab1 ((EQ (UV p2))<1) then WF (bG.mk [] [],2) else bif ab1 (64<(EQ (UV p2))) then WF (bG.mk [] [],2) else (zf p0 p2).bind fun b3=>bif !b3 then WF (bG.mk [] [],6) else aq (pI n0 p2) (p2,EQ (UV p2),0,p0.am,p1.1,p1.2,mf [] (-1) aaF)
def akT:Ce:=Oe 159 rfl [ar7,ar9,iu,akR,ar'] [] [⟨191,af9,rfl⟩,⟨192,acv,rfl⟩,⟨248,Zk,rfl⟩,⟨195,S7,rfl⟩,⟨249,acz,rfl⟩,⟨247,af',rfl⟩] (aG bw (aG (bL.row fQ) (gL ki))) (tG iD) .jS (u3 qh)
def LZ (p0:Int) (p1:bG):Option Int:=bif ab1 (p0<(EQ (UV p1.k8))) then (aD p1.k8 p0).bind fun n0=>WF n0 else (aD p1.aW (aa .i64 (p0- (EQ (UV p1.k8))))).bind fun n1=>WF n1
def asa:Ce:=Oc 160 rfl [] (aI (bJ.one (Arg.ref iD))) (Arg.int .i64) .pure (u2 LZ)
def oW (s:((List Int)×Int×Int×(List Int)×(List Int)×bK)):Option (Step ((List Int)×Int×Int×(List Int)×(List Int)×bK) (bG×bK)):=match s with |(a,b,d,e,f,g)=>bif ab1 (d<b) then (aD a d).bind fun n0=>bif ab1 ((aa .i64 ((aa .i64 (2*d))+1))<(EQ (UV f))) then (aD f (aa .i64 ((aa .i64 (2*d))+1))).bind fun n1=>bif (UV g)==(UV g) then bif ab1 ((aa .i64 ((aa .i64 (2*d))+2))<(EQ (UV f))) then (aD f (aa .i64 ((aa .i64 (2*d))+2))).bind fun n2=>bif (UV g)==(UV g) then bif ab1 (0<=n1) then bif ab1 (0<=n2) then (aX g [(aa .i64 ((aa .i64 (n1+n2)) -n0),n0)]).bind fun l3=>WF (.next (a,b,aa .i64 (d+1),e,f,l3)) else WF (.next (a,b,aa .i64 (d+1),(e,f,g))) else WF (.next (a,b,aa .i64 (d+1),(e,f,g))) else aa9 else (aD e (aa .i64 ((aa .i64 ((aa .i64 (2*d))+2)) - (EQ (UV f))))).bind fun n4=>bif (UV g)==(UV g) then bif ab1 (0<=n1) then bif ab1 (0<=n4) then (aX g [(aa .i64 ((aa .i64 (n1+n4)) -n0),n0)]).bind fun l5=>WF (.next (a,b,aa .i64 (d+1),e,f,l5)) else WF (.next (a,b,aa .i64 (d+1),(e,f,g))) else WF (.next (a,b,aa .i64 (d+1),(e,f,g))) else aa9 else aa9 else (aD e (aa .i64 ((aa .i64 ((aa .i64 (2*d))+1)) - (EQ (UV f))))).bind fun n6=>bif (UV g)==(UV g) then bif ab1 ((aa .i64 ((aa .i64 (2*d))+2))<(EQ (UV f))) then (aD f (aa .i64 ((aa .i64 (2*d))+2))).bind fun n7=>bif (UV g)==(UV g) then bif ab1 (0<=n6) then bif ab1 (0<=n7) then (aX g [(aa .i64 ((aa .i64 (n6+n7)) -n0),n0)]).bind fun l8=>WF (.next (a,b,aa .i64 (d+1),e,f,l8)) else WF (.next (a,b,aa .i64 (d+1),(e,f,g))) else WF (.next (a,b,aa .i64 (d+1),(e,f,g))) else aa9 else (aD e (aa .i64 ((aa .i64 ((aa .i64 (2*d))+2)) - (EQ (UV f))))).bind fun n9=>bif (UV g)==(UV g) then bif ab1 (0<=n6) then bif ab1 (0<=n9) then (aX g [(aa .i64 ((aa .i64 (n6+n9)) -n0),n0)]).bind fun l10=>WF (.next (a,b,aa .i64 (d+1),e,f,l10)) else WF (.next (a,b,aa .i64 (d+1),(e,f,g))) else WF (.next (a,b,aa .i64 (d+1),(e,f,g))) else aa9 else aa9 else WF (.done (bG.mk e f,g))
def rC (p0:Field) (p1:Int×Int) (p2:List Int):Option (bG×bK):=(qh p0 p1 p2).bind fun a0=>aq oW (a0.1.k8,EQ (UV a0.1.k8),0,a0.1.aW,a0.1.k8,[])
def agE:Ce:=Oe 103 rfl [akT,asa] [] [⟨160,ajD,rfl⟩] (aG bw (aG (bL.row fQ) (gL ki))) (Arg.cV (aG iD (gL fQ))) .jS (u3 rC)
def fI (s:((List Int)×(List Int)×Int×Int)):Option (Step ((List Int)×(List Int)×Int×Int) Bool):=bif ab1 (s.2.2.2<s.2.2.1) then (aD s.1 s.2.2.2).bind fun n0=>(aD s.2.1 s.2.2.2).bind fun n1=>bif n0 !=n1 then WF (.done aaF) else WF (.next (s.1,s.2.1,s.2.2.1,aa .i64 (s.2.2.2+1))) else WF (.done aaE)
def iF (p0:List Int) (p1:List Int):Option Bool:=bif (EQ (UV p0)) !=(EQ (UV p1)) then WF aaF else aq fI (p0,p1,EQ (UV p0),0)
def akU:Ce:=Oc 145 rfl [] (aL ki (gL ki)) Arg.bool .pure (u2 iF)
def Ed (p0:Int×Int×Int) (p1:List (Int×Int)):Option Bool:=(dD p1 p0.2).bind fun b0=>WF (!b0)
def asb:Ce:=Oc 198 rfl [QP] (aG (bL.row dB) (bJ.one (Arg.ref (bL.sl fQ)))) Arg.bool .pure (u2 Ed)
def oA (s:acQ):Option (Step acQ Int):=bif ab1 (s.2.2.2<s.2.2.1) then (aD s.1 s.2.2.2).bind fun a0=>(Ed a0 s.2.1).bind fun b1=>bif b1 then WF (.done s.2.2.2) else WF (.next (s.1,s.2.1,s.2.2.1,aa .i64 (s.2.2.2+1))) else WF (.done (-1))
def jF (p0:List (Int×Int×Int)) (p1:bK):Option Int:=aq oA (p0,p1,EQ (UV p0),0)
def ZI:Ce:=Oe 261 rfl [asb,QP] [] [⟨198,ajK,rfl⟩] (aL dB (bJ.one (Arg.fx 198 (bJ.one (Arg.ref (bL.sl fQ)))))) (Arg.int .i64) .pure (u2 jF)
def iJ (p0:List (Int×Int×Int)) (p1:bK):Option Bool:=(jF p0 p1).bind fun n0=>WF (ab1 (0<=n0))
def ZJ:Ce:=Oc 199 rfl [ZI] (aL dB (bJ.one (Arg.fx 198 (bJ.one (Arg.ref (bL.sl fQ)))))) Arg.bool .pure (u2 iJ)
def CL (p0:aH) (p1:List (Int×Int)):Option Bool:=bif (EQ (UV p1))==(EQ (UV p0.af.ce)) then (iJ p0.af.ce p1).bind fun b0=>WF (!b0) else WF aaF
def asc:Ce:=Oc 146 rfl [ZJ] (aG b9 (gL fQ)) Arg.bool .pure (u2 CL)
def iU (p0:Int):Option Bool:=WF (ab1 (p0<0))
def akV:Ce:=Oc 141 rfl [] gI Arg.bool .pure iU
def mN (c0:(List Int)) (s:MO):Option akx:=bif ab1 (s.2.1<(EQ (UV s.2.2))) then (aD s.2.2 s.2.1).bind fun n0=>(iU n0).bind fun b1=>bif !b1 then (aD s.2.2 s.1).bind fun _=>WF (.next (aa .i64 (s.1+1),aa .i64 (s.2.1+1),cA s.2.2 s.1 n0)) else WF (.next (s.1,aa .i64 (s.2.1+1),s.2.2)) else bif ((ab1 (0<=s.1))&&(ab1 (s.1<=(EQ (UV s.2.2)))))&&(ab1 ((EQ (UV s.2.2))<=(EQ (UV s.2.2)))) then bif Nat.beq (((EQ (UV s.2.2)).toNat) -s.1.toNat) 0 then (gW s.2.2 0 s.1).bind fun _=>bif (UV s.2.2)==(UV c0) then WF (.done (.done (s.1.toNat,UV s.2.2,s.2.2))) else aa9 else bif (NE ((0+s.1.toNat)+(((EQ (UV s.2.2)).toNat) -s.1.toNat)) (UV s.2.2))&&(!aaF) then (gW (gy s.2.2 (0+s.1.toNat) (PP (((EQ (UV s.2.2)).toNat) -s.1.toNat) 0)) 0 s.1).bind fun _=>bif ((gy s.2.2 (0+s.1.toNat) (PP (((EQ (UV s.2.2)).toNat) -s.1.toNat) 0)).length)==(UV c0) then WF (.done (.done (s.1.toNat,(gy s.2.2 (0+s.1.toNat) (PP (((EQ (UV s.2.2)).toNat) -s.1.toNat) 0)).length,gy s.2.2 (0+s.1.toNat) (PP (((EQ (UV s.2.2)).toNat) -s.1.toNat) 0)))) else aa9 else aa9 else aa9
def mO (c0:(List Int)) (s:MO):Option Zu:=bif ab1 (s.2.1<s.1) then (aD s.2.2 s.2.1).bind fun n0=>(iU n0).bind fun b1=>bif b1 then bif (UV s.2.2)==(UV c0) then bif s.2.1==(-1) then bif (UV s.2.2)==(UV c0) then WF (.done (UV s.2.2,UV s.2.2,s.2.2)) else aa9 else aq (mN c0) (s.2.1,aa .i64 (s.2.1+1),s.2.2) else aa9 else WF (.next (s.1,aa .i64 (s.2.1+1),s.2.2)) else bif (UV s.2.2)==(UV c0) then bif (UV s.2.2)==(UV c0) then WF (.done (UV s.2.2,UV s.2.2,s.2.2)) else aa9 else aa9
def cI (a:(List Int)):Option (Nat×Nat×(List Int)):=aq (mO a) (EQ (UV a),0,a)
def agF:fb:=⟨[.l [.i .i64]],[.own 0 aaF,.fx 141 [] []],[.arr [.i .i64] []],[.n,.n,.l [.i .i64]],.pre 0 0 0 aaF,[.arr [.i .i64] []],fun a=>cI a⟩
theorem MQ:nC nB 140 agF:=nC.of rfl (wd:=aaE) (cx:=(BU oI [(141,akV.c)] [] [(195,S7)] [])) (vu.make ⟨akV.ok,trivial⟩ trivial ⟨rfl,trivial⟩) (fun a=>by kernel_rfl)
def fZ (p0:bN):Option Int:=(fj p0.kw).bind fun n0=>bif n0 !=0 then WF 8 else (uY p0.lc).bind fun n1=>bif n1 !=0 then WF 8 else bif (rT .i64 (EQ (UV p0.lc.aW)) (aa .i64 ((EQ (UV p0.lc.aW)) -1))) !=0 then WF 8 else (cw p0.lc.aW).bind fun l2=>(cI l2).bind fun a3=>(Dl N6 a3.1 a3.2.2).bind fun l4=>bif (UV l4)==(UV a3.2.2) then (cQ (l4.take a3.1) p0.kw.io.am ()).bind fun b5=>bif !b5 then WF 8 else (rC p0.kw.io p0.kw.ii p0.lc.aW).bind fun a6=>(iF a6.1.k8 p0.lc.k8).bind fun b7=>bif !b7 then WF 8 else (CL p0.kw a6.2).bind fun b8=>bif !b8 then WF 8 else WF 0 else aa9
def c92:Ce:=Oe 92 rfl [Ox,ar5,iu,ZG,agE,akU,asc] [⟨140,_,MQ⟩] [⟨142,.srt SC,rfl⟩] (gG iP) (Arg.int .i64) .pure fZ
def Ba (p0:Field) (p1:Int×Int):Option Int:=(cY p0).bind fun n0=>bif n0 !=0 then WF n0 else (dC p1).bind fun n1=>WF n1
def asd:Ce:=Oc 222 rfl [QO,S8] (aG bw (gG (bL.row fQ))) (Arg.int .i64) .pure (u2 Ba)
def sQ (s:akd):Option (Step akd akk):=match s with |(a,b,d,e,f,g,h,i,j,k,l,m,n,o,q,r,t,u,v)=>bif ab1 (0<(EQ a)) then (aD (n.take a) (aa .i64 ((EQ a) -1))).bind fun n0=>(aD h n0).bind fun a1=>(cP a1 (o,q,r) (i,j)).bind fun a2=>bif a2.1 then bif ab1 (0<(EQ a)) then (aD (n.take a) (aa .i64 ((EQ a) -1))).bind fun n3=>(aD m n3).bind fun a4=>(aX (cA m n3 (a4.1,a4.2.1,d)) [(t,u,v)]).bind fun l5=>bif NE (a+[d].length) b then bif (NE (a+[d].length) (UV n))&&(!aaF) then WF (.done (.next (a+[d].length,b,e,f,aa .i64 (g+1),h,i,j,k,l,l5,gy n a [d]))) else aa9 else (aX (n.take a) [d]).bind fun l6=>bif NE a (UV n) then WF (.done (.next (UV l6,UV l6,e,f,aa .i64 (g+1),h,i,j,k,l,l5,l6))) else aa9 else (aX m [(t,u,v)]).bind fun l7=>bif NE (a+[d].length) b then bif (NE (a+[d].length) (UV n))&&(!aaF) then WF (.done (.next (a+[d].length,b,e,f,aa .i64 (g+1),h,i,j,k,d,l7,gy n a [d]))) else aa9 else (aX (n.take a) [d]).bind fun l8=>bif NE a (UV n) then WF (.done (.next (UV l8,UV l8,e,f,aa .i64 (g+1),h,i,j,k,d,l7,l8))) else aa9 else bif (ab1 (0<=(aa .i64 ((EQ a) -1))))&&(ab1 ((aa .i64 ((EQ a) -1))<=(EQ b))) then WF (.next ((aa .i64 ((EQ a) -1)).toNat,b,d,e,f,g,h,i,j,k,l,m,n,o,q,r,t,n0,v)) else aa9 else bif ab1 (0<(EQ a)) then (aD (n.take a) (aa .i64 ((EQ a) -1))).bind fun n9=>(aD m n9).bind fun CN=>(aX (cA m n9 (CN.1,CN.2.1,d)) [(t,u,v)]).bind fun l11=>bif NE (a+[d].length) b then bif (NE (a+[d].length) (UV n))&&(!aaF) then WF (.done (.next (a+[d].length,b,e,f,aa .i64 (g+1),h,i,j,k,l,l11,gy n a [d]))) else aa9 else (aX (n.take a) [d]).bind fun l12=>bif NE a (UV n) then WF (.done (.next (UV l12,UV l12,e,f,aa .i64 (g+1),h,i,j,k,l,l11,l12))) else aa9 else (aX m [(t,u,v)]).bind fun l13=>bif NE (a+[d].length) b then bif (NE (a+[d].length) (UV n))&&(!aaF) then WF (.done (.next (a+[d].length,b,e,f,aa .i64 (g+1),h,i,j,k,d,l13,gy n a [d]))) else aa9 else (aX (n.take a) [d]).bind fun l14=>bif NE a (UV n) then WF (.done (.next (UV l14,UV l14,e,f,aa .i64 (g+1),h,i,j,k,d,l13,l14))) else aa9
def pJ (s:akj):Option akk:=bif ab1 (s.2.2.2.2.1<s.2.2.2.1) then (aD s.2.2.1 s.2.2.2.2.1).bind fun a0=>aq sQ (s.1,s.2.1,s.2.2.2.2.1,s.2.2.1,s.2.2.2.1,s.2.2.2.2.1,s.2.2.2.2.2.1,s.2.2.2.2.2.2.1,s.2.2.2.2.2.2.2.1,s.2.2.2.2.2.2.2.2.1,s.2.2.2.2.2.2.2.2.2.1,s.2.2.2.2.2.2.2.2.2.2.1,s.2.2.2.2.2.2.2.2.2.2.2,a0.1,a0.2.1,a0.2.2,a0.1,-1,-1) else WF (.done (Tree.mk s.2.2.2.2.2.2.2.2.2.1 s.2.2.2.2.2.2.2.2.2.2.1,0))
def rD (p0:Field) (p1:Int×Int):Option (Tree×Int):=(Ba p0 p1).bind fun n0=>bif n0 !=0 then WF (Tree.mk 0 [],n0) else aq pJ (0,0,p0.am,EQ (UV p0.am),0,p0.am,p1.1,p1.2,0,-1,[],[])
def acU:Ce:=Oc 161 rfl [asd,LY] (aG bw (gG (bL.row fQ))) (tG xx) .jS (u2 rD)
def kI (s:akp):Option (Step akp agm):=match s with |(a,b,d,e,f,g,h,i,j,k,l)=>bif ab1 (h<2) then bif h==0 then bif ab1 (0<=f) then (aD l f).bind fun _=>WF (.next (a,b,d,e,f,g,aa .i64 (h+1),i,j,k,cA l f a)) else WF (.next (a,b,d,e,f,g,aa .i64 (h+1),(i,j,k,l))) else bif h==1 then bif ab1 (0<=g) then (aD l g).bind fun _=>WF (.next (a,b,d,e,f,g,aa .i64 (h+1),i,j,k,cA l g a)) else WF (.next (a,b,d,e,f,g,aa .i64 (h+1),(i,j,k,l))) else aa9 else WF (.done (.next (b,d,aa .i64 (e+1),(i,j,k,l))))
def mP (s:akq):Option (Step akq agm):=bif ab1 (s.2.2.1<s.2.1) then (aD s.1 s.2.2.1).bind fun a0=>(aD s.2.2.2.2.2.2.1 s.2.2.1).bind fun n1=>bif ab1 (0<=n1) then (aD s.2.2.2.2.2.2.1 s.2.2.1).bind fun n2=>(aD s.2.2.2.2.2.1 n2).bind fun a3=>(aX s.2.2.2.2.2.2.2 [(a0.1,a3.1)]).bind fun l4=>WF (.next (s.1,s.2.1,aa .i64 (s.2.2.1+1),s.2.2.2.1,s.2.2.2.2.1,s.2.2.2.2.2.1,s.2.2.2.2.2.2.1,l4)) else WF (.next (s.1,s.2.1,aa .i64 (s.2.2.1+1),s.2.2.2)) else WF (.done (.done (.done (Tree.mk s.2.2.2.2.1 s.2.2.2.2.2.1,s.2.2.2.2.2.2.2))))
def mQ (s:akb):Option agm:=bif ab1 (s.2.2.1<s.2.1) then (aD s.1 s.2.2.1).bind fun a0=>aq kI (s.2.2.1,s.1,s.2.1,s.2.2.1,a0.2.1,a0.2.2,0,s.2.2.2) else aq mP (s.2.2.2.2.2.1,EQ (UV s.2.2.2.2.2.1),0,s.2.2.2.1,s.2.2.2.2.1,s.2.2.2.2.2.1,s.2.2.2.2.2.2,[])
def mR (s:(Int×Int×Int×Int×aN×(List Int))):Option aka:=bif ab1 (s.2.1<s.1) then (aD s.2.2.2.2.2 s.2.1).bind fun _=>WF (.next (s.1,aa .i64 (s.2.1+1),s.2.2.1,s.2.2.2.1,s.2.2.2.2.1,cA s.2.2.2.2.2 s.2.1 (-1))) else aq mQ (s.2.2.2.2.1,EQ (UV s.2.2.2.2.1),0,s.2.2)
def rE (p0:Field) (p1:Int×Int):Option (Tree×bK):=(rD p0 p1).bind fun a0=>bif (EQ (UV a0.1.lw))==(EQ (UV a0.1.lw)) then (qd (EQ (UV a0.1.lw)) (0:Int)).bind fun l1=>aq mR (EQ (UV l1),0,0,a0.1.ls,a0.1.lw,l1) else aa9
def agG:Ce:=Oc 105 rfl [acU] (aG bw (gG (bL.row fQ))) (Arg.cV (aG xx (gL fQ))) .jS (u2 rE)
def CO (s:Zv):Option akB:=bif ab1 (s.2.2.2<s.2.2.1) then (aD s.1 s.2.2.2).bind fun a0=>(aD s.2.1 s.2.2.2).bind fun a1=>bif !((a0.1==a1.1)&&((a0.2.1==a1.2.1)&&(a0.2.2==a1.2.2))) then WF (.done aaF) else WF (.next (s.1,s.2.1,s.2.2.1,aa .i64 (s.2.2.2+1))) else WF (.done aaE)
def sR (p0:List (Int×Int×Int)) (p1:List (Int×Int×Int)):Option Bool:=bif (EQ (UV p0)) !=(EQ (UV p1)) then WF aaF else aq CO (p0,p1,EQ (UV p0),0)
def ase:Ce:=Oc 147 rfl [] (aL dB (gL dB)) Arg.bool .pure (u2 sR)
def zg (p0:Int×Int×Int) (p1:List (Int×Int)):Option Bool:=(dD p1 p0.2).bind fun b0=>WF (!b0)
def asf:Ce:=Oc 200 rfl [QP] (aG (bL.row dB) (bJ.one (Arg.ref (bL.sl fQ)))) Arg.bool .pure (u2 zg)
def bS (s:acQ):Option (Step acQ Int):=bif ab1 (s.2.2.2<s.2.2.1) then (aD s.1 s.2.2.2).bind fun a0=>(zg a0 s.2.1).bind fun b1=>bif b1 then WF (.done s.2.2.2) else WF (.next (s.1,s.2.1,s.2.2.1,aa .i64 (s.2.2.2+1))) else WF (.done (-1))
def fJ (p0:List (Int×Int×Int)) (p1:bK):Option Int:=aq bS (p0,p1,EQ (UV p0),0)
def ZK:Ce:=Oe 261 rfl [asf,QP] [] [⟨200,ajL,rfl⟩] (aL dB (bJ.one (Arg.fx 200 (bJ.one (Arg.ref (bL.sl fQ)))))) (Arg.int .i64) .pure (u2 fJ)
def eX (p0:List (Int×Int×Int)) (p1:bK):Option Bool:=(fJ p0 p1).bind fun n0=>WF (ab1 (0<=n0))
def ZL:Ce:=Oc 199 rfl [ZK] (aL dB (bJ.one (Arg.fx 200 (bJ.one (Arg.ref (bL.sl fQ)))))) Arg.bool .pure (u2 eX)
def rF (p0:aH) (p1:List (Int×Int)):Option Bool:=bif (EQ (UV p1))==(EQ (UV p0.af.ce)) then (eX p0.af.ce p1).bind fun b0=>WF (!b0) else WF aaF
def asg:Ce:=Oc 148 rfl [ZL] (aG b9 (gL fQ)) Arg.bool .pure (u2 rF)
def iL (p0:bC):Option Int:=(fj p0.kw).bind fun n0=>bif n0 !=0 then WF 8 else (rE p0.kw.io p0.kw.ii).bind fun a1=>bif a1.1.ls !=p0.pp.ls then WF 8 else (sR a1.1.lw p0.pp.lw).bind fun b2=>bif !b2 then WF 8 else (rF p0.kw a1.2).bind fun b3=>bif !b3 then WF 8 else WF 0
def c93:Ce:=Oc 93 rfl [Ox,agG,ase,asg] (gG fF) (Arg.int .i64) .pure iL
def iV (c0:(QL->(Option Kx))) (c1:QL) (s:akl):Option (Step akl akf):=match s with |(a,b,d,e,f,g,h,i,j,k,l,m)=>bif ab1 (d<b) then (aD e d).bind fun a0=>bif a0.1 !=i then bif ab1 (a<0) then aa9 else bif (rT .i64 (kr .i64 a0.1 a) 1)==0 then (aX l [a0]).bind fun l1=>bif (rT .i64 (kr .i64 a0.1 a) 1)==0 then WF (.next (a,b,aa .i64 (d+1),e,f,g,h,i,j,k,l1,m)) else bif (rT .i64 (kr .i64 a0.1 a) 1)==1 then aa9 else aa9 else bif (rT .i64 (kr .i64 a0.1 a) 1)==1 then (aX m [a0]).bind fun l2=>bif (rT .i64 (kr .i64 a0.1 a) 1)==0 then aa9 else bif (rT .i64 (kr .i64 a0.1 a) 1)==1 then WF (.next (a,b,aa .i64 (d+1),e,f,g,h,i,j,k,l,l2)) else aa9 else aa9 else WF (.next (a,b,aa .i64 (d+1),(e,f,g,h,i,j,k,l,m))) else (c0 (g,h,i,aa .i64 (a+1),l,f)).bind fun a3=>(c0 (g,h,i,aa .i64 (a+1),m,a3.2)).bind fun a4=>bif (UV e)==(UV c1.2.2.2.2.1) then WF (.done (.done (e,a4.2))) else aa9 end
end
end Go.Proofs.YthljiplggdanpaaGreat
