/- Plain functions for what the functions of the seat compute. Printed by a program. -/
import Derived.Test.YtbelikaakgedaaaGreatPVm3
import Derived.Test.YtbelikaakgedaaaGreatPQXT
open Int renaming ofNat->If,tdiv->PP
open List renaming replicate->IR,length->Y
open Nat renaming ble->NE
open Option renaming some->WF,none->Pc
open Bool renaming true->Sw,false->Md
open Decidable renaming decide->KJ
set_option maxRecDepth 100000
namespace Go.Proofs.YtbelikaakgedaaaGreat
open Go.Vm
abbrev d5:=Go.IntKind.i64
noncomputable section
theorem qc9{f:FuncId}{x:ay}{α β:Type}{args:bY α}{res:Arg β}{kd:Kd}{fn:α->O β}{ow:Bool}(hf:nq f=WF (.code x))(lp:O Nat)(l:J (Nat×JB))(h:EZ nq l)(ho:Zt kd ow=Sw:=by rfl)(e: ∀a,Xz (xN lp l [] [] []) x args res kd a=fn a:=by intro a;kernel_rfl):mQ nq f ⟨args,res,fn,kd,ow⟩:=mQ.of hf (cx:=xN lp l [] [] []) ho (sL.make h trivial trivial) e
structure Ce where
 i:Nat
 c:JB
 ok:mQ nq i c
def Cx:J Ce->J (Nat×JB) | []=>[] |e::r=>(e.i,e.c)::Cx r
theorem acp: ∀l:J Ce,EZ nq (Cx l)
 | []=>trivial
 |e::r=>⟨e.ok,acp r⟩
structure Pe where
 i:Nat
 c:eZ
 ok:jg nq i c
def WC:J Pe->J (Nat×eZ) | []=>[] |e::r=>(e.i,e.c)::WC r
theorem acq: ∀l:J Pe,Nc nq (WC l)
 | []=>trivial
 |e::r=>⟨e.ok,acq r⟩
structure Fe where
 i:Nat
 c:Cd
 ok:nq i=WF c.N0
def ed:J Fe->J (Nat×Cd) | []=>[] |e::r=>(e.i,e.c)::ed r
theorem acr: ∀l:J Fe,F6 nq (ed l)
 | []=>trivial
 |e::r=>⟨e.ok,acr r⟩
def Oe[LP](f:FuncId){x:ay}{α β:Type}(hf:nq f=WF (.code x))(l:J Ce)(p:J Pe)(k:J Fe)(args:bY α)(res:Arg β)(kd:Kd)(fg:α->O β)(ow:Bool:=Md)(ho:Zt kd ow=Sw:=by rfl)(e: ∀a,Xz (xN k7 (Cx l) (WC p) (ed k) []) x args res kd a=fg a:=by intro a;kernel_rfl):Ce:=⟨f,⟨args,res,fg,kd,ow⟩,mQ.of hf (cx:=xN k7 (Cx l) (WC p) (ed k) []) ho (sL.make (acp l) (acq p) (acr k)) e⟩
abbrev Oc[LP](f:FuncId){x:ay}{α β:Type}(hf:nq f=WF (.code x))(l:J Ce)(args:bY α)(res:Arg β)(kd:Kd)(fg:α->O β)(ow:Bool:=Md)(ho:Zt kd ow=Sw:=by rfl)(e: ∀a,Xz (xN k7 (Cx l) [] [] []) x args res kd a=fg a:=by intro a;kernel_rfl):Ce:=Oe f hf l [] [] args res kd fg ow ho e
abbrev u2{α β γ:Type}(f:α->β->γ)(a:α×β):γ:=f a.1 a.2
abbrev u3{α β γ δ:Type}(f:α->β->γ->δ)(a:α×β×γ):δ:=f a.1 a.2.1 a.2.2
abbrev aG{α β:Type}(x:bM α)(y:bY β):=bY.cons (Arg.agg x) y
abbrev aL{β:Type}(x:J PT)(y:bY β):=bY.cons (Arg.sl x) y
abbrev aI{β:Type}(y:bY β):=bY.cons (Arg.int d5) y
abbrev gG{α:Type}(x:bM α):=bY.one (Arg.agg x)
abbrev gL(x:J PT):=bY.one (Arg.sl x)
abbrev gI:=bY.one (Arg.int d5)
abbrev tG{α:Type}(x:bM α):=Arg.cT (aG x gI)
abbrev cV:J PT:=[.i d5,.i d5,.i d5]
abbrev ki:J PT:=[.i d5]
abbrev kb:J PT:=[.b]
abbrev pW:J PT:=[.i d5,.i d5,.i d5,.i d5,.i d5]
abbrev eC:J PT:=[.i d5,.i d5]
abbrev c88:J PT:=[.b,.i .u64,.i .u64]
abbrev aon:J PT:=[.i d5,.i d5,.i d5,.i d5]
abbrev kiu:J PT:=[.i d5,.i .u64]
abbrev zF:J PT:=[.i .u8,.i d5,.i d5,.i d5,.i d5,.i d5,.i d5]
structure Field where
 am:List (Int×Int×Int)
def aZ:bM Field:=bM.K2 (bM.sl cV) (λp=>⟨p⟩) (λc=>c.am) (λ_=>rfl)
structure bg where
 aC:List Int
 be:List Bool
 bi:List Int
def ja:bM bg:=bM.K2 (bM.prod (bM.sl ki) (bM.prod (bM.sl kb) (bM.sl ki))) (λp=>⟨p.1,p.2.1,p.2.2⟩) (λc=>(c.aC,c.be,c.bi)) (λ_=>rfl)
structure aM where
 ai:bg
 bv:List (Int×Int×Int×Int×Int)
 ax:List Int
def dO:bM aM:=bM.K2 (bM.prod ja (bM.prod (bM.sl pW) (bM.sl ki))) (λp=>⟨p.1,p.2.1,p.2.2⟩) (λc=>(c.ai,c.bv,c.ax)) (λ_=>rfl)
structure bA where
 aO:Int
 ii:List (Int×Int×Int)
def jb:bM bA:=bM.K2 (bM.prod (bM.int d5) (bM.sl cV)) (λp=>⟨p.1,p.2⟩) (λc=>(c.aO,c.ii)) (λ_=>rfl)
structure aE where
 io:Int×Int
 jp:Field
 af:bA
 ae:aM
 kw:List (Int×Int×Int)
def bF:bM aE:=bM.K2 (bM.prod (bM.row eC) (bM.prod aZ (bM.prod jb (bM.prod dO (bM.sl cV))))) (λp=>⟨p.1,p.2.1,p.2.2.1,p.2.2.2.1,p.2.2.2.2⟩) (λc=>(c.io,c.jp,c.af,c.ae,c.kw)) (λ_=>rfl)
structure bD where
 lc:aE
 bv:List Int
def eY:bM bD:=bM.K2 (bM.prod bF (bM.sl ki)) (λp=>⟨p.1,p.2⟩) (λc=>(c.lc,c.bv)) (λ_=>rfl)
structure bz where
 aX:List Int
 k9:List Int
def fq:bM bz:=bM.K2 (bM.prod (bM.sl ki) (bM.sl ki)) (λp=>⟨p.1,p.2⟩) (λc=>(c.aX,c.k9)) (λ_=>rfl)
structure bB where
 lc:aE
 ls:bz
def dI:bM bB:=bM.K2 (bM.prod bF fq) (λp=>⟨p.1,p.2⟩) (λc=>(c.lc,c.ls)) (λ_=>rfl)
structure Tree where
 lw:Int
 pp:List (Int×Int×Int)
def sM:bM Tree:=bM.K2 (bM.prod (bM.int d5) (bM.sl cV)) (λp=>⟨p.1,p.2⟩) (λc=>(c.lw,c.pp)) (λ_=>rfl)
structure bq where
 lc:aE
 ut:Tree
def cP:bM bq:=bM.K2 (bM.prod bF sM) (λp=>⟨p.1,p.2⟩) (λc=>(c.lc,c.ut)) (λ_=>rfl)
structure bE where
 lc:aE
 up:List Int
def cQ:bM bE:=bM.K2 (bM.prod bF (bM.sl ki)) (λp=>⟨p.1,p.2⟩) (λc=>(c.lc,c.up)) (λ_=>rfl)
structure Choice where
 v6:Int
 bv:bD
 dd:bB
 bW:bq
 bN:bE
def bP:bM Choice:=bM.K2 (bM.prod (bM.int .u8) (bM.prod eY (bM.prod dI (bM.prod cP cQ)))) (λp=>⟨p.1,p.2.1,p.2.2.1,p.2.2.2.1,p.2.2.2.2⟩) (λc=>(c.v6,c.bv,c.dd,c.bW,c.bN)) (λ_=>rfl)
def zG:Ce:=⟨241,(JB.clone kb),mQ.clone rfl rfl⟩
def acs:Ce:=⟨375,(JB.XB),mQ.XB rfl⟩
def mB:Ce:=⟨76,(JB.clone ki),mQ.clone rfl rfl⟩
def yV:Ce:=⟨38,(JB.clone cV),mQ.clone rfl rfl⟩
def Ck:Ce:=⟨238,(JB.clone cV),mQ.clone rfl rfl⟩
def IS:Ce:=⟨239,(JB.clone cV),mQ.clone rfl rfl⟩
def zH:Ce:=⟨240,(JB.clone pW),mQ.clone rfl rfl⟩
def RSS:Ce:=⟨391,(JB.clone ki),mQ.clone rfl rfl⟩
abbrev bX:aE:=aE.mk (0,0) (Field.mk []) (bA.mk 0 []) (aM.mk (bg.mk [] [] []) [] []) []
section
abbrev dJ:=J (Int×Int×Int×Int×Int)
abbrev aK:=J (Int×Int×Int)
abbrev bS:=J (Int×Int)
abbrev aoo:=bS×aK×Int×Int×Int×Int×aK×Int×aK×(J Int)×(J Bool)×(J Int)×dJ×(J Int)×aK×(J Int)
abbrev aop:=aK×aK×Int×Int×Int×Int×aK×Int×aK×(J Int)×(J Bool)×(J Int)×dJ×(J Int)×aK
abbrev aik:=aK×Int×Int×Int×Int×aK×Int×aK×(J Int)×(J Bool)×(J Int)×dJ×(J Int)×aK×(J Int)
abbrev aoq:=Step aik Int
abbrev XP:=Int×Int×Int×Int×aK×Int×aK×(J Int)×(J Bool)×(J Int)×dJ×(J Int)×aK×(J Int)
abbrev aor:=Step XP Int
abbrev ail:=Int×dJ×(J Int)×(J Int)×(J Bool)×(J Int)×Nat×Nat×Int×Int×Int×Int×Int
abbrev GU:=dJ×(J Int)
abbrev aos:=Step ail GU
abbrev aim:=Step (Int×Int×Int×Int×aK×(J Int)) (Tree×bS)
abbrev ain:=aK×Int×Int×Int×Int×aK×(J Int)
abbrev kN:=Step ain aim
abbrev aot:=Nat×Nat×Int×aK×Int×Int×aK×Int×Int×Int×Int×aK×(J Int)×Int×Int×Int×Int×Int×Int
abbrev aio:=Int×Int×Nat×Nat×Nat×Int×Int×aK×bS×Int×Int×Int×Int×Int
abbrev Ns:=aK×bS
abbrev aou:=Step aio Ns
abbrev XQ:=(J Int)×Int×Int×(J Int)×(J Int)×(J (Int×Bool))
abbrev aip:=Step XQ Int
abbrev aov:=Step XQ aip
abbrev aow:=dJ×Int×Int×(J Int)×(J Bool)×(J Int)×dJ×(J Int)×(J (J Int))
abbrev aiq:=Nat×Nat×aK×Int×Int×aK×Int×Int×Int×Int×aK×(J Int)
abbrev aox:=Step aiq (Tree×Int)
abbrev air:=aK×Int×Int×aK×Int×Int×bS×Int×Int×Int×Int×Int
abbrev aoy:=Step air bS
abbrev aoz:=Int×aK×Int×Int×bS×Int×Int×Int×Int×Int×aK×aK
abbrev aoA:=Int×Int×Int×aK×bS×Int×Int×Int×Int×Int×aK×aK
abbrev aoB:=Int×Int×dJ×(J Int)×(J Int)×(J Bool)×(J Int)×Nat×Nat×Int×Int×Int×Int×Int
abbrev ef:=(J Int)×(J Bool)×(J Int)×Nat×Nat×Int×Int×Int×Int×Int×Int×dJ×(J Int)
abbrev ais:=(J Int)×Int×Int×(J Int)×(J Bool)×(J Int)×dJ×(J Int)
abbrev aoC:=Step ais Int
abbrev aoD:=Int×aK×Int×Int×Int×Int×Int×Int×Int×aK×(J Int)
abbrev aoE:=aK×Int×Int×Int×Int×aK×(J Int)×bS
abbrev ait:=(J Int)×Int×Int×aK×Int×Int×(J (Int×Bool))
abbrev aoF:=Step ait (bz×Int)
abbrev aoG:=Int×aK×Int×Int×Int×aK×(J (J Int))
abbrev aiu:=(J Int)×Int×Int×(J Int)×(J Bool)×(J Int)×Int×(J Bool)
abbrev aoH:=Step aiu Int
abbrev aoI:=aK×Int×Int×bS×(J Int)×bS
abbrev PR:=Int×Int×(J Int)
abbrev jt:=Step PR (Nat×Nat×(J Int))
abbrev aoJ:=Step PR jt
abbrev PU:=aK×aK×Int×Int
abbrev aoK:=Step PU Bool
abbrev Z5:=aK×Int×Int×Int×Int×bS
abbrev TF:=Int×Int×Int×Int×aK×bS
abbrev Zy:=Int×aK×Int×Int×(J Int)×(J Int)
abbrev GV:=aK×Int×Int×Int×Int
abbrev T6:=Step GV (Int×Bool)
abbrev T7:=aK×Int×Int×aK
abbrev Fz:=aK×bS×Int×Int
abbrev NP:=(J Int)×Int×Int×(J Int)×(J Int)
abbrev Qe:=(J Int)×Int×bS
abbrev PS:=Int×Int×aK
variable [LP]
def xO(F:Field):O Bool:=bif KJ (16<(If (Y F.am)))then bif KJ ((If (Y F.am))<64)then WF Sw else WF (KJ (70<(If (Y F.am))))else WF (KJ (70<(If (Y F.am))))
def c61:=Oc 61 rfl [] (gG aZ) Arg.bool .pure xO
def E6(F:bg):O Bool:=bif KJ (210<(If (Y F.aC)))then WF Sw else bif KJ (210<(If (Y F.be)))then WF Sw else WF (KJ (210<(If (Y F.bi))))
def axl:=Oc 130 rfl [] (gG ja) Arg.bool .pure E6
def E7(F:aM):O Bool:=(E6 F.ai).bind λb0=>bif b0 then WF Sw else bif KJ (210<(If (Y F.bv)))then WF Sw else WF (KJ (210<(If (Y F.ax))))
def c62:=Oc 62 rfl [axl] (gG dO) Arg.bool .pure E7
def oM(F:aE):O Bool:=bif KJ (40<(If (Y F.af.ii)))then WF Sw else bif KJ (40<(If (Y F.kw)))then WF Sw else(xO F.jp).bind λb0=>bif b0 then WF Sw else(E7 F.ae).bind λb1=>WF b1
def X5:=Oc 30 rfl [c61,c62] (gG bF) Arg.bool .pure oM
def xP(F:bD):O Bool:=(oM F.lc).bind λb0=>bif b0 then WF Sw else WF (KJ (70<(If (Y F.bv))))
def c11:=Oc 11 rfl [X5] (gG eY) Arg.bool .pure xP
def E8(F:bz):O Bool:=bif KJ (70<(If (Y F.aX)))then WF Sw else WF (KJ (70<(If (Y F.k9))))
def c31:=Oc 31 rfl [] (gG fq) Arg.bool .pure E8
def xQ(F:bB):O Bool:=(oM F.lc).bind λb0=>bif b0 then WF Sw else(E8 F.ls).bind λb1=>WF b1
def c12:=Oc 12 rfl [X5,c31] (gG dI) Arg.bool .pure xQ
def E9(F:Tree):O Bool:=WF (KJ (70<(If (Y F.pp))))
def c32:=Oc 32 rfl [] (gG sM) Arg.bool .pure E9
def xR(F:bq):O Bool:=(oM F.lc).bind λb0=>bif b0 then WF Sw else(E9 F.ut).bind λb1=>WF b1
def c13:=Oc 13 rfl [X5,c32] (gG cP) Arg.bool .pure xR
def xS(F:bE):O Bool:=(oM F.lc).bind λb0=>bif b0 then WF Sw else WF (KJ (70<(If (Y F.up))))
def c14:=Oc 14 rfl [X5] (gG cQ) Arg.bool .pure xS
def Fa(F:Choice):O Bool:=(xP F.bv).bind λb0=>bif b0 then WF Sw else(xQ F.dd).bind λb1=>bif b1 then WF Sw else(xR F.bW).bind λb2=>bif b2 then WF Sw else(xS F.bN).bind λb3=>WF b3
def c4:=Oc 4 rfl [c11,c12,c13,c14] (gG bP) Arg.bool .pure Fa
def fv(F:Choice):O aE:=bif F.v6==1 then WF F.bv.lc else bif F.v6==2 then WF F.dd.lc else bif F.v6==3 then WF F.bW.lc else WF F.bN.lc
abbrev S6:=Arg.agg bF
def c6:=Oc 6 rfl [] (gG bP) S6 .eT fv
def HC(F:Field):O Bool:=WF (KJ (10<(If (Y F.am))))
def c5:=Oc 5 rfl [] (gG aZ) Arg.bool .pure HC
def oW(F:Field):O Field:=(bL F.am).bind λl0=>WF (Field.mk l0)
def ec:=Oc 63 rfl [] (gG aZ) (Arg.agg aZ) .own oW Sw
def X6:=Oc 63 rfl [] (gG aZ) (Arg.agg aZ) .eT oW
def sN(F:bA):O bA:=(bL F.ii).bind λl0=>WF (bA.mk F.aO l0)
def b8:=Oc 64 rfl [] (gG jb) (Arg.agg jb) .own sN Sw
def Fg:=Oc 64 rfl [] (gG jb) (Arg.agg jb) .eT sN
def qn(F:bg):O bg:=(bL F.aC).bind λl0=>(bL F.be).bind λl1=>(bL F.bi).bind λl2=>WF (bg.mk l0 l1 l2)
def X7:=Oc 131 rfl [] (gG ja) (Arg.agg ja) .own qn Sw
def XS:=Oc 131 rfl [] (gG ja) (Arg.agg ja) .eT qn
def oX(F:aM):O aM:=(qn F.ai).bind λr0=>(bL F.bv).bind λl1=>(bL F.ax).bind λl2=>WF (aM.mk r0 l1 l2)
abbrev X8:=Arg.agg dO
def NQ:=Oc 65 rfl [X7,XS] (gG dO) X8 .own oX Sw
def XZ:=Oc 65 rfl [X7,XS] (gG dO) X8 .eT oX
def ib(F:aE):O aE:=(oW F.jp).bind λr0=>(sN F.af).bind λr1=>(oX F.ae).bind λr2=>(bL F.kw).bind λl3=>WF (aE.mk F.io r0 r1 r2 l3)
def Zz:=Oc 33 rfl [ec,X6,b8,Fg,NQ,XZ] (gG bF) S6 .own ib Sw
def Kb:=Oc 33 rfl [ec,X6,b8,Fg,NQ,XZ] (gG bF) S6 .eT ib
def zI(F:bD):O bD:=(ib F.lc).bind λr0=>(bL F.bv).bind λl1=>WF (bD.mk r0 l1)
def c15:=Oc 15 rfl [Zz,Kb] (gG eY) (Arg.agg eY) .own zI Sw
def aoM:=Oc 15 rfl [Zz,Kb] (gG eY) (Arg.agg eY) .eT zI
def Dd(F:bz):O bz:=(bL F.aX).bind λl0=>(bL F.k9).bind λl1=>WF (bz.mk l0 l1)
abbrev p4:=Arg.agg fq
def c34:=Oc 34 rfl [] (gG fq) p4 .own Dd Sw
def aoN:=Oc 34 rfl [] (gG fq) p4 .eT Dd
def wH(F:bB):O bB:=(ib F.lc).bind λr0=>(Dd F.ls).bind λr1=>WF (bB.mk r0 r1)
def Nt:=Oc 16 rfl [Zz,Kb,c34,aoN] (gG dI) (Arg.agg dI) .own wH Sw
def PW:=Oc 16 rfl [Zz,Kb,c34,aoN] (gG dI) (Arg.agg dI) .eT wH
def De(F:Tree):O Tree:=(bL F.pp).bind λl0=>WF (Tree.mk F.lw l0)
abbrev X9:=Arg.agg sM
def c35:=Oc 35 rfl [] (gG sM) X9 .own De Sw
def aoO:=Oc 35 rfl [] (gG sM) X9 .eT De
def sO(F:bq):O bq:=(ib F.lc).bind λr0=>(De F.ut).bind λr1=>WF (bq.mk r0 r1)
def Nu:=Oc 17 rfl [Zz,Kb,c35,aoO] (gG cP) (Arg.agg cP) .own sO Sw
def ZB:=Oc 17 rfl [Zz,Kb,c35,aoO] (gG cP) (Arg.agg cP) .eT sO
def zJ(F:bE):O bE:=(ib F.lc).bind λr0=>(bL F.up).bind λl1=>WF (bE.mk r0 l1)
def c18:=Oc 18 rfl [Zz,Kb] (gG cQ) (Arg.agg cQ) .own zJ Sw
def aoP:=Oc 18 rfl [Zz,Kb] (gG cQ) (Arg.agg cQ) .eT zJ
def qo(F:Choice):O Choice:=(zI F.bv).bind λr0=>(wH F.dd).bind λr1=>(sO F.bW).bind λr2=>(zJ F.bN).bind λr3=>WF (Choice.mk F.v6 r0 r1 r2 r3)
def hul:=Oc 7 rfl [c15,aoM,Nt,PW,Nu,ZB,c18,aoP] (gG bP) (Arg.agg bP) .own qo Sw
def c7p:=Oc 7 rfl [c15,aoM,Nt,PW,Nu,ZB,c18,aoP] (gG bP) (Arg.agg bP) .eT qo
def gK(F:aE):O Bool:=bif(F.io.1==0)&&(F.io.2==0)then bif F.af.aO==0 then WF ((M d5 ((M d5 ((M d5 ((M d5 ((M d5 ((M d5 ((M d5 ((If (Y F.jp.am))+(If (Y F.af.ii))))+(If (Y F.ae.bv))))+(If (Y F.ae.ax))))+(If (Y F.ae.ai.aC))))+(If (Y F.ae.ai.be))))+(If (Y F.ae.ai.bi))))+(If (Y F.kw))))==0)else WF Md else WF Md
def c66:=Oc 66 rfl [] (gG bF) Arg.bool .pure gK
def oh(F:Int):O Int:=bif KJ (F<0)then WF (M .u64 (0- (M .u64 F)))else WF (M .u64 F)
abbrev I5:=Arg.int .u64
def X':=Oc 72 rfl [] gI I5 .pure oh
def Df(s:(Int×Int)):O (Step (Int×Int) Int):=bif KJ (0<s.2)then bif s.2==0 then Pc else WF (.next (s.2,Int.tmod s.1 s.2))else WF (.done s.1)
def Cl(F:Int)(p1:Int):O Int:=au Df (F,p1)
abbrev d9:=bY.cons (Arg.int .u64) (bY.one (Arg.int .u64))
def c71:=Oc 71 rfl [] d9 I5 .pure (u2 Cl)
def dP(F:Int×Int):O Int:=bif KJ (F.2<1)then WF 8 else bif F.1==(-9223372036854775808)then WF 8 else(oh F.1).bind λn0=>(Cl (M .u64 F.2) n0).bind λn1=>bif KJ (1<n1)then WF 8 else WF 0
abbrev d6:=bM.row eC
abbrev d7:=Arg.int d5
def Wc:=Oc 39 rfl [X',c71] (gG d6) d7 .pure dP
def uR(F:Int):O Bool:=bif KJ (F<(-1048576))then WF Sw else WF (KJ (1048576<F))
def axp:=Oc 319 rfl [] gI Arg.bool .pure uR
def mR(F:Int×Int×Int):O Int:=bif KJ (F.1<0)then WF 8 else bif KJ (65535<F.1)then WF 8 else(uR F.2.1).bind λb0=>bif b0 then WF 8 else(uR F.2.2).bind λb1=>bif b1 then WF 8 else WF 0
abbrev d8:=bM.row cV
def lE:=Oc 251 rfl [axp] (gG d8) d7 .pure mR
def lV(s:T7):O (Step T7 (Step T7 Int)):=bif KJ (s.2.2.1<s.2.1)then(az s.1 s.2.2.1).bind λa0=>bif KJ (0<s.2.2.1)then(az s.2.2.2 (M d5 (s.2.2.1-1))).bind λa1=>bif KJ (a0.1<=a1.1)then WF (.done (.done 32))else WF (.next (s.1,s.2.1,M d5 (s.2.2.1+1),s.2.2.2))else WF (.next (s.1,s.2.1,M d5 (s.2.2.1+1),s.2.2.2))else WF (.done (.done 0))
def qp(s:T7):O (Step T7 Int):=bif KJ (s.2.2.1<s.2.1)then(az s.1 s.2.2.1).bind λa0=>(mR a0).bind λn1=>bif n1 !=0 then WF (.done n1)else WF (.next (s.1,s.2.1,M d5 (s.2.2.1+1),s.2.2.2))else au lV (s.2.2.2,If (Y s.2.2.2),0,s.2.2.2)
def dm(F:Field):O Int:=bif KJ (64<(If (Y F.am)))then WF 4 else au qp (F.am,If (Y F.am),0,F.am)
def TG:=Oc 212 rfl [lE] (gG aZ) d7 .pure dm
def zK(F:Int×Int):O Bool:=bif KJ (0<=(if F.2<F.1 then F.2 else F.1))then bif KJ ((if F.2>F.1 then F.2 else F.1)<=65535)then WF (F.1 !=F.2)else WF Md else WF Md
def aoQ:=Oc 283 rfl [] (gG d6) Arg.bool .pure zK
def xh(s:aoG):O (Step aoG Int):=bif KJ (s.2.2.2.1<s.2.2.1)then(az s.2.1 s.2.2.2.1).bind λa0=>(zK a0.2).bind λb1=>bif !b1 then WF (.done 8)else(Ta s.2.2.2.2.2.2 [a0.2.1,a0.2.2]).bind λb2=>bif b2 then WF (.done 8)else bif KJ (a0.1<=s.1)then WF (.done 8)else bif KJ (s.2.2.2.2.1<=a0.1)then WF (.done 8)else(Tb s.2.2.2.2.2.2 [a0.2.1,a0.2.2]).bind λl3=>WF (.next (a0.1,s.2.1,s.2.2.1,M d5 (s.2.2.2.1+1),s.2.2.2.2.1,s.2.2.2.2.2.1,l3))else WF (.done 0)
def wI(F:bA):O Int:=bif KJ (200<(If (Y F.ii)))then WF 8 else bif KJ (F.aO<0)then WF 8 else bif KJ (1000000<F.aO)then WF 8 else au xh (-1,F.ii,If (Y F.ii),0,F.aO,F.ii,[])
def ZC:=Oc 213 rfl [aoQ] (gG jb) d7 .pure wI
def jz(s:((J Bool)×Bool×Int×Int)):O (Step ((J Bool)×Bool×Int×Int) Int):=bif KJ (s.2.2.2<s.2.2.1)then(az s.1 s.2.2.2).bind λb0=>bif s.2.1==b0 then WF (.done s.2.2.2)else WF (.next (s.1,s.2.1,s.2.2.1,M d5 (s.2.2.2+1)))else WF (.done (-1))
def uT(F:J Bool)(p1:Bool):O Int:=au jz (F,p1,If (Y F),0)
abbrev P':=bY.one Arg.bool
def axq:=Oc 373 rfl [] (aL kb P') d7 .pure (u2 uT)
def fK(F:J Bool)(p1:Bool):O Bool:=(uT F p1).bind λn0=>WF (KJ (0<=n0))
def axr:=Oc 339 rfl [axq] (aL kb P') Arg.bool .pure (u2 fK)
def jv(s:((J Int)×Int×Int×(J Int)×(J Bool)×(J Int))):O (Step ((J Int)×Int×Int×(J Int)×(J Bool)×(J Int)) aoH):=bif KJ (s.2.2.1<s.2.1)then(az s.1 s.2.2.1).bind λn0=>bif KJ (n0<0)then WF (.done (.done 8))else bif KJ (1000000<n0)then WF (.done (.done 8))else bif n0==0 then(az s.2.2.2.2.1 s.2.2.1).bind λb1=>bif b1 then WF (.done (.done 8))else WF (.next (s.1,s.2.1,M d5 (s.2.2.1+1),s.2.2.2))else WF (.next (s.1,s.2.1,M d5 (s.2.2.1+1),s.2.2.2))else WF (.done (.done 0))
def xi(c0:(J Bool))(s:aiu):O aoH:=match s with |(a,b,d,e,f,g,h,i)=>bif KJ (d<b)then(az a d).bind λn0=>bif KJ (n0<0)then bif(Y i)==(Y i)then bif(Y i)==(Y c0)then bif(Y i)==(Y c0)then bif KJ (0<=d)then WF (.done 8)else(fK i Md).bind λb1=>bif b1 then WF (.done 8)else au jv (e,If (Y e),0,e,f,g)else Pc else Pc else Pc else bif KJ (h<=n0)then bif(Y i)==(Y i)then bif(Y i)==(Y c0)then bif(Y i)==(Y c0)then bif KJ (0<=d)then WF (.done 8)else(fK i Md).bind λb2=>bif b2 then WF (.done 8)else au jv (e,If (Y e),0,e,f,g)else Pc else Pc else Pc else(az i n0).bind λb3=>bif b3 then bif(Y i)==(Y i)then bif(Y i)==(Y c0)then bif(Y i)==(Y c0)then bif KJ (0<=d)then WF (.done 8)else(fK i Md).bind λb4=>bif b4 then WF (.done 8)else au jv (e,If (Y e),0,e,f,g)else Pc else Pc else Pc else(az i n0).bind λ_=>bif((bu i n0 Sw).length)==(Y i)then WF (.next (a,b,M d5 (d+1),e,f,g,h,bu i n0 Sw))else Pc else bif(Y i)==(Y c0)then bif(Y i)==(Y c0)then(fK i Md).bind λb6=>bif b6 then WF (.done 8)else au jv (e,If (Y e),0,e,f,g)else Pc else Pc
def wJ(F:bg):O Int:=bif KJ ((If (Y F.aC))<1)then WF 8 else bif KJ (200<(If (Y F.aC)))then WF 8 else bif(If (Y F.be)) !=(If (Y F.aC))then WF 8 else(bL F.be).bind λl0=>au (xi l0) (F.bi,If (Y F.bi),0,F.aC,F.be,F.bi,If (Y F.aC),l0)
def mD:=Oe 284 rfl [zG,axr] [] [⟨291,Lc,rfl⟩,⟨223,Wa,rfl⟩,⟨338,aoa,rfl⟩] (gG ja) d7 .pure wJ
def Dg(F:Int×Int)(p1:Int×Int):O Int:=(dP F).bind λn0=>(dP p1).bind λn1=>WF (if n1>n0 then n1 else n0)
abbrev Rm:=aG d6 (gG d6)
def axs:=Oc 147 rfl [Wc] Rm d7 .pure (u2 Dg)
def sy(F:Int):O Bool:=WF (F !=F)
def axt:=Oc 229 rfl [] gI Arg.bool .pure sy
def mS(F:Int)(p1:Int):O Int:=(sy F).bind λb0=>(sy p1).bind λb1=>bif b0 then bif b1 then WF 0 else WF (-1)else bif b1 then WF 1 else bif KJ (F<p1)then WF (-1)else bif KJ (p1<F)then WF 1 else WF 0
def aoR:=Oc 148 rfl [axt] (aI gI) d7 .pure (u2 mS)
def iW(F:Int)(p1:Int):O (Int×Int):=WF (M .u64 ((M .u64 ((M .u64 ((lR .u64 F 32)*(lR .u64 p1 32)))+(lR .u64 (M .u64 ((M .u64 ((lR .u64 F 32)*(uC .u64 p1 4294967295)))+(lR .u64 (M .u64 ((uC .u64 F 4294967295)*(uC .u64 p1 4294967295))) 32))) 32)))+(lR .u64 (M .u64 ((uC .u64 (M .u64 ((M .u64 ((lR .u64 F 32)*(uC .u64 p1 4294967295)))+(lR .u64 (M .u64 ((uC .u64 F 4294967295)*(uC .u64 p1 4294967295))) 32))) 4294967295)+(M .u64 ((uC .u64 F 4294967295)*(lR .u64 p1 32))))) 32)),M .u64 (F*p1))
def PX:=Oc 231 rfl [] d9 (Arg.cT d9) .pure (u2 iW)
def xT(F:Int)(p1:Int):O (Bool×Int×Int):=(oh F).bind λn0=>(oh p1).bind λn1=>(iW n0 n1).bind λa2=>WF (!((KJ (F<0))==(KJ (p1<0))),a2)
abbrev i5:=bM.row c88
abbrev Qa:=Arg.agg i5
def axu:=Oc 150 rfl [X',PX] (aI gI) Qa .pure (u2 xT)
def q8(F:Int):O Bool:=WF (F !=F)
def axv:=Oc 305 rfl [] (bY.one I5) Arg.bool .pure q8
def lW(F:Int)(p1:Int):O Int:=(q8 F).bind λb0=>(q8 p1).bind λb1=>bif b0 then bif b1 then WF 0 else WF (-1)else bif b1 then WF 1 else bif KJ (F<p1)then WF (-1)else bif KJ (p1<F)then WF 1 else WF 0
def axw:=Oc 230 rfl [axv] d9 d7 .pure (u2 lW)
def xj(F:Bool×Int×Int)(p1:Bool×Int×Int):O Int:=(lW F.2.1 p1.2.1).bind λn0=>bif n0 !=0 then WF n0 else(lW F.2.2 p1.2.2).bind λn1=>WF n1
abbrev NR:=aG i5 (gG i5)
def axx:=Oc 149 rfl [axw] NR d7 .pure (u2 xj)
def pK(F:Int×Int)(p1:Int×Int):O (Int×Int):=(Dg F p1).bind λn0=>bif n0 !=0 then WF (0,n0)else bif !((KJ (F.1<0))==(KJ (p1.1<0)))then(mS F.1 p1.1).bind λn1=>WF (n1,0)else(xT F.1 p1.2).bind λa2=>(xT p1.1 F.2).bind λa3=>(xj a2 a3).bind λn4=>bif KJ (F.1<0)then WF (M d5 (0-n4),0)else WF (n4,0)
abbrev lm:=Arg.cT (aI gI)
def XO:=Oc 73 rfl [axs,aoR,axu,axx] Rm lm .pure (u2 pK)
def cmp_isNaN_int(F:Int):O Bool:=WF (F !=F)
def axy:=Oc 349 rfl [] gI Arg.bool .pure cmp_isNaN_int
def fV(F:Int)(p1:Int):O Int:=(cmp_isNaN_int F).bind λb0=>(cmp_isNaN_int p1).bind λb1=>bif b0 then bif b1 then WF 0 else WF (-1)else bif b1 then WF 1 else bif KJ (F<p1)then WF (-1)else bif KJ (p1<F)then WF 1 else WF 0
def Wd:=Oc 314 rfl [axy] (aI gI) d7 .pure (u2 fV)
def Bv(s:(Int×(J Int)×Int×Int)):O (Step (Int×(J Int)×Int×Int) Int):=bif KJ (s.2.2.2<s.2.2.1)then(az s.2.1 s.2.2.2).bind λn0=>bif n0 !=s.1 then WF (.done n0)else WF (.next (s.1,s.2.1,s.2.2.1,M d5 (s.2.2.2+1)))else WF (.done s.1)
def zL(F:J Int):O Int:=au Bv (0,F,If (Y F),0)
def aoS:=Oc 340 rfl [] (gL ki) d7 .pure zL
def cY(F:Int×Int×Int×Int×Int)(p1:Int×Int×Int×Int×Int):O Int:=(pK (F.1,F.2.1) (p1.1,p1.2.1)).bind λa0=>(fV F.2.2.1 p1.2.2.1).bind λn1=>(zL [a0.1,n1]).bind λn2=>WF n2
abbrev ca:=bM.row pW
def Kp:=Oc 285 rfl [XO,Wd,aoS] (aG ca (gG ca)) d7 .pure (u2 cY)
def mH(s:aow):O (Step aow aoC):=bif KJ (s.2.2.1<s.2.1)then(az s.1 s.2.2.1).bind λa0=>(dP (a0.1,a0.2.1)).bind λn1=>bif n1 !=0 then WF (.done (.done 8))else bif KJ (a0.2.2.1<0)then WF (.done (.done 8))else bif KJ (1000000<a0.2.2.1)then WF (.done (.done 8))else(Ta s.2.2.2.2.2.2.2.2 [a0.2.2.1]).bind λb2=>bif b2 then WF (.done (.done 8))else(Tb s.2.2.2.2.2.2.2.2 [a0.2.2.1]).bind λl3=>bif KJ (0<s.2.2.1)then(az s.2.2.2.2.2.2.1 (M d5 (PP (M d5 (s.2.2.1-1)) 2))).bind λa4=>(cY a0 a4).bind λn5=>bif KJ (n5<0)then WF (.done (.done 8))else WF (.next (s.1,s.2.1,M d5 (s.2.2.1+1),s.2.2.2.1,s.2.2.2.2.1,s.2.2.2.2.2.1,s.2.2.2.2.2.2.1,s.2.2.2.2.2.2.2.1,l3))else WF (.next (s.1,s.2.1,M d5 (s.2.2.1+1),s.2.2.2.1,s.2.2.2.2.1,s.2.2.2.2.2.1,s.2.2.2.2.2.2.1,s.2.2.2.2.2.2.2.1,l3))else WF (.done (.done 0))
def pA(s:ais):O aoC:=bif KJ (s.2.2.1<s.2.1)then(az s.1 s.2.2.1).bind λn0=>(az s.2.2.2.2.1 s.2.2.1).bind λb1=>bif !b1 then bif n0 !=(-1)then WF (.done 8)else WF (.next (s.1,s.2.1,M d5 (s.2.2.1+1),s.2.2.2))else bif KJ (n0<0)then WF (.done 8)else bif KJ ((If (Y s.2.2.2.2.2.2.1))<=n0)then WF (.done 8)else(az s.2.2.2.2.2.2.1 n0).bind λa2=>(az s.2.2.2.1 s.2.2.1).bind λn3=>bif !((a2.2.2.2.1==s.2.2.1)&&(a2.2.2.2.2==n3))then WF (.done 8)else WF (.next (s.1,s.2.1,M d5 (s.2.2.1+1),s.2.2.2))else au mH (s.2.2.2.2.2.2.1,If (Y s.2.2.2.2.2.2.1),0,s.2.2.2.1,s.2.2.2.2.1,s.2.2.2.2.2.1,s.2.2.2.2.2.2.1,s.2.2.2.2.2.2.2,[])
def mT(F:aM):O Int:=(wJ F.ai).bind λn0=>bif n0 !=0 then WF 8 else bif(If (Y F.ax)) !=(If (Y F.ai.be))then WF 8 else bif(If (Y F.bv)) !=(M d5 ((If (Y F.ai.be)) - (If (Y F.ai.bi))))then WF 8 else au pA (F.ax,If (Y F.ax),0,F.ai.aC,F.ai.be,F.ai.bi,F.bv,F.ax)
def Cy:=Oc 214 rfl [mD,Wc,Kp] (gG dO) d7 .pure mT
def Bw(F:Int×Int×Int)(p1:Int):O Int:=(fV F.1 p1).bind λn0=>WF n0
abbrev V6:=aG d8 gI
def axz:=Oc 342 rfl [Wd] V6 d7 .pure (u2 Bw)
def qd1(s:GV):O T6:=bif KJ (s.2.2.2.1<s.2.2.2.2)then(az s.1 (M d5 (lR .u64 (M .u64 (M d5 (s.2.2.2.1+s.2.2.2.2))) 1))).bind λa0=>(Bw a0 s.2.1).bind λn1=>bif KJ (n1<0)then WF (.next (s.1,s.2.1,s.2.2.1,M d5 ((M d5 (lR .u64 (M .u64 (M d5 (s.2.2.2.1+s.2.2.2.2))) 1))+1),s.2.2.2.2))else WF (.next (s.1,s.2.1,s.2.2.1,s.2.2.2.1,M d5 (lR .u64 (M .u64 (M d5 (s.2.2.2.1+s.2.2.2.2))) 1)))else bif KJ (s.2.2.2.1<s.2.2.1)then(az s.1 s.2.2.2.1).bind λa2=>(Bw a2 s.2.1).bind λn3=>WF (.done (s.2.2.2.1,n3==0))else WF (.done (s.2.2.2.1,Md))
def dM(F:J (Int×Int×Int))(p1:Int)(_:Unit):O (Int×Bool):=au qd1 (F,p1,If (Y F),0,If (Y F))
abbrev g8:=Arg.cT (aI (bY.one Arg.bool))
def acC:=Oc 320 rfl [axz] (aL cV (aI (bY.one (Arg.fY 342 bY.nil)))) g8 .pure (u3 dM)
def mU(F:Field)(p1:Int):O (Int×Int×Int):=(dM F.am p1 ()).bind λa0=>bif !a0.2 then WF (-1,0,0)else(az F.am a0.1).bind λa1=>WF a1
abbrev cr:=aG aZ gI
def ZD:=Oc 287 rfl [acC] cr (Arg.agg d8) .pure (u2 mU)
def wK(F:Int×Int×Int)(p1:Int×Int×Int)(p2:Int×Int):O Int:=(mR F).bind λn0=>(mR p1).bind λn1=>(dP p2).bind λn2=>bif(if n2>(if n1>n0 then n1 else n0)then n2 else if n1>n0 then n1 else n0) !=0 then WF (if n2>(if n1>n0 then n1 else n0)then n2 else if n1>n0 then n1 else n0)else bif F.1==p1.1 then WF 2 else WF 0
abbrev t6:=aG d8 (aG d8 (gG d6))
def ZE:=Oc 288 rfl [lE,Wc] t6 d7 .pure (u3 wK)
def rU(s:(Int×Int×Int×Int×Int×Int×Int×Int×Int)):O (Step (Int×Int×Int×Int×Int×Int×Int×Int×Int) (Int×Int)):=bif KJ (s.2.2.2.2.1<2)then bif s.2.2.2.2.1==0 then(iW (M .u64 s.1) (M .u64 s.2.1)).bind λa0=>bif KJ (s.1<0)then bif KJ (s.2.1<0)then(wF s.2.2.2.2.2.2.2.2 a0.2 0).bind λa1=>WF (.next (s.1,s.2.1,s.2.2.1,s.2.2.2.1,M d5 (s.2.2.2.2.1+1),s.2.2.2.2.2.1,s.2.2.2.2.2.2.1,M d5 ((M d5 (s.2.2.2.2.2.2.2.1+(M d5 ((M d5 ((M d5 a0.1)-s.2.1))-s.1))))+(M d5 a1.2)),a1.1))else(wF s.2.2.2.2.2.2.2.2 a0.2 0).bind λa2=>WF (.next (s.1,s.2.1,s.2.2.1,s.2.2.2.1,M d5 (s.2.2.2.2.1+1),s.2.2.2.2.2.1,s.2.2.2.2.2.2.1,M d5 ((M d5 (s.2.2.2.2.2.2.2.1+(M d5 ((M d5 a0.1)-s.2.1))))+(M d5 a2.2)),a2.1))else bif KJ (s.2.1<0)then(wF s.2.2.2.2.2.2.2.2 a0.2 0).bind λa3=>WF (.next (s.1,s.2.1,s.2.2.1,s.2.2.2.1,M d5 (s.2.2.2.2.1+1),s.2.2.2.2.2.1,s.2.2.2.2.2.2.1,M d5 ((M d5 (s.2.2.2.2.2.2.2.1+(M d5 ((M d5 a0.1)-s.1))))+(M d5 a3.2)),a3.1))else(wF s.2.2.2.2.2.2.2.2 a0.2 0).bind λa4=>WF (.next (s.1,s.2.1,s.2.2.1,s.2.2.2.1,M d5 (s.2.2.2.2.1+1),s.2.2.2.2.2.1,s.2.2.2.2.2.2.1,M d5 ((M d5 (s.2.2.2.2.2.2.2.1+(M d5 a0.1)))+(M d5 a4.2)),a4.1))else bif s.2.2.2.2.1==1 then(iW (M .u64 s.2.2.1) (M .u64 s.2.2.2.1)).bind λa5=>bif KJ (s.2.2.1<0)then bif KJ (s.2.2.2.1<0)then(wF s.2.2.2.2.2.2.2.2 a5.2 0).bind λa6=>WF (.next (s.1,s.2.1,s.2.2.1,s.2.2.2.1,M d5 (s.2.2.2.2.1+1),s.2.2.2.2.2.1,s.2.2.2.2.2.2.1,M d5 ((M d5 (s.2.2.2.2.2.2.2.1+(M d5 ((M d5 ((M d5 a5.1)-s.2.2.2.1))-s.2.2.1))))+(M d5 a6.2)),a6.1))else(wF s.2.2.2.2.2.2.2.2 a5.2 0).bind λa7=>WF (.next (s.1,s.2.1,s.2.2.1,s.2.2.2.1,M d5 (s.2.2.2.2.1+1),s.2.2.2.2.2.1,s.2.2.2.2.2.2.1,M d5 ((M d5 (s.2.2.2.2.2.2.2.1+(M d5 ((M d5 a5.1)-s.2.2.2.1))))+(M d5 a7.2)),a7.1))else bif KJ (s.2.2.2.1<0)then(wF s.2.2.2.2.2.2.2.2 a5.2 0).bind λa8=>WF (.next (s.1,s.2.1,s.2.2.1,s.2.2.2.1,M d5 (s.2.2.2.2.1+1),s.2.2.2.2.2.1,s.2.2.2.2.2.2.1,M d5 ((M d5 (s.2.2.2.2.2.2.2.1+(M d5 ((M d5 a5.1)-s.2.2.1))))+(M d5 a8.2)),a8.1))else(wF s.2.2.2.2.2.2.2.2 a5.2 0).bind λa9=>WF (.next (s.1,s.2.1,s.2.2.1,s.2.2.2.1,M d5 (s.2.2.2.2.1+1),s.2.2.2.2.2.1,s.2.2.2.2.2.2.1,M d5 ((M d5 (s.2.2.2.2.2.2.2.1+(M d5 a5.1)))+(M d5 a9.2)),a9.1))else Pc else WF (.done s.2.2.2.2.2.2.2)
def Dh(F:Int×Int×Int×Int):O (Int×Int):=au rU (F.1,F.2.1,F.2.2.1,F.2.2.2,0,0,0,0,0)
def axA:=Oc 343 rfl [PX,acs] (gG (bM.row aon)) (Arg.agg (bM.row kiu)) .pure Dh
def qt(F:Int×Int×Int)(p1:Int×Int×Int)(p2:Int×Int):O Int:=(Dh (M d5 (F.2.1-p1.2.1),p2.2,M d5 (F.2.2-p1.2.2),p2.1)).bind λa0=>bif !((a0.1==0)&&(a0.2==0))then bif KJ (a0.1<0)then WF (-1)else WF 1 else(mS F.2.2 p1.2.2).bind λn1=>(fV p1.1 F.1).bind λn2=>(zL [n1,n2]).bind λn3=>WF n3
def aoT:=Oc 289 rfl [axA,aoR,Wd,aoS] t6 d7 .pure (u3 qt)
def Fb(F:Bool×Int×Int)(p1:Int)(p2:Int):O ((Int×Int)×Int):=bif KJ (0<F.2.1)then WF ((0,0),16)else bif KJ (9223372036854775807<F.2.2)then WF ((0,0),16)else bif KJ (0<p1)then WF ((0,0),16)else bif KJ (9223372036854775807<p2)then WF ((0,0),16)else bif F.1 then WF ((M d5 (0- (M d5 F.2.2)),M d5 p2),0)else WF ((M d5 F.2.2,M d5 p2),0)
def axB:=Oc 390 rfl [] (aG i5 d9) (tG d6) .pure (u3 Fb)
def Di(F:Int)(p1:Int):O ((Int×Int)×Int):=bif p1==0 then WF ((0,0),26)else(oh F).bind λn0=>(oh p1).bind λn1=>(Cl n0 n1).bind λn2=>(oh F).bind λn3=>bif n2==0 then Pc else(oh p1).bind λn4=>bif n2==0 then Pc else(Fb (!((KJ (F<0))==(KJ (p1<0))),0,M .u64 (PP n3 n2)) 0 (M .u64 (PP n4 n2))).bind λa5=>WF a5
def axC:=Oc 374 rfl [X',c71,axB] (aI gI) (tG d6) .pure (u2 Di)
def Fc(F:Int×Int×Int)(p1:Int×Int×Int):O ((Int×Int)×Int):=(wK F p1 (0,1)).bind λn0=>bif n0 !=0 then WF ((0,0),n0)else bif F.2.2==p1.2.2 then WF ((0,0),6)else(Di (M d5 (F.2.1-p1.2.1)) (M d5 (p1.2.2-F.2.2))).bind λa1=>WF a1
def axD:=Oc 341 rfl [ZE,axC] (aG d8 (gG d8)) (tG d6) .pure (u2 Fc)
def yW(F:Int×Int×Int)(p1:Int×Int×Int)(p2:Int×Int):O ((Int×Int)×Bool×Int):=(wK F p1 p2).bind λn0=>bif n0 !=0 then WF ((0,0),Md,n0)else(qt p1 F p2).bind λn1=>bif KJ (0<n1)then WF (p2,Sw,0)else bif KJ (p1.2.2<=F.2.2)then WF ((0,0),Md,0)else(Fc F p1).bind λa2=>WF (a2.1,a2.2==0,a2.2)
abbrev Cz:=bY.cons Arg.bool gI
def axE:=Oc 286 rfl [ZE,aoT,axD] t6 (Arg.cT (aG d6 Cz)) .pure (u3 yW)
def wL(F:Field)(p1:Int×Int)(p2:Int×Int):O ((Int×Int)×Bool×Int):=(mU F p1.2).bind λa0=>(mU F p1.1).bind λa1=>(yW a0 a1 p2).bind λa2=>WF a2
def PY:=Oc 215 rfl [ZD,axE] (aG aZ Rm) (Arg.cT (aG d6 Cz)) .pure (u3 wL)
def dz(s:aop):O (Step aop aor):=bif KJ (s.2.2.2.1<s.2.2.1)then(az s.2.1 s.2.2.2.1).bind λa0=>(wL (Field.mk s.2.2.2.2.2.2.1) a0.2 (s.2.2.2.2.1,s.2.2.2.2.2.1)).bind λa1=>bif a1.2.2 !=0 then WF (.done (.done 8))else bif !a1.2.1 then WF (.next (s.1,s.2.1,s.2.2.1,M d5 (s.2.2.2.1+1),s.2.2.2.2))else bif(If (Y s.1))==0 then WF (.done (.done 8))else(az s.1 0).bind λa2=>bif a2.1 !=a0.1 then WF (.done (.done 8))else(az s.1 0).bind λa3=>bif KJ (a3.2.1<0)then WF (.done (.done 8))else bif KJ (200<=a3.2.1)then WF (.done (.done 8))else(az s.2.2.2.2.2.2.2.2.2.2.2.2.2.1 a3.2.1).bind λn4=>bif KJ (n4<0)then WF (.done (.done 8))else(az s.2.2.2.2.2.2.2.2.2.2.2.2.2.1 a3.2.1).bind λn5=>(az s.2.2.2.2.2.2.2.2.2.2.2.2.1 n5).bind λa6=>bif !((a6.1==a1.1.1)&&((a6.2.1==a1.1.2)&&((a6.2.2.1==a0.1)&&((a6.2.2.2.1==a3.2.1)&&(a6.2.2.2.2==a3.2.2)))))then WF (.done (.done 8))else(gQ s.1 1 (If (Y s.1))).bind λl7=>WF (.next (l7,s.2.1,s.2.2.1,M d5 (s.2.2.2.1+1),s.2.2.2.2))else bif KJ (0<(If (Y s.1)))then WF (.done (.done 8))else WF (.done (.done 0))
def gS(s:XP):O aor:=match s with |(a,b,d,e,f,g,h,i,j,k,l,m,n,o)=>bif KJ (b<a)then(az o b).bind λn0=>bif n0 !=0 then WF (.done 8)else WF (.next (a,M d5 (b+1),(d,e,f,g,h,i,j,k,l,m,n,o)))else bif(If (Y m)) !=200 then WF (.done 8)else bif(If (Y l)) !=(If (Y n))then WF (.done 8)else au dz (n,h,If (Y h),0,d,e,f,g,h,i,j,k,l,m,n)
def fL(F:aE):O Int:=(dP F.io).bind λn0=>(dm F.jp).bind λn1=>(wI F.af).bind λn2=>(mT F.ae).bind λn3=>au gS (If ([n0,n1,n2,n3].length),0,F.io.1,F.io.2,F.jp.am,F.af.aO,F.af.ii,F.ae.ai.aC,F.ae.ai.be,F.ae.ai.bi,F.ae.bv,F.ae.ax,F.kw,[n0,n1,n2,n3])
def Ro:=Oc 132 rfl [Wc,TG,ZC,Cy,PY] (gG bF) d7 .pure fL
def nU(s:((J Int)×Int×Int×Int)):O (Step ((J Int)×Int×Int×Int) Int):=bif KJ (s.2.2.2<s.2.2.1)then(az s.1 s.2.2.2).bind λn0=>bif s.2.1==n0 then WF (.done s.2.2.2)else WF (.next (s.1,s.2.1,s.2.2.1,M d5 (s.2.2.2+1)))else WF (.done (-1))
def dt(F:J Int)(p1:Int):O Int:=au nU (F,p1,If (Y F),0)
abbrev t8:=aL ki gI
def ZA:=Oc 151 rfl [] t8 d7 .pure (u2 dt)
def nV(F:J Int)(p1:Int):O Bool:=(dt F p1).bind λn0=>WF (KJ (0<=n0))
def axF:=Oc 133 rfl [ZA] t8 Arg.bool .pure (u2 nV)
def uU(s:Qe):O (Step Qe bS):=bif KJ (s.2.1<(If (Y s.1)))then(az s.1 s.2.1).bind λn0=>(az s.1 (M d5 (PP (M d5 (s.2.1-1)) 2))).bind λn1=>(aQ s.2.2 [(n0,n1)]).bind λl2=>WF (.next (s.1,M d5 (s.2.1+1),l2))else WF (.done s.2.2)
def tN(F:J Int):O bS:=au uU (F,1,[])
abbrev Ti:=Arg.sl eC
def aoU:=Oc 134 rfl [] (gL ki) Ti .eT tN
def mV(s:(bS×Int×Int×Int×Int)):O (Step (bS×Int×Int×Int×Int) Int):=bif KJ (s.2.2.1<s.2.1)then(az s.1 s.2.2.1).bind λa0=>bif(s.2.2.2.1==a0.1)&&(s.2.2.2.2==a0.2)then WF (.done s.2.2.1)else WF (.next (s.1,s.2.1,M d5 (s.2.2.1+1),s.2.2.2))else WF (.done (-1))
def uW(F:J (Int×Int))(p1:Int×Int):O Int:=au mV (F,If (Y F),0,p1)
abbrev GY:=aL eC (gG d6)
def axG:=Oc 216 rfl [] GY d7 .pure (u2 uW)
def dQ(F:J (Int×Int))(p1:Int×Int):O Bool:=(uW F p1).bind λn0=>WF (KJ (0<=n0))
def TH:=Oc 135 rfl [axG] GY Arg.bool .pure (u2 dQ)
def Dj(F:Int×Int×Int)(p1:Int):O Int:=(fV F.1 p1).bind λn0=>WF n0
def axH:=Oc 321 rfl [Wd] V6 d7 .pure (u2 Dj)
def acY(s:GV):O T6:=bif KJ (s.2.2.2.1<s.2.2.2.2)then(az s.1 (M d5 (lR .u64 (M .u64 (M d5 (s.2.2.2.1+s.2.2.2.2))) 1))).bind λa0=>(Dj a0 s.2.1).bind λn1=>bif KJ (n1<0)then WF (.next (s.1,s.2.1,s.2.2.1,M d5 ((M d5 (lR .u64 (M .u64 (M d5 (s.2.2.2.1+s.2.2.2.2))) 1))+1),s.2.2.2.2))else WF (.next (s.1,s.2.1,s.2.2.1,s.2.2.2.1,M d5 (lR .u64 (M .u64 (M d5 (s.2.2.2.1+s.2.2.2.2))) 1)))else bif KJ (s.2.2.2.1<s.2.2.1)then(az s.1 s.2.2.2.1).bind λa2=>(Dj a2 s.2.1).bind λn3=>WF (.done (s.2.2.2.1,n3==0))else WF (.done (s.2.2.2.1,Md))
def dR(F:J (Int×Int×Int))(p1:Int)(_:Unit):O (Int×Bool):=au acY (F,p1,If (Y F),0,If (Y F))
def acD:=Oc 320 rfl [axH] (aL cV (aI (bY.one (Arg.fY 321 bY.nil)))) g8 .pure (u3 dR)
def lY(F:Field)(p1:Int):O (Int×Bool):=(dR F.am p1 ()).bind λa0=>WF a0
def aoV:=Oc 252 rfl [acD] cr g8 .pure (u2 lY)
def ly(F:Field)(p1:Int):O (Int×Int):=(dm F).bind λn0=>bif n0 !=0 then WF (0,n0)else(lY F p1).bind λa1=>bif !a1.2 then WF (0,6)else WF (a1.1,0)
def p9:=Oc 261 rfl [TG,aoV] cr lm .pure (u2 ly)
def dA(F:Field)(p1:Int):O ((Int×Int×Int)×Int):=(ly F p1).bind λa0=>bif a0.2 !=0 then WF ((0,0,0),a0.2)else(az F.am a0.1).bind λa1=>WF (a1,0)
def uc:=Oc 217 rfl [p9] cr (tG d8) .pure (u2 dA)
def de(F:Int×Int×Int)(p1:Int×Int×Int)(p2:Int×Int):O (Bool×Int):=(wK F p1 p2).bind λn0=>bif n0 !=0 then WF (Md,n0)else(qt F p1 p2).bind λn1=>WF (KJ (0<n1),0)
def O0:=Oc 218 rfl [ZE,aoT] t6 (Arg.cT Cz) .pure (u3 de)
def AJ(F:Field)(p1:Int×Int)(p2:Int)(p3:Int):O Bool:=(dA F p2).bind λa0=>(dA F p3).bind λa1=>(de a0.1 a1.1 p1).bind λa2=>WF a2.1
abbrev Wu:=aG aZ (aG d6 (aI gI))
def axI:=Oc 136 rfl [uc,O0] Wu Arg.bool .pure (λa=>AJ a.1 a.2.1 a.2.2.1 a.2.2.2)
def uX(s:aoo):O (Step aoo aoq):=bif KJ (s.2.2.2.1<s.2.2.1)then(az s.2.1 s.2.2.2.1).bind λa0=>(dQ s.1 a0.2).bind λb1=>bif !b1 then WF (.done (.done 8))else(AJ (Field.mk s.2.2.2.2.2.2.1) (s.2.2.2.2.1,s.2.2.2.2.2.1) a0.2.2 a0.2.1).bind λb2=>bif !b2 then WF (.done (.done 8))else WF (.next (s.1,s.2.1,s.2.2.1,M d5 (s.2.2.2.1+1),s.2.2.2.2))else WF (.done (.done 0))
def uY(s:aik):O aoq:=bif KJ (s.2.2.1<s.2.1)then(az s.1 s.2.2.1).bind λa0=>(nV s.2.2.2.2.2.2.2.2.2.2.2.2.2.2 a0.1).bind λb1=>bif !b1 then WF (.done 8)else WF (.next (s.1,s.2.1,M d5 (s.2.2.1+1),s.2.2.2))else(tN s.2.2.2.2.2.2.2.2.2.2.2.2.2.2).bind λl2=>bif(If (Y l2)) !=(If (Y s.2.2.2.2.2.2.2.1))then WF (.done 8)else au uX (l2,s.2.2.2.2.2.2.2.1,If (Y s.2.2.2.2.2.2.2.1),0,s.2.2.2)
def jA(F:bD):O Int:=(fL F.lc).bind λn0=>bif n0 !=0 then WF 8 else bif(If (Y F.bv)) !=(If (Y F.lc.jp.am))then WF 8 else au uY (F.lc.jp.am,If (Y F.lc.jp.am),0,F.lc.io.1,F.lc.io.2,F.lc.jp.am,F.lc.af.aO,F.lc.af.ii,F.lc.ae.ai.aC,F.lc.ae.ai.be,F.lc.ae.ai.bi,F.lc.ae.bv,F.lc.ae.ax,F.lc.kw,F.bv)
def NS:=Oc 67 rfl [Ro,axF,aoU,TH,axI] (gG eY) d7 .pure jA
def yk(F:Int):O Bool:=bif KJ ((-1)<=F)then WF (KJ (F<=65535))else WF Md
def axJ:=Oc 221 rfl [] gI Arg.bool .pure yk
def la(F:bz)(p1:Int):O Int:=bif KJ (0<=(M d5 (p1- (If (Y F.k9)))))then(az F.aX (M d5 (p1- (If (Y F.k9))))).bind λn0=>WF n0 else(az F.k9 p1).bind λn1=>WF n1
def aoX:=Oc 222 rfl [] (aG fq gI) d7 .pure (u2 la)
def lC(s:NP):O (Step NP aov):=bif KJ (s.2.2.1<s.2.1)then(az s.1 s.2.2.1).bind λn0=>(la (bz.mk s.2.2.2.1 s.2.2.2.2) (M d5 ((M d5 (2*s.2.2.1))+1))).bind λn1=>(la (bz.mk s.2.2.2.1 s.2.2.2.2) (M d5 ((M d5 (2*s.2.2.1))+2))).bind λn2=>bif n0 !=n1 then bif n0 !=n2 then WF (.done (.done (.done 8)))else bif KJ (n0<0)then bif KJ (0<=(if n2>n1 then n2 else n1))then WF (.done (.done (.done 8)))else WF (.next (s.1,s.2.1,M d5 (s.2.2.1+1),s.2.2.2))else WF (.next (s.1,s.2.1,M d5 (s.2.2.1+1),s.2.2.2))else bif KJ (n0<0)then bif KJ (0<=(if n2>n1 then n2 else n1))then WF (.done (.done (.done 8)))else WF (.next (s.1,s.2.1,M d5 (s.2.2.1+1),s.2.2.2))else WF (.next (s.1,s.2.1,M d5 (s.2.2.1+1),s.2.2.2))else WF (.done (.done (.done 0)))
def lD(s:XQ):O aov:=bif KJ (s.2.2.1<s.2.1)then(az s.1 s.2.2.1).bind λn0=>(yk n0).bind λb1=>bif !b1 then bif !(!(KJ (0<=s.2.2.1)))then WF (.done (.done 8))else au lC (s.2.2.2.2.1,If (Y s.2.2.2.2.1),0,s.2.2.2.1,s.2.2.2.2.1)else WF (.next (s.1,s.2.1,M d5 (s.2.2.1+1),s.2.2.2))else au lC (s.2.2.2.2.1,If (Y s.2.2.2.2.1),0,s.2.2.2.1,s.2.2.2.2.1)
def q9(s:XQ):O aip:=bif KJ (s.2.2.1<s.2.1)then(az s.1 s.2.2.1).bind λn0=>bif !(!(lr Md s.2.2.2.2.2 n0))then bif !(!(KJ (0<=s.2.2.1)))then WF (.done 8)else au lD (s.2.2.2.1,If (Y s.2.2.2.1),0,s.2.2.2.1,s.2.2.2.2.1,nO s.2.2.2.2.2 n0 (KJ (0<=n0)))else WF (.next (s.1,s.2.1,M d5 (s.2.2.1+1),s.2.2.2.1,s.2.2.2.2.1,nO s.2.2.2.2.2 n0 (KJ (0<=n0))))else au lD (s.2.2.2.1,If (Y s.2.2.2.1),0,s.2.2.2)
def xk(F:bz):O Int:=bif KJ ((If (Y F.aX))<1)then WF 8 else bif KJ (64<(If (Y F.aX)))then WF 8 else bif(If (Y F.k9)) !=(M d5 ((If (Y F.aX))-1))then WF 8 else au q9 (F.aX,If (Y F.aX),0,F.aX,F.k9,nO [] (-1) Md)
def axK:=Oe 137 rfl [axJ,aoX] [] [⟨219,kT,rfl⟩,⟨220,eb,rfl⟩,⟨291,Lc,rfl⟩,⟨223,Wa,rfl⟩,⟨292,gn,rfl⟩,⟨290,LA,rfl⟩] (gG fq) d7 .pure xk
def zM(F:Int)(p1:Int×Int×Int):O Bool:=WF (F==p1.1)
def axL:=Oc 142 rfl [] (aI (gG d8)) Arg.bool .pure (u2 zM)
def cS(s:(aK×(J Int)×Int×Int)):O (Step (aK×(J Int)×Int×Int) Bool):=bif KJ (s.2.2.2<s.2.2.1)then(az s.2.1 s.2.2.2).bind λn0=>(az s.1 s.2.2.2).bind λa1=>(zM n0 a1).bind λb2=>bif !b2 then WF (.done Md)else WF (.next (s.1,s.2.1,s.2.2.1,M d5 (s.2.2.2+1)))else WF (.done Sw)
def df(F:J Int)(p1:J (Int×Int×Int))(_:Unit):O Bool:=bif(If (Y F)) !=(If (Y p1))then WF Md else au cS (p1,F,If (Y F),0)
def acF:=Oc 141 rfl [axL] (aL ki (aL cV (bY.one (Arg.fY 142 bY.nil)))) Arg.bool .pure (u3 df)
def Bx(F:Field)(p1:Int×Int):O Int:=(dm F).bind λn0=>bif n0 !=0 then WF n0 else(dP p1).bind λn1=>WF n1
abbrev i9:=aG aZ (gG d6)
def axM:=Oc 247 rfl [TG,Wc] i9 d7 .pure (u2 Bx)
def zN(F:Int×Int×Int)(p1:Int):O Int:=(fV F.1 p1).bind λn0=>WF n0
def axN:=Oc 360 rfl [Wd] V6 d7 .pure (u2 zN)
def n12(s:GV):O T6:=bif KJ (s.2.2.2.1<s.2.2.2.2)then(az s.1 (M d5 (lR .u64 (M .u64 (M d5 (s.2.2.2.1+s.2.2.2.2))) 1))).bind λa0=>(zN a0 s.2.1).bind λn1=>bif KJ (n1<0)then WF (.next (s.1,s.2.1,s.2.2.1,M d5 ((M d5 (lR .u64 (M .u64 (M d5 (s.2.2.2.1+s.2.2.2.2))) 1))+1),s.2.2.2.2))else WF (.next (s.1,s.2.1,s.2.2.1,s.2.2.2.1,M d5 (lR .u64 (M .u64 (M d5 (s.2.2.2.1+s.2.2.2.2))) 1)))else bif KJ (s.2.2.2.1<s.2.2.1)then(az s.1 s.2.2.2.1).bind λa2=>(zN a2 s.2.1).bind λn3=>WF (.done (s.2.2.2.1,n3==0))else WF (.done (s.2.2.2.1,Md))
def dH(F:J (Int×Int×Int))(p1:Int)(_:Unit):O (Int×Bool):=au n12 (F,p1,If (Y F),0,If (Y F))
def acG:=Oc 320 rfl [axN] (aL cV (aI (bY.one (Arg.fY 360 bY.nil)))) g8 .pure (u3 dH)
def mW(F:Field)(p1:Int):O (Int×Bool):=(dH F.am p1 ()).bind λa0=>WF a0
def aoY:=Oc 318 rfl [acG] cr g8 .pure (u2 mW)
def rf(s:((J Int)×Int×Int×aK)):O (Step ((J Int)×Int×Int×aK) Bool):=bif KJ (s.2.2.1<s.2.1)then(az s.1 s.2.2.1).bind λn0=>(mW (Field.mk s.2.2.2) n0).bind λa1=>bif a1.2 then WF (.next (s.1,s.2.1,M d5 (s.2.2.1+1),s.2.2.2))else bif !(n0==(-1))then WF (.done (!(KJ (0<=s.2.2.1))))else WF (.next (s.1,s.2.1,M d5 (s.2.2.1+1),s.2.2.2))else WF (.done (!(KJ (0<=(-1)))))
def By(F:Field)(p1:J Int):O Bool:=au rf (p1,If (Y p1),0,F.am)
abbrev m7:=aG aZ (gL ki)
def axO:=Oe 248 rfl [aoY] [] [⟨220,eb,rfl⟩,⟨291,Lc,rfl⟩,⟨223,Wa,rfl⟩,⟨292,gn,rfl⟩,⟨317,an',rfl⟩] m7 Arg.bool .pure (u2 By)
def xU(F:Field)(p1:Int×Int)(p2:Int)(p3:Int):O Int:=bif KJ ((if p3<p2 then p3 else p2)<0)then WF (if p3>p2 then p3 else p2)else(mW F p2).bind λa0=>(mW F p3).bind λa1=>(az F.am a0.1).bind λa2=>(az F.am a1.1).bind λa3=>(de a2 a3 p1).bind λa4=>bif a4.1 then WF p2 else WF p3
def axP:=Oc 249 rfl [aoY,O0] Wu d7 .pure (λa=>xU a.1 a.2.1 a.2.2.1 a.2.2.2)
def ac1(s:Zy):O (Step Zy (bz×Int)):=bif KJ (0<=s.1)then(la (bz.mk s.2.2.2.2.1 s.2.2.2.2.2) (M d5 ((M d5 (2*s.1))+1))).bind λn0=>(la (bz.mk s.2.2.2.2.1 s.2.2.2.2.2) (M d5 ((M d5 (2*s.1))+2))).bind λn1=>(xU (Field.mk s.2.1) (s.2.2.1,s.2.2.2.1) n0 n1).bind λn2=>(az s.2.2.2.2.2 s.1).bind λ_=>WF (.next (M d5 (s.1-1),s.2.1,s.2.2.1,s.2.2.2.1,s.2.2.2.2.1,bu s.2.2.2.2.2 s.1 n2))else WF (.done (bz.mk s.2.2.2.2.1 s.2.2.2.2.2,0))
def oi(s:Zy):O (Step Zy aoF):=bif KJ (0<=s.1)then(la (bz.mk s.2.2.2.2.1 s.2.2.2.2.2) (M d5 ((M d5 (2*s.1))+1))).bind λn0=>(la (bz.mk s.2.2.2.2.1 s.2.2.2.2.2) (M d5 ((M d5 (2*s.1))+2))).bind λn1=>(xU (Field.mk s.2.1) (s.2.2.1,s.2.2.2.1) n0 n1).bind λn2=>(az s.2.2.2.2.2 s.1).bind λ_=>WF (.next (M d5 (s.1-1),s.2.1,s.2.2.1,s.2.2.2.1,s.2.2.2.2.1,bu s.2.2.2.2.2 s.1 n2))else WF (.done (.done (bz.mk s.2.2.2.2.1 s.2.2.2.2.2,0)))
def rh(c0:Int)(c1:(J Int))(s:ait):O aoF:=bif KJ (s.2.2.1<s.2.1)then(az s.1 s.2.2.1).bind λn0=>bif !(!(lr Md s.2.2.2.2.2.2 n0))then bif !(!(KJ (0<=s.2.2.1)))then WF (.done (bz.mk [] [],14))else bif c0 !=0 then WF (.done (bz.mk [] [],c0))else(bL c1).bind λl1=>bif(M d5 ((If (Y c1))-1))==(M d5 ((If (Y c1))-1))then(rF (M d5 ((If (Y c1))-1)) (0:Int)).bind λl2=>au oi (M d5 ((If (Y l2))-1),s.2.2.2.1,s.2.2.2.2.1,s.2.2.2.2.2.1,l1,l2)else Pc else WF (.next (s.1,s.2.1,M d5 (s.2.2.1+1),s.2.2.2.1,s.2.2.2.2.1,s.2.2.2.2.2.1,nO s.2.2.2.2.2.2 n0 (KJ (0<=n0))))else bif c0 !=0 then WF (.done (bz.mk [] [],c0))else(bL c1).bind λl3=>bif(M d5 ((If (Y c1))-1))==(M d5 ((If (Y c1))-1))then(rF (M d5 ((If (Y c1))-1)) (0:Int)).bind λl4=>au oi (M d5 ((If (Y l4))-1),s.2.2.2.1,s.2.2.2.2.1,s.2.2.2.2.2.1,l3,l4)else Pc
def rV(F:Field)(p1:Int×Int)(p2:J Int):O (bz×Int):=(Bx F p1).bind λn0=>bif n0 !=0 then bif n0 !=0 then WF (bz.mk [] [],n0)else(bL p2).bind λl1=>bif(M d5 ((If (Y p2))-1))==(M d5 ((If (Y p2))-1))then(rF (M d5 ((If (Y p2))-1)) (0:Int)).bind λl2=>au ac1 (M d5 ((If (Y l2))-1),F.am,p1.1,p1.2,l1,l2)else Pc else bif KJ ((If (Y p2))<1)then WF (bz.mk [] [],2)else bif KJ (64<(If (Y p2)))then WF (bz.mk [] [],2)else(By F p2).bind λb3=>bif !b3 then WF (bz.mk [] [],6)else au (rh n0 p2) (p2,If (Y p2),0,F.am,p1.1,p1.2,nO [] (-1) Md)
abbrev Ya:=aG aZ (aG d6 (gL ki))
def aoZ:=Oe 157 rfl [axM,axO,mB,aoX,axP] [] [⟨219,kT,rfl⟩,⟨220,eb,rfl⟩,⟨291,Lc,rfl⟩,⟨223,Wa,rfl⟩,⟨292,gn,rfl⟩,⟨290,LA,rfl⟩] Ya (tG fq) .eT (u3 rV)
def rnX(F:Int)(p1:bz):O Int:=bif KJ (F<(If (Y p1.k9)))then(az p1.k9 F).bind λn0=>WF n0 else(az p1.aX (M d5 (F- (If (Y p1.k9))))).bind λn1=>WF n1
def axQ:=Oc 158 rfl [] (aI (bY.one (Arg.ref fq))) d7 .pure (u2 rnX)
def qu(s:((J Int)×Int×Int×(J Int)×(J Int)×bS)):O (Step ((J Int)×Int×Int×(J Int)×(J Int)×bS) (bz×bS)):=match s with |(a,b,d,e,f,g)=>bif KJ (d<b)then(az a d).bind λn0=>bif KJ ((M d5 ((M d5 (2*d))+1))<(If (Y f)))then(az f (M d5 ((M d5 (2*d))+1))).bind λn1=>bif(Y g)==(Y g)then bif KJ ((M d5 ((M d5 (2*d))+2))<(If (Y f)))then(az f (M d5 ((M d5 (2*d))+2))).bind λn2=>bif(Y g)==(Y g)then bif KJ (0<=n1)then bif KJ (0<=n2)then(aQ g [(M d5 ((M d5 (n1+n2))-n0),n0)]).bind λl3=>WF (.next (a,b,M d5 (d+1),e,f,l3))else WF (.next (a,b,M d5 (d+1),(e,f,g)))else WF (.next (a,b,M d5 (d+1),(e,f,g)))else Pc else(az e (M d5 ((M d5 ((M d5 (2*d))+2)) - (If (Y f))))).bind λn4=>bif(Y g)==(Y g)then bif KJ (0<=n1)then bif KJ (0<=n4)then(aQ g [(M d5 ((M d5 (n1+n4))-n0),n0)]).bind λl5=>WF (.next (a,b,M d5 (d+1),e,f,l5))else WF (.next (a,b,M d5 (d+1),(e,f,g)))else WF (.next (a,b,M d5 (d+1),(e,f,g)))else Pc else Pc else(az e (M d5 ((M d5 ((M d5 (2*d))+1)) - (If (Y f))))).bind λn6=>bif(Y g)==(Y g)then bif KJ ((M d5 ((M d5 (2*d))+2))<(If (Y f)))then(az f (M d5 ((M d5 (2*d))+2))).bind λn7=>bif(Y g)==(Y g)then bif KJ (0<=n6)then bif KJ (0<=n7)then(aQ g [(M d5 ((M d5 (n6+n7))-n0),n0)]).bind λl8=>WF (.next (a,b,M d5 (d+1),e,f,l8))else WF (.next (a,b,M d5 (d+1),(e,f,g)))else WF (.next (a,b,M d5 (d+1),(e,f,g)))else Pc else(az e (M d5 ((M d5 ((M d5 (2*d))+2)) - (If (Y f))))).bind λn9=>bif(Y g)==(Y g)then bif KJ (0<=n6)then bif KJ (0<=n9)then(aQ g [(M d5 ((M d5 (n6+n9))-n0),n0)]).bind λGZ=>WF (.next (a,b,M d5 (d+1),e,f,GZ))else WF (.next (a,b,M d5 (d+1),(e,f,g)))else WF (.next (a,b,M d5 (d+1),(e,f,g)))else Pc else Pc else WF (.done (bz.mk e f,g))
def qv(F:Field)(p1:Int×Int)(p2:J Int):O (bz×bS):=(rV F p1 p2).bind λa0=>au qu (a0.1.k9,If (Y a0.1.k9),0,a0.1.aX,a0.1.k9,[])
def ZG:=Oe 79 rfl [aoZ,axQ] [] [⟨158,an0,rfl⟩] Ya (Arg.cT (aG fq (gL eC))) .eT (u3 qv)
def gD(s:((J Int)×(J Int)×Int×Int)):O (Step ((J Int)×(J Int)×Int×Int) Bool):=bif KJ (s.2.2.2<s.2.2.1)then(az s.1 s.2.2.2).bind λn0=>(az s.2.1 s.2.2.2).bind λn1=>bif n0 !=n1 then WF (.done Md)else WF (.next (s.1,s.2.1,s.2.2.1,M d5 (s.2.2.2+1)))else WF (.done Sw)
def jh(F:J Int)(p1:J Int):O Bool:=bif(If (Y F)) !=(If (Y p1))then WF Md else au gD (F,p1,If (Y F),0)
abbrev ov:=aL ki (gL ki)
def ao0:=Oc 143 rfl [] ov Arg.bool .pure (u2 jh)
def aca(F:Int×Int×Int)(p1:J (Int×Int)):O Bool:=(dQ p1 F.2).bind λb0=>WF (!b0)
abbrev i6:=bY.one (Arg.ref (bM.sl eC))
def axT:=Oc 226 rfl [TH] (aG d8 i6) Arg.bool .pure (u2 aca)
def rnC(s:Fz):O (Step Fz Int):=bif KJ (s.2.2.2<s.2.2.1)then(az s.1 s.2.2.2).bind λa0=>(aca a0 s.2.1).bind λb1=>bif b1 then WF (.done s.2.2.2)else WF (.next (s.1,s.2.1,s.2.2.1,M d5 (s.2.2.2+1)))else WF (.done (-1))
def acb(F:J (Int×Int×Int))(p1:bS):O Int:=au rnC (F,p1,If (Y F),0)
abbrev qd9:=aL cV (bY.one (Arg.fY 226 i6))
def acH:=Oe 304 rfl [axT,TH] [] [⟨226,an7,rfl⟩] qd9 d7 .pure (u2 acb)
def hkd(F:J (Int×Int×Int))(p1:bS):O Bool:=(acb F p1).bind λn0=>WF (KJ (0<=n0))
def acI:=Oc 227 rfl [acH] qd9 Arg.bool .pure (u2 hkd)
def Ff(F:aE)(p1:J (Int×Int)):O Bool:=bif(If (Y p1))==(If (Y F.af.ii))then(hkd F.af.ii p1).bind λb0=>WF (!b0)else WF Md
abbrev ox:=aG bF (gL eC)
def axU:=Oc 144 rfl [acI] ox Arg.bool .pure (u2 Ff)
def oj(F:Int):O Bool:=WF (KJ (F<0))
def ao1:=Oc 139 rfl [] gI Arg.bool .pure oj
def bG(c0:(J Int))(s:PR):O aoJ:=bif KJ (s.2.1<(If (Y s.2.2)))then(az s.2.2 s.2.1).bind λn0=>(oj n0).bind λb1=>bif !b1 then(az s.2.2 s.1).bind λ_=>WF (.next (M d5 (s.1+1),M d5 (s.2.1+1),bu s.2.2 s.1 n0))else WF (.next (s.1,M d5 (s.2.1+1),s.2.2))else bif((KJ (0<=s.1))&&(KJ (s.1<=(If (Y s.2.2)))))&&(KJ ((If (Y s.2.2))<=(If (Y s.2.2))))then bif Nat.beq (((If (Y s.2.2)).toNat)-s.1.toNat) 0 then(gQ s.2.2 0 s.1).bind λ_=>bif(Y s.2.2)==(Y c0)then WF (.done (.done (s.1.toNat,Y s.2.2,s.2.2)))else Pc else bif(NE ((0+s.1.toNat)+(((If (Y s.2.2)).toNat)-s.1.toNat)) (Y s.2.2))&&(!Md)then(gQ (iL s.2.2 (0+s.1.toNat) (IR (((If (Y s.2.2)).toNat)-s.1.toNat) 0)) 0 s.1).bind λ_=>bif((iL s.2.2 (0+s.1.toNat) (IR (((If (Y s.2.2)).toNat)-s.1.toNat) 0)).length)==(Y c0)then WF (.done (.done (s.1.toNat,(iL s.2.2 (0+s.1.toNat) (IR (((If (Y s.2.2)).toNat)-s.1.toNat) 0)).length,iL s.2.2 (0+s.1.toNat) (IR (((If (Y s.2.2)).toNat)-s.1.toNat) 0))))else Pc else Pc else Pc
def bH(c0:(J Int))(s:PR):O jt:=bif KJ (s.2.1<s.1)then(az s.2.2 s.2.1).bind λn0=>(oj n0).bind λb1=>bif b1 then bif(Y s.2.2)==(Y c0)then bif s.2.1==(-1)then bif(Y s.2.2)==(Y c0)then WF (.done (Y s.2.2,Y s.2.2,s.2.2))else Pc else au (bG c0) (s.2.1,M d5 (s.2.1+1),s.2.2)else Pc else WF (.next (s.1,M d5 (s.2.1+1),s.2.2))else bif(Y s.2.2)==(Y c0)then bif(Y s.2.2)==(Y c0)then WF (.done (Y s.2.2,Y s.2.2,s.2.2))else Pc else Pc
def cW(a:(J Int)):O (Nat×Nat×(J Int)):=au (bH a) (If (Y a),0,a)
def aks:eZ:=⟨[.l [.i d5]],[.own 0 Md,.fY 139 [] []],[.arr [.i d5] []],[.n,.n,.l [.i d5]],.pre 0 0 0 Md,[.arr [.i d5] []],λa=>cW a⟩
theorem ajT:jg nq 138 aks:=jg.of rfl (wd:=Sw) (cx:=(xN k7 [(139,ao1.c)] [] [(223,Wa)] [])) (sL.make ⟨ao1.ok,trivial⟩ trivial ⟨rfl,trivial⟩) (λa=>by kernel_rfl)
def gZ(F:bB):O Int:=(fL F.lc).bind λn0=>bif n0 !=0 then WF 8 else(xk F.ls).bind λn1=>bif n1 !=0 then WF 8 else bif(uC d5 (If (Y F.ls.aX)) (M d5 ((If (Y F.ls.aX))-1))) !=0 then WF 8 else(bL F.ls.aX).bind λl2=>(cW l2).bind λa3=>(FZ Q4 a3.1 a3.2.2).bind λl4=>bif(Y l4)==(Y a3.2.2)then(df (l4.take a3.1) F.lc.jp.am ()).bind λb5=>bif !b5 then WF 8 else(qv F.lc.jp F.lc.io F.ls.aX).bind λa6=>(jh a6.1.k9 F.ls.k9).bind λb7=>bif !b7 then WF 8 else(Ff F.lc a6.2).bind λrnO=>bif !rnO then WF 8 else WF 0 else Pc
def G4:=Oe 68 rfl [Ro,axK,mB,acF,ZG,ao0,axU] [⟨138,_,ajT⟩] [⟨140,.TA VI,rfl⟩] (gG dI) d7 .pure gZ
def Dk(F:Field)(p1:Int×Int):O Int:=(dm F).bind λn0=>bif n0 !=0 then WF n0 else(dP p1).bind λn1=>WF n1
def axV:=Oc 250 rfl [TG,Wc] i9 d7 .pure (u2 Dk)
def uZ(s:aot):O (Step aot aox):=match s with |(a,b,d,e,f,g,h,i,j,k,l,m,n,o,q,r,t,u,v)=>bif KJ (0<(If a))then(az (n.take a) (M d5 ((If a)-1))).bind λn0=>(az h n0).bind λa1=>(de a1 (o,q,r) (i,j)).bind λa2=>bif a2.1 then bif KJ (0<(If a))then(az (n.take a) (M d5 ((If a)-1))).bind λn3=>(az m n3).bind λa4=>(aQ (bu m n3 (a4.1,a4.2.1,d)) [(t,u,v)]).bind λl5=>bif NE (a+[d].length) b then bif(NE (a+[d].length) (Y n))&&(!Md)then WF (.done (.next (a+[d].length,b,e,f,M d5 (g+1),h,i,j,k,l,l5,iL n a [d])))else Pc else(aQ (n.take a) [d]).bind λl6=>bif NE a (Y n)then WF (.done (.next (Y l6,Y l6,e,f,M d5 (g+1),h,i,j,k,l,l5,l6)))else Pc else(aQ m [(t,u,v)]).bind λl7=>bif NE (a+[d].length) b then bif(NE (a+[d].length) (Y n))&&(!Md)then WF (.done (.next (a+[d].length,b,e,f,M d5 (g+1),h,i,j,k,d,l7,iL n a [d])))else Pc else(aQ (n.take a) [d]).bind λl8=>bif NE a (Y n)then WF (.done (.next (Y l8,Y l8,e,f,M d5 (g+1),h,i,j,k,d,l7,l8)))else Pc else bif(KJ (0<=(M d5 ((If a)-1))))&&(KJ ((M d5 ((If a)-1))<=(If b)))then WF (.next ((M d5 ((If a)-1)).toNat,b,d,e,f,g,h,i,j,k,l,m,n,o,q,r,t,n0,v))else Pc else bif KJ (0<(If a))then(az (n.take a) (M d5 ((If a)-1))).bind λn9=>(az m n9).bind λwM=>(aQ (bu m n9 (wM.1,wM.2.1,d)) [(t,u,v)]).bind λUu=>bif NE (a+[d].length) b then bif(NE (a+[d].length) (Y n))&&(!Md)then WF (.done (.next (a+[d].length,b,e,f,M d5 (g+1),h,i,j,k,l,Uu,iL n a [d])))else Pc else(aQ (n.take a) [d]).bind λG5=>bif NE a (Y n)then WF (.done (.next (Y G5,Y G5,e,f,M d5 (g+1),h,i,j,k,l,Uu,G5)))else Pc else(aQ m [(t,u,v)]).bind λl13=>bif NE (a+[d].length) b then bif(NE (a+[d].length) (Y n))&&(!Md)then WF (.done (.next (a+[d].length,b,e,f,M d5 (g+1),h,i,j,k,d,l13,iL n a [d])))else Pc else(aQ (n.take a) [d]).bind λTy=>bif NE a (Y n)then WF (.done (.next (Y Ty,Y Ty,e,f,M d5 (g+1),h,i,j,k,d,l13,Ty)))else Pc
def rj(s:aiq):O aox:=bif KJ (s.2.2.2.2.1<s.2.2.2.1)then(az s.2.2.1 s.2.2.2.2.1).bind λa0=>au uZ (s.1,s.2.1,s.2.2.2.2.1,s.2.2.1,s.2.2.2.1,s.2.2.2.2.1,s.2.2.2.2.2.1,s.2.2.2.2.2.2.1,s.2.2.2.2.2.2.2.1,s.2.2.2.2.2.2.2.2.1,s.2.2.2.2.2.2.2.2.2.1,s.2.2.2.2.2.2.2.2.2.2.1,s.2.2.2.2.2.2.2.2.2.2.2,a0.1,a0.2.1,a0.2.2,a0.1,-1,-1)else WF (.done (Tree.mk s.2.2.2.2.2.2.2.2.2.1 s.2.2.2.2.2.2.2.2.2.2.1,0))
def tO(F:Field)(p1:Int×Int):O (Tree×Int):=(Dk F p1).bind λn0=>bif n0 !=0 then WF (Tree.mk 0 [],n0)else au rj (0,0,F.am,If (Y F.am),0,F.am,p1.1,p1.2,0,-1,[],[])
def Qg:=Oc 159 rfl [axV,O0] i9 (tG sM) .eT (u2 tO)
def lZ(s:aoD):O (Step aoD kN):=match s with |(a,b,d,e,f,g,h,i,j,k,l)=>bif KJ (h<2)then bif h==0 then bif KJ (0<=f)then(az l f).bind λ_=>WF (.next (a,b,d,e,f,g,M d5 (h+1),i,j,k,bu l f a))else WF (.next (a,b,d,e,f,g,M d5 (h+1),(i,j,k,l)))else bif h==1 then bif KJ (0<=g)then(az l g).bind λ_=>WF (.next (a,b,d,e,f,g,M d5 (h+1),i,j,k,bu l g a))else WF (.next (a,b,d,e,f,g,M d5 (h+1),(i,j,k,l)))else Pc else WF (.done (.next (b,d,M d5 (e+1),(i,j,k,l))))
def om(s:aoE):O (Step aoE kN):=bif KJ (s.2.2.1<s.2.1)then(az s.1 s.2.2.1).bind λa0=>(az s.2.2.2.2.2.2.1 s.2.2.1).bind λn1=>bif KJ (0<=n1)then(az s.2.2.2.2.2.2.1 s.2.2.1).bind λn2=>(az s.2.2.2.2.2.1 n2).bind λa3=>(aQ s.2.2.2.2.2.2.2 [(a0.1,a3.1)]).bind λl4=>WF (.next (s.1,s.2.1,M d5 (s.2.2.1+1),s.2.2.2.1,s.2.2.2.2.1,s.2.2.2.2.2.1,s.2.2.2.2.2.2.1,l4))else WF (.next (s.1,s.2.1,M d5 (s.2.2.1+1),s.2.2.2))else WF (.done (.done (.done (Tree.mk s.2.2.2.2.1 s.2.2.2.2.2.1,s.2.2.2.2.2.2.2))))
def oo(s:ain):O kN:=bif KJ (s.2.2.1<s.2.1)then(az s.1 s.2.2.1).bind λa0=>au lZ (s.2.2.1,s.1,s.2.1,s.2.2.1,a0.2.1,a0.2.2,0,s.2.2.2)else au om (s.2.2.2.2.2.1,If (Y s.2.2.2.2.2.1),0,s.2.2.2.1,s.2.2.2.2.1,s.2.2.2.2.2.1,s.2.2.2.2.2.2,[])
def oq(s:(Int×Int×Int×Int×aK×(J Int))):O aim:=bif KJ (s.2.1<s.1)then(az s.2.2.2.2.2 s.2.1).bind λ_=>WF (.next (s.1,M d5 (s.2.1+1),s.2.2.1,s.2.2.2.1,s.2.2.2.2.1,bu s.2.2.2.2.2 s.2.1 (-1)))else au oo (s.2.2.2.2.1,If (Y s.2.2.2.2.1),0,s.2.2)
def tQ(F:Field)(p1:Int×Int):O (Tree×bS):=(tO F p1).bind λa0=>bif(If (Y a0.1.pp))==(If (Y a0.1.pp))then(rF (If (Y a0.1.pp)) (0:Int)).bind λl1=>au oq (If (Y l1),0,0,a0.1.lw,a0.1.pp,l1)else Pc
def ZJ:=Oc 81 rfl [Qg] i9 (Arg.cT (aG sM (gL eC))) .eT (u2 tQ)
def rnD(s:PU):O aoK:=bif KJ (s.2.2.2<s.2.2.1)then(az s.1 s.2.2.2).bind λa0=>(az s.2.1 s.2.2.2).bind λa1=>bif !((a0.1==a1.1)&&((a0.2.1==a1.2.1)&&(a0.2.2==a1.2.2)))then WF (.done Md)else WF (.next (s.1,s.2.1,s.2.2.1,M d5 (s.2.2.2+1)))else WF (.done Sw)
def u0(F:J (Int×Int×Int))(p1:J (Int×Int×Int)):O Bool:=bif(If (Y F)) !=(If (Y p1))then WF Md else au rnD (F,p1,If (Y F),0)
def axX:=Oc 145 rfl [] (aL cV (gL cV)) Arg.bool .pure (u2 u0)
def Bz(F:Int×Int×Int)(p1:J (Int×Int)):O Bool:=(dQ p1 F.2).bind λb0=>WF (!b0)
def axY:=Oc 228 rfl [TH] (aG d8 i6) Arg.bool .pure (u2 Bz)
def cm(s:Fz):O (Step Fz Int):=bif KJ (s.2.2.2<s.2.2.1)then(az s.1 s.2.2.2).bind λa0=>(Bz a0 s.2.1).bind λb1=>bif b1 then WF (.done s.2.2.2)else WF (.next (s.1,s.2.1,s.2.2.1,M d5 (s.2.2.2+1)))else WF (.done (-1))
def gE(F:J (Int×Int×Int))(p1:bS):O Int:=au cm (F,p1,If (Y F),0)
abbrev qd8:=aL cV (bY.one (Arg.fY 228 i6))
def acJ:=Oe 304 rfl [axY,TH] [] [⟨228,an8,rfl⟩] qd8 d7 .pure (u2 gE)
def fE(F:J (Int×Int×Int))(p1:bS):O Bool:=(gE F p1).bind λn0=>WF (KJ (0<=n0))
def acK:=Oc 227 rfl [acJ] qd8 Arg.bool .pure (u2 fE)
def tT(F:aE)(p1:J (Int×Int)):O Bool:=bif(If (Y p1))==(If (Y F.af.ii))then(fE F.af.ii p1).bind λb0=>WF (!b0)else WF Md
def axZ:=Oc 146 rfl [acK] ox Arg.bool .pure (u2 tT)
def hI(F:bq):O Int:=(fL F.lc).bind λn0=>bif n0 !=0 then WF 8 else(tQ F.lc.jp F.lc.io).bind λa1=>bif a1.1.lw !=F.ut.lw then WF 8 else(u0 a1.1.pp F.ut.pp).bind λb2=>bif !b2 then WF 8 else(tT F.lc a1.2).bind λb3=>bif !b3 then WF 8 else WF 0
def NT:=Oc 69 rfl [Ro,ZJ,axX,axZ] (gG cP) d7 .pure hI
def jB(c0:(TF->(O Ns)))(c1:TF)(s:aoA):O (Step aoA aou):=match s with |(a,b,d,e,f,g,h,i,j,k,l,m)=>bif KJ (d<b)then(az e d).bind λa0=>bif a0.1 !=i then bif KJ (a<0)then Pc else bif(uC d5 (lR d5 a0.1 a) 1)==0 then(aQ l [a0]).bind λl1=>bif(uC d5 (lR d5 a0.1 a) 1)==0 then WF (.next (a,b,M d5 (d+1),e,f,g,h,i,j,k,l1,m))else bif(uC d5 (lR d5 a0.1 a) 1)==1 then Pc else Pc else bif(uC d5 (lR d5 a0.1 a) 1)==1 then(aQ m [a0]).bind λl2=>bif(uC d5 (lR d5 a0.1 a) 1)==0 then Pc else bif(uC d5 (lR d5 a0.1 a) 1)==1 then WF (.next (a,b,M d5 (d+1),e,f,g,h,i,j,k,l,l2))else Pc else Pc else WF (.next (a,b,M d5 (d+1),(e,f,g,h,i,j,k,l,m)))else(c0 (g,h,i,M d5 (a+1),l,f)).bind λa3=>(c0 (g,h,i,M d5 (a+1),m,a3.2)).bind λa4=>bif(Y e)==(Y c1.2.2.2.2.1)then WF (.done (.done (e,a4.2)))else Pc
def mX(c0:(TF->(O Ns)))(c1:TF)(s:aio):O aou:=match s with |(a,b,d,e,f,g,h,i,j,k,l,m,n,o)=>bif KJ (h<g)then(az ((i.drop d).take e) h).bind λa0=>(de a0 (m,n,o) (k,l)).bind λa1=>bif a1.1 then WF (.next (a,b,d,e,f,g,M d5 (h+1),i,j,k,l,a0))else WF (.next (a,b,d,e,f,g,M d5 (h+1),(i,j,k,l,m,n,o)))else au (jB c0 c1) (b,If (Y i),0,i,nO j m a,k,l,m,n,o,[],[])
def rM(self:TF->O Ns)(a:TF):O Ns:=bif(If (Y a.2.2.2.2.1))==0 then bif(Y a.2.2.2.2.1)==(Y a.2.2.2.2.1)then WF a.2.2.2.2 else Pc else(az a.2.2.2.2.1 0).bind λa0=>bif((KJ (0<=1))&&(KJ (1<=(If (Y a.2.2.2.2.1)))))&&(KJ ((If (Y a.2.2.2.2.1))<=(If (Y a.2.2.2.2.1))))then au (mX self a) (a.2.2.1,a.2.2.2.1,1,((If (Y a.2.2.2.2.1)).toNat)-1,Y a.2.2.2.2.1-1,If (((If (Y a.2.2.2.2.1)).toNat)-1),0,a.2.2.2.2.1,a.2.2.2.2.2,a.1,a.2.1,a0)else Pc
def kO:Nat->TF->O Ns |0,_=>Pc |n+1,a=>rM (kO n) a
def iM(a:TF):O Ns:=kO 1000000 a
def acL:eZ:=⟨[.i,.i,.i,.i,.l [.i d5,.i d5,.i d5],.l [.i d5,(.i d5)]],[.own 0 Md,.agg [.int d5 0,.int d5 0],.int d5 0,.int d5 0,.mp 1],[.arr [.i d5,.i d5,.i d5] [],.nq (.i d5) []],[.l [.i d5,.i d5,.i d5],.l [.i d5,(.i d5)]],.cT [],[.arr [.i d5,.i d5,.i d5] [],.nq (.i d5) []],λa=>iM a⟩
theorem pas: ∀n,jg nq 160 ⟨[.i,.i,.i,.i,.l [.i d5,.i d5,.i d5],.l [.i d5,(.i d5)]],[.own 0 Md,.agg [.int d5 0,.int d5 0],.int d5 0,.int d5 0,.mp 1],[.arr [.i d5,.i d5,.i d5] [],.nq (.i d5) []],[.l [.i d5,.i d5,.i d5],.l [.i d5,(.i d5)]],.cT [],[.arr [.i d5,.i d5,.i d5] [],.nq (.i d5) []],λa=>kO n a⟩
 |0=>jg.zero (λ_=>rfl)
 |n+1=>jg.of rfl (wd:=Md) (cx:=(xN k7 [(218,O0.c)] [(160,⟨[.i,.i,.i,.i,.l [.i d5,.i d5,.i d5],.l [.i d5,(.i d5)]],[.own 0 Md,.agg [.int d5 0,.int d5 0],.int d5 0,.int d5 0,.mp 1],[.arr [.i d5,.i d5,.i d5] [],.nq (.i d5) []],[.l [.i d5,.i d5,.i d5],.l [.i d5,(.i d5)]],.cT [],[.arr [.i d5,.i d5,.i d5] [],.nq (.i d5) []],λa=>kO n a⟩)] [] [])) (sL.make ⟨O0.ok,trivial⟩ ⟨(pas n),trivial⟩ trivial) (λa=>by kernel_rfl)
theorem ajU:jg nq 160 acL:=pas 1000000
def jC(s:aoz):O (Step aoz aoy):=match s with |(a,b,d,e,f,g,h,i,j,k,l,m)=>bif KJ (e<d)then(az b e).bind λa0=>bif a0.1 !=i then bif KJ (a<0)then Pc else bif(uC d5 (lR d5 a0.1 a) 1)==0 then(aQ l [a0]).bind λl1=>bif(uC d5 (lR d5 a0.1 a) 1)==0 then WF (.next (a,b,d,M d5 (e+1),f,g,h,i,j,k,l1,m))else bif(uC d5 (lR d5 a0.1 a) 1)==1 then Pc else Pc else bif(uC d5 (lR d5 a0.1 a) 1)==1 then(aQ m [a0]).bind λl2=>bif(uC d5 (lR d5 a0.1 a) 1)==0 then Pc else bif(uC d5 (lR d5 a0.1 a) 1)==1 then WF (.next (a,b,d,M d5 (e+1),f,g,h,i,j,k,l,l2))else Pc else Pc else WF (.next (a,b,d,M d5 (e+1),(f,g,h,i,j,k,l,m)))else(iM (g,h,i,M d5 (a+1),l,f)).bind λa3=>(iM (g,h,i,M d5 (a+1),m,a3.2)).bind λa4=>WF (.done (.done a4.2))
def mY(s:air):O aoy:=match s with |(a,b,d,e,f,g,h,i,j,k,l,m)=>bif KJ (g<f)then(az e g).bind λa0=>(de a0 (k,l,m) (i,j)).bind λa1=>bif a1.1 then WF (.next (a,b,d,e,f,M d5 (g+1),h,i,j,a0))else WF (.next (a,b,d,e,f,M d5 (g+1),(h,i,j,k,l,m)))else au jC (d,a,If (Y a),0,nO h k b,i,j,k,l,m,[],[])
def rN(_:Z5->O bS)(a:Z5):O bS:=bif(If (Y a.1))==0 then WF a.2.2.2.2.2 else(az a.1 0).bind λa0=>(gQ a.1 1 (If (Y a.1))).bind λl1=>au mY (a.1,a.2.2.2.1,a.2.2.2.2.1,l1,If (Y l1),0,a.2.2.2.2.2,a.2.1,a.2.2.1,a0)
def kQ:Nat->Z5->O bS |0,_=>Pc |n+1,a=>rN (kQ n) a
def u5(a:Z5):O bS:=kQ 1000000 a
def aku:eZ:=⟨[.l [.i d5,.i d5,.i d5],.i,.i,.i,.i,.l [.i d5,(.i d5)]],[.sl [.i d5,.i d5,.i d5] [],.agg [.int d5 0,.int d5 0],.int d5 0,.int d5 0,.mp 0],[.nq (.i d5) []],[.l [.i d5,(.i d5)]],.cT [],[.nq (.i d5) []],λa=>u5 a⟩
theorem hs2: ∀n,jg nq 160 ⟨[.l [.i d5,.i d5,.i d5],.i,.i,.i,.i,.l [.i d5,(.i d5)]],[.sl [.i d5,.i d5,.i d5] [],.agg [.int d5 0,.int d5 0],.int d5 0,.int d5 0,.mp 0],[.nq (.i d5) []],[.l [.i d5,(.i d5)]],.cT [],[.nq (.i d5) []],λa=>kQ n a⟩
 |0=>jg.zero (λ_=>rfl)
 |n+1=>jg.of rfl (wd:=Sw) (cx:=(xN k7 [(218,O0.c)] [(160,⟨[.l [.i d5,.i d5,.i d5],.i,.i,.i,.i,.l [.i d5,(.i d5)]],[.sl [.i d5,.i d5,.i d5] [],.agg [.int d5 0,.int d5 0],.int d5 0,.int d5 0,.mp 0],[.nq (.i d5) []],[.l [.i d5,(.i d5)]],.cT [],[.nq (.i d5) []],λa=>kQ n a⟩),(160,acL)] [] [])) (sL.make ⟨O0.ok,trivial⟩ ⟨(hs2 n),ajU,trivial⟩ trivial) (λa=>by kernel_rfl)
theorem qe7:jg nq 160 aku:=hs2 1000000
def u6(s:aoI):O (Step aoI ((J Int)×bS)):=bif KJ (s.2.2.1<s.2.1)then(az s.1 s.2.2.1).bind λa0=>(aQ s.2.2.2.2.1 [lr 0 s.2.2.2.1 a0.1]).bind λl1=>bif KJ (0<=(lr 0 s.2.2.2.1 a0.1))then(aQ s.2.2.2.2.2 [(a0.1,lr 0 s.2.2.2.1 a0.1)]).bind λl2=>WF (.next (s.1,s.2.1,M d5 (s.2.2.1+1),s.2.2.2.1,l1,l2))else WF (.next (s.1,s.2.1,M d5 (s.2.2.1+1),s.2.2.2.1,l1,s.2.2.2.2.2))else WF (.done s.2.2.2.2)
def tU(F:Field)(p1:Int×Int):O ((J Int)×bS):=(u5 (F.am,p1.1,p1.2,-1,0,[])).bind λl0=>au u6 (F.am,If (Y F.am),0,l0,[],[])
def l9:=Oe 83 rfl [] [⟨160,_,ajU⟩,⟨160,_,qe7⟩] [] i9 (Arg.cT (aL ki (gL eC))) .eT (u2 tU)
def pB(s:(bS×aK×Int×Int)):O (Step (bS×aK×Int×Int) Int):=bif KJ (s.2.2.2<s.2.2.1)then(az s.2.1 s.2.2.2).bind λa0=>(dQ s.1 a0.2).bind λb1=>bif !b1 then WF (.done 8)else WF (.next (s.1,s.2.1,s.2.2.1,M d5 (s.2.2.2+1)))else WF (.done 0)
def hJ(F:bE):O Int:=(fL F.lc).bind λn0=>bif n0 !=0 then WF 8 else(tU F.lc.jp F.lc.io).bind λa1=>(jh a1.1 F.up).bind λb2=>bif !b2 then WF 8 else bif(If (Y a1.2)) !=(If (Y F.lc.af.ii))then WF 8 else au pB (a1.2,F.lc.af.ii,If (Y F.lc.af.ii),0)
def NU:=Oc 70 rfl [Ro,l9,ao0,TH] (gG cQ) d7 .pure hJ
def rl(F:Choice):O aE:=bif F.v6==1 then WF F.bv.lc else bif F.v6==2 then WF F.dd.lc else bif F.v6==3 then WF F.bW.lc else WF F.bN.lc
def c37:=Oc 37 rfl [] (gG bP) S6 .eT rl
def oN(F:Int×Int):O Int:=(dP F).bind λn0=>bif n0 !=0 then WF n0 else(oh F.1).bind λn1=>bif KJ (1073741824<n1)then WF 2 else bif KJ (1024<F.2)then WF 2 else WF 0
def c40:=Oc 40 rfl [Wc,X'] (gG d6) d7 .pure oN
abbrev KT(r:Type):=Int×Int×aK×Int×aK×(J Int)×(J Bool)×(J Int)×dJ×(J Int)×aK×r
abbrev CT(r:Type):=Int×KT ((J Int)×KT ((J Int)×(J Int)×KT (Int×aK×KT r)))
def kZ{r:Type}(k:aE)(x:r):KT r:=(k.io.1,k.io.2,k.jp.am,k.af.aO,k.af.ii,k.ae.ai.aC,k.ae.ai.be,k.ae.ai.bi,k.ae.bv,k.ae.ax,k.kw,x)
def kY{r:Type}(p:KT r):r:=p.2.2.2.2.2.2.2.2.2.2.2
def kC{r:Type}(p:KT r):aE:=aE.mk (p.1,p.2.1) (Field.mk p.2.2.1) (bA.mk p.2.2.2.1 p.2.2.2.2.1) (aM.mk (bg.mk p.2.2.2.2.2.1 p.2.2.2.2.2.2.1 p.2.2.2.2.2.2.2.1) p.2.2.2.2.2.2.2.2.1 p.2.2.2.2.2.2.2.2.2.1) p.2.2.2.2.2.2.2.2.2.2.1
def cZ{r:Type}(c:Choice)(x:r):CT r:=(c.v6,kZ c.bv.lc (c.bv.bv,kZ c.dd.lc (c.dd.ls.aX,c.dd.ls.k9,kZ c.bW.lc (c.bW.ut.lw,c.bW.ut.pp,kZ c.bN.lc x))))
def cR{r:Type}(p:CT r):r:=kY (kY (kY (kY p.2).2).2.2).2.2
def cM{r:Type}(p:CT r)(up:J Int):Choice:=Choice.mk p.1 (bD.mk (kC p.2) (kY p.2).1) (bB.mk (kC (kY p.2).2) (bz.mk (kY (kY p.2).2).1 (kY (kY p.2).2).2.1)) (bq.mk (kC (kY (kY p.2).2).2.2) (Tree.mk (kY (kY (kY p.2).2).2.2).1 (kY (kY (kY p.2).2).2.2).2.1)) (bE.mk (kC (kY (kY (kY p.2).2).2.2).2.2) up)
def kS:Choice:=Choice.mk 0 (bD.mk bX []) (bB.mk bX (bz.mk [] [])) (bq.mk bX (Tree.mk 0 [])) (bE.mk bX [])
abbrev G0:=Bool×Bool×Bool×Bool×Int×CT (J Int)
def D2(s:G0)(u:Bool):O (Step G0 Int):=bif u then(bif(M d5 (s.2.2.2.2.1+1)) !=(M d5 s.2.2.2.2.2.1)then WF (.done 8)else WF (.next (s.1,s.2.1,s.2.2.1,s.2.2.2.1,M d5 (s.2.2.2.2.1+1),s.2.2.2.2.2)))else WF (.next (s.1,s.2.1,s.2.2.1,s.2.2.2.1,M d5 (s.2.2.2.2.1+1),s.2.2.2.2.2))
def TI(c:Choice)(n:Int):O (Step G0 Int):=bif n !=0 then WF (.done 8)else(rl c).bind λr=>(oN r.io).bind λm=>bif m !=0 then WF (.done 8)else WF (.done 0)
def Zs(c:Choice):O (Step G0 Int):=bif c.v6==1 then(jA c.bv).bind λn=>TI c n else bif c.v6==2 then(gZ c.dd).bind λn=>TI c n else bif c.v6==3 then(hI c.bW).bind λn=>TI c n else bif c.v6==4 then(hJ c.bN).bind λn=>TI c n else WF (.done 8)
def ck(s:G0):O (Step G0 Int):=bif KJ (s.2.2.2.2.1<4)then bif s.2.2.2.2.1==0 then D2 s s.1 else bif s.2.2.2.2.1==1 then D2 s s.2.1 else bif s.2.2.2.2.1==2 then D2 s s.2.2.1 else bif s.2.2.2.2.1==3 then D2 s s.2.2.2.1 else Pc else Zs (cM s.2.2.2.2.2 (cR s.2.2.2.2.2))
def Vs(F:Choice)(a b c:Bool):O Int:=(gK F.bN.lc).bind λz=>bif !z then au ck (a,b,c,Sw,0,cZ F F.bN.up)else au ck (a,b,c,KJ (0<(If (Y F.bN.up))),0,cZ F F.bN.up)
def Cw(F:Choice)(a b:Bool):O Int:=(gK F.bW.lc).bind λz=>bif !z then Vs F a b Sw else bif F.bW.ut.lw !=0 then Vs F a b Sw else Vs F a b (KJ (0<(If (Y F.bW.ut.pp))))
def NN(F:Choice)(a:Bool):O Int:=(gK F.dd.lc).bind λz=>bif !z then Cw F a Sw else Cw F a (KJ (0<(M d5 ((If (Y F.dd.ls.aX))+(If (Y F.dd.ls.k9))))))
def iN(F:Choice):O Int:=(gK F.bv.lc).bind λz=>bif !z then NN F Sw else NN F (KJ (0<(If (Y F.bv.bv))))
def T8:=Oc 36 rfl [c66,NS,G4,NT,NU,c37,c40] (gG bP) d7 .pure iN
def wN(F:Choice):O ((Int×Int)×Field×Int):=(iN F).bind λn0=>bif n0 !=0 then WF ((0,0),Field.mk [],n0)else(rl F).bind λr1=>(bL r1.jp.am).bind λl2=>WF (r1.io,Field.mk l2,0)
def c19:=Oc 19 rfl [T8,c37,yV] (gG bP) (Arg.cT (aG d6 cr)) .eT wN
def HD(F:aM):O ((Int×Int×Int×Int×Int)×Int):=(mT F).bind λn0=>bif n0 !=0 then WF ((0,0,0,0,0),n0)else bif(If (Y F.bv))==0 then WF ((0,0,0,0,0),42)else(az F.bv 0).bind λa1=>WF (a1,0)
def ax1:=Oc 237 rfl [Cy] (gG dO) (tG ca) .pure HD
def xV(F:aE)(p1:Int×Int):O (Bool×Int):=(fL F).bind λn0=>(dP p1).bind λn1=>bif(if n1>n0 then n1 else n0) !=0 then WF (Md,if n1>n0 then n1 else n0)else(pK p1 F.io).bind λa2=>bif KJ (a2.1<0)then WF (Md,44)else(HD F.ae).bind λa3=>bif a3.2 !=0 then WF (Md,0)else(pK (a3.1.1,a3.1.2.1) p1).bind λa4=>WF (KJ (a4.1<=0),0)
abbrev XG:=aG bF (gG d6)
def ao9:=Oc 153 rfl [Ro,Wc,XO,ax1] XG (Arg.cT Cz) .pure (u2 xV)
def xW(F:Int×Int×Int)(p1:Int):O Int:=(fV F.1 p1).bind λn0=>WF n0
def ax2:=Oc 357 rfl [Wd] V6 d7 .pure (u2 xW)
def bn(s:GV):O T6:=bif KJ (s.2.2.2.1<s.2.2.2.2)then(az s.1 (M d5 (lR .u64 (M .u64 (M d5 (s.2.2.2.1+s.2.2.2.2))) 1))).bind λa0=>(xW a0 s.2.1).bind λn1=>bif KJ (n1<0)then WF (.next (s.1,s.2.1,s.2.2.1,M d5 ((M d5 (lR .u64 (M .u64 (M d5 (s.2.2.2.1+s.2.2.2.2))) 1))+1),s.2.2.2.2))else WF (.next (s.1,s.2.1,s.2.2.1,s.2.2.2.1,M d5 (lR .u64 (M .u64 (M d5 (s.2.2.2.1+s.2.2.2.2))) 1)))else bif KJ (s.2.2.2.1<s.2.2.1)then(az s.1 s.2.2.2.1).bind λa2=>(xW a2 s.2.1).bind λn3=>WF (.done (s.2.2.2.1,n3==0))else WF (.done (s.2.2.2.1,Md))
def bk(F:J (Int×Int×Int))(p1:Int)(_:Unit):O (Int×Bool):=au bn (F,p1,If (Y F),0,If (Y F))
def acM:=Oc 356 rfl [ax2] (aL cV (aI (bY.one (Arg.fY 357 bY.nil)))) g8 .pure (u3 bk)
def Ke(F:bA)(p1:Int):O (Int×Int):=(wI F).bind λn0=>bif n0 !=0 then WF (0,n0)else(bk F.ii p1 ()).bind λa1=>bif !a1.2 then WF (0,6)else WF (a1.1,0)
def ax3:=Oc 310 rfl [ZC,acM] (aG jb gI) lm .pure (u2 Ke)
def dF(a:PS):O (Nat×Nat×aK):=bif(((KJ (0<=a.1))&&(KJ (a.1<=a.2.1)))&&(KJ (a.2.1<=(If (Y a.2.2)))))&&(KJ ((If (Y a.2.2))<=(If (Y a.2.2))))then bif a.1==a.2.1 then bif(Y a.2.2)==(Y a.2.2)then WF (Y a.2.2,Y a.2.2,a.2.2)else Pc else(gQ a.2.2 0 a.1).bind λ_=>bif((KJ (0<=a.2.1))&&(KJ (a.2.1<=(If (Y a.2.2)))))&&(KJ ((If (Y a.2.2))<=(If (Y a.2.2))))then bif((a.2.2.drop (0+a.2.1.toNat)).take (((If (Y a.2.2)).toNat)-a.2.1.toNat)).isEmpty then bif((KJ (0<=(If a.1.toNat)))&&(KJ ((If a.1.toNat)<=(If (Y a.2.2)))))&&(KJ ((If (Y a.2.2))<=(If (Y a.2.2))))then bif Nat.beq (((If (Y a.2.2)).toNat) - ((If a.1.toNat).toNat)) 0 then bif(Y a.2.2)==(Y a.2.2)then WF (a.1.toNat,Y a.2.2,a.2.2)else Pc else bif(NE ((0+((If a.1.toNat).toNat))+(((If (Y a.2.2)).toNat) - ((If a.1.toNat).toNat))) (Y a.2.2))&&(!Md)then bif((iL a.2.2 (0+((If a.1.toNat).toNat)) (IR (((If (Y a.2.2)).toNat) - ((If a.1.toNat).toNat)) (0,0,0))).length)==(Y a.2.2)then WF (a.1.toNat,Y a.2.2,iL a.2.2 (0+((If a.1.toNat).toNat)) (IR (((If (Y a.2.2)).toNat) - ((If a.1.toNat).toNat)) (0,0,0)))else Pc else Pc else Pc else bif NE (a.1.toNat+(((a.2.2.drop (0+a.2.1.toNat)).take (((If (Y a.2.2)).toNat)-a.2.1.toNat)).length)) (Y a.2.2)then bif(NE (a.1.toNat+(((a.2.2.drop (0+a.2.1.toNat)).take (((If (Y a.2.2)).toNat)-a.2.1.toNat)).length)) (Y a.2.2))&&(!Md)then bif((KJ (0<=(If (a.1.toNat+(((a.2.2.drop (0+a.2.1.toNat)).take (((If (Y a.2.2)).toNat)-a.2.1.toNat)).length)))))&&(KJ ((If (a.1.toNat+(((a.2.2.drop (0+a.2.1.toNat)).take (((If (Y a.2.2)).toNat)-a.2.1.toNat)).length)))<=(If (Y a.2.2)))))&&(KJ ((If (Y a.2.2))<=(If (Y a.2.2))))then bif Nat.beq (((If (Y a.2.2)).toNat) - ((If (a.1.toNat+(((a.2.2.drop (0+a.2.1.toNat)).take (((If (Y a.2.2)).toNat)-a.2.1.toNat)).length))).toNat)) 0 then bif((iL a.2.2 a.1.toNat ((a.2.2.drop (0+a.2.1.toNat)).take (((If (Y a.2.2)).toNat)-a.2.1.toNat))).length)==(Y a.2.2)then WF (a.1.toNat+(((a.2.2.drop (0+a.2.1.toNat)).take (((If (Y a.2.2)).toNat)-a.2.1.toNat)).length),Y a.2.2,iL a.2.2 a.1.toNat ((a.2.2.drop (0+a.2.1.toNat)).take (((If (Y a.2.2)).toNat)-a.2.1.toNat)))else Pc else bif(NE ((0+((If (a.1.toNat+(((a.2.2.drop (0+a.2.1.toNat)).take (((If (Y a.2.2)).toNat)-a.2.1.toNat)).length))).toNat))+(((If (Y a.2.2)).toNat) - ((If (a.1.toNat+(((a.2.2.drop (0+a.2.1.toNat)).take (((If (Y a.2.2)).toNat)-a.2.1.toNat)).length))).toNat))) ((iL a.2.2 a.1.toNat ((a.2.2.drop (0+a.2.1.toNat)).take (((If (Y a.2.2)).toNat)-a.2.1.toNat))).length))&&(!Md)then bif((iL (iL a.2.2 a.1.toNat ((a.2.2.drop (0+a.2.1.toNat)).take (((If (Y a.2.2)).toNat)-a.2.1.toNat))) (0+((If (a.1.toNat+(((a.2.2.drop (0+a.2.1.toNat)).take (((If (Y a.2.2)).toNat)-a.2.1.toNat)).length))).toNat)) (IR (((If (Y a.2.2)).toNat) - ((If (a.1.toNat+(((a.2.2.drop (0+a.2.1.toNat)).take (((If (Y a.2.2)).toNat)-a.2.1.toNat)).length))).toNat)) (0,0,0))).length)==(Y a.2.2)then WF (a.1.toNat+(((a.2.2.drop (0+a.2.1.toNat)).take (((If (Y a.2.2)).toNat)-a.2.1.toNat)).length),Y a.2.2,iL (iL a.2.2 a.1.toNat ((a.2.2.drop (0+a.2.1.toNat)).take (((If (Y a.2.2)).toNat)-a.2.1.toNat))) (0+((If (a.1.toNat+(((a.2.2.drop (0+a.2.1.toNat)).take (((If (Y a.2.2)).toNat)-a.2.1.toNat)).length))).toNat)) (IR (((If (Y a.2.2)).toNat) - ((If (a.1.toNat+(((a.2.2.drop (0+a.2.1.toNat)).take (((If (Y a.2.2)).toNat)-a.2.1.toNat)).length))).toNat)) (0,0,0)))else Pc else Pc else Pc else Pc else Pc else Pc else Pc
def akw:eZ:=⟨[.i,.i,.l [.i d5,.i d5,.i d5]],[.own 0 Md,.int d5 0,.int d5 0],[.arr [.i d5,.i d5,.i d5] []],[.n,.n,.l [.i d5,.i d5,.i d5]],.pre 0 0 0 Md,[.arr [.i d5,.i d5,.i d5] []],λa=>dF a⟩
theorem ac4:jg nq 311 akw:=jg.of rfl (wd:=Sw) (cx:=(xN k7 [] [] [] [])) (sL.make trivial trivial trivial) (λa=>by kernel_rfl)
def AL(F:bA)(p1:Int):O (bA×(Int×Int)×Int):=(Ke F p1).bind λa0=>bif a0.2 !=0 then WF (bA.mk 0 [],(0,0),a0.2)else(bL F.ii).bind λl1=>(dF (a0.1,M d5 (a0.1+1),l1)).bind λa2=>(az F.ii a0.1).bind λa3=>WF (bA.mk F.aO (a2.2.2.take a2.1),a3.2,0)
abbrev XH:=aG d6 gI
def ax4:=Oe 242 rfl [ax3,Ck] [⟨311,_,ac4⟩] [] (aG jb gI) (Arg.cT (aG jb XH)) .eT (u2 AL)
def oY(F:aE):O aE:=(bL F.jp.am).bind λl0=>(bL F.af.ii).bind λl1=>(bL F.kw).bind λl2=>(bL F.ae.bv).bind λl3=>(bL F.ae.ax).bind λl4=>(bL F.ae.ai.aC).bind λl5=>(bL F.ae.ai.be).bind λl6=>(bL F.ae.ai.bi).bind λl7=>WF (aE.mk F.io (Field.mk l0) (bA.mk F.af.aO l1) (aM.mk (bg.mk l5 l6 l7) l3 l4) l2)
def Z6:=Oc 154 rfl [yV,Ck,IS,zH,mB,zG] (gG bF) S6 .own oY Sw
def XT:=Oc 154 rfl [yV,Ck,IS,zH,mB,zG] (gG bF) S6 .eT oY
def BA(F:Int×Int×Int)(p1:Int):O Int:=(fV F.1 p1).bind λn0=>WF n0
def ax5:=Oc 313 rfl [Wd] V6 d7 .pure (u2 BA)
def agp(s:GV):O T6:=bif KJ (s.2.2.2.1<s.2.2.2.2)then(az s.1 (M d5 (lR .u64 (M .u64 (M d5 (s.2.2.2.1+s.2.2.2.2))) 1))).bind λa0=>(BA a0 s.2.1).bind λn1=>bif KJ (n1<0)then WF (.next (s.1,s.2.1,s.2.2.1,M d5 ((M d5 (lR .u64 (M .u64 (M d5 (s.2.2.2.1+s.2.2.2.2))) 1))+1),s.2.2.2.2))else WF (.next (s.1,s.2.1,s.2.2.1,s.2.2.2.1,M d5 (lR .u64 (M .u64 (M d5 (s.2.2.2.1+s.2.2.2.2))) 1)))else bif KJ (s.2.2.2.1<s.2.2.1)then(az s.1 s.2.2.2.1).bind λa2=>(BA a2 s.2.1).bind λn3=>WF (.done (s.2.2.2.1,n3==0))else WF (.done (s.2.2.2.1,Md))
def dW(F:J (Int×Int×Int))(p1:Int)(_:Unit):O (Int×Bool):=au agp (F,p1,If (Y F),0,If (Y F))
def acN:=Oc 312 rfl [ax5] (aL cV (aI (bY.one (Arg.fY 313 bY.nil)))) g8 .pure (u3 dW)
def tV(F:J (Int×Int×Int))(p1:Int):O (Int×Bool):=(dW F p1 ()).bind λa0=>WF a0
def ao':=Oc 243 rfl [acN] (aL cV gI) g8 .pure (u2 tV)
def Fh(F:bg)(p1:Int×Int):O (Bool×Int):=(wJ F).bind λn0=>bif n0 !=0 then WF (Md,n0)else bif KJ (0<=p1.1)then bif KJ (p1.1<(If (Y F.be)))then(az F.be p1.1).bind λb1=>bif b1 then(az F.aC p1.1).bind λn2=>WF (n2==p1.2,0)else WF (Md,0)else WF (Md,0)else WF (Md,0)
abbrev Fw:=aG ja (gG d6)
def apa:=Oc 358 rfl [mD] Fw (Arg.cT Cz) .pure (u2 Fh)
def u7(F:aM)(p1:Int×Int):O (Int×Int):=(mT F).bind λn0=>bif n0 !=0 then WF (0,n0)else(Fh F.ai p1).bind λa1=>bif a1.2 !=0 then WF (0,6)else bif !a1.1 then WF (0,6)else(az F.ax p1.1).bind λn2=>WF (n2,0)
abbrev T9:=aG dO (gG d6)
def apb:=Oc 315 rfl [Cy,apa] T9 lm .pure (u2 u7)
def yl(F:J Int)(p1:Int):O (J Int):=(bL F).bind λl0=>(aQ l0 [p1]).bind λl1=>WF l1
abbrev t7:=Arg.sl ki
def ax6:=Oc 381 rfl [RSS] t8 t7 .eT (u2 yl)
def F8(F:bg)(p1:Int×Int):O (bg×Int):=(Fh F p1).bind λa0=>bif a0.2 !=0 then WF (bg.mk [] [] [],a0.2)else bif !a0.1 then WF (bg.mk [] [] [],6)else(bL F.aC).bind λl1=>(bL F.be).bind λl2=>(yl F.bi p1.1).bind λl3=>(az l2 p1.1).bind λ_=>WF (bg.mk l1 (bu l2 p1.1 Md) l3,0)
def ax7:=Oe 359 rfl [apa,mB,zG,ax6] [] [⟨380,zU,rfl⟩] Fw (tG ja) .eT (u2 F8)
def cK(a:ef):O GU:=(az (a.2.2.2.2.2.2.2.2.2.2.2.1.take a.2.2.2.1) a.2.2.2.2.2.1).bind λ_=>(az a.2.2.2.2.2.2.2.2.2.2.2.2 a.2.2.2.2.2.2.2.2.2.1).bind λ_=>bif((bu a.2.2.2.2.2.2.2.2.2.2.2.1 a.2.2.2.2.2.1 (a.2.2.2.2.2.2.1,a.2.2.2.2.2.2.2.1,a.2.2.2.2.2.2.2.2.1,a.2.2.2.2.2.2.2.2.2.1,a.2.2.2.2.2.2.2.2.2.2.1)).length)==(Y a.2.2.2.2.2.2.2.2.2.2.2.1)then bif((bu a.2.2.2.2.2.2.2.2.2.2.2.2 a.2.2.2.2.2.2.2.2.2.1 a.2.2.2.2.2.1).length)==(Y a.2.2.2.2.2.2.2.2.2.2.2.2)then WF (bu a.2.2.2.2.2.2.2.2.2.2.2.1 a.2.2.2.2.2.1 (a.2.2.2.2.2.2.1,a.2.2.2.2.2.2.2.1,a.2.2.2.2.2.2.2.2.1,a.2.2.2.2.2.2.2.2.2.1,a.2.2.2.2.2.2.2.2.2.2.1),bu a.2.2.2.2.2.2.2.2.2.2.2.2 a.2.2.2.2.2.2.2.2.2.1 a.2.2.2.2.2.1)else Pc else Pc
def We:eZ:=⟨[.l [.i d5],.l [.b],.l [.i d5],.n,.n,.i,.i,.i,.i,.i,.i,.l [.i d5,.i d5,.i d5,.i d5,.i d5],.l [.i d5]],[.agg [.sl [.i d5] [],.sl [.b] [],.sl [.i d5] [],.pre 0 0 0 Md,.own 1 Md],.int d5 0,.agg [.int d5 0,.int d5 0,.int d5 0,.int d5 0,.int d5 0]],[.arr [.i d5,.i d5,.i d5,.i d5,.i d5] [],.arr [.i d5] []],[.l [.i d5,.i d5,.i d5,.i d5,.i d5],.l [.i d5]],.cT [],[.arr [.i d5,.i d5,.i d5,.i d5,.i d5] [],.arr [.i d5] []],λa=>cK a⟩
theorem hpc:jg nq 377 We:=jg.of rfl (wd:=Md) (cx:=(xN k7 [] [] [] [])) (sL.make trivial trivial trivial) (λa=>by kernel_rfl)
def iO(c0:ef)(s:aoB):O (Step aoB aos):=match s with |(a,b,d,e,f,g,h,i,j,k,l,m,n,o)=>bif KJ (b<(If i))then bif KJ ((M d5 (b+1))<(If i))then(az (d.take i) (M d5 (b+1))).bind λa0=>(az (d.take i) b).bind λa1=>(cY a0 a1).bind λn2=>bif KJ (n2<0)then(az (d.take i) (M d5 (b+1))).bind λa3=>(cY a3 (k,l,m,n,o)).bind λn4=>bif KJ (0<=n4)then(cK (f,g,h,i,j,a,k,l,m,n,o,d,e)).bind λa5=>bif(Y a5.1)==(Y c0.2.2.2.2.2.2.2.2.2.2.2.1)then bif(Y a5.2)==(Y c0.2.2.2.2.2.2.2.2.2.2.2.2)then WF (.done (.done a5))else Pc else Pc else(az (d.take i) (M d5 (b+1))).bind λa6=>(cK (f,g,h,i,j,a,a6.1,a6.2.1,a6.2.2.1,a6.2.2.2.1,a6.2.2.2.2,d,e)).bind λa7=>WF (.next (M d5 (b+1),M d5 ((M d5 (2*(M d5 (b+1))))+1),a7.1,a7.2,(f,g,h,i,j,k,l,m,n,o)))else(az (d.take i) b).bind λa8=>(cY a8 (k,l,m,n,o)).bind λn9=>bif KJ (0<=n9)then(cK (f,g,h,i,j,a,k,l,m,n,o,d,e)).bind λwM=>bif(Y wM.1)==(Y c0.2.2.2.2.2.2.2.2.2.2.2.1)then bif(Y wM.2)==(Y c0.2.2.2.2.2.2.2.2.2.2.2.2)then WF (.done (.done wM))else Pc else Pc else(az (d.take i) b).bind λGX=>(cK (f,g,h,i,j,a,GX.1,GX.2.1,GX.2.2.1,GX.2.2.2.1,GX.2.2.2.2,d,e)).bind λa12=>WF (.next (b,M d5 ((M d5 (2*b))+1),a12.1,a12.2,(f,g,h,i,j,k,l,m,n,o)))else(az (d.take i) b).bind λXU=>(cY XU (k,l,m,n,o)).bind λT'=>bif KJ (0<=T')then(cK (f,g,h,i,j,a,k,l,m,n,o,d,e)).bind λV7=>bif(Y V7.1)==(Y c0.2.2.2.2.2.2.2.2.2.2.2.1)then bif(Y V7.2)==(Y c0.2.2.2.2.2.2.2.2.2.2.2.2)then WF (.done (.done V7))else Pc else Pc else(az (d.take i) b).bind λSg=>(cK (f,g,h,i,j,a,Sg.1,Sg.2.1,Sg.2.2.1,Sg.2.2.2.1,Sg.2.2.2.2,d,e)).bind λRz=>WF (.next (b,M d5 ((M d5 (2*b))+1),Rz.1,Rz.2,(f,g,h,i,j,k,l,m,n,o)))else(cK (f,g,h,i,j,a,k,l,m,n,o,d,e)).bind λVO=>bif(Y VO.1)==(Y c0.2.2.2.2.2.2.2.2.2.2.2.1)then bif(Y VO.2)==(Y c0.2.2.2.2.2.2.2.2.2.2.2.2)then WF (.done (.done VO))else Pc else Pc
def gb(c0:ef)(s:ail):O aos:=bif KJ (0<s.1)then(az (s.2.1.take s.2.2.2.2.2.2.1) (M d5 (PP (M d5 (s.1-1)) 2))).bind λa0=>(cY s.2.2.2.2.2.2.2.2 a0).bind λn1=>bif KJ (n1<0)then(az (s.2.1.take s.2.2.2.2.2.2.1) (M d5 (PP (M d5 (s.1-1)) 2))).bind λa2=>(cK (s.2.2.2.1,s.2.2.2.2.1,s.2.2.2.2.2.1,s.2.2.2.2.2.2.1,s.2.2.2.2.2.2.2.1,s.1,a2.1,a2.2.1,a2.2.2.1,a2.2.2.2.1,a2.2.2.2.2,s.2.1,s.2.2.1)).bind λa3=>WF (.next (M d5 (PP (M d5 (s.1-1)) 2),a3.1,a3.2,s.2.2.2))else au (iO c0) (s.1,M d5 ((M d5 (2*s.1))+1),s.2)else au (iO c0) (s.1,M d5 ((M d5 (2*s.1))+1),s.2)
def nW(a:ef):O GU:=au (gb a) (a.2.2.2.2.2.1,a.2.2.2.2.2.2.2.2.2.2.2.1,a.2.2.2.2.2.2.2.2.2.2.2.2,a.1,a.2.1,a.2.2.1,a.2.2.2.1,a.2.2.2.2.1,a.2.2.2.2.2.2.1,a.2.2.2.2.2.2.2.1,a.2.2.2.2.2.2.2.2.1,a.2.2.2.2.2.2.2.2.2.1,a.2.2.2.2.2.2.2.2.2.2.1)
def aky:eZ:=⟨[.l [.i d5],.l [.b],.l [.i d5],.n,.n,.i,.i,.i,.i,.i,.i,.l [.i d5,.i d5,.i d5,.i d5,.i d5],.l [.i d5]],[.agg [.sl [.i d5] [],.sl [.b] [],.sl [.i d5] [],.pre 0 0 0 Md,.own 1 Md],.int d5 0,.agg [.int d5 0,.int d5 0,.int d5 0,.int d5 0,.int d5 0]],[.arr [.i d5,.i d5,.i d5,.i d5,.i d5] [],.arr [.i d5] []],[.l [.i d5,.i d5,.i d5,.i d5,.i d5],.l [.i d5]],.cT [],[.arr [.i d5,.i d5,.i d5,.i d5,.i d5] [],.arr [.i d5] []],λa=>nW a⟩
theorem Kf:jg nq 351 aky:=jg.of rfl (wd:=Md) (cx:=(xN k7 [(285,Kp.c)] [(377,We)] [] [])) (sL.make ⟨Kp.ok,trivial⟩ ⟨hpc,trivial⟩ trivial) (λa=>by kernel_rfl)
def xl(F:aM)(p1:Int):O (aM×(Int×Int×Int×Int×Int)×Int):=(az F.bv p1).bind λa0=>(F8 F.ai a0.2.2.2).bind λa1=>bif a1.2 !=0 then WF (aM.mk (bg.mk [] [] []) [] [],(0,0,0,0,0),a1.2)else(bL F.bv).bind λl2=>(bL F.ax).bind λl3=>(az l2 (M d5 ((If (Y l2))-1))).bind λa4=>(gQ l2 0 (M d5 ((If (Y l2))-1))).bind λ_=>(az l3 a0.2.2.2.1).bind λ_=>bif KJ (p1<(M d5 ((If (Y l2))-1)))then(nW (a1.1.aC,a1.1.be,a1.1.bi,(M d5 ((If (Y l2))-1)).toNat,Y l2,p1,a4.1,a4.2.1,a4.2.2.1,a4.2.2.2.1,a4.2.2.2.2,l2,bu l3 a0.2.2.2.1 (-1))).bind λa7=>WF (aM.mk a1.1 (a7.1.take ((M d5 ((If (Y l2))-1)).toNat)) a7.2,a0,0)else WF (aM.mk a1.1 (l2.take ((M d5 ((If (Y l2))-1)).toNat)) (bu l3 a0.2.2.2.1 (-1)),a0,0)
abbrev qe9:=Arg.cT (aG dO (aG ca gI))
def ax8:=Oe 316 rfl [ax7,zH,mB] [⟨351,_,Kf⟩] [⟨350,WG,rfl⟩] (aG dO gI) qe9 .eT (u2 xl)
def pL(F:aM)(p1:Int×Int):O (aM×(Int×Int×Int×Int×Int)×Int):=(u7 F p1).bind λa0=>bif a0.2 !=0 then WF (aM.mk (bg.mk [] [] []) [] [],(0,0,0,0,0),a0.2)else(xl F a0.1).bind λa1=>WF a1
def ape:=Oc 244 rfl [apb,ax8] T9 qe9 .eT (u2 pL)
end
end
end Go.Proofs.YtbelikaakgedaaaGreat
