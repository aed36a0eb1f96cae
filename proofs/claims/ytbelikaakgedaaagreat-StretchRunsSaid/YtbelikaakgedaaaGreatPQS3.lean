/- Plain functions for what the functions of the seat compute. Printed by a program. -/
import Derived.Test.YtbelikaakgedaaaGreatPVm3
import Derived.Test.YtbelikaakgedaaaGreatPQXT
import Derived.Test.YtbelikaakgedaaaGreatPQS2
open Int renaming ofNat->If,tdiv->IR,tmod->NE
open List renaming length->PP
open Option renaming some->Y,none->WF
open Bool renaming true->Pc,false->Sw
open Decidable renaming decide->Md
set_option maxRecDepth 100000
namespace Go.Proofs.YtbelikaakgedaaaGreat
open Go.Vm
noncomputable section
section
variable [LP]
abbrev ZT(r:Type):=Int×Int×Int×Int×Int×Int×Int×Int×Int×Int×Int×Int×Int×Int×Int×Int×Int×r
def ac7{r q:Type}(p:ZT r)(x:q):ZT q:=(p.1,p.2.1,p.2.2.1,p.2.2.2.1,p.2.2.2.2.1,p.2.2.2.2.2.1,p.2.2.2.2.2.2.1,p.2.2.2.2.2.2.2.1,p.2.2.2.2.2.2.2.2.1,p.2.2.2.2.2.2.2.2.2.1,p.2.2.2.2.2.2.2.2.2.2.1,p.2.2.2.2.2.2.2.2.2.2.2.1,p.2.2.2.2.2.2.2.2.2.2.2.2.1,p.2.2.2.2.2.2.2.2.2.2.2.2.2.1,p.2.2.2.2.2.2.2.2.2.2.2.2.2.2.1,p.2.2.2.2.2.2.2.2.2.2.2.2.2.2.2.1,p.2.2.2.2.2.2.2.2.2.2.2.2.2.2.2.2.1,x)
def akM{r:Type}(p:ZT r):r:=p.2.2.2.2.2.2.2.2.2.2.2.2.2.2.2.2.2
abbrev Ps:=CT (J Int×ZT (CT (J Int×Int×Int×Int)))
abbrev Vt:=J (Int×Int×Int×Int×Int×Int×Int)
abbrev Tm:=Choice×(Int×Int×Int)×Int
abbrev rnT:=Vt×Int×Int×Ps
def c9(x:Ps):Choice:=cM x (cR x).1
def XI(x:Ps):CT (J Int×Int×Int×Int):=akM (cR x).2
def NV(x:Ps):Choice:=cM (XI x) (cR (XI x)).1
def rnN(x:Ps)(c:Choice)(e p:Int):Ps:=cZ (c9 x) ((cR x).1,ac7 (cR x).2 (cZ c (c.bN.up,M d5 ((cR (XI x)).2.1+e),(cR (XI x)).2.2.1,if p>(cR (XI x)).2.2.2 then p else(cR (XI x)).2.2.2)))
def U6(c d:Choice)(e p:Int):Ps:=cZ c (c.bN.up,0,0,0,0,0,0,0,0,0,0,0,0,0,0,0,0,0,cZ d (d.bN.up,e,0,p))
def rnF(x:Ps)(n:Int):Tm:=(NV x,((cR (XI x)).2.1,M d5 n,(cR (XI x)).2.2.2),0)
def vg(s:rnT):O (Step rnT Tm):=bif Md (s.2.2.1<s.2.1)then(az s.1 s.2.2.1).bind λa0=>(vf (NV s.2.2.2) a0).bind λa1=>bif a1.2.2 !=0 then Y (.next (s.1,s.2.1,M d5 (s.2.2.1+1),s.2.2.2))else(ot a1.1).bind λn2=>Y (.next (s.1,s.2.1,M d5 (s.2.2.1+1),rnN s.2.2.2 a1.1 (If (PP a1.2.1)) n2))else(o3 (NV s.2.2.2)).bind λn3=>(o3 (c9 s.2.2.2)).bind λn4=>Y (.done (rnF s.2.2.2 (n3-n4)))
def ua(F:Choice)(p1:Vt):O Tm:=(wN F).bind λa0=>bif a0.2.2 !=0 then Y (kS,(0,0,0),a0.2.2)else bif Md (120<(If (PP p1)))then Y (kS,(0,0,0),4)else(mb F a0.1).bind λa1=>(ot F).bind λn2=>au vg (p1,If (PP p1),0,U6 F a1.1 0 n2)
abbrev x3:=aG bP (gL zF)
def akN:=Oc 8 rfl [c19,c20,c21,c22,c23] x3 (Arg.cT (aG bP V6)) .eT (u2 ua)
def xt(s:(Int×aK×aK)):O (Step (Int×aK×aK) Bool):=bif Md (s.1<(If (PP s.2.1)))then(az s.2.1 s.1).bind λa0=>(az s.2.2 s.1).bind λa1=>bif !((a0.1==a1.1)&&((a0.2.1==a1.2.1)&&(a0.2.2==a1.2.2)))then Y (.done Sw)else Y (.next (M d5 (s.1+1),s.2))else Y (.done Pc)
def sQ(F:Field)(p1:Field):O Bool:=bif(If (PP F.am)) !=(If (PP p1.am))then Y Sw else au xt (0,F.am,p1.am)
def apF:=Oc 127 rfl [] (aG aZ (gG aZ)) Arg.bool .pure (u2 sQ)
abbrev x4:=Int×Int×aK×Int×aK
abbrev apG:=Step x4 Bool
def BD(s:x4):O apG:=bif Md (s.1<(If (PP s.2.2.1)))then(az s.2.2.1 s.1).bind λa0=>(az s.2.2.2.2 s.1).bind λa1=>bif !((a0.1==a1.1)&&((a0.2.1==a1.2.1)&&(a0.2.2==a1.2.2)))then Y (.done Sw)else Y (.next (M d5 (s.1+1),s.2))else Y (.done Pc)
def sR(F:bA)(p1:bA):O Bool:=bif F.aO !=p1.aO then Y Sw else bif(If (PP F.ii)) !=(If (PP p1.ii))then Y Sw else au BD (0,F.aO,F.ii,p1.aO,p1.ii)
def ayw:=Oc 128 rfl [] (aG jb (gG jb)) Arg.bool .pure (u2 sR)
abbrev mr:=(J Int)×(J Int)×Int
def vj(s:mr):O (Step mr Bool):=bif Md (s.2.2<(If (PP s.1)))then(az s.1 s.2.2).bind λn0=>(az s.2.1 s.2.2).bind λn1=>bif n0 !=n1 then Y (.done Sw)else Y (.next (s.1,s.2.1,M d5 (s.2.2+1)))else Y (.done Pc)
def jH(F:J Int)(p1:J Int):O Bool:=bif(If (PP F)) !=(If (PP p1))then Y Sw else au vj (F,p1,0)
def apH:=Oc 211 rfl [] ov Arg.bool .pure (u2 jH)
def sS(s:((J Bool)×(J Bool)×Int)):O (Step ((J Bool)×(J Bool)×Int) Bool):=bif Md (s.2.2<(If (PP s.1)))then(az s.1 s.2.2).bind λb0=>(az s.2.1 s.2.2).bind λb1=>bif !(b0==b1)then Y (.done Sw)else Y (.next (s.1,s.2.1,M d5 (s.2.2+1)))else Y (.done Pc)
def mI(F:J Bool)(p1:J Bool):O Bool:=bif(If (PP F)) !=(If (PP p1))then Y Sw else au sS (F,p1,0)
def ayx:=Oc 282 rfl [] (aL kb (gL kb)) Arg.bool .pure (u2 mI)
def wP(F:bg)(p1:bg):O Bool:=(jH F.aC p1.aC).bind λb0=>bif b0 then(mI F.be p1.be).bind λb1=>bif b1 then(jH F.bi p1.bi).bind λb2=>Y b2 else Y Sw else Y Sw
def ayy:=Oc 210 rfl [apH,ayx] (aG ja (gG ja)) Arg.bool .pure (u2 wP)
abbrev apI:=Int×(J Int)×(J Bool)×(J Int)×dJ×(J Int)×(J Int)×(J Bool)×(J Int)×dJ×(J Int)
def BE(s:apI):O (Step apI Bool):=bif Md (s.1<(If (PP s.2.2.2.2.1)))then(az s.2.2.2.2.1 s.1).bind λa0=>(az s.2.2.2.2.2.2.2.2.2.1 s.1).bind λa1=>bif !((a0.1==a1.1)&&((a0.2.1==a1.2.1)&&((a0.2.2.1==a1.2.2.1)&&((a0.2.2.2.1==a1.2.2.2.1)&&(a0.2.2.2.2==a1.2.2.2.2)))))then Y (.done Sw)else Y (.next (M d5 (s.1+1),s.2))else Y (.done Pc)
def sU(F:aM)(p1:aM):O Bool:=(wP F.ai p1.ai).bind λb0=>bif !b0 then Y Sw else(jH F.ax p1.ax).bind λb1=>bif !b1 then Y Sw else bif(If (PP F.bv)) !=(If (PP p1.bv))then Y Sw else au BE (0,F.ai.aC,F.ai.be,F.ai.bi,F.bv,F.ax,p1.ai.aC,p1.ai.be,p1.ai.bi,p1.bv,p1.ax)
def ayz:=Oc 129 rfl [ayy,apH] (aG dO (gG dO)) Arg.bool .pure (u2 sU)
abbrev Zt9:=Int×Int×Int×aK×Int×aK×(J Int)×(J Bool)×(J Int)×dJ×(J Int)×aK×Int×Int×aK×Int×aK×(J Int)×(J Bool)×(J Int)×dJ×(J Int)×aK
def BF(s:Zt9):O (Step Zt9 Bool):=bif Md (s.1<(If (PP s.2.2.2.2.2.2.2.2.2.2.2.1)))then(az s.2.2.2.2.2.2.2.2.2.2.2.1 s.1).bind λa0=>(az s.2.2.2.2.2.2.2.2.2.2.2.2.2.2.2.2.2.2.2.2.2.2 s.1).bind λa1=>bif !((a0.1==a1.1)&&((a0.2.1==a1.2.1)&&(a0.2.2==a1.2.2)))then Y (.done Sw)else Y (.next (M d5 (s.1+1),s.2))else Y (.done Pc)
def nC(F:aE)(p1:aE):O Bool:=bif !((F.io.1==p1.io.1)&&(F.io.2==p1.io.2))then Y Sw else(sQ F.jp p1.jp).bind λb0=>bif !b0 then Y Sw else(sR F.af p1.af).bind λb1=>bif !b1 then Y Sw else(sU F.ae p1.ae).bind λb2=>bif !b2 then Y Sw else bif(If (PP F.kw)) !=(If (PP p1.kw))then Y Sw else au BF (0,F.io.1,F.io.2,F.jp.am,F.af.aO,F.af.ii,F.ae.ai.aC,F.ae.ai.be,F.ae.ai.bi,F.ae.bv,F.ae.ax,F.kw,p1.io.1,p1.io.2,p1.jp.am,p1.af.aO,p1.af.ii,p1.ae.ai.aC,p1.ae.ai.be,p1.ae.ai.bi,p1.ae.bv,p1.ae.ax,p1.kw)
def me:=Oc 57 rfl [apF,ayw,ayz] (aG bF (gG bF)) Arg.bool .pure (u2 nC)
def ji(s:mr):O (Step mr Bool):=bif Md (s.2.2<(If (PP s.1)))then(az s.1 s.2.2).bind λn0=>(az s.2.1 s.2.2).bind λn1=>bif n0 !=n1 then Y (.done Sw)else Y (.next (s.1,s.2.1,M d5 (s.2.2+1)))else Y (.done Pc)
def fW(F:J Int)(p1:J Int):O Bool:=bif(If (PP F)) !=(If (PP p1))then Y Sw else au ji (F,p1,0)
def Og:=Oc 58 rfl [] ov Arg.bool .pure (u2 fW)
def kF(F:bD)(p1:bD):O Bool:=(nC F.lc p1.lc).bind λb0=>bif b0 then(fW F.bv p1.bv).bind λb1=>Y b1 else Y Sw
def c26:=Oc 26 rfl [me,Og] (aG eY (gG eY)) Arg.bool .pure (u2 kF)
def Dt(F:bz)(p1:bz):O Bool:=(fW F.aX p1.aX).bind λb0=>bif b0 then(fW F.k9 p1.k9).bind λb1=>Y b1 else Y Sw
def c59:=Oc 59 rfl [Og] (aG fq (gG fq)) Arg.bool .pure (u2 Dt)
def kH(F:bB)(p1:bB):O Bool:=(nC F.lc p1.lc).bind λb0=>bif b0 then(Dt F.ls p1.ls).bind λb1=>Y b1 else Y Sw
def c27:=Oc 27 rfl [me,c59] (aG dI (gG dI)) Arg.bool .pure (u2 kH)
def vn(s:x4):O apG:=bif Md (s.1<(If (PP s.2.2.1)))then(az s.2.2.1 s.1).bind λa0=>(az s.2.2.2.2 s.1).bind λa1=>bif !((a0.1==a1.1)&&((a0.2.1==a1.2.1)&&(a0.2.2==a1.2.2)))then Y (.done Sw)else Y (.next (M d5 (s.1+1),s.2))else Y (.done Pc)
def ud(F:Tree)(p1:Tree):O Bool:=bif F.lw !=p1.lw then Y Sw else bif(If (PP F.pp)) !=(If (PP p1.pp))then Y Sw else au vn (0,F.lw,F.pp,p1.lw,p1.pp)
def c60:=Oc 60 rfl [] (aG sM (gG sM)) Arg.bool .pure (u2 ud)
def kI(F:bq)(p1:bq):O Bool:=(nC F.lc p1.lc).bind λb0=>bif b0 then(ud F.ut p1.ut).bind λb1=>Y b1 else Y Sw
def c28:=Oc 28 rfl [me,c60] (aG cP (gG cP)) Arg.bool .pure (u2 kI)
def kJ(F:bE)(p1:bE):O Bool:=(nC F.lc p1.lc).bind λb0=>bif b0 then(fW F.up p1.up).bind λb1=>Y b1 else Y Sw
def c29:=Oc 29 rfl [me,Og] (aG cQ (gG cQ)) Arg.bool .pure (u2 kJ)
def kK(F:Int):O Int:=bif Md (F<0)then Y (M .u64 ((M .u64 (M d5 (0- (M d5 (F+1)))))+1))else Y (M .u64 F)
def x5:=Oc 192 rfl [] gI I5 .pure kK
def yo(s:(Int×Int)):O (Step (Int×Int) Int):=bif s.2 !=0 then bif s.2==0 then WF else Y (.next (s.2,NE s.1 s.2))else Y (.done s.1)
def vo(F:Int)(p1:Int):O Int:=au yo (F,p1)
def apJ:=Oc 191 rfl [] d9 I5 .pure (u2 vo)
def m9(F:Int×Int):O Int:=bif Md (F.2<1)then Y 8 else bif F.1==(-9223372036854775808)then Y 8 else(kK F.1).bind λn0=>(vo n0 (M .u64 F.2)).bind λn1=>bif n1 !=1 then Y 8 else Y 0
def m5:=Oc 111 rfl [x5,apJ] (gG d6) d7 .pure m9
def ug(F:Int×Int×Int):O Int:=bif Md (F.1<0)then Y 8 else bif Md (65535<F.1)then Y 8 else bif Md (F.2.1<(-1048576))then Y 8 else bif Md (1048576<F.2.1)then Y 8 else bif Md (F.2.2<(-1048576))then Y 8 else bif Md (1048576<F.2.2)then Y 8 else Y 0
def x6:=Oc 263 rfl [] (gG d8) d7 .pure ug
abbrev Rp:=Int×aK
def mh(s:Rp):O (Step Rp (Step Rp Int)):=bif Md (s.1<(If (PP s.2)))then(az s.2 (M d5 (s.1-1))).bind λa0=>(az s.2 s.1).bind λa1=>bif Md (a1.1<=a0.1)then Y (.done (.done 32))else Y (.next (M d5 (s.1+1),s.2))else Y (.done (.done 0))
def qF(s:Rp):O (Step Rp Int):=bif Md (s.1<(If (PP s.2)))then(az s.2 s.1).bind λa0=>(ug a0).bind λn1=>bif n1 !=0 then Y (.done 8)else Y (.next (M d5 (s.1+1),s.2))else au mh (1,s.2)
def jI(F:Field):O Int:=bif Md (64<(If (PP F.am)))then Y 4 else au qF (0,F.am)
def Lo:=Oc 177 rfl [x6] (gG aZ) d7 .pure jI
def zS(F:Int×Int):O Bool:=bif Md (0<=F.1)then bif Md (F.1<=65535)then bif Md (0<=F.2)then bif Md (F.2<=65535)then Y (F.1 !=F.2)else Y Sw else Y Sw else Y Sw else Y Sw
def apK:=Oc 264 rfl [] (gG d6) Arg.bool .pure zS
abbrev x7:=Step PS Int
def jJ(s:(Int×Int×Int×aK×Int×Int×Int)):O (Step (Int×Int×Int×aK×Int×Int×Int) x7):=bif Md (s.2.1<s.1)then(az s.2.2.2.1 s.2.1).bind λa0=>bif(a0.2.1==s.2.2.2.2.2.1)&&(a0.2.2==s.2.2.2.2.2.2)then Y (.done (.done 8))else Y (.next (s.1,M d5 (s.2.1+1),s.2.2))else Y (.done (.next (M d5 (s.1+1),s.2.2.1,s.2.2.2.1)))
def vp(s:PS):O x7:=bif Md (s.1<(If (PP s.2.2)))then(az s.2.2 s.1).bind λa0=>(zS a0.2).bind λb1=>bif !b1 then Y (.done 8)else bif Md (a0.1<0)then Y (.done 8)else bif Md (s.2.1<=a0.1)then Y (.done 8)else bif Md (0<s.1)then(az s.2.2 (M d5 (s.1-1))).bind λa2=>bif Md (a0.1<=a2.1)then Y (.done 8)else au jJ (s.1,0,s.2.1,s.2.2,a0)else au jJ (s.1,0,s.2.1,s.2.2,a0)else Y (.done 0)
def xX(F:bA):O Int:=bif Md (200<(If (PP F.ii)))then Y 8 else bif Md (F.aO<0)then Y 8 else bif Md (1000000<F.aO)then Y 8 else au vp (0,F.aO,F.ii)
def apL:=Oc 178 rfl [apK] (gG jb) d7 .pure xX
def AQ(s:PS):O x7:=bif Md (s.2.1<(If (PP s.2.2)))then(az s.2.2 s.2.1).bind λa0=>bif a0.1==s.1 then Y (.done s.2.1)else Y (.next (s.1,M d5 (s.2.1+1),s.2.2))else Y (.done (-1))
def fO(F:Field)(p1:Int):O Int:=au AQ (p1,0,F.am)
def tW:=Oc 98 rfl [] cr d7 .pure (u2 fO)
abbrev te:=Int×Int×aK×aK
def vq(s:te):O (Step te Bool):=bif Md (s.1<(If (PP s.2.2.1)))then(az s.2.2.1 s.1).bind λa0=>(fO (Field.mk s.2.2.2) a0.2.1).bind λn1=>bif Md (n1<0)then Y (.done Sw)else(az s.2.2.1 s.1).bind λa2=>(fO (Field.mk s.2.2.2) a2.2.2).bind λn3=>bif Md (n3<0)then Y (.done Sw)else Y (.next (M d5 (s.1+1),s.2))else Y (.done Pc)
def AR(F:bA)(p1:Field):O Bool:=au vq (0,F.aO,F.ii,p1.am)
def ayA:=Oc 179 rfl [tW] (aG jb (gG aZ)) Arg.bool .pure (u2 AR)
abbrev m6:=Int×Int×(J Int)×(J Bool)×(J Int)×(J Bool)
def oy(s:m6):O (Step m6 (Step m6 Int)):=bif Md (s.2.1<s.1)then(az s.2.2.1 s.2.1).bind λn0=>bif Md (n0<0)then Y (.done (.done 8))else(az s.2.2.1 s.2.1).bind λn1=>bif Md (1000000<n1)then Y (.done (.done 8))else(az s.2.2.2.1 s.2.1).bind λb2=>(az s.2.2.2.2.2 s.2.1).bind λb3=>bif b2==b3 then Y (.done (.done 8))else(az s.2.2.2.1 s.2.1).bind λb4=>bif b4 then(az s.2.2.1 s.2.1).bind λn5=>bif Md (n5<1)then Y (.done (.done 8))else Y (.next (s.1,M d5 (s.2.1+1),s.2.2))else Y (.next (s.1,M d5 (s.2.1+1),s.2.2))else Y (.done (.done 0))
def vt(s:m6):O (Step m6 Int):=bif Md (s.2.1<(If (PP s.2.2.2.2.1)))then(az s.2.2.2.2.1 s.2.1).bind λn0=>bif Md (n0<0)then Y (.done 8)else(az s.2.2.2.2.1 s.2.1).bind λn1=>bif Md (s.1<=n1)then Y (.done 8)else(az s.2.2.2.2.1 s.2.1).bind λn2=>(az s.2.2.2.2.2 n2).bind λb3=>bif b3 then Y (.done 8)else(az s.2.2.2.2.1 s.2.1).bind λn4=>(az s.2.2.2.2.2 n4).bind λ_=>Y (.next (s.1,M d5 (s.2.1+1),s.2.2.1,s.2.2.2.1,s.2.2.2.2.1,bu s.2.2.2.2.2 n4 Pc))else au oy (s.1,0,s.2.2)
def AS(F:bg):O Int:=bif Md ((If (PP F.aC))<1)then Y 8 else bif Md (200<(If (PP F.aC)))then Y 8 else bif(If (PP F.be)) !=(If (PP F.aC))then Y 8 else bif Md ((If (PP F.aC))<(If (PP F.bi)))then Y 8 else bif(If (PP F.aC))==(If (PP F.aC))then(rF (If (PP F.aC)) (Sw:Bool)).bind λl0=>au vt (If (PP F.aC),0,F.aC,F.be,F.bi,l0)else WF
def ayB:=Oc 265 rfl [] (gG ja) d7 .pure AS
def zT(F:bg)(p1:Int×Int):O Bool:=bif Md (0<=p1.1)then bif Md (p1.1<(If (PP F.aC)))then(az F.be p1.1).bind λb0=>bif b0 then(az F.aC p1.1).bind λn1=>Y (n1==p1.2)else Y Sw else Y Sw else Y Sw
def apM:=Oc 269 rfl [] Fw Arg.bool .pure (u2 zT)
abbrev x8:=Int×Int×(J Int)×(J Bool)×(J Int)×dJ×(J Int)
def sC(s:x8):O (Step x8 Bool):=bif Md (s.2.1<s.1)then(az s.2.2.2.1 s.2.1).bind λb0=>bif !b0 then(az s.2.2.2.2.2.2 s.2.1).bind λn1=>bif n1 !=(-1)then Y (.done Sw)else Y (.next (s.1,M d5 (s.2.1+1),s.2.2))else(az s.2.2.2.2.2.2 s.2.1).bind λn2=>bif Md (n2<0)then Y (.done Sw)else bif Md ((If (PP s.2.2.2.2.2.1))<=n2)then Y (.done Sw)else(az s.2.2.2.2.2.1 n2).bind λa3=>bif a3.2.2.2.1 !=s.2.1 then Y (.done Sw)else(az s.2.2.2.2.2.1 n2).bind λa4=>(zT (bg.mk s.2.2.1 s.2.2.2.1 s.2.2.2.2.1) a4.2.2.2).bind λb5=>bif !b5 then Y (.done Sw)else Y (.next (s.1,M d5 (s.2.1+1),s.2.2))else Y (.done Pc)
def y5(F:aM):O Bool:=bif(If (PP F.ax)) !=(If (PP F.ai.aC))then Y Sw else bif(If (PP F.bv)) !=(M d5 ((If (PP F.ai.aC)) - (If (PP F.ai.bi))))then Y Sw else au sC (If (PP F.ai.aC),0,F.ai.aC,F.ai.be,F.ai.bi,F.bv,F.ax)
def ayC:=Oc 266 rfl [apM] (gG dO) Arg.bool .pure y5
def xu(F:Int)(p1:Int):O (Bool×Int×Int):=Y (Sw,M .u64 ((M .u64 ((M .u64 ((M .u64 (IR F 4294967296))*(M .u64 (IR p1 4294967296))))+(M .u64 (IR (M .u64 ((M .u64 ((M .u64 (IR F 4294967296))*(NE p1 4294967296)))+(M .u64 (IR (M .u64 ((NE F 4294967296)*(NE p1 4294967296))) 4294967296)))) 4294967296))))+(M .u64 (IR (M .u64 ((M .u64 ((NE F 4294967296)*(M .u64 (IR p1 4294967296))))+(NE (M .u64 ((M .u64 ((M .u64 (IR F 4294967296))*(NE p1 4294967296)))+(M .u64 (IR (M .u64 ((NE F 4294967296)*(NE p1 4294967296))) 4294967296)))) 4294967296))) 4294967296))),M .u64 ((M .u64 ((NE (M .u64 ((M .u64 ((NE F 4294967296)*(M .u64 (IR p1 4294967296))))+(NE (M .u64 ((M .u64 ((M .u64 (IR F 4294967296))*(NE p1 4294967296)))+(M .u64 (IR (M .u64 ((NE F 4294967296)*(NE p1 4294967296))) 4294967296)))) 4294967296))) 4294967296)*4294967296))+(NE (M .u64 ((NE F 4294967296)*(NE p1 4294967296))) 4294967296)))
def ayD:=Oc 372 rfl [] d9 Qa .pure (u2 xu)
def nD(F:Int)(p1:Int):O (Bool×Int×Int):=(kK F).bind λn0=>(kK p1).bind λn1=>(xu n0 n1).bind λa2=>bif !((Md (F<0))==(Md (p1<0)))then bif F !=0 then Y (p1 !=0,a2.2)else Y (Sw,a2.2)else Y (Sw,a2.2)
def apN:=Oc 334 rfl [x5,ayD] (aI gI) Qa .pure (u2 nD)
def o4(F:Bool×Int×Int):O Int:=bif F.2.1==0 then bif F.2.2==0 then Y 0 else bif F.1 then Y (-1)else Y 1 else bif F.1 then Y (-1)else Y 1
def apO:=Oc 335 rfl [] (gG i5) d7 .pure o4
def wQ(F:Bool×Int×Int)(p1:Bool×Int×Int):O Int:=bif F.2.1 !=p1.2.1 then bif Md (F.2.1<p1.2.1)then Y (-1)else Y 1 else bif F.2.2 !=p1.2.2 then bif Md (F.2.2<p1.2.2)then Y (-1)else Y 1 else Y 0
def apP:=Oc 336 rfl [] NR d7 .pure (u2 wQ)
def pM(F:Int×Int)(p1:Int×Int):O Int:=(nD F.1 p1.2).bind λa0=>(nD p1.1 F.2).bind λa1=>(o4 a0).bind λn2=>(o4 a1).bind λn3=>bif n2 !=n3 then(o4 a0).bind λn4=>(o4 a1).bind λn5=>bif Md (n4<n5)then Y (-1)else Y 1 else(o4 a0).bind λn6=>bif Md (n6<0)then(wQ a1 a0).bind λn7=>Y n7 else(wQ a0 a1).bind λn8=>Y n8
def x9:=Oc 278 rfl [apN,apO,apP] Rm d7 .pure (u2 pM)
def fP(F:Int×Int×Int×Int×Int)(p1:Int×Int×Int×Int×Int):O Bool:=(pM (F.1,F.2.1) (p1.1,p1.2.1)).bind λn0=>bif Md (n0<0)then Y Pc else bif n0==0 then Y (Md (F.2.2.1<p1.2.2.1))else Y Sw
def Nv:=Oc 267 rfl [x9] (aG ca (gG ca)) Arg.bool .pure (u2 fP)
abbrev apQ:=Int×Int×(J Int)×(J Bool)×(J Int)×dJ×(J Int)×Int×Int×Int×Int×Int
abbrev AT:=Int×(J Int)×(J Bool)×(J Int)×dJ×(J Int)
abbrev akO:=Step AT Int
def qG(s:apQ):O (Step apQ akO):=bif Md (s.2.1<s.1)then(az s.2.2.2.2.2.1 s.2.1).bind λa0=>bif a0.2.2.1==s.2.2.2.2.2.2.2.2.2.1 then Y (.done (.done 8))else Y (.next (s.1,M d5 (s.2.1+1),s.2.2))else Y (.done (.next (M d5 (s.1+1),s.2.2.1,s.2.2.2.1,s.2.2.2.2.1,s.2.2.2.2.2.1,s.2.2.2.2.2.2.1)))
def oz(s:AT):O (Step AT akO):=bif Md (s.1<(If (PP s.2.2.2.2.1)))then(az s.2.2.2.2.1 s.1).bind λa0=>(az s.2.2.2.2.1 (M d5 (IR (M d5 (s.1-1)) 2))).bind λa1=>(fP a0 a1).bind λb2=>bif b2 then Y (.done (.done 8))else Y (.next (M d5 (s.1+1),s.2))else Y (.done (.done 0))
def vu(s:AT):O akO:=bif Md (s.1<(If (PP s.2.2.2.2.1)))then(az s.2.2.2.2.1 s.1).bind λa0=>(m9 (a0.1,a0.2.1)).bind λn1=>bif n1 !=0 then Y (.done 8)else bif Md (a0.2.2.1<0)then Y (.done 8)else bif Md (1000000<a0.2.2.1)then Y (.done 8)else au qG (s.1,0,s.2.1,s.2.2.1,s.2.2.2.1,s.2.2.2.2.1,s.2.2.2.2.2,a0)else au oz (1,s.2)
def xY(F:aM):O Int:=(AS F.ai).bind λn0=>bif n0 !=0 then Y 8 else(y5 F).bind λb1=>bif !b1 then Y 8 else au vu (0,F.ai.aC,F.ai.be,F.ai.bi,F.bv,F.ax)
def apR:=Oc 180 rfl [ayB,ayC,m5,Nv] (gG dO) d7 .pure xY
def xZ(F:Bool×Int×Int)(p1:Bool×Int×Int):O (Bool×Int×Int):=bif Md (F.2.2<p1.2.2)then Y (Sw,M .u64 ((M .u64 (F.2.1-p1.2.1))-1),M .u64 (F.2.2-p1.2.2))else Y (Sw,M .u64 (F.2.1-p1.2.1),M .u64 (F.2.2-p1.2.2))
def ayE:=Oc 384 rfl [] NR Qa .pure (u2 xZ)
def Du(F:Bool×Int×Int)(p1:Bool×Int×Int):O (Bool×Int×Int):=bif F.1==p1.1 then bif Md ((M .u64 (F.2.2+p1.2.2))<F.2.2)then Y (F.1,M .u64 ((M .u64 (F.2.1+p1.2.1))+1),M .u64 (F.2.2+p1.2.2))else Y (F.1,M .u64 (F.2.1+p1.2.1),M .u64 (F.2.2+p1.2.2))else(wQ F p1).bind λn0=>bif Md (0<=n0)then(xZ F p1).bind λa1=>bif F.1 then bif Md (0<a1.2.1)then Y (Pc,a1.2)else Y (Md (0<a1.2.2),a1.2)else Y (Sw,a1.2)else(xZ p1 F).bind λa2=>Y (p1.1,a2.2)
def ayF:=Oc 364 rfl [apP,ayE] NR Qa .pure (u2 Du)
def Gb(F:Int×Int×Int)(p1:Int×Int×Int)(p2:Int×Int):O Int:=(nD (M d5 (F.2.1-p1.2.1)) p2.2).bind λa0=>(nD (M d5 (F.2.2-p1.2.2)) p2.1).bind λa1=>(Du a0 a1).bind λa2=>(o4 a2).bind λn3=>Y n3
def ayG:=Oc 327 rfl [apN,ayF,apO] t6 d7 .pure (u3 Gb)
def na(F:Int×Int×Int)(p1:Int×Int×Int)(p2:Int×Int):O Bool:=(Gb F p1 p2).bind λn0=>bif n0 !=0 then Y (Md (0<n0))else bif F.2.2 !=p1.2.2 then Y (Md (p1.2.2<F.2.2))else Y (Md (F.1<p1.1))
def ZL:=Oc 270 rfl [ayG] t6 Arg.bool .pure (u3 na)
def wR(F:Bool)(p1:Bool×Int×Int)(p2:Bool×Int×Int):O ((Int×Int)×Int):=bif Md (0<p1.2.1)then Y ((0,0),16)else bif Md (9223372036854775807<p1.2.2)then Y ((0,0),16)else bif Md (0<p2.2.1)then Y ((0,0),16)else bif Md (9223372036854775807<p2.2.2)then Y ((0,0),16)else bif F then Y ((M d5 (0- (M d5 p1.2.2)),M d5 p2.2.2),0)else Y ((M d5 p1.2.2,M d5 p2.2.2),0)
def ayH:=Oc 383 rfl [] (bY.cons Arg.bool NR) (tG d6) .pure (u3 wR)
def qH(F:Int)(p1:Int):O ((Int×Int)×Int):=bif p1==0 then Y ((0,0),26)else(kK F).bind λn0=>(kK p1).bind λn1=>(vo n0 n1).bind λn2=>bif !((Md (F<0))==(Md (p1<0)))then(kK F).bind λn3=>bif n2==0 then WF else(kK p1).bind λn4=>bif n2==0 then WF else(wR (F !=0) (Sw,0,M .u64 (IR n3 n2)) (Sw,0,M .u64 (IR n4 n2))).bind λa5=>Y a5 else(kK F).bind λn6=>bif n2==0 then WF else(kK p1).bind λn7=>bif n2==0 then WF else(wR Sw (Sw,0,M .u64 (IR n6 n2)) (Sw,0,M .u64 (IR n7 n2))).bind λa8=>Y a8
def ayI:=Oc 363 rfl [x5,apJ,ayH] (aI gI) (tG d6) .pure (u2 qH)
def Gc(F:Int×Int×Int)(p1:Int×Int×Int):O (Int×Int):=(qH (M d5 (F.2.1-p1.2.1)) (M d5 (p1.2.2-F.2.2))).bind λa0=>Y a0.1
def ayJ:=Oc 326 rfl [ayI] (aG d8 (gG d8)) (Arg.agg d6) .pure (u2 Gc)
def xw(F:Int×Int×Int)(p1:Int×Int×Int)(p2:Int×Int):O ((Int×Int)×Bool):=(na p1 F p2).bind λb0=>bif b0 then Y (p2,Pc)else bif Md (F.2.2<p1.2.2)then(Gc F p1).bind λa1=>Y (a1,Pc)else Y ((0,0),Sw)
def ayK:=Oc 268 rfl [ZL,ayJ] t6 (Arg.cT (aG d6 P')) .pure (u3 xw)
def wS(F:Field)(p1:Int×Int)(p2:Int×Int):O ((Int×Int)×Bool):=(fO F p1.2).bind λn0=>(az F.am n0).bind λa1=>(fO F p1.1).bind λn2=>(az F.am n2).bind λa3=>(xw a1 a3 p2).bind λa4=>Y a4
def akP:=Oc 181 rfl [tW,ayK] (aG aZ Rm) (Arg.cT (aG d6 P')) .pure (u3 wS)
def Dv(F:aM)(p1:Int×Int):O ((Int×Int×Int×Int×Int)×Int):=(xY F).bind λn0=>bif n0 !=0 then Y ((0,0,0,0,0),8)else(zT F.ai p1).bind λb1=>bif !b1 then Y ((0,0,0,0,0),6)else(az F.ax p1.1).bind λn2=>(az F.bv n2).bind λa3=>Y (a3,0)
def ayL:=Oc 182 rfl [apR,apM] T9 (tG ca) .pure (u2 Dv)
abbrev ac8:=Int×Int×Int×Int×aK×Int×aK×(J Int)×(J Bool)×(J Int)×dJ×(J Int)×aK
abbrev apT:=Step ac8 Int
def eF(s:ac8):O apT:=bif Md (s.2.1<(If (PP s.2.2.2.2.2.2.1)))then(az s.2.2.2.2.2.2.1 s.2.1).bind λa0=>(wS (Field.mk s.2.2.2.2.1) a0.2 (s.2.2.1,s.2.2.2.1)).bind λa1=>bif !a1.2 then Y (.next (s.1,M d5 (s.2.1+1),s.2.2))else bif Md ((If (PP s.2.2.2.2.2.2.2.2.2.2.2.2))<=s.1)then Y (.done 8)else(az s.2.2.2.2.2.2.2.2.2.2.2.2 s.1).bind λa2=>bif a2.1 !=a0.1 then Y (.done 8)else(az s.2.2.2.2.2.2.2.2.2.2.2.2 s.1).bind λa3=>(Dv (aM.mk (bg.mk s.2.2.2.2.2.2.2.1 s.2.2.2.2.2.2.2.2.1 s.2.2.2.2.2.2.2.2.2.1) s.2.2.2.2.2.2.2.2.2.2.1 s.2.2.2.2.2.2.2.2.2.2.2.1) a3.2).bind λa4=>bif a4.2 !=0 then Y (.done 8)else bif a4.1.2.2.1 !=a0.1 then Y (.done 8)else bif !((a4.1.1==a1.1.1)&&(a4.1.2.1==a1.1.2))then Y (.done 8)else Y (.next (M d5 (s.1+1),M d5 (s.2.1+1),s.2.2))else bif s.1 !=(If (PP s.2.2.2.2.2.2.2.2.2.2.2.2))then Y (.done 8)else Y (.done 0)
def qI(F:aE):O Int:=(m9 F.io).bind λn0=>bif n0 !=0 then Y 8 else(jI F.jp).bind λn1=>bif n1 !=0 then Y 8 else(xX F.af).bind λn2=>bif n2 !=0 then Y 8 else(AR F.af F.jp).bind λb3=>bif !b3 then Y 8 else(xY F.ae).bind λn4=>bif n4 !=0 then Y 8 else bif(If (PP F.ae.ax)) !=200 then Y 8 else bif(If (PP F.ae.bv)) !=(If (PP F.kw))then Y 8 else au eF (0,0,F.io.1,F.io.2,F.jp.am,F.af.aO,F.af.ii,F.ae.ai.aC,F.ae.ai.be,F.ae.ai.bi,F.ae.bv,F.ae.ax,F.kw)
def Lp:=Oc 97 rfl [m5,Lo,apL,ayA,apR,akP,ayL] (gG bF) d7 .pure qI
def c97(s:Qe):O (Step Qe bS):=bif Md (s.2.1<(If (PP s.1)))then(az s.1 s.2.1).bind λn0=>(az s.1 (M d5 (IR (M d5 (s.2.1-1)) 2))).bind λn1=>(aQ s.2.2 [(n0,n1)]).bind λl2=>Y (.next (s.1,M d5 (s.2.1+1),l2))else Y (.done s.2.2)
def Cn(F:J Int):O bS:=au c97 (F,1,[])
def akQ:=Oc 100 rfl [] (gL ki) Ti .own Cn Pc
def ac9:=Oc 100 rfl [] (gL ki) Ti .eT Cn
def y6(s:(Int×Int×aK×Int×Int)):O (Step (Int×Int×aK×Int×Int) Bool):=bif Md (s.1<(If (PP s.2.2.1)))then(az s.2.2.1 s.1).bind λa0=>bif(a0.2.1==s.2.2.2.1)&&(a0.2.2==s.2.2.2.2)then Y (.done Pc)else Y (.next (M d5 (s.1+1),s.2))else Y (.done Sw)
def Co(F:bA)(p1:Int×Int):O Bool:=au y6 (0,F.aO,F.ii,p1)
def akR:=Oc 183 rfl [] c8 Arg.bool .pure (u2 Co)
def Dw(F:Int×Int)(p1:Field)(p2:Int×Int):O Bool:=(fO p1 F.2).bind λn0=>(az p1.am n0).bind λa1=>(fO p1 F.1).bind λn2=>(az p1.am n2).bind λa3=>(na a1 a3 p2).bind λb4=>Y b4
def ayM:=Oc 184 rfl [tW,ZL] (aG d6 i9) Arg.bool .pure (u3 Dw)
abbrev apU:=bS×Int×Int×Int×aK×Int×aK×(J Int)×(J Bool)×(J Int)×dJ×(J Int)×aK
def xx(s:apU):O (Step apU Bool):=bif Md (s.2.1<(If (PP s.1)))then(az s.1 s.2.1).bind λa0=>(Co (bA.mk s.2.2.2.2.2.1 s.2.2.2.2.2.2.1) a0).bind λb1=>bif !b1 then Y (.done Sw)else(az s.1 s.2.1).bind λa2=>(Dw a2 (Field.mk s.2.2.2.2.1) (s.2.2.1,s.2.2.2.1)).bind λb3=>bif !b3 then Y (.done Sw)else Y (.next (s.1,M d5 (s.2.1+1),s.2.2))else Y (.done Pc)
def sV(F:aE)(p1:J (Int×Int)):O Bool:=bif(If (PP F.af.ii)) !=(If (PP p1))then Y Sw else au xx (p1,0,F.io.1,F.io.2,F.jp.am,F.af.aO,F.af.ii,F.ae.ai.aC,F.ae.ai.be,F.ae.ai.bi,F.ae.bv,F.ae.ax,F.kw)
def Ux:=Oc 99 rfl [akR,ayM] ox Arg.bool .pure (u2 sV)
abbrev aiE:=Int×Int×Int×aK×Int×aK×(J Int)×(J Bool)×(J Int)×dJ×(J Int)×aK×(J Int)
abbrev apV:=Step aiE Int
def vv(s:XP):O (Step XP apV):=bif Md (s.2.1<s.1)then(az s.2.2.2.2.2.2.2.2.2.2.2.2.2 s.2.1).bind λn0=>(az s.2.2.2.2.2.2.2.2.2.2.2.2.2 s.1).bind λn1=>bif n0==n1 then Y (.done (.done 8))else Y (.next (s.1,M d5 (s.2.1+1),s.2.2))else Y (.done (.next (M d5 (s.1+1),s.2.2)))
def qJ(s:aiE):O apV:=bif Md (s.1<(If (PP s.2.2.2.2.2.2.2.2.2.2.2.2)))then(az s.2.2.2.2.2.2.2.2.2.2.2.2 s.1).bind λn0=>(fO (Field.mk s.2.2.2.1) n0).bind λn1=>bif Md (n1<0)then Y (.done 8)else au vv (s.1,0,s.2)else(Cn s.2.2.2.2.2.2.2.2.2.2.2.2).bind λl2=>(sV (aE.mk (s.2.1,s.2.2.1) (Field.mk s.2.2.2.1) (bA.mk s.2.2.2.2.1 s.2.2.2.2.2.1) (aM.mk (bg.mk s.2.2.2.2.2.2.1 s.2.2.2.2.2.2.2.1 s.2.2.2.2.2.2.2.2.1) s.2.2.2.2.2.2.2.2.2.1 s.2.2.2.2.2.2.2.2.2.2.1) s.2.2.2.2.2.2.2.2.2.2.2.1) l2).bind λb3=>bif !b3 then Y (.done 8)else Y (.done 0)
def iq(F:bD):O Int:=(qI F.lc).bind λn0=>bif n0 !=0 then Y 8 else bif(If (PP F.bv)) !=(If (PP F.lc.jp.am))then Y 8 else au qJ (0,F.lc.io.1,F.lc.io.2,F.lc.jp.am,F.lc.af.aO,F.lc.af.ii,F.lc.ae.ai.aC,F.lc.ae.ai.be,F.lc.ae.ai.bi,F.lc.ae.bv,F.lc.ae.ax,F.lc.kw,F.bv)
def Jo:=Oc 48 rfl [Lp,tW,akQ,ac9,Ux] (gG eY) d7 .pure iq
abbrev ZM:=(J Int)×Int×Int
def vw(s:ZM):O (Step ZM (Step ((J Int)×Int) Bool)):=bif Md (s.2.2<s.2.1)then(az s.1 s.2.1).bind λn0=>bif Md (0<=n0)then(az s.1 s.2.2).bind λn1=>(az s.1 s.2.1).bind λn2=>bif n1==n2 then Y (.done (.done Pc))else Y (.next (s.1,s.2.1,M d5 (s.2.2+1)))else Y (.next (s.1,s.2.1,M d5 (s.2.2+1)))else Y (.done (.next (s.1,M d5 (s.2.1+1))))
def vz(s:((J Int)×Int)):O (Step ((J Int)×Int) Bool):=bif Md (s.2<(If (PP s.1)))then au vw (s.1,s.2,0)else Y (.done Sw)
def Fj(F:J Int):O Bool:=au vz (F,0)
def ayN:=Oc 185 rfl [] (gL ki) Arg.bool .pure Fj
def mi(F:bz)(p1:Int):O Int:=bif Md (p1<(If (PP F.k9)))then(az F.k9 p1).bind λn0=>Y n0 else(az F.aX (M d5 (p1- (If (PP F.k9))))).bind λn1=>Y n1
def ui:=Oc 186 rfl [] (aG fq gI) d7 .pure (u2 mi)
def qK(s:(Int×(J Int)×(J Int))):O (Step (Int×(J Int)×(J Int)) (Step (Int×Int×(J Int)×(J Int)) Int)):=bif Md (s.1<(If (PP s.2.2)))then(mi (bz.mk s.2.1 s.2.2) (M d5 ((M d5 (2*s.1))+1))).bind λn0=>(mi (bz.mk s.2.1 s.2.2) (M d5 ((M d5 (2*s.1))+2))).bind λn1=>(az s.2.2 s.1).bind λn2=>bif n2 !=n0 then(az s.2.2 s.1).bind λn3=>bif n3 !=n1 then Y (.done (.done 8))else(az s.2.2 s.1).bind λn4=>bif n4==(-1)then bif n0 !=(-1)then Y (.done (.done 8))else bif n1 !=(-1)then Y (.done (.done 8))else Y (.next (M d5 (s.1+1),s.2))else Y (.next (M d5 (s.1+1),s.2))else(az s.2.2 s.1).bind λn5=>bif n5==(-1)then bif n0 !=(-1)then Y (.done (.done 8))else bif n1 !=(-1)then Y (.done (.done 8))else Y (.next (M d5 (s.1+1),s.2))else Y (.next (M d5 (s.1+1),s.2))else Y (.done (.done 0))
def vA(s:(Int×Int×(J Int)×(J Int))):O (Step (Int×Int×(J Int)×(J Int)) Int):=bif Md (s.2.1<s.1)then(az s.2.2.1 s.2.1).bind λn0=>bif Md (n0<(-1))then Y (.done 8)else(az s.2.2.1 s.2.1).bind λn1=>bif Md (65535<n1)then Y (.done 8)else Y (.next (s.1,M d5 (s.2.1+1),s.2.2))else au qK (0,s.2.2)
def AU(F:bz):O Int:=bif Md ((If (PP F.aX))<1)then Y 8 else bif Md (64<(If (PP F.aX)))then Y 8 else bif(If (PP F.k9)) !=(M d5 ((If (PP F.aX))-1))then Y 8 else(Fj F.aX).bind λb0=>bif b0 then Y 8 else au vA (If (PP F.aX),0,F.aX,F.k9)
def ayO:=Oc 101 rfl [ayN,ui] (gG fq) d7 .pure AU
def zV(s:(Int×Int)):O (Step (Int×Int) Bool):=bif Md (s.2<=64)then bif s.1==s.2 then Y (.done Pc)else Y (.next (s.1,M d5 (s.2*2)))else Y (.done Sw)
def Fk(F:Int):O Bool:=au zV (F,1)
def ayP:=Oc 102 rfl [] gI Arg.bool .pure Fk
def vB(s:((J Int)×Int×aK)):O (Step ((J Int)×Int×aK) Bool):=bif Md (s.2.1<(If (PP s.1)))then(az s.1 s.2.1).bind λn0=>bif n0 !=(-1)then(az s.1 s.2.1).bind λn1=>(fO (Field.mk s.2.2) n1).bind λn2=>bif Md (n2<0)then Y (.done Sw)else Y (.next (s.1,M d5 (s.2.1+1),s.2.2))else Y (.next (s.1,M d5 (s.2.1+1),s.2.2))else Y (.done Pc)
def AV(F:Field)(p1:J Int):O Bool:=au vB (p1,0,F.am)
def ayQ:=Oc 103 rfl [tW] m7 Arg.bool .pure (u2 AV)
def y7(s:((J Int)×Int×(J Int))):O (Step ((J Int)×Int×(J Int)) (J Int)):=bif Md (s.2.1<(If (PP s.1)))then(az s.1 s.2.1).bind λn0=>bif Md (0<=n0)then(az s.1 s.2.1).bind λn1=>(aQ s.2.2 [n1]).bind λl2=>Y (.next (s.1,M d5 (s.2.1+1),l2))else Y (.next (s.1,M d5 (s.2.1+1),s.2.2))else Y (.done s.2.2)
def Kg(F:J Int):O (J Int):=au y7 (F,0,[])
def ayR:=Oc 104 rfl [] (gL ki) t7 .eT Kg
def Cp(F:Field)(p1:Int×Int)(p2:Int)(p3:Int):O Int:=bif Md (p2<0)then Y p3 else bif Md (p3<0)then Y p2 else(fO F p2).bind λn0=>(az F.am n0).bind λa1=>(fO F p3).bind λn2=>(az F.am n2).bind λa3=>(na a1 a3 p1).bind λb4=>bif b4 then Y p2 else Y p3
def apW:=Oc 187 rfl [tW,ZL] Wu d7 .pure (λa=>Cp a.1 a.2.1 a.2.2.1 a.2.2.2)
def xy(s:(Int×(J Int)×(J Int)×aK×Int×Int)):O (Step (Int×(J Int)×(J Int)×aK×Int×Int) Bool):=bif Md (s.1<(If (PP s.2.2.1)))then(az s.2.2.1 s.1).bind λn0=>(mi (bz.mk s.2.1 s.2.2.1) (M d5 ((M d5 (2*s.1))+1))).bind λn1=>(mi (bz.mk s.2.1 s.2.2.1) (M d5 ((M d5 (2*s.1))+2))).bind λn2=>(Cp (Field.mk s.2.2.2.1) s.2.2.2.2 n1 n2).bind λn3=>bif n0 !=n3 then Y (.done Sw)else Y (.next (M d5 (s.1+1),s.2))else Y (.done Pc)
def HF(F:bz)(p1:Field)(p2:Int×Int):O Bool:=au xy (0,F.aX,F.k9,p1.am,p2)
def ayS:=Oc 105 rfl [ui,apW] (aG fq i9) Arg.bool .pure (u3 HF)
def AW(s:(Int×(J Int)×(J Int)×bS)):O (Step (Int×(J Int)×(J Int)×bS) bS):=bif Md (s.1<(If (PP s.2.2.1)))then(mi (bz.mk s.2.1 s.2.2.1) (M d5 ((M d5 (2*s.1))+1))).bind λn0=>(mi (bz.mk s.2.1 s.2.2.1) (M d5 ((M d5 (2*s.1))+2))).bind λn1=>bif Md (n0<0)then Y (.next (M d5 (s.1+1),s.2))else bif Md (n1<0)then Y (.next (M d5 (s.1+1),s.2))else(az s.2.2.1 s.1).bind λn2=>bif n2==n0 then(aQ s.2.2.2 [(n1,n0)]).bind λl3=>Y (.next (M d5 (s.1+1),s.2.1,s.2.2.1,l3))else(aQ s.2.2.2 [(n0,n1)]).bind λl4=>Y (.next (M d5 (s.1+1),s.2.1,s.2.2.1,l4))else Y (.done s.2.2.2)
def IU(F:bz):O bS:=au AW (0,F.aX,F.k9,[])
def apX:=Oc 106 rfl [ui] (gG fq) Ti .eT IU
def ir(F:bB):O Int:=(qI F.lc).bind λn0=>bif n0 !=0 then Y 8 else(AU F.ls).bind λn1=>bif n1 !=0 then Y 8 else(Fk (If (PP F.ls.aX))).bind λb2=>bif !b2 then Y 8 else(AV F.lc.jp F.ls.aX).bind λb3=>bif !b3 then Y 8 else(Kg F.ls.aX).bind λl4=>bif(If (PP l4)) !=(If (PP F.lc.jp.am))then Y 8 else(HF F.ls F.lc.jp F.lc.io).bind λb5=>bif !b5 then Y 8 else(IU F.ls).bind λl6=>(sV F.lc l6).bind λb7=>bif !b7 then Y 8 else Y 0
def Yf:=Oc 49 rfl [Lp,ayO,ayP,ayQ,ayR,ayS,apX,Ux] (gG dI) d7 .pure ir
def nb(s:(Int×Int×Int×aK×Int×Int)):O (Step (Int×Int×Int×aK×Int×Int) Int):=bif Md (s.2.2.1<s.1)then bif Md (s.2.1<0)then Y (.next (s.1,s.2.2.1,M d5 (s.2.2.1+1),s.2.2.2))else(az s.2.2.2.1 s.2.2.1).bind λa0=>(az s.2.2.2.1 s.2.1).bind λa1=>(na a0 a1 s.2.2.2.2).bind λb2=>bif b2 then Y (.next (s.1,s.2.2.1,M d5 (s.2.2.1+1),s.2.2.2))else Y (.next (s.1,s.2.1,M d5 (s.2.2.1+1),s.2.2.2))else Y (.done s.2.1)
def Cq(F:Field)(p1:Int×Int)(p2:Int)(p3:Int):O Int:=au nb (p3,-1,p2,F.am,p1)
def apY:=Oc 328 rfl [ZL] Wu d7 .pure (λa=>Cq a.1 a.2.1 a.2.2.1 a.2.2.2)
abbrev Uy:=aK×Int×Int×Int×Int×Int×aK
def ic(self:Uy->O Rp)(a:Uy):O Rp:=(Cq (Field.mk a.1) (a.2.1,a.2.2.1) a.2.2.2.2.1 a.2.2.2.2.2.1).bind λn0=>bif Md (0<=n0)then(self (a.1,a.2.1,a.2.2.1,a.2.2.2.1,a.2.2.2.2.1,n0,a.2.2.2.2.2.2)).bind λa1=>(az a1.2 n0).bind λa2=>(self (a.1,a.2.1,a.2.2.1,a.2.2.2.1,M d5 (n0+1),a.2.2.2.2.2.1,bu a1.2 n0 (a2.1,a1.1,a2.2.2))).bind λa3=>(az a3.2 n0).bind λa4=>bif((bu a3.2 n0 (a4.1,a4.2.1,a3.1)).length)==(PP a.2.2.2.2.2.2)then Y (n0,bu a3.2 n0 (a4.1,a4.2.1,a3.1))else WF else bif(PP a.2.2.2.2.2.2)==(PP a.2.2.2.2.2.2)then Y (n0,a.2.2.2.2.2.2)else WF
def mj:Nat->Uy->O Rp |0,_=>WF |n+1,a=>ic (mj n) a
def wT(a:Uy):O Rp:=mj 1000000 a
def akS:eZ:=⟨[.l [.i d5,.i d5,.i d5],.i,.i,.i,.i,.i,.l [.i d5,.i d5,.i d5]],[.agg [.sl [.i d5,.i d5,.i d5] []],.agg [.int d5 0,.int d5 0],.agg [.int d5 0,.own 0 Sw],.int d5 0,.int d5 0],[.arr [.i d5,.i d5,.i d5] []],[.i,.l [.i d5,.i d5,.i d5]],.int d5 0,[.arr [.i d5,.i d5,.i d5] []],λa=>wT a⟩
theorem ajY: ∀n,jg nq 271 ⟨[.l [.i d5,.i d5,.i d5],.i,.i,.i,.i,.i,.l [.i d5,.i d5,.i d5]],[.agg [.sl [.i d5,.i d5,.i d5] []],.agg [.int d5 0,.int d5 0],.agg [.int d5 0,.own 0 Sw],.int d5 0,.int d5 0],[.arr [.i d5,.i d5,.i d5] []],[.i,.l [.i d5,.i d5,.i d5]],.int d5 0,[.arr [.i d5,.i d5,.i d5] []],λa=>mj n a⟩
 |0=>jg.zero (λ_=>rfl)
 |n+1=>jg.of rfl (wd:=Sw) (cx:=(xN k7 [(328,apY.c)] [(271,⟨[.l [.i d5,.i d5,.i d5],.i,.i,.i,.i,.i,.l [.i d5,.i d5,.i d5]],[.agg [.sl [.i d5,.i d5,.i d5] []],.agg [.int d5 0,.int d5 0],.agg [.int d5 0,.own 0 Sw],.int d5 0,.int d5 0],[.arr [.i d5,.i d5,.i d5] []],[.i,.l [.i d5,.i d5,.i d5]],.int d5 0,[.arr [.i d5,.i d5,.i d5] []],λa=>mj n a⟩)] [] [])) (sL.make ⟨apY.ok,trivial⟩ ⟨(ajY n),trivial⟩ trivial) (λa=>by kernel_rfl)
theorem c99:jg nq 271 akS:=ajY 1000000
abbrev apZ:=Int×aK×Int×Int×Int×Int×aK
def rY(s:apZ):O (Step apZ Tree):=bif Md (s.1<(If (PP s.2.1)))then(az s.2.1 s.1).bind λa0=>(aQ s.2.2.2.2.2.2 [(a0.1,0,0)]).bind λl1=>Y (.next (M d5 (s.1+1),s.2.1,s.2.2.1,s.2.2.2.1,s.2.2.2.2.1,s.2.2.2.2.2.1,l1))else(wT (s.2.1,s.2.2.1,s.2.2.2.1,s.2.2.2.2.2.1,0,If (PP s.2.1),s.2.2.2.2.2.2)).bind λa2=>Y (.done (Tree.mk a2.1 a2.2))
def HG(F:Field)(p1:Int×Int):O Tree:=au rY (0,F.am,p1.1,p1.2,0,0,[])
def ayT:=Oe 188 rfl [] [⟨271,_,c99⟩] [] i9 X9 .eT (u2 HG)
def zW(F:Field)(p1:Int×Int):O Tree:=(HG F p1).bind λr0=>Y r0
def ap0:=Oc 107 rfl [ayT] i9 X9 .eT (u2 zW)
abbrev ap1:=Step (Int×Int×aK×bS) bS
def uh(s:(Int×Int×Int×aK×bS)):O (Step (Int×Int×Int×aK×bS) ap1):=bif Md (s.2.1<(If (PP s.2.2.2.1)))then(az s.2.2.2.1 s.2.1).bind λa0=>bif a0.2.1==s.1 then(az s.2.2.2.1 s.1).bind λa1=>(az s.2.2.2.1 s.2.1).bind λa2=>(aQ s.2.2.2.2 [(a1.1,a2.1)]).bind λl3=>Y (.next (s.1,M d5 (s.2.1+1),s.2.2.1,s.2.2.2.1,l3))else(az s.2.2.2.1 s.2.1).bind λa4=>bif a4.2.2==s.1 then(az s.2.2.2.1 s.1).bind λa5=>(az s.2.2.2.1 s.2.1).bind λa6=>(aQ s.2.2.2.2 [(a5.1,a6.1)]).bind λl7=>Y (.next (s.1,M d5 (s.2.1+1),s.2.2.1,s.2.2.2.1,l7))else Y (.next (s.1,M d5 (s.2.1+1),s.2.2))else Y (.done (.next (M d5 (s.1+1),s.2.2)))
def ya(s:(Int×Int×aK×bS)):O ap1:=bif Md (s.1<(If (PP s.2.2.1)))then au uh (s.1,0,s.2)else Y (.done s.2.2.2)
def Fl(F:Tree):O bS:=au ya (0,F.lw,F.pp,[])
def ap3:=Oc 108 rfl [] (gG sM) Ti .eT Fl
def iu(F:bq):O Int:=(qI F.lc).bind λn0=>bif n0 !=0 then Y 8 else(zW F.lc.jp F.lc.io).bind λr1=>(ud r1 F.ut).bind λb2=>bif !b2 then Y 8 else(Fl r1).bind λl3=>(sV F.lc l3).bind λb4=>bif !b4 then Y 8 else Y 0
def Uz:=Oc 50 rfl [Lp,ap0,c60,ap3,Ux] (gG cP) d7 .pure iu
def pD(s:(Int×Int×aK×Int×Int×Int×Int×Int)):O (Step (Int×Int×aK×Int×Int×Int×Int×Int) Int):=bif Md (s.2.1<(If (PP s.2.2.1)))then(az s.2.2.1 s.2.1).bind λa0=>bif a0.1 !=s.2.2.2.1 then(az s.2.2.1 s.2.1).bind λa1=>(na a1 (s.2.2.2.1,s.2.2.2.2.1,s.2.2.2.2.2.1) s.2.2.2.2.2.2).bind λb2=>bif b2 then Y (.next (M d5 (s.1+1),M d5 (s.2.1+1),s.2.2))else Y (.next (s.1,M d5 (s.2.1+1),s.2.2))else Y (.next (s.1,M d5 (s.2.1+1),s.2.2))else Y (.done s.1)
def y8(F:Field)(p1:Int×Int×Int)(p2:Int×Int):O Int:=au pD (0,0,F.am,p1.1,p1.2.1,p1.2.2,p2)
def ayU:=Oc 272 rfl [ZL] (aG aZ (aG d8 (gG d6))) d7 .pure (u3 y8)
abbrev XV:=Int×aK×Int×Int×(J Int)
abbrev akT:=Step XV (J Int)
def oA(s:XV):O akT:=bif Md (s.1<(If (PP s.2.1)))then(az s.2.1 s.1).bind λa0=>(y8 (Field.mk s.2.1) a0 (s.2.2.1,s.2.2.2.1)).bind λn1=>(az s.2.1 s.1).bind λa2=>(az s.2.2.2.2 n1).bind λ_=>Y (.next (M d5 (s.1+1),s.2.1,s.2.2.1,s.2.2.2.1,bu s.2.2.2.2 n1 a2.1))else Y (.done s.2.2.2.2)
def xz(F:Field)(p1:Int×Int):O (J Int):=bif(If (PP F.am))==(If (PP F.am))then(rF (If (PP F.am)) (0:Int)).bind λl0=>au oA (0,F.am,p1.1,p1.2,l0)else WF
def ayV:=Oc 190 rfl [ayU] i9 t7 .eT (u2 xz)
def rZ(c0:(ZM->(O bS)))(s:((J Int)×Int×Int×Int×bS×(J Int))):O (Step ((J Int)×Int×Int×Int×bS×(J Int)) O2):=bif Md (s.2.2.2.1<(If (PP s.1)))then(az s.1 s.2.2.2.1).bind λn0=>bif Md (s.2.1<0)then WF else bif(NE (lR d5 n0 s.2.1) 2)==s.2.2.1 then(az s.1 s.2.2.2.1).bind λn1=>(aQ s.2.2.2.2.2 [n1]).bind λl2=>Y (.next (s.1,s.2.1,s.2.2.1,M d5 (s.2.2.2.1+1),s.2.2.2.2.1,l2))else Y (.next (s.1,s.2.1,s.2.2.1,M d5 (s.2.2.2.1+1),s.2.2.2.2))else(az s.1 0).bind λn3=>(c0 (s.2.2.2.2.2,n3,M d5 (s.2.1+1))).bind λl4=>bif l4.isEmpty then Y (.done (.next (s.1,s.2.1,M d5 (s.2.2.1+1),s.2.2.2.2.1)))else(aQ s.2.2.2.2.1 l4).bind λl5=>Y (.done (.next (s.1,s.2.1,M d5 (s.2.2.1+1),l5)))
def c48(c0:(ZM->(O bS)))(s:ZN):O O2:=bif Md (s.2.2.1<2)then au (rZ c0) (s.1,s.2.1,s.2.2.1,1,s.2.2.2,[])else Y (.done s.2.2.2)
def Dx(self:(J Int)×Int×Int->O bS)(a:(J Int)×Int×Int):O bS:=bif(If (PP a.1))==0 then Y []else(az a.1 0).bind λn0=>au (c48 self) (a.1,a.2.2,0,[(n0,a.2.1)])
def vC:Nat->(J Int)×Int×Int->O bS |0,_=>WF |n+1,a=>Dx (vC n) a
def HH(F:J Int)(p1:Int)(p2:Int):O bS:=vC 1000000 (F,p1,p2)
theorem ace: ∀n,mQ nq 189 ⟨bY.cons (Arg.sl ki) (bY.cons (Arg.int d5) (bY.one (Arg.int d5))),Arg.sl eC,λa=>vC n a,.eT,Sw⟩
 |0=>mQ.zero (λ_=>rfl)
 |n+1=>qc9 rfl k7 [(189,⟨bY.cons (Arg.sl ki) (bY.cons (Arg.int d5) (bY.one (Arg.int d5))),Arg.sl eC,λa=>vC n a,.eT,Sw⟩)] ⟨(ace n),trivial⟩
def ayW:Ce:=⟨189,⟨bY.cons (Arg.sl ki) (bY.cons (Arg.int d5) (bY.one (Arg.int d5))),Arg.sl eC,λa=>HH a.1 a.2.1 a.2.2,.eT,Sw⟩,ace 1000000⟩
def AX(s:(bS×Int×aK×(J Int))):O (Step (bS×Int×aK×(J Int)) (J Int)):=bif Md (s.2.1<(If (PP s.1)))then(az s.1 s.2.1).bind λa0=>(fO (Field.mk s.2.2.1) a0.1).bind λn1=>(az s.1 s.2.1).bind λa2=>(az s.2.2.2 n1).bind λ_=>Y (.next (s.1,M d5 (s.2.1+1),s.2.2.1,bu s.2.2.2 n1 a2.2))else Y (.done s.2.2.2)
def Fm(F:Field)(p1:Int×Int):O (J Int):=(xz F p1).bind λl0=>(HH l0 (-1) 0).bind λl1=>bif(If (PP F.am))==(If (PP F.am))then(rF (If (PP F.am)) (0:Int)).bind λl2=>au AX (l1,0,F.am,l2)else WF
def ap4:=Oc 109 rfl [ayV,ayW,tW] i9 t7 .eT (u2 Fm)
def AY(s:((J Int)×Int×aK×bS)):O (Step ((J Int)×Int×aK×bS) bS):=bif Md (s.2.1<(If (PP s.1)))then(az s.1 s.2.1).bind λn0=>bif Md (0<=n0)then(az s.2.2.1 s.2.1).bind λa1=>(az s.1 s.2.1).bind λn2=>(aQ s.2.2.2 [(a1.1,n2)]).bind λl3=>Y (.next (s.1,M d5 (s.2.1+1),s.2.2.1,l3))else Y (.next (s.1,M d5 (s.2.1+1),s.2.2))else Y (.done s.2.2.2)
def IV(F:Field)(p1:J Int):O bS:=au AY (p1,0,F.am,[])
def ap5:=Oc 110 rfl [] m7 Ti .eT (u2 IV)
def iv(F:bE):O Int:=(qI F.lc).bind λn0=>bif n0 !=0 then Y 8 else(Fm F.lc.jp F.lc.io).bind λl1=>(fW l1 F.up).bind λb2=>bif !b2 then Y 8 else(IV F.lc.jp l1).bind λl3=>(sV F.lc l3).bind λb4=>bif !b4 then Y 8 else Y 0
def WJ:=Oc 51 rfl [Lp,ap4,Og,ap5,Ux] (gG cQ) d7 .pure iv
def qL(F:Int×Int):O Int:=(m9 F).bind λn0=>bif n0 !=0 then(m9 F).bind λn1=>Y n1 else bif Md (1073741824<F.1)then Y 2 else bif Md (F.1<(-1073741824))then Y 2 else bif Md (1024<F.2)then Y 2 else Y 0
def c52:=Oc 52 rfl [m5] (gG d6) d7 .pure qL
def ZO(F:Choice)(n:Int):O Int:=bif n !=0 then Y 8 else(fv F).bind λr=>(qL r.io).bind λm=>bif m !=0 then Y 8 else Y 0
def XY(F:Choice):O Int:=bif F.v6==1 then(iq F.bv).bind λn=>ZO F n else bif F.v6==2 then(ir F.dd).bind λn=>ZO F n else bif F.v6==3 then(iu F.bW).bind λn=>ZO F n else bif F.v6==4 then(iv F.bN).bind λn=>ZO F n else Y 8
def Tx(F:Choice):O Int:=bif F.v6 !=4 then(kJ F.bN kS.bN).bind λb=>bif !b then Y 8 else XY F else XY F
def XN(F:Choice):O Int:=bif F.v6 !=3 then(kI F.bW kS.bW).bind λb=>bif !b then Y 8 else Tx F else Tx F
def Tw(F:Choice):O Int:=bif F.v6 !=2 then(kH F.dd kS.dd).bind λb=>bif !b then Y 8 else XN F else XN F
def eg(F:Choice):O Int:=bif F.v6 !=1 then(kF F.bv kS.bv).bind λb=>bif !b then Y 8 else Tw F else Tw F
def NW:=Oc 24 rfl [c26,c27,c28,c29,Jo,Yf,Uz,WJ,c6,c52] (gG bP) d7 .pure eg
abbrev ap8:=Bool×Int×aK×Int×Int×Int×aK
def jw(s:ap8):O (Step ap8 (Field×Int)):=match s with |(a,b,d,e,f,g,h)=>bif Md (b<(If (PP d)))then bif !a then(az d b).bind λa0=>bif Md (e<a0.1)then(aQ h [(e,f,g)]).bind λl1=>(az d b).bind λa2=>(aQ l1 [a2]).bind λl3=>Y (.next (Pc,M d5 (b+1),d,e,f,g,l3))else(az d b).bind λa4=>(aQ h [a4]).bind λl5=>Y (.next (a,M d5 (b+1),d,e,f,g,l5))else(az d b).bind λa6=>(aQ h [a6]).bind λl7=>Y (.next (a,M d5 (b+1),d,e,f,g,l7))else bif !a then(aQ h [(e,f,g)]).bind λl8=>Y (.done (Field.mk l8,0))else Y (.done (Field.mk h,0))
def j8(F:Field)(p1:Int×Int×Int):O (Field×Int):=(jI F).bind λn0=>bif n0 !=0 then Y (Field.mk [],n0)else(ug p1).bind λn1=>bif n1 !=0 then Y (Field.mk [],8)else(fO F p1.1).bind λn2=>bif Md (0<=n2)then Y (Field.mk [],14)else bif(If (PP F.am))==64 then Y (Field.mk [],18)else au jw (Sw,0,F.am,p1.1,p1.2.1,p1.2.2,[])
def ek:=Oc 193 rfl [Lo,x6,tW] Z7 (tG aZ) .eT (u2 j8)
def oP(F:Field)(p1:Int×Int)(p2:Int)(p3:Int):O Bool:=(fO F p2).bind λn0=>(az F.am n0).bind λa1=>(fO F p3).bind λn2=>(az F.am n2).bind λa3=>(na a1 a3 p1).bind λb4=>Y b4
def akX:=Oc 274 rfl [tW,ZL] Wu Arg.bool .pure (λa=>oP a.1 a.2.1 a.2.2.1 a.2.2.2)
def vD(s:XV):O akT:=bif Md (0<s.1)then(az s.2.2.2.2 s.1).bind λn0=>(az s.2.2.2.2 (M d5 (IR (M d5 (s.1-1)) 2))).bind λn1=>(oP (Field.mk s.2.1) (s.2.2.1,s.2.2.2.1) n0 n1).bind λb2=>bif b2 then(az s.2.2.2.2 (M d5 (IR (M d5 (s.1-1)) 2))).bind λn3=>(az s.2.2.2.2 s.1).bind λn4=>(az s.2.2.2.2 s.1).bind λ_=>(az (bu s.2.2.2.2 s.1 n3) (M d5 (IR (M d5 (s.1-1)) 2))).bind λ_=>Y (.next (M d5 (IR (M d5 (s.1-1)) 2),s.2.1,s.2.2.1,s.2.2.2.1,bu (bu s.2.2.2.2 s.1 n3) (M d5 (IR (M d5 (s.1-1)) 2)) n4))else Y (.done s.2.2.2.2)else Y (.done s.2.2.2.2)
def uj(F:Field)(p1:Int×Int)(p2:J Int)(p3:Int):O (J Int):=(bL p2).bind λl0=>au vD (p3,F.am,p1.1,p1.2,l0)
abbrev GF:=aG aZ (aG d6 t8)
def ap9:=Oc 195 rfl [akX] GF t7 .own (λa=>uj a.1 a.2.1 a.2.2.1 a.2.2.2) Pc
def aiF:=Oc 195 rfl [akX] GF t7 .eT (λa=>uj a.1 a.2.1 a.2.2.1 a.2.2.2)
def AZ(s:(bS×Int×Int×Int)):O (Step (bS×Int×Int×Int) Bool):=bif Md (s.2.1<(If (PP s.1)))then(az s.1 s.2.1).bind λa0=>bif(a0.1==s.2.2.1)&&(a0.2==s.2.2.2)then Y (.done Pc)else Y (.next (s.1,M d5 (s.2.1+1),s.2.2))else Y (.done Sw)
def IW(F:J (Int×Int))(p1:Int×Int):O Bool:=au AZ (F,0,p1)
def ayX:=Oc 329 rfl [] GY Arg.bool .pure (u2 IW)
abbrev ap':=Int×Int×Int×aK×Int×Int×aK
def oB(s:ap'):O (Step ap' bA):=bif Md (s.2.1<(If (PP s.2.2.2.1)))then(az s.2.2.2.1 s.2.1).bind λa0=>bif a0.1 !=s.1 then(az s.2.2.2.1 s.2.1).bind λa1=>(aQ s.2.2.2.2.2.2 [a1]).bind λl2=>Y (.next (s.1,M d5 (s.2.1+1),s.2.2.1,s.2.2.2.1,s.2.2.2.2.1,s.2.2.2.2.2.1,l2))else Y (.next (s.1,M d5 (s.2.1+1),s.2.2))else Y (.done (bA.mk s.2.2.2.2.2.1 s.2.2.2.2.2.2))
def BG(F:bA)(p1:Int):O bA:=au oB (p1,0,F.aO,F.ii,0,F.aO,[])
def ayY:=Oc 365 rfl [] (aG jb gI) (Arg.agg jb) .eT (u2 BG)
def zX(s:ac8):O apT:=bif Md (s.2.1<(If (PP s.2.2.2.2.2.2.2.2.2.2.2.2)))then(az s.2.2.2.2.2.2.2.2.2.2.2.2 s.2.1).bind λa0=>bif a0.1==s.1 then Y (.done s.2.1)else Y (.next (s.1,M d5 (s.2.1+1),s.2.2))else Y (.done (-1))
def yb(F:aE)(p1:Int):O Int:=au zX (p1,0,F.io.1,F.io.2,F.jp.am,F.af.aO,F.af.ii,F.ae.ai.aC,F.ae.ai.be,F.ae.ai.bi,F.ae.bv,F.ae.ax,F.kw)
def aqa:=Oc 366 rfl [] (aG bF gI) d7 .pure (u2 yb)
def uo(F:bg)(p1:Int×Int):O bg:=(qn F).bind λr0=>(az r0.be p1.1).bind λ_=>(aQ r0.bi [p1.1]).bind λl2=>Y (bg.mk r0.aC (bu r0.be p1.1 Sw) l2)
def ayZ:=Oc 386 rfl [X7,XS] Fw (Arg.agg ja) .eT (u2 uo)
abbrev akY:=(J Int)×(J Bool)×(J Int)×dJ×(J Int)
def iw(a:x8):O akY:=(az a.2.2.2.2.2.1 a.2.1).bind λa0=>(az a.2.2.2.2.2.1 a.1).bind λa1=>(az a.2.2.2.2.2.1 a.1).bind λ_=>(az (bu a.2.2.2.2.2.1 a.1 a0) a.2.1).bind λ_=>(az (bu (bu a.2.2.2.2.2.1 a.1 a0) a.2.1 a1) a.1).bind λa4=>(az (bu (bu a.2.2.2.2.2.1 a.1 a0) a.2.1 a1) a.2.1).bind λa5=>(az a.2.2.2.2.2.2 a4.2.2.2.1).bind λ_=>(az (bu a.2.2.2.2.2.2 a4.2.2.2.1 a.1) a5.2.2.2.1).bind λ_=>bif(PP a.2.2.1)==(PP a.2.2.1)then bif(PP a.2.2.2.1)==(PP a.2.2.2.1)then bif(PP a.2.2.2.2.1)==(PP a.2.2.2.2.1)then bif((bu (bu a.2.2.2.2.2.1 a.1 a0) a.2.1 a1).length)==(PP a.2.2.2.2.2.1)then bif((bu (bu a.2.2.2.2.2.2 a4.2.2.2.1 a.1) a5.2.2.2.1 a.2.1).length)==(PP a.2.2.2.2.2.2)then Y (a.2.2.1,a.2.2.2.1,a.2.2.2.2.1,bu (bu a.2.2.2.2.2.1 a.1 a0) a.2.1 a1,bu (bu a.2.2.2.2.2.2 a4.2.2.2.1 a.1) a5.2.2.2.1 a.2.1)else WF else WF else WF else WF else WF
def Kh:eZ:=⟨[.i,.i,.l [.i d5],.l [.b],.l [.i d5],.l [.i d5,.i d5,.i d5,.i d5,.i d5],.l [.i d5]],[.agg [.own 0 Sw,.own 1 Sw,.own 2 Sw,.own 3 Sw,.own 4 Sw],.int d5 0,.int d5 0],[.arr [.i d5] [],.arr [.b] [],.arr [.i d5] [],.arr [.i d5,.i d5,.i d5,.i d5,.i d5] [],.arr [.i d5] []],[.l [.i d5],.l [.b],.l [.i d5],.l [.i d5,.i d5,.i d5,.i d5,.i d5],.l [.i d5]],.cT [],[.arr [.i d5] [],.arr [.b] [],.arr [.i d5] [],.arr [.i d5,.i d5,.i d5,.i d5,.i d5] [],.arr [.i d5] []],λa=>iw a⟩
theorem zi:jg nq 385 Kh:=jg.of rfl (wd:=Sw) (cx:=(xN k7 [] [] [] [])) (sL.make trivial trivial trivial) (λa=>by kernel_rfl)
def jj(a:((J Int)×(J Bool)×(J Int)×Nat×Nat×Int×Int×dJ×(J Int))):O GU:=(az (a.2.2.2.2.2.2.2.1.take a.2.2.2.1) a.2.2.2.2.2.2.1).bind λa0=>(az (a.2.2.2.2.2.2.2.1.take a.2.2.2.1) a.2.2.2.2.2.1).bind λa1=>(az (a.2.2.2.2.2.2.2.1.take a.2.2.2.1) a.2.2.2.2.2.1).bind λ_=>(az ((bu a.2.2.2.2.2.2.2.1 a.2.2.2.2.2.1 a0).take a.2.2.2.1) a.2.2.2.2.2.2.1).bind λ_=>(az ((bu (bu a.2.2.2.2.2.2.2.1 a.2.2.2.2.2.1 a0) a.2.2.2.2.2.2.1 a1).take a.2.2.2.1) a.2.2.2.2.2.1).bind λa4=>(az ((bu (bu a.2.2.2.2.2.2.2.1 a.2.2.2.2.2.1 a0) a.2.2.2.2.2.2.1 a1).take a.2.2.2.1) a.2.2.2.2.2.2.1).bind λa5=>(az a.2.2.2.2.2.2.2.2 a4.2.2.2.1).bind λ_=>(az (bu a.2.2.2.2.2.2.2.2 a4.2.2.2.1 a.2.2.2.2.2.1) a5.2.2.2.1).bind λ_=>bif((bu (bu a.2.2.2.2.2.2.2.1 a.2.2.2.2.2.1 a0) a.2.2.2.2.2.2.1 a1).length)==(PP a.2.2.2.2.2.2.2.1)then bif((bu (bu a.2.2.2.2.2.2.2.2 a4.2.2.2.1 a.2.2.2.2.2.1) a5.2.2.2.1 a.2.2.2.2.2.2.1).length)==(PP a.2.2.2.2.2.2.2.2)then Y (bu (bu a.2.2.2.2.2.2.2.1 a.2.2.2.2.2.1 a0) a.2.2.2.2.2.2.1 a1,bu (bu a.2.2.2.2.2.2.2.2 a4.2.2.2.1 a.2.2.2.2.2.1) a5.2.2.2.1 a.2.2.2.2.2.2.1)else WF else WF
def Ki:eZ:=⟨[.l [.i d5],.l [.b],.l [.i d5],.n,.n,.i,.i,.l [.i d5,.i d5,.i d5,.i d5,.i d5],.l [.i d5]],[.agg [.sl [.i d5] [],.sl [.b] [],.sl [.i d5] [],.pre 0 0 0 Sw,.own 1 Sw],.int d5 0,.int d5 0],[.arr [.i d5,.i d5,.i d5,.i d5,.i d5] [],.arr [.i d5] []],[.l [.i d5,.i d5,.i d5,.i d5,.i d5],.l [.i d5]],.cT [],[.arr [.i d5,.i d5,.i d5,.i d5,.i d5] [],.arr [.i d5] []],λa=>jj a⟩
theorem zj:jg nq 385 Ki:=jg.of rfl (wd:=Sw) (cx:=(xN k7 [] [] [] [])) (sL.make trivial trivial trivial) (λa=>by kernel_rfl)
abbrev WK:=(J Int)×(J Bool)×(J Int)×Nat×Nat×Int×dJ×(J Int)
abbrev ik:=Int×dJ×(J Int)×(J Int)×(J Bool)×(J Int)×Nat×Nat
abbrev Qk:=Int×dJ×(J Int)
def j9(c0:WK)(s:ik):O (Step ik Qk):=bif Md (0<s.1)then(az (s.2.1.take s.2.2.2.2.2.2.1) s.1).bind λa0=>(az (s.2.1.take s.2.2.2.2.2.2.1) (M d5 (IR (M d5 (s.1-1)) 2))).bind λa1=>(fP a0 a1).bind λb2=>bif b2 then(jj (s.2.2.2.1,s.2.2.2.2.1,s.2.2.2.2.2.1,s.2.2.2.2.2.2.1,s.2.2.2.2.2.2.2,s.1,M d5 (IR (M d5 (s.1-1)) 2),s.2.1,s.2.2.1)).bind λa3=>Y (.next (M d5 (IR (M d5 (s.1-1)) 2),a3.1,a3.2,s.2.2.2))else bif(PP s.2.1)==(PP c0.2.2.2.2.2.2.1)then bif(PP s.2.2.1)==(PP c0.2.2.2.2.2.2.2)then Y (.done (s.1,s.2.1,s.2.2.1))else WF else WF else bif(PP s.2.1)==(PP c0.2.2.2.2.2.2.1)then bif(PP s.2.2.1)==(PP c0.2.2.2.2.2.2.2)then Y (.done (s.1,s.2.1,s.2.2.1))else WF else WF
def qM(a:WK):O Qk:=au (j9 a) (a.2.2.2.2.2.1,a.2.2.2.2.2.2.1,a.2.2.2.2.2.2.2,a.1,a.2.1,a.2.2.1,a.2.2.2.1,a.2.2.2.2.1)
def akZ:eZ:=⟨[.l [.i d5],.l [.b],.l [.i d5],.n,.n,.i,.l [.i d5,.i d5,.i d5,.i d5,.i d5],.l [.i d5]],[.agg [.sl [.i d5] [],.sl [.b] [],.sl [.i d5] [],.pre 0 0 0 Sw,.own 1 Sw],.int d5 0],[.arr [.i d5,.i d5,.i d5,.i d5,.i d5] [],.arr [.i d5] []],[.i,.l [.i d5,.i d5,.i d5,.i d5,.i d5],.l [.i d5]],.int d5 0,[.arr [.i d5,.i d5,.i d5,.i d5,.i d5] [],.arr [.i d5] []],λa=>qM a⟩
theorem aaL:jg nq 388 akZ:=jg.of rfl (wd:=Pc) (cx:=(xN k7 [(267,Nv.c)] [(385,Kh),(385,Ki)] [] [])) (sL.make ⟨Nv.ok,trivial⟩ ⟨zi,zj,trivial⟩ trivial) (λa=>by kernel_rfl)
def nX(c0:WK)(s:ik):O (Step ik GU):=match s with |(a,b,d,e,f,g,h,i)=>bif Md ((If h)<=(M d5 ((M d5 (2*a))+1)))then bif(PP b)==(PP c0.2.2.2.2.2.2.1)then bif(PP d)==(PP c0.2.2.2.2.2.2.2)then Y (.done (b,d))else WF else WF else bif Md ((M d5 ((M d5 ((M d5 (2*a))+1))+1))<(If h))then(az (b.take h) (M d5 ((M d5 ((M d5 (2*a))+1))+1))).bind λa0=>(az (b.take h) (M d5 ((M d5 (2*a))+1))).bind λa1=>(fP a0 a1).bind λb2=>bif b2 then(az (b.take h) (M d5 ((M d5 ((M d5 (2*a))+1))+1))).bind λa3=>(az (b.take h) a).bind λa4=>(fP a3 a4).bind λb5=>bif !b5 then bif(PP b)==(PP c0.2.2.2.2.2.2.1)then bif(PP d)==(PP c0.2.2.2.2.2.2.2)then Y (.done (b,d))else WF else WF else(jj (e,f,g,h,i,a,M d5 ((M d5 ((M d5 (2*a))+1))+1),b,d)).bind λa6=>Y (.next (M d5 ((M d5 ((M d5 (2*a))+1))+1),a6.1,a6.2,(e,f,g,h,i)))else(az (b.take h) (M d5 ((M d5 (2*a))+1))).bind λa7=>(az (b.take h) a).bind λa8=>(fP a7 a8).bind λb9=>bif !b9 then bif(PP b)==(PP c0.2.2.2.2.2.2.1)then bif(PP d)==(PP c0.2.2.2.2.2.2.2)then Y (.done (b,d))else WF else WF else(jj (e,f,g,h,i,a,M d5 ((M d5 (2*a))+1),b,d)).bind λwM=>Y (.next (M d5 ((M d5 (2*a))+1),wM.1,wM.2,(e,f,g,h,i)))else(az (b.take h) (M d5 ((M d5 (2*a))+1))).bind λGX=>(az (b.take h) a).bind λa12=>(fP GX a12).bind λb13=>bif !b13 then bif(PP b)==(PP c0.2.2.2.2.2.2.1)then bif(PP d)==(PP c0.2.2.2.2.2.2.2)then Y (.done (b,d))else WF else WF else(jj (e,f,g,h,i,a,M d5 ((M d5 (2*a))+1),b,d)).bind λPj=>Y (.next (M d5 ((M d5 (2*a))+1),Pj.1,Pj.2,(e,f,g,h,i)))
def oC(a:WK):O GU:=au (nX a) (a.2.2.2.2.2.1,a.2.2.2.2.2.2.1,a.2.2.2.2.2.2.2,a.1,a.2.1,a.2.2.1,a.2.2.2.1,a.2.2.2.2.1)
def ak0:eZ:=⟨[.l [.i d5],.l [.b],.l [.i d5],.n,.n,.i,.l [.i d5,.i d5,.i d5,.i d5,.i d5],.l [.i d5]],[.agg [.sl [.i d5] [],.sl [.b] [],.sl [.i d5] [],.pre 0 0 0 Sw,.own 1 Sw],.int d5 0],[.arr [.i d5,.i d5,.i d5,.i d5,.i d5] [],.arr [.i d5] []],[.l [.i d5,.i d5,.i d5,.i d5,.i d5],.l [.i d5]],.cT [],[.arr [.i d5,.i d5,.i d5,.i d5,.i d5] [],.arr [.i d5] []],λa=>oC a⟩
theorem hwx:jg nq 387 ak0:=jg.of rfl (wd:=Sw) (cx:=(xN k7 [(267,Nv.c)] [(385,Kh),(385,Ki)] [] [])) (sL.make ⟨Nv.ok,trivial⟩ ⟨zi,zj,trivial⟩ trivial) (λa=>by kernel_rfl)
def nE(F:aM)(p1:Int×Int):O aM:=(oX F).bind λr0=>(az r0.ax p1.1).bind λn1=>bif n1 !=(M d5 ((If (PP r0.bv))-1))then(iw (n1,M d5 ((If (PP r0.bv))-1),r0.ai.aC,r0.ai.be,r0.ai.bi,r0.bv,r0.ax)).bind λa2=>(gQ a2.2.2.2.1 0 (M d5 ((If (PP r0.bv))-1))).bind λ_=>(az a2.2.2.2.2 p1.1).bind λ_=>(uo (bg.mk a2.1 a2.2.1 a2.2.2.1) p1).bind λr5=>bif n1 !=(M d5 ((If (PP r0.bv))-1))then(qM (r5.aC,r5.be,r5.bi,(M d5 ((If (PP r0.bv))-1)).toNat,PP a2.2.2.2.1,n1,a2.2.2.2.1,bu a2.2.2.2.2 p1.1 (-1))).bind λa6=>(oC (r5.aC,r5.be,r5.bi,(M d5 ((If (PP r0.bv))-1)).toNat,PP a2.2.2.2.1,a6)).bind λa7=>Y (aM.mk r5 (a7.1.take ((M d5 ((If (PP r0.bv))-1)).toNat)) a7.2)else Y (aM.mk r5 (a2.2.2.2.1.take ((M d5 ((If (PP r0.bv))-1)).toNat)) (bu a2.2.2.2.2 p1.1 (-1)))else(gQ r0.bv 0 (M d5 ((If (PP r0.bv))-1))).bind λ_=>(az r0.ax p1.1).bind λ_=>(uo r0.ai p1).bind λTn=>bif n1 !=(M d5 ((If (PP r0.bv))-1))then(qM (Tn.aC,Tn.be,Tn.bi,(M d5 ((If (PP r0.bv))-1)).toNat,PP r0.bv,n1,r0.bv,bu r0.ax p1.1 (-1))).bind λGX=>(oC (Tn.aC,Tn.be,Tn.bi,(M d5 ((If (PP r0.bv))-1)).toNat,PP r0.bv,GX)).bind λa12=>Y (aM.mk Tn (a12.1.take ((M d5 ((If (PP r0.bv))-1)).toNat)) a12.2)else Y (aM.mk Tn (r0.bv.take ((M d5 ((If (PP r0.bv))-1)).toNat)) (bu r0.ax p1.1 (-1)))
def aqb:=Oe 367 rfl [NQ,XZ,ayZ] [⟨385,_,zi⟩,⟨385,_,zj⟩,⟨388,_,aaL⟩,⟨387,_,hwx⟩] [] T9 X8 .eT (u2 nE)
def sW(F:aE)(p1:Int):O aE:=(ib F).bind λr0=>(BG F.af p1).bind λr1=>(yb F p1).bind λn2=>bif Md (0<=n2)then(az F.kw n2).bind λa3=>(nE F.ae a3.2).bind λr4=>(gQ F.kw 0 n2).bind λl5=>(bL l5).bind λl6=>(gQ F.kw (M d5 (n2+1)) (If (PP F.kw))).bind λl7=>bif l7.isEmpty then Y (aE.mk r0.io r0.jp r1 r4 l6)else(aQ l6 l7).bind λl8=>Y (aE.mk r0.io r0.jp r1 r4 l8)else Y (aE.mk r0.io r0.jp r1 r0.ae r0.kw)
def aqc:=Oc 330 rfl [Zz,Kb,ayY,aqa,aqb] (aG bF gI) S6 .eT (u2 sW)
def ke(c0:AT)(s:AT):O (Step AT AT):=bif Md (0<s.1)then(az s.2.2.2.2.1 s.1).bind λa0=>(az s.2.2.2.2.1 (M d5 (IR (M d5 (s.1-1)) 2))).bind λa1=>(fP a0 a1).bind λb2=>bif b2 then(iw (s.1,M d5 (IR (M d5 (s.1-1)) 2),s.2)).bind λa3=>Y (.next (M d5 (IR (M d5 (s.1-1)) 2),a3))else bif(PP s.2.1)==(PP c0.2.1)then bif(PP s.2.2.1)==(PP c0.2.2.1)then bif(PP s.2.2.2.1)==(PP c0.2.2.2.1)then bif(PP s.2.2.2.2.1)==(PP c0.2.2.2.2.1)then bif(PP s.2.2.2.2.2)==(PP c0.2.2.2.2.2)then Y (.done s)else WF else WF else WF else WF else WF else bif(PP s.2.1)==(PP c0.2.1)then bif(PP s.2.2.1)==(PP c0.2.2.1)then bif(PP s.2.2.2.1)==(PP c0.2.2.2.1)then bif(PP s.2.2.2.2.1)==(PP c0.2.2.2.2.1)then bif(PP s.2.2.2.2.2)==(PP c0.2.2.2.2.2)then Y (.done s)else WF else WF else WF else WF else WF
def vE(a:AT):O AT:=au (ke a) a
def ak1:eZ:=⟨[.i,.l [.i d5],.l [.b],.l [.i d5],.l [.i d5,.i d5,.i d5,.i d5,.i d5],.l [.i d5]],[.agg [.own 0 Sw,.own 1 Sw,.own 2 Sw,.own 3 Sw,.own 4 Sw],.int d5 0],[.arr [.i d5] [],.arr [.b] [],.arr [.i d5] [],.arr [.i d5,.i d5,.i d5,.i d5,.i d5] [],.arr [.i d5] []],[.i,.l [.i d5],.l [.b],.l [.i d5],.l [.i d5,.i d5,.i d5,.i d5,.i d5],.l [.i d5]],.int d5 0,[.arr [.i d5] [],.arr [.b] [],.arr [.i d5] [],.arr [.i d5,.i d5,.i d5,.i d5,.i d5] [],.arr [.i d5] []],λa=>vE a⟩
theorem hp3:jg nq 388 ak1:=jg.of rfl (wd:=Sw) (cx:=(xN k7 [(267,Nv.c)] [(385,Kh),(385,Ki)] [] [])) (sL.make ⟨Nv.ok,trivial⟩ ⟨zi,zj,trivial⟩ trivial) (λa=>by kernel_rfl)
def nY(c0:AT)(s:AT):O (Step AT akY):=bif Md ((If (PP s.2.2.2.2.1))<=(M d5 ((M d5 (2*s.1))+1)))then bif(PP s.2.1)==(PP c0.2.1)then bif(PP s.2.2.1)==(PP c0.2.2.1)then bif(PP s.2.2.2.1)==(PP c0.2.2.2.1)then bif(PP s.2.2.2.2.1)==(PP c0.2.2.2.2.1)then bif(PP s.2.2.2.2.2)==(PP c0.2.2.2.2.2)then Y (.done s.2)else WF else WF else WF else WF else WF else bif Md ((M d5 ((M d5 ((M d5 (2*s.1))+1))+1))<(If (PP s.2.2.2.2.1)))then(az s.2.2.2.2.1 (M d5 ((M d5 ((M d5 (2*s.1))+1))+1))).bind λa0=>(az s.2.2.2.2.1 (M d5 ((M d5 (2*s.1))+1))).bind λa1=>(fP a0 a1).bind λb2=>bif b2 then(az s.2.2.2.2.1 (M d5 ((M d5 ((M d5 (2*s.1))+1))+1))).bind λa3=>(az s.2.2.2.2.1 s.1).bind λa4=>(fP a3 a4).bind λb5=>bif !b5 then bif(PP s.2.1)==(PP c0.2.1)then bif(PP s.2.2.1)==(PP c0.2.2.1)then bif(PP s.2.2.2.1)==(PP c0.2.2.2.1)then bif(PP s.2.2.2.2.1)==(PP c0.2.2.2.2.1)then bif(PP s.2.2.2.2.2)==(PP c0.2.2.2.2.2)then Y (.done s.2)else WF else WF else WF else WF else WF else(iw (s.1,M d5 ((M d5 ((M d5 (2*s.1))+1))+1),s.2)).bind λa6=>Y (.next (M d5 ((M d5 ((M d5 (2*s.1))+1))+1),a6))else(az s.2.2.2.2.1 (M d5 ((M d5 (2*s.1))+1))).bind λa7=>(az s.2.2.2.2.1 s.1).bind λa8=>(fP a7 a8).bind λb9=>bif !b9 then bif(PP s.2.1)==(PP c0.2.1)then bif(PP s.2.2.1)==(PP c0.2.2.1)then bif(PP s.2.2.2.1)==(PP c0.2.2.2.1)then bif(PP s.2.2.2.2.1)==(PP c0.2.2.2.2.1)then bif(PP s.2.2.2.2.2)==(PP c0.2.2.2.2.2)then Y (.done s.2)else WF else WF else WF else WF else WF else(iw (s.1,M d5 ((M d5 (2*s.1))+1),s.2)).bind λwM=>Y (.next (M d5 ((M d5 (2*s.1))+1),wM))else(az s.2.2.2.2.1 (M d5 ((M d5 (2*s.1))+1))).bind λGX=>(az s.2.2.2.2.1 s.1).bind λa12=>(fP GX a12).bind λb13=>bif !b13 then bif(PP s.2.1)==(PP c0.2.1)then bif(PP s.2.2.1)==(PP c0.2.2.1)then bif(PP s.2.2.2.1)==(PP c0.2.2.2.1)then bif(PP s.2.2.2.2.1)==(PP c0.2.2.2.2.1)then bif(PP s.2.2.2.2.2)==(PP c0.2.2.2.2.2)then Y (.done s.2)else WF else WF else WF else WF else WF else(iw (s.1,M d5 ((M d5 (2*s.1))+1),s.2)).bind λPj=>Y (.next (M d5 ((M d5 (2*s.1))+1),Pj))
def rq(a:AT):O akY:=au (nY a) a
def ak2:eZ:=⟨[.i,.l [.i d5],.l [.b],.l [.i d5],.l [.i d5,.i d5,.i d5,.i d5,.i d5],.l [.i d5]],[.agg [.own 0 Sw,.own 1 Sw,.own 2 Sw,.own 3 Sw,.own 4 Sw],.int d5 0],[.arr [.i d5] [],.arr [.b] [],.arr [.i d5] [],.arr [.i d5,.i d5,.i d5,.i d5,.i d5] [],.arr [.i d5] []],[.l [.i d5],.l [.b],.l [.i d5],.l [.i d5,.i d5,.i d5,.i d5,.i d5],.l [.i d5]],.cT [],[.arr [.i d5] [],.arr [.b] [],.arr [.i d5] [],.arr [.i d5,.i d5,.i d5,.i d5,.i d5] [],.arr [.i d5] []],λa=>rq a⟩
theorem ags:jg nq 387 ak2:=jg.of rfl (wd:=Sw) (cx:=(xN k7 [(267,Nv.c)] [(385,Kh),(385,Ki)] [] [])) (sL.make ⟨Nv.ok,trivial⟩ ⟨zi,zj,trivial⟩ trivial) (λa=>by kernel_rfl)
def xA(F:aM)(p1:Int×Int)(p2:Int×Int):O aM:=(oX F).bind λr0=>(az r0.ax p1.1).bind λn1=>(az r0.bv n1).bind λa2=>(vE (n1,r0.ai.aC,r0.ai.be,r0.ai.bi,bu r0.bv n1 (p2.1,p2.2,a2.2.2),r0.ax)).bind λa3=>(rq a3).bind λa4=>Y (aM.mk (bg.mk a4.1 a4.2.1 a4.2.2.1) a4.2.2.2.1 a4.2.2.2.2)
def ay1:=Oe 368 rfl [NQ,XZ] [⟨388,_,aaL⟩,⟨387,_,hwx⟩,⟨388,_,hp3⟩,⟨387,_,ags⟩] [] (aG dO Rm) X8 .eT (u3 xA)
def jk(F:bg):O Bool:=bif Md (0<(If (PP F.bi)))then(az F.bi (M d5 ((If (PP F.bi))-1))).bind λn0=>(az F.aC n0).bind λn1=>Y (Md (n1<1000000))else Y Sw
def aqd:=Oc 369 rfl [] (gG ja) Arg.bool .pure jk
def A0(F:bg):O (bg×(Int×Int)):=(qn F).bind λr0=>(az r0.bi (M d5 ((If (PP r0.bi))-1))).bind λn1=>(gQ r0.bi 0 (M d5 ((If (PP r0.bi))-1))).bind λ_=>(az r0.aC n1).bind λn3=>(az r0.aC n1).bind λ_=>(az r0.be n1).bind λ_=>(az (bu r0.aC n1 (M d5 (n3+1))) n1).bind λn6=>Y (bg.mk (bu r0.aC n1 (M d5 (n3+1))) (bu r0.be n1 Pc) (r0.bi.take ((M d5 ((If (PP r0.bi))-1)).toNat)),n1,n6)
def ay2:=Oc 389 rfl [X7,XS] (gG ja) (Arg.cT Fw) .eT A0
def ru(a:((J Int)×(J Bool)×(J Int)×Int×Int×dJ×(J Int))):O GU:=(az a.2.2.2.2.2.1 a.2.2.2.2.1).bind λa0=>(az a.2.2.2.2.2.1 a.2.2.2.1).bind λa1=>(az a.2.2.2.2.2.1 a.2.2.2.1).bind λ_=>(az (bu a.2.2.2.2.2.1 a.2.2.2.1 a0) a.2.2.2.2.1).bind λ_=>(az (bu (bu a.2.2.2.2.2.1 a.2.2.2.1 a0) a.2.2.2.2.1 a1) a.2.2.2.1).bind λa4=>(az (bu (bu a.2.2.2.2.2.1 a.2.2.2.1 a0) a.2.2.2.2.1 a1) a.2.2.2.2.1).bind λa5=>(az a.2.2.2.2.2.2 a4.2.2.2.1).bind λ_=>(az (bu a.2.2.2.2.2.2 a4.2.2.2.1 a.2.2.2.1) a5.2.2.2.1).bind λ_=>bif((bu (bu a.2.2.2.2.2.1 a.2.2.2.1 a0) a.2.2.2.2.1 a1).length)==(PP a.2.2.2.2.2.1)then bif((bu (bu a.2.2.2.2.2.2 a4.2.2.2.1 a.2.2.2.1) a5.2.2.2.1 a.2.2.2.2.1).length)==(PP a.2.2.2.2.2.2)then Y (bu (bu a.2.2.2.2.2.1 a.2.2.2.1 a0) a.2.2.2.2.1 a1,bu (bu a.2.2.2.2.2.2 a4.2.2.2.1 a.2.2.2.1) a5.2.2.2.1 a.2.2.2.2.1)else WF else WF
def ac':eZ:=⟨[.l [.i d5],.l [.b],.l [.i d5],.i,.i,.l [.i d5,.i d5,.i d5,.i d5,.i d5],.l [.i d5]],[.agg [.sl [.i d5] [],.sl [.b] [],.sl [.i d5] [],.own 0 Sw,.own 1 Sw],.int d5 0,.int d5 0],[.arr [.i d5,.i d5,.i d5,.i d5,.i d5] [],.arr [.i d5] []],[.l [.i d5,.i d5,.i d5,.i d5,.i d5],.l [.i d5]],.cT [],[.arr [.i d5,.i d5,.i d5,.i d5,.i d5] [],.arr [.i d5] []],λa=>ru a⟩
theorem c49:jg nq 385 ac':=jg.of rfl (wd:=Sw) (cx:=(xN k7 [] [] [] [])) (sL.make trivial trivial trivial) (λa=>by kernel_rfl)
abbrev aqe:=(J Int)×(J Bool)×(J Int)×Int×dJ×(J Int)
abbrev aqf:=Int×dJ×(J Int)×(J Int)×(J Bool)×(J Int)
def kf(c0:aqe)(s:aqf):O (Step aqf Qk):=bif Md (0<s.1)then(az s.2.1 s.1).bind λa0=>(az s.2.1 (M d5 (IR (M d5 (s.1-1)) 2))).bind λa1=>(fP a0 a1).bind λb2=>bif b2 then(ru (s.2.2.2.1,s.2.2.2.2.1,s.2.2.2.2.2,s.1,M d5 (IR (M d5 (s.1-1)) 2),s.2.1,s.2.2.1)).bind λa3=>Y (.next (M d5 (IR (M d5 (s.1-1)) 2),a3.1,a3.2,s.2.2.2))else bif(PP s.2.1)==(PP c0.2.2.2.2.1)then bif(PP s.2.2.1)==(PP c0.2.2.2.2.2)then Y (.done (s.1,s.2.1,s.2.2.1))else WF else WF else bif(PP s.2.1)==(PP c0.2.2.2.2.1)then bif(PP s.2.2.1)==(PP c0.2.2.2.2.2)then Y (.done (s.1,s.2.1,s.2.2.1))else WF else WF
def vF(a:aqe):O Qk:=au (kf a) (a.2.2.2.1,a.2.2.2.2.1,a.2.2.2.2.2,a.1,a.2.1,a.2.2.1)
def ak3:eZ:=⟨[.l [.i d5],.l [.b],.l [.i d5],.i,.l [.i d5,.i d5,.i d5,.i d5,.i d5],.l [.i d5]],[.agg [.sl [.i d5] [],.sl [.b] [],.sl [.i d5] [],.own 0 Sw,.own 1 Sw],.int d5 0],[.arr [.i d5,.i d5,.i d5,.i d5,.i d5] [],.arr [.i d5] []],[.i,.l [.i d5,.i d5,.i d5,.i d5,.i d5],.l [.i d5]],.int d5 0,[.arr [.i d5,.i d5,.i d5,.i d5,.i d5] [],.arr [.i d5] []],λa=>vF a⟩
theorem agt:jg nq 388 ak3:=jg.of rfl (wd:=Pc) (cx:=(xN k7 [(267,Nv.c)] [(385,Kh),(385,Ki),(385,ac')] [] [])) (sL.make ⟨Nv.ok,trivial⟩ ⟨zi,zj,c49,trivial⟩ trivial) (λa=>by kernel_rfl)
def gx(F:aM)(p1:Int×Int)(p2:Int):O (aM×(Int×Int)):=(oX F).bind λr0=>(A0 r0.ai).bind λa1=>(aQ r0.bv [(p1.1,p1.2,p2,a1.2)]).bind λl2=>(az r0.ax a1.2.1).bind λ_=>(vF (a1.1.aC,a1.1.be,a1.1.bi,M d5 ((If (PP l2))-1),l2,bu r0.ax a1.2.1 (M d5 ((If (PP l2))-1)))).bind λa4=>Y (aM.mk a1.1 a4.2.1 a4.2.2,a1.2)
def aqg:=Oe 370 rfl [NQ,XZ,ay2] [⟨388,_,aaL⟩,⟨388,_,hp3⟩,⟨388,_,agt⟩] [] (aG dO XH) (Arg.cT T9) .eT (u3 gx)
abbrev Zt8:=Int×Int×Int×aK×Int×aK×(J Int)×(J Bool)×(J Int)×dJ×(J Int)×aK×aK×Int×Int×Int×Int×Int×aK×Int×aK×(J Int)×(J Bool)×(J Int)×dJ×(J Int)×aK
def dv(s:Zt8):O (Step Zt8 (aE×Int)):=match s with |(a,b,d,e,f,g,h,i,j,k,l,m,n,o,q,r,t,u,v,w,x,y,z,A,B,C,QJ)=>bif Md (a<(If (PP g)))then(az g a).bind λa0=>(yb (aE.mk (b,d) (Field.mk e) (bA.mk f g) (aM.mk (bg.mk h i j) k l) m) a0.1).bind λn1=>(wS (Field.mk n) a0.2 (b,d)).bind λa2=>bif a2.2 then bif Md (0<=n1)then(az m n1).bind λa3=>(xA (aM.mk (bg.mk y z A) B C) a3.2 a2.1).bind λr4=>(az m n1).bind λa5=>(aQ QJ [a5]).bind λl6=>bif !a2.2 then bif Md (0<=n1)then(az m n1).bind λa7=>(nE r4 a7.2).bind λr8=>bif !a2.2 then Y (.next (M d5 (a+1),b,d,e,f,g,h,i,j,k,l,m,n,o,q,r,t,u,v,w,x,r8.ai.aC,r8.ai.be,r8.ai.bi,r8.bv,r8.ax,l6))else bif Md (0<=n1)then Y (.next (M d5 (a+1),b,d,e,f,g,h,i,j,k,l,m,n,o,q,r,t,u,v,w,x,r8.ai.aC,r8.ai.be,r8.ai.bi,r8.bv,r8.ax,l6))else(jk r8.ai).bind λb9=>bif !b9 then Y (.done (bX,18))else(gx r8 a2.1 a0.1).bind λwM=>(aQ l6 [(a0.1,wM.2)]).bind λUu=>Y (.next (M d5 (a+1),b,d,e,f,g,h,i,j,k,l,m,n,o,q,r,t,u,v,w,x,wM.1.ai.aC,wM.1.ai.be,wM.1.ai.bi,wM.1.bv,wM.1.ax,Uu))else bif !a2.2 then Y (.next (M d5 (a+1),b,d,e,f,g,h,i,j,k,l,m,n,o,q,r,t,u,v,w,x,r4.ai.aC,r4.ai.be,r4.ai.bi,r4.bv,r4.ax,l6))else bif Md (0<=n1)then Y (.next (M d5 (a+1),b,d,e,f,g,h,i,j,k,l,m,n,o,q,r,t,u,v,w,x,r4.ai.aC,r4.ai.be,r4.ai.bi,r4.bv,r4.ax,l6))else(jk r4.ai).bind λI8=>bif !I8 then Y (.done (bX,18))else(gx r4 a2.1 a0.1).bind λXU=>(aQ l6 [(a0.1,XU.2)]).bind λTy=>Y (.next (M d5 (a+1),b,d,e,f,g,h,i,j,k,l,m,n,o,q,r,t,u,v,w,x,XU.1.ai.aC,XU.1.ai.be,XU.1.ai.bi,XU.1.bv,XU.1.ax,Ty))else bif !a2.2 then Y (.next (M d5 (a+1),b,d,e,f,g,h,i,j,k,l,m,n,o,q,r,t,u,v,w,x,r4.ai.aC,r4.ai.be,r4.ai.bi,r4.bv,r4.ax,l6))else bif Md (0<=n1)then Y (.next (M d5 (a+1),b,d,e,f,g,h,i,j,k,l,m,n,o,q,r,t,u,v,w,x,r4.ai.aC,r4.ai.be,r4.ai.bi,r4.bv,r4.ax,l6))else(jk r4.ai).bind λb15=>bif !b15 then Y (.done (bX,18))else(gx r4 a2.1 a0.1).bind λSg=>(aQ l6 [(a0.1,Sg.2)]).bind λl17=>Y (.next (M d5 (a+1),b,d,e,f,g,h,i,j,k,l,m,n,o,q,r,t,u,v,w,x,Sg.1.ai.aC,Sg.1.ai.be,Sg.1.ai.bi,Sg.1.bv,Sg.1.ax,l17))else bif !a2.2 then bif Md (0<=n1)then(az m n1).bind λVO=>(nE (aM.mk (bg.mk y z A) B C) VO.2).bind λIl=>bif !a2.2 then Y (.next (M d5 (a+1),b,d,e,f,g,h,i,j,k,l,m,n,o,q,r,t,u,v,w,x,Il.ai.aC,Il.ai.be,Il.ai.bi,Il.bv,Il.ax,QJ))else bif Md (0<=n1)then Y (.next (M d5 (a+1),b,d,e,f,g,h,i,j,k,l,m,n,o,q,r,t,u,v,w,x,Il.ai.aC,Il.ai.be,Il.ai.bi,Il.bv,Il.ax,QJ))else(jk Il.ai).bind λb20=>bif !b20 then Y (.done (bX,18))else(gx Il a2.1 a0.1).bind λa21=>(aQ QJ [(a0.1,a21.2)]).bind λl22=>Y (.next (M d5 (a+1),b,d,e,f,g,h,i,j,k,l,m,n,o,q,r,t,u,v,w,x,a21.1.ai.aC,a21.1.ai.be,a21.1.ai.bi,a21.1.bv,a21.1.ax,l22))else bif !a2.2 then Y (.next (M d5 (a+1),(b,d,e,f,g,h,i,j,k,l,m,n,o,q,r,t,u,v,w,x,y,z,A,B,C,QJ)))else bif Md (0<=n1)then Y (.next (M d5 (a+1),(b,d,e,f,g,h,i,j,k,l,m,n,o,q,r,t,u,v,w,x,y,z,A,B,C,QJ)))else(jk (bg.mk y z A)).bind λb23=>bif !b23 then Y (.done (bX,18))else(gx (aM.mk (bg.mk y z A) B C) a2.1 a0.1).bind λa24=>(aQ QJ [(a0.1,a24.2)]).bind λl25=>Y (.next (M d5 (a+1),b,d,e,f,g,h,i,j,k,l,m,n,o,q,r,t,u,v,w,x,a24.1.ai.aC,a24.1.ai.be,a24.1.ai.bi,a24.1.bv,a24.1.ax,l25))else bif !a2.2 then Y (.next (M d5 (a+1),(b,d,e,f,g,h,i,j,k,l,m,n,o,q,r,t,u,v,w,x,y,z,A,B,C,QJ)))else bif Md (0<=n1)then Y (.next (M d5 (a+1),(b,d,e,f,g,h,i,j,k,l,m,n,o,q,r,t,u,v,w,x,y,z,A,B,C,QJ)))else(jk (bg.mk y z A)).bind λb26=>bif !b26 then Y (.done (bX,18))else(gx (aM.mk (bg.mk y z A) B C) a2.1 a0.1).bind λWg=>(aQ QJ [(a0.1,Wg.2)]).bind λl28=>Y (.next (M d5 (a+1),b,d,e,f,g,h,i,j,k,l,m,n,o,q,r,t,u,v,w,x,Wg.1.ai.aC,Wg.1.ai.be,Wg.1.ai.bi,Wg.1.bv,Wg.1.ax,l28))else bif !a2.2 then bif Md (0<=n1)then(az m n1).bind λa29=>(nE (aM.mk (bg.mk y z A) B C) a29.2).bind λIo=>bif !a2.2 then Y (.next (M d5 (a+1),b,d,e,f,g,h,i,j,k,l,m,n,o,q,r,t,u,v,w,x,Io.ai.aC,Io.ai.be,Io.ai.bi,Io.bv,Io.ax,QJ))else bif Md (0<=n1)then Y (.next (M d5 (a+1),b,d,e,f,g,h,i,j,k,l,m,n,o,q,r,t,u,v,w,x,Io.ai.aC,Io.ai.be,Io.ai.bi,Io.bv,Io.ax,QJ))else(jk Io.ai).bind λb31=>bif !b31 then Y (.done (bX,18))else(gx Io a2.1 a0.1).bind λTM=>(aQ QJ [(a0.1,TM.2)]).bind λl33=>Y (.next (M d5 (a+1),b,d,e,f,g,h,i,j,k,l,m,n,o,q,r,t,u,v,w,x,TM.1.ai.aC,TM.1.ai.be,TM.1.ai.bi,TM.1.bv,TM.1.ax,l33))else bif !a2.2 then Y (.next (M d5 (a+1),(b,d,e,f,g,h,i,j,k,l,m,n,o,q,r,t,u,v,w,x,y,z,A,B,C,QJ)))else bif Md (0<=n1)then Y (.next (M d5 (a+1),(b,d,e,f,g,h,i,j,k,l,m,n,o,q,r,t,u,v,w,x,y,z,A,B,C,QJ)))else(jk (bg.mk y z A)).bind λb34=>bif !b34 then Y (.done (bX,18))else(gx (aM.mk (bg.mk y z A) B C) a2.1 a0.1).bind λG1=>(aQ QJ [(a0.1,G1.2)]).bind λl36=>Y (.next (M d5 (a+1),b,d,e,f,g,h,i,j,k,l,m,n,o,q,r,t,u,v,w,x,G1.1.ai.aC,G1.1.ai.be,G1.1.ai.bi,G1.1.bv,G1.1.ax,l36))else bif !a2.2 then Y (.next (M d5 (a+1),(b,d,e,f,g,h,i,j,k,l,m,n,o,q,r,t,u,v,w,x,y,z,A,B,C,QJ)))else bif Md (0<=n1)then Y (.next (M d5 (a+1),(b,d,e,f,g,h,i,j,k,l,m,n,o,q,r,t,u,v,w,x,y,z,A,B,C,QJ)))else(jk (bg.mk y z A)).bind λb37=>bif !b37 then Y (.done (bX,18))else(gx (aM.mk (bg.mk y z A) B C) a2.1 a0.1).bind λO3=>(aQ QJ [(a0.1,O3.2)]).bind λl39=>Y (.next (M d5 (a+1),b,d,e,f,g,h,i,j,k,l,m,n,o,q,r,t,u,v,w,x,O3.1.ai.aC,O3.1.ai.be,O3.1.ai.bi,O3.1.bv,O3.1.ax,l39))else Y (.done (aE.mk (t,u) (Field.mk v) (bA.mk w x) (aM.mk (bg.mk y z A) B C) QJ,0))
def pN(F:aE)(p1:Field):O (aE×Int):=(ib F).bind λr0=>(oW p1).bind λr1=>au dv (0,F.io.1,F.io.2,F.jp.am,F.af.aO,F.af.ii,F.ae.ai.aC,F.ae.ai.be,F.ae.ai.bi,F.ae.bv,F.ae.ax,F.kw,p1.am,0,0,0,r0.io.1,r0.io.2,r1.am,r0.af.aO,r0.af.ii,r0.ae.ai.aC,r0.ae.ai.be,r0.ae.ai.bi,r0.ae.bv,r0.ae.ax,[])
def ay3:=Oc 331 rfl [Zz,Kb,ec,X6,aqa,akP,ay1,aqb,aqd,aqg] ep (tG bF) .eT (u2 pN)
def Gd(F:bA)(p1:Int×Int):O (bA×Int×Int):=(xX F).bind λn0=>bif n0 !=0 then Y (bA.mk 0 [],0,8)else(zS p1).bind λb1=>bif !b1 then Y (bA.mk 0 [],0,8)else(Co F p1).bind λb2=>bif b2 then Y (bA.mk 0 [],0,14)else bif(If (PP F.ii))==200 then Y (bA.mk 0 [],0,18)else bif F.aO==1000000 then Y (bA.mk 0 [],0,18)else(sN F).bind λr3=>(aQ r3.ii [(F.aO,p1)]).bind λl4=>Y (bA.mk (M d5 (r3.aO+1)) l4,F.aO,0)
def ay4:=Oc 371 rfl [apL,apK,akR,b8,Fg] c8 (Arg.cT (aG jb (aI gI))) .eT (u2 Gd)
def oQ(F:aE)(p1:Int×Int):O (aE×Int×Int):=(Gd F.af p1).bind λa0=>bif a0.2.2 !=0 then Y (bX,0,a0.2.2)else(ib F).bind λr1=>(wS F.jp p1 F.io).bind λa2=>bif !a2.2 then Y (aE.mk r1.io r1.jp a0.1 r1.ae r1.kw,a0.2.1,0)else(jk F.ae.ai).bind λb3=>bif !b3 then Y (bX,0,18)else(gx F.ae a2.1 a0.2.1).bind λa4=>(aQ r1.kw [(a0.2.1,a4.2)]).bind λl5=>Y (aE.mk r1.io r1.jp a0.1 a4.1 l5,a0.2.1,0)
def ay5:=Oc 332 rfl [ay4,Zz,Kb,akP,aqd,aqg] XG zR .eT (u2 oQ)
abbrev aqi:=bS×Int×Int×Int×aK×Int×aK×(J Int)×(J Bool)×(J Int)×dJ×(J Int)×aK×aK×Int×Int×Int×Int×Int×aK×Int×aK×(J Int)×(J Bool)×(J Int)×dJ×(J Int)×aK
abbrev Zt6:=Step aqi (aE×Int)
abbrev aqj:=bS×Int×Int×Int×Int×Int×Int×aK×Int×aK×(J Int)×(J Bool)×(J Int)×dJ×(J Int)×aK
def ft(s:aqj):O (Step aqj Zt6):=match s with |(a,b,d,e,f,g,h,i,j,k,l,m,n,o,q,r)=>bif Md (b<(If (PP a)))then(az a b).bind λa0=>(Co (bA.mk j k) a0).bind λb1=>bif b1 then Y (.next (a,M d5 (b+1),(d,e,f,g,h,i,j,k,l,m,n,o,q,r)))else(az a b).bind λa2=>(oQ (aE.mk (g,h) (Field.mk i) (bA.mk j k) (aM.mk (bg.mk l m n) o q) r) a2).bind λa3=>bif a3.2.2 !=0 then Y (.done (.done (bX,a3.2.2)))else Y (.next (a,M d5 (b+1),d,e,f,a3.1.io.1,a3.1.io.2,a3.1.jp.am,a3.1.af.aO,a3.1.af.ii,a3.1.ae.ai.aC,a3.1.ae.ai.be,a3.1.ae.ai.bi,a3.1.ae.bv,a3.1.ae.ax,a3.1.kw))else Y (.done (.done (aE.mk (g,h) (Field.mk i) (bA.mk j k) (aM.mk (bg.mk l m n) o q) r,0)))
def eH(s:aqi):O Zt6:=match s with |(a,b,d,e,f,g,h,i,j,k,l,m,n,o,q,r,t,u,v,w,x,y,z,A,B,C,QJ,E)=>bif Md (b<(If (PP h)))then(az h b).bind λa0=>(IW a a0.2).bind λb1=>bif !b1 then(az h b).bind λa2=>(sW (aE.mk (u,v) (Field.mk w) (bA.mk x y) (aM.mk (bg.mk z A B) C QJ) E) a2.1).bind λr3=>Y (.next (a,M d5 (b+1),d,e,f,g,h,i,j,k,l,m,n,o,q,r,t,r3.io.1,r3.io.2,r3.jp.am,r3.af.aO,r3.af.ii,r3.ae.ai.aC,r3.ae.ai.be,r3.ae.ai.bi,r3.ae.bv,r3.ae.ax,r3.kw))else Y (.next (a,M d5 (b+1),(d,e,f,g,h,i,j,k,l,m,n,o,q,r,t,u,v,w,x,y,z,A,B,C,QJ,E)))else(sQ (Field.mk w) (Field.mk o)).bind λb4=>bif !b4 then(pN (aE.mk (u,v) (Field.mk w) (bA.mk x y) (aM.mk (bg.mk z A B) C QJ) E) (Field.mk o)).bind λa5=>bif a5.2 !=0 then Y (.done (bX,a5.2))else au ft (a,0,q,r,t,a5.1.io.1,a5.1.io.2,a5.1.jp.am,a5.1.af.aO,a5.1.af.ii,a5.1.ae.ai.aC,a5.1.ae.ai.be,a5.1.ae.ai.bi,a5.1.ae.bv,a5.1.ae.ax,a5.1.kw)else au ft (a,0,(q,r,t,u,v,w,x,y,z,A,B,C,QJ,E)) end
end
end Go.Proofs.YtbelikaakgedaaaGreat
