/- Plain functions for what the functions of the seat compute. Printed by a program. -/
import Derived.Test.YtbelikaakgedaaaGreatPVm3
import Derived.Test.YtbelikaakgedaaaGreatPQXT
import Derived.Test.YtbelikaakgedaaaGreatPQS3
open Int renaming ofNat->If
open List renaming length->IR
open Option renaming some->NE
open Bool renaming false->PP
open Decidable renaming decide->Y
set_option maxRecDepth 100000
namespace Go.Proofs.YtbelikaakgedaaaGreat
open Go.Vm
noncomputable section
section
variable [LP]
def fu(F:aE)(p1:Field)(p2:J (Int×Int)):O (aE×Int):=(ib F).bind λr0=>au eH (p2,0,F.io.1,F.io.2,F.jp.am,F.af.aO,F.af.ii,F.ae.ai.aC,F.ae.ai.be,F.ae.ai.bi,F.ae.bv,F.ae.ax,F.kw,p1.am,0,0,0,r0.io.1,r0.io.2,r0.jp.am,r0.af.aO,r0.af.ii,r0.ae.ai.aC,r0.ae.ai.be,r0.ae.ai.bi,r0.ae.bv,r0.ae.ax,r0.kw)
def Kr:=Oc 273 rfl [Zz,Kb,ayX,aqc,apF,ay3,akR,ay5] TK (tG bF) .eT (u3 fu)
def o5(F:aE)(p1:Field)(p2:J Int):O (bD×Int):=(Cn p2).bind λl0=>(fu F p1 l0).bind λa1=>bif a1.2 !=0 then NE (bD.mk bX [],a1.2)else NE (bD.mk a1.1 p2,0)
def ak4:=Oc 194 rfl [akQ,ac9,Kr] Ww (tG eY) .eT (u3 o5)
def Cr(F:bD)(p1:Int×Int×Int):O (bD×Int):=(iq F).bind λn0=>bif n0 !=0 then(iq F).bind λn1=>NE (bD.mk bX [],n1)else(j8 F.lc.jp p1).bind λa2=>bif a2.2 !=0 then NE (bD.mk bX [],a2.2)else(bL F.bv).bind λl3=>(aQ l3 [p1.1]).bind λl4=>(uj a2.1 F.lc.io l4 (M d5 ((If (IR l4))-1))).bind λl5=>(o5 F.lc a2.1 l5).bind λa6=>NE a6
def ay6:=Oc 112 rfl [Jo,ek,ap9,aiF,ak4] Qi (tG eY) .eT (u2 Cr)
def sd(s:((J Int)×(J Int))):O (Step ((J Int)×(J Int)) (Step ((J Int)×Int×Int×(J Int)) (J Int))):=bif Y ((If (IR s.2))<(M d5 (2*(If (IR s.1)))))then(aQ s.2 [-1]).bind λl0=>NE (.next (s.1,l0))else NE (.done (.done s.2))
def xB(s:((J Int)×Int×Int×(J Int))):O (Step ((J Int)×Int×Int×(J Int)) (J Int)):=bif Y (s.2.2.1<(If (IR s.2.2.2)))then(az s.2.2.2 s.2.2.1).bind λn0=>bif Y (n0<0)then(az s.2.2.2 s.2.2.1).bind λ_=>NE (.done (bu s.2.2.2 s.2.2.1 s.2.1))else NE (.next (s.1,s.2.1,M d5 (s.2.2.1+1),s.2.2.2))else(aQ s.2.2.2 [s.2.1]).bind λl2=>au sd (s.1,l2)
def zY(F:J Int)(p1:Int):O (J Int):=(bL F).bind λl0=>au xB (F,p1,0,l0)
def ay7:=Oc 197 rfl [] t8 t7 .own (u2 zY) true
def aqk:=Oc 197 rfl [] t8 t7 .eT (u2 zY)
def qN(s:Zy):O (Step Zy bz):=bif Y (0<=s.1)then(mi (bz.mk s.2.2.2.2.1 s.2.2.2.2.2) (M d5 ((M d5 (2*s.1))+1))).bind λn0=>(mi (bz.mk s.2.2.2.2.1 s.2.2.2.2.2) (M d5 ((M d5 (2*s.1))+2))).bind λn1=>(Cp (Field.mk s.2.1) (s.2.2.1,s.2.2.2.1) n0 n1).bind λn2=>(az s.2.2.2.2.2 s.1).bind λ_=>NE (.next (M d5 (s.1-1),s.2.1,s.2.2.1,s.2.2.2.1,s.2.2.2.2.1,bu s.2.2.2.2.2 s.1 n2))else NE (.done (bz.mk s.2.2.2.2.1 s.2.2.2.2.2))
def A2(F:Field)(p1:Int×Int)(p2:J Int):O bz:=(bL p2).bind λl0=>bif(M d5 ((If (IR p2))-1))==(M d5 ((If (IR p2))-1))then(rF (M d5 ((If (IR p2))-1)) (0:Int)).bind λl1=>au qN (M d5 ((If (IR l1))-1),F.am,p1.1,p1.2,l0,l1)else none
def ay8:=Oc 333 rfl [ui,apW] Ya p4 .eT (u3 A2)
def Dy(F:Field)(p1:Int×Int)(p2:J Int):O bz:=(A2 F p1 p2).bind λr0=>NE r0
def ay9:=Oc 275 rfl [ay8] Ya p4 .eT (u3 Dy)
def fX(F:aE)(p1:Field)(p2:J Int):O (bB×Int):=(Dy p1 F.io p2).bind λr0=>(IU r0).bind λl1=>(fu F p1 l1).bind λa2=>bif a2.2 !=0 then NE (bB.mk bX (bz.mk [] []),a2.2)else NE (bB.mk a2.1 r0,0)
def WL:=Oc 196 rfl [ay9,apX,Kr] Ww (tG dI) .eT (u3 fX)
def Ge(F:bB)(p1:Int×Int×Int):O (bB×Int):=(ir F).bind λn0=>bif n0 !=0 then(ir F).bind λn1=>NE (bB.mk bX (bz.mk [] []),n1)else(j8 F.lc.jp p1).bind λa2=>bif a2.2 !=0 then NE (bB.mk bX (bz.mk [] []),a2.2)else(zY F.ls.aX p1.1).bind λl3=>(fX F.lc a2.1 l3).bind λa4=>NE a4
def ay':=Oc 113 rfl [Yf,ek,ay7,aqk,WL] Z' (tG dI) .eT (u2 Ge)
def iF(F:aE)(p1:Field):O (bq×Int):=(zW p1 F.io).bind λr0=>(Fl r0).bind λl1=>(fu F p1 l1).bind λa2=>bif a2.2 !=0 then NE (bq.mk bX (Tree.mk 0 []),a2.2)else NE (bq.mk a2.1 r0,0)
def WM:=Oc 198 rfl [ap0,ap3,Kr] ep (tG cP) .eT (u2 iF)
def Gf(F:bq)(p1:Int×Int×Int):O (bq×Int):=(iu F).bind λn0=>bif n0 !=0 then(iu F).bind λn1=>NE (bq.mk bX (Tree.mk 0 []),n1)else(j8 F.lc.jp p1).bind λa2=>bif a2.2 !=0 then NE (bq.mk bX (Tree.mk 0 []),a2.2)else(iF F.lc a2.1).bind λa3=>NE a3
def aza:=Oc 114 rfl [Uz,ek,WM] Qj (tG cP) .eT (u2 Gf)
def qO(F:aE)(p1:Field):O (bE×Int):=(Fm p1 F.io).bind λl0=>(IV p1 l0).bind λl1=>(fu F p1 l1).bind λa2=>bif a2.2 !=0 then NE (bE.mk bX [],a2.2)else NE (bE.mk a2.1 l0,0)
def th:=Oc 199 rfl [ap4,ap5,Kr] ep (tG cQ) .eT (u2 qO)
def Gg(F:bE)(p1:Int×Int×Int):O (bE×Int):=(iv F).bind λn0=>bif n0 !=0 then(iv F).bind λn1=>NE (bE.mk bX [],n1)else(j8 F.lc.jp p1).bind λa2=>bif a2.2 !=0 then NE (bE.mk bX [],a2.2)else(qO F.lc a2.1).bind λa3=>NE a3
def azb:=Oc 115 rfl [WJ,ek,th] Uw (tG cQ) .eT (u2 Gg)
def fy(F:Choice)(p1:Int):O (Choice×Int):=bif p1 !=0 then NE (kS,p1)else NE (F,0)
def ak5:=Oc 116 rfl [] (aG bP gI) (tG bP) .eT (u2 fy)
def Gh(F:Choice)(p1:Int×Int×Int):O (Choice×Int):=(eg F).bind λn0=>bif n0 !=0 then NE (kS,n0)else bif F.v6==1 then(Cr F.bv p1).bind λa1=>(fy (Choice.mk F.v6 a1.1 F.dd F.bW F.bN) a1.2).bind λa2=>NE a2 else bif F.v6==2 then(Ge F.dd p1).bind λa3=>(fy (Choice.mk F.v6 F.bv a3.1 F.bW F.bN) a3.2).bind λa4=>NE a4 else bif F.v6==3 then(Gf F.bW p1).bind λa5=>(fy (Choice.mk F.v6 F.bv F.dd a5.1 F.bN) a5.2).bind λa6=>NE a6 else bif F.v6==4 then(Gg F.bN p1).bind λa7=>(fy (Choice.mk F.v6 F.bv F.dd F.bW a7.1) a7.2).bind λa8=>NE a8 else(fy F n0).bind λa9=>NE a9
def c53:=Oc 53 rfl [NW,ay6,ay',aza,azb,ak5] xe (tG bP) .eT (u2 Gh)
def oD(s:te):O (Step te Field):=bif Y (s.2.1<(If (IR s.2.2.1)))then(az s.2.2.1 s.2.1).bind λa0=>bif a0.1 !=s.1 then(az s.2.2.1 s.2.1).bind λa1=>(aQ s.2.2.2 [a1]).bind λl2=>NE (.next (s.1,M d5 (s.2.1+1),s.2.2.1,l2))else NE (.next (s.1,M d5 (s.2.1+1),s.2.2))else NE (.done (Field.mk s.2.2.2))
def BH(F:Field)(p1:Int):O Field:=au oD (p1,0,F.am,[])
def azc:=Oc 276 rfl [] cr (Arg.agg aZ) .eT (u2 BH)
def jl(F:Field)(p1:Int):O (Field×Int):=(jI F).bind λn0=>bif n0 !=0 then NE (Field.mk [],n0)else(fO F p1).bind λn1=>bif Y (n1<0)then NE (Field.mk [],6)else(BH F p1).bind λr2=>NE (r2,0)
def rc:=Oc 200 rfl [Lo,tW,azc] cr (tG aZ) .eT (u2 jl)
def vG(s:ZM):O (Step ZM Int):=bif Y (s.2.2<(If (IR s.1)))then(az s.1 s.2.2).bind λn0=>bif n0==s.2.1 then NE (.done s.2.2)else NE (.next (s.1,s.2.1,M d5 (s.2.2+1)))else NE (.done (-1))
def ng(F:J Int)(p1:Int):O Int:=au vG (F,p1,0)
def UA:=Oc 201 rfl [] t8 d7 .pure (u2 ng)
def iG(s:XV):O akT:=bif Y ((M d5 ((M d5 (2*s.1))+1))<(If (IR s.2.2.2.2)))then bif Y ((M d5 ((M d5 ((M d5 (2*s.1))+1))+1))<(If (IR s.2.2.2.2)))then(az s.2.2.2.2 (M d5 ((M d5 ((M d5 (2*s.1))+1))+1))).bind λn0=>(az s.2.2.2.2 (M d5 ((M d5 (2*s.1))+1))).bind λn1=>(oP (Field.mk s.2.1) (s.2.2.1,s.2.2.2.1) n0 n1).bind λb2=>bif b2 then(az s.2.2.2.2 (M d5 ((M d5 ((M d5 (2*s.1))+1))+1))).bind λn3=>(az s.2.2.2.2 s.1).bind λn4=>(oP (Field.mk s.2.1) (s.2.2.1,s.2.2.2.1) n3 n4).bind λb5=>bif !b5 then NE (.done s.2.2.2.2)else(az s.2.2.2.2 (M d5 ((M d5 ((M d5 (2*s.1))+1))+1))).bind λn6=>(az s.2.2.2.2 s.1).bind λn7=>(az s.2.2.2.2 s.1).bind λ_=>(az (bu s.2.2.2.2 s.1 n6) (M d5 ((M d5 ((M d5 (2*s.1))+1))+1))).bind λ_=>NE (.next (M d5 ((M d5 ((M d5 (2*s.1))+1))+1),s.2.1,s.2.2.1,s.2.2.2.1,bu (bu s.2.2.2.2 s.1 n6) (M d5 ((M d5 ((M d5 (2*s.1))+1))+1)) n7))else(az s.2.2.2.2 (M d5 ((M d5 (2*s.1))+1))).bind λn10=>(az s.2.2.2.2 s.1).bind λZI=>(oP (Field.mk s.2.1) (s.2.2.1,s.2.2.2.1) n10 ZI).bind λI8=>bif !I8 then NE (.done s.2.2.2.2)else(az s.2.2.2.2 (M d5 ((M d5 (2*s.1))+1))).bind λn13=>(az s.2.2.2.2 s.1).bind λT'=>(az s.2.2.2.2 s.1).bind λ_=>(az (bu s.2.2.2.2 s.1 n13) (M d5 ((M d5 (2*s.1))+1))).bind λ_=>NE (.next (M d5 ((M d5 (2*s.1))+1),s.2.1,s.2.2.1,s.2.2.2.1,bu (bu s.2.2.2.2 s.1 n13) (M d5 ((M d5 (2*s.1))+1)) T'))else(az s.2.2.2.2 (M d5 ((M d5 (2*s.1))+1))).bind λn17=>(az s.2.2.2.2 s.1).bind λn18=>(oP (Field.mk s.2.1) (s.2.2.1,s.2.2.2.1) n17 n18).bind λb19=>bif !b19 then NE (.done s.2.2.2.2)else(az s.2.2.2.2 (M d5 ((M d5 (2*s.1))+1))).bind λn20=>(az s.2.2.2.2 s.1).bind λn21=>(az s.2.2.2.2 s.1).bind λ_=>(az (bu s.2.2.2.2 s.1 n20) (M d5 ((M d5 (2*s.1))+1))).bind λ_=>NE (.next (M d5 ((M d5 (2*s.1))+1),s.2.1,s.2.2.1,s.2.2.2.1,bu (bu s.2.2.2.2 s.1 n20) (M d5 ((M d5 (2*s.1))+1)) n21))else NE (.done s.2.2.2.2)
def HI(F:Field)(p1:Int×Int)(p2:J Int)(p3:Int):O (J Int):=(bL p2).bind λl0=>au iG (p3,F.am,p1.1,p1.2,l0)
def azd:=Oc 277 rfl [akX] GF t7 .eT (λa=>HI a.1 a.2.1 a.2.2.1 a.2.2.2)
def vH(F:Field)(p1:Int×Int)(p2:J Int)(p3:Int):O (J Int):=(az p2 p3).bind λn0=>(uj F p1 p2 p3).bind λl1=>(ng l1 n0).bind λn2=>(HI F p1 l1 n2).bind λl3=>NE l3
def aql:=Oc 202 rfl [ap9,aiF,UA,azd] GF t7 .eT (λa=>vH a.1 a.2.1 a.2.2.1 a.2.2.2)
def wU(F:bD)(p1:Int):O (bD×Int):=(iq F).bind λn0=>bif n0 !=0 then(iq F).bind λn1=>NE (bD.mk bX [],n1)else(jl F.lc.jp p1).bind λa2=>bif a2.2 !=0 then NE (bD.mk bX [],a2.2)else(ng F.bv p1).bind λn3=>(gQ F.bv 0 (M d5 ((If (IR F.bv))-1))).bind λl4=>(bL l4).bind λl5=>bif Y (n3<(M d5 ((If (IR F.bv))-1)))then(az F.bv (M d5 ((If (IR F.bv))-1))).bind λn6=>(az l5 n3).bind λ_=>(vH a2.1 F.lc.io (bu l5 n3 n6) n3).bind λl8=>(o5 F.lc a2.1 l8).bind λa9=>NE a9 else(o5 F.lc a2.1 l5).bind λwM=>NE wM
def aze:=Oc 117 rfl [Jo,rc,UA,aql,ak4] (aG eY gI) (tG eY) .eT (u2 wU)
def lH(s:((J Int)×(J Int))):O (Step ((J Int)×(J Int)) (Step NP (J Int))):=bif Y ((If (IR s.2))<(M d5 (Int.tdiv (If (IR s.1)) 2)))then(aQ s.2 [-1]).bind λl0=>NE (.next (s.1,l0))else NE (.done (.done s.2))
def lI(s:NP):O (Step NP (J Int)):=bif Y (s.2.2.1<(If (IR s.1)))then(az s.1 s.2.2.1).bind λn0=>bif n0==s.2.1 then(aQ s.2.2.2.1 [-1]).bind λl1=>NE (.next (s.1,s.2.1,M d5 (s.2.2.1+1),l1,s.2.2.2.2))else(aQ s.2.2.2.1 [n0]).bind λl2=>bif Y (0<=n0)then(aQ s.2.2.2.2 [n0]).bind λl3=>NE (.next (s.1,s.2.1,M d5 (s.2.2.1+1),l2,l3))else NE (.next (s.1,s.2.1,M d5 (s.2.2.1+1),l2,s.2.2.2.2))else bif(If (IR s.1))==1 then NE (.done s.2.2.2.1)else bif Y ((If (IR s.1))<(M d5 (4*(If (IR s.2.2.2.2)))))then NE (.done s.2.2.2.1)else au lH (s.1,s.2.2.2.2)
def sf(F:J Int)(p1:Int):O (J Int):=au lI (F,p1,0,[],[])
def azf:=Oc 203 rfl [] t8 t7 .own (u2 sf) true
def aqm:=Oc 203 rfl [] t8 t7 .eT (u2 sf)
def Dz(F:bB)(p1:Int):O (bB×Int):=(ir F).bind λn0=>bif n0 !=0 then(ir F).bind λn1=>NE (bB.mk bX (bz.mk [] []),n1)else(jl F.lc.jp p1).bind λa2=>bif a2.2 !=0 then NE (bB.mk bX (bz.mk [] []),a2.2)else(sf F.ls.aX p1).bind λl3=>(fX F.lc a2.1 l3).bind λa4=>NE a4
def azg:=Oc 118 rfl [Yf,rc,azf,aqm,WL] (aG dI gI) (tG dI) .eT (u2 Dz)
def DA(F:bq)(p1:Int):O (bq×Int):=(iu F).bind λn0=>bif n0 !=0 then(iu F).bind λn1=>NE (bq.mk bX (Tree.mk 0 []),n1)else(jl F.lc.jp p1).bind λa2=>bif a2.2 !=0 then NE (bq.mk bX (Tree.mk 0 []),a2.2)else(iF F.lc a2.1).bind λa3=>NE a3
def azh:=Oc 119 rfl [Uz,rc,WM] (aG cP gI) (tG cP) .eT (u2 DA)
def DB(F:bE)(p1:Int):O (bE×Int):=(iv F).bind λn0=>bif n0 !=0 then(iv F).bind λn1=>NE (bE.mk bX [],n1)else(jl F.lc.jp p1).bind λa2=>bif a2.2 !=0 then NE (bE.mk bX [],a2.2)else(qO F.lc a2.1).bind λa3=>NE a3
def azi:=Oc 120 rfl [WJ,rc,th] (aG cQ gI) (tG cQ) .eT (u2 DB)
def DC(F:Choice)(p1:Int):O (Choice×Int):=(eg F).bind λn0=>bif n0 !=0 then NE (kS,n0)else bif F.v6==1 then(wU F.bv p1).bind λa1=>(fy (Choice.mk F.v6 a1.1 F.dd F.bW F.bN) a1.2).bind λa2=>NE a2 else bif F.v6==2 then(Dz F.dd p1).bind λa3=>(fy (Choice.mk F.v6 F.bv a3.1 F.bW F.bN) a3.2).bind λa4=>NE a4 else bif F.v6==3 then(DA F.bW p1).bind λa5=>(fy (Choice.mk F.v6 F.bv F.dd a5.1 F.bN) a5.2).bind λa6=>NE a6 else bif F.v6==4 then(DB F.bN p1).bind λa7=>(fy (Choice.mk F.v6 F.bv F.dd F.bW a7.1) a7.2).bind λa8=>NE a8 else(fy F n0).bind λa9=>NE a9
def c54:=Oc 54 rfl [NW,aze,azg,azh,azi,ak5] (aG bP gI) (tG bP) .eT (u2 DC)
def gy(F:Field)(p1:Int×Int×Int):O (Field×Int):=(jI F).bind λn0=>bif n0 !=0 then NE (Field.mk [],n0)else(ug p1).bind λn1=>bif n1 !=0 then NE (Field.mk [],8)else(fO F p1.1).bind λn2=>bif Y (n2<0)then NE (Field.mk [],6)else(oW F).bind λr3=>(az r3.am n2).bind λ_=>NE (Field.mk (bu r3.am n2 p1),0)
def Ql:=Oc 204 rfl [Lo,x6,tW,ec,X6] Z7 (tG aZ) .eT (u2 gy)
def vI(F:bD)(p1:Int×Int×Int):O (bD×Int):=(iq F).bind λn0=>bif n0 !=0 then(iq F).bind λn1=>NE (bD.mk bX [],n1)else(gy F.lc.jp p1).bind λa2=>bif a2.2 !=0 then NE (bD.mk bX [],a2.2)else(ng F.bv p1.1).bind λn3=>(vH a2.1 F.lc.io F.bv n3).bind λl4=>(o5 F.lc a2.1 l4).bind λa5=>NE a5
def azj:=Oc 121 rfl [Jo,Ql,UA,aql,ak4] Qi (tG eY) .eT (u2 vI)
def y9(F:bB)(p1:Int×Int×Int):O (bB×Int):=(ir F).bind λn0=>bif n0 !=0 then(ir F).bind λn1=>NE (bB.mk bX (bz.mk [] []),n1)else(gy F.lc.jp p1).bind λa2=>bif a2.2 !=0 then NE (bB.mk bX (bz.mk [] []),a2.2)else(fX F.lc a2.1 F.ls.aX).bind λa3=>NE a3
def azk:=Oc 122 rfl [Yf,Ql,WL] Z' (tG dI) .eT (u2 y9)
def za(F:bq)(p1:Int×Int×Int):O (bq×Int):=(iu F).bind λn0=>bif n0 !=0 then(iu F).bind λn1=>NE (bq.mk bX (Tree.mk 0 []),n1)else(gy F.lc.jp p1).bind λa2=>bif a2.2 !=0 then NE (bq.mk bX (Tree.mk 0 []),a2.2)else(iF F.lc a2.1).bind λa3=>NE a3
def azl:=Oc 123 rfl [Uz,Ql,WM] Qj (tG cP) .eT (u2 za)
def zb(F:bE)(p1:Int×Int×Int):O (bE×Int):=(iv F).bind λn0=>bif n0 !=0 then(iv F).bind λn1=>NE (bE.mk bX [],n1)else(gy F.lc.jp p1).bind λa2=>bif a2.2 !=0 then NE (bE.mk bX [],a2.2)else(qO F.lc a2.1).bind λa3=>NE a3
def azm:=Oc 124 rfl [WJ,Ql,th] Uw (tG cQ) .eT (u2 zb)
def zc(F:Choice)(p1:Int×Int×Int):O (Choice×Int):=(eg F).bind λn0=>bif n0 !=0 then NE (kS,n0)else bif F.v6==1 then(vI F.bv p1).bind λa1=>(fy (Choice.mk F.v6 a1.1 F.dd F.bW F.bN) a1.2).bind λa2=>NE a2 else bif F.v6==2 then(y9 F.dd p1).bind λa3=>(fy (Choice.mk F.v6 F.bv a3.1 F.bW F.bN) a3.2).bind λa4=>NE a4 else bif F.v6==3 then(za F.bW p1).bind λa5=>(fy (Choice.mk F.v6 F.bv F.dd a5.1 F.bN) a5.2).bind λa6=>NE a6 else bif F.v6==4 then(zb F.bN p1).bind λa7=>(fy (Choice.mk F.v6 F.bv F.dd F.bW a7.1) a7.2).bind λa8=>NE a8 else(fy F n0).bind λa9=>NE a9
def c55:=Oc 55 rfl [NW,azj,azk,azl,azm,ak5] xe (tG bP) .eT (u2 zc)
def A3(F:aE)(p1:Int×Int):O Int:=(m9 p1).bind λn0=>bif n0 !=0 then NE 8 else(pM p1 F.io).bind λn1=>bif Y (n1<0)then NE 44 else NE 0
def azn:=Oc 205 rfl [m5,x9] XG d7 .pure (u2 A3)
def qP(F:Choice)(p1:Int×Int):O Int:=(m9 p1).bind λn0=>bif n0 !=0 then NE 8 else(qL p1).bind λn1=>bif n1 !=0 then NE 2 else(fv F).bind λr2=>(A3 r2 p1).bind λn3=>NE n3
def azo:=Oc 125 rfl [m5,c52,c6,azn] Yd d7 .pure (u2 qP)
def qQ(F:aE)(p1:Int×Int):O Bool:=bif Y (0<(If (IR F.ae.bv)))then(az F.ae.bv 0).bind λa0=>(pM (a0.1,a0.2.1) p1).bind λn1=>NE (Y (n1<=0))else NE PP
def eU:=Oc 279 rfl [x9] XG Arg.bool .pure (u2 qQ)
def A4(s:(Int×Int×Int×aK)):O (Step (Int×Int×Int×aK) Int):=bif Y (s.2.1<(If (IR s.2.2.2)))then(az s.2.2.2 s.2.1).bind λa0=>bif a0.1==s.1 then NE (.done s.2.1)else NE (.next (s.1,M d5 (s.2.1+1),s.2.2))else NE (.done (-1))
def Nx(F:bA)(p1:Int):O Int:=au A4 (p1,0,F.aO,F.ii)
def azp:=Oc 337 rfl [] (aG jb gI) d7 .pure (u2 Nx)
def ni(F:aE):O (aE×(Int×Int×Int×Int×Int)×(Int×Int)):=(az F.ae.bv 0).bind λa0=>(Nx F.af a0.2.2.1).bind λn1=>(az F.af.ii n1).bind λa2=>(sW F a0.2.2.1).bind λr3=>NE (aE.mk (a0.1,a0.2.1) r3.jp r3.af r3.ae r3.kw,a0,a2.2)
def U0:=Oc 280 rfl [azp,aqc] (gG bF) (Arg.cT (aG bF (aG ca (gG d6)))) .eT ni
def qR(F:aE)(p1:Int×Int):O aE:=(ib F).bind λr0=>NE (aE.mk p1 r0.jp r0.af r0.ae r0.kw)
def Un:=Oc 281 rfl [Zz,Kb] XG S6 .eT (u2 qR)
abbrev Lq:=Int×Int×Int×Int×Int×Int×Int×aK×Int×aK×(J Int)×(J Bool)×(J Int)×dJ×(J Int)×aK×(J Int)×bS
def pO(s:Lq):O (Step Lq RJ):=match s with |(a,b,d,e,f,g,h,i,j,k,l,m,n,o,q,r,t,u)=>(qQ (aE.mk (g,h) (Field.mk i) (bA.mk j k) (aM.mk (bg.mk l m n) o q) r) (a,b)).bind λb0=>bif b0 then(ni (aE.mk (g,h) (Field.mk i) (bA.mk j k) (aM.mk (bg.mk l m n) o q) r)).bind λa1=>(ng t a1.2.2.1).bind λn2=>(ng t a1.2.2.2).bind λn3=>(az t n3).bind λn4=>(az t n2).bind λn5=>(az t n2).bind λ_=>(az (bu t n2 n4) n3).bind λ_=>(Cn (bu (bu t n2 n4) n3 n5)).bind λl8=>(fu a1.1 a1.1.jp l8).bind λa9=>bif a9.2 !=0 then NE (.done (bD.mk bX [],[],a9.2))else(aQ u [a1.2.2]).bind λGZ=>NE (.next (a,b,d,e,f,a9.1.io.1,a9.1.io.2,a9.1.jp.am,a9.1.af.aO,a9.1.af.ii,a9.1.ae.ai.aC,a9.1.ae.ai.be,a9.1.ae.ai.bi,a9.1.ae.bv,a9.1.ae.ax,a9.1.kw,bu (bu t n2 n4) n3 n5,GZ))else(qR (aE.mk (g,h) (Field.mk i) (bA.mk j k) (aM.mk (bg.mk l m n) o q) r) (a,b)).bind λr11=>NE (.done (bD.mk r11 t,u,0))
def DD(F:bD)(p1:Int×Int):O RJ:=(bL F.bv).bind λl0=>au pO (p1.1,p1.2,0,0,0,F.lc.io.1,F.lc.io.2,F.lc.jp.am,F.lc.af.aO,F.lc.af.ii,F.lc.ae.ai.aC,F.lc.ae.ai.be,F.lc.ae.ai.bi,F.lc.ae.bv,F.lc.ae.ax,F.lc.kw,l0,[])
def azq:=Oc 206 rfl [eU,U0,UA,akQ,ac9,Kr,Un] Nw (Arg.cT (aG eY IH)) .eT (u2 DD)
abbrev aqn:=Int×Int×Int×Int×Int×Int×Int×aK×Int×aK×(J Int)×(J Bool)×(J Int)×dJ×(J Int)×aK×(J Int)×(J Int)×bS
def pP(s:aqn):O (Step aqn Ln):=match s with |(a,b,d,e,f,g,h,i,j,k,l,m,n,o,q,r,t,u,v)=>(qQ (aE.mk (g,h) (Field.mk i) (bA.mk j k) (aM.mk (bg.mk l m n) o q) r) (a,b)).bind λb0=>bif b0 then(ni (aE.mk (g,h) (Field.mk i) (bA.mk j k) (aM.mk (bg.mk l m n) o q) r)).bind λa1=>(fX a1.1 a1.1.jp t).bind λa2=>bif a2.2 !=0 then NE (.done (bB.mk bX (bz.mk [] []),[],a2.2))else(aQ v [a1.2.2]).bind λl3=>NE (.next (a,b,d,e,f,a2.1.lc.io.1,a2.1.lc.io.2,a2.1.lc.jp.am,a2.1.lc.af.aO,a2.1.lc.af.ii,a2.1.lc.ae.ai.aC,a2.1.lc.ae.ai.be,a2.1.lc.ae.ai.bi,a2.1.lc.ae.bv,a2.1.lc.ae.ax,a2.1.lc.kw,a2.1.ls.aX,a2.1.ls.k9,l3))else(wH (bB.mk (aE.mk (g,h) (Field.mk i) (bA.mk j k) (aM.mk (bg.mk l m n) o q) r) (bz.mk t u))).bind λr4=>(qR r4.lc (a,b)).bind λr5=>NE (.done (bB.mk r5 r4.ls,v,0))
def HJ(F:bB)(p1:Int×Int):O Ln:=au pP (p1.1,p1.2,0,0,0,F.lc.io.1,F.lc.io.2,F.lc.jp.am,F.lc.af.aO,F.lc.af.ii,F.lc.ae.ai.aC,F.lc.ae.ai.be,F.lc.ae.ai.bi,F.lc.ae.bv,F.lc.ae.ax,F.lc.kw,F.ls.aX,F.ls.k9,[])
def azr:=Oc 207 rfl [eU,U0,WL,Nt,PW,Un] (aG dI (gG d6)) (Arg.cT (aG dI IH)) .eT (u2 HJ)
abbrev aqo:=Int×Int×Int×Int×Int×Int×Int×Int×aK×Int×aK×(J Int)×(J Bool)×(J Int)×dJ×(J Int)×aK×Int×aK×bS
def pQ(s:aqo):O (Step aqo RK):=match s with |(a,b,d,e,f,g,h,i,j,k,l,m,n,o,q,r,t,u,v,w)=>(qQ (aE.mk (h,i) (Field.mk j) (bA.mk k l) (aM.mk (bg.mk m n o) q r) t) (a,b)).bind λb0=>bif b0 then(ni (aE.mk (h,i) (Field.mk j) (bA.mk k l) (aM.mk (bg.mk m n o) q r) t)).bind λa1=>(iF a1.1 a1.1.jp).bind λa2=>bif a2.2 !=0 then NE (.done (bq.mk bX (Tree.mk 0 []),[],a2.2))else(aQ w [a1.2.2]).bind λl3=>NE (.next (a,b,d,e,f,g,a2.1.lc.io.1,a2.1.lc.io.2,a2.1.lc.jp.am,a2.1.lc.af.aO,a2.1.lc.af.ii,a2.1.lc.ae.ai.aC,a2.1.lc.ae.ai.be,a2.1.lc.ae.ai.bi,a2.1.lc.ae.bv,a2.1.lc.ae.ax,a2.1.lc.kw,a2.1.ut.lw,a2.1.ut.pp,l3))else(sO (bq.mk (aE.mk (h,i) (Field.mk j) (bA.mk k l) (aM.mk (bg.mk m n o) q r) t) (Tree.mk u v))).bind λr4=>(qR r4.lc (a,b)).bind λr5=>NE (.done (bq.mk r5 r4.ut,w,0))
def HK(F:bq)(p1:Int×Int):O RK:=au pQ (p1.1,p1.2,0,0,0,0,F.lc.io.1,F.lc.io.2,F.lc.jp.am,F.lc.af.aO,F.lc.af.ii,F.lc.ae.ai.aC,F.lc.ae.ai.be,F.lc.ae.ai.bi,F.lc.ae.bv,F.lc.ae.ax,F.lc.kw,F.ut.lw,F.ut.pp,[])
def azs:=Oc 208 rfl [eU,U0,WM,Nu,ZB,Un] (aG cP (gG d6)) (Arg.cT (aG cP IH)) .eT (u2 HK)
def pR(s:Lq):O (Step Lq Oa):=match s with |(a,b,d,e,f,g,h,i,j,k,l,m,n,o,q,r,t,u)=>(qQ (aE.mk (g,h) (Field.mk i) (bA.mk j k) (aM.mk (bg.mk l m n) o q) r) (a,b)).bind λb0=>bif b0 then(ni (aE.mk (g,h) (Field.mk i) (bA.mk j k) (aM.mk (bg.mk l m n) o q) r)).bind λa1=>(qO a1.1 a1.1.jp).bind λa2=>bif a2.2 !=0 then NE (.done (bE.mk bX [],[],a2.2))else(aQ u [a1.2.2]).bind λl3=>NE (.next (a,b,d,e,f,a2.1.lc.io.1,a2.1.lc.io.2,a2.1.lc.jp.am,a2.1.lc.af.aO,a2.1.lc.af.ii,a2.1.lc.ae.ai.aC,a2.1.lc.ae.ai.be,a2.1.lc.ae.ai.bi,a2.1.lc.ae.bv,a2.1.lc.ae.ax,a2.1.lc.kw,a2.1.up,l3))else(qR (aE.mk (g,h) (Field.mk i) (bA.mk j k) (aM.mk (bg.mk l m n) o q) r) (a,b)).bind λr4=>(bL t).bind λl5=>NE (.done (bE.mk r4 l5,u,0))
def HL(F:bE)(p1:Int×Int):O Oa:=au pR (p1.1,p1.2,0,0,0,F.lc.io.1,F.lc.io.2,F.lc.jp.am,F.lc.af.aO,F.lc.af.ii,F.lc.ae.ai.aC,F.lc.ae.ai.be,F.lc.ae.ai.bi,F.lc.ae.bv,F.lc.ae.ax,F.lc.kw,F.up,[])
def azt:=Oc 209 rfl [eU,U0,th,Un] (aG cQ (gG d6)) (Arg.cT (aG cQ IH)) .eT (u2 HL)
def DE(F:Choice)(p1:Int×Int):O Qh:=bif F.v6==1 then(DD F.bv p1).bind λa0=>bif a0.2.2 !=0 then NE (kS,[],a0.2.2)else NE (Choice.mk F.v6 a0.1 F.dd F.bW F.bN,a0.2.1,0)else bif F.v6==2 then(HJ F.dd p1).bind λa1=>bif a1.2.2 !=0 then NE (kS,[],a1.2.2)else NE (Choice.mk F.v6 F.bv a1.1 F.bW F.bN,a1.2.1,0)else bif F.v6==3 then(HK F.bW p1).bind λa2=>bif a2.2.2 !=0 then NE (kS,[],a2.2.2)else NE (Choice.mk F.v6 F.bv F.dd a2.1 F.bN,a2.2.1,0)else bif F.v6==4 then(HL F.bN p1).bind λa3=>bif a3.2.2 !=0 then NE (kS,[],a3.2.2)else NE (Choice.mk F.v6 F.bv F.dd F.bW a3.1,a3.2.1,0)else NE (F,[],0)
def azu:=Oc 126 rfl [azq,azr,azs,azt] Yd Uv .eT (u2 DE)
def sg(F:Choice)(p1:Int×Int):O Qh:=(eg F).bind λn0=>bif n0 !=0 then(eg F).bind λn1=>NE (kS,[],n1)else(qP F p1).bind λn2=>bif n2 !=0 then(qP F p1).bind λn3=>NE (kS,[],n3)else(DE F p1).bind λa4=>NE a4
def c56:=Oc 56 rfl [NW,azo,azu] Yd Uv .eT (u2 sg)
def si(F:Choice)(p1:Int×Int×Int×Int×Int×Int×Int):O (Choice×Int×Bool):=bif p1.1==1 then(Gh F (p1.2.1,p1.2.2.1,p1.2.2.2.1)).bind λa0=>NE (a0.1,0,a0.2==0)else bif p1.1==2 then(DC F p1.2.2.2.2.1).bind λa1=>NE (a1.1,0,a1.2==0)else bif p1.1==3 then(zc F (p1.2.1,p1.2.2.1,p1.2.2.2.1)).bind λa2=>NE (a2.1,0,a2.2==0)else bif p1.1==4 then(sg F p1.2.2.2.2.2).bind λa3=>NE (a3.1,If (IR a3.2.1),a3.2.2==0)else NE (kS,0,2==0)
def c25:=Oc 25 rfl [c53,c54,c55,c56] (aG bP (gG (bM.row zF))) (Arg.cT (aG bP (aI P'))) .eT (u2 si)
def ry(s:Vt×Int×Ps):O (Step (Vt×Int×Ps) Tm):=bif Y (s.2.1<(If (IR s.1)))then(az s.1 s.2.1).bind λa0=>(si (NV s.2.2) a0).bind λa1=>bif !a1.2.2 then NE (.next (s.1,M d5 (s.2.1+1),s.2.2))else(fv a1.1).bind λr2=>NE (.next (s.1,M d5 (s.2.1+1),rnN s.2.2 a1.1 a1.2.1 (If (IR r2.jp.am))))else(fv (NV s.2.2)).bind λr3=>(fv (c9 s.2.2)).bind λr4=>NE (.done (rnF s.2.2 (r3.af.aO-r4.af.aO)))
def zk(F:Choice)(p1:Vt):O Tm:=(eg F).bind λn0=>bif n0 !=0 then(eg F).bind λn1=>NE (kS,(0,0,0),n1)else bif Y (120<(If (IR p1)))then NE (kS,(0,0,0),4)else(qo F).bind λr2=>(fv F).bind λr3=>au ry (p1,0,U6 F r2 0 (If (IR r3.jp.am)))
def c50:=Oc 9 rfl [NW,hul,c7p,c6,c25] x3 (Arg.cT (aG bP V6)) .eT (u2 zk)
def jm(F:Choice)(p1:Choice):O Bool:=bif F.v6==p1.v6 then(kF F.bv p1.bv).bind λb0=>bif b0 then(kH F.dd p1.dd).bind λb1=>bif b1 then(kI F.bW p1.bW).bind λb2=>bif b2 then(kJ F.bN p1.bN).bind λb3=>NE b3 else NE PP else NE PP else NE PP else NE PP
def c10:=Oc 10 rfl [c26,c27,c28,c29] (aG bP (gG bP)) Arg.bool .pure (u2 jm)
def vJ(F:Choice)(p1:J (Int×Int×Int×Int×Int×Int×Int)):O Bool:=(Fa F).bind λb0=>bif b0 then NE true else(fv F).bind λr1=>(HC r1.jp).bind λb2=>bif b2 then NE true else bif Y (10<(If (IR p1)))then bif Y ((If (IR p1))<=120)then NE true else bif Y (130<(If (IR p1)))then NE true else(qo F).bind λr3=>(ua r3 p1).bind λa4=>(zk F p1).bind λa5=>(jm a4.1 a5.1).bind λb6=>bif b6 then bif(a4.2.1.1==a5.2.1.1)&&((a4.2.1.2.1==a5.2.1.2.1)&&(a4.2.1.2.2==a5.2.1.2.2))then bif a4.2.2==a5.2.2 then(jm r3 F).bind λb7=>NE b7 else NE PP else NE PP else NE PP else bif Y (130<(If (IR p1)))then NE true else(qo F).bind λr8=>(ua r8 p1).bind λa9=>(zk F p1).bind λwM=>(jm a9.1 wM.1).bind λb11=>bif b11 then bif(a9.2.1.1==wM.2.1.1)&&((a9.2.1.2.1==wM.2.1.2.1)&&(a9.2.1.2.2==wM.2.1.2.2))then bif a9.2.2==wM.2.2 then(jm r8 F).bind λI8=>NE I8 else NE PP else NE PP else NE PP
def c3:=Oc 3 rfl [c4,c6,c5,hul,c7p,akN,c50,c10] x3 Arg.bool .pure (u2 vJ)
end
end
end Go.Proofs.YtbelikaakgedaaaGreat
