/- Plain functions for what the functions of the seat compute. Printed by a program. -/
import Derived.Test.YtlnclppkepgdmaaGreatVVm3
import Derived.Test.YtlnclppkepgdmaaGreatVQXT
import Derived.Test.YtlnclppkepgdmaaGreatVQS1
open Int renaming ofNat->pp
open List renaming length->rc
open Option renaming some->sp
open Bool renaming true->ut,false->v6
open Decidable renaming decide->ww
set_option maxRecDepth 100000
namespace Go.Proofs.YtlnclppkepgdmaaGreat
open Go.Vm
noncomputable section
section
variable [LP]
def oE (s:(Int×Int×(List Int)×(List Int))):Option (Step (Int×Int×(List Int)×(List Int)) Int):=bif ww (s.2.1<s.1) then (aH s.2.2.1 s.2.1).bind fun n0=>bif ww (n0<(-1)) then sp (.done 8) else (aH s.2.2.1 s.2.1).bind fun n1=>bif ww (65535<n1) then sp (.done 8) else sp (.next (s.1,aa .i64 (s.2.1+1),s.2.2)) else aB lM (0,s.2.2)
def qK (p0:bq):Option Int:=bif ww ((pp (rc p0.aW))<1) then sp 8 else bif ww (64<(pp (rc p0.aW))) then sp 8 else bif (pp (rc p0.jG)) !=(aa .i64 ((pp (rc p0.aW)) -1)) then sp 8 else (yO p0.aW).bind fun b0=>bif b0 then sp 8 else aB oE (pp (rc p0.aW),0,p0.aW,p0.jG)
def c76:Ce:=Od aii aD [aq1,c40] (ar.one (Arg.agg fI)) (Arg.int .i64) .pure (fun a=>qK a)
def oF (s:(Int×Int)):Option (Step (Int×Int) Bool):=bif ww (s.2<=64) then bif s.1==s.2 then sp (.done ut) else sp (.next (s.1,aa .i64 (s.2*2))) else sp (.done v6)
def ud (p0:Int):Option Bool:=aB oF (p0,1)
def c77:Ce:=Od aij aD [] (ar.one (Arg.int .i64)) Arg.bool .pure (fun a=>ud a)
def oG (s:((List Int)×Int×cQ)):Option (Step ((List Int)×Int×cQ) Bool):=bif ww (s.2.1<(pp (rc s.1))) then (aH s.1 s.2.1).bind fun n0=>bif n0 !=(-1) then (aH s.1 s.2.1).bind fun n1=>(ga (Field.mk s.2.2) n1).bind fun n2=>bif ww (n2<0) then sp (.done v6) else sp (.next (s.1,aa .i64 (s.2.1+1),s.2.2)) else sp (.next (s.1,aa .i64 (s.2.1+1),s.2.2)) else sp (.done ut)
def ug (p0:Field) (p1:List Int):Option Bool:=aB oG (p1,0,p0.am)
def c78:Ce:=Od aik aD [c97] (ar.cons (Arg.agg cC) (ar.one (Arg.sl ki))) Arg.bool .pure (fun a=>ug a.1 a.2)
def rW (s:((List Int)×Int×(List Int))):Option (Step ((List Int)×Int×(List Int)) (List Int)):=bif ww (s.2.1<(pp (rc s.1))) then (aH s.1 s.2.1).bind fun n0=>bif ww (0<=n0) then (aH s.1 s.2.1).bind fun n1=>(bK s.2.2 [n1]).bind fun l2=>sp (.next (s.1,aa .i64 (s.2.1+1),l2)) else sp (.next (s.1,aa .i64 (s.2.1+1),s.2.2)) else sp (.done s.2.2)
def zz (p0:List Int):Option (List Int):=aB rW (p0,0,[])
def c79:Ce:=Od ail aD [] (ar.one (Arg.sl ki)) (Arg.sl ki) .u4 (fun a=>zz a)
def sm (p0:Field) (p1:Int×Int) (p2:Int) (p3:Int):Option Int:=bif ww (p2<0) then sp p3 else bif ww (p3<0) then sp p2 else (ga p0 p2).bind fun n0=>(aH p0.am n0).bind fun a1=>(ga p0 p3).bind fun n2=>(aH p0.am n2).bind fun a3=>(nI a1 a3 p1).bind fun b4=>bif b4 then sp p2 else sp p3
def c41:Ce:=Od ahP aD [c97,c98] (ar.cons (Arg.agg cC) (ar.cons (Arg.agg (bZ.row gS)) (ar.cons (Arg.int .i64) (ar.one (Arg.int .i64))))) (Arg.int .i64) .pure (fun a=>sm a.1 a.2.1 a.2.2.1 a.2.2.2)
def p8 (s:(Int×(List Int)×(List Int)×cQ×Int×Int)):Option (Step (Int×(List Int)×(List Int)×cQ×Int×Int) Bool):=bif ww (s.1<(pp (rc s.2.2.1))) then (aH s.2.2.1 s.1).bind fun n0=>(iC (bq.mk s.2.1 s.2.2.1) (aa .i64 ((aa .i64 (2*s.1))+1))).bind fun n1=>(iC (bq.mk s.2.1 s.2.2.1) (aa .i64 ((aa .i64 (2*s.1))+2))).bind fun n2=>(sm (Field.mk s.2.2.2.1) s.2.2.2.2 n1 n2).bind fun n3=>bif n0 !=n3 then sp (.done v6) else sp (.next (aa .i64 (s.1+1),s.2)) else sp (.done ut)
def sU (p0:bq) (p1:Field) (p2:Int×Int):Option Bool:=aB p8 (0,p0.aW,p0.jG,p1.am,p2)
def c80:Ce:=Od aim aD [c40,c41] (ar.cons (Arg.agg fI) (ar.cons (Arg.agg cC) (ar.one (Arg.agg (bZ.row gS))))) Arg.bool .pure (fun a=>sU a.1 a.2.1 a.2.2)
def uh (s:(Int×(List Int)×(List Int)×lE)):Option (Step (Int×(List Int)×(List Int)×lE) lE):=bif ww (s.1<(pp (rc s.2.2.1))) then (iC (bq.mk s.2.1 s.2.2.1) (aa .i64 ((aa .i64 (2*s.1))+1))).bind fun n0=>(iC (bq.mk s.2.1 s.2.2.1) (aa .i64 ((aa .i64 (2*s.1))+2))).bind fun n1=>bif ww (n0<0) then sp (.next (aa .i64 (s.1+1),s.2)) else bif ww (n1<0) then sp (.next (aa .i64 (s.1+1),s.2)) else (aH s.2.2.1 s.1).bind fun n2=>bif n2==n0 then (bK s.2.2.2 [(n1,n0)]).bind fun l3=>sp (.next (aa .i64 (s.1+1),s.2.1,s.2.2.1,l3)) else (bK s.2.2.2 [(n0,n1)]).bind fun l4=>sp (.next (aa .i64 (s.1+1),s.2.1,s.2.2.1,l4)) else sp (.done s.2.2.2)
def vD (p0:bq):Option lE:=aB uh (0,p0.aW,p0.jG,[])
def c62:Ce:=Od ah5 aD [c40] (ar.one (Arg.agg fI)) (Arg.sl gS) .u4 (fun a=>vD a)
def rX (s:(Int×Int×cQ×Int×Int)):Option (Step (Int×Int×cQ×Int×Int) Bool):=bif ww (s.1<(pp (rc s.2.2.1))) then (aH s.2.2.1 s.1).bind fun a0=>bif (a0.2.1==s.2.2.2.1)&&(a0.2.2==s.2.2.2.2) then sp (.done ut) else sp (.next (aa .i64 (s.1+1),s.2)) else sp (.done v6)
def sq (p0:bm) (p1:Int×Int):Option Bool:=aB rX (0,p0.aL,p0.ce,p1)
def aq3:Ce:=Od ZY aD [] (ar.cons (Arg.agg lV) (ar.one (Arg.agg (bZ.row gS)))) Arg.bool .pure (fun a=>sq a.1 a.2)
def wS (p0:Int×Int) (p1:Field) (p2:Int×Int):Option Bool:=(ga p1 p0.2).bind fun n0=>(aH p1.am n0).bind fun a1=>(ga p1 p0.1).bind fun n2=>(aH p1.am n2).bind fun a3=>(nI a1 a3 p2).bind fun b4=>sp b4
def aq4:Ce:=Od ZZ aD [c97,c98] (ar.cons (Arg.agg (bZ.row gS)) (ar.cons (Arg.agg cC) (ar.one (Arg.agg (bZ.row gS))))) Arg.bool .pure (fun a=>wS a.1 a.2.1 a.2.2)
abbrev amh:=lE×Int×Int×Int×cQ×Int×cQ×(List Int)×(List Bool)×(List Int)×nP×(List Int)×cQ
def p9 (s:amh):Option (Step amh Bool):=bif ww (s.2.1<(pp (rc s.1))) then (aH s.1 s.2.1).bind fun a0=>(sq (bm.mk s.2.2.2.2.2.1 s.2.2.2.2.2.2.1) a0).bind fun b1=>bif !b1 then sp (.done v6) else (aH s.1 s.2.1).bind fun a2=>(wS a2 (Field.mk s.2.2.2.2.1) (s.2.2.1,s.2.2.2.1)).bind fun b3=>bif !b3 then sp (.done v6) else sp (.next (s.1,aa .i64 (s.2.1+1),s.2.2)) else sp (.done ut)
def wT (p0:aI) (p1:List (Int×Int)):Option Bool:=bif (pp (rc p0.ai.ce)) !=(pp (rc p1)) then sp v6 else aB p9 (p1,0,p0.ci.1,p0.ci.2,p0.ii.am,p0.ai.aL,p0.ai.ce,p0.ae.af.az,p0.ae.af.be,p0.ae.af.bi,p0.ae.bv,p0.ae.aj,p0.io)
def c81:Ce:=Od ain aD [aq3,aq4] (ar.cons (Arg.agg cI) (ar.one (Arg.sl gS))) Arg.bool .pure (fun a=>wT a.1 a.2)
def ui (p0:cV):Option Int:=(ua p0.jp).bind fun n0=>bif n0 !=0 then sp 8 else (qK p0.kw).bind fun n1=>bif n1 !=0 then sp 8 else (ud (pp (rc p0.kw.aW))).bind fun b2=>bif !b2 then sp 8 else (ug p0.jp.ii p0.kw.aW).bind fun b3=>bif !b3 then sp 8 else (zz p0.kw.aW).bind fun l4=>bif (pp (rc l4)) !=(pp (rc p0.jp.ii.am)) then sp 8 else (sU p0.kw p0.jp.ii p0.jp.ci).bind fun b5=>bif !b5 then sp 8 else (vD p0.kw).bind fun l6=>(wT p0.jp l6).bind fun b7=>bif !b7 then sp 8 else sp 0
def c24:Ce:=Od ahF aD [c75,c76,c77,c78,c79,c80,c62,c81] (ar.one (Arg.agg iv)) (Arg.int .i64) .pure (fun a=>ui a)
def vE (p0:cV):Option Bool:=(qF p0).bind fun b0=>bif !b0 then (Bc p0.jp.ii).bind fun b1=>bif !b1 then (ui p0).bind fun n2=>sp (n2==0) else sp v6 else sp v6
def c35:Ce:=Od ahM aD [c9,c10,c24] (ar.one (Arg.agg iv)) Arg.bool .pure (fun a=>vE a)
def wU (p0:Int×Int) (p1:Int×Int):Option Int:=(jY p0).bind fun n0=>bif n0 !=0 then (jY p0).bind fun n1=>sp n1 else (jY p1).bind fun n2=>sp n2
def c30:Ce:=Od ahK aD [c36] (ar.cons (Arg.agg (bZ.row gS)) (ar.one (Arg.agg (bZ.row gS)))) (Arg.int .i64) .pure (fun a=>wU a.1 a.2)
def hJ (s:(lE×lE×Int×Int)):Option (Step (lE×lE×Int×Int) Int):=bif ww (s.2.2.2<s.2.2.1) then (aH s.2.1 s.2.2.2).bind fun a0=>(dS a0).bind fun n1=>bif n1 !=0 then sp (.done n1) else sp (.next (s.1,s.2.1,s.2.2.1,aa .i64 (s.2.2.2+1))) else bif (pp (rc s.1))==2 then (aH s.1 0).bind fun a2=>(aH s.1 1).bind fun a3=>(ng a2 a3).bind fun n4=>bif ww (0<n4) then sp (.done 2) else sp (.done 0) else sp (.done 0)
def wV (p0:Field) (p1:List (Int×Int)):Option Int:=(eD p0).bind fun n0=>bif n0 !=0 then sp n0 else aB hJ (p1,p1,pp (rc p1),0)
def c99:Ce:=Od aix aD [N9,Ry,aiD] (ar.cons (Arg.agg cC) (ar.one (Arg.sl gS))) (Arg.int .i64) .pure (fun a=>wV a.1 a.2)
def mH (p0:Int×Int×Int×Int) (p1:Int×Int):Option Int:=(ng (p0.1,p0.2.1) p1).bind fun n0=>bif ww (0<n0) then sp 1 else sp (-1)
def aq5:Ce:=Od Z5 aD [aiD] (ar.cons (Arg.agg (bZ.row Gu)) (ar.one (Arg.agg (bZ.row gS)))) (Arg.int .i64) .pure (fun a=>mH a.1 a.2)
abbrev UI:=List (Int×Int×Int×Int)
def aY (s:(UI×Int×Int×Int×Int×Int)):Option (Step (UI×Int×Int×Int×Int×Int) (Int×Bool)):=bif ww (s.2.2.1<s.2.2.2.1) then (aH s.1 (aa .i64 (mw .u64 (aa .u64 (aa .i64 (s.2.2.1+s.2.2.2.1))) 1))).bind fun a0=>(mH a0 s.2.2.2.2).bind fun n1=>bif ww (n1<0) then sp (.next (s.1,s.2.1,aa .i64 ((aa .i64 (mw .u64 (aa .u64 (aa .i64 (s.2.2.1+s.2.2.2.1))) 1))+1),s.2.2.2)) else sp (.next (s.1,s.2.1,s.2.2.1,aa .i64 (mw .u64 (aa .u64 (aa .i64 (s.2.2.1+s.2.2.2.1))) 1),s.2.2.2.2)) else bif ww (s.2.2.1<s.2.1) then (aH s.1 s.2.2.1).bind fun a2=>(mH a2 s.2.2.2.2).bind fun n3=>sp (.done (s.2.2.1,n3==0)) else sp (.done (s.2.2.1,v6))
def bJ (p0:List (Int×Int×Int×Int)) (p1:Int×Int) (_:Unit):Option (Int×Bool):=aB aY (p0,pp (rc p0),0,pp (rc p0),p1)
def UJ:Ce:=Od Z4 aD [aq5] (ar.cons (Arg.sl Gu) (ar.cons (Arg.agg (bZ.row gS)) (ar.one (Arg.eA 167 ar.nil)))) (Arg.bY (ar.cons (Arg.int .i64) (ar.one Arg.bool))) .pure (fun a=>bJ a.1 a.2.1 a.2.2)
def qL (p0:List (Int×Int×Int×Int)) (p1:Int×Int):Option Int:=(bJ p0 p1 ()).bind fun a0=>sp a0.1
def ami:Ce:=Od Zu aD [UJ] (ar.cons (Arg.sl Gu) (ar.one (Arg.agg (bZ.row gS)))) (Arg.int .i64) .pure (fun a=>qL a.1 a.2)
def qc (s:(Int×cQ×cQ)):Option (Step (Int×cQ×cQ) Bool):=bif ww (s.1<(pp (rc s.2.1))) then (aH s.2.1 s.1).bind fun a0=>(aH s.2.2 s.1).bind fun a1=>bif !((a0.1==a1.1)&&((a0.2.1==a1.2.1)&&(a0.2.2==a1.2.2))) then sp (.done v6) else sp (.next (aa .i64 (s.1+1),s.2)) else sp (.done ut)
def sV (p0:Field) (p1:Field):Option Bool:=bif (pp (rc p0.am)) !=(pp (rc p1.am)) then sp v6 else aB qc (0,p0.am,p1.am)
def aq6:Ce:=Od ZG aD [] (ar.cons (Arg.agg cC) (ar.one (Arg.agg cC))) Arg.bool .pure (fun a=>sV a.1 a.2)
def qd (s:(Int×Int×cQ×Int×cQ)):Option (Step (Int×Int×cQ×Int×cQ) Bool):=bif ww (s.1<(pp (rc s.2.2.1))) then (aH s.2.2.1 s.1).bind fun a0=>(aH s.2.2.2.2 s.1).bind fun a1=>bif !((a0.1==a1.1)&&((a0.2.1==a1.2.1)&&(a0.2.2==a1.2.2))) then sp (.done v6) else sp (.next (aa .i64 (s.1+1),s.2)) else sp (.done ut)
def wW (p0:bm) (p1:bm):Option Bool:=bif p0.aL !=p1.aL then sp v6 else bif (pp (rc p0.ce)) !=(pp (rc p1.ce)) then sp v6 else aB qd (0,p0.aL,p0.ce,p1.aL,p1.ce)
def aq7:Ce:=Od ZH aD [] (ar.cons (Arg.agg lV) (ar.one (Arg.agg lV))) Arg.bool .pure (fun a=>wW a.1 a.2)
def lg (s:aby):Option (Step aby Bool):=bif ww (s.2.2<(pp (rc s.1))) then (aH s.1 s.2.2).bind fun n0=>(aH s.2.1 s.2.2).bind fun n1=>bif n0 !=n1 then sp (.done v6) else sp (.next (s.1,s.2.1,aa .i64 (s.2.2+1))) else sp (.done ut)
def jM (p0:List Int) (p1:List Int):Option Bool:=bif (pp (rc p0)) !=(pp (rc p1)) then sp v6 else aB lg (p0,p1,0)
def amj:Ce:=Od aao aD [] (ar.cons (Arg.sl ki) (ar.one (Arg.sl ki))) Arg.bool .pure (fun a=>jM a.1 a.2)
def kg (s:((List Bool)×(List Bool)×Int)):Option (Step ((List Bool)×(List Bool)×Int) Bool):=bif ww (s.2.2<(pp (rc s.1))) then (aH s.1 s.2.2).bind fun b0=>(aH s.2.1 s.2.2).bind fun b1=>bif !(b0==b1) then sp (.done v6) else sp (.next (s.1,s.2.1,aa .i64 (s.2.2+1))) else sp (.done ut)
def mT (p0:List Bool) (p1:List Bool):Option Bool:=bif (pp (rc p0)) !=(pp (rc p1)) then sp v6 else aB kg (p0,p1,0)
def aq8:Ce:=Od aaX aD [] (ar.cons (Arg.sl kb) (ar.one (Arg.sl kb))) Arg.bool .pure (fun a=>mT a.1 a.2)
def Bd (p0:aS) (p1:aS):Option Bool:=(jM p0.az p1.az).bind fun b0=>bif b0 then (mT p0.be p1.be).bind fun b1=>bif b1 then (jM p0.bi p1.bi).bind fun b2=>sp b2 else sp v6 else sp v6
def aq9:Ce:=Od aan aD [amj,aq8] (ar.cons (Arg.agg la) (ar.one (Arg.agg la))) Arg.bool .pure (fun a=>Bd a.1 a.2)
abbrev amk:=Int×(List Int)×(List Bool)×(List Int)×nP×(List Int)×(List Int)×(List Bool)×(List Int)×nP×(List Int)
def qe (s:amk):Option (Step amk Bool):=bif ww (s.1<(pp (rc s.2.2.2.2.1))) then (aH s.2.2.2.2.1 s.1).bind fun a0=>(aH s.2.2.2.2.2.2.2.2.2.1 s.1).bind fun a1=>bif !((a0.1==a1.1)&&((a0.2.1==a1.2.1)&&((a0.2.2.1==a1.2.2.1)&&((a0.2.2.2.1==a1.2.2.2.1)&&(a0.2.2.2.2==a1.2.2.2.2))))) then sp (.done v6) else sp (.next (aa .i64 (s.1+1),s.2)) else sp (.done ut)
def wX (p0:aK) (p1:aK):Option Bool:=(Bd p0.af p1.af).bind fun b0=>bif !b0 then sp v6 else (jM p0.aj p1.aj).bind fun b1=>bif !b1 then sp v6 else bif (pp (rc p0.bv)) !=(pp (rc p1.bv)) then sp v6 else aB qe (0,p0.af.az,p0.af.be,p0.af.bi,p0.bv,p0.aj,p1.af.az,p1.af.be,p1.af.bi,p1.bv,p1.aj)
def aq':Ce:=Od ZI aD [aq9,amj] (ar.cons (Arg.agg eV) (ar.one (Arg.agg eV))) Arg.bool .pure (fun a=>wX a.1 a.2)
abbrev Zt3:=Int×Int×Int×cQ×Int×cQ×(List Int)×(List Bool)×(List Int)×nP×(List Int)×cQ×Int×Int×cQ×Int×cQ×(List Int)×(List Bool)×(List Int)×nP×(List Int)×cQ
def qf (s:Zt3):Option (Step Zt3 Bool):=bif ww (s.1<(pp (rc s.2.2.2.2.2.2.2.2.2.2.2.1))) then (aH s.2.2.2.2.2.2.2.2.2.2.2.1 s.1).bind fun a0=>(aH s.2.2.2.2.2.2.2.2.2.2.2.2.2.2.2.2.2.2.2.2.2.2 s.1).bind fun a1=>bif !((a0.1==a1.1)&&((a0.2.1==a1.2.1)&&(a0.2.2==a1.2.2))) then sp (.done v6) else sp (.next (aa .i64 (s.1+1),s.2)) else sp (.done ut)
def wY (p0:aI) (p1:aI):Option Bool:=bif !((p0.ci.1==p1.ci.1)&&(p0.ci.2==p1.ci.2)) then sp v6 else (sV p0.ii p1.ii).bind fun b0=>bif !b0 then sp v6 else (wW p0.ai p1.ai).bind fun b1=>bif !b1 then sp v6 else (wX p0.ae p1.ae).bind fun b2=>bif !b2 then sp v6 else bif (pp (rc p0.io)) !=(pp (rc p1.io)) then sp v6 else aB qf (0,p0.ci.1,p0.ci.2,p0.ii.am,p0.ai.aL,p0.ai.ce,p0.ae.af.az,p0.ae.af.be,p0.ae.af.bi,p0.ae.bv,p0.ae.aj,p0.io,p1.ci.1,p1.ci.2,p1.ii.am,p1.ai.aL,p1.ai.ce,p1.ae.af.az,p1.ae.af.be,p1.ae.af.bi,p1.ae.bv,p1.ae.aj,p1.io)
def c57:Ce:=Od ah1 aD [aq6,aq7,aq'] (ar.cons (Arg.agg cI) (ar.one (Arg.agg cI))) Arg.bool .pure (fun a=>wY a.1 a.2)
def wZ (p0:cV) (p1:cV):Option Bool:=(wY p0.jp p1.jp).bind fun b0=>bif b0 then (sQ p0.kw p1.kw).bind fun b1=>sp b1 else sp v6
def c14:Ce:=Od ahz aD [c57,c58] (ar.cons (Arg.agg iv) (ar.one (Arg.agg iv))) Arg.bool .pure (fun a=>wZ a.1 a.2)
def uj (s:(lE×Int×Int×Int)):Option (Step (lE×Int×Int×Int) Bool):=bif ww (s.2.1<(pp (rc s.1))) then (aH s.1 s.2.1).bind fun a0=>bif (a0.1==s.2.2.1)&&(a0.2==s.2.2.2) then sp (.done ut) else sp (.next (s.1,aa .i64 (s.2.1+1),s.2.2)) else sp (.done v6)
def vF (p0:List (Int×Int)) (p1:Int×Int):Option Bool:=aB uj (p0,0,p1)
def c44:Ce:=Od ahS aD [] (ar.cons (Arg.sl gS) (ar.one (Arg.agg (bZ.row gS)))) Arg.bool .pure (fun a=>vF a.1 a.2)
abbrev aml:=Bool×lE×UI×Int×Bool×Int
abbrev amm:=Step (Bool×lE×UI×Int) Bool
def xR (s:aml):Option (Step aml amm):=match s with |(a,b,d,e,f,g)=>bif ww (g<(pp (rc d))) then bif f then sp (.next (a,b,d,e,ut,aa .i64 (g+1))) else (aH d g).bind fun a0=>(aH b e).bind fun a1=>(aH b e).bind fun a2=>bif a0.2.2.1==(if a2.2<a1.1 then a2.2 else a1.1) then (aH d g).bind fun a3=>(aH b e).bind fun a4=>(aH b e).bind fun a5=>sp (.next (a,b,d,e,a3.2.2.2==(if a5.2>a4.1 then a5.2 else a4.1),aa .i64 (g+1))) else sp (.next (a,b,d,e,v6,aa .i64 (g+1))) else bif !f then sp (.done (.done v6)) else (fG b 0 e).bind fun l6=>(aH b e).bind fun a7=>(vF l6 a7).bind fun b8=>bif b8 then sp (.done (.done v6)) else sp (.done (.next (a,b,d,aa .i64 (e+1))))
def kV (s:(Bool×lE×UI×Int)):Option amm:=bif ww (s.2.2.2<(pp (rc s.2.1))) then aB xR (s.1,s.2.1,s.2.2.1,s.2.2.2,v6,0) else sp (.done s.1)
end
end
end Go.Proofs.YtlnclppkepgdmaaGreat
