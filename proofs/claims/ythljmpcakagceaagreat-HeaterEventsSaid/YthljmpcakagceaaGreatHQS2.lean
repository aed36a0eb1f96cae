/- Plain functions for what the functions of the seat compute. Printed by a program. -/
import Derived.Test.YthljmpcakagceaaGreatHVm3
import Derived.Test.YthljmpcakagceaaGreatHQXT
import Derived.Test.YthljmpcakagceaaGreatHQS1
open Int renaming ofNat->v6
open List renaming length->ww
open Option renaming some->AC
open Bool renaming true->Do,false->EQ
open Decidable renaming decide->If
set_option maxRecDepth 100000
namespace Go.Proofs.YthljmpcakagceaaGreat
open Go.Vm
noncomputable section
section
variable [LP]
def pC (s:(Int×bX×bX)):Option (Step (Int×bX×bX) Bool):=bif If (s.1<(v6 (ww s.2.1))) then (aG s.2.1 s.1).bind fun a0=>(aG s.2.2 s.1).bind fun a1=>bif !((a0.1==a1.1)&&((a0.2.1==a1.2.1)&&(a0.2.2==a1.2.2))) then AC (.done EQ) else AC (.next (ai .i64 (s.1+1),s.2)) else AC (.done Do)
def rY (p0:Field) (p1:Field):Option Bool:=bif (v6 (ww p0.am)) !=(v6 (ww p1.am)) then AC EQ else aB pC (0,p0.am,p1.am)
def c45:Ce:=Od afw aF [] (au.cons (Arg.agg cO) (au.one (Arg.agg cO))) Arg.bool .pure (fun a=>rY a.1 a.2)
def pD (s:af4):Option ajw:=bif If (s.1<(v6 (ww s.2.2.1))) then (aG s.2.2.1 s.1).bind fun a0=>(aG s.2.2.2.2 s.1).bind fun a1=>bif !((a0.1==a1.1)&&((a0.2.1==a1.2.1)&&(a0.2.2==a1.2.2))) then AC (.done EQ) else AC (.next (ai .i64 (s.1+1),s.2)) else AC (.done Do)
def vW (p0:bc) (p1:bc):Option Bool:=bif p0.aL !=p1.aL then AC EQ else bif (v6 (ww p0.ce)) !=(v6 (ww p1.ce)) then AC EQ else aB pD (0,p0.aL,p0.ce,p1.aL,p1.ce)
def aoC:Ce:=Od X8 aF [] (au.cons (Arg.agg lM) (au.one (Arg.agg lM))) Arg.bool .pure (fun a=>vW a.1 a.2)
def kT (s:((List Int)×(List Int)×Int)):Option (Step ((List Int)×(List Int)×Int) Bool):=bif If (s.2.2<(v6 (ww s.1))) then (aG s.1 s.2.2).bind fun n0=>(aG s.2.1 s.2.2).bind fun n1=>bif n0 !=n1 then AC (.done EQ) else AC (.next (s.1,s.2.1,ai .i64 (s.2.2+1))) else AC (.done Do)
def jF (p0:List Int) (p1:List Int):Option Bool:=bif (v6 (ww p0)) !=(v6 (ww p1)) then AC EQ else aB kT (p0,p1,0)
def ajY:Ce:=Od YI aF [] (au.cons (Arg.sl ki) (au.one (Arg.sl ki))) Arg.bool .pure (fun a=>jF a.1 a.2)
def jZ (s:((List Bool)×(List Bool)×Int)):Option (Step ((List Bool)×(List Bool)×Int) Bool):=bif If (s.2.2<(v6 (ww s.1))) then (aG s.1 s.2.2).bind fun b0=>(aG s.2.1 s.2.2).bind fun b1=>bif !(b0==b1) then AC (.done EQ) else AC (.next (s.1,s.2.1,ai .i64 (s.2.2+1))) else AC (.done Do)
def mF (p0:List Bool) (p1:List Bool):Option Bool:=bif (v6 (ww p0)) !=(v6 (ww p1)) then AC EQ else aB jZ (p0,p1,0)
def aoD:Ce:=Od Y8 aF [] (au.cons (Arg.sl kb) (au.one (Arg.sl kb))) Arg.bool .pure (fun a=>mF a.1 a.2)
def Ao (p0:aU) (p1:aU):Option Bool:=(jF p0.ar p1.ar).bind fun b0=>bif b0 then (mF p0.be p1.be).bind fun b1=>bif b1 then (jF p0.bi p1.bi).bind fun b2=>AC b2 else AC EQ else AC EQ
def aoE:Ce:=Od YH aF [ajY,aoD] (au.cons (Arg.agg kS) (au.one (Arg.agg kS))) Arg.bool .pure (fun a=>Ao a.1 a.2)
abbrev ajZ:=Int×(List Int)×(List Bool)×(List Int)×nv×(List Int)×(List Int)×(List Bool)×(List Int)×nv×(List Int)
def pE (s:ajZ):Option (Step ajZ Bool):=bif If (s.1<(v6 (ww s.2.2.2.2.1))) then (aG s.2.2.2.2.1 s.1).bind fun a0=>(aG s.2.2.2.2.2.2.2.2.2.1 s.1).bind fun a1=>bif !((a0.1==a1.1)&&((a0.2.1==a1.2.1)&&((a0.2.2.1==a1.2.2.1)&&((a0.2.2.2.1==a1.2.2.2.1)&&(a0.2.2.2.2==a1.2.2.2.2))))) then AC (.done EQ) else AC (.next (ai .i64 (s.1+1),s.2)) else AC (.done Do)
def vX (p0:aJ) (p1:aJ):Option Bool:=(Ao p0.ae p1.ae).bind fun b0=>bif !b0 then AC EQ else (jF p0.aj p1.aj).bind fun b1=>bif !b1 then AC EQ else bif (v6 (ww p0.bv)) !=(v6 (ww p1.bv)) then AC EQ else aB pE (0,p0.ae.ar,p0.ae.be,p0.ae.bi,p0.bv,p0.aj,p1.ae.ar,p1.ae.be,p1.ae.bi,p1.bv,p1.aj)
def aoF:Ce:=Od X9 aF [aoE,ajY] (au.cons (Arg.agg eT) (au.one (Arg.agg eT))) Arg.bool .pure (fun a=>vX a.1 a.2)
abbrev Zt3:=Int×Int×Int×bX×Int×bX×(List Int)×(List Bool)×(List Int)×nv×(List Int)×bX×Int×Int×bX×Int×bX×(List Int)×(List Bool)×(List Int)×nv×(List Int)×bX
def pF (s:Zt3):Option (Step Zt3 Bool):=bif If (s.1<(v6 (ww s.2.2.2.2.2.2.2.2.2.2.2.1))) then (aG s.2.2.2.2.2.2.2.2.2.2.2.1 s.1).bind fun a0=>(aG s.2.2.2.2.2.2.2.2.2.2.2.2.2.2.2.2.2.2.2.2.2.2 s.1).bind fun a1=>bif !((a0.1==a1.1)&&((a0.2.1==a1.2.1)&&(a0.2.2==a1.2.2))) then AC (.done EQ) else AC (.next (ai .i64 (s.1+1),s.2)) else AC (.done Do)
def vY (p0:aI) (p1:aI):Option Bool:=bif !((p0.ci.1==p1.ci.1)&&(p0.ci.2==p1.ci.2)) then AC EQ else (rY p0.ii p1.ii).bind fun b0=>bif !b0 then AC EQ else (vW p0.af p1.af).bind fun b1=>bif !b1 then AC EQ else (vX p0.aa p1.aa).bind fun b2=>bif !b2 then AC EQ else bif (v6 (ww p0.io)) !=(v6 (ww p1.io)) then AC EQ else aB pF (0,p0.ci.1,p0.ci.2,p0.ii.am,p0.af.aL,p0.af.ce,p0.aa.ae.ar,p0.aa.ae.be,p0.aa.ae.bi,p0.aa.bv,p0.aa.aj,p0.io,p1.ci.1,p1.ci.2,p1.ii.am,p1.af.aL,p1.af.ce,p1.aa.ae.ar,p1.aa.ae.be,p1.aa.ae.bi,p1.aa.bv,p1.aa.aj,p1.io)
def c86:Ce:=Od afY aF [c45,aoC,aoF] (au.cons (Arg.agg cy) (au.one (Arg.agg cy))) Arg.bool .pure (fun a=>vY a.1 a.2)
def vZ (p0:cE) (p1:cE):Option Bool:=(vY p0.lc p1.lc).bind fun b0=>bif b0 then (jQ p0.ls p1.ls).bind fun b1=>AC b1 else AC EQ
def c33:Ce:=Od afs aF [c86,c30] (au.cons (Arg.agg hZ) (au.one (Arg.agg hZ))) Arg.bool .pure (fun a=>vZ a.1 a.2)
def tc (s:(kU×Int×Int×Int)):Option (Step (kU×Int×Int×Int) Bool):=bif If (s.2.1<(v6 (ww s.1))) then (aG s.1 s.2.1).bind fun a0=>bif (a0.1==s.2.2.1)&&(a0.2==s.2.2.2) then AC (.done Do) else AC (.next (s.1,ai .i64 (s.2.1+1),s.2.2)) else AC (.done EQ)
def x6 (p0:List (Int×Int)) (p1:Int×Int):Option Bool:=aB tc (p0,0,p1)
def c35:Ce:=Od afu aF [] (au.cons (Arg.sl gL) (au.one (Arg.agg (bR.row gL)))) Arg.bool .pure (fun a=>x6 a.1 a.2)
abbrev aj0:=Bool×kU×Sv×Int×Bool×Int
abbrev aj1:=Step (Bool×kU×Sv×Int) Bool
def iC (s:aj0):Option (Step aj0 aj1):=match s with |(a,b,d,e,f,g)=>bif If (g<(v6 (ww d))) then bif f then AC (.next (a,b,d,e,Do,ai .i64 (g+1))) else (aG d g).bind fun a0=>(aG b e).bind fun a1=>(aG b e).bind fun a2=>bif a0.2.2.1==(if a2.2<a1.1 then a2.2 else a1.1) then (aG d g).bind fun a3=>(aG b e).bind fun a4=>(aG b e).bind fun a5=>AC (.next (a,b,d,e,a3.2.2.2==(if a5.2>a4.1 then a5.2 else a4.1),ai .i64 (g+1))) else AC (.next (a,b,d,e,EQ,ai .i64 (g+1))) else bif !f then AC (.done (.done EQ)) else (gO b 0 e).bind fun l6=>(aG b e).bind fun a7=>(x6 l6 a7).bind fun b8=>bif b8 then AC (.done (.done EQ)) else AC (.done (.next (a,b,d,ai .i64 (e+1))))
def cS (s:(Bool×kU×Sv×Int)):Option aj1:=bif If (s.2.2.2<(v6 (ww s.2.1))) then aB iC (s.1,s.2.1,s.2.2.1,s.2.2.2,EQ,0) else AC (.done s.1)
end
end
end Go.Proofs.YthljmpcakagceaaGreat
