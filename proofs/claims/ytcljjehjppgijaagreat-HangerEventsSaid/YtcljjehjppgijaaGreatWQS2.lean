/- Plain functions for what the functions of the seat compute. Printed by a program. -/
import Derived.Test.YtcljjehjppgijaaGreatWVm3
import Derived.Test.YtcljjehjppgijaaGreatWQXT
import Derived.Test.YtcljjehjppgijaaGreatWQS1
open Int renaming ofNat->lw
open List renaming length->pp
open Option renaming some->ut
open Bool renaming false->v6
open Decidable renaming decide->ww
set_option maxRecDepth 100000
namespace Go.Proofs.YtcljjehjppgijaaGreat
open Go.Vm
noncomputable section
section
variable [LP]
def wI (p0:aZ) (p1:aZ):Option Bool:=bif p0.aL !=p1.aL then ut v6 else bif (lw (pp p0.ce)) !=(lw (pp p1.ce)) then ut v6 else aB pS (0,p0.aL,p0.ce,p1.aL,p1.ce)
def aoX:Ce:=Od YI aF [] (au.cons (Arg.agg lW) (au.one (Arg.agg lW))) Arg.bool .pure (fun a=>wI a.1 a.2)
def lf (s:aah):Option (Step aah Bool):=bif ww (s.2.2<(lw (pp s.1))) then (aG s.1 s.2.2).bind fun n0=>(aG s.2.1 s.2.2).bind fun n1=>bif n0 !=n1 then ut (.done v6) else ut (.next (s.1,s.2.1,ai .i64 (s.2.2+1))) else ut (.done true)
def jK (p0:List Int) (p1:List Int):Option Bool:=bif (lw (pp p0)) !=(lw (pp p1)) then ut v6 else aB lf (p0,p1,0)
def akg:Ce:=Od Zo aF [] (au.cons (Arg.sl ki) (au.one (Arg.sl ki))) Arg.bool .pure (fun a=>jK a.1 a.2)
def j8 (s:((List Bool)×(List Bool)×Int)):Option (Step ((List Bool)×(List Bool)×Int) Bool):=bif ww (s.2.2<(lw (pp s.1))) then (aG s.1 s.2.2).bind fun b0=>(aG s.2.1 s.2.2).bind fun b1=>bif !(b0==b1) then ut (.done v6) else ut (.next (s.1,s.2.1,ai .i64 (s.2.2+1))) else ut (.done true)
def mS (p0:List Bool) (p1:List Bool):Option Bool:=bif (lw (pp p0)) !=(lw (pp p1)) then ut v6 else aB j8 (p0,p1,0)
def aoY:Ce:=Od ZP aF [] (au.cons (Arg.sl kb) (au.one (Arg.sl kb))) Arg.bool .pure (fun a=>mS a.1 a.2)
def AN (p0:aS) (p1:aS):Option Bool:=(jK p0.ar p1.ar).bind fun b0=>bif b0 then (mS p0.be p1.be).bind fun b1=>bif b1 then (jK p0.bi p1.bi).bind fun b2=>ut b2 else ut v6 else ut v6
def aoZ:Ce:=Od Zn aF [akg,aoY] (au.cons (Arg.agg la) (au.one (Arg.agg la))) Arg.bool .pure (fun a=>AN a.1 a.2)
abbrev akh:=Int×(List Int)×(List Bool)×(List Int)×nH×(List Int)×(List Int)×(List Bool)×(List Int)×nH×(List Int)
def pT (s:akh):Option (Step akh Bool):=bif ww (s.1<(lw (pp s.2.2.2.2.1))) then (aG s.2.2.2.2.1 s.1).bind fun a0=>(aG s.2.2.2.2.2.2.2.2.2.1 s.1).bind fun a1=>bif !((a0.1==a1.1)&&((a0.2.1==a1.2.1)&&((a0.2.2.1==a1.2.2.1)&&((a0.2.2.2.1==a1.2.2.2.1)&&(a0.2.2.2.2==a1.2.2.2.2))))) then ut (.done v6) else ut (.next (ai .i64 (s.1+1),s.2)) else ut (.done true)
def wJ (p0:aJ) (p1:aJ):Option Bool:=(AN p0.ae p1.ae).bind fun b0=>bif !b0 then ut v6 else (jK p0.aj p1.aj).bind fun b1=>bif !b1 then ut v6 else bif (lw (pp p0.bv)) !=(lw (pp p1.bv)) then ut v6 else aB pT (0,p0.ae.ar,p0.ae.be,p0.ae.bi,p0.bv,p0.aj,p1.ae.ar,p1.ae.be,p1.ae.bi,p1.bv,p1.aj)
def ao0:Ce:=Od YJ aF [aoZ,akg] (au.cons (Arg.agg eL) (au.one (Arg.agg eL))) Arg.bool .pure (fun a=>wJ a.1 a.2)
abbrev Zt3:=Int×Int×Int×bT×Int×bT×(List Int)×(List Bool)×(List Int)×nH×(List Int)×bT×Int×Int×bT×Int×bT×(List Int)×(List Bool)×(List Int)×nH×(List Int)×bT
def pU (s:Zt3):Option (Step Zt3 Bool):=bif ww (s.1<(lw (pp s.2.2.2.2.2.2.2.2.2.2.2.1))) then (aG s.2.2.2.2.2.2.2.2.2.2.2.1 s.1).bind fun a0=>(aG s.2.2.2.2.2.2.2.2.2.2.2.2.2.2.2.2.2.2.2.2.2.2 s.1).bind fun a1=>bif !((a0.1==a1.1)&&((a0.2.1==a1.2.1)&&(a0.2.2==a1.2.2))) then ut (.done v6) else ut (.next (ai .i64 (s.1+1),s.2)) else ut (.done true)
def wK (p0:aH) (p1:aH):Option Bool:=bif !((p0.ci.1==p1.ci.1)&&(p0.ci.2==p1.ci.2)) then ut v6 else (sE p0.ii p1.ii).bind fun b0=>bif !b0 then ut v6 else (wI p0.af p1.af).bind fun b1=>bif !b1 then ut v6 else (wJ p0.aa p1.aa).bind fun b2=>bif !b2 then ut v6 else bif (lw (pp p0.io)) !=(lw (pp p1.io)) then ut v6 else aB pU (0,p0.ci.1,p0.ci.2,p0.ii.am,p0.af.aL,p0.af.ce,p0.aa.ae.ar,p0.aa.ae.be,p0.aa.ae.bi,p0.aa.bv,p0.aa.aj,p0.io,p1.ci.1,p1.ci.2,p1.ii.am,p1.af.aL,p1.af.ce,p1.aa.ae.ar,p1.aa.ae.be,p1.aa.ae.bi,p1.aa.bv,p1.aa.aj,p1.io)
def c77:Ce:=Od agp aF [aoW,aoX,ao0] (au.cons (Arg.agg cA) (au.one (Arg.agg cA))) Arg.bool .pure (fun a=>wK a.1 a.2)
def wL (p0:cC) (p1:cC):Option Bool:=(wK p0.jp p1.jp).bind fun b0=>bif b0 then (jg p0.up p1.up).bind fun b1=>ut b1 else ut v6
def c26:Ce:=Od afY aF [c77,c21] (au.cons (Arg.agg ig) (au.one (Arg.agg ig))) Arg.bool .pure (fun a=>wL a.1 a.2)
def tM (s:(fB×Int×Int×Int)):Option (Step (fB×Int×Int×Int) Bool):=bif ww (s.2.1<(lw (pp s.1))) then (aG s.1 s.2.1).bind fun a0=>bif (a0.1==s.2.2.1)&&(a0.2==s.2.2.2) then ut (.done true) else ut (.next (s.1,ai .i64 (s.2.1+1),s.2.2)) else ut (.done v6)
def ve (p0:List (Int×Int)) (p1:Int×Int):Option Bool:=aB tM (p0,0,p1)
def c28:Ce:=Od af0 aF [] (au.cons (Arg.sl gW) (au.one (Arg.agg (cb.row gW)))) Arg.bool .pure (fun a=>ve a.1 a.2)
abbrev aki:=Bool×fB×Td×Int×Bool×Int
abbrev akj:=Step (Bool×fB×Td×Int) Bool
def xy (s:aki):Option (Step aki akj):=match s with |(a,b,d,e,f,g)=>bif ww (g<(lw (pp d))) then bif f then ut (.next (a,b,d,e,true,ai .i64 (g+1))) else (aG d g).bind fun a0=>(aG b e).bind fun a1=>(aG b e).bind fun a2=>bif a0.2.2.1==(if a2.2<a1.1 then a2.2 else a1.1) then (aG d g).bind fun a3=>(aG b e).bind fun a4=>(aG b e).bind fun a5=>ut (.next (a,b,d,e,a3.2.2.2==(if a5.2>a4.1 then a5.2 else a4.1),ai .i64 (g+1))) else ut (.next (a,b,d,e,v6,ai .i64 (g+1))) else bif !f then ut (.done (.done v6)) else (fG b 0 e).bind fun l6=>(aG b e).bind fun a7=>(ve l6 a7).bind fun b8=>bif b8 then ut (.done (.done v6)) else ut (.done (.next (a,b,d,ai .i64 (e+1))))
def kU (s:(Bool×fB×Td×Int)):Option akj:=bif ww (s.2.2.2<(lw (pp s.2.1))) then aB xy (s.1,s.2.1,s.2.2.1,s.2.2.2,v6,0) else ut (.done s.1)
end
end
end Go.Proofs.YtcljjehjppgijaaGreat
