/- Plain functions for what the functions of the seat compute. Printed by a program. -/
import Derived.Test.YtkdikjnhkfffjaaGreatPVm3
import Derived.Test.YtkdikjnhkfffjaaGreatPQXT
open Int renaming ofNat->EQ,tdiv->NE
open List renaming replicate->If,length->PP
open Nat renaming ble->IR
open Option renaming some->UV,none->WF
open Bool renaming true->aai,false->aaP
open Decidable renaming decide->aaQ
set_option maxRecDepth 100000
namespace Go.Proofs.YtkdikjnhkfffjaaGreat
open Go.Vm
noncomputable section
theorem Ob{f:FuncId}{x:ax}{α β:Type}{args:bR α}{res:Arg β}{kd:Kd}{fn:α->Option β}{ow:Bool}(hf:mI f=UV (.code x))(lp:Option Nat)(l:List (Nat×GB))(h:CE mI l)(ho:WK kd ow=aai:=by rfl)(e: ∀a,UY (yi lp l [] [] []) x args res kd a=fn a:=by intro a;kernel_rfl):jJ mI f ⟨args,res,fn,kd,ow⟩:=jJ.of hf (cx:=yi lp l [] [] []) ho (ur.make h trivial trivial) e
structure Ce where
 i:Nat
 c:GB
 ok:jJ mI i c
def ceL:List Ce->List (Nat×GB) | []=>[] |e::r=>(e.i,e.c)::ceL r
theorem ZK: ∀l:List Ce,CE mI (ceL l)
 | []=>trivial
 |e::r=>⟨e.ok,ZK r⟩
structure Pe where
 i:Nat
 c:fB
 ok:jY mI i c
def peL:List Pe->List (Nat×fB) | []=>[] |e::r=>(e.i,e.c)::peL r
theorem ZL: ∀l:List Pe,Kj mI (peL l)
 | []=>trivial
 |e::r=>⟨e.ok,ZL r⟩
structure Fe where
 i:Nat
 c:Cd
 ok:mI i=UV c.ent
def feL:List Fe->List (Nat×Cd) | []=>[] |e::r=>(e.i,e.c)::feL r
theorem ZM: ∀l:List Fe,Dz mI (feL l)
 | []=>trivial
 |e::r=>⟨e.ok,ZM r⟩
def Oe[LP](f:FuncId){x:ax}{α β:Type}(hf:mI f=UV (.code x))(l:List Ce)(p:List Pe)(k:List Fe)(args:bR α)(res:Arg β)(kd:Kd)(fg:α->Option β)(ow:Bool:=aaP)(ho:WK kd ow=aai:=by rfl)(e: ∀a,UY (yi mT (ceL l) (peL p) (feL k) []) x args res kd a=fg a:=by intro a;kernel_rfl):Ce:=⟨f,⟨args,res,fg,kd,ow⟩,jJ.of hf (cx:=yi mT (ceL l) (peL p) (feL k) []) ho (ur.make (ZK l) (ZL p) (ZM k)) e⟩
abbrev Oc[LP](f:FuncId){x:ax}{α β:Type}(hf:mI f=UV (.code x))(l:List Ce)(args:bR α)(res:Arg β)(kd:Kd)(fg:α->Option β)(ow:Bool:=aaP)(ho:WK kd ow=aai:=by rfl)(e: ∀a,UY (yi mT (ceL l) [] [] []) x args res kd a=fg a:=by intro a;kernel_rfl):Ce:=Oe f hf l [] [] args res kd fg ow ho e
abbrev u2{α β γ:Type}(f:α->β->γ)(a:α×β):γ:=f a.1 a.2
abbrev u3{α β γ δ:Type}(f:α->β->γ->δ)(a:α×β×γ):δ:=f a.1 a.2.1 a.2.2
abbrev aG{α β:Type}(x:bU α)(y:bR β):=bR.cons (Arg.agg x) y
abbrev aL{β:Type}(x:List PT)(y:bR β):=bR.cons (Arg.sl x) y
abbrev aI{β:Type}(y:bR β):=bR.cons (Arg.int .i64) y
abbrev gG{α:Type}(x:bU α):=bR.one (Arg.agg x)
abbrev gL(x:List PT):=bR.one (Arg.sl x)
abbrev gI:=bR.one (Arg.int .i64)
abbrev tG{α:Type}(x:bU α):=Arg.cV (aG x gI)
abbrev fw:List PT:=[.i .i64,.i .i64,.i .i64]
abbrev gy:List PT:=[.i .i64,.i .i64]
abbrev ki:List PT:=[.i .i64]
abbrev kb:List PT:=[.b]
abbrev sw:List PT:=[.i .i64,.i .i64,.i .i64,.i .i64,.i .i64]
abbrev CJ:List PT:=[.b,.i .u64,.i .u64]
abbrev ajO:List PT:=[.i .i64,.i .i64,.i .i64,.i .i64]
abbrev kiu:List PT:=[.i .i64,.i .u64]
structure Field where
 am:List (Int×Int×Int)
def bB:bU Field:=bU.SU (bU.sl fw) (λp=>⟨p⟩) (λc=>c.am) (λ_=>rfl)
structure bF where
 ay:List Int
 be:List Bool
 bi:List Int
def uX:bU bF:=bU.SU (bU.prod (bU.sl ki) (bU.prod (bU.sl kb) (bU.sl ki))) (λp=>⟨p.1,p.2.1,p.2.2⟩) (λc=>(c.ay,c.be,c.bi)) (λ_=>rfl)
structure aS where
 ai:bF
 bv:List (Int×Int×Int×Int×Int)
 aC:List Int
def jK:bU aS:=bU.SU (bU.prod uX (bU.prod (bU.sl sw) (bU.sl ki))) (λp=>⟨p.1,p.2.1,p.2.2⟩) (λc=>(c.ai,c.bv,c.aC)) (λ_=>rfl)
structure cm where
 aW:Int
 ce:List (Int×Int×Int)
def uY:bU cm:=bU.SU (bU.prod (bU.int .i64) (bU.sl fw)) (λp=>⟨p.1,p.2⟩) (λc=>(c.aW,c.ce)) (λ_=>rfl)
structure aH where
 ci:Int×Int
 ii:Field
 af:cm
 ae:aS
 io:List (Int×Int×Int)
def cR:bU aH:=bU.SU (bU.prod (bU.row gy) (bU.prod bB (bU.prod uY (bU.prod jK (bU.sl fw))))) (λp=>⟨p.1,p.2.1,p.2.2.1,p.2.2.2.1,p.2.2.2.2⟩) (λc=>(c.ci,c.ii,c.af,c.ae,c.io)) (λ_=>rfl)
structure bX where
 jp:aH
 bv:List Int
def oG:bU bX:=bU.SU (bU.prod cR (bU.sl ki)) (λp=>⟨p.1,p.2⟩) (λc=>(c.jp,c.bv)) (λ_=>rfl)
structure cd where
 aX:List Int
 kG:List Int
def lr:bU cd:=bU.SU (bU.prod (bU.sl ki) (bU.sl ki)) (λp=>⟨p.1,p.2⟩) (λc=>(c.aX,c.kG)) (λ_=>rfl)
structure bQ where
 jp:aH
 kw:cd
def mV:bU bQ:=bU.SU (bU.prod cR lr) (λp=>⟨p.1,p.2⟩) (λc=>(c.jp,c.kw)) (λ_=>rfl)
structure Tree where
 lc:Int
 ls:List (Int×Int×Int)
def A8:bU Tree:=bU.SU (bU.prod (bU.int .i64) (bU.sl fw)) (λp=>⟨p.1,p.2⟩) (λc=>(c.lc,c.ls)) (λ_=>rfl)
structure cf where
 jp:aH
 lw:Tree
def jL:bU cf:=bU.SU (bU.prod cR A8) (λp=>⟨p.1,p.2⟩) (λc=>(c.jp,c.lw)) (λ_=>rfl)
structure cC where
 jp:aH
 up:List Int
def jM:bU cC:=bU.SU (bU.prod cR (bU.sl ki)) (λp=>⟨p.1,p.2⟩) (λc=>(c.jp,c.up)) (λ_=>rfl)
structure bm where
 bv:bX
 gC:bQ
 dR:cf
 eT:cC
def nL:bU bm:=bU.SU (bU.prod oG (bU.prod mV (bU.prod jL jM))) (λp=>⟨p.1,p.2.1,p.2.2.1,p.2.2.2⟩) (λc=>(c.bv,c.gC,c.dR,c.eT)) (λ_=>rfl)
def wU:Ce:=⟨50,(GB.clone fw),jJ.clone rfl rfl⟩
def xK:Ce:=⟨220,(GB.clone kb),jJ.clone rfl rfl⟩
def ZN:Ce:=⟨275,(GB.U1),jJ.U1 rfl⟩
def Aa:Ce:=⟨217,(GB.clone fw),jJ.clone rfl rfl⟩
def FY:Ce:=⟨218,(GB.clone fw),jJ.clone rfl rfl⟩
def xL:Ce:=⟨219,(GB.clone sw),jJ.clone rfl rfl⟩
def lL:Ce:=⟨52,(GB.clone ki),jJ.clone rfl rfl⟩
def QL:Ce:=⟨298,(GB.clone ki),jJ.clone rfl rfl⟩
abbrev eH:aH:=aH.mk (0,0) (Field.mk []) (cm.mk 0 []) (aS.mk (bF.mk [] [] []) [] []) []
section
abbrev fW:=List (Int×Int×Int×Int×Int)
abbrev aJ:=List (Int×Int×Int)
abbrev bT:=List (Int×Int)
abbrev MV:=bT×bT×Int×Int×Int×Int×aJ×Int×aJ×(List Int)×(List Bool)×(List Int)×fW×(List Int)×aJ×aJ×Int×Int×Int
abbrev ajP:=Step MV (aH×Int)
abbrev Zt4:=Step MV ajP
abbrev Zt5:=aJ×Int×Int×Int×Int×aJ×Int×aJ×(List Int)×(List Bool)×(List Int)×fW×(List Int)×aJ×aJ×Int×Int×Int×Int×Int×Int×aJ×(List Int)×(List Bool)×(List Int)×fW×(List Int)×aJ×aJ
abbrev Zt9:=aJ×Int×Int×aJ×Int×Int×Int×Int×Int×Int×Int×aJ×Int×aJ×(List Int)×(List Bool)×(List Int)×fW×(List Int)×aJ×Int×Int×Int×(List Int)
abbrev ajQ:=bT×aJ×Int×Int×Int×Int×aJ×Int×aJ×(List Int)×(List Bool)×(List Int)×fW×(List Int)×aJ×aJ×Int×Int×Int
abbrev ajR:=Step ajQ (aH×Int)
abbrev ajS:=aJ×Int×Int×Int×Int×aJ×Int×aJ×(List Int)×(List Bool)×(List Int)×fW×(List Int)×aJ×aJ×Int×Int×Int
abbrev ajT:=Step ajS (aH×Int)
abbrev ajU:=bT×aJ×Int×Int×Int×Int×aJ×Int×aJ×(List Int)×(List Bool)×(List Int)×fW×(List Int)×aJ×(List Int)
abbrev ajV:=aJ×aJ×Int×Int×Int×Int×aJ×Int×aJ×(List Int)×(List Bool)×(List Int)×fW×(List Int)×aJ
abbrev ajW:=aJ×Int×Int×Int×Int×aJ×Int×aJ×(List Int)×(List Bool)×(List Int)×fW×(List Int)×aJ×(List Int)
abbrev ajX:=Step ajW Int
abbrev ajY:=bT×Int×Int×Int×Int×aJ×Int×aJ×(List Int)×(List Bool)×(List Int)×fW×(List Int)×aJ×Int×Int×Int
abbrev acW:=Int×Int×Int×Int×aJ×Int×aJ×(List Int)×(List Bool)×(List Int)×fW×(List Int)×aJ×(List Int)
abbrev ajZ:=Step acW Int
abbrev aj0:=Int×fW×(List Int)×(List Int)×(List Bool)×(List Int)×Nat×Nat×Int×Int×Int×Int×Int
abbrev WR:=fW×(List Int)
abbrev aj1:=Step aj0 WR
abbrev aj2:=Step (Int×Int×Int×Int×aJ×(List Int)) (Tree×bT)
abbrev aj3:=aJ×Int×Int×Int×Int×aJ×(List Int)
abbrev agw:=Step aj3 aj2
abbrev aj4:=Int×fW×(List Int)×(List Int)×(List Bool)×(List Int)×Int×Int×Int×Int×Int
abbrev aj5:=Step aj4 WR
abbrev aj6:=Nat×Nat×Int×aJ×Int×Int×aJ×Int×Int×Int×Int×aJ×(List Int)×Int×Int×Int×Int×Int×Int
abbrev aj7:=Int×Int×Nat×Nat×Nat×Int×Int×aJ×bT×Int×Int×Int×Int×Int
abbrev To:=aJ×bT
abbrev aj8:=Step aj7 To
abbrev Ve:=(List Int)×Int×Int×(List Int)×(List Int)×(List (Int×Bool))
abbrev aj9:=Step Ve Int
abbrev aj':=Step Ve aj9
abbrev aka:=fW×Int×Int×(List Int)×(List Bool)×(List Int)×fW×(List Int)×(List (List Int))
abbrev akb:=Nat×Nat×aJ×Int×Int×aJ×Int×Int×Int×Int×aJ×(List Int)
abbrev akc:=Step akb (Tree×Int)
abbrev akd:=aJ×Int×Int×aJ×Int×Int×bT×Int×Int×Int×Int×Int
abbrev ake:=Step akd bT
abbrev akf:=Int×aJ×Int×Int×bT×Int×Int×Int×Int×Int×aJ×aJ
abbrev akg:=Int×Int×Int×aJ×bT×Int×Int×Int×Int×Int×aJ×aJ
abbrev akh:=Int×Int×fW×(List Int)×(List Int)×(List Bool)×(List Int)×Nat×Nat×Int×Int×Int×Int×Int
abbrev acX:=(List Int)×(List Bool)×(List Int)×Nat×Nat×Int×Int×Int×Int×Int×Int×fW×(List Int)
abbrev aki:=Int×Int×fW×(List Int)×(List Int)×(List Bool)×(List Int)×Int×Int×Int×Int×Int
abbrev acY:=(List Int)×(List Bool)×(List Int)×Int×Int×Int×Int×Int×Int×fW×(List Int)
abbrev akj:=(List Int)×Int×Int×(List Int)×(List Bool)×(List Int)×fW×(List Int)
abbrev akk:=Step akj Int
abbrev akl:=Int×aJ×Int×Int×Int×Int×Int×Int×Int×aJ×(List Int)
abbrev akm:=aJ×Int×Int×Int×Int×aJ×(List Int)×bT
abbrev akn:=(List Int)×Int×Int×aJ×Int×Int×(List (Int×Bool))
abbrev ako:=Step akn (cd×Int)
abbrev akp:=Int×aJ×Int×Int×Int×aJ×(List (List Int))
abbrev akq:=(List Int)×Int×Int×(List Int)×(List Bool)×(List Int)×Int×(List Bool)
abbrev akr:=Step akq Int
abbrev aks:=aJ×Int×Int×bT×(List Int)×bT
abbrev MW:=Int×Int×(List Int)
abbrev agx:=Step MW (Nat×Nat×(List Int))
abbrev akt:=Step MW agx
abbrev agy:=aJ×aJ×Int×Int
abbrev aku:=Step agy Bool
abbrev acZ:=aJ×Int×Int×Int×Int×bT
abbrev QM:=Int×Int×Int×Int×aJ×bT
abbrev ac0:=Int×aJ×Int×Int×(List Int)×(List Int)
abbrev L2:=aJ×Int×Int×Int×Int
abbrev ZO:=Step L2 (Int×Bool)
abbrev ZP:=aJ×Int×Int×aJ
abbrev ac1:=aJ×bT×Int×Int
abbrev ac2:=(List Int)×Int×bT
abbrev II:=Int×aJ
abbrev MX:=Int×Int×aJ
variable [LP]
def sx(p0:Int):Option Bool:=bif aaQ (p0<(-1048576))then UV aai else UV (aaQ (1048576<p0))
def aqR:Ce:=Oc 106 rfl [] gI Arg.bool .pure sx
def nM(p0:Int×Int×Int):Option Int:=bif aaQ (p0.1<0)then UV 8 else bif aaQ (65535<p0.1)then UV 8 else(sx p0.2.1).bind λb0=>bif b0 then UV 8 else(sx p0.2.2).bind λb1=>bif b1 then UV 8 else UV 0
def c47:Ce:=Oc 47 rfl [aqR] (gG (bU.row fw)) (Arg.int .i64) .pure nM
def kH(s:ZP):Option (Step ZP (Step ZP Int)):=bif aaQ (s.2.2.1<s.2.1)then(aF s.1 s.2.2.1).bind λa0=>bif aaQ (0<s.2.2.1)then(aF s.2.2.2 (aa .i64 (s.2.2.1-1))).bind λa1=>bif aaQ (a0.1<=a1.1)then UV (.done (.done 32))else UV (.next (s.1,s.2.1,aa .i64 (s.2.2.1+1),s.2.2.2))else UV (.next (s.1,s.2.1,aa .i64 (s.2.2.1+1),s.2.2.2))else UV (.done (.done 0))
def oT(s:ZP):Option (Step ZP Int):=bif aaQ (s.2.2.1<s.2.1)then(aF s.1 s.2.2.1).bind λa0=>(nM a0).bind λn1=>bif n1 !=0 then UV (.done n1)else UV (.next (s.1,s.2.1,aa .i64 (s.2.2.1+1),s.2.2.2))else aq kH (s.2.2.2,EQ (PP s.2.2.2),0,s.2.2.2)
def cU(p0:Field):Option Int:=bif aaQ (64<(EQ (PP p0.am)))then UV 4 else aq oT (p0.am,EQ (PP p0.am),0,p0.am)
def c46:Ce:=Oc 46 rfl [c47] (gG bB) (Arg.int .i64) .pure cU
def oi(p0:Int):Option Int:=bif aaQ (p0<0)then UV (aa .u64 (0- (aa .u64 p0)))else UV (aa .u64 p0)
def agz:Ce:=Oc 162 rfl [] gI (Arg.int .u64) .pure oi
def A9(s:(Int×Int)):Option (Step (Int×Int) Int):=bif aaQ (0<s.2)then bif s.2==0 then WF else UV (.next (s.2,Int.tmod s.1 s.2))else UV (.done s.1)
def Ab(p0:Int)(p1:Int):Option Int:=aq A9 (p0,p1)
def akv:Ce:=Oc 161 rfl [] (bR.cons (Arg.int .u64) (bR.one (Arg.int .u64))) (Arg.int .u64) .pure (u2 Ab)
def dE(p0:Int×Int):Option Int:=bif aaQ (p0.2<1)then UV 8 else bif p0.1==(-9223372036854775808)then UV 8 else(oi p0.1).bind λn0=>(Ab (aa .u64 p0.2) n0).bind λn1=>bif aaQ (1<n1)then UV 8 else UV 0
def Tp:Ce:=Oc 98 rfl [agz,akv] (gG (bU.row gy)) (Arg.int .i64) .pure dE
def Ih(s:(Int×Int×Int×(List Int)×(List Bool)×(List Int))):Option (Step (Int×Int×Int×(List Int)×(List Bool)×(List Int)) (bF×Int)):=bif aaQ (s.2.2.1<s.2.1)then(aF s.2.2.2.2.2 s.2.2.1).bind λ_=>UV (.next (s.1,s.2.1,aa .i64 (s.2.2.1+1),s.2.2.2.1,s.2.2.2.2.1,cQ s.2.2.2.2.2 s.2.2.1 (aa .i64 ((aa .i64 (s.1-1))-s.2.2.1))))else UV (.done (bF.mk s.2.2.2.1 s.2.2.2.2.1 s.2.2.2.2.2,0))
def FZ(p0:Int):Option (bF×Int):=bif aaQ (p0<1)then UV (bF.mk [] [] [],2)else bif aaQ (200<p0)then UV (bF.mk [] [] [],2)else bif p0==p0 then(oE p0 (0:Int)).bind λl0=>bif p0==p0 then(oE p0 (aaP:Bool)).bind λl1=>bif p0==p0 then(oE p0 (0:Int)).bind λl2=>aq Ih (p0,p0,0,l0,l1,l2)else WF else WF else WF
def aqT:Ce:=Oc 194 rfl [] gI (tG uX) .lK FZ
def IJ(p0:Int)(p1:Int):Option (Int×Int):=UV (aa .u32 (fQ .u64 (aa .u64 ((aa .u64 p0)*(aa .u64 p1))) 32),aa .u32 (aa .u64 ((aa .u64 p0)*(aa .u64 p1))))
def aqU:Ce:=Oc 187 rfl [] (bR.cons (Arg.int .u32) (bR.one (Arg.int .u32))) (Arg.cV (bR.cons (Arg.int .u32) (bR.one (Arg.int .u32)))) .pure (u2 IJ)
def fK(p0:Int)(p1:Int):Option (Int×Int):=UV (aa .u64 ((aa .u64 ((aa .u64 ((fQ .u64 p0 32)*(fQ .u64 p1 32)))+(fQ .u64 (aa .u64 ((aa .u64 ((fQ .u64 p0 32)*(rJ .u64 p1 4294967295)))+(fQ .u64 (aa .u64 ((rJ .u64 p0 4294967295)*(rJ .u64 p1 4294967295))) 32))) 32)))+(fQ .u64 (aa .u64 ((rJ .u64 (aa .u64 ((aa .u64 ((fQ .u64 p0 32)*(rJ .u64 p1 4294967295)))+(fQ .u64 (aa .u64 ((rJ .u64 p0 4294967295)*(rJ .u64 p1 4294967295))) 32))) 4294967295)+(aa .u64 ((rJ .u64 p0 4294967295)*(fQ .u64 p1 32))))) 32)),aa .u64 (p0*p1))
def agA:Ce:=Oc 188 rfl [] (bR.cons (Arg.int .u64) (bR.one (Arg.int .u64))) (Arg.cV (bR.cons (Arg.int .u64) (bR.one (Arg.int .u64)))) .pure (u2 fK)
def ic(p0:Int)(p1:Int):Option (Int×Int):=(fK p0 p1).bind λa0=>UV a0
def akw:Ce:=Oc 130 rfl [aqU,agA] (bR.cons (Arg.int .u64) (bR.one (Arg.int .u64))) (Arg.cV (bR.cons (Arg.int .u64) (bR.one (Arg.int .u64)))) .pure (u2 ic)
def aD(s:(Int×(List Int))):Option (Step (Int×(List Int)) (List Int)):=bif aaQ (s.1<(EQ (PP s.2)))then bif((aaQ (0<=s.1))&&(aaQ (s.1<=(EQ (PP s.2)))))&&(aaQ ((EQ (PP s.2))<=(EQ (PP s.2))))then(jE s.2 0 s.1).bind λ_=>bif((s.2.take s.1.toNat).take (((EQ (PP s.2)).toNat)-s.1.toNat)).isEmpty then UV (.next (aa .i64 (s.1+0),s.2))else bif(IR ((0+s.1.toNat)+(((s.2.take s.1.toNat).take (((EQ (PP s.2)).toNat)-s.1.toNat)).length)) (PP s.2))&&(!aaP)then UV (.next (aa .i64 (s.1+(EQ (((s.2.take s.1.toNat).take (((EQ (PP s.2)).toNat)-s.1.toNat)).length))),gQ s.2 (0+s.1.toNat) ((s.2.take s.1.toNat).take (((EQ (PP s.2)).toNat)-s.1.toNat))))else WF else WF else UV (.done s.2)
def bN(p0:List Int)(p1:Int):Option (List Int):=bif aaQ (p1<0)then WF else(ic (aa .u64 (EQ (PP p0))) (aa .u64 p1)).bind λa0=>bif aaQ (0<a0.1)then WF else bif aaQ (9223372036854775807<a0.2)then WF else bif(aa .i64 a0.2)==(aa .i64 a0.2)then(oE (aa .i64 a0.2) (0:Int)).bind λl1=>bif(p0.take (PP l1)).isEmpty then aq aD (0,l1)else bif(IR (0+((p0.take (PP l1)).length)) (PP l1))&&(!aaP)then aq aD (EQ ((p0.take (PP l1)).length),gQ l1 0 (p0.take (PP l1)))else WF else WF
def c57:Ce:=Oc 57 rfl [akw] (aL ki gI) (Arg.sl ki) .own (u2 bN) aai
def ac4:Ce:=Oc 57 rfl [akw] (aL ki gI) (Arg.sl ki) .lK (u2 bN)
def A'(p0:Int):Option (aS×Int):=(FZ p0).bind λa0=>bif a0.2 !=0 then UV (aS.mk (bF.mk [] [] []) [] [],a0.2)else(bN [-1] p0).bind λl1=>UV (aS.mk a0.1 [] l1,0)
def aqV:Ce:=Oc 136 rfl [aqT,c57,ac4] gI (tG jK) .lK A'
def uu(p0:Field)(p1:Int×Int):Option (aH×Int):=(cU p0).bind λn0=>bif n0 !=0 then UV (eH,n0)else(dE p1).bind λn1=>bif n1 !=0 then UV (eH,n1)else(A' 200).bind λa2=>(cN p0.am).bind λl3=>UV (aH.mk p1 (Field.mk l3) (cm.mk 0 []) a2.1 [],a2.2)
def c69:Ce:=Oc 69 rfl [c46,Tp,aqV,wU] (aG bB (gG (bU.row gy))) (tG cR) .lK (u2 uu)
def sy(s:ac2):Option (Step ac2 bT):=bif aaQ (s.2.1<(EQ (PP s.1)))then(aF s.1 s.2.1).bind λn0=>(aF s.1 (aa .i64 (NE (aa .i64 (s.2.1-1)) 2))).bind λn1=>(ba s.2.2 [(n0,n1)]).bind λl2=>UV (.next (s.1,aa .i64 (s.2.1+1),l2))else UV (.done s.2.2)
def oU(p0:List Int):Option bT:=aq sy (p0,1,[])
def c72:Ce:=Oc 72 rfl [] (gL ki) (Arg.sl gy) .lK oU
def lM(s:(bT×Int×Int×Int×Int)):Option (Step (bT×Int×Int×Int×Int) Int):=bif aaQ (s.2.2.1<s.2.1)then(aF s.1 s.2.2.1).bind λa0=>bif(s.2.2.2.1==a0.1)&&(s.2.2.2.2==a0.2)then UV (.done s.2.2.1)else UV (.next (s.1,s.2.1,aa .i64 (s.2.2.1+1),s.2.2.2))else UV (.done (-1))
def sA(p0:List (Int×Int))(p1:Int×Int):Option Int:=aq lM (p0,EQ (PP p0),0,p1)
def aqX:Ce:=Oc 177 rfl [] (aL gy (gG (bU.row gy))) (Arg.int .i64) .pure (u2 sA)
def dK(p0:List (Int×Int))(p1:Int×Int):Option Bool:=(sA p0 p1).bind λn0=>UV (aaQ (0<=n0))
def QN:Ce:=Oc 114 rfl [aqX] (aL gy (gG (bU.row gy))) Arg.bool .pure (u2 dK)
def xM(p0:Int×Int):Option Bool:=bif aaQ (0<=(if p0.2<p0.1 then p0.2 else p0.1))then bif aaQ ((if p0.2>p0.1 then p0.2 else p0.1)<=65535)then UV (p0.1 !=p0.2)else UV aaP else UV aaP
def akx:Ce:=Oc 224 rfl [] (gG (bU.row gy)) Arg.bool .pure xM
def uZ(s:akp):Option (Step akp Int):=bif aaQ (s.2.2.2.1<s.2.2.1)then(aF s.2.1 s.2.2.2.1).bind λa0=>(xM a0.2).bind λb1=>bif !b1 then UV (.done 8)else(Qi s.2.2.2.2.2.2 [a0.2.1,a0.2.2]).bind λb2=>bif b2 then UV (.done 8)else bif aaQ (a0.1<=s.1)then UV (.done 8)else bif aaQ (s.2.2.2.2.1<=a0.1)then UV (.done 8)else(Qj s.2.2.2.2.2.2 [a0.2.1,a0.2.2]).bind λl3=>UV (.next (a0.1,s.2.1,s.2.2.1,aa .i64 (s.2.2.2.1+1),s.2.2.2.2.1,s.2.2.2.2.2.1,l3))else UV (.done 0)
def uv(p0:cm):Option Int:=bif aaQ (200<(EQ (PP p0.ce)))then UV 8 else bif aaQ (p0.aW<0)then UV 8 else bif aaQ (1000000<p0.aW)then UV 8 else aq uZ (-1,p0.ce,EQ (PP p0.ce),0,p0.aW,p0.ce,[])
def agB:Ce:=Oc 174 rfl [akx] (gG uY) (Arg.int .i64) .pure uv
def jf(s:((List Bool)×Bool×Int×Int)):Option (Step ((List Bool)×Bool×Int×Int) Int):=bif aaQ (s.2.2.2<s.2.2.1)then(aF s.1 s.2.2.2).bind λb0=>bif s.2.1==b0 then UV (.done s.2.2.2)else UV (.next (s.1,s.2.1,s.2.2.1,aa .i64 (s.2.2.2+1)))else UV (.done (-1))
def sB(p0:List Bool)(p1:Bool):Option Int:=aq jf (p0,p1,EQ (PP p0),0)
def aqY:Ce:=Oc 295 rfl [] (aL kb (bR.one Arg.bool)) (Arg.int .i64) .pure (u2 sB)
def fF(p0:List Bool)(p1:Bool):Option Bool:=(sB p0 p1).bind λn0=>UV (aaQ (0<=n0))
def aqZ:Ce:=Oc 273 rfl [aqY] (aL kb (bR.one Arg.bool)) Arg.bool .pure (u2 fF)
def ja(s:((List Int)×Int×Int×(List Int)×(List Bool)×(List Int))):Option (Step ((List Int)×Int×Int×(List Int)×(List Bool)×(List Int)) akr):=bif aaQ (s.2.2.1<s.2.1)then(aF s.1 s.2.2.1).bind λn0=>bif aaQ (n0<0)then UV (.done (.done 8))else bif aaQ (1000000<n0)then UV (.done (.done 8))else bif n0==0 then(aF s.2.2.2.2.1 s.2.2.1).bind λb1=>bif b1 then UV (.done (.done 8))else UV (.next (s.1,s.2.1,aa .i64 (s.2.2.1+1),s.2.2.2))else UV (.next (s.1,s.2.1,aa .i64 (s.2.2.1+1),s.2.2.2))else UV (.done (.done 0))
def u0(c0:(List Bool))(s:akq):Option akr:=match s with |(a,b,d,e,f,g,h,i)=>bif aaQ (d<b)then(aF a d).bind λn0=>bif aaQ (n0<0)then bif(PP i)==(PP i)then bif(PP i)==(PP c0)then bif(PP i)==(PP c0)then bif aaQ (0<=d)then UV (.done 8)else(fF i aaP).bind λb1=>bif b1 then UV (.done 8)else aq ja (e,EQ (PP e),0,e,f,g)else WF else WF else WF else bif aaQ (h<=n0)then bif(PP i)==(PP i)then bif(PP i)==(PP c0)then bif(PP i)==(PP c0)then bif aaQ (0<=d)then UV (.done 8)else(fF i aaP).bind λb2=>bif b2 then UV (.done 8)else aq ja (e,EQ (PP e),0,e,f,g)else WF else WF else WF else(aF i n0).bind λb3=>bif b3 then bif(PP i)==(PP i)then bif(PP i)==(PP c0)then bif(PP i)==(PP c0)then bif aaQ (0<=d)then UV (.done 8)else(fF i aaP).bind λb4=>bif b4 then UV (.done 8)else aq ja (e,EQ (PP e),0,e,f,g)else WF else WF else WF else(aF i n0).bind λ_=>bif((cQ i n0 aai).length)==(PP i)then UV (.next (a,b,aa .i64 (d+1),e,f,g,h,cQ i n0 aai))else WF else bif(PP i)==(PP c0)then bif(PP i)==(PP c0)then(fF i aaP).bind λb6=>bif b6 then UV (.done 8)else aq ja (e,EQ (PP e),0,e,f,g)else WF else WF
def uw(p0:bF):Option Int:=bif aaQ ((EQ (PP p0.ay))<1)then UV 8 else bif aaQ (200<(EQ (PP p0.ay)))then UV 8 else bif(EQ (PP p0.be)) !=(EQ (PP p0.ay))then UV 8 else(cN p0.be).bind λl0=>aq (u0 l0) (p0.bi,EQ (PP p0.bi),0,p0.ay,p0.be,p0.bi,EQ (PP p0.ay),l0)
def agC:Ce:=Oe 225 rfl [xK,aqZ] [] [⟨231,ZE,rfl⟩,⟨135,Tn,rfl⟩,⟨272,ajD,rfl⟩] (gG uX) (Arg.int .i64) .pure uw
def Ba(p0:Int×Int)(p1:Int×Int):Option Int:=(dE p0).bind λn0=>(dE p1).bind λn1=>UV (if n1>n0 then n1 else n0)
def aq0:Ce:=Oc 163 rfl [Tp] (aG (bU.row gy) (gG (bU.row gy))) (Arg.int .i64) .pure (u2 Ba)
def qD(p0:Int):Option Bool:=UV (p0 !=p0)
def aq1:Ce:=Oc 214 rfl [] gI Arg.bool .pure qD
def lN(p0:Int)(p1:Int):Option Int:=(qD p0).bind λb0=>(qD p1).bind λb1=>bif b0 then bif b1 then UV 0 else UV (-1)else bif b1 then UV 1 else bif aaQ (p0<p1)then UV (-1)else bif aaQ (p1<p0)then UV 1 else UV 0
def aky:Ce:=Oc 164 rfl [aq1] (aI gI) (Arg.int .i64) .pure (u2 lN)
def vF(p0:Int)(p1:Int):Option (Bool×Int×Int):=(oi p0).bind λn0=>(oi p1).bind λn1=>(fK n0 n1).bind λa2=>UV (!((aaQ (p0<0))==(aaQ (p1<0))),a2)
def aq2:Ce:=Oc 166 rfl [agz,agA] (aI gI) (Arg.agg (bU.row CJ)) .pure (u2 vF)
def pP(p0:Int):Option Bool:=UV (p0 !=p0)
def aq3:Ce:=Oc 269 rfl [] (bR.one (Arg.int .u64)) Arg.bool .pure pP
def kI(p0:Int)(p1:Int):Option Int:=(pP p0).bind λb0=>(pP p1).bind λb1=>bif b0 then bif b1 then UV 0 else UV (-1)else bif b1 then UV 1 else bif aaQ (p0<p1)then UV (-1)else bif aaQ (p1<p0)then UV 1 else UV 0
def aq4:Ce:=Oc 215 rfl [aq3] (bR.cons (Arg.int .u64) (bR.one (Arg.int .u64))) (Arg.int .i64) .pure (u2 kI)
def u4(p0:Bool×Int×Int)(p1:Bool×Int×Int):Option Int:=(kI p0.2.1 p1.2.1).bind λn0=>bif n0 !=0 then UV n0 else(kI p0.2.2 p1.2.2).bind λn1=>UV n1
def aq5:Ce:=Oc 165 rfl [aq4] (aG (bU.row CJ) (gG (bU.row CJ))) (Arg.int .i64) .pure (u2 u4)
def oj(p0:Int×Int)(p1:Int×Int):Option (Int×Int):=(Ba p0 p1).bind λn0=>bif n0 !=0 then UV (0,n0)else bif !((aaQ (p0.1<0))==(aaQ (p1.1<0)))then(lN p0.1 p1.1).bind λn1=>UV (n1,0)else(vF p0.1 p1.2).bind λa2=>(vF p1.1 p0.2).bind λa3=>(u4 a2 a3).bind λn4=>bif aaQ (p0.1<0)then UV (aa .i64 (0-n4),0)else UV (n4,0)
def c99:Ce:=Oc 99 rfl [aq0,aky,aq2,aq5] (aG (bU.row gy) (gG (bU.row gy))) (Arg.cV (aI gI)) .pure (u2 oj)
def cmp_isNaN_int(p0:Int):Option Bool:=UV (p0 !=p0)
def aq6:Ce:=Oc 172 rfl [] gI Arg.bool .pure cmp_isNaN_int
def fL(p0:Int)(p1:Int):Option Int:=(cmp_isNaN_int p0).bind λb0=>(cmp_isNaN_int p1).bind λb1=>bif b0 then bif b1 then UV 0 else UV (-1)else bif b1 then UV 1 else bif aaQ (p0<p1)then UV (-1)else bif aaQ (p1<p0)then UV 1 else UV 0
def Tq:Ce:=Oc 109 rfl [aq6] (aI gI) (Arg.int .i64) .pure (u2 fL)
def zl(s:(Int×(List Int)×Int×Int)):Option (Step (Int×(List Int)×Int×Int) Int):=bif aaQ (s.2.2.2<s.2.2.1)then(aF s.2.1 s.2.2.2).bind λn0=>bif n0 !=s.1 then UV (.done n0)else UV (.next (s.1,s.2.1,s.2.2.1,aa .i64 (s.2.2.2+1)))else UV (.done s.1)
def xN(p0:List Int):Option Int:=aq zl (0,p0,EQ (PP p0),0)
def akz:Ce:=Oc 229 rfl [] (gL ki) (Arg.int .i64) .pure xN
def cX(p0:Int×Int×Int×Int×Int)(p1:Int×Int×Int×Int×Int):Option Int:=(oj (p0.1,p0.2.1) (p1.1,p1.2.1)).bind λa0=>(fL p0.2.2.1 p1.2.2.1).bind λn1=>(xN [a0.1,n1]).bind λn2=>UV n2
def ZQ:Ce:=Oc 226 rfl [c99,Tq,akz] (aG (bU.row sw) (gG (bU.row sw))) (Arg.int .i64) .pure (u2 cX)
def ly(s:aka):Option (Step aka akk):=bif aaQ (s.2.2.1<s.2.1)then(aF s.1 s.2.2.1).bind λa0=>(dE (a0.1,a0.2.1)).bind λn1=>bif n1 !=0 then UV (.done (.done 8))else bif aaQ (a0.2.2.1<0)then UV (.done (.done 8))else bif aaQ (1000000<a0.2.2.1)then UV (.done (.done 8))else(Qi s.2.2.2.2.2.2.2.2 [a0.2.2.1]).bind λb2=>bif b2 then UV (.done (.done 8))else(Qj s.2.2.2.2.2.2.2.2 [a0.2.2.1]).bind λl3=>bif aaQ (0<s.2.2.1)then(aF s.2.2.2.2.2.2.1 (aa .i64 (NE (aa .i64 (s.2.2.1-1)) 2))).bind λa4=>(cX a0 a4).bind λn5=>bif aaQ (n5<0)then UV (.done (.done 8))else UV (.next (s.1,s.2.1,aa .i64 (s.2.2.1+1),s.2.2.2.1,s.2.2.2.2.1,s.2.2.2.2.2.1,s.2.2.2.2.2.2.1,s.2.2.2.2.2.2.2.1,l3))else UV (.next (s.1,s.2.1,aa .i64 (s.2.2.1+1),s.2.2.2.1,s.2.2.2.2.1,s.2.2.2.2.2.1,s.2.2.2.2.2.2.1,s.2.2.2.2.2.2.2.1,l3))else UV (.done (.done 0))
def nY(s:akj):Option akk:=bif aaQ (s.2.2.1<s.2.1)then(aF s.1 s.2.2.1).bind λn0=>(aF s.2.2.2.2.1 s.2.2.1).bind λb1=>bif !b1 then bif n0 !=(-1)then UV (.done 8)else UV (.next (s.1,s.2.1,aa .i64 (s.2.2.1+1),s.2.2.2))else bif aaQ (n0<0)then UV (.done 8)else bif aaQ ((EQ (PP s.2.2.2.2.2.2.1))<=n0)then UV (.done 8)else(aF s.2.2.2.2.2.2.1 n0).bind λa2=>(aF s.2.2.2.1 s.2.2.1).bind λn3=>bif !((a2.2.2.2.1==s.2.2.1)&&(a2.2.2.2.2==n3))then UV (.done 8)else UV (.next (s.1,s.2.1,aa .i64 (s.2.2.1+1),s.2.2.2))else aq ly (s.2.2.2.2.2.2.1,EQ (PP s.2.2.2.2.2.2.1),0,s.2.2.2.1,s.2.2.2.2.1,s.2.2.2.2.2.1,s.2.2.2.2.2.2.1,s.2.2.2.2.2.2.2,[])
def lO(p0:aS):Option Int:=(uw p0.ai).bind λn0=>bif n0 !=0 then UV 8 else bif(EQ (PP p0.aC)) !=(EQ (PP p0.ai.be))then UV 8 else bif(EQ (PP p0.bv)) !=(aa .i64 ((EQ (PP p0.ai.be)) - (EQ (PP p0.ai.bi))))then UV 8 else aq nY (p0.aC,EQ (PP p0.aC),0,p0.ai.ay,p0.ai.be,p0.ai.bi,p0.bv,p0.aC)
def ZR:Ce:=Oc 175 rfl [agC,Tp,ZQ] (gG jK) (Arg.int .i64) .pure lO
def zm(p0:Int×Int×Int)(p1:Int):Option Int:=(fL p0.1 p1).bind λn0=>UV n0
def aq7:Ce:=Oc 247 rfl [Tq] (aG (bU.row fw) gI) (Arg.int .i64) .pure (u2 zm)
def ke(s:L2):Option ZO:=bif aaQ (s.2.2.2.1<s.2.2.2.2)then(aF s.1 (aa .i64 (fQ .u64 (aa .u64 (aa .i64 (s.2.2.2.1+s.2.2.2.2))) 1))).bind λa0=>(zm a0 s.2.1).bind λn1=>bif aaQ (n1<0)then UV (.next (s.1,s.2.1,s.2.2.1,aa .i64 ((aa .i64 (fQ .u64 (aa .u64 (aa .i64 (s.2.2.2.1+s.2.2.2.2))) 1))+1),s.2.2.2.2))else UV (.next (s.1,s.2.1,s.2.2.1,s.2.2.2.1,aa .i64 (fQ .u64 (aa .u64 (aa .i64 (s.2.2.2.1+s.2.2.2.2))) 1)))else bif aaQ (s.2.2.2.1<s.2.2.1)then(aF s.1 s.2.2.2.1).bind λa2=>(zm a2 s.2.1).bind λn3=>UV (.done (s.2.2.2.1,n3==0))else UV (.done (s.2.2.2.1,aaP))
def dJ(p0:List (Int×Int×Int))(p1:Int)(_:Unit):Option (Int×Bool):=aq ke (p0,p1,EQ (PP p0),0,EQ (PP p0))
def ZS:Ce:=Oc 107 rfl [aq7] (aL fw (aI (bR.one (Arg.fE 247 bR.nil)))) (Arg.cV (aI (bR.one Arg.bool))) .pure (u3 dJ)
def lP(p0:Field)(p1:Int):Option (Int×Int×Int):=(dJ p0.am p1 ()).bind λa0=>bif !a0.2 then UV (-1,0,0)else(aF p0.am a0.1).bind λa1=>UV a1
def agD:Ce:=Oc 195 rfl [ZS] (aG bB gI) (Arg.agg (bU.row fw)) .pure (u2 lP)
def uy(p0:Int×Int×Int)(p1:Int×Int×Int)(p2:Int×Int):Option Int:=(nM p0).bind λn0=>(nM p1).bind λn1=>(dE p2).bind λn2=>bif(if n2>(if n1>n0 then n1 else n0)then n2 else if n1>n0 then n1 else n0) !=0 then UV (if n2>(if n1>n0 then n1 else n0)then n2 else if n1>n0 then n1 else n0)else bif p0.1==p1.1 then UV 2 else UV 0
def agE:Ce:=Oc 178 rfl [c47,Tp] (aG (bU.row fw) (aG (bU.row fw) (gG (bU.row gy)))) (Arg.int .i64) .pure (u3 uy)
def qp(s:(Int×Int×Int×Int×Int×Int×Int×Int×Int)):Option (Step (Int×Int×Int×Int×Int×Int×Int×Int×Int) (Int×Int)):=bif aaQ (s.2.2.2.2.1<2)then bif s.2.2.2.2.1==0 then(fK (aa .u64 s.1) (aa .u64 s.2.1)).bind λa0=>bif aaQ (s.1<0)then bif aaQ (s.2.1<0)then(uh s.2.2.2.2.2.2.2.2 a0.2 0).bind λa1=>UV (.next (s.1,s.2.1,s.2.2.1,s.2.2.2.1,aa .i64 (s.2.2.2.2.1+1),s.2.2.2.2.2.1,s.2.2.2.2.2.2.1,aa .i64 ((aa .i64 (s.2.2.2.2.2.2.2.1+(aa .i64 ((aa .i64 ((aa .i64 a0.1)-s.2.1))-s.1))))+(aa .i64 a1.2)),a1.1))else(uh s.2.2.2.2.2.2.2.2 a0.2 0).bind λa2=>UV (.next (s.1,s.2.1,s.2.2.1,s.2.2.2.1,aa .i64 (s.2.2.2.2.1+1),s.2.2.2.2.2.1,s.2.2.2.2.2.2.1,aa .i64 ((aa .i64 (s.2.2.2.2.2.2.2.1+(aa .i64 ((aa .i64 a0.1)-s.2.1))))+(aa .i64 a2.2)),a2.1))else bif aaQ (s.2.1<0)then(uh s.2.2.2.2.2.2.2.2 a0.2 0).bind λa3=>UV (.next (s.1,s.2.1,s.2.2.1,s.2.2.2.1,aa .i64 (s.2.2.2.2.1+1),s.2.2.2.2.2.1,s.2.2.2.2.2.2.1,aa .i64 ((aa .i64 (s.2.2.2.2.2.2.2.1+(aa .i64 ((aa .i64 a0.1)-s.1))))+(aa .i64 a3.2)),a3.1))else(uh s.2.2.2.2.2.2.2.2 a0.2 0).bind λa4=>UV (.next (s.1,s.2.1,s.2.2.1,s.2.2.2.1,aa .i64 (s.2.2.2.2.1+1),s.2.2.2.2.2.1,s.2.2.2.2.2.2.1,aa .i64 ((aa .i64 (s.2.2.2.2.2.2.2.1+(aa .i64 a0.1)))+(aa .i64 a4.2)),a4.1))else bif s.2.2.2.2.1==1 then(fK (aa .u64 s.2.2.1) (aa .u64 s.2.2.2.1)).bind λa5=>bif aaQ (s.2.2.1<0)then bif aaQ (s.2.2.2.1<0)then(uh s.2.2.2.2.2.2.2.2 a5.2 0).bind λa6=>UV (.next (s.1,s.2.1,s.2.2.1,s.2.2.2.1,aa .i64 (s.2.2.2.2.1+1),s.2.2.2.2.2.1,s.2.2.2.2.2.2.1,aa .i64 ((aa .i64 (s.2.2.2.2.2.2.2.1+(aa .i64 ((aa .i64 ((aa .i64 a5.1)-s.2.2.2.1))-s.2.2.1))))+(aa .i64 a6.2)),a6.1))else(uh s.2.2.2.2.2.2.2.2 a5.2 0).bind λa7=>UV (.next (s.1,s.2.1,s.2.2.1,s.2.2.2.1,aa .i64 (s.2.2.2.2.1+1),s.2.2.2.2.2.1,s.2.2.2.2.2.2.1,aa .i64 ((aa .i64 (s.2.2.2.2.2.2.2.1+(aa .i64 ((aa .i64 a5.1)-s.2.2.2.1))))+(aa .i64 a7.2)),a7.1))else bif aaQ (s.2.2.2.1<0)then(uh s.2.2.2.2.2.2.2.2 a5.2 0).bind λa8=>UV (.next (s.1,s.2.1,s.2.2.1,s.2.2.2.1,aa .i64 (s.2.2.2.2.1+1),s.2.2.2.2.2.1,s.2.2.2.2.2.2.1,aa .i64 ((aa .i64 (s.2.2.2.2.2.2.2.1+(aa .i64 ((aa .i64 a5.1)-s.2.2.1))))+(aa .i64 a8.2)),a8.1))else(uh s.2.2.2.2.2.2.2.2 a5.2 0).bind λa9=>UV (.next (s.1,s.2.1,s.2.2.1,s.2.2.2.1,aa .i64 (s.2.2.2.2.1+1),s.2.2.2.2.2.1,s.2.2.2.2.2.2.1,aa .i64 ((aa .i64 (s.2.2.2.2.2.2.2.1+(aa .i64 a5.1)))+(aa .i64 a9.2)),a9.1))else WF else UV (.done s.2.2.2.2.2.2.2)
def Bb(p0:Int×Int×Int×Int):Option (Int×Int):=aq qp (p0.1,p0.2.1,p0.2.2.1,p0.2.2.2,0,0,0,0,0)
def aq8:Ce:=Oc 228 rfl [agA,ZN] (gG (bU.row ajO)) (Arg.agg (bU.row kiu)) .pure Bb
def oV(p0:Int×Int×Int)(p1:Int×Int×Int)(p2:Int×Int):Option Int:=(Bb (aa .i64 (p0.2.1-p1.2.1),p2.2,aa .i64 (p0.2.2-p1.2.2),p2.1)).bind λa0=>bif !((a0.1==0)&&(a0.2==0))then bif aaQ (a0.1<0)then UV (-1)else UV 1 else(lN p0.2.2 p1.2.2).bind λn1=>(fL p1.1 p0.1).bind λn2=>(xN [n1,n2]).bind λn3=>UV n3
def akA:Ce:=Oc 179 rfl [aq8,aky,Tq,akz] (aG (bU.row fw) (aG (bU.row fw) (gG (bU.row gy)))) (Arg.int .i64) .pure (u3 oV)
def CK(p0:Bool×Int×Int)(p1:Int)(p2:Int):Option ((Int×Int)×Int):=bif aaQ (0<p0.2.1)then UV ((0,0),16)else bif aaQ (9223372036854775807<p0.2.2)then UV ((0,0),16)else bif aaQ (0<p1)then UV ((0,0),16)else bif aaQ (9223372036854775807<p2)then UV ((0,0),16)else bif p0.1 then UV ((aa .i64 (0- (aa .i64 p0.2.2)),aa .i64 p2),0)else UV ((aa .i64 p0.2.2,aa .i64 p2),0)
def aq9:Ce:=Oc 303 rfl [] (aG (bU.row CJ) (bR.cons (Arg.int .u64) (bR.one (Arg.int .u64)))) (tG (bU.row gy)) .pure (u3 CK)
def Bc(p0:Int)(p1:Int):Option ((Int×Int)×Int):=bif p1==0 then UV ((0,0),26)else(oi p0).bind λn0=>(oi p1).bind λn1=>(Ab n0 n1).bind λn2=>(oi p0).bind λn3=>bif n2==0 then WF else(oi p1).bind λn4=>bif n2==0 then WF else(CK (!((aaQ (p0<0))==(aaQ (p1<0))),0,aa .u64 (NE n3 n2)) 0 (aa .u64 (NE n4 n2))).bind λa5=>UV a5
def aq':Ce:=Oc 296 rfl [agz,akv,aq9] (aI gI) (tG (bU.row gy)) .pure (u2 Bc)
def CL(p0:Int×Int×Int)(p1:Int×Int×Int):Option ((Int×Int)×Int):=(uy p0 p1 (0,1)).bind λn0=>bif n0 !=0 then UV ((0,0),n0)else bif p0.2.2==p1.2.2 then UV ((0,0),6)else(Bc (aa .i64 (p0.2.1-p1.2.1)) (aa .i64 (p1.2.2-p0.2.2))).bind λa1=>UV a1
def ara:Ce:=Oc 274 rfl [agE,aq'] (aG (bU.row fw) (gG (bU.row fw))) (tG (bU.row gy)) .pure (u2 CL)
def wV(p0:Int×Int×Int)(p1:Int×Int×Int)(p2:Int×Int):Option ((Int×Int)×Bool×Int):=(uy p0 p1 p2).bind λn0=>bif n0 !=0 then UV ((0,0),aaP,n0)else(oV p1 p0 p2).bind λn1=>bif aaQ (0<n1)then UV (p2,aai,0)else bif aaQ (p1.2.2<=p0.2.2)then UV ((0,0),aaP,0)else(CL p0 p1).bind λa2=>UV (a2.1,a2.2==0,a2.2)
def arb:Ce:=Oc 227 rfl [agE,akA,ara] (aG (bU.row fw) (aG (bU.row fw) (gG (bU.row gy)))) (Arg.cV (aG (bU.row gy) (bR.cons Arg.bool gI))) .pure (u3 wV)
def uz(p0:Field)(p1:Int×Int)(p2:Int×Int):Option ((Int×Int)×Bool×Int):=(lP p0 p1.2).bind λa0=>(lP p0 p1.1).bind λa1=>(wV a0 a1 p2).bind λa2=>UV a2
def agF:Ce:=Oc 176 rfl [agD,arb] (aG bB (aG (bU.row gy) (gG (bU.row gy)))) (Arg.cV (aG (bU.row gy) (bR.cons Arg.bool gI))) .pure (u3 uz)
def dA(s:ajV):Option (Step ajV ajZ):=bif aaQ (s.2.2.2.1<s.2.2.1)then(aF s.2.1 s.2.2.2.1).bind λa0=>(uz (Field.mk s.2.2.2.2.2.2.1) a0.2 (s.2.2.2.2.1,s.2.2.2.2.2.1)).bind λa1=>bif a1.2.2 !=0 then UV (.done (.done 8))else bif !a1.2.1 then UV (.next (s.1,s.2.1,s.2.2.1,aa .i64 (s.2.2.2.1+1),s.2.2.2.2))else bif(EQ (PP s.1))==0 then UV (.done (.done 8))else(aF s.1 0).bind λa2=>bif a2.1 !=a0.1 then UV (.done (.done 8))else(aF s.1 0).bind λa3=>bif aaQ (a3.2.1<0)then UV (.done (.done 8))else bif aaQ (200<=a3.2.1)then UV (.done (.done 8))else(aF s.2.2.2.2.2.2.2.2.2.2.2.2.2.1 a3.2.1).bind λn4=>bif aaQ (n4<0)then UV (.done (.done 8))else(aF s.2.2.2.2.2.2.2.2.2.2.2.2.2.1 a3.2.1).bind λn5=>(aF s.2.2.2.2.2.2.2.2.2.2.2.2.1 n5).bind λa6=>bif !((a6.1==a1.1.1)&&((a6.2.1==a1.1.2)&&((a6.2.2.1==a0.1)&&((a6.2.2.2.1==a3.2.1)&&(a6.2.2.2.2==a3.2.2)))))then UV (.done (.done 8))else(jE s.1 1 (EQ (PP s.1))).bind λl7=>UV (.next (l7,s.2.1,s.2.2.1,aa .i64 (s.2.2.2.1+1),s.2.2.2.2))else bif aaQ (0<(EQ (PP s.1)))then UV (.done (.done 8))else UV (.done (.done 0))
def gD(s:acW):Option ajZ:=match s with |(a,b,d,e,f,g,h,i,j,k,l,m,n,o)=>bif aaQ (b<a)then(aF o b).bind λn0=>bif n0 !=0 then UV (.done 8)else UV (.next (a,aa .i64 (b+1),(d,e,f,g,h,i,j,k,l,m,n,o)))else bif(EQ (PP m)) !=200 then UV (.done 8)else bif(EQ (PP l)) !=(EQ (PP n))then UV (.done 8)else aq dA (n,h,EQ (PP h),0,d,e,f,g,h,i,j,k,l,m,n)
def fG(p0:aH):Option Int:=(dE p0.ci).bind λn0=>(cU p0.ii).bind λn1=>(uv p0.af).bind λn2=>(lO p0.ae).bind λn3=>aq gD (EQ ([n0,n1,n2,n3].length),0,p0.ci.1,p0.ci.2,p0.ii.am,p0.af.aW,p0.af.ce,p0.ae.ai.ay,p0.ae.ai.be,p0.ae.ai.bi,p0.ae.bv,p0.ae.aC,p0.io,[n0,n1,n2,n3])
def OE:Ce:=Oc 112 rfl [Tp,c46,agB,ZR,agF] (gG cR) (Arg.int .i64) .pure fG
def vG(p0:Int×Int×Int)(p1:Int):Option Int:=(fL p0.1 p1).bind λn0=>UV n0
def arc:Ce:=Oc 294 rfl [Tq] (aG (bU.row fw) gI) (Arg.int .i64) .pure (u2 vG)
def aZ(s:L2):Option ZO:=bif aaQ (s.2.2.2.1<s.2.2.2.2)then(aF s.1 (aa .i64 (fQ .u64 (aa .u64 (aa .i64 (s.2.2.2.1+s.2.2.2.2))) 1))).bind λa0=>(vG a0 s.2.1).bind λn1=>bif aaQ (n1<0)then UV (.next (s.1,s.2.1,s.2.2.1,aa .i64 ((aa .i64 (fQ .u64 (aa .u64 (aa .i64 (s.2.2.2.1+s.2.2.2.2))) 1))+1),s.2.2.2.2))else UV (.next (s.1,s.2.1,s.2.2.1,s.2.2.2.1,aa .i64 (fQ .u64 (aa .u64 (aa .i64 (s.2.2.2.1+s.2.2.2.2))) 1)))else bif aaQ (s.2.2.2.1<s.2.2.1)then(aF s.1 s.2.2.2.1).bind λa2=>(vG a2 s.2.1).bind λn3=>UV (.done (s.2.2.2.1,n3==0))else UV (.done (s.2.2.2.1,aaP))
def aY(p0:List (Int×Int×Int))(p1:Int)(_:Unit):Option (Int×Bool):=aq aZ (p0,p1,EQ (PP p0),0,EQ (PP p0))
def ZT:Ce:=Oc 293 rfl [arc] (aL fw (aI (bR.one (Arg.fE 294 bR.nil)))) (Arg.cV (aI (bR.one Arg.bool))) .pure (u3 aY)
def He(p0:cm)(p1:Int):Option (Int×Int):=(uv p0).bind λn0=>bif n0 !=0 then UV (0,n0)else(aY p0.ce p1 ()).bind λa1=>bif !a1.2 then UV (0,6)else UV (a1.1,0)
def ard:Ce:=Oc 270 rfl [agB,ZT] (aG uY gI) (Arg.cV (aI gI)) .pure (u2 He)
def dF(a:MX):Option (Nat×Nat×aJ):=bif(((aaQ (0<=a.1))&&(aaQ (a.1<=a.2.1)))&&(aaQ (a.2.1<=(EQ (PP a.2.2)))))&&(aaQ ((EQ (PP a.2.2))<=(EQ (PP a.2.2))))then bif a.1==a.2.1 then bif(PP a.2.2)==(PP a.2.2)then UV (PP a.2.2,PP a.2.2,a.2.2)else WF else(jE a.2.2 0 a.1).bind λ_=>bif((aaQ (0<=a.2.1))&&(aaQ (a.2.1<=(EQ (PP a.2.2)))))&&(aaQ ((EQ (PP a.2.2))<=(EQ (PP a.2.2))))then bif((a.2.2.drop (0+a.2.1.toNat)).take (((EQ (PP a.2.2)).toNat)-a.2.1.toNat)).isEmpty then bif((aaQ (0<=(EQ a.1.toNat)))&&(aaQ ((EQ a.1.toNat)<=(EQ (PP a.2.2)))))&&(aaQ ((EQ (PP a.2.2))<=(EQ (PP a.2.2))))then bif Nat.beq (((EQ (PP a.2.2)).toNat) - ((EQ a.1.toNat).toNat)) 0 then bif(PP a.2.2)==(PP a.2.2)then UV (a.1.toNat,PP a.2.2,a.2.2)else WF else bif(IR ((0+((EQ a.1.toNat).toNat))+(((EQ (PP a.2.2)).toNat) - ((EQ a.1.toNat).toNat))) (PP a.2.2))&&(!aaP)then bif((gQ a.2.2 (0+((EQ a.1.toNat).toNat)) (If (((EQ (PP a.2.2)).toNat) - ((EQ a.1.toNat).toNat)) (0,0,0))).length)==(PP a.2.2)then UV (a.1.toNat,PP a.2.2,gQ a.2.2 (0+((EQ a.1.toNat).toNat)) (If (((EQ (PP a.2.2)).toNat) - ((EQ a.1.toNat).toNat)) (0,0,0)))else WF else WF else WF else bif IR (a.1.toNat+(((a.2.2.drop (0+a.2.1.toNat)).take (((EQ (PP a.2.2)).toNat)-a.2.1.toNat)).length)) (PP a.2.2)then bif(IR (a.1.toNat+(((a.2.2.drop (0+a.2.1.toNat)).take (((EQ (PP a.2.2)).toNat)-a.2.1.toNat)).length)) (PP a.2.2))&&(!aaP)then bif((aaQ (0<=(EQ (a.1.toNat+(((a.2.2.drop (0+a.2.1.toNat)).take (((EQ (PP a.2.2)).toNat)-a.2.1.toNat)).length)))))&&(aaQ ((EQ (a.1.toNat+(((a.2.2.drop (0+a.2.1.toNat)).take (((EQ (PP a.2.2)).toNat)-a.2.1.toNat)).length)))<=(EQ (PP a.2.2)))))&&(aaQ ((EQ (PP a.2.2))<=(EQ (PP a.2.2))))then bif Nat.beq (((EQ (PP a.2.2)).toNat) - ((EQ (a.1.toNat+(((a.2.2.drop (0+a.2.1.toNat)).take (((EQ (PP a.2.2)).toNat)-a.2.1.toNat)).length))).toNat)) 0 then bif((gQ a.2.2 a.1.toNat ((a.2.2.drop (0+a.2.1.toNat)).take (((EQ (PP a.2.2)).toNat)-a.2.1.toNat))).length)==(PP a.2.2)then UV (a.1.toNat+(((a.2.2.drop (0+a.2.1.toNat)).take (((EQ (PP a.2.2)).toNat)-a.2.1.toNat)).length),PP a.2.2,gQ a.2.2 a.1.toNat ((a.2.2.drop (0+a.2.1.toNat)).take (((EQ (PP a.2.2)).toNat)-a.2.1.toNat)))else WF else bif(IR ((0+((EQ (a.1.toNat+(((a.2.2.drop (0+a.2.1.toNat)).take (((EQ (PP a.2.2)).toNat)-a.2.1.toNat)).length))).toNat))+(((EQ (PP a.2.2)).toNat) - ((EQ (a.1.toNat+(((a.2.2.drop (0+a.2.1.toNat)).take (((EQ (PP a.2.2)).toNat)-a.2.1.toNat)).length))).toNat))) ((gQ a.2.2 a.1.toNat ((a.2.2.drop (0+a.2.1.toNat)).take (((EQ (PP a.2.2)).toNat)-a.2.1.toNat))).length))&&(!aaP)then bif((gQ (gQ a.2.2 a.1.toNat ((a.2.2.drop (0+a.2.1.toNat)).take (((EQ (PP a.2.2)).toNat)-a.2.1.toNat))) (0+((EQ (a.1.toNat+(((a.2.2.drop (0+a.2.1.toNat)).take (((EQ (PP a.2.2)).toNat)-a.2.1.toNat)).length))).toNat)) (If (((EQ (PP a.2.2)).toNat) - ((EQ (a.1.toNat+(((a.2.2.drop (0+a.2.1.toNat)).take (((EQ (PP a.2.2)).toNat)-a.2.1.toNat)).length))).toNat)) (0,0,0))).length)==(PP a.2.2)then UV (a.1.toNat+(((a.2.2.drop (0+a.2.1.toNat)).take (((EQ (PP a.2.2)).toNat)-a.2.1.toNat)).length),PP a.2.2,gQ (gQ a.2.2 a.1.toNat ((a.2.2.drop (0+a.2.1.toNat)).take (((EQ (PP a.2.2)).toNat)-a.2.1.toNat))) (0+((EQ (a.1.toNat+(((a.2.2.drop (0+a.2.1.toNat)).take (((EQ (PP a.2.2)).toNat)-a.2.1.toNat)).length))).toNat)) (If (((EQ (PP a.2.2)).toNat) - ((EQ (a.1.toNat+(((a.2.2.drop (0+a.2.1.toNat)).take (((EQ (PP a.2.2)).toNat)-a.2.1.toNat)).length))).toNat)) (0,0,0)))else WF else WF else WF else WF else WF else WF else WF
def agG:fB:=⟨[.i,.i,.l [.i .i64,.i .i64,.i .i64]],[.own 0 aaP,.int .i64 0,.int .i64 0],[.arr [.i .i64,.i .i64,.i .i64] []],[.n,.n,.l [.i .i64,.i .i64,.i .i64]],.pre 0 0 0 aaP,[.arr [.i .i64,.i .i64,.i .i64] []],λa=>dF a⟩
theorem WT:jY mI 271 agG:=jY.of rfl (wd:=aai) (cx:=(yi mT [] [] [] [])) (ur.make trivial trivial trivial) (λa=>by kernel_rfl)
def yE(p0:cm)(p1:Int):Option (cm×(Int×Int)×Int):=(He p0 p1).bind λa0=>bif a0.2 !=0 then UV (cm.mk 0 [],(0,0),a0.2)else(cN p0.ce).bind λl1=>(dF (a0.1,aa .i64 (a0.1+1),l1)).bind λa2=>(aF p0.ce a0.1).bind λa3=>UV (cm.mk p0.aW (a2.2.2.take a2.1),a3.2,0)
def are:Ce:=Oe 221 rfl [ard,Aa] [⟨271,_,WT⟩] [] (aG uY gI) (Arg.cV (aG uY (aG (bU.row gy) gI))) .lK (u2 yE)
def mf(p0:aH):Option aH:=(cN p0.ii.am).bind λl0=>(cN p0.af.ce).bind λl1=>(cN p0.io).bind λl2=>(cN p0.ae.bv).bind λl3=>(cN p0.ae.aC).bind λl4=>(cN p0.ae.ai.ay).bind λl5=>(cN p0.ae.ai.be).bind λl6=>(cN p0.ae.ai.bi).bind λl7=>UV (aH.mk p0.ci (Field.mk l0) (cm.mk p0.af.aW l1) (aS.mk (bF.mk l5 l6 l7) l3 l4) l2)
def ac5:Ce:=Oc 168 rfl [wU,Aa,FY,xL,lL,xK] (gG cR) (Arg.agg cR) .own mf aai
def Vf:Ce:=Oc 168 rfl [wU,Aa,FY,xL,lL,xK] (gG cR) (Arg.agg cR) .lK mf
def zn(p0:Int×Int×Int)(p1:Int):Option Int:=(fL p0.1 p1).bind λn0=>UV n0
def arf:Ce:=Oc 249 rfl [Tq] (aG (bU.row fw) gI) (Arg.int .i64) .pure (u2 zn)
def la(s:L2):Option ZO:=bif aaQ (s.2.2.2.1<s.2.2.2.2)then(aF s.1 (aa .i64 (fQ .u64 (aa .u64 (aa .i64 (s.2.2.2.1+s.2.2.2.2))) 1))).bind λa0=>(zn a0 s.2.1).bind λn1=>bif aaQ (n1<0)then UV (.next (s.1,s.2.1,s.2.2.1,aa .i64 ((aa .i64 (fQ .u64 (aa .u64 (aa .i64 (s.2.2.2.1+s.2.2.2.2))) 1))+1),s.2.2.2.2))else UV (.next (s.1,s.2.1,s.2.2.1,s.2.2.2.1,aa .i64 (fQ .u64 (aa .u64 (aa .i64 (s.2.2.2.1+s.2.2.2.2))) 1)))else bif aaQ (s.2.2.2.1<s.2.2.1)then(aF s.1 s.2.2.2.1).bind λa2=>(zn a2 s.2.1).bind λn3=>UV (.done (s.2.2.2.1,n3==0))else UV (.done (s.2.2.2.1,aaP))
def dS(p0:List (Int×Int×Int))(p1:Int)(_:Unit):Option (Int×Bool):=aq la (p0,p1,EQ (PP p0),0,EQ (PP p0))
def ZU:Ce:=Oc 248 rfl [arf] (aL fw (aI (bR.one (Arg.fE 249 bR.nil)))) (Arg.cV (aI (bR.one Arg.bool))) .pure (u3 dS)
def rl(p0:List (Int×Int×Int))(p1:Int):Option (Int×Bool):=(dS p0 p1 ()).bind λa0=>UV a0
def akB:Ce:=Oc 196 rfl [ZU] (aL fw gI) (Arg.cV (aI (bR.one Arg.bool))) .pure (u2 rl)
def CN(p0:bF)(p1:Int×Int):Option (Bool×Int):=(uw p0).bind λn0=>bif n0 !=0 then UV (aaP,n0)else bif aaQ (0<=p1.1)then bif aaQ (p1.1<(EQ (PP p0.be)))then(aF p0.be p1.1).bind λb1=>bif b1 then(aF p0.ay p1.1).bind λn2=>UV (n2==p1.2,0)else UV (aaP,0)else UV (aaP,0)else UV (aaP,0)
def akC:Ce:=Oc 282 rfl [agC] (aG uX (gG (bU.row gy))) (Arg.cV (bR.cons Arg.bool gI)) .pure (u2 CN)
def sC(p0:aS)(p1:Int×Int):Option (Int×Int):=(lO p0).bind λn0=>bif n0 !=0 then UV (0,n0)else(CN p0.ai p1).bind λa1=>bif a1.2 !=0 then UV (0,6)else bif !a1.1 then UV (0,6)else(aF p0.aC p1.1).bind λn2=>UV (n2,0)
def akD:Ce:=Oc 250 rfl [ZR,akC] (aG jK (gG (bU.row gy))) (Arg.cV (aI gI)) .pure (u2 sC)
def wb(p0:List Int)(p1:Int):Option (List Int):=(cN p0).bind λl0=>(ba l0 [p1]).bind λl1=>UV l1
def arh:Ce:=Oc 299 rfl [QL] (aL ki gI) (Arg.sl ki) .lK (u2 wb)
def DB(p0:bF)(p1:Int×Int):Option (bF×Int):=(CN p0 p1).bind λa0=>bif a0.2 !=0 then UV (bF.mk [] [] [],a0.2)else bif !a0.1 then UV (bF.mk [] [] [],6)else(cN p0.ay).bind λl1=>(cN p0.be).bind λl2=>(wb p0.bi p1.1).bind λl3=>(aF l2 p1.1).bind λ_=>UV (bF.mk l1 (cQ l2 p1.1 aaP) l3,0)
def ari:Ce:=Oe 287 rfl [akC,lL,xK,arh] [] [⟨286,agk,rfl⟩] (aG uX (gG (bU.row gy))) (tG uX) .lK (u2 DB)
def cK(a:acX):Option WR:=(aF (a.2.2.2.2.2.2.2.2.2.2.2.1.take a.2.2.2.1) a.2.2.2.2.2.1).bind λ_=>(aF a.2.2.2.2.2.2.2.2.2.2.2.2 a.2.2.2.2.2.2.2.2.2.1).bind λ_=>bif((cQ a.2.2.2.2.2.2.2.2.2.2.2.1 a.2.2.2.2.2.1 (a.2.2.2.2.2.2.1,a.2.2.2.2.2.2.2.1,a.2.2.2.2.2.2.2.2.1,a.2.2.2.2.2.2.2.2.2.1,a.2.2.2.2.2.2.2.2.2.2.1)).length)==(PP a.2.2.2.2.2.2.2.2.2.2.2.1)then bif((cQ a.2.2.2.2.2.2.2.2.2.2.2.2 a.2.2.2.2.2.2.2.2.2.1 a.2.2.2.2.2.1).length)==(PP a.2.2.2.2.2.2.2.2.2.2.2.2)then UV (cQ a.2.2.2.2.2.2.2.2.2.2.2.1 a.2.2.2.2.2.1 (a.2.2.2.2.2.2.1,a.2.2.2.2.2.2.2.1,a.2.2.2.2.2.2.2.2.1,a.2.2.2.2.2.2.2.2.2.1,a.2.2.2.2.2.2.2.2.2.2.1),cQ a.2.2.2.2.2.2.2.2.2.2.2.2 a.2.2.2.2.2.2.2.2.2.1 a.2.2.2.2.2.1)else WF else WF
def Ts:fB:=⟨[.l [.i .i64],.l [.b],.l [.i .i64],.n,.n,.i,.i,.i,.i,.i,.i,.l [.i .i64,.i .i64,.i .i64,.i .i64,.i .i64],.l [.i .i64]],[.agg [.sl [.i .i64] [],.sl [.b] [],.sl [.i .i64] [],.pre 0 0 0 aaP,.own 1 aaP],.int .i64 0,.agg [.int .i64 0,.int .i64 0,.int .i64 0,.int .i64 0,.int .i64 0]],[.arr [.i .i64,.i .i64,.i .i64,.i .i64,.i .i64] [],.arr [.i .i64] []],[.l [.i .i64,.i .i64,.i .i64,.i .i64,.i .i64],.l [.i .i64]],.cV [],[.arr [.i .i64,.i .i64,.i .i64,.i .i64,.i .i64] [],.arr [.i .i64] []],λa=>cK a⟩
theorem MY:jY mI 283 Ts:=jY.of rfl (wd:=aaP) (cx:=(yi mT [] [] [] [])) (ur.make trivial trivial trivial) (λa=>by kernel_rfl)
def iv(c0:acX)(s:akh):Option (Step akh aj1):=match s with |(a,b,d,e,f,g,h,i,j,k,l,m,n,o)=>bif aaQ (b<(EQ i))then bif aaQ ((aa .i64 (b+1))<(EQ i))then(aF (d.take i) (aa .i64 (b+1))).bind λa0=>(aF (d.take i) b).bind λa1=>(cX a0 a1).bind λn2=>bif aaQ (n2<0)then(aF (d.take i) (aa .i64 (b+1))).bind λa3=>(cX a3 (k,l,m,n,o)).bind λn4=>bif aaQ (0<=n4)then(cK (f,g,h,i,j,a,k,l,m,n,o,d,e)).bind λa5=>bif(PP a5.1)==(PP c0.2.2.2.2.2.2.2.2.2.2.2.1)then bif(PP a5.2)==(PP c0.2.2.2.2.2.2.2.2.2.2.2.2)then UV (.done (.done a5))else WF else WF else(aF (d.take i) (aa .i64 (b+1))).bind λa6=>(cK (f,g,h,i,j,a,a6.1,a6.2.1,a6.2.2.1,a6.2.2.2.1,a6.2.2.2.2,d,e)).bind λa7=>UV (.next (aa .i64 (b+1),aa .i64 ((aa .i64 (2*(aa .i64 (b+1))))+1),a7.1,a7.2,(f,g,h,i,j,k,l,m,n,o)))else(aF (d.take i) b).bind λa8=>(cX a8 (k,l,m,n,o)).bind λn9=>bif aaQ (0<=n9)then(cK (f,g,h,i,j,a,k,l,m,n,o,d,e)).bind λAz=>bif(PP Az.1)==(PP c0.2.2.2.2.2.2.2.2.2.2.2.1)then bif(PP Az.2)==(PP c0.2.2.2.2.2.2.2.2.2.2.2.2)then UV (.done (.done Az))else WF else WF else(aF (d.take i) b).bind λES=>(cK (f,g,h,i,j,a,ES.1,ES.2.1,ES.2.2.1,ES.2.2.2.1,ES.2.2.2.2,d,e)).bind λa12=>UV (.next (b,aa .i64 ((aa .i64 (2*b))+1),a12.1,a12.2,(f,g,h,i,j,k,l,m,n,o)))else(aF (d.take i) b).bind λXX=>(cX XX (k,l,m,n,o)).bind λn14=>bif aaQ (0<=n14)then(cK (f,g,h,i,j,a,k,l,m,n,o,d,e)).bind λTt=>bif(PP Tt.1)==(PP c0.2.2.2.2.2.2.2.2.2.2.2.1)then bif(PP Tt.2)==(PP c0.2.2.2.2.2.2.2.2.2.2.2.2)then UV (.done (.done Tt))else WF else WF else(aF (d.take i) b).bind λTu=>(cK (f,g,h,i,j,a,Tu.1,Tu.2.1,Tu.2.2.1,Tu.2.2.2.1,Tu.2.2.2.2,d,e)).bind λa17=>UV (.next (b,aa .i64 ((aa .i64 (2*b))+1),a17.1,a17.2,(f,g,h,i,j,k,l,m,n,o)))else(cK (f,g,h,i,j,a,k,l,m,n,o,d,e)).bind λZV=>bif(PP ZV.1)==(PP c0.2.2.2.2.2.2.2.2.2.2.2.1)then bif(PP ZV.2)==(PP c0.2.2.2.2.2.2.2.2.2.2.2.2)then UV (.done (.done ZV))else WF else WF
def fR(c0:acX)(s:aj0):Option aj1:=bif aaQ (0<s.1)then(aF (s.2.1.take s.2.2.2.2.2.2.1) (aa .i64 (NE (aa .i64 (s.1-1)) 2))).bind λa0=>(cX s.2.2.2.2.2.2.2.2 a0).bind λn1=>bif aaQ (n1<0)then(aF (s.2.1.take s.2.2.2.2.2.2.1) (aa .i64 (NE (aa .i64 (s.1-1)) 2))).bind λa2=>(cK (s.2.2.2.1,s.2.2.2.2.1,s.2.2.2.2.2.1,s.2.2.2.2.2.2.1,s.2.2.2.2.2.2.2.1,s.1,a2.1,a2.2.1,a2.2.2.1,a2.2.2.2.1,a2.2.2.2.2,s.2.1,s.2.2.1)).bind λa3=>UV (.next (aa .i64 (NE (aa .i64 (s.1-1)) 2),a3.1,a3.2,s.2.2.2))else aq (iv c0) (s.1,aa .i64 ((aa .i64 (2*s.1))+1),s.2)else aq (iv c0) (s.1,aa .i64 ((aa .i64 (2*s.1))+1),s.2)
def mJ(a:acX):Option WR:=aq (fR a) (a.2.2.2.2.2.1,a.2.2.2.2.2.2.2.2.2.2.2.1,a.2.2.2.2.2.2.2.2.2.2.2.2,a.1,a.2.1,a.2.2.1,a.2.2.2.1,a.2.2.2.2.1,a.2.2.2.2.2.2.1,a.2.2.2.2.2.2.2.1,a.2.2.2.2.2.2.2.2.1,a.2.2.2.2.2.2.2.2.2.1,a.2.2.2.2.2.2.2.2.2.2.1)
def agH:fB:=⟨[.l [.i .i64],.l [.b],.l [.i .i64],.n,.n,.i,.i,.i,.i,.i,.i,.l [.i .i64,.i .i64,.i .i64,.i .i64,.i .i64],.l [.i .i64]],[.agg [.sl [.i .i64] [],.sl [.b] [],.sl [.i .i64] [],.pre 0 0 0 aaP,.own 1 aaP],.int .i64 0,.agg [.int .i64 0,.int .i64 0,.int .i64 0,.int .i64 0,.int .i64 0]],[.arr [.i .i64,.i .i64,.i .i64,.i .i64,.i .i64] [],.arr [.i .i64] []],[.l [.i .i64,.i .i64,.i .i64,.i .i64,.i .i64],.l [.i .i64]],.cV [],[.arr [.i .i64,.i .i64,.i .i64,.i .i64,.i .i64] [],.arr [.i .i64] []],λa=>mJ a⟩
theorem Hf:jY mI 252 agH:=jY.of rfl (wd:=aaP) (cx:=(yi mT [(226,ZQ.c)] [(283,Ts)] [] [])) (ur.make ⟨ZQ.ok,trivial⟩ ⟨MY,trivial⟩ trivial) (λa=>by kernel_rfl)
def u5(p0:aS)(p1:Int):Option (aS×(Int×Int×Int×Int×Int)×Int):=(aF p0.bv p1).bind λa0=>(DB p0.ai a0.2.2.2).bind λa1=>bif a1.2 !=0 then UV (aS.mk (bF.mk [] [] []) [] [],(0,0,0,0,0),a1.2)else(cN p0.bv).bind λl2=>(cN p0.aC).bind λl3=>(aF l2 (aa .i64 ((EQ (PP l2))-1))).bind λa4=>(jE l2 0 (aa .i64 ((EQ (PP l2))-1))).bind λ_=>(aF l3 a0.2.2.2.1).bind λ_=>bif aaQ (p1<(aa .i64 ((EQ (PP l2))-1)))then(mJ (a1.1.ay,a1.1.be,a1.1.bi,(aa .i64 ((EQ (PP l2))-1)).toNat,PP l2,p1,a4.1,a4.2.1,a4.2.2.1,a4.2.2.2.1,a4.2.2.2.2,l2,cQ l3 a0.2.2.2.1 (-1))).bind λa7=>UV (aS.mk a1.1 (a7.1.take ((aa .i64 ((EQ (PP l2))-1)).toNat)) a7.2,a0,0)else UV (aS.mk a1.1 (l2.take ((aa .i64 ((EQ (PP l2))-1)).toNat)) (cQ l3 a0.2.2.2.1 (-1)),a0,0)
def ark:Ce:=Oe 256 rfl [ari,xL,lL] [⟨252,_,Hf⟩] [⟨251,acM,rfl⟩] (aG jK gI) (Arg.cV (aG jK (aG (bU.row sw) gI))) .lK (u2 u5)
def om(p0:aS)(p1:Int×Int):Option (aS×(Int×Int×Int×Int×Int)×Int):=(sC p0 p1).bind λa0=>bif a0.2 !=0 then UV (aS.mk (bF.mk [] [] []) [] [],(0,0,0,0,0),a0.2)else(u5 p0 a0.1).bind λa1=>UV a1
def akE:Ce:=Oc 199 rfl [akD,ark] (aG jK (gG (bU.row gy))) (Arg.cV (aG jK (aG (bU.row sw) gI))) .lK (u2 om)
def nN(a:MX):Option (Nat×Nat×aJ):= dF a
def agI:fB:=⟨[.i,.i,.l [.i .i64,.i .i64,.i .i64]],[.own 0 aaP,.int .i64 0,.int .i64 0],[.arr [.i .i64,.i .i64,.i .i64] []],[.n,.n,.l [.i .i64,.i .i64,.i .i64]],.pre 0 0 0 aaP,[.arr [.i .i64,.i .i64,.i .i64] []],λa=>nN a⟩
theorem WU:jY mI 222 agI:=jY.of rfl (wd:=aai) (cx:=(yi mT [] [] [] [])) (ur.make trivial trivial trivial) (λa=>by kernel_rfl)
def jF(p0:aH)(p1:Int):Option (aH×(Int×Int)×Int):=(yE p0.af p1).bind λa0=>bif a0.2.2 !=0 then UV (eH,a0.2)else(mf p0).bind λr1=>(rl p0.io p1).bind λa2=>bif a2.2 then(aF p0.io a2.1).bind λa3=>(om p0.ae a3.2).bind λa4=>bif a4.2.2 !=0 then UV (eH,a0.2.1,a4.2.2)else(nN (a2.1,aa .i64 (a2.1+1),r1.io)).bind λa5=>UV (aH.mk r1.ci r1.ii a0.1 a4.1 (a5.2.2.take a5.1),a0.2.1,0)else UV (aH.mk r1.ci r1.ii a0.1 r1.ae r1.io,a0.2.1,0)
def akF:Ce:=Oe 169 rfl [are,ac5,Vf,akB,akE] [⟨222,_,WU⟩] [] (aG cR gI) (Arg.cV (aG cR (aG (bU.row gy) gI))) .lK (u2 jF)
def wW(p0:aH)(p1:Int):Option (aH×Int):=(fG p0).bind λn0=>bif n0 !=0 then UV (eH,n0)else(jF p0 p1).bind λa1=>UV (a1.1,a1.2.2)
def arl:Ce:=Oc 137 rfl [OE,akF] (aG cR gI) (tG cR) .lK (u2 wW)
def k9(s:agy):Option aku:=bif aaQ (s.2.2.2<s.2.2.1)then(aF s.1 s.2.2.2).bind λa0=>(aF s.2.1 s.2.2.2).bind λa1=>bif !((a0.1==a1.1)&&((a0.2.1==a1.2.1)&&(a0.2.2==a1.2.2)))then UV (.done aaP)else UV (.next (s.1,s.2.1,s.2.2.1,aa .i64 (s.2.2.2+1)))else UV (.done aai)
def kJ(p0:List (Int×Int×Int))(p1:List (Int×Int×Int)):Option Bool:=bif(EQ (PP p0)) !=(EQ (PP p1))then UV aaP else aq k9 (p0,p1,EQ (PP p0),0)
def arn:Ce:=Oc 138 rfl [] (aL fw (gL fw)) Arg.bool .pure (u2 kJ)
def cL(a:acY):Option WR:=(aF a.2.2.2.2.2.2.2.2.2.1 a.2.2.2.1).bind λ_=>(aF a.2.2.2.2.2.2.2.2.2.2 a.2.2.2.2.2.2.2.1).bind λ_=>bif((cQ a.2.2.2.2.2.2.2.2.2.1 a.2.2.2.1 (a.2.2.2.2.1,a.2.2.2.2.2.1,a.2.2.2.2.2.2.1,a.2.2.2.2.2.2.2.1,a.2.2.2.2.2.2.2.2.1)).length)==(PP a.2.2.2.2.2.2.2.2.2.1)then bif((cQ a.2.2.2.2.2.2.2.2.2.2 a.2.2.2.2.2.2.2.1 a.2.2.2.1).length)==(PP a.2.2.2.2.2.2.2.2.2.2)then UV (cQ a.2.2.2.2.2.2.2.2.2.1 a.2.2.2.1 (a.2.2.2.2.1,a.2.2.2.2.2.1,a.2.2.2.2.2.2.1,a.2.2.2.2.2.2.2.1,a.2.2.2.2.2.2.2.2.1),cQ a.2.2.2.2.2.2.2.2.2.2 a.2.2.2.2.2.2.2.1 a.2.2.2.1)else WF else WF
def ZW:fB:=⟨[.l [.i .i64],.l [.b],.l [.i .i64],.i,.i,.i,.i,.i,.i,.l [.i .i64,.i .i64,.i .i64,.i .i64,.i .i64],.l [.i .i64]],[.agg [.sl [.i .i64] [],.sl [.b] [],.sl [.i .i64] [],.own 0 aaP,.own 1 aaP],.int .i64 0,.agg [.int .i64 0,.int .i64 0,.int .i64 0,.int .i64 0,.int .i64 0]],[.arr [.i .i64,.i .i64,.i .i64,.i .i64,.i .i64] [],.arr [.i .i64] []],[.l [.i .i64,.i .i64,.i .i64,.i .i64,.i .i64],.l [.i .i64]],.cV [],[.arr [.i .i64,.i .i64,.i .i64,.i .i64,.i .i64] [],.arr [.i .i64] []],λa=>cL a⟩
theorem WV:jY mI 283 ZW:=jY.of rfl (wd:=aaP) (cx:=(yi mT [] [] [] [])) (ur.make trivial trivial trivial) (λa=>by kernel_rfl)
def iw(c0:acY)(s:aki):Option (Step aki aj5):=match s with |(a,b,d,e,f,g,h,i,j,k,l,m)=>bif aaQ (b<(EQ (PP d)))then bif aaQ ((aa .i64 (b+1))<(EQ (PP d)))then(aF d (aa .i64 (b+1))).bind λa0=>(aF d b).bind λa1=>(cX a0 a1).bind λn2=>bif aaQ (n2<0)then(aF d (aa .i64 (b+1))).bind λa3=>(cX a3 (i,j,k,l,m)).bind λn4=>bif aaQ (0<=n4)then(cL (f,g,h,a,i,j,k,l,m,d,e)).bind λa5=>bif(PP a5.1)==(PP c0.2.2.2.2.2.2.2.2.2.1)then bif(PP a5.2)==(PP c0.2.2.2.2.2.2.2.2.2.2)then UV (.done (.done a5))else WF else WF else(aF d (aa .i64 (b+1))).bind λa6=>(cL (f,g,h,a,a6.1,a6.2.1,a6.2.2.1,a6.2.2.2.1,a6.2.2.2.2,d,e)).bind λa7=>UV (.next (aa .i64 (b+1),aa .i64 ((aa .i64 (2*(aa .i64 (b+1))))+1),a7.1,a7.2,(f,g,h,i,j,k,l,m)))else(aF d b).bind λa8=>(cX a8 (i,j,k,l,m)).bind λn9=>bif aaQ (0<=n9)then(cL (f,g,h,a,i,j,k,l,m,d,e)).bind λAz=>bif(PP Az.1)==(PP c0.2.2.2.2.2.2.2.2.2.1)then bif(PP Az.2)==(PP c0.2.2.2.2.2.2.2.2.2.2)then UV (.done (.done Az))else WF else WF else(aF d b).bind λES=>(cL (f,g,h,a,ES.1,ES.2.1,ES.2.2.1,ES.2.2.2.1,ES.2.2.2.2,d,e)).bind λa12=>UV (.next (b,aa .i64 ((aa .i64 (2*b))+1),a12.1,a12.2,(f,g,h,i,j,k,l,m)))else(aF d b).bind λXX=>(cX XX (i,j,k,l,m)).bind λn14=>bif aaQ (0<=n14)then(cL (f,g,h,a,i,j,k,l,m,d,e)).bind λTt=>bif(PP Tt.1)==(PP c0.2.2.2.2.2.2.2.2.2.1)then bif(PP Tt.2)==(PP c0.2.2.2.2.2.2.2.2.2.2)then UV (.done (.done Tt))else WF else WF else(aF d b).bind λTu=>(cL (f,g,h,a,Tu.1,Tu.2.1,Tu.2.2.1,Tu.2.2.2.1,Tu.2.2.2.2,d,e)).bind λa17=>UV (.next (b,aa .i64 ((aa .i64 (2*b))+1),a17.1,a17.2,(f,g,h,i,j,k,l,m)))else(cL (f,g,h,a,i,j,k,l,m,d,e)).bind λZV=>bif(PP ZV.1)==(PP c0.2.2.2.2.2.2.2.2.2.1)then bif(PP ZV.2)==(PP c0.2.2.2.2.2.2.2.2.2.2)then UV (.done (.done ZV))else WF else WF
def fS(c0:acY)(s:aj4):Option aj5:=bif aaQ (0<s.1)then(aF s.2.1 (aa .i64 (NE (aa .i64 (s.1-1)) 2))).bind λa0=>(cX s.2.2.2.2.2.2 a0).bind λn1=>bif aaQ (n1<0)then(aF s.2.1 (aa .i64 (NE (aa .i64 (s.1-1)) 2))).bind λa2=>(cL (s.2.2.2.1,s.2.2.2.2.1,s.2.2.2.2.2.1,s.1,a2.1,a2.2.1,a2.2.2.1,a2.2.2.2.1,a2.2.2.2.2,s.2.1,s.2.2.1)).bind λa3=>UV (.next (aa .i64 (NE (aa .i64 (s.1-1)) 2),a3.1,a3.2,s.2.2.2))else aq (iw c0) (s.1,aa .i64 ((aa .i64 (2*s.1))+1),s.2)else aq (iw c0) (s.1,aa .i64 ((aa .i64 (2*s.1))+1),s.2)
def fX(a:acY):Option WR:=aq (fS a) (a.2.2.2.1,a.2.2.2.2.2.2.2.2.2.1,a.2.2.2.2.2.2.2.2.2.2,a.1,a.2.1,a.2.2.1,a.2.2.2.2.1,a.2.2.2.2.2.1,a.2.2.2.2.2.2.1,a.2.2.2.2.2.2.2.1,a.2.2.2.2.2.2.2.2.1)
def agJ:fB:=⟨[.l [.i .i64],.l [.b],.l [.i .i64],.i,.i,.i,.i,.i,.i,.l [.i .i64,.i .i64,.i .i64,.i .i64,.i .i64],.l [.i .i64]],[.agg [.sl [.i .i64] [],.sl [.b] [],.sl [.i .i64] [],.own 0 aaP,.own 1 aaP],.int .i64 0,.agg [.int .i64 0,.int .i64 0,.int .i64 0,.int .i64 0,.int .i64 0]],[.arr [.i .i64,.i .i64,.i .i64,.i .i64,.i .i64] [],.arr [.i .i64] []],[.l [.i .i64,.i .i64,.i .i64,.i .i64,.i .i64],.l [.i .i64]],.cV [],[.arr [.i .i64,.i .i64,.i .i64,.i .i64,.i .i64] [],.arr [.i .i64] []],λa=>fX a⟩
theorem MZ:jY mI 252 agJ:=jY.of rfl (wd:=aaP) (cx:=(yi mT [(226,ZQ.c)] [(283,Ts),(283,ZW)] [] [])) (ur.make ⟨ZQ.ok,trivial⟩ ⟨MY,WV,trivial⟩ trivial) (λa=>by kernel_rfl)
def wX(p0:aS)(p1:Int×Int)(p2:Int×Int):Option (aS×Int):=(lO p0).bind λn0=>(dE p2).bind λn1=>bif(if n1>n0 then n1 else n0) !=0 then UV (aS.mk (bF.mk [] [] []) [] [],if n1>n0 then n1 else n0)else(sC p0 p1).bind λa2=>bif a2.2 !=0 then UV (aS.mk (bF.mk [] [] []) [] [],a2.2)else(cN p0.bv).bind λl3=>(cN p0.aC).bind λl4=>(aF l3 a2.1).bind λa5=>(fX (p0.ai.ay,p0.ai.be,p0.ai.bi,a2.1,p2.1,p2.2,a5.2.2.1,a5.2.2.2.1,a5.2.2.2.2,l3,l4)).bind λa6=>UV (aS.mk p0.ai a6.1 a6.2,0)
def aro:Ce:=Oe 197 rfl [ZR,Tp,akD,xL,lL] [⟨252,_,Hf⟩,⟨252,_,MZ⟩] [⟨251,acM,rfl⟩] (aG jK (aG (bU.row gy) (gG (bU.row gy)))) (tG jK) .lK (u3 wX)
def zo(p0:Int×Int×Int×Int×Int)(p1:Int):Option Bool:=UV (p0.2.2.1==p1)
def arp:Ce:=Oc 254 rfl [] (aG (bU.row sw) (bR.one (Arg.ref (bU.int .i64)))) Arg.bool .pure (u2 zo)
def dB(s:(fW×Int×Int×Int)):Option (Step (fW×Int×Int×Int) Int):=bif aaQ (s.2.2.2<s.2.2.1)then(aF s.1 s.2.2.2).bind λa0=>(zo a0 s.2.1).bind λb1=>bif b1 then UV (.done s.2.2.2)else UV (.next (s.1,s.2.1,s.2.2.1,aa .i64 (s.2.2.2+1)))else UV (.done (-1))
def fT(p0:List (Int×Int×Int×Int×Int))(p1:Int):Option Int:=aq dB (p0,p1,EQ (PP p0),0)
def ZX:Ce:=Oe 284 rfl [arp] [] [⟨254,ajB,rfl⟩] (aL sw (bR.one (Arg.fE 254 (bR.one (Arg.ref (bU.int .i64)))))) (Arg.int .i64) .pure (u2 fT)
def dC(p0:List (Int×Int×Int×Int×Int))(p1:Int):Option Bool:=(fT p0 p1).bind λn0=>UV (aaQ (0<=n0))
def ZY:Ce:=Oc 253 rfl [ZX] (aL sw (bR.one (Arg.fE 254 (bR.one (Arg.ref (bU.int .i64)))))) Arg.bool .pure (u2 dC)
def xO(p0:List Int):Option ((List Int)×Int):=(jE p0 0 (aa .i64 ((EQ (PP p0))-1))).bind λl0=>(cN l0).bind λl1=>(aF p0 (aa .i64 ((EQ (PP p0))-1))).bind λn2=>UV (l1,n2)
def arq:Ce:=Oc 285 rfl [QL] (gL ki) (Arg.cV (aL ki gI)) .lK xO
def DC(p0:bF):Option (bF×(Int×Int)×Int):=(uw p0).bind λn0=>bif n0 !=0 then UV (bF.mk [] [] [],(0,0),n0)else bif(EQ (PP p0.bi))==0 then UV (bF.mk [] [] [],(0,0),18)else(xO p0.bi).bind λa1=>(aF p0.ay a1.2).bind λn2=>bif n2==1000000 then UV (bF.mk [] [] [],(0,0),18)else(cN p0.ay).bind λl3=>(cN p0.be).bind λl4=>(aF l4 a1.2).bind λ_=>(aF l3 a1.2).bind λn6=>(aF l3 a1.2).bind λ_=>(aF (cQ l3 a1.2 (aa .i64 (n6+1))) a1.2).bind λn8=>UV (bF.mk (cQ l3 a1.2 (aa .i64 (n6+1))) (cQ l4 a1.2 aai) a1.1,(a1.2,n8),0)
def ars:Ce:=Oe 255 rfl [agC,arq,lL,xK] [] [⟨286,agk,rfl⟩] (gG uX) (Arg.cV (aG uX (aG (bU.row gy) gI))) .lK DC
def nG(p0:aS)(p1:Int×Int)(p2:Int):Option (aS×(Int×Int)×Int):=(lO p0).bind λn0=>(dE p1).bind λn1=>bif(if n1>n0 then n1 else n0) !=0 then UV (aS.mk (bF.mk [] [] []) [] [],(0,0),if n1>n0 then n1 else n0)else bif aaQ (p2<0)then UV (aS.mk (bF.mk [] [] []) [] [],(0,0),2)else bif aaQ (1000000<p2)then UV (aS.mk (bF.mk [] [] []) [] [],(0,0),2)else(dC p0.bv p2).bind λb2=>bif b2 then UV (aS.mk (bF.mk [] [] []) [] [],(0,0),14)else(DC p0.ai).bind λa3=>bif a3.2.2 !=0 then UV (aS.mk (bF.mk [] [] []) [] [],(0,0),a3.2.2)else(cN p0.bv).bind λl4=>(cN p0.aC).bind λl5=>(ba l4 [(p1.1,p1.2,p2,a3.2.1)]).bind λl6=>(fX (a3.1.ay,a3.1.be,a3.1.bi,aa .i64 ((EQ (PP l6))-1),p1.1,p1.2,p2,a3.2.1.1,a3.2.1.2,l6,l5)).bind λa7=>UV (aS.mk a3.1 a7.1 a7.2,a3.2.1,0)
def akG:Ce:=Oe 198 rfl [ZR,Tp,ZY,ars,xL,lL] [⟨252,_,Hf⟩,⟨252,_,MZ⟩] [⟨251,acM,rfl⟩] (aG jK (aG (bU.row gy) gI)) (Arg.cV (aG jK (aG (bU.row gy) gI))) .lK (u3 nG)
def eg(s:Zt5):Option (Step Zt5 ajT):=match s with |(a,b,d,e,f,g,h,i,j,k,l,m,n,o,q,r,t,u,v,w,x,y,z,A,B,C,D,E,F)=>bif aaQ (d<b)then(aF a d).bind λa0=>(uz (Field.mk q) a0.2 (e,f)).bind λa1=>(rl o a0.1).bind λa2=>bif a1.2.1 then bif a2.2 then(aF o a2.1).bind λa3=>(wX (aS.mk (bF.mk z A B) C D) a3.2 a1.1).bind λa4=>(aF o a2.1).bind λa5=>(ba F [a5]).bind λl6=>bif a4.2 !=0 then UV (.done (.done (eH,a4.2)))else UV (.next (a,b,aa .i64 (d+1),e,f,g,h,i,j,k,l,m,n,o,q,r,t,u,v,w,x,y,a4.1.ai.ay,a4.1.ai.be,a4.1.ai.bi,a4.1.bv,a4.1.aC,E,l6))else bif a1.2.1 then(nG (aS.mk (bF.mk z A B) C D) a1.1 a0.1).bind λa7=>(ba F [(a0.1,a7.2.1)]).bind λl8=>bif a7.2.2 !=0 then UV (.done (.done (eH,a7.2.2)))else UV (.next (a,b,aa .i64 (d+1),e,f,g,h,i,j,k,l,m,n,o,q,r,t,u,v,w,x,y,a7.1.ai.ay,a7.1.ai.be,a7.1.ai.bi,a7.1.bv,a7.1.aC,E,l8))else bif a2.2 then(aF o a2.1).bind λa9=>(om (aS.mk (bF.mk z A B) C D) a9.2).bind λAz=>bif Az.2.2 !=0 then UV (.done (.done (eH,Az.2.2)))else UV (.next (a,b,aa .i64 (d+1),e,f,g,h,i,j,k,l,m,n,o,q,r,t,u,v,w,x,y,Az.1.ai.ay,Az.1.ai.be,Az.1.ai.bi,Az.1.bv,Az.1.aC,(E,F)))else bif a1.2.2 !=0 then UV (.done (.done (eH,a1.2.2)))else UV (.next (a,b,aa .i64 (d+1),(e,f,g,h,i,j,k,l,m,n,o,q,r,t,u,v,w,x,y,z,A,B,C,D,E,F)))else bif a1.2.1 then(nG (aS.mk (bF.mk z A B) C D) a1.1 a0.1).bind λES=>(ba F [(a0.1,ES.2.1)]).bind λl12=>bif ES.2.2 !=0 then UV (.done (.done (eH,ES.2.2)))else UV (.next (a,b,aa .i64 (d+1),e,f,g,h,i,j,k,l,m,n,o,q,r,t,u,v,w,x,y,ES.1.ai.ay,ES.1.ai.be,ES.1.ai.bi,ES.1.bv,ES.1.aC,E,l12))else bif a2.2 then(aF o a2.1).bind λXX=>(om (aS.mk (bF.mk z A B) C D) XX.2).bind λXY=>bif XY.2.2 !=0 then UV (.done (.done (eH,XY.2.2)))else UV (.next (a,b,aa .i64 (d+1),e,f,g,h,i,j,k,l,m,n,o,q,r,t,u,v,w,x,y,XY.1.ai.ay,XY.1.ai.be,XY.1.ai.bi,XY.1.bv,XY.1.aC,(E,F)))else bif a1.2.2 !=0 then UV (.done (.done (eH,a1.2.2)))else UV (.next (a,b,aa .i64 (d+1),(e,f,g,h,i,j,k,l,m,n,o,q,r,t,u,v,w,x,y,z,A,B,C,D,E,F)))else UV (.done (.done (aH.mk (v,w) (Field.mk E) (cm.mk x y) (aS.mk (bF.mk z A B) C D) F,0)))
def mW(s:ajS):Option ajT:=match s with |(a,b,d,e,f,g,h,i,j,k,l,m,n,o,q,r,t,u)=>bif aaQ (d<b)then(aF a d).bind λa0=>(lP (Field.mk q) a0.2.1).bind λa1=>bif aaQ (a1.1<0)then UV (.done (eH,6))else(lP (Field.mk q) a0.2.2).bind λa2=>bif aaQ (a2.1<0)then UV (.done (eH,6))else UV (.next (a,b,aa .i64 (d+1),(e,f,g,h,i,j,k,l,m,n,o,q,r,t,u)))else(mf (aH.mk (e,f) (Field.mk g) (cm.mk h i) (aS.mk (bF.mk j k l) m n) o)).bind λr3=>(cN q).bind λl4=>aq eg (i,EQ (PP i),0,e,f,g,h,i,j,k,l,m,n,o,q,r,t,u,r3.ci.1,r3.ci.2,r3.af.aW,r3.af.ce,r3.ae.ai.ay,r3.ae.ai.be,r3.ae.ai.bi,r3.ae.bv,r3.ae.aC,l4,[])
def rp(p0:aH)(p1:Field):Option (aH×Int):=(fG p0).bind λn0=>bif n0 !=0 then UV (eH,n0)else(cU p1).bind λn1=>bif n1 !=0 then UV (eH,n1)else aq mW (p0.af.ce,EQ (PP p0.af.ce),0,p0.ci.1,p0.ci.2,p0.ii.am,p0.af.aW,p0.af.ce,p0.ae.ai.ay,p0.ae.ai.be,p0.ae.ai.bi,p0.ae.bv,p0.ae.aC,p0.io,p1.am,0,0,0)
def art:Ce:=Oc 139 rfl [OE,c46,agD,ac5,Vf,wU,agF,akB,aro,akG,akE] (aG cR (gG bB)) (tG cR) .lK (u2 rp)
def Ed(p0:Int×Int×Int)(p1:Int×Int):Option Bool:=UV ((p0.2.1==p1.1)&&(p0.2.2==p1.2))
def aru:Ce:=Oc 141 rfl [] (aG (bU.row fw) (bR.one (Arg.ref (bU.row gy)))) Arg.bool .pure (u2 Ed)
def oI(s:L2):Option (Step L2 Int):=bif aaQ (s.2.2.2.2<s.2.2.2.1)then(aF s.1 s.2.2.2.2).bind λa0=>(Ed a0 (s.2.1,s.2.2.1)).bind λb1=>bif b1 then UV (.done s.2.2.2.2)else UV (.next (s.1,s.2.1,s.2.2.1,s.2.2.2.1,aa .i64 (s.2.2.2.2+1)))else UV (.done (-1))
def jN(p0:List (Int×Int×Int))(p1:(Int×Int)):Option Int:=aq oI (p0,p1.1,p1.2,EQ (PP p0),0)
def ZZ:Ce:=Oe 200 rfl [aru] [] [⟨141,ajw,rfl⟩] (aL fw (bR.one (Arg.fE 141 (bR.one (Arg.ref (bU.row gy)))))) (Arg.int .i64) .pure (u2 jN)
def fx(p0:List (Int×Int×Int))(p1:(Int×Int)):Option Bool:=(jN p0 p1).bind λn0=>UV (aaQ (0<=n0))
def Z0:Ce:=Oc 140 rfl [ZZ] (aL fw (bR.one (Arg.fE 141 (bR.one (Arg.ref (bU.row gy)))))) Arg.bool .pure (u2 fx)
def ef(p0:Int):Option (aH×Int×Int):=UV (eH,0,p0)
def arv:Ce:=Oc 201 rfl [] gI (Arg.cV (aG cR (aI gI))) .lK ef
def ET(p0:Int×Int×Int)(p1:Int×Int):Option Bool:=UV ((p0.2.1==p1.1)&&(p0.2.2==p1.2))
def arw:Ce:=Oc 257 rfl [] (aG (bU.row fw) (bR.one (Arg.ref (bU.row gy)))) Arg.bool .pure (u2 ET)
def ed(s:L2):Option (Step L2 Int):=bif aaQ (s.2.2.2.2<s.2.2.2.1)then(aF s.1 s.2.2.2.2).bind λa0=>(ET a0 (s.2.1,s.2.2.1)).bind λb1=>bif b1 then UV (.done s.2.2.2.2)else UV (.next (s.1,s.2.1,s.2.2.1,s.2.2.2.1,aa .i64 (s.2.2.2.2+1)))else UV (.done (-1))
def hY(p0:List (Int×Int×Int))(p1:(Int×Int)):Option Int:=aq ed (p0,p1.1,p1.2,EQ (PP p0),0)
def Z1:Ce:=Oe 200 rfl [arw] [] [⟨257,ajC,rfl⟩] (aL fw (bR.one (Arg.fE 257 (bR.one (Arg.ref (bU.row gy)))))) (Arg.int .i64) .pure (u2 hY)
def cY(p0:List (Int×Int×Int))(p1:(Int×Int)):Option Bool:=(hY p0 p1).bind λn0=>UV (aaQ (0<=n0))
def Z2:Ce:=Oc 140 rfl [Z1] (aL fw (bR.one (Arg.fE 257 (bR.one (Arg.ref (bU.row gy)))))) Arg.bool .pure (u2 cY)
def F0(p0:cm)(p1:Int×Int):Option (cm×Int×Int):=(uv p0).bind λn0=>bif n0 !=0 then UV (cm.mk 0 [],0,n0)else(xM p1).bind λb1=>bif !b1 then UV (cm.mk 0 [],0,8)else(cY p0.ce p1).bind λb2=>bif b2 then UV (cm.mk 0 [],0,14)else bif(EQ (PP p0.ce))==200 then UV (cm.mk 0 [],0,18)else bif p0.aW==1000000 then UV (cm.mk 0 [],0,18)else(cN p0.ce).bind λl3=>(ba l3 [(p0.aW,p1)]).bind λl4=>UV (cm.mk (aa .i64 (p0.aW+1)) l4,p0.aW,0)
def arx:Ce:=Oc 202 rfl [agB,akx,Z2,Aa] (aG uY (gG (bU.row gy))) (Arg.cV (aG uY (aI gI))) .lK (u2 F0)
def j9(p0:aH)(p1:Int×Int):Option (aH×Int×Int):=(fG p0).bind λn0=>bif n0 !=0 then(ef n0).bind λa1=>UV a1 else(F0 p0.af p1).bind λa2=>bif a2.2.2==8 then(ef a2.2.2).bind λa3=>UV a3 else(lP p0.ii p1.1).bind λa4=>bif aaQ (a4.1<0)then(ef 6).bind λa5=>UV a5 else(lP p0.ii p1.2).bind λa6=>bif aaQ (a6.1<0)then(ef 6).bind λa7=>UV a7 else bif a2.2.2 !=0 then(ef a2.2.2).bind λa8=>UV a8 else(mf p0).bind λr9=>(uz p0.ii p1 p0.ci).bind λAz=>bif Az.2.2 !=0 then(ef Az.2.2).bind λES=>UV ES else bif Az.2.1 then(nG p0.ae Az.1 a2.2.1).bind λa12=>bif a12.2.2 !=0 then(ef a12.2.2).bind λXX=>UV XX else(ba r9.io [(a2.2.1,a12.2.1)]).bind λl14=>UV (aH.mk r9.ci r9.ii a2.1 a12.1 l14,a2.2.1,0)else UV (aH.mk r9.ci r9.ii a2.1 r9.ae r9.io,a2.2.1,0)
def ary:Ce:=Oc 142 rfl [OE,arv,arx,agD,ac5,Vf,agF,akG] (aG cR (gG (bU.row gy))) (Arg.cV (aG cR (aI gI))) .lK (u2 j9)
def cB(s:ajY):Option (Step ajY ajR):=match s with |(a,b,d,e,f,g,h,i,j,k,l,m,n,o,q,r,t)=>bif aaQ (d<b)then(aF a d).bind λa0=>(fx i a0).bind λb1=>bif b1 then UV (.next (a,b,aa .i64 (d+1),(e,f,g,h,i,j,k,l,m,n,o,q,r,t)))else(j9 (aH.mk (e,f) (Field.mk g) (cm.mk h i) (aS.mk (bF.mk j k l) m n) o) a0).bind λa2=>bif a2.2.2 !=0 then UV (.done (.done (eH,a2.2.2)))else UV (.next (a,b,aa .i64 (d+1),a2.1.ci.1,a2.1.ci.2,a2.1.ii.am,a2.1.af.aW,a2.1.af.ce,a2.1.ae.ai.ay,a2.1.ae.ai.be,a2.1.ae.ai.bi,a2.1.ae.bv,a2.1.ae.aC,a2.1.io,(q,r,t)))else UV (.done (.done (aH.mk (e,f) (Field.mk g) (cm.mk h i) (aS.mk (bF.mk j k l) m n) o,0)))
def bL(s:ajQ):Option ajR:=match s with |(a,b,d,e,f,g,h,i,j,k,l,m,n,o,q,r,t,u,v)=>bif aaQ (e<d)then(aF b e).bind λa0=>(dK a a0.2).bind λb1=>bif !b1 then(wW (aH.mk (f,g) (Field.mk h) (cm.mk i j) (aS.mk (bF.mk k l m) n o) q) a0.1).bind λa2=>UV (.next (a,b,d,aa .i64 (e+1),a2.1.ci.1,a2.1.ci.2,a2.1.ii.am,a2.1.af.aW,a2.1.af.ce,a2.1.ae.ai.ay,a2.1.ae.ai.be,a2.1.ae.ai.bi,a2.1.ae.bv,a2.1.ae.aC,a2.1.io,(r,t,u,v)))else UV (.next (a,b,d,aa .i64 (e+1),(f,g,h,i,j,k,l,m,n,o,q,r,t,u,v)))else(kJ h r).bind λb3=>bif !b3 then(rp (aH.mk (f,g) (Field.mk h) (cm.mk i j) (aS.mk (bF.mk k l m) n o) q) (Field.mk r)).bind λa4=>bif a4.2 !=0 then UV (.done (eH,a4.2))else aq cB (a,EQ (PP a),0,a4.1.ci.1,a4.1.ci.2,a4.1.ii.am,a4.1.af.aW,a4.1.af.ce,a4.1.ae.ai.ay,a4.1.ae.ai.be,a4.1.ae.ai.bi,a4.1.ae.bv,a4.1.ae.aC,a4.1.io,(t,u,v))else aq cB (a,EQ (PP a),0,f,g,h,i,j,k,l,m,n,o,q,(t,u,v))
def gX(p0:aH)(p1:Field)(p2:List (Int×Int)):Option (aH×Int):=aq bL (p2,p0.af.ce,EQ (PP p0.af.ce),0,p0.ci.1,p0.ci.2,p0.ii.am,p0.af.aW,p0.af.ce,p0.ae.ai.ay,p0.ae.ai.be,p0.ae.ai.bi,p0.ae.bv,p0.ae.aC,p0.io,p1.am,0,0,0)
def c71:Ce:=Oc 71 rfl [QN,arl,arn,art,Z0,ary] (aG cR (aG bB (gL gy))) (tG cR) .lK (u3 gX)
def Bd(p0:Int×Int×Int)(p1:Int):Option Int:=(fL p0.1 p1).bind λn0=>UV n0
def arA:Ce:=Oc 108 rfl [Tq] (aG (bU.row fw) gI) (Arg.int .i64) .pure (u2 Bd)
def kK(s:L2):Option ZO:=bif aaQ (s.2.2.2.1<s.2.2.2.2)then(aF s.1 (aa .i64 (fQ .u64 (aa .u64 (aa .i64 (s.2.2.2.1+s.2.2.2.2))) 1))).bind λa0=>(Bd a0 s.2.1).bind λn1=>bif aaQ (n1<0)then UV (.next (s.1,s.2.1,s.2.2.1,aa .i64 ((aa .i64 (fQ .u64 (aa .u64 (aa .i64 (s.2.2.2.1+s.2.2.2.2))) 1))+1),s.2.2.2.2))else UV (.next (s.1,s.2.1,s.2.2.1,s.2.2.2.1,aa .i64 (fQ .u64 (aa .u64 (aa .i64 (s.2.2.2.1+s.2.2.2.2))) 1)))else bif aaQ (s.2.2.2.1<s.2.2.1)then(aF s.1 s.2.2.2.1).bind λa2=>(Bd a2 s.2.1).bind λn3=>UV (.done (s.2.2.2.1,n3==0))else UV (.done (s.2.2.2.1,aaP))
def dL(p0:List (Int×Int×Int))(p1:Int)(_:Unit):Option (Int×Bool):=aq kK (p0,p1,EQ (PP p0),0,EQ (PP p0))
def Z3:Ce:=Oc 107 rfl [arA] (aL fw (aI (bR.one (Arg.fE 108 bR.nil)))) (Arg.cV (aI (bR.one Arg.bool))) .pure (u3 dL)
def kL(p0:Field)(p1:Int):Option (Int×Bool):=(dL p0.am p1 ()).bind λa0=>UV a0
def c48:Ce:=Oc 48 rfl [Z3] (aG bB gI) (Arg.cV (aI (bR.one Arg.bool))) .pure (u2 kL)
def lQ(p0:Field)(p1:Int):Option (Int×Int):=(cU p0).bind λn0=>bif n0 !=0 then UV (0,n0)else(kL p0 p1).bind λa1=>bif !a1.2 then UV (0,6)else UV (a1.1,0)
def c63:Ce:=Oc 63 rfl [c46,c48] (aG bB gI) (Arg.cV (aI gI)) .pure (u2 lQ)
def fH(p0:Field)(p1:Int):Option ((Int×Int×Int)×Int):=(lQ p0 p1).bind λa0=>bif a0.2 !=0 then UV ((0,0,0),a0.2)else(aF p0.am a0.1).bind λa1=>UV (a1,0)
def ac7:Ce:=Oc 117 rfl [c63] (aG bB gI) (tG (bU.row fw)) .pure (u2 fH)
def df(p0:Int×Int×Int)(p1:Int×Int×Int)(p2:Int×Int):Option (Bool×Int):=(uy p0 p1 p2).bind λn0=>bif n0 !=0 then UV (aaP,n0)else(oV p0 p1 p2).bind λn1=>UV (aaQ (0<n1),0)
def Hg:Ce:=Oc 118 rfl [agE,akA] (aG (bU.row fw) (aG (bU.row fw) (gG (bU.row gy)))) (Arg.cV (bR.cons Arg.bool gI)) .pure (u3 df)
def vH(p0:Field)(p1:Int×Int)(p2:Int)(p3:Int):Option Bool:=(fH p0 p2).bind λa0=>(fH p0 p3).bind λa1=>(df a0.1 a1.1 p1).bind λa2=>UV a2.1
def agK:Ce:=Oc 115 rfl [ac7,Hg] (aG bB (aG (bU.row gy) (aI gI))) Arg.bool .pure (λa=>vH a.1 a.2.1 a.2.2.1 a.2.2.2)
def jO(c0:(aJ×Int×Int×Int×(List Int)))(s:(Int×(List Int)×aJ×Int×Int)):Option (Step (Int×(List Int)×aJ×Int×Int) (List Int)):=bif aaQ (0<s.1)then(aF s.2.1 s.1).bind λn0=>(aF s.2.1 (aa .i64 (NE (aa .i64 (s.1-1)) 2))).bind λn1=>(vH (Field.mk s.2.2.1) s.2.2.2 n0 n1).bind λb2=>bif b2 then(aF s.2.1 (aa .i64 (NE (aa .i64 (s.1-1)) 2))).bind λn3=>(aF s.2.1 s.1).bind λn4=>(aF s.2.1 s.1).bind λ_=>(aF (cQ s.2.1 s.1 n3) (aa .i64 (NE (aa .i64 (s.1-1)) 2))).bind λ_=>UV (.next (aa .i64 (NE (aa .i64 (s.1-1)) 2),cQ (cQ s.2.1 s.1 n3) (aa .i64 (NE (aa .i64 (s.1-1)) 2)) n4,s.2.2))else bif(PP s.2.1)==(PP c0.2.2.2.2)then UV (.done s.2.1)else WF else bif(PP s.2.1)==(PP c0.2.2.2.2)then UV (.done s.2.1)else WF
def pQ(a:(aJ×Int×Int×Int×(List Int))):Option (List Int):=aq (jO a) (a.2.2.2.1,a.2.2.2.2,a.1,a.2.1,a.2.2.1)
def akJ:fB:=⟨[.l [.i .i64,.i .i64,.i .i64],.i,.i,.i,.l [.i .i64]],[.agg [.sl [.i .i64,.i .i64,.i .i64] []],.agg [.int .i64 0,.int .i64 0],.own 0 aaP,.int .i64 0],[.arr [.i .i64] []],[.l [.i .i64]],.cV [],[.arr [.i .i64] []],λa=>pQ a⟩
theorem Z4:jY mI 70 akJ:=jY.of rfl (wd:=aaP) (cx:=(yi mT [(115,agK.c)] [] [] [])) (ur.make ⟨agK.ok,trivial⟩ trivial trivial) (λa=>by kernel_rfl)
def mX(s:Zt9):Option (Step Zt9 (bX×Int)):=match s with |(a,b,d,e,f,g,h,i,j,k,l,m,n,o,q,r,t,u,v,w,x,y,z,A)=>bif aaQ (d<b)then(aF a d).bind λa0=>(ba A [a0.1]).bind λl1=>(pQ (e,f,g,d,l1)).bind λl2=>UV (.next (a,b,aa .i64 (d+1),e,f,g,h,i,j,k,l,m,n,o,q,r,t,u,v,w,x,y,z,l2))else(oU A).bind λl3=>(gX (aH.mk (k,l) (Field.mk m) (cm.mk n o) (aS.mk (bF.mk q r t) u v) w) (Field.mk e) l3).bind λa4=>UV (.done (bX.mk a4.1 A,a4.2))
def vI(p0:Field)(p1:Int×Int):Option (bX×Int):=(uu p0 p1).bind λa0=>bif a0.2 !=0 then UV (bX.mk eH [],a0.2)else aq mX (p0.am,EQ (PP p0.am),0,p0.am,p1.1,p1.2,0,0,0,a0.1.ci.1,a0.1.ci.2,a0.1.ii.am,a0.1.af.aW,a0.1.af.ce,a0.1.ae.ai.ay,a0.1.ae.ai.be,a0.1.ae.ai.bi,a0.1.ae.bv,a0.1.ae.aC,a0.1.io,0,0,0,[])
def c22:Ce:=Oe 22 rfl [c69,c72,c71] [⟨70,_,Z4⟩] [] (aG bB (gG (bU.row gy))) (tG oG) .lK (u2 vI)
def nZ(s:(aJ×Int×Int×(List Int))):Option (Step (aJ×Int×Int×(List Int)) (Step II (List Int))):=bif aaQ (s.2.2.1<s.2.1)then(aF s.1 s.2.2.1).bind λa0=>(aF s.2.2.2 s.2.2.1).bind λ_=>UV (.next (s.1,s.2.1,aa .i64 (s.2.2.1+1),cQ s.2.2.2 s.2.2.1 a0.1))else UV (.done (.done s.2.2.2))
def qE(s:II):Option (Step II (List Int)):=bif aaQ (s.1<(EQ (PP s.2)))then UV (.next (aa .i64 (s.1*2),s.2))else(bN [-1] s.1).bind λl0=>aq nZ (s.2,EQ (PP s.2),0,l0)
def sD(p0:Field):Option (List Int):=aq qE (1,p0.am)
def c74:Ce:=Oc 74 rfl [c57,ac4] (gG bB) (Arg.sl ki) .lK sD
def zp(p0:Field)(p1:Int×Int):Option Int:=(cU p0).bind λn0=>bif n0 !=0 then UV n0 else(dE p1).bind λn1=>UV n1
def arB:Ce:=Oc 189 rfl [c46,Tp] (aG bB (gG (bU.row gy))) (Arg.int .i64) .pure (u2 zp)
def xP(p0:Int×Int×Int)(p1:Int):Option Int:=(fL p0.1 p1).bind λn0=>UV n0
def arC:Ce:=Oc 281 rfl [Tq] (aG (bU.row fw) gI) (Arg.int .i64) .pure (u2 xP)
def jZ(s:L2):Option ZO:=bif aaQ (s.2.2.2.1<s.2.2.2.2)then(aF s.1 (aa .i64 (fQ .u64 (aa .u64 (aa .i64 (s.2.2.2.1+s.2.2.2.2))) 1))).bind λa0=>(xP a0 s.2.1).bind λn1=>bif aaQ (n1<0)then UV (.next (s.1,s.2.1,s.2.2.1,aa .i64 ((aa .i64 (fQ .u64 (aa .u64 (aa .i64 (s.2.2.2.1+s.2.2.2.2))) 1))+1),s.2.2.2.2))else UV (.next (s.1,s.2.1,s.2.2.1,s.2.2.2.1,aa .i64 (fQ .u64 (aa .u64 (aa .i64 (s.2.2.2.1+s.2.2.2.2))) 1)))else bif aaQ (s.2.2.2.1<s.2.2.1)then(aF s.1 s.2.2.2.1).bind λa2=>(xP a2 s.2.1).bind λn3=>UV (.done (s.2.2.2.1,n3==0))else UV (.done (s.2.2.2.1,aaP))
def dH(p0:List (Int×Int×Int))(p1:Int)(_:Unit):Option (Int×Bool):=aq jZ (p0,p1,EQ (PP p0),0,EQ (PP p0))
def Z5:Ce:=Oc 107 rfl [arC] (aL fw (aI (bR.one (Arg.fE 281 bR.nil)))) (Arg.cV (aI (bR.one Arg.bool))) .pure (u3 dH)
def lR(p0:Field)(p1:Int):Option (Int×Bool):=(dH p0.am p1 ()).bind λa0=>UV a0
def akK:Ce:=Oc 245 rfl [Z5] (aG bB gI) (Arg.cV (aI (bR.one Arg.bool))) .pure (u2 lR)
def pR(s:((List Int)×Int×Int×aJ)):Option (Step ((List Int)×Int×Int×aJ) Bool):=bif aaQ (s.2.2.1<s.2.1)then(aF s.1 s.2.2.1).bind λn0=>(lR (Field.mk s.2.2.2) n0).bind λa1=>bif a1.2 then UV (.next (s.1,s.2.1,aa .i64 (s.2.2.1+1),s.2.2.2))else bif !(n0==(-1))then UV (.done (!(aaQ (0<=s.2.2.1))))else UV (.next (s.1,s.2.1,aa .i64 (s.2.2.1+1),s.2.2.2))else UV (.done (!(aaQ (0<=(-1)))))
def zq(p0:Field)(p1:List Int):Option Bool:=aq pR (p1,EQ (PP p1),0,p0.am)
def arD:Ce:=Oe 190 rfl [akK] [] [⟨182,acK,rfl⟩,⟨231,ZE,rfl⟩,⟨135,Tn,rfl⟩,⟨232,acL,rfl⟩,⟨244,ajA,rfl⟩] (aG bB (gL ki)) Arg.bool .pure (u2 zq)
def iz(p0:cd)(p1:Int):Option Int:=bif aaQ (0<=(aa .i64 (p1- (EQ (PP p0.kG)))))then(aF p0.aX (aa .i64 (p1- (EQ (PP p0.kG))))).bind λn0=>UV n0 else(aF p0.kG p1).bind λn1=>UV n1
def agL:Ce:=Oc 143 rfl [] (aG lr gI) (Arg.int .i64) .pure (u2 iz)
def vJ(p0:Field)(p1:Int×Int)(p2:Int)(p3:Int):Option Int:=bif aaQ ((if p3<p2 then p3 else p2)<0)then UV (if p3>p2 then p3 else p2)else(lR p0 p2).bind λa0=>(lR p0 p3).bind λa1=>(aF p0.am a0.1).bind λa2=>(aF p0.am a1.1).bind λa3=>(df a2 a3 p1).bind λa4=>bif a4.1 then UV p2 else UV p3
def arE:Ce:=Oc 191 rfl [akK,Hg] (aG bB (aG (bU.row gy) (aI gI))) (Arg.int .i64) .pure (λa=>vJ a.1 a.2.1 a.2.2.1 a.2.2.2)
def Hh(s:ac0):Option (Step ac0 (cd×Int)):=bif aaQ (0<=s.1)then(iz (cd.mk s.2.2.2.2.1 s.2.2.2.2.2) (aa .i64 ((aa .i64 (2*s.1))+1))).bind λn0=>(iz (cd.mk s.2.2.2.2.1 s.2.2.2.2.2) (aa .i64 ((aa .i64 (2*s.1))+2))).bind λn1=>(vJ (Field.mk s.2.1) (s.2.2.1,s.2.2.2.1) n0 n1).bind λn2=>(aF s.2.2.2.2.2 s.1).bind λ_=>UV (.next (aa .i64 (s.1-1),s.2.1,s.2.2.1,s.2.2.2.1,s.2.2.2.2.1,cQ s.2.2.2.2.2 s.1 n2))else UV (.done (cd.mk s.2.2.2.2.1 s.2.2.2.2.2,0))
def mY(s:ac0):Option (Step ac0 ako):=bif aaQ (0<=s.1)then(iz (cd.mk s.2.2.2.2.1 s.2.2.2.2.2) (aa .i64 ((aa .i64 (2*s.1))+1))).bind λn0=>(iz (cd.mk s.2.2.2.2.1 s.2.2.2.2.2) (aa .i64 ((aa .i64 (2*s.1))+2))).bind λn1=>(vJ (Field.mk s.2.1) (s.2.2.1,s.2.2.2.1) n0 n1).bind λn2=>(aF s.2.2.2.2.2 s.1).bind λ_=>UV (.next (aa .i64 (s.1-1),s.2.1,s.2.2.1,s.2.2.2.1,s.2.2.2.2.1,cQ s.2.2.2.2.2 s.1 n2))else UV (.done (.done (cd.mk s.2.2.2.2.1 s.2.2.2.2.2,0)))
def pS(c0:Int)(c1:(List Int))(s:akn):Option ako:=bif aaQ (s.2.2.1<s.2.1)then(aF s.1 s.2.2.1).bind λn0=>bif !(!(j8 aaP s.2.2.2.2.2.2 n0))then bif !(!(aaQ (0<=s.2.2.1)))then UV (.done (cd.mk [] [],14))else bif c0 !=0 then UV (.done (cd.mk [] [],c0))else(cN c1).bind λl1=>bif(aa .i64 ((EQ (PP c1))-1))==(aa .i64 ((EQ (PP c1))-1))then(oE (aa .i64 ((EQ (PP c1))-1)) (0:Int)).bind λl2=>aq mY (aa .i64 ((EQ (PP l2))-1),s.2.2.2.1,s.2.2.2.2.1,s.2.2.2.2.2.1,l1,l2)else WF else UV (.next (s.1,s.2.1,aa .i64 (s.2.2.1+1),s.2.2.2.1,s.2.2.2.2.1,s.2.2.2.2.2.1,mz s.2.2.2.2.2.2 n0 (aaQ (0<=n0))))else bif c0 !=0 then UV (.done (cd.mk [] [],c0))else(cN c1).bind λl3=>bif(aa .i64 ((EQ (PP c1))-1))==(aa .i64 ((EQ (PP c1))-1))then(oE (aa .i64 ((EQ (PP c1))-1)) (0:Int)).bind λl4=>aq mY (aa .i64 ((EQ (PP l4))-1),s.2.2.2.1,s.2.2.2.2.1,s.2.2.2.2.2.1,l3,l4)else WF
def qq(p0:Field)(p1:Int×Int)(p2:List Int):Option (cd×Int):=(zp p0 p1).bind λn0=>bif n0 !=0 then bif n0 !=0 then UV (cd.mk [] [],n0)else(cN p2).bind λl1=>bif(aa .i64 ((EQ (PP p2))-1))==(aa .i64 ((EQ (PP p2))-1))then(oE (aa .i64 ((EQ (PP p2))-1)) (0:Int)).bind λl2=>aq Hh (aa .i64 ((EQ (PP l2))-1),p0.am,p1.1,p1.2,l1,l2)else WF else bif aaQ ((EQ (PP p2))<1)then UV (cd.mk [] [],2)else bif aaQ (64<(EQ (PP p2)))then UV (cd.mk [] [],2)else(zq p0 p2).bind λb3=>bif !b3 then UV (cd.mk [] [],6)else aq (pS n0 p2) (p2,EQ (PP p2),0,p0.am,p1.1,p1.2,mz [] (-1) aaP)
def akL:Ce:=Oe 131 rfl [arB,arD,lL,agL,arE] [] [⟨181,agi,rfl⟩,⟨182,acK,rfl⟩,⟨231,ZE,rfl⟩,⟨135,Tn,rfl⟩,⟨232,acL,rfl⟩,⟨230,agj,rfl⟩] (aG bB (aG (bU.row gy) (gL ki))) (tG lr) .lK (u3 qq)
def L3(p0:Int)(p1:cd):Option Int:=bif aaQ (p0<(EQ (PP p1.kG)))then(aF p1.kG p0).bind λn0=>UV n0 else(aF p1.aX (aa .i64 (p0- (EQ (PP p1.kG))))).bind λn1=>UV n1
def arF:Ce:=Oc 170 rfl [] (aI (bR.one (Arg.ref lr))) (Arg.int .i64) .pure (u2 L3)
def oW(s:((List Int)×Int×Int×(List Int)×(List Int)×bT)):Option (Step ((List Int)×Int×Int×(List Int)×(List Int)×bT) (cd×bT)):=match s with |(a,b,d,e,f,g)=>bif aaQ (d<b)then(aF a d).bind λn0=>bif aaQ ((aa .i64 ((aa .i64 (2*d))+1))<(EQ (PP f)))then(aF f (aa .i64 ((aa .i64 (2*d))+1))).bind λn1=>bif(PP g)==(PP g)then bif aaQ ((aa .i64 ((aa .i64 (2*d))+2))<(EQ (PP f)))then(aF f (aa .i64 ((aa .i64 (2*d))+2))).bind λn2=>bif(PP g)==(PP g)then bif aaQ (0<=n1)then bif aaQ (0<=n2)then(ba g [(aa .i64 ((aa .i64 (n1+n2))-n0),n0)]).bind λl3=>UV (.next (a,b,aa .i64 (d+1),e,f,l3))else UV (.next (a,b,aa .i64 (d+1),(e,f,g)))else UV (.next (a,b,aa .i64 (d+1),(e,f,g)))else WF else(aF e (aa .i64 ((aa .i64 ((aa .i64 (2*d))+2)) - (EQ (PP f))))).bind λn4=>bif(PP g)==(PP g)then bif aaQ (0<=n1)then bif aaQ (0<=n4)then(ba g [(aa .i64 ((aa .i64 (n1+n4))-n0),n0)]).bind λl5=>UV (.next (a,b,aa .i64 (d+1),e,f,l5))else UV (.next (a,b,aa .i64 (d+1),(e,f,g)))else UV (.next (a,b,aa .i64 (d+1),(e,f,g)))else WF else WF else(aF e (aa .i64 ((aa .i64 ((aa .i64 (2*d))+1)) - (EQ (PP f))))).bind λn6=>bif(PP g)==(PP g)then bif aaQ ((aa .i64 ((aa .i64 (2*d))+2))<(EQ (PP f)))then(aF f (aa .i64 ((aa .i64 (2*d))+2))).bind λn7=>bif(PP g)==(PP g)then bif aaQ (0<=n6)then bif aaQ (0<=n7)then(ba g [(aa .i64 ((aa .i64 (n6+n7))-n0),n0)]).bind λl8=>UV (.next (a,b,aa .i64 (d+1),e,f,l8))else UV (.next (a,b,aa .i64 (d+1),(e,f,g)))else UV (.next (a,b,aa .i64 (d+1),(e,f,g)))else WF else(aF e (aa .i64 ((aa .i64 ((aa .i64 (2*d))+2)) - (EQ (PP f))))).bind λn9=>bif(PP g)==(PP g)then bif aaQ (0<=n6)then bif aaQ (0<=n9)then(ba g [(aa .i64 ((aa .i64 (n6+n9))-n0),n0)]).bind λl10=>UV (.next (a,b,aa .i64 (d+1),e,f,l10))else UV (.next (a,b,aa .i64 (d+1),(e,f,g)))else UV (.next (a,b,aa .i64 (d+1),(e,f,g)))else WF else WF else UV (.done (cd.mk e f,g))
def oX(p0:Field)(p1:Int×Int)(p2:List Int):Option (cd×bT):=(qq p0 p1 p2).bind λa0=>aq oW (a0.1.kG,EQ (PP a0.1.kG),0,a0.1.aX,a0.1.kG,[])
def agM:Ce:=Oe 103 rfl [akL,arF] [] [⟨170,ajx,rfl⟩] (aG bB (aG (bU.row gy) (gL ki))) (Arg.cV (aG lr (gL gy))) .lK (u3 oX)
def xQ(p0:aH):Option aH:=(cN p0.ii.am).bind λl0=>(cN p0.af.ce).bind λl1=>(cN p0.io).bind λl2=>(cN p0.ae.bv).bind λl3=>(cN p0.ae.aC).bind λl4=>(cN p0.ae.ai.ay).bind λl5=>(cN p0.ae.ai.be).bind λl6=>(cN p0.ae.ai.bi).bind λl7=>UV (aH.mk p0.ci (Field.mk l0) (cm.mk p0.af.aW l1) (aS.mk (bF.mk l5 l6 l7) l3 l4) l2)
def arG:Ce:=Oc 180 rfl [wU,Aa,FY,xL,lL,xK] (gG cR) (Arg.agg cR) .own xQ aai
def akM:Ce:=Oc 180 rfl [wU,Aa,FY,xL,lL,xK] (gG cR) (Arg.agg cR) .lK xQ
def jg(s:MV):Option (Step MV Zt4):=match s with |(a,b,d,e,f,g,h,i,j,k,l,m,n,o,q,r,t,u,v)=>bif aaQ (e<d)then(aF b e).bind λa0=>(fH (Field.mk r) a0.1).bind λa1=>(fH (Field.mk r) a0.2).bind λa2=>bif a1.2 !=0 then UV (.done (.done (.done (eH,6))))else bif a2.2 !=0 then UV (.done (.done (.done (eH,6))))else UV (.next (a,b,d,aa .i64 (e+1),(f,g,h,i,j,k,l,m,n,o,q,r,t,u,v)))else(xQ (aH.mk (f,g) (Field.mk h) (cm.mk i j) (aS.mk (bF.mk k l m) n o) q)).bind λr3=>(gX r3 (Field.mk r) a).bind λa4=>UV (.done (.done (.done a4)))
def gE(s:MV):Option Zt4:=bif aaQ (s.2.2.2.1<s.2.2.1)then(aF s.2.1 s.2.2.2.1).bind λa0=>(jE s.1 0 s.2.2.2.1).bind λl1=>(dK l1 a0).bind λb2=>bif b2 then UV (.done (.done (eH,14)))else UV (.next (s.1,s.2.1,s.2.2.1,aa .i64 (s.2.2.2.1+1),s.2.2.2.2))else aq jg (s.1,s.1,EQ (PP s.1),0,s.2.2.2.2)
def iA(s:MV):Option ajP:=bif aaQ (s.2.2.2.1<s.2.2.1)then(aF s.2.1 s.2.2.2.1).bind λa0=>bif aaQ (a0.1<0)then UV (.done (eH,8))else bif aaQ (a0.2<0)then UV (.done (eH,8))else bif aaQ (65535<a0.1)then UV (.done (eH,8))else bif aaQ (65535<a0.2)then UV (.done (eH,8))else bif a0.1==a0.2 then UV (.done (eH,8))else UV (.next (s.1,s.2.1,s.2.2.1,aa .i64 (s.2.2.2.1+1),s.2.2.2.2))else aq gE (s.1,s.1,EQ (PP s.1),0,s.2.2.2.2)
def gq(p0:aH)(p1:Field)(p2:List (Int×Int)):Option (aH×Int):=(fG p0).bind λn0=>bif n0 !=0 then UV (eH,n0)else(cU p1).bind λn1=>bif n1 !=0 then UV (eH,n1)else aq iA (p2,p2,EQ (PP p2),0,p0.ci.1,p0.ci.2,p0.ii.am,p0.af.aW,p0.af.ce,p0.ae.ai.ay,p0.ae.ai.be,p0.ae.ai.bi,p0.ae.bv,p0.ae.aC,p0.io,p1.am,0,0,0)
def Tv:Ce:=Oc 121 rfl [OE,c46,QN,ac7,arG,akM,c71] (aG cR (aG bB (gL gy))) (tG cR) .lK (u3 gq)
def mZ(p0:aH)(p1:Field)(p2:List Int):Option (bQ×Int):=(oX p1 p0.ci p2).bind λa0=>(gq p0 p1 a0.2).bind λa1=>bif a1.2 !=0 then UV (bQ.mk eH (cd.mk [] []),a1.2)else UV (bQ.mk a1.1 a0.1,0)
def c73:Ce:=Oc 73 rfl [agM,Tv] (aG cR (aG bB (gL ki))) (tG mV) .lK (u3 mZ)
def sE(p0:Field)(p1:Int×Int):Option (bQ×Int):=(uu p0 p1).bind λa0=>bif a0.2 !=0 then UV (bQ.mk eH (cd.mk [] []),a0.2)else(sD p0).bind λl1=>(mZ a0.1 p0 l1).bind λa2=>UV a2
def c23:Ce:=Oc 23 rfl [c69,c74,c73] (aG bB (gG (bU.row gy))) (tG mV) .lK (u2 sE)
def Be(p0:Field)(p1:Int×Int):Option Int:=(cU p0).bind λn0=>bif n0 !=0 then UV n0 else(dE p1).bind λn1=>UV n1
def arH:Ce:=Oc 193 rfl [c46,Tp] (aG bB (gG (bU.row gy))) (Arg.int .i64) .pure (u2 Be)
def sF(s:aj6):Option (Step aj6 akc):=match s with |(a,b,d,e,f,g,h,i,j,k,l,m,n,o,q,r,t,u,v)=>bif aaQ (0<(EQ a))then(aF (n.take a) (aa .i64 ((EQ a)-1))).bind λn0=>(aF h n0).bind λa1=>(df a1 (o,q,r) (i,j)).bind λa2=>bif a2.1 then bif aaQ (0<(EQ a))then(aF (n.take a) (aa .i64 ((EQ a)-1))).bind λn3=>(aF m n3).bind λa4=>(ba (cQ m n3 (a4.1,a4.2.1,d)) [(t,u,v)]).bind λl5=>bif IR (a+[d].length) b then bif(IR (a+[d].length) (PP n))&&(!aaP)then UV (.done (.next (a+[d].length,b,e,f,aa .i64 (g+1),h,i,j,k,l,l5,gQ n a [d])))else WF else(ba (n.take a) [d]).bind λl6=>bif IR a (PP n)then UV (.done (.next (PP l6,PP l6,e,f,aa .i64 (g+1),h,i,j,k,l,l5,l6)))else WF else(ba m [(t,u,v)]).bind λl7=>bif IR (a+[d].length) b then bif(IR (a+[d].length) (PP n))&&(!aaP)then UV (.done (.next (a+[d].length,b,e,f,aa .i64 (g+1),h,i,j,k,d,l7,gQ n a [d])))else WF else(ba (n.take a) [d]).bind λl8=>bif IR a (PP n)then UV (.done (.next (PP l8,PP l8,e,f,aa .i64 (g+1),h,i,j,k,d,l7,l8)))else WF else bif(aaQ (0<=(aa .i64 ((EQ a)-1))))&&(aaQ ((aa .i64 ((EQ a)-1))<=(EQ b)))then UV (.next ((aa .i64 ((EQ a)-1)).toNat,b,d,e,f,g,h,i,j,k,l,m,n,o,q,r,t,n0,v))else WF else bif aaQ (0<(EQ a))then(aF (n.take a) (aa .i64 ((EQ a)-1))).bind λn9=>(aF m n9).bind λAz=>(ba (cQ m n9 (Az.1,Az.2.1,d)) [(t,u,v)]).bind λl11=>bif IR (a+[d].length) b then bif(IR (a+[d].length) (PP n))&&(!aaP)then UV (.done (.next (a+[d].length,b,e,f,aa .i64 (g+1),h,i,j,k,l,l11,gQ n a [d])))else WF else(ba (n.take a) [d]).bind λl12=>bif IR a (PP n)then UV (.done (.next (PP l12,PP l12,e,f,aa .i64 (g+1),h,i,j,k,l,l11,l12)))else WF else(ba m [(t,u,v)]).bind λl13=>bif IR (a+[d].length) b then bif(IR (a+[d].length) (PP n))&&(!aaP)then UV (.done (.next (a+[d].length,b,e,f,aa .i64 (g+1),h,i,j,k,d,l13,gQ n a [d])))else WF else(ba (n.take a) [d]).bind λl14=>bif IR a (PP n)then UV (.done (.next (PP l14,PP l14,e,f,aa .i64 (g+1),h,i,j,k,d,l13,l14)))else WF
def pT(s:akb):Option akc:=bif aaQ (s.2.2.2.2.1<s.2.2.2.1)then(aF s.2.2.1 s.2.2.2.2.1).bind λa0=>aq sF (s.1,s.2.1,s.2.2.2.2.1,s.2.2.1,s.2.2.2.1,s.2.2.2.2.1,s.2.2.2.2.2.1,s.2.2.2.2.2.2.1,s.2.2.2.2.2.2.2.1,s.2.2.2.2.2.2.2.2.1,s.2.2.2.2.2.2.2.2.2.1,s.2.2.2.2.2.2.2.2.2.2.1,s.2.2.2.2.2.2.2.2.2.2.2,a0.1,a0.2.1,a0.2.2,a0.1,-1,-1)else UV (.done (Tree.mk s.2.2.2.2.2.2.2.2.2.1 s.2.2.2.2.2.2.2.2.2.2.1,0))
def uA(p0:Field)(p1:Int×Int):Option (Tree×Int):=(Be p0 p1).bind λn0=>bif n0 !=0 then UV (Tree.mk 0 [],n0)else aq pT (0,0,p0.am,EQ (PP p0.am),0,p0.am,p1.1,p1.2,0,-1,[],[])
def agN:Ce:=Oc 133 rfl [arH,Hg] (aG bB (gG (bU.row gy))) (tG A8) .lK (u2 uA)
def kM(s:akl):Option (Step akl agw):=match s with |(a,b,d,e,f,g,h,i,j,k,l)=>bif aaQ (h<2)then bif h==0 then bif aaQ (0<=f)then(aF l f).bind λ_=>UV (.next (a,b,d,e,f,g,aa .i64 (h+1),i,j,k,cQ l f a))else UV (.next (a,b,d,e,f,g,aa .i64 (h+1),(i,j,k,l)))else bif h==1 then bif aaQ (0<=g)then(aF l g).bind λ_=>UV (.next (a,b,d,e,f,g,aa .i64 (h+1),i,j,k,cQ l g a))else UV (.next (a,b,d,e,f,g,aa .i64 (h+1),(i,j,k,l)))else WF else UV (.done (.next (b,d,aa .i64 (e+1),(i,j,k,l))))
def m8(s:akm):Option (Step akm agw):=bif aaQ (s.2.2.1<s.2.1)then(aF s.1 s.2.2.1).bind λa0=>(aF s.2.2.2.2.2.2.1 s.2.2.1).bind λn1=>bif aaQ (0<=n1)then(aF s.2.2.2.2.2.2.1 s.2.2.1).bind λn2=>(aF s.2.2.2.2.2.1 n2).bind λa3=>(ba s.2.2.2.2.2.2.2 [(a0.1,a3.1)]).bind λl4=>UV (.next (s.1,s.2.1,aa .i64 (s.2.2.1+1),s.2.2.2.1,s.2.2.2.2.1,s.2.2.2.2.2.1,s.2.2.2.2.2.2.1,l4))else UV (.next (s.1,s.2.1,aa .i64 (s.2.2.1+1),s.2.2.2))else UV (.done (.done (.done (Tree.mk s.2.2.2.2.1 s.2.2.2.2.2.1,s.2.2.2.2.2.2.2))))
def m9(s:aj3):Option agw:=bif aaQ (s.2.2.1<s.2.1)then(aF s.1 s.2.2.1).bind λa0=>aq kM (s.2.2.1,s.1,s.2.1,s.2.2.1,a0.2.1,a0.2.2,0,s.2.2.2)else aq m8 (s.2.2.2.2.2.1,EQ (PP s.2.2.2.2.2.1),0,s.2.2.2.1,s.2.2.2.2.1,s.2.2.2.2.2.1,s.2.2.2.2.2.2,[])
def na(s:(Int×Int×Int×Int×aJ×(List Int))):Option aj2:=bif aaQ (s.2.1<s.1)then(aF s.2.2.2.2.2 s.2.1).bind λ_=>UV (.next (s.1,aa .i64 (s.2.1+1),s.2.2.1,s.2.2.2.1,s.2.2.2.2.1,cQ s.2.2.2.2.2 s.2.1 (-1)))else aq m9 (s.2.2.2.2.1,EQ (PP s.2.2.2.2.1),0,s.2.2)
def rq(p0:Field)(p1:Int×Int):Option (Tree×bT):=(uA p0 p1).bind λa0=>bif(EQ (PP a0.1.ls))==(EQ (PP a0.1.ls))then(oE (EQ (PP a0.1.ls)) (0:Int)).bind λl1=>aq na (EQ (PP l1),0,0,a0.1.lc,a0.1.ls,l1)else WF
def agO:Ce:=Oc 104 rfl [agN] (aG bB (gG (bU.row gy))) (Arg.cV (aG A8 (gL gy))) .lK (u2 rq)
def ng(p0:aH)(p1:Field):Option (cf×Int):=(rq p1 p0.ci).bind λa0=>(gq p0 p1 a0.2).bind λa1=>bif a1.2 !=0 then UV (cf.mk eH (Tree.mk 0 []),a1.2)else UV (cf.mk a1.1 a0.1,0)
def c75:Ce:=Oc 75 rfl [agO,Tv] (aG cR (gG bB)) (tG jL) .lK (u2 ng)
def sG(p0:Field)(p1:Int×Int):Option (cf×Int):=(uu p0 p1).bind λa0=>bif a0.2 !=0 then UV (cf.mk eH (Tree.mk 0 []),a0.2)else(ng a0.1 p0).bind λa1=>UV a1
def c24:Ce:=Oc 24 rfl [c69,c75] (aG bB (gG (bU.row gy))) (tG jL) .lK (u2 sG)
def jh(c0:(QM->(Option To)))(c1:QM)(s:akg):Option (Step akg aj8):=match s with |(a,b,d,e,f,g,h,i,j,k,l,m)=>bif aaQ (d<b)then(aF e d).bind λa0=>bif a0.1 !=i then bif aaQ (a<0)then WF else bif(rJ .i64 (fQ .i64 a0.1 a) 1)==0 then(ba l [a0]).bind λl1=>bif(rJ .i64 (fQ .i64 a0.1 a) 1)==0 then UV (.next (a,b,aa .i64 (d+1),e,f,g,h,i,j,k,l1,m))else bif(rJ .i64 (fQ .i64 a0.1 a) 1)==1 then WF else WF else bif(rJ .i64 (fQ .i64 a0.1 a) 1)==1 then(ba m [a0]).bind λl2=>bif(rJ .i64 (fQ .i64 a0.1 a) 1)==0 then WF else bif(rJ .i64 (fQ .i64 a0.1 a) 1)==1 then UV (.next (a,b,aa .i64 (d+1),e,f,g,h,i,j,k,l,l2))else WF else WF else UV (.next (a,b,aa .i64 (d+1),(e,f,g,h,i,j,k,l,m)))else(c0 (g,h,i,aa .i64 (a+1),l,f)).bind λa3=>(c0 (g,h,i,aa .i64 (a+1),m,a3.2)).bind λa4=>bif(PP e)==(PP c1.2.2.2.2.1)then UV (.done (.done (e,a4.2)))else WF
def lS(c0:(QM->(Option To)))(c1:QM)(s:aj7):Option aj8:=match s with |(a,b,d,e,f,g,h,i,j,k,l,m,n,o)=>bif aaQ (h<g)then(aF ((i.drop d).take e) h).bind λa0=>(df a0 (m,n,o) (k,l)).bind λa1=>bif a1.1 then UV (.next (a,b,d,e,f,g,aa .i64 (h+1),i,j,k,l,a0))else UV (.next (a,b,d,e,f,g,aa .i64 (h+1),(i,j,k,l,m,n,o)))else aq (jh c0 c1) (b,EQ (PP i),0,i,mz j m a,k,l,m,n,o,[],[])
def qh(self:QM->Option To)(a:QM):Option To:=bif(EQ (PP a.2.2.2.2.1))==0 then bif(PP a.2.2.2.2.1)==(PP a.2.2.2.2.1)then UV a.2.2.2.2 else WF else(aF a.2.2.2.2.1 0).bind λa0=>bif((aaQ (0<=1))&&(aaQ (1<=(EQ (PP a.2.2.2.2.1)))))&&(aaQ ((EQ (PP a.2.2.2.2.1))<=(EQ (PP a.2.2.2.2.1))))then aq (lS self a) (a.2.2.1,a.2.2.2.1,1,((EQ (PP a.2.2.2.2.1)).toNat)-1,PP a.2.2.2.2.1-1,EQ (((EQ (PP a.2.2.2.2.1)).toNat)-1),0,a.2.2.2.2.1,a.2.2.2.2.2,a.1,a.2.1,a0)else WF
def jP:Nat->QM->Option To |0,_=>WF |n+1,a=>qh (jP n) a
def iB(a:QM):Option To:=jP 1000000 a
def Z6:fB:=⟨[.i,.i,.i,.i,.l [.i .i64,.i .i64,.i .i64],.l [.i .i64,(.i .i64)]],[.own 0 aaP,.agg [.int .i64 0,.int .i64 0],.int .i64 0,.int .i64 0,.mp 1],[.arr [.i .i64,.i .i64,.i .i64] [],.mI (.i .i64) []],[.l [.i .i64,.i .i64,.i .i64],.l [.i .i64,(.i .i64)]],.cV [],[.arr [.i .i64,.i .i64,.i .i64] [],.mI (.i .i64) []],λa=>iB a⟩
theorem Kx: ∀n,jY mI 171 ⟨[.i,.i,.i,.i,.l [.i .i64,.i .i64,.i .i64],.l [.i .i64,(.i .i64)]],[.own 0 aaP,.agg [.int .i64 0,.int .i64 0],.int .i64 0,.int .i64 0,.mp 1],[.arr [.i .i64,.i .i64,.i .i64] [],.mI (.i .i64) []],[.l [.i .i64,.i .i64,.i .i64],.l [.i .i64,(.i .i64)]],.cV [],[.arr [.i .i64,.i .i64,.i .i64] [],.mI (.i .i64) []],λa=>jP n a⟩
 |0=>jY.zero (λ_=>rfl)
 |n+1=>jY.of rfl (wd:=aaP) (cx:=(yi mT [(118,Hg.c)] [(171,⟨[.i,.i,.i,.i,.l [.i .i64,.i .i64,.i .i64],.l [.i .i64,(.i .i64)]],[.own 0 aaP,.agg [.int .i64 0,.int .i64 0],.int .i64 0,.int .i64 0,.mp 1],[.arr [.i .i64,.i .i64,.i .i64] [],.mI (.i .i64) []],[.l [.i .i64,.i .i64,.i .i64],.l [.i .i64,(.i .i64)]],.cV [],[.arr [.i .i64,.i .i64,.i .i64] [],.mI (.i .i64) []],λa=>jP n a⟩)] [] [])) (ur.make ⟨Hg.ok,trivial⟩ ⟨(Kx n),trivial⟩ trivial) (λa=>by kernel_rfl)
theorem M0:jY mI 171 Z6:=Kx 1000000
def ji(s:akf):Option (Step akf ake):=match s with |(a,b,d,e,f,g,h,i,j,k,l,m)=>bif aaQ (e<d)then(aF b e).bind λa0=>bif a0.1 !=i then bif aaQ (a<0)then WF else bif(rJ .i64 (fQ .i64 a0.1 a) 1)==0 then(ba l [a0]).bind λl1=>bif(rJ .i64 (fQ .i64 a0.1 a) 1)==0 then UV (.next (a,b,d,aa .i64 (e+1),f,g,h,i,j,k,l1,m))else bif(rJ .i64 (fQ .i64 a0.1 a) 1)==1 then WF else WF else bif(rJ .i64 (fQ .i64 a0.1 a) 1)==1 then(ba m [a0]).bind λl2=>bif(rJ .i64 (fQ .i64 a0.1 a) 1)==0 then WF else bif(rJ .i64 (fQ .i64 a0.1 a) 1)==1 then UV (.next (a,b,d,aa .i64 (e+1),f,g,h,i,j,k,l,l2))else WF else WF else UV (.next (a,b,d,aa .i64 (e+1),(f,g,h,i,j,k,l,m)))else(iB (g,h,i,aa .i64 (a+1),l,f)).bind λa3=>(iB (g,h,i,aa .i64 (a+1),m,a3.2)).bind λa4=>UV (.done (.done a4.2))
def lT(s:akd):Option ake:=match s with |(a,b,d,e,f,g,h,i,j,k,l,m)=>bif aaQ (g<f)then(aF e g).bind λa0=>(df a0 (k,l,m) (i,j)).bind λa1=>bif a1.1 then UV (.next (a,b,d,e,f,aa .i64 (g+1),h,i,j,a0))else UV (.next (a,b,d,e,f,aa .i64 (g+1),(h,i,j,k,l,m)))else aq ji (d,a,EQ (PP a),0,mz h k b,i,j,k,l,m,[],[])
def qi(_:acZ->Option bT)(a:acZ):Option bT:=bif(EQ (PP a.1))==0 then UV a.2.2.2.2.2 else(aF a.1 0).bind λa0=>(jE a.1 1 (EQ (PP a.1))).bind λl1=>aq lT (a.1,a.2.2.2.1,a.2.2.2.2.1,l1,EQ (PP l1),0,a.2.2.2.2.2,a.2.1,a.2.2.1,a0)
def jQ:Nat->acZ->Option bT |0,_=>WF |n+1,a=>qi (jQ n) a
def sH(a:acZ):Option bT:=jQ 1000000 a
def agP:fB:=⟨[.l [.i .i64,.i .i64,.i .i64],.i,.i,.i,.i,.l [.i .i64,(.i .i64)]],[.sl [.i .i64,.i .i64,.i .i64] [],.agg [.int .i64 0,.int .i64 0],.int .i64 0,.int .i64 0,.mp 0],[.mI (.i .i64) []],[.l [.i .i64,(.i .i64)]],.cV [],[.mI (.i .i64) []],λa=>sH a⟩
theorem Ky: ∀n,jY mI 171 ⟨[.l [.i .i64,.i .i64,.i .i64],.i,.i,.i,.i,.l [.i .i64,(.i .i64)]],[.sl [.i .i64,.i .i64,.i .i64] [],.agg [.int .i64 0,.int .i64 0],.int .i64 0,.int .i64 0,.mp 0],[.mI (.i .i64) []],[.l [.i .i64,(.i .i64)]],.cV [],[.mI (.i .i64) []],λa=>jQ n a⟩
 |0=>jY.zero (λ_=>rfl)
 |n+1=>jY.of rfl (wd:=aai) (cx:=(yi mT [(118,Hg.c)] [(171,⟨[.l [.i .i64,.i .i64,.i .i64],.i,.i,.i,.i,.l [.i .i64,(.i .i64)]],[.sl [.i .i64,.i .i64,.i .i64] [],.agg [.int .i64 0,.int .i64 0],.int .i64 0,.int .i64 0,.mp 0],[.mI (.i .i64) []],[.l [.i .i64,(.i .i64)]],.cV [],[.mI (.i .i64) []],λa=>jQ n a⟩),(171,Z6)] [] [])) (ur.make ⟨Hg.ok,trivial⟩ ⟨(Ky n),M0,trivial⟩ trivial) (λa=>by kernel_rfl)
theorem WW:jY mI 171 agP:=Ky 1000000
def sI(s:aks):Option (Step aks ((List Int)×bT)):=bif aaQ (s.2.2.1<s.2.1)then(aF s.1 s.2.2.1).bind λa0=>(ba s.2.2.2.2.1 [j8 0 s.2.2.2.1 a0.1]).bind λl1=>bif aaQ (0<=(j8 0 s.2.2.2.1 a0.1))then(ba s.2.2.2.2.2 [(a0.1,j8 0 s.2.2.2.1 a0.1)]).bind λl2=>UV (.next (s.1,s.2.1,aa .i64 (s.2.2.1+1),s.2.2.2.1,l1,l2))else UV (.next (s.1,s.2.1,aa .i64 (s.2.2.1+1),s.2.2.2.1,l1,s.2.2.2.2.2))else UV (.done s.2.2.2.2)
def ry(p0:Field)(p1:Int×Int):Option ((List Int)×bT):=(sH (p0.am,p1.1,p1.2,-1,0,[])).bind λl0=>aq sI (p0.am,EQ (PP p0.am),0,l0,[],[])
def agQ:Ce:=Oe 105 rfl [] [⟨171,_,M0⟩,⟨171,_,WW⟩] [] (aG bB (gG (bU.row gy))) (Arg.cV (aL ki (gL gy))) .lK (u2 ry)
def gF(p0:aH)(p1:Field):Option (cC×Int):=(ry p1 p0.ci).bind λa0=>(gq p0 p1 a0.2).bind λa1=>bif a1.2 !=0 then UV (cC.mk eH [],a1.2)else UV (cC.mk a1.1 a0.1,0)
def c76:Ce:=Oc 76 rfl [agQ,Tv] (aG cR (gG bB)) (tG jM) .lK (u2 gF)
def sJ(p0:Field)(p1:Int×Int):Option (cC×Int):=(uu p0 p1).bind λa0=>bif a0.2 !=0 then UV (cC.mk eH [],a0.2)else(gF a0.1 p0).bind λa1=>UV a1
def c25:Ce:=Oc 25 rfl [c69,c76] (aG bB (gG (bU.row gy))) (tG jM) .lK (u2 sJ)
def mK(s:((List Int)×Int×Int×Int)):Option (Step ((List Int)×Int×Int×Int) Int):=bif aaQ (s.2.2.2<s.2.2.1)then(aF s.1 s.2.2.2).bind λn0=>bif s.2.1==n0 then UV (.done s.2.2.2)else UV (.next (s.1,s.2.1,s.2.2.1,aa .i64 (s.2.2.2+1)))else UV (.done (-1))
def dt(p0:List Int)(p1:Int):Option Int:=aq mK (p0,p1,EQ (PP p0),0)
def c56:Ce:=Oc 56 rfl [] (aL ki gI) (Arg.int .i64) .pure (u2 dt)
def mL(p0:List Int)(p1:Int):Option Bool:=(dt p0 p1).bind λn0=>UV (aaQ (0<=n0))
def arI:Ce:=Oc 113 rfl [c56] (aL ki gI) Arg.bool .pure (u2 mL)
def sK(s:ajU):Option (Step ajU ajX):=bif aaQ (s.2.2.2.1<s.2.2.1)then(aF s.2.1 s.2.2.2.1).bind λa0=>(dK s.1 a0.2).bind λb1=>bif !b1 then UV (.done (.done 8))else(vH (Field.mk s.2.2.2.2.2.2.1) (s.2.2.2.2.1,s.2.2.2.2.2.1) a0.2.2 a0.2.1).bind λb2=>bif !b2 then UV (.done (.done 8))else UV (.next (s.1,s.2.1,s.2.2.1,aa .i64 (s.2.2.2.1+1),s.2.2.2.2))else UV (.done (.done 0))
def sL(s:ajW):Option ajX:=bif aaQ (s.2.2.1<s.2.1)then(aF s.1 s.2.2.1).bind λa0=>(mL s.2.2.2.2.2.2.2.2.2.2.2.2.2.2 a0.1).bind λb1=>bif !b1 then UV (.done 8)else UV (.next (s.1,s.2.1,aa .i64 (s.2.2.1+1),s.2.2.2))else(oU s.2.2.2.2.2.2.2.2.2.2.2.2.2.2).bind λl2=>bif(EQ (PP l2)) !=(EQ (PP s.2.2.2.2.2.2.2.1))then UV (.done 8)else aq sK (l2,s.2.2.2.2.2.2.2.1,EQ (PP s.2.2.2.2.2.2.2.1),0,s.2.2.2)
def nH(p0:bX):Option Int:=(fG p0.jp).bind λn0=>bif n0 !=0 then UV 8 else bif(EQ (PP p0.bv)) !=(EQ (PP p0.jp.ii.am))then UV 8 else aq sL (p0.jp.ii.am,EQ (PP p0.jp.ii.am),0,p0.jp.ci.1,p0.jp.ci.2,p0.jp.ii.am,p0.jp.af.aW,p0.jp.af.ce,p0.jp.ae.ai.ay,p0.jp.ae.ai.be,p0.jp.ae.ai.bi,p0.jp.ae.bv,p0.jp.ae.aC,p0.jp.io,p0.bv)
def c51:Ce:=Oc 51 rfl [OE,arI,c72,QN,agK] (gG oG) (Arg.int .i64) .pure nH
def pU(p0:bX):Option (Int×Int):=(nH p0).bind λn0=>bif n0 !=0 then UV (0,n0)else bif(EQ (PP p0.bv))==0 then UV (0,42)else(aF p0.bv 0).bind λn1=>UV (n1,0)
def c26:Ce:=Oc 26 rfl [c51] (gG oG) (Arg.cV (aI gI)) .pure pU
def wc(p0:Int):Option Bool:=bif aaQ ((-1)<=p0)then UV (aaQ (p0<=65535))else UV aaP
def arJ:Ce:=Oc 183 rfl [] gI Arg.bool .pure wc
def kf(s:((List Int)×Int×Int×(List Int)×(List Int))):Option (Step ((List Int)×Int×Int×(List Int)×(List Int)) aj'):=bif aaQ (s.2.2.1<s.2.1)then(aF s.1 s.2.2.1).bind λn0=>(iz (cd.mk s.2.2.2.1 s.2.2.2.2) (aa .i64 ((aa .i64 (2*s.2.2.1))+1))).bind λn1=>(iz (cd.mk s.2.2.2.1 s.2.2.2.2) (aa .i64 ((aa .i64 (2*s.2.2.1))+2))).bind λn2=>bif n0 !=n1 then bif n0 !=n2 then UV (.done (.done (.done 8)))else bif aaQ (n0<0)then bif aaQ (0<=(if n2>n1 then n2 else n1))then UV (.done (.done (.done 8)))else UV (.next (s.1,s.2.1,aa .i64 (s.2.2.1+1),s.2.2.2))else UV (.next (s.1,s.2.1,aa .i64 (s.2.2.1+1),s.2.2.2))else bif aaQ (n0<0)then bif aaQ (0<=(if n2>n1 then n2 else n1))then UV (.done (.done (.done 8)))else UV (.next (s.1,s.2.1,aa .i64 (s.2.2.1+1),s.2.2.2))else UV (.next (s.1,s.2.1,aa .i64 (s.2.2.1+1),s.2.2.2))else UV (.done (.done (.done 0)))
def kg(s:Ve):Option aj':=bif aaQ (s.2.2.1<s.2.1)then(aF s.1 s.2.2.1).bind λn0=>(wc n0).bind λb1=>bif !b1 then bif !(!(aaQ (0<=s.2.2.1)))then UV (.done (.done 8))else aq kf (s.2.2.2.2.1,EQ (PP s.2.2.2.2.1),0,s.2.2.2.1,s.2.2.2.2.1)else UV (.next (s.1,s.2.1,aa .i64 (s.2.2.1+1),s.2.2.2))else aq kf (s.2.2.2.2.1,EQ (PP s.2.2.2.2.1),0,s.2.2.2.1,s.2.2.2.2.1)
def pV(s:Ve):Option aj9:=bif aaQ (s.2.2.1<s.2.1)then(aF s.1 s.2.2.1).bind λn0=>bif !(!(j8 aaP s.2.2.2.2.2 n0))then bif !(!(aaQ (0<=s.2.2.1)))then UV (.done 8)else aq kg (s.2.2.2.1,EQ (PP s.2.2.2.1),0,s.2.2.2.1,s.2.2.2.2.1,mz s.2.2.2.2.2 n0 (aaQ (0<=n0)))else UV (.next (s.1,s.2.1,aa .i64 (s.2.2.1+1),s.2.2.2.1,s.2.2.2.2.1,mz s.2.2.2.2.2 n0 (aaQ (0<=n0))))else aq kg (s.2.2.2.1,EQ (PP s.2.2.2.1),0,s.2.2.2)
def oo(p0:cd):Option Int:=bif aaQ ((EQ (PP p0.aX))<1)then UV 8 else bif aaQ (64<(EQ (PP p0.aX)))then UV 8 else bif(EQ (PP p0.kG)) !=(aa .i64 ((EQ (PP p0.aX))-1))then UV 8 else aq pV (p0.aX,EQ (PP p0.aX),0,p0.aX,p0.kG,mz [] (-1) aaP)
def akN:Ce:=Oe 123 rfl [arJ,agL] [] [⟨181,agi,rfl⟩,⟨182,acK,rfl⟩,⟨231,ZE,rfl⟩,⟨135,Tn,rfl⟩,⟨232,acL,rfl⟩,⟨230,agj,rfl⟩] (gG lr) (Arg.int .i64) .pure oo
def xR(p0:Int)(p1:Int×Int×Int):Option Bool:=UV (p0==p1.1)
def arK:Ce:=Oc 127 rfl [] (aI (gG (bU.row fw))) Arg.bool .pure (u2 xR)
def cP(s:(aJ×(List Int)×Int×Int)):Option (Step (aJ×(List Int)×Int×Int) Bool):=bif aaQ (s.2.2.2<s.2.2.1)then(aF s.2.1 s.2.2.2).bind λn0=>(aF s.1 s.2.2.2).bind λa1=>(xR n0 a1).bind λb2=>bif !b2 then UV (.done aaP)else UV (.next (s.1,s.2.1,s.2.2.1,aa .i64 (s.2.2.2+1)))else UV (.done aai)
def dh(p0:List Int)(p1:List (Int×Int×Int))(_:Unit):Option Bool:=bif(EQ (PP p0)) !=(EQ (PP p1))then UV aaP else aq cP (p1,p0,EQ (PP p0),0)
def Z7:Ce:=Oc 126 rfl [arK] (aL ki (aL fw (bR.one (Arg.fE 127 bR.nil)))) Arg.bool .pure (u3 dh)
def fY(s:((List Int)×(List Int)×Int×Int)):Option (Step ((List Int)×(List Int)×Int×Int) Bool):=bif aaQ (s.2.2.2<s.2.2.1)then(aF s.1 s.2.2.2).bind λn0=>(aF s.2.1 s.2.2.2).bind λn1=>bif n0 !=n1 then UV (.done aaP)else UV (.next (s.1,s.2.1,s.2.2.1,aa .i64 (s.2.2.2+1)))else UV (.done aai)
def iS(p0:List Int)(p1:List Int):Option Bool:=bif(EQ (PP p0)) !=(EQ (PP p1))then UV aaP else aq fY (p0,p1,EQ (PP p0),0)
def akO:Ce:=Oc 128 rfl [] (aL ki (gL ki)) Arg.bool .pure (u2 iS)
def Ee(p0:Int×Int×Int)(p1:List (Int×Int)):Option Bool:=(dK p1 p0.2).bind λb0=>UV (!b0)
def arL:Ce:=Oc 186 rfl [QN] (aG (bU.row fw) (bR.one (Arg.ref (bU.sl gy)))) Arg.bool .pure (u2 Ee)
def oJ(s:ac1):Option (Step ac1 Int):=bif aaQ (s.2.2.2<s.2.2.1)then(aF s.1 s.2.2.2).bind λa0=>(Ee a0 s.2.1).bind λb1=>bif b1 then UV (.done s.2.2.2)else UV (.next (s.1,s.2.1,s.2.2.1,aa .i64 (s.2.2.2+1)))else UV (.done (-1))
def jR(p0:List (Int×Int×Int))(p1:bT):Option Int:=aq oJ (p0,p1,EQ (PP p0),0)
def Z8:Ce:=Oe 200 rfl [arL,QN] [] [⟨186,ajy,rfl⟩] (aL fw (bR.one (Arg.fE 186 (bR.one (Arg.ref (bU.sl gy)))))) (Arg.int .i64) .pure (u2 jR)
def iY(p0:List (Int×Int×Int))(p1:bT):Option Bool:=(jR p0 p1).bind λn0=>UV (aaQ (0<=n0))
def Z9:Ce:=Oc 140 rfl [Z8] (aL fw (bR.one (Arg.fE 186 (bR.one (Arg.ref (bU.sl gy)))))) Arg.bool .pure (u2 iY)
def CO(p0:aH)(p1:List (Int×Int)):Option Bool:=bif(EQ (PP p1))==(EQ (PP p0.af.ce))then(iY p0.af.ce p1).bind λb0=>UV (!b0)else UV aaP
def arM:Ce:=Oc 129 rfl [Z9] (aG cR (gL gy)) Arg.bool .pure (u2 CO)
def jj(p0:Int):Option Bool:=UV (aaQ (p0<0))
def akP:Ce:=Oc 124 rfl [] gI Arg.bool .pure jj
def mE(c0:(List Int))(s:MW):Option akt:=bif aaQ (s.2.1<(EQ (PP s.2.2)))then(aF s.2.2 s.2.1).bind λn0=>(jj n0).bind λb1=>bif !b1 then(aF s.2.2 s.1).bind λ_=>UV (.next (aa .i64 (s.1+1),aa .i64 (s.2.1+1),cQ s.2.2 s.1 n0))else UV (.next (s.1,aa .i64 (s.2.1+1),s.2.2))else bif((aaQ (0<=s.1))&&(aaQ (s.1<=(EQ (PP s.2.2)))))&&(aaQ ((EQ (PP s.2.2))<=(EQ (PP s.2.2))))then bif Nat.beq (((EQ (PP s.2.2)).toNat)-s.1.toNat) 0 then(jE s.2.2 0 s.1).bind λ_=>bif(PP s.2.2)==(PP c0)then UV (.done (.done (s.1.toNat,PP s.2.2,s.2.2)))else WF else bif(IR ((0+s.1.toNat)+(((EQ (PP s.2.2)).toNat)-s.1.toNat)) (PP s.2.2))&&(!aaP)then(jE (gQ s.2.2 (0+s.1.toNat) (If (((EQ (PP s.2.2)).toNat)-s.1.toNat) 0)) 0 s.1).bind λ_=>bif((gQ s.2.2 (0+s.1.toNat) (If (((EQ (PP s.2.2)).toNat)-s.1.toNat) 0)).length)==(PP c0)then UV (.done (.done (s.1.toNat,(gQ s.2.2 (0+s.1.toNat) (If (((EQ (PP s.2.2)).toNat)-s.1.toNat) 0)).length,gQ s.2.2 (0+s.1.toNat) (If (((EQ (PP s.2.2)).toNat)-s.1.toNat) 0))))else WF else WF else WF
def mF(c0:(List Int))(s:MW):Option agx:=bif aaQ (s.2.1<s.1)then(aF s.2.2 s.2.1).bind λn0=>(jj n0).bind λb1=>bif b1 then bif(PP s.2.2)==(PP c0)then bif s.2.1==(-1)then bif(PP s.2.2)==(PP c0)then UV (.done (PP s.2.2,PP s.2.2,s.2.2))else WF else aq (mE c0) (s.2.1,aa .i64 (s.2.1+1),s.2.2)else WF else UV (.next (s.1,aa .i64 (s.2.1+1),s.2.2))else bif(PP s.2.2)==(PP c0)then bif(PP s.2.2)==(PP c0)then UV (.done (PP s.2.2,PP s.2.2,s.2.2))else WF else WF
def cW(a:(List Int)):Option (Nat×Nat×(List Int)):=aq (mF a) (EQ (PP a),0,a)
def akQ:fB:=⟨[.l [.i .i64]],[.own 0 aaP,.fE 124 [] []],[.arr [.i .i64] []],[.n,.n,.l [.i .i64]],.pre 0 0 0 aaP,[.arr [.i .i64] []],λa=>cW a⟩
theorem QO:jY mI 65 akQ:=jY.of rfl (wd:=aai) (cx:=(yi mT [(124,akP.c)] [] [(135,Tn)] [])) (ur.make ⟨akP.ok,trivial⟩ trivial ⟨rfl,trivial⟩) (λa=>by kernel_rfl)
def gJ(p0:bQ):Option Int:=(fG p0.jp).bind λn0=>bif n0 !=0 then UV 8 else(oo p0.kw).bind λn1=>bif n1 !=0 then UV 8 else bif(rJ .i64 (EQ (PP p0.kw.aX)) (aa .i64 ((EQ (PP p0.kw.aX))-1))) !=0 then UV 8 else(cN p0.kw.aX).bind λl2=>(cW l2).bind λa3=>(Ds Of a3.1 a3.2.2).bind λl4=>bif(PP l4)==(PP a3.2.2)then(dh (l4.take a3.1) p0.jp.ii.am ()).bind λb5=>bif !b5 then UV 8 else(oX p0.jp.ii p0.jp.ci p0.kw.aX).bind λa6=>(iS a6.1.kG p0.kw.kG).bind λb7=>bif !b7 then UV 8 else(CO p0.jp a6.2).bind λb8=>bif !b8 then UV 8 else UV 0 else WF
def c55:Ce:=Oe 55 rfl [OE,akN,lL,Z7,agM,akO,arM] [⟨65,_,QO⟩] [⟨125,.srt SN,rfl⟩] (gG mV) (Arg.int .i64) .pure gJ
def xS(p0:cd):Option (Int×Int):=(oo p0).bind λn0=>bif n0 !=0 then UV (0,n0)else(iz p0 0).bind λn1=>bif aaQ (0<=n1)then UV (n1,0)else UV (0,42)
def c77:Ce:=Oc 77 rfl [akN,agL] (gG lr) (Arg.cV (aI gI)) .pure xS
def oq(p0:bQ):Option (Int×Int):=(gJ p0).bind λn0=>bif n0 !=0 then UV (0,n0)else(xS p0.kw).bind λa1=>UV a1
def c27:Ce:=Oc 27 rfl [c55,c77] (gG mV) (Arg.cV (aI gI)) .pure oq
def CP(s:agy):Option aku:=bif aaQ (s.2.2.2<s.2.2.1)then(aF s.1 s.2.2.2).bind λa0=>(aF s.2.1 s.2.2.2).bind λa1=>bif !((a0.1==a1.1)&&((a0.2.1==a1.2.1)&&(a0.2.2==a1.2.2)))then UV (.done aaP)else UV (.next (s.1,s.2.1,s.2.2.1,aa .i64 (s.2.2.2+1)))else UV (.done aai)
def sM(p0:List (Int×Int×Int))(p1:List (Int×Int×Int)):Option Bool:=bif(EQ (PP p0)) !=(EQ (PP p1))then UV aaP else aq CP (p0,p1,EQ (PP p0),0)
def arN:Ce:=Oc 144 rfl [] (aL fw (gL fw)) Arg.bool .pure (u2 sM)
def zt(p0:Int×Int×Int)(p1:List (Int×Int)):Option Bool:=(dK p1 p0.2).bind λb0=>UV (!b0)
def arO:Ce:=Oc 203 rfl [QN] (aG (bU.row fw) (bR.one (Arg.ref (bU.sl gy)))) Arg.bool .pure (u2 zt)
def cj(s:ac1):Option (Step ac1 Int):=bif aaQ (s.2.2.2<s.2.2.1)then(aF s.1 s.2.2.2).bind λa0=>(zt a0 s.2.1).bind λb1=>bif b1 then UV (.done s.2.2.2)else UV (.next (s.1,s.2.1,s.2.2.1,aa .i64 (s.2.2.2+1)))else UV (.done (-1))
def fZ(p0:List (Int×Int×Int))(p1:bT):Option Int:=aq cj (p0,p1,EQ (PP p0),0)
def Z':Ce:=Oe 200 rfl [arO,QN] [] [⟨203,ajz,rfl⟩] (aL fw (bR.one (Arg.fE 203 (bR.one (Arg.ref (bU.sl gy)))))) (Arg.int .i64) .pure (u2 fZ)
def fy(p0:List (Int×Int×Int))(p1:bT):Option Bool:=(fZ p0 p1).bind λn0=>UV (aaQ (0<=n0))
def aaa:Ce:=Oc 140 rfl [Z'] (aL fw (bR.one (Arg.fE 203 (bR.one (Arg.ref (bU.sl gy)))))) Arg.bool .pure (u2 fy)
def rz(p0:aH)(p1:List (Int×Int)):Option Bool:=bif(EQ (PP p1))==(EQ (PP p0.af.ce))then(fy p0.af.ce p1).bind λb0=>UV (!b0)else UV aaP
def arP:Ce:=Oc 145 rfl [aaa] (aG cR (gL gy)) Arg.bool .pure (u2 rz)
def lV(p0:cf):Option Int:=(fG p0.jp).bind λn0=>bif n0 !=0 then UV 8 else(rq p0.jp.ii p0.jp.ci).bind λa1=>bif a1.1.lc !=p0.lw.lc then UV 8 else(sM a1.1.ls p0.lw.ls).bind λb2=>bif !b2 then UV 8 else(rz p0.jp a1.2).bind λb3=>bif !b3 then UV 8 else UV 0
def c78:Ce:=Oc 78 rfl [OE,agO,arN,arP] (gG jL) (Arg.int .i64) .pure lV
def mg(p0:cf):Option (Int×Int):=(lV p0).bind λn0=>bif n0 !=0 then UV (0,n0)else bif aaQ (p0.lw.lc<0)then UV (0,42)else(aF p0.lw.ls p0.lw.lc).bind λa1=>UV (a1.1,0)
def c28:Ce:=Oc 28 rfl [c78] (gG jL) (Arg.cV (aI gI)) .pure mg
def oa(s:(bT×aJ×Int×Int)):Option (Step (bT×aJ×Int×Int) Int):=bif aaQ (s.2.2.2<s.2.2.1)then(aF s.2.1 s.2.2.2).bind λa0=>(dK s.1 a0.2).bind λb1=>bif !b1 then UV (.done 8)else UV (.next (s.1,s.2.1,s.2.2.1,aa .i64 (s.2.2.2+1)))else UV (.done 0)
def lW(p0:cC):Option Int:=(fG p0.jp).bind λn0=>bif n0 !=0 then UV 8 else(ry p0.jp.ii p0.jp.ci).bind λa1=>(iS a1.1 p0.up).bind λb2=>bif !b2 then UV 8 else bif(EQ (PP a1.2)) !=(EQ (PP p0.jp.af.ce))then UV 8 else aq oa (a1.2,p0.jp.af.ce,EQ (PP p0.jp.af.ce),0)
def c79:Ce:=Oc 79 rfl [OE,agQ,akO,QN] (gG jM) (Arg.int .i64) .pure lW
def qt(p0:cC):Option (Int×Int):=(lW p0).bind λn0=>bif n0 !=0 then UV (0,n0)else(dt p0.up (-1)).bind λn1=>bif aaQ (n1<0)then UV (0,42)else(aF p0.jp.ii.am n1).bind λa2=>UV (a2.1,0)
def c29:Ce:=Oc 29 rfl [c79,c56] (gG jM) (Arg.cV (aI gI)) .pure qt
def QP:Option Bool:=(vI (Field.mk [(4,2,0)]) (1,3)).bind λa0=>(sE (Field.mk [(4,2,0)]) (1,3)).bind λa1=>(sG (Field.mk [(4,2,0)]) (1,3)).bind λa2=>(sJ (Field.mk [(4,2,0)]) (1,3)).bind λa3=>(pU a0.1).bind λa4=>(oq a1.1).bind λa5=>(mg a2.1).bind λa6=>(qt a3.1).bind λa7=>bif a0.2==0 then bif a1.2==0 then bif a2.2==0 then bif a3.2==0 then bif a4.2==0 then bif a5.2==0 then bif a6.2==0 then bif a7.2==0 then bif a4.1==4 then bif a5.1==4 then bif a6.1==4 then UV (a7.1==4)else UV aaP else UV aaP else UV aaP else UV aaP else UV aaP else UV aaP else UV aaP else UV aaP else UV aaP else UV aaP else UV aaP
def c4v:Ce:=Oc 4 rfl [c22,c23,c24,c25,c26,c27,c28,c29] bR.nil Arg.bool .pure (λ_=>QP)
end
def c4:Ce:=⟨4,⟨bR.nil,Arg.bool,λ_=>UV aai,.pure,aaP⟩,jJ.at0 ((@c4v (LP.of 1000000)).ok) (by kernel_rfl)⟩
section
variable [LP]
def yF(p0:Int×Int×Int):Option Int:=bif aaQ (p0.1<0)then UV 8 else bif aaQ (65535<p0.1)then UV 8 else bif aaQ (p0.2.1<(-1048576))then UV 8 else bif aaQ (1048576<p0.2.1)then UV 8 else bif aaQ (p0.2.2<(-1048576))then UV 8 else bif aaQ (1048576<p0.2.2)then UV 8 else UV 0
def c30:Ce:=Oc 30 rfl [] (gG (bU.row fw)) (Arg.int .i64) .pure yF
def kN(s:II):Option (Step II (Step II Int)):=bif aaQ (s.1<(EQ (PP s.2)))then(aF s.2 (aa .i64 (s.1-1))).bind λa0=>(aF s.2 s.1).bind λa1=>bif aaQ (a1.1<=a0.1)then UV (.done (.done 32))else UV (.next (aa .i64 (s.1+1),s.2))else UV (.done (.done 0))
def oY(s:II):Option (Step II Int):=bif aaQ (s.1<(EQ (PP s.2)))then(aF s.2 s.1).bind λa0=>(yF a0).bind λn1=>bif n1 !=0 then UV (.done 8)else UV (.next (aa .i64 (s.1+1),s.2))else aq kN (1,s.2)
def vK(p0:Field):Option Int:=bif aaQ (64<(EQ (PP p0.am)))then UV 4 else aq oY (0,p0.am)
def c5:Ce:=Oc 5 rfl [c30] (gG bB) (Arg.int .i64) .pure vK
def jG(p0:Int):Option Int:=bif aaQ (p0<0)then UV (aa .u64 ((aa .u64 (aa .i64 (0- (aa .i64 (p0+1)))))+1))else UV (aa .u64 p0)
end
end
end Go.Proofs.YtkdikjnhkfffjaaGreat
