/- Plain laws (3). -/
import Derived.Test.YtmndepnolpbnpaaGreatSQM2
import Derived.Test.YtmndepnolpbnpaaGreatSQS1
open Classical renaming byContradiction->pm,not_not->pp
open List renaming length_append->rc,mem_cons_of_mem->ut,length_singleton->v4,nodup_cons->wn,mem_cons_self->ww,length_set->AC,mem_map->If,length->IR
open Bool renaming not_true->v6,not_false->Do,true->NE,false->PP
open Prod renaming ext->EQ
open Option renaming some->M2
open Decidable renaming decide->UV
namespace Go.Proofs.YtmndepnolpbnpaaGreat
open Go.Vm Classical
theorem cy.bd {c:aK} (ok:cy c):(IR c.ii)<=200/\IR c.dl.am<=64/\IR c.ai.ce<=200:=by have:=ok.hd;have:=ok.sG.bd;have:=ok.qL.1;have:=ok.DD.len;omega
theorem mD {c:aK} (ok:cy c):lW c=M2 c:=by have bd:=ok.bd;unfold lW wE rR;simp only [bg (show (IR c.dl.am)<=1048576 by omega),bg (show (IR c.ai.ce)<=1048576 by omega),bg (show (IR c.ii)<=1048576 by omega),au,vF ok.sG]
theorem p7 {c:aK} (ok:cy c):hM c=M2 c:=by
 have bd:=ok.bd;have ab:=ok.sG.bd;have hl:=ok.sG.so.fl;have hn:=ok.sG.so.n2;have hu:=ok.sG.so.ul;unfold hM;simp only [bg (show (IR c.dl.am)<=1048576 by omega),bg (show (IR c.ai.ce)<=1048576 by omega),bg (show (IR c.ii)<=1048576 by omega),bg (show (IR c.ae.bv)<=1048576 by omega),bg (show (IR c.ae.ay)<=1048576 by omega),
  bg (show (IR c.ae.af.aC)<=1048576 by omega),bg (show (IR c.ae.af.be)<=1048576 by omega),bg (show (IR c.ae.af.bi)<=1048576 by omega),au]
abbrev fK:aK:=⟨(0,0),⟨[]⟩,⟨0,[]⟩,⟨⟨[],[],[]⟩,[],[]⟩,[]⟩
theorem NU {l:List Pt} (ok:cj l) {id:Int} (h:qG l id): ¬(pN l id).1<0:=by obtain ⟨h1,_⟩:=je ok h;have:=h1.1;omega
theorem RO {c:aK} (ok:cy c) {x:Int×Int} (hx:cZ x) (hb:gZ c.dl.am x) (hn: ¬tY c.ai.ce x):
 (fq c x=M2 (fK,0,18)/\iW c x=M2 (fK,0,18)/\(xV c.ai\/ ¬tU c.ae.af))\/
 ∃c':aK,fq c x=M2 (c',c.ai.aL,0)/\iW c x=M2 (c',c.ai.aL,0)/\cy c'/\c'.dl=c.dl/\c'.ci=c.ci/\c'.ai=la c.ai x/\(c'.ae.af=c.ae.af\/c'.ae.af=eM c.ae.af):=by
 have bd:=ok.bd;have n0:=ok.DD.n0;have n1:=ok.DD.n1;have fit:=ok.fit;have ad:=GD ok.DD hx;have rd:=EI ok.DD hx;rw [pi hn] at ad rd;have hc:eJ c=M2 0:=by rw [oO fit,ol ok]
 have p1:=lb ok.qL x.1;have p2:=lb ok.qL x.2;have q1:=NU ok.qL hb.1;have q2:=NU ok.qL hb.2;have wh:=vI ok.qL hx ok.wI ok.oN;rw [ol hb] at wh;have rw':=CL ok.qL ok.oN hb
 by_cases hf:xV c.ai
 · rw [ol hf] at ad rd
   left;refine ⟨?_,?_,.inl hf⟩
   · unfold fq cz
     simp only [hc,au,show ((0:Int) !=0)=PP from rfl,lw,ad,show ((18:Int)==8)=PP from rfl,p1,p2,aD q1,aD q2,show ((18:Int) !=0)=NE from rfl,ls]
   unfold iW
   simp only [rd,au,show ((18:Int) !=0)=NE from rfl,ls]
 rw [pi hf] at ad rd;have cok:=Iu ok.DD hx hn hf;have NV: ∀j,j<(la c.ai x).ce.length->gZ c.dl.am ((la c.ai x).ce[j]!).2:=by
  intro j hj;rw [uT] at hj;rw [oM]
  by_cases h:j<IR c.ai.ce
  · rw [ol h];exact ok.known j h
  rw [pi h,ol (by omega)];exact hb
 have fresh: ∀e∈c.ae.bv,Ev.num e≠c.ai.aL:=by intro e he dK;obtain ⟨d,hd,h1⟩:=ok.Is e he;obtain ⟨y,hy,h2,_⟩:=ok.JE.ii d hd;obtain ⟨j,hj,rfl⟩:=bQ.1 hy;have:=(ok.DD.nr j hj).2;omega
 have sn:=ok.JE.snoc (x:=(c.ai.aL,x));cases hw:(dw c.dl.am x c.ci).2 with
 |false=>
  right;refine ⟨⟨c.ci,c.dl,la c.ai x,c.ae,c.ii⟩,?_,?_,⟨ok.wI,ok.oN,ok.qL,cok,ok.sG,ok.K1,ok.hd,NV,sn.1 hw⟩,rfl,rfl,rfl,.inl rfl⟩
  · unfold fq cz
    simp only [hc,au,show ((0:Int) !=0)=PP from rfl,lw,ad,show ((0:Int)==8)=PP from rfl,p1,p2,aD q1,aD q2,p7 ok,wh,hw]
  unfold iW
  simp only [rd,au,show ((0:Int) !=0)=PP from rfl,lw,mD ok,rw',hw,Do,ls]
 |true=>
  obtain ⟨t1,t2⟩:=NK (je ok.qL hb.2).1 (je ok.qL hb.1).1 ok.oN ok.wI hw
  by_cases op:tU c.ae.af
  · right
    have pu:=zc ok.sG op ok.sG.fit (t:=(dw c.dl.am x c.ci).1) (n:=c.ai.aL) t1 t2 n0 n1 fresh;have rp:=z5 ok.sG op (t:=(dw c.dl.am x c.ci).1) (n:=c.ai.aL) t1 t2 n0 n1;have pok:=RM ok.sG op (t:=(dw c.dl.am x c.ci).1) (n:=c.ai.aL) t1 t2 n0 n1 fresh;have abt:=NP ok.sG op (t:=(dw c.dl.am x c.ci).1) (n:=c.ai.aL) t1;have afV:=Cc ok.sG op (t:=(dw c.dl.am x c.ci).1) (n:=c.ai.aL) t1;have ap: ∀h:Int×Int,aX c.ii [(c.ai.aL,h)]=M2 (c.ii++[(c.ai.aL,h)]):=fun h=>fa (by simp;omega)
    have afW:(ju c.ae (dw c.dl.am x c.ci).1 c.ai.aL).ay.length=200:=by have:=pok.wl;change _=(c.ae.af.aC.set _ _).length at this;rw [AC] at this;rw [this,<- ok.sG.wl,ok.K1]
    refine ⟨⟨c.ci,c.dl,la c.ai x,ju c.ae (dw c.dl.am x c.ci).1 c.ai.aL,c.ii++[(c.ai.aL,iH c.ae.af)]⟩,?_,?_,⟨ok.wI,ok.oN,ok.qL,cok,pok,afW,?_,NV,?_⟩,rfl,rfl,rfl,.inr rfl⟩
    · unfold fq cz
      simp only [hc,au,show ((0:Int) !=0)=PP from rfl,lw,ad,show ((0:Int)==8)=PP from rfl,p1,p2,aD q1,aD q2,p7 ok,wh,hw,ls,pu,ap]
    · unfold iW
      simp only [rd,au,show ((0:Int) !=0)=PP from rfl,lw,mD ok,rw',hw,v6,vD ok.sG.so,aH op,rp,ap]
    · show (ju c.ae (dw c.dl.am x c.ci).1 c.ai.aL).bv.length=(c.ii++[_]).length
      rw [afV,rc,ok.hd];rfl
    have fm:bj c.dl.am c.ci (ju c.ae (dw c.dl.am x c.ci).1 c.ai.aL).bv c.ai.ce c.ii:=ok.JE.mono fun y hy e he hm=>(abt e).2 (.inr hm)
    exact (fm.snoc (x:=(c.ai.aL,x))).2 _ hw rfl ((abt _).2 (.inl rfl))
  left
  have pu:=zd ok.sG op ok.sG.fit (t:=(dw c.dl.am x c.ci).1) (n:=c.ai.aL) t1 t2 n0 n1 fresh;refine ⟨?_,?_,.inr op⟩
  · unfold fq cz
    simp only [hc,au,show ((0:Int) !=0)=PP from rfl,lw,ad,show ((0:Int)==8)=PP from rfl,p1,p2,aD q1,aD q2,p7 ok,wh,hw,ls,pu,show ((18:Int) !=0)=NE from rfl]
  unfold iW
  simp only [rd,au,show ((0:Int) !=0)=PP from rfl,lw,mD ok,rw',hw,v6,vD ok.sG.so,aD op,Do,ls]
section
variable {c : aK} (ok : cy c) {f : List Pt} (fv : cj f) (kn : ∀ i, i < (IR c.ai.ce) -> gZ f (c.ai.ce[i]!).2)
include ok
include fv kn
end
theorem p8 (l:List (Int×Int)) (x:Int×Int) (hl:(IR l)<=1000000):dC l x=M2 (UV (x∈l)):=by
 unfold dC kL;have key:=ke (body:=gb) (fun i=>(l,((IR l):Int),(i:Int),x)) (IR l) (fun i=>l[i]! =x) (fun i=>(i:Int)) (e:= -1) (fun i hi=>by
  have e1:UV ((i:Int)<((IR l):Int))=NE:=aH (by omega);unfold gb;simp only [e1,ls,ar l i hi,au,aV (show i<1000000000 by omega)];generalize l[i]! =y;constructor
  · intro h;rw [fe (congrArg Prod.fst h.symm),fe (congrArg Prod.snd h.symm)];rfl
  · intro h
    by_cases h1:x.1=y.1
    · rw [fe h1,ef (fun h2=>h (EQ h1.symm h2.symm))];rfl
    rw [ef h1];rfl) (by
  unfold gb;have:UV (((IR l):Int)<((IR l):Int))=PP:=aD (by omega);simp only [this,lw])
 rw [aB]
 by_cases hx:x∈l
 · obtain ⟨i,hi,he⟩:=bQ.1 hx
   obtain ⟨k,h1,h2,h3⟩:=least (c:=fun i=>l[i]! =x) ⟨i,hi,he⟩;have:=key.1 k h1 h2 h3;rw [show ((0:Nat):Int)=0 from rfl] at this;rw [this,aH hx];simp only [au,aH (show (0:Int)<=(k:Int) by omega)]
 have:=key.2 fun i hi he=>hx (bQ.2 ⟨i,hi,he⟩)
 rw [show ((0:Nat):Int)=0 from rfl] at this;rw [this,aD hx];rfl
theorem GI (l:List (Int×Int)) (x:Int×Int) (hl:(IR l)<=1000000):tP l x=M2 (UV (x∈l)):=by
 unfold tP;have key:=dD (body:=pA) (fun i=>(l,(i:Int),x)) (IR l) (fun i=>l[i]! =x) (r:=NE) (e:=PP) (fun i hi=>by
  have e1:UV ((i:Int)<((IR l):Int))=NE:=aH (by omega);unfold pA;simp only [aB,e1,ls,ar l i hi,au,aV (show i<1000000000 by omega)];generalize l[i]! =y;constructor
  · intro h;rw [fe (congrArg Prod.fst h),fe (congrArg Prod.snd h)];rfl
  · intro h
    by_cases h1:y.1=x.1
    · rw [fe h1,ef (fun h2=>h (EQ h1 h2))];rfl
    rw [ef h1];rfl) (by
  unfold pA;have:UV (((IR l):Int)<((IR l):Int))=PP:=aD (by omega);simp only [aB,this,lw])
 by_cases hx:x∈l
 · rw [aH hx];exact key.1 (bQ.1 hx)
 rw [aD hx];exact key.2 fun i hi he=>hx (bQ.2 ⟨i,hi,he⟩)
theorem NW (x y:yg):((x.1==y.1)&&((x.2.1==y.2.1)&&(x.2.2==y.2.2)))=UV (x=y):=by
 rw [Bool.eq_iff_iff,decide_eq_true_iff];simp only [Bool.and_eq_true,beq_iff_eq];constructor
 · rintro ⟨h1,h2,h3⟩;exact EQ h1 (EQ h2 h3)
 rintro rfl;exact ⟨rfl,rfl,rfl⟩
theorem GJ (a b:List yg) (hl:(IR a)<=1000000):wF ⟨a⟩ ⟨b⟩=M2 (UV (a=b)):=by
 unfold wF;simp only [aB]
 by_cases h:(IR a)=IR b
 case neg=>rw [fH (by omega),aD (fun k=>h (by rw [k]))];rfl
 rw [dv (by omega)];simp only [lw];have key:=dD (body:=mC) (fun i=>((i:Int),a,b)) (IR a) (fun i=> ¬a[i]! =b[i]!) (r:=PP) (e:=NE) (fun i hi=>by
  have e1:UV ((i:Int)<((IR a):Int))=NE:=aH (by omega);unfold mC;simp only [aB,e1,ls,ar a i hi,ar b i (by omega),au,aV (show i<1000000000 by omega),NW];constructor
  · intro h;rw [aD h];rfl
  · intro h;rw [aH (pp.1 h)];rfl) (by
  unfold mC;have:UV (((IR a):Int)<((IR a):Int))=PP:=aD (by omega);simp only [aB,this,lw])
 by_cases he:a=b
 · rw [aH he]
   exact key.2 fun i hi=>pp.2 (by rw [he])
 rw [aD he]
 refine key.1 (pm fun hx=>he (m9 h fun i hi=>?_));exact pm fun hn=>hx ⟨i,hi,hn⟩
theorem xY (a b:List yg) (hl:(IR a)<=1000000):fF a b=M2 (UV (a=b)):=by
 unfold fF;simp only [aB]
 by_cases h:(IR a)=IR b
 case neg=>rw [fH (by omega),aD (fun k=>h (by rw [k]))];rfl
 rw [dv (by omega)];simp only [lw];have key:=dD (body:=fJ) (fun i=>(a,b,((IR a):Int),(i:Int))) (IR a) (fun i=> ¬a[i]! =b[i]!) (r:=PP) (e:=NE) (fun i hi=>by
  have e1:UV ((i:Int)<((IR a):Int))=NE:=aH (by omega);unfold fJ;simp only [e1,ls,ar a i hi,ar b i (by omega),au,aV (show i<1000000000 by omega),NW];constructor
  · intro h;rw [aD h];rfl
  · intro h;rw [aH (pp.1 h)];rfl) (by
  unfold fJ;have:UV (((IR a):Int)<((IR a):Int))=PP:=aD (by omega);simp only [this,lw])
 by_cases he:a=b
 · rw [aH he]
   exact key.2 fun i hi=>pp.2 (by rw [he])
 rw [aD he]
 refine key.1 (pm fun hx=>he (m9 h fun i hi=>?_));exact pm fun hn=>hx ⟨i,hi,hn⟩
def kP (c0:aK) (f:List Pt) (es:List (Int×Int)) (i:Nat) (c:aK):=
 (es,c0.ai.ce,((IR c0.ai.ce):Int),(i:Int),c.ci.1,c.ci.2,c.dl.am,c.ai.aL,c.ai.ce,c.ae.af.aC,c.ae.af.be,c.ae.af.bi,c.ae.bv,c.ae.ay,c.ii,f,(0:Int),(0:Int),(0:Int))
def kR (c0:aK) (f:List Pt) (es:List (Int×Int)) (i:Nat) (c:aK):=
 (es,(i:Int),c0.ci.1,c0.ci.2,c0.dl.am,c0.ai.aL,c0.ai.ce,c0.ae.af.aC,c0.ae.af.be,c0.ae.af.bi,c0.ae.bv,c0.ae.ay,c0.ii,f,(0:Int),(0:Int),(0:Int),c.ci.1,c.ci.2,c.dl.am,c.ai.aL,c.ai.ce,c.ae.af.aC,c.ae.af.be,c.ae.af.bi,c.ae.bv,c.ae.ay,c.ii)
def eP (es:List (Int×Int)) (i:Nat) (c:aK):=
 (es,((IR es):Int),(i:Int),c.ci.1,c.ci.2,c.dl.am,c.ai.aL,c.ai.ce,c.ae.af.aC,c.ae.af.be,c.ae.af.bi,c.ae.bv,c.ae.ay,c.ii,(0:Int),(0:Int),(0:Int))
def eR (es:List (Int×Int)) (i:Nat) (c:aK):=
 (es,(i:Int),(0:Int),(0:Int),(0:Int),c.ci.1,c.ci.2,c.dl.am,c.ai.aL,c.ai.ce,c.ae.af.aC,c.ae.af.be,c.ae.af.bi,c.ae.bv,c.ae.ay,c.ii)
def NX (c:aK):Int:=c.ai.aL- ((IR c.ai.ce):Int)
structure NY (c:aK) (f:List Pt) (es:List (Int×Int)) (r:aK):Prop where
 has: ∀e∈es,tY r.ai.ce e
 sub: ∀x∈r.ai.ce,x.2∈es
 ok:cy r
 qL:r.dl.am=f
 ci:r.ci=c.ci
 room:NX c<=NX r
def Roomy (c:aK) (k:Nat):Prop:=IR c.ai.ce<=k/\c.ai.aL<=k/\ ∀j,j<IR c.ae.af.aC->c.ae.af.aC[j]!<=k
theorem bj.len {l:List Pt} {t:Int×Int} {H:List Ev}: ∀{cs ds:List yg},bj l t H cs ds->IR ds<=IR cs
 | [],ds,h=>by rw [show ds=[] from h];exact Nat.le_refl _
 |x::cs,ds,h=>by
  cases hy:(dw l x.2 t).2 with
  |true=>obtain ⟨d,FQ,rfl,_,_,h4⟩:=h.1 hy;exact Nat.succ_le_succ h4.len
  |false=>exact Nat.le_succ_of_le (h.2 hy).len
theorem Roomy.NZ {c:aK} (ok:cy c) {k:Nat} (h:Roomy c k) (hk:k<=199): ¬(xV c.ai\/ ¬tU c.ae.af):=by
 obtain ⟨h1,h2,h3⟩:=h;have fl:=ok.JE.len;have hd:=ok.hd;have hl:=ok.sG.hl;have wl:=ok.sG.wl;have w2:=ok.K1;rintro (h|h)
 · rcases h with h|h<;>omega
 refine h ⟨by omega,?_⟩
 have:=h3 _ (uP ok.sG.so (by omega)).1;omega
theorem Roomy.more {c c':aK} {k:Nat} (h:Roomy c k) {x:Int×Int} (hc:c'.ai=la c.ai x) (hs:c'.ae.af=c.ae.af\/c'.ae.af=eM c.ae.af):Roomy c' (k+1):=by
 obtain ⟨h1,h2,h3⟩:=h;refine ⟨?_,?_,fun j hj=>?_⟩
 · rw [hc]
   show (c.ai.ce++[(c.ai.aL,x)]).length<=_;rw [rc,v4];omega
 · rw [hc]
   show c.ai.aL+1<=_;omega
 rcases hs with e|e
 · rw [e] at hj ⊢
   have:=h3 j hj;omega
 rw [e] at hj ⊢
 change j<(c.ae.af.aC.set _ _).length at hj;rw [AC] at hj;show (c.ae.af.aC.set (bY c.ae.af) (c.ae.af.aC[bY c.ae.af]!+1))[j]!<=_;rw [bn];split
 · rename_i h;have:=h3 _ h.2;omega
 have:=h3 j hj;omega
structure EK (f:List Pt) (es:List (Int×Int)):Prop where
 len:(IR es)<=1000000
 cv: ∀x∈es,cZ x
 kn: ∀x∈es,gZ f x
theorem N1 {f:List Pt} (_fok:cj f) {es:List (Int×Int)} (K3:EK f es):
 ∀(d i:Nat) (c:aK),IR es-i<=d->i<=IR es->cy c->c.dl.am=f->(∀x∈c.ai.ce,x.2∈es)->(∀j,j<i->tY c.ai.ce es[j]!)->
  ∃r:aK×Int,ax df (eP es i c)=M2 (.done r)/\ax cH (eR es i c)=M2 (.done r)/\(r.2=0/\NY c f es r.1\/r=(fK,18))/\(∀k,Roomy c k->k+(IR es-i)<=199->r.2=0):=by
 have el:=K3.len;have fin: ∀c:aK,cy c->c.dl.am=f->(∀x∈c.ai.ce,x.2∈es)->(∀j,j<IR es->tY c.ai.ce es[j]!)-> ∃r:aK×Int,ax df (eP es (IR es) c)=M2 (.done r)/\ax cH (eR es (IR es) c)=M2 (.done r)/\(r.2=0/\NY c f es r.1\/r=(fK,18))/\r.2=0:=by
  intro c ok hf hs hh;have e1:UV (((IR es):Int)<((IR es):Int))=PP:=aD (by omega);refine ⟨(c,0),aF ?_,aF ?_,.inl ⟨rfl,fun e he=>by obtain ⟨j,hj,q⟩:=bQ.1 he;rw [<- q];exact hh j hj,hs,ok,hf,rfl,Int.le_refl _⟩,rfl⟩
  · unfold df eP
    simp only [e1,lw]
  unfold cH eR
  simp only [aB,e1,lw]
 intro d
 induction d with
 |zero=>
  intro i c hd hi ok hf hs hh;have:i=(IR es):=by omega
  subst this;obtain ⟨r,q1,q2,q3,q4⟩:=fin c ok hf hs hh;exact ⟨r,q1,q2,q3,fun _ _ _=>q4⟩
 |succ d ih=>
  intro i c hd hi ok hf hs hh
  by_cases he:i=IR es
  · subst he
    obtain ⟨r,q1,q2,q3,q4⟩:=fin c ok hf hs hh;exact ⟨r,q1,q2,q3,fun _ _ _=>q4⟩
  have bd:=ok.bd;have u7:i<(IR es):=by omega
  have e1:UV ((i:Int)<((IR es):Int))=NE:=aH (by omega);have sc:=aV (show i<1000000000 by omega);have cg:=ar es i u7;have RP:(aK.mk (c.ci.1,c.ci.2) (Field.mk c.dl.am) (aZ.mk c.ai.aL c.ai.ce) (aJ.mk (aO.mk c.ae.af.aC c.ae.af.be c.ae.af.bi) c.ae.bv c.ae.ay) c.ii)=c:=rfl;have N2:aZ.mk c.ai.aL c.ai.ce=c.ai:=rfl;have hc:=GC c.ai.ce es[i]! (by omega);have hr:=xU c.ai es[i]! (by omega)
  by_cases vW:tY c.ai.ce es[i]!
  · have s1:df (eP es i c)=M2 (.next (eP es (i+1) c)):=by
     unfold df eP;simp only [e1,ls,cg,au,ze,hc,aH vW,sc]
    have s2:cH (eR es i c)=M2 (.next (eR es (i+1) c)):=by unfold cH eR;simp only [aB,e1,ls,cg,au,N2,hr,aH vW,sc]
    rw [aT s1,aT s2];obtain ⟨r,q1,q2,q3,q4⟩:=ih (i+1) c (by omega) (by omega) ok hf hs (fun j hj=>if q:j=i then by rw [q];exact vW else hh j (by omega));exact ⟨r,q1,q2,q3,fun k hk hl=>q4 k hk (by omega)⟩
  have hb:gZ c.dl.am es[i]!:=by rw [hf];exact K3.kn _ (bU u7)
  rcases RO ok (K3.cv _ (bU u7)) hb vW with ⟨r1,r2,full⟩|⟨c',r1,r2,r3,r4,r5,r6,r7⟩
  · refine ⟨(fK,18),aF ?_,aF ?_,.inr rfl,fun k hk hl=>absurd full (hk.NZ ok (by omega))⟩
    · unfold df eP
      simp only [e1,ls,cg,au,ze,hc,aD vW,lw,RP,r1,show ((18:Int) !=0)=NE from rfl]
    unfold cH eR
    simp only [aB,e1,ls,cg,au,N2,hr,aD vW,lw,RP,r2,show ((18:Int) !=0)=NE from rfl]
  have s1:df (eP es i c)=M2 (.next (eP es (i+1) c')):=by
   unfold df eP;simp only [e1,ls,cg,au,ze,hc,aD vW,lw,RP,r1,show ((0:Int) !=0)=PP from rfl,sc]
  have s2:cH (eR es i c)=M2 (.next (eR es (i+1) c')):=by unfold cH eR;simp only [aB,e1,ls,cg,au,N2,hr,aD vW,lw,RP,r2,show ((0:Int) !=0)=PP from rfl,sc]
  rw [aT s1,aT s2];obtain ⟨r,q1,q2,q3,q6⟩:=ih (i+1) c' (by omega) (by omega) r3 (by rw [r4,hf]) (fun x hx=>by
   rw [r6] at hx;rcases List.mem_append.1 (show x∈c.ai.ce++[(c.ai.aL,es[i]!)] from hx) with h|h
   · exact hs x h
   · rw [List.mem_singleton.1 h];exact bU u7) (fun j hj=>by
   rw [r6];show tY (c.ai.ce++[(c.ai.aL,es[i]!)]) _
   by_cases q:j=i
   · rw [q];exact ⟨IR c.ai.ce,by rw [rc,v4];omega,by rw [eL (Nat.le_refl _),Nat.sub_self];rfl⟩
   obtain ⟨w,w1,w2⟩:=hh j (by omega)
   exact ⟨w,by rw [rc];omega,by rw [eB w1];exact w2⟩)
  refine ⟨r,q1,q2,q3.imp (fun ⟨q4,q5⟩=>⟨q4,q5.has,q5.sub,q5.ok,q5.qL,q5.ci.trans r5,Int.le_trans ?_ q5.room⟩) id,fun k hk hl=>q6 (k+1) (hk.more r6 r7) (by omega)⟩;unfold NX;rw [r6];show _<=(c.ai.aL+1) - (((c.ai.ce++[(c.ai.aL,es[i]!)]).length:Nat):Int);rw [rc,v4];omega
theorem GK {c:aK} (ok:cy c) (h0:c.ai.ce=[]) {es:List (Int×Int)} (K3:EK c.dl.am es) (hr:Roomy c 0) (hl:(IR es)<=199):
 ∃r:aK,mU c c.dl es=M2 (r,0)/\pZ c c.dl es=M2 (r,0)/\NY c c.dl.am es r:=by
 have bd:=ok.bd;have l0:(IR c.ai.ce)=0:=by rw [h0];rfl
 have e1:UV (((0:Nat):Int)<((IR c.ai.ce):Int))=PP:=aD (by omega);have Ya:mU c c.dl es=ax oD (kP c c.dl.am es 0 c):=rfl;have Yb:pZ c c.dl es=ax lY (kR c c.dl.am es 0 c):=by unfold pZ;simp only [mD ok,au];rfl
 obtain ⟨r,i1,i2,i3,i4⟩:=N1 ok.qL K3 (IR es) 0 c (by omega) (by omega) ok rfl (fun x hx=>by rw [h0] at hx;cases hx) (fun j hj=>absurd hj (Nat.not_lt_zero j));have r0:=i4 0 hr (by omega);have e:r=(r.1,0):=by rw [<- r0]
 rw [e] at i1 i2;refine ⟨r.1,?_,?_,?_⟩
 · rw [Ya]
   refine aF ?_;unfold oD kP;simp only [e1,lw,xY c.dl.am c.dl.am (by omega),au,v6];exact i1
 · rw [Yb]
   refine aF ?_;unfold lY kR;simp only [aB,e1,lw,GJ c.dl.am c.dl.am (by omega),au,v6];exact i2
 rcases i3 with ⟨_,h⟩|h
 · exact h
 rw [h] at r0;cases r0
theorem wJ {α:Type} [Inhabited α] {l:List α}:l.Nodup↔ ∀k,k<IR l->l[k]!∉l.take k:=by
 rw [jO];constructor
 · intro h k hk hm
   obtain ⟨i,h1,h2,h3⟩:=eC.1 hm;exact h i k h1 hk h3
 intro h i j lr hj he
 exact h j hj (eC.2 ⟨i,lr,by omega,he⟩)
theorem qH {α:Type} [Inhabited α] {l:List α} {P:α->Prop}:(∀x∈l,P x)↔ ∀i,i<IR l->P l[i]!:=by
 constructor
 · intro h i hi;exact h _ (bU hi)
 intro h x hx
 obtain ⟨i,hi,rfl⟩:=bQ.1 hx;exact h i hi
theorem Cj {σ ρ:Type} {body:σ->Option (Step σ ρ)} (st:Nat->σ) (n:Nat) (P:Nat->Prop) {r e:ρ} (h: ∀i,i<n->(¬P i->body (st i)=M2 (.done r))/\(P i->body (st i)=M2 (.next (st (i+1)))))
 (NB:body (st n)=M2 (.done e)):ax body (st 0)=M2 (if∀i,i<n->P i then e else r):=by
 have key:=dD (body:=body) st n (fun i=> ¬P i) (r:=r) (e:=e) (fun i hi=>⟨(h i hi).1,fun hn=>(h i hi).2 (pp.1 hn)⟩) NB
 by_cases hx: ∀i,i<n->P i
 · rw [ol hx];exact key.2 fun i hi=>pp.2 (hx i hi)
 rw [pi hx]
 obtain ⟨i,h⟩:=Classical.not_forall.1 hx;obtain ⟨hi,hx⟩:=Classical.not_imp.1 h;exact key.1 ⟨i,hi,hx⟩
theorem vJ {f:List Pt} (fv:cj f) (id:Int): ∃p e,oA ⟨f⟩ id=M2 (p,e)/\(e=0↔qG f id):=by
 have h1:=fv.1;have hc:dY ⟨f⟩=M2 0:=by rw [iY];exact congrArg M2 (iX.2 fv)
 have bs:=JD f id (by omega) (fun i j=>oa fv.2.2);unfold oA tI wB;rw [RN];simp only [hc,au,show ((0:Int) !=0)=PP from rfl,lw]
 by_cases h:qG f id
 · obtain ⟨k,hk,he⟩:=h
   rw [bs.1 k hk he];refine ⟨f[k]!,0,?_,fun _=>⟨k,hk,he⟩,fun _=>rfl⟩;simp only [au,v6,lw,show ((0:Int) !=0)=PP from rfl,ar f k hk]
 obtain ⟨m,_,_,_,e⟩:=bs.2 (fun k hk he=>h ⟨k,hk,he⟩)
 rw [e];exact ⟨(0,0,0),6,rfl,fun h=>(by cases h),fun k=>absurd k h⟩
theorem GL (f:Field):mW f=M2 NE\/(mW f=M2 PP/\IR f.am<=70):=by
 unfold mW
 simp only [aB]
 by_cases h1:16<IR f.am
 · rw [aH (show (16:Int)<((IR f.am):Int) by omega)]
   by_cases h2:(IR f.am)<64
   · rw [aH (show ((IR f.am):Int)<64 by omega)];exact .inl rfl
   rw [aD (show¬((IR f.am):Int)<64 by omega)]
   by_cases h3:70<IR f.am
   · rw [aH (show (70:Int)<((IR f.am):Int) by omega)];exact .inl rfl
   rw [aD (show¬(70:Int)<((IR f.am):Int) by omega)];exact .inr ⟨rfl,by omega⟩
 rw [aD (show¬(16:Int)<((IR f.am):Int) by omega),aD (show¬(70:Int)<((IR f.am):Int) by omega)]
 exact .inr ⟨rfl,by omega⟩
theorem RQ (p q:Pt) (t:Int×Int):Du p q t=(p.2.1-q.2.1)*t.2+(p.2.2-q.2.2)*t.1:=rfl
theorem z6 {p q:Pt} {t:Int×Int} (hp:ff p) (hq:ff q) (ht:nX t) (hr:bT t):jg p q t=M2 (UV (leads p q t),if p.1=q.1 then 2 else 0)\/(p.1=q.1/\jg p q t=M2 (PP,2)):=by
 unfold jg;rw [p5 ht,ol ⟨hp,hq,hr⟩]
 by_cases h:p.1=q.1
 · right;simp [h]
 left
 simp only [h,if_false,au,pC hp hq ht];have:UV (0<Ig p q t)=UV (leads p q t):=by simp only [B0]
 simp [this]
end Go.Proofs.YtmndepnolpbnpaaGreat
namespace Go.Proofs.YtmndepnolpbnpaaGreat
open Go.Vm
theorem wK {α:Type} [BEq α] [LawfulBEq α]: ∀{a b:List α},a.Nodup->(∀x∈a,x∈b)->IR b<=IR a->a.Perm b
 | [],b,_,_,hl=>by rw [List.eq_nil_of_length_eq_zero (show (IR b)=0 by simpa using hl)]
 |x::a,b,hd,h,hl=>by
  rw [wn] at hd;have hx:=h x ww;have ih:=wK (a:=a) (b:=b.erase x) hd.2 (fun y hy=>by
   rw [List.mem_erase_of_ne (fun e=>hd.1 (by rw [<- e];exact hy))];exact h y (ut _ hy)) (by
   rw [List.length_erase_of_mem hx];rw [List.length_cons] at hl;omega)
  exact (List.Perm.cons x ih).trans (List.perm_cons_erase hx).symm
theorem wL {α β:Type} {f:α->β}: ∀{l:List α},l.Nodup->(∀x∈l,∀y∈l,f x=f y->x=y)->(l.map f).Nodup
 | [],_,_=>List.nodup_nil
 |x::l,h,hi=>by rw [wn] at h;rw [List.map_cons,wn];refine ⟨fun hm=>?_,wL h.2 fun y hy z hz=>hi y (ut _ hy) z (ut _ hz)⟩;obtain ⟨y,hy,e⟩:=If.1 hm;have:=hi y (ut _ hy) x ww e;rw [this] at hy;exact h.1 hy
end Go.Proofs.YtmndepnolpbnpaaGreat
namespace Go.Proofs.YtmndepnolpbnpaaGreat
open Go.Vm Classical
theorem zP {c:aZ} (ok:eD c):(c.ce.map fun x=>x.2).Nodup:=by
 refine wL ?_ ?_
 · exact jO.2 fun i j lr hj e=>ok.nd i j lr hj (by rw [e])
 intro x hx y hy e
 obtain ⟨i,hi,rfl⟩:=bQ.1 hx;obtain ⟨j,hj,rfl⟩:=bQ.1 hy;rcases Nat.lt_trichotomy i j with k|k|k
 · exact absurd e (ok.nd i j k hj)
 · rw [k]
 exact absurd e.symm (ok.nd j i k hi)
theorem Ck {l:List yg} {x:Int×Int}:tY l x↔x∈l.map fun y=>y.2:=by
 unfold tY;rw [If];constructor
 · rintro ⟨i,hi,rfl⟩;exact ⟨l[i]!,bU hi,rfl⟩
 rintro ⟨y,hy,rfl⟩
 obtain ⟨i,hi,rfl⟩:=bQ.1 hy;exact ⟨i,hi,rfl⟩
end Go.Proofs.YtmndepnolpbnpaaGreat
