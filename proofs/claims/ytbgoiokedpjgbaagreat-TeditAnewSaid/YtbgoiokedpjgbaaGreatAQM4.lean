/- Plain laws (4). -/
import Derived.Test.YtbgoiokedpjgbaaGreatAQM3
import Derived.Test.YtbgoiokedpjgbaaGreatAQS2
open List renaming length_replicate->pp,length_set->v6,getElem!_eq_getElem?_getD->AC,mem_cons_of_mem->If,length_take->M2,mem_range->NE,length_eraseIdx_le->PP,getElem_replicate->UV,mem_append->acl,nodup_cons->ad5,mem_of_mem_take->ad6,mem_of_mem_drop->ad9,replicate->ady,mem_cons->adA,length_append->adB,mem_cons_self->adC,mem_filterMap->adF,getElem?_set->adG,length_cons->adK,length_drop->adL,drop_length->adN,append_nil->adP,length->ae7
open Classical renaming not_not->rc,not_forall->EQ,not_imp->IR
open Nat renaming lt_trichotomy->ut,le_refl->ww,div_div_eq_div_mul->Do,zero_le->adc,lt_or_ge->adH,pow_succ->adI,le_of_lt->adJ
open Bool renaming not_true->adz,not_false->adQ,true->aeb,false->aeh
open Option renaming some->ae8
open Decidable renaming decide->aei
namespace Go.Proofs.YtbgoiokedpjgbaaGreat
open Go.Vm Classical
theorem Km (p q:Pt) (t:Int×Int):Gi p q t=(p.2.1*t.2+p.2.2*t.1) - (q.2.1*t.2+q.2.2*t.1):=by rw [Cp,Int.sub_mul,Int.sub_mul];omega
theorem qY {p q r:Pt} {t:Int×Int} (h1:leads p q t) (h2:leads q r t):leads p r t:=by unfold leads at*;rw [Km] at*;generalize p.2.1*t.2+p.2.2*t.1=a at*;generalize q.2.1*t.2+q.2.2*t.1=b at*;generalize r.2.1*t.2+r.2.2*t.1=c at*;omega
theorem qZ {p q:Pt} (t:Int×Int) (h:p.1≠q.1) (hn: ¬leads p q t):leads q p t:=by unfold leads at*;rw [Km] at*;generalize p.2.1*t.2+p.2.2*t.1=a at*;generalize q.2.1*t.2+q.2.2*t.1=b at*;omega
structure SO (P:Int->Int->Prop) (S:Int->Prop):Prop where
 irr: ∀a,S a-> ¬P a a
 tr: ∀a b c,S a->S b->S c->P a b->P b c->P a c
 tot: ∀a b,S a->S b->a≠b->P a b\/P b a
section
variable {P : Int -> Int -> Prop} {S : Int -> Prop}
theorem SO.asym (o:SO P S) {a b:Int} (ha:S a) (hb:S b) (h:P a b): ¬P b a:=fun k=>o.irr a ha (o.tr a b a ha hb ha h k)
theorem SO.ntr (o:SO P S) {a b c:Int} (ha:S a) (hb:S b) (hc:S c) (h1: ¬P a b) (h2: ¬P b c): ¬P a c:=fun h=>by
 by_cases e:b=c
 · exact h1 (e▸h)
 rcases o.tot b c hb hc e with k|k
 · exact h2 k
 exact h1 (o.tr a c b ha hc hb h k)
theorem SO.up (o:SO P S) {a b c:Int} (ha:S a) (hb:S b) (hc:S c) (h1:P b c) (h2: ¬P a c): ¬P a b:=fun h=>h2 (o.tr a b c ha hb hc h h1)
end
theorem VE {f:List Pt} (cL:bC f) (k:Nat):bC (f.eraseIdx k):=by
 refine ⟨Nat.le_trans (PP f k) cL.1,fun p hp=>cL.2.1 p (List.mem_of_mem_eraseIdx hp),?_⟩;have h:=cL.2.2;intro i hi;have hl:=PP f k
 by_cases hk:k<ae7 f
 · have:=zM hk
   rw [xx,xx];split<;>split<;>exact eV h (by omega) (by omega)
 rw [List.eraseIdx_of_length_le (by omega)] at hi ⊢
 exact h i hi
theorem Ea {f:List Pt} (cL:bC f) {k:Nat} (hk:k<ae7 f):js ⟨f⟩ (f[k]!).1=ae8 ((k:Int),0):=by
 have h1:=cL.1;have hc:cY ⟨f⟩=ae8 0:=by rw [fv];exact congrArg ae8 (gg.2 cL)
 have bs:=qp f (f[k]!).1 (by omega) (fun i j=>eV cL.2.2);unfold js jA;rw [Ck];simp only [hc,aj,show ((0:Int) !=0)=aeh from rfl,lm,bs.1 k hk rfl,adz]
theorem Ar {f:List Pt} (cL:bC f) {id:Int} (h: ¬gx f id):js ⟨f⟩ id=ae8 (0,6):=by
 have h1:=cL.1;have hc:cY ⟨f⟩=ae8 0:=by rw [fv];exact congrArg ae8 (gg.2 cL)
 have bs:=qp f id (by omega) (fun i j=>eV cL.2.2);obtain ⟨m,_,_,_,e⟩:=bs.2 (fun k hk he=>h ⟨k,hk,he⟩);unfold js jA;rw [Ck];simp only [hc,aj,show ((0:Int) !=0)=aeh from rfl,lm,e,adQ,lc]
theorem Kn:jC=ez:=rfl
def tH (f:List Pt) (m:Nat) (p:Pt):List Pt:=f.take m++p::f.drop m
structure Qo (f:List Pt) (p:Pt) (m:Nat):Prop where
 le:m<=ae7 f
 lo: ∀i,i<m->(f[i]!).1<p.1
 hi: ∀i,m<=i->i<ae7 f->p.1<(f[i]!).1
theorem GR {f:List Pt} {m:Nat} (h:m<=ae7 f) (p:Pt):(tH f m p).length=ae7 f+1:=by unfold tH;rw [adB,adK,M2,adL];omega
theorem IT {f:List Pt} {m:Nat} (h:m<=ae7 f) (p:Pt) (i:Nat):(tH f m p)[i]! =if i<m then f[i]! else if i=m then p else f[i-1]!:=by
 have ht:(f.take m).length=m:=by rw [M2];omega
 unfold tH;simp only [AC]
 by_cases h1:i<m
 · rw [ls h1,List.getElem?_append_left (by omega),List.getElem?_take_of_lt h1]
 rw [lw h1,List.getElem?_append_right (by omega),ht]
 by_cases h2:i=m
 · rw [ls h2,h2,Nat.sub_self];rfl
 rw [lw h2,show i-m=(i-1-m)+1 by omega,List.getElem?_cons_succ,List.getElem?_drop,show m+(i-1-m)=i-1 by omega]
theorem ac9 {f:List Pt} (cL:bC f) {p:Pt} (po:eY p) {m:Nat} (h:Qo f p m) (hl:(ae7 f)<64):bC (tH f m p):=by
 refine ⟨by rw [GR h.le];omega,fun q hq=>?_,fun i hi=>?_⟩
 · rcases acl.1 hq with hq|hq
   · exact cL.2.1 q (ad6 hq)
   rcases adA.1 hq with rfl|hq
   · exact po
   exact cL.2.1 q (ad9 hq)
 rw [GR h.le] at hi
 rw [IT h.le,IT h.le];rcases ut (i+1) m with c|c|c
 · rw [ls (by omega),ls c];exact eV cL.2.2 (by omega) (by have:=h.le;omega)
 · rw [ls (by omega),lw (by omega),ls c];exact h.lo i (by omega)
 rw [lw (show¬i+1<m by omega),lw (show¬i+1=m by omega),Nat.add_sub_cancel]
 by_cases d:i=m
 · rw [lw (by omega),ls d];exact h.hi i (by omega) (by omega)
 rw [lw (by omega),lw d];exact eV cL.2.2 (by omega) (by omega)
theorem OS {f:List Pt} (cL:bC f) {p:Pt} (h: ¬gx f p.1): ∃m,Qo f p m/\jA ⟨f⟩ p.1=ae8 ((m:Int),aeh):=by have h1:=cL.1;obtain ⟨m,a,b,c,e⟩:=(qp f p.1 (by omega) (fun i j=>eV cL.2.2)).2 (fun k hk he=>h ⟨k,hk,he⟩);refine ⟨m,⟨a,b,c⟩,?_⟩;unfold jA;rw [Ck,e];rfl
theorem OT {f:List Pt} (cL:bC f) {id:Int} (h:gx f id): ∃k,k<ae7 f/\(f[k]!).1=id/\jA ⟨f⟩ id=ae8 ((k:Int),aeb):=by have h1:=cL.1;obtain ⟨k,hk,he⟩:=h;refine ⟨k,hk,he,?_⟩;unfold jA;rw [Ck,(qp f id (by omega) (fun i j=>eV cL.2.2)).1 k hk he];rfl
theorem ak9 {f:List Pt} (cL:bC f) {p:Pt} (po:eY p) {k:Nat} (hk:k<ae7 f) (he:(f[k]!).1=p.1):bC (f.set k p):=by
 refine ⟨by rw [v6];exact cL.1,fun q hq=>?_,fun i hi=>?_⟩
 · rcases List.mem_or_eq_of_mem_set hq with h|rfl
   · exact cL.2.1 q h
   exact po
 rw [v6] at hi
 have h:=eV cL.2.2 (show i<i+1 by omega) hi;have g: ∀j:Nat,((f.set k p)[j]!).1=(f[j]!).1:=fun j=>by
  simp only [AC,adG]
  by_cases c:k=j
  · subst c
    rw [ls rfl,ls hk];simp only [AC] at he;exact he.symm
  rw [lw c]
 rw [g,g];exact h
noncomputable def mM (f:List Pt) (es:List (Int×Int)):Int:=if¬(∀x∈es,fL x) then 8 else if¬es.Nodup then 14 else if¬(∀x∈es,iX f x) then 6 else 0
def rP (c:aK) (f:List Pt) (es:List (Int×Int)) (i:Nat):=
 (es,es,((ae7 es):Int),(i:Int),c.ci.1,c.ci.2,c.ii.am,c.ai.aN,c.ai.ce,c.ae.af.aB,c.ae.af.be,c.ae.af.bi,c.ae.bv,c.ae.ar,c.io,f,(0:Int),(0:Int),(0:Int))
theorem GS {c:aK} (ok:aY c) {f:List Pt} (cL:bC f) {es:List (Int×Int)} (hl:(ae7 es)<=1000) {r:aK×Int} (hr:mM f es=0->qP c ⟨f⟩ es=ae8 r):
 mh c ⟨f⟩ es=ae8 (if mM f es=0 then r else (eA,mM f es)):=by
 have bd:=ok.bd;have ab:=ok.lD.bd;have sl:=ok.lD.so.fl;have sn:=ok.lD.so.n2;have su:=ok.lD.so.ul;have el:aei (((ae7 es):Int)<((ae7 es):Int))=aeh:=aC (by omega);have hc:gf c=ae8 0:=by rw [kv ok.fit,ls ok]
 have hf:cY ⟨f⟩=ae8 0:=by rw [fv];exact congrArg ae8 (gg.2 cL)
 have tw:te (aK.mk (c.ci.1,c.ci.2) (Field.mk c.ii.am) (bF.mk c.ai.aN c.ai.ce) (aJ.mk (bj.mk c.ae.af.aB c.ae.af.be c.ae.af.bi) c.ae.bv c.ae.ar) c.io)=ae8 c:=by
  unfold te;simp only [bm (show (ae7 c.ii.am)<=1048576 by omega),bm (show (ae7 c.ai.ce)<=1048576 by omega),bm (show (ae7 c.io)<=1048576 by omega),bm (show (ae7 c.ae.bv)<=1048576 by omega),bm (show (ae7 c.ae.ar)<=1048576 by omega),
   bm (show (ae7 c.ae.af.aB)<=1048576 by omega),bm (show (ae7 c.ae.af.be)<=1048576 by omega),bm (show (ae7 c.ae.af.bi)<=1048576 by omega),aj]
 have k3: ∀e2:aK×Int,ay eH (rP c f es 0)=ae8 (.done e2)->ay eI (rP c f es 0)=ae8 (if∀i,i<ae7 es->fL es[i]! then e2 else (eA,8)):=by
  intro e2 h2;refine nK (body:=eI) (fun i=>rP c f es i) (ae7 es) (fun i=>fL es[i]!) (r:=(eA,8)) (e:=e2) (fun i hi=>?_) ?_
  · have e1:aei ((i:Int)<((ae7 es):Int))=aeb:=aE (by omega)
    unfold eI rP fL;simp only [e1,lc,ax es i hi,aj,aV (show i<1000000000 by omega)];generalize es[i]! =x
    by_cases a1:x.1<0
    · rw [aE a1];exact ⟨fun _=>rfl,fun h=>by omega⟩
    rw [aC a1]
    by_cases a2:x.2<0
    · rw [aE a2];exact ⟨fun _=>rfl,fun h=>by omega⟩
    rw [aC a2]
    by_cases a3:65535<x.1
    · rw [aE a3];exact ⟨fun _=>rfl,fun h=>by omega⟩
    rw [aC a3]
    by_cases a4:65535<x.2
    · rw [aE a4];exact ⟨fun _=>rfl,fun h=>by omega⟩
    rw [aC a4]
    by_cases a5:x.1=x.2
    · rw [dp a5];exact ⟨fun _=>rfl,fun h=>absurd a5 h.2.2.2.2⟩
    rw [dR a5];exact ⟨fun h=>absurd ⟨by omega,by omega,by omega,by omega,a5⟩ h,fun _=>rfl⟩
  unfold eI rP
  simp only [aA,el,lm];exact h2
 have k2: ∀e1:aK×Int,ay fu (rP c f es 0)=ae8 (.done (.done e1))->ay eH (rP c f es 0)=ae8 (.done (if∀i,i<ae7 es->es[i]!∉es.take i then e1 else (eA,14))):=by
  intro e0 h2;have:=nK (body:=eH) (fun i=>rP c f es i) (ae7 es) (fun i=>es[i]!∉es.take i) (r:= .done (eA,14)) (e:= .done e0) (fun i hi=>by
   have e1:aei ((i:Int)<((ae7 es):Int))=aeb:=aE (by omega);unfold eH rP;simp only [e1,lc,ax es i hi,kr es i (by omega),aj,m9 _ _ (show (es.take i).length<=1000000 by rw [M2];omega),aV (show i<1000000000 by omega)]
   by_cases h:es[i]!∈es.take i
   · rw [aE h];exact ⟨fun _=>rfl,fun k=>absurd h k⟩
   · rw [aC h];exact ⟨fun k=>absurd h k,fun _=>rfl⟩) (by
   unfold eH rP;simp only [aA,el,lm];exact h2)
  refine this.trans ?_
  by_cases hb: ∀i,i<ae7 es->es[i]!∉es.take i
  · rw [ls hb,ls hb]
  rw [lw hb,lw hb]
 have VF: ∀i,i<ae7 es->(¬iX f es[i]!->fu (rP c f es i)=ae8 (.done (.done (.done (eA,6)))))/\(iX f es[i]!->fu (rP c f es i)=ae8 (.next (rP c f es (i+1)))):=by
  intro i hi;have e1:aei ((i:Int)<((ae7 es):Int))=aeb:=aE (by omega);obtain ⟨p,e,a1,a2⟩:=Aq cL (es[i]!).1;obtain ⟨q,g,b1,b2⟩:=Aq cL (es[i]!).2;unfold fu rP iX;simp only [e1,lc,ax es i hi,aj,a1,b1,aV (show i<1000000000 by omega)]
  by_cases h1:gx f (es[i]!).1
  · rw [bB (a2.2 h1)]
    by_cases h2:gx f (es[i]!).2
    · rw [bB (b2.2 h2)]
      exact ⟨fun h=>absurd ⟨h1,h2⟩ h,fun _=>rfl⟩
    rw [cS (fun h=>h2 (b2.1 h))]
    exact ⟨fun _=>rfl,fun h=>absurd h.2 h2⟩
  rw [cS (fun h=>h1 (a2.1 h))]
  exact ⟨fun _=>rfl,fun h=>absurd h.1 h1⟩
 have start:mh c ⟨f⟩ es=ay eI (rP c f es 0):=by unfold mh;simp only [hc,aj,show ((0:Int) !=0)=aeh from rfl,lm,hf];rfl
 rw [start]
 by_cases h1: ∀x∈es,fL x
 case neg=>
  have er:mM f es=8:=by unfold mM;rw [ls h1]
  rw [er,lw (by omega)];have:=dy (body:=eI) (fun i=>rP c f es i) (ae7 es) (fun i=> ¬fL es[i]!) (r:=(eA,8)) (e:=r);have k3':=k3;rw [y4 (P:=fL)] at h1;obtain ⟨i,h⟩:=EQ.1 h1;obtain ⟨hi,hx⟩:=IR.1 h;obtain ⟨m,m1,m2,m3⟩:=least (c:=fun i=> ¬fL es[i]!) ⟨i,hi,hx⟩;have go: ∀j,j<ae7 es->(¬fL es[j]!->eI (rP c f es j)=ae8 (.done (eA,8)))/\(fL es[j]!->eI (rP c f es j)=ae8 (.next (rP c f es (j+1)))):=by
   intro j hj;have e1:aei ((j:Int)<((ae7 es):Int))=aeb:=aE (by omega);unfold eI rP fL;simp only [e1,lc,ax es j hj,aj,aV (show j<1000000000 by omega)];generalize es[j]! =x
   by_cases a1:x.1<0
   · rw [aE a1];exact ⟨fun _=>rfl,fun h=>by omega⟩
   rw [aC a1]
   by_cases a2:x.2<0
   · rw [aE a2];exact ⟨fun _=>rfl,fun h=>by omega⟩
   rw [aC a2]
   by_cases a3:65535<x.1
   · rw [aE a3];exact ⟨fun _=>rfl,fun h=>by omega⟩
   rw [aC a3]
   by_cases a4:65535<x.2
   · rw [aE a4];exact ⟨fun _=>rfl,fun h=>by omega⟩
   rw [aC a4]
   by_cases a5:x.1=x.2
   · rw [dp a5];exact ⟨fun _=>rfl,fun h=>absurd a5 h.2.2.2.2⟩
   rw [dR a5];exact ⟨fun h=>absurd ⟨by omega,by omega,by omega,by omega,a5⟩ h,fun _=>rfl⟩
  rw [eJ (body:=eI) (fun i=>rP c f es i) m fun j hj=>(go j (by omega)).2 (rc.1 (m3 j hj))];exact aI ((go m m1).1 m2)
 have M8:=(y4 (P:=fL)).1 h1
 by_cases h2:es.Nodup
 case neg=>
  have er:mM f es=14:=by unfold mM;rw [lw (rc.2 h1),ls h2]
  rw [er,lw (by omega)];have Ra:=h2;rw [GP] at Ra;obtain ⟨i,h⟩:=EQ.1 Ra;obtain ⟨hi,hx⟩:=IR.1 h;obtain ⟨m,m1,m2,m3⟩:=least (c:=fun i=> ¬es[i]!∉es.take i) ⟨i,hi,hx⟩;have go: ∀j,j<ae7 es->(es[j]!∈es.take j->eH (rP c f es j)=ae8 (.done (.done (eA,14))))/\(es[j]!∉es.take j->eH (rP c f es j)=ae8 (.next (rP c f es (j+1)))):=by
   intro j hj;have e1:aei ((j:Int)<((ae7 es):Int))=aeb:=aE (by omega);unfold eH rP;simp only [e1,lc,ax es j hj,kr es j (by omega),aj,m9 _ _ (show (es.take j).length<=1000000 by rw [M2];omega),aV (show j<1000000000 by omega)]
   by_cases h:es[j]!∈es.take j
   · rw [aE h];exact ⟨fun _=>rfl,fun k=>absurd h k⟩
   rw [aC h];exact ⟨fun k=>absurd k h,fun _=>rfl⟩
  have l2:ay eH (rP c f es 0)=ae8 (.done (eA,14)):=by rw [eJ (body:=eH) (fun i=>rP c f es i) m fun j hj=>(go j (by omega)).2 (rc.1 (m3 j hj))];exact aI ((go m m1).1 (rc.1 m2))
  rw [k3 _ l2,ls M8]
 have Ra:=GP.1 h2
 by_cases h3: ∀x∈es,iX f x
 case neg=>
  have er:mM f es=6:=by unfold mM;rw [lw (rc.2 h1),lw (rc.2 h2),ls h3]
  rw [er,lw (by omega)];have h3':=h3;rw [y4 (P:=iX f)] at h3';obtain ⟨i,h⟩:=EQ.1 h3';obtain ⟨hi,hx⟩:=IR.1 h;obtain ⟨m,m1,m2,m3⟩:=least (c:=fun i=> ¬iX f es[i]!) ⟨i,hi,hx⟩;have l1:ay fu (rP c f es 0)=ae8 (.done (.done (eA,6))):=by rw [eJ (body:=fu) (fun i=>rP c f es i) m fun j hj=>(VF j (by omega)).2 (rc.1 (m3 j hj))];exact aI ((VF m m1).1 m2)
  rw [k3 _ (k2 _ l1),ls M8,ls Ra]
 have h3':=(y4 (P:=iX f)).1 h3;have er:mM f es=0:=by unfold mM;rw [lw (rc.2 h1),lw (rc.2 h2),lw (rc.2 h3)]
 rw [er,ls rfl];have l1:ay fu (rP c f es 0)=ae8 (.done (.done r)):=by rw [eJ (body:=fu) (fun i=>rP c f es i) (ae7 es) fun j hj=>(VF j hj).2 (h3' j hj)];refine aI ?_;unfold fu rP;simp only [el,lm,tw,aj,hr er]
 rw [k3 _ (k2 _ l1),ls M8,ls Ra]
theorem R4 {l:List Int} {x:Int} (hl:(ae7 l)<=1000000) (hx:x∈l): ∃k,k<ae7 l/\l[k]! =x/\fK l x=ae8 (k:Int)/\Ma l x=ae8 (k:Int):=by
 obtain ⟨k,k1,k2,k3⟩:=least (c:=fun k=>l[k]! =x) (aO.1 hx);have p:=iD (body:=o5) (fun i=>(l,x,(i:Int))) (ae7 l) (fun i=>l[i]! =x) (fun i=>(i:Int)) (e:= -1) (fun i hi=>by
  unfold o5;simp only [aA,aE (show (i:Int)<((ae7 l):Int) by omega),lc,ax l i hi,aj,aV (show i<1000000000 by omega)];refine ⟨fun h=>?_,fun h=>?_⟩
  · rw [dp h];rfl
  · rw [dR h];rfl) (by
  unfold o5;simp only [aA,aC (show¬((ae7 l):Int)<((ae7 l):Int) by omega),lm])
 exact ⟨k,k1,k2,(MI l x hl).1 k k1 k2 k3,p.1 k k1 k2 k3⟩
theorem tk {l:List Int} {m:Nat} {x:Int} (h:(ae7 l)=m):(l++[x]).take m=l:=by rw [<- h,List.take_left]
section
variable {k : aep} {f : List Pt} {m n0 : Nat} {x : Int}
end
section
variable {k : aep} {P : Pt} {f : List Pt} {m : Nat}
end
end Go.Proofs.YtbgoiokedpjgbaaGreat
namespace Go.Proofs.YtbgoiokedpjgbaaGreat
abbrev Nd:=Int×Int×Int
structure GU (P:Nat->Nat->Prop) (a b i:Nat):Prop where
 lo:a<=i
 hi:i<b
 top: ∀j,a<=j->j<b->j≠i->P i j
inductive o8 (P:Nat->Nat->Prop) (N:List Nd):Nat->Nat->Int->Prop
 |nil {a b:Nat} (h:b<=a):o8 P N a b (-1)
 |node {a b i:Nat} (h:GU P a b i) (l:o8 P N a i (N[i]!).2.1) (r:o8 P N (i+1) b (N[i]!).2.2):o8 P N a b (i:Int)
structure ac' (P:Nat->Nat->Prop) (n:Nat):Prop where
 tr: ∀i j k,i<n->j<n->k<n->P i j->P j k->P i k
 asy: ∀i j,i<n->j<n->P i j-> ¬P j i
 tot: ∀i j,i<n->j<n->i≠j-> ¬P i j->P j i
theorem GU.one {P:Nat->Nat->Prop} {n a b i j:Nat} (o:ac' P n) (hb:b<=n) (h:GU P a b i) (k:GU P a b j):i=j:=by
 refine Classical.byContradiction fun dW=>?_
 have:=h.hi;have:=k.hi;exact o.asy i j (by omega) (by omega) (h.top j k.lo k.hi (fun e=>dW e.symm)) (k.top i h.lo h.hi dW)
theorem o8.link {P:Nat->Nat->Prop} {N:List Nd} {a b:Nat} {r:Int} (h:o8 P N a b r):(b<=a/\r= -1)\/(∃i:Nat,r=(i:Int)/\a<=i/\i<b):=by
 cases h with
 |nil h=>exact .inl ⟨h,rfl⟩
 |node h l r=>exact .inr ⟨_,rfl,h.lo,h.hi⟩
theorem o8.unique {P:Nat->Nat->Prop} {n:Nat} (o:ac' P n) {N N':List Nd} {a b:Nat} {r:Int} (h:o8 P N a b r): ∀{r':Int},b<=n->o8 P N' a b r'->r=r'/\ ∀k,a<=k->k<b->(N[k]!).2=(N'[k]!).2:=by
 induction h with
 |nil h=>
  intro r' hb h';cases h' with
  |nil _=>exact ⟨rfl,fun k h1 h2=>by omega⟩
  |node t _ _=>have:=t.lo;have:=t.hi;omega
 | @node a b i h l r ihl ihr=>
  intro r' hb h';have lo:=h.lo;have hi:=h.hi;cases h' with
  |nil q=>omega
  | @node _ _ j t l' r'=>
   have e:=h.one o hb t;subst e;obtain ⟨e1,f1⟩:=ihl (by omega) l';obtain ⟨e2,f2⟩:=ihr hb r';refine ⟨rfl,fun k h1 h2=>?_⟩;rcases ut k i with q|q|q
   · exact f1 k h1 q
   · subst q;exact Prod.ext e1 e2
   exact f2 k (by omega) h2
theorem o8.other {P Q:Nat->Nat->Prop} {n:Nat} (o:ac' Q n) {N:List Nd} {a b:Nat} {r:Int} (h:o8 P N a b r):b<=n->(∀k j:Nat,a<=k->k<b->a<=j->j<b->((N[k]!).2.1=(j:Int)\/(N[k]!).2.2=(j:Int))->Q k j)->o8 Q N a b r:=by
 induction h with
 |nil h=>exact fun _ _=> .nil h
 | @node a b i h l r ihl ihr=>
  intro hb q;have lo:=h.lo;have hi:=h.hi;have tl:=ihl (by omega) fun k j h1 h2 h3 h4=>q k j h1 (by omega) h3 (by omega)
  have tr:=ihr hb fun k j h1 h2 h3 h4=>q k j (by omega) h2 (by omega) h4
  refine .node ⟨lo,hi,fun j h1 h2 dW=>?_⟩ tl tr;rcases adH j i with hj|hj
  · generalize hr:(N[i]!).2.1=s at tl
    cases tl with
    |nil q=>omega
    | @node _ _ m t _ _=>
     have t1:=t.lo;have t2:=t.hi;have qm:=q i m lo hi t1 (by omega) (.inl hr)
     by_cases e:j=m
     · rw [e];exact qm
     exact o.tr i m j (by omega) (by omega) (by omega) qm (t.top j h1 hj e)
  generalize hr:(N[i]!).2.2=s at tr
  cases tr with
  |nil q=>omega
  | @node _ _ m t _ _=>
   have t1:=t.lo;have t2:=t.hi;have qm:=q i m lo hi (by omega) t2 (.inr hr)
   by_cases e:j=m
   · rw [e];exact qm
   exact o.tr i m j (by omega) (by omega) (by omega) qm (t.top j (by omega) h2 e)
theorem o8.kids {P:Nat->Nat->Prop} {N:List Nd} {a b:Nat} {r:Int} (h:o8 P N a b r): ∀k,a<=k->k<b-> ∀c:Int,((N[k]!).2.1=c\/(N[k]!).2.2=c)->c= -1\/ ∃j:Nat,c=(j:Int)/\a<=j/\j<b/\j≠k/\P k j/\r≠c:=by
 induction h with
 |nil h=>intro k h1 h2;omega
 | @node a b i h l r ihl ihr=>
  have lo:=h.lo;have hi:=h.hi;intro k h1 h2 c hc;rcases ut k i with q|q|q
  · rcases ihl k h1 q c hc with e|⟨j,e,j1,j2,j3,j4,_⟩
    · exact .inl e
    exact .inr ⟨j,e,j1,by omega,j3,j4,by rw [e];omega⟩
  · subst q
    rcases hc with hc|hc
    · rcases l.link with ⟨_,e⟩|⟨j,e,j1,j2⟩
      · exact .inl (hc▸e)
      exact .inr ⟨j,hc▸e,j1,by omega,by omega,h.top j j1 (by omega) (by omega),by rw [<- hc,e];omega⟩
    rcases r.link with ⟨_,e⟩|⟨j,e,j1,j2⟩
    · exact .inl (hc▸e)
    exact .inr ⟨j,hc▸e,by omega,j2,by omega,h.top j (by omega) j2 (by omega),by rw [<- hc,e];omega⟩
  rcases ihr k (by omega) h2 c hc with e|⟨j,e,j1,j2,j3,j4,_⟩
  · exact .inl e
  exact .inr ⟨j,e,by omega,j2,j3,j4,by rw [e];omega⟩
theorem o8.up {P:Nat->Nat->Prop} {N:List Nd} {a b:Nat} {r:Int} (h:o8 P N a b r): ∀k:Nat,a<=k->k<b->(k:Int)≠r-> ∃j,a<=j/\j<b/\((N[j]!).2.1=(k:Int)\/(N[j]!).2.2=(k:Int))/\ ∀m,a<=m->m<b->((N[m]!).2.1=(k:Int)\/(N[m]!).2.2=(k:Int))->m=j:=by
 induction h with
 |nil h=>intro k h1 h2;omega
 | @node a b i h l r ihl ihr=>
  have lo:=h.lo;have hi:=h.hi;have lk:=l.kids;have rk:=r.kids;intro k h1 h2 dW;have hki:k≠i:=fun e=>dW (by rw [e])
  rcases adH k i with q|q
  · by_cases er:(k:Int)=(N[i]!).2.1
    · refine ⟨i,lo,hi,.inl er.symm,fun m m1 m2 hm=>?_⟩
      rcases ut m i with w|w|w
      · rcases lk m m1 w _ hm with e|⟨j,e,_,_,_,_,hr⟩
        · omega
        exact absurd er.symm hr
      · exact w
      rcases rk m (by omega) m2 _ hm with e|⟨j,e,j1,_⟩<;>omega
    obtain ⟨j,j1,j2,j3,j4⟩:=ihl k h1 q er
    refine ⟨j,j1,by omega,j3,fun m m1 m2 hm=>?_⟩;rcases ut m i with w|w|w
    · exact j4 m m1 w hm
    · subst w
      rcases hm with hm|hm
      · exact absurd hm.symm er
      rcases r.link with ⟨_,e⟩|⟨p,e,p1,p2⟩<;>omega
    rcases rk m (by omega) m2 _ hm with e|⟨p,e,p1,_⟩<;>omega
  by_cases er:(k:Int)=(N[i]!).2.2
  · refine ⟨i,lo,hi,.inr er.symm,fun m m1 m2 hm=>?_⟩
    rcases ut m i with w|w|w
    · rcases lk m m1 w _ hm with e|⟨j,e,_,j2,_⟩<;>omega
    · exact w
    rcases rk m (by omega) m2 _ hm with e|⟨j,e,_,_,_,_,hr⟩
    · omega
    exact absurd er.symm hr
  obtain ⟨j,j1,j2,j3,j4⟩:=ihr k (by omega) h2 er
  refine ⟨j,by omega,j2,j3,fun m m1 m2 hm=>?_⟩;rcases ut m i with w|w|w
  · rcases lk m m1 w _ hm with e|⟨p,e,_,p2,_⟩<;>omega
  · subst w
    rcases hm with hm|hm
    · rcases l.link with ⟨_,e⟩|⟨p,e,p1,p2⟩<;>omega
    exact absurd hm.symm er
  exact j4 m (by omega) m2 hm
inductive GV (P:Nat->Nat->Prop) (N:List Nd):Nat->Nat->Int->List Nat->Prop
 |nil {a b:Nat} (h:b<=a):GV P N a b (-1) []
 |cons {a b k:Nat} {es:List Nat} (h:GU P a b k) (l:o8 P N a k (N[k]!).2.1) (r:GV P N (k+1) b (N[k]!).2.2 es):GV P N a b (k:Int) (k::es)
theorem GV.tree {P:Nat->Nat->Prop} {N:List Nd} {a b:Nat} {r:Int} {es:List Nat} (h:GV P N a b r es):o8 P N a b r:=by
 induction h with
 |nil h=>exact .nil h
 |cons h l r ih=>exact .node h l ih
theorem GV.mem {P:Nat->Nat->Prop} {N:List Nd} {a b:Nat} {r:Int} {es:List Nat} (h:GV P N a b r es): ∀e∈es,a<=e/\e<b:=by
 induction h with
 |nil h=>intro e he;cases he
 |cons h l r ih=>
  intro e he;have lo:=h.lo;have hi:=h.hi;rcases adA.1 he with rfl|he
  · exact ⟨lo,hi⟩
  have:=ih e he;omega
end Go.Proofs.YtbgoiokedpjgbaaGreat
namespace Go.Proofs.YtbgoiokedpjgbaaGreat
open Go.Vm Classical
def ahP (f:List Pt) (t:Int×Int) (i j:Nat):Prop:=leads f[i]! f[j]! t
theorem y6 {p q:Pt} {t:Int×Int} (h:leads p q t): ¬leads q p t:=by unfold leads at*;rw [Km] at*;generalize p.2.1*t.2+p.2.2*t.1=a at*;generalize q.2.1*t.2+q.2.2*t.1=b at*;omega
theorem ada {f:List Pt} (h:gi f) (t:Int×Int):ac' (ahP f t) (ae7 f) where
 tr:=fun _ _ _ _ _ _ h1 h2=>qY h1 h2
 asy:=fun _ _ _ _ h=>y6 h
 tot:=fun _ _ hi hj dW hn=>qZ t (fun e=>dW (xp h hi hj e)) hn
structure GW (f:List Pt) (t:Int×Int) (N:List Nd) (r:Int):Prop where
 len:(ae7 N)=ae7 f
 ids: ∀k,k<ae7 f->(N[k]!).1=(f[k]!).1
 tree:o8 (ahP f t) N 0 (ae7 f) r
theorem GW.same {f:List Pt} (h:gi f) {t:Int×Int} {N N':List Nd} {r r':Int} (a:GW f t N r) (b:GW f t N' r'):N=N'/\r=r':=by
 obtain ⟨e1,e2⟩:=a.tree.unique (ada h t) (ww _) b.tree;refine ⟨qW (by rw [a.len,b.len]) fun k hk=>?_,e1⟩;have hk:k<(ae7 f):=by rw [<- a.len];exact hk
 exact Prod.ext (by rw [a.ids k hk,b.ids k hk]) (e2 k (adc _) hk)
section
variable {f : List Pt} {t : Int × Int} {N : List Nd} {r : Int}
end
def o1 (f:List Pt) (t:Int×Int) (e c:Nat) (i:Nat) (root:Int) (N:List Nd) (E:List Int) (left:Int):=
 (e,c,(i:Int),f,((ae7 f):Int),(i:Int),f,t.1,t.2,(0:Int),root,N,E,(f[i]!).1,(f[i]!).2.1,(f[i]!).2.2,(f[i]!).1,left,(-1:Int))
section
variable {f : List Pt} {t : Int × Int} {N : List Nd} {r : Int}
theorem GW.link (h:GW f t N r) {j:Nat} (hj:j<ae7 f) {c:Int} (hc:(N[j]!).2.1=c\/(N[j]!).2.2=c):c= -1\/(0<=c/\c<ae7 N):=by
 have ln:=h.len;rcases h.tree.kids j (adc _) hj c hc with e|⟨k,e,_,k2,_⟩
 · exact .inl e
 exact .inr ⟨by omega,by omega⟩
end
theorem adb (c:aK) (es:List (Int×Int)) (h1:(ae7 es)<=1000000) (_:(ae7 c.ai.ce)<=1000000):
 yP c es=ae8 (aei (ae7 es=ae7 c.ai.ce/\ ∀i,i<ae7 c.ai.ce->(c.ai.ce[i]!).2∈es)):=by
 unfold yP gB ie;simp only [aA]
 by_cases h0:(ae7 es)=ae7 c.ai.ce
 case neg=>rw [dR (by omega),lm,aC (fun q=>h0 q.1)]
 rw [dp (by omega),lc];have key:=iD (body:=bP) (fun i=>(c.ai.ce,es,((ae7 c.ai.ce):Int),(i:Int))) (ae7 c.ai.ce) (fun i=>(c.ai.ce[i]!).2∉es) (fun i=>(i:Int)) (e:= -1) (fun i hi=>by
  unfold bP Aj;simp only [aE (show (i:Int)<((ae7 c.ai.ce):Int) by omega),lc,ax c.ai.ce i hi,aj,m9 es _ h1,aV (show i<1000000000 by omega)];refine ⟨fun q=>?_,fun q=>?_⟩
  · rw [aC q];rfl
  · rw [aE (rc.1 q)];rfl) (by
  unfold bP;simp only [aC (show¬((ae7 c.ai.ce):Int)<((ae7 c.ai.ce):Int) by omega),lm])
 by_cases hx: ∀i,i<ae7 c.ai.ce->(c.ai.ce[i]!).2∈es
 · rw [show ay bP (c.ai.ce,es,((ae7 c.ai.ce):Int),0)=_ from key.2 (fun i hi=>rc.2 (hx i hi)),aj,aj,aC (by omega),aE ⟨h0,hx⟩]
   rfl
 obtain ⟨i,hi⟩:=EQ.1 hx
 obtain ⟨hi,hn⟩:=IR.1 hi;obtain ⟨m,m1,m2,m3⟩:=least (c:=fun i=>(c.ai.ce[i]!).2∉es) ⟨i,hi,hn⟩;rw [show ay bP (c.ai.ce,es,((ae7 c.ai.ce):Int),0)=_ from key.1 m m1 m2 m3,aj,aj,aE (by omega),aC (fun w=>hx w.2)];rfl
theorem GX {α:Type} [BEq α] [LawfulBEq α]: ∀{a b:List α},a.Nodup->(∀x∈a,x∈b)->ae7 a<=ae7 b
 | [],_,_,_=>adc _
 |x::a,b,hd,h=>by rw [ad5] at hd;have hx:=h x adC;have:=GX (a:=a) (b:=b.erase x) hd.2 (fun y hy=>by rw [List.mem_erase_of_ne (fun e=>hd.1 (by rw [<- e];exact hy))];exact h y (If _ hy));rw [List.length_erase_of_mem hx] at this;have:=List.length_pos_of_mem hx;rw [adK];omega
theorem MJ {α:Type} [BEq α] [LawfulBEq α] {a b:List α} (ha:a.Nodup) (hb:b.Nodup) (h1: ∀x∈a,x∈b) (h2: ∀x∈b,x∈a):a.Perm b:=tF ha h1 (GX hb h2)
theorem Ko {f:List Pt} {m:Nat} {p q:Pt}:q∈tH f m p↔q=p\/q∈f:=by
 unfold tH;rw [acl,adA];constructor
 · rintro (h|h|h)
   · exact .inr (ad6 h)
   · exact .inl h
   exact .inr (ad9 h)
 rintro (h|h)
 · exact .inr (.inl h)
 rw [<- List.take_append_drop m f] at h
 rcases acl.1 h with h|h
 · exact .inl h
 exact .inr (.inr h)
theorem IU {f:List Pt} (hs:gi f) {q:Nat} (hq:q<ae7 f) {p:Pt}:p∈f.eraseIdx q↔p∈f/\p.1≠(f[q]!).1:=by
 rw [List.mem_eraseIdx_iff_getElem];constructor
 · rintro ⟨i,hi,dW,rfl⟩
   refine ⟨List.getElem_mem _,fun e=>?_⟩;rw [<- getElem!_pos f i hi] at e;rcases ut i q with c|c|c
   · have:=eV hs c hq;omega
   · exact dW c
   have:=eV hs c hi;omega
 rintro ⟨hp,dW⟩
 obtain ⟨i,hi,rfl⟩:=aO.1 hp;refine ⟨i,hi,fun e=>dW (by rw [e]),?_⟩;rw [getElem!_pos f i hi]
theorem MK {f:List Pt} (hs:gi f) {q:Pt} (h:q∈f):gl f q.1=q:=by obtain ⟨i,hi,rfl⟩:=aO.1 h;exact xz hs hi rfl
theorem ade {f:List Pt} {q:Nat} (hq:q<ae7 f) {p:Pt} (he:(f[q]!).1=p.1):iY (f.set q p)=iY f:=by
 unfold iY;rw [List.map_set,<- he];refine List.ext_getElem? fun j=>?_
 rw [adG];split
 · rename_i h
   subst h;rw [ls (by rw [List.length_map];exact hq),List.getElem?_map,List.getElem?_eq_getElem hq,getElem!_pos _ q hq];rfl
 rfl
def aX (p w:List Int) (i:Nat):Int:=if i<(ae7 w) then w[i]! else p[i-(ae7 w)]!
def ig (i j:Nat):Prop:= ∃d,(j+1) / 2^d=i+1
theorem ig.refl (i:Nat):ig i i:=⟨0,by simp⟩
theorem oj {i k j:Nat} (hk:k=2*i+1\/k=2*i+2) (h:ig k j):ig i j:=by obtain ⟨d,hd⟩:=h;refine ⟨d+1,?_⟩;rw [adI,<- Do,hd];omega
theorem EF {a b c d:Nat} (h:a<=b) (hc:(c+1) / 2^a=d):(c+1) / 2^b=d / 2^(b-a):=by
 have:2^b=2^a*2^(b-a):=by rw [<- Nat.pow_add];congr 1;omega
 rw [this,<- Do,hc]
theorem ML {x e:Nat} (he:0<e):x / 2^e<=x / 2:=by obtain ⟨k,rfl⟩: ∃k,e=k+1:=⟨e-1,by omega⟩;rw [show 2^(k+1)=2*2^k by rw [adI];omega,<- Do];exact Nat.div_le_self _ _
theorem q8 {i j:Nat} (h1:ig (2*i+1) j) (h2:ig (2*i+2) j):False:=by
 obtain ⟨a,ha⟩:=h1;obtain ⟨b,hb⟩:=h2;rcases ut a b with h|h|h
 · have:=EF (adJ h) ha
   have:=ML (x:=2*i+1+1) (e:=b-a) (by omega);omega
 · subst h;omega
 have:=EF (adJ h) hb
 have:=ML (x:=2*i+2+1) (e:=a-b) (by omega);omega
theorem VG {i k j1 j2:Nat} (h1:ig (2*i+1) j1) (h2:ig (2*i+2) j2) (g:(ig (2*k+1) j1/\ig (2*k+2) j2)\/(ig (2*k+1) j2/\ig (2*k+2) j1)):i=k:=by
 have main: ∀{i k j1 j2:Nat},ig (2*i+1) j1\/ig (2*i+2) j1->ig i j2->(ig (2*k+1) j1/\ig (2*k+2) j2)\/(ig (2*k+1) j2/\ig (2*k+2) j1)-> ∀a a':Nat,(j1+1) / 2^a=i+1->(j1+1) / 2^a'=k+1->a<a'->False:=by
  intro i k j1 j2 _ u2 g a a' ha Fl dV;have e:=EF (adJ dV) ha;rw [Fl] at e;obtain ⟨c,hc⟩: ∃c,a'-a=c+1:=⟨a'-a-1,by omega⟩;rw [hc,adI,<- Do] at e;have q: ∃m,(i+1) / 2^c=m+1/\(m=2*k+1\/m=2*k+2):=⟨(i+1) / 2^c-1,by omega,by omega⟩;obtain ⟨m,hm,hmk⟩:=q;have um: ∀j,ig i j->ig m j:=fun j ⟨d,hd⟩=>⟨d+c,by rw [EF (Nat.le_add_right d c) hd,show d+c-d=c by omega,hm]⟩
  have u1:ig i j1:=⟨a,ha⟩;have v1:=um _ u1;have v2:=um _ u2;rcases hmk with rfl|rfl
  · rcases g with g|g
    · exact q8 v2 g.2
    exact q8 v1 g.2
  rcases g with g|g
  · exact q8 g.1 v1
  exact q8 g.1 v2
 have i1:ig i j1:=oj (.inl rfl) h1;have i2:ig i j2:=oj (.inr rfl) h2;have k1:ig k j1:=by rcases g with g|g;exact oj (.inl rfl) g.1;exact oj (.inr rfl) g.2
 have k2:ig k j2:=by rcases g with g|g;exact oj (.inr rfl) g.2;exact oj (.inl rfl) g.1
 obtain ⟨a,ha⟩:=i1;obtain ⟨a',Fl⟩:=k1;rcases ut a a' with h|h|h
 · exact (main (.inl h1) i2 g a a' ha Fl h).elim
 · subst h;omega
 exact (main (i:=k) (k:=i) (j1:=j1) (j2:=j2) (by rcases g with g|g;exact .inl g.1;exact .inr g.2) k2 (.inl ⟨h1,h2⟩) a' a Fl ha h).elim
def vA (p w:List Int):Prop:= ∀i,i<ae7 w->w[i]! =aX p w (2*i+1)\/w[i]! =aX p w (2*i+2)
theorem xB {p w:List Int} (hl:(ae7 w)+1=ae7 p) (hc:vA p w): ∀(d i:Nat),ae7 w+ae7 p-i<=d->i<ae7 w+ae7 p-> ∃j,ae7 w<=j/\j<ae7 w+ae7 p/\ig i j/\p[j-(ae7 w)]! =aX p w i:=by
 intro d
 induction d with
 |zero=>intro i h1 h2;omega
 |succ d ih=>
  intro i h1 h2
  by_cases hi:i<ae7 w
  · rcases hc i hi with e|e
    · obtain ⟨j,j1,j2,j3,j4⟩:=ih (2*i+1) (by omega) (by omega)
      refine ⟨j,j1,j2,oj (.inl rfl) j3,?_⟩;rw [j4,<- e];unfold aX;rw [ls hi]
    obtain ⟨j,j1,j2,j3,j4⟩:=ih (2*i+2) (by omega) (by omega)
    refine ⟨j,j1,j2,oj (.inr rfl) j3,?_⟩;rw [j4,<- e];unfold aX;rw [ls hi]
  refine ⟨i,by omega,h2,.refl i,?_⟩
  unfold aX;rw [lw hi]
def zS (p:List Int):Prop:= ∀i j,i<j->j<ae7 p->p[i]! =p[j]!->p[i]!<0
theorem zS.inj {p:List Int} (h:zS p) {i j:Nat} (hi:i<ae7 p) (hj:j<ae7 p) (e:p[i]! =p[j]!) (h0:0<=p[i]!):i=j:=by
 rcases ut i j with k|k|k
 · have:=h i j k hj e;omega
 · exact k
 have:=h j i k hi e.symm;rw [<- e] at this;omega
section
variable {p w : List Int} (hl : (ae7 w) + 1 = (ae7 p)) (hc : vA p w) (ho : zS p)
include hl hc
theorem gK {i:Nat} (hi:i<ae7 w+ae7 p):aX p w i∈p:=by obtain ⟨j,j1,j2,_,e⟩:=xB hl hc _ i (ww _) hi;rw [<- e];exact bn (by omega)
include ho
theorem zN {i:Nat} (hi:i<ae7 w) (h0:0<=aX p w (2*i+1)):aX p w (2*i+1)≠aX p w (2*i+2):=by
 intro e;obtain ⟨j,j1,j2,j3,j4⟩:=xB hl hc _ (2*i+1) (ww _) (by omega);obtain ⟨k,k1,k2,k3,k4⟩:=xB hl hc _ (2*i+2) (ww _) (by omega);have:=ho.inj (i:=j-(ae7 w)) (j:=k-(ae7 w)) (by omega) (by omega) (by rw [j4,k4,e]) (by rw [j4];exact h0);obtain rfl:j=k:=by omega
 exact q8 j3 k3
theorem VH {i k:Nat} (hi:i<ae7 w) (hk:k<ae7 w) (h1:0<=aX p w (2*i+1)) (h2:0<=aX p w (2*i+2))
 (g:(aX p w (2*k+1)=aX p w (2*i+1)/\aX p w (2*k+2)=aX p w (2*i+2))\/(aX p w (2*k+1)=aX p w (2*i+2)/\aX p w (2*k+2)=aX p w (2*i+1))):i=k:=by
 obtain ⟨j1,a1,a2,a3,a4⟩:=xB hl hc _ (2*i+1) (ww _) (by omega);obtain ⟨j2,b1,b2,b3,b4⟩:=xB hl hc _ (2*i+2) (ww _) (by omega);obtain ⟨l1,c1,c2,c3,c4⟩:=xB hl hc _ (2*k+1) (ww _) (by omega);obtain ⟨l2,d1,d2,d3,d4⟩:=xB hl hc _ (2*k+2) (ww _) (by omega);have same: ∀{x y:Nat},ae7 w<=x->x<ae7 w+ae7 p->ae7 w<=y->y<ae7 w+ae7 p->p[x-(ae7 w)]! =p[y-(ae7 w)]!->0<=p[x-(ae7 w)]!->x=y:=fun {x y} hx hx' hy hy' e h0=>by have:=ho.inj (i:=x-(ae7 w)) (j:=y-(ae7 w)) (by omega) (by omega) e h0;omega
 refine VG a3 b3 ?_;rcases g with ⟨g1,g2⟩|⟨g1,g2⟩
 · have e1:j1=l1:=same a1 a2 c1 c2 (by rw [a4,c4,g1]) (by rw [a4];exact h1)
   have e2:j2=l2:=same b1 b2 d1 d2 (by rw [b4,d4,g2]) (by rw [b4];exact h2);subst e1 e2;exact .inl ⟨c3,d3⟩
 have e1:j2=l1:=same b1 b2 c1 c2 (by rw [b4,c4,g1]) (by rw [b4];exact h2)
 have e2:j1=l2:=same a1 a2 d1 d2 (by rw [a4,d4,g2]) (by rw [a4];exact h1);subst e1 e2;exact .inr ⟨c3,d3⟩
end
noncomputable def tI (f:List Pt) (t:Int×Int) (x y:Int):Int:=if x<0 then y else if y<0 then x else if leads (gl f x) (gl f y) t then x else y
theorem Qp (f:List Pt) (t:Int×Int) (x y:Int):tI f t x y=x\/tI f t x y=y:=by
 unfold tI;split
 · exact .inr rfl
 split
 · exact .inl rfl
 split
 · exact .inl rfl
 exact .inr rfl
def Cr (f:List Pt) (t:Int×Int) (p w:List Int):Prop:=ae7 w+1=ae7 p/\ ∀i,i<ae7 w->w[i]! =tI f t (aX p w (2*i+1)) (aX p w (2*i+2))
theorem Cr.mS {f:List Pt} {t:Int×Int} {p w:List Int} (h:Cr f t p w):vA p w:=fun i hi=>by rw [h.2 i hi];exact Qp ..
noncomputable def IV (f:List Pt) (t:Int×Int) (p:List Int):Nat->List Int->List Int
 |0,w=>w
 |i+1,w=>IV f t p i (w.set i (tI f t (aX p w (2*i+1)) (aX p w (2*i+2))))
noncomputable def bD (f:List Pt) (t:Int×Int) (p:List Int):List Int:=IV f t p (ae7 p-1) (ady (ae7 p-1) 0)
theorem IW {p w:List Int} {i k:Nat} {v:Int} (h:i≠k):aX p (w.set i v) k=aX p w k:=by
 unfold aX;rw [v6];split
 · rw [aU,lw (fun x=>h x.1.symm)]
 rfl
theorem IX {f:List Pt} {t:Int×Int} {p:List Int}: ∀(n:Nat) (w:List Int),n<=ae7 w->(∀i,n<=i->i<ae7 w->w[i]! =tI f t (aX p w (2*i+1)) (aX p w (2*i+2)))->
 (IV f t p n w).length=ae7 w/\ ∀i,i<ae7 w->(IV f t p n w)[i]! =tI f t (aX p (IV f t p n w) (2*i+1)) (aX p (IV f t p n w) (2*i+2))
 |0,w,_,h=>⟨rfl,fun i hi=>h i (adc _) hi⟩
 |n+1,w,hn,h=>by
  have ih:=IX n (w.set n (tI f t (aX p w (2*n+1)) (aX p w (2*n+2)))) (by rw [v6];omega) (fun i h1 h2=>by
   rw [v6] at h2;rw [IW (by omega),IW (by omega),aU];split
   · rename_i e;rw [e.1]
   exact h i (by omega) h2)
  rw [v6] at ih;exact ih
theorem cZ {f:List Pt} {t:Int×Int} {p:List Int} (hp:1<=ae7 p):Cr f t p (bD f t p):=by have:=IX (f:=f) (t:=t) (p:=p) (ae7 p-1) (ady (ae7 p-1) 0) (by rw [pp];omega) (fun i h1 h2=>by rw [pp] at h2;omega);rw [pp] at this;have hl:(bD f t p).length=ae7 p-1:=this.1;exact ⟨by omega,fun i hi=>this.2 i (by omega)⟩
theorem IY {f:List Pt} {t:Int×Int} {p w v:List Int} (h:Cr f t p w) (g:Cr f t p v):w=v:=by
 have hl:(ae7 w)=(ae7 v):=by have:=h.1;have:=g.1;omega
 have key: ∀(d i:Nat),ae7 w-i<=d->i<ae7 w->w[i]! =v[i]!:=by
  intro d
  induction d with
  |zero=>intro i h1 h2;omega
  |succ d ih=>
   intro i _ hi;have nd: ∀k,i<k->aX p w k=aX p v k:=fun k hk=>by
    unfold aX;rw [hl];split
    · rename_i h';exact ih k (by omega) (by omega)
    rfl
   rw [h.2 i hi,g.2 i (by omega),nd _ (by omega),nd _ (by omega)]
 exact qW hl fun i hi=>key _ i (ww _) hi
noncomputable def rL (p w:List Int) (i:Nat):Option (Int×Int):=
 if aX p w (2*i+1)<0\/aX p w (2*i+2)<0 then none
 else if w[i]! =aX p w (2*i+1) then ae8 (aX p w (2*i+2),aX p w (2*i+1)) else ae8 (aX p w (2*i+1),aX p w (2*i+2))
noncomputable def fw (p w:List Int):List (Int×Int):=(List.range (ae7 w)).filterMap (rL p w)
theorem GY (p w:List Int):(fw p w).length<=(ae7 w):=by
 have:=List.length_filterMap_le (rL p w) (List.range (ae7 w))
 rwa [List.length_range] at this
theorem Bf {p w:List Int} {e:Int×Int}:e∈fw p w↔ ∃i,i<ae7 w/\rL p w i=ae8 e:=by
 unfold fw;rw [adF];constructor
 · rintro ⟨i,hi,h⟩;exact ⟨i,NE.1 hi,h⟩
 rintro ⟨i,hi,h⟩;exact ⟨i,NE.2 hi,h⟩
theorem tJ {p w:List Int} {i:Nat} {e:Int×Int} (h:rL p w i=ae8 e):0<=aX p w (2*i+1)/\0<=aX p w (2*i+2)/\
 ((e=(aX p w (2*i+2),aX p w (2*i+1))/\w[i]! =aX p w (2*i+1))\/(e=(aX p w (2*i+1),aX p w (2*i+2))/\w[i]!≠aX p w (2*i+1))):=by
 unfold rL at h;split at h
 · cases h
 rename_i hn
 refine ⟨by omega,by omega,?_⟩;split at h
 · rename_i h1;injection h with h;exact .inl ⟨h.symm,h1⟩
 rename_i h1;injection h with h;exact .inr ⟨h.symm,h1⟩
theorem xT {α β:Type} {g:α->Option β}: ∀{l:List α},l.Nodup->(∀x∈l,∀y∈l,∀b,g x=ae8 b->g y=ae8 b->x=y)->(l.filterMap g).Nodup
 | [],_,_=> .nil
 |a::r,h,hi=>by
  obtain ⟨h1,h2⟩:=ad5.1 h;have ih:=xT (g:=g) h2 (fun x hx y hy b e1 e2=>hi x (If _ hx) y (If _ hy) b e1 e2);cases hg:g a with
  |none=>rw [List.filterMap_cons_none hg];exact ih
  |some b=>rw [List.filterMap_cons_some hg];refine ad5.2 ⟨fun hb=>?_,ih⟩;obtain ⟨y,hy,e⟩:=adF.1 hb;have:=hi a (adC ..) y (If _ hy) b hg e;subst this;exact h1 hy
theorem Kp {p w:List Int} (hl:(ae7 w)+1=ae7 p) (hc:vA p w) (ho:zS p):(fw p w).Nodup:=by
 refine xT List.nodup_range fun i hi k hk b e1 e2=>?_
 have hi:=NE.1 hi;have hk:=NE.1 hk;obtain ⟨a1,a2,a3⟩:=tJ e1;obtain ⟨b1,b2,b3⟩:=tJ e2;refine VH hl hc ho hi hk a1 a2 ?_;rcases a3 with ⟨rfl,_⟩|⟨rfl,_⟩<;>rcases b3 with ⟨h,_⟩|⟨h,_⟩<;>(injection h with h1 h2)
 · exact .inl ⟨h2.symm,h1.symm⟩
 · exact .inr ⟨h1.symm,h2.symm⟩
 · exact .inr ⟨h2.symm,h1.symm⟩
 exact .inl ⟨h1.symm,h2.symm⟩
theorem R5 {f:List Pt} (cL:bC f) {p w:List Int} (hl:(ae7 w)+1=ae7 p) (hn:(ae7 p)<=64) (hc:vA p w) (ho:zS p) (hk: ∀x∈p,0<=x->gx f x):Co f (fw p w):=by
 have hp: ∀e∈fw p w,iX f e/\e.1≠e.2:=fun e he=>by
  obtain ⟨i,hi,h⟩:=Bf.1 he;obtain ⟨a1,a2,a3⟩:=tJ h;have m1:=gK hl hc (i:=2*i+1) (by omega);have m2:=gK hl hc (i:=2*i+2) (by omega);have ne:=zN hl hc ho hi a1;rcases a3 with ⟨rfl,_⟩|⟨rfl,_⟩
  · exact ⟨⟨hk _ m2 a2,hk _ m1 a1⟩,fun h=>ne h.symm⟩
  exact ⟨⟨hk _ m1 a1,hk _ m2 a2⟩,ne⟩
 refine ⟨by have:=GY p w;omega,fun e he=>?_,fun e he=>(hp e he).1⟩;obtain ⟨⟨h1,h2⟩,ne⟩:=hp e he;obtain ⟨⟨p1,p2⟩,q1,q2⟩:=And.intro (di cL h1) (di cL h2);unfold eY at p1 q1;unfold fL;omega
section
variable {P : Int -> Int -> Prop} {S : Int -> Prop} {bit : Int -> Nat -> Nat}
end
theorem GZ {α:Type} (z:α): ∀(l:List (Int×α)) (k:Int) (a:α) (j:Int),qG z (pq l k a) j=if j=k then a else qG z l j
 | [],k,a,j=>by
  simp only [pq,qG]
  by_cases h:j=k
  · rw [ls h,dp h];rfl
  rw [lw h,dR h];rfl
 |p::l,k,a,j=>by
  simp only [pq]
  by_cases h:k=p.1
  · rw [dp h,lc]
    simp only [qG]
    by_cases c:j=k
    · rw [ls c,dp c];rfl
    rw [lw c,dR c,lm,dR (by rw [<- h];exact c),lm]
  rw [dR h,lm]
  simp only [qG];rw [GZ z l k a j]
  by_cases c:j=p.1
  · rw [dp c,lc,lc,lw (by rw [c];exact fun e=>h e.symm)]
  rw [dR c,lm,lm]
section
variable {f : List Pt} {t : Int × Int}
end
def Dx (f:List Pt) (x:Int):Prop:=x= -1\/(0<=x/\gx f x)
theorem Dx.has {f:List Pt} {x:Int} (h:Dx f x) (h0:0<=x):gx f x:=by rcases h with h|h;omega;exact h.2
theorem om {p w:List Int} {i:Nat} (hi:i<ae7 w+ae7 p) (hb:(ae7 w)+ae7 p<=1000):iR ⟨p,w⟩ (i:Int)=ae8 (aX p w i):=by
 unfold iR aX;simp only [aA]
 by_cases h:i<ae7 w
 · rw [aE (by omega),lc,ax w i h,aj,ls h]
 rw [aC (by omega),lm,jI ⟨by omega,by omega⟩,show (i:Int) - ((ae7 w):Int)=((i-(ae7 w):Nat):Int) by omega,ax p _ (by omega),aj,lw h]
theorem k9 {p w:List Int} {i:Nat} (hi:i<ae7 w+ae7 p) (hb:(ae7 w)+ae7 p<=1000):fY ⟨p,w⟩ (i:Int)=ae8 (aX p w i):=by
 unfold fY aX;have e:aa .i64 ((i:Int) - ((ae7 w):Int))=(i:Int) - ((ae7 w):Int):=jI ⟨by omega,by omega⟩;simp only [aA,e]
 by_cases h:i<ae7 w
 · rw [aC (by omega),lm,ax w i h,aj,ls h]
 rw [aE (by omega),lc,show (i:Int) - ((ae7 w):Int)=((i-(ae7 w):Nat):Int) by omega,ax p _ (by omega),aj,lw h]
theorem nL {i:Nat} (h:i<1000) (k:Nat) (hk:k<=2):aa .i64 ((aa .i64 (2*(i:Int)))+(k:Int))=((2*i+k:Nat):Int):=by rw [jI (n:=2*(i:Int)) ⟨by omega,by omega⟩,jI ⟨by omega,by omega⟩];omega
theorem Cs {f:List Pt} (cL:bC f) {t:Int×Int} (kS:lM t) {x y:Int} (hx:Dx f x) (hy:Dx f y):sI ⟨f⟩ t x y=ae8 (tI f t x y):=by
 unfold sI tI
 by_cases h1:x<0
 · rw [aE h1,lc,ls h1]
 rw [aC h1,lm,lw h1]
 by_cases h2:y<0
 · rw [aE h2,lc,ls h2]
 rw [aC h2,lm,lw h2];have p1:=hx.has (by omega);have p2:=hy.has (by omega);obtain ⟨j,j1,j2,j3⟩:=xA cL p1;obtain ⟨k,k1,k2,k3⟩:=xA cL p2;simp only [j2,k2,aj,ax f j j1,ax f k k1,j3,k3,Gk (di cL p1).1 (di cL p2).1 kS]
 by_cases h:leads (gl f x) (gl f y) t
 · rw [aE h,lc,ls h]
 rw [aC h,lm,lw h]
theorem G0:c6=aP:=rfl
theorem pS {f:List Pt} (cL:bC f) {x:Int} (h:gx f x): ∃k,k<ae7 f/\jq ⟨f⟩ x=ae8 ((k:Int),aeb)/\f[k]! =gl f x:=by have h1:=cL.1;have bs:=qp f x (by omega) (fun i j=>eV cL.2.2);obtain ⟨k,hk,he⟩:=h;refine ⟨k,hk,?_,(xz cL.2.2 hk he).symm⟩;unfold jq;rw [G0,bs.1 k hk he];rfl
theorem Dy {f:List Pt} (cL:bC f) {x:Int} (h: ¬gx f x): ∃m:Nat,jq ⟨f⟩ x=ae8 ((m:Int),aeh):=by have h1:=cL.1;have bs:=qp f x (by omega) (fun i j=>eV cL.2.2);obtain ⟨m,_,_,_,e⟩:=bs.2 (fun k hk he=>h ⟨k,hk,he⟩);refine ⟨m,?_⟩;unfold jq;rw [G0,e];rfl
theorem G1 {f:List Pt} (cL:bC f) {t:Int×Int} (r:bK t) (kS:lM t) {x y:Int} (hx:Dx f x) (hy:Dx f y) (dW:0<=x->x≠y):oc ⟨f⟩ t x y=ae8 (tI f t x y):=by
 unfold oc tI
 by_cases h1:x<0
 · rw [aE (by split<;>omega),lc,ls h1]
   have:x= -1:=by rcases hx with h|h;exact h;omega
   have: -1<=y:=by rcases hy with h|h<;>omega
   congr 1
   split<;>omega
 rw [lw h1]
 by_cases h2:y<0
 · rw [aE (by split<;>omega),lc,ls h2]
   congr 1
   split<;>omega
 rw [aC (by split<;>omega),lm,lw h2];have p1:=hx.has (by omega);have p2:=hy.has (by omega);obtain ⟨j,j1,j2,j3⟩:=pS cL p1;obtain ⟨k,k1,k2,k3⟩:=pS cL p2;obtain ⟨a1,a2⟩:=di cL p1;obtain ⟨b1,b2⟩:=di cL p2;simp only [j2,k2,aj,ax f j j1,ax f k k1,j3,k3];rcases xS a1 b1 kS r with h|⟨h,_⟩
 · rw [h,aj]
   by_cases h:leads (gl f x) (gl f y) t
   · rw [ls h];dsimp only;rw [aE h,lc]
   rw [lw h];dsimp only;rw [aC h,lm]
 rw [a2,b2] at h;exact absurd h (dW (by omega))
def px (B:List Int) (i:Nat):List Int:=ady i 0++B.drop i
theorem pT {B:List Int} {i:Nat} (h:i<=ae7 B):(px B i).length=(ae7 B):=by unfold px;rw [adB,pp,adL];omega
theorem zO {B:List Int} {i k:Nat} (h:i<=k) (hi:i<=ae7 B):(px B i)[k]! =B[k]!:=by
 unfold px;rw [eK (by rw [pp];exact h),mJ,pp]
 congr 1;omega
theorem xC {p B:List Int} {i k:Nat} (h:i<=k) (hi:i<=ae7 B):aX p (px B i) k=aX p B k:=by
 unfold aX;rw [pT hi];split
 · exact zO h hi
 rfl
theorem IZ {B:List Int} {i:Nat} (h:i<ae7 B):(px B (i+1)).set i B[i]! =px B i:=by
 refine qW (by rw [v6,pT (by omega),pT (by omega)]) fun k hk=>?_
 rw [v6,pT (by omega)] at hk;rw [aU]
 by_cases e:k=i
 · rw [ls ⟨e,by rw [pT (by omega)];omega⟩,zO (by omega) (by omega),e]
 rw [lw (fun x=>e x.1)]
 by_cases h2:k<i
 · unfold px
   rw [dv (by rw [pp];omega),dv (by rw [pp];omega)];rw [getElem!_pos _ k (by rw [pp];omega),getElem!_pos _ k (by rw [pp];omega),UV,UV]
 rw [zO (by omega) (by omega),zO (by omega) (by omega)]
section
variable {f : List Pt} (cL : bC f) {t : Int × Int} (r : bK t) (kS : lM t) {p : List Int} (h1 : 1 <= (ae7 p)) (h64 : (ae7 p) <= 64) (hk : ∀ x ∈ p, Dx f x)
include cL kS h1 h64 hk
theorem EG {i:Nat} (hi:i<(bD f t p).length+ae7 p):Dx f (aX p (bD f t p) i):=by have _:=cL;have _:=kS;have _:=h64;exact hk _ (gK (cZ (f:=f) (t:=t) h1).1 (cZ h1).mS hi)
theorem OU {i:Nat} (hi:i<(bD f t p).length):
 lY ((i:Int),f,t.1,t.2,p,px (bD f t p) (i+1))=ae8 (.next ((i:Int) -1,f,t.1,t.2,p,px (bD f t p) i)):=by
 have R:=cZ (f:=f) (t:=t) (p:=p) h1;have bl:=R.1;have pl:=pT (B:=bD f t p) (i:=i+1) (by omega);unfold lY;simp only [aE (show (0:Int)<=(i:Int) by omega),lc];have k1:=nL (i:=i) (by omega) 1 (by omega);have k2:=nL (i:=i) (by omega) 2 (by omega);rw [show aa .i64 (aa .i64 (2*(i:Int))+1)=((2*i+1:Nat):Int) from k1,show aa .i64 (aa .i64 (2*(i:Int))+2)=((2*i+2:Nat):Int) from k2];rw [om (by omega) (by omega),aj,om (by omega) (by omega),aj,xC (by omega) (by omega),xC (by omega) (by omega)];rw [show sI ⟨f⟩ (t.1,t.2) _ _=_ from Cs cL kS (EG cL kS h1 h64 hk (by omega)) (EG cL kS h1 h64 hk (by omega)),aj,ax _ i (by omega),aj,<- R.2 i hi];show ae8 (Step.next (_,f,t.1,t.2,p,(px (bD f t p) (i+1)).set i _))=_;rw [IZ hi,jI ⟨by omega,by omega⟩]
theorem G2:uw ⟨f⟩ t p=ae8 ⟨p,bD f t p⟩:=by
 have R:=cZ (f:=f) (t:=t) (p:=p) h1;have bl:=R.1;have w1:aa .i64 (((ae7 p):Int) -1)=((ae7 p-1:Nat):Int):=nq (by omega) h1;have loop: ∀n:Nat,n<=(bD f t p).length->ay lY ((n:Int) -1,f,t.1,t.2,p,px (bD f t p) n)=ae8 ⟨p,bD f t p⟩:=by
  intro n
  induction n with
  |zero=>intro _;refine aI ?_;unfold lY;rw [aC (by omega),lm];rfl
  |succ n ih=>intro hn;have st:=OU cL kS h1 h64 hk (t:=t) (i:=n) (by omega);rw [show ((n+1:Nat):Int) -1=(n:Int) by omega,aT st];exact ih (by omega)
 unfold uw;simp only [bm (show (ae7 p)<=1048576 by omega),aj,aA,w1,dp rfl,lc,Gx (0:Int) (show (ae7 p)-1<=1048576 by omega),pp];have:=loop (bD f t p).length (ww _);unfold px at this;rw [adN,adP,show (bD f t p).length=ae7 p-1 by omega] at this;rw [jI (n:=((ae7 p-1:Nat):Int) -1) ⟨by omega,by omega⟩];exact this
include r
theorem Kq (ho:zS p) {i:Nat} (hi:i<(bD f t p).length):
 iI ((i:Int),f,t.1,t.2,p,px (bD f t p) (i+1))=ae8 (.next ((i:Int) -1,f,t.1,t.2,p,px (bD f t p) i)):=by
 have R:=cZ (f:=f) (t:=t) (p:=p) h1;have bl:=R.1;have pl:=pT (B:=bD f t p) (i:=i+1) (by omega);unfold iI;simp only [aE (show (0:Int)<=(i:Int) by omega),lc];have k1:=nL (i:=i) (by omega) 1 (by omega);have k2:=nL (i:=i) (by omega) 2 (by omega);rw [show aa .i64 (aa .i64 (2*(i:Int))+1)=((2*i+1:Nat):Int) from k1,show aa .i64 (aa .i64 (2*(i:Int))+2)=((2*i+2:Nat):Int) from k2];rw [k9 (by omega) (by omega),aj,k9 (by omega) (by omega),aj,xC (by omega) (by omega),xC (by omega) (by omega)];rw [show oc ⟨f⟩ (t.1,t.2) _ _=_ from G1 cL r kS (EG cL kS h1 h64 hk (by omega)) (EG cL kS h1 h64 hk (by omega)) (fun h0=>zN R.1 R.mS ho hi h0),aj,ax _ i (by omega),aj,<- R.2 i hi]
 show ae8 (Step.next (_,f,t.1,t.2,p,(px (bD f t p) (i+1)).set i _))=_;rw [IZ hi,jI ⟨by omega,by omega⟩]
theorem Dz:qg ⟨f⟩ p=ae8 aeb:=by
 have _:=r;have _:=kS;have st:=eJ (body:=mG) (fun i=>(p,((ae7 p):Int),(i:Int),f)) (ae7 p) (fun i hi=>by
  have id:=hk _ (bn hi);unfold mG;simp only [aE (show (i:Int)<((ae7 p):Int) by omega),lc,ax p i hi,aj,aV (show i<1000000000 by omega)]
  by_cases h:gx f p[i]!
  · obtain ⟨k,_,e,_⟩:=pS cL h
    rw [e,aj,lc]
  obtain ⟨m,e⟩:=Dy cL h
  rw [e,aj,lm];rcases id with id|id
  · rw [dp id];rfl
  exact absurd id.2 h)
 unfold qg;refine (show _=_ from st).trans (aI ?_);unfold mG;simp only [aC (show¬((ae7 p):Int)<((ae7 p):Int) by omega),lm];rfl
def G3 (p:List Int):Nat->List (Int×Bool)
 |0=>pq [] (-1) aeh
 |i+1=>pq (G3 p i) p[i]! (aei (0<=p[i]!))
omit cL r kS h1 h64 hk in
theorem G4 (p:List Int): ∀(i:Nat) (k:Int),qG aeh (G3 p i) k=aei (0<=k/\ ∃j,j<i/\p[j]! =k)
 |0,k=>by unfold G3;rw [GZ];rw [decide_eq_false (fun h=>by obtain ⟨_,j,hj,_⟩:=h;omega)];split<;>rfl
 |i+1,k=>by
  unfold G3;rw [GZ,G4 p i k]
  by_cases e:k=p[i]!
  · rw [ls e]
    refine decide_eq_decide.2 ⟨fun h=>⟨by omega,i,by omega,e.symm⟩,fun h=>by omega⟩
  rw [lw e]
  refine decide_eq_decide.2 ⟨fun ⟨h,j,hj,hx⟩=>⟨h,j,by omega,hx⟩,fun ⟨h,j,hj,hx⟩=>⟨h,j,?_,hx⟩⟩;rcases adH j i with h2|h2
  · exact h2
  obtain rfl:j=i:=by omega
  exact absurd hx.symm e
omit cL r kS h1 h64 hk in
theorem R6 {p:List Int} (ho:zS p) {i:Nat} (hi:i<ae7 p):qG aeh (G3 p i) p[i]! =aeh:=by
 rw [G4];refine decide_eq_false fun ⟨h0,j,hj,e⟩=>?_
 have:=ho j i hj hi e;omega
theorem wq (ho:zS p):m7 ⟨f⟩ t p=ae8 (⟨p,bD f t p⟩,0):=by
 have R:=cZ (f:=f) (t:=t) (p:=p) h1;have bl:=R.1;have w1:aa .i64 (((ae7 p):Int) -1)=((ae7 p-1:Nat):Int):=nq (by omega) h1;have loop: ∀n:Nat,n<=(bD f t p).length->ay iI ((n:Int) -1,f,t.1,t.2,p,px (bD f t p) n)=ae8 (.done (⟨p,bD f t p⟩,0)):=by
  intro n
  induction n with
  |zero=>intro _;refine aI ?_;unfold iI;rw [aC (by omega),lm];rfl
  |succ n ih=>intro hn;have st:=Kq cL r kS h1 h64 hk (t:=t) ho (i:=n) (by omega);rw [show ((n+1:Nat):Int) -1=(n:Int) by omega,aT st];exact ih (by omega)
 have fc:cY ⟨f⟩=ae8 0:=by rw [fv];exact congrArg ae8 (gg.2 cL)
 unfold m7 vd;simp only [fc,aj,bB (rfl:(0:Int)=0),lm,dZ kS,ls r,aA,aC (show¬((ae7 p):Int)<1 by omega),aC (show¬(64:Int)<((ae7 p):Int) by omega),Dz cL r kS h1 h64 hk,adz];have st:=eJ (body:=mH 0 p) (fun i=>(p,((ae7 p):Int),(i:Int),f,t.1,t.2,G3 p i)) (ae7 p) (fun i hi=>by
  unfold mH;simp only [aE (show (i:Int)<((ae7 p):Int) by omega),lc,ax p i hi,aj,R6 ho hi,adQ,adz,lm,aV (show i<1000000000 by omega)];rfl)
 refine (show _=_ from st).trans (aI ?_);unfold mH;simp only [aC (show¬((ae7 p):Int)<((ae7 p):Int) by omega),lm,bB (rfl:(0:Int)=0),bm (show (ae7 p)<=1048576 by omega),aj,aA,w1,dp rfl,lc,Gx (0:Int) (show (ae7 p)-1<=1048576 by omega),pp];have:=loop (bD f t p).length (ww _);unfold px at this;rw [adN,adP,show (bD f t p).length=ae7 p-1 by omega] at this;rw [jI (n:=((ae7 p-1:Nat):Int) -1) ⟨by omega,by omega⟩];exact this
end
end Go.Proofs.YtbgoiokedpjgbaaGreat
