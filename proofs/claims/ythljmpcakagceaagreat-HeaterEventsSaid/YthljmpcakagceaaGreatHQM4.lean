/- Plain laws (4). -/
import Derived.Test.YthljmpcakagceaaGreatHQM3
import Derived.Test.YthljmpcakagceaaGreatHQTB
import Derived.Test.YthljmpcakagceaaGreatHVm3
open List renaming length_singleton->v6,replicate->ww,length_append->AC,length_map->Do,length_take->EQ,length_drop->M2,length_replicate->NE,length_set->UV,mem_singleton->aa6,getElem_map->aak,append_nil->aal,mem_map->aaq,pairwise_iff_getElem->aay,getElem_take->aaA,append_assoc->aaE,getElem_drop->aaF,take_of_length_le->aaV,mem_append->ab1,map_append->ab5,nodup_nil->abe,pairwise_map->abp,mem_flatMap->abt,nodup_cons->abE,take_take->abQ,map->abW,length->adc
open Classical renaming not_not->If,byContradiction->aa2,not_forall->aap,not_imp->aar
open Nat renaming le_refl->IR,lt_trichotomy->PP,zero_le->aai,sub_self->aaX,not_lt_zero->aba,le_trans->abo,succ_ne_zero->abr,le_of_not_lt->abx,min_eq_left->abI,lt_irrefl->acl,lt_or_ge->acm
open Bool renaming not_true->aa9,not_false->aaw,and_self->aaS,not_eq_true'->abq,true->agc,false->agd
open Int renaming mul_right_comm->aaj,toNat_natCast->aam,le_of_eq->aas,le_of_lt->aau,mul_comm->ab0,neg_mul->abg,le_refl->abj,sub_mul->abz,mul_eq_zero->abK,not_lt->abY,mul_nonneg->acj,zero_mul->acr
open Prod.mk renaming inj->aat
open Prod renaming ext->aav
open Option renaming some->agb
open Decidable renaming decide->age
namespace Go.Proofs.YthljmpcakagceaaGreat
open Go.Vm Classical
theorem F5 (l:List (Int×Int)) (hl:(adc l)<=1048576):iN l l=agb agc:=by
 unfold iN;rw [bV rfl,pp];have:=bL (body:=jX) (fun i=>(l,l,(i:Int))) (adc l) (fun i hi=>by unfold jX;simp only [ay,aH (show (i:Int)<((adc l):Int) by omega),lw,aq l i hi,ao,ed rfl,aaS,aa9,pp,aV (show i<1000000000 by omega)]);rw [show (l,l,(0:Int))=(l,l,((0:Nat):Int)) from rfl,this];refine aC ?_;unfold jX;simp only [ay,aD (show¬((adc l):Int)<((adc l):Int) by omega),pp]
theorem IP (p q:Pt) (t:Int×Int):wR p q t=(p.2.1*t.2+p.2.2*t.1) - (q.2.1*t.2+q.2.2*t.1):=by rw [By,abz,abz];omega
theorem K0 {p q r:Pt} {t:Int×Int} (h1:leads p q t) (h2:leads q r t):leads p r t:=by unfold leads at*;rw [IP] at*;generalize p.2.1*t.2+p.2.2*t.1=a at*;generalize q.2.1*t.2+q.2.2*t.1=b at*;generalize r.2.1*t.2+r.2.2*t.1=c at*;omega
theorem yn {p q:Pt} (t:Int×Int) (h:p.1≠q.1) (hn: ¬leads p q t):leads q p t:=by unfold leads at*;rw [IP] at*;generalize p.2.1*t.2+p.2.2*t.1=a at*;generalize q.2.1*t.2+q.2.2*t.1=b at*;omega
structure SO (P:Int->Int->Prop) (S:Int->Prop):Prop where
 irr: ∀a,S a-> ¬P a a
 tr: ∀a b c,S a->S b->S c->P a b->P b c->P a c
 tot: ∀a b,S a->S b->a≠b->P a b\/P b a
abbrev par (j:Nat):Nat:=(j-1) / 2
def Hp (P:Int->Int->Prop) (l:List Int):Prop:= ∀j,0<j->j<adc l-> ¬P l[j]! l[par j]!
section
variable {P : Int -> Int -> Prop} {S : Int -> Prop}
theorem SO.up (o:SO P S) {a b c:Int} (ha:S a) (hb:S b) (hc:S c) (h1:P b c) (h2: ¬P a c): ¬P a b:=fun h=>h2 (o.tr a b c ha hb hc h h1)
end
noncomputable def lV (f:List Pt) (es:List (Int×Int)):Int:=if¬(∀x∈es,eW x) then 8 else if¬es.Nodup then 14 else if¬(∀x∈es,iy f x) then 6 else 0
def rP (c:aI) (f:List Pt) (es:List (Int×Int)) (i:Nat):=
 (es,es,((adc es):Int),(i:Int),c.ci.1,c.ci.2,c.ii.am,c.af.aL,c.af.ce,c.aa.ae.ar,c.aa.ae.be,c.aa.ae.bi,c.aa.bv,c.aa.aj,c.io,f,(0:Int),(0:Int),(0:Int))
theorem F6 {c:aI} (ok:aS c) {f:List Pt} (iI:bF f) {es:List (Int×Int)} (hl:(adc es)<=1000) {r:aI×Int} (hr:lV f es=0->pV c ⟨f⟩ es=agb r):
 ni c ⟨f⟩ es=agb (if lV f es=0 then r else (dD,lV f es)):=by
 have bd:=ok.bd;have ab:=ok.jU.bd;have sl:=ok.jU.so.fl;have sn:=ok.jU.so.n2;have su:=ok.jU.so.ul;have el:age (((adc es):Int)<((adc es):Int))=agd:=aD (by omega);have hc:fF c=agb 0:=by rw [jK ok.fit,rc ok]
 have hf:ec ⟨f⟩=agb 0:=by rw [jJ];exact congrArg agb (jT.2 iI)
 have tw:rT (aI.mk (c.ci.1,c.ci.2) (Field.mk c.ii.am) (bc.mk c.af.aL c.af.ce) (aJ.mk (aU.mk c.aa.ae.ar c.aa.ae.be c.aa.ae.bi) c.aa.bv c.aa.aj) c.io)=agb c:=by
  unfold rT;simp only [bj (show (adc c.ii.am)<=1048576 by omega),bj (show (adc c.af.ce)<=1048576 by omega),bj (show (adc c.io)<=1048576 by omega),bj (show (adc c.aa.bv)<=1048576 by omega),bj (show (adc c.aa.aj)<=1048576 by omega),
   bj (show (adc c.aa.ae.ar)<=1048576 by omega),bj (show (adc c.aa.ae.be)<=1048576 by omega),bj (show (adc c.aa.ae.bi)<=1048576 by omega),ao]
 have k3: ∀e2:aI×Int,aB dK (rP c f es 0)=agb (.done e2)->aB dL (rP c f es 0)=agb (if∀i,i<adc es->eW es[i]! then e2 else (dD,8)):=by
  intro e2 h2;refine IN (body:=dL) (fun i=>rP c f es i) (adc es) (fun i=>eW es[i]!) (r:=(dD,8)) (e:=e2) (fun i hi=>?_) ?_
  · have e1:age ((i:Int)<((adc es):Int))=agc:=aH (by omega)
    unfold dL rP eW;simp only [e1,lw,aq es i hi,ao,aV (show i<1000000000 by omega)];generalize es[i]! =x
    by_cases a1:x.1<0
    · rw [aH a1];exact ⟨fun _=>rfl,fun h=>by omega⟩
    rw [aD a1]
    by_cases a2:x.2<0
    · rw [aH a2];exact ⟨fun _=>rfl,fun h=>by omega⟩
    rw [aD a2]
    by_cases a3:65535<x.1
    · rw [aH a3];exact ⟨fun _=>rfl,fun h=>by omega⟩
    rw [aD a3]
    by_cases a4:65535<x.2
    · rw [aH a4];exact ⟨fun _=>rfl,fun h=>by omega⟩
    rw [aD a4]
    by_cases a5:x.1=x.2
    · rw [ed a5];exact ⟨fun _=>rfl,fun h=>absurd a5 h.2.2.2.2⟩
    rw [eD a5];exact ⟨fun h=>absurd ⟨by omega,by omega,by omega,by omega,a5⟩ h,fun _=>rfl⟩
  unfold dL rP
  simp only [ay,el,pp];exact h2
 have k2: ∀e1:aI×Int,aB eB (rP c f es 0)=agb (.done (.done e1))->aB dK (rP c f es 0)=agb (.done (if∀i,i<adc es->es[i]!∉es.take i then e1 else (dD,14))):=by
  intro e0 h2;have:=IN (body:=dK) (fun i=>rP c f es i) (adc es) (fun i=>es[i]!∉es.take i) (r:= .done (dD,14)) (e:= .done e0) (fun i hi=>by
   have e1:age ((i:Int)<((adc es):Int))=agc:=aH (by omega);unfold dK rP;simp only [e1,lw,aq es i hi,kF es i (by omega),ao,mz _ _ (show (es.take i).length<=1000000 by rw [EQ];omega),aV (show i<1000000000 by omega)]
   by_cases h:es[i]!∈es.take i
   · rw [aH h];exact ⟨fun _=>rfl,fun k=>absurd h k⟩
   · rw [aD h];exact ⟨fun k=>absurd h k,fun _=>rfl⟩) (by
   unfold dK rP;simp only [ay,el,pp];exact h2)
  refine this.trans ?_
  by_cases hb: ∀i,i<adc es->es[i]!∉es.take i
  · rw [rc hb,rc hb]
  rw [ut hb,ut hb]
 have Ty: ∀i,i<adc es->(¬iy f es[i]!->eB (rP c f es i)=agb (.done (.done (.done (dD,6)))))/\(iy f es[i]!->eB (rP c f es i)=agb (.next (rP c f es (i+1)))):=by
  intro i hi;have e1:age ((i:Int)<((adc es):Int))=agc:=aH (by omega);obtain ⟨p,e,a1,a2⟩:=zA iI (es[i]!).1;obtain ⟨q,g,b1,b2⟩:=zA iI (es[i]!).2;unfold eB rP iy;simp only [e1,lw,aq es i hi,ao,a1,b1,aV (show i<1000000000 by omega)]
  by_cases h1:sq f (es[i]!).1
  · rw [bV (a2.2 h1)]
    by_cases h2:sq f (es[i]!).2
    · rw [bV (b2.2 h2)]
      exact ⟨fun h=>absurd ⟨h1,h2⟩ h,fun _=>rfl⟩
    rw [dN (fun h=>h2 (b2.1 h))]
    exact ⟨fun _=>rfl,fun h=>absurd h.2 h2⟩
  rw [dN (fun h=>h1 (a2.1 h))]
  exact ⟨fun _=>rfl,fun h=>absurd h.1 h1⟩
 have start:ni c ⟨f⟩ es=aB dL (rP c f es 0):=by unfold ni;simp only [hc,ao,show ((0:Int) !=0)=agd from rfl,pp,hf];rfl
 rw [start]
 by_cases h1: ∀x∈es,eW x
 case neg=>
  have er:lV f es=8:=by unfold lV;rw [rc h1]
  rw [er,ut (by omega)];have:=cP (body:=dL) (fun i=>rP c f es i) (adc es) (fun i=> ¬eW es[i]!) (r:=(dD,8)) (e:=r);have k3':=k3;rw [Bx (P:=eW)] at h1;obtain ⟨i,h⟩:=aap.1 h1;obtain ⟨hi,hx⟩:=aar.1 h;obtain ⟨m,m1,m2,m3⟩:=least (c:=fun i=> ¬eW es[i]!) ⟨i,hi,hx⟩;have go: ∀j,j<adc es->(¬eW es[j]!->dL (rP c f es j)=agb (.done (dD,8)))/\(eW es[j]!->dL (rP c f es j)=agb (.next (rP c f es (j+1)))):=by
   intro j hj;have e1:age ((j:Int)<((adc es):Int))=agc:=aH (by omega);unfold dL rP eW;simp only [e1,lw,aq es j hj,ao,aV (show j<1000000000 by omega)];generalize es[j]! =x
   by_cases a1:x.1<0
   · rw [aH a1];exact ⟨fun _=>rfl,fun h=>by omega⟩
   rw [aD a1]
   by_cases a2:x.2<0
   · rw [aH a2];exact ⟨fun _=>rfl,fun h=>by omega⟩
   rw [aD a2]
   by_cases a3:65535<x.1
   · rw [aH a3];exact ⟨fun _=>rfl,fun h=>by omega⟩
   rw [aD a3]
   by_cases a4:65535<x.2
   · rw [aH a4];exact ⟨fun _=>rfl,fun h=>by omega⟩
   rw [aD a4]
   by_cases a5:x.1=x.2
   · rw [ed a5];exact ⟨fun _=>rfl,fun h=>absurd a5 h.2.2.2.2⟩
   rw [eD a5];exact ⟨fun h=>absurd ⟨by omega,by omega,by omega,by omega,a5⟩ h,fun _=>rfl⟩
  rw [bL (body:=dL) (fun i=>rP c f es i) m fun j hj=>(go j (by omega)).2 (If.1 (m3 j hj))];exact aC ((go m m1).1 m2)
 have Lj:=(Bx (P:=eW)).1 h1
 by_cases h2:es.Nodup
 case neg=>
  have er:lV f es=14:=by unfold lV;rw [ut (If.2 h1),rc h2]
  rw [er,ut (by omega)];have Pp:=h2;rw [F3] at Pp;obtain ⟨i,h⟩:=aap.1 Pp;obtain ⟨hi,hx⟩:=aar.1 h;obtain ⟨m,m1,m2,m3⟩:=least (c:=fun i=> ¬es[i]!∉es.take i) ⟨i,hi,hx⟩;have go: ∀j,j<adc es->(es[j]!∈es.take j->dK (rP c f es j)=agb (.done (.done (dD,14))))/\(es[j]!∉es.take j->dK (rP c f es j)=agb (.next (rP c f es (j+1)))):=by
   intro j hj;have e1:age ((j:Int)<((adc es):Int))=agc:=aH (by omega);unfold dK rP;simp only [e1,lw,aq es j hj,kF es j (by omega),ao,mz _ _ (show (es.take j).length<=1000000 by rw [EQ];omega),aV (show j<1000000000 by omega)]
   by_cases h:es[j]!∈es.take j
   · rw [aH h];exact ⟨fun _=>rfl,fun k=>absurd h k⟩
   rw [aD h];exact ⟨fun k=>absurd k h,fun _=>rfl⟩
  have l2:aB dK (rP c f es 0)=agb (.done (dD,14)):=by rw [bL (body:=dK) (fun i=>rP c f es i) m fun j hj=>(go j (by omega)).2 (If.1 (m3 j hj))];exact aC ((go m m1).1 (If.1 m2))
  rw [k3 _ l2,rc Lj]
 have Pp:=F3.1 h2
 by_cases h3: ∀x∈es,iy f x
 case neg=>
  have er:lV f es=6:=by unfold lV;rw [ut (If.2 h1),ut (If.2 h2),rc h3]
  rw [er,ut (by omega)];have h3':=h3;rw [Bx (P:=iy f)] at h3';obtain ⟨i,h⟩:=aap.1 h3';obtain ⟨hi,hx⟩:=aar.1 h;obtain ⟨m,m1,m2,m3⟩:=least (c:=fun i=> ¬iy f es[i]!) ⟨i,hi,hx⟩;have l1:aB eB (rP c f es 0)=agb (.done (.done (dD,6))):=by rw [bL (body:=eB) (fun i=>rP c f es i) m fun j hj=>(Ty j (by omega)).2 (If.1 (m3 j hj))];exact aC ((Ty m m1).1 m2)
  rw [k3 _ (k2 _ l1),rc Lj,rc Pp]
 have h3':=(Bx (P:=iy f)).1 h3;have er:lV f es=0:=by unfold lV;rw [ut (If.2 h1),ut (If.2 h2),ut (If.2 h3)]
 rw [er,rc rfl];have l1:aB eB (rP c f es 0)=agb (.done (.done r)):=by rw [bL (body:=eB) (fun i=>rP c f es i) (adc es) fun j hj=>(Ty j hj).2 (h3' j hj)];refine aC ?_;unfold eB rP;simp only [el,pp,tw,ao,hr er]
 rw [k3 _ (k2 _ l1),rc Lj,rc Pp]
theorem tk {l:List Int} {m:Nat} {x:Int} (h:(adc l)=m):(l++[x]).take m=l:=by rw [<- h,List.take_left]
section
variable {k : zq} {f : List Pt} {m n0 : Nat} {x : Int}
end
section
variable {k : zq} {P : Pt} {f : List Pt} {m : Nat}
end
end Go.Proofs.YthljmpcakagceaaGreat
namespace Go.Proofs.YthljmpcakagceaaGreat
open Go.Vm
abbrev Nd:=Int×Int×Int
structure wT (P:Nat->Nat->Prop) (a b i:Nat):Prop where
 lo:a<=i
 hi:i<b
 top: ∀j,a<=j->j<b->j≠i->P i j
inductive kz (P:Nat->Nat->Prop) (N:List Nd):Nat->Nat->Int->Prop
 |nil {a b:Nat} (h:b<=a):kz P N a b (-1)
 |node {a b i:Nat} (h:wT P a b i) (l:kz P N a i (N[i]!).2.1) (r:kz P N (i+1) b (N[i]!).2.2):kz P N a b (i:Int)
structure Tz (P:Nat->Nat->Prop) (n:Nat):Prop where
 tr: ∀i j k,i<n->j<n->k<n->P i j->P j k->P i k
 asy: ∀i j,i<n->j<n->P i j-> ¬P j i
 tot: ∀i j,i<n->j<n->i≠j-> ¬P i j->P j i
theorem wT.one {P:Nat->Nat->Prop} {n a b i j:Nat} (o:Tz P n) (hb:b<=n) (h:wT P a b i) (k:wT P a b j):i=j:=by
 refine aa2 fun dE=>?_
 have:=h.hi;have:=k.hi;exact o.asy i j (by omega) (by omega) (h.top j k.lo k.hi (fun e=>dE e.symm)) (k.top i h.lo h.hi dE)
theorem kz.link {P:Nat->Nat->Prop} {N:List Nd} {a b:Nat} {r:Int} (h:kz P N a b r):(b<=a/\r= -1)\/(∃i:Nat,r=(i:Int)/\a<=i/\i<b):=by
 cases h with
 |nil h=>exact .inl ⟨h,rfl⟩
 |node h l r=>exact .inr ⟨_,rfl,h.lo,h.hi⟩
theorem kz.unique {P:Nat->Nat->Prop} {n:Nat} (o:Tz P n) {N N':List Nd} {a b:Nat} {r:Int} (h:kz P N a b r): ∀{r':Int},b<=n->kz P N' a b r'->r=r'/\ ∀k,a<=k->k<b->(N[k]!).2=(N'[k]!).2:=by
 induction h with
 |nil h=>
  intro r' hb h';cases h' with
  |nil _=>exact ⟨rfl,fun k h1 h2=>by omega⟩
  |node t _ _=>have:=t.lo;have:=t.hi;omega
 | @node a b i h l r ZT ZU=>
  intro r' hb h';have lo:=h.lo;have hi:=h.hi;cases h' with
  |nil q=>omega
  | @node _ _ j t l' r'=>
   have e:=h.one o hb t;subst e;obtain ⟨e1,f1⟩:=ZT (by omega) l';obtain ⟨e2,f2⟩:=ZU hb r';refine ⟨rfl,fun k h1 h2=>?_⟩;rcases PP k i with q|q|q
   · exact f1 k h1 q
   · subst q;exact aav e1 e2
   exact f2 k (by omega) h2
theorem kz.frame {P:Nat->Nat->Prop} {N N':List Nd} {a b:Nat} {r:Int} (h:kz P N a b r):(∀k,a<=k->k<b->(N[k]!).2=(N'[k]!).2)->kz P N' a b r:=by
 induction h with
 |nil h=>exact fun _=> .nil h
 | @node a b i h l r ZT ZU=>
  intro f;have lo:=h.lo;have hi:=h.hi;have e:=f i lo hi;refine .node h ?_ ?_
  · rw [<- e];exact ZT fun k h1 h2=>f k h1 (by omega)
  rw [<- e];exact ZU fun k h1 h2=>f k (by omega) h2
theorem kz.other {P Q:Nat->Nat->Prop} {n:Nat} (o:Tz Q n) {N:List Nd} {a b:Nat} {r:Int} (h:kz P N a b r):b<=n->(∀k j:Nat,a<=k->k<b->a<=j->j<b->((N[k]!).2.1=(j:Int)\/(N[k]!).2.2=(j:Int))->Q k j)->kz Q N a b r:=by
 induction h with
 |nil h=>exact fun _ _=> .nil h
 | @node a b i h l r ZT ZU=>
  intro hb q;have lo:=h.lo;have hi:=h.hi;have tl:=ZT (by omega) fun k j h1 h2 h3 h4=>q k j h1 (by omega) h3 (by omega)
  have tr:=ZU hb fun k j h1 h2 h3 h4=>q k j (by omega) h2 (by omega) h4
  refine .node ⟨lo,hi,fun j h1 h2 dE=>?_⟩ tl tr;rcases acm j i with hj|hj
  · generalize hr:(N[i]!).2.1=s at tl
    cases tl with
    |nil q=>omega
    | @node _ _ m t _ _=>
     have t1:=t.lo;have t2:=t.hi;have qm:=q i m lo hi t1 (by omega) (.inl hr)
     by_cases e:j=m
     · rw [e];exact qm
     exact o.tr i m j (by omega) (by omega) (by omega) qm (t.top j h1 hj e)
  generalize hr:(N[i]!).2.2=s at tr
  cases tr with
  |nil q=>omega
  | @node _ _ m t _ _=>
   have t1:=t.lo;have t2:=t.hi;have qm:=q i m lo hi (by omega) t2 (.inr hr)
   by_cases e:j=m
   · rw [e];exact qm
   exact o.tr i m j (by omega) (by omega) (by omega) qm (t.top j (by omega) h2 e)
theorem kz.kids {P:Nat->Nat->Prop} {N:List Nd} {a b:Nat} {r:Int} (h:kz P N a b r): ∀k,a<=k->k<b-> ∀c:Int,((N[k]!).2.1=c\/(N[k]!).2.2=c)->c= -1\/ ∃j:Nat,c=(j:Int)/\a<=j/\j<b/\j≠k/\P k j/\r≠c:=by
 induction h with
 |nil h=>intro k h1 h2;omega
 | @node a b i h l r ZT ZU=>
  have lo:=h.lo;have hi:=h.hi;intro k h1 h2 c hc;rcases PP k i with q|q|q
  · rcases ZT k h1 q c hc with e|⟨j,e,j1,j2,j3,j4,_⟩
    · exact .inl e
    exact .inr ⟨j,e,j1,by omega,j3,j4,by rw [e];omega⟩
  · subst q
    rcases hc with hc|hc
    · rcases l.link with ⟨_,e⟩|⟨j,e,j1,j2⟩
      · exact .inl (hc▸e)
      exact .inr ⟨j,hc▸e,j1,by omega,by omega,h.top j j1 (by omega) (by omega),by rw [<- hc,e];omega⟩
    rcases r.link with ⟨_,e⟩|⟨j,e,j1,j2⟩
    · exact .inl (hc▸e)
    exact .inr ⟨j,hc▸e,by omega,j2,by omega,h.top j (by omega) j2 (by omega),by rw [<- hc,e];omega⟩
  rcases ZU k (by omega) h2 c hc with e|⟨j,e,j1,j2,j3,j4,_⟩
  · exact .inl e
  exact .inr ⟨j,e,by omega,j2,j3,j4,by rw [e];omega⟩
theorem kz.up {P:Nat->Nat->Prop} {N:List Nd} {a b:Nat} {r:Int} (h:kz P N a b r): ∀k:Nat,a<=k->k<b->(k:Int)≠r-> ∃j,a<=j/\j<b/\((N[j]!).2.1=(k:Int)\/(N[j]!).2.2=(k:Int))/\ ∀m,a<=m->m<b->((N[m]!).2.1=(k:Int)\/(N[m]!).2.2=(k:Int))->m=j:=by
 induction h with
 |nil h=>intro k h1 h2;omega
 | @node a b i h l r ZT ZU=>
  have lo:=h.lo;have hi:=h.hi;have lk:=l.kids;have rk:=r.kids;intro k h1 h2 dE;have hki:k≠i:=fun e=>dE (by rw [e])
  rcases acm k i with q|q
  · by_cases er:(k:Int)=(N[i]!).2.1
    · refine ⟨i,lo,hi,.inl er.symm,fun m m1 m2 hm=>?_⟩
      rcases PP m i with w|w|w
      · rcases lk m m1 w _ hm with e|⟨j,e,_,_,_,_,hr⟩
        · omega
        exact absurd er.symm hr
      · exact w
      rcases rk m (by omega) m2 _ hm with e|⟨j,e,j1,_⟩<;>omega
    obtain ⟨j,j1,j2,j3,j4⟩:=ZT k h1 q er
    refine ⟨j,j1,by omega,j3,fun m m1 m2 hm=>?_⟩;rcases PP m i with w|w|w
    · exact j4 m m1 w hm
    · subst w
      rcases hm with hm|hm
      · exact absurd hm.symm er
      rcases r.link with ⟨_,e⟩|⟨p,e,p1,p2⟩<;>omega
    rcases rk m (by omega) m2 _ hm with e|⟨p,e,p1,_⟩<;>omega
  by_cases er:(k:Int)=(N[i]!).2.2
  · refine ⟨i,lo,hi,.inr er.symm,fun m m1 m2 hm=>?_⟩
    rcases PP m i with w|w|w
    · rcases lk m m1 w _ hm with e|⟨j,e,_,j2,_⟩<;>omega
    · exact w
    rcases rk m (by omega) m2 _ hm with e|⟨j,e,_,_,_,_,hr⟩
    · omega
    exact absurd er.symm hr
  obtain ⟨j,j1,j2,j3,j4⟩:=ZU k (by omega) h2 er
  refine ⟨j,by omega,j2,j3,fun m m1 m2 hm=>?_⟩;rcases PP m i with w|w|w
  · rcases lk m m1 w _ hm with e|⟨p,e,_,p2,_⟩<;>omega
  · subst w
    rcases hm with hm|hm
    · rcases l.link with ⟨_,e⟩|⟨p,e,p1,p2⟩<;>omega
    exact absurd hm.symm er
  exact j4 m (by omega) m2 hm
inductive tn (P:Nat->Nat->Prop) (N:List Nd):Nat->Nat->Int->List Nat->Prop
 |nil {a b:Nat} (h:b<=a):tn P N a b (-1) []
 |cons {a b k:Nat} {es:List Nat} (h:wT P a b k) (l:kz P N a k (N[k]!).2.1) (r:tn P N (k+1) b (N[k]!).2.2 es):tn P N a b (k:Int) (k::es)
theorem tn.ls {P:Nat->Nat->Prop} {N:List Nd} {a b:Nat} {r:Int} {es:List Nat} (h:tn P N a b r es):kz P N a b r:=by
 induction h with
 |nil h=>exact .nil h
 |cons h l r ih=>exact .node h l ih
theorem tn.mem {P:Nat->Nat->Prop} {N:List Nd} {a b:Nat} {r:Int} {es:List Nat} (h:tn P N a b r es): ∀e∈es,a<=e/\e<b:=by
 induction h with
 |nil h=>intro e he;cases he
 |cons h l r ih=>
  intro e he;have lo:=h.lo;have hi:=h.hi;rcases List.mem_cons.1 he with rfl|he
  · exact ⟨lo,hi⟩
  have:=ih e he;omega
theorem fC {α:Type} [Inhabited α] (x:α) (l:List α) (i:Nat):(x::l)[i+1]! =l[i]!:=by simp
theorem lH {α:Type} [Inhabited α] (x:α) (l:List α):(x::l)[0]! =x:=by simp
theorem tn.chain {P:Nat->Nat->Prop} {N:List Nd} {a b:Nat} {r:Int} {es:List Nat} (h:tn P N a b r es): ∀i j,i<j->j<adc es->P es[i]! es[j]!:=by
 induction h with
 |nil h=>intro i j _ hj;cases hj
 | @cons a b k es h l r ih=>
  intro i j k9 hj;cases j with
  |zero=>omega
  |succ j=>
   rw [fC];have hj:j<(adc es):=by simpa using hj
   cases i with
   |zero=>rw [lH];have:=r.mem es[j]! (aN hj);exact h.top _ (by have:=h.lo;omega) this.2 (by omega)
   |succ i=>rw [fC];exact ih i j (by omega) hj
theorem tn.add {P:Nat->Nat->Prop} {N N':List Nd} {n:Nat} (o:Tz P n) {a b:Nat} {r:Int} {es:List Nat} (h:tn P N a b r es): ∀m,a<=b->b<n->m<=adc es->(∀j,j<m->P es[j]! b)->(∀j,m<=j->j<adc es-> ¬P es[j]! b)->
 (N'[b]!).2.1=(if m<(adc es) then (es[m]!:Int) else -1)->(N'[b]!).2.2= -1->
 (∀k,a<=k->k<b->(N'[k]!).2.1=(N[k]!).2.1/\((0<m/\k=es[m-1]!)->(N'[k]!).2.2=(b:Int))/\(¬(0<m/\k=es[m-1]!)->(N'[k]!).2.2=(N[k]!).2.2))->
 tn P N' a (b+1) (if m=0 then (b:Int) else r) (es.take m++[b]):=by
 induction h with
 | @nil a b h=>
  intro m GI hb hm _ _ hl hr _;have:m=0:=by simpa using hm
  subst this;rw [rc rfl];have hl:(N'[b]!).2.1= -1:=hl;refine .cons ⟨GI,by omega,fun j h1 h2 h3=>by omega⟩ ?_ ?_
  · rw [hl];exact .nil h
  rw [hr];exact .nil (by omega)
 | @cons a b k es h l r ih=>
  intro m GI hb hm hP hN hl hr hf;have lo:=h.lo;have hi:=h.hi;cases m with
  |zero=>
   rw [rc rfl];have hl:(N'[b]!).2.1=(k:Int):=by rw [hl,rc (by simp)];rfl
   have t:kz P N a b (k:Int):= .node h l r.ls;have nk: ¬P k b:=hN 0 (IR _) (by simp);have kb:P b k:=o.tot k b (by omega) hb (by omega) nk;refine .cons ⟨GI,by omega,fun j h1 h2 h3=>?_⟩ ?_ ?_
   · by_cases e:j=k
     · rw [e];exact kb
     exact o.tr b k j hb (by omega) (by omega) kb (h.top j h1 (by omega) e)
   · rw [hl]
     refine t.frame fun j h1 h2=>?_
     obtain ⟨f1,_,f3⟩:=hf j h1 h2;exact aav f1.symm (f3 (by omega)).symm
   rw [hr];exact .nil (by omega)
  |succ m=>
   rw [ut (by omega)];have hm:m<=(adc es):=by simpa using hm
   have pk:P k b:=by have:=hP 0 (by omega);rwa [lH] at this
   have mem:=r.mem;have top:wT P a (b+1) k:=⟨lo,by omega,fun j h1 h2 h3=>by
    by_cases e:j=b
    · rw [e];exact pk
    exact h.top j h1 (by omega) h3⟩
   have lt:kz P N' a k (N'[k]!).2.1:=by
    rw [(hf k lo hi).1];refine l.frame fun j h1 h2=>?_
    obtain ⟨f1,_,f3⟩:=hf j h1 (by omega);refine aav f1.symm (f3 (fun q=>?_)).symm;have q2:=q.2;cases m with
    |zero=>rw [show 0+1-1=0 from rfl,lH] at q2;omega
    |succ m=>rw [show m+1+1-1=m+1 from rfl,fC] at q2;have:=mem es[m]! (aN (by omega));omega
   have rt:=ih m (by omega) hb hm (fun j hj=>by have:=hP (j+1) (by omega);rwa [fC] at this) (fun j h1 h2=>by have:=hN (j+1) (by omega) (by simpa using h2);rwa [fC] at this)
    (by
     rw [hl]
     by_cases q:m<adc es
     · rw [rc q,rc (by simpa using q),fC]
     · rw [ut q,ut (by simpa using q)]) hr (fun j h1 h2=>by
     obtain ⟨f1,f2,f3⟩:=hf j (by omega) h2;refine ⟨f1,fun q=>f2 ⟨by omega,?_⟩,fun q=>f3 (fun w=>q ?_)⟩
     · obtain ⟨q1,q2⟩:=q
       rw [show m+1-1=(m-1)+1 by omega,fC];exact q2
     obtain ⟨_,w2⟩:=w
     cases m with
     |zero=>rw [show 0+1-1=0 from rfl,lH] at w2;omega
     |succ m=>rw [show m+1+1-1=m+1 from rfl,fC] at w2;exact ⟨by omega,w2⟩)
   rw [show (k::es).take (m+1)++[b]=k::(es.take m++[b]) from rfl];refine .cons top lt ?_;obtain ⟨_,f2,f3⟩:=hf k lo hi
   by_cases m0:m=0
   · subst m0
     rw [rc rfl] at rt;rw [f2 ⟨by omega,by rw [show 0+1-1=0 from rfl,lH]⟩];exact rt
   rw [ut m0] at rt
   rw [f3 (fun w=>?_)]
   · exact rt
   have w2:=w.2
   rw [show m+1-1=(m-1)+1 by omega,fC] at w2;have:=mem es[m-1]! (aN (by omega));omega
end Go.Proofs.YthljmpcakagceaaGreat
namespace Go.Proofs.YthljmpcakagceaaGreat
open Go.Vm Classical
def Gx (f:List Pt) (t:Int×Int) (i j:Nat):Prop:=leads f[i]! f[j]! t
theorem Dg {p q:Pt} {t:Int×Int} (h:leads p q t): ¬leads q p t:=by unfold leads at*;rw [IP] at*;generalize p.2.1*t.2+p.2.2*t.1=a at*;generalize q.2.1*t.2+q.2.2*t.1=b at*;omega
theorem DX {f:List Pt} (h:gR f) (t:Int×Int):Tz (Gx f t) (adc f) where
 tr:=fun _ _ _ _ _ _ h1 h2=>K0 h1 h2
 asy:=fun _ _ _ _ h=>Dg h
 tot:=fun _ _ hi hj dE hn=>yn t (fun e=>dE (mP h hi hj e)) hn
structure eM (f:List Pt) (t:Int×Int) (N:List Nd) (r:Int):Prop where
 len:(adc N)=adc f
 ids: ∀k,k<adc f->(N[k]!).1=(f[k]!).1
 ls:kz (Gx f t) N 0 (adc f) r
theorem eM.same {f:List Pt} (h:gR f) {t:Int×Int} {N N':List Nd} {r r':Int} (a:eM f t N r) (b:eM f t N' r'):N=N'/\r=r':=by
 obtain ⟨e1,e2⟩:=a.ls.unique (DX h t) (IR _) b.ls;refine ⟨ya (by rw [a.len,b.len]) fun k hk=>?_,e1⟩;have hk:k<(adc f):=by rw [<- a.len];exact hk
 exact aav (by rw [a.ids k hk,b.ids k hk]) (e2 k (aai _) hk)
def Below (N:List Nd) (k j:Nat):Prop:=(N[j]!).2.1=(k:Int)\/(N[j]!).2.2=(k:Int)
noncomputable def kX (N:List Nd) (k:Nat):Nat:=if h: ∃j,j<adc N/\Below N k j then h.choose else (adc N)
noncomputable def Dh (N:List Nd) (k:Nat):List (Int×Int):=if kX N k<(adc N) then [((N[k]!).1,(N[kX N k]!).1)] else []
noncomputable def bH (N:List Nd):Nat->List (Int×Int)
 |0=>[]
 |k+1=>bH N k++Dh N k
theorem mR (N:List Nd): ∀k,(bH N k).length<=k
 |0=>IR _
 |k+1=>by
  have:=mR N k;rw [bH,AC];unfold Dh;split
  · simp only [v6];omega
  simp only [List.length_nil];omega
theorem wE {N:List Nd}: ∀{n:Nat} {e:Int×Int},e∈bH N n↔ ∃k,k<n/\kX N k<adc N/\e=((N[k]!).1,(N[kX N k]!).1)
 |0,e=>by
  constructor
  · intro h;cases h
  rintro ⟨k,h,_⟩;omega
 |n+1,e=>by
  rw [bH,ab1,wE];constructor
  · rintro (⟨k,h1,h2⟩|h)
    · exact ⟨k,by omega,h2⟩
    unfold Dh at h
    split at h
    · exact ⟨n,by omega,by assumption,aa6.1 h⟩
    cases h
  rintro ⟨k,h1,h2,h3⟩
  by_cases q:k=n
  · subst q
    right;unfold Dh;rw [rc h2,h3];exact aa6.2 rfl
  exact .inl ⟨k,by omega,h2,h3⟩
section
variable {f : List Pt} {t : Int × Int} {N : List Nd} {r : Int}
theorem eM.par (h:eM f t N r) {k:Nat} (hk:k<adc f):((k:Int)=r->kX N k=adc N)/\((k:Int)≠r->kX N k<adc N/\Below N k (kX N k)/\kX N k≠k/\Gx f t (kX N k) k)/\ ∀m,m<adc N->Below N k m->m=kX N k:=by
 have ln:=h.len
 by_cases hr:(k:Int)=r
 · have none: ¬ ∃j,j<adc N/\Below N k j:=by
    rintro ⟨j,hj,hb⟩;rcases h.ls.kids j (aai _) (by omega) (k:Int) hb with e|⟨_,_,_,_,_,_,e⟩
    · omega
    exact e hr.symm
   have e:kX N k=(adc N):=by unfold kX;rw [dif_neg none]
   exact ⟨fun _=>e,fun q=>absurd hr q,fun m hm hb=>absurd ⟨m,hm,hb⟩ none⟩
 obtain ⟨j,_,j2,j3,j4⟩:=h.ls.up k (aai _) hk hr
 have ex: ∃j,j<adc N/\Below N k j:=⟨j,by omega,j3⟩;have e:kX N k=j:=by unfold kX;rw [dif_pos ex];have:=ex.choose_spec;exact j4 _ (aai _) (by omega) this.2
 refine ⟨fun q=>absurd q hr,fun _=>?_,fun m hm hb=>by rw [e];exact j4 m (aai _) (by omega) hb⟩;rw [e];refine ⟨by omega,j3,?_,?_⟩
 · rcases h.ls.kids j (aai _) j2 (k:Int) j3 with q|⟨i,q,_,_,q2,_⟩
   · omega
   intro w;omega
 rcases h.ls.kids j (aai _) j2 (k:Int) j3 with q|⟨i,q,_,_,_,q2,_⟩
 · omega
 have:i=k:=by omega
 rw [<- this];exact q2
theorem eM.K1 (iI:bF f) (h:eM f t N r):DW f (bH N (adc f))/\(bH N (adc f)).Nodup/\ ∀e∈bH N (adc f),leads (cd f e.2) (cd f e.1) t:=by
 have ln:=h.len;have f1:=iI.1;have inf: ∀e∈bH N (adc f),∃k j,k<adc f/\j<adc f/\j≠k/\Gx f t j k/\e=((f[k]!).1,(f[j]!).1):=by
  intro e he;obtain ⟨k,k1,k2,k3⟩:=wE.1 he;have hp:=h.par k1;have hr:(k:Int)≠r:=fun q=>by have:=hp.1 q;omega
  obtain ⟨p1,p2,p3,p4⟩:=hp.2.1 hr;exact ⟨k,kX N k,k1,by omega,p3,p4,by rw [k3,h.ids k k1,h.ids (kX N k) (by omega)]⟩
 have hb: ∀e∈bH N (adc f),iy f e:=fun e he=>by obtain ⟨k,j,k1,j1,_,_,rfl⟩:=inf e he;exact ⟨⟨k,k1,rfl⟩,⟨j,j1,rfl⟩⟩
 refine ⟨⟨abo (mR N _) (by omega),fun e he=>?_,hb⟩,?_,fun e he=>?_⟩
 · obtain ⟨⟨p1,p2⟩,q1,q2⟩:=And.intro (fu iI (hb e he).1) (fu iI (hb e he).2)
   obtain ⟨k,j,k1,j1,ne,_,rfl⟩:=inf e he;have:(f[k]!).1≠(f[j]!).1:=fun q=>ne (mP iI.2.2 k1 j1 q).symm
   unfold fh at p1 q1;unfold eW;dsimp only at*;omega
 · have go: ∀n,n<=adc f->(bH N n).Nodup:=by
    intro n
    induction n with
    |zero=>exact fun _=>abe
    |succ n ih=>
     intro hn;rw [bH,List.nodup_append];refine ⟨ih (by omega),?_,fun x hx y hy e=>?_⟩
     · unfold Dh;split
       · exact abE.2 ⟨List.not_mem_nil,abe⟩
       exact abe
     subst e
     obtain ⟨k,k1,_,k3⟩:=wE.1 hx;unfold Dh at hy;split at hy
     · have hy:=aa6.1 hy
       rw [k3] at hy;have e1:(N[k]!).1=(N[n]!).1:=(aat hy).1;rw [h.ids k (by omega),h.ids n (by omega)] at e1;have:=mP iI.2.2 (by omega) (by omega) e1;omega
     cases hy
   exact go _ (IR _)
 obtain ⟨k,j,k1,j1,_,p,rfl⟩:=inf e he
 rw [tj iI.2.2 j1 rfl,tj iI.2.2 k1 rfl];exact p
end
theorem agK {f:List Pt} (iI:bF f) {t:Int×Int} (r:aW t) (lF:iJ t) {i j:Nat} (hi:i<adc f) (hj:j<adc f) (dE:i≠j):lP f[i]! f[j]! t=agb (age (Gx f t i j),0):=by
 have ne:(f[i]!).1≠(f[j]!).1:=fun h=>dE (mP iI.2.2 hi hj h)
 rcases DB (iI.2.1 _ (aN hi)) (iI.2.1 _ (aN hj)) lF r with h|⟨h,_⟩
 · rw [h,ut ne];rfl
 exact absurd h ne
def eI (es:List Nat):List Int:=es.map fun e:Nat=>(e:Int)
theorem Oq (E:List Int) (m:Nat) (x:Int) (h:m+1<=adc E):(fa E m [x]).length=(adc E):=by unfold fa;simp only [AC,EQ,M2,v6];omega
theorem TA (es:List Nat):(eI es).length=(adc es):=Do ..
theorem ZV (es:List Nat) {j:Nat} (h:j<adc es):(eI es)[j]! =(es[j]!:Int):=by rw [getElem!_pos (eI es) j (by rw [TA];exact h),getElem!_pos es j h];exact aak ..
theorem Ot (es:List Nat) (m:Nat):eI (es.take m)=(eI es).take m:=List.map_take ..
def o2 (f:List Pt) (t:Int×Int) (e c:Nat) (i:Nat) (jp:Int) (N:List Nd) (E:List Int):=
 (e,c,f,((adc f):Int),(i:Int),f,t.1,t.2,(0:Int),jp,N,E)
def o1 (f:List Pt) (t:Int×Int) (e c:Nat) (i:Nat) (jp:Int) (N:List Nd) (E:List Int) (left:Int):=
 (e,c,(i:Int),f,((adc f):Int),(i:Int),f,t.1,t.2,(0:Int),jp,N,E,(f[i]!).1,(f[i]!).2.1,(f[i]!).2.2,(f[i]!).1,left,(-1:Int))
def sD (f:List Pt) (N:List Nd) (es:List Nat) (i m:Nat):List Nd:=
 (if m=0 then N else N.set es[m-1]! ((N[es[m-1]!]!).1,(N[es[m-1]!]!).2.1,(i:Int)))++[((f[i]!).1,if m<(adc es) then (es[m]!:Int) else -1,-1)]
theorem aki {f:List Pt} (iI:bF f) {t:Int×Int} (r:aW t) (lF:iJ t) {i:Nat} (hi:i<adc f) {es:List Nat} (hes: ∀e∈es,e<i) {N:List Nd} (hN:(adc N)=i) {jp:Int} {E:List Int} (hE:E.take (adc es)=eI es) (le:(adc es)<=adc E) (lE:(adc E)<=1000):
 ∀(e:Nat),e<=adc es->(∀j,e<=j->j<adc es-> ¬Gx f t es[j]! i)->
  ∃(m:Nat) (E':List Int),m<=e/\(0<m->Gx f t es[m-1]! i)/\(∀j,m<=j->j<adc es-> ¬Gx f t es[j]! i)/\E'.take (m+1)=eI (es.take m++[i])/\m+1<=adc E'/\adc E'<=adc E+1/\
   aB nR (o1 f t e (adc E) i jp N E (if e<(adc es) then (es[e]!:Int) else -1))=agb (.next (o2 f t (m+1) (adc E') (i+1) (if m=0 then (i:Int) else jp) (sD f N es i m) E')):=by
 have f1:=iI.1;have sc:=aV (show i<1000000000 by omega);have put: ∀m,m<=adc es-> ∃E':List Int,E'.take (m+1)=eI (es.take m++[i])/\m+1<=adc E'/\adc E'<=adc E+1/\
  ((m+1<=adc E->E'=fa E m [(i:Int)])/\(¬m+1<=adc E->E'=E.take m++[(i:Int)])):=by
  intro m hm;have tm:E.take m=eI (es.take m):=by rw [Ot,<- hE,abQ,abI hm]
  have ei:eI (es.take m++[i])=eI (es.take m)++[(i:Int)]:=ab5 ..;have lm:(E.take m++[(i:Int)]).length=m+1:=by rw [AC,EQ,v6];omega
  by_cases h:m+1<=adc E
  · refine ⟨fa E m [(i:Int)],?_,?_,?_,fun _=>rfl,fun q=>absurd h q⟩
    · unfold fa
      rw [ei,<- tm,List.take_append_of_le_length (by omega),aaV (by omega)]
    · unfold fa;rw [AC];omega
    unfold fa;rw [AC,lm,M2,v6];omega
  refine ⟨E.take m++[(i:Int)],?_,by omega,by omega,fun q=>absurd q h,fun _=>rfl⟩
  rw [aaV (by omega),ei,tm]
 have en: ∀(s:Nat),([(i:Int)]:List Int).length=1:=fun _=>rfl
 have Ou: ∀{a b:Nat},a<=b->Nat.ble a b=agc:=fun h=>Nat.ble_eq_true_of_le h
 have abf: ∀{a b:Nat},¬a<=b->Nat.ble a b=agd:=fun h=>by
  cases hb:Nat.ble _ _ with
  |false=>rfl
  |true=>exact absurd (Nat.le_of_ble_eq_true hb) h
 intro e
 induction e with
 |zero=>
  intro _ nI;obtain ⟨E',e1,e2,e3,e4,e5⟩:=put 0 (aai _);refine ⟨0,E',IR _,fun h=>absurd h (acl _),nI,e1,e2,e3,aC ?_⟩;have ap: ∀x:Nd,bm N [x]=agb (N++[x]):=fun x=>cM (by rw [v6];omega)
  have ap2:bm (E.take 0) [(i:Int)]=agb (E.take 0++[(i:Int)]):=cM (by rw [v6,EQ];omega);unfold nR o1 o2 sD
  by_cases h:0+1<=adc E
  · simp only [ay,aD (show¬(0:Int)<((0:Nat):Int) by omega),pp,ap,ao,v6,Ou h,lw,aaw,aaS,sc,e4 h,if_true]
    rw [Oq _ _ _ h]
  simp only [ay,aD (show¬(0:Int)<((0:Nat):Int) by omega),pp,ap,ao,v6,abf h,ap2,Ou (aai (adc E)),lw,sc,e5 h,if_true]
  rfl
 |succ e ih=>
  intro he nI;have tk:E.take (e+1)=eI (es.take (e+1)):=by rw [Ot,<- hE,abQ,abI he]
  have lt:(eI (es.take (e+1))).length=e+1:=by rw [TA,EQ];omega
  have ge:aG (E.take (e+1)) ((e:Nat):Int)=agb (es[e]!:Int):=by rw [tk,aq _ e (by omega),ZV _ (by rw [EQ];omega),jH (by omega)]
  have ew:ai .i64 (((e+1:Nat):Int) -1)=((e:Nat):Int):=by rw [Bl ⟨by omega,by omega⟩];omega
  have eb:es[e]!<i:=hes _ (aN (by omega));have gp:=aq f es[e]! (by omega);have ah:=agK iI (t:=(t.1,t.2)) r lF (i:=es[e]!) (j:=i) (by omega) hi (by omega);have gn:=aq N es[e]! (by omega);have agL:((f[i]!).1,(f[i]!).2.1,(f[i]!).2.2)=f[i]!:=rfl
  by_cases c:Gx f t es[e]! i
  · rw [show age (Gx f (t.1,t.2) es[e]! i)=agc from aH c] at ah
    obtain ⟨E',e1,e2,e3,e4,e5⟩:=put (e+1) he;refine ⟨e+1,E',IR _,fun _=>c,nI,e1,e2,e3,aC ?_⟩;have ap: ∀(y x:Nd),bm (N.set es[e]! y) [x]=agb (N.set es[e]! y++[x]):=fun y x=>cM (by rw [v6,UV];omega)
    have ap2:bm (E.take (e+1)) [(i:Int)]=agb (E.take (e+1)++[(i:Int)]):=cM (by rw [v6,EQ];omega);unfold nR o1 o2 sD;rw [show e+1-1=e from rfl,ut (abr e),ut (abr e)]
    by_cases h:e+1+1<=adc E
    · simp only [ay,aH (show (0:Int)<((e+1:Nat):Int) by omega),lw,ew,ge,ao,gp,agL,ah,gn,lB,ap,v6,Ou h,aaw,aaS,sc,e4 h]
      rw [Oq _ _ _ h]
    simp only [ay,aH (show (0:Int)<((e+1:Nat):Int) by omega),lw,ew,ge,ao,gp,agL,ah,gn,lB,ap,v6,abf h,pp,ap2,Ou (show e+1<=(adc E) by omega),sc,e5 h]
    rw [show (E.take (e+1)++[(i:Int)]).length=e+1+1 from by rw [AC,EQ,v6];omega]
  rw [show age (Gx f (t.1,t.2) es[e]! i)=agd from aD c] at ah
  obtain ⟨m,E',h1,h2,h3,h4,h5,h6,h7⟩:=ih (by omega) (fun j j1 j2=>by
   by_cases q:j=e
   · rw [q];exact c
   exact nI j (by omega) j2)
  refine ⟨m,E',by omega,h2,h3,h4,h5,h6,?_⟩;rw [rc (show e<(adc es) by omega)] at h7;rw [<- h7];refine aQ ?_;unfold nR o1;simp only [ay,aH (show (0:Int)<((e+1:Nat):Int) by omega),lw,ew,ge,ao,gp,agL,ah,pp,aH (show (0:Int)<=((e:Nat):Int) by omega),aH (show ((e:Nat):Int)<=((adc E):Int) by omega),aaS,aam]
theorem ZW {f:List Pt} {N:List Nd} {es:List Nat} {i m:Nat} (hN:(adc N)=i) (hes: ∀e∈es,e<i) (hm:m<=adc es):
 (sD f N es i m).length=i+1/\(sD f N es i m)[i]! =((f[i]!).1,if m<(adc es) then (es[m]!:Int) else -1,-1)/\
 ∀k,k<i->((sD f N es i m)[k]!).1=(N[k]!).1/\((sD f N es i m)[k]!).2.1=(N[k]!).2.1/\((0<m/\k=es[m-1]!)->((sD f N es i m)[k]!).2.2=(i:Int))/\(¬(0<m/\k=es[m-1]!)->((sD f N es i m)[k]!).2.2=(N[k]!).2.2):=by
 unfold sD
 by_cases m0:m=0
 · rw [rc m0]
   refine ⟨by rw [AC,hN];rfl,?_,fun k hk=>?_⟩
   · rw [fA (by omega),hN,aaX];rfl
   rw [dQ (by omega)]
   exact ⟨rfl,rfl,fun q=>by omega,fun _=>rfl⟩
 rw [ut m0]
 have hb:=hes _ (aN (show m-1<(adc es) by omega));refine ⟨by rw [AC,UV,hN];rfl,?_,fun k hk=>?_⟩
 · rw [fA (by rw [UV];omega),UV,hN,aaX];rfl
 rw [dQ (by rw [UV];omega),ba]
 by_cases q:k=es[m-1]!
 · rw [rc ⟨q,by omega⟩,q]
   exact ⟨rfl,rfl,fun _=>rfl,fun w=>absurd ⟨by omega,rfl⟩ w⟩
 rw [ut (fun w=>q w.1)]
 exact ⟨rfl,rfl,fun w=>absurd w.2 q,fun _=>rfl⟩
theorem akj {f:List Pt} (iI:bF f) {t:Int×Int} (r:aW t) (lF:iJ t): ∀(d i:Nat) (es:List Nat) (N:List Nd) (jp:Int) (E:List Int),adc f-i<=d->i<=adc f->adc N=i->(∀k,k<i->(N[k]!).1=(f[k]!).1)->
 tn (Gx f t) N 0 i jp es->E.take (adc es)=eI es->adc es<=adc E->adc E<=i->
 ∃(K2:Int) (N':List Nd),aB lQ (o2 f t (adc es) (adc E) i jp N E)=agb (⟨K2,N'⟩,0)/\eM f t N' K2:=by
 have f1:=iI.1;have fin: ∀(es:List Nat) (N:List Nd) (jp:Int) (E:List Int),adc N=adc f->(∀k,k<adc f->(N[k]!).1=(f[k]!).1)->tn (Gx f t) N 0 (adc f) jp es->
  ∃(K2:Int) (N':List Nd),aB lQ (o2 f t (adc es) (adc E) (adc f) jp N E)=agb (⟨K2,N'⟩,0)/\eM f t N' K2:=fun es N jp E h1 h2 h3=>
  ⟨jp,N,aC (by unfold lQ o2;simp only [aD (show¬((adc f):Int)<((adc f):Int) by omega),pp]),⟨h1,h2,h3.ls⟩⟩
 intro d
 induction d with
 |zero=>
  intro i es N jp E hd hi h1 h2 h3 _ _ _;have:i=(adc f):=by omega
  subst this;exact fin es N jp E h1 h2 h3
 |succ d ih=>
  intro i es N jp E hd hi h1 h2 h3 h4 h5 h6
  by_cases he:i=adc f
  · subst he;exact fin es N jp E h1 h2 h3
  have qk:i<(adc f):=by omega
  have o:=DX iI.2.2 t;have mem:=h3.mem;have hes: ∀e∈es,e<i:=fun e he=>(mem e he).2
  obtain ⟨m,E',m1,m2,m3,m4,m5,m6,m7⟩:=aki iI r lF qk hes h1 (jp:=jp) h4 h5 (by omega) (adc es) (IR _) (fun j j1 j2=>by omega);rw [ut (acl _)] at m7;have st:lQ (o2 f t (adc es) (adc E) i jp N E)=agb (.next (o2 f t (m+1) (adc E') (i+1) (if m=0 then (i:Int) else jp) (sD f N es i m) E')):=by
   unfold lQ
   conv=>lhs;unfold o2
   simp only [aH (show (i:Int)<((adc f):Int) by omega),lw,aq f i qk,ao];exact m7
  obtain ⟨a1,a2,a3⟩:=ZW (f:=f) h1 hes m1;have sp:=h3.add o (N':=sD f N es i m) m (aai _) qk m1 (fun j hj=>by
   by_cases q:j=m-1
   · rw [q];exact m2 (by omega)
   · have T7:=hes _ (aN (show j<(adc es) by omega))
     have zR:=hes _ (aN (show m-1<(adc es) by omega));exact o.tr _ es[m-1]! _ (by omega) (by omega) qk (h3.chain j (m-1) (by omega) (by omega)) (m2 (by omega))) m3
   (by rw [a2]) (by rw [a2]) (fun k _ hk=>by obtain ⟨_,b2,b3,b4⟩:=a3 k hk;exact ⟨b2,b3,b4⟩)
  have le:(es.take m++[i]).length=m+1:=by rw [AC,EQ,v6];omega
  rw [aQ st];have:=ih (i+1) (es.take m++[i]) (sD f N es i m) (if m=0 then (i:Int) else jp) E' (by omega) (by omega) a1 (fun k hk=>by
   by_cases q:k=i
   · rw [q,a2]
   rw [(a3 k (by omega)).1];exact h2 k (by omega)) sp (by rw [le];exact m4) (by rw [le];exact m5) (by omega)
  rw [le] at this;exact this
theorem ZX {f:List Pt} (iI:bF f) {t:Int×Int} (r:aW t) (lF:iJ t): ∃(jp:Int) (N:List Nd),yJ ⟨f⟩ t=agb (⟨jp,N⟩,0)/\eM f t N jp:=by
 obtain ⟨jp,N,h1,h2⟩:=akj iI r lF (adc f) 0 [] [] (-1) [] (by omega) (by omega) rfl (fun k hk=>by omega) (.nil (IR _)) rfl (IR _) (IR _);refine ⟨jp,N,?_,h2⟩;have hc:ec ⟨f⟩=agb 0:=by rw [jJ];exact congrArg agb (jT.2 iI)
 unfold yJ vN;rw [hc,ao,bV rfl,pp,c7 lF,rc r,ao,ao,bV rfl,pp];exact h1
theorem agM {f:List Pt} (iI:bF f) {t:Int×Int} (lF:iJ t) {a b:Nat} (hb:b<=adc f): ∀(d j rq:Nat),b-j<=d->j<=b->wT (Gx f t) a j rq-> ∃i:Nat,aB iY ((b:Int),(rq:Int),(j:Int),f,t)=agb (i:Int)/\wT (Gx f t) a b i:=by
 have f1:=iI.1;have o:=DX iI.2.2 t;have fin: ∀rq:Nat,wT (Gx f t) a b rq-> ∃i:Nat,aB iY ((b:Int),(rq:Int),(b:Int),f,t)=agb (i:Int)/\wT (Gx f t) a b i:=fun rq h=>⟨rq,aC (by unfold iY;simp only [aD (show¬(b:Int)<(b:Int) by omega),pp]),h⟩
 intro d
 induction d with
 |zero=>
  intro j rq hd hj h;have:j=b:=by omega
  subst this;exact fin rq h
 |succ d ih=>
  intro j rq hd hj h
  by_cases he:j=b
  · subst he;exact fin rq h
  have h1:=h.lo;have h2:=h.hi;have sc:=aV (show j<1000000000 by omega);have ld:=Fz (iI.2.1 _ (aN (show j<(adc f) by omega))) (iI.2.1 _ (aN (show rq<(adc f) by omega))) lF
  by_cases c:Gx f t j rq
  · rw [show age (leads f[j]! f[rq]! t)=agc from aH c] at ld
    rw [aQ (y:=((b:Int),(j:Int),((j+1:Nat):Int),f,t)) (by unfold iY;simp only [aH (show (j:Int)<(b:Int) by omega),lw,aD (show¬(rq:Int)<0 by omega),pp,aq f j (by omega),aq f rq (by omega),ao,ld,sc])];refine ih (j+1) j (by omega) (by omega) ⟨by omega,by omega,fun k k1 k2 k3=>?_⟩
    by_cases q:k=rq
    · rw [q];exact c
    exact o.tr j rq k (by omega) (by omega) (by omega) c (h.top k k1 (by omega) q)
  rw [show age (leads f[j]! f[rq]! t)=agd from aD c] at ld
  rw [aQ (y:=((b:Int),(rq:Int),((j+1:Nat):Int),f,t)) (by unfold iY;simp only [aH (show (j:Int)<(b:Int) by omega),lw,aD (show¬(rq:Int)<0 by omega),pp,aq f j (by omega),aq f rq (by omega),ao,ld,sc])];refine ih (j+1) rq (by omega) (by omega) ⟨h1,by omega,fun k k1 k2 k3=>?_⟩
  by_cases q:k=j
  · rw [q];exact o.tot j rq (by omega) (by omega) (by omega) c
  exact h.top k k1 (by omega) k3
theorem agN {f:List Pt} (iI:bF f) {t:Int×Int} (lF:iJ t) {a b:Nat} (GI:a<b) (hb:b<=adc f): ∃i:Nat,rA ⟨f⟩ t (a:Int) (b:Int)=agb (i:Int)/\wT (Gx f t) a b i:=by
 have f1:=iI.1;obtain ⟨i,h1,h2⟩:=agM iI lF hb (b- (a+1)) (a+1) a (by omega) (by omega) (show wT (Gx f t) a (a+1) a from ⟨by omega,by omega,fun k k1 k2 k3=>by omega⟩);refine ⟨i,?_,h2⟩;unfold rA;rw [aQ (y:=((b:Int),(a:Int),((a+1:Nat):Int),f,t)) (by unfold iY;simp only [aH (show (a:Int)<(b:Int) by omega),lw,aH (show (-1:Int)<0 by omega),aV (show a<1000000000 by omega)])];exact h1
theorem K3 (f:List Pt) (t:Int×Int) (a:Nat):rA ⟨f⟩ t (a:Int) (a:Int)=agb (-1):=by unfold rA;refine aC ?_;unfold iY;simp only [aD (show¬(a:Int)<(a:Int) by omega),pp]
theorem ZY {f:List Pt} (iI:bF f) {t:Int×Int} (lF:iJ t): ∀(d m a b:Nat) (N:List Nd),b-a<=d->d<m->a<=b->b<=adc f->adc N=adc f->
 ∃(r:Int) (N':List Nd),ir m (f,t.1,t.2,0,(a:Int),(b:Int),N)=agb (r,N')/\adc N'=adc f/\(∀k:Nat,(N'[k]!).1=(N[k]!).1)/\(∀k:Nat,(k<a\/b<=k)->N'[k]! =N[k]!)/\kz (Gx f t) N' a b r:=by
 have f1:=iI.1;intro d
 induction d with
 |zero=>
  intro m a b N hd hm GI hb hN;have:a=b:=by omega
  subst this;cases m with
  |zero=>omega
  |succ m=>refine ⟨-1,N,?_,hN,fun _=>rfl,fun _ _=>rfl,.nil (IR _)⟩;show eK _ _=_;unfold eK;simp only [show ((t.1,t.2):Int×Int)=t from rfl,K3 f t a,ao,aD (show¬(0:Int)<= -1 by omega),pp,beq_self_eq_true,lw]
 |succ d ih=>
  intro m a b N hd hm GI hb hN;cases m with
  |zero=>omega
  |succ m=>
  by_cases e:a=b
  · subst e
    refine ⟨-1,N,?_,hN,fun _=>rfl,fun _ _=>rfl,.nil (IR _)⟩;show eK _ _=_;unfold eK;simp only [show ((t.1,t.2):Int×Int)=t from rfl,K3 f t a,ao,aD (show¬(0:Int)<= -1 by omega),pp,beq_self_eq_true,lw]
  obtain ⟨i,t1,t2⟩:=agN iI lF (show a<b by omega) hb;have lo:=t2.lo;have hi:=t2.hi;obtain ⟨l,N1,g1,g2,g3,g4,g5⟩:=ih m a i N (by omega) (by omega) lo (by omega) hN;have gi:=aq N1 i (by omega);obtain ⟨rr,N2,k1,k2,k3,k4,k5⟩:=ih m (i+1) b (N1.set i ((N1[i]!).1,l,(N1[i]!).2.2)) (by omega) (by omega) (by omega) hb (by rw [UV];exact g2);have gj:=aq N2 i (by omega);have n2i:N2[i]! =((N1[i]!).1,l,(N1[i]!).2.2):=by rw [k4 i (.inl (by omega)),ba,rc ⟨rfl,by omega⟩]
  have n3i:(N2.set i ((N2[i]!).1,(N2[i]!).2.1,rr))[i]! =((N1[i]!).1,l,rr):=by rw [ba,rc ⟨rfl,by omega⟩,n2i]
  have n3: ∀k,k≠i->(N2.set i ((N2[i]!).1,(N2[i]!).2.1,rr))[k]! =N2[k]!:=fun k hk=>by rw [ba,ut (fun w=>hk w.1)]
  have n1: ∀k,k≠i->(N1.set i ((N1[i]!).1,l,(N1[i]!).2.2))[k]! =N1[k]!:=fun k hk=>by rw [ba,ut (fun w=>hk w.1)]
  refine ⟨(i:Int),N2.set i ((N2[i]!).1,(N2[i]!).2.1,rr),?_,by rw [UV];exact k2,fun k=>?_,fun k hk=>?_,?_⟩
  · show eK _ _=_
    unfold eK;simp only [show ((t.1,t.2):Int×Int)=t from rfl,t1,ao,aH (show (0:Int)<=(i:Int) by omega),lw,g1,gi,lB,aV (show i<1000000000 by omega),k1,gj,UV,k2,hN,beq_self_eq_true]
  · by_cases q:k=i
    · rw [q,n3i,<- g3 i]
    rw [n3 k q,k3 k,n1 k q,g3 k]
  · rw [n3 k (by omega),k4 k (by omega),n1 k (by omega),g4 k (by omega)]
  refine .node t2 ?_ ?_
  · rw [n3i]
    refine g5.frame fun k h1 h2=>?_
    rw [n3 k (by omega),k4 k (.inl (by omega)),n1 k (by omega)]
  rw [n3i]
  refine k5.frame fun k h1 h2=>?_
  rw [n3 k (by omega)]
theorem Hw {f:List Pt} (iI:bF f) {t:Int×Int} (lF:iJ t): ∃(jp:Int) (N:List Nd),oT ⟨f⟩ t=agb ⟨jp,N⟩/\eM f t N jp:=by
 have f1:=iI.1
 let ini:Nat->List Nd:=fun i=>(f.take i).map fun p=>(p.1,0,0)
 have il: ∀i,i<=adc f->(ini i).length=i:=fun i hi=>by show (abW _ _).length=_;rw [Do,EQ];omega
 have key:=bL (body:=mn) (fun i=>((i:Int),f,t.1,t.2,0,0,ini i)) (adc f) (fun i hi=>by
  have nx:ini (i+1)=ini i++[((f[i]!).1,0,0)]:=by show abW _ _=abW _ _++_;rw [iv hi,ab5];rfl
  unfold mn;simp only [ay,aH (show (i:Int)<((adc f):Int) by omega),lw,aq f i hi,ao,aV (show i<1000000000 by omega),nx];rw [cM (by rw [il i (by omega),v6];omega),ao])
 obtain ⟨r,N,g1,g2,g3,_,g5⟩:=ZY iI lF (adc f) 1000000 0 (adc f) (ini (adc f)) (by omega) (by omega) (by omega) (IR _) (il _ (IR _));refine ⟨r,N,?_,⟨g2,fun k hk=>?_,g5⟩⟩
 · unfold oT An
   rw [show aB mn (0,f,t.1,t.2,0,0,[])=_ from key];rw [aC (r:=(⟨r,N⟩:Tree)) (by unfold mn;have g1':oS (f,t.1,t.2,0,0,((adc f):Int),ini (adc f))=agb (r,N):=g1;simp only [ay,aD (show¬((adc f):Int)<((adc f):Int) by omega),pp,g1',ao]),ao]
 rw [g3 k]
 show (((f.take (adc f)).map fun p=>((p.1,0,0):Nd))[k]!).1=_;rw [getElem!_pos _ k (by rw [Do,EQ];omega),aak,aaA,getElem!_pos f k hk]
def note (U:List Int) (c:Int) (i:Nat):List Int:=if 0<=c then U.set c.toNat (i:Int) else U
def TZ (N:List Nd) (U:List Int):Nat->List Int
 |0=>U
 |i+1=>note (note (TZ N U i) (N[i]!).2.1 i) (N[i]!).2.2 i
theorem Bz (U:List Int) (c:Int) (i:Nat):(note U c i).length=(adc U):=by unfold note;split<;>simp
theorem BA (N:List Nd) (U:List Int): ∀i,(TZ N U i).length=adc U
 |0=>rfl
 |i+1=>by rw [TZ,Bz,Bz,BA N U i]
theorem Hx (U:List Int) (c:Int) (i k:Nat) (hk:k<adc U):(note U c i)[k]! =if c=(k:Int) then (i:Int) else U[k]!:=by
 unfold note
 by_cases h:0<=c
 · rw [rc h,ba]
   by_cases q:c=(k:Int)
   · rw [rc ⟨by omega,by omega⟩,rc q]
   rw [ut (fun w=>q (by omega)),ut q]
 rw [ut h,ut (by omega)]
theorem Qd {α:Type} [Inhabited α] {n i:Nat} (a:α) (h:i<n):(ww n a)[i]! =a:=by rw [getElem!_pos _ i (by rw [NE];exact h),List.getElem_replicate]
section
variable {f : List Pt} {t : Int × Int} {N : List Nd} {r : Int}
theorem eM.link (h:eM f t N r) {j:Nat} (hj:j<adc f) {c:Int} (hc:(N[j]!).2.1=c\/(N[j]!).2.2=c):c= -1\/(0<=c/\c<adc N):=by
 have ln:=h.len;rcases h.ls.kids j (aai _) hj c hc with e|⟨k,e,_,k2,_⟩
 · exact .inl e
 exact .inr ⟨by omega,by omega⟩
theorem eM.akk (h:eM f t N r) {U:List Int} (hU:(adc U)=adc N): ∀i,i<=adc N-> ∀k,k<adc N->(TZ N U i)[k]! =if kX N k<i then (kX N k:Int) else U[k]!
 |0,_,k,_=>by rw [ut (aba _)];rfl
 |i+1,hi,k,hk=>by
  have ln:=h.len;have ih:=h.akk hU i (by omega) k hk;have p:=h.par (k:=k) (by omega);rw [TZ,Hx _ _ _ _ (by rw [Bz,BA];omega),Hx _ _ _ _ (by rw [BA];omega),ih]
  by_cases hb:Below N k i
  · have e:=p.2.2 i (by omega) hb
    rw [rc (show kX N k<i+1 by omega),<- e];rcases hb with q|q
    · by_cases w:(N[i]!).2.2=(k:Int)
      · rw [rc w]
      rw [ut w,rc q]
    rw [rc q]
  have n1: ¬(N[i]!).2.1=(k:Int):=fun q=>hb (.inl q)
  have n2: ¬(N[i]!).2.2=(k:Int):=fun q=>hb (.inr q)
  rw [ut n2,ut n1];have ne:kX N k≠i:=fun q=>by
   by_cases hr:(k:Int)=r
   · have:=p.1 hr;omega
   have:=(p.2.1 hr).2.1
   rw [q] at this;exact hb this
  by_cases q:kX N k<i
  · rw [rc q,rc (by omega)]
  rw [ut q,ut (by omega)]
def m1S (N:List Nd) (r:Int) (i:Nat) (j:Int) (U:List Int):=((i:Int),N,((adc N):Int),(i:Int),(N[i]!).2.1,(N[i]!).2.2,j,(0:Int),r,N,U)
def m3S (N:List Nd) (r:Int) (i:Nat) (U:List Int):=(N,((adc N):Int),(i:Int),(0:Int),r,N,U)
theorem Ov {U:List Int} {c:Int} (h0:0<=c) (h:c<adc U): ∃x,aG U c=agb x:=⟨_,c6 h0 h⟩
theorem Ow {U:List Int} {c:Int} (h0:0<=c) (x:Int):bO U c x=U.set c.toNat x:=by obtain ⟨n,rfl⟩:=Int.eq_ofNat_of_zero_le h0;rw [lB,aam]
theorem ZZ (h:eM f t N r) (hN:(adc N)<=1000) {i:Nat} (hi:i<adc N) {U:List Int} (hU:(adc U)=adc N):aB ig (m1S N r i 0 U)=agb (.next (m3S N r (i+1) (note (note U (N[i]!).2.1 i) (N[i]!).2.2 i))):=by
 have ln:=h.len;have l1:=h.link (j:=i) (by omega) (.inl rfl);have l2:=h.link (j:=i) (by omega) (.inr rfl);have s1:ig (m1S N r i 0 U)=agb (.next (m1S N r i 1 (note U (N[i]!).2.1 i))):=by
  unfold ig m1S note;simp only [aH (show (0:Int)<2 by omega),lw,beq_self_eq_true,show ai .i64 (0+1)=1 from Bl ⟨by omega,by omega⟩]
  by_cases q:0<=(N[i]!).2.1
  · obtain ⟨x,hx⟩:=Ov (U:=U) q (by omega)
    rw [aH q,lw,hx,ao,Ow q,rc q]
  rw [aD q,pp,ut q]
 have s2: ∀V:List Int,adc V=adc N->ig (m1S N r i 1 V)=agb (.next (m1S N r i 2 (note V (N[i]!).2.2 i))):=by
  intro V hV;unfold ig m1S note;simp only [aH (show (1:Int)<2 by omega),lw,show ((1:Int)==0)=agd from rfl,pp,beq_self_eq_true,show ai .i64 (1+1)=2 from Bl ⟨by omega,by omega⟩]
  by_cases q:0<=(N[i]!).2.2
  · obtain ⟨x,hx⟩:=Ov (U:=V) q (by omega)
    rw [aH q,lw,hx,ao,Ow q,rc q]
  rw [aD q,pp,ut q]
 rw [aQ s1,aQ (s2 _ (by rw [Bz];exact hU))];refine aC ?_;unfold ig m1S m3S;simp only [aD (show¬(2:Int)<2 by omega),pp,aV (show i<1000000000 by omega)]
theorem MR (h:eM f t N r) (hN:(adc N)<=1000):aB jA (((adc N):Int),0,0,r,N,ww (adc N) 0)=agb (⟨r,N⟩,bH N (adc N)):=by
 have ln:=h.len;have k4:=bL (body:=jA) (fun i=>(((adc N):Int),(i:Int),(0:Int),r,N,ww i (-1)++ww (adc N-i) 0)) (adc N) (fun i hi=>by
  have ll:(ww i (-1:Int)++ww (adc N-i) 0).length=(adc N):=by rw [AC,NE,NE];omega
  have e:(ww i (-1:Int)++ww (adc N-i) 0).set i (-1)=ww (i+1) (-1)++ww (adc N- (i+1)) 0:=by rw [show (adc N)-i=(adc N- (i+1))+1 by omega,List.replicate_succ,List.set_append_right _ _ (by rw [NE];exact IR _),NE,aaX,List.set_cons_zero,List.replicate_succ',aaE];rfl
  unfold jA;simp only [aH (show (i:Int)<((adc N):Int) by omega),lw,aq (ww i (-1:Int)++ww (adc N-i) 0) i (by omega),ao,lB,e,aV (show i<1000000000 by omega)])
 have e0:ww 0 (-1:Int)++ww (adc N-0) 0=ww (adc N) 0:=rfl;have e1:ww (adc N) (-1:Int)++ww (adc N-(adc N)) 0=ww (adc N) (-1):=by rw [aaX,List.replicate_zero,aal]
 rw [e0,e1] at k4;rw [show aB jA (((adc N):Int),0,0,r,N,ww (adc N) 0)=_ from k4];have lU:(ww (adc N) (-1:Int)).length=(adc N):=NE ..;have k3:=bL (body:=jz) (fun i=>m3S N r i (TZ N (ww (adc N) (-1)) i)) (adc N) (fun i hi=>by
  have g:=aq N i hi;unfold jz
  conv=>lhs;unfold m3S
  simp only [aH (show (i:Int)<((adc N):Int) by omega),lw,g,ao];exact ZZ h hN hi (by rw [BA,lU]))
 have up:=h.akk lU (adc N) (IR _);have k2:=bL (body:=jy) (fun i=>(N,((adc N):Int),(i:Int),(0:Int),r,N,TZ N (ww (adc N) (-1)) (adc N),bH N i)) (adc N) (fun i hi=>by
  have g:=aq N i hi;have gu:=aq (TZ N (ww (adc N) (-1)) (adc N)) i (by rw [BA,lU];exact hi);have el:=mR N i;rw [up i hi] at gu;unfold jy;rw [show bH N (i+1)=bH N i++Dh N i from rfl];unfold Dh
  by_cases q:kX N i<adc N
  · rw [rc q] at gu
    simp only [aH (show (i:Int)<((adc N):Int) by omega),lw,g,gu,ao,aH (show (0:Int)<=(kX N i:Int) by omega),aq N (kX N i) q,aV (show i<1000000000 by omega),rc q];rw [cM (by rw [v6];omega),ao]
  rw [ut q,Qd (-1) hi] at gu
  simp only [aH (show (i:Int)<((adc N):Int) by omega),lw,g,gu,ao,aD (show¬(0:Int)<= -1 by omega),pp,aV (show i<1000000000 by omega),ut q,aal])
 have f2:aB jy (N,((adc N):Int),0,0,r,N,TZ N (ww (adc N) (-1)) (adc N),[])=agb (.done (.done (⟨r,N⟩,bH N (adc N)))):=by rw [show aB jy (N,((adc N):Int),0,0,r,N,TZ N (ww (adc N) (-1)) (adc N),[])=_ from k2];refine aC ?_;unfold jy;simp only [aD (show¬((adc N):Int)<((adc N):Int) by omega),pp]
 have f3:aB jz (m3S N r 0 (ww (adc N) (-1)))=agb (.done (⟨r,N⟩,bH N (adc N))):=by rw [show aB jz (m3S N r 0 (ww (adc N) (-1)))=_ from k3];refine aC ?_;unfold jz m3S;simp only [ay,aD (show¬((adc N):Int)<((adc N):Int) by omega),pp];exact f2
 refine aC ?_;unfold jA;simp only [ay,aD (show¬((adc N):Int)<((adc N):Int) by omega),pp];exact f3
theorem Z0 (h:eM f t N r) (hN:(adc N)<=1000) {i:Nat} (hi:i<adc N):aB nm ((i:Int),0,r,N,bH N i)=agb (.next (((i+1:Nat):Int),r,N,bH N (i+1))):=by
 have ln:=h.len;have p:=h.par (k:=i) (by omega);have el:=mR N i;have g:=aq N i hi;have key:=bL (body:=nm) (fun j=>((i:Int),(j:Int),r,N,bH N i++(if kX N i<j then [((N[i]!).1,(N[kX N i]!).1)] else []))) (adc N) (fun j hj=>by
  have gj:=aq N j hj;unfold nm
  by_cases hb:Below N i j
  · have e:=p.2.2 j hj hb
    rw [ut (show¬kX N i<j by omega),rc (show kX N i<j+1 by omega),aal];have ap:bm (bH N i) [((N[i]!).1,(N[j]!).1)]=agb (bH N i++[((N[i]!).1,(N[j]!).1)]):=cM (by rw [v6];omega)
    by_cases q:(N[j]!).2.1=(i:Int)
    · simp only [ay,aH (show (j:Int)<((adc N):Int) by omega),lw,gj,g,ao,ed q,ap,aV (show j<1000000000 by omega),<- e]
    have q2:(N[j]!).2.2=(i:Int):=hb.resolve_left q
    simp only [ay,aH (show (j:Int)<((adc N):Int) by omega),lw,gj,g,ao,eD q,pp,ed q2,ap,aV (show j<1000000000 by omega),<- e]
  have ne:kX N i≠j:=fun q=>by
   by_cases hr:(i:Int)=r
   · have:=p.1 hr;omega
   have:=(p.2.1 hr).2.1
   rw [q] at this;exact hb this
  have n1: ¬(N[j]!).2.1=(i:Int):=fun q=>hb (.inl q)
  have n2: ¬(N[j]!).2.2=(i:Int):=fun q=>hb (.inr q)
  have e:(if kX N i<j+1 then [((N[i]!).1,(N[kX N i]!).1)] else [])=(if kX N i<j then [((N[i]!).1,(N[kX N i]!).1)] else []):=by
   by_cases q:kX N i<j
   · rw [rc q,rc (by omega)]
   rw [ut q,ut (by omega)]
  simp only [ay,aH (show (j:Int)<((adc N):Int) by omega),lw,gj,ao,eD n1,eD n2,pp,aV (show j<1000000000 by omega),e])
 have e0:(if kX N i<0 then [((N[i]!).1,(N[kX N i]!).1)] else [])=[]:=ut (aba _);rw [e0,aal] at key;rw [show aB nm ((i:Int),0,r,N,bH N i)=_ from key];refine aC ?_;unfold nm;simp only [ay,aD (show¬((adc N):Int)<((adc N):Int) by omega),pp,aV (show i<1000000000 by omega)];rfl
theorem Ox (h:eM f t N r) (hN:(adc N)<=1000):x4 ⟨r,N⟩=agb (bH N (adc N)):=by have k:=bL (body:=qe) (fun i=>((i:Int),r,N,bH N i)) (adc N) (fun i hi=>by unfold qe;simp only [ay,aH (show (i:Int)<((adc N):Int) by omega),lw];exact Z0 h hN hi);unfold x4;rw [show aB qe (0,r,N,[])=_ from k];refine aC ?_;unfold qe;simp only [ay,aD (show¬((adc N):Int)<((adc N):Int) by omega),pp]
end
theorem IQ {f:List Pt} (iI:bF f) {t:Int×Int} (r:aW t) (lF:iJ t): ∃(jp:Int) (N:List Nd),jO ⟨f⟩ t=agb (⟨jp,N⟩,bH N (adc f))/\eM f t N jp:=by
 have f1:=iI.1;obtain ⟨jp,N,h1,h2⟩:=ZX iI r lF;have ln:=h2.len;have mk:wN ((adc N):Int) (0:Int)=agb (ww (adc N) 0):=by unfold wN;rw [rc ⟨by omega,by omega⟩,aam]
 refine ⟨jp,N,?_,h2⟩;unfold jO;simp only [h1,ao,ay,beq_self_eq_true,lw,mk,NE];rw [<- ln];exact MR h2 (by omega)
theorem MS:nV=ik:=rfl
theorem Oy (r r':Int) (a b:List Nd) (hl:(adc a)<=1000000):jQ ⟨r,a⟩ ⟨r',b⟩=agb (age (r=r'/\a=b)):=by
 unfold jQ;simp only [ay]
 by_cases h0:r=r'
 case neg=>rw [dN h0,lw,aD (fun h=>h0 h.1)]
 rw [bV h0,pp]
 by_cases h:(adc a)=adc b
 case neg=>rw [dN (by omega),lw,aD (fun q=>h (by rw [q.2]))]
 rw [bV (by omega),pp];have key:=IN (body:=nX) (fun i=>((i:Int),r,a,r',b)) (adc a) (fun i=>a[i]! =b[i]!) (r:=agd) (e:=agc) (fun i hi=>by
  unfold nX;simp only [ay,aH (show (i:Int)<((adc a):Int) by omega),lw,aq a i hi,aq b i (by omega),ao,aV (show i<1000000000 by omega)];rw [MN]
  by_cases q:a[i]! =b[i]!
  · rw [aH q];exact ⟨fun w=>absurd q w,fun _=>rfl⟩
  · rw [aD q];exact ⟨fun _=>rfl,fun w=>absurd w q⟩) (by
  unfold nX;simp only [ay,aD (show¬((adc a):Int)<((adc a):Int) by omega),pp])
 refine (show _=_ from key).trans ?_
 by_cases q:a=b
 · rw [rc (fun i _=>by rw [q]),aH ⟨h0,q⟩]
 rw [ut (fun w=>q (ya h w)),aD (fun w=>q w.2)]
theorem Z1 (c:aI) (es:List (Int×Int)) (h1:(adc es)<=1000000) (_:(adc c.af.ce)<=1000000):
 pW c es=agb (age (adc es=adc c.af.ce/\ ∀i,i<adc c.af.ce->(c.af.ce[i]!).2∈es)):=by
 unfold pW dG dY;simp only [ay]
 by_cases h0:(adc es)=adc c.af.ce
 case neg=>rw [eD (by omega),pp,aD (fun q=>h0 q.1)]
 rw [ed (by omega),lw];have key:=jS (body:=bz) (fun i=>(c.af.ce,es,((adc c.af.ce):Int),(i:Int))) (adc c.af.ce) (fun i=>(c.af.ce[i]!).2∉es) (fun i=>(i:Int)) (e:= -1) (fun i hi=>by
  unfold bz tO;simp only [aH (show (i:Int)<((adc c.af.ce):Int) by omega),lw,aq c.af.ce i hi,ao,mz es _ h1,aV (show i<1000000000 by omega)];refine ⟨fun q=>?_,fun q=>?_⟩
  · rw [aD q];rfl
  · rw [aH (If.1 q)];rfl) (by
  unfold bz;simp only [aD (show¬((adc c.af.ce):Int)<((adc c.af.ce):Int) by omega),pp])
 by_cases hx: ∀i,i<adc c.af.ce->(c.af.ce[i]!).2∈es
 · rw [show aB bz (c.af.ce,es,((adc c.af.ce):Int),0)=_ from key.2 (fun i hi=>If.2 (hx i hi)),ao,ao,aD (by omega),aH ⟨h0,hx⟩]
   rfl
 obtain ⟨i,hi⟩:=aap.1 hx
 obtain ⟨hi,hn⟩:=aar.1 hi;obtain ⟨m,m1,m2,m3⟩:=least (c:=fun i=>(c.af.ce[i]!).2∉es) ⟨i,hi,hn⟩;rw [show aB bz (c.af.ce,es,((adc c.af.ce):Int),0)=_ from key.1 m m1 m2 m3,ao,ao,aH (by omega),aD (fun w=>hx w.2)];rfl
structure fX (k:cE):Prop where
 Df:aS k.lc
 ls:eM k.lc.ii.am k.lc.ci k.ls.kw k.ls.jp
 cert:(k.lc.af.ce.map fun x=>x.2).Perm (bH k.ls.kw (adc k.lc.ii.am))
theorem DC {c:aI} (ok:aS c) {N:List Nd} {r:Int} (_:eM c.ii.am c.ci N r):
 ((bH N (adc c.ii.am)).length=adc c.af.ce/\ ∀i,i<adc c.af.ce->(c.af.ce[i]!).2∈bH N (adc c.ii.am))↔(c.af.ce.map fun x=>x.2).Perm (bH N (adc c.ii.am)):=by
 have cl:(c.af.ce.map fun x=>x.2).length=(adc c.af.ce):=Do ..;constructor
 · rintro ⟨h1,h2⟩
   refine wC (ym ok.rE) (fun x hx=>?_) (by omega);obtain ⟨i,hi,rfl⟩:=qj.2 hx;exact h2 i hi
 intro h
 exact ⟨by rw [<- h.length_eq,cl],fun i hi=>h.mem_iff.1 (qj.1 ⟨i,hi,rfl⟩)⟩
theorem IS {c:aI} (ok:aS c) {N:List Nd} {r:Int} (tr:eM c.ii.am c.ci N r):
 (adc c.af.ce=(bH N (adc c.ii.am)).length/\ ∀i,i<(bH N (adc c.ii.am)).length->rh c.af.ce (bH N (adc c.ii.am))[i]!/\leads (cd c.ii.am ((bH N (adc c.ii.am))[i]!).2) (cd c.ii.am ((bH N (adc c.ii.am))[i]!).1) c.ci)↔(c.af.ce.map fun x=>x.2).Perm (bH N (adc c.ii.am)):=by
 have cl:(c.af.ce.map fun x=>x.2).length=(adc c.af.ce):=Do ..;obtain ⟨_,nd,ld⟩:=tr.K1 ok.iD;constructor
 · rintro ⟨h1,h2⟩
   refine (wC nd (fun x hx=>?_) (by omega)).symm;obtain ⟨i,hi,rfl⟩:=aP.1 hx;exact qj.1 (h2 i hi).1
 intro h
 exact ⟨by rw [<- h.length_eq,cl],fun i hi=>⟨qj.2 (h.mem_iff.2 (aN hi)),ld _ (aN hi)⟩⟩
theorem DD {k:cE} (fit:ss k.lc):nW k=agb (if fX k then 0 else 8):=by
 unfold nW;rw [jK fit,ao]
 by_cases ok:aS k.lc
 case neg=>rw [ut ok,ut (fun h=>ok h.Df)];rfl
 rw [rc ok,bV rfl,pp];have bd:=ok.bd;obtain ⟨r,N,h1,h2⟩:=IQ ok.iD ok.iL ok.iz;have h1:jO k.lc.ii k.lc.ci=agb (⟨r,N⟩,bH N (adc k.lc.ii.am)):=h1;have same: ∀h:fX k,N=k.ls.kw/\r=k.ls.jp:=fun h=>h2.same ok.iD.2.2 h.ls
 rw [h1,ao]
 by_cases hr:r=k.ls.jp
 case neg=>rw [dN hr,lw,ut (fun h=>hr (same h).2)]
 have ln:=h2.len;rw [bV hr,pp,MS,Bw N k.ls.kw (by omega),ao]
 by_cases hn:N=k.ls.kw
 case neg=>rw [aD hn,ut (fun h=>hn (same h).1)];rfl
 have el:=mR N (adc k.lc.ii.am);rw [aH hn,aa9,pp];show (pW k.lc (bH N (adc k.lc.ii.am))).bind _=_;rw [Z1 k.lc _ (by omega) (by omega),ao];have iff:=DC ok h2
 by_cases hj:(bH N (adc k.lc.ii.am)).length=adc k.lc.af.ce/\ ∀i,i<adc k.lc.af.ce->(k.lc.af.ce[i]!).2∈bH N (adc k.lc.ii.am)
 · rw [aH hj,rc (show fX k from ⟨ok,by rw [<- hn,<- hr];exact h2,by rw [<- hn];exact iff.1 hj⟩)];rfl
 rw [aD hj,ut (fun h:fX k=>hj (iff.2 (by rw [hn];exact h.cert)))];rfl
theorem F7 {k:cE} (fit:ss k.lc):s9 k=agb (if fX k then 0 else 8):=by
 unfold s9;rw [FZ fit,ao]
 by_cases ok:aS k.lc
 case neg=>rw [ut ok,ut (fun h=>ok h.Df)];rfl
 rw [rc ok,bV rfl,pp];have bd:=ok.bd;obtain ⟨r,N,h1,h2⟩:=Hw ok.iD (t:=k.lc.ci) ok.iz;have h1:oT k.lc.ii k.lc.ci=agb ⟨r,N⟩:=h1;have same: ∀h:fX k,N=k.ls.kw/\r=k.ls.jp:=fun h=>h2.same ok.iD.2.2 h.ls
 have ln:=h2.len;have ao1:k.ls=⟨k.ls.jp,k.ls.kw⟩:=rfl;rw [h1,ao,ao1,Oy _ _ _ _ (by omega),ao]
 by_cases hn:r=k.ls.jp/\N=k.ls.kw
 case neg=>rw [aD hn,ut (fun h:fX k=>hn ⟨(same h).2,(same h).1⟩)];rfl
 have el:=mR N (adc k.lc.ii.am);obtain ⟨IM,_,_⟩:=h2.K1 ok.iD;rw [aH hn,aa9,pp,Ox h2 (by omega),ao,ln,ZS ok _ IM.kn,ao];have iff:=IS ok h2
 by_cases hj:(adc k.lc.af.ce)=(bH N (adc k.lc.ii.am)).length/\ ∀i,i<(bH N (adc k.lc.ii.am)).length->rh k.lc.af.ce (bH N (adc k.lc.ii.am))[i]!/\leads (cd k.lc.ii.am ((bH N (adc k.lc.ii.am))[i]!).2) (cd k.lc.ii.am ((bH N (adc k.lc.ii.am))[i]!).1) k.lc.ci
 · rw [aH hj,rc (show fX k from ⟨ok,by rw [<- hn.1,<- hn.2];exact h2,by rw [<- hn.2];exact iff.1 hj⟩)];rfl
 rw [aD hj,ut (fun h:fX k=>hj (iff.2 (by rw [hn.2];exact h.cert)))];rfl
structure IT (k:cE):Prop where
 c:On k.lc
 n:(adc k.ls.kw)<=1000
theorem K4 {k:cE} (h:IT k):vZ k k=agb agc:=by have hn:=h.n;unfold vZ;rw [MQ h.c,ao,lw,show jQ k.ls k.ls=_ from Oy k.ls.jp k.ls.jp k.ls.kw k.ls.kw (by omega),ao,aH ⟨rfl,rfl⟩]
theorem IU (k:cE):p7 k=agb agc\/(p7 k=agb agd/\IT k):=by
 unfold p7 x3
 rcases KY k.lc with e|⟨e,sh⟩
 · rw [e];exact .inl rfl
 rw [e,ao,pp,ao,ay]
 by_cases h:70<adc k.ls.kw
 · rw [aH (by omega)];exact .inl rfl
 rw [aD (by omega)];exact .inr ⟨rfl,sh,by omega⟩
theorem MT {c:aI} (ok:aS c) {f:List Pt} (iI:bF f) {N:List Nd} {r:Int} (tr:eM f c.ci N r):
 ∃R:aI×Int,ni c ⟨f⟩ (bH N (adc f))=agb R/\mv c ⟨f⟩ (bH N (adc f))=agb R/\(R.2=0/\F2 c f (bH N (adc f)) R.1\/R=(dD,18)):=by
 have f1:=iI.1;obtain ⟨IM,nd,_⟩:=tr.K1 iI;have el:=mR N (adc f);obtain ⟨R,r1,r2,r3⟩:=ZQ ok iI IM;have ee:lV f (bH N (adc f))=0:=by unfold lV;rw [ut (If.2 IM.cv),ut (If.2 nd),ut (fun h=>h IM.kn)]
 have rn:=F6 ok iI (es:=bH N (adc f)) (by omega) (fun _=>r1);rw [rc ee] at rn;exact ⟨R,rn,r2,r3⟩
theorem F8 {α:Type} [BEq α] [LawfulBEq α]: ∀{a b:List α},a.Nodup->(∀x∈a,x∈b)->adc a<=adc b
 | [],_,_,_=>aai _
 |x::a,b,hd,h=>by rw [abE] at hd;have hx:=h x List.mem_cons_self;have:=F8 (a:=a) (b:=b.erase x) hd.2 (fun y hy=>by rw [List.mem_erase_of_ne (fun e=>hd.1 (by rw [<- e];exact hy))];exact h y (List.mem_cons_of_mem _ hy));rw [List.length_erase_of_mem hx] at this;have:=List.length_pos_of_mem hx;rw [List.length_cons];omega
theorem Di {α:Type} [BEq α] [LawfulBEq α] {a b:List α} (ha:a.Nodup) (hb:b.Nodup) (h1: ∀x∈a,x∈b) (h2: ∀x∈b,x∈a):a.Perm b:=wC ha h1 (F8 hb h2)
structure MU (R:cE) (F:List Pt) (t:Int×Int):Prop where
 ok:fX R
 iD:R.lc.ii.am=F
 ci:R.lc.ci=t
theorem MU.short {R:cE} {F:List Pt} {t:Int×Int} (h:MU R F t):IT R:=by have:=h.ok.Df.iD.1;refine ⟨h.ok.Df.short,?_⟩;have:=h.ok.ls.len;omega
theorem MU.yf {R:cE} {F:List Pt} {t:Int×Int} (h:MU R F t):ss R.lc:=h.ok.Df.fit
theorem MU.same {R S:cE} {F:List Pt} {t:Int×Int} (h:MU R F t) (k:MU S F t):R.ls=S.ls:=by have a:=h.ok.ls;rw [h.iD,h.ci] at a;have b:=k.ok.ls;rw [k.iD,k.ci] at b;obtain ⟨e1,e2⟩:=a.same (by rw [<- h.iD];exact h.ok.Df.iD.2.2) b;obtain ⟨_,⟨r,N⟩⟩:=R;obtain ⟨_,⟨r',N'⟩⟩:=S;simp only at e1 e2;subst e1 e2;rfl
theorem TB {f:List Pt} (hs:gR f) {q:Pt} (h:q∈f):cd f q.1=q:=by obtain ⟨i,hi,rfl⟩:=aP.1 h;exact tj hs hi rfl
theorem DY {f:List Pt} (hs:gR f) {x:Int} (h:sq f x):cd f x∈f/\(cd f x).1=x:=by obtain ⟨i,hi,rfl⟩:=h;rw [TB hs (aN hi)];exact ⟨aN hi,rfl⟩
abbrev TC (f:List Pt) (t:Int×Int) (a b:Int):Prop:=leads (cd f a) (cd f b) t
theorem Hy {f:List Pt} (hs:gR f) {t:Int×Int} {l:List Int} (hp: ∀x∈l,sq f x) (nd:l.Nodup):(∀e∈yl l,leads (cd f e.2) (cd f e.1) t)↔Hp (TC f t) l:=by
 constructor
 · intro h j h1 h2 c
   have hm:(l[j]!,l[par j]!)∈yl l:=by refine aP.2 ⟨j-1,by rw [Au];omega,?_⟩;rw [De l (show j-1<adc l-1 by omega),show j-1+1=j by omega]
   exact Dg c (h _ hm)
 intro h e he
 obtain ⟨i,hi,rfl⟩:=aP.1 he;rw [Au] at hi;rw [De l hi];have:=h (i+1) (by omega) (by omega);have pe:par (i+1)=i / 2:=by simp only [par];omega
 rw [pe] at this;refine yn t ?_ this;rw [(DY hs (hp _ (aN (by omega)))).2,(DY hs (hp _ (aN (by omega)))).2];exact fun e=>eL.1 nd (i / 2) (i+1) (by omega) (by omega) e.symm
structure ao2 (R:zq) (F:List Pt) (t:Int×Int):Prop where
 ok:sA R
 iD:R.lc.ii.am=F
 ci:R.lc.ci=t
theorem sA.len {k:zq} (h:sA k):(adc k.bv)=(adc k.lc.ii.am):=by rw [<- h.perm.length_eq];exact Do ..
theorem sA.bd {k:zq} (h:sA k):(adc k.bv)<=64:=by have:=h.len;have:=h.Df.iD.1;omega
theorem sA.has {k:zq} (h:sA k): ∀x∈k.bv,sq k.lc.ii.am x:=fun _ hx=>Oo.1 (h.perm.mem_iff.2 hx)
theorem sA.nd {k:zq} (h:sA k):k.bv.Nodup:=h.perm.nodup_iff.1 (Hv h.Df.iD.2.2)
theorem sA.hp {k:zq} (h:sA k):Hp (TC k.lc.ii.am k.lc.ci) k.bv:=(Hy h.Df.iD.2.2 h.has h.nd).1 h.lead
theorem F2.bv {c:aI} {f:List Pt} (iI:bF f) {l:List Int} (pm:(Hu f).Perm l) {R:zq} (e:R.bv=l) (q:F2 c f (yl l) R.lc) (h:Hp (TC f c.ci) l):ao2 R f c.ci:=by
 have nd:=pm.nodup_iff.1 (Hv iI.2.2);refine ⟨⟨q.ok,by rw [q.iD,e];exact pm,?_,?_⟩,q.iD,q.ci⟩
 · rw [e]
   exact Di (ym q.ok.rE) (KZ nd) (fun x hx=>by obtain ⟨y,hy,rfl⟩:=aaq.1 hx;exact q.sub y hy) (fun x hx=>qj.1 (q.has x hx))
 rw [e,q.iD,q.ci]
 exact (Hy iI.2.2 (fun x hx=>Oo.1 (pm.mem_iff.2 hx)) nd).2 h
def xd (c:aI) (to:Int×Int):Prop:=0<adc c.aa.bv/\dC (Ev.at c.aa.bv[0]!) to<=0
theorem BB {c:aI} (ok:aS c) {to:Int×Int} (rt:aW to) (lF:iJ to) (le: ¬dC to c.ci<0):pX c to=agb (age (xd c to),0):=by
 unfold pX;rw [jK ok.fit,rc ok,ao,c7 lF,rc rt,ao,bV (by decide),pp,Cw lF ok.iz,rc ⟨rt,ok.iL⟩,ao,aD le,pp];unfold Al;rw [iO _ ok.fit.ag,rc ok.jU,ao,bV rfl,pp]
 by_cases h:0<adc c.aa.bv
 · have ev:=ok.jU.ev 0 h
   have g:=aq c.aa.bv 0 h;rw [show ((0:Nat):Int)=0 from rfl] at g;rw [eD (by rw [ay];omega),pp,g,ao,ao,bV rfl,pp,Cw ev.2.1 lF,rc ⟨ev.1,rt⟩,ao]
   congr 2
   by_cases h2:dC (Ev.at c.aa.bv[0]!) to<=0
   · rw [aH (show xd c to from ⟨h,h2⟩),aH h2]
   rw [aD (fun k:xd c to=>h2 k.2),aD h2]
 rw [ed (by rw [ay];omega),lw,ao,aD (fun k:xd c to=>h k.1)]
 rfl
theorem K5 {c:bc} (ok:dU c) {i:Nat} (hi:i<adc c.ce):Ko c (c.ce[i]!).1=agb (i:Int):=by
 have hl:=ok.len;have k:=jS (body:=te) (fun j=>((c.ce[i]!).1,(j:Int),c.aL,c.ce)) (adc c.ce) (fun j=>(c.ce[j]!).1=(c.ce[i]!).1) (fun j=>(j:Int)) (e:= -1) (fun j hj=>by
  unfold te;simp only [ay,aH (show (j:Int)<((adc c.ce):Int) by omega),lw,aq c.ce j hj,ao,aV (show j<1000000000 by omega)];refine ⟨fun h=>?_,fun h=>?_⟩
  · rw [ed h];rfl
  · rw [eD h];rfl) (by
  unfold te;simp only [ay,aD (show¬((adc c.ce):Int)<((adc c.ce):Int) by omega),pp])
 exact k.1 i hi rfl fun j hj e=>by have:=ok.up j i hj hi;omega
abbrev BC (c:aI) (t:Int×Int):aI:=⟨t,c.ii,c.af,c.aa,c.io⟩
theorem TD {c:aI} (ok:aS c) {to:Int×Int} (rt:aW to) (lF:iJ to) (le: ¬dC to c.ci<0) (io:xd c to):
 ∃(x:Int×Int) (c1:aI),gE c to=agb (c1,c.aa.bv[0]!,x,0)/\Bk c=agb (c1,c.aa.bv[0]!,x)/\aS c1/\c1.ii=c.ii/\iy c.ii.am x/\fG c1=fG c+1/\c1.ci=Ev.at c.aa.bv[0]!:=by
 obtain ⟨i,c',hi,num,r1,r2,o4,hf,hc,_⟩:=wB ok io.1;have g:=aq c.aa.bv 0 io.1;rw [show ((0:Nat):Int)=0 from rfl] at g;have GD:(adc c'.af.ce)=adc c.af.ce-1:=by rw [hc];exact List.length_eraseIdx_of_lt hi
 have hcn:c'.af.aL=c.af.aL:=by rw [hc];rfl
 refine ⟨(c.af.ce[i]!).2,BC c' (Ev.at c.aa.bv[0]!),?_,?_,o4,hf,ok.known i hi,?_,rfl⟩
 · unfold gE
   rw [BB ok rt lF le,ao,ed rfl,lw,aH io,aa9,pp,bV rfl,pp,g,ao,r1,ao,bV rfl,pp]
 · unfold Bk
   rw [g,ao,show (c.aa.bv[0]!).2.2.1=(c.af.ce[i]!).1 from num.symm,K5 ok.rE hi,ao,aq c.af.ce i hi,ao,num,r2,ao]
 unfold fG
 show c'.af.aL- ((adc c'.af.ce):Int)=_;rw [GD,hcn];omega
theorem TE {c:aI} (ok:aS c) {to:Int×Int} (rt:aW to) (lF:iJ to) (le: ¬dC to c.ci<0) (io: ¬xd c to):gE c to=agb (dD,(0,0,0,0,0),(0,0),6):=by unfold gE;rw [BB ok rt lF le,ao,ed rfl,lw,aD io];rfl
theorem Z2 {c:aI} (ok:aS c) {to:Int×Int} (rt:aW to) (lF:iJ to) (le: ¬dC to c.ci<0) (io: ¬xd c to):vQ c to=agb (BC c to,0):=by unfold vQ;rw [BB ok rt lF le,ao,ed rfl,lw,aD io,pp,bV rfl,pp,fT ok,ao]
theorem lW {c:aI} (ok:aS c): -200<=fG c/\fG c<=1000000:=by have h1:=ok.rE.len;have h2:=ok.rE.n0;have h3:=ok.rE.n1;unfold fG;omega
structure TF (c:aI) (m k:Nat):Prop where
 l:(adc c.af.ce)<=m
 n:c.af.aL<=k
 u: ∀j,j<adc c.aa.ae.ar->c.aa.ae.ar[j]!<=k
theorem TF.KT {c:aI} (ok:aS c) {m k:Nat} (h:TF c m k) (hm:m<=199) (hk:k<=999999): ¬(zz c.af\/ ¬uP c.aa.ae):=by
 obtain ⟨h1,h2,h3⟩:=h;have fl:=ok.y8.len;have hd:=ok.hd;have hl:=ok.jU.hl;have wl:=ok.jU.wl;have w2:=ok.Dz;rintro (h|h)
 · rcases h with h|h<;>omega
 refine h ⟨by omega,?_⟩
 have:=h3 _ (wg ok.jU.so (by omega)).1;omega
theorem TF.more {c c':aI} {m k:Nat} (h:TF c m k) {x:Int×Int} (hc:c'.af=mH c.af x) (hs:c'.aa.ae=c.aa.ae\/c'.aa.ae=fO c.aa.ae):TF c' (m+1) (k+1):=by
 obtain ⟨h1,h2,h3⟩:=h;refine ⟨?_,?_,fun j hj=>?_⟩
 · rw [hc]
   show (c.af.ce++[(c.af.aL,x)]).length<=_;rw [AC,v6];omega
 · rw [hc]
   show c.af.aL+1<=_;omega
 rcases hs with e|e
 · rw [e] at hj ⊢
   have:=h3 j hj;omega
 rw [e] at hj ⊢
 change j<(c.aa.ae.ar.set _ _).length at hj;rw [UV] at hj;show (c.aa.ae.ar.set (cB c.aa.ae) (c.aa.ae.ar[cB c.aa.ae]!+1))[j]!<=_;rw [ba];split
 · rename_i h;have:=h3 _ h.2;omega
 have:=h3 j hj;omega
theorem Qe {c:aI} (ok:aS c) {to:Int×Int} (rt:aW to) (io: ¬xd c to) {y:qi} (hy:y∈c.af.ce) (is:(bk c.ii.am y.2 c.ci).2=agc):
 to.1*(bk c.ii.am y.2 c.ci).1.2<(bk c.ii.am y.2 c.ci).1.1*to.2:=by
 obtain ⟨d,hd,_,ev⟩:=ok.y8.has _ hy is;obtain ⟨v,hv,he⟩:=aP.1 ev;have tl:=CI ok.jU v hv;have h0:0<(adc c.aa.bv):=by omega
 have e0:=(ok.jU.ev 0 h0).1.1;have ev':=(ok.jU.ev v hv).1.1;rw [he] at tl ev';have n1: ¬dC (bk c.ii.am y.2 c.ci).1 (Ev.at c.aa.bv[0]!)<0:=fun q=>tl (.inl q)
 rw [rf] at n1;have n2: ¬dC (Ev.at c.aa.bv[0]!) to<=0:=fun q=>io ⟨h0,q⟩
 have n3:to.1*(Ev.at c.aa.bv[0]!).2<(Ev.at c.aa.bv[0]!).1*to.2:=by unfold dC at n2;rcases cN ((Ev.at c.aa.bv[0]!).1*to.2) (to.1*(Ev.at c.aa.bv[0]!).2) with ⟨a,b⟩|⟨a,b⟩|⟨a,b⟩<;>omega
 exact mw rt.1 e0 ev' n3 (abY.1 n1)
theorem TG {c:aI} (ok:aS c) {to:Int×Int} (rt:aW to) (lF:iJ to) (le: ¬dC to c.ci<0) (io: ¬xd c to):aS (BC c to):=by
 have pt:=fun (x:Int×Int) (hb:iy c.ii.am x)=>And.intro (fu ok.iD hb.2).1 (fu ok.iD hb.1).1
 refine ⟨rt,lF,ok.iD,ok.rE,ok.jU,ok.Dz,ok.hd,ok.known,?_⟩;refine aT.time (t:=c.ci) (fun y hy=>?_) ok.y8;obtain ⟨j,hj,rfl⟩:=aP.1 hy;have hb:=ok.known j hj;refine F4 (pt _ hb).1 (pt _ hb).2 ok.iL rt (by rw [rf] at le;exact abY.1 le) (fun is=>?_);exact aau (Qe ok rt io hy is)
theorem Z3 {c:aI} {s:Int×Int} (h1:gD c=agb c) (h2:gD (BC c s)=agb (BC c s)) {n:Int} {c':aI} {x:Int×Int} (h:fM c n=agb (c',x,0)):fM (BC c s) n=agb (BC c' s,x,0):=by
 unfold fM at h ⊢;rw [h1] at h;rw [h2];dsimp only at h ⊢;cases e0:pU c.af n with
 |none=>rw [e0] at h;cases h
 |some a0=>
  rw [e0,ao] at h;rw [ao];cases e1:(a0.2.2 !=0) with
  |true=>
   rw [e1,lw] at h;injection h with h;have:a0.2.2=0:=by rw [(aat h).2]
   rw [bV this] at e1;cases e1
  |false=>
   rw [e1,pp,ao] at h;rw [pp,ao];cases e2:lx c.io n with
   |none=>rw [e2] at h;cases h
   |some a2=>
    rw [e2,ao] at h;rw [ao];cases e3:a2.2 with
    |false=>rw [e3,pp] at h;rw [pp];injection h with h;obtain ⟨ha,hb⟩:=aat h;rw [<- ha,<- hb]
    |true=>
     rw [e3,lw] at h;rw [lw];cases e4:aG c.io a2.1 with
     |none=>rw [e4] at h;cases h
     |some a3=>
      rw [e4,ao] at h;rw [ao];cases e5:je c.aa a3.2 with
      |none=>rw [e5] at h;cases h
      |some a4=>
       rw [e5,ao] at h;rw [ao];cases e6:(a4.2.2 !=0) with
       |true=>rw [e6,lw] at h;injection h with h;have:a4.2.2=0:=(aat (aat h).2).2;rw [bV this] at e6;cases e6
       |false=>
        rw [e6,pp] at h;rw [pp];cases e7:gQ (a2.1,ai .i64 (a2.1+1),c.io) with
        |none=>rw [e7] at h;cases h
        |some a5=>rw [e7,ao] at h;rw [ao];injection h with h;obtain ⟨ha,hb⟩:=aat h;rw [<- ha,<- hb]
theorem yo {c:aI} (ok:aS c) {to:Int×Int} (rt:aW to) (lF:iJ to) (le: ¬dC to c.ci<0) (io:xd c to) {c':aI} {x:Int×Int} (hd:fM c (Ev.num c.aa.bv[0]!)=agb (c',x,0)):
 gE c to=agb (BC c' (Ev.at c.aa.bv[0]!),c.aa.bv[0]!,x,0):=by
 have g:=aq c.aa.bv 0 io.1;rw [show ((0:Nat):Int)=0 from rfl] at g;unfold gE;rw [BB ok rt lF le,ao,ed rfl,lw,aH io,aa9,pp,bV rfl,pp,g,ao,hd,ao,bV rfl,pp]
structure akm (c:aI) (l:List Int):Prop where
 ok:aS c
 pm:(Hu c.ii.am).Perm l
 ct:(c.af.ce.map fun x=>x.2).Perm (yl l)
theorem akm.bd {c:aI} {l:List Int} (h:akm c l):(adc l)<=64:=by
 have:=h.ok.bd;have:(adc l)=(adc c.ii.am):=by rw [<- h.pm.length_eq];exact Do ..
 omega
theorem DZ {a b:Int×Int}: ¬dC a b<0↔b.1*a.2<=a.1*b.2:=by rw [rf];omega
theorem D0 {a b:Int×Int}:dC a b<=0↔a.1*b.2<=b.1*a.2:=by unfold dC;rcases cN (a.1*b.2) (b.1*a.2) with ⟨x,y⟩|⟨x,y⟩|⟨x,y⟩<;>omega
theorem BD {a b c:Int×Int} (ha:aW a) (hb:aW b) (hc:aW c) (h1: ¬dC b a<0) (h2: ¬dC c b<0): ¬dC c a<0:=by rw [DZ] at*;exact fB ha.1 hb.1 hc.1 h1 h2
theorem xd.more {c:aI} (ok:aS c) {s t:Int×Int} (rs:aW s) (rt:aW t) (st: ¬dC t s<0) (h:xd c s):xd c t:=by refine ⟨h.1,?_⟩;have e0:=(ok.jU.ev 0 h.1).1.1;have h2:=h.2;rw [D0] at*;rw [DZ] at st;exact fB e0 rs.1 rt.1 h2 st
section
variable {s t : Int × Int}
end
noncomputable def pos (l:List Int) (x:Int):Nat:=if h: ∃k,k<adc l/\l[k]! =x then h.choose else 0
section
variable (f : List Pt)
end
section
variable {f : List Pt}
end
theorem K6 (p q:Pt) (t t':Int×Int):wR p q t'*t.2=wR p q t*t'.2+(p.2.2-q.2.2)*(t'.1*t.2-t.1*t'.2):=by unfold wR;generalize p.2.1-q.2.1=a;generalize p.2.2-q.2.2=b;simp only [Int.mul_add,Int.mul_sub,Int.mul_assoc,ab0,Int.mul_left_comm];omega
theorem D1 (p q:Pt) (t:Int×Int):wR q p t= -wR p q t:=by unfold wR;rw [show q.2.1-p.2.1= -(p.2.1-q.2.1) by omega,show q.2.2-p.2.2= -(p.2.2-q.2.2) by omega,abg,abg];omega
theorem Qf {a b:Int} (hb:0<b) (h:0<=a*b):0<=a:=aa2 fun hn=>by have:=Int.mul_neg_of_neg_of_pos (show a<0 by omega) hb;omega
theorem Qg {p q:Pt} {t t':Int×Int} (d:1<=t.2) (d':1<=t'.2) (le:t.1*t'.2<=t'.1*t.2) (hb:q.2.2<=p.2.2) (h:0<=wR p q t):0<=wR p q t':=by refine Qf (show 0<t.2 by omega) ?_;rw [K6 p q t t'];have a:=acj h (show 0<=t'.2 by omega);have b:=acj (show 0<=p.2.2-q.2.2 by omega) (show 0<=t'.1*t.2-t.1*t'.2 by omega);omega
structure IV (f:List Pt) (x:Int×Int) (t:Int×Int):Prop where
 both:iy f x
 zero:wR (cd f x.2) (cd f x.1) t=0
 MV:(cd f x.2).2.2<(cd f x.1).2.2
theorem IV.behind {f:List Pt} {x t to:Int×Int} (h:IV f x t) (d:1<=t.2) (d':1<=to.2) (le:t.1*to.2<=to.1*t.2):leads (cd f x.1) (cd f x.2) to:=by
 have z:=h.zero;have s:=h.MV;have n:=D1 (cd f x.2) (cd f x.1) t;have g:=Qg (p:=cd f x.1) (q:=cd f x.2) d d' le (by omega) (by omega);unfold leads
 by_cases e:wR (cd f x.1) (cd f x.2) to=0
 · exact .inr ⟨e,.inl s⟩
 exact .inl (by omega)
theorem IV.once {f:List Pt} {x t u:Int×Int} (h:IV f x t) (k:IV f x u):t.1*u.2=u.1*t.2:=by
 have z:=K6 (cd f x.2) (cd f x.1) t u;have s:=h.MV;rw [h.zero,k.zero,acr,acr,Int.zero_add] at z;rcases abK.1 z.symm with h|h
 · omega
 omega
theorem IV.later {f:List Pt} {x t ci:Int×Int} (h:IV f x t) (d:1<=t.2) (d':1<=ci.2) (ld:leads (cd f x.2) (cd f x.1) ci):ci.1*t.2<t.1*ci.2:=by
 refine aa2 fun hn=>?_
 have b:=h.behind d d' (by omega);have n:=D1 (cd f x.2) (cd f x.1) ci;unfold leads at b ld;have s:=h.MV;omega
structure Qh (f:List Pt) (ci to:Int×Int) (E:List ((Int×Int)×(Int×Int))):Prop where
 ev: ∀e∈E,IV f e.1 e.2/\aW e.2/\ci.1*e.2.2<e.2.1*ci.2/\e.2.1*to.2<=to.1*e.2.2
 ch: ∀i,i+1<adc E->(E[i]!).2.1*(E[i+1]!).2.2<=(E[i+1]!).2.1*(E[i]!).2.2/\(E[i]!).1≠(E[i+1]!).1
theorem Qh.mono {f:List Pt} {ci to:Int×Int} {E:List ((Int×Int)×(Int×Int))} (h:Qh f ci to E): ∀(j i:Nat),i<=j->j<adc E->(E[i]!).2.1*(E[j]!).2.2<=(E[j]!).2.1*(E[i]!).2.2:=by
 intro j
 induction j with
 |zero=>intro i hi _;(have:i=0:=by omega);subst this;exact abj _
 |succ j ih=>
  intro i hi hj
  by_cases e:i=j+1
  · subst e;exact abj _
  have d:=fun k (hk:k<adc E)=>(h.ev _ (aN hk)).2.1.1
  exact fB (d i (by omega)) (d j (by omega)) (d (j+1) hj) (ih i (by omega) (by omega)) (h.ch j hj).1
theorem Qh.nodup {f:List Pt} {ci to:Int×Int} {E:List ((Int×Int)×(Int×Int))} (h:Qh f ci to E)
 (diff: ∀e∈E,∀g∈E,e.1≠g.1->e.2.1*g.2.2≠g.2.1*e.2.2):(E.map fun e=>e.1).Nodup:=by
 refine eL.2 fun i j k9 hj he=>?_
 rw [Do] at hj;have m: ∀k,k<adc E->(E.map fun e=>e.1)[k]! =(E[k]!).1:=fun k hk=>by rw [getElem!_pos _ k (by rw [Do];exact hk),getElem!_pos E k hk,aak]
 rw [m i (by omega),m j hj] at he;have a:=h.ev _ (aN (show i<(adc E) by omega));have b:=h.ev _ (aN hj);have c:=h.ev _ (aN (show i+1<(adc E) by omega));have same:(E[i]!).2.1*(E[j]!).2.2=(E[j]!).2.1*(E[i]!).2.2:=by have a1:=a.1;rw [he] at a1;exact a1.once b.1
 have m1:=h.ch i (by omega);have m2:=h.mono j (i+1) (by omega) hj;refine diff _ (aN (show i<(adc E) by omega)) _ (aN (show i+1<(adc E) by omega)) m1.2 ?_;have back:=fB c.2.1.1 b.2.1.1 a.2.1.1 m2 (show (E[j]!).2.1*(E[i]!).2.2<=(E[i]!).2.1*(E[j]!).2.2 by omega);have fw:=m1.1;omega
theorem Qh.nil (f:List Pt) (ci to:Int×Int):Qh f ci to []:=⟨fun _ h=>by simp at h,fun i h=>by simp at h⟩
theorem Qh.snoc {f:List Pt} {ci to:Int×Int} {E:List ((Int×Int)×(Int×Int))} (h:Qh f ci to E) {x t:Int×Int} (ev:IV f x t) (r:aW t) (l1:ci.1*t.2<t.1*ci.2) (l2:t.1*to.2<=to.1*t.2)
 (last: ∀i,i+1=adc E->(E[i]!).2.1*t.2<=t.1*(E[i]!).2.2/\(E[i]!).1≠x):Qh f ci to (E++[(x,t)]):=by
 refine ⟨fun e he=>?_,fun i hi=>?_⟩
 · rcases ab1.1 he with he|he
   · exact h.ev e he
   obtain rfl:=aa6.1 he
   exact ⟨ev,r,l1,l2⟩
 rw [AC,v6] at hi
 by_cases e:i+1=adc E
 · have:=last i e
   rw [dQ (show i<(adc E) by omega),fA (show (adc E)<=i+1 by omega),show i+1-(adc E)=0 by omega];exact this
 rw [dQ (show i<(adc E) by omega),dQ (show i+1<(adc E) by omega)]
 exact h.ch i (by omega)
theorem F9 {p q:Pt} (hp:fh p) (hq:fh q) (h:p.1≠q.1):dZ p q=agb (if p.2.2=q.2.2 then ((0,0),6) else (met p q,0)):=by
 unfold dZ;obtain ⟨w1,w2,i1,i2⟩:=Cx hp hq;rw [pG (by constructor<;>constructor<;>decide),rc ⟨hp,hq,Kt⟩,ut h];simp only [ao,show ((0:Int) !=0)=agd from rfl,pp]
 by_cases e:p.2.2=q.2.2
 · rw [rc e,ed e,lw]
 rw [ut e,eD e,pp,w1,w2,Oe i1 i2,(tT hp hq e).1]
 rfl
def DE (a:wZ):Int×Int:=(a.1,a.2.1)
def ug (a b:wZ):Int:=if dC (DE a) (DE b)≠0 then dC (DE a) (DE b) else if iH a.2.2.1 b.2.2.1≠0 then iH a.2.2.1 b.2.2.1 else iH a.2.2.2 b.2.2.2
structure yp (a:wZ):Prop where
 rat:aW (DE a)
 lF:iJ (DE a)
theorem Z4 (a b c:Int):lh [a,b,c]=agb (if a≠0 then a else if b≠0 then b else c):=by
 unfold lh
 by_cases h1:a=0
 · subst h1
   rw [aQ (y:=(0,[0,b,c],3,1)) (by rfl)]
   by_cases h2:b=0
   · subst h2
     rw [aQ (y:=(0,[0,0,c],3,2)) (by rfl)]
     by_cases h3:c=0
     · subst h3
       rw [aQ (y:=(0,[0,0,0],3,3)) (by rfl)];exact aC rfl
     refine aC ?_
     show (bif age ((2:Int)<3) then _ else _)=_;simp only [aG];simp;rw [dN h3];rfl
   refine aC ?_
   show (bif age ((1:Int)<3) then _ else _)=_;simp only [aG];simp;rw [dN h2,ut h2];rfl
 refine aC ?_
 show (bif age ((0:Int)<3) then _ else _)=_;simp only [aG];simp;rw [dN h1,ut h1];rfl
theorem BE {a b:Int×Int} (ha:iJ a) (hb:iJ b) (ra:aW a) (rb:aW b):mN a b=agb (dC a b):=by unfold mN;rw [Cw ha hb,rc ⟨ra,rb⟩];rfl
theorem K7 {a b:wZ} (ha:yp a) (hb:yp b):fL a b=agb (ug a b):=by unfold fL ug;rw [show (a.1,a.2.1)=DE a from rfl,show (b.1,b.2.1)=DE b from rfl,BE ha.lF hb.lF ha.rat hb.rat];simp only [ao,iu,Z4]
theorem tp {a b:wZ}:ug a b<0↔a.1*b.2.1<b.1*a.2.1\/(a.1*b.2.1=b.1*a.2.1/\(a.2.2.1<b.2.2.1\/(a.2.2.1=b.2.2.1/\a.2.2.2<b.2.2.2))):=by
 unfold ug;have h1:dC (DE a) (DE b)=iH (a.1*b.2.1) (b.1*a.2.1):=rfl;rw [h1];rcases cN (a.1*b.2.1) (b.1*a.2.1) with ⟨h,e⟩|⟨h,e⟩|⟨h,e⟩<;>rw [e]
 · simp;omega
 · rcases cN a.2.2.1 b.2.2.1 with ⟨h2,e2⟩|⟨h2,e2⟩|⟨h2,e2⟩<;>rw [e2]
   · simp;omega
   · rcases cN a.2.2.2 b.2.2.2 with ⟨h3,e3⟩|⟨h3,e3⟩|⟨h3,e3⟩<;>rw [e3]<;>simp<;>omega
   simp;omega
 simp;omega
theorem F' {a b c:wZ} (ha:yp a) (hb:yp b) (hc:yp c) (h1:ug a b<0) (h2:ug b c<0):ug a c<0:=by
 rw [tp] at*;have da:1<=a.2.1:=ha.rat.1;have db:1<=b.2.1:=hb.rat.1;have dc:1<=c.2.1:=hc.rat.1;rcases h1 with h1|⟨e1,h1⟩<;>rcases h2 with h2|⟨e2,h2⟩
 · exact .inl (mw da db dc h1 (aau h2))
 · exact .inl (mw da db dc h1 (aas e2))
 · exact .inl (oj da db dc (aas e1) h2)
 right
 have x1:=fB da db dc (aas e1) (aas e2);have x2:=fB dc db da (aas e2.symm) (aas e1.symm);exact ⟨by omega,by omega⟩
theorem Dj {a b c:wZ} (ha:yp a) (hb:yp b) (hc:yp c) (h1: ¬ug a b<0) (h2: ¬ug b c<0): ¬ug a c<0:=by
 rw [tp] at*;have da:1<=a.2.1:=ha.rat.1;have db:1<=b.2.1:=hb.rat.1;have dc:1<=c.2.1:=hc.rat.1;intro h;have x:b.1*a.2.1<=a.1*b.2.1:=by omega
 have y:c.1*b.2.1<=b.1*c.2.1:=by omega
 have z:=fB dc db da y x;have e:a.1*c.2.1=c.1*a.2.1:=by omega
 have x1:=fB da dc db (show a.1*c.2.1<=c.1*a.2.1 by omega) y;have y1:=fB db da dc x (show a.1*c.2.1<=c.1*a.2.1 by omega);omega
theorem TH {a b:wZ} (ha:yp a) (hb:yp b) (h1: ¬ug a b<0) (h2: ¬ug b a<0):a=b:=by
 rw [tp] at*;have e:=yW ha.rat hb.rat (show a.1*b.2.1=b.1*a.2.1 by omega);unfold DE at e;injection e with e1 e2;have e3:a.2.2.1=b.2.2.1:=by omega
 have e4:a.2.2.2=b.2.2.2:=by omega
 exact aav e1 (aav e2 (aav e3 e4))
theorem MW {l:List wZ} (h: ∀x∈l,yp x): ∃m,Bg fL l=agb m/\m.Perm l/\m.Pairwise fun x y=> ¬ug y x<0:=by
 have e: ∀x∈l,∀y∈l,(fL x y).getD 0=ug x y:=fun x hx y hy=>by rw [K7 (h x hx) (h y hy)];rfl
 refine ⟨l.mergeSort fun x y=>!age ((fL y x).getD 0<0),?_,List.mergeSort_perm _ _,?_⟩
 · unfold Bg
   rw [rc];refine ⟨fun x hx y hy=>⟨_,K7 (h x hx) (h y hy)⟩,fun x hx=>?_,fun x hx y hy z hz h1 h2=>?_,fun x hx y hy z hz h1 h2=>?_,fun x hx y hy h1 h2=>?_⟩
   · rw [e x hx x hx,tp];omega
   · rw [e x hx y hy] at h1
     rw [e y hy z hz] at h2;rw [e x hx z hz];exact F' (h x hx) (h y hy) (h z hz) h1 h2
   · rw [e x hx y hy] at h1
     rw [e y hy z hz] at h2;rw [e x hx z hz];exact Dj (h x hx) (h y hy) (h z hz) h1 h2
   rw [e x hx y hy] at h1
   rw [e y hy x hx] at h2;exact TH (h x hx) (h y hy) h1 h2
 obtain ⟨l',kM⟩: ∃l':List {a:wZ // yp a},l'.map (fun x=>x.1)=l:=⟨l.attach.map fun x=>⟨x.1,h x.1 x.2⟩,by rw [List.map_map];exact List.attach_map_subtype_val l⟩
 have hm:(l'.mergeSort fun x y=>!age (ug y.1 x.1<0)).map (fun x=>x.1)=l.mergeSort fun x y=>!age ((fL y x).getD 0<0):=by
  rw [<- kM];refine List.map_mergeSort fun a ha b hb=>?_
  have ma:a.1∈l:=by rw [<- kM];exact aaq.2 ⟨a,ha,rfl⟩
  have mb:b.1∈l:=by rw [<- kM];exact aaq.2 ⟨b,hb,rfl⟩
  rw [e b.1 mb a.1 ma]
 rw [<- hm,abp];have:=List.pairwise_mergeSort (le:=fun x y:{a:wZ // yp a}=>!age (ug y.1 x.1<0)) (fun a b c h1 h2=>by
  simp only [abq,decide_eq_false_iff_not] at*;exact Dj c.2 b.2 a.2 h2 h1) (fun a b=>by
  simp only [Bool.or_eq_true,abq,decide_eq_false_iff_not]
  by_cases q:ug b.1 a.1<0
  · right
    intro q2;have:=F' a.2 b.2 a.2 q2 q;rw [tp] at this;omega
  exact .inl q) l'
 exact this.imp fun h=>by simpa using h
theorem CK {l:List Pt} {x:Pt×Pt}:x∈gB l↔ ∃i j,i<j/\j<adc l/\x=(l[i]!,l[j]!):=by
 unfold gB;simp only [abt,List.mem_range,aaq];constructor
 · rintro ⟨i,hi,q,hq,rfl⟩
   obtain ⟨k,hk,rfl⟩:=aP.1 hq;rw [M2] at hk;refine ⟨i,i+1+k,by omega,by omega,?_⟩;rw [getElem!_pos _ k (by rw [M2];exact hk),aaF,getElem!_pos l (i+1+k) (by omega)]
 rintro ⟨i,j,h1,h2,rfl⟩
 refine ⟨i,by omega,l[j]!,?_,rfl⟩;have:(l.drop (i+1))[j- (i+1)]! =l[j]!:=by
  rw [getElem!_pos _ _ (by rw [M2];omega),aaF,getElem!_pos l j h2]
  congr 1;omega
 rw [<- this];exact aN (by rw [M2];omega)
def MtF (f:List Pt) (x:wZ):Prop:= ∃i j,i<j/\j<adc f/\(f[i]!).2.2≠(f[j]!).2.2/\x=((met f[i]! f[j]!).1,(met f[i]! f[j]!).2,(f[i]!).1,(f[j]!).1)
theorem MtF.ok {f:List Pt} (ok:bF f) {x:wZ} (h:MtF f x):yp x:=by obtain ⟨i,j,h1,h2,h3,rfl⟩:=h;have:=tT (ok.2.1 _ (aN (show i<(adc f) by omega))) (ok.2.1 _ (aN h2)) h3;exact ⟨this.2.1,this.2.2.1⟩
theorem MX {f:List Pt} (ok:bF f): ∀{i j:Nat},i<j->j<adc f->(f[i]!).1<(f[j]!).1:=by
 intro i j k9
 induction j with
 |zero=>omega
 |succ j ih=>
  intro hj;have s:=ok.2.2 j (by omega)
  by_cases e:i=j
  · subst e;exact s
  have:=ih (by omega) (by omega);omega
theorem Z5 {f:List Pt} (ok:bF f): ∃m,C6 f=agb m/\adc m<=5000/\(∀x,x∈m↔MtF f x)/\m.Pairwise fun x y=> ¬ug y x<0:=by
 have M: ∀x∈gB f,dZ x.1 x.2=agb (if x.1.2.2=x.2.2.2 then ((0,0),6) else (met x.1 x.2,0)):=fun x hx=>by obtain ⟨i,j,h1,h2,rfl⟩:=CK.1 hx;exact F9 (ok.2.1 _ (aN (by omega))) (ok.2.1 _ (aN h2)) (by have:=MX ok h1 h2;dsimp only;omega)
 have mem: ∀x,x∈vJ (fun p q=>(dZ p q).getD ((0,0),1)) (gB f)↔MtF f x:=fun x=>by
  unfold vJ;rw [abt];constructor
  · rintro ⟨y,hy,hx⟩
    dsimp only at hx;rw [M y hy] at hx;obtain ⟨i,j,h1,h2,rfl⟩:=CK.1 hy;dsimp only [Option.getD_some] at hx
    by_cases e:(f[i]!).2.2=(f[j]!).2.2
    · rw [rc e] at hx
      simp at hx
    rw [ut e] at hx
    simp only [beq_self_eq_true,lw,aa6] at hx;exact ⟨i,j,h1,h2,e,hx⟩
  rintro ⟨i,j,h1,h2,e,rfl⟩
  have hy:=CK.2 ⟨i,j,h1,h2,rfl⟩;refine ⟨_,hy,?_⟩;have h:=M _ hy;dsimp only at h ⊢;rw [h,ut e];simp
 obtain ⟨m,h1,h2,h3⟩:=MW (l:=vJ (fun p q=>(dZ p q).getD ((0,0),1)) (gB f)) fun x hx=>((mem x).1 hx).ok ok
 refine ⟨m,?_,?_,fun x=>h2.mem_iff.trans (mem x),h3⟩
 · show Kh dZ fL f=_
   unfold Kh;rw [rc ⟨by have:=ok.1;omega,fun x hx=>⟨_,M x hx⟩⟩,h1]
 have a:=Be (fun p q=>(dZ p q).getD ((0,0),1)) (gB f)
 have b:=Fq f;have c:=Nat.mul_le_mul ok.1 ok.1;rw [h2.length_eq];omega
theorem TI (c:Nat->Prop): ∀n,(∀i j,i<j->j<n->c j->c i)-> ∃m,m<=n/\(∀i,i<m->c i)/\ ∀i,m<=i->i<n-> ¬c i
 |0,_=>⟨0,IR _,fun i h=>by omega,fun i _ h=>by omega⟩
 |n+1,h=>by
  obtain ⟨m,h1,h2,h3⟩:=TI c n fun i j a b=>h i j a (by omega)
  by_cases q:c n
  · exact ⟨n+1,IR _,fun i hi=>by
     by_cases e:i=n
     · subst e;exact q
     exact h i n (by omega) (by omega) q,fun i a b=>by omega⟩
  exact ⟨m,by omega,h2,fun i a b=>by
   by_cases e:i=n
   · subst e;exact q
   exact h3 i a (by omega)⟩
theorem IW {m:List wZ} {R:wZ->wZ->Prop} (h:m.Pairwise R) {i j:Nat} (k9:i<j) (hj:j<adc m):R m[i]! m[j]!:=by rw [getElem!_pos m i (by omega),getElem!_pos m j hj];exact aay.1 h i j (by omega) hj k9
theorem Hz {m:List wZ} (hl:(adc m)<=5000) (ok: ∀x∈m,yp x) (hs:m.Pairwise fun x y=> ¬ug y x<0) {t:Int×Int} (r:aW t) (lF:iJ t):
 ∃n:Nat,n<=adc m/\qf m t=agb (n:Int)/\(∀i,i<n->(m[i]!).1*t.2<=t.1*(m[i]!).2.1)/\ ∀i,n<=i->i<adc m->t.1*(m[i]!).2.1<(m[i]!).1*t.2:=by
 obtain ⟨n,n1,n2,n3⟩:=TI (fun i=>(m[i]!).1*t.2<=t.1*(m[i]!).2.1) (adc m) fun i j k9 hj hc=>by
  have:=IW hs k9 hj;rw [tp] at this;have di:=(ok _ (aN (show i<(adc m) by omega))).rat.1;have dj:=(ok _ (aN hj)).rat.1;have le:(m[i]!).1*(m[j]!).2.1<=(m[j]!).1*(m[i]!).2.1:=by omega
  exact fB di dj r.1 le hc
 refine ⟨n,n1,?_,n2,fun i a b=>Int.not_le.1 (n3 i a b)⟩;have run:bC m t ()=aB aX (m,((adc m):Int),(n:Int),(n:Int),t):=by
  unfold bC;refine yO (body:=aX) (fun lo hi=>(m,((adc m):Int),(lo:Int),(hi:Int),t)) (adc m) n (fun i=>(m[i]!).1*t.2<=t.1*(m[i]!).2.1) (fun lo hi h1 h2=>?_) n2 n3 (adc m) 0 (adc m) (by omega) (by omega) n1 (IR _);have e1:age ((lo:Int)<(hi:Int))=agc:=aH (by omega);have hh:=Oc (a:=lo) (b:=hi) (by omega) (by omega);have ho:=ok _ (aN (show (lo+hi) / 2<(adc m) by omega));unfold aX mq;simp only [e1,lw,hh,aq m ((lo+hi) / 2) (by omega),ao];rw [show ((m[(lo+hi) / 2]!).1,(m[(lo+hi) / 2]!).2.1)=DE m[(lo+hi) / 2]! from rfl,BE ho.lF lF ho.rat r];simp only [ao,aV (show (lo+hi) / 2<1000000000 by omega)]
  have cc:dC (DE m[(lo+hi) / 2]!) t<=0↔(m[(lo+hi) / 2]!).1*t.2<=t.1*(m[(lo+hi) / 2]!).2.1:=D0;constructor
  · intro h
    have:=cc.2 h;rw [aD (show¬0<dC (DE m[(lo+hi) / 2]!) t by omega)];rfl
  intro h
  have: ¬dC (DE m[(lo+hi) / 2]!) t<=0:=fun q=>h (cc.1 q)
  rw [aH (show 0<dC (DE m[(lo+hi) / 2]!) t by omega)];rfl
 unfold qf;have e1:age ((n:Int)<(n:Int))=agd:=aD (by omega);have fin: ∃b,aX (m,((adc m):Int),(n:Int),(n:Int),t)=agb (.done ((n:Int),b)):=by
  unfold aX mq;simp only [e1,pp]
  by_cases hn:n<adc m
  · have ho:=ok _ (aN hn)
    rw [aH (show (n:Int)<((adc m):Int) by omega),lw,aq m n hn,ao,show ((m[n]!).1,(m[n]!).2.1)=DE m[n]! from rfl,BE ho.lF lF ho.rat r,ao]
    by_cases q:0<dC (DE m[n]!) t
    · rw [aH q];exact ⟨_,rfl⟩
    rw [aD q];exact ⟨_,rfl⟩
  rw [aD (show¬(n:Int)<((adc m):Int) by omega)];exact ⟨_,rfl⟩
 obtain ⟨b,hb⟩:=fin;rw [run,aC hb];rfl
theorem agQ {f:List Pt} (ok:bF f) {a b:Int×Int} (ra:aW a) (a64:iJ a) (rb:aW b) (b64:iJ b) (le:a.1*b.2<=b.1*a.2):
 ∃L:List wZ,x7 ⟨f⟩ a b=agb (L,0)/\adc L<=5000/\(∀x,x∈L↔MtF f x/\a.1*x.2.1<x.1*a.2/\x.1*b.2<=b.1*x.2.1)/\L.Pairwise fun x y=> ¬ug y x<0:=by
 obtain ⟨m,m1,m2,m3,m4⟩:=Z5 ok;have mok: ∀x∈m,yp x:=fun x hx=>((m3 x).1 hx).ok ok
 obtain ⟨i,i1,i2,i3,i4⟩:=Hz m2 mok m4 ra a64;obtain ⟨j,j1,j2,j3,j4⟩:=Hz m2 mok m4 rb b64;have chk:vV ⟨f⟩ [a,b]=agb 0:=by
  unfold vV;rw [jJ,jT.2 ok,ao,bV rfl,pp];have s1:gV ([a,b],[a,b],2,0)=agb (.next ([a,b],[a,b],2,1)):=by unfold gV;show (bif age ((0:Int)<2) then (aG [a,b] 0).bind _ else _)=_;rw [aH (show (0:Int)<2 by omega),lw,show aG [a,b] 0=agb a by simp [aG],ao,c7 a64,rc ra];rfl
  have s2:gV ([a,b],[a,b],2,1)=agb (.next ([a,b],[a,b],2,2)):=by unfold gV;show (bif age ((1:Int)<2) then (aG [a,b] 1).bind _ else _)=_;rw [aH (show (1:Int)<2 by omega),lw,show aG [a,b] 1=agb b by simp [aG],ao,c7 b64,rc rb];rfl
  have s3:gV ([a,b],[a,b],2,2)=agb (.done 0):=by unfold gV;show (bif age ((2:Int)<2) then _ else bif (2:Int)==2 then (aG [a,b] 0).bind fun a2=>(aG [a,b] 1).bind fun a3=>(mN a2 a3).bind _ else _)=_;rw [aD (show¬(2:Int)<2 by omega),pp,ed rfl,lw,show aG [a,b] 0=agb a by simp [aG],show aG [a,b] 1=agb b by simp [aG],ao,ao,BE a64 b64 ra rb,ao,aD (by have:=D0.2 le;omega)];rfl
  show aB gV ([a,b],[a,b],2,0)=_;rw [aQ s1,aQ s2,aC s3]
 have k9:i<=j:=by
  refine abx fun h=>?_
  have x1:=i3 j h;have x2:=j4 j (IR _) (by omega);have d:1<=(m[j]!).2.1:=(mok _ (aN (show j<(adc m) by omega))).rat.1;have:=fB d ra.1 rb.1 x1 le;omega
 refine ⟨(m.drop i).take (j-i),?_,by rw [EQ,M2];omega,fun x=>?_,(m4.sublist ((List.take_sublist _ _).trans (List.drop_sublist _ _)))⟩
 · unfold x7
   rw [chk,ao,bV rfl,pp,m1,ao,i2,ao,j2,ao];simp only [ay];rw [aH (show (0:Int)<=(i:Int) by omega),aH (show (i:Int)<=(j:Int) by omega),aH (show (j:Int)<=(j:Int) by omega),aH (show (j:Int)<=((adc m):Int) by omega)];show agb (_,_)=_;rw [Nat.zero_add,aam,aam]
 rw [aP,<- m3]
 have at_: ∀k,k<j-i->((m.drop i).take (j-i))[k]! =m[i+k]!:=fun k hk=>by rw [getElem!_pos _ k (by rw [EQ,M2];omega),aaA,aaF,getElem!_pos m (i+k) (by omega)]
 constructor
 · rintro ⟨k,hk,rfl⟩
   rw [EQ,M2] at hk;rw [at_ k (by omega)];exact ⟨aN (by omega),i4 _ (by omega) (by omega),j3 _ (by omega)⟩
 rintro ⟨hx,h1,h2⟩
 obtain ⟨k,hk,rfl⟩:=aP.1 hx;have k1:i<=k:=abx fun h=>by have:=i3 k h;omega
 have k2:k<j:=Nat.lt_of_not_le fun h=>by have:=j4 k h hk;omega
 exact ⟨k-i,by rw [EQ,M2];omega,by rw [at_ _ (by omega)];congr 1;omega⟩
def Z6 (lo hi:Int):Int:=if hi<lo then hi else lo
def Z7 (lo hi:Int):Int:=if hi>lo then hi else lo
theorem K8 {p q:Pt} (hp:fh p) (hq:fh q) (h:p.2.2≠q.2.2) {t:Int×Int} (r:aW t) (z:wR p q t=0):met p q=t:=by
 obtain ⟨_,mr,_,me⟩:=tT hp hq h;refine yW mr r ?_;unfold wR at z;have e:t.1*(q.2.2-p.2.2)=(p.2.1-q.2.1)*t.2:=by
  have:t.1*(q.2.2-p.2.2)= -((p.2.2-q.2.2)*t.1):=by rw [show q.2.2-p.2.2= -(p.2.2-q.2.2) by omega,Int.mul_neg,ab0]
  omega
 have k:((met p q).1*t.2-t.1*(met p q).2)*(q.2.2-p.2.2)=0:=by
  have a1:(met p q).1*t.2*(q.2.2-p.2.2)=(p.2.1-q.2.1)*(met p q).2*t.2:=by rw [<- me,aaj]
  have a2:t.1*(met p q).2*(q.2.2-p.2.2)=(p.2.1-q.2.1)*(met p q).2*t.2:=by rw [aaj,e,aaj]
  rw [abz,a1,a2,Int.sub_self]
 rcases abK.1 k with k|k
 · omega
 omega
theorem IV.ne {f:List Pt} {x t:Int×Int} (h:IV f x t):x.1≠x.2:=fun e=>by have:=h.MV;rw [e] at this;omega
theorem akn {f:List Pt} (ok:bF f) {x t:Int×Int} (h:IV f x t) (r:aW t):MtF f (t.1,t.2,Z6 x.1 x.2,Z7 x.1 x.2):=by
 have ne:=h.ne;have s:=h.MV;obtain ⟨ha,hb⟩:=h.both;obtain ⟨ma,ia⟩:=DY ok.2.2 ha;obtain ⟨mb,ib⟩:=DY ok.2.2 hb;obtain ⟨i,hi,ei⟩:=aP.1 ma;obtain ⟨j,hj,ej⟩:=aP.1 mb;have z:=h.zero;have oa:=ok.2.1 _ ma;have ob:=ok.2.1 _ mb;rcases PP i j with q|q|q
 · have u:=MX ok q hj
   rw [ei,ej,ia,ib] at u;refine ⟨i,j,q,hj,by rw [ei,ej];omega,?_⟩;have gz:wR (cd f x.1) (cd f x.2) t=0:=by have:=D1 (cd f x.2) (cd f x.1) t;omega
   rw [ei,ej,K8 oa ob (by omega) r gz,ia,ib];unfold Z6 Z7;rw [ut (by omega),rc (by omega)]
 · subst q
   exact absurd (ia.symm.trans (by rw [<- ei,ej,ib])) ne
 have u:=MX ok q hi
 rw [ei,ej,ia,ib] at u;refine ⟨j,i,q,hi,by rw [ei,ej];omega,?_⟩;rw [ei,ej,K8 ob oa (by omega) r z,ia,ib];unfold Z6 Z7;rw [rc (by omega),ut (by omega)]
structure K9 (f:List Pt) (ci to:Int×Int) (L:List wZ):Prop where
 len:(adc L)<=5000
 mem: ∀x,x∈L↔MtF f x/\ci.1*x.2.1<x.1*ci.2/\x.1*to.2<=to.1*x.2.1
 srt:L.Pairwise fun x y=> ¬ug y x<0
def Z8 (e:(Int×Int)×(Int×Int)):wZ:=(e.2.1,e.2.2,Z6 e.1.1 e.1.2,Z7 e.1.1 e.1.2)
theorem K9.has {f:List Pt} (ok:bF f) {ci to:Int×Int} {L:List wZ} (hL:K9 f ci to L) {E:List ((Int×Int)×(Int×Int))} (h:Qh f ci to E) {e:(Int×Int)×(Int×Int)} (he:e∈E):Z8 e∈L:=by obtain ⟨p,r,a,b⟩:=h.ev e he;exact (hL.mem _).2 ⟨akn ok p r,a,b⟩
theorem Oz {f:List Pt} {e g:(Int×Int)×(Int×Int)} (he:IV f e.1 e.2) (hg:IV f g.1 g.2) (h:Z8 e=Z8 g):e.1=g.1:=by
 unfold Z8 at h;injection h with h1 h;injection h with h2 h;injection h with h3 h4;have n1:=he.ne;have n2:=hg.ne;have s1:=he.MV;have s2:=hg.MV;unfold Z6 at h3;unfold Z7 at h4
 by_cases c:e.1.1=g.1.1
 · exact aav c (by (repeat' split at h3)<;>(repeat' split at h4)<;>omega)
 have c1:e.1.1=g.1.2:=by (repeat' split at h3)<;>(repeat' split at h4)<;>omega
 have c2:e.1.2=g.1.1:=by (repeat' split at h3)<;>(repeat' split at h4)<;>omega
 rw [c1,c2] at s1;omega
theorem K9.more {f:List Pt} (ok:bF f) {ci to:Int×Int} {L:List wZ} (hL:K9 f ci to L) {E:List ((Int×Int)×(Int×Int))} (h:Qh f ci to E) (nd:(E.map fun e=>e.1).Nodup):(adc E)<=(adc L):=by
 have:(E.map Z8).length<=(adc L):=by
  refine List.Nodup.length_le_of_subset ?_ fun x hx=>?_
  · rw [eL] at nd ⊢
    intro i j k9 hj he;rw [Do] at hj;have m1: ∀k,k<adc E->(E.map Z8)[k]! =Z8 E[k]!:=fun k hk=>by rw [getElem!_pos _ k (by rw [Do];exact hk),getElem!_pos E k hk,aak]
    have m2: ∀k,k<adc E->(E.map fun e=>e.1)[k]! =(E[k]!).1:=fun k hk=>by rw [getElem!_pos _ k (by rw [Do];exact hk),getElem!_pos E k hk,aak]
    rw [m1 i (by omega),m1 j hj] at he;have:=nd i j k9 (by rw [Do];exact hj);rw [m2 i (by omega),m2 j hj] at this;exact this (Oz (h.ev _ (aN (by omega))).1 (h.ev _ (aN hj)).1 he)
  obtain ⟨e,he,rfl⟩:=aaq.1 hx
  exact hL.has ok h he
 rwa [Do] at this
theorem K9.diff {f:List Pt} (ok:bF f) {ci to:Int×Int} {L:List wZ} (hL:K9 f ci to L) {E:List ((Int×Int)×(Int×Int))} (h:Qh f ci to E) (d: ∀i,i+1<adc L->DE L[i+1]!≠DE L[i]!):
 ∀e∈E,∀g∈E,e.1≠g.1->e.2.1*g.2.2≠g.2.1*e.2.2:=by
 intro e he g hg dE heq;have hs:=yW (h.ev e he).2.1 (h.ev g hg).2.1 heq;obtain ⟨i,hi,ei⟩:=aP.1 (hL.has ok h he);obtain ⟨j,hj,ej⟩:=aP.1 (hL.has ok h hg);have mo: ∀k,k<adc L->yp L[k]!:=fun k hk=>((hL.mem _).1 (aN hk)).1.ok ok
 have key: ∀i j:Nat,i<j->j<adc L->DE L[i]! =DE L[j]!->False:=fun i j k9 hj agR=>by
  have a:=IW hL.srt (show i<i+1 by omega) (show i+1<(adc L) by omega);rw [tp] at a
  by_cases c:i+1=j
  · subst c;exact d i hj agR.symm
  have b:=IW hL.srt (show i+1<j by omega) hj
  rw [tp] at b;have di:1<=(L[i]!).2.1:=(mo i (by omega)).rat.1;have dj:1<=(L[j]!).2.1:=(mo j hj).rat.1;unfold DE at agR;injection agR with q1 q2;refine d i (by omega) (yW (mo (i+1) (by omega)).rat (mo i (by omega)).rat ?_);show (L[i+1]!).1*(L[i]!).2.1=(L[i]!).1*(L[i+1]!).2.1;rw [<- q1,<- q2] at b;omega
 have et:DE (Z8 e)=e.2:=rfl;have gt:DE (Z8 g)=g.2:=rfl;rcases PP i j with q|q|q
 · exact key i j q hj (by rw [ei,ej,et,gt,hs])
 · subst q
   exact dE (Oz (h.ev e he).1 (h.ev g hg).1 (ei.symm.trans ej))
 exact key j i q hi (by rw [ei,ej,et,gt,hs])
theorem Qi {a b:Int×Int} (h: ¬dC b a<0):a.1*b.2<=b.1*a.2:=by rw [DZ] at h;exact h
theorem yX {a b:Int×Int} (h:a.1*b.2<=b.1*a.2): ¬dC b a<0:=by rw [DZ];exact h
theorem yq {c:aI} (ok:aS c) (ld: ∀e∈c.af.ce.map fun x=>x.2,leads (cd c.ii.am e.2) (cd c.ii.am e.1) c.ci) {to:Int×Int} (rt:aW to) (lF:iJ to) (le: ¬dC to c.ci<0) (io:xd c to):
 ∃x c1,gE c to=agb (c1,c.aa.bv[0]!,x,0)/\aS c1/\c1.ii=c.ii/\fG c1=fG c+1/\IV c.ii.am x c1.ci/\c.ci.1*c1.ci.2<c1.ci.1*c.ci.2/\c1.ci.1*to.2<=to.1*c1.ci.2:=by
 obtain ⟨i0,c',hi0,num,r1,_,_,hf,hc,ge⟩:=wB ok io.1;obtain ⟨x',c1,f1,_,o4,hf1,zM,O4,hn1⟩:=TD ok rt lF le io;have hb:=ok.known i0 hi0;obtain ⟨d,hd,hn⟩:=ok.yf _ (aN io.1);obtain ⟨y,hy,y1,y2,y3⟩:=ok.y8.io d hd;have hye:y=c.af.ce[i0]!:=Up.inj ok.sx hy (aN hi0) (by rw [<- y1,hn,num]);subst hye;have tm:Ev.at c.aa.bv[0]! =(bk c.ii.am (c.af.ce[i0]!).2 c.ci).1:=by
  obtain ⟨w,hw,he⟩:=aP.1 y3;have hw0:w=0:=aa2 fun hx=>by refine ok.jU.nd 0 w (by omega) hw ?_;rw [he,<- hn,y1]
  subst hw0;rw [he]
 have xe:x'=(c.af.ce[i0]!).2:=by have:=yo ok rt lF le io r1;rw [f1] at this;injection this with this;injection this with _ this;injection this with _ this;injection this with this _
 obtain ⟨x,hx⟩: ∃x,x=(c.af.ce[i0]!).2:=⟨_,rfl⟩;rw [<- hx] at hb tm y2 xe;subst xe;have xm:x'∈c.af.ce.map fun x=>x.2:=aaq.2 ⟨_,aN hi0,hx.symm⟩
 have l0:=ld x' xm;have hpt:=fu ok.iD hb.2;have ao5:=fu ok.iD hb.1;have nl: ¬leads (cd c.ii.am x'.1) (cd c.ii.am x'.2) c.ci:=fun h=>by have:=D1 (cd c.ii.am x'.2) (cd c.ii.am x'.1) c.ci;unfold leads at h l0;omega
 have W:bk c.ii.am x' c.ci=jI (cd c.ii.am x'.2) (cd c.ii.am x'.1) c.ci:=rfl;rw [W] at tm y2;unfold jI at tm y2;rw [ut nl] at tm y2;have sl:(cd c.ii.am x'.2).2.2<(cd c.ii.am x'.1).2.2:=by
  refine aa2 fun h=>?_
  rw [ut h] at y2;cases y2
 rw [rc sl] at tm;have tm:Ev.at c.aa.bv[0]! =met (cd c.ii.am x'.2) (cd c.ii.am x'.1):=tm;obtain ⟨_,mr,_,me⟩:=tT hpt.1 ao5.1 (show (cd c.ii.am x'.2).2.2≠(cd c.ii.am x'.1).2.2 by omega);have z:wR (cd c.ii.am x'.2) (cd c.ii.am x'.1) (Ev.at c.aa.bv[0]!)=0:=by
  rw [tm];unfold wR;have:((cd c.ii.am x'.2).2.2- (cd c.ii.am x'.1).2.2)*(met (cd c.ii.am x'.2) (cd c.ii.am x'.1)).1= -((met (cd c.ii.am x'.2) (cd c.ii.am x'.1)).1*((cd c.ii.am x'.1).2.2- (cd c.ii.am x'.2).2.2)):=by rw [show (cd c.ii.am x'.2).2.2- (cd c.ii.am x'.1).2.2= -((cd c.ii.am x'.1).2.2- (cd c.ii.am x'.2).2.2) by omega,abg,ab0]
  rw [this,me];omega
 have evp:IV c.ii.am x' (Ev.at c.aa.bv[0]!):=⟨hb,z,sl⟩;refine ⟨x',c1,f1,o4,hf1,O4,by rw [hn1];exact evp,?_,?_⟩
 · rw [hn1]
   exact evp.later (by rw [tm];exact mr.1) ok.iL.1 l0
 rw [hn1]
 have h2:=io.2;rw [D0] at h2;exact h2
structure Qj (f:List Pt) (uh to ci:Int×Int) (E:List ((Int×Int)×(Int×Int))):Prop where
 ev: ∀e∈E,IV f e.1 e.2/\aW e.2/\uh.1*e.2.2<e.2.1*uh.2/\e.2.1*to.2<=to.1*e.2.2/\e.2.1*ci.2<=ci.1*e.2.2
 inc:E.Pairwise fun a b=>a.2.1*b.2.2<b.2.1*a.2.2
theorem Qj.nil (f:List Pt) (uh to ci:Int×Int):Qj f uh to ci []:=⟨fun _ h=>by simp at h,.nil⟩
theorem Qj.snoc {f:List Pt} {uh to ci t:Int×Int} {E:List ((Int×Int)×(Int×Int))} (h:Qj f uh to ci E) (rn:aW ci) (r0:aW uh) {x:Int×Int} (p:IV f x t) (r:aW t) (l0:uh.1*ci.2<=ci.1*uh.2) (l1:ci.1*t.2<t.1*ci.2) (l2:t.1*to.2<=to.1*t.2):Qj f uh to t (E++[(x,t)]):=by
 refine ⟨fun e he=>?_,List.pairwise_append.2 ⟨h.inc,List.pairwise_singleton _ _,fun a ha b hb=>?_⟩⟩
 · rcases ab1.1 he with he|he
   · obtain ⟨a,b,c,d,e1⟩:=h.ev e he
     exact ⟨a,b,c,d,fB b.1 rn.1 r.1 e1 (aau l1)⟩
   obtain rfl:=aa6.1 he
   exact ⟨p,r,oj r0.1 rn.1 r.1 l0 l1,l2,abj _⟩
 obtain rfl:=aa6.1 hb
 obtain ⟨_,b,_,_,e1⟩:=h.ev a ha;exact oj b.1 rn.1 r.1 e1 l1
theorem Qj.nodup {f:List Pt} {uh to ci:Int×Int} {E:List ((Int×Int)×(Int×Int))} (h:Qj f uh to ci E):(E.map fun e=>e.1).Nodup:=by
 unfold List.Nodup;rw [abp];refine h.inc.imp_of_mem fun {a b} ha hb q e=>?_
 have:=(h.ev a ha).1.once (by rw [e];exact (h.ev b hb).1);omega
theorem Qj.evL {f:List Pt} {uh to ci:Int×Int} {E:List ((Int×Int)×(Int×Int))} (h:Qj f uh to ci E):Qh f uh to E:=by
 refine ⟨fun e he=>by obtain ⟨a,b,c,d,_⟩:=h.ev e he;exact ⟨a,b,c,d⟩,fun i hi=>?_⟩;have q:(E[i]!).2.1*(E[i+1]!).2.2<(E[i+1]!).2.1*(E[i]!).2.2:=by have:=aay.1 h.inc i (i+1) (by omega) hi (by omega);rw [getElem!_pos E i (by omega),getElem!_pos E (i+1) hi];exact this
 refine ⟨aau q,fun e=>?_⟩;have:=(h.ev _ (aN (show i<(adc E) by omega))).1.once (by rw [e];exact (h.ev _ (aN hi)).1);omega
structure Sys (κ:Type) where
 uW:Int×Int->aI->List (Int×Int)->Option (κ×List (Int×Int)×Int)
 Inv:aI->Prop
 set:aI->Option aI
 res:aI->κ
 zero:κ
 ok: ∀{c},Inv c->aS c
 lead: ∀{c},Inv c-> ∀e∈c.af.ce.map fun x=>x.2,leads (cd c.ii.am e.2) (cd c.ii.am e.1) c.ci
 at_: ∀{c to},Inv c->aW to->iJ to-> ¬dC to c.ci<0-> ¬xd c to->Inv (BC c to)
 stop: ∀{c to out},Inv c->aW to->iJ to-> ¬dC to c.ci<0-> ¬xd c to->uW to c out=agb (res (BC c to),out,0)
 ev: ∀{c to out c1 e x},Inv c->aW to->iJ to-> ¬dC to c.ci<0->xd c to->gE c to=agb (c1,e,x,0)->aS c1->c1.ii=c.ii->adc out+1<=1048576->
  uW to c out=match set c1 with|some c2=>uW to c2 (out++[x])|none=>agb (zero,[],18)
 kept: ∀{c c1 c2},Inv c->aS c1->c1.ii=c.ii->set c1=agb c2->Inv c2/\c2.ii.am=c.ii.am/\c2.ci=c1.ci/\fG c1<=fG c2
section
variable {κ : Type} (S : Sys κ)
theorem BF {c:aI} (h:S.Inv c) {to:Int×Int} (rt:aW to) (lF:iJ to) (le: ¬dC to c.ci<0) (io:xd c to):
 (∃x c2,S.Inv c2/\c2.ii.am=c.ii.am/\fG c+1<=fG c2/\IV c.ii.am x c2.ci/\c.ci.1*c2.ci.2<c2.ci.1*c.ci.2/\c2.ci.1*to.2<=to.1*c2.ci.2/\ ∀out,adc out+1<=1048576->S.uW to c out=S.uW to c2 (out++[x]))\/
 (∀out,adc out+1<=1048576->S.uW to c out=agb (S.zero,[],18)):=by
 obtain ⟨x,c1,f1,o4,hf,hr,p,l1,l2⟩:=yq (S.ok h) (S.lead h) rt lF le io;cases hs:S.set c1 with
 |none=>right;intro out ho;have:=S.ev h rt lF le io f1 o4 hf ho;rw [hs] at this;exact this
 |some c2=>left;obtain ⟨k1,k2,k3,k4⟩:=S.kept h o4 hf hs;refine ⟨x,c2,k1,k2,by omega,by rw [k3];exact p,by rw [k3];exact l1,by rw [k3];exact l2,fun out ho=>?_⟩;have:=S.ev h rt lF le io f1 o4 hf ho;rw [hs] at this;exact this
theorem Z9 {f:List Pt} {uh to:Int×Int} (r0:aW uh) (rt:aW to) (lF:iJ to): ∀(d:Nat) (c:aI) (E:List ((Int×Int)×(Int×Int))),1000000-fG c<=(d:Int)->S.Inv c->c.ii.am=f->Qj f uh to c.ci E->uh.1*c.ci.2<=c.ci.1*uh.2-> ¬dC to c.ci<0->((adc E):Int)<=fG c+200->
 S.uW to c (E.map fun e=>e.1)=agb (S.zero,[],18)\/ ∃c2 E',S.uW to c (E.map fun e=>e.1)=agb (S.res (BC c2 to),E'.map (fun e=>e.1),0)/\S.Inv c2/\c2.ii.am=f/\ ¬dC to c2.ci<0/\ ¬xd c2 to/\Qj f uh to c2.ci E'/\((adc E'):Int)<=fG c2+200:=by
 intro d
 induction d with
 |zero=>
  intro c E hd h hf he h0 le ho;have rb:=lW (S.ok h)
  by_cases io:xd c to
  · rcases BF S h rt lF le io with ⟨x,c2,i2,f2,r2,p2,l1,l2,ad⟩|ad
    · have:=lW (S.ok i2);omega
    exact .inl (ad _ (by rw [Do];omega))
  exact .inr ⟨c,E,S.stop h rt lF le io,h,hf,le,io,he,ho⟩
 |succ d ih=>
  intro c E hd h hf he h0 le ho;have rb:=lW (S.ok h)
  by_cases io:xd c to
  · rcases BF S h rt lF le io with ⟨x,c2,i2,f2,r2,p2,l1,l2,ad⟩|ad
    · rw [hf] at p2
      rw [ad _ (by rw [Do];omega),show (E.map fun e=>e.1)++[x]=(E++[(x,c2.ci)]).map (fun e=>e.1) by rw [ab5];rfl];exact ih c2 _ (by omega) i2 (f2.trans hf) (he.snoc (S.ok h).iL r0 p2 (S.ok i2).iL h0 l1 l2) (fB r0.1 (S.ok h).iL.1 (S.ok i2).iL.1 h0 (aau l1)) (yX l2) (by rw [AC,v6];omega)
    exact .inl (ad _ (by rw [Do];omega))
  exact .inr ⟨c,E,S.stop h rt lF le io,h,hf,le,io,he,ho⟩
theorem MY {t:Int×Int} (rt:aW t) (t64:iJ t): ∀(d:Nat) (c:aI) (p q:List (Int×Int)),1000000-fG c<=(d:Int)->S.Inv c-> ¬dC t c.ci<0->((p++q).length:Int)<=fG c+200->
 (S.uW t c q=agb (S.zero,[],18)/\S.uW t c (p++q)=agb (S.zero,[],18))\/
 ∃c2 n,S.uW t c q=agb (S.res (BC c2 t),n,0)/\S.uW t c (p++q)=agb (S.res (BC c2 t),p++n,0)/\S.Inv c2/\ ¬dC t c2.ci<0/\ ¬xd c2 t/\((p++n).length:Int)<=1000200:=by
 intro d
 induction d with
 |zero=>
  intro c p q hd h le ho;have rb:=lW (S.ok h)
  by_cases io:xd c t
  · rcases BF S h rt t64 le io with ⟨x,c2,i2,f2,r2,p2,l1,l2,ad⟩|ad
    · have:=lW (S.ok i2);omega
    refine .inl ⟨ad _ ?_,ad _ ?_⟩
    · rw [AC] at ho;omega
    omega
  exact .inr ⟨c,q,S.stop h rt t64 le io,S.stop h rt t64 le io,h,le,io,by omega⟩
 |succ d ih=>
  intro c p q hd h le ho;have rb:=lW (S.ok h);have hq:(adc q)<=(p++q).length:=by rw [AC];omega
  by_cases io:xd c t
  · rcases BF S h rt t64 le io with ⟨x,c2,i2,f2,r2,p2,l1,l2,ad⟩|ad
    · rw [ad q (by omega),ad (p++q) (by omega),aaE]
      exact ih c2 p (q++[x]) (by omega) i2 (yX l2) (by rw [<- aaE,AC,v6];omega)
    exact .inl ⟨ad _ (by omega),ad _ (by omega)⟩
  exact .inr ⟨c,q,S.stop h rt t64 le io,S.stop h rt t64 le io,h,le,io,by omega⟩
theorem La {c:aI} (h:S.Inv c) {s t:Int×Int} (rs:aW s) (DF:iJ s) (rt:aW t) (t64:iJ t) (les: ¬dC s c.ci<0) (Lb: ¬dC t c.ci<0) (ds:xd c s) (dt:xd c t):
 (∃x c2,S.Inv c2/\c2.ii.am=c.ii.am/\fG c+1<=fG c2/\c2.ci.1*s.2<=s.1*c2.ci.2/\ ∀out,adc out+1<=1048576->S.uW s c out=S.uW s c2 (out++[x])/\S.uW t c out=S.uW t c2 (out++[x]))\/
 (∀out,adc out+1<=1048576->S.uW s c out=agb (S.zero,[],18)/\S.uW t c out=agb (S.zero,[],18)):=by
 obtain ⟨x,c1,f1,o4,hf,hr,p,l1,l2⟩:=yq (S.ok h) (S.lead h) rs DF les ds;obtain ⟨i,c',_,_,hd,_⟩:=wB (S.ok h) ds.1;have v1:=yo (S.ok h) rs DF les ds hd;have v2:=yo (S.ok h) rt t64 Lb dt hd;have f2:gE c t=agb (c1,c.aa.bv[0]!,x,0):=by rw [v2,<- v1,f1]
 cases hs:S.set c1 with
 |none=>right;intro out ho;have a:=S.ev h rs DF les ds f1 o4 hf ho;have b:=S.ev h rt t64 Lb dt f2 o4 hf ho;rw [hs] at a b;exact ⟨a,b⟩
 |some c2=>left;obtain ⟨k1,k2,k3,k4⟩:=S.kept h o4 hf hs;refine ⟨x,c2,k1,k2,by omega,by rw [k3];exact l2,fun out ho=>?_⟩;have a:=S.ev h rs DF les ds f1 o4 hf ho;have b:=S.ev h rt t64 Lb dt f2 o4 hf ho;rw [hs] at a b;exact ⟨a,b⟩
theorem agT {c:aI} (h:S.Inv c) {s t:Int×Int} (rs:aW s) (DF:iJ s) (rt:aW t) (t64:iJ t) (les: ¬dC s c.ci<0) (st: ¬dC t s<0) (ds: ¬xd c s) (dt:xd c t):
 (∃x c2,S.Inv c2/\fG c+1<=fG c2/\c2.ci.1*t.2<=t.1*c2.ci.2/\ ∀out,adc out+1<=1048576->S.uW t c out=S.uW t c2 (out++[x])/\S.uW t (BC c s) out=S.uW t c2 (out++[x]))\/
 (∀out,adc out+1<=1048576->S.uW t c out=agb (S.zero,[],18)/\S.uW t (BC c s) out=agb (S.zero,[],18)):=by
 have Lb:=BD (S.ok h).iL rs rt les st;have ha:=S.at_ h rs DF les ds;obtain ⟨x,c1,f1,o4,hf,hr,p,l1,l2⟩:=yq (S.ok h) (S.lead h) rt t64 Lb dt;obtain ⟨i,c',_,_,hd,_⟩:=wB (S.ok h) dt.1;have hd2:=Z3 (s:=s) (fT (S.ok h)) (fT (S.ok ha)) hd;have dt2:xd (BC c s) t:=dt;have v1:=yo (S.ok h) rt t64 Lb dt hd;have v2:=yo (S.ok ha) rt t64 st dt2 hd2;have f2:gE (BC c s) t=agb (c1,c.aa.bv[0]!,x,0):=by rw [v2,<- f1,v1]
 cases hs:S.set c1 with
 |none=>right;intro out ho;have a:=S.ev h rt t64 Lb dt f1 o4 hf ho;have b:=S.ev ha rt t64 st dt2 f2 o4 hf ho;rw [hs] at a b;exact ⟨a,b⟩
 |some c2=>left;obtain ⟨k1,k2,k3,k4⟩:=S.kept h o4 hf hs;refine ⟨x,c2,k1,by omega,by rw [k3];exact l2,fun out ho=>?_⟩;have a:=S.ev h rt t64 Lb dt f1 o4 hf ho;have b:=S.ev ha rt t64 st dt2 f2 o4 hf ho;rw [hs] at a b;exact ⟨a,b⟩
theorem agU {s t:Int×Int} (rs:aW s) (DF:iJ s) (rt:aW t) (t64:iJ t) (st: ¬dC t s<0): ∀(d:Nat) (c:aI) (out:List (Int×Int)),1000000-fG c<=(d:Int)->S.Inv c-> ¬dC s c.ci<0->((adc out):Int)<=fG c+200->
 (S.uW s c out=agb (S.zero,[],18)/\S.uW t c out=agb (S.zero,[],18))\/
 ∃c2 m,S.uW s c out=agb (S.res (BC c2 s),m,0)/\S.Inv c2/\ ¬dC s c2.ci<0/\ ¬xd c2 s/\S.uW t c out=S.uW t c2 m/\((adc m):Int)<=fG c2+200/\c2.ii.am=c.ii.am:=by
 intro d
 induction d with
 |zero=>
  intro c out hd h le ho;have rb:=lW (S.ok h)
  by_cases io:xd c s
  · rcases La S h rs DF rt t64 le (BD (S.ok h).iL rs rt le st) io (io.more (S.ok h) rs rt st) with ⟨x,c2,i2,_,r2,_,ad⟩|ad
    · have:=lW (S.ok i2);omega
    exact .inl (ad _ (by omega))
  exact .inr ⟨c,out,S.stop h rs DF le io,h,le,io,rfl,ho,rfl⟩
 |succ d ih=>
  intro c out hd h le ho;have rb:=lW (S.ok h)
  by_cases io:xd c s
  · rcases La S h rs DF rt t64 le (BD (S.ok h).iL rs rt le st) io (io.more (S.ok h) rs rt st) with ⟨x,c2,i2,f2,r2,l2,ad⟩|ad
    · obtain ⟨g1,g2⟩:=ad out (by omega)
      rw [g1,g2,<- f2];exact ih c2 (out++[x]) (by omega) i2 (yX l2) (by rw [AC,v6];omega)
    exact .inl (ad _ (by omega))
  exact .inr ⟨c,out,S.stop h rs DF le io,h,le,io,rfl,ho,rfl⟩
theorem Qk {c:aI} (h:S.Inv c) {s t:Int×Int} (rs:aW s) (DF:iJ s) (rt:aW t) (t64:iJ t) (cs: ¬dC s c.ci<0) (st: ¬dC t s<0):
 (S.uW s c []=agb (S.zero,[],18)/\S.uW t c []=agb (S.zero,[],18))\/
 ∃c2 m,S.uW s c []=agb (S.res (BC c2 s),m,0)/\S.Inv c2/\c2.ii.am=c.ii.am/\ ¬dC s c2.ci<0/\ ¬xd c2 s/\
  (S.uW t (BC c2 s) []=agb (S.zero,[],18)/\S.uW t c []=agb (S.zero,[],18)\/
  ∃c3 n,S.uW t (BC c2 s) []=agb (S.res (BC c3 t),n,0)/\S.uW t c []=agb (S.res (BC c3 t),m++n,0)/\S.Inv c3/\ ¬dC t c3.ci<0/\ ¬xd c3 t/\adc m+adc n<=1000200):=by
 have rb:=lW (S.ok h);rcases agU S rs DF rt t64 st (1000000-fG c).toNat c [] (by omega) h cs (by simp;omega) with a|⟨c2,m,h1,h2,h3,h4,h5,h6,h7⟩
 · exact .inl a
 refine .inr ⟨c2,m,h1,h2,h7,h3,h4,?_⟩;have rb2:=lW (S.ok h2);have ct:=BD (S.ok h2).iL rs rt h3 st
 by_cases io:xd c2 t
 · rcases agT S h2 rs DF rt t64 h3 st h4 io with ⟨x,c3,i3,r3,l3,ad⟩|ad
   · have g1:=(ad [] (by decide)).2
     have g2:=(ad m (by omega)).1;rcases MY S rt t64 (1000000-fG c3).toNat c3 m [x] (by omega) i3 (yX l3) (by rw [AC,v6];omega) with ⟨p1,p2⟩|⟨c4,n,p1,p2,p3,p4,p5,p6⟩
     · exact .inl ⟨by rw [g1];exact p1,by rw [h5,g2];exact p2⟩
     exact .inr ⟨c4,n,by rw [g1];exact p1,by rw [h5,g2];exact p2,p3,p4,p5,by rw [AC] at p6;omega⟩
   exact .inl ⟨(ad [] (by decide)).2,by rw [h5];exact (ad m (by omega)).1⟩
 refine .inr ⟨c2,[],S.stop (S.at_ h2 rs DF h3 h4) rt t64 st io,?_,h2,ct,io,by simp;omega⟩
 rw [h5,aal];exact S.stop h2 rt t64 ct io
end
theorem Z' {s t:Int×Int} (DF:iJ s) (t64:iJ t):vU s t=agb (if aW s/\aW t then 0 else 8):=by
 unfold vU
 by_cases rs:aW s
 · rw [lC DF,rc rs,ao,bV rfl,pp,lC t64,ao]
   by_cases rt:aW t
   · rw [rc rt,rc ⟨rs,rt⟩]
   rw [ut rt,ut fun h=>rt h.2]
 rw [lC DF,ut rs,ao,ut fun h=>rs h.1];rfl
theorem abh {a b:Int×Int} (h: ¬0<dC a b): ¬dC b a<0:=fun q=>h (by rw [rf] at q;unfold dC;rcases cN (a.1*b.2) (b.1*a.2) with ⟨x,y⟩|⟨x,y⟩|⟨x,y⟩<;>omega)
def MZ (l:List (Int×Int)) (L:List wZ) (i k:Nat):Prop:= ∃j,j<k/\(L[j]!).2.2.1=Z6 (l[i]!).1 (l[i]!).2/\(L[j]!).2.2.2=Z7 (l[i]!).1 (l[i]!).2
theorem BG {l:List (Int×Int)} {L:List wZ} {i k:Nat}:MZ l L i (k+1)↔MZ l L i k\/((L[k]!).2.2.1=Z6 (l[i]!).1 (l[i]!).2/\(L[k]!).2.2.2=Z7 (l[i]!).1 (l[i]!).2):=by
 constructor
 · rintro ⟨j,hj,h⟩
   by_cases e:j=k
   · subst e;exact .inr h
   exact .inl ⟨j,by omega,h⟩
 rintro (⟨j,hj,h⟩|h)
 · exact ⟨j,by omega,h⟩
 exact ⟨k,by omega,h⟩
theorem TJ (b0:Bool) (l:List (Int×Int)) (L:List wZ) (hL:(adc L)<=5000) (hl:(adc l)<=5000) {i:Nat} (hi:i<adc l) (h:MZ l L i (adc L)) (hn:l[i]!∉l.take i):
 cS (b0,l,L,(i:Int))=agb (.next (b0,l,L,((i+1:Nat):Int))):=by
 unfold cS;simp only [ay];rw [aH (show (i:Int)<((adc l):Int) by omega),lw];have gi:=aq l i hi;have st:=bL (body:=iC) (fun k=>(b0,l,L,(i:Int),age (MZ l L i k),(k:Int))) (adc L) (fun k hk=>by
  unfold iC;simp only [ay,aH (show (k:Int)<((adc L):Int) by omega),lw,aq L k hk,gi,ao,aV (show k<1000000000 by omega)]
  by_cases q:MZ l L i k
  · rw [aH q,lw,aH (BG.2 (.inl q))]
  rw [aD q,pp]
  rw [show (if (l[i]!).2<(l[i]!).1 then (l[i]!).2 else (l[i]!).1)=Z6 (l[i]!).1 (l[i]!).2 from rfl,show (if (l[i]!).2>(l[i]!).1 then (l[i]!).2 else (l[i]!).1)=Z7 (l[i]!).1 (l[i]!).2 from rfl]
  by_cases c:(L[k]!).2.2.1=Z6 (l[i]!).1 (l[i]!).2
  · rw [ed c,lw]
    by_cases d:(L[k]!).2.2.2=Z7 (l[i]!).1 (l[i]!).2
    · rw [ed d,aH (BG.2 (.inr ⟨c,d⟩))]
    rw [eD d,aD (fun x=>(BG.1 x).elim q (fun y=>d y.2))]
  rw [eD c,pp,aD (fun x=>(BG.1 x).elim q (fun y=>c y.1))])
 rw [show (b0,l,L,(i:Int),agd,(0:Int))=(b0,l,L,(i:Int),age (MZ l L i 0),((0:Nat):Int)) by rw [aD (fun ⟨_,h,_⟩=>aba _ h)];rfl,st];refine aC ?_;unfold iC;simp only [ay,aD (show¬((adc L):Int)<((adc L):Int) by omega),pp,aH h,aa9,kF l i (by omega),gi,ao,yk (l.take i) _ (by rw [EQ];omega),aD hn,aV (show i<1000000000 by omega)]
theorem aaa (b0:Bool) (l:List (Int×Int)) (L:List wZ) (hL:(adc L)<=5000) (hl:(adc l)<=5000) (h: ∀i,i<adc l->MZ l L i (adc L)) (nd:l.Nodup):aB cS (b0,l,L,0)=agb b0:=by
 have st:=bL (body:=cS) (fun i=>(b0,l,L,(i:Int))) (adc l) (fun i hi=>TJ b0 l L hL hl hi (h i hi) (fun hm=>by
  obtain ⟨j,hj,e⟩:=aP.1 hm;rw [EQ] at hj;have e2:(l.take i)[j]! =l[j]!:=by rw [getElem!_pos _ j (by rw [EQ];exact hj),aaA,getElem!_pos l j (by omega)]
  rw [e2] at e;exact eL.1 nd j i (by omega) hi e))
 refine (show _=_ from st).trans (aC ?_);unfold cS;simp only [ay,aD (show¬((adc l):Int)<((adc l):Int) by omega),pp]
theorem agV {f:List Pt} (iI:bF f) {ci to n2:Int×Int} {L:List wZ} (hL:K9 f ci to L) {E:List ((Int×Int)×(Int×Int))} (h:Qj f ci to n2 E) (_:(adc E)<=1000400):
 (E.map fun e=>e.1).length<=adc L/\ ∀b0,aB cS (b0,E.map (fun e=>e.1),L,0)=agb b0:=by
 have more:=hL.more iI h.evL h.nodup;have len:=hL.len;refine ⟨by rw [Do];exact more,fun b0=>aaa b0 _ L hL.len (by rw [Do];omega) (fun i hi=>?_) h.nodup⟩;rw [Do] at hi;have m:(E.map fun e=>e.1)[i]! =(E[i]!).1:=by rw [getElem!_pos _ i (by rw [Do];exact hi),getElem!_pos E i hi,aak]
 obtain ⟨j,hj,e⟩:=aP.1 (hL.has iI h.evL (aN hi));refine ⟨j,hj,?_,?_⟩
 · rw [e,m];rfl
 rw [e,m];rfl
section
variable {α : Type} [Inhabited α] {P : α -> α -> Prop} {S : α -> Prop}
end
section
variable {f : List Pt} {t : Int × Int}
end
theorem aab {h l:Pt} {t t':Int×Int} (hh:fh h) (hl:fh l) (r:aW t) (r':aW t') (le:t.1*t'.2<=t'.1*t.2) (nf:(jI h l t).2=agc->t'.1*(jI h l t).1.2<(jI h l t).1.1*t'.2): ¬leads l h t':=by
 unfold jI at nf
 by_cases h1:leads l h t
 · rw [rc h1] at nf
   have:=nf rfl;dsimp only at this;omega
 rw [ut h1] at nf
 by_cases h2:h.2.2<l.2.2
 · rw [rc h2] at nf
   obtain ⟨_,m1,m2,m3⟩:=tT hh hl (show h.2.2≠l.2.2 by omega);have up:=nf rfl;dsimp only at up;intro h3;have g:0<=wR l h t':=by rcases h3 with k|k<;>omega
   rw [By] at g;generalize met h l=m at*;have d:=m1.1;have hB:0<l.2.2-h.2.2:=by omega
   generalize l.2.2-h.2.2=B at*;generalize hA:h.2.1-l.2.1=A at*;have g2:A*t'.2<=B*t'.1:=by
    have:(l.2.1-h.2.1)*t'.2= -(A*t'.2):=by rw [<- abg];congr 1;omega
    omega
   have g3:m.1*t'.2*B<=t'.1*m.2*B:=by
    have e1:m.1*t'.2*B=A*t'.2*m.2:=by rw [aaj,m3,aaj]
    have e2:t'.1*m.2*B=B*t'.1*m.2:=by rw [aaj,ab0 t'.1 B]
    rw [e1,e2];exact Int.mul_le_mul_of_nonneg_right g2 (by omega)
   have g4:m.1*t'.2<=t'.1*m.2:=Int.le_of_mul_le_mul_right g3 hB;omega
 exact Dd r.1 r'.1 le h2 h1
theorem Ga {c:aI} (ok:aS c) {N:List Nd} {r:Int} (tr:eM c.ii.am c.ci N r) (ct: ∀e∈bH N (adc c.ii.am),rh c.af.ce e) {to:Int×Int} (rt:aW to) (le: ¬dC to c.ci<0) (io: ¬xd c to):eM c.ii.am to N r:=by
 have ln:=tr.len;refine ⟨tr.len,tr.ids,tr.ls.other (DX ok.iD.2.2 to) (IR _) fun k j _ hk _ hj hb=>?_⟩;have Li:Below N j k:=hb;have hp:=tr.par hj;have hr:(j:Int)≠r:=fun q=>by have e:=hp.1 q;have:=hp.2.2 k (by omega) Li;omega
 obtain ⟨p1,p2,p3,_⟩:=hp.2.1 hr;have ek:=hp.2.2 k (by omega) Li;have mem:((c.ii.am[j]!).1,(c.ii.am[k]!).1)∈bH N (adc c.ii.am):=wE.2 ⟨j,hj,p1,by rw [<- ek,tr.ids j hj,tr.ids k hk]⟩;obtain ⟨w,w1,w2⟩:=ct _ mem;have HX:=ok.iD.2.1 _ (aN hk);have T7:=ok.iD.2.1 _ (aN hj);have wn:bk c.ii.am (c.af.ce[w]!).2 c.ci=jI c.ii.am[k]! c.ii.am[j]! c.ci:=by unfold bk;rw [w2,tj ok.iD.2.2 hk rfl,tj ok.iD.2.2 hj rfl]
 have nl: ¬leads c.ii.am[j]! c.ii.am[k]! to:=by
  refine aab HX T7 ok.iL rt (by rw [rf] at le;omega) fun is=>?_
  rw [<- wn] at is;obtain ⟨d,hd,_,ev⟩:=ok.y8.has _ (aN w1) is;obtain ⟨v,hv,he⟩:=aP.1 ev;have tl:=CI ok.jU v hv;have h0:0<(adc c.aa.bv):=by omega
  have e0:=(ok.jU.ev 0 h0).1.1;have ev':=(ok.jU.ev v hv).1.1;rw [he] at tl ev';rw [<- wn];have n1: ¬dC (bk c.ii.am (c.af.ce[w]!).2 c.ci).1 (Ev.at c.aa.bv[0]!)<0:=fun q=>tl (.inl q)
  rw [rf] at n1;have n2: ¬dC (Ev.at c.aa.bv[0]!) to<=0:=fun q=>io ⟨h0,q⟩
  have n3:to.1*(Ev.at c.aa.bv[0]!).2<(Ev.at c.aa.bv[0]!).1*to.2:=by unfold dC at n2;rcases cN ((Ev.at c.aa.bv[0]!).1*to.2) (to.1*(Ev.at c.aa.bv[0]!).2) with ⟨a,b⟩|⟨a,b⟩|⟨a,b⟩<;>omega
  exact mw rt.1 e0 ev' n3 (abY.1 n1)
 exact yn to (fun e=>p3 (by rw [<- ek];exact mP ok.iD.2.2 hk hj e.symm)) nl
structure ao7 (c:aI) (f:List Pt) (k:cE):Prop where
 ui:F2 c f (bH k.ls.kw (adc f)) k.lc
 ls:eM f c.ci k.ls.kw k.ls.jp
theorem y9 {c:aI} (ok:aS c) {f:List Pt} (iI:bF f):
 ∃R:cE×Int,eC c ⟨f⟩=agb R/\tR c ⟨f⟩=agb R/\(R.2=0/\ao7 c f R.1\/R=(⟨dD,⟨0,[]⟩⟩,18)):=by
 have f1:=iI.1;obtain ⟨r,N,h1,h2⟩:=IQ iI ok.iL ok.iz;obtain ⟨r',N',g1,g2⟩:=Hw iI (t:=c.ci) ok.iz;obtain ⟨e1,e2⟩:=g2.same iI.2.2 h2;subst e1 e2;have ln:=h2.len;obtain ⟨R,r1,r2,r3⟩:=MT ok iI h2;have eo:=Ox h2 (by omega);rw [ln] at eo;rcases r3 with ⟨q0,qq⟩|he
 · refine ⟨(⟨R.1,⟨r',N'⟩⟩,0),?_,?_,.inl ⟨rfl,qq,h2⟩⟩
   · unfold eC
     simp only [h1,ao,r1,q0,show ((0:Int) !=0)=agd from rfl,pp]
   unfold tR
   simp only [g1,ao,eo,r2,q0,show ((0:Int) !=0)=agd from rfl,pp]
 refine ⟨(⟨dD,⟨0,[]⟩⟩,18),?_,?_,.inr rfl⟩
 · unfold eC
   simp only [h1,ao,r1,he,show ((18:Int) !=0)=agc from rfl,lw]
 unfold tR
 simp only [g1,ao,eo,r2,he,show ((18:Int) !=0)=agc from rfl,lw]
def hP (c:aI) (r:Int) (N:List Nd) (to:Int×Int) (out:List (Int×Int)):=
 (c.ci.1,c.ci.2,c.ii.am,c.af.aL,c.af.ce,c.aa.ae.ar,c.aa.ae.be,c.aa.ae.bi,c.aa.bv,c.aa.aj,c.io,r,N,to.1,to.2,(0:Int),(0:Int),(0:Int),(0:Int),out)
theorem TK {k:cE} (n:Tw k.lc):uN k=agb agd\/(uN k=agb agc/\fX k/\adc k.lc.ii.am<=10):=by
 unfold uN;rcases IU k with e|⟨e,sh⟩
 · rw [e];exact .inl rfl
 rw [e,ao];unfold Am;rw [ao,aaw,lw]
 by_cases hm:10<Int.ofNat (adc k.lc.ii.am)
 · rw [aH hm];exact .inl rfl
 rw [aD hm,aaw,lw,F7 ⟨n.ci,⟨sh.c.s3,sh.c.h,sh.c.w,n.MG⟩,sh.c.d⟩,ao]
 by_cases ok:fX k
 · rw [rc ok];exact .inr ⟨rfl,ok,by rw [ay] at hm;omega⟩
 rw [ut ok];exact .inl rfl
noncomputable def M0 (f:List Pt) (t:Int×Int):Tree:=if h: ∃T:Tree,eM f t T.kw T.jp then h.choose else ⟨0,[]⟩
theorem Gb {f:List Pt} (iI:bF f) {t:Int×Int} {N:List Nd} {r:Int} (h:eM f t N r):M0 f t=⟨r,N⟩:=by
 have ex: ∃T:Tree,eM f t T.kw T.jp:=⟨⟨r,N⟩,h⟩;unfold M0;rw [dif_pos ex];obtain ⟨a,b⟩:=ex.choose_spec.same iI.2.2 h;cases hc:ex.choose with
 |mk r2 N2=>rw [hc] at a b;rw [show N2=N from a,show r2=r from b]
theorem Gc {c1:aI} (o4:aS c1):(∃c2,eC c1 c1.ii=agb (⟨c2,M0 c2.ii.am c2.ci⟩,0)/\fX ⟨c2,M0 c2.ii.am c2.ci⟩/\c2.ii.am=c1.ii.am/\c2.ci=c1.ci/\fG c1<=fG c2)\/ ∃k,eC c1 c1.ii=agb (k,18):=by
 obtain ⟨R,s1,_,s3⟩:=y9 o4 o4.iD;have s1:eC c1 c1.ii=agb R:=s1;rcases s3 with ⟨q0,qs⟩|he
 · left
   have T:=Gb o4.iD qs.ls;have e:M0 R.1.lc.ii.am R.1.lc.ci=R.1.ls:=by rw [qs.ui.iD,qs.ui.ci];exact T
   refine ⟨R.1.lc,?_,?_,qs.ui.iD,qs.ui.ci,by have:=qs.ui.room;omega⟩
   · rw [s1,e,<- q0]
   rw [e]
   obtain ⟨_,nd,_⟩:=qs.ls.K1 o4.iD;refine ⟨qs.ui.ok,?_,?_⟩
   · show eM R.1.lc.ii.am R.1.lc.ci R.1.ls.kw R.1.ls.jp
     rw [qs.ui.iD,qs.ui.ci];exact qs.ls
   show (R.1.lc.af.ce.map fun x=>x.2).Perm (bH R.1.ls.kw (adc R.1.lc.ii.am))
   rw [qs.ui.iD];exact Di (ym qs.ui.ok.rE) nd (fun x hx=>by obtain ⟨y,hy,rfl⟩:=aaq.1 hx;exact qs.ui.sub y hy) (fun x hx=>qj.1 (qs.ui.has x hx))
 exact .inr ⟨_,by rw [s1,he]⟩
noncomputable def gx:Sys cE where
 uW to c out:=aB gl (hP c (M0 c.ii.am c.ci).jp (M0 c.ii.am c.ci).kw to out)
 Inv c:=fX ⟨c,M0 c.ii.am c.ci⟩
 set c1:=(eC c1 c1.ii).bind fun R=>if R.2=0 then agb R.1.lc else none
 res c:=⟨c,M0 c.ii.am c.ci⟩
 zero:=⟨dD,⟨0,[]⟩⟩
 ok h:=h.Df
 lead h e he:=(h.ls.K1 h.Df.iD).2.2 e (h.cert.mem_iff.1 he)
 at_ {c to} h rt lF le io:=by have ok:aS c:=h.Df;have ts:=Ga ok h.ls (fun e he=>qj.2 (h.cert.mem_iff.2 he)) rt le io;have e:=Gb ok.iD ts;show fX ⟨BC c to,M0 c.ii.am to⟩;rw [e];exact ⟨TG ok rt lF le io,ts,h.cert⟩
 stop {c to out} h rt lF le io:=by
  have ok:aS c:=h.Df;have ts:=Ga ok h.ls (fun e he=>qj.2 (h.cert.mem_iff.2 he)) rt le io;have e:=Gb ok.iD ts;obtain ⟨r2,N2,h1,h2⟩:=IQ ok.iD rt lF;have e2:=Gb ok.iD h2;have h1:jO c.ii to=agb (⟨r2,N2⟩,bH N2 (adc c.ii.am)):=h1;have sy:(aI.mk (c.ci.1,c.ci.2) (Field.mk c.ii.am) (bc.mk c.af.aL c.af.ce) (aJ.mk (aU.mk c.aa.ae.ar c.aa.ae.be c.aa.ae.bi) c.aa.bv c.aa.aj) c.io)=c:=rfl;have aac:((to.1,to.2):Int×Int)=to:=rfl;show _=agb ((⟨BC c to,M0 c.ii.am to⟩:cE),out,0);rw [e2];refine aC ?_;unfold gl hP;simp only [sy,aac,TE ok rt lF le io,ao,show ((6:Int) !=0)=agc from rfl,lw,Z2 ok rt lF le io,h1]
 ev {c to out c1 e x} h rt lF le io f1 o4 hf ho:=by
  have ok:aS c:=h.Df;have sy:(aI.mk (c.ci.1,c.ci.2) (Field.mk c.ii.am) (bc.mk c.af.aL c.af.ce) (aJ.mk (aU.mk c.aa.ae.ar c.aa.ae.be c.aa.ae.bi) c.aa.bv c.aa.aj) c.io)=c:=rfl;have aac:((to.1,to.2):Int×Int)=to:=rfl;have ol:bm out [x]=agb (out++[x]):=cM (by rw [v6];exact ho);rcases Gc o4 with ⟨c2,s1,_⟩|⟨k,s1⟩
  · rw [s1,ao,rc rfl]
    refine aQ ?_;unfold gl hP;simp only [sy,aac,f1,ao,s1,show ((0:Int) !=0)=agd from rfl,pp,ol]
  rw [s1,ao,ut (show¬(k,(18:Int)).2=0 from fun h=>by cases h)]
  refine aC ?_;unfold gl hP;simp only [sy,aac,f1,ao,s1,show ((0:Int) !=0)=agd from rfl,show ((18:Int) !=0)=agc from rfl,pp,lw]
 kept {c c1 c2} h o4 hf hs:=by
  rcases Gc o4 with ⟨c3,s1,k1,k2,k3,k4⟩|⟨k,s1⟩
  · rw [s1,ao,rc rfl] at hs
    injection hs with hs;subst hs;exact ⟨k1,by rw [k2,hf],k3,k4⟩
  rw [s1,ao,ut (show¬(k,(18:Int)).2=0 from fun h=>by cases h)] at hs
  cases hs
theorem sB {k:cE} (ok:fX k) {to:Int×Int} (rt:aW to) (lF:iJ to) (le: ¬dC to k.lc.ci<0):gx.Inv k.lc/\fW k to=gx.uW to k.lc []/\k=gx.res k.lc:=by
 have e:=Gb ok.Df.iD ok.ls;have c1:=DD ok.Df.fit;rw [rc ok] at c1;have ke:k=⟨k.lc,M0 k.lc.ii.am k.lc.ci⟩:=by rw [e]
 refine ⟨?_,?_,ke⟩
 · show fX ⟨k.lc,M0 k.lc.ii.am k.lc.ci⟩
   rw [<- ke];exact ok
 show _=aB gl (hP k.lc (M0 k.lc.ii.am k.lc.ci).jp (M0 k.lc.ii.am k.lc.ci).kw to [])
 rw [e];unfold fW;rw [c1,ao,bV rfl,pp,c7 lF,rc rt,ao,bV rfl,pp,Cw lF ok.Df.iz,rc ⟨rt,ok.Df.iL⟩,ao,aD le];rfl
theorem uX (k:cE) (s t:Int×Int) (n:Tw k.lc) (DF:iJ s) (t64:iJ t):mO k s t=agb agc:=by
 unfold mO;rw [ao];rcases TK n with e|⟨e,ok,h10⟩
 · rw [e];rfl
 rw [e,ao,aa9,pp,Z' DF t64,ao]
 by_cases rr:aW s/\aW t
 case neg=>rw [ut rr];rfl
 obtain ⟨rs,rt⟩:=rr;rw [rc ⟨rs,rt⟩,bV rfl,pp,wc n.ci DF,ao]
 by_cases l1:0<dC k.lc.ci s
 · rw [aH l1];rfl
 rw [aD l1,pp,wc DF t64,ao]
 by_cases l2:0<dC s t
 · rw [aH l2];rfl
 rw [aD l2,pp,pp];have ks:=abh l1;have st:=abh l2;have kt:=BD ok.Df.iL rs rt ks st;have iI:=ok.Df.iD;have rb:=lW ok.Df;obtain ⟨inv,at_,_⟩:=sB ok rt t64 kt;obtain ⟨_,as_,_⟩:=sB ok rs DF ks;rw [at_,as_];rcases Qk gx inv rs DF rt t64 ks st with ⟨h1,h2⟩|⟨c2,m,h1,i2,hf2,le2,ao8,h3⟩
 · rw [h2,ao,h1,ao];rfl
 have b2:=gx.at_ i2 rs DF le2 ao8;obtain ⟨_,av,_⟩:=sB (k:=gx.res (BC c2 s)) b2 rt t64 st;have av:fW (gx.res (BC c2 s)) t=gx.uW t (BC c2 s) []:=av;rcases h3 with ⟨_,h4⟩|⟨c3,l,h4,h5,i3,le3,ao9,hl⟩
 · rw [h4,ao,h1,ao];rfl
 obtain ⟨L,a1,a2,a3,a4⟩:=agQ iI ok.Df.iL n.ci rt t64 (Qi kt);have hL:K9 k.lc.ii.am k.lc.ci t L:=⟨a2,a3,a4⟩;have a1:x7 k.lc.ii k.lc.ci t=agb (L,0):=a1;obtain ⟨E,c9,e1,eS,e3⟩: ∃E c9,m++l=abW (fun e=>e.1) E/\Qj k.lc.ii.am k.lc.ci t c9 E/\adc E<=1000400:=by
  rcases Z9 gx ok.Df.iL rt t64 (1000000-fG k.lc).toNat k.lc [] (by omega) inv rfl (.nil _ _ _ _) (abj _) kt (by simp;omega) with q|⟨c9,E,q1,q2,_,_,_,q3,q4⟩
  · have q:gx.uW t k.lc []=_:=q
    rw [h5] at q;injection q with q;injection q with _ q;injection q with _ q;cases q
  have q1:gx.uW t k.lc []=_:=q1
  rw [h5] at q1;injection q1 with q1;injection q1 with _ q1;injection q1 with q1 _;have:=lW (gx.ok q2);exact ⟨E,_,q1,q3,by omega⟩
 have sh3:IT (gx.res (BC c3 t)):=by have i4:=gx.at_ i3 rt t64 le3 ao9;have f64:=i4.Df.iD.1;exact ⟨i4.Df.short,abo (Nat.le_of_eq i4.ls.len) (abo f64 (by decide))⟩
 obtain ⟨n1,n2⟩:=agV iI hL eS e3;rw [h5,ao,h1,ao];simp only [show ((0:Int) !=0)=agd from rfl,pp];rw [av,h4,ao,a1,ao];simp only [show ((0:Int) !=0)=agd from rfl,pp];rw [K4 sh3,ao,aa9,pp,bj (show (adc m)<=1048576 by omega),ao];rw [<- e1] at n1 n2;have nl:age (((adc L):Int)<((m++l).length:Int))=agd:=aD (by omega);cases hm:l.isEmpty with
 |true=>rw [List.isEmpty_iff] at hm;subst hm;rw [aal] at n1 n2 nl ⊢;rw [lw,F5 m (by omega),ao,aa9,pp];simp only [ay];rw [nl,pp,n2]
 |false=>rw [pp,cM (show (adc m)+adc l<=1048576 by omega),ao,F5 (m++l) (by rw [AC];omega),ao,aa9,pp];simp only [ay];rw [nl,pp,n2]
theorem Tw.of {c:aI} (h1:RT.wf [.i .i64,.i .i64] c.ci) (h2: ∀a∈c.aa.bv,RT.wf [.i .i64,.i .i64,.i .i64,.i .i64,.i .i64] a):Tw c where
 ci:=⟨wf_i64 h1.1,wf_i64 h1.2⟩
 MG w hw:=by have:=h2 (c.aa.bv[w]!) (by rw [getElem!_pos c.aa.bv w hw];exact List.getElem_mem hw);exact ⟨wf_i64 this.1,wf_i64 this.2.1⟩
end Go.Proofs.YthljmpcakagceaaGreat
