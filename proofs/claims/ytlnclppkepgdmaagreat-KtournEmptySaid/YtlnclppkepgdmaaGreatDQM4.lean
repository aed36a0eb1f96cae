/- Plain laws (4). -/
import Derived.Test.YtlnclppkepgdmaaGreatDQM3
import Derived.Test.YtlnclppkepgdmaaGreatDQS2
open Classical renaming not_not->bn,not_forall->bv,not_imp->bw
open List renaming length_replicate->bo,getElem_replicate->bz,length_take->cd,drop_length->ce,length_set->cj,append_nil->cm
open Nat renaming lt_trichotomy->bq,zero_le->bu,lt_or_ge->cb,le_refl->ci
open Bool renaming not_true->cq
namespace Go.Proofs.YtlnclppkepgdmaaGreat
open Go.Vm Classical
theorem WQ (p q:Pt) (t:Int×Int):OA p q t=(p.2.1*t.2+p.2.2*t.1) - (q.2.1*t.2+q.2.2*t.1):=by
 rw [G7,Int.sub_mul,Int.sub_mul];omega
theorem wT {p q r:Pt} {t:Int×Int} (h1:cR p q t) (h2:cR q r t):cR p r t:=by
 unfold cR at*;rw [WQ] at*;generalize p.2.1*t.2+p.2.2*t.1=a at*;generalize q.2.1*t.2+q.2.2*t.1=b at*;generalize r.2.1*t.2+r.2.2*t.1=c at*;omega
theorem pH {p q:Pt} (t:Int×Int) (h:p.1≠q.1) (hn: ¬cR p q t):cR q p t:=by
 unfold cR at*;rw [WQ] at*;generalize p.2.1*t.2+p.2.2*t.1=a at*;generalize q.2.1*t.2+q.2.2*t.1=b at*;omega
structure SO (P:Int->Int->Prop) (S:Int->Prop):Prop where
 irr: ∀a,S a-> ¬P a a
 tr: ∀a b c,S a->S b->S c->P a b->P b c->P a c
 tot: ∀a b,S a->S b->a≠b->P a b\/P b a
abbrev par (j:Nat):Nat:=(j-1) / 2
def Hp (P:Int->Int->Prop) (l:List Int):Prop:= ∀j,0<j->j<l.length-> ¬P l[j]! l[par j]!
section
variable {P : Int -> Int -> Prop} {S : Int -> Prop}
theorem SO.asym (o:SO P S) {a b:Int} (ha:S a) (hb:S b) (h:P a b): ¬P b a:=fun k=>o.irr a ha (o.tr a b a ha hb ha h k)
theorem SO.ntr (o:SO P S) {a b c:Int} (ha:S a) (hb:S b) (hc:S c) (h1: ¬P a b) (h2: ¬P b c): ¬P a c:=fun h=>by
 by_cases e:b=c
 · exact h1 (e▸h)
 rcases o.tot b c hb hc e with k|k
 · exact h2 k
 exact h1 (o.tr a c b ha hc hb h k)
theorem SO.up (o:SO P S) {a b c:Int} (ha:S a) (hb:S b) (hc:S c) (h1:P b c) (h2: ¬P a c): ¬P a b:=fun h=>h2 (o.tr a b c ha hb hc h h1)
end
section
variable {P : Int -> Int -> Prop} {S : Int -> Prop} {bit : Int -> Nat -> Nat}
end
noncomputable def nR (f:List Pt) (es:List (Int×Int)):Int:=if¬(∀x∈es,gF x) then 8 else if¬es.Nodup then 14 else if¬(∀x∈es,kE f x) then 6 else 0
def rP (c:aO) (f:List Pt) (es:List (Int×Int)) (i:Nat):=
 (es,es,(es.length:Int),(i:Int),c.ar.1,c.ar.2,c.au.aa,c.ax.ao,c.ax.aq,c.ay.ai.ac,c.ay.ai.ae,c.ay.ai.af,c.ay.aj,c.ay.am,c.az,f,(0:Int),(0:Int),(0:Int))
theorem GA {c:aO} (ok:aR c) {f:List Pt} (fok:bZ f) {es:List (Int×Int)} (hl:es.length<=1000) {r:aO×Int} (hr:nR f es=0->oU c ⟨f⟩ es=some r):
 oV c ⟨f⟩ es=some (if nR f es=0 then r else (fB,nR f es)):=by
 have bd:=ok.bd;have ab:=ok.agd.bd;have sl:=ok.agd.so.fl;have sn:=ok.agd.so.n2;have su:=ok.agd.so.ul;have el:decide ((es.length:Int)<(es.length:Int))=false:=dec_f (by omega)
 have hc:gZ c=some 0:=by rw [mR ok.fit,if_pos ok]
 have hf:fC ⟨f⟩=some 0:=by rw [mP];exact congrArg some (lH.2 fok)
 have tw:yX (aO.mk (c.ar.1,c.ar.2) (Field.mk c.au.aa) (bM.mk c.ax.ao c.ax.aq) (aP.mk (bA.mk c.ay.ai.ac c.ay.ai.ae c.ay.ai.af) c.ay.aj c.ay.am) c.az)=some c:=by
  unfold yX;simp only [aZ (show c.au.aa.length<=1048576 by omega),aZ (show c.ax.aq.length<=1048576 by omega),aZ (show c.az.length<=1048576 by omega),aZ (show c.ay.aj.length<=1048576 by omega),aZ (show c.ay.am.length<=1048576 by omega),
   aZ (show c.ay.ai.ac.length<=1048576 by omega),aZ (show c.ay.ai.ae.length<=1048576 by omega),aZ (show c.ay.ai.af.length<=1048576 by omega),aB]
 have k3: ∀e2:aO×Int,aH fF (rP c f es 0)=some (.done e2)->aH fG (rP c f es 0)=some (if∀i,i<es.length->gF es[i]! then e2 else (fB,8)):=by
  intro e2 h2;refine rB (body:=fG) (fun i=>rP c f es i) es.length (fun i=>gF es[i]!) (r:=(fB,8)) (e:=e2) (fun i hi=>?_) ?_
  · have e1:decide ((i:Int)<(es.length:Int))=true:=aK (by omega)
    unfold fG rP gF;simp only [e1,cond_true,aE es i hi,aB,aV (show i<1000000000 by omega)]
    generalize es[i]! =x
    by_cases a1:x.1<0
    · rw [aK a1];exact ⟨fun _=>rfl,fun h=>by omega⟩
    rw [dec_f a1]
    by_cases a2:x.2<0
    · rw [aK a2];exact ⟨fun _=>rfl,fun h=>by omega⟩
    rw [dec_f a2]
    by_cases a3:65535<x.1
    · rw [aK a3];exact ⟨fun _=>rfl,fun h=>by omega⟩
    rw [dec_f a3]
    by_cases a4:65535<x.2
    · rw [aK a4];exact ⟨fun _=>rfl,fun h=>by omega⟩
    rw [dec_f a4]
    by_cases a5:x.1=x.2
    · rw [dW a5];exact ⟨fun _=>rfl,fun h=>absurd a5 h.2.2.2.2⟩
    rw [eT a5];exact ⟨fun h=>absurd ⟨by omega,by omega,by omega,by omega,a5⟩ h,fun _=>rfl⟩
  unfold fG rP
  simp only [aF,el,cond_false];exact h2
 have k2: ∀e1:aO×Int,aH fX (rP c f es 0)=some (.done (.done e1))->aH fF (rP c f es 0)=some (.done (if∀i,i<es.length->es[i]!∉es.take i then e1 else (fB,14))):=by
  intro e0 h2
  have:=rB (body:=fF) (fun i=>rP c f es i) es.length (fun i=>es[i]!∉es.take i) (r:= .done (fB,14)) (e:= .done e0) (fun i hi=>by
   have e1:decide ((i:Int)<(es.length:Int))=true:=aK (by omega)
   unfold fF rP;simp only [e1,cond_true,aE es i hi,mQ es i (by omega),aB,lR _ _ (show (es.take i).length<=1000000 by rw [cd];omega),aV (show i<1000000000 by omega)]
   by_cases h:es[i]!∈es.take i
   · rw [aK h];exact ⟨fun _=>rfl,fun k=>absurd h k⟩
   · rw [dec_f h];exact ⟨fun k=>absurd h k,fun _=>rfl⟩) (by
   unfold fF rP;simp only [aF,el,cond_false];exact h2)
  refine this.trans ?_
  by_cases hb: ∀i,i<es.length->es[i]!∉es.take i
  · rw [if_pos hb,if_pos hb]
  rw [if_neg hb,if_neg hb]
 have step1: ∀i,i<es.length->(¬kE f es[i]!->fX (rP c f es i)=some (.done (.done (.done (fB,6)))))/\(kE f es[i]!->fX (rP c f es i)=some (.next (rP c f es (i+1)))):=by
  intro i hi;have e1:decide ((i:Int)<(es.length:Int))=true:=aK (by omega)
  obtain ⟨p,e,a1,a2⟩:=HY fok (es[i]!).1;obtain ⟨q,g,b1,b2⟩:=HY fok (es[i]!).2;unfold fX rP kE;simp only [e1,cond_true,aE es i hi,aB,a1,b1,aV (show i<1000000000 by omega)]
  by_cases h1:pF f (es[i]!).1
  · rw [bP (a2.2 h1)]
    by_cases h2:pF f (es[i]!).2
    · rw [bP (b2.2 h2)]
      exact ⟨fun h=>absurd ⟨h1,h2⟩ h,fun _=>rfl⟩
    rw [dM (fun h=>h2 (b2.1 h))]
    exact ⟨fun _=>rfl,fun h=>absurd h.2 h2⟩
  rw [dM (fun h=>h1 (a2.1 h))]
  exact ⟨fun _=>rfl,fun h=>absurd h.1 h1⟩
 have start:oV c ⟨f⟩ es=aH fG (rP c f es 0):=by
  unfold oV;simp only [hc,aB,show ((0:Int) !=0)=false from rfl,cond_false,hf];rfl
 rw [start]
 by_cases h1: ∀x∈es,gF x
 case neg=>
  have er:nR f es=8:=by unfold nR;rw [if_pos h1]
  rw [er,if_neg (by omega)]
  have:=dT (body:=fG) (fun i=>rP c f es i) es.length (fun i=> ¬gF es[i]!) (r:=(fB,8)) (e:=r)
  have k3':=k3;rw [F8 (P:=gF)] at h1;obtain ⟨i,h⟩:=bv.1 h1;obtain ⟨hi,hx⟩:=bw.1 h;obtain ⟨m,m1,m2,m3⟩:=KP (c:=fun i=> ¬gF es[i]!) ⟨i,hi,hx⟩
  have go: ∀j,j<es.length->(¬gF es[j]!->fG (rP c f es j)=some (.done (fB,8)))/\(gF es[j]!->fG (rP c f es j)=some (.next (rP c f es (j+1)))):=by
   intro j hj;have e1:decide ((j:Int)<(es.length:Int))=true:=aK (by omega)
   unfold fG rP gF;simp only [e1,cond_true,aE es j hj,aB,aV (show j<1000000000 by omega)]
   generalize es[j]! =x
   by_cases a1:x.1<0
   · rw [aK a1];exact ⟨fun _=>rfl,fun h=>by omega⟩
   rw [dec_f a1]
   by_cases a2:x.2<0
   · rw [aK a2];exact ⟨fun _=>rfl,fun h=>by omega⟩
   rw [dec_f a2]
   by_cases a3:65535<x.1
   · rw [aK a3];exact ⟨fun _=>rfl,fun h=>by omega⟩
   rw [dec_f a3]
   by_cases a4:65535<x.2
   · rw [aK a4];exact ⟨fun _=>rfl,fun h=>by omega⟩
   rw [dec_f a4]
   by_cases a5:x.1=x.2
   · rw [dW a5];exact ⟨fun _=>rfl,fun h=>absurd a5 h.2.2.2.2⟩
   rw [eT a5];exact ⟨fun h=>absurd ⟨by omega,by omega,by omega,by omega,a5⟩ h,fun _=>rfl⟩
  rw [dX (body:=fG) (fun i=>rP c f es i) m fun j hj=>(go j (by omega)).2 (bn.1 (m3 j hj))]
  exact aL ((go m m1).1 m2)
 have h1':=(F8 (P:=gF)).1 h1
 by_cases h2:es.Nodup
 case neg=>
  have er:nR f es=14:=by unfold nR;rw [if_neg (bn.2 h1),if_pos h2]
  rw [er,if_neg (by omega)]
  have h2':=h2;rw [RE] at h2';obtain ⟨i,h⟩:=bv.1 h2';obtain ⟨hi,hx⟩:=bw.1 h;obtain ⟨m,m1,m2,m3⟩:=KP (c:=fun i=> ¬es[i]!∉es.take i) ⟨i,hi,hx⟩
  have go: ∀j,j<es.length->(es[j]!∈es.take j->fF (rP c f es j)=some (.done (.done (fB,14))))/\(es[j]!∉es.take j->fF (rP c f es j)=some (.next (rP c f es (j+1)))):=by
   intro j hj;have e1:decide ((j:Int)<(es.length:Int))=true:=aK (by omega)
   unfold fF rP;simp only [e1,cond_true,aE es j hj,mQ es j (by omega),aB,lR _ _ (show (es.take j).length<=1000000 by rw [cd];omega),aV (show j<1000000000 by omega)]
   by_cases h:es[j]!∈es.take j
   · rw [aK h];exact ⟨fun _=>rfl,fun k=>absurd h k⟩
   rw [dec_f h];exact ⟨fun k=>absurd k h,fun _=>rfl⟩
  have l2:aH fF (rP c f es 0)=some (.done (fB,14)):=by
   rw [dX (body:=fF) (fun i=>rP c f es i) m fun j hj=>(go j (by omega)).2 (bn.1 (m3 j hj))]
   exact aL ((go m m1).1 (bn.1 m2))
  rw [k3 _ l2,if_pos h1']
 have h2':=RE.1 h2
 by_cases h3: ∀x∈es,kE f x
 case neg=>
  have er:nR f es=6:=by unfold nR;rw [if_neg (bn.2 h1),if_neg (bn.2 h2),if_pos h3]
  rw [er,if_neg (by omega)]
  have h3':=h3;rw [F8 (P:=kE f)] at h3';obtain ⟨i,h⟩:=bv.1 h3';obtain ⟨hi,hx⟩:=bw.1 h;obtain ⟨m,m1,m2,m3⟩:=KP (c:=fun i=> ¬kE f es[i]!) ⟨i,hi,hx⟩
  have l1:aH fX (rP c f es 0)=some (.done (.done (fB,6))):=by
   rw [dX (body:=fX) (fun i=>rP c f es i) m fun j hj=>(step1 j (by omega)).2 (bn.1 (m3 j hj))]
   exact aL ((step1 m m1).1 m2)
  rw [k3 _ (k2 _ l1),if_pos h1',if_pos h2']
 have h3':=(F8 (P:=kE f)).1 h3;have er:nR f es=0:=by unfold nR;rw [if_neg (bn.2 h1),if_neg (bn.2 h2),if_neg (bn.2 h3)]
 rw [er,if_pos rfl];have l1:aH fX (rP c f es 0)=some (.done (.done r)):=by
  rw [dX (body:=fX) (fun i=>rP c f es i) es.length fun j hj=>(step1 j hj).2 (h3' j hj)]
  refine aL ?_;unfold fX rP;simp only [el,cond_false,tw,aB,hr er]
 rw [k3 _ (k2 _ l1),if_pos h1',if_pos h2']
theorem tk {l:List Int} {m:Nat} {x:Int} (h:l.length=m):(l++[x]).take m=l:=by rw [<- h,List.take_left]
section
variable {k : HQ} {f : List Pt} {m n0 : Nat} {x : Int}
end
section
variable {k : HQ} {P : Pt} {f : List Pt} {m : Nat}
end
end Go.Proofs.YtlnclppkepgdmaaGreat
namespace Go.Proofs.YtlnclppkepgdmaaGreat
abbrev Nd:=Int×Int×Int
structure HZ (P:Nat->Nat->Prop) (a b i:Nat):Prop where
 lo:a<=i
 hi:i<b
 top: ∀j,a<=j->j<b->j≠i->P i j
inductive tF (P:Nat->Nat->Prop) (N:List Nd):Nat->Nat->Int->Prop
 |nil {a b:Nat} (h:b<=a):tF P N a b (-1)
 |node {a b i:Nat} (h:HZ P a b i) (l:tF P N a i (N[i]!).2.1) (r:tF P N (i+1) b (N[i]!).2.2):tF P N a b (i:Int)
structure aOC (P:Nat->Nat->Prop) (n:Nat):Prop where
 tr: ∀i j k,i<n->j<n->k<n->P i j->P j k->P i k
 asy: ∀i j,i<n->j<n->P i j-> ¬P j i
 tot: ∀i j,i<n->j<n->i≠j-> ¬P i j->P j i
theorem HZ.one {P:Nat->Nat->Prop} {n a b i j:Nat} (o:aOC P n) (hb:b<=n) (h:HZ P a b i) (k:HZ P a b j):i=j:=by
 refine Classical.byContradiction fun hne=>?_
 have:=h.hi;have:=k.hi
 exact o.asy i j (by omega) (by omega) (h.top j k.lo k.hi (fun e=>hne e.symm)) (k.top i h.lo h.hi hne)
theorem tF.link {P:Nat->Nat->Prop} {N:List Nd} {a b:Nat} {r:Int} (h:tF P N a b r):(b<=a/\r= -1)\/(∃i:Nat,r=(i:Int)/\a<=i/\i<b):=by
 cases h with
 |nil h=>exact .inl ⟨h,rfl⟩
 |node h l r=>exact .inr ⟨_,rfl,h.lo,h.hi⟩
theorem tF.unique {P:Nat->Nat->Prop} {n:Nat} (o:aOC P n) {N N':List Nd} {a b:Nat} {r:Int} (h:tF P N a b r): ∀{r':Int},b<=n->tF P N' a b r'->r=r'/\ ∀k,a<=k->k<b->(N[k]!).2=(N'[k]!).2:=by
 induction h with
 |nil h=>
  intro r' hb h';cases h' with
  |nil _=>exact ⟨rfl,fun k h1 h2=>by omega⟩
  |node t _ _=>have:=t.lo;have:=t.hi;omega
 | @node a b i h l r ihl ihr=>
  intro r' hb h';have lo:=h.lo;have hi:=h.hi;cases h' with
  |nil q=>omega
  | @node _ _ j t l' r'=>
   have e:=h.one o hb t;subst e;obtain ⟨e1,f1⟩:=ihl (by omega) l'
   obtain ⟨e2,f2⟩:=ihr hb r';refine ⟨rfl,fun k h1 h2=>?_⟩
   rcases bq k i with q|q|q
   · exact f1 k h1 q
   · subst q;exact Prod.ext e1 e2
   exact f2 k (by omega) h2
theorem tF.other {P Q:Nat->Nat->Prop} {n:Nat} (o:aOC Q n) {N:List Nd} {a b:Nat} {r:Int} (h:tF P N a b r):b<=n->(∀k j:Nat,a<=k->k<b->a<=j->j<b->((N[k]!).2.1=(j:Int)\/(N[k]!).2.2=(j:Int))->Q k j)->tF Q N a b r:=by
 induction h with
 |nil h=>exact fun _ _=> .nil h
 | @node a b i h l r ihl ihr=>
  intro hb q;have lo:=h.lo;have hi:=h.hi;have tl:=ihl (by omega) fun k j h1 h2 h3 h4=>q k j h1 (by omega) h3 (by omega)
  have tr:=ihr hb fun k j h1 h2 h3 h4=>q k j (by omega) h2 (by omega) h4
  refine .node ⟨lo,hi,fun j h1 h2 hne=>?_⟩ tl tr
  rcases cb j i with hj|hj
  · generalize hr:(N[i]!).2.1=s at tl
    cases tl with
    |nil q=>omega
    | @node _ _ m t _ _=>
     have t1:=t.lo;have t2:=t.hi;have qm:=q i m lo hi t1 (by omega) (.inl hr)
     by_cases e:j=m
     · rw [e];exact qm
     exact o.tr i m j (by omega) (by omega) (by omega) qm (t.top j h1 hj e)
  generalize hr:(N[i]!).2.2=s at tr
  cases tr with
  |nil q=>omega
  | @node _ _ m t _ _=>
   have t1:=t.lo;have t2:=t.hi;have qm:=q i m lo hi (by omega) t2 (.inr hr)
   by_cases e:j=m
   · rw [e];exact qm
   exact o.tr i m j (by omega) (by omega) (by omega) qm (t.top j (by omega) h2 e)
theorem tF.kids {P:Nat->Nat->Prop} {N:List Nd} {a b:Nat} {r:Int} (h:tF P N a b r): ∀k,a<=k->k<b-> ∀c:Int,((N[k]!).2.1=c\/(N[k]!).2.2=c)->c= -1\/ ∃j:Nat,c=(j:Int)/\a<=j/\j<b/\j≠k/\P k j/\r≠c:=by
 induction h with
 |nil h=>intro k h1 h2;omega
 | @node a b i h l r ihl ihr=>
  have lo:=h.lo;have hi:=h.hi;intro k h1 h2 c hc;rcases bq k i with q|q|q
  · rcases ihl k h1 q c hc with e|⟨j,e,j1,j2,j3,j4,_⟩
    · exact .inl e
    exact .inr ⟨j,e,j1,by omega,j3,j4,by rw [e];omega⟩
  · subst q
    rcases hc with hc|hc
    · rcases l.link with ⟨_,e⟩|⟨j,e,j1,j2⟩
      · exact .inl (hc▸e)
      exact .inr ⟨j,hc▸e,j1,by omega,by omega,h.top j j1 (by omega) (by omega),by rw [<- hc,e];omega⟩
    rcases r.link with ⟨_,e⟩|⟨j,e,j1,j2⟩
    · exact .inl (hc▸e)
    exact .inr ⟨j,hc▸e,by omega,j2,by omega,h.top j (by omega) j2 (by omega),by rw [<- hc,e];omega⟩
  rcases ihr k (by omega) h2 c hc with e|⟨j,e,j1,j2,j3,j4,_⟩
  · exact .inl e
  exact .inr ⟨j,e,by omega,j2,j3,j4,by rw [e];omega⟩
theorem tF.up {P:Nat->Nat->Prop} {N:List Nd} {a b:Nat} {r:Int} (h:tF P N a b r): ∀k:Nat,a<=k->k<b->(k:Int)≠r-> ∃j,a<=j/\j<b/\((N[j]!).2.1=(k:Int)\/(N[j]!).2.2=(k:Int))/\ ∀m,a<=m->m<b->((N[m]!).2.1=(k:Int)\/(N[m]!).2.2=(k:Int))->m=j:=by
 induction h with
 |nil h=>intro k h1 h2;omega
 | @node a b i h l r ihl ihr=>
  have lo:=h.lo;have hi:=h.hi;have lk:=l.kids;have rk:=r.kids;intro k h1 h2 hne;have hki:k≠i:=fun e=>hne (by rw [e])
  rcases cb k i with q|q
  · by_cases er:(k:Int)=(N[i]!).2.1
    · refine ⟨i,lo,hi,.inl er.symm,fun m m1 m2 hm=>?_⟩
      rcases bq m i with w|w|w
      · rcases lk m m1 w _ hm with e|⟨j,e,_,_,_,_,hr⟩
        · omega
        exact absurd er.symm hr
      · exact w
      rcases rk m (by omega) m2 _ hm with e|⟨j,e,j1,_⟩<;>omega
    obtain ⟨j,j1,j2,j3,j4⟩:=ihl k h1 q er
    refine ⟨j,j1,by omega,j3,fun m m1 m2 hm=>?_⟩
    rcases bq m i with w|w|w
    · exact j4 m m1 w hm
    · subst w
      rcases hm with hm|hm
      · exact absurd hm.symm er
      rcases r.link with ⟨_,e⟩|⟨p,e,p1,p2⟩<;>omega
    rcases rk m (by omega) m2 _ hm with e|⟨p,e,p1,_⟩<;>omega
  by_cases er:(k:Int)=(N[i]!).2.2
  · refine ⟨i,lo,hi,.inr er.symm,fun m m1 m2 hm=>?_⟩
    rcases bq m i with w|w|w
    · rcases lk m m1 w _ hm with e|⟨j,e,_,j2,_⟩<;>omega
    · exact w
    rcases rk m (by omega) m2 _ hm with e|⟨j,e,_,_,_,_,hr⟩
    · omega
    exact absurd er.symm hr
  obtain ⟨j,j1,j2,j3,j4⟩:=ihr k (by omega) h2 er
  refine ⟨j,by omega,j2,j3,fun m m1 m2 hm=>?_⟩
  rcases bq m i with w|w|w
  · rcases lk m m1 w _ hm with e|⟨p,e,_,p2,_⟩<;>omega
  · subst w
    rcases hm with hm|hm
    · rcases l.link with ⟨_,e⟩|⟨p,e,p1,p2⟩<;>omega
    exact absurd hm.symm er
  exact j4 m (by omega) m2 hm
inductive RJ (P:Nat->Nat->Prop) (N:List Nd):Nat->Nat->Int->List Nat->Prop
 |nil {a b:Nat} (h:b<=a):RJ P N a b (-1) []
 |cons {a b k:Nat} {es:List Nat} (h:HZ P a b k) (l:tF P N a k (N[k]!).2.1) (r:RJ P N (k+1) b (N[k]!).2.2 es):RJ P N a b (k:Int) (k::es)
theorem RJ.bm {P:Nat->Nat->Prop} {N:List Nd} {a b:Nat} {r:Int} {es:List Nat} (h:RJ P N a b r es):tF P N a b r:=by
 induction h with
 |nil h=>exact .nil h
 |cons h l r ih=>exact .node h l ih
theorem RJ.mem {P:Nat->Nat->Prop} {N:List Nd} {a b:Nat} {r:Int} {es:List Nat} (h:RJ P N a b r es): ∀e∈es,a<=e/\e<b:=by
 induction h with
 |nil h=>intro e he;cases he
 |cons h l r ih=>
  intro e he;have lo:=h.lo;have hi:=h.hi;rcases List.mem_cons.1 he with rfl|he
  · exact ⟨lo,hi⟩
  have:=ih e he;omega
end Go.Proofs.YtlnclppkepgdmaaGreat
namespace Go.Proofs.YtlnclppkepgdmaaGreat
open Go.Vm Classical
def ahP (f:List Pt) (t:Int×Int) (i j:Nat):Prop:=cR f[i]! f[j]! t
theorem rV {p q:Pt} {t:Int×Int} (h:cR p q t): ¬cR q p t:=by
 unfold cR at*;rw [WQ] at*;generalize p.2.1*t.2+p.2.2*t.1=a at*;generalize q.2.1*t.2+q.2.2*t.1=b at*;omega
theorem aDl {f:List Pt} (h:fY f) (t:Int×Int):aOC (ahP f t) f.length where
 tr:=fun _ _ _ _ _ _ h1 h2=>wT h1 h2
 asy:=fun _ _ _ _ h=>rV h
 tot:=fun _ _ hi hj hne hn=>pH t (fun e=>hne (qZ h hi hj e)) hn
structure GB (f:List Pt) (t:Int×Int) (N:List Nd) (r:Int):Prop where
 len:N.length=f.length
 ids: ∀k,k<f.length->(N[k]!).1=(f[k]!).1
 bm:tF (ahP f t) N 0 f.length r
theorem GB.same {f:List Pt} (h:fY f) {t:Int×Int} {N N':List Nd} {r r':Int} (a:GB f t N r) (b:GB f t N' r'):N=N'/\r=r':=by
 obtain ⟨e1,e2⟩:=a.bm.unique (aDl h t) (ci _) b.bm;refine ⟨wM (by rw [a.len,b.len]) fun k hk=>?_,e1⟩
 have hk:k<f.length:=by rw [<- a.len];exact hk
 exact Prod.ext (by rw [a.ids k hk,b.ids k hk]) (e2 k (bu _) hk)
def Below (N:List Nd) (k j:Nat):Prop:=(N[j]!).2.1=(k:Int)\/(N[j]!).2.2=(k:Int)
noncomputable def NV (N:List Nd) (k:Nat):Nat:=if h: ∃j,j<N.length/\Below N k j then h.choose else N.length
noncomputable def aXS (N:List Nd) (k:Nat):List (Int×Int):=if NV N k<N.length then [((N[k]!).1,(N[NV N k]!).1)] else []
noncomputable def aGV (N:List Nd):Nat->List (Int×Int)
 |0=>[]
 |k+1=>aGV N k++aXS N k
section
variable {f : List Pt} {t : Int × Int} {N : List Nd} {r : Int}
theorem GB.par (h:GB f t N r) {k:Nat} (hk:k<f.length):((k:Int)=r->NV N k=N.length)/\((k:Int)≠r->NV N k<N.length/\Below N k (NV N k)/\NV N k≠k/\ahP f t (NV N k) k)/\ ∀m,m<N.length->Below N k m->m=NV N k:=by
 have ln:=h.len
 by_cases hr:(k:Int)=r
 · have none: ¬ ∃j,j<N.length/\Below N k j:=by
    rintro ⟨j,hj,hb⟩;rcases h.bm.kids j (bu _) (by omega) (k:Int) hb with e|⟨_,_,_,_,_,_,e⟩
    · omega
    exact e hr.symm
   have e:NV N k=N.length:=by unfold NV;rw [dif_neg none]
   exact ⟨fun _=>e,fun q=>absurd hr q,fun m hm hb=>absurd ⟨m,hm,hb⟩ none⟩
 obtain ⟨j,_,j2,j3,j4⟩:=h.bm.up k (bu _) hk hr
 have ex: ∃j,j<N.length/\Below N k j:=⟨j,by omega,j3⟩
 have e:NV N k=j:=by
  unfold NV;rw [dif_pos ex]
  have:=ex.choose_spec
  exact j4 _ (bu _) (by omega) this.2
 refine ⟨fun q=>absurd q hr,fun _=>?_,fun m hm hb=>by rw [e];exact j4 m (bu _) (by omega) hb⟩
 rw [e];refine ⟨by omega,j3,?_,?_⟩
 · rcases h.bm.kids j (bu _) j2 (k:Int) j3 with q|⟨i,q,_,_,q2,_⟩
   · omega
   intro w;omega
 rcases h.bm.kids j (bu _) j2 (k:Int) j3 with q|⟨i,q,_,_,_,q2,_⟩
 · omega
 have:i=k:=by omega
 rw [<- this];exact q2
end
def o1 (f:List Pt) (t:Int×Int) (e c:Nat) (i:Nat) (bj:Int) (N:List Nd) (E:List Int) (left:Int):=
 (e,c,(i:Int),f,(f.length:Int),(i:Int),f,t.1,t.2,(0:Int),bj,N,E,(f[i]!).1,(f[i]!).2.1,(f[i]!).2.2,(f[i]!).1,left,(-1:Int))
section
variable {f : List Pt} {t : Int × Int} {N : List Nd} {r : Int}
theorem GB.link (h:GB f t N r) {j:Nat} (hj:j<f.length) {c:Int} (hc:(N[j]!).2.1=c\/(N[j]!).2.2=c):c= -1\/(0<=c/\c<N.length):=by
 have ln:=h.len;rcases h.bm.kids j (bu _) hj c hc with e|⟨k,e,_,k2,_⟩
 · exact .inl e
 exact .inr ⟨by omega,by omega⟩
end
theorem aOD (c:aO) (es:List (Int×Int)) (h1:es.length<=1000000) (_:c.ax.aq.length<=1000000):
 FW c es=some (decide (es.length=c.ax.aq.length/\ ∀i,i<c.ax.aq.length->(c.ax.aq[i]!).2∈es)):=by
 unfold FW iB jP;simp only [aF]
 by_cases h0:es.length=c.ax.aq.length
 case neg=>rw [eT (by omega),cond_false,dec_f (fun q=>h0 q.1)]
 rw [dW (by omega),cond_true]
 have key:=nC (body:=bU) (fun i=>(c.ax.aq,es,(c.ax.aq.length:Int),(i:Int))) c.ax.aq.length (fun i=>(c.ax.aq[i]!).2∉es) (fun i=>(i:Int)) (e:= -1) (fun i hi=>by
  unfold bU HR;simp only [aK (show (i:Int)<(c.ax.aq.length:Int) by omega),cond_true,aE c.ax.aq i hi,aB,lR es _ h1,aV (show i<1000000000 by omega)]
  refine ⟨fun q=>?_,fun q=>?_⟩
  · rw [dec_f q];rfl
  · rw [aK (bn.1 q)];rfl) (by
  unfold bU;simp only [dec_f (show¬(c.ax.aq.length:Int)<(c.ax.aq.length:Int) by omega),cond_false])
 by_cases hx: ∀i,i<c.ax.aq.length->(c.ax.aq[i]!).2∈es
 · rw [show aH bU (c.ax.aq,es,(c.ax.aq.length:Int),0)=_ from key.2 (fun i hi=>bn.2 (hx i hi)),aB,aB,dec_f (by omega),aK ⟨h0,hx⟩]
   rfl
 obtain ⟨i,hi⟩:=bv.1 hx
 obtain ⟨hi,hn⟩:=bw.1 hi;obtain ⟨m,m1,m2,m3⟩:=KP (c:=fun i=>(c.ax.aq[i]!).2∉es) ⟨i,hi,hn⟩
 rw [show aH bU (c.ax.aq,es,(c.ax.aq.length:Int),0)=_ from key.1 m m1 m2 m3,aB,aB,aK (by omega),dec_f (fun w=>hx w.2)]
 rfl
structure aGW (k:ME):Prop where
 clk:aR k.bg
 bm:GB k.bg.au.aa k.bg.ar k.bm.bk k.bm.bj
 cert:(k.bg.ax.aq.map fun x=>x.2).Perm (aGV k.bm.bk k.bg.au.aa.length)
structure aVp (k:ME):Prop where
 c:aAg k.bg
 n:k.bm.bk.length<=1000
theorem RK {α:Type} [BEq α] [LawfulBEq α]: ∀{a b:List α},a.Nodup->(∀x∈a,x∈b)->a.length<=b.length
 | [],_,_,_=>bu _
 |x::a,b,hd,h=>by
  rw [List.nodup_cons] at hd;have hx:=h x List.mem_cons_self
  have:=RK (a:=a) (b:=b.erase x) hd.2 (fun y hy=>by
   rw [List.mem_erase_of_ne (fun e=>hd.1 (by rw [<- e];exact hy))]
   exact h y (List.mem_cons_of_mem _ hy))
  rw [List.length_erase_of_mem hx] at this
  have:=List.length_pos_of_mem hx
  rw [List.length_cons];omega
theorem GC {α:Type} [BEq α] [LawfulBEq α] {a b:List α} (ha:a.Nodup) (hb:b.Nodup) (h1: ∀x∈a,x∈b) (h2: ∀x∈b,x∈a):a.Perm b:=zI ha h1 (RK hb h2)
structure aBL (R:ME) (F:List Pt) (t:Int×Int):Prop where
 ok:aGW R
 fld:R.bg.au.aa=F
 ar:R.bg.ar=t
theorem aBL.short {R:ME} {F:List Pt} {t:Int×Int} (h:aBL R F t):aVp R:=by
 have:=h.ok.clk.fld.1
 refine ⟨h.ok.clk.short,?_⟩
 have:=h.ok.bm.len
 omega
theorem aBL.nums {R:ME} {F:List Pt} {t:Int×Int} (h:aBL R F t):wQ R.bg:=h.ok.clk.fit
theorem aBL.same {R S:ME} {F:List Pt} {t:Int×Int} (h:aBL R F t) (k:aBL S F t):R.bm=S.bm:=by
 have a:=h.ok.bm;rw [h.fld,h.ar] at a;have b:=k.ok.bm;rw [k.fld,k.ar] at b;obtain ⟨e1,e2⟩:=a.same (by rw [<- h.fld];exact h.ok.clk.fld.2.2) b
 obtain ⟨_,⟨r,N⟩⟩:=R;obtain ⟨_,⟨r',N'⟩⟩:=S;simp only at e1 e2;subst e1 e2;rfl
theorem RM {f:List Pt} (hs:fY f) {q:Pt} (h:q∈f):fU f q.1=q:=by
 obtain ⟨i,hi,rfl⟩:=aU.1 h;exact xZ hs hi rfl
theorem aDm {f:List Pt} (hs:fY f) {x:Int} (h:pF f x):fU f x∈f/\(fU f x).1=x:=by
 obtain ⟨i,hi,rfl⟩:=h;rw [RM hs (bE hi)];exact ⟨bE hi,rfl⟩
abbrev aGX (f:List Pt) (t:Int×Int) (a b:Int):Prop:=cR (fU f a) (fU f b) t
theorem UE {f:List Pt} (hs:fY f) {t:Int×Int} {l:List Int} (hp: ∀x∈l,pF f x) (nd:l.Nodup):(∀e∈F9 l,cR (fU f e.2) (fU f e.1) t)↔Hp (aGX f t) l:=by
 constructor
 · intro h j h1 h2 c
   have hm:(l[j]!,l[par j]!)∈F9 l:=by
    refine aU.2 ⟨j-1,by rw [JA];omega,?_⟩
    rw [NI l (show j-1<l.length-1 by omega),show j-1+1=j by omega]
   exact rV c (h _ hm)
 intro h e he
 obtain ⟨i,hi,rfl⟩:=aU.1 he;rw [JA] at hi;rw [NI l hi]
 have:=h (i+1) (by omega) (by omega)
 have pe:par (i+1)=i / 2:=by simp only [par];omega
 rw [pe] at this;refine pH t ?_ this;rw [(aDm hs (hp _ (bE (by omega)))).2,(aDm hs (hp _ (bE (by omega)))).2]
 exact fun e=>gW.1 nd (i / 2) (i+1) (by omega) (by omega) e.symm
structure aZR (R:HQ) (F:List Pt) (t:Int×Int):Prop where
 ok:zK R
 fld:R.bg.au.aa=F
 ar:R.bg.ar=t
theorem zK.len {k:HQ} (h:zK k):k.aj.length=k.bg.au.aa.length:=by rw [<- h.perm.length_eq];exact List.length_map ..
theorem zK.bd {k:HQ} (h:zK k):k.aj.length<=64:=by have:=h.len;have:=h.clk.fld.1;omega
theorem zK.has {k:HQ} (h:zK k): ∀x∈k.aj,pF k.bg.au.aa x:=fun _ hx=>A2.1 (h.perm.mem_iff.2 hx)
theorem zK.nd {k:HQ} (h:zK k):k.aj.Nodup:=h.perm.nodup_iff.1 (G8 h.clk.fld.2.2)
theorem zK.hp {k:HQ} (h:zK k):Hp (aGX k.bg.au.aa k.bg.ar) k.aj:=(UE h.clk.fld.2.2 h.has h.nd).1 h.lead
theorem K2.aj {c:aO} {f:List Pt} (fok:bZ f) {l:List Int} (pm:(nE f).Perm l) {R:HQ} (e:R.aj=l) (q:K2 c f (F9 l) R.bg) (h:Hp (aGX f c.ar) l):aZR R f c.ar:=by
 have nd:=pm.nodup_iff.1 (G8 fok.2.2);refine ⟨⟨q.ok,by rw [q.fld,e];exact pm,?_,?_⟩,q.fld,q.ar⟩
 · rw [e]
   exact GC (wR q.ok.crt) (aAh nd) (fun x hx=>by obtain ⟨y,hy,rfl⟩:=List.mem_map.1 hx;exact q.sub y hy) (fun x hx=>tD.1 (q.has x hx))
 rw [e,q.fld,q.ar]
 exact (UE fok.2.2 (fun x hx=>A2.1 (pm.mem_iff.2 hx)) nd).2 h
theorem RN {α:Type} (z:α): ∀(l:List (Int×α)) (k:Int) (a:α) (j:Int),vV z (tK l k a) j=if j=k then a else vV z l j
 | [],k,a,j=>by
  simp only [tK,vV]
  by_cases h:j=k
  · rw [if_pos h,dW h];rfl
  rw [if_neg h,eT h];rfl
 |p::l,k,a,j=>by
  simp only [tK]
  by_cases h:k=p.1
  · rw [dW h,cond_true]
    simp only [vV]
    by_cases c:j=k
    · rw [if_pos c,dW c];rfl
    rw [if_neg c,eT c,cond_false,eT (by rw [<- h];exact c),cond_false]
  rw [eT h,cond_false]
  simp only [vV];rw [RN z l k a j]
  by_cases c:j=p.1
  · rw [dW c,cond_true,cond_true,if_neg (by rw [c];exact fun e=>h e.symm)]
  rw [eT c,cond_false,cond_false]
section
variable {f : List Pt} {t : Int × Int}
end
def SQ (f:List Pt) (x:Int):Prop:=x= -1\/(0<=x/\pF f x)
theorem SQ.has {f:List Pt} {x:Int} (h:SQ f x) (h0:0<=x):pF f x:=by rcases h with h|h;omega;exact h.2
theorem rW {p w:List Int} {i:Nat} (hi:i<w.length+p.length) (hb:w.length+p.length<=1000):kL ⟨p,w⟩ (i:Int)=some (bI p w i):=by
 unfold kL bI;simp only [aF]
 by_cases h:i<w.length
 · rw [aK (by omega),cond_true,aE w i h,aB,if_pos h]
 rw [dec_f (by omega),cond_false,oG ⟨by omega,by omega⟩,show (i:Int) - (w.length:Int)=((i-w.length:Nat):Int) by omega,aE p _ (by omega),aB,if_neg h]
theorem nX {p w:List Int} {i:Nat} (hi:i<w.length+p.length) (hb:w.length+p.length<=1000):gQ ⟨p,w⟩ (i:Int)=some (bI p w i):=by
 unfold gQ bI;have e:aA .i64 ((i:Int) - (w.length:Int))=(i:Int) - (w.length:Int):=oG ⟨by omega,by omega⟩
 simp only [aF,e]
 by_cases h:i<w.length
 · rw [dec_f (by omega),cond_false,aE w i h,aB,if_pos h]
 rw [aK (by omega),cond_true,show (i:Int) - (w.length:Int)=((i-w.length:Nat):Int) by omega,aE p _ (by omega),aB,if_neg h]
theorem tG {i:Nat} (h:i<1000) (k:Nat) (hk:k<=2):aA .i64 ((aA .i64 (2*(i:Int)))+(k:Int))=((2*i+k:Nat):Int):=by
 rw [oG (n:=2*(i:Int)) ⟨by omega,by omega⟩,oG ⟨by omega,by omega⟩];omega
theorem K5 {f:List Pt} (fok:bZ f) {t:Int×Int} (r64:nD t) {x y:Int} (hx:SQ f x) (hy:SQ f y):yD ⟨f⟩ t x y=some (D5 f t x y):=by
 unfold yD D5
 by_cases h1:x<0
 · rw [aK h1,cond_true,if_pos h1]
 rw [dec_f h1,cond_false,if_neg h1]
 by_cases h2:y<0
 · rw [aK h2,cond_true,if_pos h2]
 rw [dec_f h2,cond_false,if_neg h2];have p1:=hx.has (by omega)
 have p2:=hy.has (by omega)
 obtain ⟨j,j1,j2,j3⟩:=D1 fok p1;obtain ⟨k,k1,k2,k3⟩:=D1 fok p2;simp only [j2,k2,aB,aE f j j1,aE f k k1,j3,k3,KR (dG fok p1).1 (dG fok p2).1 r64]
 by_cases h:cR (fU f x) (fU f y) t
 · rw [aK h,cond_true,if_pos h]
 rw [dec_f h,cond_false,if_neg h]
theorem RO:dK=aS:=rfl
theorem uM {f:List Pt} (fok:bZ f) {x:Int} (h:pF f x): ∃k,k<f.length/\lA ⟨f⟩ x=some ((k:Int),true)/\f[k]! =fU f x:=by
 have h1:=fok.1;have bs:=G5 f x (by omega) (fun i j=>pU fok.2.2)
 obtain ⟨k,hk,he⟩:=h;refine ⟨k,hk,?_,(xZ fok.2.2 hk he).symm⟩;unfold lA;rw [RO,bs.1 k hk he];rfl
theorem MQ {f:List Pt} (fok:bZ f) {x:Int} (h: ¬pF f x): ∃m:Nat,lA ⟨f⟩ x=some ((m:Int),false):=by
 have h1:=fok.1;have bs:=G5 f x (by omega) (fun i j=>pU fok.2.2)
 obtain ⟨m,_,_,_,e⟩:=bs.2 (fun k hk he=>h ⟨k,hk,he⟩)
 refine ⟨m,?_⟩;unfold lA;rw [RO,e];rfl
theorem RP {f:List Pt} (fok:bZ f) {t:Int×Int} (r:bK t) (r64:nD t) {x y:Int} (hx:SQ f x) (hy:SQ f y) (hne:0<=x->x≠y):rM ⟨f⟩ t x y=some (D5 f t x y):=by
 unfold rM D5
 by_cases h1:x<0
 · rw [aK (by split<;>omega),cond_true,if_pos h1]
   have:x= -1:=by rcases hx with h|h;exact h;omega
   have: -1<=y:=by rcases hy with h|h<;>omega
   congr 1
   split<;>omega
 rw [if_neg h1]
 by_cases h2:y<0
 · rw [aK (by split<;>omega),cond_true,if_pos h2]
   congr 1
   split<;>omega
 rw [dec_f (by split<;>omega),cond_false,if_neg h2]
 have p1:=hx.has (by omega)
 have p2:=hy.has (by omega)
 obtain ⟨j,j1,j2,j3⟩:=uM fok p1;obtain ⟨k,k1,k2,k3⟩:=uM fok p2;obtain ⟨a1,a2⟩:=dG fok p1;obtain ⟨b1,b2⟩:=dG fok p2;simp only [j2,k2,aB,aE f j j1,aE f k k1,j3,k3];rcases ES a1 b1 r64 r with h|⟨h,_⟩
 · rw [h,aB]
   by_cases h:cR (fU f x) (fU f y) t
   · rw [if_pos h];dsimp only;rw [aK h,cond_true]
   rw [if_neg h];dsimp only;rw [dec_f h,cond_false]
 rw [a2,b2] at h;exact absurd h (hne (by omega))
def tL (B:List Int) (i:Nat):List Int:=List.replicate i 0++B.drop i
theorem uN {B:List Int} {i:Nat} (h:i<=B.length):(tL B i).length=B.length:=by unfold tL;rw [List.length_append,bo,List.length_drop];omega
theorem G9 {B:List Int} {i k:Nat} (h:i<=k) (hi:i<=B.length):(tL B i)[k]! =B[k]!:=by
 unfold tL;rw [kM (by rw [bo];exact h),uF,bo]
 congr 1;omega
theorem D7 {p B:List Int} {i k:Nat} (h:i<=k) (hi:i<=B.length):bI p (tL B i) k=bI p B k:=by
 unfold bI;rw [uN hi];split
 · exact G9 h hi
 rfl
theorem UF {B:List Int} {i:Nat} (h:i<B.length):(tL B (i+1)).set i B[i]! =tL B i:=by
 refine wM (by rw [cj,uN (by omega),uN (by omega)]) fun k hk=>?_
 rw [cj,uN (by omega)] at hk
 rw [bD]
 by_cases e:k=i
 · rw [if_pos ⟨e,by rw [uN (by omega)];omega⟩,G9 (by omega) (by omega),e]
 rw [if_neg (fun x=>e x.1)]
 by_cases h2:k<i
 · unfold tL
   rw [iG (by rw [bo];omega),iG (by rw [bo];omega)]
   rw [getElem!_pos _ k (by rw [bo];omega),getElem!_pos _ k (by rw [bo];omega),bz,bz]
 rw [G9 (by omega) (by omega),G9 (by omega) (by omega)]
section
variable {f : List Pt} (fok : bZ f) {t : Int × Int} (r : bK t) (r64 : nD t) {p : List Int} (h1 : 1 <= p.length) (h64 : p.length <= 64) (hk : ∀ x ∈ p, SQ f x)
include fok r64 h1 h64 hk
theorem OF {i:Nat} (hi:i<(aY f t p).length+p.length):SQ f (bI p (aY f t p) i):=by
 have _:=fok;have _:=r64;have _:=h64;exact hk _ (iS (dQ (f:=f) (t:=t) h1).1 (dQ h1).chosen hi)
theorem aBM {i:Nat} (hi:i<(aY f t p).length):
 oY ((i:Int),f,t.1,t.2,p,tL (aY f t p) (i+1))=some (.next ((i:Int) -1,f,t.1,t.2,p,tL (aY f t p) i)):=by
 have R:=dQ (f:=f) (t:=t) (p:=p) h1;have bl:=R.1;have pl:=uN (B:=aY f t p) (i:=i+1) (by omega)
 unfold oY;simp only [aK (show (0:Int)<=(i:Int) by omega),cond_true]
 have k1:=tG (i:=i) (by omega) 1 (by omega)
 have k2:=tG (i:=i) (by omega) 2 (by omega)
 rw [show aA .i64 (aA .i64 (2*(i:Int))+1)=((2*i+1:Nat):Int) from k1,show aA .i64 (aA .i64 (2*(i:Int))+2)=((2*i+2:Nat):Int) from k2];rw [rW (by omega) (by omega),aB,rW (by omega) (by omega),aB,D7 (by omega) (by omega),D7 (by omega) (by omega)]
 rw [show yD ⟨f⟩ (t.1,t.2) _ _=_ from K5 fok r64 (OF fok r64 h1 h64 hk (by omega)) (OF fok r64 h1 h64 hk (by omega)),aB,aE _ i (by omega),aB,<- R.2 i hi]
 show some (bT.next (_,f,t.1,t.2,p,(tL (aY f t p) (i+1)).set i _))=_
 rw [UF hi,oG ⟨by omega,by omega⟩]
theorem RQ:AN ⟨f⟩ t p=some ⟨p,aY f t p⟩:=by
 have R:=dQ (f:=f) (t:=t) (p:=p) h1;have bl:=R.1;have w1:aA .i64 ((p.length:Int) -1)=((p.length-1:Nat):Int):=qP (by omega) h1
 have loop: ∀n:Nat,n<=(aY f t p).length->aH oY ((n:Int) -1,f,t.1,t.2,p,tL (aY f t p) n)=some ⟨p,aY f t p⟩:=by
  intro n
  induction n with
  |zero=>
   intro _;refine aL ?_;unfold oY;rw [dec_f (by omega),cond_false]
   rfl
  |succ n ih=>
   intro hn;have st:=aBM fok r64 h1 h64 hk (t:=t) (i:=n) (by omega)
   rw [show ((n+1:Nat):Int) -1=(n:Int) by omega,aW st]
   exact ih (by omega)
 unfold AN;simp only [aZ (show p.length<=1048576 by omega),aB,aF,w1,dW rfl,cond_true,KW (0:Int) (show p.length-1<=1048576 by omega),bo]
 have:=loop (aY f t p).length (ci _)
 unfold tL at this;rw [ce,cm,show (aY f t p).length=p.length-1 by omega] at this
 rw [oG (n:=((p.length-1:Nat):Int) -1) ⟨by omega,by omega⟩]
 exact this
include r
theorem WR (ho:JB p) {i:Nat} (hi:i<(aY f t p).length):
 kA ((i:Int),f,t.1,t.2,p,tL (aY f t p) (i+1))=some (.next ((i:Int) -1,f,t.1,t.2,p,tL (aY f t p) i)):=by
 have R:=dQ (f:=f) (t:=t) (p:=p) h1;have bl:=R.1;have pl:=uN (B:=aY f t p) (i:=i+1) (by omega)
 unfold kA;simp only [aK (show (0:Int)<=(i:Int) by omega),cond_true]
 have k1:=tG (i:=i) (by omega) 1 (by omega)
 have k2:=tG (i:=i) (by omega) 2 (by omega)
 rw [show aA .i64 (aA .i64 (2*(i:Int))+1)=((2*i+1:Nat):Int) from k1,show aA .i64 (aA .i64 (2*(i:Int))+2)=((2*i+2:Nat):Int) from k2];rw [nX (by omega) (by omega),aB,nX (by omega) (by omega),aB,D7 (by omega) (by omega),D7 (by omega) (by omega)]
 rw [show rM ⟨f⟩ (t.1,t.2) _ _=_ from RP fok r r64 (OF fok r64 h1 h64 hk (by omega)) (OF fok r64 h1 h64 hk (by omega)) (fun h0=>K4 R.1 R.chosen ho hi h0),aB,aE _ i (by omega),aB,<- R.2 i hi]
 show some (bT.next (_,f,t.1,t.2,p,(tL (aY f t p) (i+1)).set i _))=_
 rw [UF hi,oG ⟨by omega,by omega⟩]
theorem MR:uV ⟨f⟩ p=some true:=by
 have _:=r;have _:=r64;have st:=dX (body:=pM) (fun i=>(p,(p.length:Int),(i:Int),f)) p.length (fun i hi=>by
  have id:=hk _ (bE hi);unfold pM;simp only [aK (show (i:Int)<(p.length:Int) by omega),cond_true,aE p i hi,aB,aV (show i<1000000000 by omega)]
  by_cases h:pF f p[i]!
  · obtain ⟨k,_,e,_⟩:=uM fok h
    rw [e,aB,cond_true]
  obtain ⟨m,e⟩:=MQ fok h
  rw [e,aB,cond_false];rcases id with id|id
  · rw [dW id];rfl
  exact absurd id.2 h)
 unfold uV;refine (show _=_ from st).trans (aL ?_);unfold pM;simp only [dec_f (show¬(p.length:Int)<(p.length:Int) by omega),cond_false]
 rfl
def RR (p:List Int):Nat->List (Int×Bool)
 |0=>tK [] (-1) false
 |i+1=>tK (RR p i) p[i]! (decide (0<=p[i]!))
omit fok r r64 h1 h64 hk in
theorem RS (p:List Int): ∀(i:Nat) (k:Int),vV false (RR p i) k=decide (0<=k/\ ∃j,j<i/\p[j]! =k)
 |0,k=>by
  unfold RR;rw [RN];rw [decide_eq_false (fun h=>by obtain ⟨_,j,hj,_⟩:=h;omega)]
  split<;>rfl
 |i+1,k=>by
  unfold RR;rw [RN,RS p i k]
  by_cases e:k=p[i]!
  · rw [if_pos e]
    refine decide_eq_decide.2 ⟨fun h=>⟨by omega,i,by omega,e.symm⟩,fun h=>by omega⟩
  rw [if_neg e]
  refine decide_eq_decide.2 ⟨fun ⟨h,j,hj,hx⟩=>⟨h,j,by omega,hx⟩,fun ⟨h,j,hj,hx⟩=>⟨h,j,?_,hx⟩⟩
  rcases cb j i with h2|h2
  · exact h2
  obtain rfl:j=i:=by omega
  exact absurd hx.symm e
omit fok r r64 h1 h64 hk in
theorem aEu {p:List Int} (ho:JB p) {i:Nat} (hi:i<p.length):vV false (RR p i) p[i]! =false:=by
 rw [RS];refine decide_eq_false fun ⟨h0,j,hj,e⟩=>?_
 have:=ho j i hj hi e
 omega
theorem MS (ho:JB p):uW ⟨f⟩ t p=some (⟨p,aY f t p⟩,0):=by
 have R:=dQ (f:=f) (t:=t) (p:=p) h1;have bl:=R.1;have w1:aA .i64 ((p.length:Int) -1)=((p.length-1:Nat):Int):=qP (by omega) h1
 have loop: ∀n:Nat,n<=(aY f t p).length->aH kA ((n:Int) -1,f,t.1,t.2,p,tL (aY f t p) n)=some (.done (⟨p,aY f t p⟩,0)):=by
  intro n
  induction n with
  |zero=>
   intro _;refine aL ?_;unfold kA;rw [dec_f (by omega),cond_false]
   rfl
  |succ n ih=>
   intro hn;have st:=WR fok r r64 h1 h64 hk (t:=t) ho (i:=n) (by omega)
   rw [show ((n+1:Nat):Int) -1=(n:Int) by omega,aW st]
   exact ih (by omega)
 have fc:fC ⟨f⟩=some 0:=by rw [mP];exact congrArg some (lH.2 fok)
 unfold uW BB;simp only [fc,aB,bP (rfl:(0:Int)=0),cond_false,dF r64,if_pos r,aF,dec_f (show¬(p.length:Int)<1 by omega),dec_f (show¬(64:Int)<(p.length:Int) by omega),MR fok r r64 h1 h64 hk,cq]
 have st:=dX (body:=pN 0 p) (fun i=>(p,(p.length:Int),(i:Int),f,t.1,t.2,RR p i)) p.length (fun i hi=>by
  unfold pN;simp only [aK (show (i:Int)<(p.length:Int) by omega),cond_true,aE p i hi,aB,aEu ho hi,Bool.not_false,cq,cond_false,aV (show i<1000000000 by omega)]
  rfl)
 refine (show _=_ from st).trans (aL ?_);unfold pN;simp only [dec_f (show¬(p.length:Int)<(p.length:Int) by omega),cond_false,bP (rfl:(0:Int)=0),aZ (show p.length<=1048576 by omega),aB,aF,w1,dW rfl,cond_true,KW (0:Int) (show p.length-1<=1048576 by omega),bo]
 have:=loop (aY f t p).length (ci _)
 unfold tL at this;rw [ce,cm,show (aY f t p).length=p.length-1 by omega] at this
 rw [oG (n:=((p.length-1:Nat):Int) -1) ⟨by omega,by omega⟩]
 exact this
end
end Go.Proofs.YtlnclppkepgdmaaGreat
