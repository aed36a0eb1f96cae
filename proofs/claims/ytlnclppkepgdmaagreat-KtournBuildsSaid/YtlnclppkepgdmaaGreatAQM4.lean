/- Plain laws (4). -/
import Derived.Test.YtlnclppkepgdmaaGreatAQM3
import Derived.Test.YtlnclppkepgdmaaGreatAQS2
namespace Go.Proofs.YtlnclppkepgdmaaGreat
open Go.Vm Classical
theorem Y6 (l:List Int) (hl:l.length<=1000000):pM l l=some true:=by
 unfold pM;rw [bS rfl,cond_false]
 have:=bQ (body:=pA) (fun i=>(l,l,(i:Int))) l.length (fun i hi=>by
  unfold pA;simp only [aF,aK (show (i:Int)<(l.length:Int) by omega),cond_true,aE l i hi,aD,bS rfl,cond_false,aT (show i<1000000000 by omega)])
 rw [show (l,l,(0:Int))=(l,l,((0:Nat):Int)) from rfl,this];refine aL ?_;unfold pA;simp only [aF,dec_f (show¬(l.length:Int)<(l.length:Int) by omega),cond_false]
theorem aA1 (l:List (Int×Int)) (hl:l.length<=1048576):pZ l l=some true:=by
 unfold pZ;rw [bS rfl,cond_false]
 have:=bQ (body:=mM) (fun i=>(l,l,(i:Int))) l.length (fun i hi=>by
  unfold mM;simp only [aF,aK (show (i:Int)<(l.length:Int) by omega),cond_true,aE l i hi,aD,eV rfl,Bool.and_self,Bool.not_true,cond_false,aT (show i<1000000000 by omega)])
 rw [show (l,l,(0:Int))=(l,l,((0:Nat):Int)) from rfl,this];refine aL ?_;unfold mM;simp only [aF,dec_f (show¬(l.length:Int)<(l.length:Int) by omega),cond_false]
theorem VE (p q:Pt) (t:Int×Int):SJ p q t=(p.2.1*t.2+p.2.2*t.1) - (q.2.1*t.2+q.2.2*t.1):=by
 rw [aNn,Int.sub_mul,Int.sub_mul];omega
theorem FC {p q r:Pt} {t:Int×Int} (h1:fT p q t) (h2:fT q r t):fT p r t:=by
 unfold fT at*;rw [VE] at*;generalize p.2.1*t.2+p.2.2*t.1=a at*;generalize q.2.1*t.2+q.2.2*t.1=b at*;generalize r.2.1*t.2+r.2.2*t.1=c at*;omega
theorem AF {p q:Pt} (t:Int×Int) (h:p.1≠q.1) (hn: ¬fT p q t):fT q p t:=by
 unfold fT at*;rw [VE] at*;generalize p.2.1*t.2+p.2.2*t.1=a at*;generalize q.2.1*t.2+q.2.2*t.1=b at*;omega
structure SO (P:Int->Int->Prop) (S:Int->Prop):Prop where
 irr: ∀a,S a-> ¬P a a
 tr: ∀a b c,S a->S b->S c->P a b->P b c->P a c
 tot: ∀a b,S a->S b->a≠b->P a b\/P b a
abbrev par (j:Nat):Nat:=(j-1) / 2
def Hp (P:Int->Int->Prop) (l:List Int):Prop:= ∀j,0<j->j<l.length-> ¬P l[j]! l[par j]!
section
variable {P : Int -> Int -> Prop} {S : Int -> Prop}
theorem SO.up (o:SO P S) {a b c:Int} (ha:S a) (hb:S b) (hc:S c) (h1:P b c) (h2: ¬P a c): ¬P a b:=fun h=>h2 (o.tr a b c ha hb hc h h1)
end
section
variable {P : Int -> Int -> Prop} {S : Int -> Prop} {bit : Int -> Nat -> Nat}
end
noncomputable def pD (f:List Pt) (es:List (Int×Int)):Int:=if¬(∀x∈es,gA x) then 8 else if¬es.Nodup then 14 else if¬(∀x∈es,kU f x) then 6 else 0
def rP (c:aQ) (f:List Pt) (es:List (Int×Int)) (i:Nat):=
 (es,es,(es.length:Int),(i:Int),c.now.1,c.now.2,c.field.points,c.certs.next_,c.certs.list,c.agenda.slots.uses,c.agenda.slots.used,c.agenda.slots.free,c.agenda.heap,c.agenda.where_,c.due,f,(0:Int),(0:Int),(0:Int))
theorem P6 {c:aQ} (ok:bF c) {f:List Pt} (fok:cJ f) {es:List (Int×Int)} (hl:es.length<=1000) {r:aQ×Int} (hr:pD f es=0->vS c ⟨f⟩ es=some r):
 qW c ⟨f⟩ es=some (if pD f es=0 then r else (eE,pD f es)):=by
 have bd:=ok.bd;have ab:=ok.agd.bd;have sl:=ok.agd.so.fl;have sn:=ok.agd.so.n2;have su:=ok.agd.so.ul;have el:decide ((es.length:Int)<(es.length:Int))=false:=dec_f (by omega)
 have hc:iB c=some 0:=by rw [oM ok.fit,if_pos ok]
 have hf:fX ⟨f⟩=some 0:=by rw [lU];exact congrArg some (kM.2 fok)
 have tw:yC (aQ.mk (c.now.1,c.now.2) (Field.mk c.field.points) (bI.mk c.certs.next_ c.certs.list) (aO.mk (aV.mk c.agenda.slots.uses c.agenda.slots.used c.agenda.slots.free) c.agenda.heap c.agenda.where_) c.due)=some c:=by
  unfold yC;simp only [bC (show c.field.points.length<=1048576 by omega),bC (show c.certs.list.length<=1048576 by omega),bC (show c.due.length<=1048576 by omega),bC (show c.agenda.heap.length<=1048576 by omega),bC (show c.agenda.where_.length<=1048576 by omega),
   bC (show c.agenda.slots.uses.length<=1048576 by omega),bC (show c.agenda.slots.used.length<=1048576 by omega),bC (show c.agenda.slots.free.length<=1048576 by omega),aD]
 have k3: ∀e2:aQ×Int,aH eO (rP c f es 0)=some (.done e2)->aH eQ (rP c f es 0)=some (if∀i,i<es.length->gA es[i]! then e2 else (eE,8)):=by
  intro e2 h2;refine qI (body:=eQ) (fun i=>rP c f es i) es.length (fun i=>gA es[i]!) (r:=(eE,8)) (e:=e2) (fun i hi=>?_) ?_
  · have e1:decide ((i:Int)<(es.length:Int))=true:=aK (by omega)
    unfold eQ rP gA;simp only [e1,cond_true,aE es i hi,aD,aT (show i<1000000000 by omega)]
    generalize es[i]! =x
    by_cases a1:x.1<0
    · rw [aK a1];exact ⟨fun _=>rfl,fun h=>by omega⟩
    rw [dec_f a1]
    by_cases a2:x.2<0
    · rw [aK a2];exact ⟨fun _=>rfl,fun h=>by omega⟩
    rw [dec_f a2]
    by_cases a3:65535<x.1
    · rw [aK a3];exact ⟨fun _=>rfl,fun h=>by omega⟩
    rw [dec_f a3]
    by_cases a4:65535<x.2
    · rw [aK a4];exact ⟨fun _=>rfl,fun h=>by omega⟩
    rw [dec_f a4]
    by_cases a5:x.1=x.2
    · rw [eV a5];exact ⟨fun _=>rfl,fun h=>absurd a5 h.2.2.2.2⟩
    · rw [eJ a5];exact ⟨fun h=>absurd ⟨by omega,by omega,by omega,by omega,a5⟩ h,fun _=>rfl⟩
  · unfold eQ rP
    simp only [aF,el,cond_false];exact h2
 have k2: ∀e1:aQ×Int,aH fO (rP c f es 0)=some (.done (.done e1))->aH eO (rP c f es 0)=some (.done (if∀i,i<es.length->es[i]!∉es.take i then e1 else (eE,14))):=by
  intro e0 h2
  have:=qI (body:=eO) (fun i=>rP c f es i) es.length (fun i=>es[i]!∉es.take i) (r:= .done (eE,14)) (e:= .done e0) (fun i hi=>by
   have e1:decide ((i:Int)<(es.length:Int))=true:=aK (by omega)
   unfold eO rP;simp only [e1,cond_true,aE es i hi,lV es i (by omega),aD,pO _ _ (show (es.take i).length<=1000000 by rw [List.length_take];omega),aT (show i<1000000000 by omega)]
   by_cases h:es[i]!∈es.take i
   · rw [aK h];exact ⟨fun _=>rfl,fun k=>absurd h k⟩
   · rw [dec_f h];exact ⟨fun k=>absurd h k,fun _=>rfl⟩) (by
   unfold eO rP;simp only [aF,el,cond_false];exact h2)
  refine this.trans ?_
  by_cases hb: ∀i,i<es.length->es[i]!∉es.take i
  · rw [if_pos hb,if_pos hb]
  · rw [if_neg hb,if_neg hb]
 have step1: ∀i,i<es.length->(¬kU f es[i]!->fO (rP c f es i)=some (.done (.done (.done (eE,6)))))/\(kU f es[i]!->fO (rP c f es i)=some (.next (rP c f es (i+1)))):=by
  intro i hi;have e1:decide ((i:Int)<(es.length:Int))=true:=aK (by omega)
  obtain ⟨p,e,a1,a2⟩:=G0 fok (es[i]!).1;obtain ⟨q,g,b1,b2⟩:=G0 fok (es[i]!).2;unfold fO rP kU;simp only [e1,cond_true,aE es i hi,aD,a1,b1,aT (show i<1000000000 by omega)]
  by_cases h1:oK f (es[i]!).1
  · rw [bS (a2.2 h1)]
    by_cases h2:oK f (es[i]!).2
    · rw [bS (b2.2 h2)]
      exact ⟨fun h=>absurd ⟨h1,h2⟩ h,fun _=>rfl⟩
    · rw [cQ (fun h=>h2 (b2.1 h))]
      exact ⟨fun _=>rfl,fun h=>absurd h.2 h2⟩
  · rw [cQ (fun h=>h1 (a2.1 h))]
    exact ⟨fun _=>rfl,fun h=>absurd h.1 h1⟩
 have start:qW c ⟨f⟩ es=aH eQ (rP c f es 0):=by
  unfold qW;simp only [hc,aD,show ((0:Int) !=0)=false from rfl,cond_false,hf];rfl
 rw [start]
 by_cases h1: ∀x∈es,gA x
 case neg=>
  have er:pD f es=8:=by unfold pD;rw [if_pos h1]
  rw [er,if_neg (by omega)]
  have:=dK (body:=eQ) (fun i=>rP c f es i) es.length (fun i=> ¬gA es[i]!) (r:=(eE,8)) (e:=r)
  have k3':=k3;rw [E9 (P:=gA)] at h1;obtain ⟨i,h⟩:=Classical.not_forall.1 h1;obtain ⟨hi,hx⟩:=Classical.not_imp.1 h;obtain ⟨m,m1,m2,m3⟩:=JK (c:=fun i=> ¬gA es[i]!) ⟨i,hi,hx⟩
  have go: ∀j,j<es.length->(¬gA es[j]!->eQ (rP c f es j)=some (.done (eE,8)))/\(gA es[j]!->eQ (rP c f es j)=some (.next (rP c f es (j+1)))):=by
   intro j hj;have e1:decide ((j:Int)<(es.length:Int))=true:=aK (by omega)
   unfold eQ rP gA;simp only [e1,cond_true,aE es j hj,aD,aT (show j<1000000000 by omega)]
   generalize es[j]! =x
   by_cases a1:x.1<0
   · rw [aK a1];exact ⟨fun _=>rfl,fun h=>by omega⟩
   rw [dec_f a1]
   by_cases a2:x.2<0
   · rw [aK a2];exact ⟨fun _=>rfl,fun h=>by omega⟩
   rw [dec_f a2]
   by_cases a3:65535<x.1
   · rw [aK a3];exact ⟨fun _=>rfl,fun h=>by omega⟩
   rw [dec_f a3]
   by_cases a4:65535<x.2
   · rw [aK a4];exact ⟨fun _=>rfl,fun h=>by omega⟩
   rw [dec_f a4]
   by_cases a5:x.1=x.2
   · rw [eV a5];exact ⟨fun _=>rfl,fun h=>absurd a5 h.2.2.2.2⟩
   · rw [eJ a5];exact ⟨fun h=>absurd ⟨by omega,by omega,by omega,by omega,a5⟩ h,fun _=>rfl⟩
  rw [bQ (body:=eQ) (fun i=>rP c f es i) m fun j hj=>(go j (by omega)).2 (Classical.not_not.1 (m3 j hj))]
  exact aL ((go m m1).1 m2)
 have h1':=(E9 (P:=gA)).1 h1
 by_cases h2:es.Nodup
 case neg=>
  have er:pD f es=14:=by unfold pD;rw [if_neg (Classical.not_not.2 h1),if_pos h2]
  rw [er,if_neg (by omega)]
  have h2':=h2;rw [P3] at h2';obtain ⟨i,h⟩:=Classical.not_forall.1 h2';obtain ⟨hi,hx⟩:=Classical.not_imp.1 h;obtain ⟨m,m1,m2,m3⟩:=JK (c:=fun i=> ¬es[i]!∉es.take i) ⟨i,hi,hx⟩
  have go: ∀j,j<es.length->(es[j]!∈es.take j->eO (rP c f es j)=some (.done (.done (eE,14))))/\(es[j]!∉es.take j->eO (rP c f es j)=some (.next (rP c f es (j+1)))):=by
   intro j hj;have e1:decide ((j:Int)<(es.length:Int))=true:=aK (by omega)
   unfold eO rP;simp only [e1,cond_true,aE es j hj,lV es j (by omega),aD,pO _ _ (show (es.take j).length<=1000000 by rw [List.length_take];omega),aT (show j<1000000000 by omega)]
   by_cases h:es[j]!∈es.take j
   · rw [aK h];exact ⟨fun _=>rfl,fun k=>absurd h k⟩
   · rw [dec_f h];exact ⟨fun k=>absurd k h,fun _=>rfl⟩
  have l2:aH eO (rP c f es 0)=some (.done (eE,14)):=by
   rw [bQ (body:=eO) (fun i=>rP c f es i) m fun j hj=>(go j (by omega)).2 (Classical.not_not.1 (m3 j hj))]
   exact aL ((go m m1).1 (Classical.not_not.1 m2))
  rw [k3 _ l2,if_pos h1']
 have h2':=P3.1 h2
 by_cases h3: ∀x∈es,kU f x
 case neg=>
  have er:pD f es=6:=by unfold pD;rw [if_neg (Classical.not_not.2 h1),if_neg (Classical.not_not.2 h2),if_pos h3]
  rw [er,if_neg (by omega)]
  have h3':=h3;rw [E9 (P:=kU f)] at h3';obtain ⟨i,h⟩:=Classical.not_forall.1 h3';obtain ⟨hi,hx⟩:=Classical.not_imp.1 h;obtain ⟨m,m1,m2,m3⟩:=JK (c:=fun i=> ¬kU f es[i]!) ⟨i,hi,hx⟩
  have l1:aH fO (rP c f es 0)=some (.done (.done (eE,6))):=by
   rw [bQ (body:=fO) (fun i=>rP c f es i) m fun j hj=>(step1 j (by omega)).2 (Classical.not_not.1 (m3 j hj))]
   exact aL ((step1 m m1).1 m2)
  rw [k3 _ (k2 _ l1),if_pos h1',if_pos h2']
 have h3':=(E9 (P:=kU f)).1 h3;have er:pD f es=0:=by unfold pD;rw [if_neg (Classical.not_not.2 h1),if_neg (Classical.not_not.2 h2),if_neg (Classical.not_not.2 h3)]
 rw [er,if_pos rfl];have l1:aH fO (rP c f es 0)=some (.done (.done r)):=by
  rw [bQ (body:=fO) (fun i=>rP c f es i) es.length fun j hj=>(step1 j hj).2 (h3' j hj)]
  refine aL ?_;unfold fO rP;simp only [el,cond_false,tw,aD,hr er]
 rw [k3 _ (k2 _ l1),if_pos h1',if_pos h2']
theorem tk {l:List Int} {m:Nat} {x:Int} (h:l.length=m):(l++[x]).take m=l:=by rw [<- h,List.take_left]
section
variable {k : GS} {f : List Pt} {m n0 : Nat} {x : Int}
end
section
variable {k : GS} {P : Pt} {f : List Pt} {m : Nat}
end
end Go.Proofs.YtlnclppkepgdmaaGreat
namespace Go.Proofs.YtlnclppkepgdmaaGreat
abbrev Nd:=Int×Int×Int
structure G2 (P:Nat->Nat->Prop) (a b i:Nat):Prop where
 lo:a<=i
 hi:i<b
 top: ∀j,a<=j->j<b->j≠i->P i j
inductive sV (P:Nat->Nat->Prop) (N:List Nd):Nat->Nat->Int->Prop
 |nil {a b:Nat} (h:b<=a):sV P N a b (-1)
 |node {a b i:Nat} (h:G2 P a b i) (l:sV P N a i (N[i]!).2.1) (r:sV P N (i+1) b (N[i]!).2.2):sV P N a b (i:Int)
structure aNr (P:Nat->Nat->Prop) (n:Nat):Prop where
 tr: ∀i j k,i<n->j<n->k<n->P i j->P j k->P i k
 asy: ∀i j,i<n->j<n->P i j-> ¬P j i
 tot: ∀i j,i<n->j<n->i≠j-> ¬P i j->P j i
theorem G2.one {P:Nat->Nat->Prop} {n a b i j:Nat} (o:aNr P n) (hb:b<=n) (h:G2 P a b i) (k:G2 P a b j):i=j:=by
 refine Classical.byContradiction fun hne=>?_
 have:=h.hi;have:=k.hi
 exact o.asy i j (by omega) (by omega) (h.top j k.lo k.hi (fun e=>hne e.symm)) (k.top i h.lo h.hi hne)
theorem sV.link {P:Nat->Nat->Prop} {N:List Nd} {a b:Nat} {r:Int} (h:sV P N a b r):(b<=a/\r= -1)\/(∃i:Nat,r=(i:Int)/\a<=i/\i<b):=by
 cases h with
 |nil h=>exact .inl ⟨h,rfl⟩
 |node h l r=>exact .inr ⟨_,rfl,h.lo,h.hi⟩
theorem sV.unique {P:Nat->Nat->Prop} {n:Nat} (o:aNr P n) {N N':List Nd} {a b:Nat} {r:Int} (h:sV P N a b r): ∀{r':Int},b<=n->sV P N' a b r'->r=r'/\ ∀k,a<=k->k<b->(N[k]!).2=(N'[k]!).2:=by
 induction h with
 |nil h=>
  intro r' hb h';cases h' with
  |nil _=>exact ⟨rfl,fun k h1 h2=>by omega⟩
  |node t _ _=>have:=t.lo;have:=t.hi;omega
 | @node a b i h l r ihl ihr=>
  intro r' hb h';have lo:=h.lo;have hi:=h.hi;cases h' with
  |nil q=>omega
  | @node _ _ j t l' r'=>
   have e:=h.one o hb t;subst e;obtain ⟨e1,f1⟩:=ihl (by omega) l'
   obtain ⟨e2,f2⟩:=ihr hb r';refine ⟨rfl,fun k h1 h2=>?_⟩
   rcases Nat.lt_trichotomy k i with q|q|q
   · exact f1 k h1 q
   · subst q;exact Prod.ext e1 e2
   · exact f2 k (by omega) h2
theorem sV.other {P Q:Nat->Nat->Prop} {n:Nat} (o:aNr Q n) {N:List Nd} {a b:Nat} {r:Int} (h:sV P N a b r):b<=n->(∀k j:Nat,a<=k->k<b->a<=j->j<b->((N[k]!).2.1=(j:Int)\/(N[k]!).2.2=(j:Int))->Q k j)->sV Q N a b r:=by
 induction h with
 |nil h=>exact fun _ _=> .nil h
 | @node a b i h l r ihl ihr=>
  intro hb q;have lo:=h.lo;have hi:=h.hi;have tl:=ihl (by omega) fun k j h1 h2 h3 h4=>q k j h1 (by omega) h3 (by omega)
  have tr:=ihr hb fun k j h1 h2 h3 h4=>q k j (by omega) h2 (by omega) h4
  refine .node ⟨lo,hi,fun j h1 h2 hne=>?_⟩ tl tr
  rcases Nat.lt_or_ge j i with hj|hj
  · generalize hr:(N[i]!).2.1=s at tl
    cases tl with
    |nil q=>omega
    | @node _ _ m t _ _=>
     have t1:=t.lo;have t2:=t.hi;have qm:=q i m lo hi t1 (by omega) (.inl hr)
     by_cases e:j=m
     · rw [e];exact qm
     · exact o.tr i m j (by omega) (by omega) (by omega) qm (t.top j h1 hj e)
  · generalize hr:(N[i]!).2.2=s at tr
    cases tr with
    |nil q=>omega
    | @node _ _ m t _ _=>
     have t1:=t.lo;have t2:=t.hi;have qm:=q i m lo hi (by omega) t2 (.inr hr)
     by_cases e:j=m
     · rw [e];exact qm
     · exact o.tr i m j (by omega) (by omega) (by omega) qm (t.top j (by omega) h2 e)
theorem sV.kids {P:Nat->Nat->Prop} {N:List Nd} {a b:Nat} {r:Int} (h:sV P N a b r): ∀k,a<=k->k<b-> ∀c:Int,((N[k]!).2.1=c\/(N[k]!).2.2=c)->c= -1\/ ∃j:Nat,c=(j:Int)/\a<=j/\j<b/\j≠k/\P k j/\r≠c:=by
 induction h with
 |nil h=>intro k h1 h2;omega
 | @node a b i h l r ihl ihr=>
  have lo:=h.lo;have hi:=h.hi;intro k h1 h2 c hc;rcases Nat.lt_trichotomy k i with q|q|q
  · rcases ihl k h1 q c hc with e|⟨j,e,j1,j2,j3,j4,_⟩
    · exact .inl e
    · exact .inr ⟨j,e,j1,by omega,j3,j4,by rw [e];omega⟩
  · subst q
    rcases hc with hc|hc
    · rcases l.link with ⟨_,e⟩|⟨j,e,j1,j2⟩
      · exact .inl (hc▸e)
      · exact .inr ⟨j,hc▸e,j1,by omega,by omega,h.top j j1 (by omega) (by omega),by rw [<- hc,e];omega⟩
    · rcases r.link with ⟨_,e⟩|⟨j,e,j1,j2⟩
      · exact .inl (hc▸e)
      · exact .inr ⟨j,hc▸e,by omega,j2,by omega,h.top j (by omega) j2 (by omega),by rw [<- hc,e];omega⟩
  · rcases ihr k (by omega) h2 c hc with e|⟨j,e,j1,j2,j3,j4,_⟩
    · exact .inl e
    · exact .inr ⟨j,e,by omega,j2,j3,j4,by rw [e];omega⟩
theorem sV.up {P:Nat->Nat->Prop} {N:List Nd} {a b:Nat} {r:Int} (h:sV P N a b r): ∀k:Nat,a<=k->k<b->(k:Int)≠r-> ∃j,a<=j/\j<b/\((N[j]!).2.1=(k:Int)\/(N[j]!).2.2=(k:Int))/\ ∀m,a<=m->m<b->((N[m]!).2.1=(k:Int)\/(N[m]!).2.2=(k:Int))->m=j:=by
 induction h with
 |nil h=>intro k h1 h2;omega
 | @node a b i h l r ihl ihr=>
  have lo:=h.lo;have hi:=h.hi;have lk:=l.kids;have rk:=r.kids;intro k h1 h2 hne;have hki:k≠i:=fun e=>hne (by rw [e])
  rcases Nat.lt_or_ge k i with q|q
  · by_cases er:(k:Int)=(N[i]!).2.1
    · refine ⟨i,lo,hi,.inl er.symm,fun m m1 m2 hm=>?_⟩
      rcases Nat.lt_trichotomy m i with w|w|w
      · rcases lk m m1 w _ hm with e|⟨j,e,_,_,_,_,hr⟩
        · omega
        · exact absurd er.symm hr
      · exact w
      · rcases rk m (by omega) m2 _ hm with e|⟨j,e,j1,_⟩<;>omega
    · obtain ⟨j,j1,j2,j3,j4⟩:=ihl k h1 q er
      refine ⟨j,j1,by omega,j3,fun m m1 m2 hm=>?_⟩
      rcases Nat.lt_trichotomy m i with w|w|w
      · exact j4 m m1 w hm
      · subst w
        rcases hm with hm|hm
        · exact absurd hm.symm er
        · rcases r.link with ⟨_,e⟩|⟨p,e,p1,p2⟩<;>omega
      · rcases rk m (by omega) m2 _ hm with e|⟨p,e,p1,_⟩<;>omega
  · by_cases er:(k:Int)=(N[i]!).2.2
    · refine ⟨i,lo,hi,.inr er.symm,fun m m1 m2 hm=>?_⟩
      rcases Nat.lt_trichotomy m i with w|w|w
      · rcases lk m m1 w _ hm with e|⟨j,e,_,j2,_⟩<;>omega
      · exact w
      · rcases rk m (by omega) m2 _ hm with e|⟨j,e,_,_,_,_,hr⟩
        · omega
        · exact absurd er.symm hr
    · obtain ⟨j,j1,j2,j3,j4⟩:=ihr k (by omega) h2 er
      refine ⟨j,by omega,j2,j3,fun m m1 m2 hm=>?_⟩
      rcases Nat.lt_trichotomy m i with w|w|w
      · rcases lk m m1 w _ hm with e|⟨p,e,_,p2,_⟩<;>omega
      · subst w
        rcases hm with hm|hm
        · rcases l.link with ⟨_,e⟩|⟨p,e,p1,p2⟩<;>omega
        · exact absurd hm.symm er
      · exact j4 m (by omega) m2 hm
inductive P7 (P:Nat->Nat->Prop) (N:List Nd):Nat->Nat->Int->List Nat->Prop
 |nil {a b:Nat} (h:b<=a):P7 P N a b (-1) []
 |cons {a b k:Nat} {es:List Nat} (h:G2 P a b k) (l:sV P N a k (N[k]!).2.1) (r:P7 P N (k+1) b (N[k]!).2.2 es):P7 P N a b (k:Int) (k::es)
theorem P7.tree {P:Nat->Nat->Prop} {N:List Nd} {a b:Nat} {r:Int} {es:List Nat} (h:P7 P N a b r es):sV P N a b r:=by
 induction h with
 |nil h=>exact .nil h
 |cons h l r ih=>exact .node h l ih
theorem P7.mem {P:Nat->Nat->Prop} {N:List Nd} {a b:Nat} {r:Int} {es:List Nat} (h:P7 P N a b r es): ∀e∈es,a<=e/\e<b:=by
 induction h with
 |nil h=>intro e he;cases he
 |cons h l r ih=>
  intro e he;have lo:=h.lo;have hi:=h.hi;rcases List.mem_cons.1 he with rfl|he
  · exact ⟨lo,hi⟩
  · have:=ih e he;omega
end Go.Proofs.YtlnclppkepgdmaaGreat
namespace Go.Proofs.YtlnclppkepgdmaaGreat
open Go.Vm Classical
def ahP (f:List Pt) (t:Int×Int) (i j:Nat):Prop:=fT f[i]! f[j]! t
theorem MF {p q:Pt} {t:Int×Int} (h:fT p q t): ¬fT q p t:=by
 unfold fT at*;rw [VE] at*;generalize p.2.1*t.2+p.2.2*t.1=a at*;generalize q.2.1*t.2+q.2.2*t.1=b at*;omega
theorem aCy {f:List Pt} (h:gW f) (t:Int×Int):aNr (ahP f t) f.length where
 tr:=fun _ _ _ _ _ _ h1 h2=>FC h1 h2
 asy:=fun _ _ _ _ h=>MF h
 tot:=fun _ _ hi hj hne hn=>AF t (fun e=>hne (tZ h hi hj e)) hn
structure FD (f:List Pt) (t:Int×Int) (N:List Nd) (r:Int):Prop where
 len:N.length=f.length
 ids: ∀k,k<f.length->(N[k]!).1=(f[k]!).1
 tree:sV (ahP f t) N 0 f.length r
theorem FD.same {f:List Pt} (h:gW f) {t:Int×Int} {N N':List Nd} {r r':Int} (a:FD f t N r) (b:FD f t N' r'):N=N'/\r=r':=by
 obtain ⟨e1,e2⟩:=a.tree.unique (aCy h t) (Nat.le_refl _) b.tree;refine ⟨wC (by rw [a.len,b.len]) fun k hk=>?_,e1⟩
 have hk:k<f.length:=by rw [<- a.len];exact hk
 exact Prod.ext (by rw [a.ids k hk,b.ids k hk]) (e2 k (Nat.zero_le _) hk)
def Below (N:List Nd) (k j:Nat):Prop:=(N[j]!).2.1=(k:Int)\/(N[j]!).2.2=(k:Int)
noncomputable def MP (N:List Nd) (k:Nat):Nat:=if h: ∃j,j<N.length/\Below N k j then h.choose else N.length
noncomputable def aWE (N:List Nd) (k:Nat):List (Int×Int):=if MP N k<N.length then [((N[k]!).1,(N[MP N k]!).1)] else []
noncomputable def aFX (N:List Nd):Nat->List (Int×Int)
 |0=>[]
 |k+1=>aFX N k++aWE N k
section
variable {f : List Pt} {t : Int × Int} {N : List Nd} {r : Int}
theorem FD.par (h:FD f t N r) {k:Nat} (hk:k<f.length):((k:Int)=r->MP N k=N.length)/\((k:Int)≠r->MP N k<N.length/\Below N k (MP N k)/\MP N k≠k/\ahP f t (MP N k) k)/\ ∀m,m<N.length->Below N k m->m=MP N k:=by
 have ln:=h.len
 by_cases hr:(k:Int)=r
 · have none: ¬ ∃j,j<N.length/\Below N k j:=by
    rintro ⟨j,hj,hb⟩;rcases h.tree.kids j (Nat.zero_le _) (by omega) (k:Int) hb with e|⟨_,_,_,_,_,_,e⟩
    · omega
    · exact e hr.symm
   have e:MP N k=N.length:=by unfold MP;rw [dif_neg none]
   exact ⟨fun _=>e,fun q=>absurd hr q,fun m hm hb=>absurd ⟨m,hm,hb⟩ none⟩
 · obtain ⟨j,_,j2,j3,j4⟩:=h.tree.up k (Nat.zero_le _) hk hr
   have ex: ∃j,j<N.length/\Below N k j:=⟨j,by omega,j3⟩
   have e:MP N k=j:=by
    unfold MP;rw [dif_pos ex]
    have:=ex.choose_spec
    exact j4 _ (Nat.zero_le _) (by omega) this.2
   refine ⟨fun q=>absurd q hr,fun _=>?_,fun m hm hb=>by rw [e];exact j4 m (Nat.zero_le _) (by omega) hb⟩
   rw [e];refine ⟨by omega,j3,?_,?_⟩
   · rcases h.tree.kids j (Nat.zero_le _) j2 (k:Int) j3 with q|⟨i,q,_,_,q2,_⟩
     · omega
     · intro w;omega
   · rcases h.tree.kids j (Nat.zero_le _) j2 (k:Int) j3 with q|⟨i,q,_,_,_,q2,_⟩
     · omega
     · have:i=k:=by omega
       rw [<- this];exact q2
end
def o1 (f:List Pt) (t:Int×Int) (e c:Nat) (i:Nat) (root:Int) (N:List Nd) (E:List Int) (left:Int):=
 (e,c,(i:Int),f,(f.length:Int),(i:Int),f,t.1,t.2,(0:Int),root,N,E,(f[i]!).1,(f[i]!).2.1,(f[i]!).2.2,(f[i]!).1,left,(-1:Int))
section
variable {f : List Pt} {t : Int × Int} {N : List Nd} {r : Int}
theorem FD.link (h:FD f t N r) {j:Nat} (hj:j<f.length) {c:Int} (hc:(N[j]!).2.1=c\/(N[j]!).2.2=c):c= -1\/(0<=c/\c<N.length):=by
 have ln:=h.len;rcases h.tree.kids j (Nat.zero_le _) hj c hc with e|⟨k,e,_,k2,_⟩
 · exact .inl e
 · exact .inr ⟨by omega,by omega⟩
end
theorem aNs (c:aQ) (es:List (Int×Int)) (h1:es.length<=1000000) (_:c.certs.list.length<=1000000):
 E0 c es=some (decide (es.length=c.certs.list.length/\ ∀i,i<c.certs.list.length->(c.certs.list[i]!).2∈es)):=by
 unfold E0 hJ jA;simp only [aF]
 by_cases h0:es.length=c.certs.list.length
 case neg=>rw [eJ (by omega),cond_false,dec_f (fun q=>h0 q.1)]
 rw [eV (by omega),cond_true]
 have key:=oI (body:=bN) (fun i=>(c.certs.list,es,(c.certs.list.length:Int),(i:Int))) c.certs.list.length (fun i=>(c.certs.list[i]!).2∉es) (fun i=>(i:Int)) (e:= -1) (fun i hi=>by
  unfold bN GT;simp only [aK (show (i:Int)<(c.certs.list.length:Int) by omega),cond_true,aE c.certs.list i hi,aD,pO es _ h1,aT (show i<1000000000 by omega)]
  refine ⟨fun q=>?_,fun q=>?_⟩
  · rw [dec_f q];rfl
  · rw [aK (Classical.not_not.1 q)];rfl) (by
  unfold bN;simp only [dec_f (show¬(c.certs.list.length:Int)<(c.certs.list.length:Int) by omega),cond_false])
 by_cases hx: ∀i,i<c.certs.list.length->(c.certs.list[i]!).2∈es
 · rw [show aH bN (c.certs.list,es,(c.certs.list.length:Int),0)=_ from key.2 (fun i hi=>Classical.not_not.2 (hx i hi)),aD,aD,dec_f (by omega),aK ⟨h0,hx⟩]
   rfl
 · obtain ⟨i,hi⟩:=Classical.not_forall.1 hx
   obtain ⟨hi,hn⟩:=Classical.not_imp.1 hi;obtain ⟨m,m1,m2,m3⟩:=JK (c:=fun i=>(c.certs.list[i]!).2∉es) ⟨i,hi,hn⟩
   rw [show aH bN (c.certs.list,es,(c.certs.list.length:Int),0)=_ from key.1 m m1 m2 m3,aD,aD,aK (by omega),dec_f (fun w=>hx w.2)]
   rfl
structure aFY (k:K4):Prop where
 clk:bF k.clock
 tree:FD k.clock.field.points k.clock.now k.tree.nodes k.tree.root
 cert:(k.clock.certs.list.map fun x=>x.2).Perm (aFX k.tree.nodes k.clock.field.points.length)
structure aTZ (k:K4):Prop where
 c:SZ k.clock
 n:k.tree.nodes.length<=1000
theorem P8 {α:Type} [BEq α] [LawfulBEq α]: ∀{a b:List α},a.Nodup->(∀x∈a,x∈b)->a.length<=b.length
 | [],_,_,_=>Nat.zero_le _
 |x::a,b,hd,h=>by
  rw [List.nodup_cons] at hd;have hx:=h x List.mem_cons_self
  have:=P8 (a:=a) (b:=b.erase x) hd.2 (fun y hy=>by
   rw [List.mem_erase_of_ne (fun e=>hd.1 (by rw [<- e];exact hy))]
   exact h y (List.mem_cons_of_mem _ hy))
  rw [List.length_erase_of_mem hx] at this
  have:=List.length_pos_of_mem hx
  rw [List.length_cons];omega
theorem Y7 {α:Type} [BEq α] [LawfulBEq α] {a b:List α} (ha:a.Nodup) (hb:b.Nodup) (h1: ∀x∈a,x∈b) (h2: ∀x∈b,x∈a):a.Perm b:=yP ha h1 (P8 hb h2)
structure aA2 (R:K4) (F:List Pt) (t:Int×Int):Prop where
 ok:aFY R
 fld:R.clock.field.points=F
 now:R.clock.now=t
theorem aA2.short {R:K4} {F:List Pt} {t:Int×Int} (h:aA2 R F t):aTZ R:=by
 have:=h.ok.clk.fld.1
 refine ⟨h.ok.clk.short,?_⟩
 have:=h.ok.tree.len
 omega
theorem aA2.nums {R:K4} {F:List Pt} {t:Int×Int} (h:aA2 R F t):wD R.clock:=h.ok.clk.fit
theorem aA2.same {R S:K4} {F:List Pt} {t:Int×Int} (h:aA2 R F t) (k:aA2 S F t):R.tree=S.tree:=by
 have a:=h.ok.tree;rw [h.fld,h.now] at a;have b:=k.ok.tree;rw [k.fld,k.now] at b;obtain ⟨e1,e2⟩:=a.same (by rw [<- h.fld];exact h.ok.clk.fld.2.2) b
 obtain ⟨_,⟨r,N⟩⟩:=R;obtain ⟨_,⟨r',N'⟩⟩:=S;simp only at e1 e2;subst e1 e2;rfl
theorem aFZ {f:List Pt} (hs:gW f) {q:Pt} (h:q∈f):gU f q.1=q:=by
 obtain ⟨i,hi,rfl⟩:=aW.1 h;exact C7 hs hi rfl
theorem aCz {f:List Pt} (hs:gW f) {x:Int} (h:oK f x):gU f x∈f/\(gU f x).1=x:=by
 obtain ⟨i,hi,rfl⟩:=h;rw [aFZ hs (bJ hi)];exact ⟨bJ hi,rfl⟩
abbrev aF0 (f:List Pt) (t:Int×Int) (a b:Int):Prop:=fT (gU f a) (gU f b) t
theorem S4 {f:List Pt} (hs:gW f) {t:Int×Int} {l:List Int} (hp: ∀x∈l,oK f x) (nd:l.Nodup):(∀e∈HY l,fT (gU f e.2) (gU f e.1) t)↔Hp (aF0 f t) l:=by
 constructor
 · intro h j h1 h2 c
   have hm:(l[j]!,l[par j]!)∈HY l:=by
    refine aW.2 ⟨j-1,by rw [HZ];omega,?_⟩
    rw [MD l (show j-1<l.length-1 by omega),show j-1+1=j by omega]
   exact MF c (h _ hm)
 · intro h e he
   obtain ⟨i,hi,rfl⟩:=aW.1 he;rw [HZ] at hi;rw [MD l hi]
   have:=h (i+1) (by omega) (by omega)
   have pe:par (i+1)=i / 2:=by simp only [par];omega
   rw [pe] at this;refine AF t ?_ this;rw [(aCz hs (hp _ (bJ (by omega)))).2,(aCz hs (hp _ (bJ (by omega)))).2]
   exact fun e=>iS.1 nd (i / 2) (i+1) (by omega) (by omega) e.symm
structure aYk (R:GS) (F:List Pt) (t:Int×Int):Prop where
 ok:yR R
 fld:R.clock.field.points=F
 now:R.clock.now=t
theorem yR.len {k:GS} (h:yR k):k.heap.length=k.clock.field.points.length:=by rw [<- h.perm.length_eq];exact List.length_map ..
theorem yR.bd {k:GS} (h:yR k):k.heap.length<=64:=by have:=h.len;have:=h.clk.fld.1;omega
theorem yR.has {k:GS} (h:yR k): ∀x∈k.heap,oK k.clock.field.points x:=fun _ hx=>DA.1 (h.perm.mem_iff.2 hx)
theorem yR.nd {k:GS} (h:yR k):k.heap.Nodup:=h.perm.nodup_iff.1 (S0 h.clk.fld.2.2)
theorem yR.hp {k:GS} (h:yR k):Hp (aF0 k.clock.field.points k.clock.now) k.heap:=(S4 h.clk.fld.2.2 h.has h.nd).1 h.lead
theorem P2.heap {c:aQ} {f:List Pt} (fok:cJ f) {l:List Int} (pm:(pP f).Perm l) {R:GS} (e:R.heap=l) (q:P2 c f (HY l) R.clock) (h:Hp (aF0 f c.now) l):aYk R f c.now:=by
 have nd:=pm.nodup_iff.1 (S0 fok.2.2);refine ⟨⟨q.ok,by rw [q.fld,e];exact pm,?_,?_⟩,q.fld,q.now⟩
 · rw [e]
   exact Y7 (ME q.ok.crt) (Y4 nd) (fun x hx=>by obtain ⟨y,hy,rfl⟩:=List.mem_map.1 hx;exact q.sub y hy) (fun x hx=>FA.1 (q.has x hx))
 · rw [e,q.fld,q.now]
   exact (S4 fok.2.2 (fun x hx=>DA.1 (pm.mem_iff.2 hx)) nd).2 h
theorem P9 {α:Type} (z:α): ∀(l:List (Int×α)) (k:Int) (a:α) (j:Int),vK z (tC l k a) j=if j=k then a else vK z l j
 | [],k,a,j=>by
  simp only [tC,vK]
  by_cases h:j=k
  · rw [if_pos h,eV h];rfl
  · rw [if_neg h,eJ h];rfl
 |p::l,k,a,j=>by
  simp only [tC]
  by_cases h:k=p.1
  · rw [eV h,cond_true]
    simp only [vK]
    by_cases c:j=k
    · rw [if_pos c,eV c];rfl
    · rw [if_neg c,eJ c,cond_false,eJ (by rw [<- h];exact c),cond_false]
  · rw [eJ h,cond_false]
    simp only [vK];rw [P9 z l k a j]
    by_cases c:j=p.1
    · rw [eV c,cond_true,cond_true,if_neg (by rw [c];exact fun e=>h e.symm)]
    · rw [eJ c,cond_false,cond_false]
section
variable {f : List Pt} {t : Int × Int}
end
def Q6 (f:List Pt) (x:Int):Prop:=x= -1\/(0<=x/\oK f x)
theorem Q6.has {f:List Pt} {x:Int} (h:Q6 f x) (h0:0<=x):oK f x:=by rcases h with h|h;omega;exact h.2
theorem rI {p w:List Int} {i:Nat} (hi:i<w.length+p.length) (hb:w.length+p.length<=1000):jW ⟨p,w⟩ (i:Int)=some (bE p w i):=by
 unfold jW bE;simp only [aF]
 by_cases h:i<w.length
 · rw [aK (by omega),cond_true,aE w i h,aD,if_pos h]
 · rw [dec_f (by omega),cond_false,rD ⟨by omega,by omega⟩,show (i:Int) - (w.length:Int)=((i-w.length:Nat):Int) by omega,aE p _ (by omega),aD,if_neg h]
theorem mY {p w:List Int} {i:Nat} (hi:i<w.length+p.length) (hb:w.length+p.length<=1000):gM ⟨p,w⟩ (i:Int)=some (bE p w i):=by
 unfold gM bE;have e:aA .i64 ((i:Int) - (w.length:Int))=(i:Int) - (w.length:Int):=rD ⟨by omega,by omega⟩
 simp only [aF,e]
 by_cases h:i<w.length
 · rw [dec_f (by omega),cond_false,aE w i h,aD,if_pos h]
 · rw [aK (by omega),cond_true,show (i:Int) - (w.length:Int)=((i-w.length:Nat):Int) by omega,aE p _ (by omega),aD,if_neg h]
theorem sW {i:Nat} (h:i<1000) (k:Nat) (hk:k<=2):aA .i64 ((aA .i64 (2*(i:Int)))+(k:Int))=((2*i+k:Nat):Int):=by
 rw [rD (n:=2*(i:Int)) ⟨by omega,by omega⟩,rD ⟨by omega,by omega⟩];omega
theorem JZ {f:List Pt} (fok:cJ f) {t:Int×Int} (r64:rE t) {x y:Int} (hx:Q6 f x) (hy:Q6 f y):xJ ⟨f⟩ t x y=some (FB f t x y):=by
 unfold xJ FB
 by_cases h1:x<0
 · rw [aK h1,cond_true,if_pos h1]
 rw [dec_f h1,cond_false,if_neg h1]
 by_cases h2:y<0
 · rw [aK h2,cond_true,if_pos h2]
 rw [dec_f h2,cond_false,if_neg h2];have p1:=hx.has (by omega)
 have p2:=hy.has (by omega)
 obtain ⟨j,j1,j2,j3⟩:=C8 fok p1;obtain ⟨k,k1,k2,k3⟩:=C8 fok p2;simp only [j2,k2,aD,aE f j j1,aE f k k1,j3,k3,JM (eD fok p1).1 (eD fok p2).1 r64]
 by_cases h:fT (gU f x) (gU f y) t
 · rw [aK h,cond_true,if_pos h]
 · rw [dec_f h,cond_false,if_neg h]
theorem QA:dC=aR:=rfl
theorem uD {f:List Pt} (fok:cJ f) {x:Int} (h:oK f x): ∃k,k<f.length/\kH ⟨f⟩ x=some ((k:Int),true)/\f[k]! =gU f x:=by
 have h1:=fok.1;have bs:=GA f x (by omega) (fun i j=>pB fok.2.2)
 obtain ⟨k,hk,he⟩:=h;refine ⟨k,hk,?_,(C7 fok.2.2 hk he).symm⟩;unfold kH;rw [QA,bs.1 k hk he];rfl
theorem LG {f:List Pt} (fok:cJ f) {x:Int} (h: ¬oK f x): ∃m:Nat,kH ⟨f⟩ x=some ((m:Int),false):=by
 have h1:=fok.1;have bs:=GA f x (by omega) (fun i j=>pB fok.2.2)
 obtain ⟨m,_,_,_,e⟩:=bs.2 (fun k hk he=>h ⟨k,hk,he⟩)
 refine ⟨m,?_⟩;unfold kH;rw [QA,e];rfl
theorem QB {f:List Pt} (fok:cJ f) {t:Int×Int} (r:cH t) (r64:rE t) {x y:Int} (hx:Q6 f x) (hy:Q6 f y) (hne:0<=x->x≠y):qT ⟨f⟩ t x y=some (FB f t x y):=by
 unfold qT FB
 by_cases h1:x<0
 · rw [aK (by split<;>omega),cond_true,if_pos h1]
   have:x= -1:=by rcases hx with h|h;exact h;omega
   have: -1<=y:=by rcases hy with h|h<;>omega
   congr 1
   split<;>omega
 rw [if_neg h1]
 by_cases h2:y<0
 · rw [aK (by split<;>omega),cond_true,if_pos h2]
   congr 1
   split<;>omega
 rw [dec_f (by split<;>omega),cond_false,if_neg h2]
 have p1:=hx.has (by omega)
 have p2:=hy.has (by omega)
 obtain ⟨j,j1,j2,j3⟩:=uD fok p1;obtain ⟨k,k1,k2,k3⟩:=uD fok p2;obtain ⟨a1,a2⟩:=eD fok p1;obtain ⟨b1,b2⟩:=eD fok p2;simp only [j2,k2,aD,aE f j j1,aE f k k1,j3,k3];rcases MO a1 b1 r64 r with h|⟨h,_⟩
 · rw [h,aD]
   by_cases h:fT (gU f x) (gU f y) t
   · rw [if_pos h];dsimp only;rw [aK h,cond_true]
   · rw [if_neg h];dsimp only;rw [dec_f h,cond_false]
 · rw [a2,b2] at h;exact absurd h (hne (by omega))
def tD (B:List Int) (i:Nat):List Int:=List.replicate i 0++B.drop i
theorem uE {B:List Int} {i:Nat} (h:i<=B.length):(tD B i).length=B.length:=by unfold tD;rw [List.length_append,List.length_replicate,List.length_drop];omega
theorem GC {B:List Int} {i k:Nat} (h:i<=k) (hi:i<=B.length):(tD B i)[k]! =B[k]!:=by
 unfold tD;rw [gQ (by rw [List.length_replicate];exact h),tX,List.length_replicate]
 congr 1;omega
theorem DE {p B:List Int} {i k:Nat} (h:i<=k) (hi:i<=B.length):bE p (tD B i) k=bE p B k:=by
 unfold bE;rw [uE hi];split
 · exact GC h hi
 · rfl
theorem S5 {B:List Int} {i:Nat} (h:i<B.length):(tD B (i+1)).set i B[i]! =tD B i:=by
 refine wC (by rw [List.length_set,uE (by omega),uE (by omega)]) fun k hk=>?_
 rw [List.length_set,uE (by omega)] at hk
 rw [bB]
 by_cases e:k=i
 · rw [if_pos ⟨e,by rw [uE (by omega)];omega⟩,GC (by omega) (by omega),e]
 · rw [if_neg (fun x=>e x.1)]
   by_cases h2:k<i
   · unfold tD
     rw [eA (by rw [List.length_replicate];omega),eA (by rw [List.length_replicate];omega)]
     rw [getElem!_pos _ k (by rw [List.length_replicate];omega),getElem!_pos _ k (by rw [List.length_replicate];omega),List.getElem_replicate,List.getElem_replicate]
   · rw [GC (by omega) (by omega),GC (by omega) (by omega)]
section
variable {f : List Pt} (fok : cJ f) {t : Int × Int} (r : cH t) (r64 : rE t) {p : List Int} (h1 : 1 <= p.length) (h64 : p.length <= 64) (hk : ∀ x ∈ p, Q6 f x)
include fok r64 h1 h64 hk
theorem M9 {i:Nat} (hi:i<(cI f t p).length+p.length):Q6 f (bE p (cI f t p) i):=by
 have _:=fok;have _:=r64;have _:=h64;exact hk _ (jY (fJ (f:=f) (t:=t) h1).1 (fJ h1).chosen hi)
theorem aA3 {i:Nat} (hi:i<(cI f t p).length):
 oC ((i:Int),f,t.1,t.2,p,tD (cI f t p) (i+1))=some (.next ((i:Int) -1,f,t.1,t.2,p,tD (cI f t p) i)):=by
 have R:=fJ (f:=f) (t:=t) (p:=p) h1;have bl:=R.1;have pl:=uE (B:=cI f t p) (i:=i+1) (by omega)
 unfold oC;simp only [aK (show (0:Int)<=(i:Int) by omega),cond_true]
 have k1:=sW (i:=i) (by omega) 1 (by omega)
 have k2:=sW (i:=i) (by omega) 2 (by omega)
 rw [show aA .i64 (aA .i64 (2*(i:Int))+1)=((2*i+1:Nat):Int) from k1,show aA .i64 (aA .i64 (2*(i:Int))+2)=((2*i+2:Nat):Int) from k2];rw [rI (by omega) (by omega),aD,rI (by omega) (by omega),aD,DE (by omega) (by omega),DE (by omega) (by omega)]
 rw [show xJ ⟨f⟩ (t.1,t.2) _ _=_ from JZ fok r64 (M9 fok r64 h1 h64 hk (by omega)) (M9 fok r64 h1 h64 hk (by omega)),aD,aE _ i (by omega),aD,<- R.2 i hi]
 show some (bO.next (_,f,t.1,t.2,p,(tD (cI f t p) (i+1)).set i _))=_
 rw [S5 hi,rD ⟨by omega,by omega⟩]
theorem QC:zS ⟨f⟩ t p=some ⟨p,cI f t p⟩:=by
 have R:=fJ (f:=f) (t:=t) (p:=p) h1;have bl:=R.1;have w1:aA .i64 ((p.length:Int) -1)=((p.length-1:Nat):Int):=qA (by omega) h1
 have loop: ∀n:Nat,n<=(cI f t p).length->aH oC ((n:Int) -1,f,t.1,t.2,p,tD (cI f t p) n)=some ⟨p,cI f t p⟩:=by
  intro n
  induction n with
  |zero=>
   intro _;refine aL ?_;unfold oC;rw [dec_f (by omega),cond_false]
   rfl
  |succ n ih=>
   intro hn;have st:=aA3 fok r64 h1 h64 hk (t:=t) (i:=n) (by omega)
   rw [show ((n+1:Nat):Int) -1=(n:Int) by omega,bA st]
   exact ih (by omega)
 unfold zS;simp only [bC (show p.length<=1048576 by omega),aD,aF,w1,eV rfl,cond_true,PK (0:Int) (show p.length-1<=1048576 by omega),List.length_replicate]
 have:=loop (cI f t p).length (Nat.le_refl _)
 unfold tD at this;rw [List.drop_length,List.append_nil,show (cI f t p).length=p.length-1 by omega] at this
 rw [rD (n:=((p.length-1:Nat):Int) -1) ⟨by omega,by omega⟩]
 exact this
include r
theorem VF (ho:IA p) {i:Nat} (hi:i<(cI f t p).length):
 jL ((i:Int),f,t.1,t.2,p,tD (cI f t p) (i+1))=some (.next ((i:Int) -1,f,t.1,t.2,p,tD (cI f t p) i)):=by
 have R:=fJ (f:=f) (t:=t) (p:=p) h1;have bl:=R.1;have pl:=uE (B:=cI f t p) (i:=i+1) (by omega)
 unfold jL;simp only [aK (show (0:Int)<=(i:Int) by omega),cond_true]
 have k1:=sW (i:=i) (by omega) 1 (by omega)
 have k2:=sW (i:=i) (by omega) 2 (by omega)
 rw [show aA .i64 (aA .i64 (2*(i:Int))+1)=((2*i+1:Nat):Int) from k1,show aA .i64 (aA .i64 (2*(i:Int))+2)=((2*i+2:Nat):Int) from k2];rw [mY (by omega) (by omega),aD,mY (by omega) (by omega),aD,DE (by omega) (by omega),DE (by omega) (by omega)]
 rw [show qT ⟨f⟩ (t.1,t.2) _ _=_ from QB fok r r64 (M9 fok r64 h1 h64 hk (by omega)) (M9 fok r64 h1 h64 hk (by omega)) (fun h0=>M8 R.1 R.chosen ho hi h0),aD,aE _ i (by omega),aD,<- R.2 i hi]
 show some (bO.next (_,f,t.1,t.2,p,(tD (cI f t p) (i+1)).set i _))=_
 rw [S5 hi,rD ⟨by omega,by omega⟩]
theorem LH:uJ ⟨f⟩ p=some true:=by
 have _:=r;have _:=r64;have st:=bQ (body:=oQ) (fun i=>(p,(p.length:Int),(i:Int),f)) p.length (fun i hi=>by
  have id:=hk _ (bJ hi);unfold oQ;simp only [aK (show (i:Int)<(p.length:Int) by omega),cond_true,aE p i hi,aD,aT (show i<1000000000 by omega)]
  by_cases h:oK f p[i]!
  · obtain ⟨k,_,e,_⟩:=uD fok h
    rw [e,aD,cond_true]
  · obtain ⟨m,e⟩:=LG fok h
    rw [e,aD,cond_false];rcases id with id|id
    · rw [eV id];rfl
    · exact absurd id.2 h)
 unfold uJ;refine (show _=_ from st).trans (aL ?_);unfold oQ;simp only [dec_f (show¬(p.length:Int)<(p.length:Int) by omega),cond_false]
 rfl
def QD (p:List Int):Nat->List (Int×Bool)
 |0=>tC [] (-1) false
 |i+1=>tC (QD p i) p[i]! (decide (0<=p[i]!))
omit fok r r64 h1 h64 hk in
theorem QE (p:List Int): ∀(i:Nat) (k:Int),vK false (QD p i) k=decide (0<=k/\ ∃j,j<i/\p[j]! =k)
 |0,k=>by
  unfold QD;rw [P9];rw [decide_eq_false (fun h=>by obtain ⟨_,j,hj,_⟩:=h;omega)]
  split<;>rfl
 |i+1,k=>by
  unfold QD;rw [P9,QE p i k]
  by_cases e:k=p[i]!
  · rw [if_pos e]
    refine decide_eq_decide.2 ⟨fun h=>⟨by omega,i,by omega,e.symm⟩,fun h=>by omega⟩
  · rw [if_neg e]
    refine decide_eq_decide.2 ⟨fun ⟨h,j,hj,hx⟩=>⟨h,j,by omega,hx⟩,fun ⟨h,j,hj,hx⟩=>⟨h,j,?_,hx⟩⟩
    rcases Nat.lt_or_ge j i with h2|h2
    · exact h2
    · obtain rfl:j=i:=by omega
      exact absurd hx.symm e
omit fok r r64 h1 h64 hk in
theorem aDF {p:List Int} (ho:IA p) {i:Nat} (hi:i<p.length):vK false (QD p i) p[i]! =false:=by
 rw [QE];refine decide_eq_false fun ⟨h0,j,hj,e⟩=>?_
 have:=ho j i hj hi e
 omega
theorem LJ (ho:IA p):uK ⟨f⟩ t p=some (⟨p,cI f t p⟩,0):=by
 have R:=fJ (f:=f) (t:=t) (p:=p) h1;have bl:=R.1;have w1:aA .i64 ((p.length:Int) -1)=((p.length-1:Nat):Int):=qA (by omega) h1
 have loop: ∀n:Nat,n<=(cI f t p).length->aH jL ((n:Int) -1,f,t.1,t.2,p,tD (cI f t p) n)=some (.done (⟨p,cI f t p⟩,0)):=by
  intro n
  induction n with
  |zero=>
   intro _;refine aL ?_;unfold jL;rw [dec_f (by omega),cond_false]
   rfl
  |succ n ih=>
   intro hn;have st:=VF fok r r64 h1 h64 hk (t:=t) ho (i:=n) (by omega)
   rw [show ((n+1:Nat):Int) -1=(n:Int) by omega,bA st]
   exact ih (by omega)
 have fc:fX ⟨f⟩=some 0:=by rw [lU];exact congrArg some (kM.2 fok)
 unfold uK AO;simp only [fc,aD,bS (rfl:(0:Int)=0),cond_false,fP r64,if_pos r,aF,dec_f (show¬(p.length:Int)<1 by omega),dec_f (show¬(64:Int)<(p.length:Int) by omega),LH fok r r64 h1 h64 hk,Bool.not_true]
 have st:=bQ (body:=oR 0 p) (fun i=>(p,(p.length:Int),(i:Int),f,t.1,t.2,QD p i)) p.length (fun i hi=>by
  unfold oR;simp only [aK (show (i:Int)<(p.length:Int) by omega),cond_true,aE p i hi,aD,aDF ho hi,Bool.not_false,Bool.not_true,cond_false,aT (show i<1000000000 by omega)]
  rfl)
 refine (show _=_ from st).trans (aL ?_);unfold oR;simp only [dec_f (show¬(p.length:Int)<(p.length:Int) by omega),cond_false,bS (rfl:(0:Int)=0),bC (show p.length<=1048576 by omega),aD,aF,w1,eV rfl,cond_true,PK (0:Int) (show p.length-1<=1048576 by omega),List.length_replicate]
 have:=loop (cI f t p).length (Nat.le_refl _)
 unfold tD at this;rw [List.drop_length,List.append_nil,show (cI f t p).length=p.length-1 by omega] at this
 rw [rD (n:=((p.length-1:Nat):Int) -1) ⟨by omega,by omega⟩]
 exact this
end
end Go.Proofs.YtlnclppkepgdmaaGreat
