/- Plain laws (4). -/
import Derived.Test.YtlnclppkepgdmaaGreatQM3
import Derived.Test.YtlnclppkepgdmaaGreatQS2
namespace Go.Proofs.YtlnclppkepgdmaaGreat
open Go.Vm Classical
theorem Y4 (l:List Int) (hl:l.length<=1000000):pL l l=some true:=by
 unfold pL;rw [bS rfl,cond_false]
 have:=bQ (body:=oZ) (fun i=>(l,l,(i:Int))) l.length (fun i hi=>by
  unfold oZ;simp only [aF,aL (show (i:Int)<(l.length:Int) by omega),cond_true,aE l i hi,aD,bS rfl,cond_false,aU (show i<1000000000 by omega)])
 rw [show (l,l,(0:Int))=(l,l,((0:Nat):Int)) from rfl,this];refine aM ?_;unfold oZ;simp only [aF,dec_f (show¬(l.length:Int)<(l.length:Int) by omega),cond_false]
theorem aAZ (l:List (Int×Int)) (hl:l.length<=1048576):pY l l=some true:=by
 unfold pY;rw [bS rfl,cond_false]
 have:=bQ (body:=mL) (fun i=>(l,l,(i:Int))) l.length (fun i hi=>by
  unfold mL;simp only [aF,aL (show (i:Int)<(l.length:Int) by omega),cond_true,aE l i hi,aD,eV rfl,Bool.and_self,Bool.not_true,cond_false,aU (show i<1000000000 by omega)])
 rw [show (l,l,(0:Int))=(l,l,((0:Nat):Int)) from rfl,this];refine aM ?_;unfold mL;simp only [aF,dec_f (show¬(l.length:Int)<(l.length:Int) by omega),cond_false]
theorem VD (p q:Pt) (t:Int×Int):SI p q t=(p.2.1*t.2+p.2.2*t.1) - (q.2.1*t.2+q.2.2*t.1):=by
 rw [aNl,Int.sub_mul,Int.sub_mul];omega
theorem FA {p q r:Pt} {t:Int×Int} (h1:fT p q t) (h2:fT q r t):fT p r t:=by
 unfold fT at*;rw [VD] at*;generalize p.2.1*t.2+p.2.2*t.1=a at*;generalize q.2.1*t.2+q.2.2*t.1=b at*;generalize r.2.1*t.2+r.2.2*t.1=c at*;omega
theorem AE {p q:Pt} (t:Int×Int) (h:p.1≠q.1) (hn: ¬fT p q t):fT q p t:=by
 unfold fT at*;rw [VD] at*;generalize p.2.1*t.2+p.2.2*t.1=a at*;generalize q.2.1*t.2+q.2.2*t.1=b at*;omega
structure SO (P:Int->Int->Prop) (S:Int->Prop):Prop where
 irr: ∀a,S a-> ¬P a a
 tr: ∀a b c,S a->S b->S c->P a b->P b c->P a c
 tot: ∀a b,S a->S b->a≠b->P a b\/P b a
abbrev par (j:Nat):Nat:=(j-1) / 2
def Hp (P:Int->Int->Prop) (l:List Int):Prop:= ∀j,0<j->j<l.length-> ¬P l[j]! l[par j]!
section
variable {P : Int -> Int -> Prop} {S : Int -> Prop}
theorem SO.up (o:SO P S) {a b c:Int} (ha:S a) (hb:S b) (hc:S c) (h1:P b c) (h2: ¬P a c): ¬P a b:=fun h=>h2 (o.tr a b c ha hb hc h h1)
end
section
variable {P : Int -> Int -> Prop} {S : Int -> Prop} {bit : Int -> Nat -> Nat}
end
noncomputable def pC (f:List Pt) (es:List (Int×Int)):Int:=if¬(∀x∈es,gA x) then 8 else if¬es.Nodup then 14 else if¬(∀x∈es,kT f x) then 6 else 0
def rP (c:aP) (f:List Pt) (es:List (Int×Int)) (i:Nat):=
 (es,es,(es.length:Int),(i:Int),c.now.1,c.now.2,c.field.points,c.certs.next_,c.certs.list,c.agenda.slots.uses,c.agenda.slots.used,c.agenda.slots.free,c.agenda.heap,c.agenda.where_,c.due,f,(0:Int),(0:Int),(0:Int))
theorem P5 {c:aP} (ok:bG c) {f:List Pt} (fok:cJ f) {es:List (Int×Int)} (hl:es.length<=1000) {r:aP×Int} (hr:pC f es=0->vR c ⟨f⟩ es=some r):
 qV c ⟨f⟩ es=some (if pC f es=0 then r else (eE,pC f es)):=by
 have bd:=ok.bd;have ab:=ok.agd.bd;have sl:=ok.agd.so.fl;have sn:=ok.agd.so.n2;have su:=ok.agd.so.ul;have el:decide ((es.length:Int)<(es.length:Int))=false:=dec_f (by omega)
 have hc:iB c=some 0:=by rw [oK ok.fit,if_pos ok]
 have hf:fX ⟨f⟩=some 0:=by rw [lT];exact congrArg some (kL.2 fok)
 have tw:yB (aP.mk (c.now.1,c.now.2) (Field.mk c.field.points) (aV.mk c.certs.next_ c.certs.list) (aK.mk (aQ.mk c.agenda.slots.uses c.agenda.slots.used c.agenda.slots.free) c.agenda.heap c.agenda.where_) c.due)=some c:=by
  unfold yB;simp only [bD (show c.field.points.length<=1048576 by omega),bD (show c.certs.list.length<=1048576 by omega),bD (show c.due.length<=1048576 by omega),bD (show c.agenda.heap.length<=1048576 by omega),bD (show c.agenda.where_.length<=1048576 by omega),
   bD (show c.agenda.slots.uses.length<=1048576 by omega),bD (show c.agenda.slots.used.length<=1048576 by omega),bD (show c.agenda.slots.free.length<=1048576 by omega),aD]
 have k3: ∀e2:aP×Int,aH eO (rP c f es 0)=some (.done e2)->aH eQ (rP c f es 0)=some (if∀i,i<es.length->gA es[i]! then e2 else (eE,8)):=by
  intro e2 h2;refine qH (body:=eQ) (fun i=>rP c f es i) es.length (fun i=>gA es[i]!) (r:=(eE,8)) (e:=e2) (fun i hi=>?_) ?_
  · have e1:decide ((i:Int)<(es.length:Int))=true:=aL (by omega)
    unfold eQ rP gA;simp only [e1,cond_true,aE es i hi,aD,aU (show i<1000000000 by omega)]
    generalize es[i]! =x
    by_cases a1:x.1<0
    · rw [aL a1];exact ⟨fun _=>rfl,fun h=>by omega⟩
    rw [dec_f a1]
    by_cases a2:x.2<0
    · rw [aL a2];exact ⟨fun _=>rfl,fun h=>by omega⟩
    rw [dec_f a2]
    by_cases a3:65535<x.1
    · rw [aL a3];exact ⟨fun _=>rfl,fun h=>by omega⟩
    rw [dec_f a3]
    by_cases a4:65535<x.2
    · rw [aL a4];exact ⟨fun _=>rfl,fun h=>by omega⟩
    rw [dec_f a4]
    by_cases a5:x.1=x.2
    · rw [eV a5];exact ⟨fun _=>rfl,fun h=>absurd a5 h.2.2.2.2⟩
    · rw [eJ a5];exact ⟨fun h=>absurd ⟨by omega,by omega,by omega,by omega,a5⟩ h,fun _=>rfl⟩
  · unfold eQ rP
    simp only [aF,el,cond_false];exact h2
 have k2: ∀e1:aP×Int,aH fO (rP c f es 0)=some (.done (.done e1))->aH eO (rP c f es 0)=some (.done (if∀i,i<es.length->es[i]!∉es.take i then e1 else (eE,14))):=by
  intro e0 h2
  have:=qH (body:=eO) (fun i=>rP c f es i) es.length (fun i=>es[i]!∉es.take i) (r:= .done (eE,14)) (e:= .done e0) (fun i hi=>by
   have e1:decide ((i:Int)<(es.length:Int))=true:=aL (by omega)
   unfold eO rP;simp only [e1,cond_true,aE es i hi,lU es i (by omega),aD,pN _ _ (show (es.take i).length<=1000000 by rw [List.length_take];omega),aU (show i<1000000000 by omega)]
   by_cases h:es[i]!∈es.take i
   · rw [aL h];exact ⟨fun _=>rfl,fun k=>absurd h k⟩
   · rw [dec_f h];exact ⟨fun k=>absurd h k,fun _=>rfl⟩) (by
   unfold eO rP;simp only [aF,el,cond_false];exact h2)
  refine this.trans ?_
  by_cases hb: ∀i,i<es.length->es[i]!∉es.take i
  · rw [if_pos hb,if_pos hb]
  · rw [if_neg hb,if_neg hb]
 have step1: ∀i,i<es.length->(¬kT f es[i]!->fO (rP c f es i)=some (.done (.done (.done (eE,6)))))/\(kT f es[i]!->fO (rP c f es i)=some (.next (rP c f es (i+1)))):=by
  intro i hi;have e1:decide ((i:Int)<(es.length:Int))=true:=aL (by omega)
  obtain ⟨p,e,a1,a2⟩:=GZ fok (es[i]!).1;obtain ⟨q,g,b1,b2⟩:=GZ fok (es[i]!).2;unfold fO rP kT;simp only [e1,cond_true,aE es i hi,aD,a1,b1,aU (show i<1000000000 by omega)]
  by_cases h1:oI f (es[i]!).1
  · rw [bS (a2.2 h1)]
    by_cases h2:oI f (es[i]!).2
    · rw [bS (b2.2 h2)]
      exact ⟨fun h=>absurd ⟨h1,h2⟩ h,fun _=>rfl⟩
    · rw [cQ (fun h=>h2 (b2.1 h))]
      exact ⟨fun _=>rfl,fun h=>absurd h.2 h2⟩
  · rw [cQ (fun h=>h1 (a2.1 h))]
    exact ⟨fun _=>rfl,fun h=>absurd h.1 h1⟩
 have start:qV c ⟨f⟩ es=aH eQ (rP c f es 0):=by
  unfold qV;simp only [hc,aD,show ((0:Int) !=0)=false from rfl,cond_false,hf];rfl
 rw [start]
 by_cases h1: ∀x∈es,gA x
 case neg=>
  have er:pC f es=8:=by unfold pC;rw [if_pos h1]
  rw [er,if_neg (by omega)]
  have:=dK (body:=eQ) (fun i=>rP c f es i) es.length (fun i=> ¬gA es[i]!) (r:=(eE,8)) (e:=r)
  have k3':=k3;rw [E7 (P:=gA)] at h1;obtain ⟨i,h⟩:=Classical.not_forall.1 h1;obtain ⟨hi,hx⟩:=Classical.not_imp.1 h;obtain ⟨m,m1,m2,m3⟩:=JJ (c:=fun i=> ¬gA es[i]!) ⟨i,hi,hx⟩
  have go: ∀j,j<es.length->(¬gA es[j]!->eQ (rP c f es j)=some (.done (eE,8)))/\(gA es[j]!->eQ (rP c f es j)=some (.next (rP c f es (j+1)))):=by
   intro j hj;have e1:decide ((j:Int)<(es.length:Int))=true:=aL (by omega)
   unfold eQ rP gA;simp only [e1,cond_true,aE es j hj,aD,aU (show j<1000000000 by omega)]
   generalize es[j]! =x
   by_cases a1:x.1<0
   · rw [aL a1];exact ⟨fun _=>rfl,fun h=>by omega⟩
   rw [dec_f a1]
   by_cases a2:x.2<0
   · rw [aL a2];exact ⟨fun _=>rfl,fun h=>by omega⟩
   rw [dec_f a2]
   by_cases a3:65535<x.1
   · rw [aL a3];exact ⟨fun _=>rfl,fun h=>by omega⟩
   rw [dec_f a3]
   by_cases a4:65535<x.2
   · rw [aL a4];exact ⟨fun _=>rfl,fun h=>by omega⟩
   rw [dec_f a4]
   by_cases a5:x.1=x.2
   · rw [eV a5];exact ⟨fun _=>rfl,fun h=>absurd a5 h.2.2.2.2⟩
   · rw [eJ a5];exact ⟨fun h=>absurd ⟨by omega,by omega,by omega,by omega,a5⟩ h,fun _=>rfl⟩
  rw [bQ (body:=eQ) (fun i=>rP c f es i) m fun j hj=>(go j (by omega)).2 (Classical.not_not.1 (m3 j hj))]
  exact aM ((go m m1).1 m2)
 have h1':=(E7 (P:=gA)).1 h1
 by_cases h2:es.Nodup
 case neg=>
  have er:pC f es=14:=by unfold pC;rw [if_neg (Classical.not_not.2 h1),if_pos h2]
  rw [er,if_neg (by omega)]
  have h2':=h2;rw [P2] at h2';obtain ⟨i,h⟩:=Classical.not_forall.1 h2';obtain ⟨hi,hx⟩:=Classical.not_imp.1 h;obtain ⟨m,m1,m2,m3⟩:=JJ (c:=fun i=> ¬es[i]!∉es.take i) ⟨i,hi,hx⟩
  have go: ∀j,j<es.length->(es[j]!∈es.take j->eO (rP c f es j)=some (.done (.done (eE,14))))/\(es[j]!∉es.take j->eO (rP c f es j)=some (.next (rP c f es (j+1)))):=by
   intro j hj;have e1:decide ((j:Int)<(es.length:Int))=true:=aL (by omega)
   unfold eO rP;simp only [e1,cond_true,aE es j hj,lU es j (by omega),aD,pN _ _ (show (es.take j).length<=1000000 by rw [List.length_take];omega),aU (show j<1000000000 by omega)]
   by_cases h:es[j]!∈es.take j
   · rw [aL h];exact ⟨fun _=>rfl,fun k=>absurd h k⟩
   · rw [dec_f h];exact ⟨fun k=>absurd k h,fun _=>rfl⟩
  have l2:aH eO (rP c f es 0)=some (.done (eE,14)):=by
   rw [bQ (body:=eO) (fun i=>rP c f es i) m fun j hj=>(go j (by omega)).2 (Classical.not_not.1 (m3 j hj))]
   exact aM ((go m m1).1 (Classical.not_not.1 m2))
  rw [k3 _ l2,if_pos h1']
 have h2':=P2.1 h2
 by_cases h3: ∀x∈es,kT f x
 case neg=>
  have er:pC f es=6:=by unfold pC;rw [if_neg (Classical.not_not.2 h1),if_neg (Classical.not_not.2 h2),if_pos h3]
  rw [er,if_neg (by omega)]
  have h3':=h3;rw [E7 (P:=kT f)] at h3';obtain ⟨i,h⟩:=Classical.not_forall.1 h3';obtain ⟨hi,hx⟩:=Classical.not_imp.1 h;obtain ⟨m,m1,m2,m3⟩:=JJ (c:=fun i=> ¬kT f es[i]!) ⟨i,hi,hx⟩
  have l1:aH fO (rP c f es 0)=some (.done (.done (eE,6))):=by
   rw [bQ (body:=fO) (fun i=>rP c f es i) m fun j hj=>(step1 j (by omega)).2 (Classical.not_not.1 (m3 j hj))]
   exact aM ((step1 m m1).1 m2)
  rw [k3 _ (k2 _ l1),if_pos h1',if_pos h2']
 have h3':=(E7 (P:=kT f)).1 h3;have er:pC f es=0:=by unfold pC;rw [if_neg (Classical.not_not.2 h1),if_neg (Classical.not_not.2 h2),if_neg (Classical.not_not.2 h3)]
 rw [er,if_pos rfl];have l1:aH fO (rP c f es 0)=some (.done (.done r)):=by
  rw [bQ (body:=fO) (fun i=>rP c f es i) es.length fun j hj=>(step1 j hj).2 (h3' j hj)]
  refine aM ?_;unfold fO rP;simp only [el,cond_false,tw,aD,hr er]
 rw [k3 _ (k2 _ l1),if_pos h1',if_pos h2']
theorem tk {l:List Int} {m:Nat} {x:Int} (h:l.length=m):(l++[x]).take m=l:=by rw [<- h,List.take_left]
section
variable {k : GR} {f : List Pt} {m n0 : Nat} {x : Int}
end
section
variable {k : GR} {P : Pt} {f : List Pt} {m : Nat}
end
end Go.Proofs.YtlnclppkepgdmaaGreat
namespace Go.Proofs.YtlnclppkepgdmaaGreat
abbrev Nd:=Int×Int×Int
structure G1 (P:Nat->Nat->Prop) (a b i:Nat):Prop where
 lo:a<=i
 hi:i<b
 top: ∀j,a<=j->j<b->j≠i->P i j
inductive sU (P:Nat->Nat->Prop) (N:List Nd):Nat->Nat->Int->Prop
 |nil {a b:Nat} (h:b<=a):sU P N a b (-1)
 |node {a b i:Nat} (h:G1 P a b i) (l:sU P N a i (N[i]!).2.1) (r:sU P N (i+1) b (N[i]!).2.2):sU P N a b (i:Int)
structure aNp (P:Nat->Nat->Prop) (n:Nat):Prop where
 tr: ∀i j k,i<n->j<n->k<n->P i j->P j k->P i k
 asy: ∀i j,i<n->j<n->P i j-> ¬P j i
 tot: ∀i j,i<n->j<n->i≠j-> ¬P i j->P j i
theorem G1.one {P:Nat->Nat->Prop} {n a b i j:Nat} (o:aNp P n) (hb:b<=n) (h:G1 P a b i) (k:G1 P a b j):i=j:=by
 refine Classical.byContradiction fun hne=>?_
 have:=h.hi;have:=k.hi
 exact o.asy i j (by omega) (by omega) (h.top j k.lo k.hi (fun e=>hne e.symm)) (k.top i h.lo h.hi hne)
theorem sU.link {P:Nat->Nat->Prop} {N:List Nd} {a b:Nat} {r:Int} (h:sU P N a b r):(b<=a/\r= -1)\/(∃i:Nat,r=(i:Int)/\a<=i/\i<b):=by
 cases h with
 |nil h=>exact .inl ⟨h,rfl⟩
 |node h l r=>exact .inr ⟨_,rfl,h.lo,h.hi⟩
theorem sU.unique {P:Nat->Nat->Prop} {n:Nat} (o:aNp P n) {N N':List Nd} {a b:Nat} {r:Int} (h:sU P N a b r): ∀{r':Int},b<=n->sU P N' a b r'->r=r'/\ ∀k,a<=k->k<b->(N[k]!).2=(N'[k]!).2:=by
 induction h with
 |nil h=>
  intro r' hb h';cases h' with
  |nil _=>exact ⟨rfl,fun k h1 h2=>by omega⟩
  |node t _ _=>have:=t.lo;have:=t.hi;omega
 | @node a b i h l r ihl ihr=>
  intro r' hb h';have lo:=h.lo;have hi:=h.hi;cases h' with
  |nil q=>omega
  | @node _ _ j t l' r'=>
   have e:=h.one o hb t;subst e;obtain ⟨e1,f1⟩:=ihl (by omega) l'
   obtain ⟨e2,f2⟩:=ihr hb r';refine ⟨rfl,fun k h1 h2=>?_⟩
   rcases Nat.lt_trichotomy k i with q|q|q
   · exact f1 k h1 q
   · subst q;exact Prod.ext e1 e2
   · exact f2 k (by omega) h2
theorem sU.other {P Q:Nat->Nat->Prop} {n:Nat} (o:aNp Q n) {N:List Nd} {a b:Nat} {r:Int} (h:sU P N a b r):b<=n->(∀k j:Nat,a<=k->k<b->a<=j->j<b->((N[k]!).2.1=(j:Int)\/(N[k]!).2.2=(j:Int))->Q k j)->sU Q N a b r:=by
 induction h with
 |nil h=>exact fun _ _=> .nil h
 | @node a b i h l r ihl ihr=>
  intro hb q;have lo:=h.lo;have hi:=h.hi;have tl:=ihl (by omega) fun k j h1 h2 h3 h4=>q k j h1 (by omega) h3 (by omega)
  have tr:=ihr hb fun k j h1 h2 h3 h4=>q k j (by omega) h2 (by omega) h4
  refine .node ⟨lo,hi,fun j h1 h2 hne=>?_⟩ tl tr
  rcases Nat.lt_or_ge j i with hj|hj
  · generalize hr:(N[i]!).2.1=s at tl
    cases tl with
    |nil q=>omega
    | @node _ _ m t _ _=>
     have t1:=t.lo;have t2:=t.hi;have qm:=q i m lo hi t1 (by omega) (.inl hr)
     by_cases e:j=m
     · rw [e];exact qm
     · exact o.tr i m j (by omega) (by omega) (by omega) qm (t.top j h1 hj e)
  · generalize hr:(N[i]!).2.2=s at tr
    cases tr with
    |nil q=>omega
    | @node _ _ m t _ _=>
     have t1:=t.lo;have t2:=t.hi;have qm:=q i m lo hi (by omega) t2 (.inr hr)
     by_cases e:j=m
     · rw [e];exact qm
     · exact o.tr i m j (by omega) (by omega) (by omega) qm (t.top j (by omega) h2 e)
theorem sU.kids {P:Nat->Nat->Prop} {N:List Nd} {a b:Nat} {r:Int} (h:sU P N a b r): ∀k,a<=k->k<b-> ∀c:Int,((N[k]!).2.1=c\/(N[k]!).2.2=c)->c= -1\/ ∃j:Nat,c=(j:Int)/\a<=j/\j<b/\j≠k/\P k j/\r≠c:=by
 induction h with
 |nil h=>intro k h1 h2;omega
 | @node a b i h l r ihl ihr=>
  have lo:=h.lo;have hi:=h.hi;intro k h1 h2 c hc;rcases Nat.lt_trichotomy k i with q|q|q
  · rcases ihl k h1 q c hc with e|⟨j,e,j1,j2,j3,j4,_⟩
    · exact .inl e
    · exact .inr ⟨j,e,j1,by omega,j3,j4,by rw [e];omega⟩
  · subst q
    rcases hc with hc|hc
    · rcases l.link with ⟨_,e⟩|⟨j,e,j1,j2⟩
      · exact .inl (hc▸e)
      · exact .inr ⟨j,hc▸e,j1,by omega,by omega,h.top j j1 (by omega) (by omega),by rw [<- hc,e];omega⟩
    · rcases r.link with ⟨_,e⟩|⟨j,e,j1,j2⟩
      · exact .inl (hc▸e)
      · exact .inr ⟨j,hc▸e,by omega,j2,by omega,h.top j (by omega) j2 (by omega),by rw [<- hc,e];omega⟩
  · rcases ihr k (by omega) h2 c hc with e|⟨j,e,j1,j2,j3,j4,_⟩
    · exact .inl e
    · exact .inr ⟨j,e,by omega,j2,j3,j4,by rw [e];omega⟩
theorem sU.up {P:Nat->Nat->Prop} {N:List Nd} {a b:Nat} {r:Int} (h:sU P N a b r): ∀k:Nat,a<=k->k<b->(k:Int)≠r-> ∃j,a<=j/\j<b/\((N[j]!).2.1=(k:Int)\/(N[j]!).2.2=(k:Int))/\ ∀m,a<=m->m<b->((N[m]!).2.1=(k:Int)\/(N[m]!).2.2=(k:Int))->m=j:=by
 induction h with
 |nil h=>intro k h1 h2;omega
 | @node a b i h l r ihl ihr=>
  have lo:=h.lo;have hi:=h.hi;have lk:=l.kids;have rk:=r.kids;intro k h1 h2 hne;have hki:k≠i:=fun e=>hne (by rw [e])
  rcases Nat.lt_or_ge k i with q|q
  · by_cases er:(k:Int)=(N[i]!).2.1
    · refine ⟨i,lo,hi,.inl er.symm,fun m m1 m2 hm=>?_⟩
      rcases Nat.lt_trichotomy m i with w|w|w
      · rcases lk m m1 w _ hm with e|⟨j,e,_,_,_,_,hr⟩
        · omega
        · exact absurd er.symm hr
      · exact w
      · rcases rk m (by omega) m2 _ hm with e|⟨j,e,j1,_⟩<;>omega
    · obtain ⟨j,j1,j2,j3,j4⟩:=ihl k h1 q er
      refine ⟨j,j1,by omega,j3,fun m m1 m2 hm=>?_⟩
      rcases Nat.lt_trichotomy m i with w|w|w
      · exact j4 m m1 w hm
      · subst w
        rcases hm with hm|hm
        · exact absurd hm.symm er
        · rcases r.link with ⟨_,e⟩|⟨p,e,p1,p2⟩<;>omega
      · rcases rk m (by omega) m2 _ hm with e|⟨p,e,p1,_⟩<;>omega
  · by_cases er:(k:Int)=(N[i]!).2.2
    · refine ⟨i,lo,hi,.inr er.symm,fun m m1 m2 hm=>?_⟩
      rcases Nat.lt_trichotomy m i with w|w|w
      · rcases lk m m1 w _ hm with e|⟨j,e,_,j2,_⟩<;>omega
      · exact w
      · rcases rk m (by omega) m2 _ hm with e|⟨j,e,_,_,_,_,hr⟩
        · omega
        · exact absurd er.symm hr
    · obtain ⟨j,j1,j2,j3,j4⟩:=ihr k (by omega) h2 er
      refine ⟨j,by omega,j2,j3,fun m m1 m2 hm=>?_⟩
      rcases Nat.lt_trichotomy m i with w|w|w
      · rcases lk m m1 w _ hm with e|⟨p,e,_,p2,_⟩<;>omega
      · subst w
        rcases hm with hm|hm
        · rcases l.link with ⟨_,e⟩|⟨p,e,p1,p2⟩<;>omega
        · exact absurd hm.symm er
      · exact j4 m (by omega) m2 hm
inductive P6 (P:Nat->Nat->Prop) (N:List Nd):Nat->Nat->Int->List Nat->Prop
 |nil {a b:Nat} (h:b<=a):P6 P N a b (-1) []
 |cons {a b k:Nat} {es:List Nat} (h:G1 P a b k) (l:sU P N a k (N[k]!).2.1) (r:P6 P N (k+1) b (N[k]!).2.2 es):P6 P N a b (k:Int) (k::es)
theorem P6.tree {P:Nat->Nat->Prop} {N:List Nd} {a b:Nat} {r:Int} {es:List Nat} (h:P6 P N a b r es):sU P N a b r:=by
 induction h with
 |nil h=>exact .nil h
 |cons h l r ih=>exact .node h l ih
theorem P6.mem {P:Nat->Nat->Prop} {N:List Nd} {a b:Nat} {r:Int} {es:List Nat} (h:P6 P N a b r es): ∀e∈es,a<=e/\e<b:=by
 induction h with
 |nil h=>intro e he;cases he
 |cons h l r ih=>
  intro e he;have lo:=h.lo;have hi:=h.hi;rcases List.mem_cons.1 he with rfl|he
  · exact ⟨lo,hi⟩
  · have:=ih e he;omega
end Go.Proofs.YtlnclppkepgdmaaGreat
namespace Go.Proofs.YtlnclppkepgdmaaGreat
open Go.Vm Classical
def ahP (f:List Pt) (t:Int×Int) (i j:Nat):Prop:=fT f[i]! f[j]! t
theorem ME {p q:Pt} {t:Int×Int} (h:fT p q t): ¬fT q p t:=by
 unfold fT at*;rw [VD] at*;generalize p.2.1*t.2+p.2.2*t.1=a at*;generalize q.2.1*t.2+q.2.2*t.1=b at*;omega
theorem aCw {f:List Pt} (h:gW f) (t:Int×Int):aNp (ahP f t) f.length where
 tr:=fun _ _ _ _ _ _ h1 h2=>FA h1 h2
 asy:=fun _ _ _ _ h=>ME h
 tot:=fun _ _ hi hj hne hn=>AE t (fun e=>hne (tY h hi hj e)) hn
structure FB (f:List Pt) (t:Int×Int) (N:List Nd) (r:Int):Prop where
 len:N.length=f.length
 ids: ∀k,k<f.length->(N[k]!).1=(f[k]!).1
 tree:sU (ahP f t) N 0 f.length r
theorem FB.same {f:List Pt} (h:gW f) {t:Int×Int} {N N':List Nd} {r r':Int} (a:FB f t N r) (b:FB f t N' r'):N=N'/\r=r':=by
 obtain ⟨e1,e2⟩:=a.tree.unique (aCw h t) (Nat.le_refl _) b.tree;refine ⟨wB (by rw [a.len,b.len]) fun k hk=>?_,e1⟩
 have hk:k<f.length:=by rw [<- a.len];exact hk
 exact Prod.ext (by rw [a.ids k hk,b.ids k hk]) (e2 k (Nat.zero_le _) hk)
def Below (N:List Nd) (k j:Nat):Prop:=(N[j]!).2.1=(k:Int)\/(N[j]!).2.2=(k:Int)
noncomputable def MO (N:List Nd) (k:Nat):Nat:=if h: ∃j,j<N.length/\Below N k j then h.choose else N.length
noncomputable def aWC (N:List Nd) (k:Nat):List (Int×Int):=if MO N k<N.length then [((N[k]!).1,(N[MO N k]!).1)] else []
noncomputable def aFV (N:List Nd):Nat->List (Int×Int)
 |0=>[]
 |k+1=>aFV N k++aWC N k
section
variable {f : List Pt} {t : Int × Int} {N : List Nd} {r : Int}
theorem FB.par (h:FB f t N r) {k:Nat} (hk:k<f.length):((k:Int)=r->MO N k=N.length)/\((k:Int)≠r->MO N k<N.length/\Below N k (MO N k)/\MO N k≠k/\ahP f t (MO N k) k)/\ ∀m,m<N.length->Below N k m->m=MO N k:=by
 have ln:=h.len
 by_cases hr:(k:Int)=r
 · have none: ¬ ∃j,j<N.length/\Below N k j:=by
    rintro ⟨j,hj,hb⟩;rcases h.tree.kids j (Nat.zero_le _) (by omega) (k:Int) hb with e|⟨_,_,_,_,_,_,e⟩
    · omega
    · exact e hr.symm
   have e:MO N k=N.length:=by unfold MO;rw [dif_neg none]
   exact ⟨fun _=>e,fun q=>absurd hr q,fun m hm hb=>absurd ⟨m,hm,hb⟩ none⟩
 · obtain ⟨j,_,j2,j3,j4⟩:=h.tree.up k (Nat.zero_le _) hk hr
   have ex: ∃j,j<N.length/\Below N k j:=⟨j,by omega,j3⟩
   have e:MO N k=j:=by
    unfold MO;rw [dif_pos ex]
    have:=ex.choose_spec
    exact j4 _ (Nat.zero_le _) (by omega) this.2
   refine ⟨fun q=>absurd q hr,fun _=>?_,fun m hm hb=>by rw [e];exact j4 m (Nat.zero_le _) (by omega) hb⟩
   rw [e];refine ⟨by omega,j3,?_,?_⟩
   · rcases h.tree.kids j (Nat.zero_le _) j2 (k:Int) j3 with q|⟨i,q,_,_,q2,_⟩
     · omega
     · intro w;omega
   · rcases h.tree.kids j (Nat.zero_le _) j2 (k:Int) j3 with q|⟨i,q,_,_,_,q2,_⟩
     · omega
     · have:i=k:=by omega
       rw [<- this];exact q2
end
def o1 (f:List Pt) (t:Int×Int) (e c:Nat) (i:Nat) (root:Int) (N:List Nd) (E:List Int) (left:Int):=
 (e,c,(i:Int),f,(f.length:Int),(i:Int),f,t.1,t.2,(0:Int),root,N,E,(f[i]!).1,(f[i]!).2.1,(f[i]!).2.2,(f[i]!).1,left,(-1:Int))
section
variable {f : List Pt} {t : Int × Int} {N : List Nd} {r : Int}
theorem FB.link (h:FB f t N r) {j:Nat} (hj:j<f.length) {c:Int} (hc:(N[j]!).2.1=c\/(N[j]!).2.2=c):c= -1\/(0<=c/\c<N.length):=by
 have ln:=h.len;rcases h.tree.kids j (Nat.zero_le _) hj c hc with e|⟨k,e,_,k2,_⟩
 · exact .inl e
 · exact .inr ⟨by omega,by omega⟩
end
theorem aNq (c:aP) (es:List (Int×Int)) (h1:es.length<=1000000) (_:c.certs.list.length<=1000000):
 EY c es=some (decide (es.length=c.certs.list.length/\ ∀i,i<c.certs.list.length->(c.certs.list[i]!).2∈es)):=by
 unfold EY hJ jA;simp only [aF]
 by_cases h0:es.length=c.certs.list.length
 case neg=>rw [eJ (by omega),cond_false,dec_f (fun q=>h0 q.1)]
 rw [eV (by omega),cond_true]
 have key:=oG (body:=bN) (fun i=>(c.certs.list,es,(c.certs.list.length:Int),(i:Int))) c.certs.list.length (fun i=>(c.certs.list[i]!).2∉es) (fun i=>(i:Int)) (e:= -1) (fun i hi=>by
  unfold bN GS;simp only [aL (show (i:Int)<(c.certs.list.length:Int) by omega),cond_true,aE c.certs.list i hi,aD,pN es _ h1,aU (show i<1000000000 by omega)]
  refine ⟨fun q=>?_,fun q=>?_⟩
  · rw [dec_f q];rfl
  · rw [aL (Classical.not_not.1 q)];rfl) (by
  unfold bN;simp only [dec_f (show¬(c.certs.list.length:Int)<(c.certs.list.length:Int) by omega),cond_false])
 by_cases hx: ∀i,i<c.certs.list.length->(c.certs.list[i]!).2∈es
 · rw [show aH bN (c.certs.list,es,(c.certs.list.length:Int),0)=_ from key.2 (fun i hi=>Classical.not_not.2 (hx i hi)),aD,aD,dec_f (by omega),aL ⟨h0,hx⟩]
   rfl
 · obtain ⟨i,hi⟩:=Classical.not_forall.1 hx
   obtain ⟨hi,hn⟩:=Classical.not_imp.1 hi;obtain ⟨m,m1,m2,m3⟩:=JJ (c:=fun i=>(c.certs.list[i]!).2∉es) ⟨i,hi,hn⟩
   rw [show aH bN (c.certs.list,es,(c.certs.list.length:Int),0)=_ from key.1 m m1 m2 m3,aD,aD,aL (by omega),dec_f (fun w=>hx w.2)]
   rfl
structure aFW (k:K3):Prop where
 clk:bG k.clock
 tree:FB k.clock.field.points k.clock.now k.tree.nodes k.tree.root
 cert:(k.clock.certs.list.map fun x=>x.2).Perm (aFV k.tree.nodes k.clock.field.points.length)
structure aTW (k:K3):Prop where
 c:SY k.clock
 n:k.tree.nodes.length<=1000
theorem P7 {α:Type} [BEq α] [LawfulBEq α]: ∀{a b:List α},a.Nodup->(∀x∈a,x∈b)->a.length<=b.length
 | [],_,_,_=>Nat.zero_le _
 |x::a,b,hd,h=>by
  rw [List.nodup_cons] at hd;have hx:=h x List.mem_cons_self
  have:=P7 (a:=a) (b:=b.erase x) hd.2 (fun y hy=>by
   rw [List.mem_erase_of_ne (fun e=>hd.1 (by rw [<- e];exact hy))]
   exact h y (List.mem_cons_of_mem _ hy))
  rw [List.length_erase_of_mem hx] at this
  have:=List.length_pos_of_mem hx
  rw [List.length_cons];omega
theorem Y5 {α:Type} [BEq α] [LawfulBEq α] {a b:List α} (ha:a.Nodup) (hb:b.Nodup) (h1: ∀x∈a,x∈b) (h2: ∀x∈b,x∈a):a.Perm b:=yO ha h1 (P7 hb h2)
structure aA0 (R:K3) (F:List Pt) (t:Int×Int):Prop where
 ok:aFW R
 fld:R.clock.field.points=F
 now:R.clock.now=t
theorem aA0.short {R:K3} {F:List Pt} {t:Int×Int} (h:aA0 R F t):aTW R:=by
 have:=h.ok.clk.fld.1
 refine ⟨h.ok.clk.short,?_⟩
 have:=h.ok.tree.len
 omega
theorem aA0.nums {R:K3} {F:List Pt} {t:Int×Int} (h:aA0 R F t):wC R.clock:=h.ok.clk.fit
theorem aA0.same {R S:K3} {F:List Pt} {t:Int×Int} (h:aA0 R F t) (k:aA0 S F t):R.tree=S.tree:=by
 have a:=h.ok.tree;rw [h.fld,h.now] at a;have b:=k.ok.tree;rw [k.fld,k.now] at b;obtain ⟨e1,e2⟩:=a.same (by rw [<- h.fld];exact h.ok.clk.fld.2.2) b
 obtain ⟨_,⟨r,N⟩⟩:=R;obtain ⟨_,⟨r',N'⟩⟩:=S;simp only at e1 e2;subst e1 e2;rfl
theorem aFX {f:List Pt} (hs:gW f) {q:Pt} (h:q∈f):gU f q.1=q:=by
 obtain ⟨i,hi,rfl⟩:=aX.1 h;exact C6 hs hi rfl
theorem aCx {f:List Pt} (hs:gW f) {x:Int} (h:oI f x):gU f x∈f/\(gU f x).1=x:=by
 obtain ⟨i,hi,rfl⟩:=h;rw [aFX hs (bJ hi)];exact ⟨bJ hi,rfl⟩
abbrev aFY (f:List Pt) (t:Int×Int) (a b:Int):Prop:=fT (gU f a) (gU f b) t
theorem S3 {f:List Pt} (hs:gW f) {t:Int×Int} {l:List Int} (hp: ∀x∈l,oI f x) (nd:l.Nodup):(∀e∈HX l,fT (gU f e.2) (gU f e.1) t)↔Hp (aFY f t) l:=by
 constructor
 · intro h j h1 h2 c
   have hm:(l[j]!,l[par j]!)∈HX l:=by
    refine aX.2 ⟨j-1,by rw [HY];omega,?_⟩
    rw [MC l (show j-1<l.length-1 by omega),show j-1+1=j by omega]
   exact ME c (h _ hm)
 · intro h e he
   obtain ⟨i,hi,rfl⟩:=aX.1 he;rw [HY] at hi;rw [MC l hi]
   have:=h (i+1) (by omega) (by omega)
   have pe:par (i+1)=i / 2:=by simp only [par];omega
   rw [pe] at this;refine AE t ?_ this;rw [(aCx hs (hp _ (bJ (by omega)))).2,(aCx hs (hp _ (bJ (by omega)))).2]
   exact fun e=>iS.1 nd (i / 2) (i+1) (by omega) (by omega) e.symm
structure aYi (R:GR) (F:List Pt) (t:Int×Int):Prop where
 ok:yQ R
 fld:R.clock.field.points=F
 now:R.clock.now=t
theorem yQ.len {k:GR} (h:yQ k):k.heap.length=k.clock.field.points.length:=by rw [<- h.perm.length_eq];exact List.length_map ..
theorem yQ.bd {k:GR} (h:yQ k):k.heap.length<=64:=by have:=h.len;have:=h.clk.fld.1;omega
theorem yQ.has {k:GR} (h:yQ k): ∀x∈k.heap,oI k.clock.field.points x:=fun _ hx=>C9.1 (h.perm.mem_iff.2 hx)
theorem yQ.nd {k:GR} (h:yQ k):k.heap.Nodup:=h.perm.nodup_iff.1 (SZ h.clk.fld.2.2)
theorem yQ.hp {k:GR} (h:yQ k):Hp (aFY k.clock.field.points k.clock.now) k.heap:=(S3 h.clk.fld.2.2 h.has h.nd).1 h.lead
theorem P1.heap {c:aP} {f:List Pt} (fok:cJ f) {l:List Int} (pm:(pO f).Perm l) {R:GR} (e:R.heap=l) (q:P1 c f (HX l) R.clock) (h:Hp (aFY f c.now) l):aYi R f c.now:=by
 have nd:=pm.nodup_iff.1 (SZ fok.2.2);refine ⟨⟨q.ok,by rw [q.fld,e];exact pm,?_,?_⟩,q.fld,q.now⟩
 · rw [e]
   exact Y5 (MD q.ok.crt) (Y2 nd) (fun x hx=>by obtain ⟨y,hy,rfl⟩:=List.mem_map.1 hx;exact q.sub y hy) (fun x hx=>E8.1 (q.has x hx))
 · rw [e,q.fld,q.now]
   exact (S3 fok.2.2 (fun x hx=>C9.1 (pm.mem_iff.2 hx)) nd).2 h
theorem P8 {α:Type} (z:α): ∀(l:List (Int×α)) (k:Int) (a:α) (j:Int),vJ z (tB l k a) j=if j=k then a else vJ z l j
 | [],k,a,j=>by
  simp only [tB,vJ]
  by_cases h:j=k
  · rw [if_pos h,eV h];rfl
  · rw [if_neg h,eJ h];rfl
 |p::l,k,a,j=>by
  simp only [tB]
  by_cases h:k=p.1
  · rw [eV h,cond_true]
    simp only [vJ]
    by_cases c:j=k
    · rw [if_pos c,eV c];rfl
    · rw [if_neg c,eJ c,cond_false,eJ (by rw [<- h];exact c),cond_false]
  · rw [eJ h,cond_false]
    simp only [vJ];rw [P8 z l k a j]
    by_cases c:j=p.1
    · rw [eV c,cond_true,cond_true,if_neg (by rw [c];exact fun e=>h e.symm)]
    · rw [eJ c,cond_false,cond_false]
section
variable {f : List Pt} {t : Int × Int}
end
def Q5 (f:List Pt) (x:Int):Prop:=x= -1\/(0<=x/\oI f x)
theorem Q5.has {f:List Pt} {x:Int} (h:Q5 f x) (h0:0<=x):oI f x:=by rcases h with h|h;omega;exact h.2
theorem rH {p w:List Int} {i:Nat} (hi:i<w.length+p.length) (hb:w.length+p.length<=1000):jV ⟨p,w⟩ (i:Int)=some (bF p w i):=by
 unfold jV bF;simp only [aF]
 by_cases h:i<w.length
 · rw [aL (by omega),cond_true,aE w i h,aD,if_pos h]
 · rw [dec_f (by omega),cond_false,rC ⟨by omega,by omega⟩,show (i:Int) - (w.length:Int)=((i-w.length:Nat):Int) by omega,aE p _ (by omega),aD,if_neg h]
theorem mX {p w:List Int} {i:Nat} (hi:i<w.length+p.length) (hb:w.length+p.length<=1000):gM ⟨p,w⟩ (i:Int)=some (bF p w i):=by
 unfold gM bF;have e:aA .i64 ((i:Int) - (w.length:Int))=(i:Int) - (w.length:Int):=rC ⟨by omega,by omega⟩
 simp only [aF,e]
 by_cases h:i<w.length
 · rw [dec_f (by omega),cond_false,aE w i h,aD,if_pos h]
 · rw [aL (by omega),cond_true,show (i:Int) - (w.length:Int)=((i-w.length:Nat):Int) by omega,aE p _ (by omega),aD,if_neg h]
theorem sV {i:Nat} (h:i<1000) (k:Nat) (hk:k<=2):aA .i64 ((aA .i64 (2*(i:Int)))+(k:Int))=((2*i+k:Nat):Int):=by
 rw [rC (n:=2*(i:Int)) ⟨by omega,by omega⟩,rC ⟨by omega,by omega⟩];omega
theorem JY {f:List Pt} (fok:cJ f) {t:Int×Int} (r64:rD t) {x y:Int} (hx:Q5 f x) (hy:Q5 f y):xI ⟨f⟩ t x y=some (E9 f t x y):=by
 unfold xI E9
 by_cases h1:x<0
 · rw [aL h1,cond_true,if_pos h1]
 rw [dec_f h1,cond_false,if_neg h1]
 by_cases h2:y<0
 · rw [aL h2,cond_true,if_pos h2]
 rw [dec_f h2,cond_false,if_neg h2];have p1:=hx.has (by omega)
 have p2:=hy.has (by omega)
 obtain ⟨j,j1,j2,j3⟩:=C7 fok p1;obtain ⟨k,k1,k2,k3⟩:=C7 fok p2;simp only [j2,k2,aD,aE f j j1,aE f k k1,j3,k3,JL (eD fok p1).1 (eD fok p2).1 r64]
 by_cases h:fT (gU f x) (gU f y) t
 · rw [aL h,cond_true,if_pos h]
 · rw [dec_f h,cond_false,if_neg h]
theorem P9:dC=aS:=rfl
theorem uC {f:List Pt} (fok:cJ f) {x:Int} (h:oI f x): ∃k,k<f.length/\kG ⟨f⟩ x=some ((k:Int),true)/\f[k]! =gU f x:=by
 have h1:=fok.1;have bs:=F8 f x (by omega) (fun i j=>pA fok.2.2)
 obtain ⟨k,hk,he⟩:=h;refine ⟨k,hk,?_,(C6 fok.2.2 hk he).symm⟩;unfold kG;rw [P9,bs.1 k hk he];rfl
theorem LF {f:List Pt} (fok:cJ f) {x:Int} (h: ¬oI f x): ∃m:Nat,kG ⟨f⟩ x=some ((m:Int),false):=by
 have h1:=fok.1;have bs:=F8 f x (by omega) (fun i j=>pA fok.2.2)
 obtain ⟨m,_,_,_,e⟩:=bs.2 (fun k hk he=>h ⟨k,hk,he⟩)
 refine ⟨m,?_⟩;unfold kG;rw [P9,e];rfl
theorem QA {f:List Pt} (fok:cJ f) {t:Int×Int} (r:cH t) (r64:rD t) {x y:Int} (hx:Q5 f x) (hy:Q5 f y) (hne:0<=x->x≠y):qS ⟨f⟩ t x y=some (E9 f t x y):=by
 unfold qS E9
 by_cases h1:x<0
 · rw [aL (by split<;>omega),cond_true,if_pos h1]
   have:x= -1:=by rcases hx with h|h;exact h;omega
   have: -1<=y:=by rcases hy with h|h<;>omega
   congr 1
   split<;>omega
 rw [if_neg h1]
 by_cases h2:y<0
 · rw [aL (by split<;>omega),cond_true,if_pos h2]
   congr 1
   split<;>omega
 rw [dec_f (by split<;>omega),cond_false,if_neg h2]
 have p1:=hx.has (by omega)
 have p2:=hy.has (by omega)
 obtain ⟨j,j1,j2,j3⟩:=uC fok p1;obtain ⟨k,k1,k2,k3⟩:=uC fok p2;obtain ⟨a1,a2⟩:=eD fok p1;obtain ⟨b1,b2⟩:=eD fok p2;simp only [j2,k2,aD,aE f j j1,aE f k k1,j3,k3];rcases MN a1 b1 r64 r with h|⟨h,_⟩
 · rw [h,aD]
   by_cases h:fT (gU f x) (gU f y) t
   · rw [if_pos h];dsimp only;rw [aL h,cond_true]
   · rw [if_neg h];dsimp only;rw [dec_f h,cond_false]
 · rw [a2,b2] at h;exact absurd h (hne (by omega))
def tC (B:List Int) (i:Nat):List Int:=List.replicate i 0++B.drop i
theorem uD {B:List Int} {i:Nat} (h:i<=B.length):(tC B i).length=B.length:=by unfold tC;rw [List.length_append,List.length_replicate,List.length_drop];omega
theorem GA {B:List Int} {i k:Nat} (h:i<=k) (hi:i<=B.length):(tC B i)[k]! =B[k]!:=by
 unfold tC;rw [gQ (by rw [List.length_replicate];exact h),tV,List.length_replicate]
 congr 1;omega
theorem DD {p B:List Int} {i k:Nat} (h:i<=k) (hi:i<=B.length):bF p (tC B i) k=bF p B k:=by
 unfold bF;rw [uD hi];split
 · exact GA h hi
 · rfl
theorem S4 {B:List Int} {i:Nat} (h:i<B.length):(tC B (i+1)).set i B[i]! =tC B i:=by
 refine wB (by rw [List.length_set,uD (by omega),uD (by omega)]) fun k hk=>?_
 rw [List.length_set,uD (by omega)] at hk
 rw [bC]
 by_cases e:k=i
 · rw [if_pos ⟨e,by rw [uD (by omega)];omega⟩,GA (by omega) (by omega),e]
 · rw [if_neg (fun x=>e x.1)]
   by_cases h2:k<i
   · unfold tC
     rw [eA (by rw [List.length_replicate];omega),eA (by rw [List.length_replicate];omega)]
     rw [getElem!_pos _ k (by rw [List.length_replicate];omega),getElem!_pos _ k (by rw [List.length_replicate];omega),List.getElem_replicate,List.getElem_replicate]
   · rw [GA (by omega) (by omega),GA (by omega) (by omega)]
section
variable {f : List Pt} (fok : cJ f) {t : Int × Int} (r : cH t) (r64 : rD t) {p : List Int} (h1 : 1 <= p.length) (h64 : p.length <= 64) (hk : ∀ x ∈ p, Q5 f x)
include fok r64 h1 h64 hk
theorem M8 {i:Nat} (hi:i<(cI f t p).length+p.length):Q5 f (bF p (cI f t p) i):=
 hk _ (jX (fJ (f:=f) (t:=t) h1).1 (fJ h1).chosen hi)
theorem aA1 {i:Nat} (hi:i<(cI f t p).length):
 oA ((i:Int),f,t.1,t.2,p,tC (cI f t p) (i+1))=some (.next ((i:Int) -1,f,t.1,t.2,p,tC (cI f t p) i)):=by
 have R:=fJ (f:=f) (t:=t) (p:=p) h1;have bl:=R.1;have pl:=uD (B:=cI f t p) (i:=i+1) (by omega)
 unfold oA;simp only [aL (show (0:Int)<=(i:Int) by omega),cond_true]
 have k1:=sV (i:=i) (by omega) 1 (by omega)
 have k2:=sV (i:=i) (by omega) 2 (by omega)
 rw [show aA .i64 (aA .i64 (2*(i:Int))+1)=((2*i+1:Nat):Int) from k1,show aA .i64 (aA .i64 (2*(i:Int))+2)=((2*i+2:Nat):Int) from k2];rw [rH (by omega) (by omega),aD,rH (by omega) (by omega),aD,DD (by omega) (by omega),DD (by omega) (by omega)]
 rw [show xI ⟨f⟩ (t.1,t.2) _ _=_ from JY fok r64 (M8 fok r64 h1 h64 hk (by omega)) (M8 fok r64 h1 h64 hk (by omega)),aD,aE _ i (by omega),aD,<- R.2 i hi]
 show some (bO.next (_,f,t.1,t.2,p,(tC (cI f t p) (i+1)).set i _))=_
 rw [S4 hi,rC ⟨by omega,by omega⟩]
theorem QB:zR ⟨f⟩ t p=some ⟨p,cI f t p⟩:=by
 have R:=fJ (f:=f) (t:=t) (p:=p) h1;have bl:=R.1;have w1:aA .i64 ((p.length:Int) -1)=((p.length-1:Nat):Int):=pZ (by omega) h1
 have loop: ∀n:Nat,n<=(cI f t p).length->aH oA ((n:Int) -1,f,t.1,t.2,p,tC (cI f t p) n)=some ⟨p,cI f t p⟩:=by
  intro n
  induction n with
  |zero=>
   intro _;refine aM ?_;unfold oA;rw [dec_f (by omega),cond_false]
   rfl
  |succ n ih=>
   intro hn;have st:=aA1 fok r64 h1 h64 hk (t:=t) (i:=n) (by omega)
   rw [show ((n+1:Nat):Int) -1=(n:Int) by omega,bB st]
   exact ih (by omega)
 unfold zR;simp only [bD (show p.length<=1048576 by omega),aD,aF,w1,eV rfl,cond_true,PJ (0:Int) (show p.length-1<=1048576 by omega),List.length_replicate]
 have:=loop (cI f t p).length (Nat.le_refl _)
 unfold tC at this;rw [List.drop_length,List.append_nil,show (cI f t p).length=p.length-1 by omega] at this
 rw [rC (n:=((p.length-1:Nat):Int) -1) ⟨by omega,by omega⟩]
 exact this
include r
theorem VE (ho:HZ p) {i:Nat} (hi:i<(cI f t p).length):
 jL ((i:Int),f,t.1,t.2,p,tC (cI f t p) (i+1))=some (.next ((i:Int) -1,f,t.1,t.2,p,tC (cI f t p) i)):=by
 have R:=fJ (f:=f) (t:=t) (p:=p) h1;have bl:=R.1;have pl:=uD (B:=cI f t p) (i:=i+1) (by omega)
 unfold jL;simp only [aL (show (0:Int)<=(i:Int) by omega),cond_true]
 have k1:=sV (i:=i) (by omega) 1 (by omega)
 have k2:=sV (i:=i) (by omega) 2 (by omega)
 rw [show aA .i64 (aA .i64 (2*(i:Int))+1)=((2*i+1:Nat):Int) from k1,show aA .i64 (aA .i64 (2*(i:Int))+2)=((2*i+2:Nat):Int) from k2];rw [mX (by omega) (by omega),aD,mX (by omega) (by omega),aD,DD (by omega) (by omega),DD (by omega) (by omega)]
 rw [show qS ⟨f⟩ (t.1,t.2) _ _=_ from QA fok r r64 (M8 fok r64 h1 h64 hk (by omega)) (M8 fok r64 h1 h64 hk (by omega)) (fun h0=>M7 R.1 R.chosen ho hi h0),aD,aE _ i (by omega),aD,<- R.2 i hi]
 show some (bO.next (_,f,t.1,t.2,p,(tC (cI f t p) (i+1)).set i _))=_
 rw [S4 hi,rC ⟨by omega,by omega⟩]
theorem LG:uI ⟨f⟩ p=some true:=by
 have st:=bQ (body:=oP) (fun i=>(p,(p.length:Int),(i:Int),f)) p.length (fun i hi=>by
  have id:=hk _ (bJ hi);unfold oP;simp only [aL (show (i:Int)<(p.length:Int) by omega),cond_true,aE p i hi,aD,aU (show i<1000000000 by omega)]
  by_cases h:oI f p[i]!
  · obtain ⟨k,_,e,_⟩:=uC fok h
    rw [e,aD,cond_true]
  · obtain ⟨m,e⟩:=LF fok h
    rw [e,aD,cond_false];rcases id with id|id
    · rw [eV id];rfl
    · exact absurd id.2 h)
 unfold uI;refine (show _=_ from st).trans (aM ?_);unfold oP;simp only [dec_f (show¬(p.length:Int)<(p.length:Int) by omega),cond_false]
 rfl
def QC (p:List Int):Nat->List (Int×Bool)
 |0=>tB [] (-1) false
 |i+1=>tB (QC p i) p[i]! (decide (0<=p[i]!))
omit fok r r64 h1 h64 hk in
theorem QD (p:List Int): ∀(i:Nat) (k:Int),vJ false (QC p i) k=decide (0<=k/\ ∃j,j<i/\p[j]! =k)
 |0,k=>by
  unfold QC;rw [P8];rw [decide_eq_false (fun h=>by obtain ⟨_,j,hj,_⟩:=h;omega)]
  split<;>rfl
 |i+1,k=>by
  unfold QC;rw [P8,QD p i k]
  by_cases e:k=p[i]!
  · rw [if_pos e]
    refine decide_eq_decide.2 ⟨fun h=>⟨by omega,i,by omega,e.symm⟩,fun h=>by omega⟩
  · rw [if_neg e]
    refine decide_eq_decide.2 ⟨fun ⟨h,j,hj,hx⟩=>⟨h,j,by omega,hx⟩,fun ⟨h,j,hj,hx⟩=>⟨h,j,?_,hx⟩⟩
    rcases Nat.lt_or_ge j i with h2|h2
    · exact h2
    · obtain rfl:j=i:=by omega
      exact absurd hx.symm e
omit fok r r64 h1 h64 hk in
theorem aDD {p:List Int} (ho:HZ p) {i:Nat} (hi:i<p.length):vJ false (QC p i) p[i]! =false:=by
 rw [QD];refine decide_eq_false fun ⟨h0,j,hj,e⟩=>?_
 have:=ho j i hj hi e
 omega
theorem LH (ho:HZ p):uJ ⟨f⟩ t p=some (⟨p,cI f t p⟩,0):=by
 have R:=fJ (f:=f) (t:=t) (p:=p) h1;have bl:=R.1;have w1:aA .i64 ((p.length:Int) -1)=((p.length-1:Nat):Int):=pZ (by omega) h1
 have loop: ∀n:Nat,n<=(cI f t p).length->aH jL ((n:Int) -1,f,t.1,t.2,p,tC (cI f t p) n)=some (.done (⟨p,cI f t p⟩,0)):=by
  intro n
  induction n with
  |zero=>
   intro _;refine aM ?_;unfold jL;rw [dec_f (by omega),cond_false]
   rfl
  |succ n ih=>
   intro hn;have st:=VE fok r r64 h1 h64 hk (t:=t) ho (i:=n) (by omega)
   rw [show ((n+1:Nat):Int) -1=(n:Int) by omega,bB st]
   exact ih (by omega)
 have fc:fX ⟨f⟩=some 0:=by rw [lT];exact congrArg some (kL.2 fok)
 unfold uJ AN;simp only [fc,aD,bS (rfl:(0:Int)=0),cond_false,fP r64,if_pos r,aF,dec_f (show¬(p.length:Int)<1 by omega),dec_f (show¬(64:Int)<(p.length:Int) by omega),LG fok r r64 h1 h64 hk,Bool.not_true]
 have st:=bQ (body:=oQ 0 p) (fun i=>(p,(p.length:Int),(i:Int),f,t.1,t.2,QC p i)) p.length (fun i hi=>by
  unfold oQ;simp only [aL (show (i:Int)<(p.length:Int) by omega),cond_true,aE p i hi,aD,aDD ho hi,Bool.not_false,Bool.not_true,cond_false,aU (show i<1000000000 by omega)]
  rfl)
 refine (show _=_ from st).trans (aM ?_);unfold oQ;simp only [dec_f (show¬(p.length:Int)<(p.length:Int) by omega),cond_false,bS (rfl:(0:Int)=0),bD (show p.length<=1048576 by omega),aD,aF,w1,eV rfl,cond_true,PJ (0:Int) (show p.length-1<=1048576 by omega),List.length_replicate]
 have:=loop (cI f t p).length (Nat.le_refl _)
 unfold tC at this;rw [List.drop_length,List.append_nil,show (cI f t p).length=p.length-1 by omega] at this
 rw [rC (n:=((p.length-1:Nat):Int) -1) ⟨by omega,by omega⟩]
 exact this
end
end Go.Proofs.YtlnclppkepgdmaaGreat
