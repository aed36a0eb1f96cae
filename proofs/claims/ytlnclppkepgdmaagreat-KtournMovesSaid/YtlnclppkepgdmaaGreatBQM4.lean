/- Plain laws (4). -/
import Derived.Test.YtlnclppkepgdmaaGreatBQM3
import Derived.Test.YtlnclppkepgdmaaGreatBQS2
namespace Go.Proofs.YtlnclppkepgdmaaGreat
open Go.Vm Classical
theorem YL (l:List Int) (hl:l.length<=1000000):pF l l=some true:=by
 unfold pF;rw [bO rfl,cond_false]
 have:=cP (body:=oQ) (fun i=>(l,l,(i:Int))) l.length (fun i hi=>by
  unfold oQ;simp only [aF,aJ (show (i:Int)<(l.length:Int) by omega),cond_true,aE l i hi,aB,bO rfl,cond_false,aU (show i<1000000000 by omega)])
 rw [show (l,l,(0:Int))=(l,l,((0:Nat):Int)) from rfl,this];refine aL ?_;unfold oQ;simp only [aF,dec_f (show¬(l.length:Int)<(l.length:Int) by omega),cond_false]
theorem aAJ (l:List (Int×Int)) (hl:l.length<=1048576):pP l l=some true:=by
 unfold pP;rw [bO rfl,cond_false]
 have:=cP (body:=mN) (fun i=>(l,l,(i:Int))) l.length (fun i hi=>by
  unfold mN;simp only [aF,aJ (show (i:Int)<(l.length:Int) by omega),cond_true,aE l i hi,aB,dY rfl,Bool.and_self,Bool.not_true,cond_false,aU (show i<1000000000 by omega)])
 rw [show (l,l,(0:Int))=(l,l,((0:Nat):Int)) from rfl,this];refine aL ?_;unfold mN;simp only [aF,dec_f (show¬(l.length:Int)<(l.length:Int) by omega),cond_false]
theorem UV (p q:Pt) (t:Int×Int):OV p q t=(p.2.1*t.2+p.2.2*t.1) - (q.2.1*t.2+q.2.2*t.1):=by
 rw [JP,Int.sub_mul,Int.sub_mul];omega
theorem YM {p q r:Pt} {t:Int×Int} (h1:eX p q t) (h2:eX q r t):eX p r t:=by
 unfold eX at*;rw [UV] at*;generalize p.2.1*t.2+p.2.2*t.1=a at*;generalize q.2.1*t.2+q.2.2*t.1=b at*;generalize r.2.1*t.2+r.2.2*t.1=c at*;omega
theorem zU {p q:Pt} (t:Int×Int) (h:p.1≠q.1) (hn: ¬eX p q t):eX q p t:=by
 unfold eX at*;rw [UV] at*;generalize p.2.1*t.2+p.2.2*t.1=a at*;generalize q.2.1*t.2+q.2.2*t.1=b at*;omega
structure SO (P:Int->Int->Prop) (S:Int->Prop):Prop where
 irr: ∀a,S a-> ¬P a a
 tr: ∀a b c,S a->S b->S c->P a b->P b c->P a c
 tot: ∀a b,S a->S b->a≠b->P a b\/P b a
abbrev par (j:Nat):Nat:=(j-1) / 2
def Hp (P:Int->Int->Prop) (l:List Int):Prop:= ∀j,0<j->j<l.length-> ¬P l[j]! l[par j]!
section
variable {P : Int -> Int -> Prop} {S : Int -> Prop}
theorem SO.up (o:SO P S) {a b c:Int} (ha:S a) (hb:S b) (hc:S c) (h1:P b c) (h2: ¬P a c): ¬P a b:=fun h=>h2 (o.tr a b c ha hb hc h h1)
end
section
variable {P : Int -> Int -> Prop} {S : Int -> Prop} {bit : Int -> Nat -> Nat}
end
noncomputable def oU (f:List Pt) (es:List (Int×Int)):Int:=if¬(∀x∈es,fV x) then 8 else if¬es.Nodup then 14 else if¬(∀x∈es,jS f x) then 6 else 0
def rP (c:aO) (f:List Pt) (es:List (Int×Int)) (i:Nat):=
 (es,es,(es.length:Int),(i:Int),c.now.1,c.now.2,c.field.points,c.certs.next_,c.certs.list,c.agenda.slots.uses,c.agenda.slots.used,c.agenda.slots.free,c.agenda.heap,c.agenda.where_,c.due,f,(0:Int),(0:Int),(0:Int))
theorem PU {c:aO} (ok:aV c) {f:List Pt} (fok:cZ f) {es:List (Int×Int)} (hl:es.length<=1000) {r:aO×Int} (hr:oU f es=0->vG c ⟨f⟩ es=some r):
 qN c ⟨f⟩ es=some (if oU f es=0 then r else (eK,oU f es)):=by
 have bd:=ok.bd;have ab:=ok.agd.bd;have sl:=ok.agd.so.fl;have sn:=ok.agd.so.n2;have su:=ok.agd.so.ul;have el:decide ((es.length:Int)<(es.length:Int))=false:=dec_f (by omega)
 have hc:gM c=some 0:=by rw [lT ok.fit,if_pos ok]
 have hf:gL ⟨f⟩=some 0:=by rw [oD];exact congrArg some (oC.2 fok)
 have tw:xS (aO.mk (c.now.1,c.now.2) (Field.mk c.field.points) (bI.mk c.certs.next_ c.certs.list) (aP.mk (aZ.mk c.agenda.slots.uses c.agenda.slots.used c.agenda.slots.free) c.agenda.heap c.agenda.where_) c.due)=some c:=by
  unfold xS;simp only [aX (show c.field.points.length<=1048576 by omega),aX (show c.certs.list.length<=1048576 by omega),aX (show c.due.length<=1048576 by omega),aX (show c.agenda.heap.length<=1048576 by omega),aX (show c.agenda.where_.length<=1048576 by omega),
   aX (show c.agenda.slots.uses.length<=1048576 by omega),aX (show c.agenda.slots.used.length<=1048576 by omega),aX (show c.agenda.slots.free.length<=1048576 by omega),aB]
 have k3: ∀e2:aO×Int,aH eO (rP c f es 0)=some (.done e2)->aH eQ (rP c f es 0)=some (if∀i,i<es.length->fV es[i]! then e2 else (eK,8)):=by
  intro e2 h2;refine qA (body:=eQ) (fun i=>rP c f es i) es.length (fun i=>fV es[i]!) (r:=(eK,8)) (e:=e2) (fun i hi=>?_) ?_
  · have e1:decide ((i:Int)<(es.length:Int))=true:=aJ (by omega)
    unfold eQ rP fV;simp only [e1,cond_true,aE es i hi,aB,aU (show i<1000000000 by omega)]
    generalize es[i]! =x
    by_cases a1:x.1<0
    · rw [aJ a1];exact ⟨fun _=>rfl,fun h=>by omega⟩
    rw [dec_f a1]
    by_cases a2:x.2<0
    · rw [aJ a2];exact ⟨fun _=>rfl,fun h=>by omega⟩
    rw [dec_f a2]
    by_cases a3:65535<x.1
    · rw [aJ a3];exact ⟨fun _=>rfl,fun h=>by omega⟩
    rw [dec_f a3]
    by_cases a4:65535<x.2
    · rw [aJ a4];exact ⟨fun _=>rfl,fun h=>by omega⟩
    rw [dec_f a4]
    by_cases a5:x.1=x.2
    · rw [dY a5];exact ⟨fun _=>rfl,fun h=>absurd a5 h.2.2.2.2⟩
    · rw [eD a5];exact ⟨fun h=>absurd ⟨by omega,by omega,by omega,by omega,a5⟩ h,fun _=>rfl⟩
  · unfold eQ rP
    simp only [aF,el,cond_false];exact h2
 have k2: ∀e1:aO×Int,aH fO (rP c f es 0)=some (.done (.done e1))->aH eO (rP c f es 0)=some (.done (if∀i,i<es.length->es[i]!∉es.take i then e1 else (eK,14))):=by
  intro e0 h2
  have:=qA (body:=eO) (fun i=>rP c f es i) es.length (fun i=>es[i]!∉es.take i) (r:= .done (eK,14)) (e:= .done e0) (fun i hi=>by
   have e1:decide ((i:Int)<(es.length:Int))=true:=aJ (by omega)
   unfold eO rP;simp only [e1,cond_true,aE es i hi,lS es i (by omega),aB,pH _ _ (show (es.take i).length<=1000000 by rw [List.length_take];omega),aU (show i<1000000000 by omega)]
   by_cases h:es[i]!∈es.take i
   · rw [aJ h];exact ⟨fun _=>rfl,fun k=>absurd h k⟩
   · rw [dec_f h];exact ⟨fun k=>absurd h k,fun _=>rfl⟩) (by
   unfold eO rP;simp only [aF,el,cond_false];exact h2)
  refine this.trans ?_
  by_cases hb: ∀i,i<es.length->es[i]!∉es.take i
  · rw [if_pos hb,if_pos hb]
  · rw [if_neg hb,if_neg hb]
 have step1: ∀i,i<es.length->(¬jS f es[i]!->fO (rP c f es i)=some (.done (.done (.done (eK,6)))))/\(jS f es[i]!->fO (rP c f es i)=some (.next (rP c f es (i+1)))):=by
  intro i hi;have e1:decide ((i:Int)<(es.length:Int))=true:=aJ (by omega)
  obtain ⟨p,e,a1,a2⟩:=GM fok (es[i]!).1;obtain ⟨q,g,b1,b2⟩:=GM fok (es[i]!).2;unfold fO rP jS;simp only [e1,cond_true,aE es i hi,aB,a1,b1,aU (show i<1000000000 by omega)]
  by_cases h1:oF f (es[i]!).1
  · rw [bO (a2.2 h1)]
    by_cases h2:oF f (es[i]!).2
    · rw [bO (b2.2 h2)]
      exact ⟨fun h=>absurd ⟨h1,h2⟩ h,fun _=>rfl⟩
    · rw [dH (fun h=>h2 (b2.1 h))]
      exact ⟨fun _=>rfl,fun h=>absurd h.2 h2⟩
  · rw [dH (fun h=>h1 (a2.1 h))]
    exact ⟨fun _=>rfl,fun h=>absurd h.1 h1⟩
 have start:qN c ⟨f⟩ es=aH eQ (rP c f es 0):=by
  unfold qN;simp only [hc,aB,show ((0:Int) !=0)=false from rfl,cond_false,hf];rfl
 rw [start]
 by_cases h1: ∀x∈es,fV x
 case neg=>
  have er:oU f es=8:=by unfold oU;rw [if_pos h1]
  rw [er,if_neg (by omega)]
  have:=dJ (body:=eQ) (fun i=>rP c f es i) es.length (fun i=> ¬fV es[i]!) (r:=(eK,8)) (e:=r)
  have k3':=k3;rw [E1 (P:=fV)] at h1;obtain ⟨i,h⟩:=Classical.not_forall.1 h1;obtain ⟨hi,hx⟩:=Classical.not_imp.1 h;obtain ⟨m,m1,m2,m3⟩:=JB (c:=fun i=> ¬fV es[i]!) ⟨i,hi,hx⟩
  have go: ∀j,j<es.length->(¬fV es[j]!->eQ (rP c f es j)=some (.done (eK,8)))/\(fV es[j]!->eQ (rP c f es j)=some (.next (rP c f es (j+1)))):=by
   intro j hj;have e1:decide ((j:Int)<(es.length:Int))=true:=aJ (by omega)
   unfold eQ rP fV;simp only [e1,cond_true,aE es j hj,aB,aU (show j<1000000000 by omega)]
   generalize es[j]! =x
   by_cases a1:x.1<0
   · rw [aJ a1];exact ⟨fun _=>rfl,fun h=>by omega⟩
   rw [dec_f a1]
   by_cases a2:x.2<0
   · rw [aJ a2];exact ⟨fun _=>rfl,fun h=>by omega⟩
   rw [dec_f a2]
   by_cases a3:65535<x.1
   · rw [aJ a3];exact ⟨fun _=>rfl,fun h=>by omega⟩
   rw [dec_f a3]
   by_cases a4:65535<x.2
   · rw [aJ a4];exact ⟨fun _=>rfl,fun h=>by omega⟩
   rw [dec_f a4]
   by_cases a5:x.1=x.2
   · rw [dY a5];exact ⟨fun _=>rfl,fun h=>absurd a5 h.2.2.2.2⟩
   · rw [eD a5];exact ⟨fun h=>absurd ⟨by omega,by omega,by omega,by omega,a5⟩ h,fun _=>rfl⟩
  rw [cP (body:=eQ) (fun i=>rP c f es i) m fun j hj=>(go j (by omega)).2 (Classical.not_not.1 (m3 j hj))]
  exact aL ((go m m1).1 m2)
 have h1':=(E1 (P:=fV)).1 h1
 by_cases h2:es.Nodup
 case neg=>
  have er:oU f es=14:=by unfold oU;rw [if_neg (Classical.not_not.2 h1),if_pos h2]
  rw [er,if_neg (by omega)]
  have h2':=h2;rw [PP] at h2';obtain ⟨i,h⟩:=Classical.not_forall.1 h2';obtain ⟨hi,hx⟩:=Classical.not_imp.1 h;obtain ⟨m,m1,m2,m3⟩:=JB (c:=fun i=> ¬es[i]!∉es.take i) ⟨i,hi,hx⟩
  have go: ∀j,j<es.length->(es[j]!∈es.take j->eO (rP c f es j)=some (.done (.done (eK,14))))/\(es[j]!∉es.take j->eO (rP c f es j)=some (.next (rP c f es (j+1)))):=by
   intro j hj;have e1:decide ((j:Int)<(es.length:Int))=true:=aJ (by omega)
   unfold eO rP;simp only [e1,cond_true,aE es j hj,lS es j (by omega),aB,pH _ _ (show (es.take j).length<=1000000 by rw [List.length_take];omega),aU (show j<1000000000 by omega)]
   by_cases h:es[j]!∈es.take j
   · rw [aJ h];exact ⟨fun _=>rfl,fun k=>absurd h k⟩
   · rw [dec_f h];exact ⟨fun k=>absurd k h,fun _=>rfl⟩
  have l2:aH eO (rP c f es 0)=some (.done (eK,14)):=by
   rw [cP (body:=eO) (fun i=>rP c f es i) m fun j hj=>(go j (by omega)).2 (Classical.not_not.1 (m3 j hj))]
   exact aL ((go m m1).1 (Classical.not_not.1 m2))
  rw [k3 _ l2,if_pos h1']
 have h2':=PP.1 h2
 by_cases h3: ∀x∈es,jS f x
 case neg=>
  have er:oU f es=6:=by unfold oU;rw [if_neg (Classical.not_not.2 h1),if_neg (Classical.not_not.2 h2),if_pos h3]
  rw [er,if_neg (by omega)]
  have h3':=h3;rw [E1 (P:=jS f)] at h3';obtain ⟨i,h⟩:=Classical.not_forall.1 h3';obtain ⟨hi,hx⟩:=Classical.not_imp.1 h;obtain ⟨m,m1,m2,m3⟩:=JB (c:=fun i=> ¬jS f es[i]!) ⟨i,hi,hx⟩
  have l1:aH fO (rP c f es 0)=some (.done (.done (eK,6))):=by
   rw [cP (body:=fO) (fun i=>rP c f es i) m fun j hj=>(step1 j (by omega)).2 (Classical.not_not.1 (m3 j hj))]
   exact aL ((step1 m m1).1 m2)
  rw [k3 _ (k2 _ l1),if_pos h1',if_pos h2']
 have h3':=(E1 (P:=jS f)).1 h3;have er:oU f es=0:=by unfold oU;rw [if_neg (Classical.not_not.2 h1),if_neg (Classical.not_not.2 h2),if_neg (Classical.not_not.2 h3)]
 rw [er,if_pos rfl];have l1:aH fO (rP c f es 0)=some (.done (.done r)):=by
  rw [cP (body:=fO) (fun i=>rP c f es i) es.length fun j hj=>(step1 j hj).2 (h3' j hj)]
  refine aL ?_;unfold fO rP;simp only [el,cond_false,tw,aB,hr er]
 rw [k3 _ (k2 _ l1),if_pos h1',if_pos h2']
theorem tk {l:List Int} {m:Nat} {x:Int} (h:l.length=m):(l++[x]).take m=l:=by rw [<- h,List.take_left]
section
variable {k : GF} {f : List Pt} {m n0 : Nat} {x : Int}
end
section
variable {k : GF} {P : Pt} {f : List Pt} {m : Nat}
end
end Go.Proofs.YtlnclppkepgdmaaGreat
namespace Go.Proofs.YtlnclppkepgdmaaGreat
abbrev Nd:=Int×Int×Int
structure YN (P:Nat->Nat->Prop) (a b i:Nat):Prop where
 lo:a<=i
 hi:i<b
 top: ∀j,a<=j->j<b->j≠i->P i j
inductive sG (P:Nat->Nat->Prop) (N:List Nd):Nat->Nat->Int->Prop
 |nil {a b:Nat} (h:b<=a):sG P N a b (-1)
 |node {a b i:Nat} (h:YN P a b i) (l:sG P N a i (N[i]!).2.1) (r:sG P N (i+1) b (N[i]!).2.2):sG P N a b (i:Int)
structure aMQ (P:Nat->Nat->Prop) (n:Nat):Prop where
 tr: ∀i j k,i<n->j<n->k<n->P i j->P j k->P i k
 asy: ∀i j,i<n->j<n->P i j-> ¬P j i
 tot: ∀i j,i<n->j<n->i≠j-> ¬P i j->P j i
theorem YN.one {P:Nat->Nat->Prop} {n a b i j:Nat} (o:aMQ P n) (hb:b<=n) (h:YN P a b i) (k:YN P a b j):i=j:=by
 refine Classical.byContradiction fun hne=>?_
 have:=h.hi;have:=k.hi
 exact o.asy i j (by omega) (by omega) (h.top j k.lo k.hi (fun e=>hne e.symm)) (k.top i h.lo h.hi hne)
theorem sG.link {P:Nat->Nat->Prop} {N:List Nd} {a b:Nat} {r:Int} (h:sG P N a b r):(b<=a/\r= -1)\/(∃i:Nat,r=(i:Int)/\a<=i/\i<b):=by
 cases h with
 |nil h=>exact .inl ⟨h,rfl⟩
 |node h l r=>exact .inr ⟨_,rfl,h.lo,h.hi⟩
theorem sG.unique {P:Nat->Nat->Prop} {n:Nat} (o:aMQ P n) {N N':List Nd} {a b:Nat} {r:Int} (h:sG P N a b r): ∀{r':Int},b<=n->sG P N' a b r'->r=r'/\ ∀k,a<=k->k<b->(N[k]!).2=(N'[k]!).2:=by
 induction h with
 |nil h=>
  intro r' hb h';cases h' with
  |nil _=>exact ⟨rfl,fun k h1 h2=>by omega⟩
  |node t _ _=>have:=t.lo;have:=t.hi;omega
 | @node a b i h l r ihl ihr=>
  intro r' hb h';have lo:=h.lo;have hi:=h.hi;cases h' with
  |nil q=>omega
  | @node _ _ j t l' r'=>
   have e:=h.one o hb t;subst e;obtain ⟨e1,f1⟩:=ihl (by omega) l'
   obtain ⟨e2,f2⟩:=ihr hb r';refine ⟨rfl,fun k h1 h2=>?_⟩
   rcases Nat.lt_trichotomy k i with q|q|q
   · exact f1 k h1 q
   · subst q;exact Prod.ext e1 e2
   · exact f2 k (by omega) h2
theorem sG.other {P Q:Nat->Nat->Prop} {n:Nat} (o:aMQ Q n) {N:List Nd} {a b:Nat} {r:Int} (h:sG P N a b r):b<=n->(∀k j:Nat,a<=k->k<b->a<=j->j<b->((N[k]!).2.1=(j:Int)\/(N[k]!).2.2=(j:Int))->Q k j)->sG Q N a b r:=by
 induction h with
 |nil h=>exact fun _ _=> .nil h
 | @node a b i h l r ihl ihr=>
  intro hb q;have lo:=h.lo;have hi:=h.hi;have tl:=ihl (by omega) fun k j h1 h2 h3 h4=>q k j h1 (by omega) h3 (by omega)
  have tr:=ihr hb fun k j h1 h2 h3 h4=>q k j (by omega) h2 (by omega) h4
  refine .node ⟨lo,hi,fun j h1 h2 hne=>?_⟩ tl tr
  rcases Nat.lt_or_ge j i with hj|hj
  · generalize hr:(N[i]!).2.1=s at tl
    cases tl with
    |nil q=>omega
    | @node _ _ m t _ _=>
     have t1:=t.lo;have t2:=t.hi;have qm:=q i m lo hi t1 (by omega) (.inl hr)
     by_cases e:j=m
     · rw [e];exact qm
     · exact o.tr i m j (by omega) (by omega) (by omega) qm (t.top j h1 hj e)
  · generalize hr:(N[i]!).2.2=s at tr
    cases tr with
    |nil q=>omega
    | @node _ _ m t _ _=>
     have t1:=t.lo;have t2:=t.hi;have qm:=q i m lo hi (by omega) t2 (.inr hr)
     by_cases e:j=m
     · rw [e];exact qm
     · exact o.tr i m j (by omega) (by omega) (by omega) qm (t.top j (by omega) h2 e)
theorem sG.kids {P:Nat->Nat->Prop} {N:List Nd} {a b:Nat} {r:Int} (h:sG P N a b r): ∀k,a<=k->k<b-> ∀c:Int,((N[k]!).2.1=c\/(N[k]!).2.2=c)->c= -1\/ ∃j:Nat,c=(j:Int)/\a<=j/\j<b/\j≠k/\P k j/\r≠c:=by
 induction h with
 |nil h=>intro k h1 h2;omega
 | @node a b i h l r ihl ihr=>
  have lo:=h.lo;have hi:=h.hi;intro k h1 h2 c hc;rcases Nat.lt_trichotomy k i with q|q|q
  · rcases ihl k h1 q c hc with e|⟨j,e,j1,j2,j3,j4,_⟩
    · exact .inl e
    · exact .inr ⟨j,e,j1,by omega,j3,j4,by rw [e];omega⟩
  · subst q
    rcases hc with hc|hc
    · rcases l.link with ⟨_,e⟩|⟨j,e,j1,j2⟩
      · exact .inl (hc▸e)
      · exact .inr ⟨j,hc▸e,j1,by omega,by omega,h.top j j1 (by omega) (by omega),by rw [<- hc,e];omega⟩
    · rcases r.link with ⟨_,e⟩|⟨j,e,j1,j2⟩
      · exact .inl (hc▸e)
      · exact .inr ⟨j,hc▸e,by omega,j2,by omega,h.top j (by omega) j2 (by omega),by rw [<- hc,e];omega⟩
  · rcases ihr k (by omega) h2 c hc with e|⟨j,e,j1,j2,j3,j4,_⟩
    · exact .inl e
    · exact .inr ⟨j,e,by omega,j2,j3,j4,by rw [e];omega⟩
theorem sG.up {P:Nat->Nat->Prop} {N:List Nd} {a b:Nat} {r:Int} (h:sG P N a b r): ∀k:Nat,a<=k->k<b->(k:Int)≠r-> ∃j,a<=j/\j<b/\((N[j]!).2.1=(k:Int)\/(N[j]!).2.2=(k:Int))/\ ∀m,a<=m->m<b->((N[m]!).2.1=(k:Int)\/(N[m]!).2.2=(k:Int))->m=j:=by
 induction h with
 |nil h=>intro k h1 h2;omega
 | @node a b i h l r ihl ihr=>
  have lo:=h.lo;have hi:=h.hi;have lk:=l.kids;have rk:=r.kids;intro k h1 h2 hne;have hki:k≠i:=fun e=>hne (by rw [e])
  rcases Nat.lt_or_ge k i with q|q
  · by_cases er:(k:Int)=(N[i]!).2.1
    · refine ⟨i,lo,hi,.inl er.symm,fun m m1 m2 hm=>?_⟩
      rcases Nat.lt_trichotomy m i with w|w|w
      · rcases lk m m1 w _ hm with e|⟨j,e,_,_,_,_,hr⟩
        · omega
        · exact absurd er.symm hr
      · exact w
      · rcases rk m (by omega) m2 _ hm with e|⟨j,e,j1,_⟩<;>omega
    · obtain ⟨j,j1,j2,j3,j4⟩:=ihl k h1 q er
      refine ⟨j,j1,by omega,j3,fun m m1 m2 hm=>?_⟩
      rcases Nat.lt_trichotomy m i with w|w|w
      · exact j4 m m1 w hm
      · subst w
        rcases hm with hm|hm
        · exact absurd hm.symm er
        · rcases r.link with ⟨_,e⟩|⟨p,e,p1,p2⟩<;>omega
      · rcases rk m (by omega) m2 _ hm with e|⟨p,e,p1,_⟩<;>omega
  · by_cases er:(k:Int)=(N[i]!).2.2
    · refine ⟨i,lo,hi,.inr er.symm,fun m m1 m2 hm=>?_⟩
      rcases Nat.lt_trichotomy m i with w|w|w
      · rcases lk m m1 w _ hm with e|⟨j,e,_,j2,_⟩<;>omega
      · exact w
      · rcases rk m (by omega) m2 _ hm with e|⟨j,e,_,_,_,_,hr⟩
        · omega
        · exact absurd er.symm hr
    · obtain ⟨j,j1,j2,j3,j4⟩:=ihr k (by omega) h2 er
      refine ⟨j,by omega,j2,j3,fun m m1 m2 hm=>?_⟩
      rcases Nat.lt_trichotomy m i with w|w|w
      · rcases lk m m1 w _ hm with e|⟨p,e,_,p2,_⟩<;>omega
      · subst w
        rcases hm with hm|hm
        · rcases l.link with ⟨_,e⟩|⟨p,e,p1,p2⟩<;>omega
        · exact absurd hm.symm er
      · exact j4 m (by omega) m2 hm
inductive PW (P:Nat->Nat->Prop) (N:List Nd):Nat->Nat->Int->List Nat->Prop
 |nil {a b:Nat} (h:b<=a):PW P N a b (-1) []
 |cons {a b k:Nat} {es:List Nat} (h:YN P a b k) (l:sG P N a k (N[k]!).2.1) (r:PW P N (k+1) b (N[k]!).2.2 es):PW P N a b (k:Int) (k::es)
theorem PW.tree {P:Nat->Nat->Prop} {N:List Nd} {a b:Nat} {r:Int} {es:List Nat} (h:PW P N a b r es):sG P N a b r:=by
 induction h with
 |nil h=>exact .nil h
 |cons h l r ih=>exact .node h l ih
theorem PW.mem {P:Nat->Nat->Prop} {N:List Nd} {a b:Nat} {r:Int} {es:List Nat} (h:PW P N a b r es): ∀e∈es,a<=e/\e<b:=by
 induction h with
 |nil h=>intro e he;cases he
 |cons h l r ih=>
  intro e he;have lo:=h.lo;have hi:=h.hi;rcases List.mem_cons.1 he with rfl|he
  · exact ⟨lo,hi⟩
  · have:=ih e he;omega
end Go.Proofs.YtlnclppkepgdmaaGreat
namespace Go.Proofs.YtlnclppkepgdmaaGreat
open Go.Vm Classical
def ahP (f:List Pt) (t:Int×Int) (i j:Nat):Prop:=eX f[i]! f[j]! t
theorem L6 {p q:Pt} {t:Int×Int} (h:eX p q t): ¬eX q p t:=by
 unfold eX at*;rw [UV] at*;generalize p.2.1*t.2+p.2.2*t.1=a at*;generalize q.2.1*t.2+q.2.2*t.1=b at*;omega
theorem aMR {f:List Pt} (h:hU f) (t:Int×Int):aMQ (ahP f t) f.length where
 tr:=fun _ _ _ _ _ _ h1 h2=>YM h1 h2
 asy:=fun _ _ _ _ h=>L6 h
 tot:=fun _ _ hi hj hne hn=>zU t (fun e=>hne (HJ h hi hj e)) hn
structure E4 (f:List Pt) (t:Int×Int) (N:List Nd) (r:Int):Prop where
 len:N.length=f.length
 ids: ∀k,k<f.length->(N[k]!).1=(f[k]!).1
 tree:sG (ahP f t) N 0 f.length r
theorem E4.same {f:List Pt} (h:hU f) {t:Int×Int} {N N':List Nd} {r r':Int} (a:E4 f t N r) (b:E4 f t N' r'):N=N'/\r=r':=by
 obtain ⟨e1,e2⟩:=a.tree.unique (aMR h t) (Nat.le_refl _) b.tree;refine ⟨vN (by rw [a.len,b.len]) fun k hk=>?_,e1⟩
 have hk:k<f.length:=by rw [<- a.len];exact hk
 exact Prod.ext (by rw [a.ids k hk,b.ids k hk]) (e2 k (Nat.zero_le _) hk)
def Below (N:List Nd) (k j:Nat):Prop:=(N[j]!).2.1=(k:Int)\/(N[j]!).2.2=(k:Int)
noncomputable def MG (N:List Nd) (k:Nat):Nat:=if h: ∃j,j<N.length/\Below N k j then h.choose else N.length
noncomputable def aVW (N:List Nd) (k:Nat):List (Int×Int):=if MG N k<N.length then [((N[k]!).1,(N[MG N k]!).1)] else []
noncomputable def aFx (N:List Nd):Nat->List (Int×Int)
 |0=>[]
 |k+1=>aFx N k++aVW N k
section
variable {f : List Pt} {t : Int × Int} {N : List Nd} {r : Int}
theorem E4.par (h:E4 f t N r) {k:Nat} (hk:k<f.length):((k:Int)=r->MG N k=N.length)/\((k:Int)≠r->MG N k<N.length/\Below N k (MG N k)/\MG N k≠k/\ahP f t (MG N k) k)/\ ∀m,m<N.length->Below N k m->m=MG N k:=by
 have ln:=h.len
 by_cases hr:(k:Int)=r
 · have none: ¬ ∃j,j<N.length/\Below N k j:=by
    rintro ⟨j,hj,hb⟩;rcases h.tree.kids j (Nat.zero_le _) (by omega) (k:Int) hb with e|⟨_,_,_,_,_,_,e⟩
    · omega
    · exact e hr.symm
   have e:MG N k=N.length:=by unfold MG;rw [dif_neg none]
   exact ⟨fun _=>e,fun q=>absurd hr q,fun m hm hb=>absurd ⟨m,hm,hb⟩ none⟩
 · obtain ⟨j,_,j2,j3,j4⟩:=h.tree.up k (Nat.zero_le _) hk hr
   have ex: ∃j,j<N.length/\Below N k j:=⟨j,by omega,j3⟩
   have e:MG N k=j:=by
    unfold MG;rw [dif_pos ex]
    have:=ex.choose_spec
    exact j4 _ (Nat.zero_le _) (by omega) this.2
   refine ⟨fun q=>absurd q hr,fun _=>?_,fun m hm hb=>by rw [e];exact j4 m (Nat.zero_le _) (by omega) hb⟩
   rw [e];refine ⟨by omega,j3,?_,?_⟩
   · rcases h.tree.kids j (Nat.zero_le _) j2 (k:Int) j3 with q|⟨i,q,_,_,q2,_⟩
     · omega
     · intro w;omega
   · rcases h.tree.kids j (Nat.zero_le _) j2 (k:Int) j3 with q|⟨i,q,_,_,_,q2,_⟩
     · omega
     · have:i=k:=by omega
       rw [<- this];exact q2
end
def o1 (f:List Pt) (t:Int×Int) (e c:Nat) (i:Nat) (root:Int) (N:List Nd) (E:List Int) (left:Int):=
 (e,c,(i:Int),f,(f.length:Int),(i:Int),f,t.1,t.2,(0:Int),root,N,E,(f[i]!).1,(f[i]!).2.1,(f[i]!).2.2,(f[i]!).1,left,(-1:Int))
section
variable {f : List Pt} {t : Int × Int} {N : List Nd} {r : Int}
theorem E4.link (h:E4 f t N r) {j:Nat} (hj:j<f.length) {c:Int} (hc:(N[j]!).2.1=c\/(N[j]!).2.2=c):c= -1\/(0<=c/\c<N.length):=by
 have ln:=h.len;rcases h.tree.kids j (Nat.zero_le _) hj c hc with e|⟨k,e,_,k2,_⟩
 · exact .inl e
 · exact .inr ⟨by omega,by omega⟩
end
theorem aMS (c:aO) (es:List (Int×Int)) (h1:es.length<=1000000) (_:c.certs.list.length<=1000000):
 ES c es=some (decide (es.length=c.certs.list.length/\ ∀i,i<c.certs.list.length->(c.certs.list[i]!).2∈es)):=by
 unfold ES gW iU;simp only [aF]
 by_cases h0:es.length=c.certs.list.length
 case neg=>rw [eD (by omega),cond_false,dec_f (fun q=>h0 q.1)]
 rw [dY (by omega),cond_true]
 have key:=mE (body:=bP) (fun i=>(c.certs.list,es,(c.certs.list.length:Int),(i:Int))) c.certs.list.length (fun i=>(c.certs.list[i]!).2∉es) (fun i=>(i:Int)) (e:= -1) (fun i hi=>by
  unfold bP GG;simp only [aJ (show (i:Int)<(c.certs.list.length:Int) by omega),cond_true,aE c.certs.list i hi,aB,pH es _ h1,aU (show i<1000000000 by omega)]
  refine ⟨fun q=>?_,fun q=>?_⟩
  · rw [dec_f q];rfl
  · rw [aJ (Classical.not_not.1 q)];rfl) (by
  unfold bP;simp only [dec_f (show¬(c.certs.list.length:Int)<(c.certs.list.length:Int) by omega),cond_false])
 by_cases hx: ∀i,i<c.certs.list.length->(c.certs.list[i]!).2∈es
 · rw [show aH bP (c.certs.list,es,(c.certs.list.length:Int),0)=_ from key.2 (fun i hi=>Classical.not_not.2 (hx i hi)),aB,aB,dec_f (by omega),aJ ⟨h0,hx⟩]
   rfl
 · obtain ⟨i,hi⟩:=Classical.not_forall.1 hx
   obtain ⟨hi,hn⟩:=Classical.not_imp.1 hi;obtain ⟨m,m1,m2,m3⟩:=JB (c:=fun i=>(c.certs.list[i]!).2∉es) ⟨i,hi,hn⟩
   rw [show aH bP (c.certs.list,es,(c.certs.list.length:Int),0)=_ from key.1 m m1 m2 m3,aB,aB,aJ (by omega),dec_f (fun w=>hx w.2)]
   rfl
structure aFy (k:KU):Prop where
 clk:aV k.clock
 tree:E4 k.clock.field.points k.clock.now k.tree.nodes k.tree.root
 cert:(k.clock.certs.list.map fun x=>x.2).Perm (aFx k.tree.nodes k.clock.field.points.length)
structure aTk (k:KU):Prop where
 c:PQ k.clock
 n:k.tree.nodes.length<=1000
theorem PX {α:Type} [BEq α] [LawfulBEq α]: ∀{a b:List α},a.Nodup->(∀x∈a,x∈b)->a.length<=b.length
 | [],_,_,_=>Nat.zero_le _
 |x::a,b,hd,h=>by
  rw [List.nodup_cons] at hd;have hx:=h x List.mem_cons_self
  have:=PX (a:=a) (b:=b.erase x) hd.2 (fun y hy=>by
   rw [List.mem_erase_of_ne (fun e=>hd.1 (by rw [<- e];exact hy))]
   exact h y (List.mem_cons_of_mem _ hy))
  rw [List.length_erase_of_mem hx] at this
  have:=List.length_pos_of_mem hx
  rw [List.length_cons];omega
theorem YO {α:Type} [BEq α] [LawfulBEq α] {a b:List α} (ha:a.Nodup) (hb:b.Nodup) (h1: ∀x∈a,x∈b) (h2: ∀x∈b,x∈a):a.Perm b:=yF ha h1 (PX hb h2)
structure aAK (R:KU) (F:List Pt) (t:Int×Int):Prop where
 ok:aFy R
 fld:R.clock.field.points=F
 now:R.clock.now=t
theorem aAK.short {R:KU} {F:List Pt} {t:Int×Int} (h:aAK R F t):aTk R:=by
 have:=h.ok.clk.fld.1
 refine ⟨h.ok.clk.short,?_⟩
 have:=h.ok.tree.len
 omega
theorem aAK.nums {R:KU} {F:List Pt} {t:Int×Int} (h:aAK R F t):vP R.clock:=h.ok.clk.fit
theorem aAK.same {R S:KU} {F:List Pt} {t:Int×Int} (h:aAK R F t) (k:aAK S F t):R.tree=S.tree:=by
 have a:=h.ok.tree;rw [h.fld,h.now] at a;have b:=k.ok.tree;rw [k.fld,k.now] at b;obtain ⟨e1,e2⟩:=a.same (by rw [<- h.fld];exact h.ok.clk.fld.2.2) b
 obtain ⟨_,⟨r,N⟩⟩:=R;obtain ⟨_,⟨r',N'⟩⟩:=S;simp only at e1 e2;subst e1 e2;rfl
theorem aFz {f:List Pt} (hs:hU f) {q:Pt} (h:q∈f):gN f q.1=q:=by
 obtain ⟨i,hi,rfl⟩:=aW.1 h;exact JL hs hi rfl
theorem aB8 {f:List Pt} (hs:hU f) {x:Int} (h:oF f x):gN f x∈f/\(gN f x).1=x:=by
 obtain ⟨i,hi,rfl⟩:=h;rw [aFz hs (bL hi)];exact ⟨bL hi,rfl⟩
abbrev aFA (f:List Pt) (t:Int×Int) (a b:Int):Prop:=eX (gN f a) (gN f b) t
theorem SQ {f:List Pt} (hs:hU f) {t:Int×Int} {l:List Int} (hp: ∀x∈l,oF f x) (nd:l.Nodup):(∀e∈E2 l,eX (gN f e.2) (gN f e.1) t)↔Hp (aFA f t) l:=by
 constructor
 · intro h j h1 h2 c
   have hm:(l[j]!,l[par j]!)∈E2 l:=by
    refine aW.2 ⟨j-1,by rw [HN];omega,?_⟩
    rw [L5 l (show j-1<l.length-1 by omega),show j-1+1=j by omega]
   exact L6 c (h _ hm)
 · intro h e he
   obtain ⟨i,hi,rfl⟩:=aW.1 he;rw [HN] at hi;rw [L5 l hi]
   have:=h (i+1) (by omega) (by omega)
   have pe:par (i+1)=i / 2:=by simp only [par];omega
   rw [pe] at this;refine zU t ?_ this;rw [(aB8 hs (hp _ (bL (by omega)))).2,(aB8 hs (hp _ (bL (by omega)))).2]
   exact fun e=>iN.1 nd (i / 2) (i+1) (by omega) (by omega) e.symm
structure aXD (R:GF) (F:List Pt) (t:Int×Int):Prop where
 ok:yG R
 fld:R.clock.field.points=F
 now:R.clock.now=t
theorem yG.len {k:GF} (h:yG k):k.heap.length=k.clock.field.points.length:=by rw [<- h.perm.length_eq];exact List.length_map ..
theorem yG.bd {k:GF} (h:yG k):k.heap.length<=64:=by have:=h.len;have:=h.clk.fld.1;omega
theorem yG.has {k:GF} (h:yG k): ∀x∈k.heap,oF k.clock.field.points x:=fun _ hx=>MV.1 (h.perm.mem_iff.2 hx)
theorem yG.nd {k:GF} (h:yG k):k.heap.Nodup:=h.perm.nodup_iff.1 (SJ h.clk.fld.2.2)
theorem yG.hp {k:GF} (h:yG k):Hp (aFA k.clock.field.points k.clock.now) k.heap:=(SQ h.clk.fld.2.2 h.has h.nd).1 h.lead
theorem PO.heap {c:aO} {f:List Pt} (fok:cZ f) {l:List Int} (pm:(qV f).Perm l) {R:GF} (e:R.heap=l) (q:PO c f (E2 l) R.clock) (h:Hp (aFA f c.now) l):aXD R f c.now:=by
 have nd:=pm.nodup_iff.1 (SJ fok.2.2);refine ⟨⟨q.ok,by rw [q.fld,e];exact pm,?_,?_⟩,q.fld,q.now⟩
 · rw [e]
   exact YO (E3 q.ok.crt) (YJ nd) (fun x hx=>by obtain ⟨y,hy,rfl⟩:=List.mem_map.1 hx;exact q.sub y hy) (fun x hx=>yH.1 (q.has x hx))
 · rw [e,q.fld,q.now]
   exact (SQ fok.2.2 (fun x hx=>MV.1 (pm.mem_iff.2 hx)) nd).2 h
theorem PY {α:Type} (z:α): ∀(l:List (Int×α)) (k:Int) (a:α) (j:Int),uW z (sM l k a) j=if j=k then a else uW z l j
 | [],k,a,j=>by
  simp only [sM,uW]
  by_cases h:j=k
  · rw [if_pos h,dY h];rfl
  · rw [if_neg h,eD h];rfl
 |p::l,k,a,j=>by
  simp only [sM]
  by_cases h:k=p.1
  · rw [dY h,cond_true]
    simp only [uW]
    by_cases c:j=k
    · rw [if_pos c,dY c];rfl
    · rw [if_neg c,eD c,cond_false,eD (by rw [<- h];exact c),cond_false]
  · rw [eD h,cond_false]
    simp only [uW];rw [PY z l k a j]
    by_cases c:j=p.1
    · rw [dY c,cond_true,cond_true,if_neg (by rw [c];exact fun e=>h e.symm)]
    · rw [eD c,cond_false,cond_false]
section
variable {f : List Pt} {t : Int × Int}
end
def UW (f:List Pt) (x:Int):Prop:=x= -1\/(0<=x/\oF f x)
theorem UW.has {f:List Pt} {x:Int} (h:UW f x) (h0:0<=x):oF f x:=by rcases h with h|h;omega;exact h.2
theorem qX {p w:List Int} {i:Nat} (hi:i<w.length+p.length) (hb:w.length+p.length<=1000):jP ⟨p,w⟩ (i:Int)=some (bR p w i):=by
 unfold jP bR;simp only [aF]
 by_cases h:i<w.length
 · rw [aJ (by omega),cond_true,aE w i h,aB,if_pos h]
 · rw [dec_f (by omega),cond_false,qS ⟨by omega,by omega⟩,show (i:Int) - (w.length:Int)=((i-w.length:Nat):Int) by omega,aE p _ (by omega),aB,if_neg h]
theorem pS {p w:List Int} {i:Nat} (hi:i<w.length+p.length) (hb:w.length+p.length<=1000):iX ⟨p,w⟩ (i:Int)=some (bR p w i):=by
 unfold iX bR;have e:aA .i64 ((i:Int) - (w.length:Int))=(i:Int) - (w.length:Int):=qS ⟨by omega,by omega⟩
 simp only [aF,e]
 by_cases h:i<w.length
 · rw [dec_f (by omega),cond_false,aE w i h,aB,if_pos h]
 · rw [aJ (by omega),cond_true,show (i:Int) - (w.length:Int)=((i-w.length:Nat):Int) by omega,aE p _ (by omega),aB,if_neg h]
theorem sH {i:Nat} (h:i<1000) (k:Nat) (hk:k<=2):aA .i64 ((aA .i64 (2*(i:Int)))+(k:Int))=((2*i+k:Nat):Int):=by
 rw [qS (n:=2*(i:Int)) ⟨by omega,by omega⟩,qS ⟨by omega,by omega⟩];omega
theorem JR {f:List Pt} (fok:cZ f) {t:Int×Int} (r64:oY t) {x y:Int} (hx:UW f x) (hy:UW f y):wY ⟨f⟩ t x y=some (F0 f t x y):=by
 unfold wY F0
 by_cases h1:x<0
 · rw [aJ h1,cond_true,if_pos h1]
 rw [dec_f h1,cond_false,if_neg h1]
 by_cases h2:y<0
 · rw [aJ h2,cond_true,if_pos h2]
 rw [dec_f h2,cond_false,if_neg h2];have p1:=hx.has (by omega)
 have p2:=hy.has (by omega)
 obtain ⟨j,j1,j2,j3⟩:=CZ fok p1;obtain ⟨k,k1,k2,k3⟩:=CZ fok p2;simp only [j2,k2,aB,aE f j j1,aE f k k1,j3,k3,OX (dN fok p1).1 (dN fok p2).1 r64]
 by_cases h:eX (gN f x) (gN f y) t
 · rw [aJ h,cond_true,if_pos h]
 · rw [dec_f h,cond_false,if_neg h]
theorem PZ:dA=aR:=rfl
theorem tL {f:List Pt} (fok:cZ f) {x:Int} (h:oF f x): ∃k,k<f.length/\kK ⟨f⟩ x=some ((k:Int),true)/\f[k]! =gN f x:=by
 have h1:=fok.1;have bs:=FW f x (by omega) (fun i j=>oR fok.2.2)
 obtain ⟨k,hk,he⟩:=h;refine ⟨k,hk,?_,(JL fok.2.2 hk he).symm⟩;unfold kK;rw [PZ,bs.1 k hk he];rfl
theorem K9 {f:List Pt} (fok:cZ f) {x:Int} (h: ¬oF f x): ∃m:Nat,kK ⟨f⟩ x=some ((m:Int),false):=by
 have h1:=fok.1;have bs:=FW f x (by omega) (fun i j=>oR fok.2.2)
 obtain ⟨m,_,_,_,e⟩:=bs.2 (fun k hk he=>h ⟨k,hk,he⟩)
 refine ⟨m,?_⟩;unfold kK;rw [PZ,e];rfl
theorem P0 {f:List Pt} (fok:cZ f) {t:Int×Int} (r:bQ t) (r64:oY t) {x y:Int} (hx:UW f x) (hy:UW f y) (hne:0<=x->x≠y):qK ⟨f⟩ t x y=some (F0 f t x y):=by
 unfold qK F0
 by_cases h1:x<0
 · rw [aJ (by split<;>omega),cond_true,if_pos h1]
   have:x= -1:=by rcases hx with h|h;exact h;omega
   have: -1<=y:=by rcases hy with h|h<;>omega
   congr 1
   split<;>omega
 rw [if_neg h1]
 by_cases h2:y<0
 · rw [aJ (by split<;>omega),cond_true,if_pos h2]
   congr 1
   split<;>omega
 rw [dec_f (by split<;>omega),cond_false,if_neg h2]
 have p1:=hx.has (by omega)
 have p2:=hy.has (by omega)
 obtain ⟨j,j1,j2,j3⟩:=tL fok p1;obtain ⟨k,k1,k2,k3⟩:=tL fok p2;obtain ⟨a1,a2⟩:=dN fok p1;obtain ⟨b1,b2⟩:=dN fok p2;simp only [j2,k2,aB,aE f j j1,aE f k k1,j3,k3];rcases MF a1 b1 r64 r with h|⟨h,_⟩
 · rw [h,aB]
   by_cases h:eX (gN f x) (gN f y) t
   · rw [if_pos h];dsimp only;rw [aJ h,cond_true]
   · rw [if_neg h];dsimp only;rw [dec_f h,cond_false]
 · rw [a2,b2] at h;exact absurd h (hne (by omega))
def sN (B:List Int) (i:Nat):List Int:=List.replicate i 0++B.drop i
theorem tM {B:List Int} {i:Nat} (h:i<=B.length):(sN B i).length=B.length:=by unfold sN;rw [List.length_append,List.length_replicate,List.length_drop];omega
theorem FY {B:List Int} {i k:Nat} (h:i<=k) (hi:i<=B.length):(sN B i)[k]! =B[k]!:=by
 unfold sN;rw [jQ (by rw [List.length_replicate];exact h),tH,List.length_replicate]
 congr 1;omega
theorem C4 {p B:List Int} {i k:Nat} (h:i<=k) (hi:i<=B.length):bR p (sN B i) k=bR p B k:=by
 unfold bR;rw [tM hi];split
 · exact FY h hi
 · rfl
theorem SS {B:List Int} {i:Nat} (h:i<B.length):(sN B (i+1)).set i B[i]! =sN B i:=by
 refine vN (by rw [List.length_set,tM (by omega),tM (by omega)]) fun k hk=>?_
 rw [List.length_set,tM (by omega)] at hk
 rw [bE]
 by_cases e:k=i
 · rw [if_pos ⟨e,by rw [tM (by omega)];omega⟩,FY (by omega) (by omega),e]
 · rw [if_neg (fun x=>e x.1)]
   by_cases h2:k<i
   · unfold sN
     rw [hG (by rw [List.length_replicate];omega),hG (by rw [List.length_replicate];omega)]
     rw [getElem!_pos _ k (by rw [List.length_replicate];omega),getElem!_pos _ k (by rw [List.length_replicate];omega),List.getElem_replicate,List.getElem_replicate]
   · rw [FY (by omega) (by omega),FY (by omega) (by omega)]
section
variable {f : List Pt} (fok : cZ f) {t : Int × Int} (r : bQ t) (r64 : oY t) {p : List Int} (h1 : 1 <= p.length) (h64 : p.length <= 64) (hk : ∀ x ∈ p, UW f x)
include fok r64 h1 h64 hk
theorem MY {i:Nat} (hi:i<(bG f t p).length+p.length):UW f (bR p (bG f t p) i):=by
 have _:=fok;have _:=r64;have _:=h64;exact hk _ (jT (eC (f:=f) (t:=t) h1).1 (eC h1).chosen hi)
theorem aAL {i:Nat} (hi:i<(bG f t p).length):
 oA ((i:Int),f,t.1,t.2,p,sN (bG f t p) (i+1))=some (.next ((i:Int) -1,f,t.1,t.2,p,sN (bG f t p) i)):=by
 have R:=eC (f:=f) (t:=t) (p:=p) h1;have bl:=R.1;have pl:=tM (B:=bG f t p) (i:=i+1) (by omega)
 unfold oA;simp only [aJ (show (0:Int)<=(i:Int) by omega),cond_true]
 have k1:=sH (i:=i) (by omega) 1 (by omega)
 have k2:=sH (i:=i) (by omega) 2 (by omega)
 rw [show aA .i64 (aA .i64 (2*(i:Int))+1)=((2*i+1:Nat):Int) from k1,show aA .i64 (aA .i64 (2*(i:Int))+2)=((2*i+2:Nat):Int) from k2];rw [qX (by omega) (by omega),aB,qX (by omega) (by omega),aB,C4 (by omega) (by omega),C4 (by omega) (by omega)]
 rw [show wY ⟨f⟩ (t.1,t.2) _ _=_ from JR fok r64 (MY fok r64 h1 h64 hk (by omega)) (MY fok r64 h1 h64 hk (by omega)),aB,aE _ i (by omega),aB,<- R.2 i hi]
 show some (bT.next (_,f,t.1,t.2,p,(sN (bG f t p) (i+1)).set i _))=_
 rw [SS hi,qS ⟨by omega,by omega⟩]
theorem P1:zL ⟨f⟩ t p=some ⟨p,bG f t p⟩:=by
 have R:=eC (f:=f) (t:=t) (p:=p) h1;have bl:=R.1;have w1:aA .i64 ((p.length:Int) -1)=((p.length-1:Nat):Int):=pQ (by omega) h1
 have loop: ∀n:Nat,n<=(bG f t p).length->aH oA ((n:Int) -1,f,t.1,t.2,p,sN (bG f t p) n)=some ⟨p,bG f t p⟩:=by
  intro n
  induction n with
  |zero=>
   intro _;refine aL ?_;unfold oA;rw [dec_f (by omega),cond_false]
   rfl
  |succ n ih=>
   intro hn;have st:=aAL fok r64 h1 h64 hk (t:=t) (i:=n) (by omega)
   rw [show ((n+1:Nat):Int) -1=(n:Int) by omega,aY st]
   exact ih (by omega)
 unfold zL;simp only [aX (show p.length<=1048576 by omega),aB,aF,w1,dY rfl,cond_true,O8 (0:Int) (show p.length-1<=1048576 by omega),List.length_replicate]
 have:=loop (bG f t p).length (Nat.le_refl _)
 unfold sN at this;rw [List.drop_length,List.append_nil,show (bG f t p).length=p.length-1 by omega] at this
 rw [qS (n:=((p.length-1:Nat):Int) -1) ⟨by omega,by omega⟩]
 exact this
include r
theorem UX (ho:HO p) {i:Nat} (hi:i<(bG f t p).length):
 jG ((i:Int),f,t.1,t.2,p,sN (bG f t p) (i+1))=some (.next ((i:Int) -1,f,t.1,t.2,p,sN (bG f t p) i)):=by
 have R:=eC (f:=f) (t:=t) (p:=p) h1;have bl:=R.1;have pl:=tM (B:=bG f t p) (i:=i+1) (by omega)
 unfold jG;simp only [aJ (show (0:Int)<=(i:Int) by omega),cond_true]
 have k1:=sH (i:=i) (by omega) 1 (by omega)
 have k2:=sH (i:=i) (by omega) 2 (by omega)
 rw [show aA .i64 (aA .i64 (2*(i:Int))+1)=((2*i+1:Nat):Int) from k1,show aA .i64 (aA .i64 (2*(i:Int))+2)=((2*i+2:Nat):Int) from k2];rw [pS (by omega) (by omega),aB,pS (by omega) (by omega),aB,C4 (by omega) (by omega),C4 (by omega) (by omega)]
 rw [show qK ⟨f⟩ (t.1,t.2) _ _=_ from P0 fok r r64 (MY fok r64 h1 h64 hk (by omega)) (MY fok r64 h1 h64 hk (by omega)) (fun h0=>MX R.1 R.chosen ho hi h0),aB,aE _ i (by omega),aB,<- R.2 i hi]
 show some (bT.next (_,f,t.1,t.2,p,(sN (bG f t p) (i+1)).set i _))=_
 rw [SS hi,qS ⟨by omega,by omega⟩]
theorem LA:tZ ⟨f⟩ p=some true:=by
 have _:=r;have _:=r64;have st:=cP (body:=oL) (fun i=>(p,(p.length:Int),(i:Int),f)) p.length (fun i hi=>by
  have id:=hk _ (bL hi);unfold oL;simp only [aJ (show (i:Int)<(p.length:Int) by omega),cond_true,aE p i hi,aB,aU (show i<1000000000 by omega)]
  by_cases h:oF f p[i]!
  · obtain ⟨k,_,e,_⟩:=tL fok h
    rw [e,aB,cond_true]
  · obtain ⟨m,e⟩:=K9 fok h
    rw [e,aB,cond_false];rcases id with id|id
    · rw [dY id];rfl
    · exact absurd id.2 h)
 unfold tZ;refine (show _=_ from st).trans (aL ?_);unfold oL;simp only [dec_f (show¬(p.length:Int)<(p.length:Int) by omega),cond_false]
 rfl
def P2 (p:List Int):Nat->List (Int×Bool)
 |0=>sM [] (-1) false
 |i+1=>sM (P2 p i) p[i]! (decide (0<=p[i]!))
omit fok r r64 h1 h64 hk in
theorem P3 (p:List Int): ∀(i:Nat) (k:Int),uW false (P2 p i) k=decide (0<=k/\ ∃j,j<i/\p[j]! =k)
 |0,k=>by
  unfold P2;rw [PY];rw [decide_eq_false (fun h=>by obtain ⟨_,j,hj,_⟩:=h;omega)]
  split<;>rfl
 |i+1,k=>by
  unfold P2;rw [PY,P3 p i k]
  by_cases e:k=p[i]!
  · rw [if_pos e]
    refine decide_eq_decide.2 ⟨fun h=>⟨by omega,i,by omega,e.symm⟩,fun h=>by omega⟩
  · rw [if_neg e]
    refine decide_eq_decide.2 ⟨fun ⟨h,j,hj,hx⟩=>⟨h,j,by omega,hx⟩,fun ⟨h,j,hj,hx⟩=>⟨h,j,?_,hx⟩⟩
    rcases Nat.lt_or_ge j i with h2|h2
    · exact h2
    · obtain rfl:j=i:=by omega
      exact absurd hx.symm e
omit fok r r64 h1 h64 hk in
theorem aDg {p:List Int} (ho:HO p) {i:Nat} (hi:i<p.length):uW false (P2 p i) p[i]! =false:=by
 rw [P3];refine decide_eq_false fun ⟨h0,j,hj,e⟩=>?_
 have:=ho j i hj hi e
 omega
theorem LB (ho:HO p):uA ⟨f⟩ t p=some (⟨p,bG f t p⟩,0):=by
 have R:=eC (f:=f) (t:=t) (p:=p) h1;have bl:=R.1;have w1:aA .i64 ((p.length:Int) -1)=((p.length-1:Nat):Int):=pQ (by omega) h1
 have loop: ∀n:Nat,n<=(bG f t p).length->aH jG ((n:Int) -1,f,t.1,t.2,p,sN (bG f t p) n)=some (.done (⟨p,bG f t p⟩,0)):=by
  intro n
  induction n with
  |zero=>
   intro _;refine aL ?_;unfold jG;rw [dec_f (by omega),cond_false]
   rfl
  |succ n ih=>
   intro hn;have st:=UX fok r r64 h1 h64 hk (t:=t) ho (i:=n) (by omega)
   rw [show ((n+1:Nat):Int) -1=(n:Int) by omega,aY st]
   exact ih (by omega)
 have fc:gL ⟨f⟩=some 0:=by rw [oD];exact congrArg some (oC.2 fok)
 unfold uA AF;simp only [fc,aB,bO (rfl:(0:Int)=0),cond_false,dT r64,if_pos r,aF,dec_f (show¬(p.length:Int)<1 by omega),dec_f (show¬(64:Int)<(p.length:Int) by omega),LA fok r r64 h1 h64 hk,Bool.not_true]
 have st:=cP (body:=oM 0 p) (fun i=>(p,(p.length:Int),(i:Int),f,t.1,t.2,P2 p i)) p.length (fun i hi=>by
  unfold oM;simp only [aJ (show (i:Int)<(p.length:Int) by omega),cond_true,aE p i hi,aB,aDg ho hi,Bool.not_false,Bool.not_true,cond_false,aU (show i<1000000000 by omega)]
  rfl)
 refine (show _=_ from st).trans (aL ?_);unfold oM;simp only [dec_f (show¬(p.length:Int)<(p.length:Int) by omega),cond_false,bO (rfl:(0:Int)=0),aX (show p.length<=1048576 by omega),aB,aF,w1,dY rfl,cond_true,O8 (0:Int) (show p.length-1<=1048576 by omega),List.length_replicate]
 have:=loop (bG f t p).length (Nat.le_refl _)
 unfold sN at this;rw [List.drop_length,List.append_nil,show (bG f t p).length=p.length-1 by omega] at this
 rw [qS (n:=((p.length-1:Nat):Int) -1) ⟨by omega,by omega⟩]
 exact this
end
end Go.Proofs.YtlnclppkepgdmaaGreat
