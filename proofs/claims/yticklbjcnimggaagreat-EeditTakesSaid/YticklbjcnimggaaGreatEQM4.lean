/- Plain laws (4). -/
import Derived.Test.YticklbjcnimggaaGreatEQM3
import Derived.Test.YticklbjcnimggaaGreatEQS2
namespace Go.Proofs.YticklbjcnimggaaGreat
open Go.Vm Classical
end Go.Proofs.YticklbjcnimggaaGreat
namespace Go.Proofs.YticklbjcnimggaaGreat
open Go.Vm Classical
end Go.Proofs.YticklbjcnimggaaGreat
namespace Go.Proofs.YticklbjcnimggaaGreat
open Go.Vm Classical
theorem PK (p q:Pt) (t:Int×Int):NA p q t=(p.2.1*t.2+p.2.2*t.1) - (q.2.1*t.2+q.2.2*t.1):=by
 rw [aHk,Int.sub_mul,Int.sub_mul];omega
theorem SQ {p q r:Pt} {t:Int×Int} (h1:hZ p q t) (h2:hZ q r t):hZ p r t:=by
 unfold hZ at*;rw [PK] at*;generalize p.2.1*t.2+p.2.2*t.1=a at*;generalize q.2.1*t.2+q.2.2*t.1=b at*;generalize r.2.1*t.2+r.2.2*t.1=c at*;omega
theorem SS {p q:Pt} (t:Int×Int) (h:p.1≠q.1) (hn: ¬hZ p q t):hZ q p t:=by
 unfold hZ at*;rw [PK] at*;generalize p.2.1*t.2+p.2.2*t.1=a at*;generalize q.2.1*t.2+q.2.2*t.1=b at*;omega
end Go.Proofs.YticklbjcnimggaaGreat
namespace Go.Proofs.YticklbjcnimggaaGreat
open Go.Vm Classical
theorem aBo {f:List Pt} (fok:cD f) (k:Nat):cD (f.eraseIdx k):=by
 refine ⟨Nat.le_trans (List.length_eraseIdx_le f k) fok.1,fun p hp=>fok.2.1 p (List.mem_of_mem_eraseIdx hp),?_⟩
 have h:=fok.2.2;intro i hi;have hl:=List.length_eraseIdx_le f k
 by_cases hk:k<f.length
 · have:=PH hk
   rw [AS,AS];split<;>split<;>exact nM h (by omega) (by omega)
 · rw [List.eraseIdx_of_length_le (by omega)] at hi ⊢
   exact h i hi
theorem ST {f:List Pt} (fok:cD f) {k:Nat} (hk:k<f.length):kZ ⟨f⟩ (f[k]!).1=some ((k:Int),0):=by
 have h1:=fok.1;have hc:eS ⟨f⟩=some 0:=by rw [iU];exact congrArg some (gN.2 fok)
 have bs:=DH f (f[k]!).1 (by omega) (fun i j=>nM fok.2.2)
 unfold kZ vH;rw [PF];simp only [hc,aD,show ((0:Int) !=0)=false from rfl,cond_false,bs.1 k hk rfl,Bool.not_true]
theorem ME {f:List Pt} (fok:cD f) {id:Int} (h: ¬xX f id):kZ ⟨f⟩ id=some (0,6):=by
 have h1:=fok.1;have hc:eS ⟨f⟩=some 0:=by rw [iU];exact congrArg some (gN.2 fok)
 have bs:=DH f id (by omega) (fun i j=>nM fok.2.2)
 obtain ⟨m,_,_,_,e⟩:=bs.2 (fun k hk he=>h ⟨k,hk,he⟩)
 unfold kZ vH;rw [PF];simp only [hc,aD,show ((0:Int) !=0)=false from rfl,cond_false,e,Bool.not_false,cond_true]
theorem PL:jN=dU:=rfl
theorem U3 {f:List Pt} (fok:cD f) {k:Nat} (hk:k<f.length):mP ⟨f⟩ (f[k]!).1=some (⟨f.eraseIdx k⟩,0)/\mV ⟨f⟩ (f[k]!).1=some (⟨f.eraseIdx k⟩,0):=by
 have f1:=fok.1;constructor
 · obtain ⟨L,d1,d2⟩:=CJ f k hk
   unfold mP;rw [ST fok hk,aD,cZ rfl,cond_false,aZ (show f.length<=1048576 by omega),aD,aY (show k<1000000000 by omega),PL,d1,aD]
   show some (Field.mk (L.take (f.length-1)),(0:Int))=_;rw [d2]
 · have hc:mT ⟨f⟩=some 0:=by rw [vU];exact congrArg some (gN.2 fok)
   unfold mV;rw [hc,aD,cZ rfl,cond_false,NC fok.2.2 (by omega) hk rfl,aD,aJ (by omega),cond_false]
   unfold xQ;generalize hn:(f[k]!).1=n;have key:=bT (body:=iG) (fun i=>(n,(i:Int),f,(f.take i).filter (fun x=>x.1 !=n))) f.length (fun i hi=>by
    have nx:(f.take (i+1)).filter (fun x=>x.1 !=n)=(f.take i).filter (fun x=>x.1 !=n)++(if (f[i]!).1 !=n then [f[i]!] else []):=by
     rw [gO hi,List.filter_append,List.filter_cons,List.filter_nil]
    have fl:((f.take i).filter (fun x=>x.1 !=n)).length<=200:=Nat.le_trans (List.length_filter_le _ _) (by rw [List.length_take];omega)
    unfold iG;simp only [aE,aM (show (i:Int)<(f.length:Int) by omega),cond_true,aC f i hi,aD,aY (show i<1000000000 by omega),nx]
    by_cases h:(f[i]!).1=n
    · rw [cZ h];simp
    · rw [eC h]
      simp only [cond_true,if_true,cV (show ((f.take i).filter (fun x=>x.1 !=n)).length+[f[i]!].length<=1048576 by simp only [List.length_cons,List.length_nil];omega),aD])
   have fin:aG iG (n,(f.length:Int),f,(f.take f.length).filter (fun x=>x.1 !=n))=some ⟨f.eraseIdx k⟩:=aI (by
    unfold iG;simp only [aE,aJ (show¬(f.length:Int)<(f.length:Int) by omega),cond_false,List.take_length]
    rw [GG hk (fun i j=>nM fok.2.2) hn])
   rw [show aG iG (n,0,f,[])=_ from key,fin,aD]
theorem PM {f:List Pt} (fok:cD f) {id:Int} (h: ¬xX f id):mP ⟨f⟩ id=some (⟨[]⟩,6)/\mV ⟨f⟩ id=some (⟨[]⟩,6):=by
 constructor
 · unfold mP
   rw [ME fok h];rfl
 · have hc:mT ⟨f⟩=some 0:=by rw [vU];exact congrArg some (gN.2 fok)
   unfold mV;rw [hc,aD,cZ rfl,cond_false,UX fok h];rfl
end Go.Proofs.YticklbjcnimggaaGreat
namespace Go.Proofs.YticklbjcnimggaaGreat
abbrev Nd:=Int×Int×Int
structure BA (P:Nat->Nat->Prop) (a b i:Nat):Prop where
 lo:a<=i
 hi:i<b
 top: ∀j,a<=j->j<b->j≠i->P i j
inductive lW (P:Nat->Nat->Prop) (N:List Nd):Nat->Nat->Int->Prop
 |nil {a b:Nat} (h:b<=a):lW P N a b (-1)
 |node {a b i:Nat} (h:BA P a b i) (l:lW P N a i (N[i]!).2.1) (r:lW P N (i+1) b (N[i]!).2.2):lW P N a b (i:Int)
structure aBp (P:Nat->Nat->Prop) (n:Nat):Prop where
 tr: ∀i j k,i<n->j<n->k<n->P i j->P j k->P i k
 asy: ∀i j,i<n->j<n->P i j-> ¬P j i
 tot: ∀i j,i<n->j<n->i≠j-> ¬P i j->P j i
theorem BA.one {P:Nat->Nat->Prop} {n a b i j:Nat} (o:aBp P n) (hb:b<=n) (h:BA P a b i) (k:BA P a b j):i=j:=by
 refine Classical.byContradiction fun hne=>?_
 have:=h.hi;have:=k.hi
 exact o.asy i j (by omega) (by omega) (h.top j k.lo k.hi (fun e=>hne e.symm)) (k.top i h.lo h.hi hne)
theorem lW.link {P:Nat->Nat->Prop} {N:List Nd} {a b:Nat} {r:Int} (h:lW P N a b r):(b<=a/\r= -1)\/(∃i:Nat,r=(i:Int)/\a<=i/\i<b):=by
 cases h with
 |nil h=>exact .inl ⟨h,rfl⟩
 |node h l r=>exact .inr ⟨_,rfl,h.lo,h.hi⟩
theorem lW.unique {P:Nat->Nat->Prop} {n:Nat} (o:aBp P n) {N N':List Nd} {a b:Nat} {r:Int} (h:lW P N a b r): ∀{r':Int},b<=n->lW P N' a b r'->r=r'/\ ∀k,a<=k->k<b->(N[k]!).2=(N'[k]!).2:=by
 induction h with
 |nil h=>
  intro r' hb h';cases h' with
  |nil _=>exact ⟨rfl,fun k h1 h2=>by omega⟩
  |node t _ _=>have:=t.lo;have:=t.hi;omega
 | @node a b i h l r ihl ihr=>
  intro r' hb h';have lo:=h.lo;have hi:=h.hi;cases h' with
  |nil q=>omega
  | @node _ _ j t l' r'=>
   have e:=h.one o hb t;subst e;obtain ⟨e1,f1⟩:=ihl (by omega) l'
   obtain ⟨e2,f2⟩:=ihr hb r';refine ⟨rfl,fun k h1 h2=>?_⟩
   rcases Nat.lt_trichotomy k i with q|q|q
   · exact f1 k h1 q
   · subst q;exact Prod.ext e1 e2
   · exact f2 k (by omega) h2
theorem lW.frame {P:Nat->Nat->Prop} {N N':List Nd} {a b:Nat} {r:Int} (h:lW P N a b r):(∀k,a<=k->k<b->(N[k]!).2=(N'[k]!).2)->lW P N' a b r:=by
 induction h with
 |nil h=>exact fun _=> .nil h
 | @node a b i h l r ihl ihr=>
  intro f;have lo:=h.lo;have hi:=h.hi;have e:=f i lo hi;refine .node h ?_ ?_
  · rw [<- e];exact ihl fun k h1 h2=>f k h1 (by omega)
  · rw [<- e];exact ihr fun k h1 h2=>f k (by omega) h2
theorem lW.other {P Q:Nat->Nat->Prop} {n:Nat} (o:aBp Q n) {N:List Nd} {a b:Nat} {r:Int} (h:lW P N a b r):b<=n->(∀k j:Nat,a<=k->k<b->a<=j->j<b->((N[k]!).2.1=(j:Int)\/(N[k]!).2.2=(j:Int))->Q k j)->lW Q N a b r:=by
 induction h with
 |nil h=>exact fun _ _=> .nil h
 | @node a b i h l r ihl ihr=>
  intro hb q;have lo:=h.lo;have hi:=h.hi;have tl:=ihl (by omega) fun k j h1 h2 h3 h4=>q k j h1 (by omega) h3 (by omega)
  have tr:=ihr hb fun k j h1 h2 h3 h4=>q k j (by omega) h2 (by omega) h4
  refine .node ⟨lo,hi,fun j h1 h2 hne=>?_⟩ tl tr
  rcases Nat.lt_or_ge j i with hj|hj
  · generalize hr:(N[i]!).2.1=s at tl
    cases tl with
    |nil q=>omega
    | @node _ _ m t _ _=>
     have t1:=t.lo;have t2:=t.hi;have qm:=q i m lo hi t1 (by omega) (.inl hr)
     by_cases e:j=m
     · rw [e];exact qm
     · exact o.tr i m j (by omega) (by omega) (by omega) qm (t.top j h1 hj e)
  · generalize hr:(N[i]!).2.2=s at tr
    cases tr with
    |nil q=>omega
    | @node _ _ m t _ _=>
     have t1:=t.lo;have t2:=t.hi;have qm:=q i m lo hi (by omega) t2 (.inr hr)
     by_cases e:j=m
     · rw [e];exact qm
     · exact o.tr i m j (by omega) (by omega) (by omega) qm (t.top j (by omega) h2 e)
theorem lW.kids {P:Nat->Nat->Prop} {N:List Nd} {a b:Nat} {r:Int} (h:lW P N a b r): ∀k,a<=k->k<b-> ∀c:Int,((N[k]!).2.1=c\/(N[k]!).2.2=c)->c= -1\/ ∃j:Nat,c=(j:Int)/\a<=j/\j<b/\j≠k/\P k j/\r≠c:=by
 induction h with
 |nil h=>intro k h1 h2;omega
 | @node a b i h l r ihl ihr=>
  have lo:=h.lo;have hi:=h.hi;intro k h1 h2 c hc;rcases Nat.lt_trichotomy k i with q|q|q
  · rcases ihl k h1 q c hc with e|⟨j,e,j1,j2,j3,j4,_⟩
    · exact .inl e
    · exact .inr ⟨j,e,j1,by omega,j3,j4,by rw [e];omega⟩
  · subst q
    rcases hc with hc|hc
    · rcases l.link with ⟨_,e⟩|⟨j,e,j1,j2⟩
      · exact .inl (hc▸e)
      · exact .inr ⟨j,hc▸e,j1,by omega,by omega,h.top j j1 (by omega) (by omega),by rw [<- hc,e];omega⟩
    · rcases r.link with ⟨_,e⟩|⟨j,e,j1,j2⟩
      · exact .inl (hc▸e)
      · exact .inr ⟨j,hc▸e,by omega,j2,by omega,h.top j (by omega) j2 (by omega),by rw [<- hc,e];omega⟩
  · rcases ihr k (by omega) h2 c hc with e|⟨j,e,j1,j2,j3,j4,_⟩
    · exact .inl e
    · exact .inr ⟨j,e,by omega,j2,j3,j4,by rw [e];omega⟩
theorem lW.up {P:Nat->Nat->Prop} {N:List Nd} {a b:Nat} {r:Int} (h:lW P N a b r): ∀k:Nat,a<=k->k<b->(k:Int)≠r-> ∃j,a<=j/\j<b/\((N[j]!).2.1=(k:Int)\/(N[j]!).2.2=(k:Int))/\ ∀m,a<=m->m<b->((N[m]!).2.1=(k:Int)\/(N[m]!).2.2=(k:Int))->m=j:=by
 induction h with
 |nil h=>intro k h1 h2;omega
 | @node a b i h l r ihl ihr=>
  have lo:=h.lo;have hi:=h.hi;have lk:=l.kids;have rk:=r.kids;intro k h1 h2 hne;have hki:k≠i:=fun e=>hne (by rw [e])
  rcases Nat.lt_or_ge k i with q|q
  · by_cases er:(k:Int)=(N[i]!).2.1
    · refine ⟨i,lo,hi,.inl er.symm,fun m m1 m2 hm=>?_⟩
      rcases Nat.lt_trichotomy m i with w|w|w
      · rcases lk m m1 w _ hm with e|⟨j,e,_,_,_,_,hr⟩
        · omega
        · exact absurd er.symm hr
      · exact w
      · rcases rk m (by omega) m2 _ hm with e|⟨j,e,j1,_⟩<;>omega
    · obtain ⟨j,j1,j2,j3,j4⟩:=ihl k h1 q er
      refine ⟨j,j1,by omega,j3,fun m m1 m2 hm=>?_⟩
      rcases Nat.lt_trichotomy m i with w|w|w
      · exact j4 m m1 w hm
      · subst w
        rcases hm with hm|hm
        · exact absurd hm.symm er
        · rcases r.link with ⟨_,e⟩|⟨p,e,p1,p2⟩<;>omega
      · rcases rk m (by omega) m2 _ hm with e|⟨p,e,p1,_⟩<;>omega
  · by_cases er:(k:Int)=(N[i]!).2.2
    · refine ⟨i,lo,hi,.inr er.symm,fun m m1 m2 hm=>?_⟩
      rcases Nat.lt_trichotomy m i with w|w|w
      · rcases lk m m1 w _ hm with e|⟨j,e,_,j2,_⟩<;>omega
      · exact w
      · rcases rk m (by omega) m2 _ hm with e|⟨j,e,_,_,_,_,hr⟩
        · omega
        · exact absurd er.symm hr
    · obtain ⟨j,j1,j2,j3,j4⟩:=ihr k (by omega) h2 er
      refine ⟨j,by omega,j2,j3,fun m m1 m2 hm=>?_⟩
      rcases Nat.lt_trichotomy m i with w|w|w
      · rcases lk m m1 w _ hm with e|⟨p,e,_,p2,_⟩<;>omega
      · subst w
        rcases hm with hm|hm
        · rcases l.link with ⟨_,e⟩|⟨p,e,p1,p2⟩<;>omega
        · exact absurd hm.symm er
      · exact j4 m (by omega) m2 hm
end Go.Proofs.YticklbjcnimggaaGreat
namespace Go.Proofs.YticklbjcnimggaaGreat
inductive xE (P:Nat->Nat->Prop) (N:List Nd):Nat->Nat->Int->List Nat->Prop
 |nil {a b:Nat} (h:b<=a):xE P N a b (-1) []
 |cons {a b k:Nat} {es:List Nat} (h:BA P a b k) (l:lW P N a k (N[k]!).2.1) (r:xE P N (k+1) b (N[k]!).2.2 es):xE P N a b (k:Int) (k::es)
theorem xE.tree {P:Nat->Nat->Prop} {N:List Nd} {a b:Nat} {r:Int} {es:List Nat} (h:xE P N a b r es):lW P N a b r:=by
 induction h with
 |nil h=>exact .nil h
 |cons h l r ih=>exact .node h l ih
theorem xE.mem {P:Nat->Nat->Prop} {N:List Nd} {a b:Nat} {r:Int} {es:List Nat} (h:xE P N a b r es): ∀e∈es,a<=e/\e<b:=by
 induction h with
 |nil h=>intro e he;cases he
 |cons h l r ih=>
  intro e he;have lo:=h.lo;have hi:=h.hi;rcases List.mem_cons.1 he with rfl|he
  · exact ⟨lo,hi⟩
  · have:=ih e he;omega
theorem fV {α:Type} [Inhabited α] (x:α) (l:List α) (i:Nat):(x::l)[i+1]! =l[i]!:=by simp
theorem nC {α:Type} [Inhabited α] (x:α) (l:List α):(x::l)[0]! =x:=by simp
theorem xE.chain {P:Nat->Nat->Prop} {N:List Nd} {a b:Nat} {r:Int} {es:List Nat} (h:xE P N a b r es): ∀i j,i<j->j<es.length->P es[i]! es[j]!:=by
 induction h with
 |nil h=>intro i j _ hj;cases hj
 | @cons a b k es h l r ih=>
  intro i j hij hj;cases j with
  |zero=>omega
  |succ j=>
   rw [fV];have hj:j<es.length:=by simpa using hj
   cases i with
   |zero=>
    rw [nC]
    have:=r.mem es[j]! (bG hj)
    exact h.top _ (by have:=h.lo;omega) this.2 (by omega)
   |succ i=>rw [fV];exact ih i j (by omega) hj
theorem xE.add {P:Nat->Nat->Prop} {N N':List Nd} {n:Nat} (o:aBp P n) {a b:Nat} {r:Int} {es:List Nat} (h:xE P N a b r es): ∀m,a<=b->b<n->m<=es.length->(∀j,j<m->P es[j]! b)->(∀j,m<=j->j<es.length-> ¬P es[j]! b)->
 (N'[b]!).2.1=(if m<es.length then (es[m]!:Int) else -1)->(N'[b]!).2.2= -1->
 (∀k,a<=k->k<b->(N'[k]!).2.1=(N[k]!).2.1/\((0<m/\k=es[m-1]!)->(N'[k]!).2.2=(b:Int))/\(¬(0<m/\k=es[m-1]!)->(N'[k]!).2.2=(N[k]!).2.2))->
 xE P N' a (b+1) (if m=0 then (b:Int) else r) (es.take m++[b]):=by
 induction h with
 | @nil a b h=>
  intro m hab hb hm _ _ hl hr _
  have:m=0:=by simpa using hm
  subst this;rw [if_pos rfl];have hl:(N'[b]!).2.1= -1:=hl;refine .cons ⟨hab,by omega,fun j h1 h2 h3=>by omega⟩ ?_ ?_
  · rw [hl];exact .nil h
  · rw [hr];exact .nil (by omega)
 | @cons a b k es h l r ih=>
  intro m hab hb hm hP hN hl hr hf;have lo:=h.lo;have hi:=h.hi;cases m with
  |zero=>
   rw [if_pos rfl];have hl:(N'[b]!).2.1=(k:Int):=by rw [hl,if_pos (by simp)];rfl
   have t:lW P N a b (k:Int):= .node h l r.tree;have nk: ¬P k b:=hN 0 (Nat.le_refl _) (by simp)
   have kb:P b k:=o.tot k b (by omega) hb (by omega) nk
   refine .cons ⟨hab,by omega,fun j h1 h2 h3=>?_⟩ ?_ ?_
   · by_cases e:j=k
     · rw [e];exact kb
     · exact o.tr b k j hb (by omega) (by omega) kb (h.top j h1 (by omega) e)
   · rw [hl]
     refine t.frame fun j h1 h2=>?_
     obtain ⟨f1,_,f3⟩:=hf j h1 h2;exact Prod.ext f1.symm (f3 (by omega)).symm
   · rw [hr];exact .nil (by omega)
  |succ m=>
   rw [if_neg (by omega)]
   have hm:m<=es.length:=by simpa using hm
   have pk:P k b:=by have:=hP 0 (by omega);rwa [nC] at this
   have mem:=r.mem;have top:BA P a (b+1) k:=⟨lo,by omega,fun j h1 h2 h3=>by
    by_cases e:j=b
    · rw [e];exact pk
    · exact h.top j h1 (by omega) h3⟩
   have lt:lW P N' a k (N'[k]!).2.1:=by
    rw [(hf k lo hi).1];refine l.frame fun j h1 h2=>?_
    obtain ⟨f1,_,f3⟩:=hf j h1 (by omega)
    refine Prod.ext f1.symm (f3 (fun q=>?_)).symm
    have q2:=q.2;cases m with
    |zero=>rw [show 0+1-1=0 from rfl,nC] at q2;omega
    |succ m=>
     rw [show m+1+1-1=m+1 from rfl,fV] at q2
     have:=mem es[m]! (bG (by omega));omega
   have rt:=ih m (by omega) hb hm (fun j hj=>by have:=hP (j+1) (by omega);rwa [fV] at this) (fun j h1 h2=>by have:=hN (j+1) (by omega) (by simpa using h2);rwa [fV] at this)
    (by
     rw [hl]
     by_cases q:m<es.length
     · rw [if_pos q,if_pos (by simpa using q),fV]
     · rw [if_neg q,if_neg (by simpa using q)]) hr (fun j h1 h2=>by
     obtain ⟨f1,f2,f3⟩:=hf j (by omega) h2
     refine ⟨f1,fun q=>f2 ⟨by omega,?_⟩,fun q=>f3 (fun w=>q ?_)⟩
     · obtain ⟨q1,q2⟩:=q
       rw [show m+1-1=(m-1)+1 by omega,fV];exact q2
     · obtain ⟨_,w2⟩:=w
       cases m with
       |zero=>rw [show 0+1-1=0 from rfl,nC] at w2;omega
       |succ m=>rw [show m+1+1-1=m+1 from rfl,fV] at w2;exact ⟨by omega,w2⟩)
   rw [show (k::es).take (m+1)++[b]=k::(es.take m++[b]) from rfl];refine .cons top lt ?_;obtain ⟨_,f2,f3⟩:=hf k lo hi
   by_cases m0:m=0
   · subst m0
     rw [if_pos rfl] at rt;rw [f2 ⟨by omega,by rw [show 0+1-1=0 from rfl,nC]⟩]
     exact rt
   · rw [if_neg m0] at rt
     rw [f3 (fun w=>?_)]
     · exact rt
     · have w2:=w.2
       rw [show m+1-1=(m-1)+1 by omega,fV] at w2
       have:=mem es[m-1]! (bG (by omega));omega
end Go.Proofs.YticklbjcnimggaaGreat
namespace Go.Proofs.YticklbjcnimggaaGreat
open Go.Vm Classical
def MF (f:List Pt) (t:Int×Int) (i j:Nat):Prop:=hZ f[i]! f[j]! t
theorem SU {p q:Pt} {t:Int×Int} (h:hZ p q t): ¬hZ q p t:=by
 unfold hZ at*;rw [PK] at*;generalize p.2.1*t.2+p.2.2*t.1=a at*;generalize q.2.1*t.2+q.2.2*t.1=b at*;omega
theorem PN {f:List Pt} (h:kU f) (t:Int×Int):aBp (MF f t) f.length where
 tr:=fun _ _ _ _ _ _ h1 h2=>SQ h1 h2
 asy:=fun _ _ _ _ h=>SU h
 tot:=fun i j hi hj hne hn=>SS t (fun e=>hne (vV h hi hj e)) hn
structure gQ (f:List Pt) (t:Int×Int) (N:List Nd) (r:Int):Prop where
 len:N.length=f.length
 ids: ∀k,k<f.length->(N[k]!).1=(f[k]!).1
 tree:lW (MF f t) N 0 f.length r
theorem gQ.same {f:List Pt} (h:kU f) {t:Int×Int} {N N':List Nd} {r r':Int} (a:gQ f t N r) (b:gQ f t N' r'):N=N'/\r=r':=by
 obtain ⟨e1,e2⟩:=a.tree.unique (PN h t) (Nat.le_refl _) b.tree;refine ⟨CC (by rw [a.len,b.len]) fun k hk=>?_,e1⟩
 have hk:k<f.length:=by rw [<- a.len];exact hk
 exact Prod.ext (by rw [a.ids k hk,b.ids k hk]) (e2 k (Nat.zero_le _) hk)
def Below (N:List Nd) (k j:Nat):Prop:=(N[j]!).2.1=(k:Int)\/(N[j]!).2.2=(k:Int)
noncomputable def lX (N:List Nd) (k:Nat):Nat:=if h: ∃j,j<N.length/\Below N k j then h.choose else N.length
noncomputable def D5 (N:List Nd) (k:Nat):List (Int×Int):=if lX N k<N.length then [((N[k]!).1,(N[lX N k]!).1)] else []
noncomputable def bP (N:List Nd):Nat->List (Int×Int)
 |0=>[]
 |k+1=>bP N k++D5 N k
theorem nD (N:List Nd): ∀k,(bP N k).length<=k
 |0=>Nat.le_refl _
 |k+1=>by
  have:=nD N k
  rw [bP,List.length_append];unfold D5;split
  · simp only [List.length_singleton];omega
  · simp only [List.length_nil];omega
theorem E1 {N:List Nd}: ∀{n:Nat} {e:Int×Int},e∈bP N n↔ ∃k,k<n/\lX N k<N.length/\e=((N[k]!).1,(N[lX N k]!).1)
 |0,e=>by
  constructor
  · intro h;cases h
  · rintro ⟨k,h,_⟩;omega
 |n+1,e=>by
  rw [bP,List.mem_append,E1];constructor
  · rintro (⟨k,h1,h2⟩|h)
    · exact ⟨k,by omega,h2⟩
    · unfold D5 at h
      split at h
      · exact ⟨n,by omega,by assumption,List.mem_singleton.1 h⟩
      · cases h
  · rintro ⟨k,h1,h2,h3⟩
    by_cases q:k=n
    · subst q
      right;unfold D5;rw [if_pos h2,h3];exact List.mem_singleton.2 rfl
    · exact .inl ⟨k,by omega,h2,h3⟩
section
variable {f : List Pt} {t : Int × Int} {N : List Nd} {r : Int}
theorem gQ.par (h:gQ f t N r) {k:Nat} (hk:k<f.length):((k:Int)=r->lX N k=N.length)/\((k:Int)≠r->lX N k<N.length/\Below N k (lX N k)/\lX N k≠k/\MF f t (lX N k) k)/\ ∀m,m<N.length->Below N k m->m=lX N k:=by
 have ln:=h.len
 by_cases hr:(k:Int)=r
 · have none: ¬ ∃j,j<N.length/\Below N k j:=by
    rintro ⟨j,hj,hb⟩;rcases h.tree.kids j (Nat.zero_le _) (by omega) (k:Int) hb with e|⟨_,_,_,_,_,_,e⟩
    · omega
    · exact e hr.symm
   have e:lX N k=N.length:=by unfold lX;rw [dif_neg none]
   exact ⟨fun _=>e,fun q=>absurd hr q,fun m hm hb=>absurd ⟨m,hm,hb⟩ none⟩
 · obtain ⟨j,_,j2,j3,j4⟩:=h.tree.up k (Nat.zero_le _) hk hr
   have ex: ∃j,j<N.length/\Below N k j:=⟨j,by omega,j3⟩
   have e:lX N k=j:=by
    unfold lX;rw [dif_pos ex]
    have:=ex.choose_spec
    exact j4 _ (Nat.zero_le _) (by omega) this.2
   refine ⟨fun q=>absurd q hr,fun _=>?_,fun m hm hb=>by rw [e];exact j4 m (Nat.zero_le _) (by omega) hb⟩
   rw [e];refine ⟨by omega,j3,?_,?_⟩
   · rcases h.tree.kids j (Nat.zero_le _) j2 (k:Int) j3 with q|⟨i,q,_,_,q2,_⟩
     · omega
     · intro w;omega
   · rcases h.tree.kids j (Nat.zero_le _) j2 (k:Int) j3 with q|⟨i,q,_,_,_,q2,_⟩
     · omega
     · have:i=k:=by omega
       rw [<- this];exact q2
theorem gQ.edges (fok:cD f) (h:gQ f t N r):JA f (bP N f.length)/\(bP N f.length).Nodup/\ ∀e∈bP N f.length,hZ (mH f e.2) (mH f e.1) t:=by
 have ln:=h.len;have f1:=fok.1;have inf: ∀e∈bP N f.length,∃k j,k<f.length/\j<f.length/\j≠k/\MF f t j k/\e=((f[k]!).1,(f[j]!).1):=by
  intro e he;obtain ⟨k,k1,k2,k3⟩:=E1.1 he;have hp:=h.par k1;have hr:(k:Int)≠r:=fun q=>by have:=hp.1 q;omega
  obtain ⟨p1,p2,p3,p4⟩:=hp.2.1 hr;exact ⟨k,lX N k,k1,by omega,p3,p4,by rw [k3,h.ids k k1,h.ids (lX N k) (by omega)]⟩
 have hb: ∀e∈bP N f.length,jR f e:=fun e he=>by
  obtain ⟨k,j,k1,j1,_,_,rfl⟩:=inf e he;exact ⟨⟨k,k1,rfl⟩,⟨j,j1,rfl⟩⟩
 refine ⟨⟨Nat.le_trans (nD N _) (by omega),fun e he=>?_,hb⟩,?_,fun e he=>?_⟩
 · obtain ⟨⟨p1,p2⟩,q1,q2⟩:=And.intro (jG fok (hb e he).1) (jG fok (hb e he).2)
   obtain ⟨k,j,k1,j1,ne,_,rfl⟩:=inf e he
   have:(f[k]!).1≠(f[j]!).1:=fun q=>ne (vV fok.2.2 k1 j1 q).symm
   unfold hY at p1 q1;unfold fI;dsimp only at*;omega
 · have go: ∀n,n<=f.length->(bP N n).Nodup:=by
    intro n
    induction n with
    |zero=>exact fun _=>List.nodup_nil
    |succ n ih=>
     intro hn;rw [bP,List.nodup_append];refine ⟨ih (by omega),?_,fun x hx y hy e=>?_⟩
     · unfold D5;split
       · exact List.nodup_cons.2 ⟨List.not_mem_nil,List.nodup_nil⟩
       · exact List.nodup_nil
     · subst e
       obtain ⟨k,k1,_,k3⟩:=E1.1 hx;unfold D5 at hy;split at hy
       · have hy:=List.mem_singleton.1 hy
         rw [k3] at hy;have e1:(N[k]!).1=(N[n]!).1:=(Prod.mk.inj hy).1;rw [h.ids k (by omega),h.ids n (by omega)] at e1
         have:=vV fok.2.2 (by omega) (by omega) e1
         omega
       · cases hy
   exact go _ (Nat.le_refl _)
 · obtain ⟨k,j,k1,j1,_,p,rfl⟩:=inf e he
   rw [GH fok.2.2 j1 rfl,GH fok.2.2 k1 rfl];exact p
end
end Go.Proofs.YticklbjcnimggaaGreat
namespace Go.Proofs.YticklbjcnimggaaGreat
open Go.Vm Classical
theorem aNd {f:List Pt} (fok:cD f) {t:Int×Int} (r:bY t) (r64:pL t) {i j:Nat} (hi:i<f.length) (hj:j<f.length) (hne:i≠j):nI f[i]! f[j]! t=some (decide (MF f t i j),0):=by
 have ne:(f[i]!).1≠(f[j]!).1:=fun h=>hne (vV fok.2.2 hi hj h)
 rcases IV (fok.2.1 _ (bG hi)) (fok.2.1 _ (bG hj)) r64 r with h|⟨h,_⟩
 · rw [h,if_neg ne];rfl
 · exact absurd h ne
def eI (es:List Nat):List Int:=es.map fun e:Nat=>(e:Int)
theorem XD (E:List Int) (m:Nat) (x:Int) (h:m+1<=E.length):(eH E m [x]).length=E.length:=by
 unfold eH;simp only [List.length_append,List.length_take,List.length_drop,List.length_singleton];omega
theorem aBq (es:List Nat):(eI es).length=es.length:=List.length_map ..
theorem aHn (es:List Nat) {j:Nat} (h:j<es.length):(eI es)[j]! =(es[j]!:Int):=by
 rw [getElem!_pos (eI es) j (by rw [aBq];exact h),getElem!_pos es j h]
 exact List.getElem_map ..
theorem XE (es:List Nat) (m:Nat):eI (es.take m)=(eI es).take m:=List.map_take ..
def o2 (f:List Pt) (t:Int×Int) (e c:Nat) (i:Nat) (root:Int) (N:List Nd) (E:List Int):=
 (e,c,f,(f.length:Int),(i:Int),f,t.1,t.2,(0:Int),root,N,E)
def o1 (f:List Pt) (t:Int×Int) (e c:Nat) (i:Nat) (root:Int) (N:List Nd) (E:List Int) (left:Int):=
 (e,c,(i:Int),f,(f.length:Int),(i:Int),f,t.1,t.2,(0:Int),root,N,E,(f[i]!).1,(f[i]!).2.1,(f[i]!).2.2,(f[i]!).1,left,(-1:Int))
def zB (f:List Pt) (N:List Nd) (es:List Nat) (i m:Nat):List Nd:=
 (if m=0 then N else N.set es[m-1]! ((N[es[m-1]!]!).1,(N[es[m-1]!]!).2.1,(i:Int)))++[((f[i]!).1,if m<es.length then (es[m]!:Int) else -1,-1)]
theorem aPN {f:List Pt} (fok:cD f) {t:Int×Int} (r:bY t) (r64:pL t) {i:Nat} (hi:i<f.length) {es:List Nat} (hes: ∀e∈es,e<i) {N:List Nd} (hN:N.length=i) {root:Int} {E:List Int} (hE:E.take es.length=eI es) (le:es.length<=E.length) (lE:E.length<=1000):
 ∀(e:Nat),e<=es.length->(∀j,e<=j->j<es.length-> ¬MF f t es[j]! i)->
  ∃(m:Nat) (E':List Int),m<=e/\(0<m->MF f t es[m-1]! i)/\(∀j,m<=j->j<es.length-> ¬MF f t es[j]! i)/\E'.take (m+1)=eI (es.take m++[i])/\m+1<=E'.length/\E'.length<=E.length+1/\
   aG pU (o1 f t e E.length i root N E (if e<es.length then (es[e]!:Int) else -1))=some (.next (o2 f t (m+1) E'.length (i+1) (if m=0 then (i:Int) else root) (zB f N es i m) E')):=by
 have f1:=fok.1;have sc:=aY (show i<1000000000 by omega)
 have put: ∀m,m<=es.length-> ∃E':List Int,E'.take (m+1)=eI (es.take m++[i])/\m+1<=E'.length/\E'.length<=E.length+1/\
  ((m+1<=E.length->E'=eH E m [(i:Int)])/\(¬m+1<=E.length->E'=E.take m++[(i:Int)])):=by
  intro m hm;have tm:E.take m=eI (es.take m):=by rw [XE,<- hE,List.take_take,Nat.min_eq_left hm]
  have ei:eI (es.take m++[i])=eI (es.take m)++[(i:Int)]:=List.map_append ..;have lm:(E.take m++[(i:Int)]).length=m+1:=by rw [List.length_append,List.length_take,List.length_singleton];omega
  by_cases h:m+1<=E.length
  · refine ⟨eH E m [(i:Int)],?_,?_,?_,fun _=>rfl,fun q=>absurd h q⟩
    · unfold eH
      rw [ei,<- tm,List.take_append_of_le_length (by omega),List.take_of_length_le (by omega)]
    · unfold eH;rw [List.length_append];omega
    · unfold eH;rw [List.length_append,lm,List.length_drop,List.length_singleton];omega
  · refine ⟨E.take m++[(i:Int)],?_,by omega,by omega,fun q=>absurd q h,fun _=>rfl⟩
    rw [List.take_of_length_le (by omega),ei,tm]
 have en: ∀(s:Nat),([(i:Int)]:List Int).length=1:=fun _=>rfl
 have ble_t: ∀{a b:Nat},a<=b->Nat.ble a b=true:=fun h=>Nat.ble_eq_true_of_le h
 have ble_f: ∀{a b:Nat},¬a<=b->Nat.ble a b=false:=fun h=>by
  cases hb:Nat.ble _ _ with
  |false=>rfl
  |true=>exact absurd (Nat.le_of_ble_eq_true hb) h
 intro e
 induction e with
 |zero=>
  intro _ hall;obtain ⟨E',e1,e2,e3,e4,e5⟩:=put 0 (Nat.zero_le _);refine ⟨0,E',Nat.le_refl _,fun h=>absurd h (Nat.lt_irrefl _),hall,e1,e2,e3,aI ?_⟩
  have ap: ∀x:Nd,bH N [x]=some (N++[x]):=fun x=>cV (by rw [List.length_singleton];omega)
  have ap2:bH (E.take 0) [(i:Int)]=some (E.take 0++[(i:Int)]):=cV (by rw [List.length_singleton,List.length_take];omega)
  unfold pU o1 o2 zB
  by_cases h:0+1<=E.length
  · simp only [aE,aJ (show¬(0:Int)<((0:Nat):Int) by omega),cond_false,ap,aD,List.length_singleton,ble_t h,cond_true,Bool.not_false,Bool.and_self,sc,e4 h,if_true]
    rw [XD _ _ _ h]
  · simp only [aE,aJ (show¬(0:Int)<((0:Nat):Int) by omega),cond_false,ap,aD,List.length_singleton,ble_f h,ap2,ble_t (Nat.zero_le E.length),cond_true,sc,e5 h,if_true]
    rfl
 |succ e ih=>
  intro he hall;have tk:E.take (e+1)=eI (es.take (e+1)):=by rw [XE,<- hE,List.take_take,Nat.min_eq_left he]
  have lt:(eI (es.take (e+1))).length=e+1:=by rw [aBq,List.length_take];omega
  have ge:aN (E.take (e+1)) ((e:Nat):Int)=some (es[e]!:Int):=by
   rw [tk,aC _ e (by omega),aHn _ (by rw [List.length_take];omega),kS (by omega)]
  have ew:aA .i64 (((e+1:Nat):Int) -1)=((e:Nat):Int):=by rw [CB ⟨by omega,by omega⟩];omega
  have eb:es[e]!<i:=hes _ (bG (by omega))
  have gp:=aC f es[e]! (by omega)
  have ah:=aNd fok (t:=(t.1,t.2)) r r64 (i:=es[e]!) (j:=i) (by omega) hi (by omega)
  have gn:=aC N es[e]! (by omega)
  have peta:((f[i]!).1,(f[i]!).2.1,(f[i]!).2.2)=f[i]!:=rfl
  by_cases c:MF f t es[e]! i
  · rw [show decide (MF f (t.1,t.2) es[e]! i)=true from aM c] at ah
    obtain ⟨E',e1,e2,e3,e4,e5⟩:=put (e+1) he;refine ⟨e+1,E',Nat.le_refl _,fun _=>c,hall,e1,e2,e3,aI ?_⟩
    have ap: ∀(y x:Nd),bH (N.set es[e]! y) [x]=some (N.set es[e]! y++[x]):=fun y x=>cV (by rw [List.length_singleton,List.length_set];omega)
    have ap2:bH (E.take (e+1)) [(i:Int)]=some (E.take (e+1)++[(i:Int)]):=cV (by rw [List.length_singleton,List.length_take];omega)
    unfold pU o1 o2 zB;rw [show e+1-1=e from rfl,if_neg (Nat.succ_ne_zero e),if_neg (Nat.succ_ne_zero e)]
    by_cases h:e+1+1<=E.length
    · simp only [aE,aM (show (0:Int)<((e+1:Nat):Int) by omega),cond_true,ew,ge,aD,gp,peta,ah,gn,mY,ap,List.length_singleton,ble_t h,Bool.not_false,Bool.and_self,sc,e4 h]
      rw [XD _ _ _ h]
    · simp only [aE,aM (show (0:Int)<((e+1:Nat):Int) by omega),cond_true,ew,ge,aD,gp,peta,ah,gn,mY,ap,List.length_singleton,ble_f h,cond_false,ap2,ble_t (show e+1<=E.length by omega),sc,e5 h]
      rw [show (E.take (e+1)++[(i:Int)]).length=e+1+1 from by rw [List.length_append,List.length_take,List.length_singleton];omega]
  · rw [show decide (MF f (t.1,t.2) es[e]! i)=false from aJ c] at ah
    obtain ⟨m,E',h1,h2,h3,h4,h5,h6,h7⟩:=ih (by omega) (fun j j1 j2=>by
     by_cases q:j=e
     · rw [q];exact c
     · exact hall j (by omega) j2)
    refine ⟨m,E',by omega,h2,h3,h4,h5,h6,?_⟩
    rw [if_pos (show e<es.length by omega)] at h7
    rw [<- h7];refine aW ?_;unfold pU o1;simp only [aE,aM (show (0:Int)<((e+1:Nat):Int) by omega),cond_true,ew,ge,aD,gp,peta,ah,cond_false,aM (show (0:Int)<=((e:Nat):Int) by omega),aM (show ((e:Nat):Int)<=(E.length:Int) by omega),Bool.and_self,Int.toNat_natCast]
end Go.Proofs.YticklbjcnimggaaGreat
namespace Go.Proofs.YticklbjcnimggaaGreat
open Go.Vm Classical
theorem aHo {f:List Pt} {N:List Nd} {es:List Nat} {i m:Nat} (hN:N.length=i) (hes: ∀e∈es,e<i) (hm:m<=es.length):
 (zB f N es i m).length=i+1/\(zB f N es i m)[i]! =((f[i]!).1,if m<es.length then (es[m]!:Int) else -1,-1)/\
 ∀k,k<i->((zB f N es i m)[k]!).1=(N[k]!).1/\((zB f N es i m)[k]!).2.1=(N[k]!).2.1/\((0<m/\k=es[m-1]!)->((zB f N es i m)[k]!).2.2=(i:Int))/\(¬(0<m/\k=es[m-1]!)->((zB f N es i m)[k]!).2.2=(N[k]!).2.2):=by
 unfold zB
 by_cases m0:m=0
 · rw [if_pos m0]
   refine ⟨by rw [List.length_append,hN];rfl,?_,fun k hk=>?_⟩
   · rw [gM (by omega),hN,Nat.sub_self];rfl
   · rw [gI (by omega)]
     exact ⟨rfl,rfl,fun q=>by omega,fun _=>rfl⟩
 · rw [if_neg m0]
   have hb:=hes _ (bG (show m-1<es.length by omega))
   refine ⟨by rw [List.length_append,List.length_set,hN];rfl,?_,fun k hk=>?_⟩
   · rw [gM (by rw [List.length_set];omega),List.length_set,hN,Nat.sub_self];rfl
   · rw [gI (by rw [List.length_set];omega),bB]
     by_cases q:k=es[m-1]!
     · rw [if_pos ⟨q,by omega⟩,q]
       exact ⟨rfl,rfl,fun _=>rfl,fun w=>absurd ⟨by omega,rfl⟩ w⟩
     · rw [if_neg (fun w=>q w.1)]
       exact ⟨rfl,rfl,fun w=>absurd w.2 q,fun _=>rfl⟩
theorem aPO {f:List Pt} (fok:cD f) {t:Int×Int} (r:bY t) (r64:pL t): ∀(d i:Nat) (es:List Nat) (N:List Nd) (root:Int) (E:List Int),f.length-i<=d->i<=f.length->N.length=i->(∀k,k<i->(N[k]!).1=(f[k]!).1)->
 xE (MF f t) N 0 i root es->E.take es.length=eI es->es.length<=E.length->E.length<=i->
 ∃(root':Int) (N':List Nd),aG nJ (o2 f t es.length E.length i root N E)=some (⟨root',N'⟩,0)/\gQ f t N' root':=by
 have f1:=fok.1;have fin: ∀(es:List Nat) (N:List Nd) (root:Int) (E:List Int),N.length=f.length->(∀k,k<f.length->(N[k]!).1=(f[k]!).1)->xE (MF f t) N 0 f.length root es->
  ∃(root':Int) (N':List Nd),aG nJ (o2 f t es.length E.length f.length root N E)=some (⟨root',N'⟩,0)/\gQ f t N' root':=fun es N root E h1 h2 h3=>
  ⟨root,N,aI (by
   unfold nJ o2;simp only [aJ (show¬(f.length:Int)<(f.length:Int) by omega),cond_false]),⟨h1,h2,h3.tree⟩⟩
 intro d
 induction d with
 |zero=>
  intro i es N root E hd hi h1 h2 h3 _ _ _
  have:i=f.length:=by omega
  subst this;exact fin es N root E h1 h2 h3
 |succ d ih=>
  intro i es N root E hd hi h1 h2 h3 h4 h5 h6
  by_cases he:i=f.length
  · subst he;exact fin es N root E h1 h2 h3
  have hi':i<f.length:=by omega
  have o:=PN fok.2.2 t;have mem:=h3.mem;have hes: ∀e∈es,e<i:=fun e he=>(mem e he).2
  obtain ⟨m,E',m1,m2,m3,m4,m5,m6,m7⟩:=aPN fok r r64 hi' hes h1 (root:=root) h4 h5 (by omega) es.length (Nat.le_refl _) (fun j j1 j2=>by omega)
  rw [if_neg (Nat.lt_irrefl _)] at m7;have st:nJ (o2 f t es.length E.length i root N E)=some (.next (o2 f t (m+1) E'.length (i+1) (if m=0 then (i:Int) else root) (zB f N es i m) E')):=by
   unfold nJ
   conv=>lhs;unfold o2
   simp only [aM (show (i:Int)<(f.length:Int) by omega),cond_true,aC f i hi',aD]
   exact m7
  obtain ⟨a1,a2,a3⟩:=aHo (f:=f) h1 hes m1;have sp:=h3.add o (N':=zB f N es i m) m (Nat.zero_le _) hi' m1 (fun j hj=>by
   by_cases q:j=m-1
   · rw [q];exact m2 (by omega)
   · have hj':=hes _ (bG (show j<es.length by omega))
     have hm':=hes _ (bG (show m-1<es.length by omega))
     exact o.tr _ es[m-1]! _ (by omega) (by omega) hi' (h3.chain j (m-1) (by omega) (by omega)) (m2 (by omega))) m3
   (by rw [a2]) (by rw [a2]) (fun k _ hk=>by
    obtain ⟨_,b2,b3,b4⟩:=a3 k hk;exact ⟨b2,b3,b4⟩)
  have le:(es.take m++[i]).length=m+1:=by rw [List.length_append,List.length_take,List.length_singleton];omega
  rw [aW st]
  have:=ih (i+1) (es.take m++[i]) (zB f N es i m) (if m=0 then (i:Int) else root) E' (by omega) (by omega) a1 (fun k hk=>by
   by_cases q:k=i
   · rw [q,a2]
   · rw [(a3 k (by omega)).1];exact h2 k (by omega)) sp (by rw [le];exact m4) (by rw [le];exact m5) (by omega)
  rw [le] at this;exact this
theorem XF {f:List Pt} (fok:cD f) {t:Int×Int} (r:bY t) (r64:pL t): ∃(root:Int) (N:List Nd),yR ⟨f⟩ t=some (⟨root,N⟩,0)/\gQ f t N root:=by
 obtain ⟨root,N,h1,h2⟩:=aPO fok r r64 f.length 0 [] [] (-1) [] (by omega) (by omega) rfl (fun k hk=>by omega) (.nil (Nat.le_refl _)) rfl (Nat.le_refl _) (Nat.le_refl _)
 refine ⟨root,N,?_,h2⟩;have hc:eS ⟨f⟩=some 0:=by rw [iU];exact congrArg some (gN.2 fok)
 unfold yR AC;rw [hc,aD,cZ rfl,cond_false,fT r64,if_pos r,aD,aD,cZ rfl,cond_false];exact h1
theorem aNe {f:List Pt} (fok:cD f) {t:Int×Int} (r64:pL t) {a b:Nat} (hb:b<=f.length): ∀(d j best:Nat),b-j<=d->j<=b->BA (MF f t) a j best-> ∃i:Nat,aG jK ((b:Int),(best:Int),(j:Int),f,t)=some (i:Int)/\BA (MF f t) a b i:=by
 have f1:=fok.1;have o:=PN fok.2.2 t;have fin: ∀best:Nat,BA (MF f t) a b best-> ∃i:Nat,aG jK ((b:Int),(best:Int),(b:Int),f,t)=some (i:Int)/\BA (MF f t) a b i:=fun best h=>⟨best,aI (by
  unfold jK;simp only [aJ (show¬(b:Int)<(b:Int) by omega),cond_false]),h⟩
 intro d
 induction d with
 |zero=>
  intro j best hd hj h
  have:j=b:=by omega
  subst this;exact fin best h
 |succ d ih=>
  intro j best hd hj h
  by_cases he:j=b
  · subst he;exact fin best h
  have h1:=h.lo;have h2:=h.hi;have sc:=aY (show j<1000000000 by omega)
  have ld:=LA (fok.2.1 _ (bG (show j<f.length by omega))) (fok.2.1 _ (bG (show best<f.length by omega))) r64
  by_cases c:MF f t j best
  · rw [show decide (hZ f[j]! f[best]! t)=true from aM c] at ld
    rw [aW (y:=((b:Int),(j:Int),((j+1:Nat):Int),f,t)) (by
     unfold jK;simp only [aM (show (j:Int)<(b:Int) by omega),cond_true,aJ (show¬(best:Int)<0 by omega),cond_false,aC f j (by omega),aC f best (by omega),aD,ld,sc])]
    refine ih (j+1) j (by omega) (by omega) ⟨by omega,by omega,fun k k1 k2 k3=>?_⟩
    by_cases q:k=best
    · rw [q];exact c
    · exact o.tr j best k (by omega) (by omega) (by omega) c (h.top k k1 (by omega) q)
  · rw [show decide (hZ f[j]! f[best]! t)=false from aJ c] at ld
    rw [aW (y:=((b:Int),(best:Int),((j+1:Nat):Int),f,t)) (by
     unfold jK;simp only [aM (show (j:Int)<(b:Int) by omega),cond_true,aJ (show¬(best:Int)<0 by omega),cond_false,aC f j (by omega),aC f best (by omega),aD,ld,sc])]
    refine ih (j+1) best (by omega) (by omega) ⟨h1,by omega,fun k k1 k2 k3=>?_⟩
    by_cases q:k=j
    · rw [q];exact o.tot j best (by omega) (by omega) (by omega) c
    · exact h.top k k1 (by omega) k3
theorem aNf {f:List Pt} (fok:cD f) {t:Int×Int} (r64:pL t) {a b:Nat} (hab:a<b) (hb:b<=f.length): ∃i:Nat,uO ⟨f⟩ t (a:Int) (b:Int)=some (i:Int)/\BA (MF f t) a b i:=by
 have f1:=fok.1;obtain ⟨i,h1,h2⟩:=aNe fok r64 hb (b- (a+1)) (a+1) a (by omega) (by omega) (show BA (MF f t) a (a+1) a from ⟨by omega,by omega,fun k k1 k2 k3=>by omega⟩)
 refine ⟨i,?_,h2⟩;unfold uO;rw [aW (y:=((b:Int),(a:Int),((a+1:Nat):Int),f,t)) (by
  unfold jK;simp only [aM (show (a:Int)<(b:Int) by omega),cond_true,aM (show (-1:Int)<0 by omega),aY (show a<1000000000 by omega)])]
 exact h1
theorem SW (f:List Pt) (t:Int×Int) (a:Nat):uO ⟨f⟩ t (a:Int) (a:Int)=some (-1):=by
 unfold uO;refine aI ?_;unfold jK;simp only [aJ (show¬(a:Int)<(a:Int) by omega),cond_false]
theorem aHp {f:List Pt} (fok:cD f) {t:Int×Int} (r64:pL t): ∀(d m a b:Nat) (N:List Nd),b-a<=d->d<m->a<=b->b<=f.length->N.length=f.length->
 ∃(r:Int) (N':List Nd),iT m (f,t.1,t.2,0,(a:Int),(b:Int),N)=some (r,N')/\N'.length=f.length/\(∀k:Nat,(N'[k]!).1=(N[k]!).1)/\(∀k:Nat,(k<a\/b<=k)->N'[k]! =N[k]!)/\lW (MF f t) N' a b r:=by
 have f1:=fok.1;intro d
 induction d with
 |zero=>
  intro m a b N hd hm hab hb hN
  have:a=b:=by omega
  subst this;cases m with
  |zero=>omega
  |succ m=>
   refine ⟨-1,N,?_,hN,fun _=>rfl,fun _ _=>rfl,.nil (Nat.le_refl _)⟩
   show fD _ _=_;unfold fD;simp only [show ((t.1,t.2):Int×Int)=t from rfl,SW f t a,aD,aJ (show¬(0:Int)<= -1 by omega),cond_false,beq_self_eq_true,cond_true]
 |succ d ih=>
  intro m a b N hd hm hab hb hN;cases m with
  |zero=>omega
  |succ m=>
  by_cases e:a=b
  · subst e
    refine ⟨-1,N,?_,hN,fun _=>rfl,fun _ _=>rfl,.nil (Nat.le_refl _)⟩
    show fD _ _=_;unfold fD;simp only [show ((t.1,t.2):Int×Int)=t from rfl,SW f t a,aD,aJ (show¬(0:Int)<= -1 by omega),cond_false,beq_self_eq_true,cond_true]
  obtain ⟨i,t1,t2⟩:=aNf fok r64 (show a<b by omega) hb
  have lo:=t2.lo;have hi:=t2.hi;obtain ⟨l,N1,g1,g2,g3,g4,g5⟩:=ih m a i N (by omega) (by omega) lo (by omega) hN
  have gi:=aC N1 i (by omega)
  obtain ⟨rr,N2,k1,k2,k3,k4,k5⟩:=ih m (i+1) b (N1.set i ((N1[i]!).1,l,(N1[i]!).2.2)) (by omega) (by omega) (by omega) hb (by rw [List.length_set];exact g2)
  have gj:=aC N2 i (by omega)
  have n2i:N2[i]! =((N1[i]!).1,l,(N1[i]!).2.2):=by rw [k4 i (.inl (by omega)),bB,if_pos ⟨rfl,by omega⟩]
  have n3i:(N2.set i ((N2[i]!).1,(N2[i]!).2.1,rr))[i]! =((N1[i]!).1,l,rr):=by rw [bB,if_pos ⟨rfl,by omega⟩,n2i]
  have n3: ∀k,k≠i->(N2.set i ((N2[i]!).1,(N2[i]!).2.1,rr))[k]! =N2[k]!:=fun k hk=>by rw [bB,if_neg (fun w=>hk w.1)]
  have n1: ∀k,k≠i->(N1.set i ((N1[i]!).1,l,(N1[i]!).2.2))[k]! =N1[k]!:=fun k hk=>by rw [bB,if_neg (fun w=>hk w.1)]
  refine ⟨(i:Int),N2.set i ((N2[i]!).1,(N2[i]!).2.1,rr),?_,by rw [List.length_set];exact k2,fun k=>?_,fun k hk=>?_,?_⟩
  · show fD _ _=_
    unfold fD;simp only [show ((t.1,t.2):Int×Int)=t from rfl,t1,aD,aM (show (0:Int)<=(i:Int) by omega),cond_true,g1,gi,mY,aY (show i<1000000000 by omega),k1,gj,List.length_set,k2,hN,beq_self_eq_true]
  · by_cases q:k=i
    · rw [q,n3i,<- g3 i]
    · rw [n3 k q,k3 k,n1 k q,g3 k]
  · rw [n3 k (by omega),k4 k (by omega),n1 k (by omega),g4 k (by omega)]
  · refine .node t2 ?_ ?_
    · rw [n3i]
      refine g5.frame fun k h1 h2=>?_
      rw [n3 k (by omega),k4 k (.inl (by omega)),n1 k (by omega)]
    · rw [n3i]
      refine k5.frame fun k h1 h2=>?_
      rw [n3 k (by omega)]
theorem NP {f:List Pt} (fok:cD f) {t:Int×Int} (r64:pL t): ∃(root:Int) (N:List Nd),rJ ⟨f⟩ t=some ⟨root,N⟩/\gQ f t N root:=by
 have f1:=fok.1
 let ini:Nat->List Nd:=fun i=>(f.take i).map fun p=>(p.1,0,0)
 have il: ∀i,i<=f.length->(ini i).length=i:=fun i hi=>by show (List.map _ _).length=_;rw [List.length_map,List.length_take];omega
 have key:=bT (body:=oC) (fun i=>((i:Int),f,t.1,t.2,0,0,ini i)) f.length (fun i hi=>by
  have nx:ini (i+1)=ini i++[((f[i]!).1,0,0)]:=by
   show List.map _ _=List.map _ _++_;rw [gO hi,List.map_append];rfl
  unfold oC;simp only [aE,aM (show (i:Int)<(f.length:Int) by omega),cond_true,aC f i hi,aD,aY (show i<1000000000 by omega),nx]
  rw [cV (by rw [il i (by omega),List.length_singleton];omega),aD])
 obtain ⟨r,N,g1,g2,g3,_,g5⟩:=aHp fok r64 f.length 1000000 0 f.length (ini f.length) (by omega) (by omega) (by omega) (Nat.le_refl _) (il _ (Nat.le_refl _))
 refine ⟨r,N,?_,⟨g2,fun k hk=>?_,g5⟩⟩
 · unfold rJ ES
   rw [show aG oC (0,f,t.1,t.2,0,0,[])=_ from key];rw [aI (r:=(⟨r,N⟩:oA)) (by
    unfold oC;have g1':rI (f,t.1,t.2,0,0,(f.length:Int),ini f.length)=some (r,N):=g1;simp only [aE,aJ (show¬(f.length:Int)<(f.length:Int) by omega),cond_false,g1',aD]),aD]
 · rw [g3 k]
   show (((f.take f.length).map fun p=>((p.1,0,0):Nd))[k]!).1=_
   rw [getElem!_pos _ k (by rw [List.length_map,List.length_take];omega),List.getElem_map,List.getElem_take,getElem!_pos f k hk]
end Go.Proofs.YticklbjcnimggaaGreat
namespace Go.Proofs.YticklbjcnimggaaGreat
open Go.Vm Classical
def BB (U:List Int) (c:Int) (i:Nat):List Int:=if 0<=c then U.set c.toNat (i:Int) else U
def U4 (N:List Nd) (U:List Int):Nat->List Int
 |0=>U
 |i+1=>BB (BB (U4 N U i) (N[i]!).2.1 i) (N[i]!).2.2 i
theorem CN (U:List Int) (c:Int) (i:Nat):(BB U c i).length=U.length:=by unfold BB;split<;>simp
theorem AV (N:List Nd) (U:List Int): ∀i,(U4 N U i).length=U.length
 |0=>rfl
 |i+1=>by rw [U4,CN,CN,AV N U i]
theorem NQ (U:List Int) (c:Int) (i k:Nat) (hk:k<U.length):(BB U c i)[k]! =if c=(k:Int) then (i:Int) else U[k]!:=by
 unfold BB
 by_cases h:0<=c
 · rw [if_pos h,bB]
   by_cases q:c=(k:Int)
   · rw [if_pos ⟨by omega,by omega⟩,if_pos q]
   · rw [if_neg (fun w=>q (by omega)),if_neg q]
 · rw [if_neg h,if_neg (by omega)]
theorem Y2 {α:Type} [Inhabited α] {n i:Nat} (a:α) (h:i<n):(List.replicate n a)[i]! =a:=by
 rw [getElem!_pos _ i (by rw [List.length_replicate];exact h),List.getElem_replicate]
section
variable {f : List Pt} {t : Int × Int} {N : List Nd} {r : Int}
theorem gQ.link (h:gQ f t N r) {j:Nat} (hj:j<f.length) {c:Int} (hc:(N[j]!).2.1=c\/(N[j]!).2.2=c):c= -1\/(0<=c/\c<N.length):=by
 have ln:=h.len;rcases h.tree.kids j (Nat.zero_le _) hj c hc with e|⟨k,e,_,k2,_⟩
 · exact .inl e
 · exact .inr ⟨by omega,by omega⟩
theorem gQ.upIs (h:gQ f t N r) {U:List Int} (hU:U.length=N.length): ∀i,i<=N.length-> ∀k,k<N.length->(U4 N U i)[k]! =if lX N k<i then (lX N k:Int) else U[k]!
 |0,_,k,_=>by rw [if_neg (Nat.not_lt_zero _)];rfl
 |i+1,hi,k,hk=>by
  have ln:=h.len;have ih:=h.upIs hU i (by omega) k hk
  have p:=h.par (k:=k) (by omega)
  rw [U4,NQ _ _ _ _ (by rw [CN,AV];omega),NQ _ _ _ _ (by rw [AV];omega),ih]
  by_cases hb:Below N k i
  · have e:=p.2.2 i (by omega) hb
    rw [if_pos (show lX N k<i+1 by omega),<- e]
    rcases hb with q|q
    · by_cases w:(N[i]!).2.2=(k:Int)
      · rw [if_pos w]
      · rw [if_neg w,if_pos q]
    · rw [if_pos q]
  · have n1: ¬(N[i]!).2.1=(k:Int):=fun q=>hb (.inl q)
    have n2: ¬(N[i]!).2.2=(k:Int):=fun q=>hb (.inr q)
    rw [if_neg n2,if_neg n1];have ne:lX N k≠i:=fun q=>by
     by_cases hr:(k:Int)=r
     · have:=p.1 hr;omega
     · have:=(p.2.1 hr).2.1
       rw [q] at this;exact hb this
    by_cases q:lX N k<i
    · rw [if_pos q,if_pos (by omega)]
    · rw [if_neg q,if_neg (by omega)]
def m1S (N:List Nd) (r:Int) (i:Nat) (j:Int) (U:List Int):=((i:Int),N,(N.length:Int),(i:Int),(N[i]!).2.1,(N[i]!).2.2,j,(0:Int),r,N,U)
def m3S (N:List Nd) (r:Int) (i:Nat) (U:List Int):=(N,(N.length:Int),(i:Int),(0:Int),r,N,U)
theorem JB {U:List Int} {c:Int} (h0:0<=c) (h:c<U.length): ∃x,aN U c=some x:=⟨_,dG h0 h⟩
theorem JC {U:List Int} {c:Int} (h0:0<=c) (x:Int):bU U c x=U.set c.toNat x:=by
 obtain ⟨n,rfl⟩:=Int.eq_ofNat_of_zero_le h0;rw [mY,Int.toNat_natCast]
theorem aHq (h:gQ f t N r) (hN:N.length<=1000) {i:Nat} (hi:i<N.length) {U:List Int} (hU:U.length=N.length):aG iN (m1S N r i 0 U)=some (.next (m3S N r (i+1) (BB (BB U (N[i]!).2.1 i) (N[i]!).2.2 i))):=by
 have ln:=h.len;have l1:=h.link (j:=i) (by omega) (.inl rfl)
 have l2:=h.link (j:=i) (by omega) (.inr rfl)
 have s1:iN (m1S N r i 0 U)=some (.next (m1S N r i 1 (BB U (N[i]!).2.1 i))):=by
  unfold iN m1S BB;simp only [aM (show (0:Int)<2 by omega),cond_true,beq_self_eq_true,show aA .i64 (0+1)=1 from CB ⟨by omega,by omega⟩]
  by_cases q:0<=(N[i]!).2.1
  · obtain ⟨x,hx⟩:=JB (U:=U) q (by omega)
    rw [aM q,cond_true,hx,aD,JC q,if_pos q]
  · rw [aJ q,cond_false,if_neg q]
 have s2: ∀V:List Int,V.length=N.length->iN (m1S N r i 1 V)=some (.next (m1S N r i 2 (BB V (N[i]!).2.2 i))):=by
  intro V hV;unfold iN m1S BB;simp only [aM (show (1:Int)<2 by omega),cond_true,show ((1:Int)==0)=false from rfl,cond_false,beq_self_eq_true,show aA .i64 (1+1)=2 from CB ⟨by omega,by omega⟩]
  by_cases q:0<=(N[i]!).2.2
  · obtain ⟨x,hx⟩:=JB (U:=V) q (by omega)
    rw [aM q,cond_true,hx,aD,JC q,if_pos q]
  · rw [aJ q,cond_false,if_neg q]
 rw [aW s1,aW (s2 _ (by rw [CN];exact hU))]
 refine aI ?_;unfold iN m1S m3S;simp only [aJ (show¬(2:Int)<2 by omega),cond_false,aY (show i<1000000000 by omega)]
theorem U5 (h:gQ f t N r) (hN:N.length<=1000):aG kH ((N.length:Int),0,0,r,N,List.replicate N.length 0)=some (⟨r,N⟩,bP N N.length):=by
 have ln:=h.len;have k4:=bT (body:=kH) (fun i=>((N.length:Int),(i:Int),(0:Int),r,N,List.replicate i (-1)++List.replicate (N.length-i) 0)) N.length (fun i hi=>by
  have ll:(List.replicate i (-1:Int)++List.replicate (N.length-i) 0).length=N.length:=by rw [List.length_append,List.length_replicate,List.length_replicate];omega
  have e:(List.replicate i (-1:Int)++List.replicate (N.length-i) 0).set i (-1)=List.replicate (i+1) (-1)++List.replicate (N.length- (i+1)) 0:=by
   rw [show N.length-i=(N.length- (i+1))+1 by omega,List.replicate_succ,List.set_append_right _ _ (by rw [List.length_replicate];exact Nat.le_refl _),List.length_replicate,Nat.sub_self,List.set_cons_zero,List.replicate_succ',List.append_assoc]
   rfl
  unfold kH;simp only [aM (show (i:Int)<(N.length:Int) by omega),cond_true,aC (List.replicate i (-1:Int)++List.replicate (N.length-i) 0) i (by omega),aD,mY,e,aY (show i<1000000000 by omega)])
 have e0:List.replicate 0 (-1:Int)++List.replicate (N.length-0) 0=List.replicate N.length 0:=rfl;have e1:List.replicate N.length (-1:Int)++List.replicate (N.length-N.length) 0=List.replicate N.length (-1):=by rw [Nat.sub_self,List.replicate_zero,List.append_nil]
 rw [e0,e1] at k4;rw [show aG kH ((N.length:Int),0,0,r,N,List.replicate N.length 0)=_ from k4];have lU:(List.replicate N.length (-1:Int)).length=N.length:=List.length_replicate ..;have k3:=bT (body:=kG) (fun i=>m3S N r i (U4 N (List.replicate N.length (-1)) i)) N.length (fun i hi=>by
  have g:=aC N i hi;unfold kG
  conv=>lhs;unfold m3S
  simp only [aM (show (i:Int)<(N.length:Int) by omega),cond_true,g,aD]
  exact aHq h hN hi (by rw [AV,lU]))
 have up:=h.upIs lU N.length (Nat.le_refl _);have k2:=bT (body:=kF) (fun i=>(N,(N.length:Int),(i:Int),(0:Int),r,N,U4 N (List.replicate N.length (-1)) N.length,bP N i)) N.length (fun i hi=>by
  have g:=aC N i hi;have gu:=aC (U4 N (List.replicate N.length (-1)) N.length) i (by rw [AV,lU];exact hi)
  have el:=nD N i;rw [up i hi] at gu;unfold kF;rw [show bP N (i+1)=bP N i++D5 N i from rfl];unfold D5
  by_cases q:lX N i<N.length
  · rw [if_pos q] at gu
    simp only [aM (show (i:Int)<(N.length:Int) by omega),cond_true,g,gu,aD,aM (show (0:Int)<=(lX N i:Int) by omega),aC N (lX N i) q,aY (show i<1000000000 by omega),if_pos q]
    rw [cV (by rw [List.length_singleton];omega),aD]
  · rw [if_neg q,Y2 (-1) hi] at gu
    simp only [aM (show (i:Int)<(N.length:Int) by omega),cond_true,g,gu,aD,aJ (show¬(0:Int)<= -1 by omega),cond_false,aY (show i<1000000000 by omega),if_neg q,List.append_nil])
 have f2:aG kF (N,(N.length:Int),0,0,r,N,U4 N (List.replicate N.length (-1)) N.length,[])=some (.done (.done (⟨r,N⟩,bP N N.length))):=by
  rw [show aG kF (N,(N.length:Int),0,0,r,N,U4 N (List.replicate N.length (-1)) N.length,[])=_ from k2];refine aI ?_;unfold kF;simp only [aJ (show¬(N.length:Int)<(N.length:Int) by omega),cond_false]
 have f3:aG kG (m3S N r 0 (List.replicate N.length (-1)))=some (.done (⟨r,N⟩,bP N N.length)):=by
  rw [show aG kG (m3S N r 0 (List.replicate N.length (-1)))=_ from k3];refine aI ?_;unfold kG m3S;simp only [aE,aJ (show¬(N.length:Int)<(N.length:Int) by omega),cond_false]
  exact f2
 refine aI ?_;unfold kH;simp only [aE,aJ (show¬(N.length:Int)<(N.length:Int) by omega),cond_false]
 exact f3
def q1S (N:List Nd) (r:Int) (i:Nat) (j:Int) (U:List Int):=((i:Int),N,(N.length:Int),(i:Int),(N[i]!).2.1,(N[i]!).2.2,j,r,N,U)
def q3S (N:List Nd) (r:Int) (i:Nat) (U:List Int):=(N,(N.length:Int),(i:Int),r,N,U)
theorem aHr (h:gQ f t N r) (hN:N.length<=1000) {i:Nat} (hi:i<N.length) {U:List Int} (hU:U.length=N.length):aG iP (q1S N r i 0 U)=some (.next (q3S N r (i+1) (BB (BB U (N[i]!).2.1 i) (N[i]!).2.2 i))):=by
 have ln:=h.len;have l1:=h.link (j:=i) (by omega) (.inl rfl)
 have l2:=h.link (j:=i) (by omega) (.inr rfl)
 have s1:iP (q1S N r i 0 U)=some (.next (q1S N r i 1 (BB U (N[i]!).2.1 i))):=by
  unfold iP q1S BB;simp only [aM (show (0:Int)<2 by omega),cond_true,beq_self_eq_true,show aA .i64 (0+1)=1 from CB ⟨by omega,by omega⟩]
  by_cases q:0<=(N[i]!).2.1
  · obtain ⟨x,hx⟩:=JB (U:=U) q (by omega)
    rw [aM q,cond_true,hx,aD,JC q,if_pos q]
  · rw [aJ q,cond_false,if_neg q]
 have s2: ∀V:List Int,V.length=N.length->iP (q1S N r i 1 V)=some (.next (q1S N r i 2 (BB V (N[i]!).2.2 i))):=by
  intro V hV;unfold iP q1S BB;simp only [aM (show (1:Int)<2 by omega),cond_true,show ((1:Int)==0)=false from rfl,cond_false,beq_self_eq_true,show aA .i64 (1+1)=2 from CB ⟨by omega,by omega⟩]
  by_cases q:0<=(N[i]!).2.2
  · obtain ⟨x,hx⟩:=JB (U:=V) q (by omega)
    rw [aM q,cond_true,hx,aD,JC q,if_pos q]
  · rw [aJ q,cond_false,if_neg q]
 rw [aW s1,aW (s2 _ (by rw [CN];exact hU))]
 refine aI ?_;unfold iP q1S q3S;simp only [aJ (show¬(2:Int)<2 by omega),cond_false,aY (show i<1000000000 by omega)]
theorem U6 (h:gQ f t N r) (hN:N.length<=1000):wS ⟨r,N⟩=some (bP N N.length):=by
 have ln:=h.len;have lU:(List.replicate N.length (0:Int)).length=N.length:=List.length_replicate ..;have mk:BS (N.length:Int) (0:Int)=some (List.replicate N.length 0):=by
  unfold BS;rw [if_pos ⟨by omega,by omega⟩,Int.toNat_natCast]
 have k3:=bT (body:=mQ) (fun i=>q3S N r i (U4 N (List.replicate N.length 0) i)) N.length (fun i hi=>by
  have g:=aC N i hi;unfold mQ
  conv=>lhs;unfold q3S
  simp only [aM (show (i:Int)<(N.length:Int) by omega),cond_true,g,aD]
  exact aHr h hN hi (by rw [AV,lU]))
 have up:=h.upIs lU N.length (Nat.le_refl _);have k2:=bT (body:=kI) (fun i=>(N,(N.length:Int),(i:Int),r,N,U4 N (List.replicate N.length 0) N.length,bP N i)) N.length (fun i hi=>by
  have g:=aC N i hi;have gu:=aC (U4 N (List.replicate N.length 0) N.length) i (by rw [AV,lU];exact hi)
  have el:=nD N i;have p:=h.par (k:=i) (by omega)
  rw [up i hi] at gu;unfold kI;rw [show bP N (i+1)=bP N i++D5 N i from rfl];unfold D5
  by_cases q:(i:Int)=r
  · have e:=p.1 q
    simp only [aM (show (i:Int)<(N.length:Int) by omega),cond_true,g,aD,cZ q,cond_false,aY (show i<1000000000 by omega),if_neg (show¬lX N i<N.length by omega),List.append_nil]
  · have e:=(p.2.1 q).1
    rw [if_pos e] at gu;simp only [aM (show (i:Int)<(N.length:Int) by omega),cond_true,g,aD,eC q,gu,aC N (lX N i) e,aY (show i<1000000000 by omega),if_pos e]
    rw [cV (by rw [List.length_singleton];omega),aD])
 have f2:aG kI (N,(N.length:Int),0,r,N,U4 N (List.replicate N.length 0) N.length,[])=some (.done (bP N N.length)):=by
  rw [show aG kI (N,(N.length:Int),0,r,N,U4 N (List.replicate N.length 0) N.length,[])=_ from k2];refine aI ?_;unfold kI;simp only [aJ (show¬(N.length:Int)<(N.length:Int) by omega),cond_false]
 unfold wS;simp only [aE,beq_self_eq_true,cond_true,mk,aD];rw [show aG mQ (N,(N.length:Int),0,r,N,List.replicate N.length 0)=_ from k3];refine aI ?_;unfold mQ q3S;simp only [aE,aJ (show¬(N.length:Int)<(N.length:Int) by omega),cond_false]
 exact f2
theorem aHs (h:gQ f t N r) (hN:N.length<=1000) {i:Nat} (hi:i<N.length):aG pG ((i:Int),0,r,N,bP N i)=some (.next (((i+1:Nat):Int),r,N,bP N (i+1))):=by
 have ln:=h.len;have p:=h.par (k:=i) (by omega)
 have el:=nD N i;have g:=aC N i hi;have key:=bT (body:=pG) (fun j=>((i:Int),(j:Int),r,N,bP N i++(if lX N i<j then [((N[i]!).1,(N[lX N i]!).1)] else []))) N.length (fun j hj=>by
  have gj:=aC N j hj;unfold pG
  by_cases hb:Below N i j
  · have e:=p.2.2 j hj hb
    rw [if_neg (show¬lX N i<j by omega),if_pos (show lX N i<j+1 by omega),List.append_nil]
    have ap:bH (bP N i) [((N[i]!).1,(N[j]!).1)]=some (bP N i++[((N[i]!).1,(N[j]!).1)]):=cV (by rw [List.length_singleton];omega)
    by_cases q:(N[j]!).2.1=(i:Int)
    · simp only [aE,aM (show (j:Int)<(N.length:Int) by omega),cond_true,gj,g,aD,gX q,ap,aY (show j<1000000000 by omega),<- e]
    · have q2:(N[j]!).2.2=(i:Int):=hb.resolve_left q
      simp only [aE,aM (show (j:Int)<(N.length:Int) by omega),cond_true,gj,g,aD,fW q,cond_false,gX q2,ap,aY (show j<1000000000 by omega),<- e]
  · have ne:lX N i≠j:=fun q=>by
     by_cases hr:(i:Int)=r
     · have:=p.1 hr;omega
     · have:=(p.2.1 hr).2.1
       rw [q] at this;exact hb this
    have n1: ¬(N[j]!).2.1=(i:Int):=fun q=>hb (.inl q)
    have n2: ¬(N[j]!).2.2=(i:Int):=fun q=>hb (.inr q)
    have e:(if lX N i<j+1 then [((N[i]!).1,(N[lX N i]!).1)] else [])=(if lX N i<j then [((N[i]!).1,(N[lX N i]!).1)] else []):=by
     by_cases q:lX N i<j
     · rw [if_pos q,if_pos (by omega)]
     · rw [if_neg q,if_neg (by omega)]
    simp only [aE,aM (show (j:Int)<(N.length:Int) by omega),cond_true,gj,aD,fW n1,fW n2,cond_false,aY (show j<1000000000 by omega),e])
 have e0:(if lX N i<0 then [((N[i]!).1,(N[lX N i]!).1)] else [])=[]:=if_neg (Nat.not_lt_zero _)
 rw [e0,List.append_nil] at key;rw [show aG pG ((i:Int),0,r,N,bP N i)=_ from key];refine aI ?_;unfold pG;simp only [aE,aJ (show¬(N.length:Int)<(N.length:Int) by omega),cond_false,aY (show i<1000000000 by omega)]
 rfl
theorem XG (h:gQ f t N r) (hN:N.length<=1000):CA ⟨r,N⟩=some (bP N N.length):=by
 have k:=bT (body:=tL) (fun i=>((i:Int),r,N,bP N i)) N.length (fun i hi=>by
  unfold tL;simp only [aE,aM (show (i:Int)<(N.length:Int) by omega),cond_true]
  exact aHs h hN hi)
 unfold CA;rw [show aG tL (0,r,N,[])=_ from k];refine aI ?_;unfold tL;simp only [aE,aJ (show¬(N.length:Int)<(N.length:Int) by omega),cond_false]
end
end Go.Proofs.YticklbjcnimggaaGreat
namespace Go.Proofs.YticklbjcnimggaaGreat
open Go.Vm Classical
theorem aHt {f:List Pt} (fok:cD f) {t:Int×Int} (r:bY t) (r64:pL t): ∃(root:Int) (N:List Nd),tC ⟨f⟩ t=some (⟨root,N⟩,bP N f.length)/\gQ f t N root:=by
 have f1:=fok.1;obtain ⟨root,N,h1,h2⟩:=XF fok r r64;have ln:=h2.len;have mk:BS (N.length:Int) (0:Int)=some (List.replicate N.length 0):=by
  unfold BS;rw [if_pos ⟨by omega,by omega⟩,Int.toNat_natCast]
 refine ⟨root,N,?_,h2⟩;unfold tC;simp only [h1,aD,aE,beq_self_eq_true,cond_true,mk,List.length_replicate];rw [<- ln];exact U5 h2 (by omega)
theorem U7:pV=iQ:=rfl
theorem XH (r r':Int) (a b:List Nd) (hl:a.length<=1000000):pF ⟨r,a⟩ ⟨r',b⟩=some (decide (r=r'/\a=b)):=by
 unfold pF;simp only [aE]
 by_cases h0:r=r'
 case neg=>rw [eC h0,cond_true,aJ (fun h=>h0 h.1)]
 rw [cZ h0,cond_false]
 by_cases h:a.length=b.length
 case neg=>rw [eC (by omega),cond_true,aJ (fun q=>h (by rw [q.2]))]
 rw [cZ (by omega),cond_false]
 have key:=PJ (body:=qF) (fun i=>((i:Int),r,a,r',b)) a.length (fun i=>a[i]! =b[i]!) (r:=false) (e:=true) (fun i hi=>by
  unfold qF;simp only [aE,aM (show (i:Int)<(a.length:Int) by omega),cond_true,aC a i hi,aC b i (by omega),aD,aY (show i<1000000000 by omega)]
  rw [UY]
  by_cases q:a[i]! =b[i]!
  · rw [aM q];exact ⟨fun w=>absurd q w,fun _=>rfl⟩
  · rw [aJ q];exact ⟨fun _=>rfl,fun w=>absurd w q⟩) (by
  unfold qF;simp only [aE,aJ (show¬(a.length:Int)<(a.length:Int) by omega),cond_false])
 refine (show _=_ from key).trans ?_
 by_cases q:a=b
 · rw [if_pos (fun i _=>by rw [q]),aM ⟨h0,q⟩]
 · rw [if_neg (fun w=>q (CC h w)),aJ (fun w=>q w.2)]
theorem aHu (c:aP) (es:List (Int×Int)) (h1:es.length<=1000000) (h2:c.certs.list.length<=1000000):
 tD c es=some (decide (es.length=c.certs.list.length/\ ∀i,i<c.certs.list.length->(c.certs.list[i]!).2∈es)):=by
 unfold tD dS eM;simp only [aE]
 by_cases h0:es.length=c.certs.list.length
 case neg=>rw [fW (by omega),cond_false,aJ (fun q=>h0 q.1)]
 rw [gX (by omega),cond_true]
 have key:=mX (body:=bK) (fun i=>(c.certs.list,es,(c.certs.list.length:Int),(i:Int))) c.certs.list.length (fun i=>(c.certs.list[i]!).2∉es) (fun i=>(i:Int)) (e:= -1) (fun i hi=>by
  unfold bK xN;simp only [aM (show (i:Int)<(c.certs.list.length:Int) by omega),cond_true,aC c.certs.list i hi,aD,oE es _ h1,aY (show i<1000000000 by omega)]
  refine ⟨fun q=>?_,fun q=>?_⟩
  · rw [aJ q];rfl
  · rw [aM (Classical.not_not.1 q)];rfl) (by
  unfold bK;simp only [aJ (show¬(c.certs.list.length:Int)<(c.certs.list.length:Int) by omega),cond_false])
 by_cases hx: ∀i,i<c.certs.list.length->(c.certs.list[i]!).2∈es
 · rw [show aG bK (c.certs.list,es,(c.certs.list.length:Int),0)=_ from key.2 (fun i hi=>Classical.not_not.2 (hx i hi)),aD,aD,aJ (by omega),aM ⟨h0,hx⟩]
   rfl
 · obtain ⟨i,hi⟩:=Classical.not_forall.1 hx
   obtain ⟨hi,hn⟩:=Classical.not_imp.1 hi;obtain ⟨m,m1,m2,m3⟩:=F7 (c:=fun i=>(c.certs.list[i]!).2∉es) ⟨i,hi,hn⟩
   rw [show aG bK (c.certs.list,es,(c.certs.list.length:Int),0)=_ from key.1 m m1 m2 m3,aD,aD,aM (by omega),aJ (fun w=>hx w.2)]
   rfl
structure oF (k:dL):Prop where
 clk:bE k.clock
 tree:gQ k.clock.field.points k.clock.now k.tree.nodes k.tree.root
 cert:(k.clock.certs.list.map fun x=>x.2).Perm (bP k.tree.nodes k.clock.field.points.length)
theorem IY {c:aP} (ok:bE c) {N:List Nd} {r:Int} (tr:gQ c.field.points c.now N r):
 ((bP N c.field.points.length).length=c.certs.list.length/\ ∀i,i<c.certs.list.length->(c.certs.list[i]!).2∈bP N c.field.points.length)↔(c.certs.list.map fun x=>x.2).Perm (bP N c.field.points.length):=by
 have cl:(c.certs.list.map fun x=>x.2).length=c.certs.list.length:=List.length_map ..
 constructor
 · rintro ⟨h1,h2⟩
   refine E0 (SP ok.crt) (fun x hx=>?_) (by omega)
   obtain ⟨i,hi,rfl⟩:=GN.2 hx;exact h2 i hi
 · intro h
   exact ⟨by rw [<- h.length_eq,cl],fun i hi=>h.mem_iff.1 (GN.1 ⟨i,hi,rfl⟩)⟩
theorem PO {c:aP} (ok:bE c) {N:List Nd} {r:Int} (tr:gQ c.field.points c.now N r):
 (c.certs.list.length=(bP N c.field.points.length).length/\ ∀i,i<(bP N c.field.points.length).length->vX c.certs.list (bP N c.field.points.length)[i]!/\hZ (mH c.field.points ((bP N c.field.points.length)[i]!).2) (mH c.field.points ((bP N c.field.points.length)[i]!).1) c.now)↔(c.certs.list.map fun x=>x.2).Perm (bP N c.field.points.length):=by
 have cl:(c.certs.list.map fun x=>x.2).length=c.certs.list.length:=List.length_map ..
 obtain ⟨_,nd,ld⟩:=tr.edges ok.fld;constructor
 · rintro ⟨h1,h2⟩
   refine (E0 nd (fun x hx=>?_) (by omega)).symm
   obtain ⟨i,hi,rfl⟩:=bD.1 hx;exact GN.1 (h2 i hi).1
 · intro h
   exact ⟨by rw [<- h.length_eq,cl],fun i hi=>⟨GN.2 (h.mem_iff.2 (bG hi)),ld _ (bG hi)⟩⟩
theorem IZ {k:dL} (fit:vZ k.clock):uI k=some (if oF k then 0 else 8):=by
 unfold uI;rw [nB fit,aD]
 by_cases ok:bE k.clock
 case neg=>rw [if_neg ok,if_neg (fun h=>ok h.clk)];rfl
 rw [if_pos ok,cZ rfl,cond_false];have bd:=ok.bd;obtain ⟨r,N,h1,h2⟩:=aHt ok.fld ok.nowv ok.now64;have h1:tC k.clock.field k.clock.now=some (⟨r,N⟩,bP N k.clock.field.points.length):=h1;have same: ∀h:oF k,N=k.tree.nodes/\r=k.tree.root:=fun h=>h2.same ok.fld.2.2 h.tree
 rw [h1,aD]
 by_cases hr:r=k.tree.root
 case neg=>rw [eC hr,cond_true,if_neg (fun h=>hr (same h).2)]
 have ln:=h2.len;rw [cZ hr,cond_false,U7,GK N k.tree.nodes (by omega),aD]
 by_cases hn:N=k.tree.nodes
 case neg=>rw [aJ hn,if_neg (fun h=>hn (same h).1)];rfl
 have el:=nD N k.clock.field.points.length;rw [aM hn,Bool.not_true,cond_false];show (tD k.clock (bP N k.clock.field.points.length)).bind _=_;rw [aHu k.clock _ (by omega) (by omega),aD]
 have iff:=IY ok h2
 by_cases hj:(bP N k.clock.field.points.length).length=k.clock.certs.list.length/\ ∀i,i<k.clock.certs.list.length->(k.clock.certs.list[i]!).2∈bP N k.clock.field.points.length
 · rw [aM hj,if_pos (show oF k from ⟨ok,by rw [<- hn,<- hr];exact h2,by rw [<- hn];exact iff.1 hj⟩)];rfl
 · rw [aJ hj,if_neg (fun h:oF k=>hj (iff.2 (by rw [hn];exact h.cert)))];rfl
theorem L3 {k:dL} (fit:vZ k.clock):tM k=some (if oF k then 0 else 8):=by
 unfold tM;rw [LY fit,aD]
 by_cases ok:bE k.clock
 case neg=>rw [if_neg ok,if_neg (fun h=>ok h.clk)];rfl
 rw [if_pos ok,cZ rfl,cond_false];have bd:=ok.bd;obtain ⟨r,N,h1,h2⟩:=NP ok.fld (t:=k.clock.now) ok.now64;have h1:rJ k.clock.field k.clock.now=some ⟨r,N⟩:=h1;have same: ∀h:oF k,N=k.tree.nodes/\r=k.tree.root:=fun h=>h2.same ok.fld.2.2 h.tree
 have ln:=h2.len;have keta:k.tree=⟨k.tree.root,k.tree.nodes⟩:=rfl;rw [h1,aD,keta,XH _ _ _ _ (by omega),aD]
 by_cases hn:r=k.tree.root/\N=k.tree.nodes
 case neg=>rw [aJ hn,if_neg (fun h:oF k=>hn ⟨(same h).2,(same h).1⟩)];rfl
 have el:=nD N k.clock.field.points.length;obtain ⟨eok,_,_⟩:=h2.edges ok.fld;rw [aM hn,Bool.not_true,cond_false,XG h2 (by omega),aD,ln,aHm ok _ eok.kn,aD]
 have iff:=PO ok h2
 by_cases hj:k.clock.certs.list.length=(bP N k.clock.field.points.length).length/\ ∀i,i<(bP N k.clock.field.points.length).length->vX k.clock.certs.list (bP N k.clock.field.points.length)[i]!/\hZ (mH k.clock.field.points ((bP N k.clock.field.points.length)[i]!).2) (mH k.clock.field.points ((bP N k.clock.field.points.length)[i]!).1) k.clock.now
 · rw [aM hj,if_pos (show oF k from ⟨ok,by rw [<- hn.1,<- hn.2];exact h2,by rw [<- hn.2];exact iff.1 hj⟩)];rfl
 · rw [aJ hj,if_neg (fun h:oF k=>hj (iff.2 (by rw [hn.2];exact h.cert)))];rfl
structure HT (k:dL):Prop where
 c:NO k.clock
 n:k.tree.nodes.length<=1000
theorem wB:HT ⟨dN,⟨0,[]⟩⟩:=⟨MD,Nat.zero_le _⟩
theorem IP {k:dL} (h:HT k):vR k k=some true:=by
 have hn:=h.n;unfold vR;rw [U1 h.c,aD,cond_true,show pF k.tree k.tree=_ from XH k.tree.root k.tree.root k.tree.nodes k.tree.nodes (by omega),aD,aM ⟨rfl,rfl⟩]
theorem SX {k:dL} (h:HT k):vD k=some k:=by
 have hn:=h.n;unfold vD zY;rw [U2 h.c,aD,aZ (by omega),aD,aD]
theorem PP (k:dL):sZ k=some true\/(sZ k=some false/\HT k):=by
 unfold sZ B5
 rcases SO k.clock with e|⟨e,sh⟩
 · rw [e];exact .inl rfl
 rw [e,aD,cond_false,aD,aE]
 by_cases h:70<k.tree.nodes.length
 · rw [aM (by omega)];exact .inl rfl
 · rw [aJ (by omega)];exact .inr ⟨rfl,sh,by omega⟩
theorem U8 {c:aP} (ok:bE c) {f:List Pt} (fok:cD f) {N:List Nd} {r:Int} (tr:gQ f c.now N r):
 ∃R:aP×Int,pD c ⟨f⟩ (bP N f.length)=some R/\mC c ⟨f⟩ (bP N f.length)=some R/\(R.2=0/\XC c f (bP N f.length) R.1\/R=(dN,18)):=by
 have f1:=fok.1;obtain ⟨eok,nd,_⟩:=tr.edges fok;have el:=nD N f.length;obtain ⟨R,r1,r2,r3⟩:=aHj ok fok eok;have ee:nP f (bP N f.length)=0:=by
  unfold nP;rw [if_neg (Classical.not_not.2 eok.cv),if_neg (Classical.not_not.2 nd),if_neg (fun h=>h eok.kn)]
 have rn:=L1 ok fok (es:=bP N f.length) (by omega) (fun _=>r1)
 rw [if_pos ee] at rn;exact ⟨R,rn,r2,r3⟩
end Go.Proofs.YticklbjcnimggaaGreat
namespace Go.Proofs.YticklbjcnimggaaGreat
open Go.Vm Classical
theorem U9 {k:dL} (n:aBn k.clock) (sh:HT k) (id:Int): ∃R:dL×Int,oU k id=some R/\oV k id=some R/\HT R.1:=by
 have fit:vZ k.clock:=⟨n.now,⟨sh.c.s3,sh.c.h,sh.c.w,n.at64⟩,sh.c.d⟩;have c1:=IZ fit;have c2:=L3 fit
 by_cases ok:oF k
 case neg=>
  rw [if_neg ok] at c1 c2;refine ⟨(⟨dN,⟨0,[]⟩⟩,8),?_,?_,wB⟩
  · unfold oU cW;rw [c1];rfl
  · unfold oV;rw [c2];rfl
 rw [if_pos ok] at c1 c2;have fok:=ok.clk.fld
 by_cases hid:xX k.clock.field.points id
 case neg=>
  obtain ⟨t1,t2⟩:=PM fok hid;have t1:mP k.clock.field id=some (⟨[]⟩,6):=t1;have t2:mV k.clock.field id=some (⟨[]⟩,6):=t2;refine ⟨(⟨dN,⟨0,[]⟩⟩,6),?_,?_,wB⟩
  · unfold oU cW pX;rw [c1,aD,cZ rfl,cond_false,t1];rfl
  · unfold oV;rw [c2,aD,cZ rfl,cond_false,t2];rfl
 obtain ⟨q,hq,rfl⟩:=hid;obtain ⟨t1,t2⟩:=U3 fok hq;have t1:mP k.clock.field (k.clock.field.points[q]!).1=some (⟨k.clock.field.points.eraseIdx q⟩,0):=t1;have t2:mV k.clock.field (k.clock.field.points[q]!).1=some (⟨k.clock.field.points.eraseIdx q⟩,0):=t2;have fok':=aBo fok q;have f1:=fok'.1;obtain ⟨r,N,h1,h2⟩:=XF fok' ok.clk.nowv ok.clk.now64
 obtain ⟨r',N',g1,g2⟩:=NP fok' (t:=k.clock.now) ok.clk.now64;obtain ⟨e1,e2⟩:=g2.same fok'.2.2 h2;subst e1 e2;have ln:=h2.len;obtain ⟨R,r1,r2,r3⟩:=U8 ok.clk fok' h2;rw [<- ln] at r1 r2;have ee:=U6 h2 (by omega)
 have eo:=XG h2 (by omega)
 rcases r3 with ⟨q0,qq⟩|he
 · refine ⟨(⟨R.1,⟨r',N'⟩⟩,0),?_,?_,⟨qq.ok.short,by show N'.length<=1000;omega⟩⟩
   · unfold oU cW pX
     simp only [c1,aD,t1,h1,ee,r1,q0,show ((0:Int) !=0)=false from rfl,cond_false]
   · unfold oV sG
     simp only [c2,aD,t2,g1,eo,r2,q0,show ((0:Int) !=0)=false from rfl,cond_false]
 · refine ⟨(⟨dN,⟨0,[]⟩⟩,18),?_,?_,wB⟩
   · unfold oU cW pX
     simp only [c1,aD,t1,h1,ee,r1,he,show ((0:Int) !=0)=false from rfl,show ((18:Int) !=0)=true from rfl,cond_false,cond_true]
   · unfold oV sG
     simp only [c2,aD,t2,g1,eo,r2,he,show ((0:Int) !=0)=false from rfl,show ((18:Int) !=0)=true from rfl,cond_false,cond_true]
theorem BC (k:dL) (id:Int) (n:aBn k.clock):rL k id=some true:=by
 unfold rL;rcases PP k with e|⟨e,sh⟩
 · rw [e];rfl
 rw [e,aD,cond_false,SX sh,aD];obtain ⟨R,r1,r2,r3⟩:=U9 n sh id;rw [r1,aD,r2,aD,IP r3,aD,cond_true,gX rfl,cond_true,IP sh,aD]
end Go.Proofs.YticklbjcnimggaaGreat
