/- Plain laws (4). -/
import Derived.Test.YtfejhjllooomlaaGreatEQM3
import Derived.Test.YtfejhjllooomlaaGreatEQS1
import Derived.Test.YtfejhjllooomlaaGreatEVm3
namespace Go.Proofs.YtfejhjllooomlaaGreat
open Go.Vm Classical
theorem M3 {f:List Pt} (fok:dH f) {l:List Int} (pm:(nF f).Perm l):uX f (cP l):=by
 have nd:=pm.nodup_iff.1 (kY fok.2.2);have f1:=fok.1;have ln:l.length=f.length:=by rw [<- pm.length_eq];exact List.length_map ..
 have hp: ∀e∈cP l,lX f e:=fun e he=>⟨mK.1 (pm.mem_iff.2 (IQ he).1),mK.1 (pm.mem_iff.2 (IQ he).2)⟩
 refine ⟨by rw [iZ];omega,fun e he=>?_,hp⟩
 obtain ⟨⟨p1,p2⟩,q1,q2⟩:=And.intro (eA fok (hp e he).1) (eA fok (hp e he).2);have ne:=TU nd he;unfold fX at p1 q1;unfold jO;omega
def jQ (l:List Int) (i j:Nat):List Int:=(l.set i l[j]!).set j l[i]!
theorem vD {l:List Int} {i j:Nat} (hi:i<l.length) (hj:j<l.length):(jQ l i j).Perm l:=by
 unfold jQ;rw [getElem!_pos l i hi,getElem!_pos l j hj];exact List.set_set_perm hi hj
end Go.Proofs.YtfejhjllooomlaaGreat
namespace Go.Proofs.YtfejhjllooomlaaGreat
open Go.Vm Classical
theorem aB0 {f:List Pt} (fok:dH f) {t:Int×Int} (r64:mH t) {a b:Int} (ha:nU f a) (hb:nU f b):pC ⟨f⟩ t a b=some (decide (bQ (dR f a) (dR f b) t)):=by
 obtain ⟨j,j1,j2,j3⟩:=A2 fok ha;obtain ⟨k,k1,k2,k3⟩:=A2 fok hb;unfold pC;simp only [j2,k2,aB,aC f j j1,aC f k k1,j3,k3,L9 (eA fok ha).1 (eA fok hb).1 r64]
theorem X4 {i:Nat} (hi:i<1000000000) (h0:0<i):aA .i64 (Int.tdiv (aA .i64 ((i:Int) -1)) 2)=(((i-1) / 2:Nat):Int):=by
 rw [show aA .i64 ((i:Int) -1)=((i-1:Nat):Int) from xE hi h0,Int.tdiv_eq_ediv_of_nonneg (by omega),CT ⟨by omega,by omega⟩];omega
noncomputable def BO (f:List Pt) (t:Int×Int):Nat->List Int->List Int
 |0,l=>l
 |i+1,l=>if bQ (dR f l[i+1]!) (dR f l[i / 2]!) t then BO f t (i / 2) (jQ l (i+1) (i / 2)) else l
termination_by i=>i
decreasing_by omega
theorem VY (f:List Pt) (t:Int×Int): ∀(i:Nat) (l:List Int),i<l.length->(BO f t i l).Perm l:=by
 intro i
 induction i using Nat.strongRecOn with
 |ind i ih=>
  intro l hi;cases i with
  |zero=>unfold BO;exact List.Perm.refl _
  |succ i=>
   unfold BO;split
   · have sp:=vD (l:=l) hi (show i / 2<l.length by omega)
     exact (ih (i / 2) (by omega) _ (by rw [sp.length_eq];omega)).trans sp
   · exact List.Perm.refl _
end Go.Proofs.YtfejhjllooomlaaGreat
namespace Go.Proofs.YtfejhjllooomlaaGreat
open Go.Vm Classical
theorem QM (p q:Pt) (t:Int×Int):L7 p q t=(p.2.1*t.2+p.2.2*t.1) - (q.2.1*t.2+q.2.2*t.1):=by
 rw [D0,Int.sub_mul,Int.sub_mul];omega
theorem tQ {p q r:Pt} {t:Int×Int} (h1:bQ p q t) (h2:bQ q r t):bQ p r t:=by
 unfold bQ at*;rw [QM] at*;generalize p.2.1*t.2+p.2.2*t.1=a at*;generalize q.2.1*t.2+q.2.2*t.1=b at*;generalize r.2.1*t.2+r.2.2*t.1=c at*;omega
theorem jR {p q:Pt} (t:Int×Int) (h:p.1≠q.1) (hn: ¬bQ p q t):bQ q p t:=by
 unfold bQ at*;rw [QM] at*;generalize p.2.1*t.2+p.2.2*t.1=a at*;generalize q.2.1*t.2+q.2.2*t.1=b at*;omega
theorem D1 (l:List Int) (i j:Nat):(jQ l i j).length=l.length:=by
 unfold jQ;rw [List.length_set,List.length_set]
end Go.Proofs.YtfejhjllooomlaaGreat
namespace Go.Proofs.YtfejhjllooomlaaGreat
open Go.Vm Classical
structure SO (P:Int->Int->Prop) (S:Int->Prop):Prop where
 irr: ∀a,S a-> ¬P a a
 tr: ∀a b c,S a->S b->S c->P a b->P b c->P a c
 tot: ∀a b,S a->S b->a≠b->P a b\/P b a
abbrev par (j:Nat):Nat:=(j-1) / 2
def Hp (P:Int->Int->Prop) (l:List Int):Prop:= ∀j,0<j->j<l.length-> ¬P l[j]! l[par j]!
section
variable {P : Int -> Int -> Prop} {S : Int -> Prop}
theorem SO.asym (o:SO P S) {a b:Int} (ha:S a) (hb:S b) (h:P a b): ¬P b a:=fun k=>o.irr a ha (o.tr a b a ha hb ha h k)
theorem SO.ntr (o:SO P S) {a b c:Int} (ha:S a) (hb:S b) (hc:S c) (h1: ¬P a b) (h2: ¬P b c): ¬P a c:=fun h=>by
 by_cases e:b=c
 · exact h1 (e▸h)
 · rcases o.tot b c hb hc e with k|k
   · exact h2 k
   · exact h1 (o.tr a c b ha hc hb h k)
theorem SO.up (o:SO P S) {a b c:Int} (ha:S a) (hb:S b) (hc:S c) (h1:P b c) (h2: ¬P a c): ¬P a b:=fun h=>h2 (o.tr a b c ha hb hc h h1)
theorem oR (l:List Int) {i j:Nat} (hi:i<l.length) (hj:j<l.length) (k:Nat):(jQ l i j)[k]! =if k=j then l[i]! else if k=i then l[j]! else l[k]!:=by
 unfold jQ;rw [bF,List.length_set,bF]
 by_cases c:k=j
 · rw [if_pos ⟨c,hj⟩,if_pos c]
 · rw [if_neg (fun h=>c h.1),if_neg c]
   by_cases d:k=i
   · rw [if_pos ⟨d,hi⟩,if_pos d]
   · rw [if_neg (fun h=>d h.1),if_neg d]
structure aIf (P:Int->Int->Prop) (l:List Int) (i:Nat):Prop where
 lt:i<l.length
 el: ∀j,0<j->j<l.length->j≠i-> ¬P l[j]! l[par j]!
 gr: ∀j,0<j->j<l.length->par j=i->0<i-> ¬P l[j]! l[par i]!
theorem ZO (o:SO P S) {f:List Pt} {t:Int×Int} (hP: ∀a b,P a b↔bQ (dR f a) (dR f b) t): ∀(i:Nat) (l:List Int),(∀x∈l,S x)->aIf P l i->Hp P (BO f t i l):=by
 intro i
 induction i using Nat.strongRecOn with
 |ind i ih=>
  intro l hS v;have sm: ∀j,j<l.length->S l[j]!:=fun j hj=>hS _ (bA hj)
  cases i with
  |zero=>unfold BO;exact fun j h1 h2=>v.el j h1 h2 (by omega)
  |succ i=>
   have hi:=v.lt;have hp:i / 2<l.length:=by omega
   have pe:par (i+1)=i / 2:=by simp only [par];omega
   unfold BO;split
   · rename_i hc
     have hc:P l[i+1]! l[i / 2]!:=(hP _ _).2 hc;refine ih (i / 2) (by omega) _ (fun x hx=>hS x ((vD hi hp).mem_iff.1 hx)) ⟨by rw [D1];exact hp,fun j h1 h2 h3=>?_,fun j h1 h2 h3 h4=>?_⟩
     · rw [D1] at h2
       rw [oR l hi hp,oR l hi hp,if_neg h3]
       by_cases a:j=i+1
       · subst a
         rw [if_pos rfl,pe,if_pos rfl];exact o.asym (sm _ hi) (sm _ hp) hc
       · rw [if_neg a]
         by_cases b:par j=i / 2
         · rw [b,if_pos rfl]
           have:=v.el j h1 h2 a
           rw [b] at this;exact o.up (sm _ h2) (sm _ hi) (sm _ hp) hc this
         · rw [if_neg b]
           by_cases d:par j=i+1
           · rw [if_pos d]
             have:=v.gr j h1 h2 d (by omega)
             rw [pe] at this;exact this
           · rw [if_neg d];exact v.el j h1 h2 a
     · rw [D1] at h2
       have hq:par (i / 2)<l.length:=by simp only [par];omega
       have ne1:par (i / 2)≠i / 2:=by simp only [par];omega
       have ne2:par (i / 2)≠i+1:=by simp only [par];omega
       rw [oR l hi hp,oR l hi hp,if_neg ne1,if_neg ne2,if_neg (by simp only [par] at h3;omega)]
       have gp:=v.el (i / 2) h4 hp (by omega)
       by_cases a:j=i+1
       · rw [if_pos a];exact gp
       · rw [if_neg a]
         have:=v.el j h1 h2 a
         rw [h3] at this;exact o.ntr (sm _ h2) (sm _ hp) (sm _ hq) this gp
   · rename_i hc
     have hc: ¬P l[i+1]! l[i / 2]!:=fun h=>hc ((hP _ _).1 h)
     intro j h1 h2
     by_cases a:j=i+1
     · subst a;rw [pe];exact hc
     · exact v.el j h1 h2 a
end
end Go.Proofs.YtfejhjllooomlaaGreat
namespace Go.Proofs.YtfejhjllooomlaaGreat
open Go.Vm Classical
end Go.Proofs.YtfejhjllooomlaaGreat
namespace Go.Proofs.YtfejhjllooomlaaGreat
open Go.Vm Classical
end Go.Proofs.YtfejhjllooomlaaGreat
namespace Go.Proofs.YtfejhjllooomlaaGreat
open Go.Vm Classical
end Go.Proofs.YtfejhjllooomlaaGreat
namespace Go.Proofs.YtfejhjllooomlaaGreat
open Go.Vm Classical
theorem OS {l:List Int} {x:Int} (hl:l.length<=1000000) (hx:x∈l): ∃k,k<l.length/\l[k]! =x/\gD l x=some (k:Int)/\S3 l x=some (k:Int):=by
 obtain ⟨k,k1,k2,k3⟩:=I7 (c:=fun k=>l[k]! =x) (aU.1 hx)
 have p:=lI (body:=qG) (fun i=>(l,x,(i:Int))) l.length (fun i=>l[i]! =x) (fun i=>(i:Int)) (e:= -1) (fun i hi=>by
  unfold qG;simp only [aF,aT (show (i:Int)<(l.length:Int) by omega),cond_true,aC l i hi,aB,bG (show i<1000000000 by omega)]
  refine ⟨fun h=>?_,fun h=>?_⟩
  · rw [gG h];rfl
  · rw [gA h];rfl) (by
  unfold qG;simp only [aF,aM (show¬(l.length:Int)<(l.length:Int) by omega),cond_false])
 exact ⟨k,k1,k2,(M2 l x hl).1 k k1 k2 k3,p.1 k k1 k2 k3⟩
end Go.Proofs.YtfejhjllooomlaaGreat
namespace Go.Proofs.YtfejhjllooomlaaGreat
open Go.Vm Classical
end Go.Proofs.YtfejhjllooomlaaGreat
namespace Go.Proofs.YtfejhjllooomlaaGreat
open Go.Vm Classical
theorem tk {l:List Int} {m:Nat} {x:Int} (h:l.length=m):(l++[x]).take m=l:=by rw [<- h,List.take_left]
section
variable {k : eB} {f : List Pt} {m n0 : Nat} {x : Int}
end
end Go.Proofs.YtfejhjllooomlaaGreat
namespace Go.Proofs.YtfejhjllooomlaaGreat
open Go.Vm Classical
section
variable {k : eB} {P : Pt} {f : List Pt} {m : Nat}
end
end Go.Proofs.YtfejhjllooomlaaGreat
namespace Go.Proofs.YtfejhjllooomlaaGreat
open Go.Vm Classical
end Go.Proofs.YtfejhjllooomlaaGreat
namespace Go.Proofs.YtfejhjllooomlaaGreat
open Go.Vm Classical
end Go.Proofs.YtfejhjllooomlaaGreat
namespace Go.Proofs.YtfejhjllooomlaaGreat
abbrev Nd:=Int×Int×Int
structure TX (P:Nat->Nat->Prop) (a b i:Nat):Prop where
 lo:a<=i
 hi:i<b
 top: ∀j,a<=j->j<b->j≠i->P i j
inductive qJ (P:Nat->Nat->Prop) (N:List Nd):Nat->Nat->Int->Prop
 |nil {a b:Nat} (h:b<=a):qJ P N a b (-1)
 |node {a b i:Nat} (h:TX P a b i) (l:qJ P N a i (N[i]!).2.1) (r:qJ P N (i+1) b (N[i]!).2.2):qJ P N a b (i:Int)
structure aIg (P:Nat->Nat->Prop) (n:Nat):Prop where
 tr: ∀i j k,i<n->j<n->k<n->P i j->P j k->P i k
 asy: ∀i j,i<n->j<n->P i j-> ¬P j i
 tot: ∀i j,i<n->j<n->i≠j-> ¬P i j->P j i
theorem TX.one {P:Nat->Nat->Prop} {n a b i j:Nat} (o:aIg P n) (hb:b<=n) (h:TX P a b i) (k:TX P a b j):i=j:=by
 refine Classical.byContradiction fun hne=>?_
 have:=h.hi;have:=k.hi
 exact o.asy i j (by omega) (by omega) (h.top j k.lo k.hi (fun e=>hne e.symm)) (k.top i h.lo h.hi hne)
theorem qJ.link {P:Nat->Nat->Prop} {N:List Nd} {a b:Nat} {r:Int} (h:qJ P N a b r):(b<=a/\r= -1)\/(∃i:Nat,r=(i:Int)/\a<=i/\i<b):=by
 cases h with
 |nil h=>exact .inl ⟨h,rfl⟩
 |node h l r=>exact .inr ⟨_,rfl,h.lo,h.hi⟩
theorem qJ.unique {P:Nat->Nat->Prop} {n:Nat} (o:aIg P n) {N N':List Nd} {a b:Nat} {r:Int} (h:qJ P N a b r): ∀{r':Int},b<=n->qJ P N' a b r'->r=r'/\ ∀k,a<=k->k<b->(N[k]!).2=(N'[k]!).2:=by
 induction h with
 |nil h=>
  intro r' hb h';cases h' with
  |nil _=>exact ⟨rfl,fun k h1 h2=>by omega⟩
  |node t _ _=>have:=t.lo;have:=t.hi;omega
 | @node a b i h l r ihl ihr=>
  intro r' hb h';have lo:=h.lo;have hi:=h.hi;cases h' with
  |nil q=>omega
  | @node _ _ j t l' r'=>
   have e:=h.one o hb t;subst e;obtain ⟨e1,f1⟩:=ihl (by omega) l'
   obtain ⟨e2,f2⟩:=ihr hb r';refine ⟨rfl,fun k h1 h2=>?_⟩
   rcases Nat.lt_trichotomy k i with q|q|q
   · exact f1 k h1 q
   · subst q;exact Prod.ext e1 e2
   · exact f2 k (by omega) h2
theorem qJ.other {P Q:Nat->Nat->Prop} {n:Nat} (o:aIg Q n) {N:List Nd} {a b:Nat} {r:Int} (h:qJ P N a b r):b<=n->(∀k j:Nat,a<=k->k<b->a<=j->j<b->((N[k]!).2.1=(j:Int)\/(N[k]!).2.2=(j:Int))->Q k j)->qJ Q N a b r:=by
 induction h with
 |nil h=>exact fun _ _=> .nil h
 | @node a b i h l r ihl ihr=>
  intro hb q;have lo:=h.lo;have hi:=h.hi;have tl:=ihl (by omega) fun k j h1 h2 h3 h4=>q k j h1 (by omega) h3 (by omega)
  have tr:=ihr hb fun k j h1 h2 h3 h4=>q k j (by omega) h2 (by omega) h4
  refine .node ⟨lo,hi,fun j h1 h2 hne=>?_⟩ tl tr
  rcases Nat.lt_or_ge j i with hj|hj
  · generalize hr:(N[i]!).2.1=s at tl
    cases tl with
    |nil q=>omega
    | @node _ _ m t _ _=>
     have t1:=t.lo;have t2:=t.hi;have qm:=q i m lo hi t1 (by omega) (.inl hr)
     by_cases e:j=m
     · rw [e];exact qm
     · exact o.tr i m j (by omega) (by omega) (by omega) qm (t.top j h1 hj e)
  · generalize hr:(N[i]!).2.2=s at tr
    cases tr with
    |nil q=>omega
    | @node _ _ m t _ _=>
     have t1:=t.lo;have t2:=t.hi;have qm:=q i m lo hi (by omega) t2 (.inr hr)
     by_cases e:j=m
     · rw [e];exact qm
     · exact o.tr i m j (by omega) (by omega) (by omega) qm (t.top j (by omega) h2 e)
theorem qJ.kids {P:Nat->Nat->Prop} {N:List Nd} {a b:Nat} {r:Int} (h:qJ P N a b r): ∀k,a<=k->k<b-> ∀c:Int,((N[k]!).2.1=c\/(N[k]!).2.2=c)->c= -1\/ ∃j:Nat,c=(j:Int)/\a<=j/\j<b/\j≠k/\P k j/\r≠c:=by
 induction h with
 |nil h=>intro k h1 h2;omega
 | @node a b i h l r ihl ihr=>
  have lo:=h.lo;have hi:=h.hi;intro k h1 h2 c hc;rcases Nat.lt_trichotomy k i with q|q|q
  · rcases ihl k h1 q c hc with e|⟨j,e,j1,j2,j3,j4,_⟩
    · exact .inl e
    · exact .inr ⟨j,e,j1,by omega,j3,j4,by rw [e];omega⟩
  · subst q
    rcases hc with hc|hc
    · rcases l.link with ⟨_,e⟩|⟨j,e,j1,j2⟩
      · exact .inl (hc▸e)
      · exact .inr ⟨j,hc▸e,j1,by omega,by omega,h.top j j1 (by omega) (by omega),by rw [<- hc,e];omega⟩
    · rcases r.link with ⟨_,e⟩|⟨j,e,j1,j2⟩
      · exact .inl (hc▸e)
      · exact .inr ⟨j,hc▸e,by omega,j2,by omega,h.top j (by omega) j2 (by omega),by rw [<- hc,e];omega⟩
  · rcases ihr k (by omega) h2 c hc with e|⟨j,e,j1,j2,j3,j4,_⟩
    · exact .inl e
    · exact .inr ⟨j,e,by omega,j2,j3,j4,by rw [e];omega⟩
theorem qJ.up {P:Nat->Nat->Prop} {N:List Nd} {a b:Nat} {r:Int} (h:qJ P N a b r): ∀k:Nat,a<=k->k<b->(k:Int)≠r-> ∃j,a<=j/\j<b/\((N[j]!).2.1=(k:Int)\/(N[j]!).2.2=(k:Int))/\ ∀m,a<=m->m<b->((N[m]!).2.1=(k:Int)\/(N[m]!).2.2=(k:Int))->m=j:=by
 induction h with
 |nil h=>intro k h1 h2;omega
 | @node a b i h l r ihl ihr=>
  have lo:=h.lo;have hi:=h.hi;have lk:=l.kids;have rk:=r.kids;intro k h1 h2 hne;have hki:k≠i:=fun e=>hne (by rw [e])
  rcases Nat.lt_or_ge k i with q|q
  · by_cases er:(k:Int)=(N[i]!).2.1
    · refine ⟨i,lo,hi,.inl er.symm,fun m m1 m2 hm=>?_⟩
      rcases Nat.lt_trichotomy m i with w|w|w
      · rcases lk m m1 w _ hm with e|⟨j,e,_,_,_,_,hr⟩
        · omega
        · exact absurd er.symm hr
      · exact w
      · rcases rk m (by omega) m2 _ hm with e|⟨j,e,j1,_⟩<;>omega
    · obtain ⟨j,j1,j2,j3,j4⟩:=ihl k h1 q er
      refine ⟨j,j1,by omega,j3,fun m m1 m2 hm=>?_⟩
      rcases Nat.lt_trichotomy m i with w|w|w
      · exact j4 m m1 w hm
      · subst w
        rcases hm with hm|hm
        · exact absurd hm.symm er
        · rcases r.link with ⟨_,e⟩|⟨p,e,p1,p2⟩<;>omega
      · rcases rk m (by omega) m2 _ hm with e|⟨p,e,p1,_⟩<;>omega
  · by_cases er:(k:Int)=(N[i]!).2.2
    · refine ⟨i,lo,hi,.inr er.symm,fun m m1 m2 hm=>?_⟩
      rcases Nat.lt_trichotomy m i with w|w|w
      · rcases lk m m1 w _ hm with e|⟨j,e,_,j2,_⟩<;>omega
      · exact w
      · rcases rk m (by omega) m2 _ hm with e|⟨j,e,_,_,_,_,hr⟩
        · omega
        · exact absurd er.symm hr
    · obtain ⟨j,j1,j2,j3,j4⟩:=ihr k (by omega) h2 er
      refine ⟨j,by omega,j2,j3,fun m m1 m2 hm=>?_⟩
      rcases Nat.lt_trichotomy m i with w|w|w
      · rcases lk m m1 w _ hm with e|⟨p,e,_,p2,_⟩<;>omega
      · subst w
        rcases hm with hm|hm
        · rcases l.link with ⟨_,e⟩|⟨p,e,p1,p2⟩<;>omega
        · exact absurd hm.symm er
      · exact j4 m (by omega) m2 hm
end Go.Proofs.YtfejhjllooomlaaGreat
namespace Go.Proofs.YtfejhjllooomlaaGreat
inductive M4 (P:Nat->Nat->Prop) (N:List Nd):Nat->Nat->Int->List Nat->Prop
 |nil {a b:Nat} (h:b<=a):M4 P N a b (-1) []
 |cons {a b k:Nat} {es:List Nat} (h:TX P a b k) (l:qJ P N a k (N[k]!).2.1) (r:M4 P N (k+1) b (N[k]!).2.2 es):M4 P N a b (k:Int) (k::es)
theorem M4.tree {P:Nat->Nat->Prop} {N:List Nd} {a b:Nat} {r:Int} {es:List Nat} (h:M4 P N a b r es):qJ P N a b r:=by
 induction h with
 |nil h=>exact .nil h
 |cons h l r ih=>exact .node h l ih
theorem M4.mem {P:Nat->Nat->Prop} {N:List Nd} {a b:Nat} {r:Int} {es:List Nat} (h:M4 P N a b r es): ∀e∈es,a<=e/\e<b:=by
 induction h with
 |nil h=>intro e he;cases he
 |cons h l r ih=>
  intro e he;have lo:=h.lo;have hi:=h.hi;rcases List.mem_cons.1 he with rfl|he
  · exact ⟨lo,hi⟩
  · have:=ih e he;omega
end Go.Proofs.YtfejhjllooomlaaGreat
namespace Go.Proofs.YtfejhjllooomlaaGreat
open Go.Vm Classical
def ahP (f:List Pt) (t:Int×Int) (i j:Nat):Prop:=bQ f[i]! f[j]! t
theorem fI {p q:Pt} {t:Int×Int} (h:bQ p q t): ¬bQ q p t:=by
 unfold bQ at*;rw [QM] at*;generalize p.2.1*t.2+p.2.2*t.1=a at*;generalize q.2.1*t.2+q.2.2*t.1=b at*;omega
theorem aIh {f:List Pt} (h:fT f) (t:Int×Int):aIg (ahP f t) f.length where
 tr:=fun _ _ _ _ _ _ h1 h2=>tQ h1 h2
 asy:=fun _ _ _ _ h=>fI h
 tot:=fun _ _ hi hj hne hn=>jR t (fun e=>hne (rL h hi hj e)) hn
structure DB (f:List Pt) (t:Int×Int) (N:List Nd) (r:Int):Prop where
 len:N.length=f.length
 ids: ∀k,k<f.length->(N[k]!).1=(f[k]!).1
 tree:qJ (ahP f t) N 0 f.length r
theorem DB.same {f:List Pt} (h:fT f) {t:Int×Int} {N N':List Nd} {r r':Int} (a:DB f t N r) (b:DB f t N' r'):N=N'/\r=r':=by
 obtain ⟨e1,e2⟩:=a.tree.unique (aIh h t) (Nat.le_refl _) b.tree;refine ⟨GQ (by rw [a.len,b.len]) fun k hk=>?_,e1⟩
 have hk:k<f.length:=by rw [<- a.len];exact hk
 exact Prod.ext (by rw [a.ids k hk,b.ids k hk]) (e2 k (Nat.zero_le _) hk)
def Below (N:List Nd) (k j:Nat):Prop:=(N[j]!).2.1=(k:Int)\/(N[j]!).2.2=(k:Int)
noncomputable def JT (N:List Nd) (k:Nat):Nat:=if h: ∃j,j<N.length/\Below N k j then h.choose else N.length
noncomputable def aPF (N:List Nd) (k:Nat):List (Int×Int):=if JT N k<N.length then [((N[k]!).1,(N[JT N k]!).1)] else []
noncomputable def aB1 (N:List Nd):Nat->List (Int×Int)
 |0=>[]
 |k+1=>aB1 N k++aPF N k
section
variable {f : List Pt} {t : Int × Int} {N : List Nd} {r : Int}
theorem DB.par (h:DB f t N r) {k:Nat} (hk:k<f.length):((k:Int)=r->JT N k=N.length)/\((k:Int)≠r->JT N k<N.length/\Below N k (JT N k)/\JT N k≠k/\ahP f t (JT N k) k)/\ ∀m,m<N.length->Below N k m->m=JT N k:=by
 have ln:=h.len
 by_cases hr:(k:Int)=r
 · have none: ¬ ∃j,j<N.length/\Below N k j:=by
    rintro ⟨j,hj,hb⟩;rcases h.tree.kids j (Nat.zero_le _) (by omega) (k:Int) hb with e|⟨_,_,_,_,_,_,e⟩
    · omega
    · exact e hr.symm
   have e:JT N k=N.length:=by unfold JT;rw [dif_neg none]
   exact ⟨fun _=>e,fun q=>absurd hr q,fun m hm hb=>absurd ⟨m,hm,hb⟩ none⟩
 · obtain ⟨j,_,j2,j3,j4⟩:=h.tree.up k (Nat.zero_le _) hk hr
   have ex: ∃j,j<N.length/\Below N k j:=⟨j,by omega,j3⟩
   have e:JT N k=j:=by
    unfold JT;rw [dif_pos ex]
    have:=ex.choose_spec
    exact j4 _ (Nat.zero_le _) (by omega) this.2
   refine ⟨fun q=>absurd q hr,fun _=>?_,fun m hm hb=>by rw [e];exact j4 m (Nat.zero_le _) (by omega) hb⟩
   rw [e];refine ⟨by omega,j3,?_,?_⟩
   · rcases h.tree.kids j (Nat.zero_le _) j2 (k:Int) j3 with q|⟨i,q,_,_,q2,_⟩
     · omega
     · intro w;omega
   · rcases h.tree.kids j (Nat.zero_le _) j2 (k:Int) j3 with q|⟨i,q,_,_,_,q2,_⟩
     · omega
     · have:i=k:=by omega
       rw [<- this];exact q2
end
end Go.Proofs.YtfejhjllooomlaaGreat
namespace Go.Proofs.YtfejhjllooomlaaGreat
open Go.Vm Classical
def o1 (f:List Pt) (t:Int×Int) (e c:Nat) (i:Nat) (root:Int) (N:List Nd) (E:List Int) (left:Int):=
 (e,c,(i:Int),f,(f.length:Int),(i:Int),f,t.1,t.2,(0:Int),root,N,E,(f[i]!).1,(f[i]!).2.1,(f[i]!).2.2,(f[i]!).1,left,(-1:Int))
end Go.Proofs.YtfejhjllooomlaaGreat
namespace Go.Proofs.YtfejhjllooomlaaGreat
open Go.Vm Classical
end Go.Proofs.YtfejhjllooomlaaGreat
namespace Go.Proofs.YtfejhjllooomlaaGreat
open Go.Vm Classical
section
variable {f : List Pt} {t : Int × Int} {N : List Nd} {r : Int}
theorem DB.link (h:DB f t N r) {j:Nat} (hj:j<f.length) {c:Int} (hc:(N[j]!).2.1=c\/(N[j]!).2.2=c):c= -1\/(0<=c/\c<N.length):=by
 have ln:=h.len;rcases h.tree.kids j (Nat.zero_le _) hj c hc with e|⟨k,e,_,k2,_⟩
 · exact .inl e
 · exact .inr ⟨by omega,by omega⟩
end
end Go.Proofs.YtfejhjllooomlaaGreat
namespace Go.Proofs.YtfejhjllooomlaaGreat
open Go.Vm Classical
structure aB2 (k:P7):Prop where
 clk:bB k.clock
 tree:DB k.clock.field.points k.clock.now k.tree.nodes k.tree.root
 cert:(k.clock.certs.list.map fun x=>x.2).Perm (aB1 k.tree.nodes k.clock.field.points.length)
end Go.Proofs.YtfejhjllooomlaaGreat
namespace Go.Proofs.YtfejhjllooomlaaGreat
open Go.Vm Classical
end Go.Proofs.YtfejhjllooomlaaGreat
namespace Go.Proofs.YtfejhjllooomlaaGreat
open Go.Vm Classical
end Go.Proofs.YtfejhjllooomlaaGreat
namespace Go.Proofs.YtfejhjllooomlaaGreat
open Go.Vm Classical
theorem M5 {α:Type} [BEq α] [LawfulBEq α]: ∀{a b:List α},a.Nodup->(∀x∈a,x∈b)->a.length<=b.length
 | [],_,_,_=>Nat.zero_le _
 |x::a,b,hd,h=>by
  rw [List.nodup_cons] at hd;have hx:=h x List.mem_cons_self
  have:=M5 (a:=a) (b:=b.erase x) hd.2 (fun y hy=>by
   rw [List.mem_erase_of_ne (fun e=>hd.1 (by rw [<- e];exact hy))]
   exact h y (List.mem_cons_of_mem _ hy))
  rw [List.length_erase_of_mem hx] at this
  have:=List.length_pos_of_mem hx
  rw [List.length_cons];omega
theorem JH {α:Type} [BEq α] [LawfulBEq α] {a b:List α} (ha:a.Nodup) (hb:b.Nodup) (h1: ∀x∈a,x∈b) (h2: ∀x∈b,x∈a):a.Perm b:=rR ha h1 (M5 hb h2)
structure aB3 (R:P7) (F:List Pt) (t:Int×Int):Prop where
 ok:aB2 R
 fld:R.clock.field.points=F
 now:R.clock.now=t
theorem aB3.nums {R:P7} {F:List Pt} {t:Int×Int} (h:aB3 R F t):wB R.clock:=h.ok.clk.fit
theorem aB3.same {R S:P7} {F:List Pt} {t:Int×Int} (h:aB3 R F t) (k:aB3 S F t):R.tree=S.tree:=by
 have a:=h.ok.tree;rw [h.fld,h.now] at a;have b:=k.ok.tree;rw [k.fld,k.now] at b;obtain ⟨e1,e2⟩:=a.same (by rw [<- h.fld];exact h.ok.clk.fld.2.2) b
 obtain ⟨_,⟨r,N⟩⟩:=R;obtain ⟨_,⟨r',N'⟩⟩:=S;simp only at e1 e2;subst e1 e2;rfl
end Go.Proofs.YtfejhjllooomlaaGreat
namespace Go.Proofs.YtfejhjllooomlaaGreat
open Go.Vm Classical
theorem G4 {f:List Pt} (hs:fT f) {q:Pt} (h:q∈f):dR f q.1=q:=by
 obtain ⟨i,hi,rfl⟩:=aU.1 h;exact A1 hs hi rfl
theorem G5 {f:List Pt} (hs:fT f) {x:Int} (h:nU f x):dR f x∈f/\(dR f x).1=x:=by
 obtain ⟨i,hi,rfl⟩:=h;rw [G4 hs (bA hi)];exact ⟨bA hi,rfl⟩
theorem X5 {f:List Pt} (hs:fT f) (t:Int×Int):SO (fun a b=>bQ (dR f a) (dR f b) t) (nU f) where
 irr:=fun a _ h=>fI h h
 tr:=fun _ _ _ _ _ _ h k=>tQ h k
 tot:=fun a b ha hb hne=>by
  rcases Classical.em (bQ (dR f a) (dR f b) t) with h|h
  · exact .inl h
  · exact .inr (jR t (by rw [(G5 hs ha).2,(G5 hs hb).2];exact hne) h)
abbrev TY (f:List Pt) (t:Int×Int) (a b:Int):Prop:=bQ (dR f a) (dR f b) t
theorem OT {f:List Pt} (hs:fT f) {t:Int×Int} {l:List Int} (hp: ∀x∈l,nU f x) (nd:l.Nodup):(∀e∈cP l,bQ (dR f e.2) (dR f e.1) t)↔Hp (TY f t) l:=by
 constructor
 · intro h j h1 h2 c
   have hm:(l[j]!,l[par j]!)∈cP l:=by
    refine aU.2 ⟨j-1,by rw [iZ];omega,?_⟩
    rw [tO l (show j-1<l.length-1 by omega),show j-1+1=j by omega]
   exact fI c (h _ hm)
 · intro h e he
   obtain ⟨i,hi,rfl⟩:=aU.1 he;rw [iZ] at hi;rw [tO l hi]
   have:=h (i+1) (by omega) (by omega)
   have pe:par (i+1)=i / 2:=by simp only [par];omega
   rw [pe] at this;refine jR t ?_ this;rw [(G5 hs (hp _ (bA (by omega)))).2,(G5 hs (hp _ (bA (by omega)))).2]
   exact fun e=>cH.1 nd (i / 2) (i+1) (by omega) (by omega) e.symm
structure aB4 (R:eB) (F:List Pt) (t:Int×Int):Prop where
 ok:mI R
 fld:R.clock.field.points=F
 now:R.clock.now=t
theorem mI.len {k:eB} (h:mI k):k.heap.length=k.clock.field.points.length:=by rw [<- h.perm.length_eq];exact List.length_map ..
theorem mI.bd {k:eB} (h:mI k):k.heap.length<=64:=by have:=h.len;have:=h.clk.fld.1;omega
theorem mI.has {k:eB} (h:mI k): ∀x∈k.heap,nU k.clock.field.points x:=fun _ hx=>mK.1 (h.perm.mem_iff.2 hx)
theorem mI.nd {k:eB} (h:mI k):k.heap.Nodup:=h.perm.nodup_iff.1 (kY h.clk.fld.2.2)
theorem mI.hp {k:eB} (h:mI k):Hp (TY k.clock.field.points k.clock.now) k.heap:=(OT h.clk.fld.2.2 h.has h.nd).1 h.lead
theorem JE.heap {c:aH} {f:List Pt} (fok:dH f) {l:List Int} (pm:(nF f).Perm l) {R:eB} (e:R.heap=l) (q:JE c f (cP l) R.clock) (h:Hp (TY f c.now) l):aB4 R f c.now:=by
 have nd:=pm.nodup_iff.1 (kY fok.2.2);refine ⟨⟨q.ok,by rw [q.fld,e];exact pm,?_,?_⟩,q.fld,q.now⟩
 · rw [e]
   exact JH (C8 q.ok.crt) (C7 nd) (fun x hx=>by obtain ⟨y,hy,rfl⟩:=List.mem_map.1 hx;exact q.sub y hy) (fun x hx=>tP.1 (q.has x hx))
 · rw [e,q.fld,q.now]
   exact (OT fok.2.2 (fun x hx=>mK.1 (pm.mem_iff.2 hx)) nd).2 h
end Go.Proofs.YtfejhjllooomlaaGreat
namespace Go.Proofs.YtfejhjllooomlaaGreat
open Go.Vm Classical
section
variable {f : List Pt} {t : Int × Int}
abbrev uG (t:Int×Int) (p q:Pt):Prop:=bQ p q t
theorem aB5 {f:List Pt} (hs:fT f) (t:Int×Int):SOA (uG t) (fun p=>p∈f) where
 irr:=fun a _ h=>fI h h
 tr:=fun _ _ _ _ _ _ h k=>tQ h k
 ntr:=fun a b c ha hb hc h1 h2 h=>by
  by_cases e:b.1=c.1
  · have:b=c:=by rw [<- G4 hs hb,<- G4 hs hc,e]
    exact h1 (this▸h)
  · rcases Classical.em (bQ b c t) with k|k
    · exact h2 k
    · exact h1 (tQ h (jR t e k))
theorem aB6 (hs:fT f) {l:List Pt} (p:l.Perm f) {i j:Nat} (hi:i<l.length) (hj:j<l.length) (hne:i≠j):(l[i]!).1≠(l[j]!).1:=by
 have nd:(nF l).Nodup:=(p.map fun x:Pt=>x.1).nodup_iff.2 (kY hs)
 intro e;have b: ∀k,k<l.length->(nF l)[k]! =(l[k]!).1:=fun k hk=>by
  unfold nF;rw [getElem!_pos _ k (by rw [List.length_map];exact hk),List.getElem_map,getElem!_pos l k hk]
 have ll:(nF l).length=l.length:=List.length_map ..;rcases Nat.lt_trichotomy i j with c|c|c
 · exact cH.1 nd i j c (by omega) (by rw [b i hi,b j hj];exact e)
 · exact hne c
 · exact cH.1 nd j i c (by omega) (by rw [b i hi,b j hj];exact e.symm)
def i1S (n i j:Nat) (l:List Pt) (t:Int×Int):=((0:Int),(n:Int),(i:Int),(j:Int),l,t.1,t.2)
def i2S (n i:Nat) (l:List Pt) (t:Int×Int):=((0:Int),(n:Int),(i:Int),l,t.1,t.2)
theorem aB7 (fok:dH f) (r:bH t) (r64:mH t) {n:Nat} (hn:n<=64): ∀(j i:Nat) (l:List Pt),l.Perm f->l.length=n->j<=i->i<n->
 aI bC (i1S n i j l t)=some (.next (i2S n (i+1) (NF (uG t) j l) t)):=by
 intro j
 induction j with
 |zero=>
  intro i l p hl hj hi;refine aK ?_;unfold bC i1S i2S;simp only [aM (show¬(0:Int)<((0:Nat):Int) by omega),cond_false,bG (show i<1000000000 by omega),NF]
 |succ j ih=>
  intro i l p hl hj hi;have h1:j+1<l.length:=by omega
  have h0:j<l.length:=by omega
  have m1:=p.mem_iff.1 (bA h1);have m0:=p.mem_iff.1 (bA h0);have ne:=aB6 fok.2.2 p h1 h0 (by omega)
  have ah:lO l[j+1]! l[j]! (t.1,t.2)=some (decide (bQ l[j+1]! l[j]! t),0):=by
   rcases BN (fok.2.1 _ m1) (fok.2.1 _ m0) r64 r with h|⟨h,_⟩
   · rw [show ((t.1,t.2):Int×Int)=t from rfl,h,if_neg ne]
   · exact absurd h ne
  have wp:aA .i64 (((j+1:Nat):Int) -1)=(j:Int):=by rw [CT ⟨by omega,by omega⟩];omega
  have g1:=aC l (j+1) h1;have g0:=aC l j h0;have gs:aL (bY l ((j+1:Nat):Int) l[j]!) (j:Int)=some ((bY l ((j+1:Nat):Int) l[j]!)[j]!):=aC _ j (by rw [yS];exact h0)
  have nb:((l[j+1]!).1==(l[j]!).1)=false:=by simpa using ne
  by_cases c:bQ l[j+1]! l[j]! t
  · have s1:bC (i1S n i (j+1) l t)=some (.next (i1S n i j (GR l (j+1) j) t)):=by
     unfold bC i1S;simp only [aT (show (0:Int)<((j+1:Nat):Int) by omega),cond_true,wp,g1,g0,aB,nb,cond_false,ah,aT c,beq_self_eq_true,gs]
     simp only [oB];rfl
    rw [aZ s1];have pm:=(FF h1 h0).trans p;rw [ih i (GR l (j+1) j) pm (by rw [IF];exact hl) (by omega) hi]
    conv=>rhs;unfold NF
    rw [if_pos (show uG t l[j+1]! l[j]! from c)]
  · refine aK ?_
    unfold bC i1S;simp only [aT (show (0:Int)<((j+1:Nat):Int) by omega),cond_true,wp,g1,g0,aB,nb,cond_false,ah,aM c,beq_self_eq_true,bG (show i<1000000000 by omega)]
    unfold NF;rw [if_neg (show¬uG t l[j+1]! l[j]! from c)];rfl
theorem ZP (fok:dH f) (r:bH t) (r64:mH t) {c0:Int×Int×List Pt×Int×Int} (hc:c0.2.2.1.length=f.length): ∀(d i:Nat),f.length-i<=d->i<=f.length->
 aI (bD c0) (i2S f.length i (CU (uG t) f i) t)=some (CU (uG t) f f.length,t.1,t.2):=by
 have f1:=fok.1;intro d
 induction d with
 |zero=>
  intro i hd hi
  have:i=f.length:=by omega
  subst this;have le:=(vW (uG t) f f.length (Nat.le_refl _)).length_eq;refine aK ?_;unfold bD i2S;simp only [aM (show¬(f.length:Int)<(f.length:Int) by omega),cond_false,le,hc,beq_self_eq_true,cond_true]
 |succ d ih=>
  intro i hd hi
  by_cases e:i=f.length
  · exact ih i (by omega) hi
  · have pm:=vW (uG t) f i hi
    have s1:bD c0 (i2S f.length i (CU (uG t) f i) t)=some (.next (i2S f.length (i+1) (CU (uG t) f (i+1)) t)):=by
     have:=aB7 fok r r64 f1 i i _ pm pm.length_eq (Nat.le_refl _) (show i<f.length by omega)
     unfold bD;show (bif decide ((i:Int)<(f.length:Int)) then _ else _)=_
     rw [aT (show (i:Int)<(f.length:Int) by omega),cond_true]
     exact this
    rw [aZ s1];exact ih (i+1) (by omega) (by omega)
theorem aB8 (s:ByteArray) {n:Nat} (h:n<=12) (hs:12<s.size): ∃r,uF s (n:Int)=some r:=by
 show∃r,(s[n]?.map fun b=>(b.toNat:Int))=some r
 rw [getElem?_pos s n (show n<s.size by omega)]
 exact ⟨_,rfl⟩
set_option maxRecDepth 100000 in
theorem aPG {n:Nat} (h:n<=12): ∃r,sH (n:Int)=some r:=by
 unfold sH uB;rw [aM (show¬4294967296<=(n:Int) by omega),cond_false,aM (show¬65536<=(n:Int) by omega),cond_false,aM (show¬256<=(n:Int) by omega),cond_false]
 have w8:aA .u8 (n:Int)=(n:Int):=by
  have:n=0\/n=1\/n=2\/n=3\/n=4\/n=5\/n=6\/n=7\/n=8\/n=9\/n=10\/n=11\/n=12:=by omega
  rcases this with rfl|rfl|rfl|rfl|rfl|rfl|rfl|rfl|rfl|rfl|rfl|rfl|rfl<;>rfl
 have key: ∀s:ByteArray,12<s.size-> ∃r,((uF s (aA .u8 (n:Int))).bind fun n7=>some (aA .i64 (0+aA .i64 n7))).bind (fun n0=>some n0)=some r:=fun s h12=>by
  obtain ⟨r,e⟩:=aB8 s h h12;rw [w8,e];exact ⟨_,rfl⟩
 exact key _ (by decide)
theorem JU (fok:dH f) (r:bH t) (r64:mH t) (h12:f.length<=12): ∃L:List Pt,uV ⟨f⟩ t=some (L,0)/\L.Perm f/\VF (uG t) L f.length:=by
 have f1:=fok.1;obtain ⟨m,hm⟩:=aPG h12;have pm:=vW (uG t) f f.length (Nat.le_refl _);refine ⟨CU (uG t) f f.length,?_,pm,L4 (aB5 fok.2.2 t) (fun x hx=>hx) _ (Nat.le_refl _)⟩
 have ins:bL (0,(f.length:Int),f,t.1,t.2)=some (CU (uG t) f f.length,t.1,t.2):=by
  unfold bL
  by_cases h0:f.length=0
  · obtain rfl:f=[]:=List.length_eq_zero_iff.1 h0
    refine aK ?_;unfold bD;rfl
  · refine Eq.trans ?_ (ZP fok r r64 (c0:=(0,(f.length:Int),f,t.1,t.2)) rfl f.length 1 (by omega) (by omega))
    have:CU (uG t) f 1=f:=rfl
    rw [this];rfl
 have pdq:bR (0,(f.length:Int),m,f,t.1,t.2)=some (CU (uG t) f f.length,t.1,t.2):=by
  show cL (bJ 999999) _=_;unfold cL;refine aK ?_;unfold eC
  simp only [show aA .i64 ((f.length:Int) -0)=(f.length:Int) by rw [CT ⟨by omega,by omega⟩];omega,aT (show (f.length:Int)<=12 by omega),cond_true,ins,aB,pm.length_eq,beq_self_eq_true]
 have hc:gN ⟨f⟩=some 0:=by rw [nB];exact congrArg some (jN.2 fok)
 have ck:eI t=some 0:=by rw [dV r64,if_pos r]
 have wl:aA .u64 (Int.ofNat f.length)=(f.length:Int):=by
  show (Int.ofNat (Nat.mod f.length 18446744073709551616))=_;rw [show Nat.mod f.length 18446744073709551616=f.length from Nat.mod_eq_of_lt (by omega)];rfl
 unfold uV dS;simp only [hc,aB,show ((0:Int) !=0)=false from rfl,cond_false,ck,bK (show f.length<=1048576 by omega),wl,hm]
 rw [show bR (0,Int.ofNat f.length,m,f,t)=_ from pdq];simp only [aB,pm.length_eq,beq_self_eq_true,cond_true]
theorem BP (fok:dH f) (r:bH t) (r64:mH t) (h12:f.length<=12):(f=[]/\nO ⟨f⟩ t=some (0,42))\/
 ∃p,p∈f/\(∀q∈f,¬bQ q p t)/\nO ⟨f⟩ t=some (p.1,0):=by
 obtain ⟨L,h1,h2,h3⟩:=JU fok r r64 h12;have le:=h2.length_eq;unfold nO;rw [h1,aB,show ((0:Int) !=0)=false from rfl,cond_false]
 by_cases h0:f.length=0
 · obtain rfl:f=[]:=List.length_eq_zero_iff.1 h0
   obtain rfl:L=[]:=List.length_eq_zero_iff.1 le;exact .inl ⟨rfl,rfl⟩
 · have hl:0<L.length:=by omega
   right;refine ⟨L[0]!,h2.mem_iff.1 (bA hl),fun q hq=>?_,?_⟩
   · obtain ⟨i,hi,rfl⟩:=aU.1 (h2.mem_iff.2 hq)
     by_cases c:i=0
     · subst c;exact fun h=>fI h h
     · exact h3 0 i (by omega) (by omega)
   · rw [show ((Int.ofNat L.length==0):Bool)=false by simp only [aF,beq_eq_false_iff_ne];omega,cond_false,aC L 0 hl|>(fun h=>(h:aL L 0=some L[0]!)),aB]
end
end Go.Proofs.YtfejhjllooomlaaGreat
namespace Go.Proofs.YtfejhjllooomlaaGreat
open Go.Vm Classical
def M6 (c:aH) (to:Int×Int):Prop:=0<c.agenda.heap.length/\kW (Ev.at c.agenda.heap[0]!) to<=0
theorem M7 {c:aH} (ok:bB c) {to:Int×Int} (rt:bH to) (r64:mH to) (le: ¬kW to c.now<0):tC c to=some (decide (M6 c to),0):=by
 unfold tC;rw [nE ok.fit,if_pos ok,aB,dV r64,if_pos rt,aB,cY (by decide),cond_false,L5 r64 ok.now64,if_pos ⟨rt,ok.nowv⟩,aB,aM le,cond_false]
 unfold FC;rw [jE _ ok.fit.ag,if_pos ok.agd,aB,cY rfl,cond_false]
 by_cases h:0<c.agenda.heap.length
 · have ev:=ok.agd.ev 0 h
   have g:=aC c.agenda.heap 0 h;rw [show ((0:Nat):Int)=0 from rfl] at g;rw [gA (by rw [aF];omega),cond_false,g,aB,aB,cY rfl,cond_false,L5 ev.2.1 r64,if_pos ⟨ev.1,rt⟩,aB]
   congr 2
   by_cases h2:kW (Ev.at c.agenda.heap[0]!) to<=0
   · rw [aT (show M6 c to from ⟨h,h2⟩),aT h2]
   · rw [aM (fun k:M6 c to=>h2 k.2),aM h2]
 · rw [gG (by rw [aF];omega),cond_true,aB,aM (fun k:M6 c to=>h k.1)]
   rfl
theorem aB9 {c:aH} (ok:bB c) {to:Int×Int} (r64:mH to):tJ c to=some (decide (M6 c to)):=by
 unfold tJ;simp only [aF]
 by_cases h:0<c.agenda.heap.length
 · have ev:=ok.agd.ev 0 h
   have g:=aC c.agenda.heap 0 h;rw [show ((0:Nat):Int)=0 from rfl] at g;rw [aT (by omega),cond_true,g,aB,AU ev.2.1 r64,aB]
   congr 1
   by_cases h2:kW (Ev.at c.agenda.heap[0]!) to<=0
   · rw [aT (show M6 c to from ⟨h,h2⟩),aT h2]
   · rw [aM (fun k:M6 c to=>h2 k.2),aM h2]
 · rw [aM (by omega),cond_false,aM (fun k:M6 c to=>h k.1)]
abbrev ZW (c:aH) (t:Int×Int):aH:=⟨t,c.field,c.certs,c.agenda,c.due⟩
theorem aCa {c:aH} (ok:bB c) {to:Int×Int} (rt:bH to) (r64:mH to) (le: ¬kW to c.now<0) (due: ¬M6 c to):rA c to=some (jP,(0,0,0,0,0),(0,0),6):=by
 unfold rA;rw [M7 ok rt r64 le,aB,gG rfl,cond_true,aM due];rfl
theorem aIi {c:aH} (ok:bB c) {to:Int×Int} (rt:bH to) (r64:mH to) (le: ¬kW to c.now<0) (due: ¬M6 c to):AJ c to=some (ZW c to,0):=by
 unfold AJ;rw [M7 ok rt r64 le,aB,gG rfl,cond_true,aM due,cond_false,cY rfl,cond_false,gJ ok,aB]
theorem ZQ {c:aH} (ok:bB c) (l:List Int) {to:Int×Int} (rt:bH to) (r64:mH to) (le: ¬kW to c.now<0) (due: ¬M6 c to):lF ⟨c,l⟩ to=some (⟨jP,[]⟩,(0,0),6):=by
 unfold lF;rw [aCa ok rt r64 le due,aB];rfl
def aP (c:aH) (l:List Int) (to:Int×Int) (out:List (Int×Int)):=
 (c.now.1,c.now.2,c.field.points,c.certs.next_,c.certs.list,c.agenda.slots.uses,c.agenda.slots.used,c.agenda.slots.free,c.agenda.heap,c.agenda.where_,c.due,l,to.1,to.2,(0:Int),(0:Int),(0:Int),out)
end Go.Proofs.YtfejhjllooomlaaGreat
namespace Go.Proofs.YtfejhjllooomlaaGreat
open Go.Vm Classical
structure wL (c:aH) (m k:Nat):Prop where
 l:c.certs.list.length<=m
 n:c.certs.next_<=k
 u: ∀j,j<c.agenda.slots.uses.length->c.agenda.slots.uses[j]!<=k
theorem wL.not_full {c:aH} (ok:bB c) {m k:Nat} (h:wL c m k) (hm:m<=199) (hk:k<=999999): ¬(EN c.certs\/ ¬yY c.agenda.slots):=by
 obtain ⟨h1,h2,h3⟩:=h;have fl:=ok.fol.len;have hd:=ok.hd;have hl:=ok.agd.hl;have wl:=ok.agd.wl;have w2:=ok.w200;rintro (h|h)
 · rcases h with h|h<;>omega
 · refine h ⟨by omega,?_⟩
   have:=h3 _ (AV ok.agd.so (by omega)).1
   omega
theorem wL.more {c c':aH} {m k:Nat} (h:wL c m k) {x:Int×Int} (hc:c'.certs=oK c.certs x) (hs:c'.agenda.slots=c.agenda.slots\/c'.agenda.slots=gF c.agenda.slots):wL c' (m+1) (k+1):=by
 obtain ⟨h1,h2,h3⟩:=h;refine ⟨?_,?_,fun j hj=>?_⟩
 · rw [hc]
   show (c.certs.list++[(c.certs.next_,x)]).length<=_;rw [List.length_append,List.length_singleton];omega
 · rw [hc]
   show c.certs.next_+1<=_;omega
 · rcases hs with e|e
   · rw [e] at hj ⊢
     have:=h3 j hj;omega
   · rw [e] at hj ⊢
     change j<(c.agenda.slots.uses.set _ _).length at hj;rw [List.length_set] at hj;show (c.agenda.slots.uses.set (cT c.agenda.slots) (c.agenda.slots.uses[cT c.agenda.slots]!+1))[j]!<=_;rw [bF];split
     · rename_i h;have:=h3 _ h.2;omega
     · have:=h3 j hj;omega
theorem JI {c:aH} (ok:bB c) {i:Nat} (hi:i<c.certs.list.length) {c':aH} {x:Int×Int} (h:hJ c (c.certs.list[i]!).1=some (c',x,0)):c'.agenda.slots.uses=c.agenda.slots.uses:=by
 have bd:=ok.bd;have rm:=C4 ok.crt hi (n:=(c.certs.list[i]!).1) rfl;have fe:=ok.fol.erase (i:=i) hi;have pd:=IP ok.due_up (by omega) (c.certs.list[i]!).1
 cases hf:(bI c.field.points (c.certs.list[i]!).2 c.now).2 with
 |false=>
  have no: ∀k,k<c.due.length->(c.due[k]!).1≠(c.certs.list[i]!).1:=by
   intro k hk he;obtain ⟨x,hx,h1,h2,_⟩:=ok.fol.due _ (bA hk);obtain ⟨j,hj,rfl⟩:=aU.1 hx;have ub:=sK.1 ok.crt_up
   have:j=i:=by
    rcases Nat.lt_trichotomy j i with h|h|h
    · have:=ub j i h hi;omega
    · exact h
    · have:=ub i j h hj;omega
   rw [this,hf] at h2;cases h2
  obtain ⟨m,e⟩:=pd.2 no;unfold hJ at h;simp only [rm,aB,show ((0:Int) !=0)=false from rfl,cond_false,gJ ok,e] at h;injection h with h;injection h with h _;rw [<- h]
 |true=>
  obtain ⟨k,hk,k1,k2,k3⟩:=fe.2 hf;obtain ⟨w,hw,hev⟩:=aU.1 k2;have hh:(c.agenda.heap[w]!).2.2.2=(c.due[k]!).2:=by rw [hev]
  obtain ⟨L,d1,d2⟩:=C1 c.due k hk;unfold hJ at h;simp only [rm,aB,show ((0:Int) !=0)=false from rfl,cond_false,gJ ok,pd.1 k hk k1,cond_true,aC c.due k hk,rP ok.agd hw ok.agd.fit hh,bG (show k<1000000000 by omega),MS,d1,d2] at h
  injection h with h;injection h with h _;rw [<- h];show (dU c.agenda w).slots.uses=_;have h3:(dU c.agenda w).slots=fG c.agenda.slots (c.agenda.heap[w]!).2.2.2:=by unfold dU;split<;>rfl
  rw [h3];rfl
theorem aIj {c0:aH} (ok0:bB c0) {f:List Pt} {es:List (Int×Int)} (eok:uX f es) {k:Nat}:
 ∀(d i:Nat) (c:aH),c0.certs.list.length-i<=d->i<=c0.certs.list.length->bB c->(∀x∈c0.certs.list.drop i,x∈c.certs.list)->(∀x∈c.certs.list,x∈c0.certs.list.drop i\/x.2∈es)->wL c es.length k\/wL c 100 k->
  c.field=c0.field->wL c 100 k->
  ∃c':aH,aI bP (kP c0 f es i c)=aI bP (kP c0 f es c0.certs.list.length c')/\bB c'/\(∀x∈c'.certs.list,x.2∈es)/\c'.field=c0.field/\wL c' 100 k:=by
 have bd:=ok0.bd;intro d
 induction d with
 |zero=>
  intro i c hd hi ok h1 h2 _ hf hr
  have:i=c0.certs.list.length:=by omega
  subst this;refine ⟨c,rfl,ok,fun x hx=>?_,hf,hr⟩
  rcases h2 x hx with h|h
  · rw [List.drop_length] at h;cases h
  · exact h
 |succ d ih=>
  intro i c hd hi ok h1 h2 _ hf hr
  by_cases he:i=c0.certs.list.length
  · subst he
    refine ⟨c,rfl,ok,fun x hx=>?_,hf,hr⟩
    rcases h2 x hx with h|h
    · rw [List.drop_length] at h;cases h
    · exact h
  have hi':i<c0.certs.list.length:=by omega
  have e1:decide ((i:Int)<(c0.certs.list.length:Int))=true:=aT (by omega)
  have sc:=bG (show i<1000000000 by omega)
  have cg:=aC c0.certs.list i hi';have dr:=rQ hi';have ceta:(aH.mk (c.now.1,c.now.2) (Field.mk c.field.points) (aY.mk c.certs.next_ c.certs.list) (aG.mk (aR.mk c.agenda.slots.uses c.agenda.slots.used c.agenda.slots.free) c.agenda.heap c.agenda.where_) c.due)=c:=rfl
  by_cases hin:(c0.certs.list[i]!).2∈es
  · have s1:bP (kP c0 f es i c)=some (.next (kP c0 f es (i+1) c)):=by
     unfold bP kP;simp only [e1,cond_true,cg,aB,oD _ _ eok.len,aT hin,Bool.not_true,cond_false,sc]
    rw [aZ s1];refine ih (i+1) c (by omega) (by omega) ok (fun x hx=>h1 x (by rw [dr];exact List.mem_cons_of_mem _ hx)) (fun x hx=>?_) (.inr hr) hf hr
    rcases h2 x hx with h|h
    · rw [dr] at h
      rcases List.mem_cons.1 h with rfl|h
      · exact .inr hin
      · exact .inl h
    · exact .inr h
  · have hm:=h1 (c0.certs.list[i]!) (by rw [dr];exact List.mem_cons_self)
    obtain ⟨m,hm1,hm2⟩:=aU.1 hm;obtain ⟨c',r1,r2,r3,r4,r5,r6⟩:=VW ok hm1;have ru:=JI ok hm1 r1;have rt:=BM ok hm1 r1;rw [hm2] at rt;have s1:bP (kP c0 f es i c)=some (.next (kP c0 f es (i+1) c')):=by
     unfold bP kP;simp only [e1,cond_true,cg,aB,oD _ _ eok.len,aM hin,Bool.not_false,sc,ceta,rt]
    rw [aZ s1];have cl:c'.certs.list=c.certs.list.eraseIdx m:=by rw [r6];rfl
    have hr':wL c' 100 k:=⟨by rw [cl,List.length_eraseIdx_of_lt hm1];have:=hr.l;omega,by rw [r6];exact hr.n,by rw [ru];exact hr.u⟩
    refine ih (i+1) c' (by omega) (by omega) r3 (fun x hx=>?_) (fun x hx=>?_) (.inr hr') (r4.trans hf) hr'
    · rw [cl]
      refine OQ (h1 x (by rw [dr];exact List.mem_cons_of_mem _ hx)) ?_
      rw [hm2];exact A3 ok0 hx hi'
    · rw [cl] at hx
      obtain ⟨a1,a2⟩:=qI ok.crt_up hm1 hx;rw [hm2] at a2;rcases h2 x a1 with h|h
      · rw [dr] at h
        rcases List.mem_cons.1 h with rfl|h
        · exact absurd rfl a2
        · exact .inl h
      · exact .inr h
theorem aIk {f:List Pt} {es:List (Int×Int)} (eok:uX f es) (hes:es.length<=90):
 ∀(d i:Nat) (c:aH) (k:Nat),es.length-i<=d->i<=es.length->bB c->c.field.points=f->wL c (100+i) k->k+(es.length-i)<=999999->
  ∃r:aH,aI cD (eP es i c)=some (.done (r,0))/\ ∃k',k'<=k+(es.length-i)/\wL r 190 k':=by
 have el:=eok.len;intro d
 induction d with
 |zero=>
  intro i c k hd hi ok hf hr hk
  have:i=es.length:=by omega
  subst this;refine ⟨c,aK ?_,k,by omega,⟨by have:=hr.l;omega,hr.n,hr.u⟩⟩
  unfold cD eP;simp only [aM (show¬(es.length:Int)<(es.length:Int) by omega),cond_false]
 |succ d ih=>
  intro i c k hd hi ok hf hr hk
  by_cases he:i=es.length
  · exact ih i c k (by omega) hi ok hf hr hk
  have bd:=ok.bd;have hi':i<es.length:=by omega
  have e1:decide ((i:Int)<(es.length:Int))=true:=aT (by omega)
  have sc:=bG (show i<1000000000 by omega)
  have cg:=aC es i hi';have ceta:(aH.mk (c.now.1,c.now.2) (Field.mk c.field.points) (aY.mk c.certs.next_ c.certs.list) (aG.mk (aR.mk c.agenda.slots.uses c.agenda.slots.used c.agenda.slots.free) c.agenda.heap c.agenda.where_) c.due)=c:=rfl;have hc:=MW c.certs.list es[i]! (by omega)
  by_cases hin:uW c.certs.list es[i]!
  · have s1:cD (eP es i c)=some (.next (eP es (i+1) c)):=by
     unfold cD eP;simp only [e1,cond_true,cg,aB,zE,hc,aT hin,sc]
    rw [aZ s1];obtain ⟨r,q1,k',q2,q3⟩:=ih (i+1) c k (by omega) (by omega) ok hf ⟨by have:=hr.l;omega,hr.n,hr.u⟩ (by omega)
    exact ⟨r,q1,k',by omega,q3⟩
  · have hb:lX c.field.points es[i]!:=by rw [hf];exact eok.kn _ (bA hi')
    rcases X2 ok (eok.cv _ (bA hi')) hb hin with ⟨_,_,full⟩|⟨c',r1,_,r3,r4,r5,r6,r7⟩
    · exact absurd full (hr.not_full ok (by omega) (by omega))
    · have s1:cD (eP es i c)=some (.next (eP es (i+1) c')):=by
       unfold cD eP;simp only [e1,cond_true,cg,aB,zE,hc,aM hin,cond_false,ceta,r1,show ((0:Int) !=0)=false from rfl,sc]
      rw [aZ s1];obtain ⟨r,q1,k',q2,q3⟩:=ih (i+1) c' (k+1) (by omega) (by omega) r3 (by rw [r4,hf]) ((hr.more r6 r7)) (by omega)
      exact ⟨r,q1,k',by omega,q3⟩
theorem M8 {c:aH} (ok:bB c) {es:List (Int×Int)} (eok:uX c.field.points es) (hes:es.length<=90) {k:Nat} (hr:wL c 100 k) (hk:k+es.length<=999999):
 ∃r:aH,gQ c c.field es=some (r,0)/\ ∃k',k'<=k+es.length/\wL r 190 k':=by
 have bd:=ok.bd;have f1:=ok.fld.1;obtain ⟨c',g1,g2,g3,g4,g5⟩:=aIj (f:=c.field.points) ok eok (k:=k) c.certs.list.length 0 c (by omega) (by omega) ok (fun x hx=>by rwa [List.drop_zero] at hx) (fun x hx=> .inl (by rwa [List.drop_zero])) (.inr hr) rfl hr
 obtain ⟨r,q1,k',q2,q3⟩:=aIk (f:=c.field.points) eok hes es.length 0 c' k (by omega) (by omega) g2 (by rw [g4]) g5 (by omega)
 refine ⟨r,?_,k',by omega,q3⟩
 refine (show gQ c c.field es=_ from g1).trans (aK ?_);unfold bP kP;simp only [aM (show¬(c.certs.list.length:Int)<(c.certs.list.length:Int) by omega),cond_false,g4,A4 c.field.points c.field.points (by omega),aB,Bool.not_true,decide_true]
 have q1:=q1;unfold eP at q1;rw [g4] at q1;exact q1
end Go.Proofs.YtfejhjllooomlaaGreat
namespace Go.Proofs.YtfejhjllooomlaaGreat
open Go.Vm Classical
end Go.Proofs.YtfejhjllooomlaaGreat
namespace Go.Proofs.YtfejhjllooomlaaGreat
open Go.Vm Classical
theorem OU {c:aH} (ok:bB c) {to:Int×Int} (rt:bH to) (due: ¬M6 c to) {y:tN} (hy:y∈c.certs.list) (is:(bI c.field.points y.2 c.now).2=true):
 to.1*(bI c.field.points y.2 c.now).1.2<(bI c.field.points y.2 c.now).1.1*to.2:=by
 obtain ⟨d,hd,_,ev⟩:=ok.fol.has _ hy is;obtain ⟨v,hv,he⟩:=aU.1 ev;have tl:=OR ok.agd v hv;have h0:0<c.agenda.heap.length:=by omega
 have e0:=(ok.agd.ev 0 h0).1.1;have ev':=(ok.agd.ev v hv).1.1;rw [he] at tl ev';have n1: ¬kW (bI c.field.points y.2 c.now).1 (Ev.at c.agenda.heap[0]!)<0:=fun q=>tl (.inl q)
 rw [xG] at n1;have n2: ¬kW (Ev.at c.agenda.heap[0]!) to<=0:=fun q=>due ⟨h0,q⟩
 have n3:to.1*(Ev.at c.agenda.heap[0]!).2<(Ev.at c.agenda.heap[0]!).1*to.2:=by
  unfold kW at n2;rcases dZ ((Ev.at c.agenda.heap[0]!).1*to.2) (to.1*(Ev.at c.agenda.heap[0]!).2) with ⟨a,b⟩|⟨a,b⟩|⟨a,b⟩<;>omega
 exact EJ rt.1 e0 ev' n3 (Int.not_lt.1 n1)
theorem aCb {c:aH} (ok:bB c) {to:Int×Int} (rt:bH to) (r64:mH to) (le: ¬kW to c.now<0) (due: ¬M6 c to):bB (ZW c to):=by
 have pt:=fun (x:Int×Int) (hb:lX c.field.points x)=>And.intro (eA ok.fld hb.2).1 (eA ok.fld hb.1).1
 refine ⟨rt,r64,ok.fld,ok.crt,ok.agd,ok.w200,ok.hd,ok.known,?_⟩;refine aX.time (t:=c.now) (fun y hy=>?_) ok.fol
 obtain ⟨j,hj,rfl⟩:=aU.1 hy;have hb:=ok.known j hj;refine FJ (pt _ hb).1 (pt _ hb).2 ok.nowv rt (by rw [xG] at le;exact Int.not_lt.1 le) (fun is=>?_)
 exact Int.le_of_lt (OU ok rt due hy is)
theorem aCc {h l:Pt} {t t':Int×Int} (hh:fX h) (hl:fX l) (r:bH t) (r':bH t') (le:t.1*t'.2<=t'.1*t.2) (nf:(jY h l t).2=true->t'.1*(jY h l t).1.2<(jY h l t).1.1*t'.2): ¬bQ l h t':=by
 have mv:=FJ hh hl r r' le (fun is=>Int.le_of_lt (nf is))
 intro hn;have e:jY h l t'=(t',true):=by unfold jY;rw [if_pos hn]
 rw [e] at mv
 have:=nf (by rw [<- mv])
 rw [<- mv] at this;dsimp only at this;omega
structure VZ (c:aH) (l:List Int):Prop where
 ok:bB c
 pm:(nF c.field.points).Perm l
 ct:(c.certs.list.map fun x=>x.2).Perm (cP l)
theorem VZ.bd {c:aH} {l:List Int} (h:VZ c l):l.length<=64:=by
 have:=h.ok.bd
 have:l.length=c.field.points.length:=by rw [<- h.pm.length_eq];exact List.length_map ..
 omega
end Go.Proofs.YtfejhjllooomlaaGreat
namespace Go.Proofs.YtfejhjllooomlaaGreat
open Go.Vm Classical
noncomputable abbrev aIl (to:Int×Int) (c:aH) (l:List Int) (out:List (Int×Int)):=aI nM (aP c l to out)
theorem aIm {c c2:aH} {l l2:List Int} {to x:Int×Int} {out:List (Int×Int)} (ev:lF ⟨c,l⟩ to=some (⟨c2,l2⟩,x,0)) (ol:out.length+1<=1048576):aIl to c l out=aIl to c2 l2 (out++[x]):=by
 have ceta:(aH.mk (c.now.1,c.now.2) (Field.mk c.field.points) (aY.mk c.certs.next_ c.certs.list) (aG.mk (aR.mk c.agenda.slots.uses c.agenda.slots.used c.agenda.slots.free) c.agenda.heap c.agenda.where_) c.due)=c:=rfl;have ap:bZ out [x]=some (out++[x]):=fF (by rw [List.length_singleton];omega)
 refine aZ ?_;unfold nM aP;simp only [ceta,show ((to.1,to.2):Int×Int)=to from rfl,ev,aB,show ((0:Int)==6)=false from rfl,cond_false,show ((0:Int) !=0)=false from rfl,ap]
theorem TZ {c:aH} (ok:bB c) {l:List Int} (hl:l.length<=1000) {to:Int×Int} (rt:bH to) (r64:mH to) (le: ¬kW to c.now<0) (due: ¬M6 c to) (out:List (Int×Int)):aIl to c l out=some (⟨ZW c to,l⟩,out,0):=by
 have ceta:(aH.mk (c.now.1,c.now.2) (Field.mk c.field.points) (aY.mk c.certs.next_ c.certs.list) (aG.mk (aR.mk c.agenda.slots.uses c.agenda.slots.used c.agenda.slots.free) c.agenda.heap c.agenda.where_) c.due)=c:=rfl;refine aK ?_;unfold nM aP
 simp only [ceta,show ((to.1,to.2):Int×Int)=to from rfl,ZQ ok l rt r64 le due,aB,show ((6:Int)==6)=true from rfl,cond_true,aIi ok rt r64 le due,bK (show l.length<=1048576 by omega)]
theorem X6 {a b:Int×Int}: ¬kW a b<0↔b.1*a.2<=a.1*b.2:=by rw [xG];omega
theorem aIn {a b:Int×Int}:kW a b<=0↔a.1*b.2<=b.1*a.2:=by
 unfold kW;rcases dZ (a.1*b.2) (b.1*a.2) with ⟨x,y⟩|⟨x,y⟩|⟨x,y⟩<;>omega
theorem M6.more {c:aH} (ok:bB c) {s t:Int×Int} (rs:bH s) (rt:bH t) (st: ¬kW t s<0) (h:M6 c s):M6 c t:=by
 refine ⟨h.1,?_⟩;have e0:=(ok.agd.ev 0 h.1).1.1;have h2:=h.2;rw [aIn] at*;rw [X6] at st;exact MD e0 rs.1 rt.1 h2 st
theorem QN {p q:Pt} (t:Int×Int) (h:p.1≠q.1) (hn: ¬bQ p q t):bQ q p t:=by
 unfold bQ at*;rw [D0,Int.sub_mul,Int.sub_mul] at*;generalize p.2.1*t.2=a at*;generalize p.2.2*t.1=b at*;generalize q.2.1*t.2=c at*;generalize q.2.2*t.1=d at*;omega
section
variable {s t : Int × Int}
theorem aIo {c:aH} {l:List Int} (h:VZ c l) (rs:bH s) (s64:mH s) (le: ¬kW s c.now<0) (due: ¬M6 c s):mI ⟨ZW c s,l⟩:=by
 have ok:=h.ok;have nd:=h.pm.nodup_iff.1 (kY ok.fld.2.2);refine ⟨aCb ok rs s64 le due,h.pm,h.ct,fun e he=>?_⟩
 obtain ⟨j,hj,hx⟩:=tP.2 (h.ct.mem_iff.2 he);have hb:=ok.known j hj;rw [hx] at hb;have p2:=eA ok.fld hb.2;have p1:=eA ok.fld hb.1;have nl: ¬bQ (dR c.field.points e.1) (dR c.field.points e.2) s:=by
  refine aCc p2.1 p1.1 ok.nowv rs (by rw [X6] at le;exact le) fun is=>?_
  have:=OU ok rs due (bA hj)
  rw [hx] at this;exact this is
 exact QN s (by rw [p1.2,p2.2];exact TU nd he) nl
end
end Go.Proofs.YtfejhjllooomlaaGreat
namespace Go.Proofs.YtfejhjllooomlaaGreat
open Go.Vm Classical
def fU:Nat->(Nat->Nat)->Nat
 |0,_=>0
 |n+1,F=>fU n F+F n
theorem J6: ∀{n:Nat} {F G:Nat->Nat},(∀i,i<n->F i<=G i)->fU n F<=fU n G
 |0,_,_,_=>Nat.le_refl _
 |n+1,F,G,h=>Nat.add_le_add (J6 fun i hi=>h i (by omega)) (h n (by omega))
theorem A5: ∀{n:Nat} {F G:Nat->Nat},(∀i,i<n->F i=G i)->fU n F=fU n G
 |0,_,_,_=>rfl
 |n+1,F,G,h=>by
  show fU n F+F n=fU n G+G n;rw [A5 fun i hi=>h i (by omega),h n (by omega)]
theorem zF: ∀(n:Nat) (F G:Nat->Nat),fU n (fun i=>F i+G i)=fU n F+fU n G
 |0,_,_=>rfl
 |n+1,F,G=>by
  show fU n _+(F n+G n)=(fU n F+F n)+(fU n G+G n);rw [zF n F G];omega
theorem G6: ∀(n:Nat) (a:Nat) (F:Nat->Nat),fU n (fun i=>a*F i)=a*fU n F
 |0,_,_=>rfl
 |n+1,a,F=>by
  show fU n _+a*F n=a*(fU n F+F n);rw [G6 n a F,Nat.mul_add]
theorem OV: ∀(n:Nat),fU n (fun _=>0)=0
 |0=>rfl
 |n+1=>OV n
theorem OW (m:Nat): ∀(n:Nat) (A:Nat->Nat->Nat),fU n (fun i=>fU m (fun j=>A i j))=fU m (fun j=>fU n (fun i=>A i j))
 |0,A=>(OV m).symm
 |n+1,A=>by
  show fU n _+fU m _=fU m (fun j=>fU n (fun i=>A i j)+A n j)
  rw [OW m n A,zF]
theorem V0 {n:Nat} {A B:Nat->Nat->Nat} (h: ∀i j,i<n->j<n->A i j+A j i<=B i j+B j i):fU n (fun i=>fU n (fun j=>A i j))<=fU n (fun i=>fU n (fun j=>B i j)):=by
 have e: ∀C:Nat->Nat->Nat,fU n (fun i=>fU n (fun j=>C i j+C j i))=2*fU n (fun i=>fU n (fun j=>C i j)):=fun C=>by
  rw [A5 (G:=fun i=>fU n (fun j=>C i j)+fU n (fun j=>C j i)) (fun i _=>zF n _ _),zF,OW n n (fun i j=>C j i)];omega
 have:=J6 (n:=n) (F:=fun i=>fU n (fun j=>A i j+A j i)) (G:=fun i=>fU n (fun j=>B i j+B j i)) (fun i hi=>J6 fun j hj=>h i j hi hj)
 rw [e A,e B] at this;omega
theorem aIp {n:Nat} {F G:Nat->Nat} (h: ∀i,i<n->F i<=G i) {a:Nat} (ha:a<n) (hs:F a+1<=G a):fU n F+1<=fU n G:=by
 induction n with
 |zero=>omega
 |succ n ih=>
  show fU n F+F n+1<=fU n G+G n
  by_cases c:a=n
  · subst c
    have:=J6 (n:=a) fun i hi=>h i (by omega)
    omega
  · have:=ih (fun i hi=>h i (by omega)) (by omega)
    have:=h n (by omega)
    omega
theorem aCd {n:Nat} {F G:Nat->Nat} {a b:Nat} (ha:a<n) (hb:b<n) (hne:a≠b) (h: ∀i,i<n->i≠a->i≠b->F i=G i):fU n F+G a+G b=fU n G+F a+F b:=by
 have one: ∀(n:Nat) (F G:Nat->Nat) (a:Nat),a<n->(∀i,i<n->i≠a->F i=G i)->fU n F+G a=fU n G+F a:=by
  intro n
  induction n with
  |zero=>intro F G a ha;omega
  |succ n ih=>
   intro F G a ha h;show fU n F+F n+G a=fU n G+G n+F a
   by_cases c:a=n
   · subst c
     rw [A5 (F:=F) (G:=G) fun i hi=>h i (by omega) (by omega)];omega
   · have:=ih F G a (by omega) (fun i hi=>h i (by omega))
     have:=h n (by omega) (fun e=>c e.symm)
     omega
 have h1:=one n F (fun i=>if i=a then F a else G i) b hb (fun i hi hib=>by
  by_cases c:i=a
  · rw [if_pos c,c]
  · rw [if_neg c];exact h i hi c hib)
 have h2:=one n (fun i=>if i=a then F a else G i) G a ha (fun i hi hia=>by rw [if_neg hia])
 simp only [if_true] at h2;rw [if_neg (show¬b=a from fun e=>hne e.symm)] at h1
 omega
theorem J7 {n m:Nat} {F:Nat->Nat} (h: ∀i,i<n->F i<=m):fU n F<=n*m:=by
 induction n with
 |zero=>exact Nat.zero_le _
 |succ n ih=>
  show fU n F+F n<=_
  have:=ih fun i hi=>h i (by omega)
  have:=h n (by omega)
  rw [Nat.succ_mul];omega
def QO:Nat->Nat
 |0=>0
 |i+1=>QO (i / 2)+1
decreasing_by omega
theorem aIq {i:Nat} (h:0<i):QO i=QO (par i)+1:=by
 cases i with
 |zero=>omega
 |succ i=>
  have pe:par (i+1)=i / 2:=by simp only [par];omega
  rw [pe]
  conv=>lhs;unfold QO
theorem V1: ∀i,QO i<=i:=by
 intro i
 induction i using Nat.strongRecOn with
 |ind i ih=>
  cases i with
  |zero=>unfold QO;exact Nat.le_refl _
  |succ i=>
   unfold QO
   have:=ih (i / 2) (by omega)
   omega
noncomputable def pos (l:List Int) (x:Int):Nat:=if h: ∃k,k<l.length/\l[k]! =x then h.choose else 0
theorem IR {l:List Int} (nd:l.Nodup) {k:Nat} (hk:k<l.length):pos l l[k]! =k:=by
 have h: ∃j,j<l.length/\l[j]! =l[k]!:=⟨k,hk,rfl⟩;unfold pos;rw [dif_pos h];obtain ⟨h1,h2⟩:=h.choose_spec;rcases Nat.lt_trichotomy h.choose k with c|c|c
 · exact absurd h2 (cH.1 nd _ _ c hk)
 · exact c
 · exact absurd h2.symm (cH.1 nd _ _ c h1)
theorem V2 (l:List Int) (x:Int):pos l x<=l.length:=by
 unfold pos;split
 · rename_i h;exact Nat.le_of_lt h.choose_spec.1
 · exact Nat.zero_le _
section
variable (f : List Pt)
noncomputable def wgt (t:Int×Int) (p:Nat):Nat:=fU f.length fun q=>if bQ f[p]! f[q]! t then 1 else 0
noncomputable def psi (l:List Int) (t:Int×Int):Nat:=fU f.length fun p=>QO (pos l (f[p]!).1)*wgt f t p
noncomputable def phi (t:Int×Int):Nat:=fU f.length fun p=>fU f.length fun q=>if (f[q]!).2.2<(f[p]!).2.2/\ ¬bQ f[p]! f[q]! t then 1 else 0
noncomputable def BQ (l:List Int) (t:Int×Int):Nat:=psi f l t+f.length*phi f t
end
section
variable {f : List Pt}
theorem aCe {l:List Int} {t:Int×Int} (hl:l.length=f.length) (h10:f.length<=10):BQ f l t<=2000:=by
 have w: ∀p,wgt f t p<=f.length*1:=fun p=>J7 fun q _=>by split<;>omega
 have a:psi f l t<=f.length*100:=J7 fun p _=>by
  have h1:=V1 (pos l (f[p]!).1);have h2:=V2 l (f[p]!).1;have h3:=w p;exact Nat.le_trans (Nat.mul_le_mul (show QO (pos l (f[p]!).1)<=10 by omega) (show wgt f t p<=10 by omega)) (by decide)
 have b:phi f t<=f.length*10:=J7 fun p _=>Nat.le_trans (J7 (m:=1) fun q _=>by split<;>omega) (by omega)
 unfold BQ;have c:f.length*phi f t<=10*100:=Nat.mul_le_mul h10 (by omega)
 omega
theorem aCf {p q:Pt} {t t':Int×Int} (d:1<=t.2) (d':1<=t'.2) (le:t.1*t'.2<=t'.1*t.2) (h: ¬bQ p q t) (h':bQ p q t'):q.2.2<p.2.2:=by
 refine Classical.byContradiction fun c=>?_
 exact JG d d' le c h h'
theorem V3 (hs:fT f) {l:List Int} (hl:l.length=f.length) {t t':Int×Int} (d:1<=t.2) (d':1<=t'.2) (le:t.1*t'.2<=t'.1*t.2):BQ f l t'<=BQ f l t:=by
 have form: ∀u,BQ f l u=fU f.length (fun p=>fU f.length (fun q=>QO (pos l (f[p]!).1)*(if bQ f[p]! f[q]! u then 1 else 0)+f.length*(if (f[q]!).2.2<(f[p]!).2.2/\ ¬bQ f[p]! f[q]! u then 1 else 0))):=fun u=>by
  unfold BQ psi phi wgt;rw [A5 (F:=fun p=>fU f.length (fun q=>QO (pos l (f[p]!).1)*(if bQ f[p]! f[q]! u then 1 else 0)+f.length*(if (f[q]!).2.2<(f[p]!).2.2/\ ¬bQ f[p]! f[q]! u then 1 else 0)))
   (G:=fun p=>QO (pos l (f[p]!).1)*fU f.length (fun q=>if bQ f[p]! f[q]! u then 1 else 0)+f.length*fU f.length (fun q=>if (f[q]!).2.2<(f[p]!).2.2/\ ¬bQ f[p]! f[q]! u then 1 else 0))
   (fun p _=>by rw [zF,G6,G6]),zF,G6]
 rw [form,form];refine V0 fun p q hp hq=>?_
 by_cases e:p=q
 · subst e
   rw [if_neg (fun h=>fI h h),if_neg (fun h=>fI h h),if_neg (fun h=>by omega),if_neg (fun h=>by omega)]
   exact Nat.le_refl _
 · have ne:(f[p]!).1≠(f[q]!).1:=fun h=>e (rL hs hp hq h)
   have dp:QO (pos l (f[p]!).1)<=f.length:=Nat.le_trans (V1 _) (by rw [<- hl];exact V2 _ _)
   have dq:QO (pos l (f[q]!).1)<=f.length:=Nat.le_trans (V1 _) (by rw [<- hl];exact V2 _ _)
   generalize QO (pos l (f[p]!).1)=a at*;generalize QO (pos l (f[q]!).1)=b at*
   by_cases h1:bQ f[p]! f[q]! t<;>by_cases h2:bQ f[p]! f[q]! t'
   · have n1:=fI h1
     have n2:=fI h2;simp only [h1,h2,n1,n2,if_true,if_false,not_true,not_false_iff,and_true,and_false];exact Nat.le_refl _
   · have n1:=fI h1
     have n2:=jR t' ne h2;have fa:=aCf d d' le n1 n2;have nf: ¬(f[q]!).2.2<(f[p]!).2.2:=by omega
     simp only [h1,h2,n1,n2,fa,nf,if_true,if_false,not_true,not_false_iff,and_true,and_false,false_and];omega
   · have n2:=fI h2
     have n1:=jR t ne h1;have fa:=aCf d d' le h1 h2;have nf: ¬(f[p]!).2.2<(f[q]!).2.2:=by omega
     simp only [h1,h2,n1,n2,fa,nf,if_true,if_false,not_true,not_false_iff,and_true,and_false,false_and];omega
   · have n1:=jR t ne h1
     have n2:=jR t' ne h2;simp only [h1,h2,n1,n2,if_true,if_false,not_true,not_false_iff,and_true,and_false];exact Nat.le_refl _
theorem V4 (hs:fT f) {l:List Int} (pm:(nF f).Perm l) {t:Int×Int} {i:Nat} (h0:0<i) (hi:i<l.length) (ah:bQ (dR f l[i]!) (dR f l[par i]!) t):BQ f (jQ l i (par i)) t+1<=BQ f l t:=by
 have nd:=pm.nodup_iff.1 (kY hs);have hj:par i<l.length:=by simp only [par];omega
 have hne:i≠par i:=by simp only [par];omega
 have nd':=(vD hi hj).nodup_iff.2 nd;have sl:=D1 l i (par i);obtain ⟨a,ha,ea⟩:=mK.1 (pm.mem_iff.2 (bA hi));obtain ⟨b,hb,eb⟩:=mK.1 (pm.mem_iff.2 (bA hj));have hab:a≠b:=fun e=>by subst e;exact cH.1 nd (par i) i (by simp only [par];omega) hi (eb.symm.trans ea)
 rw [<- ea,<- eb,A1 hs ha rfl,A1 hs hb rfl] at ah;have p1:pos l (f[a]!).1=i:=by rw [ea];exact IR nd hi
 have p2:pos l (f[b]!).1=par i:=by rw [eb];exact IR nd hj
 have q1:pos (jQ l i (par i)) (f[a]!).1=par i:=by
  have:(jQ l i (par i))[par i]! =l[i]!:=by rw [oR l hi hj,if_pos rfl]
  rw [ea,<- this];exact IR nd' (by rw [sl];exact hj)
 have q2:pos (jQ l i (par i)) (f[b]!).1=i:=by
  have:(jQ l i (par i))[i]! =l[par i]!:=by rw [oR l hi hj,if_neg hne,if_pos rfl]
  rw [eb,<- this];exact IR nd' (by rw [sl];exact hi)
 have oth: ∀p,p<f.length->p≠a->p≠b->pos (jQ l i (par i)) (f[p]!).1=pos l (f[p]!).1:=fun p hp h1 h2=>by
  have hm:(f[p]!).1∈l:=pm.mem_iff.1 (mK.2 ⟨p,hp,rfl⟩);obtain ⟨k,hk,ek⟩:=aU.1 hm;have k1:k≠i:=fun e=>by subst e;exact h1 (rL hs hp ha (ek.symm.trans ea.symm))
  have k2:k≠par i:=fun e=>by rw [e] at ek;exact h2 (rL hs hp hb (ek.symm.trans eb.symm))
  have e1:pos l (f[p]!).1=k:=by rw [<- ek];exact IR nd hk
  have:(jQ l i (par i))[k]! =l[k]!:=by rw [oR l hi hj,if_neg k2,if_neg k1]
  rw [e1,<- ek,<- this];exact IR nd' (by rw [sl];exact hk)
 have two:=aCd (n:=f.length) (F:=fun p=>QO (pos (jQ l i (par i)) (f[p]!).1)*wgt f t p) (G:=fun p=>QO (pos l (f[p]!).1)*wgt f t p) ha hb hab (fun p hp h1 h2=>by rw [oth p hp h1 h2])
 have wl:wgt f t b+1<=wgt f t a:=by
  refine aIp (fun q _=>?_) (a:=b) hb ?_
  · by_cases c:bQ f[b]! f[q]! t
    · rw [if_pos c,if_pos (tQ ah c)];exact Nat.le_refl _
    · rw [if_neg c];exact Nat.zero_le _
  · rw [if_neg (fun h=>fI h h),if_pos ah];exact Nat.le_refl _
 simp only [p1,p2,q1,q2,aIq h0] at two;unfold BQ
 have:psi f (jQ l i (par i)) t+1<=psi f l t:=by
  unfold psi;generalize QO (par i)=D at two;generalize wgt f t a=A at two wl;generalize wgt f t b=B at two wl;rw [Nat.succ_mul,Nat.succ_mul] at two;omega
 omega
theorem T0 {h l:Pt} {t:Int×Int} (hh:fX h) (hl:fX l) (is:(jY h l t).2=true):bQ l h (jY h l t).1:=by
 unfold jY at*
 by_cases h1:bQ l h t
 · rw [if_pos h1];exact h1
 · rw [if_neg h1] at is ⊢
   by_cases h2:h.2.2<l.2.2
   · rw [if_pos h2]
     obtain ⟨_,m1,m2,m3⟩:=IG hh hl (show h.2.2≠l.2.2 by omega)
     refine .inr ⟨?_,.inl h2⟩;show L7 l h (VJ h l)=0;rw [D0];have e1:(l.2.1-h.2.1)*(VJ h l).2= -((h.2.1-l.2.1)*(VJ h l).2):=by rw [<- Int.neg_mul];congr 1;omega
     rw [e1,<- m3,Int.mul_comm (l.2.2-h.2.2)];omega
   · rw [if_neg h2] at is;cases is
end
end Go.Proofs.YtfejhjllooomlaaGreat
namespace Go.Proofs.YtfejhjllooomlaaGreat
open Go.Vm Classical
def yF:aR:=⟨List.replicate 200 0,List.replicate 200 false,(List.range 200).map fun j:Nat=>(199:Int) - (j:Int)⟩
def J8:aG:=⟨yF,[],List.replicate 200 (-1)⟩
def iH (f:Field) (t:Int×Int):aH:=⟨t,f,⟨0,[]⟩,J8,[]⟩
theorem T1:GK 200=some (yF,0):=
 (by kernel_rfl:GK 200=aI I6 (200,200,0,List.replicate 200 0,List.replicate 200 false,List.replicate 200 0)).trans (tK.2 ⟨300,by kernel_rfl⟩)
theorem ZR:jI [-1] 200=some (List.replicate 200 (-1)):=by
 unfold jI xQ;have m:fY (aA .u64 (Int.ofNat ([-1]:List Int).length)) (aA .u64 200)=some (0,200):=by
  rw [show aA .u64 (Int.ofNat ([-1]:List Int).length)=1 from by kernel_rfl,show aA .u64 200=200 from by kernel_rfl,GS ⟨by decide,by decide⟩ ⟨by decide,by decide⟩]
  rfl
 rw [m];exact (by kernel_rfl:_=aI mT (1,-1::List.replicate 199 0)).trans (tK.2 ⟨20,by kernel_rfl⟩)
theorem NJ:AE 200=some (J8,0):=by
 unfold AE;rw [T1,aB,cY rfl,cond_false,ZR];rfl
theorem QP (f:Field) {t:Int×Int} (r64:mH t):DN f t=some (if kX f.points≠0 then (jP,kX f.points) else if bH t then (iH f t,0) else (jP,8)):=by
 unfold DN;rw [nB,aB]
 by_cases h:kX f.points=0
 · have fok:=jN.1 h
   have f1:=fok.1;rw [cY h,cond_false,dV r64,aB,if_neg (show¬kX f.points≠0 from fun k=>k h)]
   by_cases rt:bH t
   · rw [if_pos rt,if_pos rt,cY rfl,cond_false,NJ,aB,bK (show f.points.length<=1048576 by omega),aB]
     rfl
   · rw [if_neg rt,if_neg rt,eU (by decide),cond_true]
 · rw [eU h,cond_true,if_pos h]
theorem zG {α:Type} [Inhabited α] {n i:Nat} (a:α) (h:i<n):(List.replicate n a)[i]! =a:=by
 rw [getElem!_pos _ i (by rw [List.length_replicate];exact h),List.getElem_replicate]
theorem aIr {i:Nat} (hi:i<200):(i:Int)∈yF.free:=by
 refine List.mem_map.2 ⟨199-i,List.mem_range.2 (by omega),?_⟩
 show (199:Int) - ((199-i:Nat):Int)=(i:Int);omega
theorem nG:yF.uses.length=200:=List.length_replicate ..
set_option maxRecDepth 100000 in
theorem aCg:yF.free.length=200:=by
 unfold yF;exact (List.length_map _).trans List.length_range
theorem ZS:eO yF where
 n1:=by rw [nG];omega
 n2:=by rw [nG];omega
 ul:=by rw [nG];exact List.length_replicate ..
 fr:=fun x hx=>by
  obtain ⟨j,hj,rfl⟩:=List.mem_map.1 hx
  have:=List.mem_range.1 hj
  rw [nG];omega
 fd:=by
  refine wC List.nodup_range fun i hi j hj h=>?_
  have h:(199:Int) - (i:Int)=199- (j:Int):=h;omega
 uf:=fun i hi=>by
  rw [nG] at hi;rw [show yF.used[i]! =false from zG false hi];constructor
  · intro h;cases h
  · intro h;exact absurd (aIr hi) h
 us:=fun i hi=>by
  rw [nG] at hi;rw [show yF.uses[i]! =0 from zG 0 hi,show yF.used[i]! =false from zG false hi];exact ⟨by decide,by decide,fun h=>by cases h⟩
set_option maxRecDepth 100000 in
theorem V5:eQ J8 where
 so:=ZS
 wl:=(List.length_replicate (n:=200) (a:=(-1:Int))).trans nG.symm
 hl:=((Nat.zero_add _).trans aCg).trans nG.symm
 fwd:=fun i hi h=>by
  rw [show J8.slots.used[i]! =false from zG false (by rw [<- nG];exact hi)] at h
  cases h
 un:=fun i hi _=>zG (-1) (by rw [<- nG];exact hi)
 ev:=fun w hw=>absurd hw (Nat.not_lt_zero w)
 nd:=fun v w _ hw=>absurd hw (Nat.not_lt_zero w)
 ord:=fun k _ hk=>absurd hk (Nat.not_lt_zero k)
theorem ZT {f:Field} (fok:dH f.points) {t:Int×Int} (r:bH t) (r64:mH t):bB (iH f t) where
 nowv:=r
 now64:=r64
 fld:=fok
 crt:=(⟨by decide,by decide,by decide,fun i hi=>absurd hi (Nat.not_lt_zero i),fun i hi=>absurd hi (Nat.not_lt_zero i),fun i j _ hj=>absurd hj (Nat.not_lt_zero j),fun i j _ hj=>absurd hj (Nat.not_lt_zero j)⟩:eS ⟨0,[]⟩)
 agd:=V5
 w200:=List.length_replicate ..
 hd:=rfl
 known:=fun i hi=>absurd hi (Nat.not_lt_zero i)
 fol:=rfl
theorem A6 (f:Field) (t:Int×Int):JF (iH f t) 0:=by
 refine ⟨Nat.le_refl _,Int.le_refl _,fun j hj=>?_⟩
 rw [show (iH f t).agenda.slots.uses[j]! =0 from zG 0 (by rw [<- nG];exact hj)]
 decide
end Go.Proofs.YtfejhjllooomlaaGreat
namespace Go.Proofs.YtfejhjllooomlaaGreat
open Go.Vm Classical
theorem aIs {f:List Pt} (fok:dH f) {t:Int×Int} (r:bH t) (r64:mH t) (c0:List Pt×Int×Int×Int×List Int): ∀(i:Nat) (l:List Int),(∀x∈l,nU f x)->l.Nodup->i<l.length->l.length<=1000->c0.2.2.2.2.length=l.length->
 aI (iB c0) ((i:Int),l,f,t.1,t.2)=some (BO f t i l):=by
 intro i
 induction i using Nat.strongRecOn with
 |ind i ih=>
  intro l hp nd hi hl hc;cases i with
  |zero=>
   unfold BO;refine aK ?_;unfold iB;simp only [aM (show¬(0:Int)<((0:Nat):Int) by omega),cond_false,hc,beq_self_eq_true,cond_true]
  |succ i=>
   have hu:=X4 (i:=i+1) (by omega) (by omega)
   rw [show (i+1-1) / 2=i / 2 from rfl] at hu;have hj:i / 2<l.length:=by omega
   have g1:=aC l (i+1) hi;have g2:=aC l (i / 2) hj;have g3:=aC (l.set (i+1) l[i / 2]!) (i / 2) (by rw [List.length_set];exact hj)
   have a1:=TV fok r r64 (hp _ (bA hi)) (hp _ (bA hj)) (fun h=>cH.1 nd (i / 2) (i+1) (by omega) hi h.symm)
   have sp:=vD (l:=l) hi hj;have sl:(jQ l (i+1) (i / 2)).length=l.length:=sp.length_eq;unfold BO
   by_cases c:bQ (dR f l[i+1]!) (dR f l[i / 2]!) t
   · rw [if_pos c]
     rw [aT c] at a1;rw [aZ (y:=(((i / 2:Nat):Int),jQ l (i+1) (i / 2),f,t.1,t.2)) (by
      unfold iB;simp only [aT (show (0:Int)<((i+1:Nat):Int) by omega),cond_true,g1,aB,hu,g2,a1,oB,g3]
      rfl)]
     exact ih (i / 2) (by omega) _ (fun x hx=>hp x (sp.mem_iff.1 hx)) (sp.nodup_iff.2 nd) (by omega) (by omega) (by omega)
   · rw [if_neg c]
     rw [aM c] at a1;refine aK ?_;unfold iB;simp only [aT (show (0:Int)<((i+1:Nat):Int) by omega),cond_true,g1,aB,hu,g2,a1,cond_false,hc,beq_self_eq_true]
theorem aIt {f:List Pt} (fok:dH f) {t:Int×Int} (r:bH t) (r64:mH t) {i:Nat} {l:List Int} (hp: ∀x∈l,nU f x) (nd:l.Nodup) (hi:i<l.length) (hl:l.length<=1000):nL (f,t.1,t.2,(i:Int),l)=some (BO f t i l):=by
 unfold nL;exact aIs fok r r64 (f,t.1,t.2,(i:Int),l) i l hp nd hi hl rfl
end Go.Proofs.YtfejhjllooomlaaGreat
namespace Go.Proofs.YtfejhjllooomlaaGreat
open Go.Vm Classical
def bS (f:List Pt) (t:Int×Int) (c:aH) (i:Nat) (l:List Int):=
 (f,(f.length:Int),(i:Int),f,t.1,t.2,(0:Int),(0:Int),(0:Int),c.now.1,c.now.2,c.field.points,c.certs.next_,c.certs.list,c.agenda.slots.uses,c.agenda.slots.used,c.agenda.slots.free,c.agenda.heap,c.agenda.where_,c.due,(0:Int),(0:Int),(0:Int),l)
def hS (f:List Pt) (t:Int×Int) (i:Nat) (l:List Int):=((i:Int),f,t.1,t.2,(0:Int),(0:Int),(0:Int),l)
end Go.Proofs.YtfejhjllooomlaaGreat
namespace Go.Proofs.YtfejhjllooomlaaGreat
open Go.Vm Classical
theorem M9 {c:aH} {l:List Int} (h:VZ c l) (h10:l.length<=10) {k:Nat} (hr:wL c 100 k) (hk:k+9<=999999) {to:Int×Int} (rt:bH to) (r64:mH to) (le: ¬kW to c.now<0) (due:M6 c to):
 ∃x c2 l2 k2,lF ⟨c,l⟩ to=some (⟨c2,l2⟩,x,0)/\VZ c2 l2/\l2.length=l.length/\c2.field=c.field/\ ¬kW to c2.now<0/\k2<=k+9/\wL c2 100 k2/\BQ c.field.points l2 c2.now+1<=BQ c.field.points l c.now:=by
 have ok:=h.ok;have pm:=h.pm;have ln:l.length=c.field.points.length:=by rw [<- pm.length_eq];exact List.length_map ..
 obtain ⟨i0,c',hi0,num,r1,_,ok1,hf,hc,ge⟩:=VX ok due.1;have g:=aC c.agenda.heap 0 due.1;rw [show ((0:Nat):Int)=0 from rfl] at g;have hb:=ok.known i0 hi0;obtain ⟨d,hd,hn⟩:=ok.nums _ (bA due.1);obtain ⟨y,hy,y1,y2,y3⟩:=ok.fol.due d hd;have hye:y=c.certs.list[i0]!:=Up.inj ok.crt_up hy (bA hi0) (by rw [<- y1,hn,num])
 subst hye;have tm:Ev.at c.agenda.heap[0]! =(bI c.field.points (c.certs.list[i0]!).2 c.now).1:=by
  obtain ⟨w,hw,he⟩:=aU.1 y3;have hw0:w=0:=Classical.byContradiction fun hx=>by
   refine ok.agd.nd 0 w (by omega) hw ?_
   rw [he,<- hn,y1]
  subst hw0;rw [he]
 obtain ⟨x,hx⟩: ∃x,x=(c.certs.list[i0]!).2:=⟨_,rfl⟩;rw [<- hx] at r1 hb tm y2;have xe:x∈cP l:=h.ct.mem_iff.1 (List.mem_map.2 ⟨_,bA hi0,hx.symm⟩);obtain ⟨a,ha,ea⟩:=aU.1 xe;rw [iZ] at ha;rw [tO l ha] at ea;have hi:a+1<l.length:=by omega
 have hj:a / 2<l.length:=by omega
 have pe:par (a+1)=a / 2:=by simp only [par];omega
 have nd:=pm.nodup_iff.1 (kY ok.fld.2.2);obtain ⟨i,i1,i2,i3,_⟩:=OS (l:=l) (by omega) (pm.mem_iff.1 (mK.2 hb.1))
 obtain ⟨j,j1,j2,j3,_⟩:=OS (l:=l) (by omega) (pm.mem_iff.1 (mK.2 hb.2))
 have ei:i=a+1:=by
  have:l[i]! =l[a+1]!:=by rw [i2,<- ea]
  rcases Nat.lt_trichotomy i (a+1) with q|q|q
  · exact absurd this (cH.1 nd _ _ q hi)
  · exact q
  · exact absurd this.symm (cH.1 nd _ _ q i1)
 have ej:j=a / 2:=by
  have:l[j]! =l[a / 2]!:=by rw [j2,<- ea]
  rcases Nat.lt_trichotomy j (a / 2) with q|q|q
  · exact absurd this (cH.1 nd _ _ q hj)
  · exact q
  · exact absurd this.symm (cH.1 nd _ _ q j1)
 obtain ⟨c1,hc1⟩: ∃c1,c1=ZW c' (Ev.at c.agenda.heap[0]!):=⟨_,rfl⟩;have ok1:bB c1:=by rw [hc1];exact ok1
 have f1:rA c to=some (c1,c.agenda.heap[0]!,x,0):=by
  unfold rA;rw [M7 ok rt r64 le,aB,gG rfl,cond_true,aT due,Bool.not_true,cond_false,cY rfl,cond_false,g,aB,r1,aB,cY rfl,cond_false,hc1]
 have hfc:c1.field=c.field:=by rw [hc1];exact hf
 have hnow:c1.now=Ev.at c.agenda.heap[0]!:=by rw [hc1]
 have ru:c'.agenda.slots.uses=c.agenda.slots.uses:=by
  refine JI ok hi0 (c':=c') (x:=x) ?_;rw [num];exact r1
 have hr1:wL c1 100 k:=by
  rw [hc1];refine ⟨?_,?_,?_⟩
  · show c'.certs.list.length<=100
    rw [hc];show (c.certs.list.eraseIdx i0).length<=100;rw [List.length_eraseIdx_of_lt hi0];have:=hr.l;omega
  · show c'.certs.next_<=_
    rw [hc];exact hr.n
  · show∀j,j<c'.agenda.slots.uses.length->c'.agenda.slots.uses[j]!<=_
    rw [ru];exact hr.u
 have pm':(nF c.field.points).Perm (jQ l i j):=pm.trans (vD i1 j1).symm;have sl:(jQ l i j).length=l.length:=(vD i1 j1).length_eq;have fok:=ok1.fld;have eok:=M3 fok (l:=jQ l i j) (by rw [hfc];exact pm')
 have el:(cP (jQ l i j)).length<=9:=by rw [iZ];omega
 obtain ⟨r,g1,k',g2,g3⟩:=M8 ok1 eok (by omega) hr1 (by omega)
 obtain ⟨S,s1,_,s3⟩:=aIb ok1 fok (es:=cP (jQ l i j)) eok;have es:S=(r,0):=Option.some.inj (s1.symm.trans g1);rw [es] at s3;rcases s3 with ⟨_,q⟩|q
 case inr=>cases q
 have q:JE c1 c1.field.points (cP (jQ l i j)) r:=q;have ev:lF ⟨c,l⟩ to=some (⟨r,jQ l i j⟩,x,0):=by
  unfold lF;rw [f1,aB,cY rfl,cond_false,bK (show l.length<=1048576 by omega),aB,i3,aB,j3,aB,aC l j j1,aB,aC l i i1,aB,aB]
  rw [oB,aC _ j (by rw [List.length_set];exact j1),aB,oB]
  show (mU (jQ l i j)).bind _=_;rw [G3 _ (by omega),aB]
  show (gQ c1 c1.field (cP (jQ l i j))).bind _=_;rw [g1,aB];rfl
 have ndE:=pm'.nodup_iff.1 (kY ok.fld.2.2);have ct':(r.certs.list.map fun x=>x.2).Perm (cP (jQ l i j)):=JH (C8 q.ok.crt) (C7 ndE) (fun z hz=>by obtain ⟨y,hy,rfl⟩:=List.mem_map.1 hz;exact q.sub y hy) (fun z hz=>tP.1 (q.has z hz))
 have rf:r.field=c.field:=by
  have:=q.fld
  rw [hfc] at this;cases h1:r.field;cases h2:c.field;rw [h1,h2] at this;simpa using this
 have rn:r.now=Ev.at c.agenda.heap[0]!:=q.now.trans hnow;have hpt:=eA ok.fld hb.2;have hpt1:=eA ok.fld hb.1;have ah:bQ (dR c.field.points l[a+1]!) (dR c.field.points l[par (a+1)]!) r.now:=by
  rw [rn,tm,pe]
  have:=T0 hpt.1 hpt1.1 (t:=c.now) y2
  rw [<- ea] at this ⊢;exact this
 have t2:bH r.now:=q.ok.nowv;have th1:=V4 ok.fld.2.2 pm (t:=r.now) (show 0<a+1 by omega) hi ah
 have th2:=V3 ok.fld.2.2 ln (t:=c.now) (t':=r.now) ok.nowv.1 t2.1 (by rw [rn];exact ge)
 refine ⟨x,r,jQ l i j,k',ev,⟨q.ok,by rw [rf];exact pm',ct'⟩,sl,rf,fun hx=>?_,by omega,⟨?_,g3.n,g3.u⟩,?_⟩
 · have h2:=due.2
   rw [rn,xG] at hx
   have: ¬0<kW (Ev.at c.agenda.heap[0]!) to:=by omega
   unfold kW at this;rcases dZ ((Ev.at c.agenda.heap[0]!).1*to.2) (to.1*(Ev.at c.agenda.heap[0]!).2) with ⟨a,b⟩|⟨a,b⟩|⟨a,b⟩<;>omega
 · have:=ct'.length_eq
   rw [List.length_map] at this;omega
 · rw [ei,ej,<- pe]
   omega
theorem aCh {to:Int×Int} (rt:bH to) (r64:mH to): ∀(d:Nat) (c:aH) (l:List Int) (out:List (Int×Int)) (k:Nat),BQ c.field.points l c.now<=d->VZ c l->l.length<=10->wL c 100 k->k+9*(d+1)<=999999->out.length+d<=1048000-> ¬kW to c.now<0->
 ∃c2 l2 out2,aIl to c l out=some (⟨ZW c2 to,l2⟩,out2,0)/\VZ c2 l2/\c2.field=c.field/\ ¬kW to c2.now<0/\ ¬M6 c2 to:=by
 intro d
 induction d with
 |zero=>
  intro c l out k ht h h10 hr hk ho le
  by_cases due:M6 c to
  · obtain ⟨x,c2,l2,k2,_,_,_,_,_,_,_,h8⟩:=M9 h h10 hr (by omega) rt r64 le due
    omega
  · exact ⟨c,l,out,TZ h.ok (by omega) rt r64 le due out,h,rfl,le,due⟩
 |succ d ih=>
  intro c l out k ht h h10 hr hk ho le
  by_cases due:M6 c to
  · obtain ⟨x,c2,l2,k2,e1,h2,h3,h4,h5,h6,h7,h8⟩:=M9 h h10 hr (by omega) rt r64 le due
    rw [aIm e1 (by omega)]
    obtain ⟨c3,l3,out3,a1,a2,a3,a4,a5⟩:=ih c2 l2 (out++[x]) k2 (by rw [h4];omega) h2 (by omega) h7 (by omega) (by rw [List.length_append,List.length_singleton];omega) h5
    exact ⟨c3,l3,out3,a1,a2,a3.trans h4,a4,a5⟩
  · exact ⟨c,l,out,TZ h.ok (by omega) rt r64 le due out,h,rfl,le,due⟩
end Go.Proofs.YtfejhjllooomlaaGreat
namespace Go.Proofs.YtfejhjllooomlaaGreat
open Go.Vm Classical
theorem aIu {s t:Int×Int} (s64:mH s) (t64:mH t):AL s t=some (if bH s/\bH t then 0 else 8):=by
 unfold AL
 by_cases rs:bH s
 · rw [nA s64,if_pos rs,aB,cY rfl,cond_false,nA t64,aB]
   by_cases rt:bH t
   · rw [if_pos rt,if_pos ⟨rs,rt⟩]
   · rw [if_neg rt,if_neg fun h=>rt h.2]
 · rw [nA s64,if_neg rs,aB,if_neg fun h=>rs h.1];rfl
end Go.Proofs.YtfejhjllooomlaaGreat
namespace Go.Proofs.YtfejhjllooomlaaGreat
open Go.Vm Classical
theorem ZU {f:Field} (fok:dH f.points) (h10:f.points.length<=10) {t:Int×Int} (rt:bH t) (r64:mH t): ∃k:eB,sZ f t=some (k,0)/\aB4 k f.points t/\wL k.clock 100 9:=by
 have f1:=fok.1;have il:(nF f.points).length=f.points.length:=List.length_map ..;have so:=X5 fok.2.2 t;have go: ∀(d i:Nat) (l:List Int),f.points.length-i<=d->i<=f.points.length->((nF f.points).take i).Perm l->Hp (TY f.points t) l->
  ∃k:eB,aI kN (bS f.points t (iH f t) i l)=some (k,0)/\aB4 k f.points t/\wL k.clock 100 9:=by
  have fin: ∀l:List Int,(nF f.points).Perm l->Hp (TY f.points t) l-> ∃k:eB,aI kN (bS f.points t (iH f t) f.points.length l)=some (k,0)/\aB4 k f.points t/\wL k.clock 100 9:=by
   intro l pm hh;have ll:l.length=f.points.length:=by rw [<- pm.length_eq,il]
   have ok0:=ZT fok rt r64;have eok:uX (iH f t).field.points (cP l):=M3 fok pm;have hr0:wL (iH f t) 100 0:=⟨Nat.zero_le _,(A6 f t).2.1,(A6 f t).2.2⟩;have el:(cP l).length<=9:=by rw [iZ];omega
   obtain ⟨r,g1,k',g2,g3⟩:=M8 ok0 eok (by omega) hr0 (by omega)
   obtain ⟨r',g1',_,q⟩:=TR ok0 rfl eok (A6 f t) (by omega)
   have e:r'=r:=congrArg Prod.fst (Option.some.inj (g1'.symm.trans g1));rw [e] at q;have g1:gQ (iH f t) f (cP l)=some (r,0):=g1;have hp:aB4 ⟨r,l⟩ f.points t:=JE.heap (c:=iH f t) (R:=⟨r,l⟩) fok pm rfl q hh;refine ⟨⟨r,l⟩,aK ?_,hp,⟨?_,?_,?_⟩⟩
   · have ceta:aH.mk ((iH f t).now.1,(iH f t).now.2) (Field.mk (iH f t).field.points) (aY.mk (iH f t).certs.next_ (iH f t).certs.list) (aG.mk (aR.mk (iH f t).agenda.slots.uses (iH f t).agenda.slots.used (iH f t).agenda.slots.free) (iH f t).agenda.heap (iH f t).agenda.where_) (iH f t).due=iH f t:=rfl
     have feta:Field.mk f.points=f:=rfl;unfold kN bS;simp only [aM (show¬(f.points.length:Int)<(f.points.length:Int) by omega),cond_false,G3 l (by omega),aB,ceta,feta,g1]
   · have e1:=hp.ok.cert.length_eq
     rw [List.length_map] at e1;have e1:r.certs.list.length=(cP l).length:=e1;show r.certs.list.length<=100;omega
   · show r.certs.next_<=((9:Nat):Int)
     have:=g3.n;omega
   · show∀j,j<r.agenda.slots.uses.length->r.agenda.slots.uses[j]!<=((9:Nat):Int)
     intro j hj
     have:=g3.u j hj;omega
  intro d
  induction d with
  |zero=>
   intro i l hd hi pm hh
   have:i=f.points.length:=by omega
   subst this;rw [<- il,List.take_length] at pm;exact fin l pm hh
  |succ d ih=>
   intro i l hd hi pm hh
   by_cases he:i=f.points.length
   · subst he
     rw [<- il,List.take_length] at pm;exact fin l pm hh
   have hi':i<f.points.length:=by omega
   have nd:=kY fok.2.2;have ll:l.length=i:=by rw [<- pm.length_eq,List.length_take];omega
   have idi:(nF f.points)[i]! =(f.points[i]!).1:=by
    rw [getElem!_pos (nF f.points) i (by omega),getElem!_pos f.points i hi']
    exact List.getElem_map ..
   have pm1:((nF f.points).take (i+1)).Perm (l++[(f.points[i]!).1]):=by
    rw [iX (by omega),idi]
    exact pm.append_right _
   have nd1:(l++[(f.points[i]!).1]).Nodup:=pm1.nodup_iff.1 (nd.sublist (List.take_sublist _ _));have hp1: ∀x∈l++[(f.points[i]!).1],nU f.points x:=fun x hx=>mK.1 (List.mem_of_mem_take (pm1.mem_iff.2 hx))
   have l1:(l++[(f.points[i]!).1]).length=i+1:=by rw [List.length_append,List.length_singleton,ll]
   have ap:bZ l [(f.points[i]!).1]=some (l++[(f.points[i]!).1]):=fF (by rw [List.length_singleton];omega)
   have sc:=bG (show i<1000000000 by omega)
   have g:=aC f.points i hi';have s1:kN (bS f.points t (iH f t) i l)=some (.next (bS f.points t (iH f t) (i+1) (BO f.points t i (l++[(f.points[i]!).1])))):=by
    unfold kN bS;simp only [aT (show (i:Int)<(f.points.length:Int) by omega),cond_true,g,aB,ap,aIt fok rt r64 hp1 nd1 (show i<(l++[(f.points[i]!).1]).length by omega) (by omega),sc]
   rw [aZ s1];refine ih (i+1) _ (by omega) (by omega) (pm1.trans (VY f.points t i _ (by omega)).symm) ?_
   refine ZO so (fun _ _=>Iff.rfl) i _ hp1 ⟨by omega,fun j j1 j2 j3=>?_,fun j j1 j2 j3 j4=>by simp only [par] at j3;omega⟩
   have b1:(l++[(f.points[i]!).1])[j]! =l[j]!:=gI (by omega)
   have b2:(l++[(f.points[i]!).1])[par j]! =l[par j]!:=gI (by simp only [par];omega)
   rw [b1,b2];exact hh j j1 (by omega)
 obtain ⟨k,k1,k2,k3⟩:=go f.points.length 0 [] (by omega) (by omega) (List.Perm.refl _) (fun j h1 h2=>by simp at h2)
 refine ⟨k,?_,k2,k3⟩;have cn:=QP f r64;rw [if_neg (show¬kX f.points≠0 from fun h=>h (jN.2 fok)),if_pos rt] at cn
 unfold sZ;rw [cn,aB,cY rfl,cond_false];exact k1
theorem QQ {k:eB} (ok:mI k) (h12:k.clock.field.points.length<=12): ∃a:Int×Int,nN k=some a/\nO k.clock.field k.clock.now=some a:=by
 have fok:=ok.clk.fld;have c1:=C9 ok.clk.fit (show k.heap.length<=1000 by have:=ok.bd;omega)
 rw [if_pos ok] at c1;have ln:=ok.len
 by_cases h0:k.heap.length=0
 · have e0:k.clock.field.points=[]:=List.length_eq_zero_iff.1 (by omega)
   rcases BP fok ok.clk.nowv ok.clk.now64 h12 with ⟨_,m⟩|⟨p,hp,_,_⟩
   · refine ⟨_,?_,m⟩
     unfold nN;rw [c1,aB,cY rfl,cond_false,aF,gG (by omega),cond_true]
   · rw [e0] at hp;cases hp
 · have hl:0<k.heap.length:=by omega
   have so:=X5 fok.2.2 k.clock.now;have all: ∀j,j<k.heap.length-> ¬bQ (dR k.clock.field.points k.heap[j]!) (dR k.clock.field.points k.heap[0]!) k.clock.now:=by
    intro j
    induction j using Nat.strongRecOn with
    |ind j ih=>
     intro hj
     by_cases c:j=0
     · subst c;exact fun h=>fI h h
     · have hp:=ok.hp j (by omega) hj
       have hq:par j<k.heap.length:=by simp only [par];omega
       exact so.ntr (ok.has _ (bA hj)) (ok.has _ (bA hq)) (ok.has _ (bA hl)) hp (ih (par j) (by simp only [par];omega) hq)
   rcases BP fok ok.clk.nowv ok.clk.now64 h12 with ⟨e0,_⟩|⟨p,hp,hm,m⟩
   · have:k.clock.field.points.length=0:=by rw [e0];rfl
     omega
   · refine ⟨_,?_,m⟩
     have h0m:=G5 fok.2.2 (ok.has _ (bA hl));have pid:p.1=k.heap[0]!:=by
      refine Classical.byContradiction fun hne=>?_
      obtain ⟨j,hj,ej⟩:=aU.1 (ok.perm.mem_iff.1 (List.mem_map.2 ⟨p,hp,rfl⟩));have pp:=G4 fok.2.2 hp;have nl:=all j hj;have ej:k.heap[j]! =p.1:=ej;rw [ej,pp] at nl;exact hm _ h0m.1 (jR k.clock.now (by rw [h0m.2];exact hne) nl)
     unfold nN;rw [c1,aB,cY rfl,cond_false,aF,gA (by omega),cond_false,aC k.heap 0 hl|>(fun h=>(h:aL k.heap 0=some k.heap[0]!)),aB,pid]
theorem aCi {a b:Int×Int} (h:a=b):(!((a.1==b.1)&&(a.2==b.2)))=false:=by subst h;simp
def klS (f:List Pt) (to:Int×Int) (k:eB) (i:Nat):=
 (true,(i:Int),f,to.1,to.2,k.clock.now.1,k.clock.now.2,k.clock.field.points,k.clock.certs.next_,k.clock.certs.list,k.clock.agenda.slots.uses,k.clock.agenda.slots.used,k.clock.agenda.slots.free,k.clock.agenda.heap,k.clock.agenda.where_,k.clock.due,k.heap)
theorem BU (f:Field) (s t:Int×Int) (s64:mH s) (t64:mH t):rE f s t=some true:=by
 unfold rE;rw [aB];unfold FE;rw [aB]
 by_cases hm:10<Int.ofNat f.points.length
 · rw [aT hm];rfl
 have h10:f.points.length<=10:=by rw [aF] at hm;omega
 rw [aM hm,cond_false,CV f,aB]
 by_cases h:kX f.points=0
 case neg=>rw [eU h];rfl
 have fok:=jN.1 h;rw [cY h,cond_false,aIu s64 t64,aB]
 by_cases rr:bH s/\bH t
 case neg=>rw [if_neg rr];rfl
 obtain ⟨rs,rt⟩:=rr;rw [if_pos ⟨rs,rt⟩,cY rfl,cond_false,AU s64 t64,aB]
 by_cases l1:0<kW s t
 · rw [aT l1];rfl
 rw [aM l1,cond_false,Bool.not_true,cond_false];have le: ¬kW t s<0:=fun h=>l1 (by rw [xG] at h;unfold kW;rcases dZ (s.1*t.2) (t.1*s.2) with ⟨a,b⟩|⟨a,b⟩|⟨a,b⟩<;>omega)
 obtain ⟨k,k1,k2,k3⟩:=ZU fok h10 rs s64;rw [k1,aB,cY rfl,cond_false];have ck:mY k=some 0:=by
  rw [DA k2.ok.clk.fit (show k.heap.length<=1000 by have:=k2.ok.bd;omega),if_pos k2.ok]
 rw [ck,aB,cY rfl,cond_false];have kl:k.heap.length=f.points.length:=by rw [k2.ok.len,k2.fld]
 have th:=aCe (f:=k.clock.field.points) (l:=k.heap) (t:=k.clock.now) (by rw [k2.fld];exact kl) (by rw [k2.fld];exact h10)
 obtain ⟨c2,l2,out2,a1,a2,a3,a4,a5⟩:=aCh rt t64 2000 k.clock k.heap [] 9 th ⟨k2.ok.clk,k2.ok.perm,k2.ok.cert⟩ (by omega) k3 (by omega) (by simp) (by rw [k2.now];exact le)
 have adv:mC k t=some (⟨ZW c2 t,l2⟩,out2,0):=by
  have c1:=C9 k2.ok.clk.fit (show k.heap.length<=1000 by have:=k2.ok.bd;omega)
  rw [if_pos k2.ok] at c1;unfold mC;rw [c1,aB,cY rfl,cond_false,dV t64,if_pos rt,aB,cY rfl,cond_false,L5 t64 k2.ok.clk.now64,if_pos ⟨rt,k2.ok.clk.nowv⟩,aB,aM (by rw [k2.now];exact le)]
  exact a1
 rw [adv,aB,cY rfl,cond_false];have hok:=aIo a2 rt t64 a4 a5;have hfl:c2.field.points=f.points:=by rw [a3,k2.fld]
 have ck2:mY ⟨ZW c2 t,l2⟩=some 0:=by
  rw [DA hok.clk.fit (show l2.length<=1000 by have:=a2.bd;omega),if_pos hok]
 rw [ck2,aB,cY rfl,cond_false,aCi (show (⟨ZW c2 t,l2⟩:eB).clock.now=t from rfl),cond_false];have sm:oP (⟨ZW c2 t,l2⟩:eB).clock.field f=some true:=by
  rw [show oP (⟨ZW c2 t,l2⟩:eB).clock.field f=_ from C6 c2.field.points f.points (by rw [hfl];omega),aT hfl]
 rw [sm,aB,Bool.not_true,cond_false];have fe:c2.field=f:=by cases h1:c2.field;cases h2:f;rw [h1,h2] at hfl;simpa using hfl
 obtain ⟨R,hR⟩: ∃R:eB,R=⟨ZW c2 t,l2⟩:=⟨_,rfl⟩;have hokR:mI R:=by rw [hR];exact hok
 have Rf:R.clock.field=f:=by rw [hR];exact fe
 have Rn:R.clock.now=t:=by rw [hR]
 have hpR:=hokR.hp;have lR:=hokR.len;rw [Rf] at lR hpR;rw [Rn] at hpR;have hasR:=hokR.has;rw [Rf] at hasR;have f1:=fok.1;have lead:=QQ hokR (by rw [Rf];omega)
 rw [Rf,Rn] at lead;obtain ⟨a,b1,b2⟩:=lead;have nd: ¬M6 R.clock t:=by rw [hR];exact a5
 have wt:tJ R.clock t=some false:=by rw [aB9 hokR.clk t64];exact congrArg some (aM nd)
 have ceta:(eB.mk (aH.mk (R.clock.now.1,R.clock.now.2) (Field.mk R.clock.field.points) (aY.mk R.clock.certs.next_ R.clock.certs.list) (aG.mk (aR.mk R.clock.agenda.slots.uses R.clock.agenda.slots.used R.clock.agenda.slots.free) R.clock.agenda.heap R.clock.agenda.where_) R.clock.due) R.heap)=R:=rfl
 have ceta2:(aH.mk (R.clock.now.1,R.clock.now.2) (Field.mk R.clock.field.points) (aY.mk R.clock.certs.next_ R.clock.certs.list) (aG.mk (aR.mk R.clock.agenda.slots.uses R.clock.agenda.slots.used R.clock.agenda.slots.free) R.clock.agenda.heap R.clock.agenda.where_) R.clock.due)=R.clock:=rfl;have teta:((t.1,t.2):Int×Int)=t:=rfl;have feta:Field.mk f.points=f:=rfl
 have fin:iC (klS f.points t R (max 1 R.heap.length))=some (.done true):=by
  unfold iC klS;simp only [aF,aM (show¬((max 1 R.heap.length:Nat):Int)<(R.heap.length:Int) by omega),cond_false,ceta,ceta2,teta,feta,b1,b2,aB,cond_true,beq_self_eq_true,wt,Bool.not_false]
 have st:=lH (body:=iC) (fun i=>klS f.points t R (i+1)) (max 1 R.heap.length-1) (fun i hi=>by
  have hi1:i+1<R.heap.length:=by omega
  have hq:i / 2<R.heap.length:=by omega
  have hu:=X4 (i:=i+1) (by omega) (by omega)
  rw [show (i+1-1) / 2=i / 2 from rfl] at hu;have pe:par (i+1)=i / 2:=by simp only [par];omega
  have na:pC f t R.heap[i+1]! R.heap[i / 2]! =some false:=by
   rw [show pC f t _ _=_ from aB0 fok t64 (hasR _ (bA hi1)) (hasR _ (bA hq))]
   have:=hpR (i+1) (by omega) hi1
   rw [pe] at this;exact congrArg some (aM this)
  unfold iC klS;simp only [aF,aT (show ((i+1:Nat):Int)<(R.heap.length:Int) by omega),cond_true,aC R.heap (i+1) hi1,aC R.heap (i / 2) hq,hu,aB,teta,feta,na,cond_false,bG (show i+1<1000000000 by omega)])
 rw [show max 1 R.heap.length-1+1=max 1 R.heap.length by omega] at st
 rw [<- hR];exact (show _=_ from st).trans (aK fin)
end Go.Proofs.YtfejhjllooomlaaGreat
namespace Go.Proofs.YtfejhjllooomlaaGreat
open Go.Vm Classical
theorem aPB.of {c:aH} (h1:RT.wf [.i .i64,.i .i64] c.now) (h2: ∀a∈c.agenda.heap,RT.wf [.i .i64,.i .i64,.i .i64,.i .i64,.i .i64] a):aPB c where
 now:=⟨CI h1.1,CI h1.2⟩
 at64 w hw:=by
  have:=h2 (c.agenda.heap[w]!) (by rw [getElem!_pos c.agenda.heap w hw];exact List.getElem_mem hw)
  exact ⟨CI this.1,CI this.2.1⟩
end Go.Proofs.YtfejhjllooomlaaGreat
