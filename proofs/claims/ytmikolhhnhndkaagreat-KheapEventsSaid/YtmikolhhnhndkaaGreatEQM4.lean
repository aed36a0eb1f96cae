/- Plain laws (4). -/
import Derived.Test.YtmikolhhnhndkaaGreatEQM3
import Derived.Test.YtmikolhhnhndkaaGreatEQTB
import Derived.Test.YtmikolhhnhndkaaGreatEVm3
open List renaming length_map->ut,length_drop->AC,length_take->Do,length_singleton->EQ,mem_map->IR,length_append->M2,mem_singleton->NE,getElem_map->UV,length_set->acl,getElem_drop->ad6,length_erase_of_mem->ad7,length_pos_of_mem->ad8,mem_erase_of_ne->adz,mem_cons_of_mem->adA,mem_cons_self->adD,pairwise_map->adU,getElem_take->adX,length_cons->adY,mem_flatMap->adZ,nodup_cons->ae9,mem_append->aea,length->aed
open Nat renaming lt_trichotomy->v6,zero_le->If,le_refl->ad4,le_of_not_lt->ae6,lt_or_ge->aeb
open Classical renaming byContradiction->ww
open Int renaming le_of_eq->PP,mul_nonneg->ad1,mul_right_comm->ad2,sub_mul->ad3,neg_mul->ad5,le_of_lt->ad9,mul_comm->adc,zero_mul->ads,mul_eq_zero->adu,le_refl->adB,not_lt->adG,toNat_natCast->adW,add_zero->aec
open Bool renaming not_true->ac6,not_eq_true'->adV,true->aef,false->aeg
open Prod renaming ext->ad0
open Option renaming some->aee
open Decidable renaming decide->aeh
namespace Go.Proofs.YtmikolhhnhndkaaGreat
open Go.Vm Classical
theorem EZ {f:List Pt} (pC:cV f) {l:List Int} (pm:(vq f).Perm l):CX f (bO l):=by
 have nd:=pm.nodup_iff.1 (mw pC.2.2);have f1:=pC.1;have ln:(aed l)=(aed f):=by rw [<- pm.length_eq];exact ut ..
 have hp: ∀e∈bO l,js f e:=fun e he=>⟨lF.1 (pm.mem_iff.2 (BJ he).1),lF.1 (pm.mem_iff.2 (BJ he).2)⟩
 refine ⟨by rw [fS];omega,fun e he=>?_,hp⟩;obtain ⟨⟨p1,p2⟩,q1,q2⟩:=And.intro (dz pC (hp e he).1) (dz pC (hp e he).2);have ne:=JZ nd he;unfold ek at p1 q1;unfold gV;omega
def jD (l:List Int) (i j:Nat):List Int:=(l.set i l[j]!).set j l[i]!
theorem tK {l:List Int} {i j:Nat} (hi:i<aed l) (hj:j<aed l):(jD l i j).Perm l:=by unfold jD;rw [getElem!_pos l i hi,getElem!_pos l j hj];exact List.set_set_perm hi hj
theorem LR (k:dA):o9 k=aee aef\/(o9 k=aee aeg/\R3 k.kw/\aed k.ce<=70):=by
 unfold o9
 rcases JW k.kw with e|⟨e,sh⟩
 · rw [e];exact .inl rfl
 rw [e,ar,pp,aB]
 by_cases h:70<aed k.ce
 · rw [aK (by omega)];exact .inl rfl
 rw [aG (by omega)];exact .inr ⟨rfl,sh,by omega⟩
theorem CY (p q:Pt) (t:Int×Int):rf p q t=(p.2.1*t.2+p.2.2*t.1) - (q.2.1*t.2+q.2.2*t.1):=by rw [xL,ad3,ad3];omega
theorem J1 {p q r:Pt} {t:Int×Int} (h1:leads p q t) (h2:leads q r t):leads p r t:=by unfold leads at*;rw [CY] at*;generalize p.2.1*t.2+p.2.2*t.1=a at*;generalize q.2.1*t.2+q.2.2*t.1=b at*;generalize r.2.1*t.2+r.2.2*t.1=c at*;omega
theorem Ck {p q:Pt} (t:Int×Int) (h:p.1≠q.1) (hn: ¬leads p q t):leads q p t:=by unfold leads at*;rw [CY] at*;generalize p.2.1*t.2+p.2.2*t.1=a at*;generalize q.2.1*t.2+q.2.2*t.1=b at*;omega
structure SO (P:Int->Int->Prop) (S:Int->Prop):Prop where
 irr: ∀a,S a-> ¬P a a
 tr: ∀a b c,S a->S b->S c->P a b->P b c->P a c
 tot: ∀a b,S a->S b->a≠b->P a b\/P b a
abbrev par (j:Nat):Nat:=(j-1) / 2
def Hp (P:Int->Int->Prop) (l:List Int):Prop:= ∀j,0<j->j<aed l-> ¬P l[j]! l[par j]!
section
variable {P : Int -> Int -> Prop} {S : Int -> Prop}
theorem SO.up (o:SO P S) {a b c:Int} (ha:S a) (hb:S b) (hc:S c) (h1:P b c) (h2: ¬P a c): ¬P a b:=fun h=>h2 (o.tr a b c ha hb hc h h1)
end
theorem xM {l:List Int} {x:Int} (hl:(aed l)<=1000000) (hx:x∈l): ∃k,k<aed l/\l[k]! =x/\fk l x=aee (k:Int)/\Jm l x=aee (k:Int):=by
 obtain ⟨k,k1,k2,k3⟩:=least (c:=fun k=>l[k]! =x) (aN.1 hx);have p:=ik (body:=nq) (fun i=>(l,x,(i:Int))) (aed l) (fun i=>l[i]! =x) (fun i=>(i:Int)) (e:= -1) (fun i hi=>by
  unfold nq;simp only [aB,aK (show (i:Int)<((aed l):Int) by omega),lw,au l i hi,ar,bk (show i<1000000000 by omega)];refine ⟨fun h=>?_,fun h=>?_⟩
  · rw [dB h];rfl
  · rw [dL h];rfl) (by
  unfold nq;simp only [aB,aG (show¬((aed l):Int)<((aed l):Int) by omega),pp])
 exact ⟨k,k1,k2,(EW l x hl).1 k k1 k2 k3,p.1 k k1 k2 k3⟩
theorem tk {l:List Int} {m:Nat} {x:Int} (h:(aed l)=m):(l++[x]).take m=l:=by rw [<- h,List.take_left]
section
variable {k : dA} {f : List Pt} {m n0 : Nat} {x : Int}
end
section
variable {k : dA} {P : Pt} {f : List Pt} {m : Nat}
end
end Go.Proofs.YtmikolhhnhndkaaGreat
namespace Go.Proofs.YtmikolhhnhndkaaGreat
abbrev Nd:=Int×Int×Int
structure J2 (P:Nat->Nat->Prop) (a b i:Nat):Prop where
 lo:a<=i
 hi:i<b
 top: ∀j,a<=j->j<b->j≠i->P i j
inductive nA (P:Nat->Nat->Prop) (N:List Nd):Nat->Nat->Int->Prop
 |nil {a b:Nat} (h:b<=a):nA P N a b (-1)
 |node {a b i:Nat} (h:J2 P a b i) (l:nA P N a i (N[i]!).2.1) (r:nA P N (i+1) b (N[i]!).2.2):nA P N a b (i:Int)
structure WQ (P:Nat->Nat->Prop) (n:Nat):Prop where
 tr: ∀i j k,i<n->j<n->k<n->P i j->P j k->P i k
 asy: ∀i j,i<n->j<n->P i j-> ¬P j i
 tot: ∀i j,i<n->j<n->i≠j-> ¬P i j->P j i
theorem J2.one {P:Nat->Nat->Prop} {n a b i j:Nat} (o:WQ P n) (hb:b<=n) (h:J2 P a b i) (k:J2 P a b j):i=j:=by
 refine ww fun dC=>?_
 have:=h.hi;have:=k.hi;exact o.asy i j (by omega) (by omega) (h.top j k.lo k.hi (fun e=>dC e.symm)) (k.top i h.lo h.hi dC)
theorem nA.link {P:Nat->Nat->Prop} {N:List Nd} {a b:Nat} {r:Int} (h:nA P N a b r):(b<=a/\r= -1)\/(∃i:Nat,r=(i:Int)/\a<=i/\i<b):=by
 cases h with
 |nil h=>exact .inl ⟨h,rfl⟩
 |node h l r=>exact .inr ⟨_,rfl,h.lo,h.hi⟩
theorem nA.unique {P:Nat->Nat->Prop} {n:Nat} (o:WQ P n) {N N':List Nd} {a b:Nat} {r:Int} (h:nA P N a b r): ∀{r':Int},b<=n->nA P N' a b r'->r=r'/\ ∀k,a<=k->k<b->(N[k]!).2=(N'[k]!).2:=by
 induction h with
 |nil h=>
  intro r' hb h';cases h' with
  |nil _=>exact ⟨rfl,fun k h1 h2=>by omega⟩
  |node t _ _=>have:=t.lo;have:=t.hi;omega
 | @node a b i h l r ihl ihr=>
  intro r' hb h';have lo:=h.lo;have hi:=h.hi;cases h' with
  |nil q=>omega
  | @node _ _ j t l' r'=>
   have e:=h.one o hb t;subst e;obtain ⟨e1,f1⟩:=ihl (by omega) l';obtain ⟨e2,f2⟩:=ihr hb r';refine ⟨rfl,fun k h1 h2=>?_⟩;rcases v6 k i with q|q|q
   · exact f1 k h1 q
   · subst q;exact ad0 e1 e2
   exact f2 k (by omega) h2
theorem nA.other {P Q:Nat->Nat->Prop} {n:Nat} (o:WQ Q n) {N:List Nd} {a b:Nat} {r:Int} (h:nA P N a b r):b<=n->(∀k j:Nat,a<=k->k<b->a<=j->j<b->((N[k]!).2.1=(j:Int)\/(N[k]!).2.2=(j:Int))->Q k j)->nA Q N a b r:=by
 induction h with
 |nil h=>exact fun _ _=> .nil h
 | @node a b i h l r ihl ihr=>
  intro hb q;have lo:=h.lo;have hi:=h.hi;have tl:=ihl (by omega) fun k j h1 h2 h3 h4=>q k j h1 (by omega) h3 (by omega)
  have tr:=ihr hb fun k j h1 h2 h3 h4=>q k j (by omega) h2 (by omega) h4
  refine .node ⟨lo,hi,fun j h1 h2 dC=>?_⟩ tl tr;rcases aeb j i with hj|hj
  · generalize hr:(N[i]!).2.1=s at tl
    cases tl with
    |nil q=>omega
    | @node _ _ m t _ _=>
     have t1:=t.lo;have t2:=t.hi;have qm:=q i m lo hi t1 (by omega) (.inl hr)
     by_cases e:j=m
     · rw [e];exact qm
     exact o.tr i m j (by omega) (by omega) (by omega) qm (t.top j h1 hj e)
  generalize hr:(N[i]!).2.2=s at tr
  cases tr with
  |nil q=>omega
  | @node _ _ m t _ _=>
   have t1:=t.lo;have t2:=t.hi;have qm:=q i m lo hi (by omega) t2 (.inr hr)
   by_cases e:j=m
   · rw [e];exact qm
   exact o.tr i m j (by omega) (by omega) (by omega) qm (t.top j (by omega) h2 e)
theorem nA.kids {P:Nat->Nat->Prop} {N:List Nd} {a b:Nat} {r:Int} (h:nA P N a b r): ∀k,a<=k->k<b-> ∀c:Int,((N[k]!).2.1=c\/(N[k]!).2.2=c)->c= -1\/ ∃j:Nat,c=(j:Int)/\a<=j/\j<b/\j≠k/\P k j/\r≠c:=by
 induction h with
 |nil h=>intro k h1 h2;omega
 | @node a b i h l r ihl ihr=>
  have lo:=h.lo;have hi:=h.hi;intro k h1 h2 c hc;rcases v6 k i with q|q|q
  · rcases ihl k h1 q c hc with e|⟨j,e,j1,j2,j3,j4,_⟩
    · exact .inl e
    exact .inr ⟨j,e,j1,by omega,j3,j4,by rw [e];omega⟩
  · subst q
    rcases hc with hc|hc
    · rcases l.link with ⟨_,e⟩|⟨j,e,j1,j2⟩
      · exact .inl (hc▸e)
      exact .inr ⟨j,hc▸e,j1,by omega,by omega,h.top j j1 (by omega) (by omega),by rw [<- hc,e];omega⟩
    rcases r.link with ⟨_,e⟩|⟨j,e,j1,j2⟩
    · exact .inl (hc▸e)
    exact .inr ⟨j,hc▸e,by omega,j2,by omega,h.top j (by omega) j2 (by omega),by rw [<- hc,e];omega⟩
  rcases ihr k (by omega) h2 c hc with e|⟨j,e,j1,j2,j3,j4,_⟩
  · exact .inl e
  exact .inr ⟨j,e,by omega,j2,j3,j4,by rw [e];omega⟩
theorem nA.up {P:Nat->Nat->Prop} {N:List Nd} {a b:Nat} {r:Int} (h:nA P N a b r): ∀k:Nat,a<=k->k<b->(k:Int)≠r-> ∃j,a<=j/\j<b/\((N[j]!).2.1=(k:Int)\/(N[j]!).2.2=(k:Int))/\ ∀m,a<=m->m<b->((N[m]!).2.1=(k:Int)\/(N[m]!).2.2=(k:Int))->m=j:=by
 induction h with
 |nil h=>intro k h1 h2;omega
 | @node a b i h l r ihl ihr=>
  have lo:=h.lo;have hi:=h.hi;have lk:=l.kids;have rk:=r.kids;intro k h1 h2 dC;have hki:k≠i:=fun e=>dC (by rw [e])
  rcases aeb k i with q|q
  · by_cases er:(k:Int)=(N[i]!).2.1
    · refine ⟨i,lo,hi,.inl er.symm,fun m m1 m2 hm=>?_⟩
      rcases v6 m i with w|w|w
      · rcases lk m m1 w _ hm with e|⟨j,e,_,_,_,_,hr⟩
        · omega
        exact absurd er.symm hr
      · exact w
      rcases rk m (by omega) m2 _ hm with e|⟨j,e,j1,_⟩<;>omega
    obtain ⟨j,j1,j2,j3,j4⟩:=ihl k h1 q er
    refine ⟨j,j1,by omega,j3,fun m m1 m2 hm=>?_⟩;rcases v6 m i with w|w|w
    · exact j4 m m1 w hm
    · subst w
      rcases hm with hm|hm
      · exact absurd hm.symm er
      rcases r.link with ⟨_,e⟩|⟨p,e,p1,p2⟩<;>omega
    rcases rk m (by omega) m2 _ hm with e|⟨p,e,p1,_⟩<;>omega
  by_cases er:(k:Int)=(N[i]!).2.2
  · refine ⟨i,lo,hi,.inr er.symm,fun m m1 m2 hm=>?_⟩
    rcases v6 m i with w|w|w
    · rcases lk m m1 w _ hm with e|⟨j,e,_,j2,_⟩<;>omega
    · exact w
    rcases rk m (by omega) m2 _ hm with e|⟨j,e,_,_,_,_,hr⟩
    · omega
    exact absurd er.symm hr
  obtain ⟨j,j1,j2,j3,j4⟩:=ihr k (by omega) h2 er
  refine ⟨j,by omega,j2,j3,fun m m1 m2 hm=>?_⟩;rcases v6 m i with w|w|w
  · rcases lk m m1 w _ hm with e|⟨p,e,_,p2,_⟩<;>omega
  · subst w
    rcases hm with hm|hm
    · rcases l.link with ⟨_,e⟩|⟨p,e,p1,p2⟩<;>omega
    exact absurd hm.symm er
  exact j4 m (by omega) m2 hm
inductive E0 (P:Nat->Nat->Prop) (N:List Nd):Nat->Nat->Int->List Nat->Prop
 |nil {a b:Nat} (h:b<=a):E0 P N a b (-1) []
 |cons {a b k:Nat} {es:List Nat} (h:J2 P a b k) (l:nA P N a k (N[k]!).2.1) (r:E0 P N (k+1) b (N[k]!).2.2 es):E0 P N a b (k:Int) (k::es)
theorem E0.ls {P:Nat->Nat->Prop} {N:List Nd} {a b:Nat} {r:Int} {es:List Nat} (h:E0 P N a b r es):nA P N a b r:=by
 induction h with
 |nil h=>exact .nil h
 |cons h l r ih=>exact .node h l ih
theorem E0.mem {P:Nat->Nat->Prop} {N:List Nd} {a b:Nat} {r:Int} {es:List Nat} (h:E0 P N a b r es): ∀e∈es,a<=e/\e<b:=by
 induction h with
 |nil h=>intro e he;cases he
 |cons h l r ih=>
  intro e he;have lo:=h.lo;have hi:=h.hi;rcases List.mem_cons.1 he with rfl|he
  · exact ⟨lo,hi⟩
  have:=ih e he;omega
end Go.Proofs.YtmikolhhnhndkaaGreat
namespace Go.Proofs.YtmikolhhnhndkaaGreat
open Go.Vm Classical
def ahP (f:List Pt) (t:Int×Int) (i j:Nat):Prop:=leads f[i]! f[j]! t
theorem Cl {p q:Pt} {t:Int×Int} (h:leads p q t): ¬leads q p t:=by unfold leads at*;rw [CY] at*;generalize p.2.1*t.2+p.2.2*t.1=a at*;generalize q.2.1*t.2+q.2.2*t.1=b at*;omega
theorem WR {f:List Pt} (h:gb f) (t:Int×Int):WQ (ahP f t) (aed f) where
 tr:=fun _ _ _ _ _ _ h1 h2=>J1 h1 h2
 asy:=fun _ _ _ _ h=>Cl h
 tot:=fun _ _ hi hj dC hn=>Ck t (fun e=>dC (zf h hi hj e)) hn
structure w9 (f:List Pt) (t:Int×Int) (N:List Nd) (r:Int):Prop where
 len:(aed N)=aed f
 ids: ∀k,k<aed f->(N[k]!).1=(f[k]!).1
 ls:nA (ahP f t) N 0 (aed f) r
theorem w9.same {f:List Pt} (h:gb f) {t:Int×Int} {N N':List Nd} {r r':Int} (a:w9 f t N r) (b:w9 f t N' r'):N=N'/\r=r':=by
 obtain ⟨e1,e2⟩:=a.ls.unique (WR h t) (ad4 _) b.ls;refine ⟨Aq (by rw [a.len,b.len]) fun k hk=>?_,e1⟩;have hk:k<(aed f):=by rw [<- a.len];exact hk
 exact ad0 (by rw [a.ids k hk,b.ids k hk]) (e2 k (If _) hk)
def Below (N:List Nd) (k j:Nat):Prop:=(N[j]!).2.1=(k:Int)\/(N[j]!).2.2=(k:Int)
noncomputable def CE (N:List Nd) (k:Nat):Nat:=if h: ∃j,j<aed N/\Below N k j then h.choose else (aed N)
noncomputable def ag3 (N:List Nd) (k:Nat):List (Int×Int):=if CE N k<(aed N) then [((N[k]!).1,(N[CE N k]!).1)] else []
noncomputable def R8 (N:List Nd):Nat->List (Int×Int)
 |0=>[]
 |k+1=>R8 N k++ag3 N k
section
variable {f : List Pt} {t : Int × Int} {N : List Nd} {r : Int}
theorem w9.par (h:w9 f t N r) {k:Nat} (hk:k<aed f):((k:Int)=r->CE N k=aed N)/\((k:Int)≠r->CE N k<aed N/\Below N k (CE N k)/\CE N k≠k/\ahP f t (CE N k) k)/\ ∀m,m<aed N->Below N k m->m=CE N k:=by
 have ln:=h.len
 by_cases hr:(k:Int)=r
 · have none: ¬ ∃j,j<aed N/\Below N k j:=by
    rintro ⟨j,hj,hb⟩;rcases h.ls.kids j (If _) (by omega) (k:Int) hb with e|⟨_,_,_,_,_,_,e⟩
    · omega
    exact e hr.symm
   have e:CE N k=(aed N):=by unfold CE;rw [dif_neg none]
   exact ⟨fun _=>e,fun q=>absurd hr q,fun m hm hb=>absurd ⟨m,hm,hb⟩ none⟩
 obtain ⟨j,_,j2,j3,j4⟩:=h.ls.up k (If _) hk hr
 have ex: ∃j,j<aed N/\Below N k j:=⟨j,by omega,j3⟩;have e:CE N k=j:=by unfold CE;rw [dif_pos ex];have:=ex.choose_spec;exact j4 _ (If _) (by omega) this.2
 refine ⟨fun q=>absurd q hr,fun _=>?_,fun m hm hb=>by rw [e];exact j4 m (If _) (by omega) hb⟩;rw [e];refine ⟨by omega,j3,?_,?_⟩
 · rcases h.ls.kids j (If _) j2 (k:Int) j3 with q|⟨i,q,_,_,q2,_⟩
   · omega
   intro w;omega
 rcases h.ls.kids j (If _) j2 (k:Int) j3 with q|⟨i,q,_,_,_,q2,_⟩
 · omega
 have:i=k:=by omega
 rw [<- this];exact q2
end
def o1 (f:List Pt) (t:Int×Int) (e c:Nat) (i:Nat) (lc:Int) (N:List Nd) (E:List Int) (left:Int):=
 (e,c,(i:Int),f,((aed f):Int),(i:Int),f,t.1,t.2,(0:Int),lc,N,E,(f[i]!).1,(f[i]!).2.1,(f[i]!).2.2,(f[i]!).1,left,(-1:Int))
section
variable {f : List Pt} {t : Int × Int} {N : List Nd} {r : Int}
theorem w9.link (h:w9 f t N r) {j:Nat} (hj:j<aed f) {c:Int} (hc:(N[j]!).2.1=c\/(N[j]!).2.2=c):c= -1\/(0<=c/\c<aed N):=by
 have ln:=h.len;rcases h.ls.kids j (If _) hj c hc with e|⟨k,e,_,k2,_⟩
 · exact .inl e
 exact .inr ⟨by omega,by omega⟩
end
structure R9 (k:Hj):Prop where
 M':aV k.kw
 ls:w9 k.kw.io.be k.kw.ii k.ls.lm k.ls.lc
 cert:(k.kw.af.ci.map fun x=>x.2).Perm (R8 k.ls.lm (aed k.kw.io.be))
theorem E1 {α:Type} [BEq α] [LawfulBEq α]: ∀{a b:List α},a.Nodup->(∀x∈a,x∈b)->aed a<=aed b
 | [],_,_,_=>If _
 |x::a,b,hd,h=>by rw [ae9] at hd;have hx:=h x adD;have:=E1 (a:=a) (b:=b.erase x) hd.2 (fun y hy=>by rw [adz (fun e=>hd.1 (by rw [<- e];exact hy))];exact h y (adA _ hy));rw [ad7 hx] at this;have:=ad8 hx;rw [adY];omega
theorem J3 {α:Type} [BEq α] [LawfulBEq α] {a b:List α} (ha:a.Nodup) (hb:b.Nodup) (h1: ∀x∈a,x∈b) (h2: ∀x∈b,x∈a):a.Perm b:=lQ ha h1 (E1 hb h2)
structure Sa (R:Hj) (F:List Pt) (t:Int×Int):Prop where
 ok:R9 R
 iq:R.kw.io.be=F
 ii:R.kw.ii=t
theorem Sa.wV {R:Hj} {F:List Pt} {t:Int×Int} (h:Sa R F t):qY R.kw:=h.ok.M'.fit
theorem Sa.same {R S:Hj} {F:List Pt} {t:Int×Int} (h:Sa R F t) (k:Sa S F t):R.ls=S.ls:=by have a:=h.ok.ls;rw [h.iq,h.ii] at a;have b:=k.ok.ls;rw [k.iq,k.ii] at b;obtain ⟨e1,e2⟩:=a.same (by rw [<- h.iq];exact h.ok.M'.iq.2.2) b;obtain ⟨_,⟨r,N⟩⟩:=R;obtain ⟨_,⟨r',N'⟩⟩:=S;simp only at e1 e2;subst e1 e2;rfl
theorem Sb {f:List Pt} (hs:gb f) {q:Pt} (h:q∈f):bJ f q.1=q:=by obtain ⟨i,hi,rfl⟩:=aN.1 h;exact AB hs hi rfl
theorem xN {f:List Pt} (hs:gb f) {x:Int} (h:oq f x):bJ f x∈f/\(bJ f x).1=x:=by obtain ⟨i,hi,rfl⟩:=h;rw [Sb hs (aR hi)];exact ⟨aR hi,rfl⟩
abbrev Sc (f:List Pt) (t:Int×Int) (a b:Int):Prop:=leads (bJ f a) (bJ f b) t
theorem Gn {f:List Pt} (hs:gb f) {t:Int×Int} {l:List Int} (hp: ∀x∈l,oq f x) (nd:l.Nodup):(∀e∈bO l,leads (bJ f e.2) (bJ f e.1) t)↔Hp (Sc f t) l:=by
 constructor
 · intro h j h1 h2 c
   have hm:(l[j]!,l[par j]!)∈bO l:=by refine aN.2 ⟨j-1,by rw [fS];omega,?_⟩;rw [jh l (show j-1<aed l-1 by omega),show j-1+1=j by omega]
   exact Cl c (h _ hm)
 intro h e he
 obtain ⟨i,hi,rfl⟩:=aN.1 he;rw [fS] at hi;rw [jh l hi];have:=h (i+1) (by omega) (by omega);have pe:par (i+1)=i / 2:=by simp only [par];omega
 rw [pe] at this;refine Ck t ?_ this;rw [(xN hs (hp _ (aR (by omega)))).2,(xN hs (hp _ (aR (by omega)))).2];exact fun e=>bN.1 nd (i / 2) (i+1) (by omega) (by omega) e.symm
structure adC (R:dA) (F:List Pt) (t:Int×Int):Prop where
 ok:jR R
 iq:R.kw.io.be=F
 ii:R.kw.ii=t
theorem jR.len {k:dA} (h:jR k):(aed k.ce)=(aed k.kw.io.be):=by rw [<- h.perm.length_eq];exact ut ..
theorem jR.bd {k:dA} (h:jR k):(aed k.ce)<=64:=by have:=h.len;have:=h.M'.iq.1;omega
theorem jR.has {k:dA} (h:jR k): ∀x∈k.ce,oq k.kw.io.be x:=fun _ hx=>lF.1 (h.perm.mem_iff.2 hx)
theorem jR.nd {k:dA} (h:jR k):k.ce.Nodup:=h.perm.nodup_iff.1 (mw h.M'.iq.2.2)
theorem jR.hp {k:dA} (h:jR k):Hp (Sc k.kw.io.be k.kw.ii) k.ce:=(Gn h.M'.iq.2.2 h.has h.nd).1 h.lead
theorem JR.ce {c:aI} {f:List Pt} (pC:cV f) {l:List Int} (pm:(vq f).Perm l) {R:dA} (e:R.ce=l) (q:JR c f (bO l) R.kw) (h:Hp (Sc f c.ii) l):adC R f c.ii:=by
 have nd:=pm.nodup_iff.1 (mw pC.2.2);refine ⟨⟨q.ok,by rw [q.iq,e];exact pm,?_,?_⟩,q.iq,q.ii⟩
 · rw [e]
   exact J3 (w8 q.ok.pT) (w5 nd) (fun x hx=>by obtain ⟨y,hy,rfl⟩:=IR.1 hx;exact q.sub y hy) (fun x hx=>pB.1 (q.has x hx))
 rw [e,q.iq,q.ii]
 exact (Gn pC.2.2 (fun x hx=>lF.1 (pm.mem_iff.2 hx)) nd).2 h
def CZ (c:aI) (to:Int×Int):Prop:=0<aed c.aa.ce/\eK (Ev.at c.aa.ce[0]!) to<=0
theorem AG {c:aI} (ok:aV c) {to:Int×Int} (rt:aZ to) (pN:jP to) (le: ¬eK to c.ii<0):o6 c to=aee (aeh (CZ c to),0):=by
 unfold o6;rw [kG ok.fit,rc ok,ar,df pN,rc rt,ar,cK (by decide),pp,By pN ok.jb,rc ⟨rt,ok.jQ⟩,ar,aG le,pp];unfold za;rw [gZ _ ok.fit.ag,rc ok.kF,ar,cK rfl,pp]
 by_cases h:0<aed c.aa.ce
 · have ev:=ok.kF.ev 0 h
   have g:=au c.aa.ce 0 h;rw [show ((0:Nat):Int)=0 from rfl] at g;rw [dL (by rw [aB];omega),pp,g,ar,ar,cK rfl,pp,By ev.2.1 pN,rc ⟨ev.1,rt⟩,ar]
   congr 2
   by_cases h2:eK (Ev.at c.aa.ce[0]!) to<=0
   · rw [aK (show CZ c to from ⟨h,h2⟩),aK h2]
   rw [aG (fun k:CZ c to=>h2 k.2),aG h2]
 rw [dB (by rw [aB];omega),lw,ar,aG (fun k:CZ c to=>h k.1)]
 rfl
theorem J4 {c:bj} (ok:dQ c) {i:Nat} (hi:i<aed c.ci):Jl c (c.ci[i]!).1=aee (i:Int):=by
 have hl:=ok.len;have k:=ik (body:=sd) (fun j=>((c.ci[i]!).1,(j:Int),c.aM,c.ci)) (aed c.ci) (fun j=>(c.ci[j]!).1=(c.ci[i]!).1) (fun j=>(j:Int)) (e:= -1) (fun j hj=>by
  unfold sd;simp only [aB,aK (show (j:Int)<((aed c.ci):Int) by omega),lw,au c.ci j hj,ar,bk (show j<1000000000 by omega)];refine ⟨fun h=>?_,fun h=>?_⟩
  · rw [dB h];rfl
  · rw [dL h];rfl) (by
  unfold sd;simp only [aB,aG (show¬((aed c.ci):Int)<((aed c.ci):Int) by omega),pp])
 exact k.1 i hi rfl fun j hj e=>by have:=ok.up j i hj hi;omega
abbrev Ya (c:aI) (t:Int×Int):aI:=⟨t,c.io,c.af,c.aa,c.jp⟩
theorem J5 {c:aI} (ok:aV c) {to:Int×Int} (rt:aZ to) (pN:jP to) (le: ¬eK to c.ii<0) (jp:CZ c to):
 ∃(x:Int×Int) (c1:aI),iz c to=aee (c1,c.aa.ce[0]!,x,0)/\Ap c=aee (c1,c.aa.ce[0]!,x)/\aV c1/\c1.io=c.io/\js c.io.be x/\jC c1=jC c+1/\c1.ii=Ev.at c.aa.ce[0]!:=by
 obtain ⟨i,c',hi,num,r1,r2,vG,hf,hc,_⟩:=EV ok jp.1;have g:=au c.aa.ce 0 jp.1;rw [show ((0:Nat):Int)=0 from rfl] at g;have Fx:(aed c'.af.ci)=aed c.af.ci-1:=by rw [hc];exact List.length_eraseIdx_of_lt hi
 have Xu:c'.af.aM=c.af.aM:=by rw [hc];rfl
 refine ⟨(c.af.ci[i]!).2,Ya c' (Ev.at c.aa.ce[0]!),?_,?_,vG,hf,ok.known i hi,?_,rfl⟩
 · unfold iz
   rw [AG ok rt pN le,ar,dB rfl,lw,aK jp,ac6,pp,cK rfl,pp,g,ar,r1,ar,cK rfl,pp]
 · unfold Ap
   rw [g,ar,show (c.aa.ce[0]!).2.2.1=(c.af.ci[i]!).1 from num.symm,J4 ok.pT hi,ar,au c.af.ci i hi,ar,num,r2,ar]
 unfold jC
 show c'.af.aM- ((aed c'.af.ci):Int)=_;rw [Fx,Xu];omega
theorem Sd {c:aI} (ok:aV c) {to:Int×Int} (rt:aZ to) (pN:jP to) (le: ¬eK to c.ii<0) (jp: ¬CZ c to):iz c to=aee (gd,(0,0,0,0,0),(0,0),6):=by unfold iz;rw [AG ok rt pN le,ar,dB rfl,lw,aG jp];rfl
theorem WT {c:aI} (ok:aV c) {to:Int×Int} (rt:aZ to) (pN:jP to) (le: ¬eK to c.ii<0) (jp: ¬CZ c to):uK c to=aee (Ya c to,0):=by unfold uK;rw [AG ok rt pN le,ar,dB rfl,lw,aG jp,pp,cK rfl,pp,iE ok,ar]
theorem OQ {c:aI} (ok:aV c) (l:List Int) {to:Int×Int} (rt:aZ to) (pN:jP to) (le: ¬eK to c.ii<0) (jp: ¬CZ c to):dX ⟨c,l⟩ to=aee (⟨gd,[]⟩,(0,0),6):=by unfold dX;rw [Sd ok rt pN le jp,ar];rfl
def aP (c:aI) (l:List Int) (to:Int×Int) (out:List (Int×Int)):=
 (c.ii.1,c.ii.2,c.io.be,c.af.aM,c.af.ci,c.aa.ai.aq,c.aa.ai.bi,c.aa.ai.bv,c.aa.ce,c.aa.ao,c.jp,l,to.1,to.2,(0:Int),(0:Int),(0:Int),out)
theorem C0 {c:aI} (ok:aV c): -200<=jC c/\jC c<=1000000:=by have h1:=ok.pT.len;have h2:=ok.pT.n0;have h3:=ok.pT.n1;unfold jC;omega
structure Se (c:aI) (m k:Nat):Prop where
 l:(aed c.af.ci)<=m
 n:c.af.aM<=k
 u: ∀j,j<aed c.aa.ai.aq->c.aa.ai.aq[j]!<=k
theorem Se.JS {c:aI} (ok:aV c) {m k:Nat} (h:Se c m k) (hm:m<=199) (hk:k<=999999): ¬(yr c.af\/ ¬tC c.aa.ai):=by
 obtain ⟨h1,h2,h3⟩:=h;have fl:=ok.xV.len;have hd:=ok.hd;have hl:=ok.kF.hl;have wl:=ok.kF.wl;have w2:=ok.CB;rintro (h|h)
 · rcases h with h|h<;>omega
 refine h ⟨by omega,?_⟩
 have:=h3 _ (uS ok.kF.so (by omega)).1;omega
theorem Se.more {c c':aI} {m k:Nat} (h:Se c m k) {x:Int×Int} (hc:c'.af=lE c.af x) (hs:c'.aa.ai=c.aa.ai\/c'.aa.ai=fq c.aa.ai):Se c' (m+1) (k+1):=by
 obtain ⟨h1,h2,h3⟩:=h;refine ⟨?_,?_,fun j hj=>?_⟩
 · rw [hc]
   show (c.af.ci++[(c.af.aM,x)]).length<=_;rw [M2,EQ];omega
 · rw [hc]
   show c.af.aM+1<=_;omega
 rcases hs with e|e
 · rw [e] at hj ⊢
   have:=h3 j hj;omega
 rw [e] at hj ⊢
 change j<(c.aa.ai.aq.set _ _).length at hj;rw [acl] at hj;show (c.aa.ai.aq.set (cq c.aa.ai) (c.aa.ai.aq[cq c.aa.ai]!+1))[j]!<=_;rw [bc];split
 · rename_i h;have:=h3 _ h.2;omega
 have:=h3 j hj;omega
theorem Gp {c:aI} (ok:aV c) {to:Int×Int} (rt:aZ to) (jp: ¬CZ c to) {y:pz} (hy:y∈c.af.ci) (is:(bm c.io.be y.2 c.ii).2=aef):
 to.1*(bm c.io.be y.2 c.ii).1.2<(bm c.io.be y.2 c.ii).1.1*to.2:=by
 obtain ⟨d,hd,_,ev⟩:=ok.xV.has _ hy is;obtain ⟨v,hv,he⟩:=aN.1 ev;have tl:=BI ok.kF v hv;have h0:0<(aed c.aa.ce):=by omega
 have e0:=(ok.kF.ev 0 h0).1.1;have ev':=(ok.kF.ev v hv).1.1;rw [he] at tl ev';have n1: ¬eK (bm c.io.be y.2 c.ii).1 (Ev.at c.aa.ce[0]!)<0:=fun q=>tl (.inl q)
 rw [qo] at n1;have n2: ¬eK (Ev.at c.aa.ce[0]!) to<=0:=fun q=>jp ⟨h0,q⟩
 have n3:to.1*(Ev.at c.aa.ce[0]!).2<(Ev.at c.aa.ce[0]!).1*to.2:=by unfold eK at n2;rcases cH ((Ev.at c.aa.ce[0]!).1*to.2) (to.1*(Ev.at c.aa.ce[0]!).2) with ⟨a,b⟩|⟨a,b⟩|⟨a,b⟩<;>omega
 exact oN rt.1 e0 ev' n3 (adG.1 n1)
theorem Sf {c:aI} (ok:aV c) {to:Int×Int} (rt:aZ to) (pN:jP to) (le: ¬eK to c.ii<0) (jp: ¬CZ c to):aV (Ya c to):=by
 have pt:=fun (x:Int×Int) (hb:js c.io.be x)=>And.intro (dz ok.iq hb.2).1 (dz ok.iq hb.1).1
 refine ⟨rt,pN,ok.iq,ok.pT,ok.kF,ok.CB,ok.hd,ok.known,?_⟩;refine aT.time (t:=c.ii) (fun y hy=>?_) ok.xV;obtain ⟨j,hj,rfl⟩:=aN.1 hy;have hb:=ok.known j hj;refine zl (pt _ hb).1 (pt _ hb).2 ok.jQ rt (by rw [qo] at le;exact adG.1 le) (fun is=>?_);exact ad9 (Gp ok rt jp hy is)
theorem Sg {h l:Pt} {t t':Int×Int} (hh:ek h) (hl:ek l) (r:aZ t) (r':aZ t') (le:t.1*t'.2<=t'.1*t.2) (nf:(fu h l t).2=aef->t'.1*(fu h l t).1.2<(fu h l t).1.1*t'.2): ¬leads l h t':=by
 have mv:=zl hh hl r r' le (fun is=>ad9 (nf is));intro hn;have e:fu h l t'=(t',aef):=by unfold fu;rw [rc hn]
 rw [e] at mv;have:=nf (by rw [<- mv]);rw [<- mv] at this;dsimp only at this;omega
theorem Gq {α:Type} [BEq α] [LawfulBEq α]: ∀{a b:List α},a.Nodup->(∀x∈a,x∈b)->aed a<=aed b
 | [],_,_,_=>If _
 |x::a,b,hd,h=>by rw [ae9] at hd;have hx:=h x adD;have:=Gq (a:=a) (b:=b.erase x) hd.2 (fun y hy=>by rw [adz (fun e=>hd.1 (by rw [<- e];exact hy))];exact h y (adA _ hy));rw [ad7 hx] at this;have:=ad8 hx;rw [adY];omega
theorem LS {α:Type} [BEq α] [LawfulBEq α] {a b:List α} (ha:a.Nodup) (hb:b.Nodup) (h1: ∀x∈a,x∈b) (h2: ∀x∈b,x∈a):a.Perm b:=lQ ha h1 (Gq hb h2)
structure HC (c:aI) (l:List Int):Prop where
 ok:aV c
 pm:(vq c.io.be).Perm l
 ct:(c.af.ci.map fun x=>x.2).Perm (bO l)
theorem HC.bd {c:aI} {l:List Int} (h:HC c l):(aed l)<=64:=by
 have:=h.ok.bd;have:(aed l)=(aed c.io.be):=by rw [<- h.pm.length_eq];exact ut ..
 omega
noncomputable abbrev J6 (to:Int×Int) (c:aI) (l:List Int) (out:List (Int×Int)):=aD iV (aP c l to out)
abbrev ag4:dA×List (Int×Int)×Int:=(⟨gd,[]⟩,[],18)
theorem WU {c c2:aI} {l l2:List Int} {to x:Int×Int} {out:List (Int×Int)} (ev:dX ⟨c,l⟩ to=aee (⟨c2,l2⟩,x,0)) (ol:(aed out)+1<=1048576):J6 to c l out=J6 to c2 l2 (out++[x]):=by
 have pA:(aI.mk (c.ii.1,c.ii.2) (Field.mk c.io.be) (bj.mk c.af.aM c.af.ci) (aH.mk (aU.mk c.aa.ai.aq c.aa.ai.bi c.aa.ai.bv) c.aa.ce c.aa.ao) c.jp)=c:=rfl;have ap:bL out [x]=aee (out++[x]):=eW (by rw [EQ];omega);refine aX ?_;unfold iV aP;simp only [pA,show ((to.1,to.2):Int×Int)=to from rfl,ev,ar,show ((0:Int)==6)=aeg from rfl,pp,show ((0:Int) !=0)=aeg from rfl,ap]
theorem J7 {c:aI} {l l2:List Int} {to x:Int×Int} (out:List (Int×Int)) (ev:dX ⟨c,l⟩ to=aee (⟨gd,l2⟩,x,18)):J6 to c l out=aee ag4:=by have pA:(aI.mk (c.ii.1,c.ii.2) (Field.mk c.io.be) (bj.mk c.af.aM c.af.ci) (aH.mk (aU.mk c.aa.ai.aq c.aa.ai.bi c.aa.ai.bv) c.aa.ce c.aa.ao) c.jp)=c:=rfl;refine aJ ?_;unfold iV aP;simp only [pA,show ((to.1,to.2):Int×Int)=to from rfl,ev,ar,show ((18:Int)==6)=aeg from rfl,pp,show ((18:Int) !=0)=aef from rfl,lw]
theorem step_end {c:aI} (ok:aV c) {l:List Int} (hl:(aed l)<=1000) {to:Int×Int} (rt:aZ to) (pN:jP to) (le: ¬eK to c.ii<0) (jp: ¬CZ c to) (out:List (Int×Int)):J6 to c l out=aee (⟨Ya c to,l⟩,out,0):=by
 have pA:(aI.mk (c.ii.1,c.ii.2) (Field.mk c.io.be) (bj.mk c.af.aM c.af.ci) (aH.mk (aU.mk c.aa.ai.aq c.aa.ai.bi c.aa.ai.bv) c.aa.ce c.aa.ao) c.jp)=c:=rfl;refine aJ ?_;unfold iV aP;simp only [pA,show ((to.1,to.2):Int×Int)=to from rfl,OQ ok l rt pN le jp,ar,show ((6:Int)==6)=aef from rfl,lw,WT ok rt pN le jp,bo (show (aed l)<=1048576 by omega)]
theorem HD {a b:Int×Int}: ¬eK a b<0↔b.1*a.2<=a.1*b.2:=by rw [qo];omega
theorem C1 {a b:Int×Int}:eK a b<=0↔a.1*b.2<=b.1*a.2:=by unfold eK;rcases cH (a.1*b.2) (b.1*a.2) with ⟨x,y⟩|⟨x,y⟩|⟨x,y⟩<;>omega
theorem CZ.more {c:aI} (ok:aV c) {s t:Int×Int} (rs:aZ s) (rt:aZ t) (st: ¬eK t s<0) (h:CZ c s):CZ c t:=by refine ⟨h.1,?_⟩;have e0:=(ok.kF.ev 0 h.1).1.1;have h2:=h.2;rw [C1] at*;rw [HD] at st;exact eX e0 rs.1 rt.1 h2 st
theorem HE {p q:Pt} (t:Int×Int) (h:p.1≠q.1) (hn: ¬leads p q t):leads q p t:=by unfold leads at*;rw [xL,ad3,ad3] at*;generalize p.2.1*t.2=a at*;generalize p.2.2*t.1=b at*;generalize q.2.1*t.2=c at*;generalize q.2.2*t.1=d at*;omega
section
variable {s t : Int × Int}
theorem J8 {k:dA} (n:R4 k.kw) (sh:R3 k.kw) (hl:(aed k.ce)<=1000) (ok:jR k) {to:Int×Int} (rt:aZ to) (pN:jP to) (le: ¬eK to k.kw.ii<0):jI k to=J6 to k.kw k.ce []:=by have c1:=EX ⟨n.ii,⟨sh.s3,sh.h,sh.w,n.Jz⟩,sh.d⟩ hl;rw [rc ok] at c1;unfold jI;rw [c1,ar,cK rfl,pp,df pN,rc rt,ar,cK rfl,pp,By pN n.ii,rc ⟨rt,ok.M'.jQ⟩,ar,aG le];rfl
theorem WV {c:aI} {l:List Int} (h:HC c l) (rs:aZ s) (s64:jP s) (le: ¬eK s c.ii<0) (jp: ¬CZ c s):jR ⟨Ya c s,l⟩:=by
 have ok:=h.ok;have nd:=h.pm.nodup_iff.1 (mw ok.iq.2.2);refine ⟨Sf ok rs s64 le jp,h.pm,h.ct,fun e he=>?_⟩;obtain ⟨j,hj,hx⟩:=pB.2 (h.ct.mem_iff.2 he);have hb:=ok.known j hj;rw [hx] at hb;have p2:=dz ok.iq hb.2;have p1:=dz ok.iq hb.1;have nl: ¬leads (bJ c.io.be e.1) (bJ c.io.be e.2) s:=by
  refine Sg p2.1 p1.1 ok.jQ rs (by rw [HD] at le;exact le) fun is=>?_
  have:=Gp ok rs jp (aR hj);rw [hx] at this;exact this is
 exact HE s (by rw [p1.2,p2.2];exact JZ nd he) nl
end
noncomputable def pos (l:List Int) (x:Int):Nat:=if h: ∃k,k<aed l/\l[k]! =x then h.choose else 0
section
variable (f : List Pt)
end
section
variable {f : List Pt}
theorem J9 {h l:Pt} {t:Int×Int} (hh:ek h) (hl:ek l) (is:(fu h l t).2=aef):leads l h (fu h l t).1:=by
 unfold fu at*
 by_cases h1:leads l h t
 · rw [rc h1];exact h1
 rw [sp h1] at is ⊢
 by_cases h2:h.2.2<l.2.2
 · rw [rc h2]
   obtain ⟨_,m1,m2,m3⟩:=sN hh hl (show h.2.2≠l.2.2 by omega);refine .inr ⟨?_,.inl h2⟩;show rf l h (met h l)=0;rw [xL];have e1:(l.2.1-h.2.1)*(met h l).2= -((h.2.1-l.2.1)*(met h l).2):=by rw [<- ad5];congr 1;omega
   rw [e1,<- m3,adc (l.2.2-h.2.2)];omega
 rw [sp h2] at is;cases is
end
theorem AH (p q:Pt) (t t':Int×Int):rf p q t'*t.2=rf p q t*t'.2+(p.2.2-q.2.2)*(t'.1*t.2-t.1*t'.2):=by unfold rf;generalize p.2.1-q.2.1=a;generalize p.2.2-q.2.2=b;simp only [Int.mul_add,Int.mul_sub,Int.mul_assoc,adc,Int.mul_left_comm];omega
theorem C2 (p q:Pt) (t:Int×Int):rf q p t= -rf p q t:=by unfold rf;rw [show q.2.1-p.2.1= -(p.2.1-q.2.1) by omega,show q.2.2-p.2.2= -(p.2.2-q.2.2) by omega,ad5,ad5];omega
theorem BK {a b:Int} (hb:0<b) (h:0<=a*b):0<=a:=ww fun hn=>by have:=Int.mul_neg_of_neg_of_pos (show a<0 by omega) hb;omega
theorem Gr {p q:Pt} {t t':Int×Int} (d:1<=t.2) (d':1<=t'.2) (le:t.1*t'.2<=t'.1*t.2) (hb:q.2.2<=p.2.2) (h:0<=rf p q t):0<=rf p q t':=by refine BK (show 0<t.2 by omega) ?_;rw [AH p q t t'];have a:=ad1 h (show 0<=t'.2 by omega);have b:=ad1 (show 0<=p.2.2-q.2.2 by omega) (show 0<=t'.1*t.2-t.1*t'.2 by omega);omega
theorem Sh {p q:Pt} {t t':Int×Int} (d:1<=t.2) (d':1<=t'.2) (e:t.1*t'.2=t'.1*t.2) (h:0<=rf p q t):0<=rf p q t':=by refine BK (show 0<t.2 by omega) ?_;rw [AH p q t t',show t'.1*t.2-t.1*t'.2=0 by omega,Int.mul_zero,aec];exact ad1 h (show 0<=t'.2 by omega)
theorem OR {h l:Pt} {t t':Int×Int} (hh:ek h) (hl:ek l) (r:aZ t) (r':aZ t') (le:t.1*t'.2<=t'.1*t.2) (w:0<=rf h l t) (nf:(fu h l t).2=aef->t'.1*(fu h l t).1.2<=(fu h l t).1.1*t'.2):0<=rf h l t':=by
 have d:=r.1;have d':=r'.1
 by_cases hb:l.2.2<=h.2.2
 · exact Gr d d' le hb w
 by_cases ld:leads l h t
 · have nf:=nf (by unfold fu;rw [rc ld])
   rw [show (fu h l t).1=t by unfold fu;rw [rc ld]] at nf;exact Sh d d' (by omega) w
 have xX:h.2.2<l.2.2:=by omega
 have e:fu h l t=(met h l,aef):=by unfold fu;rw [sp ld,rc xX]
 rw [e] at nf;have nf:t'.1*(met h l).2<=(met h l).1*t'.2:=nf rfl;obtain ⟨_,mr,_,me⟩:=sN hh hl (show h.2.2≠l.2.2 by omega);have md:=mr.1;have z:rf h l (met h l)=0:=by
  unfold rf;have:(h.2.2-l.2.2)*(met h l).1= -((met h l).1*(l.2.2-h.2.2)):=by rw [show h.2.2-l.2.2= -(l.2.2-h.2.2) by omega,ad5,adc]
  rw [this,me];omega
 have m:=AH h l t' (met h l);rw [z,ads] at m;refine BK (show 0<(met h l).2 by omega) ?_;have b:=ad1 (show 0<=l.2.2-h.2.2 by omega) (show 0<=(met h l).1*t'.2-t'.1*(met h l).2 by omega);rw [show l.2.2-h.2.2= -(h.2.2-l.2.2) by omega,ad5] at b;omega
structure HF (f:List Pt) (x:Int×Int) (t:Int×Int):Prop where
 both:js f x
 zero:rf (bJ f x.2) (bJ f x.1) t=0
 HG:(bJ f x.2).2.2<(bJ f x.1).2.2
def HH (f:List Pt):Prop:= ∀p∈f,∀q∈f,p.2.1=q.2.1->p.2.2=q.2.2->p.1=q.1
def J' (f:List Pt) (es:List (Int×Int)) (t:Int×Int):Prop:= ∀e∈es,0<=rf (bJ f e.2) (bJ f e.1) t
theorem OS {c:aI} (ok:aV c) (ap:HH c.io.be) (w:J' c.io.be (c.af.ci.map fun x=>x.2) c.ii) {to:Int×Int} (rt:aZ to) (pN:jP to) (le: ¬eK to c.ii<0) (jp:CZ c to):
 ∃x c1,iz c to=aee (c1,c.aa.ce[0]!,x,0)/\x∈(c.af.ci.map fun x=>x.2)/\HF c.io.be x (Ev.at c.aa.ce[0]!)/\J' c.io.be (c.af.ci.map fun x=>x.2) (Ev.at c.aa.ce[0]!)/\
  c.ii.1*(Ev.at c.aa.ce[0]!).2<=(Ev.at c.aa.ce[0]!).1*c.ii.2/\aZ (Ev.at c.aa.ce[0]!)/\x.1≠x.2:=by
 obtain ⟨i0,c',hi0,num,r1,_,vG,hf,hc,ge⟩:=EV ok jp.1;have g:=au c.aa.ce 0 jp.1;rw [show ((0:Nat):Int)=0 from rfl] at g;have hb:=ok.known i0 hi0;obtain ⟨d,hd,hn⟩:=ok.wV _ (aR jp.1);obtain ⟨y,hy,y1,y2,y3⟩:=ok.xV.jp d hd;have hye:y=c.af.ci[i0]!:=Up.inj ok.qZ hy (aR hi0) (by rw [<- y1,hn,num]);subst hye;have tm:Ev.at c.aa.ce[0]! =(bm c.io.be (c.af.ci[i0]!).2 c.ii).1:=by
  obtain ⟨w,hw,he⟩:=aN.1 y3;have hw0:w=0:=ww fun hx=>by refine ok.kF.nd 0 w (by omega) hw ?_;rw [he,<- hn,y1]
  subst hw0;rw [he]
 obtain ⟨x,hx⟩: ∃x,x=(c.af.ci[i0]!).2:=⟨_,rfl⟩;rw [<- hx] at r1 hb tm y2;have xm:x∈(c.af.ci.map fun x=>x.2):=IR.2 ⟨_,aR hi0,hx.symm⟩;have f1:iz c to=aee (Ya c' (Ev.at c.aa.ce[0]!),c.aa.ce[0]!,x,0):=by unfold iz;rw [AG ok rt pN le,ar,dB rfl,lw,aK jp,ac6,pp,cK rfl,pp,g,ar,r1,ar,cK rfl,pp]
 have rE:aZ (Ev.at c.aa.ce[0]!):=(ok.kF.ev 0 jp.1).1;have hpt:=dz ok.iq hb.2;have ag5:=dz ok.iq hb.1;have wk:J' c.io.be (c.af.ci.map fun x=>x.2) (Ev.at c.aa.ce[0]!):=fun e he=>by
  obtain ⟨y,hy,rfl⟩:=IR.1 he;obtain ⟨j,hj,rfl⟩:=aN.1 hy;have hbj:=ok.known j hj;refine OR (dz ok.iq hbj.2).1 (dz ok.iq hbj.1).1 ok.jQ rE ge (w _ he) fun is=>?_
  obtain ⟨d,hd,_,ev⟩:=ok.xV.has _ (aR hj) is;obtain ⟨v,hv,he⟩:=aN.1 ev;have tl:=BI ok.kF v hv;rw [he] at tl;have n1: ¬eK (bm c.io.be (c.af.ci[j]!).2 c.ii).1 (Ev.at c.aa.ce[0]!)<0:=fun q=>tl (.inl q)
  rw [qo] at n1;exact adG.1 n1
 have ld:leads (bJ c.io.be x.1) (bJ c.io.be x.2) (Ev.at c.aa.ce[0]!):=by rw [tm];exact J9 hpt.1 ag5.1 (t:=c.ii) y2
 have g0:=wk x xm;have gn:=C2 (bJ c.io.be x.2) (bJ c.io.be x.1) (Ev.at c.aa.ce[0]!);have z:rf (bJ c.io.be x.2) (bJ c.io.be x.1) (Ev.at c.aa.ce[0]!)=0:=by rcases ld with h|h<;>omega
 have xne:x.1≠x.2:=by have cv:=ok.pT.cv i0 hi0;rw [<- hx] at cv;unfold gV at cv;omega
 refine ⟨x,_,f1,xm,⟨hb,z,?_⟩,wk,ge,rE,xne⟩;rcases ld with h|⟨_,h|⟨h,_⟩⟩
 · omega
 · exact h
 ·
  exfalso;have e:(bJ c.io.be x.2).2.2- (bJ c.io.be x.1).2.2=0:=by omega
  have z2:=z;unfold rf at z2;rw [e,ads,aec] at z2;have:(bJ c.io.be x.2).2.1- (bJ c.io.be x.1).2.1=0:=by
   rcases adu.1 z2 with h|h
   · exact h
   have:=rE.1;omega
  have:=ap _ (xN ok.iq.2.2 hb.2).1 _ (xN ok.iq.2.2 hb.1).1 (by omega) (by omega);rw [hpt.2,ag5.2] at this;exact xne this.symm
theorem HF.behind {f:List Pt} {x t to:Int×Int} (h:HF f x t) (d:1<=t.2) (d':1<=to.2) (le:t.1*to.2<=to.1*t.2):leads (bJ f x.1) (bJ f x.2) to:=by
 have z:=h.zero;have s:=h.HG;have n:=C2 (bJ f x.2) (bJ f x.1) t;have g:=Gr (p:=bJ f x.1) (q:=bJ f x.2) d d' le (by omega) (by omega);unfold leads
 by_cases e:rf (bJ f x.1) (bJ f x.2) to=0
 · exact .inr ⟨e,.inl s⟩
 exact .inl (by omega)
theorem HF.once {f:List Pt} {x t u:Int×Int} (h:HF f x t) (k:HF f x u):t.1*u.2=u.1*t.2:=by
 have z:=AH (bJ f x.2) (bJ f x.1) t u;have s:=h.HG;rw [h.zero,k.zero,ads,ads,Int.zero_add] at z;rcases adu.1 z.symm with h|h
 · omega
 omega
theorem HF.later {f:List Pt} {x t ii:Int×Int} (h:HF f x t) (d:1<=t.2) (d':1<=ii.2) (ld:leads (bJ f x.2) (bJ f x.1) ii):ii.1*t.2<t.1*ii.2:=by
 refine ww fun hn=>?_
 have b:=h.behind d d' (by omega);have n:=C2 (bJ f x.2) (bJ f x.1) ii;unfold leads at b ld;have s:=h.HG;omega
structure LU (f:List Pt) (ii to:Int×Int) (E:List ((Int×Int)×(Int×Int))):Prop where
 ev: ∀e∈E,HF f e.1 e.2/\aZ e.2/\ii.1*e.2.2<e.2.1*ii.2/\e.2.1*to.2<=to.1*e.2.2
 ch: ∀i,i+1<aed E->(E[i]!).2.1*(E[i+1]!).2.2<=(E[i+1]!).2.1*(E[i]!).2.2/\(E[i]!).1≠(E[i+1]!).1
theorem LU.mono {f:List Pt} {ii to:Int×Int} {E:List ((Int×Int)×(Int×Int))} (h:LU f ii to E): ∀(j i:Nat),i<=j->j<aed E->(E[i]!).2.1*(E[j]!).2.2<=(E[j]!).2.1*(E[i]!).2.2:=by
 intro j
 induction j with
 |zero=>intro i hi _;(have:i=0:=by omega);subst this;exact adB _
 |succ j ih=>
  intro i hi hj
  by_cases e:i=j+1
  · subst e;exact adB _
  have d:=fun k (hk:k<aed E)=>(h.ev _ (aR hk)).2.1.1
  exact eX (d i (by omega)) (d j (by omega)) (d (j+1) hj) (ih i (by omega) (by omega)) (h.ch j hj).1
theorem LU.nodup {f:List Pt} {ii to:Int×Int} {E:List ((Int×Int)×(Int×Int))} (h:LU f ii to E)
 (diff: ∀e∈E,∀g∈E,e.1≠g.1->e.2.1*g.2.2≠g.2.1*e.2.2):(E.map fun e=>e.1).Nodup:=by
 refine bN.2 fun i j kH hj he=>?_
 rw [ut] at hj;have m: ∀k,k<aed E->(E.map fun e=>e.1)[k]! =(E[k]!).1:=fun k hk=>by rw [getElem!_pos _ k (by rw [ut];exact hk),getElem!_pos E k hk,UV]
 rw [m i (by omega),m j hj] at he;have a:=h.ev _ (aR (show i<(aed E) by omega));have b:=h.ev _ (aR hj);have c:=h.ev _ (aR (show i+1<(aed E) by omega));have same:(E[i]!).2.1*(E[j]!).2.2=(E[j]!).2.1*(E[i]!).2.2:=by have a1:=a.1;rw [he] at a1;exact a1.once b.1
 have m1:=h.ch i (by omega);have m2:=h.mono j (i+1) (by omega) hj;refine diff _ (aR (show i<(aed E) by omega)) _ (aR (show i+1<(aed E) by omega)) m1.2 ?_;have back:=eX c.2.1.1 b.2.1.1 a.2.1.1 m2 (show (E[j]!).2.1*(E[i]!).2.2<=(E[i]!).2.1*(E[j]!).2.2 by omega);have fw:=m1.1;omega
theorem LU.nil (f:List Pt) (ii to:Int×Int):LU f ii to []:=⟨fun _ h=>by simp at h,fun i h=>by simp at h⟩
theorem LU.snoc {f:List Pt} {ii to:Int×Int} {E:List ((Int×Int)×(Int×Int))} (h:LU f ii to E) {x t:Int×Int} (ev:HF f x t) (r:aZ t) (l1:ii.1*t.2<t.1*ii.2) (l2:t.1*to.2<=to.1*t.2)
 (last: ∀i,i+1=aed E->(E[i]!).2.1*t.2<=t.1*(E[i]!).2.2/\(E[i]!).1≠x):LU f ii to (E++[(x,t)]):=by
 refine ⟨fun e he=>?_,fun i hi=>?_⟩
 · rcases aea.1 he with he|he
   · exact h.ev e he
   obtain rfl:=NE.1 he
   exact ⟨ev,r,l1,l2⟩
 rw [M2,EQ] at hi
 by_cases e:i+1=aed E
 · have:=last i e
   rw [eM (show i<(aed E) by omega),fC (show (aed E)<=i+1 by omega),show i+1-(aed E)=0 by omega];exact this
 rw [eM (show i<(aed E) by omega),eM (show i+1<(aed E) by omega)]
 exact h.ch i (by omega)
theorem E2 {p q:Pt} (hp:ek p) (hq:ek q) (h:p.1≠q.1):dW p q=aee (if p.2.2=q.2.2 then ((0,0),6) else (met p q,0)):=by
 unfold dW;obtain ⟨w1,w2,i1,i2⟩:=Bz hp hq;rw [oL (by constructor<;>constructor<;>decide),rc ⟨hp,hq,Jq⟩,sp h];simp only [ar,show ((0:Int) !=0)=aeg from rfl,pp]
 by_cases e:p.2.2=q.2.2
 · rw [rc e,dB e,lw]
 rw [sp e,dL e,pp,w1,w2,MZ i1 i2,(sN hp hq e).1]
 rfl
def zm (a:uD):Int×Int:=(a.1,a.2.1)
def sW (a b:uD):Int:=if eK (zm a) (zm b)≠0 then eK (zm a) (zm b) else if gU a.2.2.1 b.2.2.1≠0 then gU a.2.2.1 b.2.2.1 else gU a.2.2.2 b.2.2.2
structure xa (a:uD):Prop where
 rat:aZ (zm a)
 pN:jP (zm a)
theorem WW (a b c:Int):kg [a,b,c]=aee (if a≠0 then a else if b≠0 then b else c):=by
 unfold kg
 by_cases h1:a=0
 · subst h1
   rw [aX (y:=(0,[0,b,c],3,1)) (by rfl)]
   by_cases h2:b=0
   · subst h2
     rw [aX (y:=(0,[0,0,c],3,2)) (by rfl)]
     by_cases h3:c=0
     · subst h3
       rw [aX (y:=(0,[0,0,0],3,3)) (by rfl)];exact aJ rfl
     refine aJ ?_
     show (bif aeh ((2:Int)<3) then _ else _)=_;simp only [aC];simp;rw [dS h3];rfl
   refine aJ ?_
   show (bif aeh ((1:Int)<3) then _ else _)=_;simp only [aC];simp;rw [dS h2,sp h2];rfl
 refine aJ ?_
 show (bif aeh ((0:Int)<3) then _ else _)=_;simp only [aC];simp;rw [dS h1,sp h1];rfl
theorem AI {a b:Int×Int} (ha:jP a) (hb:jP b) (ra:aZ a) (rb:aZ b):lN a b=aee (eK a b):=by unfold lN;rw [By ha hb,rc ⟨ra,rb⟩];rfl
theorem Ka {a b:uD} (ha:xa a) (hb:xa b):fj a b=aee (sW a b):=by unfold fj sW;rw [show (a.1,a.2.1)=zm a from rfl,show (b.1,b.2.1)=zm b from rfl,AI ha.pN hb.pN ha.rat hb.rat];simp only [ar,gM,WW]
theorem ss {a b:uD}:sW a b<0↔a.1*b.2.1<b.1*a.2.1\/(a.1*b.2.1=b.1*a.2.1/\(a.2.2.1<b.2.2.1\/(a.2.2.1=b.2.2.1/\a.2.2.2<b.2.2.2))):=by
 unfold sW;have h1:eK (zm a) (zm b)=gU (a.1*b.2.1) (b.1*a.2.1):=rfl;rw [h1];rcases cH (a.1*b.2.1) (b.1*a.2.1) with ⟨h,e⟩|⟨h,e⟩|⟨h,e⟩<;>rw [e]
 · simp;omega
 · rcases cH a.2.2.1 b.2.2.1 with ⟨h2,e2⟩|⟨h2,e2⟩|⟨h2,e2⟩<;>rw [e2]
   · simp;omega
   · rcases cH a.2.2.2 b.2.2.2 with ⟨h3,e3⟩|⟨h3,e3⟩|⟨h3,e3⟩<;>rw [e3]<;>simp<;>omega
   simp;omega
 simp;omega
theorem E3 {a b c:uD} (ha:xa a) (hb:xa b) (hc:xa c) (h1:sW a b<0) (h2:sW b c<0):sW a c<0:=by
 rw [ss] at*;have da:1<=a.2.1:=ha.rat.1;have db:1<=b.2.1:=hb.rat.1;have dc:1<=c.2.1:=hc.rat.1;rcases h1 with h1|⟨e1,h1⟩<;>rcases h2 with h2|⟨e2,h2⟩
 · exact .inl (oN da db dc h1 (ad9 h2))
 · exact .inl (oN da db dc h1 (PP e2))
 · exact .inl (ny da db dc (PP e1) h2)
 right
 have x1:=eX da db dc (PP e1) (PP e2);have x2:=eX dc db da (PP e2.symm) (PP e1.symm);exact ⟨by omega,by omega⟩
theorem Cm {a b c:uD} (ha:xa a) (hb:xa b) (hc:xa c) (h1: ¬sW a b<0) (h2: ¬sW b c<0): ¬sW a c<0:=by
 rw [ss] at*;have da:1<=a.2.1:=ha.rat.1;have db:1<=b.2.1:=hb.rat.1;have dc:1<=c.2.1:=hc.rat.1;intro h;have x:b.1*a.2.1<=a.1*b.2.1:=by omega
 have y:c.1*b.2.1<=b.1*c.2.1:=by omega
 have z:=eX dc db da y x;have e:a.1*c.2.1=c.1*a.2.1:=by omega
 have x1:=eX da dc db (show a.1*c.2.1<=c.1*a.2.1 by omega) y;have y1:=eX db da dc x (show a.1*c.2.1<=c.1*a.2.1 by omega);omega
theorem Si {a b:uD} (ha:xa a) (hb:xa b) (h1: ¬sW a b<0) (h2: ¬sW b a<0):a=b:=by
 rw [ss] at*;have e:=xK ha.rat hb.rat (show a.1*b.2.1=b.1*a.2.1 by omega);unfold zm at e;injection e with e1 e2;have e3:a.2.2.1=b.2.2.1:=by omega
 have e4:a.2.2.2=b.2.2.2:=by omega
 exact ad0 e1 (ad0 e2 (ad0 e3 e4))
theorem LV {l:List uD} (h: ∀x∈l,xa x): ∃m,Aj fj l=aee m/\m.Perm l/\m.Pairwise fun x y=> ¬sW y x<0:=by
 have e: ∀x∈l,∀y∈l,(fj x y).getD 0=sW x y:=fun x hx y hy=>by rw [Ka (h x hx) (h y hy)];rfl
 refine ⟨l.mergeSort fun x y=>!aeh ((fj y x).getD 0<0),?_,List.mergeSort_perm _ _,?_⟩
 · unfold Aj
   rw [rc];refine ⟨fun x hx y hy=>⟨_,Ka (h x hx) (h y hy)⟩,fun x hx=>?_,fun x hx y hy z hz h1 h2=>?_,fun x hx y hy z hz h1 h2=>?_,fun x hx y hy h1 h2=>?_⟩
   · rw [e x hx x hx,ss];omega
   · rw [e x hx y hy] at h1
     rw [e y hy z hz] at h2;rw [e x hx z hz];exact E3 (h x hx) (h y hy) (h z hz) h1 h2
   · rw [e x hx y hy] at h1
     rw [e y hy z hz] at h2;rw [e x hx z hz];exact Cm (h x hx) (h y hy) (h z hz) h1 h2
   rw [e x hx y hy] at h1
   rw [e y hy x hx] at h2;exact Si (h x hx) (h y hy) h1 h2
 obtain ⟨l',jU⟩: ∃l':List {a:uD // xa a},l'.map (fun x=>x.1)=l:=⟨l.attach.map fun x=>⟨x.1,h x.1 x.2⟩,by rw [List.map_map];exact List.attach_map_subtype_val l⟩
 have hm:(l'.mergeSort fun x y=>!aeh (sW y.1 x.1<0)).map (fun x=>x.1)=l.mergeSort fun x y=>!aeh ((fj y x).getD 0<0):=by
  rw [<- jU];refine List.map_mergeSort fun a ha b hb=>?_
  have ma:a.1∈l:=by rw [<- jU];exact IR.2 ⟨a,ha,rfl⟩
  have mb:b.1∈l:=by rw [<- jU];exact IR.2 ⟨b,hb,rfl⟩
  rw [e b.1 mb a.1 ma]
 rw [<- hm,adU];have:=List.pairwise_mergeSort (le:=fun x y:{a:uD // xa a}=>!aeh (sW y.1 x.1<0)) (fun a b c h1 h2=>by
  simp only [adV,decide_eq_false_iff_not] at*;exact Cm c.2 b.2 a.2 h2 h1) (fun a b=>by
  simp only [Bool.or_eq_true,adV,decide_eq_false_iff_not]
  by_cases q:sW b.1 a.1<0
  · right
    intro q2;have:=E3 a.2 b.2 a.2 q2 q;rw [ss] at this;omega
  exact .inl q) l'
 exact this.imp fun h=>by simpa using h
theorem BL {l:List Pt} {x:Pt×Pt}:x∈fN l↔ ∃i j,i<j/\j<aed l/\x=(l[i]!,l[j]!):=by
 unfold fN;simp only [adZ,List.mem_range,IR];constructor
 · rintro ⟨i,hi,q,hq,rfl⟩
   obtain ⟨k,hk,rfl⟩:=aN.1 hq;rw [AC] at hk;refine ⟨i,i+1+k,by omega,by omega,?_⟩;rw [getElem!_pos _ k (by rw [AC];exact hk),ad6,getElem!_pos l (i+1+k) (by omega)]
 rintro ⟨i,j,h1,h2,rfl⟩
 refine ⟨i,by omega,l[j]!,?_,rfl⟩;have:(l.drop (i+1))[j- (i+1)]! =l[j]!:=by
  rw [getElem!_pos _ _ (by rw [AC];omega),ad6,getElem!_pos l j h2]
  congr 1;omega
 rw [<- this];exact aR (by rw [AC];omega)
def MtF (f:List Pt) (x:uD):Prop:= ∃i j,i<j/\j<aed f/\(f[i]!).2.2≠(f[j]!).2.2/\x=((met f[i]! f[j]!).1,(met f[i]! f[j]!).2,(f[i]!).1,(f[j]!).1)
theorem MtF.ok {f:List Pt} (ok:cV f) {x:uD} (h:MtF f x):xa x:=by obtain ⟨i,j,h1,h2,h3,rfl⟩:=h;have:=sN (ok.2.1 _ (aR (show i<(aed f) by omega))) (ok.2.1 _ (aR h2)) h3;exact ⟨this.2.1,this.2.2.1⟩
theorem LW {f:List Pt} (ok:cV f): ∀{i j:Nat},i<j->j<aed f->(f[i]!).1<(f[j]!).1:=by
 intro i j kH
 induction j with
 |zero=>omega
 |succ j ih=>
  intro hj;have s:=ok.2.2 j (by omega)
  by_cases e:i=j
  · subst e;exact s
  have:=ih (by omega) (by omega);omega
theorem WX {f:List Pt} (ok:cV f): ∃m,B9 f=aee m/\aed m<=5000/\(∀x,x∈m↔MtF f x)/\m.Pairwise fun x y=> ¬sW y x<0:=by
 have M: ∀x∈fN f,dW x.1 x.2=aee (if x.1.2.2=x.2.2.2 then ((0,0),6) else (met x.1 x.2,0)):=fun x hx=>by obtain ⟨i,j,h1,h2,rfl⟩:=BL.1 hx;exact E2 (ok.2.1 _ (aR (by omega))) (ok.2.1 _ (aR h2)) (by have:=LW ok h1 h2;dsimp only;omega)
 have mem: ∀x,x∈uE (fun p q=>(dW p q).getD ((0,0),1)) (fN f)↔MtF f x:=fun x=>by
  unfold uE;rw [adZ];constructor
  · rintro ⟨y,hy,hx⟩
    dsimp only at hx;rw [M y hy] at hx;obtain ⟨i,j,h1,h2,rfl⟩:=BL.1 hy;dsimp only [Option.getD_some] at hx
    by_cases e:(f[i]!).2.2=(f[j]!).2.2
    · rw [rc e] at hx
      simp at hx
    rw [sp e] at hx
    simp only [beq_self_eq_true,lw,NE] at hx;exact ⟨i,j,h1,h2,e,hx⟩
  rintro ⟨i,j,h1,h2,e,rfl⟩
  have hy:=BL.2 ⟨i,j,h1,h2,rfl⟩;refine ⟨_,hy,?_⟩;have h:=M _ hy;dsimp only at h ⊢;rw [h,sp e];simp
 obtain ⟨m,h1,h2,h3⟩:=LV (l:=uE (fun p q=>(dW p q).getD ((0,0),1)) (fN f)) fun x hx=>((mem x).1 hx).ok ok
 refine ⟨m,?_,?_,fun x=>h2.mem_iff.trans (mem x),h3⟩
 · show Jc dW fj f=_
   unfold Jc;rw [rc ⟨by have:=ok.1;omega,fun x hx=>⟨_,M x hx⟩⟩,h1]
 have a:=Ai (fun p q=>(dW p q).getD ((0,0),1)) (fN f)
 have b:=El f;have c:=Nat.mul_le_mul ok.1 ok.1;rw [h2.length_eq];omega
theorem Sj (c:Nat->Prop): ∀n,(∀i j,i<j->j<n->c j->c i)-> ∃m,m<=n/\(∀i,i<m->c i)/\ ∀i,m<=i->i<n-> ¬c i
 |0,_=>⟨0,ad4 _,fun i h=>by omega,fun i _ h=>by omega⟩
 |n+1,h=>by
  obtain ⟨m,h1,h2,h3⟩:=Sj c n fun i j a b=>h i j a (by omega)
  by_cases q:c n
  · exact ⟨n+1,ad4 _,fun i hi=>by
     by_cases e:i=n
     · subst e;exact q
     exact h i n (by omega) (by omega) q,fun i a b=>by omega⟩
  exact ⟨m,by omega,h2,fun i a b=>by
   by_cases e:i=n
   · subst e;exact q
   exact h3 i a (by omega)⟩
theorem HI {m:List uD} {R:uD->uD->Prop} (h:m.Pairwise R) {i j:Nat} (kH:i<j) (hj:j<aed m):R m[i]! m[j]!:=by rw [getElem!_pos m i (by omega),getElem!_pos m j hj];exact List.pairwise_iff_getElem.1 h i j (by omega) hj kH
theorem Gs {m:List uD} (hl:(aed m)<=5000) (ok: ∀x∈m,xa x) (hs:m.Pairwise fun x y=> ¬sW y x<0) {t:Int×Int} (r:aZ t) (pN:jP t):
 ∃n:Nat,n<=aed m/\pq m t=aee (n:Int)/\(∀i,i<n->(m[i]!).1*t.2<=t.1*(m[i]!).2.1)/\ ∀i,n<=i->i<aed m->t.1*(m[i]!).2.1<(m[i]!).1*t.2:=by
 obtain ⟨n,n1,n2,n3⟩:=Sj (fun i=>(m[i]!).1*t.2<=t.1*(m[i]!).2.1) (aed m) fun i j kH hj hc=>by
  have:=HI hs kH hj;rw [ss] at this;have di:=(ok _ (aR (show i<(aed m) by omega))).rat.1;have dj:=(ok _ (aR hj)).rat.1;have le:(m[i]!).1*(m[j]!).2.1<=(m[j]!).1*(m[i]!).2.1:=by omega
  exact eX di dj r.1 le hc
 refine ⟨n,n1,?_,n2,fun i a b=>Int.not_le.1 (n3 i a b)⟩;have run:bC m t ()=aD aW (m,((aed m):Int),(n:Int),(n:Int),t):=by
  unfold bC;refine xC (body:=aW) (fun lo hi=>(m,((aed m):Int),(lo:Int),(hi:Int),t)) (aed m) n (fun i=>(m[i]!).1*t.2<=t.1*(m[i]!).2.1) (fun lo hi h1 h2=>?_) n2 n3 (aed m) 0 (aed m) (by omega) (by omega) n1 (ad4 _);have e1:aeh ((lo:Int)<(hi:Int))=aef:=aK (by omega);have hh:=MY (a:=lo) (b:=hi) (by omega) (by omega);have ho:=ok _ (aR (show (lo+hi) / 2<(aed m) by omega));unfold aW lg;simp only [e1,lw,hh,au m ((lo+hi) / 2) (by omega),ar];rw [show ((m[(lo+hi) / 2]!).1,(m[(lo+hi) / 2]!).2.1)=zm m[(lo+hi) / 2]! from rfl,AI ho.pN pN ho.rat r];simp only [ar,bk (show (lo+hi) / 2<1000000000 by omega)]
  have cc:eK (zm m[(lo+hi) / 2]!) t<=0↔(m[(lo+hi) / 2]!).1*t.2<=t.1*(m[(lo+hi) / 2]!).2.1:=C1;constructor
  · intro h
    have:=cc.2 h;rw [aG (show¬0<eK (zm m[(lo+hi) / 2]!) t by omega)];rfl
  intro h
  have: ¬eK (zm m[(lo+hi) / 2]!) t<=0:=fun q=>h (cc.1 q)
  rw [aK (show 0<eK (zm m[(lo+hi) / 2]!) t by omega)];rfl
 unfold pq;have e1:aeh ((n:Int)<(n:Int))=aeg:=aG (by omega);have fin: ∃b,aW (m,((aed m):Int),(n:Int),(n:Int),t)=aee (.done ((n:Int),b)):=by
  unfold aW lg;simp only [e1,pp]
  by_cases hn:n<aed m
  · have ho:=ok _ (aR hn)
    rw [aK (show (n:Int)<((aed m):Int) by omega),lw,au m n hn,ar,show ((m[n]!).1,(m[n]!).2.1)=zm m[n]! from rfl,AI ho.pN pN ho.rat r,ar]
    by_cases q:0<eK (zm m[n]!) t
    · rw [aK q];exact ⟨_,rfl⟩
    rw [aG q];exact ⟨_,rfl⟩
  rw [aG (show¬(n:Int)<((aed m):Int) by omega)];exact ⟨_,rfl⟩
 obtain ⟨b,hb⟩:=fin;rw [run,aJ hb];rfl
theorem adE {f:List Pt} (ok:cV f) {a b:Int×Int} (ra:aZ a) (a64:jP a) (rb:aZ b) (b64:jP b) (le:a.1*b.2<=b.1*a.2):
 ∃L:List uD,wO ⟨f⟩ a b=aee (L,0)/\aed L<=5000/\(∀x,x∈L↔MtF f x/\a.1*x.2.1<x.1*a.2/\x.1*b.2<=b.1*x.2.1)/\L.Pairwise fun x y=> ¬sW y x<0:=by
 obtain ⟨m,m1,m2,m3,m4⟩:=WX ok;have mok: ∀x∈m,xa x:=fun x hx=>((m3 x).1 hx).ok ok
 obtain ⟨i,i1,i2,i3,i4⟩:=Gs m2 mok m4 ra a64;obtain ⟨j,j1,j2,j3,j4⟩:=Gs m2 mok m4 rb b64;have chk:uN ⟨f⟩ [a,b]=aee 0:=by
  unfold uN;rw [nv,mj.2 ok,ar,cK rfl,pp];have s1:gq ([a,b],[a,b],2,0)=aee (.next ([a,b],[a,b],2,1)):=by unfold gq;show (bif aeh ((0:Int)<2) then (aC [a,b] 0).bind _ else _)=_;rw [aK (show (0:Int)<2 by omega),lw,show aC [a,b] 0=aee a by simp [aC],ar,df a64,rc ra];rfl
  have s2:gq ([a,b],[a,b],2,1)=aee (.next ([a,b],[a,b],2,2)):=by unfold gq;show (bif aeh ((1:Int)<2) then (aC [a,b] 1).bind _ else _)=_;rw [aK (show (1:Int)<2 by omega),lw,show aC [a,b] 1=aee b by simp [aC],ar,df b64,rc rb];rfl
  have s3:gq ([a,b],[a,b],2,2)=aee (.done 0):=by unfold gq;show (bif aeh ((2:Int)<2) then _ else bif (2:Int)==2 then (aC [a,b] 0).bind fun a2=>(aC [a,b] 1).bind fun a3=>(lN a2 a3).bind _ else _)=_;rw [aG (show¬(2:Int)<2 by omega),pp,dB rfl,lw,show aC [a,b] 0=aee a by simp [aC],show aC [a,b] 1=aee b by simp [aC],ar,ar,AI a64 b64 ra rb,ar,aG (by have:=C1.2 le;omega)];rfl
  show aD gq ([a,b],[a,b],2,0)=_;rw [aX s1,aX s2,aJ s3]
 have kH:i<=j:=by
  refine ae6 fun h=>?_
  have x1:=i3 j h;have x2:=j4 j (ad4 _) (by omega);have d:1<=(m[j]!).2.1:=(mok _ (aR (show j<(aed m) by omega))).rat.1;have:=eX d ra.1 rb.1 x1 le;omega
 refine ⟨(m.drop i).take (j-i),?_,by rw [Do,AC];omega,fun x=>?_,(m4.sublist ((List.take_sublist _ _).trans (List.drop_sublist _ _)))⟩
 · unfold wO
   rw [chk,ar,cK rfl,pp,m1,ar,i2,ar,j2,ar];simp only [aB];rw [aK (show (0:Int)<=(i:Int) by omega),aK (show (i:Int)<=(j:Int) by omega),aK (show (j:Int)<=(j:Int) by omega),aK (show (j:Int)<=((aed m):Int) by omega)];show aee (_,_)=_;rw [Nat.zero_add,adW,adW]
 rw [aN,<- m3]
 have at_: ∀k,k<j-i->((m.drop i).take (j-i))[k]! =m[i+k]!:=fun k hk=>by rw [getElem!_pos _ k (by rw [Do,AC];omega),adX,ad6,getElem!_pos m (i+k) (by omega)]
 constructor
 · rintro ⟨k,hk,rfl⟩
   rw [Do,AC] at hk;rw [at_ k (by omega)];exact ⟨aR (by omega),i4 _ (by omega) (by omega),j3 _ (by omega)⟩
 rintro ⟨hx,h1,h2⟩
 obtain ⟨k,hk,rfl⟩:=aN.1 hx;have k1:i<=k:=ae6 fun h=>by have:=i3 k h;omega
 have k2:k<j:=Nat.lt_of_not_le fun h=>by have:=j4 k h hk;omega
 exact ⟨k-i,by rw [Do,AC];omega,by rw [at_ _ (by omega)];congr 1;omega⟩
def WY (lo hi:Int):Int:=if hi<lo then hi else lo
def WZ (lo hi:Int):Int:=if hi>lo then hi else lo
theorem Kb {p q:Pt} (hp:ek p) (hq:ek q) (h:p.2.2≠q.2.2) {t:Int×Int} (r:aZ t) (z:rf p q t=0):met p q=t:=by
 obtain ⟨_,mr,_,me⟩:=sN hp hq h;refine xK mr r ?_;unfold rf at z;have e:t.1*(q.2.2-p.2.2)=(p.2.1-q.2.1)*t.2:=by
  have:t.1*(q.2.2-p.2.2)= -((p.2.2-q.2.2)*t.1):=by rw [show q.2.2-p.2.2= -(p.2.2-q.2.2) by omega,Int.mul_neg,adc]
  omega
 have k:((met p q).1*t.2-t.1*(met p q).2)*(q.2.2-p.2.2)=0:=by
  have a1:(met p q).1*t.2*(q.2.2-p.2.2)=(p.2.1-q.2.1)*(met p q).2*t.2:=by rw [<- me,ad2]
  have a2:t.1*(met p q).2*(q.2.2-p.2.2)=(p.2.1-q.2.1)*(met p q).2*t.2:=by rw [ad2,e,ad2]
  rw [ad3,a1,a2,Int.sub_self]
 rcases adu.1 k with k|k
 · omega
 omega
theorem HF.ne {f:List Pt} {x t:Int×Int} (h:HF f x t):x.1≠x.2:=fun e=>by have:=h.HG;rw [e] at this;omega
theorem ag6 {f:List Pt} (ok:cV f) {x t:Int×Int} (h:HF f x t) (r:aZ t):MtF f (t.1,t.2,WY x.1 x.2,WZ x.1 x.2):=by
 have ne:=h.ne;have s:=h.HG;obtain ⟨ha,hb⟩:=h.both;obtain ⟨ma,ia⟩:=xN ok.2.2 ha;obtain ⟨mb,ib⟩:=xN ok.2.2 hb;obtain ⟨i,hi,ei⟩:=aN.1 ma;obtain ⟨j,hj,ej⟩:=aN.1 mb;have z:=h.zero;have oa:=ok.2.1 _ ma;have ob:=ok.2.1 _ mb;rcases v6 i j with q|q|q
 · have u:=LW ok q hj
   rw [ei,ej,ia,ib] at u;refine ⟨i,j,q,hj,by rw [ei,ej];omega,?_⟩;have gz:rf (bJ f x.1) (bJ f x.2) t=0:=by have:=C2 (bJ f x.2) (bJ f x.1) t;omega
   rw [ei,ej,Kb oa ob (by omega) r gz,ia,ib];unfold WY WZ;rw [sp (by omega),rc (by omega)]
 · subst q
   exact absurd (ia.symm.trans (by rw [<- ei,ej,ib])) ne
 have u:=LW ok q hi
 rw [ei,ej,ia,ib] at u;refine ⟨j,i,q,hi,by rw [ei,ej];omega,?_⟩;rw [ei,ej,Kb ob oa (by omega) r z,ia,ib];unfold WY WZ;rw [rc (by omega),sp (by omega)]
structure LX (f:List Pt) (ii to:Int×Int) (L:List uD):Prop where
 len:(aed L)<=5000
 mem: ∀x,x∈L↔MtF f x/\ii.1*x.2.1<x.1*ii.2/\x.1*to.2<=to.1*x.2.1
 YO:L.Pairwise fun x y=> ¬sW y x<0
def W4 (e:(Int×Int)×(Int×Int)):uD:=(e.2.1,e.2.2,WY e.1.1 e.1.2,WZ e.1.1 e.1.2)
theorem LX.has {f:List Pt} (ok:cV f) {ii to:Int×Int} {L:List uD} (hL:LX f ii to L) {E:List ((Int×Int)×(Int×Int))} (h:LU f ii to E) {e:(Int×Int)×(Int×Int)} (he:e∈E):W4 e∈L:=by obtain ⟨p,r,a,b⟩:=h.ev e he;exact (hL.mem _).2 ⟨ag6 ok p r,a,b⟩
theorem Na {f:List Pt} {e g:(Int×Int)×(Int×Int)} (he:HF f e.1 e.2) (hg:HF f g.1 g.2) (h:W4 e=W4 g):e.1=g.1:=by
 unfold W4 at h;injection h with h1 h;injection h with h2 h;injection h with h3 h4;have n1:=he.ne;have n2:=hg.ne;have s1:=he.HG;have s2:=hg.HG;unfold WY at h3;unfold WZ at h4
 by_cases c:e.1.1=g.1.1
 · exact ad0 c (by (repeat' split at h3)<;>(repeat' split at h4)<;>omega)
 have c1:e.1.1=g.1.2:=by (repeat' split at h3)<;>(repeat' split at h4)<;>omega
 have c2:e.1.2=g.1.1:=by (repeat' split at h3)<;>(repeat' split at h4)<;>omega
 rw [c1,c2] at s1;omega
theorem LX.more {f:List Pt} (ok:cV f) {ii to:Int×Int} {L:List uD} (hL:LX f ii to L) {E:List ((Int×Int)×(Int×Int))} (h:LU f ii to E) (nd:(E.map fun e=>e.1).Nodup):(aed E)<=(aed L):=by
 have:(E.map W4).length<=(aed L):=by
  refine List.Nodup.length_le_of_subset ?_ fun x hx=>?_
  · rw [bN] at nd ⊢
    intro i j kH hj he;rw [ut] at hj;have m1: ∀k,k<aed E->(E.map W4)[k]! =W4 E[k]!:=fun k hk=>by rw [getElem!_pos _ k (by rw [ut];exact hk),getElem!_pos E k hk,UV]
    have m2: ∀k,k<aed E->(E.map fun e=>e.1)[k]! =(E[k]!).1:=fun k hk=>by rw [getElem!_pos _ k (by rw [ut];exact hk),getElem!_pos E k hk,UV]
    rw [m1 i (by omega),m1 j hj] at he;have:=nd i j kH (by rw [ut];exact hj);rw [m2 i (by omega),m2 j hj] at this;exact this (Na (h.ev _ (aR (by omega))).1 (h.ev _ (aR hj)).1 he)
  obtain ⟨e,he,rfl⟩:=IR.1 hx
  exact hL.has ok h he
 rwa [ut] at this
theorem LX.diff {f:List Pt} (ok:cV f) {ii to:Int×Int} {L:List uD} (hL:LX f ii to L) {E:List ((Int×Int)×(Int×Int))} (h:LU f ii to E) (d: ∀i,i+1<aed L->zm L[i+1]!≠zm L[i]!):
 ∀e∈E,∀g∈E,e.1≠g.1->e.2.1*g.2.2≠g.2.1*e.2.2:=by
 intro e he g hg dC Yi;have hs:=xK (h.ev e he).2.1 (h.ev g hg).2.1 Yi;obtain ⟨i,hi,ei⟩:=aN.1 (hL.has ok h he);obtain ⟨j,hj,ej⟩:=aN.1 (hL.has ok h hg);have mo: ∀k,k<aed L->xa L[k]!:=fun k hk=>((hL.mem _).1 (aR hk)).1.ok ok
 have key: ∀i j:Nat,i<j->j<aed L->zm L[i]! =zm L[j]!->False:=fun i j kH hj adF=>by
  have a:=HI hL.YO (show i<i+1 by omega) (show i+1<(aed L) by omega);rw [ss] at a
  by_cases c:i+1=j
  · subst c;exact d i hj adF.symm
  have b:=HI hL.YO (show i+1<j by omega) hj
  rw [ss] at b;have di:1<=(L[i]!).2.1:=(mo i (by omega)).rat.1;have dj:1<=(L[j]!).2.1:=(mo j hj).rat.1;unfold zm at adF;injection adF with q1 q2;refine d i (by omega) (xK (mo (i+1) (by omega)).rat (mo i (by omega)).rat ?_);show (L[i+1]!).1*(L[i]!).2.1=(L[i]!).1*(L[i+1]!).2.1;rw [<- q1,<- q2] at b;omega
 have et:zm (W4 e)=e.2:=rfl;have gt:zm (W4 g)=g.2:=rfl;rcases v6 i j with q|q|q
 · exact key i j q hj (by rw [ei,ej,et,gt,hs])
 · subst q
   exact dC (Na (h.ev e he).1 (h.ev g hg).1 (ei.symm.trans ej))
 exact key j i q hi (by rw [ei,ej,et,gt,hs])
theorem OT {a b:Int×Int} (h: ¬eK b a<0):a.1*b.2<=b.1*a.2:=by rw [HD] at h;exact h
structure EvS (f:List Pt) (mz to ii:Int×Int) (E:List ((Int×Int)×(Int×Int))):Prop where
 ev: ∀e∈E,HF f e.1 e.2/\aZ e.2/\mz.1*e.2.2<e.2.1*mz.2/\e.2.1*to.2<=to.1*e.2.2/\e.2.1*ii.2<=ii.1*e.2.2
 inc:E.Pairwise fun a b=>a.2.1*b.2.2<b.2.1*a.2.2
theorem EvS.nil (f:List Pt) (mz to ii:Int×Int):EvS f mz to ii []:=⟨fun _ h=>by simp at h,.nil⟩
theorem EvS.snoc {f:List Pt} {mz to ii t:Int×Int} {E:List ((Int×Int)×(Int×Int))} (h:EvS f mz to ii E) (rn:aZ ii) (r0:aZ mz) {x:Int×Int} (p:HF f x t) (r:aZ t) (l0:mz.1*ii.2<=ii.1*mz.2) (l1:ii.1*t.2<t.1*ii.2) (l2:t.1*to.2<=to.1*t.2):EvS f mz to t (E++[(x,t)]):=by
 refine ⟨fun e he=>?_,List.pairwise_append.2 ⟨h.inc,List.pairwise_singleton _ _,fun a ha b hb=>?_⟩⟩
 · rcases aea.1 he with he|he
   · obtain ⟨a,b,c,d,e1⟩:=h.ev e he
     exact ⟨a,b,c,d,eX b.1 rn.1 r.1 e1 (ad9 l1)⟩
   obtain rfl:=NE.1 he
   exact ⟨p,r,ny r0.1 rn.1 r.1 l0 l1,l2,adB _⟩
 obtain rfl:=NE.1 hb
 obtain ⟨_,b,_,_,e1⟩:=h.ev a ha;exact ny b.1 rn.1 r.1 e1 l1
theorem EvS.nodup {f:List Pt} {mz to ii:Int×Int} {E:List ((Int×Int)×(Int×Int))} (h:EvS f mz to ii E):(E.map fun e=>e.1).Nodup:=by
 unfold List.Nodup;rw [adU];refine h.inc.imp_of_mem fun {a b} ha hb q e=>?_
 have:=(h.ev a ha).1.once (by rw [e];exact (h.ev b hb).1);omega
structure Sys (κ:Type) where
 Adv:Int×Int->aI->List (Int×Int)->Option (κ×List (Int×Int)×Int)
 Inv:aI->Prop
 set:aI->Option aI
 res:aI->κ
 zero:κ
 ok: ∀{c},Inv c->aV c
 lead: ∀{c},Inv c-> ∀e∈c.af.ci.map fun x=>x.2,leads (bJ c.io.be e.2) (bJ c.io.be e.1) c.ii
 at_: ∀{c to},Inv c->aZ to->jP to-> ¬eK to c.ii<0-> ¬CZ c to->Inv (Ya c to)
 stop: ∀{c to out},Inv c->aZ to->jP to-> ¬eK to c.ii<0-> ¬CZ c to->Adv to c out=aee (res (Ya c to),out,0)
 ev: ∀{c to out c1 e x},Inv c->aZ to->jP to-> ¬eK to c.ii<0->CZ c to->iz c to=aee (c1,e,x,0)->aV c1->c1.io=c.io->aed out+1<=1048576->
  Adv to c out=match set c1 with|some c2=>Adv to c2 (out++[x])|none=>aee (zero,[],18)
 kept: ∀{c c1 c2},Inv c->aV c1->c1.io=c.io->set c1=aee c2->Inv c2/\c2.io.be=c.io.be/\c2.ii=c1.ii/\jC c1<=jC c2
section
variable {κ : Type} (S : Sys κ)
end
theorem ag7 {a b:Int×Int} (h: ¬0<eK a b): ¬eK b a<0:=fun q=>h (by rw [qo] at q;unfold eK;rcases cH (a.1*b.2) (b.1*a.2) with ⟨x,y⟩|⟨x,y⟩|⟨x,y⟩<;>omega)
def Kc (l:List (Int×Int)) (L:List uD) (i k:Nat):Prop:= ∃j,j<k/\(L[j]!).2.2.1=WY (l[i]!).1 (l[i]!).2/\(L[j]!).2.2.2=WZ (l[i]!).1 (l[i]!).2
theorem AJ {l:List (Int×Int)} {L:List uD} {i k:Nat}:Kc l L i (k+1)↔Kc l L i k\/((L[k]!).2.2.1=WY (l[i]!).1 (l[i]!).2/\(L[k]!).2.2.2=WZ (l[i]!).1 (l[i]!).2):=by
 constructor
 · rintro ⟨j,hj,h⟩
   by_cases e:j=k
   · subst e;exact .inr h
   exact .inl ⟨j,by omega,h⟩
 rintro (⟨j,hj,h⟩|h)
 · exact ⟨j,by omega,h⟩
 exact ⟨k,by omega,h⟩
section
variable {α : Type} [Inhabited α] {P : α -> α -> Prop} {S : α -> Prop}
end
section
variable {f : List Pt} {t : Int × Int}
end
theorem OU {c:aI} {l:List Int} (h:HC c l) {to:Int×Int} (rt:aZ to) (pN:jP to) (le: ¬eK to c.ii<0) (jp:CZ c to):
 (∃x c2 l2,dX ⟨c,l⟩ to=aee (⟨c2,l2⟩,x,0)/\HC c2 l2/\c2.ii=Ev.at c.aa.ce[0]!/\jC c+1<=jC c2/\ ¬eK to c2.ii<0/\c2.io.be=c.io.be)\/(∃x l2,dX ⟨c,l⟩ to=aee (⟨gd,l2⟩,x,18)):=by
 have ok:=h.ok;have pm:=h.pm;obtain ⟨x,c1,f1,_,vG,hf,hb,hr,hn⟩:=J5 ok rt pN le jp;have bd:=h.bd;obtain ⟨i,i1,i2,i3,_⟩:=xM (l:=l) (by omega) (pm.mem_iff.1 (lF.2 hb.1));obtain ⟨j,j1,j2,j3,_⟩:=xM (l:=l) (by omega) (pm.mem_iff.1 (lF.2 hb.2));have pm':(vq c.io.be).Perm (jD l i j):=pm.trans (tK i1 j1).symm;have sl:(jD l i j).length=(aed l):=(tK i1 j1).length_eq;have pC:=vG.iq;obtain ⟨r,r1,_,r3⟩:=M8 vG pC (es:=bO (jD l i j)) (EZ pC (by rw [hf];exact pm'));have ev:dX ⟨c,l⟩ to=aee (⟨r.1,jD l i j⟩,x,r.2):=by
  unfold dX;rw [f1,ar,cK rfl,pp,bo (show (aed l)<=1048576 by omega),ar,i3,ar,j3,ar,au l j j1,ar,au l i i1,ar,ar];rw [lq,au _ j (by rw [acl];exact j1),ar,lq];show (jf (jD l i j)).bind _=_;rw [AF _ (by omega),ar];show (kv c1 ⟨c1.io.be⟩ (bO (jD l i j))).bind _=_;rw [r1,ar];rfl
 rcases r3 with ⟨q,k⟩|e
 · left
   rw [q] at ev;have nd:=pm'.nodup_iff.1 (mw ok.iq.2.2);have sub: ∀z∈(r.1.af.ci.map fun x=>x.2),z∈bO (jD l i j):=fun z hz=>by obtain ⟨y,hy,rfl⟩:=IR.1 hz;exact k.sub y hy
   have has: ∀z∈bO (jD l i j),z∈(r.1.af.ci.map fun x=>x.2):=fun z hz=>pB.1 (k.has z hz)
   have cn:=w8 k.ok.pT;refine ⟨x,r.1,jD l i j,ev,⟨k.ok,by rw [k.iq,hf];exact pm',LS cn (w5 nd) sub has⟩,by rw [k.ii,hn],by have:=k.room;omega,fun hx=>?_,by rw [k.iq,hf]⟩;have h2:=jp.2;rw [k.ii,hn,qo] at hx;have: ¬0<eK (Ev.at c.aa.ce[0]!) to:=by omega
   unfold eK at this;rcases cH ((Ev.at c.aa.ce[0]!).1*to.2) (to.1*(Ev.at c.aa.ce[0]!).2) with ⟨a,b⟩|⟨a,b⟩|⟨a,b⟩<;>omega
 right
 rw [e] at ev;exact ⟨x,_,ev⟩
noncomputable def psN (f:List Pt) (t:Int×Int) (x:Int):Int:=(bJ f x).2.1*t.2+(bJ f x).2.2*t.1
theorem LY (f:List Pt) (t:Int×Int) (x y:Int):rf (bJ f x) (bJ f y) t=psN f t x-psN f t y:=CY _ _ _
theorem HJ {l:List Int} {i j:Nat} (hi:i<aed l) (hj:j<aed l) (k:Nat):(jD l i j)[k]! =if k=j then l[i]! else if k=i then l[j]! else l[k]!:=by
 unfold jD;rw [bc,acl,bc]
 by_cases a:k=j
 · rw [rc ⟨a,hj⟩,rc a]
 rw [sp (fun h=>a h.1),sp a]
 by_cases b:k=i
 · rw [rc ⟨b,hi⟩,rc b]
 rw [sp (fun h=>b h.1),sp b]
theorem Ke {c:aI} {l:List Int} (h:HC c l) (ap:HH c.io.be) (w:J' c.io.be (bO l) c.ii) {to:Int×Int} (rt:aZ to) (pN:jP to) (le: ¬eK to c.ii<0) (jp:CZ c to):
 (∃x c2 l2,dX ⟨c,l⟩ to=aee (⟨c2,l2⟩,x,0)/\HC c2 l2/\c2.io.be=c.io.be/\J' c.io.be (bO l2) c2.ii/\HF c.io.be x c2.ii/\c.ii.1*c2.ii.2<=c2.ii.1*c.ii.2/\c2.ii.1*to.2<=to.1*c2.ii.2/\x∈bO l/\x∉bO l2/\jC c+1<=jC c2/\ ¬eK to c2.ii<0)\/
 (∃x l2,dX ⟨c,l⟩ to=aee (⟨gd,l2⟩,x,18)):=by
 have ok:=h.ok;have pm:=h.pm;obtain ⟨x',c1',f1',xm,evp,wk,ge,rE,xne⟩:=OS ok ap (fun e he=>w e (h.ct.mem_iff.1 he)) rt pN le jp;obtain ⟨x,c1,f1,_,vG,hf,hb,hr,hn⟩:=J5 ok rt pN le jp;obtain rfl:x'=x:=by have:=f1'.symm.trans f1;injection this with this;injection this with _ this;injection this with _ this;injection this
 have xe:x'∈bO l:=h.ct.mem_iff.1 xm;have wk:J' c.io.be (bO l) (Ev.at c.aa.ce[0]!):=fun e he=>wk e (h.ct.mem_iff.2 he)
 rcases OU h rt pN le jp with ⟨y,c2,l2,e1,e2,e3,e4,e5,e6⟩|e
 case inr=>exact .inr e
 left;have bd:=h.bd;obtain ⟨i,i1,i2,i3,_⟩:=xM (l:=l) (by omega) (pm.mem_iff.1 (lF.2 hb.1));obtain ⟨j,j1,j2,j3,_⟩:=xM (l:=l) (by omega) (pm.mem_iff.1 (lF.2 hb.2));have sl:(jD l i j).length=(aed l):=(tK i1 j1).length_eq;have val: ∃r e,dX ⟨c,l⟩ to=aee (⟨r,jD l i j⟩,x',e):=by
  obtain ⟨r,r1,_,_⟩:=M8 vG vG.iq (es:=bO (jD l i j)) (EZ vG.iq (by rw [hf];exact pm.trans (tK i1 j1).symm));refine ⟨r.1,r.2,?_⟩;unfold dX;rw [f1,ar,cK rfl,pp,bo (show (aed l)<=1048576 by omega),ar,i3,ar,j3,ar,au l j j1,ar,au l i i1,ar,ar];rw [lq,au _ j (by rw [acl];exact j1),ar,lq];show (jf (jD l i j)).bind _=_;rw [AF _ (by omega),ar];show (kv c1 ⟨c1.io.be⟩ (bO (jD l i j))).bind _=_;rw [r1,ar];rfl
 obtain ⟨r,e,v⟩:=val;have v:=e1.symm.trans v;injection v with v;injection v with v1 v2;injection v2 with v2 _;injection v1 with _ v1;subst v1 v2;have nd:=pm.nodup_iff.1 (mw ok.iq.2.2);have nd2:(jD l i j).Nodup:=(tK i1 j1).nodup_iff.2 nd;have z:=evp.zero;rw [LY,<- i2,<- j2] at z;have same: ∀k,psN c.io.be (Ev.at c.aa.ce[0]!) (jD l i j)[k]! =psN c.io.be (Ev.at c.aa.ce[0]!) l[k]!:=fun k=>by
  rw [HJ i1 j1]
  by_cases a:k=j
  · subst a;rw [rc rfl];omega
  rw [sp a]
  by_cases b:k=i
  · subst b;rw [rc rfl];omega
  rw [sp b]
 obtain ⟨a0,ha0,ea0⟩:=aN.1 xe;rw [fS] at ha0;rw [jh l ha0] at ea0;have hi0:i=a0+1:=by
  have:l[i]! =l[a0+1]!:=by rw [i2,<- ea0]
  rcases v6 i (a0+1) with q|q|q
  · exact absurd this (bN.1 nd _ _ q (by omega))
  · exact q
  exact absurd this.symm (bN.1 nd _ _ q i1)
 have hj0:j=a0 / 2:=by
  have:l[j]! =l[a0 / 2]!:=by rw [j2,<- ea0]
  rcases v6 j (a0 / 2) with q|q|q
  · exact absurd this (bN.1 nd _ _ q (by omega))
  · exact q
  exact absurd this.symm (bN.1 nd _ _ q j1)
 refine ⟨_,c2,jD l i j,e1,e2,e6,?_,by rw [e3];exact evp,by rw [e3];exact ge,?_,xe,fun hx=>?_,e4,e5⟩
 · rw [e3]
   intro e he;obtain ⟨a,ha,rfl⟩:=aN.1 he;rw [fS] at ha;rw [jh _ ha,LY];dsimp only;rw [same,same];have ho:=wk (l[a+1]!,l[a / 2]!) (by rw [<- jh l (show a<aed l-1 by omega)];exact aR (by rw [fS];omega));rw [LY] at ho;exact ho
 · rw [e3]
   have h2:=jp.2;rw [C1] at h2;exact h2
 obtain ⟨a,ha,ea⟩:=aN.1 hx
 rw [fS] at ha;rw [jh _ ha] at ea;have p1:(jD l i j)[a+1]! =(jD l i j)[j]!:=by rw [HJ i1 j1 j,rc rfl,i2,<- ea]
 have p2:(jD l i j)[a / 2]! =(jD l i j)[i]!:=by rw [HJ i1 j1 i,sp (by omega),rc rfl,j2,<- ea]
 have q1:a+1=j:=by
  rcases v6 (a+1) j with q|q|q
  · exact absurd p1 (bN.1 nd2 _ _ q (by omega))
  · exact q
  exact absurd p1.symm (bN.1 nd2 _ _ q (by omega))
 have q2:a / 2=i:=by
  rcases v6 (a / 2) i with q|q|q
  · exact absurd p2 (bN.1 nd2 _ _ q (by omega))
  · exact q
  exact absurd p2.symm (bN.1 nd2 _ _ q (by omega))
 omega
structure Sk (f:List Pt) (mz to:Int×Int) (c:aI) (es:List (Int×Int)) (E:List ((Int×Int)×(Int×Int))):Prop where
 ev:LU f mz to E
 last: ∀i,i+1=aed E->(E[i]!).2.1*c.ii.2<=c.ii.1*(E[i]!).2.2/\(E[i]!).1∉es
 ag8:J' f es c.ii
 first:(c.ii=mz/\ ∀e∈es,leads (bJ f e.2) (bJ f e.1) mz)\/mz.1*c.ii.2<c.ii.1*mz.2
theorem Sk.step {f:List Pt} {mz to:Int×Int} {c c2:aI} {es es2:List (Int×Int)} {E:List ((Int×Int)×(Int×Int))} (h:Sk f mz to c es E) (d0:1<=mz.2) (d1:1<=c.ii.2) (r2:aZ c2.ii) {x:Int×Int}
 (ev:HF f x c2.ii) (ge:c.ii.1*c2.ii.2<=c2.ii.1*c.ii.2) (le:c2.ii.1*to.2<=to.1*c2.ii.2) (hx:x∈es) (YG:x∉es2) (w:J' f es2 c2.ii):Sk f mz to c2 es2 (E++[(x,c2.ii)]):=by
 have lt:mz.1*c2.ii.2<c2.ii.1*mz.2:=by
  rcases h.first with ⟨_,a⟩|a
  · exact ev.later r2.1 d0 (a x hx)
  refine ww fun hn=>?_
  have:=eX d1 r2.1 d0 ge (adG.1 hn);omega
 refine ⟨h.ev.snoc ev r2 lt le fun i hi=>?_,fun i hi=>?_,w,.inr lt⟩
 · have l:=h.last i hi
   have di:=(h.ev.ev _ (aR (show i<(aed E) by omega))).2.1.1;exact ⟨eX di d1 r2.1 l.1 ge,fun e=>l.2 (by rw [e];exact hx)⟩
 rw [M2,EQ] at hi
 rw [fC (show (aed E)<=i by omega),show i-(aed E)=0 by omega];exact ⟨adB _,YG⟩
theorem Sl {f:List Pt} (ap:HH f) {mz to:Int×Int} (d0:1<=mz.2) (rt:aZ to) (pN:jP to): ∀(d:Nat) (c:aI) (l:List Int) (E:List ((Int×Int)×(Int×Int))),1000000-jC c<=(d:Int)->HC c l->c.io.be=f->Sk f mz to c (bO l) E-> ¬eK to c.ii<0->((aed E):Int)<=jC c+200->
 ∃X:dA×List (Int×Int)×Int,J6 to c l (E.map fun e=>e.1)=aee X/\(X.2.2=18\/X.2.2=0/\adC X.1 f to/\ ∃E',X.2.1=E'.map (fun e=>e.1)/\LU f mz to E'/\aed E'<=1000200):=by
 have stop: ∀(c:aI) (l:List Int) (E:List ((Int×Int)×(Int×Int))),HC c l->c.io.be=f->Sk f mz to c (bO l) E-> ¬eK to c.ii<0-> ¬CZ c to->((aed E):Int)<=jC c+200-> ∃X:dA×List (Int×Int)×Int,J6 to c l (E.map fun e=>e.1)=aee X/\(X.2.2=18\/X.2.2=0/\adC X.1 f to/\ ∃E',X.2.1=E'.map (fun e=>e.1)/\LU f mz to E'/\aed E'<=1000200):=fun c l E h hf ea le jp ho=>
  ⟨_,step_end h.ok (by have:=h.bd;omega) rt pN le jp _,.inr ⟨rfl,⟨WV h rt pN le jp,hf,rfl⟩,E,rfl,ea.ev,by have:=C0 h.ok;omega⟩⟩
 intro d
 induction d with
 |zero=>
  intro c l E hd h hf ea le ho
  by_cases jp:CZ c to
  · rcases Ke h (by rw [hf];exact ap) (by rw [hf];exact ea.ag8) rt pN le jp with ⟨x,c2,l2,e1,e2,e3,e4,e5,e6,e7,e8,e9,WE,e11⟩|⟨x,l2,e1⟩
    · have:=C0 e2.ok;omega
    exact ⟨_,J7 _ e1,.inl rfl⟩
  exact stop c l E h hf ea le jp ho
 |succ d ih=>
  intro c l E hd h hf ea le ho
  by_cases jp:CZ c to
  · have rb:=C0 h.ok
    rcases Ke h (by rw [hf];exact ap) (by rw [hf];exact ea.ag8) rt pN le jp with ⟨x,c2,l2,e1,e2,e3,e4,e5,e6,e7,e8,e9,WE,e11⟩|⟨x,l2,e1⟩
    · rw [hf] at e3 e4 e5
      rw [WU e1 (by rw [ut];omega),show (E.map fun e=>e.1)++[x]=(E++[(x,c2.ii)]).map (fun e=>e.1) by rw [List.map_append];rfl];exact ih c2 l2 _ (by omega) e2 e3 (ea.step d0 h.ok.jQ.1 e2.ok.jQ e5 e6 e7 e8 e9 e4) e11 (by rw [M2,EQ];omega)
    exact ⟨_,J7 _ e1,.inl rfl⟩
  exact stop c l E h hf ea le jp ho
abbrev EvZ:=Int×Int×Int×Int×(List (Int×Int×Int))×Int×(List (Int×Int×Int))×(List Int)×(List Bool)×(List Int)×(List (Int×Int×Int×Int×Int))×(List Int)×(List (Int×Int×Int))×(List Int)
theorem Sm {f:List Pt} (hf:(aed f)<=1000):kA ⟨f⟩=aee aeg\/(kA ⟨f⟩=aee aef/\HH f):=by
 have tB: ∀i,i<aed f->kz ((i:Int),f)=aee (if∀j,j<i-> ¬((f[i]!).2.1=(f[j]!).2.1/\(f[i]!).2.2=(f[j]!).2.2) then .next (((i+1:Nat):Int),f) else .done aeg):=fun i hi=>by
  have o:=zk (body:=ni) (fun j=>((i:Int),(j:Int),f)) i (fun j=> ¬((f[i]!).2.1=(f[j]!).2.1/\(f[i]!).2.2=(f[j]!).2.2)) (r:= .done aeg) (e:= .next (((i+1:Nat):Int),f)) (fun j hj=>by
   unfold ni;simp only [aK (show (j:Int)<(i:Int) by omega),lw,au f i hi,au f j (by omega),ar,bk (show j<1000000000 by omega)]
   by_cases c:(f[i]!).2.1=(f[j]!).2.1
   · rw [dB c,lw]
     by_cases d:(f[i]!).2.2=(f[j]!).2.2
     · rw [dB d,lw]
       exact ⟨fun _=>rfl,fun h=>absurd ⟨c,d⟩ h⟩
     rw [dL d,pp]
     exact ⟨fun h=>absurd (fun x=>d x.2) h,fun _=>rfl⟩
   · rw [dL c,pp]
     exact ⟨fun h=>absurd (fun x=>c x.1) h,fun _=>rfl⟩) (by
   unfold ni;simp only [aG (show¬(i:Int)<(i:Int) by omega),pp,bk (show i<1000000000 by omega)])
  unfold kz;simp only [aB,aK (show (i:Int)<((aed f):Int) by omega),lw]
  by_cases h: ∀j,j<i-> ¬((f[i]!).2.1=(f[j]!).2.1/\(f[i]!).2.2=(f[j]!).2.2)
  · rw [rc h] at o ⊢;exact o
  rw [sp h] at o ⊢;exact o
 have key:=zk (body:=kz) (fun i=>((i:Int),f)) (aed f) (fun i=> ∀j,j<i-> ¬((f[i]!).2.1=(f[j]!).2.1/\(f[i]!).2.2=(f[j]!).2.2)) (r:=aeg) (e:=aef) (fun i hi=>by
  rw [tB i hi];exact ⟨fun h=>by rw [sp h],fun h=>by rw [rc h]⟩) (by
  unfold kz;simp only [aB,aG (show¬((aed f):Int)<((aed f):Int) by omega),pp])
 have key:kA ⟨f⟩=_:=key
 by_cases h: ∀i,i<aed f-> ∀j,j<i-> ¬((f[i]!).2.1=(f[j]!).2.1/\(f[i]!).2.2=(f[j]!).2.2)
 · rw [key,rc h]
   refine .inr ⟨rfl,fun p hp q hq h1 h2=>?_⟩;obtain ⟨i,hi,rfl⟩:=aN.1 hp;obtain ⟨j,hj,rfl⟩:=aN.1 hq;rcases v6 i j with c|c|c
   · exact absurd ⟨h1.symm,h2.symm⟩ (h j hj i c)
   · rw [c]
   exact absurd ⟨h1,h2⟩ (h i hi j c)
 rw [key,sp h]
 exact .inl rfl
theorem Sn (l:List (Int×Int)) (x:Int×Int) (hl:(aed l)<=2000000):nj l x=aee (aeh (x∈l)):=by
 unfold nj;have key:=cJ (body:=kB) (fun i=>(l,(i:Int),x)) (aed l) (fun i=>l[i]! =x) (r:=aef) (e:=aeg) (fun i hi=>by
  have e1:aeh ((i:Int)<((aed l):Int))=aef:=aK (by omega);unfold kB;simp only [aB,e1,lw,au l i hi,ar,bk (show i<1000000000 by omega)];generalize l[i]! =y;constructor
  · intro h;rw [dB (congrArg Prod.fst h),dB (congrArg Prod.snd h)];rfl
  · intro h
    by_cases h1:y.1=x.1
    · rw [dB h1,dL (fun h2=>h (ad0 h1 h2))];rfl
    rw [dL h1];rfl) (by
  unfold kB;have:aeh (((aed l):Int)<((aed l):Int))=aeg:=aG (by omega);simp only [aB,this,pp])
 by_cases hx:x∈l
 · rw [aK hx];exact key.1 (aN.1 hx)
 rw [aG hx];exact key.2 fun i hi he=>hx (aN.2 ⟨i,hi,he⟩)
theorem Sp (b0 d:Bool) (l:List (Int×Int)) (L:List uD) (z:EvZ) (hL:(aed L)<=5000) (hl:(aed l)<=2000000) {i:Nat} (hi:i<aed l) (h:Kc l L i (aed L)) (hn:d=aef->l[i]!∉l.take i) (hb:((l[i]!).2,(l[i]!).1)∉l)
 (hs:iB ((l[i]!).2,(l[i]!).1) (Field.mk z.2.2.2.2.1) (z.1,z.2.1)=aee aef):
 dI (b0,l,L,d,(i:Int),z)=aee (.next (b0,l,L,d,((i+1:Nat):Int),z)):=by
 unfold dI;simp only [aB];rw [aK (show (i:Int)<((aed l):Int) by omega),lw];have gi:=au l i hi;have st:=gr (body:=ij) (fun k=>(b0,l,L,d,(i:Int),aeh (Kc l L i k),(k:Int),z)) (aed L) (fun k hk=>by
  unfold ij;simp only [aB,aK (show (k:Int)<((aed L):Int) by omega),lw,au L k hk,gi,ar,bk (show k<1000000000 by omega)]
  by_cases q:Kc l L i k
  · rw [aK q,lw,aK (AJ.2 (.inl q))]
  rw [aG q,pp]
  rw [show (if (l[i]!).2<(l[i]!).1 then (l[i]!).2 else (l[i]!).1)=WY (l[i]!).1 (l[i]!).2 from rfl,show (if (l[i]!).2>(l[i]!).1 then (l[i]!).2 else (l[i]!).1)=WZ (l[i]!).1 (l[i]!).2 from rfl]
  by_cases c:(L[k]!).2.2.1=WY (l[i]!).1 (l[i]!).2
  · rw [dB c,lw]
    by_cases d:(L[k]!).2.2.2=WZ (l[i]!).1 (l[i]!).2
    · rw [dB d,aK (AJ.2 (.inr ⟨c,d⟩))]
    rw [dL d,aG (fun x=>(AJ.1 x).elim q (fun y=>d y.2))]
  rw [dL c,pp,aG (fun x=>(AJ.1 x).elim q (fun y=>c y.1))])
 rw [show (b0,l,L,d,(i:Int),aeg,(0:Int),z)=(b0,l,L,d,(i:Int),aeh (Kc l L i 0),((0:Nat):Int),z) by rw [aG (fun ⟨_,h,_⟩=>Nat.not_lt_zero _ h)];rfl,st];refine aJ ?_;unfold ij;have w:=bk (show i<1000000000 by omega);simp only [aB,aG (show¬((aed L):Int)<((aed L):Int) by omega),pp,aK h,ac6,gi,ar,Sn l _ hl,aG hb,hs,w];cases d with
 |true=>simp only [lw,mq l i (show i<=(aed l) by omega),ar,Sn (l.take i) _ (by rw [Do];omega),aG (hn rfl),pp]
 |false=>rfl
theorem Nb (b0 d:Bool) (l:List (Int×Int)) (L:List uD) (z:EvZ) (hL:(aed L)<=5000) (hl:(aed l)<=2000000) (h: ∀i,i<aed l->Kc l L i (aed L)) (nd:d=aef->l.Nodup) (hb: ∀i,i<aed l->((l[i]!).2,(l[i]!).1)∉l)
 (hs: ∀i,i<aed l->iB ((l[i]!).2,(l[i]!).1) (Field.mk z.2.2.2.2.1) (z.1,z.2.1)=aee aef):
 aD dI (b0,l,L,d,0,z)=aee (.done b0):=by
 have st:=gr (body:=dI) (fun i=>(b0,l,L,d,(i:Int),z)) (aed l) (fun i hi=>Sp b0 d l L z hL hl hi (h i hi) (fun hd hm=>by
  obtain ⟨j,hj,e⟩:=aN.1 hm;rw [Do] at hj;have e2:(l.take i)[j]! =l[j]!:=by rw [getElem!_pos _ j (by rw [Do];exact hj),adX,getElem!_pos l j (by omega)]
  rw [e2] at e;exact bN.1 (nd hd) j i (by omega) hi e) (hb i hi) (hs i hi))
 refine (show _=_ from st).trans (aJ ?_);unfold dI;simp only [aB,aG (show¬((aed l):Int)<((aed l):Int) by omega),pp]
def Fq (L:List uD) (i:Nat):Prop:= ∀j,j+1<i->zm L[j+1]!≠zm L[j]!
theorem E4 {L:List uD} {i:Nat}:Fq L (i+2)↔Fq L (i+1)/\zm L[i+1]!≠zm L[i]!:=by
 constructor
 · exact fun h=>⟨fun j hj=>h j (by omega),h i (by omega)⟩
 rintro ⟨h1,h2⟩ j hj
 by_cases e:j=i
 · subst e;exact h2
 exact h1 j (by omega)
theorem W5 (b0:Bool) (l:List (Int×Int)) (L:List uD) (z:EvZ) (hL:(aed L)<=5000) (hl:(aed l)<=2000000) (h: ∀i,i<aed l->Kc l L i (aed L)) (hb: ∀i,i<aed l->((l[i]!).2,(l[i]!).1)∉l)
 (hs: ∀i,i<aed l->iB ((l[i]!).2,(l[i]!).1) (Field.mk z.2.2.2.2.1) (z.1,z.2.1)=aee aef)
 (nd:Fq L (aed L)->l.Nodup/\aed l<=aed L):aD eD (b0,l,L,aef,1,z)=aee b0:=by
 have st:=gr (body:=eD) (fun k=>(b0,l,L,aeh (Fq L (k+1)),((k+1:Nat):Int),z)) (aed L-1) (fun k hk=>by
  unfold eD;have g1:=au L (k+1) (by omega);have g0:=au L k (by omega);simp only [aB,aK (show ((k+1:Nat):Int)<((aed L):Int) by omega),lw,bk (show k+1<1000000000 by omega),si (show k+1<1000000000 by omega) (show 1<=k+1 by omega),Nat.add_sub_cancel,g1,g0,ar]
  by_cases c:Fq L (k+1)
  · rw [aK c,lw]
    by_cases e:zm L[k+1]! =zm L[k]!
    · have e1:(L[k+1]!).1=(L[k]!).1:=by have:=congrArg Prod.fst e;exact this
      have e2:(L[k+1]!).2.1=(L[k]!).2.1:=by have:=congrArg Prod.snd e;exact this
      rw [dB e1,dB e2,aG (fun q=>(E4.1 q).2 e)];rfl
    rw [aK (E4.2 ⟨c,e⟩)]
    by_cases e1:(L[k+1]!).1=(L[k]!).1
    · rw [dB e1,dL (show¬(L[k+1]!).2.1=(L[k]!).2.1 from fun e2=>e (ad0 e1 e2))];rfl
    rw [dL e1];rfl
  rw [aG c,pp,aG (fun q=>c (E4.1 q).1)])
 have st:aD eD (b0,l,L,aeh (Fq L 1),1,z)=_:=st;rw [aK (show Fq L 1 from fun j hj=>by omega)] at st;rw [st];have dl:Fq L (aed L-1+1)↔Fq L (aed L):=by
  by_cases e:(aed L)=0
  · rw [e];exact ⟨fun h j hj=>h j (by omega),fun h j hj=>h j (by omega)⟩
  rw [show (aed L)-1+1=(aed L) by omega]
 refine aJ ?_;unfold eD;simp only [aB,aG (show¬((aed L-1+1:Nat):Int)<((aed L):Int) by omega),pp]
 by_cases c:Fq L (aed L)
 · obtain ⟨n1,n2⟩:=nd c
   rw [aK (dl.2 c),lw,aG (show¬((aed L):Int)<((aed l):Int) by omega),pp];exact Nb b0 aef l L z hL hl h (fun _=>n1) hb hs
 rw [aG (fun q=>c (dl.1 q)),pp]
 exact Nb b0 aeg l L z hL hl h (fun h=>by cases h) hb hs
theorem uZ (k:dA) (t:Int×Int) (n:R4 k.kw) (t64:jP t):nk k t=aee aef:=by
 unfold nk;rw [ar];rcases LR k with e|⟨e,sh,hl⟩
 · rw [e];rfl
 rw [e,ar,pp];unfold zc;rw [ar]
 by_cases ag9:10<Int.ofNat (aed k.kw.io.be)
 · rw [aK ag9];rfl
 rw [aG ag9,pp,EY ⟨n.ii,⟨sh.s3,sh.h,sh.w,n.Jz⟩,sh.d⟩ (show (aed k.ce)<=1000 by omega),ar]
 by_cases ok:jR k
 case neg=>rw [sp ok];rfl
 rw [rc ok,cK rfl,pp,qS t64,ar]
 by_cases rt:aZ t
 case neg=>rw [sp rt];rfl
 rw [rc rt,cK rfl,pp,ze n.ii t64,ar]
 by_cases l1:0<eK k.kw.ii t
 · rw [aK l1];rfl
 rw [aG l1,pp];have kt:=ag7 l1;have pC:=ok.M'.iq;have am:(aed k.kw.io.be)<=64:=pC.1;rcases Sm (f:=k.kw.io.be) (by omega) with ae|⟨ae,ap⟩
 · rw [show kA k.kw.io=_ from ae];rfl
 rw [show kA k.kw.io=_ from ae,ar,ac6,pp,pp];have rb:=C0 ok.M';obtain ⟨X,x1,x2⟩:=Sl ap ok.M'.jQ.1 rt t64 (1000000-jC k.kw).toNat k.kw k.ce [] (by omega) ⟨ok.M',ok.perm,ok.cert⟩ rfl
  ⟨.nil _ _ _,fun i hi=>by simp at hi,fun e he=>by have:=ok.lead e he;unfold leads at this;omega,.inl ⟨rfl,ok.lead⟩⟩ kt (by simp;omega)
 have x1:J6 t k.kw k.ce []=aee X:=x1;rw [J8 n sh (by omega) ok rt t64 kt,x1,ar];rcases x2 with e|⟨x0,at_,E,xe,ev,el⟩
 · rw [e];rfl
 obtain ⟨L,a1,a2,a3,a4⟩:=adE pC ok.M'.jQ n.ii rt t64 (OT kt);have hL:LX k.kw.io.be k.kw.ii t L:=⟨a2,a3,a4⟩;have a1:wO k.kw.io k.kw.ii t=aee (L,0):=a1;have sm:lO X.1.kw.io k.kw.io=aee aef:=by rw [show lO X.1.kw.io k.kw.io=_ from Cj X.1.kw.io.be k.kw.io.be (by rw [at_.iq];omega),aK at_.iq]
 rw [x0,xe,cK rfl,pp,a1,ar,cK rfl,pp,sm,ar,ac6,pp];have m: ∀i,i<aed E->(E.map fun e=>e.1)[i]! =(E[i]!).1:=fun i hi=>by rw [getElem!_pos _ i (by rw [ut];exact hi),getElem!_pos E i hi,UV]
 refine (show _=_ from W5 aef (E.map fun e=>e.1) L _ a2 (by rw [ut];omega) (fun i hi=>?_) (fun i hi hm=>?_) (fun i hi=>?_) (fun dif=>?_))
 · rw [ut] at hi
   obtain ⟨j,hj,e⟩:=aN.1 (hL.has pC ev (aR hi));exact ⟨j,hj,by rw [e,m i hi];rfl,by rw [e,m i hi];rfl⟩
 · rw [ut] at hi
   rw [m i hi] at hm;obtain ⟨g,hg,e⟩:=IR.1 hm;have s1:=(ev.ev g hg).1.HG;have s2:=(ev.ev _ (aR hi)).1.HG;rw [e] at s1;dsimp only at s1;omega
 · rw [ut] at hi
   rw [m i hi];obtain ⟨p,r,_,le⟩:=ev.ev _ (aR hi);show iB ((E[i]!).1.2,(E[i]!).1.1) ⟨X.1.kw.io.be⟩ t=aee aef;rw [at_.iq,M9 pC t64 ⟨p.both.2,p.both.1⟩,aK (p.behind r.1 rt.1 le)]
 have nd:=ev.nodup (hL.diff pC ev (fun i hi=>dif i (by omega)))
 exact ⟨nd,by rw [ut];exact hL.more pC ev nd⟩
theorem R4.of {c:aI} (h1:RT.wf [.i .i64,.i .i64] c.ii) (h2: ∀a∈c.aa.ce,RT.wf [.i .i64,.i .i64,.i .i64,.i .i64,.i .i64] a):R4 c where
 ii:=⟨wf_i64 h1.1,wf_i64 h1.2⟩
 Jz w hw:=by have:=h2 (c.aa.ce[w]!) (by rw [getElem!_pos c.aa.ce w hw];exact List.getElem_mem hw);exact ⟨wf_i64 this.1,wf_i64 this.2.1⟩
end Go.Proofs.YtmikolhhnhndkaaGreat
