/- Plain laws (4). -/
import Derived.Test.YtbelikaakgedaaaGreatPQM3
import Derived.Test.YtbelikaakgedaaaGreatPQS4
open List renaming replicate->If,length_singleton->IR,mem_cons_of_mem->NE,length_take->PP,length_map->Sw,mem_cons_self->Md,length_append->YG,mem_append->Ii,length_drop->Mi,set_append_left->EE,take_of_length_le->Mp,nodup_cons->YI,mem_of_mem_take->GH,mem_of_mem_drop->QK,take_length->Mq,mem_map->SJ,mem_cons->SK,length_set->Mg,length_replicate->KL,cons_ne_nil->YF,append_nil->Pg,length_pos_iff->D8,mem_singleton->Su,nodup_nil->g',nodup_append->Ih,length_eq_zero_iff->Ml,length_filter_le->SL,mem_erase_of_ne->Vg,ne_nil_of_mem->vk,append_assoc->OH,length_cons->D5,length_nil->h2,map_append->h9,foldl_cons->Mr,take_take->tA,map->Pv,length->hx
open Classical renaming not_not->Y,byContradiction->KJ,not_forall->YJ,not_imp->Sv,em->Ze
open Nat renaming lt_trichotomy->WF,le_refl->Pc,zero_le->Xc,strongRecOn->YH,le_trans->SH,lt_or_ge->SN,succ_ne_zero->hi,min_eq_left->YB,lt_irrefl->Zg
open Bool renaming not_false->SG,not_true->SI,and_self->SM,true->h1,false->Ss
open Int renaming toNat_natCast->al,ofNat->Vf,tdiv_eq_ediv_of_nonneg->xc,le_of_lt->KO,mul_nonneg->Tj,lt_irrefl->Zf
open And renaming intro->Sy
open List.Perm renaming refl->Y2
open Prod renaming ext->Pu
open Option renaming some->YC
open Decidable renaming decide->KN
namespace Go.Proofs.YtbelikaakgedaaaGreat
open Go.Vm Classical
theorem afd{f:J Pt}(bj:aS f){l:J Int}(pm:(fa f).Perm l):Bc f (fT l):=by
 have nd:=pm.nodup_iff.1 (eX bj.2.2);have f1:=bj.1;have ln:(hx l)=(hx f):=by rw[<-pm.length_eq];exact Sw ..
 have hp: ∀e∈fT l,lK f e:=λe he=>⟨dL.1 (pm.mem_iff.2 (Kv he).1),dL.1 (pm.mem_iff.2 (Kv he).2)⟩
 refine⟨by rw[nJ];omega,λe he=>?_,hp⟩;obtain⟨⟨p1,p2⟩,q1,q2⟩:=Sy (bU bj (hp e he).1) (bU bj (hp e he).2);have ne:=ajt nd he;unfold gO at p1 q1;unfold jO;omega
def fH(l:J Int)(i j:Nat):J Int:=(l.set i l[j]!).set j l[i]!
theorem iz{l:J Int}{i j:Nat}(N:i<hx l)(hj:j<hx l):(fH l i j).Perm l:=by
 unfold fH
 grind
theorem N5(l:J Int)(I:(hx l)<=1000000):fW l l=YC h1:=by unfold fW;rw[aY rfl,AC];have:=bc (body:=ji) (λi=>(l,l,(i:Int))) (hx l) (λi N=>by unfold ji;simp only[aB,aA (show(i:Int)<((hx l):Int) by omega),ww,aq l i N,aj,aY rfl,AC,aN (show i<1000000000 by omega)]);rw[show(l,l,(0:Int))=(l,l,((0:Nat):Int))from rfl,this];refine ar ?_;unfold ji;simp
theorem Kw{k:bD}(sh:uu k.lc)(I:(hx k.bv)<=1000000):kF k k=YC h1:=by unfold kF;rw[DL sh,aj,ww,N5 _ I,aj]
theorem qe0(k:bD):xP k=YC h1\/(xP k=YC Ss/\uu k.lc/\hx k.bv<=70):=by
 unfold xP
 rcases Bd k.lc with e|⟨e,sh⟩
 ·rw[e];exact .inl rfl
 grind[aA,aF]
theorem Jd{f:J Pt}(bj:aS f){t:Int×Int}(dK:jo t){a b:Int}(ha:dZ f a)(hb:dZ f b):oP ⟨f⟩ t a b=YC (KN (leads (bm f a) (bm f b) t)):=by
 obtain⟨j,j1,j2,j3⟩:=yr bj ha;obtain⟨k,k1,k2,k3⟩:=yr bj hb;unfold oP
 grind[aj,aq,Ct,bU]
theorem LW{i:Nat}(N:i<1000000000)(h0:0<i):M d5 (Int.tdiv (M d5 ((i:Int)-1)) 2)=(((i-1) / 2:Nat):Int):=by
 grind[p5,xc,dN]
noncomputable def mw(f:J Pt)(t:Int×Int):Nat->J Int->J Int
 |0,l=>l
 |i+1,l=>if leads (bm f l[i+1]!) (bm f l[i / 2]!) t then mw f t (i / 2) (fH l (i+1) (i / 2))else l
termination_by i=>i
decreasing_by omega
theorem Ad(f:J Pt)(t:Int×Int): ∀(i:Nat) (l:J Int),i<hx l->(mw f t i l).Perm l:=by
 intro i
 induction i using YH with
 |ind i ih=>
  intro l N;cases i with
  |zero=>unfold mw;rfl
  |succ i=>
   unfold mw;split
   ·have sp:=iz N (show i / 2<(hx l) by omega)
    exact(ih (i / 2) (by omega) _ (by rw[sp.length_eq];omega)).trans sp
   rfl
theorem adM{f:J Pt}(bj:aS f){t:Int×Int}(dK:jo t): ∀(i:Nat) (l:J Int),(∀x∈l,dZ f x)->i<hx l->hx l<=1000->
 au vD ((i:Int),f,t.1,t.2,l)=YC (mw f t i l):=by
 intro i
 induction i using YH with
 |ind i ih=>
  intro l hp N I;cases i with
  |zero=>unfold mw;refine ar ?_;rfl
  |succ i=>
   have hu:=LW (i:=i+1) (by omega) (by omega);rw[show(i+1-1) / 2=i / 2 from rfl]at hu;have hj:i / 2<(hx l):=by omega
   have g1:=aq l _ N;have g2:=aq l _ hj;have g3:=aq (l.set (i+1) l[i / 2]!) (i / 2) (by grind);have a2:=Jd bj dK (hp _ (aJ N)) (hp _ (aJ hj));have sp:=iz N hj;have sl:=sp.length_eq;unfold mw
   by_cases c:leads (bm f l[i+1]!) (bm f l[i / 2]!) t
   ·rw[Do c]
    rw[aA c]at a2;rw[aD (y:=(((i / 2:Nat):Int),f,t.1,t.2,fH l _ _)) (by unfold vD;simp (disch:=omega) only[aA,g1,aj,hu,g2,a2,cA,g3];rfl)]
    grind
   refine ar ?_
   unfold vD
   grind
theorem abl{f:J Pt}(bj:aS f){t:Int×Int}(dK:jo t){i:Nat}{l:J Int}(hp: ∀x∈l,dZ f x)(N:i<hx l)(I:(hx l)<=1000):uj ⟨f⟩ t l (i:Int)=YC (mw f t i l):=by
 unfold uj
 grind[bJ,aj,adM]
theorem RE(p q:Pt)(t:Int×Int):G2 p q t=(p.2.1*t.2+p.2.2*t.1) - (q.2.1*t.2+q.2.2*t.1):=by
 grind[Gv,Int.sub_mul]
theorem Bg{p q r:Pt}{t:Int×Int}(D:leads p q t)(S:leads q r t):leads p r t:=by
 unfold leads at*
 grind[RE]
theorem oR{p q:Pt}(t:Int×Int)(h:p.1≠q.1)(hn: ¬leads p q t):leads q p t:=by
 unfold leads at*
 grind[RE]
theorem gz(l:J Int)(i j:Nat):(fH l i j).length=(hx l):=by unfold fH;simp
theorem c17(l:J Int){i j:Nat}(_:i<hx l)(hj:j<hx l):(fH l i j)[j]! =l[i]!:=by
 unfold fH
 grind
noncomputable def we(f:J Pt)(t:Int×Int):Nat->J Int->Nat
 |0,_=>0
 |i+1,l=>if leads (bm f l[i+1]!) (bm f l[i / 2]!) t then we f t (i / 2) (fH l (i+1) (i / 2))else i+1
termination_by i=>i
decreasing_by omega
theorem Je(f:J Pt)(t:Int×Int): ∀(i:Nat) (l:J Int),i<hx l->we f t i l<hx l/\(mw f t i l)[we f t i l]! =l[i]!:=by
 intro i
 induction i using YH with
 |ind i ih=>
  intro l N;cases i with
  |zero=>unfold we mw;omega
  |succ i=>
   unfold we mw;split
   ·have hj:i / 2<(hx l):=by omega
    obtain⟨D,S⟩:=ih (i / 2) (by omega) (fH l (i+1) (i / 2)) (by rw[gz];exact hj);rw[gz]at D;exact⟨D,by rw[S,c17 l N hj]⟩
   omega
noncomputable def iS(f:J Pt)(t:Int×Int)(l:J Int)(i:Nat):Nat:=if 2*i+1<hx l/\leads (bm f l[2*i+1]!) (bm f l[i]!) t then 2*i+1 else i
noncomputable def cH(f:J Pt)(t:Int×Int)(l:J Int)(i:Nat):Nat:=if 2*i+2<hx l/\leads (bm f l[2*i+2]!) (bm f l[iS f t l i]!) t then 2*i+2 else iS f t l i
theorem o9(f:J Pt)(t:Int×Int)(l:J Int)(i:Nat):iS f t l i=i\/(iS f t l i=2*i+1/\2*i+1<hx l):=by unfold iS;grind
theorem qW(f:J Pt)(t:Int×Int)(l:J Int)(i:Nat):cH f t l i=i\/(i<cH f t l i/\cH f t l i<hx l):=by unfold cH;grind[o9]
noncomputable def vO(f:J Pt)(t:Int×Int)(l:J Int)(i:Nat):J Int:=
 if _h:i<cH f t l i/\cH f t l i<(hx l)then vO f t (fH l i (cH f t l i)) (cH f t l i)else l
termination_by (hx l)-i
decreasing_by rw[gz];omega
theorem my{f:J Pt}{t:Int×Int}{l:J Int}{i:Nat}(h:cH f t l i=i):vO f t l i=l:=by unfold vO;grind
theorem Ae{f:J Pt}{t:Int×Int}{l:J Int}{i:Nat}(h:cH f t l i≠i):vO f t l i=vO f t (fH l i (cH f t l i)) (cH f t l i):=by
 have:=qW f t l i
 conv=>lhs;unfold vO
 grind
theorem ex2(f:J Pt)(t:Int×Int): ∀(d:Nat) (l:J Int) (i:Nat),hx l-i<=d->i<hx l->(vO f t l i).Perm l:=by
 intro d
 induction d with
 |zero=>omega
 |succ d ih=>
  intro l i h N
  by_cases e:cH f t l i=i
  ·rw[my e]
  grind[qW,Ae,gz,iz]
theorem agW{f:J Pt}(bj:aS f){t:Int×Int}(dK:jo t): ∀(d:Nat) (l:J Int) (i:Nat),hx l-i<=d->i<hx l->hx l<=1000->(∀x∈l,dZ f x)->l.Nodup->au iG ((i:Int),f,t.1,t.2,l)=YC (vO f t l i):=by
 intro d
 induction d with
 |zero=>omega
 |succ d ih=>
  intro l i h N I hp nd;have e1:M d5 (M d5 (2*(i:Int))+1)=((2*i+1:Nat):Int):=by
   grind[dN]
  have e2:M d5 (((2*i+1:Nat):Int)+1)=((2*i+2:Nat):Int):=aN (by omega);have gi:=aq l i N;have hpi:=hp _ (aJ N);have go: ∀j,i<j->j<hx l->leads (bm f l[j]!) (bm f l[i]!) t->cH f t l i=j->au iG ((j:Int),f,t.1,t.2,fH l i j)=YC (vO f t l i):=by
   intro j rE hj _ hk;have sp:=iz N hj;rw[Ae (by omega),hk]
   grind[gz]
  by_cases D:2*i+1<hx l
  case neg=>
   have kA:iS f t l i=i:=by unfold iS;grind
   have kG:cH f t l i=i:=by unfold cH;grind
   rw[my kG];refine ar ?_;unfold iG;simp (disch:=omega) only[aB,e1,aF,AC]
  have g1:=aq l (2*i+1) D;have Vo:=hp _ (aJ D);have a1:=Jd bj dK Vo hpi;have s1:=aq (l.set i l[2*i+1]!) (2*i+1) (by grind)
  by_cases S:2*i+2<hx l
  ·have g2:=aq l (2*i+2) S
   have XJ:=hp _ (aJ S);have a2:=Jd bj dK XJ Vo;have a3:=Jd bj dK XJ hpi;have s2:=aq (l.set i l[2*i+2]!) (2*i+2) (by rw[Mg];exact S);have id1:=(bU bj Vo).2;have id2:=(bU bj XJ).2;have ne:=bO.1 nd (2*i+1) (2*i+2) (by omega) S
   by_cases c2:leads (bm f l[2*i+2]!) (bm f l[2*i+1]!) t
   ·rw[aA c2]at a2
    by_cases c3:leads (bm f l[2*i+2]!) (bm f l[i]!) t
    ·rw[aA c3]at a3
     have kG:cH f t l i=2*i+2:=by
      unfold cH;refine Do ⟨S,?_⟩;rcases o9 f t l i with e|⟨e,_⟩
      ·rw[e];exact c3
      rw[e];exact c2
     rw[aD (by unfold iG;simp (disch:=omega) only[aB,e1,e2,aA,ww,g1,g2,gi,aj,a2,a3,SI,AC,cA,s2];rfl)];exact go (2*i+2) (by omega) S c3 kG
    rw[aF c3]at a3
    have akk:=λh=>c3 (Bg c2 h)
    have kA:iS f t l i=i:=by unfold iS;rw[EQ (λh=>akk h.2)]
    have kG:cH f t l i=i:=by unfold cH;rw[kA,EQ (λh=>c3 h.2)]
    rw[my kG];refine ar ?_;unfold iG;simp (disch:=omega) only[aB,e1,e2,aA,ww,g1,g2,gi,aj,a2,a3,SG]
   rw[aF c2]at a2
   have Uq:=oR t (by rw[id1,id2];exact λh=>ne h.symm) c2
   by_cases c1:leads (bm f l[2*i+1]!) (bm f l[i]!) t
   ·rw[aA c1]at a1
    have kA:iS f t l i=2*i+1:=by unfold iS;rw[Do ⟨D,c1⟩]
    have kG:cH f t l i=2*i+1:=by unfold cH;rw[kA,EQ (λh=>c2 h.2)]
    rw[aD (by unfold iG;simp (disch:=omega) only[aB,e1,e2,aA,ww,g1,g2,gi,aj,a2,a1,SI,AC,cA,s1];rfl)];exact go (2*i+1) (by omega) D c1 kG
   rw[aF c1]at a1
   have kA:iS f t l i=i:=by unfold iS;rw[EQ (λh=>c1 h.2)]
   have kG:cH f t l i=i:=by unfold cH;rw[kA,EQ (λh=>c1 (Bg Uq h.2))]
   rw[my kG];refine ar ?_;unfold iG;simp (disch:=omega) only[aB,e1,e2,aA,ww,g1,g2,gi,aj,a2,a1,SG,AC]
  by_cases c1:leads (bm f l[2*i+1]!) (bm f l[i]!) t
  ·rw[aA c1]at a1
   have kA:iS f t l i=2*i+1:=by unfold iS;rw[Do ⟨D,c1⟩]
   have kG:cH f t l i=2*i+1:=by unfold cH;rw[kA,EQ (λh=>S h.1)]
   rw[aD (by unfold iG;simp (disch:=omega) only[aB,e1,e2,aA,aF,ww,g1,gi,aj,a1,SI,AC,cA,s1];rfl)];exact go (2*i+1) (by omega) D c1 kG
  rw[aF c1]at a1
  have kA:iS f t l i=i:=by unfold iS;rw[EQ (λh=>c1 h.2)]
  have kG:cH f t l i=i:=by unfold cH;rw[kA,EQ (λh=>S h.1)]
  rw[my kG];refine ar ?_;unfold iG;simp (disch:=omega) only[aB,e1,e2,aA,aF,ww,g1,gi,aj,a1,SG,AC]
structure SO(P:Int->Int->Prop)(Yz:Int->Prop):Prop where
 pn: ∀a,Yz a-> ¬P a a
 tr: ∀a b c,Yz a->Yz b->Yz c->P a b->P b c->P a c
 Vr: ∀a b,Yz a->Yz b->a≠b->P a b\/P b a
abbrev par(j:Nat):Nat:=(j-1) / 2
def Hp(P:Int->Int->Prop)(l:J Int):Prop:= ∀j,0<j->j<hx l-> ¬P l[j]! l[par j]!
section
variable {P : Int -> Int -> Prop} {Yz : Int -> Prop}
theorem SO.asym(o:SO P Yz){a b:Int}(ha:Yz a)(hb:Yz b)(h:P a b): ¬P b a:=λk=>o.pn a ha (o.tr a b a ha hb ha h k)
theorem SO.Yt(o:SO P Yz){a b c:Int}(ha:Yz a)(hb:Yz b)(hc:Yz c)(D: ¬P a b)(S: ¬P b c): ¬P a c:=λh=>by
 by_cases e:b=c
 ·grind
 rcases o.Vr b c hb hc e with k|k
 ·exact S k
 exact D (o.tr a c b ha hc hb h k)
theorem SO.up(o:SO P Yz){a b c:Int}(ha:Yz a)(hb:Yz b)(hc:Yz c)(D:P b c)(S: ¬P a c): ¬P a b:=λh=>S (o.tr a b c ha hb hc h D)
theorem qX(l:J Int){i j:Nat}(N:i<hx l)(hj:j<hx l)(k:Nat):(fH l i j)[k]! =if k=j then l[i]! else if k=i then l[j]! else l[k]!:=by
 unfold fH
 grind
structure hsu(P:Int->Int->Prop)(l:List Int)(i:Nat):Prop where
 lt:i<hx l
 el: ∀j,0<j->j<hx l->j≠i-> ¬P l[j]! l[par j]!
 gr: ∀j,0<j->j<hx l->par j=i->0<i-> ¬P l[j]! l[par i]!
theorem htu(o:SO P Yz){f:J Pt}{t:Int×Int}(hP: ∀a b,P a b↔leads (bm f a) (bm f b) t): ∀(i:Nat) (l:J Int),(∀x∈l,Yz x)->hsu P l i->Hp P (mw f t i l):=by
 intro i
 induction i using YH with
 |ind i ih=>
  intro l hS v;have sm: ∀j,j<hx l->Yz l[j]!:=λj hj=>hS _ (aJ hj)
  cases i with
  |zero=>unfold mw;exact λj D S=>v.el j D S (by omega)
  |succ i=>
   have N:=v.lt;have hp:i / 2<(hx l):=by omega
   have pe:par (i+1)=i / 2:=by rfl
   unfold mw;split
   ·rename_i hc
    have hc:=(hP _ _).2 hc;refine ih _ (by omega) _ (λx X=>hS x ((iz N hp).mem_iff.1 X)) ⟨by rw[gz];exact hp,λj D S h3=>?_,λj D S h3 h4=>?_⟩
    ·rw[gz]at S
     rw[qX l N hp,qX l N hp,EQ h3]
     by_cases a:j=i+1
     ·subst a
      rw[Do rfl,pe,Do rfl];exact o.asym (sm _ N) (sm _ hp) hc
     rw[EQ a]
     by_cases b:par j=i / 2
     ·rw[b,Do rfl]
      have:=v.el j D S a;rw[b]at this;exact o.up (sm _ S) (sm _ N) (sm _ hp) hc this
     rw[EQ b]
     by_cases d:par j=i+1
     ·rw[Do d]
      have:=v.gr j D S d (by omega)
      assumption
     rw[EQ d];exact v.el j D S a
    rw[gz]at S
    have hq:par (i / 2)<(hx l):=by grind
    have ne1:par (i / 2)≠i / 2:=by grind
    have ne2:par (i / 2)≠i+1:=by grind
    rw[qX l N hp,qX l N hp,EQ ne1,EQ ne2,EQ (by grind)];have gp:=v.el _ h4 hp (by omega)
    by_cases a:j=i+1
    ·grind
    rw[EQ a]
    have:=v.el j D S a;rw[h3]at this;exact o.Yt (sm _ S) (sm _ hp) (sm _ hq) this gp
   rename_i hc
   intro j D S
   by_cases a:j=i+1
   ·grind
   exact v.el j D S a
structure agY(P:Int->Int->Prop)(l:List Int)(i:Nat):Prop where
 lt:i<hx l
 el: ∀j,0<j->j<hx l->par j≠i-> ¬P l[j]! l[par j]!
 gr: ∀j,0<j->j<hx l->par j=i->0<i-> ¬P l[j]! l[par i]!
theorem us2(o:SO P Yz){f:J Pt}{t:Int×Int}(hP: ∀a b,P a b↔leads (bm f a) (bm f b) t){l:J Int}(sm: ∀j,j<hx l->Yz l[j]!){i:Nat}(N:i<hx l):
 (cH f t l i=i\/P l[cH f t l i]! l[i]!)/\ ∀j,0<j->j<hx l->par j=i-> ¬P l[j]! l[cH f t l i]!:=by
 have hA:(iS f t l i=i\/P l[iS f t l i]! l[i]!)/\(2*i+1<hx l-> ¬P l[2*i+1]! l[iS f t l i]!)/\iS f t l i<(hx l):=by
  unfold iS;split
  ·rename_i h
   exact⟨.inr ((hP _ _).2 h.2),λ_=>o.pn _ (sm _ h.1),h.1⟩
  rename_i h
  exact⟨.inl rfl,λI c=>h ⟨I,(hP _ _).1 c⟩,N⟩
 obtain⟨a1,a2,a3⟩:=hA;have ch: ∀j,0<j->par j=i->j=2*i+1\/j=2*i+2:=λj D S=>by simp[par]at S;omega
 unfold cH;split
 ·rename_i h
  have S:=(hP _ _).2 h.2;refine⟨.inr ?_,λj D I hp=>?_⟩
  ·rcases a1 with e|e
   ·rw[e]at S;exact S
   exact o.tr _ _ _ (sm _ h.1) (sm _ a3) (sm _ N) S e
  rcases ch j D hp with rfl|rfl
  ·exact o.Yt (sm _ I) (sm _ a3) (sm _ h.1) (a2 I) (o.asym (sm _ h.1) (sm _ a3) S)
  exact o.pn _ (sm _ I)
 grind
theorem qc1(o:SO P Yz){f:J Pt}{t:Int×Int}(hP: ∀a b,P a b↔leads (bm f a) (bm f b) t): ∀(d:Nat) (l:J Int) (i:Nat),hx l-i<=d->(∀x∈l,Yz x)->agY P l i->Hp P (vO f t l i):=by
 intro d
 induction d with
 |zero=>intro l i h _ v;have:=v.lt;omega
 |succ d ih=>
  intro l i h hS v;have sm: ∀j,j<hx l->Yz l[j]!:=λj hj=>hS _ (aJ hj)
  have N:=v.lt;obtain⟨b1,b2⟩:=us2 o hP sm N
  by_cases e:cH f t l i=i
  ·rw[my e]
   intro j D S
   by_cases c:par j=i
   ·grind
   exact v.el j D S c
  rw[Ae e]
  have kc:=qW f t l i;have ki:cH f t l i=2*i+1\/cH f t l i=2*i+2:=by
   have:=o9 f t l i;unfold cH at e ⊢
   grind
  have hb:cH f t l i<(hx l):=by omega
  have pb:par (cH f t l i)=i:=by grind
  have N7:=b1.resolve_left e;generalize cH f t l i=b at*;refine ih _ b (by rw[gz];omega) (λx X=>hS x ((iz N hb).mem_iff.1 X)) ⟨by rw[gz];exact hb,λj D S h3=>?_,λj D S h3 h4=>?_⟩
  ·rw[gz]at S
   rw[qX l N hb,qX l N hb,EQ h3]
   by_cases a:j=b
   ·subst a
    rw[Do rfl,pb,Do rfl];exact o.asym (sm _ hb) (sm _ N) N7
   rw[EQ a]
   by_cases c:j=i
   ·subst c
    rw[Do rfl,EQ (by grind)];exact v.gr b (by omega) hb pb D
   rw[EQ c]
   by_cases g:par j=i
   ·grind
   rw[EQ g];exact v.el j D S g
  rw[gz]at S
  have j1:j≠b:=by simp[par]at h3;omega
  have j2:j≠i:=by simp[par]at h3;omega
  rw[qX l N hb,qX l N hb,EQ j1,EQ j2,pb,EQ (by omega),Do rfl];have:=v.el j D S (by omega)
  grind
theorem c72{f:J Pt}{t:Int×Int}{l:J Int}{i:Nat}(h:0<i-> ¬leads (bm f l[i]!) (bm f l[par i]!) t):mw f t i l=l/\we f t i l=i:=by
 cases i with
 |zero=>unfold mw we;simp
 |succ i=>
  have pe:par (i+1)=i / 2:=by simp only[par];omega
  unfold mw we
  grind
theorem agc(o:SO P Yz){f:J Pt}{t:Int×Int}(hP: ∀a b,P a b↔leads (bm f a) (bm f b) t){l:J Int}(sm: ∀j,j<hx l->Yz l[j]!)(h:Hp P l){i:Nat}(N:i<hx l):vO f t l i=l:=by
 refine my ?_;rcases(us2 o hP sm N).1 with e|e
 ·exact e
 have kc:=qW f t l i
 have kA:=o9 f t l i;rcases Ze _ with q|q
 ·exact q
 have pk:par (cH f t l i)=i:=by
  simp[par];unfold cH at q ⊢;split
  ·omega
  rename_i hh;rw[EQ hh]at q;omega
 have:=h (cH f t l i) (by omega) (by omega)
 grind
theorem us3(o:SO P Yz){f:J Pt}{t:Int×Int}(hP: ∀a b,P a b↔leads (bm f a) (bm f b) t){l:J Int}(hS: ∀x∈l,Yz x){a:Nat}(ha:a<hx l)
 (D: ∀j,0<j->j<hx l->j≠a->par j≠a-> ¬P l[j]! l[par j]!) (S: ∀j,0<j->j<hx l->par j=a->0<a-> ¬P l[j]! l[par a]!):
 Hp P (vO f t (mw f t a l) (we f t a l)):=by
 have sm: ∀j,j<hx l->Yz l[j]!:=λj hj=>hS _ (aJ hj)
 by_cases c:0<a/\P l[a]! l[par a]!
 ·have rv:hsu P l a:=⟨ha,λj j1 j2 j3=>by
   by_cases e:par j=a
   ·rw[e]
    exact o.up (sm _ j2) (sm _ ha) (sm _ (by simp[par];omega)) c.2 (S j j1 j2 e c.1)
   grind,S⟩
  have hh:=htu o hP a l hS rv;have pm:=Ad f t a l ha;have ri:=(Je f t a l ha).1;rw[agc o hP (λj hj=>hS _ (pm.mem_iff.1 (aJ hj))) hh (by rw[pm.length_eq];exact ri)];exact hh
 have c':=λh0 h=>c ⟨h0,(hP _ _).2 h⟩
 obtain⟨e1,e2⟩:=c72 c';rw[e1,e2];refine qc1 o hP _ l a (Pc _) hS ⟨ha,λj j1 j2 j3=>?_,S⟩
 grind
end
theorem N8{f:J Pt}(bj:aS f)(k:Nat):aS (f.eraseIdx k):=by
 refine⟨SH (List.length_eraseIdx_le f k) bj.1,λp hp=>bj.2.1 p (List.mem_of_mem_eraseIdx hp),?_⟩;have h:=bj.2.2;intro i N
 by_cases hk:k<hx f
 ·have:=I7 hk
  rw[hox,hox];split<;>split<;>exact eW h (by omega) (by omega)
 rw[List.eraseIdx_of_length_le (by omega)]at N ⊢
 exact h i N
theorem hlc{f:J Pt}(bj:aS f){k:Nat}(hk:k<hx f):ly ⟨f⟩ (f[k]!).1=YC ((k:Int),0):=by
 have D:=bj.1;have hc:dm ⟨f⟩=YC 0:=by rw[fR];exact congrArg YC (eV.2 bj)
 have bs:=vK f (f[k]!).1 (by omega) (λi j=>eW bj.2.2);unfold ly lY;rw[Gs]
 grind
theorem abm{f:J Pt}(bj:aS f){id:Int}(h: ¬dZ f id):ly ⟨f⟩ id=YC (0,6):=by
 have D:=bj.1;have hc:dm ⟨f⟩=YC 0:=by rw[fR];exact congrArg YC (eV.2 bj)
 have bs:=vK f id (by omega) (λi j=>eW bj.2.2);obtain⟨m,_,_,_,e⟩:=bs.2 (λk hk he=>h ⟨k,hk,he⟩);unfold ly lY;simp_all[Gs,]
theorem akl:nv=dF:=rfl
theorem HR{f:J Pt}(bj:aS f){k:Nat}(hk:k<hx f):kB ⟨f⟩ (f[k]!).1=YC (⟨f.eraseIdx k⟩,0)/\jl ⟨f⟩ (f[k]!).1=YC (⟨f.eraseIdx k⟩,0):=by
 have f1:=bj.1;constructor
 ·obtain⟨L,d1,d2⟩:=Fv f k hk
  unfold kB;rw[hlc bj hk,aj,aY rfl,AC,bJ (show(hx f)<=1048576 by omega),aj,aN (by omega),akl,d1,aj]
  grind
 have hc:jI ⟨f⟩=YC 0:=by rw[qS];exact congrArg YC (eV.2 bj)
 unfold jl;rw[hc,aj,aY rfl,AC,Cu bj.2.2 (by omega) hk rfl,aj,aF (by omega),AC];unfold BH;generalize hn:(f[k]!).1=n;have key:=bc (body:=oD) (λi=>(n,(i:Int),f,(f.take i).filter (λx=>x.1 !=n))) (hx f) (λi N=>by
  have nx:(f.take (i+1)).filter (λx=>x.1 !=n)=(f.take i).filter (λx=>x.1 !=n)++(if(f[i]!).1 !=n then [f[i]!]else []):=by rw[cB N,List.filter_append,List.filter_cons,List.filter_nil]
  have fl:((f.take i).filter (λx=>x.1 !=n)).length<=200:=SH (SL _ _) (by rw[PP];omega);unfold oD;simp (disch:=omega) only[aB,aA,aq f i N,aj,aN,nx]
  by_cases h:(f[i]!).1=n
  ·rw[aY h];simp
  rw[cC h]
  simp only[ww,if_true,ba (show((f.take i).filter (λx=>x.1 !=n)).length+[f[i]!].length<=1048576 by simp[D5,h2];omega),aj])
 have fin:au oD (n,((hx f):Int),f,(f.take (hx f)).filter (λx=>x.1 !=n))=YC ⟨f.eraseIdx k⟩:=ar (by unfold oD;simp (disch:=omega) only[aB,aF,AC,Mq];rw[id' hk (λi j=>eW bj.2.2) hn])
 grind
theorem DP{f:J Pt}(bj:aS f){id:Int}(h: ¬dZ f id):kB ⟨f⟩ id=YC (⟨[]⟩,6)/\jl ⟨f⟩ id=YC (⟨[]⟩,6):=by
 constructor
 ·unfold kB
  rw[abm bj h];rfl
 have hc:jI ⟨f⟩=YC 0:=by rw[qS];exact congrArg YC (eV.2 bj)
 unfold jl;simp_all[Fx]
def wX(f:J Pt)(m:Nat)(p:Pt):J Pt:=f.take m++p::f.drop m
structure X4(f:List Pt)(p:Pt)(m:Nat):Prop where
 le:m<=hx f
 lo: ∀i,i<m->(f[i]!).1<p.1
 N: ∀i,m<=i->i<hx f->p.1<(f[i]!).1
theorem aju{f:J Pt}{m:Nat}(h:m<=hx f)(p:Pt):(wX f m p).length=hx f+1:=by unfold wX;grind
theorem ajv{f:J Pt}{m:Nat}(h:m<=hx f)(p:Pt)(i:Nat):(wX f m p)[i]! =if i<m then f[i]! else if i=m then p else f[i-1]!:=by
 unfold wX
 grind
theorem RG{f:J Pt}(bj:aS f){p:Pt}(po:gO p){m:Nat}(h:X4 f p m)(I:(hx f)<64):aS (wX f m p):=by
 refine⟨by rw[aju h.le];omega,λq hq=>?_,λi N=>?_⟩
 ·rcases Ii.1 hq with hq|hq
  ·exact bj.2.1 q (GH hq)
  rcases SK.1 hq with rfl|hq
  ·exact po
  exact bj.2.1 q (QK hq)
 rw[aju h.le]at N
 rw[ajv h.le,ajv h.le];rcases WF (i+1) m with c|c|c
 ·rw[Do (by omega),Do c];exact eW bj.2.2 (by omega) (by have:=h.le;omega)
 ·rw[Do (by omega),EQ (by omega),Do c];exact h.lo i (by omega)
 rw[EQ (show¬i+1<m by omega),EQ (show¬i+1=m by omega),Nat.add_sub_cancel]
 by_cases d:i=m
 ·rw[EQ (by omega),Do d];exact h.N i (by omega) (by omega)
 rw[EQ (by omega),EQ d];exact eW bj.2.2 (by omega) (by omega)
theorem qb3{f:J Pt}(bj:aS f){p:Pt}(h: ¬dZ f p.1): ∃m,X4 f p m/\lY ⟨f⟩ p.1=YC ((m:Int),Ss):=by have D:=bj.1;obtain⟨m,a,b,c,e⟩:=(vK f p.1 (by omega) (λi j=>eW bj.2.2)).2 (λk hk he=>h ⟨k,hk,he⟩);refine⟨m,⟨a,b,c⟩,?_⟩;unfold lY;rw[Gs,e];rfl
theorem akm{f:J Pt}(bj:aS f){id:Int}(h:dZ f id): ∃k,k<hx f/\(f[k]!).1=id/\lY ⟨f⟩ id=YC ((k:Int),h1):=by have D:=bj.1;obtain⟨k,hk,he⟩:=h;refine⟨k,hk,he,?_⟩;unfold lY;rw[Gs,(vK f id (by omega) (λi j=>eW bj.2.2)).1 k hk he];rfl
theorem agZ{f:J Pt}(_:aS f){p:Pt}{m:Nat}(h:X4 f p m)(I:(hx f)<64):au jw (Ss,0,f,p.1,p.2.1,p.2.2,[])=YC (⟨wX f m p⟩,0):=by
 have rJ:=h.le;have tl: ∀i,(f.take i).length<=64:=λi=>by grind
 have k1:=bc (body:=jw) (λi=>(Ss,(i:Int),f,p.1,p.2.1,p.2.2,f.take i)) m (λi N=>by unfold jw;simp (disch:=omega) only[aB,aA,ww,SG,aq,aj,aF (Int.not_lt.2 (KO (h.lo i N))),AC,ba (show(f.take i).length+[f[i]!].length<=1048576 by grind),aN,cB]);refine(k1).trans ?_;rcases SN m (hx f)with hm|hm
 ·have s1:jw (Ss,(m:Int),f,p.1,p.2.1,p.2.2,f.take m)=YC (.next (h1,((m+1:Nat):Int),f,p.1,p.2.1,p.2.2,f.take m++[p]++[f[m]!])):=by
   unfold jw;simp (disch:=omega) only[aB,aA,ww,SG,aq f m hm,aj,aA (h.N m (Pc _) hm),ba (show(f.take m).length+[p].length<=1048576 by simp;omega),ba (show(f.take m++[p]).length+[f[m]!].length<=1048576 by simp;omega),aN]
  rw[aD s1];have k2:=bc (body:=jw) (λi=>(h1,((m+1+i:Nat):Int),f,p.1,p.2.1,p.2.2,f.take m++[p]++(f.drop m).take (i+1))) (hx f- (m+1)) (λi N=>by
   have aci:(f.drop m).take (i+1+1)=(f.drop m).take (i+1)++[f[m+1+i]!]:=by rw[cB (by rw[Mi];omega),Cs];congr 3;omega
   unfold jw;simp (disch:=omega) only[aB,aA,ww,SI,AC,aq,aj,ba (show(f.take m++[p]++(f.drop m).take (i+1)).length+[f[m+1+i]!].length<=1048576 by have:=tl m;simp[YG,PP,Mi,D5,h2]at this ⊢;omega),aN,aci];rw[OH _,show m+1+i+1=m+1+(i+1) by omega])
  have e0:(f.drop m).take (0+1)=[f[m]!]:=by have:=Ny hm;rw[show f.drop m=f[m]!::f.drop _ by rw[getElem!_pos f m hm,List.getElem_cons_drop]];rfl
  rw[e0]at k2;refine(k2).trans (ar ?_);have qa7:(f.drop m).take (hx f- (m+1)+1)=f.drop m:=Mp (by rw[Mi];omega);rw[qa7,show m+1+(hx f- (m+1))=(hx f) by omega];unfold jw wX;simp
 obtain rfl:m=(hx f):=by omega
 refine ar ?_;unfold jw wX;simp (disch:=omega) only[aB,aF,AC,SG,ww,Mq,ba (show(hx f)+[p].length<=1048576 by grind),aj,List.drop_length]
theorem Af{f:J Pt}(bj:aS f)(p:Pt):
 (∃e:Int,e≠0/\lG ⟨f⟩ p=YC (⟨[]⟩,e)/\j8 ⟨f⟩ p=YC (⟨[]⟩,e))\/
 (∃m,X4 f p m/\ ¬dZ f p.1/\gO p/\hx f<64/\lG ⟨f⟩ p=YC (⟨wX f m p⟩,0)/\j8 ⟨f⟩ p=YC (⟨wX f m p⟩,0)):=by
 have f1:=bj.1;have hc:dm ⟨f⟩=YC 0:=by rw[fR];exact congrArg YC (eV.2 bj)
 have JQ:jI ⟨f⟩=YC 0:=by rw[qS];exact congrArg YC (eV.2 bj)
 by_cases po:gO p
 case neg=>
  refine .inl ⟨8,by decide,?_,?_⟩
  ·unfold lG;rw[hc,aj,aY rfl,AC,hM,EQ po];rfl
  unfold j8;rw[JQ,aj,aY rfl,AC,jM,EQ po];rfl
 by_cases hp:dZ f p.1
 ·obtain⟨k,hk,he,e⟩:=akm bj hp
  refine .inl ⟨14,by decide,?_,?_⟩
  ·unfold lG;simp_all[hM,]
  unfold j8;rw[JQ,aj,aY rfl,AC,jM,Do po,aj,aY rfl,AC,Cu bj.2.2 (by omega) hk he,aj,aA (by omega)];rfl
 obtain⟨m,hm,e⟩:=qb3 bj hp
 by_cases full:(hx f)=64
 ·refine .inl ⟨18,by decide,?_,?_⟩
  ·unfold lG;rw[hc,aj,aY rfl,AC,hM,Do po,aj,aY rfl,AC,e,aj,AC]
   grind
  unfold j8;rw[JQ,aj,aY rfl,AC,jM,Do po,aj,aY rfl,AC,Fx bj hp,aj,aF (by decide),AC]
  grind
 have I:(hx f)<64:=by omega
 have hf:(Vf (hx f)==64)=Ss:=by grind
 refine .inr ⟨m,hm,hp,po,I,?_,?_⟩
 ·have N:FY f (m:Int) [p]=YC (wX f m p):=by
   unfold FY;rw[Do ⟨by omega,by have:=hm.le;simpa using this,rfl,by omega⟩];simp[wX]
  unfold lG;rw[hc,aj,aY rfl,AC,hM,Do po,aj,aY rfl,AC,e,aj,AC,hf,AC,bJ (show(hx f)<=1048576 by omega),aj,N,aj]
 unfold j8
 rw[JQ,aj,aY rfl,AC,jM,Do po,aj,aY rfl,AC,Fx bj hp,aj,aF (by decide),AC,hf,AC];exact agZ bj hm I
theorem WD{f:J Pt}(bj:aS f){p:Pt}(po:gO p){k:Nat}(hk:k<hx f)(he:(f[k]!).1=p.1):aS (f.set k p):=by
 refine⟨by rw[Mg];exact bj.1,λq hq=>?_,λi N=>?_⟩
 ·rcases List.mem_or_eq_of_mem_set hq with h|rfl
  ·exact bj.2.1 q h
  exact po
 rw[Mg]at N
 have h:=eW bj.2.2 (show i<i+1 by omega) N
 grind
theorem vP{f:J Pt}(bj:aS f)(p:Pt):
 (∃e:Int,e≠0/\gq ⟨f⟩ p=YC (⟨[]⟩,e)/\gy ⟨f⟩ p=YC (⟨[]⟩,e))\/
 (∃k,k<hx f/\(f[k]!).1=p.1/\gO p/\gq ⟨f⟩ p=YC (⟨f.set k p⟩,0)/\gy ⟨f⟩ p=YC (⟨f.set k p⟩,0)):=by
 have f1:=bj.1;have hc:dm ⟨f⟩=YC 0:=by rw[fR];exact congrArg YC (eV.2 bj)
 have JQ:jI ⟨f⟩=YC 0:=by rw[qS];exact congrArg YC (eV.2 bj)
 by_cases po:gO p
 case neg=>
  refine .inl ⟨8,by decide,?_,?_⟩
  ·unfold gq;rw[hc,aj,aY rfl,AC,hM,EQ po];rfl
  unfold gy;rw[JQ,aj,aY rfl,AC,jM,EQ po];rfl
 by_cases hp:dZ f p.1
 case neg=>
  refine .inl ⟨6,by decide,?_,?_⟩
  ·unfold gq;rw[hc,aj,aY rfl,AC,hM,Do po,aj,aY rfl,AC,abm bj hp];rfl
  unfold gy;rw[JQ,aj,aY rfl,AC,jM,Do po,aj,aY rfl,AC,Fx bj hp];rfl
 obtain⟨k,hk,he⟩:=hp;have pl:=hlc bj hk;rw[he]at pl;refine .inr ⟨k,hk,he,po,?_,?_⟩
 ·unfold gq
  rw[hc,aj,aY rfl,AC,hM,Do po,aj,aY rfl,AC,pl,aj,aY rfl,AC,bJ (show(hx f)<=1048576 by omega),aj,aq f k hk,aj,cA]
 unfold gy oW
 rw[JQ,aj,aY rfl,AC,jM,Do po,aj,aY rfl,AC,Cu bj.2.2 (by omega) hk he,aj,aF (by omega),AC,bJ (show(hx f)<=1048576 by omega),aj,aj,aq f k hk,aj,cA]
noncomputable def lq(f:J Pt)(es:J (Int×Int)):Int:=if¬(∀x∈es,jO x)then 8 else if¬es.Nodup then 14 else if¬(∀x∈es,lK f x)then 6 else 0
def rP(c:aE)(f:J Pt)(es:J (Int×Int))(i:Nat):=
 (es,es,((hx es):Int),(i:Int),c.io.1,c.io.2,c.jp.am,c.af.aO,c.af.ii,c.ae.ai.aC,c.ae.ai.be,c.ae.ai.bi,c.ae.bv,c.ae.ax,c.kw,f,(0:Int),(0:Int),(0:Int))
theorem vQ{c:aE}(ok:aV c){f:J Pt}(bj:aS f){es:J (Int×Int)}(I:(hx es)<=1000){r:aE×Int}(hr:lq f es=0->tY c ⟨f⟩ es=YC r):
 fw c ⟨f⟩ es=YC (if lq f es=0 then r else(cE,lq f es)):=by
 have bd:=ok.bd;have ab:=ok.oH.bd;have sl:=ok.oH.so.fl;have sn:=ok.oH.so.n2;have qe2:=ok.oH.so.ul;have el:KN (((hx es):Int)<((hx es):Int))=Ss:=aF (by omega);have hc:fL c=YC 0:=by rw[iR ok.fit,Do ok]
 have hf:dm ⟨f⟩=YC 0:=by rw[fR];exact congrArg YC (eV.2 bj)
 have tw:zP (aE.mk (c.io.1,c.io.2) (Field.mk c.jp.am) (bA.mk c.af.aO c.af.ii) (aM.mk (bg.mk c.ae.ai.aC c.ae.ai.be c.ae.ai.bi) c.ae.bv c.ae.ax) c.kw)=YC c:=by unfold zP;simp (disch:=omega) only[bJ,aj]
 have k3: ∀e2:aE×Int,au gU (rP c f es 0)=YC (.done e2)->au iQ (rP c f es 0)=YC (if∀i,i<hx es->jO es[i]! then e2 else(cE,8)):=by
  intro e2 S;refine mu (λi=>rP c f es i) (hx es) (λi=>jO es[i]!) (λi N=>?_) ?_
  ·have e1:KN ((i:Int)<((hx es):Int))=h1:=aA (by omega)
   unfold iQ rP jO;simp (disch:=omega) only[e1,aq es i N,aj,aN];generalize es[i]! =x
   by_cases a1:x.1<0
   ·rw[aA a1];exact⟨λ_=>rfl,λh=>by omega⟩
   rw[aF a1]
   by_cases a2:x.2<0
   ·rw[aA a2];exact⟨λ_=>rfl,λh=>by omega⟩
   rw[aF a2]
   by_cases a3:65535<x.1
   ·rw[aA a3];exact⟨λ_=>rfl,λh=>by omega⟩
   rw[aF a3]
   by_cases a4:65535<x.2
   ·rw[aA a4];exact⟨λ_=>rfl,λh=>by omega⟩
   rw[aF a4]
   by_cases a5:x.1=x.2
   ·rw[ju a5];exact⟨λ_=>rfl,λh=>absurd a5 h.2.2.2.2⟩
   rw[hO a5];exact⟨λh=>absurd ⟨by omega,by omega,by omega,by omega,a5⟩ h,λ_=>rfl⟩
  unfold iQ rP
  simp[AC];exact S
 have k2: ∀e1:aE×Int,au jD (rP c f es 0)=YC (.done (.done e1))->au gU (rP c f es 0)=YC (.done (if∀i,i<hx es->es[i]!∉es.take i then e1 else(cE,14))):=by
  intro e0 S;have:=mu (body:=gU) (λi=>rP c f es i) (hx es) (λi=>es[i]!∉es.take i) (λi N=>by
   have e1:KN ((i:Int)<((hx es):Int))=h1:=aA (by omega);unfold gU rP;simp (disch:=omega) only[e1,ww,aq es i N,lJ,aj,nH _ _ (show(es.take i).length<=1000000 by rw[PP];omega),aN]
   by_cases h:es[i]!∈es.take i
   ·rw[aA h];exact⟨λ_=>rfl,λk=>absurd h k⟩
   ·rw[aF h];exact⟨λk=>absurd h k,λ_=>rfl⟩) (by
   unfold gU rP;simp[aB,el,AC];exact S)
  refine this.trans ?_
  by_cases hb: ∀i,i<hx es->es[i]!∉es.take i
  ·rw[Do hb,Do hb]
  rw[EQ hb,EQ hb]
 have Jz: ∀i,i<hx es->(¬lK f es[i]!->jD (rP c f es i)=YC (.done (.done (.done (cE,6)))))/\(lK f es[i]!->jD (rP c f es i)=YC (.next (rP c f es (i+1)))):=by
  intro i N;have e1:KN ((i:Int)<((hx es):Int))=h1:=aA (by omega);obtain⟨p,e,a1,a2⟩:=hx2 bj (es[i]!).1;obtain⟨q,g,b1,b2⟩:=hx2 bj (es[i]!).2;unfold jD rP lK;simp (disch:=omega) only[e1,ww,aq es i N,aj,a1,b1,aN]
  by_cases D:dZ f (es[i]!).1
  ·rw[aY (a2.2 D)]
   by_cases S:dZ f (es[i]!).2
   ·rw[aY (b2.2 S)]
    exact⟨λh=>absurd ⟨D,S⟩ h,λ_=>rfl⟩
   rw[cC (λh=>S (b2.1 h))]
   exact⟨λ_=>rfl,λh=>absurd h.2 S⟩
  rw[cC (λh=>D (a2.1 h))]
  exact⟨λ_=>rfl,λh=>absurd h.1 D⟩
 have start:fw c ⟨f⟩ es=au iQ (rP c f es 0):=by unfold fw;simp[hc,aj,show((0:Int) !=0)=Ss from rfl,AC,hf];rfl
 rw[start]
 by_cases D: ∀x∈es,jO x
 case neg=>
  have er:lq f es=8:=by unfold lq;rw[Do D]
  rw[er,EQ (by omega)];have:=dX (body:=iQ) (λi=>rP c f es i) (hx es) (λi=> ¬jO es[i]!) (r:=(cE,8)) (e:=r);have P5:=k3;rw[Fy]at D;obtain⟨i,h⟩:=YJ.1 D;obtain⟨N,X⟩:=Sv.1 h;obtain⟨m,m1,m2,m3⟩:=least (c:=λi=> ¬jO es[i]!) ⟨i,N,X⟩;have go: ∀j,j<hx es->(¬jO es[j]!->iQ (rP c f es j)=YC (.done (cE,8)))/\(jO es[j]!->iQ (rP c f es j)=YC (.next (rP c f es (j+1)))):=by
   intro j hj;have e1:KN ((j:Int)<((hx es):Int))=h1:=aA (by omega);unfold iQ rP jO;simp (disch:=omega) only[e1,ww,aq es j hj,aj,aN];generalize es[j]! =x
   by_cases a1:x.1<0
   ·rw[aA a1];exact⟨λ_=>rfl,λh=>by omega⟩
   rw[aF a1]
   by_cases a2:x.2<0
   ·rw[aA a2];exact⟨λ_=>rfl,λh=>by omega⟩
   rw[aF a2]
   by_cases a3:65535<x.1
   ·rw[aA a3];exact⟨λ_=>rfl,λh=>by omega⟩
   rw[aF a3]
   by_cases a4:65535<x.2
   ·rw[aA a4];exact⟨λ_=>rfl,λh=>by omega⟩
   rw[aF a4]
   by_cases a5:x.1=x.2
   ·rw[ju a5];exact⟨λ_=>rfl,λh=>absurd a5 h.2.2.2.2⟩
   rw[hO a5];exact⟨λh=>absurd ⟨by omega,by omega,by omega,by omega,a5⟩ h,λ_=>rfl⟩
  rw[bc (λi=>rP c f es i) m λj hj=>(go j (by omega)).2 (Y.1 (m3 j hj))];exact ar ((go m m1).1 m2)
 have Pn:=(Fy).1 D
 by_cases S:es.Nodup
 case neg=>
  have er:lq f es=14:=by unfold lq;rw[EQ (Y.2 D),Do S]
  rw[er,EQ (by omega)];have Vq:=S;rw[afc]at Vq;obtain⟨i,h⟩:=YJ.1 Vq;obtain⟨N,X⟩:=Sv.1 h;obtain⟨m,m1,m2,m3⟩:=least (c:=λi=> ¬es[i]!∉es.take i) ⟨i,N,X⟩;have go: ∀j,j<hx es->(es[j]!∈es.take j->gU (rP c f es j)=YC (.done (.done (cE,14))))/\(es[j]!∉es.take j->gU (rP c f es j)=YC (.next (rP c f es (j+1)))):=by
   intro j hj;have e1:KN ((j:Int)<((hx es):Int))=h1:=aA (by omega);unfold gU rP;simp (disch:=omega) only[e1,ww,aq es j hj,lJ,aj,nH _ _ (show(es.take j).length<=1000000 by rw[PP];omega),aN]
   by_cases h:es[j]!∈es.take j
   ·rw[aA h];exact⟨λ_=>rfl,λk=>absurd h k⟩
   rw[aF h];exact⟨λk=>absurd k h,λ_=>rfl⟩
  have l2:au gU (rP c f es 0)=YC (.done (cE,14)):=by rw[bc (λi=>rP c f es i) m λj hj=>(go j (by omega)).2 (Y.1 (m3 j hj))];exact ar ((go m m1).1 (Y.1 m2))
  rw[k3 _ l2,Do Pn]
 have Vq:=afc.1 S
 by_cases h3: ∀x∈es,lK f x
 case neg=>
  have er:lq f es=6:=by unfold lq;rw[EQ (Y.2 D),EQ (Y.2 S),Do h3]
  rw[er,EQ (by omega)];have ZV:=h3;rw[Fy]at ZV;obtain⟨i,h⟩:=YJ.1 ZV;obtain⟨N,X⟩:=Sv.1 h;obtain⟨m,m1,m2,m3⟩:=least (c:=λi=> ¬lK f es[i]!) ⟨i,N,X⟩;have l1:au jD (rP c f es 0)=YC (.done (.done (cE,6))):=by rw[bc (λi=>rP c f es i) m λj hj=>(Jz j (by omega)).2 (Y.1 (m3 j hj))];exact ar ((Jz m m1).1 m2)
  rw[k3 _ (k2 _ l1),Do Pn,Do Vq]
 have ZV:=(Fy).1 h3;have er:lq f es=0:=by unfold lq;rw[EQ (Y.2 D),EQ (Y.2 S),EQ (Y.2 h3)]
 rw[er,Do rfl];have l1:au jD (rP c f es 0)=YC (.done (.done r)):=by rw[bc (λi=>rP c f es i) (hx es) λj hj=>(Jz j hj).2 (ZV j hj)];refine ar ?_;unfold jD rP;simp[el,AC,tw,aj,hr er]
 grind
theorem zm{l:J Int}{x:Int}(I:(hx l)<=1000000)(X:x∈l): ∃k,k<hx l/\l[k]! =x/\dt l x=YC (k:Int)/\ng l x=YC (k:Int):=by
 obtain⟨k,k1,k2,k3⟩:=least (aU.1 X);have p:=jK (body:=vG) (λi=>(l,x,(i:Int))) (hx l) (λi=>l[i]! =x) (λi=>(i:Int)) (e:= -1) (λi N=>by
  unfold vG;simp (disch:=omega) only[aq l i N,aN]
  grind) (by
  unfold vG;simp)
 exact⟨k,k1,k2,(Jc l x I).1 k k1 k2 k3,p.1 k k1 k2 k3⟩
theorem akn{k:bD}(sh:uu k.lc)(I:(hx k.bv)<=1000000):zI k=YC k:=by unfold zI;rw[DM sh,aj,bJ (by omega),aj]
theorem hLl(l:J Int)(I:(hx l)<=1000):AM l=YC (fT l):=by
 have n:M d5 (((hx l):Int) - (if((hx l):Int)<1 then((hx l):Int)else 1))=((hx l-1:Nat):Int):=by
  split
  ·rw[dN ⟨by omega,by omega⟩];omega
  rw[dN ⟨by omega,by omega⟩];omega
 have key:=bc (body:=qC) (λi=>(l,((hx l-1:Nat):Int),(i:Int),Ab l i)) (hx l-1) (λi N=>by
  have e:M d5 (Int.tdiv (i:Int) 2)=((i / 2:Nat):Int):=by rw[xc (by omega),dN ⟨by omega,by omega⟩];omega
  unfold qC;simp only[aA (show(i:Int)<((hx l-1:Nat):Int) by omega),ww,aN (show i<1000000000 by omega),aq l (i+1) (by omega),e,aq l (i / 2) (by omega),aj];rw[ba (by rw[nJ,IR];omega),aj,<-hap])
 unfold AM;simp[aB,n];rw[show au qC (l,((hx l-1:Nat):Int),0,[])=_ from key];refine ar ?_;unfold qC;simp
theorem HS{f:J Pt}(bj:aS f){t:Int×Int}(r:bI t)(dK:jo t){a b:Int}(ha:dZ f a)(hb:dZ f b)(fk:a≠b):de (bm f a) (bm f b) t=YC (KN (leads (bm f a) (bm f b) t),0):=by
 obtain⟨p1,p2⟩:=bU bj ha;obtain⟨q1,q2⟩:=bU bj hb;have ne:(bm f a).1≠(bm f b).1:=by rw[p2,q2];exact fk
 rcases pE p1 q1 dK r with h|⟨h,_⟩
 ·rw[h,EQ ne]
 omega
theorem htp{f:J Pt}(bj:aS f){t:Int×Int}(dK:jo t){l:J Int}(hp: ∀x∈l,dZ f x)(nd:l.Nodup){i:Nat}(N:i<hx l)(I:(hx l)<=1000):
 vH ⟨f⟩ t l (i:Int)=YC (vO f t (mw f t i l) (we f t i l)):=by
 have pm:=Ad f t i l N;obtain⟨D,S⟩:=Je f t i l N;have le:=pm.length_eq;have Qw:=pm.nodup_iff.2 nd;obtain⟨j,j1,j2,_,j4⟩:=zm (by omega) (pm.mem_iff.2 (aJ N));have ej:j=we f t i l:=by
  rcases WF j _ with h|h|h
  ·exact absurd (j2.trans S.symm) (bO.1 Qw _ _ h (by omega))
  ·exact h
  exact absurd (S.trans j2.symm) (bO.1 Qw _ _ h (by omega))
 unfold vH HI;rw[aq l i N,aj,abl bj dK hp N I,aj,j4,aj,bJ (by omega),aj,ej];rw[agW bj dK (mw f t i l).length _ _ (by omega) (by omega) (by omega) (λx X=>hp x (pm.mem_iff.1 X)) Qw,aj]
def tS(k:bD)(f:J Pt)(m n0 i:Nat)(L:J Int):=
 ((i:Int),k.lc.io.1,k.lc.io.2,k.lc.jp.am,k.lc.af.aO,k.lc.af.ii,k.lc.ae.ai.aC,k.lc.ae.ai.be,k.lc.ae.ai.bi,k.lc.ae.bv,k.lc.ae.ax,k.lc.kw,k.bv,(0:Int),(0:Int),(0:Int),f,L,f,k.lc.io.1,k.lc.io.2,m,n0)
def tJ(k:bD)(f:J Pt)(m n0 i:Nat)(L:J Int)(p q:Pt):=
 ((i:Int),k.lc.io.1,k.lc.io.2,k.lc.jp.am,k.lc.af.aO,k.lc.af.ii,k.lc.ae.ai.aC,k.lc.ae.ai.be,k.lc.ae.ai.bi,k.lc.ae.bv,k.lc.ae.ax,k.lc.kw,k.bv,(0:Int),(0:Int),(0:Int),f,L,f,k.lc.io.1,k.lc.io.2,m,n0,p.1,p.2.1,p.2.2,q)
structure rR(k:bD)(f:List Pt):Prop where
 fI:aV k.lc
 bj:aS f
structure mF(f:List Pt)(m:Nat)(l:List Int):Prop where
 len:(hx l)=m
 small:m<=100
 hp: ∀x∈l,dZ f x
 nd:l.Nodup
theorem tk{l:J Int}{m:Nat}{x:Int}(h:(hx l)=m):(l++[x]).take m=l:=by grind
section
variable {k : bD} {f : J Pt} {m n0 : Nat} {x : Int}
theorem hpp(ok:rR k f){c0:_}{c1:J Int}{l:J Int}(I:mF f m l){i b j:Nat}(N:i<m)(hb:b<m)(hj:j<m)(S:j<=2*i+2)(fk:j≠b):
 nB c0 c1 ((i:Int),(b:Int),(j:Int),(tS k f m n0 i (l++[x])).2)=YC (.next ((i:Int),((if leads (bm f l[j]!) (bm f l[b]!) k.lc.io then j else b:Nat):Int),((j+1:Nat):Int),(tS k f m n0 i (l++[x])).2)):=by
 have hm:=I.len;have m1:=I.small;have e:M d5 (M d5 (2*(i:Int))+2)=((2*i+2:Nat):Int):=by rw[show M d5 _=2*(i:Int)from dN ⟨by omega,by omega⟩,dN ⟨by omega,by omega⟩];omega
 have pj:=I.hp _ (aJ (show j<(hx l) by omega));have pb:=I.hp _ (aJ (show b<(hx l) by omega));have ne:l[j]!≠l[b]!:=λh=>by
  rcases WF j b with q|q|q
  ·exact bO.1 I.nd _ _ q (by omega) h
  ·exact fk q
  exact bO.1 I.nd _ _ q (by omega) h.symm
 have a:=HS ok.bj ok.fI.ie ok.fI.cO pj pb ne;unfold nB tS;simp (disch:=omega) only[tk hm,aq,aj,cz ok.bj pj,cz ok.bj pb,aN]
 grind
theorem alg{c1:J Int}(hc:(hx c1)=m+1){L0:J Int}(h0:(hx L0)=m+1){n1 i0:Nat}{l:J Int}(I:mF f m l){i b j:Nat}(N:i<m)(hb:b<m)(he: ¬(j<=2*i+2/\j<m)):
 nB (tS k f m n1 i0 L0) c1 ((i:Int),(b:Int),(j:Int),(tS k f m n0 i (l++[x])).2)=if b=i then(bC k.lc ⟨f⟩ l).bind λa=>YC (.done (.done (.done a)))else YC (.done (.next (tS k f m n0 b (fH l i b++[x])))):=by
 have hm:=I.len;have m1:=I.small;have e:M d5 (M d5 (2*(i:Int))+2)=((2*i+2:Nat):Int):=by
  grind[dN]
 have qc6:(M d5 (((hx c1):Int)-1)).toNat=m:=by grind[dN]
 have lx:(l++[x]).length=(hx L0):=by grind
 have sa:(l++[x]).set i l[b]! =l.set i l[b]!++[x]:=EE _ _ (by omega);have sb:(l.set i l[b]!++[x]).set b l[i]! =fH l i b++[x]:=EE _ _ (by grind);have t1:(l.set i l[b]!++[x]).take m=l.set i l[b]!:=tk (by grind);have g1:=aq (l.set i l[b]!) b (by grind);have vN:(aE.mk (k.lc.io.1,k.lc.io.2) (Field.mk k.lc.jp.am) (bA.mk k.lc.af.aO k.lc.af.ii) (aM.mk (bg.mk k.lc.ae.ai.aC k.lc.ae.ai.be k.lc.ae.ai.bi) k.lc.ae.bv k.lc.ae.ax) k.lc.kw)=k.lc:=rfl;unfold nB tS
 by_cases D:j<=2*i+2
 ·have S:=λh=>he ⟨D,h⟩
  simp (disch:=omega) only[tk hm,aq,cA,vN]
  grind
 simp (disch:=omega) only[tk hm,aq,cA,vN]
 grind
theorem aqB(ok:rR k f){c1:J Int}(hc:(hx c1)=m+1){L0:J Int}(h0:(hx L0)=m+1){n1 i0:Nat}{l:J Int}(I:mF f m l){i:Nat}(N:i<m){R:J Int->bD×Int}(hR:bC k.lc ⟨f⟩ l=YC (R l)):
 au (nB (tS k f m n1 i0 L0) c1) ((i:Int),(i:Int),((2*i+1:Nat):Int),(tS k f m n0 i (l++[x])).2)=YC (if cH f k.lc.io l i=i then .done (.done (R l))else .next (tS k f m n0 (cH f k.lc.io l i) (fH l i (cH f k.lc.io l i)++[x]))):=by
 have hm:=I.len;have fin: ∀b j:Nat,b<m-> ¬(j<=2*i+2/\j<m)->cH f k.lc.io l i=b->au (nB (tS k f m n1 i0 L0) c1) ((i:Int),(b:Int),(j:Int),(tS k f m n0 i (l++[x])).2)=YC (if cH f k.lc.io l i=i then .done (.done (R l))else .next (tS k f m n0 (cH f k.lc.io l i) (fH l i (cH f k.lc.io l i)++[x]))):=by
  intro b j hb he hk;rw[hk];have:=alg (k:=k) (n0:=n0) (x:=x) hc h0 (n1:=n1) (i0:=i0) I N hb he
  by_cases N7:b=i
  ·rw[Do N7,hR,aj]at this
   rw[Do N7];exact ar this
  rw[EQ N7]at this
  rw[EQ N7];exact ar this
 have kA:iS f k.lc.io l i<m:=by rcases o9 f k.lc.io l i with h|⟨h,S⟩<;>omega
 by_cases D:2*i+1<m
 case neg=>
  have e1:iS f k.lc.io l i=i:=by unfold iS;rw[EQ (λh=>D (by omega))]
  have e2:cH f k.lc.io l i=i:=by unfold cH;rw[EQ (λh=>D (by omega)),e1]
  exact fin i _ N (λh=>D h.2) e2
 rw[aD (hpp ok I N N D (by omega) (by omega))];have eA:(if leads (bm f l[2*i+1]!) (bm f l[i]!) k.lc.io then 2*i+1 else i)=iS f k.lc.io l i:=by
  unfold iS
  by_cases c:leads (bm f l[2*i+1]!) (bm f l[i]!) k.lc.io
  ·rw[Do c,Do ⟨by omega,c⟩]
  rw[EQ c,EQ (λh=>c h.2)]
 rw[eA]
 by_cases S:2*i+1+1<m
 case neg=>
  have e2:cH f k.lc.io l i=iS f k.lc.io l i:=by unfold cH;rw[EQ (λh=>S (by omega))]
  exact fin _ _ kA (λh=>S h.2) e2
 have nk:2*i+1+1≠iS f k.lc.io l i:=by rcases o9 f k.lc.io l i with h|⟨h,_⟩<;>omega
 rw[aD (hpp ok I N kA S (by omega) nk)];have eG:(if leads (bm f l[2*i+1+1]!) (bm f l[iS f k.lc.io l i]!) k.lc.io then 2*i+1+1 else iS f k.lc.io l i)=cH f k.lc.io l i:=by
  unfold cH
  by_cases c:leads (bm f l[2*i+1+1]!) (bm f l[iS f k.lc.io l i]!) k.lc.io
  ·rw[Do c,Do ⟨by omega,c⟩]
  rw[EQ c,EQ (λh=>c h.2)]
 grind
theorem cl2(ok:rR k f){c0:_}{c1:J Int}{l:J Int}(I:mF f m l){i b j:Nat}(N:i<m)(hb:b<m)(hj:j<m)(S:j<=2*i+2)(fk:j≠b){p q:Pt}:
 ny c0 c1 ((i:Int),(b:Int),(j:Int),(tJ k f m n0 i (l++[x]) p q).2)=YC (.next ((i:Int),((if leads (bm f l[j]!) (bm f l[b]!) k.lc.io then j else b:Nat):Int),((j+1:Nat):Int),(tJ k f m n0 i (l++[x]) p q).2)):=by
 have hm:=I.len;have m1:=I.small;have e:M d5 (M d5 (2*(i:Int))+2)=((2*i+2:Nat):Int):=by rw[show M d5 _=2*(i:Int)from dN ⟨by omega,by omega⟩,dN ⟨by omega,by omega⟩];omega
 have pj:=I.hp _ (aJ (show j<(hx l) by omega));have pb:=I.hp _ (aJ (show b<(hx l) by omega));have ne:l[j]!≠l[b]!:=λh=>by
  rcases WF j b with q|q|q
  ·exact bO.1 I.nd _ _ q (by omega) h
  ·exact fk q
  exact bO.1 I.nd _ _ q (by omega) h.symm
 have a:=HS ok.bj ok.fI.ie ok.fI.cO pj pb ne;unfold ny tJ;simp (disch:=omega) only[tk hm,aq,aj,cz ok.bj pj,cz ok.bj pb,aN]
 grind
theorem alh{c1:J Int}(hc:(hx c1)=m+1){L0:J Int}(h0:(hx L0)=m+1){n1 i0:Nat}{l:J Int}(I:mF f m l){i b j:Nat}(N:i<m)(hb:b<m)(he: ¬(j<=2*i+2/\j<m)){p q:Pt}:
 ny (tS k f m n1 i0 L0) c1 ((i:Int),(b:Int),(j:Int),(tJ k f m n0 i (l++[x]) p q).2)=if b=i then(bC k.lc ⟨f⟩ l).bind λa=>YC (.done (.done (.done a)))else YC (.done (.next (tJ k f m n0 b (fH l i b++[x]) p q))):=by
 have hm:=I.len;have m1:=I.small;have e:M d5 (M d5 (2*(i:Int))+2)=((2*i+2:Nat):Int):=by
  grind[dN]
 have qc6:(M d5 (((hx c1):Int)-1)).toNat=m:=by grind[dN]
 have sb:(l.set i l[b]!++[x]).set b l[i]! =fH l i b++[x]:=EE _ _ (by grind);have g1:=aq (l.set i l[b]!) b (by grind);have vN:(aE.mk (k.lc.io.1,k.lc.io.2) (Field.mk k.lc.jp.am) (bA.mk k.lc.af.aO k.lc.af.ii) (aM.mk (bg.mk k.lc.ae.ai.aC k.lc.ae.ai.be k.lc.ae.ai.bi) k.lc.ae.bv k.lc.ae.ax) k.lc.kw)=k.lc:=rfl;unfold ny tS tJ
 by_cases D:j<=2*i+2
 ·have S:=λh=>he ⟨D,h⟩
  simp (disch:=omega) only[tk hm,aq,cA,vN]
  grind
 simp (disch:=omega) only[tk hm,aq,cA,vN]
 grind
theorem aqC(ok:rR k f){c1:J Int}(hc:(hx c1)=m+1){L0:J Int}(h0:(hx L0)=m+1){n1 i0:Nat}{l:J Int}(I:mF f m l){i:Nat}(N:i<m){p q:Pt}{R:J Int->bD×Int}(hR:bC k.lc ⟨f⟩ l=YC (R l)):
 au (ny (tS k f m n1 i0 L0) c1) ((i:Int),(i:Int),((2*i+1:Nat):Int),(tJ k f m n0 i (l++[x]) p q).2)=YC (if cH f k.lc.io l i=i then .done (.done (R l))else .next (tJ k f m n0 (cH f k.lc.io l i) (fH l i (cH f k.lc.io l i)++[x]) p q)):=by
 have hm:=I.len;have fin: ∀b j:Nat,b<m-> ¬(j<=2*i+2/\j<m)->cH f k.lc.io l i=b->au (ny (tS k f m n1 i0 L0) c1) ((i:Int),(b:Int),(j:Int),(tJ k f m n0 i (l++[x]) p q).2)=YC (if cH f k.lc.io l i=i then .done (.done (R l))else .next (tJ k f m n0 (cH f k.lc.io l i) (fH l i (cH f k.lc.io l i)++[x]) p q)):=by
  intro b j hb he hk;rw[hk];have:=alh (k:=k) (n0:=n0) (x:=x) hc h0 (n1:=n1) (i0:=i0) I N hb he (p:=p) (q:=q)
  by_cases N7:b=i
  ·rw[Do N7,hR,aj]at this
   rw[Do N7];exact ar this
  simp_all[ar]
 have kA:iS f k.lc.io l i<m:=by rcases o9 f k.lc.io l i with h|⟨h,S⟩<;>omega
 by_cases D:2*i+1<m
 case neg=>
  have e1:iS f k.lc.io l i=i:=by unfold iS;rw[EQ (λh=>D (by omega))]
  have e2:cH f k.lc.io l i=i:=by unfold cH;rw[EQ (λh=>D (by omega)),e1]
  grind
 rw[aD (cl2 ok I N N D (by omega) (by omega))];have eA:(if leads (bm f l[2*i+1]!) (bm f l[i]!) k.lc.io then 2*i+1 else i)=iS f k.lc.io l i:=by
  unfold iS
  grind
 rw[eA]
 by_cases S:2*i+1+1<m
 case neg=>
  have e2:cH f k.lc.io l i=iS f k.lc.io l i:=by unfold cH;rw[EQ (λh=>S (by omega))]
  grind
 have nk:2*i+1+1≠iS f k.lc.io l i:=by grind
 rw[aD (cl2 ok I N kA S (by omega) nk)];have eG:(if leads (bm f l[2*i+1+1]!) (bm f l[iS f k.lc.io l i]!) k.lc.io then 2*i+1+1 else iS f k.lc.io l i)=cH f k.lc.io l i:=by
  unfold cH
  grind
 rw[eG];exact fin _ (2*i+1+1+1) (by grind) (λh=>by omega) rfl
theorem aqD(ok:rR k f){c1:J Int}(hc:(hx c1)=m+1){L0:J Int}(h0:(hx L0)=m+1){n1 i0:Nat}{R:J Int->bD×Int}{l0:J Int}(hR: ∀l:J Int,l.Perm l0->bC k.lc ⟨f⟩ l=YC (R l)):
 ∀(d:Nat) (l:J Int) (i:Nat),m-i<=d->i<m->mF f m l->l.Perm l0->au (xo (tS k f m n1 i0 L0) c1) (tS k f m n0 i (l++[x]))=YC (.done (R (vO f k.lc.io l i))):=by
 intro d
 induction d with
 |zero=>omega
 |succ d ih=>
  intro l i h N I pm;have hm:=I.len;have m1:=I.small;have e:M d5 (M d5 (2*(i:Int))+1)=((2*i+1:Nat):Int):=by
   grind[dN]
  have g:=aqB (n0:=n0) (x:=x) ok hc h0 (n1:=n1) (i0:=i0) I N (hR l pm);have st:xo (tS k f m n1 i0 L0) c1 (tS k f m n0 i (l++[x]))=YC (if cH f k.lc.io l i=i then .done (.done (R l))else .next (tS k f m n0 (cH f k.lc.io l i) (fH l i (cH f k.lc.io l i)++[x]))):=by unfold xo;rw[show(tS k f m n0 i _).1=(i:Int)from rfl,e];exact g
  by_cases hk:cH f k.lc.io l i=i
  ·simp_all[my,ar]
  rw[EQ hk]at st
  have kc:=qW f k.lc.io l i;have sp:=iz (l:=l) (i:=i) (j:=cH f k.lc.io l i) (by omega) (by omega);rw[aD st,Ae hk];exact ih _ _ (by omega) (by omega) ⟨by rw[gz];exact hm,I.small,λy hy=>I.hp y (sp.mem_iff.1 hy),sp.nodup_iff.2 I.nd⟩ (sp.trans pm)
theorem aqE(ok:rR k f){c1:J Int}(hc:(hx c1)=m+1){L0:J Int}(h0:(hx L0)=m+1){n1 i0:Nat}{p q:Pt}{R:J Int->bD×Int}{l0:J Int}(hR: ∀l:J Int,l.Perm l0->bC k.lc ⟨f⟩ l=YC (R l)):
 ∀(d:Nat) (l:J Int) (i:Nat),m-i<=d->i<m->mF f m l->l.Perm l0->au (xn (tS k f m n1 i0 L0) c1) (tJ k f m n0 i (l++[x]) p q)=YC (.done (R (vO f k.lc.io l i))):=by
 intro d
 induction d with
 |zero=>omega
 |succ d ih=>
  intro l i h N I pm;have hm:=I.len;have m1:=I.small;have e:M d5 (M d5 (2*(i:Int))+1)=((2*i+1:Nat):Int):=by
   grind[dN]
  have g:=aqC (n0:=n0) (x:=x) ok hc h0 (n1:=n1) (i0:=i0) I N (p:=p) (q:=q) (hR l pm);have st:xn (tS k f m n1 i0 L0) c1 (tJ k f m n0 i (l++[x]) p q)=YC (if cH f k.lc.io l i=i then .done (.done (R l))else .next (tJ k f m n0 (cH f k.lc.io l i) (fH l i (cH f k.lc.io l i)++[x]) p q)):=by unfold xn;rw[show(tJ k f m n0 i _ p q).1=(i:Int)from rfl,e];exact g
  by_cases hk:cH f k.lc.io l i=i
  ·simp_all[my,ar]
  rw[EQ hk]at st
  have kc:=qW f k.lc.io l i;have sp:=iz (l:=l) (i:=i) (j:=cH f k.lc.io l i) (by omega) (by omega);rw[aD st,Ae hk];exact ih _ _ (by omega) (by omega) ⟨by rw[gz];exact hm,I.small,λy hy=>I.hp y (sp.mem_iff.1 hy),sp.nodup_iff.2 I.nd⟩ (sp.trans pm)
theorem aqF(ok:rR k f){c0:J Int}(hc:(hx c0)=m+1){c1:Nat}{c2:Int}{R:J Int->bD×Int}{l0:J Int}(hR: ∀l:J Int,l.Perm l0->bC k.lc ⟨f⟩ l=YC (R l)):
 ∀(i:Nat) (l:J Int),i<m->mF f m l->l.Perm l0->au (rX c0 (c1:Int) c2) (tS k f m n0 i (l++[x]))=YC (R (vO f k.lc.io (mw f k.lc.io i l) (we f k.lc.io i l))):=by
 intro i
 induction i using YH with
 |ind i ih=>
  intro l N I pm;have hm:=I.len;have m1:=I.small;have lx:(l++[x]).length=m+1:=by grind
  have sl:(bu c0 (c1:Int) c2).length=m+1:=by simp_all
  cases i with
  |zero=>have g:=aqD (n0:=n0) (x:=x) ok hc lx (n1:=n0) (i0:=0) hR m l 0 (by omega) N I pm;unfold mw we;refine ar ?_;unfold rX;rw[show(tS k f m n0 0 (l++[x])).1=0 from rfl,aF (by omega),AC];rw[show(tS k f m n0 0 (l++[x])).2.2.2.2.2.2.2.2.2.2.2.2.2.2.2.2.2.1=l++[x]from rfl,lx,sl,beq_self_eq_true,ww];exact g
  |succ i=>
   have hu:=LW (i:=i+1) (by omega) (by omega);rw[show(i+1-1) / 2=i / 2 from rfl]at hu;have pi:=I.hp _ (aJ (show i+1<(hx l) by omega));have pj:=I.hp _ (aJ (show i / 2<(hx l) by omega));have ne:l[i+1]!≠l[i / 2]!:=λh=>bO.1 I.nd (i / 2) (i+1) (by omega) (by omega) h.symm
   have a:=HS ok.bj ok.fI.ie ok.fI.cO pi pj ne;have g1:=aq l (i+1) (by omega);have g2:=aq l (i / 2) (by omega);have sa:(l++[x]).set (i+1) l[i / 2]! =l.set (i+1) l[i / 2]!++[x]:=EE _ _ (by omega);have sb:(l.set (i+1) l[i / 2]!++[x]).set (i / 2) l[i+1]! =fH l (i+1) (i / 2)++[x]:=EE _ _ (by grind);have t1:(l.set (i+1) l[i / 2]!++[x]).take m=l.set (i+1) l[i / 2]!:=tk (by grind);have g3:=aq (l.set (i+1) l[i / 2]!) (i / 2) (by grind);unfold mw we
   by_cases c:leads (bm f l[i+1]!) (bm f l[i / 2]!) k.lc.io
   ·rw[Do c,Do c]
    rw[aA c]at a;have sp:=iz (l:=l) (i:=i+1) (j:=i / 2) (by omega) (by omega);rw[aD (y:=tS k f m n0 (i / 2) (fH l (i+1) (i / 2)++[x])) (by unfold rX tS;simp (disch:=omega) only[aA,ww,tk hm,g1,g2,aj,hu,cz ok.bj pi,cz ok.bj pj,a,beq_self_eq_true,cA,sa,sb,t1,g3])];exact ih (i / 2) (by omega) _ (by omega) ⟨by rw[gz];exact hm,I.small,λy hy=>I.hp y (sp.mem_iff.1 hy),sp.nodup_iff.2 I.nd⟩ (sp.trans pm)
   rw[EQ c,EQ c]
   rw[aF c]at a;have g:=aqE (n0:=n0) (x:=x) ok hc lx (n1:=n0) (i0:=i+1) (p:=bm f l[i+1]!) (q:=bm f l[i / 2]!) hR m l (i+1) (by omega) N I pm;refine ar ?_;unfold rX
   conv=>lhs;unfold tS
   simp (disch:=omega) only[aA,ww,tk hm,g1,g2,aj,hu,cz ok.bj pi,cz ok.bj pj,a,beq_self_eq_true,AC,lx,sl];exact g
end
def uS(k:bD)(P:Pt)(f:J Pt)(i:Nat)(L:J Int):=
 ((i:Int),k.lc.io.1,k.lc.io.2,k.lc.jp.am,k.lc.af.aO,k.lc.af.ii,k.lc.ae.ai.aC,k.lc.ae.ai.be,k.lc.ae.ai.bi,k.lc.ae.bv,k.lc.ae.ax,k.lc.kw,k.bv,P.1,P.2.1,P.2.2,(0:Int),(0:Int),(0:Int),f,L,f,k.lc.io.1,k.lc.io.2)
def uJ(k:bD)(P:Pt)(f:J Pt)(i:Nat)(L:J Int)(p q:Pt):=
 ((i:Int),k.lc.io.1,k.lc.io.2,k.lc.jp.am,k.lc.af.aO,k.lc.af.ii,k.lc.ae.ai.aC,k.lc.ae.ai.be,k.lc.ae.ai.bi,k.lc.ae.bv,k.lc.ae.ax,k.lc.kw,k.bv,P.1,P.2.1,P.2.2,(0:Int),(0:Int),(0:Int),f,L,f,k.lc.io.1,k.lc.io.2,p.1,p.2.1,p.2.2,q)
section
variable {k : bD} {P : Pt} {f : J Pt} {m : Nat}
theorem hy1(ok:rR k f){c0:_}{l:J Int}(I:mF f m l){i b j:Nat}(N:i<m)(hb:b<m)(hj:j<m)(S:j<=2*i+2)(fk:j≠b):
 kE c0 ((i:Int),(b:Int),(j:Int),(uS k P f i l).2)=YC (.next ((i:Int),((if leads (bm f l[j]!) (bm f l[b]!) k.lc.io then j else b:Nat):Int),((j+1:Nat):Int),(uS k P f i l).2)):=by
 have hm:=I.len;have m1:=I.small;have e:M d5 (M d5 (2*(i:Int))+2)=((2*i+2:Nat):Int):=by rw[show M d5 _=2*(i:Int)from dN ⟨by omega,by omega⟩,dN ⟨by omega,by omega⟩];omega
 have pj:=I.hp _ (aJ (show j<(hx l) by omega));have pb:=I.hp _ (aJ (show b<(hx l) by omega));have ne:l[j]!≠l[b]!:=λh=>by
  rcases WF j b with q|q|q
  ·exact bO.1 I.nd _ _ q (by omega) h
  ·exact fk q
  exact bO.1 I.nd _ _ q (by omega) h.symm
 have a:=HS ok.bj ok.fI.ie ok.fI.cO pj pb ne;unfold kE uS;simp (disch:=omega) only[aq,aj,cz ok.bj pj,cz ok.bj pb,aN]
 grind
theorem ali{L0:J Int}(h0:(hx L0)=m){i0:Nat}{l:J Int}(I:mF f m l){i b j:Nat}(N:i<m)(hb:b<m)(he: ¬(j<=2*i+2/\j<m)):
 kE (uS k P f i0 L0) ((i:Int),(b:Int),(j:Int),(uS k P f i l).2)=if b=i then(bC k.lc ⟨f⟩ l).bind λa=>YC (.done (.done (.done a)))else YC (.done (.next (uS k P f b (fH l i b)))):=by
 have hm:=I.len;have m1:=I.small;have e:M d5 (M d5 (2*(i:Int))+2)=((2*i+2:Nat):Int):=by
  grind[dN]
 have g1:=aq (l.set i l[b]!) b (by grind);have vN:(aE.mk _ _ _ _ k.lc.kw)=k.lc:=rfl;unfold kE uS
 by_cases D:j<=2*i+2
 ·have S:=λh=>he ⟨D,h⟩
  simp (disch:=omega) only[aB,aA,aF,aq,aj,cA,g1,vN]
  by_cases N7:b=i
  ·grind
  rw[EQ N7,hO (by omega),AC];rfl
 simp (disch:=omega) only[aF,aq,aj,cA,g1,vN]
 by_cases N7:b=i
 ·grind
 rw[EQ N7,hO (by omega),AC];rfl
theorem aqG(ok:rR k f){L0:J Int}(h0:(hx L0)=m){i0:Nat}{l:J Int}(I:mF f m l){i:Nat}(N:i<m){R:J Int->bD×Int}(hR:bC k.lc ⟨f⟩ l=YC (R l)):
 au (kE (uS k P f i0 L0)) ((i:Int),(i:Int),((2*i+1:Nat):Int),(uS k P f i l).2)=YC (if cH f k.lc.io l i=i then .done (.done (R l))else .next (uS k P f (cH f k.lc.io l i) (fH l i (cH f k.lc.io l i)))):=by
 have hm:=I.len;have fin: ∀b j:Nat,b<m-> ¬(j<=2*i+2/\j<m)->cH f k.lc.io l i=b->au (kE (uS k P f i0 L0)) ((i:Int),(b:Int),(j:Int),(uS k P f i l).2)=YC (if cH f k.lc.io l i=i then .done (.done (R l))else .next (uS k P f (cH f k.lc.io l i) (fH l i (cH f k.lc.io l i)))):=by
  intro b j hb he hk;rw[hk];have:=ali (k:=k) (P:=P) h0 (i0:=i0) I N hb he
  by_cases N7:b=i
  ·rw[Do N7,hR,aj]at this
   rw[Do N7];exact ar this
  simp_all[ar]
 have kA:iS f k.lc.io l i<m:=by grind[o9]
 by_cases D:2*i+1<m
 case neg=>
  have e1:iS f k.lc.io l i=i:=by unfold iS;rw[EQ (λh=>D (by omega))]
  have e2:cH f k.lc.io l i=i:=by unfold cH;rw[EQ (λh=>D (by omega)),e1]
  grind
 rw[aD (hy1 ok I N N D (by omega) (by omega))];have eA:(if leads (bm f l[2*i+1]!) (bm f l[i]!) k.lc.io then 2*i+1 else i)=iS f k.lc.io l i:=by
  unfold iS
  grind
 rw[eA]
 by_cases S:2*i+1+1<m
 case neg=>
  have e2:cH f k.lc.io l i=iS f k.lc.io l i:=by unfold cH;rw[EQ (λh=>S (by omega))]
  grind
 have nk:2*i+1+1≠iS f k.lc.io l i:=by grind
 rw[aD (hy1 ok I N kA S (by omega) nk)];have eG:(if leads (bm f l[2*i+1+1]!) (bm f l[iS f k.lc.io l i]!) k.lc.io then 2*i+1+1 else iS f k.lc.io l i)=cH f k.lc.io l i:=by
  unfold cH
  grind
 rw[eG];exact fin _ (2*i+1+1+1) (by grind) (λh=>by omega) rfl
theorem vs1(ok:rR k f){c0:_}{l:J Int}(I:mF f m l){i b j:Nat}(N:i<m)(hb:b<m)(hj:j<m)(S:j<=2*i+2)(fk:j≠b){p q:Pt}:
 kD c0 ((i:Int),(b:Int),(j:Int),(uJ k P f i l p q).2)=YC (.next ((i:Int),((if leads (bm f l[j]!) (bm f l[b]!) k.lc.io then j else b:Nat):Int),((j+1:Nat):Int),(uJ k P f i l p q).2)):=by
 have hm:=I.len;have m1:=I.small;have e:M d5 (M d5 (2*(i:Int))+2)=((2*i+2:Nat):Int):=by rw[show M d5 _=2*(i:Int)from dN ⟨by omega,by omega⟩,dN ⟨by omega,by omega⟩];omega
 have pj:=I.hp _ (aJ (show j<(hx l) by omega));have pb:=I.hp _ (aJ (show b<(hx l) by omega));have ne:l[j]!≠l[b]!:=λh=>by
  rcases WF j b with q|q|q
  ·exact bO.1 I.nd _ _ q (by omega) h
  ·exact fk q
  exact bO.1 I.nd _ _ q (by omega) h.symm
 have a:=HS ok.bj ok.fI.ie ok.fI.cO pj pb ne;unfold kD uJ;simp (disch:=omega) only[aq,aj,cz ok.bj pj,cz ok.bj pb,aN]
 grind
theorem alj{L0:J Int}(h0:(hx L0)=m){i0:Nat}{l:J Int}(I:mF f m l){i b j:Nat}(N:i<m)(hb:b<m)(he: ¬(j<=2*i+2/\j<m)){p q:Pt}:
 kD (uS k P f i0 L0) ((i:Int),(b:Int),(j:Int),(uJ k P f i l p q).2)=if b=i then(bC k.lc ⟨f⟩ l).bind λa=>YC (.done (.done (.done a)))else YC (.done (.next (uJ k P f b (fH l i b) p q))):=by
 have hm:=I.len;have m1:=I.small;have e:M d5 (M d5 (2*(i:Int))+2)=((2*i+2:Nat):Int):=by
  grind[dN]
 have g1:=aq (l.set i l[b]!) b (by grind);have vN:(aE.mk _ _ _ _ k.lc.kw)=k.lc:=rfl;unfold kD uS uJ
 by_cases D:j<=2*i+2
 ·have S:=λh=>he ⟨D,h⟩
  simp (disch:=omega) only[aB,aA,aF,aq,aj,cA,g1,vN]
  by_cases N7:b=i
  ·grind
  rw[EQ N7,hO (by omega),AC];rfl
 simp (disch:=omega) only[aF,aq,aj,cA,g1,vN]
 by_cases N7:b=i
 ·grind
 rw[EQ N7,hO (by omega),AC];rfl
theorem aqH(ok:rR k f){L0:J Int}(h0:(hx L0)=m){i0:Nat}{l:J Int}(I:mF f m l){i:Nat}(N:i<m){p q:Pt}{R:J Int->bD×Int}(hR:bC k.lc ⟨f⟩ l=YC (R l)):
 au (kD (uS k P f i0 L0)) ((i:Int),(i:Int),((2*i+1:Nat):Int),(uJ k P f i l p q).2)=YC (if cH f k.lc.io l i=i then .done (.done (R l))else .next (uJ k P f (cH f k.lc.io l i) (fH l i (cH f k.lc.io l i)) p q)):=by
 have hm:=I.len;have fin: ∀b j:Nat,b<m-> ¬(j<=2*i+2/\j<m)->cH f k.lc.io l i=b->au (kD (uS k P f i0 L0)) ((i:Int),(b:Int),(j:Int),(uJ k P f i l p q).2)=YC (if cH f k.lc.io l i=i then .done (.done (R l))else .next (uJ k P f (cH f k.lc.io l i) (fH l i (cH f k.lc.io l i)) p q)):=by
  intro b j hb he hk;rw[hk];have:=alj (k:=k) (P:=P) h0 (i0:=i0) I N hb he (p:=p) (q:=q)
  by_cases N7:b=i
  ·rw[Do N7,hR,aj]at this
   rw[Do N7];exact ar this
  simp_all[EQ,ar]
 have kA:iS f k.lc.io l i<m:=by rcases o9 f k.lc.io l i with h|⟨h,S⟩<;>omega
 by_cases D:2*i+1<m
 case neg=>
  have e1:iS f k.lc.io l i=i:=by unfold iS;rw[EQ (λh=>D (by omega))]
  have e2:cH f k.lc.io l i=i:=by unfold cH;rw[EQ (λh=>D (by omega)),e1]
  grind
 rw[aD (vs1 ok I N N D (by omega) (by omega) (p:=p) (q:=q))];have eA:(if leads (bm f l[2*i+1]!) (bm f l[i]!) k.lc.io then 2*i+1 else i)=iS f k.lc.io l i:=by
  unfold iS
  grind
 rw[eA]
 by_cases S:2*i+1+1<m
 case neg=>
  have e2:cH f k.lc.io l i=iS f k.lc.io l i:=by unfold cH;rw[EQ (λh=>S (by omega))]
  grind
 have nk:2*i+1+1≠iS f k.lc.io l i:=by grind
 rw[aD (vs1 ok I N kA S (by omega) nk (p:=p) (q:=q))];have eG:(if leads (bm f l[2*i+1+1]!) (bm f l[iS f k.lc.io l i]!) k.lc.io then 2*i+1+1 else iS f k.lc.io l i)=cH f k.lc.io l i:=by
  unfold cH
  grind
 rw[eG];exact fin _ (2*i+1+1+1) (by rw[<-eG];split<;>omega) (λh=>by omega) rfl
theorem aqI(ok:rR k f){L0:J Int}(h0:(hx L0)=m){i0:Nat}{R:J Int->bD×Int}{l0:J Int}(hR: ∀l:J Int,l.Perm l0->bC k.lc ⟨f⟩ l=YC (R l)):
 ∀(d:Nat) (l:J Int) (i:Nat),m-i<=d->i<m->mF f m l->l.Perm l0->au (sB (uS k P f i0 L0)) (uS k P f i l)=YC (.done (R (vO f k.lc.io l i))):=by
 intro d
 induction d with
 |zero=>omega
 |succ d ih=>
  intro l i h N I pm;have hm:=I.len;have m1:=I.small;have e:M d5 (M d5 (2*(i:Int))+1)=((2*i+1:Nat):Int):=by
   grind[dN]
  have g:=aqG (P:=P) ok h0 (i0:=i0) I N (hR l pm);have st:sB (uS k P f i0 L0) (uS k P f i l)=YC (if cH f k.lc.io l i=i then .done (.done (R l))else .next (uS k P f (cH f k.lc.io l i) (fH l i (cH f k.lc.io l i)))):=by unfold sB;rw[show(uS k P f i l).1=(i:Int)from rfl,e];exact g
  by_cases hk:cH f k.lc.io l i=i
  ·simp_all[my,ar]
  rw[EQ hk]at st
  have kc:=qW f k.lc.io l i;have sp:=iz (l:=l) (i:=i) (j:=cH f k.lc.io l i) (by omega) (by omega);rw[aD st,Ae hk];exact ih _ _ (by omega) (by omega) ⟨by rw[gz];exact hm,I.small,λy hy=>I.hp y (sp.mem_iff.1 hy),sp.nodup_iff.2 I.nd⟩ (sp.trans pm)
theorem aqJ(ok:rR k f){L0:J Int}(h0:(hx L0)=m){i0:Nat}{p q:Pt}{R:J Int->bD×Int}{l0:J Int}(hR: ∀l:J Int,l.Perm l0->bC k.lc ⟨f⟩ l=YC (R l)):
 ∀(d:Nat) (l:J Int) (i:Nat),m-i<=d->i<m->mF f m l->l.Perm l0->au (sA (uS k P f i0 L0)) (uJ k P f i l p q)=YC (.done (R (vO f k.lc.io l i))):=by
 intro d
 induction d with
 |zero=>omega
 |succ d ih=>
  intro l i h N I pm;have hm:=I.len;have m1:=I.small;have e:M d5 (M d5 (2*(i:Int))+1)=((2*i+1:Nat):Int):=by
   grind[dN]
  have g:=aqH (k:=k) (P:=P) ok h0 (i0:=i0) I N (p:=p) (q:=q) (hR l pm);have st:sA (uS k P f i0 L0) (uJ k P f i l p q)=YC (if cH f k.lc.io l i=i then .done (.done (R l))else .next (uJ k P f (cH f k.lc.io l i) (fH l i (cH f k.lc.io l i)) p q)):=by unfold sA;rw[show(uJ k P f i l p q).1=(i:Int)from rfl,e];exact g
  by_cases hk:cH f k.lc.io l i=i
  ·rw[Do hk]at st
   rw[my hk];exact ar st
  rw[EQ hk]at st
  have kc:=qW f k.lc.io l i;have sp:=iz (l:=l) (i:=i) (j:=cH f k.lc.io l i) (by omega) (by omega);rw[aD st,Ae hk];exact ih _ _ (by omega) (by omega) ⟨by rw[gz];exact hm,I.small,λy hy=>I.hp y (sp.mem_iff.1 hy),sp.nodup_iff.2 I.nd⟩ (sp.trans pm)
theorem aqK(ok:rR k f){c0:J Int}(hc:(hx c0)=m){R:J Int->bD×Int}{l0:J Int}(hR: ∀l:J Int,l.Perm l0->bC k.lc ⟨f⟩ l=YC (R l)):
 ∀(i:Nat) (l:J Int),i<m->mF f m l->l.Perm l0->au (pC c0) (uS k P f i l)=YC (R (vO f k.lc.io (mw f k.lc.io i l) (we f k.lc.io i l))):=by
 intro i
 induction i using YH with
 |ind i ih=>
  intro l N I pm;have hm:=I.len;have m1:=I.small;have lx:=hm;cases i with
  |zero=>have g:=aqI (P:=P) ok lx (i0:=0) hR m l 0 (by omega) N I pm;unfold mw we;refine ar ?_;unfold pC;rw[show(uS k P f 0 l).2.2.2.2.2.2.2.2.2.2.2.2.2.2.2.2.2.2.2.2.1=l from rfl,lx,hc,beq_self_eq_true,ww];exact g
  |succ i=>
   have hu:=LW (i:=i+1) (by omega) (by omega);rw[show(i+1-1) / 2=i / 2 from rfl]at hu;have pi:=I.hp _ (aJ (show i+1<(hx l) by omega));have pj:=I.hp _ (aJ (show i / 2<(hx l) by omega));have ne:l[i+1]!≠l[i / 2]!:=λh=>bO.1 I.nd (i / 2) (i+1) (by omega) (by omega) h.symm
   have a:=HS ok.bj ok.fI.ie ok.fI.cO pi pj ne;have g1:=aq l (i+1) (by omega);have g2:=aq l (i / 2) (by omega);have g3:=aq (l.set (i+1) l[i / 2]!) (i / 2) (by grind);unfold mw we
   by_cases c:leads (bm f l[i+1]!) (bm f l[i / 2]!) k.lc.io
   ·rw[Do c,Do c]
    rw[aA c]at a;have sp:=iz (l:=l) (i:=i+1) (j:=i / 2) (by omega) (by omega);rw[aD (y:=uS k P f (i / 2) (fH l (i+1) (i / 2))) (by unfold pC uS;simp (disch:=omega) only[aA,g1,g2,aj,hu,cz ok.bj pi,cz ok.bj pj,a,beq_self_eq_true,cA,g3];rfl)];exact ih (i / 2) (by omega) _ (by omega) ⟨by rw[gz];exact hm,I.small,λy hy=>I.hp y (sp.mem_iff.1 hy),sp.nodup_iff.2 I.nd⟩ (sp.trans pm)
   rw[EQ c,EQ c]
   rw[aF c]at a;have g:=aqJ (P:=P) ok lx (i0:=i+1) (p:=bm f l[i+1]!) (q:=bm f l[i / 2]!) hR m l (i+1) (by omega) N I pm;refine ar ?_;unfold pC
   conv=>lhs;unfold uS
   simp (disch:=omega) only[aA,g1,g2,aj,hu,cz ok.bj pi,cz ok.bj pj,a,beq_self_eq_true,lx,hc];exact g
end
def vS(k:bD)(P:Pt)(f:J Pt)(i:Nat)(L:J Int):=
 ((i:Int),k.lc.io.1,k.lc.io.2,k.lc.jp.am,k.lc.af.aO,k.lc.af.ii,k.lc.ae.ai.aC,k.lc.ae.ai.be,k.lc.ae.ai.bi,k.lc.ae.bv,k.lc.ae.ax,k.lc.kw,k.bv,P.1,P.2.1,P.2.2,(0:Int),(0:Int),(0:Int),f,[P.1],L,f,k.lc.io.1,k.lc.io.2)
theorem aqL{k:bD}{P:Pt}{f:J Pt}{m:Nat}(ok:rR k f){c0:Pt}{c1:J Int}(hc:(hx c1)=m){R:J Int->bD×Int}{l0:J Int}(hR: ∀l:J Int,l.Perm l0->bC k.lc ⟨f⟩ l=YC (R l)):
 ∀(i:Nat) (l:J Int),i<m->mF f m l->l.Perm l0->au (u9 c0 c1) (vS k P f i l)=YC (R (mw f k.lc.io i l)):=by
 intro i
 induction i using YH with
 |ind i ih=>
  intro l N I pm;have hm:=I.len;have m1:=I.small;have lx:=hm;cases i with
  |zero=>unfold mw;refine ar ?_;unfold u9 vS;simp_all
  |succ i=>
   have hu:=LW (i:=i+1) (by omega) (by omega);rw[show(i+1-1) / 2=i / 2 from rfl]at hu;have pi:=I.hp _ (aJ (show i+1<(hx l) by omega));have pj:=I.hp _ (aJ (show i / 2<(hx l) by omega));have ne:l[i+1]!≠l[i / 2]!:=λh=>bO.1 I.nd (i / 2) (i+1) (by omega) (by omega) h.symm
   have a:=HS ok.bj ok.fI.ie ok.fI.cO pi pj ne;have g1:=aq l (i+1) (by omega);have g2:=aq l (i / 2) (by omega);have g3:=aq (l.set (i+1) l[i / 2]!) (i / 2) (by grind);unfold mw
   by_cases c:leads (bm f l[i+1]!) (bm f l[i / 2]!) k.lc.io
   ·rw[Do c]
    rw[aA c]at a;have sp:=iz (l:=l) (i:=i+1) (j:=i / 2) (by omega) (by omega);rw[aD (y:=vS k P f (i / 2) (fH l (i+1) (i / 2))) (by unfold u9 vS;simp only[aA (show(0:Int)<((i+1:Nat):Int) by omega),g1,g2,aj,hu,cz ok.bj pi,cz ok.bj pj,a,beq_self_eq_true,cA,g3];rfl)];exact ih (i / 2) (by omega) _ (by omega) ⟨by rw[gz];exact hm,I.small,λy hy=>I.hp y (sp.mem_iff.1 hy),sp.nodup_iff.2 I.nd⟩ (sp.trans pm)
   rw[EQ c]
   rw[aF c]at a;refine ar ?_;unfold u9 vS;simp only[aA (show(0:Int)<((i+1:Nat):Int) by omega),ww,g1,g2,aj,hu,cz ok.bj pi,cz ok.bj pj,a,beq_self_eq_true,AC,IR,lx,hc,hR l pm]
end Go.Proofs.YtbelikaakgedaaaGreat
namespace Go.Proofs.YtbelikaakgedaaaGreat
open Go.Vm
abbrev Nd:=Int×Int×Int
structure Ec(P:Nat->Nat->Prop)(a b i:Nat):Prop where
 lo:a<=i
 N:i<b
 top: ∀j,a<=j->j<b->j≠i->P i j
inductive pF(P:Nat->Nat->Prop)(UV:List Nd):Nat->Nat->Int->Prop
 |nil{a b:Nat}(h:b<=a):pF P UV a b (-1)
 |node{a b i:Nat}(h:Ec P a b i)(l:pF P UV a i (UV[i]!).2.1)(r:pF P UV (i+1) b (UV[i]!).2.2):pF P UV a b (i:Int)
structure Kn(P:Nat->Nat->Prop)(n:Nat):Prop where
 tr: ∀i j k,i<n->j<n->k<n->P i j->P j k->P i k
 Lm: ∀i j,i<n->j<n->P i j-> ¬P j i
 Vr: ∀i j,i<n->j<n->i≠j-> ¬P i j->P j i
theorem Ec.one{P:Nat->Nat->Prop}{n a b i j:Nat}(o:Kn P n)(hb:b<=n)(h:Ec P a b i)(k:Ec P a b j):i=j:=by
 refine KJ λfk=>?_
 have:=h.N;have:=k.N;exact o.Lm i j (by omega) (by omega) (h.top j k.lo k.N (λe=>fk e.symm)) (k.top i h.lo h.N fk)
theorem pF.link{P:Nat->Nat->Prop}{UV:J Nd}{a b:Nat}{r:Int}(h:pF P UV a b r):(b<=a/\r= -1)\/(∃i:Nat,r=(i:Int)/\a<=i/\i<b):=by
 cases h with
 |nil h=>omega
 |node h l r=>exact .inr ⟨_,rfl,h.lo,h.N⟩
theorem pF.unique{P:Nat->Nat->Prop}{n:Nat}(o:Kn P n){UV N':J Nd}{a b:Nat}{r:Int}(h:pF P UV a b r): ∀{r':Int},b<=n->pF P N' a b r'->r=r'/\ ∀k,a<=k->k<b->(UV[k]!).2=(N'[k]!).2:=by
 induction h with
 |nil h=>
  intro r' hb h';cases h' with
  |nil _=>grind
  |node t _ _=>have:=t.lo;have:=t.N;omega
 | @node a b i h l r PG Zq=>
  intro r' hb h';have lo:=h.lo;have N:=h.N;cases h' with
  |nil q=>omega
  | @node _ _ j t l' r'=>
   have e:=h.one o hb t
   grind
theorem pF.frame{P:Nat->Nat->Prop}{UV N':J Nd}{a b:Nat}{r:Int}(h:pF P UV a b r):(∀k,a<=k->k<b->(UV[k]!).2=(N'[k]!).2)->pF P N' a b r:=by
 induction h with
 |nil h=>exact λ_=> .nil h
 | @node a b i h l r PG Zq=>
  intro f;have lo:=h.lo;have N:=h.N;have e:=f i lo N;refine .node h ?_ ?_
  ·rw[<-e];exact PG λk D S=>f k D (by omega)
  grind
theorem pF.other{P Q:Nat->Nat->Prop}{n:Nat}(o:Kn Q n){UV:J Nd}{a b:Nat}{r:Int}(h:pF P UV a b r):b<=n->(∀k j:Nat,a<=k->k<b->a<=j->j<b->((UV[k]!).2.1=(j:Int)\/(UV[k]!).2.2=(j:Int))->Q k j)->pF Q UV a b r:=by
 induction h with
 |nil h=>exact λ_ _=> .nil h
 | @node a b i h l r PG Zq=>
  intro hb q;have lo:=h.lo;have N:=h.N;have tl:=PG (by omega) λk j D S h3 h4=>q k j D (by omega) h3 (by omega)
  have tr:=Zq hb λk j D S h3 h4=>q k j (by omega) S (by omega) h4
  refine .node ⟨lo,N,λj D S fk=>?_⟩ tl tr;rcases SN j i with hj|hj
  ·generalize hr:(UV[i]!).2.1=s at tl
   cases tl with
   |nil q=>omega
   | @node _ _ m t _ _=>
    have t1:=t.lo;have t2:=t.N;have qm:=q i m lo N t1 (by omega) (.inl hr)
    by_cases e:j=m
    ·rw[e];exact qm
    exact o.tr i m j (by omega) (by omega) (by omega) qm (t.top j D hj e)
  generalize hr:(UV[i]!).2.2=s at tr
  cases tr with
  |nil q=>omega
  | @node _ _ m t _ _=>
   have t1:=t.lo;have t2:=t.N;have qm:=q i m lo N (by omega) t2 (.inr hr)
   by_cases e:j=m
   ·rw[e];exact qm
   exact o.tr i m j (by omega) (by omega) (by omega) qm (t.top j (by omega) S e)
theorem pF.kids{P:Nat->Nat->Prop}{UV:J Nd}{a b:Nat}{r:Int}(h:pF P UV a b r): ∀k,a<=k->k<b-> ∀c:Int,((UV[k]!).2.1=c\/(UV[k]!).2.2=c)->c= -1\/ ∃j:Nat,c=(j:Int)/\a<=j/\j<b/\j≠k/\P k j/\r≠c:=by
 induction h with
 |nil h=>omega
 | @node a b i h l r PG Zq=>
  have lo:=h.lo;have N:=h.N;intro k D S c hc;rcases WF k i with q|q|q
  ·rcases PG k D q c hc with e|⟨j,e,j1,j2,j3,j4,_⟩
   ·exact .inl e
   grind
  ·subst q
   rcases hc with hc|hc
   ·rcases l.link with⟨_,e⟩|⟨j,e,j1,j2⟩
    ·omega
    exact .inr ⟨j,hc▸e,j1,by omega,by omega,h.top j j1 (by omega) (by omega),by omega⟩
   rcases r.link with⟨_,e⟩|⟨j,e,j1,j2⟩
   ·omega
   exact .inr ⟨j,hc▸e,by omega,j2,by omega,h.top j (by omega) j2 (by omega),by omega⟩
  rcases Zq k (by omega) S c hc with e|⟨j,e,j1,j2,j3,j4,_⟩
  ·exact .inl e
  grind
theorem pF.up{P:Nat->Nat->Prop}{UV:J Nd}{a b:Nat}{r:Int}(h:pF P UV a b r): ∀k:Nat,a<=k->k<b->(k:Int)≠r-> ∃j,a<=j/\j<b/\((UV[j]!).2.1=(k:Int)\/(UV[j]!).2.2=(k:Int))/\ ∀m,a<=m->m<b->((UV[m]!).2.1=(k:Int)\/(UV[m]!).2.2=(k:Int))->m=j:=by
 induction h with
 |nil h=>omega
 | @node a b i h l r PG Zq=>
  have lo:=h.lo;have N:=h.N;have lk:=l.kids;have rk:=r.kids;intro k D S fk;rcases SN k i with q|q
  ·by_cases er:(k:Int)=(UV[i]!).2.1
   ·refine⟨i,lo,N,.inl er.symm,λm m1 m2 hm=>?_⟩
    rcases WF m i with w|w|w
    ·rcases lk m m1 w _ hm with e|⟨j,e,_,_,_,_,hr⟩
     ·omega
     exact absurd er.symm hr
    ·exact w
    rcases rk m (by omega) m2 _ hm with e|⟨j,e,j1,_⟩<;>omega
   obtain⟨j,j1,j2,j3,j4⟩:=PG k D q er
   refine⟨j,j1,by omega,j3,λm m1 m2 hm=>?_⟩;rcases WF m i with w|w|w
   ·exact j4 m m1 w hm
   ·subst w
    rcases hm with hm|hm
    ·exact absurd hm.symm er
    rcases r.link with⟨_,e⟩|⟨p,e,p1,p2⟩<;>omega
   rcases rk m (by omega) m2 _ hm with e|⟨p,e,p1,_⟩<;>omega
  by_cases er:(k:Int)=(UV[i]!).2.2
  ·refine⟨i,lo,N,.inr er.symm,λm m1 m2 hm=>?_⟩
   rcases WF m i with w|w|w
   ·rcases lk m m1 w _ hm with e|⟨j,e,_,j2,_⟩<;>omega
   ·exact w
   rcases rk m (by omega) m2 _ hm with e|⟨j,e,_,_,_,_,hr⟩
   ·omega
   exact absurd er.symm hr
  obtain⟨j,j1,j2,j3,j4⟩:=Zq k (by omega) S er
  refine⟨j,by omega,j2,j3,λm m1 m2 hm=>?_⟩;rcases WF m i with w|w|w
  ·rcases lk m m1 w _ hm with e|⟨p,e,_,p2,_⟩<;>omega
  ·subst w
   rcases hm with hm|hm
   ·rcases l.link with⟨_,e⟩|⟨p,e,p1,p2⟩<;>omega
   exact absurd hm.symm er
  exact j4 m (by omega) m2 hm
inductive Bh(P:Nat->Nat->Prop)(UV:List Nd):Nat->Nat->Int->List Nat->Prop
 |nil{a b:Nat}(h:b<=a):Bh P UV a b (-1) []
 |cons{a b k:Nat}{es:List Nat}(h:Ec P a b k)(l:pF P UV a k (UV[k]!).2.1)(r:Bh P UV (k+1) b (UV[k]!).2.2 es):Bh P UV a b (k:Int) (k::es)
theorem Bh.ut{P:Nat->Nat->Prop}{UV:J Nd}{a b:Nat}{r:Int}{es:J Nat}(h:Bh P UV a b r es):pF P UV a b r:=by
 induction h with
 |nil h=>exact .nil h
 |cons h l r ih=>exact .node h l ih
theorem Bh.mem{P:Nat->Nat->Prop}{UV:J Nd}{a b:Nat}{r:Int}{es:J Nat}(h:Bh P UV a b r es): ∀e∈es,a<=e/\e<b:=by
 induction h with
 |nil h=>simp
 |cons h l r ih=>
  have lo:=h.lo;have N:=h.N
  grind
theorem jR{α:Type}[Inhabited α](x:α)(l:J α)(i:Nat):(x::l)[i+1]! =l[i]!:=by simp
theorem vR{α:Type}[Inhabited α](x:α)(l:J α):(x::l)[0]! =x:=by simp
theorem Bh.chain{P:Nat->Nat->Prop}{UV:J Nd}{a b:Nat}{r:Int}{es:J Nat}(h:Bh P UV a b r es): ∀i j,i<j->j<hx es->P es[i]! es[j]!:=by
 induction h with
 |nil h=>simp
 | @cons a b k es h l r ih=>
  intro i j rE hj;cases j with
  |zero=>omega
  |succ j=>
   rw[jR];have hj:j<(hx es):=by simpa using hj
   cases i with
   |zero=>have:=r.mem es[j]! (aJ hj);exact h.top _ (by have:=h.lo;omega) this.2 (by omega)
   |succ i=>grind
theorem Bh.add {P:Nat->Nat->Prop} {UV N':J Nd} {n:Nat} (o:Kn P n) {a b:Nat} {r:Int} {es:J Nat} (h:Bh P UV a b r es): ∀m,a<=b->b<n->m<=hx es->(∀j,j<m->P es[j]! b)->(∀j,m<=j->j<hx es-> ¬P es[j]! b)->
 (N'[b]!).2.1=(if m<(hx es) then (es[m]!:Int) else -1)->(N'[b]!).2.2= -1->
 (∀k,a<=k->k<b->(N'[k]!).2.1=(UV[k]!).2.1/\((0<m/\k=es[m-1]!)->(N'[k]!).2.2=(b:Int))/\(¬(0<m/\k=es[m-1]!)->(N'[k]!).2.2=(UV[k]!).2.2))->
 Bh P N' a (b+1) (if m=0 then (b:Int) else r) (es.take m++[b]):=by
 induction h with
 | @nil a b h=>
  intro m Sb hb hm _ _ I hr _;have:m=0:=by simpa using hm
  subst this;refine .cons ⟨Sb,by omega,fun j D S h3=>by omega⟩ ?_ ?_
  · rw [I];exact .nil h
  rw [hr];exact .nil (by omega)
 | @cons a b k es h l r ih=>
  intro m Sb hb hm hP hN I hr hf;have lo:=h.lo;have N:=h.N;cases m with
  |zero=>
   have t:pF P UV a b (k:Int):= .node h l r.ut;have nk:=hN 0 (Pc _) (by simp);have kb:=o.Vr k b (by omega) hb (by omega) nk;refine .cons ⟨Sb,by omega,fun j D S h3=>?_⟩ ?_ ?_
   · by_cases e:j=k
     · rw [e];exact kb
     exact o.tr b k j hb (by omega) (by omega) kb (h.top j D (by omega) e)
   · rw [I]
     refine t.frame fun j D S=>?_
     grind
   rw [hr];exact .nil (by omega)
  |succ m=>
   have hm:m<=(hx es):=by simpa using hm
   have pk:P k b:=by have:=hP 0 (by omega);rwa [vR] at this
   have mem:=r.mem;have top:Ec P a (b+1) k:=⟨lo,by omega,fun j D S h3=>by
    by_cases e:j=b
    · rw [e];exact pk
    exact h.top j D (by omega) h3⟩
   have lt:pF P N' a k (N'[k]!).2.1:=by
    rw [(hf k lo N).1];refine l.frame fun j D S=>?_
    obtain ⟨f1,_,f3⟩:=hf j D (by omega);refine Pu f1.symm (f3 (fun q=>?_)).symm;have q2:=q.2;cases m with
    |zero=>rw [show 0+1-1=0 from rfl,vR] at q2;omega
    |succ m=>rw [show m+1+1-1=m+1 from rfl,jR] at q2;have:=mem es[m]! (aJ (by omega));omega
   have rt:=ih m (by omega) hb hm (fun j hj=>by have:=hP (j+1) (by omega);rwa [jR] at this) (fun j D S=>by have:=hN (j+1) (by omega) (by simpa using S);rwa [jR] at this)
    (by
     rw [I]
     by_cases q:m<hx es
     · rw [Do q,Do (by simpa using q),jR]
     · rw [EQ q,EQ (by simpa using q)]) hr (fun j D S=>by
     obtain ⟨f1,f2,f3⟩:=hf j (by omega) S;refine ⟨f1,fun q=>f2 ⟨by omega,?_⟩,fun q=>f3 (fun w=>q ?_)⟩
     · obtain ⟨q1,q2⟩:=q
       rw [show m+1-1=(m-1)+1 by omega,jR];exact q2
     obtain ⟨_,w2⟩:=w
     cases m with
     |zero=>rw [show 0+1-1=0 from rfl,vR] at w2;omega
     |succ m=>rw [show m+1+1-1=m+1 from rfl,jR] at w2;exact ⟨by omega,w2⟩)
   refine .cons top lt ?_;obtain ⟨_,f2,f3⟩:=hf k lo N
   by_cases m0:m=0
   · subst m0
     rw [Do rfl] at rt;rw [f2 ⟨by omega,by rw [show 0+1-1=0 from rfl,vR]⟩];exact rt
   rw [EQ m0] at rt
   rw [f3 (fun w=>?_)]
   · exact rt
   have w2:=w.2
   rw [show m+1-1=(m-1)+1 by omega,jR] at w2;have:=mem es[m-1]! (aJ (by omega));omega
end Go.Proofs.YtbelikaakgedaaaGreat
namespace Go.Proofs.YtbelikaakgedaaaGreat
open Go.Vm Classical
def Jf(f:J Pt)(t:Int×Int)(i j:Nat):Prop:=leads f[i]! f[j]! t
theorem yd{p q:Pt}{t:Int×Int}(h:leads p q t): ¬leads q p t:=by
 unfold leads at*
 grind[RE]
theorem DQ{f:J Pt}(h:fQ f)(t:Int×Int):Kn (Jf f t) (hx f) where
 tr:=λ_ _ _ _ _ _ D S=>Bg D S
 Lm:=λ_ _ _ _ h=>yd h
 Vr:=λ_ _ N hj fk hn=>oR t (λe=>fk (o7 h N hj e)) hn
structure ig(f:List Pt)(t:Int×Int)(UV:List Nd)(r:Int):Prop where
 len:(hx UV)=hx f
 ids: ∀k,k<hx f->(UV[k]!).1=(f[k]!).1
 ut:pF (Jf f t) UV 0 (hx f) r
theorem ig.same{f:J Pt}(h:fQ f){t:Int×Int}{UV N':J Nd}{r r':Int}(a:ig f t UV r)(b:ig f t N' r'):UV=N'/\r=r':=by
 obtain⟨e1,e2⟩:=a.ut.unique (DQ h t) (Pc _) b.ut;refine⟨nj (by rw[a.len,b.len]) λk hk=>?_,e1⟩;have hk:k<(hx f):=by rw[<-a.len];exact hk
 exact Pu (by rw[a.ids k hk,b.ids k hk]) (e2 k (Xc _) hk)
def Below(UV:J Nd)(k j:Nat):Prop:=(UV[j]!).2.1=(k:Int)\/(UV[j]!).2.2=(k:Int)
noncomputable def vT(UV:J Nd)(k:Nat):Nat:=if h: ∃j,j<hx UV/\Below UV k j then h.choose else(hx UV)
noncomputable def G9(UV:J Nd)(k:Nat):J (Int×Int):=if vT UV k<(hx UV)then [((UV[k]!).1,(UV[vT UV k]!).1)]else []
noncomputable def cD(UV:J Nd):Nat->J (Int×Int)
 |0=>[]
 |k+1=>cD UV k++G9 UV k
theorem sY(UV:J Nd): ∀k,(cD UV k).length<=k
 |0=>Pc _
 |k+1=>by
  have:=sY UV k;rw[cD,YG];unfold G9
  grind
theorem DR{UV:J Nd}: ∀{n:Nat} {e:Int×Int},e∈cD UV n↔ ∃k,k<n/\vT UV k<hx UV/\e=((UV[k]!).1,(UV[vT UV k]!).1)
 |0,e=>by
  constructor
  ·intro h;cases h
  omega
 |n+1,e=>by
  rw[cD,Ii,DR];constructor
  ·rintro(⟨k,D,S⟩|h)
   ·grind
   unfold G9 at h
   grind
  rintro⟨k,D,S,h3⟩
  by_cases q:k=n
  ·subst q
   right;unfold G9;rw[Do S,h3];exact Su.2 rfl
  grind
section
variable {f : J Pt} {t : Int × Int} {UV : J Nd} {r : Int}
theorem ig.par(h:ig f t UV r){k:Nat}(hk:k<hx f):((k:Int)=r->vT UV k=hx UV)/\((k:Int)≠r->vT UV k<hx UV/\Below UV k (vT UV k)/\vT UV k≠k/\Jf f t (vT UV k) k)/\ ∀m,m<hx UV->Below UV k m->m=vT UV k:=by
 have ln:=h.len
 by_cases hr:(k:Int)=r
 ·have none: ¬ ∃j,j<hx UV/\Below UV k j:=by
   rintro⟨j,hj,hb⟩;rcases h.ut.kids j (Xc _) (by omega) _ hb with e|⟨_,_,_,_,_,_,e⟩
   ·omega
   exact e hr.symm
  have e:vT UV k=(hx UV):=by unfold vT;rw[dif_neg none]
  grind
 obtain⟨j,_,j2,j3,j4⟩:=h.ut.up k (Xc _) hk hr
 have ex: ∃j,j<hx UV/\Below UV k j:=⟨j,by omega,j3⟩;have e:vT UV k=j:=by unfold vT;rw[dif_pos ex];have:=ex.choose_spec;exact j4 _ (Xc _) (by omega) this.2
 refine⟨λq=>absurd q hr,λ_=>?_,λm hm hb=>by rw[e];exact j4 m (Xc _) (by omega) hb⟩;rw[e];refine⟨by omega,j3,?_,?_⟩
 ·rcases h.ut.kids j (Xc _) j2 _ j3 with q|⟨i,q,_,_,q2,_⟩
  ·omega
  omega
 rcases h.ut.kids j (Xc _) j2 _ j3 with q|⟨i,q,_,_,_,q2,_⟩
 ·omega
 grind
theorem ig.Qf(bj:aS f)(h:ig f t UV r):Bc f (cD UV (hx f))/\(cD UV (hx f)).Nodup/\ ∀e∈cD UV (hx f),leads (bm f e.2) (bm f e.1) t:=by
 have ln:=h.len;have f1:=bj.1;have inf: ∀e∈cD UV (hx f),∃k j,k<hx f/\j<hx f/\j≠k/\Jf f t j k/\e=((f[k]!).1,(f[j]!).1):=by
  intro e he;obtain⟨k,k1,k2,k3⟩:=DR.1 he;have hp:=h.par k1;have hr:(k:Int)≠r:=λq=>by omega
  obtain⟨p1,p2,p3,qb7⟩:=hp.2.1 hr;exact⟨k,vT UV k,k1,by omega,p3,qb7,by rw[k3,h.ids k k1,h.ids _ (by omega)]⟩
 have hb: ∀e∈cD UV (hx f),lK f e:=λe he=>by obtain⟨k,j,k1,j1,_,_,rfl⟩:=inf e he;exact⟨⟨k,k1,rfl⟩,⟨j,j1,rfl⟩⟩
 refine⟨⟨SH (sY UV _) (by omega),λe he=>?_,hb⟩,?_,λe he=>?_⟩
 ·obtain⟨⟨p1,p2⟩,q1,q2⟩:=Sy (bU bj (hb e he).1) (bU bj (hb e he).2)
  obtain⟨k,j,k1,j1,ne,_,rfl⟩:=inf e he;have:(f[k]!).1≠(f[j]!).1:=λq=>ne (o7 bj.2.2 k1 j1 q).symm
  unfold gO at p1 q1;unfold jO;omega
 ·have go: ∀n,n<=hx f->(cD UV n).Nodup:=by
   intro n
   induction n with
   |zero=>exact λ_=>g'
   |succ n ih=>
    intro hn;rw[cD,Ih];refine⟨ih (by omega),?_,λx X y hy e=>?_⟩
    ·unfold G9;split
     ·exact YI.2 ⟨List.not_mem_nil,g'⟩
     exact g'
    subst e
    obtain⟨k,k1,_,k3⟩:=DR.1 X;unfold G9 at hy;split at hy
    ·have hy:=Su.1 hy
     rw[k3]at hy;have e1:=(Prod.mk.inj hy).1;rw[h.ids k (by omega),h.ids n (by omega)]at e1;have:=o7 bj.2.2 (by omega) (by omega) e1;omega
    cases hy
  grind
 obtain⟨k,j,k1,j1,_,p,rfl⟩:=inf e he
 rw[nZ bj.2.2 j1 rfl,nZ bj.2.2 k1 rfl];exact p
end
theorem alm{f:J Pt}(bj:aS f){t:Int×Int}(r:bI t)(dK:jo t){i j:Nat}(N:i<hx f)(hj:j<hx f)(fk:i≠j):de f[i]! f[j]! t=YC (KN (Jf f t i j),0):=by
 have ne:(f[i]!).1≠(f[j]!).1:=λh=>fk (o7 bj.2.2 N hj h)
 rcases pE (bj.2.1 _ (aJ N)) (bj.2.1 _ (aJ hj)) dK r with h|⟨h,_⟩
 ·rw[h,EQ ne];rfl
 omega
def eI(es:J Nat):J Int:=es.map λe:Nat=>(e:Int)
theorem vs2(E:J Int)(m:Nat)(x:Int)(h:m+1<=hx E):(iL E m [x]).length=(hx E):=by
 unfold iL
 grind
theorem adP(es:J Nat):(eI es).length=(hx es):=Sw ..
theorem ag0(es:J Nat){j:Nat}(h:j<hx es):(eI es)[j]! =(es[j]!:Int):=by rw[getElem!_pos _ j (by rw[adP];exact h),getElem!_pos es j h];exact List.getElem_map ..
theorem All(es:J Nat)(m:Nat):eI (es.take m)=(eI es).take m:=List.map_take ..
def o2(f:J Pt)(t:Int×Int)(e c:Nat)(i:Nat)(lw:Int)(UV:J Nd)(E:J Int):=
 (e,c,f,((hx f):Int),(i:Int),f,t.1,t.2,(0:Int),lw,UV,E)
def o1(f:J Pt)(t:Int×Int)(e c:Nat)(i:Nat)(lw:Int)(UV:J Nd)(E:J Int)(left:Int):=
 (e,c,(i:Int),f,((hx f):Int),(i:Int),f,t.1,t.2,(0:Int),lw,UV,E,(f[i]!).1,(f[i]!).2.1,(f[i]!).2.2,(f[i]!).1,left,(-1:Int))
def BW(f:J Pt)(UV:J Nd)(es:J Nat)(i m:Nat):J Nd:=
 (if m=0 then UV else UV.set es[m-1]! ((UV[es[m-1]!]!).1,(UV[es[m-1]!]!).2.1,(i:Int)))++[((f[i]!).1,if m<(hx es)then(es[m]!:Int)else -1,-1)]
theorem aqM{f:J Pt}(bj:aS f){t:Int×Int}(r:bI t)(dK:jo t){i:Nat}(N:i<hx f){es:J Nat}(Zr: ∀e∈es,e<i){UV:J Nd}(hN:(hx UV)=i){lw:Int}{E:J Int}(hE:E.take (hx es)=eI es)(le:(hx es)<=hx E)(agA:(hx E)<=1000):
 ∀(e:Nat),e<=hx es->(∀j,e<=j->j<hx es-> ¬Jf f t es[j]! i)->
  ∃(m:Nat) (E':J Int),m<=e/\(0<m->Jf f t es[m-1]! i)/\(∀j,m<=j->j<hx es-> ¬Jf f t es[j]! i)/\E'.take (m+1)=eI (es.take m++[i])/\m+1<=hx E'/\hx E'<=hx E+1/\
   au uZ (o1 f t e (hx E) i lw UV E (if e<(hx es)then(es[e]!:Int)else -1))=YC (.next (o2 f t (m+1) (hx E') (i+1) (if m=0 then(i:Int)else lw) (BW f UV es i m) E')):=by
 have f1:=bj.1;have sc:=aN (show i<1000000000 by omega);have put: ∀m,m<=hx es-> ∃E':J Int,E'.take (m+1)=eI (es.take m++[i])/\m+1<=hx E'/\hx E'<=hx E+1/\
  ((m+1<=hx E->E'=iL E m [(i:Int)])/\(¬m+1<=hx E->E'=E.take m++[(i:Int)])):=by
  intro m hm;have tm:E.take m=eI (es.take m):=by rw[All,<-hE,tA,YB hm]
  have ei:eI (es.take m++[i])=eI (es.take m)++[(i:Int)]:=h9 ..;have qc5:(E.take m++[(i:Int)]).length=m+1:=by rw[YG,PP,IR];omega
  by_cases h:m+1<=hx E
  ·refine⟨iL E m [(i:Int)],?_,?_,?_,λ_=>rfl,λq=>absurd h q⟩
   ·unfold iL
    rw[ei,<-tm,List.take_append_of_le_length (by omega),Mp (by omega)]
   ·unfold iL;rw[YG];omega
   unfold iL;rw[YG,qc5,Mi,IR];omega
  grind
 have en: ∀(s:Nat),([(i:Int)]:J Int).length=1:=λ_=>rfl
 have s5: ∀{a b:Nat},a<=b->Nat.ble a b=h1:=λh=>Nat.ble_eq_true_of_le h
 have aqN: ∀{a b:Nat},¬a<=b->Nat.ble a b=Ss:=λh=>by
  grind[Nat.le_of_ble_eq_true]
 intro e
 induction e with
 |zero=>
  intro _ yN;obtain⟨E',e1,e2,e3,e4,e5⟩:=put 0 (Xc _);refine⟨0,E',Pc _,λh=>absurd h (Zg _),yN,e1,e2,e3,ar ?_⟩;have ap: ∀x:Nd,aQ UV [x]=YC (UV++[x]):=λx=>ba (by rw[IR];omega)
  have ap2:aQ (E.take 0) [(i:Int)]=YC (E.take 0++[(i:Int)]):=ba (by rw[IR,PP];omega);unfold uZ o1 o2 BW
  by_cases h:0+1<=hx E
  ·simp (disch:=omega) only[aB,aF,AC,ap,aj,IR,s5 h,ww,SG,SM,sc,e4 h,if_true]
   rw[vs2 _ _ _ h]
  grind
 |succ e ih=>
  intro he yN;have tk:E.take (e+1)=eI (es.take (e+1)):=by rw[All,<-hE,tA,YB he]
  have lt:(eI (es.take (e+1))).length=e+1:=by rw[adP,PP];omega
  have ge:az (E.take (e+1)) ((e:Nat):Int)=YC (es[e]!:Int):=by rw[tk,aq _ e (by omega),ag0 _ (by rw[PP];omega),rz (by omega)]
  have ew:M d5 (((e+1:Nat):Int)-1)=((e:Nat):Int):=by rw[dN ⟨by omega,by omega⟩];omega
  have agB:es[e]!<i:=Zr _ (aJ (by omega));have gp:=aq f es[e]! (by omega);have ah:=alm bj r dK (i:=es[e]!) (by omega) N (by omega);have abo:=aq UV es[e]! (by omega);have s6:((f[i]!).1,(f[i]!).2.1,(f[i]!).2.2)=f[i]!:=rfl
  by_cases c:Jf f t es[e]! i
  ·rw[aA c]at ah
   obtain⟨E',e1,e2,e3,e4,e5⟩:=put (e+1) he;refine⟨e+1,E',Pc _,λ_=>c,yN,e1,e2,e3,ar ?_⟩;have ap: ∀(y x:Nd),aQ (UV.set es[e]! y) [x]=YC (UV.set es[e]! y++[x]):=λy x=>ba (by rw[IR,Mg];omega)
   have ap2:aQ (E.take (e+1)) [(i:Int)]=YC (E.take (e+1)++[(i:Int)]):=ba (by rw[IR,PP];omega);unfold uZ o1 o2 BW;rw[show e+1-1=e from rfl,EQ (hi e),EQ (hi e)]
   by_cases h:e+1+1<=hx E
   ·simp (disch:=omega) only[aB,aA,ww,ew,ge,aj,gp,s6,ah,abo,cA,ap,IR,s5 h,SG,SM,sc,e4 h]
    rw[vs2 _ _ _ h]
   simp (disch:=omega) only[aB,aA,ww,ew,ge,aj,gp,s6,ah,abo,cA,ap,IR,aqN h,AC,ap2,s5,sc,e5 h]
   rw[show(E.take (e+1)++[(i:Int)]).length=e+1+1 from by rw[YG,PP,IR];omega]
  rw[show KN (Jf f (t.1,t.2) es[e]! i)=Ss from aF c]at ah
  obtain⟨m,E',D,S,h3,h4,h5,h6,h7⟩:=ih (by omega) (λj j1 j2=>by
   by_cases q:j=e
   ·rw[q];exact c
   exact yN j (by omega) j2)
  refine⟨m,E',by omega,S,h3,h4,h5,h6,?_⟩;rw[Do (by omega)]at h7;rw[<-h7];refine aD ?_;unfold uZ o1;simp (disch:=omega) only[aB,aA,ww,ew,ge,aj,gp,s6,ah,AC,SM,al]
theorem ag1{f:J Pt}{UV:J Nd}{es:J Nat}{i m:Nat}(hN:(hx UV)=i)(Zr: ∀e∈es,e<i)(hm:m<=hx es):
 (BW f UV es i m).length=i+1/\(BW f UV es i m)[i]! =((f[i]!).1,if m<(hx es)then(es[m]!:Int)else -1,-1)/\
 ∀k,k<i->((BW f UV es i m)[k]!).1=(UV[k]!).1/\((BW f UV es i m)[k]!).2.1=(UV[k]!).2.1/\((0<m/\k=es[m-1]!)->((BW f UV es i m)[k]!).2.2=(i:Int))/\(¬(0<m/\k=es[m-1]!)->((BW f UV es i m)[k]!).2.2=(UV[k]!).2.2):=by
 unfold BW
 by_cases m0:m=0
 ·grind
 grind
theorem aqO {f:J Pt} (bj:aS f) {t:Int×Int} (r:bI t) (dK:jo t): ∀(d i:Nat) (es:J Nat) (UV:J Nd) (lw:Int) (E:J Int),hx f-i<=d->i<=hx f->hx UV=i->(∀k,k<i->(UV[k]!).1=(f[k]!).1)->
 Bh (Jf f t) UV 0 i lw es->E.take (hx es)=eI es->hx es<=hx E->hx E<=i->
 ∃(Ut:Int) (N':J Nd),au rj (o2 f t (hx es) (hx E) i lw UV E)=YC (⟨Ut,N'⟩,0)/\ig f t N' Ut:=by
 have f1:=bj.1;have fin: ∀(es:J Nat) (UV:J Nd) (lw:Int) (E:J Int),hx UV=hx f->(∀k,k<hx f->(UV[k]!).1=(f[k]!).1)->Bh (Jf f t) UV 0 (hx f) lw es->
  ∃(Ut:Int) (N':J Nd),au rj (o2 f t (hx es) (hx E) (hx f) lw UV E)=YC (⟨Ut,N'⟩,0)/\ig f t N' Ut:=fun es UV lw E D S h3=>
  ⟨lw,UV,ar (by unfold rj o2;simp),⟨D,S,h3.ut⟩⟩
 intro d
 induction d with
 |zero=>
  intro i es UV lw E hd N D S h3 _ _ _;have:i=(hx f):=by omega
  simp_all
 |succ d ih=>
  intro i es UV lw E hd N D S h3 h4 h5 h6
  by_cases he:i=hx f
  · grind
  have yD:i<(hx f):=by omega
  have o:=DQ bj.2.2 t;have mem:=h3.mem;have Zr:=fun e he=>(mem e he).2
  obtain ⟨m,E',m1,m2,m3,m4,hid,ht',abv⟩:=aqM bj r dK yD Zr D h4 h5 (by omega) (hx es) (Pc _) (fun j j1 j2=>by omega);rw [EQ (Zg _)] at abv;have st:rj (o2 f t (hx es) (hx E) i lw UV E)=YC (.next (o2 f t (m+1) (hx E') (i+1) (if m=0 then (i:Int) else lw) (BW f UV es i m) E')):=by
   unfold rj
   conv=>lhs;unfold o2
   simp (disch:=omega) only [aA,ww,aq f i yD,aj];exact abv
  obtain ⟨a1,a2,a3⟩:=ag1 D Zr m1;have sp:=h3.add o m (Xc _) yD m1 (fun j hj=>by
   by_cases q:j=m-1
   · grind
   · have Y8:=Zr _ (aJ (show j<(hx es) by omega))
     have Iq:=Zr _ (aJ (show m-1<(hx es) by omega));exact o.tr _ es[m-1]! _ (by omega) (by omega) yD (h3.chain j (m-1) (by omega) (by omega)) (m2 (by omega))) m3
   (by rw [a2]) (by rw [a2]) (fun k _ hk=>by
    grind)
  have le:(es.take m++[i]).length=m+1:=by grind
  rw [aD st];have:=ih (i+1) (es.take m++[i]) (BW f UV es i m) (if m=0 then (i:Int) else lw) E' (by omega) (by omega) a1 (fun k hk=>by
   grind) sp (by rw [le];exact m4) (by omega) (by omega)
  rw [le] at this;exact this
theorem afg{f:J Pt}(bj:aS f){t:Int×Int}(r:bI t)(dK:jo t): ∃(lw:Int) (UV:J Nd),tO ⟨f⟩ t=YC (⟨lw,UV⟩,0)/\ig f t UV lw:=by
 obtain⟨lw,UV,D,S⟩:=aqO bj r dK (hx f) 0 [] [] _ [] (by omega) (by omega) rfl (λk hk=>by omega) (.nil (Pc _)) rfl (Pc _) (Pc _);refine⟨lw,UV,?_,S⟩;have hc:dm ⟨f⟩=YC 0:=by rw[fR];exact congrArg YC (eV.2 bj)
 unfold tO Dk;rw[hc,aj,aY rfl,AC,bR dK,Do r,aj,aj,aY rfl,AC];exact D
theorem alp{f:J Pt}(bj:aS f){t:Int×Int}(dK:jo t){a b:Nat}(hb:b<=hx f): ∀(d j FA:Nat),b-j<=d->j<=b->Ec (Jf f t) a j FA-> ∃i:Nat,au nb ((b:Int),(FA:Int),(j:Int),f,t)=YC (i:Int)/\Ec (Jf f t) a b i:=by
 have f1:=bj.1;have o:=DQ bj.2.2 t;have fin: ∀FA:Nat,Ec _ a b FA-> ∃i:Nat,au nb ((b:Int),(FA:Int),(b:Int),f,t)=YC (i:Int)/\Ec (Jf f t) a b i:=λFA h=>⟨FA,ar (by unfold nb;simp),h⟩
 intro d
 induction d with
 |zero=>
  grind
 |succ d ih=>
  intro j FA hd hj h
  by_cases he:j=b
  ·grind
  have D:=h.lo;have S:=h.N;have sc:=aN (show j<1000000000 by omega);have ld:=Ct (bj.2.1 _ (aJ (show j<(hx f) by omega))) (bj.2.1 _ (aJ (show FA<(hx f) by omega))) dK
  by_cases c:Jf f t j FA
  ·rw[show KN (leads f[j]! f[FA]! t)=h1 from aA c]at ld
   rw[aD (y:=((b:Int),(j:Int),((j+1:Nat):Int),f,t)) (by unfold nb;simp (disch:=omega) only[aA,ww,aF,AC,aq,aj,ld,sc])];refine ih _ j (by omega) (by omega) ⟨by omega,by omega,λk k1 k2 k3=>?_⟩
   by_cases q:k=FA
   ·rw[q];exact c
   exact o.tr j FA k (by omega) (by omega) (by omega) c (h.top k k1 (by omega) q)
  rw[show KN (leads f[j]! f[FA]! t)=Ss from aF c]at ld
  rw[aD (y:=((b:Int),(FA:Int),((j+1:Nat):Int),f,t)) (by unfold nb;simp (disch:=omega) only[aA,ww,aF,AC,aq,aj,ld,sc])];refine ih _ FA (by omega) (by omega) ⟨D,by omega,λk k1 k2 k3=>?_⟩
  by_cases q:k=j
  ·rw[q];exact o.Vr j FA (by omega) (by omega) (by omega) c
  exact h.top k k1 (by omega) k3
theorem alq{f:J Pt}(bj:aS f){t:Int×Int}(dK:jo t){a b:Nat}(Sb:a<b)(hb:b<=hx f): ∃i:Nat,Cq ⟨f⟩ t (a:Int) (b:Int)=YC (i:Int)/\Ec (Jf f t) a b i:=by have f1:=bj.1;obtain⟨i,D,S⟩:=alp bj dK hb (b- (a+1)) _ a (by omega) (by omega) (show Ec (Jf f t) a (a+1) a from⟨by omega,by omega,λk k1 k2 k3=>by omega⟩);refine⟨i,?_,S⟩;unfold Cq;rw[aD (y:=((b:Int),(a:Int),((a+1:Nat):Int),f,t)) (by unfold nb;simp (disch:=omega) only[aA,ww,aN])];exact D
theorem hfn(f:J Pt)(t:Int×Int)(a:Nat):Cq ⟨f⟩ t (a:Int) (a:Int)=YC (-1):=by refine ar ?_;unfold nb;simp
theorem ag2{f:J Pt}(bj:aS f){t:Int×Int}(dK:jo t): ∀(d m a b:Nat) (UV:J Nd),b-a<=d->d<m->a<=b->b<=hx f->hx UV=hx f->
 ∃(r:Int) (N':J Nd),mj m (f,t.1,t.2,0,(a:Int),(b:Int),UV)=YC (r,N')/\hx N'=hx f/\(∀k:Nat,(N'[k]!).1=(UV[k]!).1)/\(∀k:Nat,(k<a\/b<=k)->N'[k]! =UV[k]!)/\pF (Jf f t) N' a b r:=by
 have f1:=bj.1;intro d
 induction d with
 |zero=>
  intro m a b UV hd hm Sb hb hN;have:a=b:=by omega
  subst this;cases m with
  |zero=>omega
  |succ m=>refine⟨-1,UV,?_,hN,λ_=>rfl,λ_ _=>rfl,.nil (Pc _)⟩;show ic _ _=_;unfold ic;simp (disch:=omega) only[show((t.1,t.2):Int×Int)=t from rfl,hfn f t a,aj,aF,AC,beq_self_eq_true,ww]
 |succ d ih=>
  intro m a b UV hd hm Sb hb hN;cases m with
  |zero=>omega
  |succ m=>
  by_cases e:a=b
  ·subst e
   refine⟨-1,UV,?_,hN,λ_=>rfl,λ_ _=>rfl,.nil (Pc _)⟩;show ic _ _=_;unfold ic;simp (disch:=omega) only[show((t.1,t.2):Int×Int)=t from rfl,hfn f t a,aj,aF,AC,beq_self_eq_true,ww]
  obtain⟨i,t1,t2⟩:=alq bj dK (show a<b by omega) hb;have lo:=t2.lo;have N:=t2.N;obtain⟨l,N1,g1,g2,g3,g4,g5⟩:=ih m a i UV (by omega) (by omega) lo (by omega) hN;have gi:=aq N1 i (by omega);obtain⟨rr,N2,k1,k2,k3,k4,k5⟩:=ih m (i+1) b (N1.set i ((N1[i]!).1,l,(N1[i]!).2.2)) (by omega) (by omega) (by omega) hb (by grind);have gj:=aq N2 i (by omega);have n2i:N2[i]! =((N1[i]!).1,l,(N1[i]!).2.2):=by rw[k4 i (.inl (by omega)),bQ,Do ⟨rfl,by omega⟩]
  have s7:(N2.set i ((N2[i]!).1,(N2[i]!).2.1,rr))[i]! =((N1[i]!).1,l,rr):=by grind
  have n3: ∀k,k≠i->(N2.set i ((N2[i]!).1,(N2[i]!).2.1,rr))[k]! =N2[k]!:=λk hk=>by rw[bQ,EQ (λw=>hk w.1)]
  have n1: ∀k,k≠i->(N1.set i ((N1[i]!).1,l,(N1[i]!).2.2))[k]! =N1[k]!:=λk hk=>by rw[bQ,EQ (λw=>hk w.1)]
  refine⟨(i:Int),N2.set i ((N2[i]!).1,(N2[i]!).2.1,rr),?_,by grind,λk=>?_,λk hk=>?_,?_⟩
  ·show ic _ _=_
   unfold ic;simp (disch:=omega) only[show((t.1,t.2):Int×Int)=t from rfl,t1,aj,aA,ww,g1,gi,cA,aN,k1,gj,Mg,k2,hN,beq_self_eq_true]
  ·by_cases q:k=i
   ·rw[q,s7,<-g3 i]
   rw[n3 k q,k3 k,n1 k q,g3 k]
  ·rw[n3 k (by omega),k4 k (by omega),n1 k (by omega),g4 k (by omega)]
  refine .node t2 ?_ ?_
  ·rw[s7]
   refine g5.frame λk D S=>?_
   rw[n3 k (by omega),k4 k (.inl (by omega)),n1 k (by omega)]
  rw[s7]
  refine k5.frame λk D S=>?_
  rw[n3 k (by omega)]
theorem Kx{f:J Pt}(bj:aS f){t:Int×Int}(dK:jo t): ∃(lw:Int) (UV:J Nd),zW ⟨f⟩ t=YC ⟨lw,UV⟩/\ig f t UV lw:=by
 have f1:=bj.1
 let P8:Nat->J Nd:=λi=>(f.take i).map λp=>(p.1,0,0)
 have il: ∀i,i<=hx f->(P8 i).length=i:=λi N=>by show(Pv _ _).length=_;rw[Sw,PP];omega
 have key:=bc (body:=rY) (λi=>((i:Int),f,t.1,t.2,0,0,P8 i)) (hx f) (λi N=>by
  have nx:P8 (i+1)=P8 i++[((f[i]!).1,0,0)]:=by show Pv _ _=Pv _ _++_;rw[cB N,h9];rfl
  unfold rY;simp (disch:=omega) only[aB,aA,ww,aq f i N,aj,aN,nx];rw[ba (by rw[il i (by omega),IR];omega),aj])
 obtain⟨r,UV,g1,g2,g3,_,g5⟩:=ag2 bj dK (hx f) 1000000 0 (hx f) _ (by omega) (by omega) (by omega) (Pc _) (il _ (Pc _));refine⟨r,UV,?_,⟨g2,λk hk=>?_,g5⟩⟩
 ·unfold zW HG
  rw[show au rY (0,f,t.1,t.2,0,0,[])=_ from key];rw[ar (r:=(⟨r,UV⟩:Tree)) (by unfold rY;have K5:wT (f,t.1,t.2,0,0,((hx f):Int),P8 (hx f))=YC _:=g1;simp (disch:=omega) only[aB,aF,AC,K5,aj]),aj]
 grind
def note(U:J Int)(c:Int)(i:Nat):J Int:=if 0<=c then U.set c.toNat (i:Int)else U
def WE(UV:J Nd)(U:J Int):Nat->J Int
 |0=>U
 |i+1=>note (note (WE UV U i) (UV[i]!).2.1 i) (UV[i]!).2.2 i
theorem FB(U:J Int)(c:Int)(i:Nat):(note U c i).length=(hx U):=by unfold note;split<;>simp
theorem DS(UV:J Nd)(U:J Int): ∀i,(WE UV U i).length=hx U
 |0=>rfl
 |i+1=>by rw[WE,FB,FB,DS UV U i]
theorem hW'(U:J Int)(c:Int)(i k:Nat)(hk:k<hx U):(note U c i)[k]! =if c=(k:Int)then(i:Int)else U[k]!:=by
 unfold note
 grind
theorem c73{α:Type}[Inhabited α]{n i:Nat}(a:α)(h:i<n):(If n a)[i]! =a:=by
 grind
section
variable {f : J Pt} {t : Int × Int} {UV : J Nd} {r : Int}
theorem ig.link(h:ig f t UV r){j:Nat}(hj:j<hx f){c:Int}(hc:(UV[j]!).2.1=c\/(UV[j]!).2.2=c):c= -1\/(0<=c/\c<hx UV):=by
 have ln:=h.len;rcases h.ut.kids j (Xc _) hj c hc with e|⟨k,e,_,k2,_⟩
 ·exact .inl e
 omega
theorem ig.s8(h:ig f t UV r){U:J Int}(hU:(hx U)=hx UV): ∀i,i<=hx UV-> ∀k,k<hx UV->(WE UV U i)[k]! =if vT UV k<i then(vT UV k:Int)else U[k]!
 |0,_,k,_=>by rfl
 |i+1,N,k,hk=>by
  have ln:=h.len;have ih:=h.s8 hU i (by omega) k hk;have p:=h.par (k:=k) (by omega);rw[WE,hW' _ _ _ _ (by rw[FB,DS];omega),hW' _ _ _ _ (by rw[DS];omega),ih]
  by_cases hb:Below UV k i
  ·have e:=p.2.2 i (by omega) hb
   rw[Do (show vT UV k<i+1 by omega),<-e];rcases hb with q|q
   ·omega
   rw[Do q]
  have n1:=λq=>hb (.inl q)
  have n2:=λq=>hb (.inr q)
  grind
def VV(UV:J Nd)(r:Int)(i:Nat)(j:Int)(U:J Int):=((i:Int),UV,((hx UV):Int),(i:Int),(UV[i]!).2.1,(UV[i]!).2.2,j,(0:Int),r,UV,U)
def V4(UV:J Nd)(r:Int)(i:Nat)(U:J Int):=(UV,((hx UV):Int),(i:Int),(0:Int),r,UV,U)
theorem LX{U:J Int}{c:Int}(h0:0<=c)(h:c<hx U): ∃x,az U c=YC x:=⟨_,fh h0 h⟩
theorem LY{U:J Int}{c:Int}(h0:0<=c)(x:Int):bu U c x=U.set c.toNat x:=by rfl
theorem ag3(h:ig f t UV r)(hN:(hx UV)<=1000){i:Nat}(N:i<hx UV){U:J Int}(hU:(hx U)=hx UV):au lZ (VV UV r i 0 U)=YC (.next (V4 UV r (i+1) (note (note U (UV[i]!).2.1 i) (UV[i]!).2.2 i))):=by
 have ln:=h.len;have l1:=h.link (j:=i) (by omega) (.inl rfl);have l2:=h.link (j:=i) (by omega) (.inr rfl);have s1:lZ (VV UV r i 0 U)=YC (.next (VV UV r i 1 (note U (UV[i]!).2.1 i))):=by
  unfold lZ VV note;simp (disch:=omega) only[aA,ww,beq_self_eq_true,show M d5 (0+1)=1 from dN ⟨by omega,by omega⟩]
  by_cases q:0<=(UV[i]!).2.1
  ·obtain⟨x,X⟩:=LX (U:=U) q (by omega)
   rw[aA q,ww,X,aj,LY q,Do q]
  grind
 have s2: ∀V:J Int,hx V=hx UV->lZ (VV UV r i 1 V)=YC (.next (VV UV r i 2 (note V (UV[i]!).2.2 i))):=by
  intro V hV;unfold lZ VV note;simp (disch:=omega) only[aA,ww,show((1:Int)==0)=Ss from rfl,AC,beq_self_eq_true,show M d5 (1+1)=2 from dN ⟨by omega,by omega⟩]
  by_cases q:0<=(UV[i]!).2.2
  ·obtain⟨x,X⟩:=LX (U:=V) q (by omega)
   rw[aA q,ww,X,aj,LY q,Do q]
  grind
 rw[aD s1,aD (s2 _ (by rw[FB];exact hU))];refine ar ?_;unfold lZ VV V4;simp (disch:=omega) only[aF,AC,aN]
theorem qa3(h:ig f t UV r)(hN:(hx UV)<=1000):au oq (((hx UV):Int),0,0,r,UV,If (hx UV) 0)=YC (⟨r,UV⟩,cD UV (hx UV)):=by
 have ln:=h.len;have k4:=bc (body:=oq) (λi=>(((hx UV):Int),(i:Int),(0:Int),r,UV,If i (-1)++If (hx UV-i) 0)) (hx UV) (λi N=>by
  have ll:(If i (-1:Int)++If (hx UV-i) 0).length=(hx UV):=by grind
  have e:(If i (-1:Int)++If (hx UV-i) 0).set i (-1)=If (i+1) (-1)++If (hx UV- (i+1)) 0:=by rw[show(hx UV)-i=(hx UV- (i+1))+1 by omega,List.replicate_succ,List.set_append_right _ _ (by simp),KL,Nat.sub_self,List.set_cons_zero,List.replicate_succ',OH];rfl
  unfold oq;simp (disch:=omega) only[aA,ww,aq,aj,cA,e,aN])
 have e0:If 0 (-1:Int)++If (hx UV-0) 0=If (hx UV) 0:=rfl;have e1:If (hx UV) (-1:Int)++If (hx UV-(hx UV)) 0=If (hx UV) (-1):=by simp
 rw[e0,e1]at k4;rw[show au oq (((hx UV):Int),0,0,r,UV,If (hx UV) 0)=_ from k4];have lU:(If (hx UV) (-1:Int)).length=(hx UV):=KL ..;have k3:=bc (body:=oo) (λi=>V4 UV r i (WE UV (If (hx UV) (-1)) i)) (hx UV) (λi N=>by
  have g:=aq UV i N;unfold oo
  conv=>lhs;unfold V4
  simp (disch:=omega) only[aA,g,aj];exact ag3 h hN N (by rw[DS,lU]))
 have up:=h.s8 lU (hx UV) (Pc _);have k2:=bc (body:=om) (λi=>(UV,((hx UV):Int),(i:Int),(0:Int),r,UV,WE UV (If (hx UV) (-1)) (hx UV),cD UV i)) (hx UV) (λi N=>by
  have g:=aq UV i N;have gu:=aq (WE UV (If (hx UV) (-1)) (hx UV)) i (by rw[DS,lU];exact N);have el:=sY UV i;rw[up i N]at gu;unfold om;rw[show cD UV (i+1)=cD UV i++G9 UV i from rfl];unfold G9
  by_cases q:vT UV i<hx UV
  ·rw[Do q]at gu
   simp (disch:=omega) only[aA,ww,g,gu,aj,aq UV (vT UV i) q,aN,Do q]
   grind[ba,IR,aj]
  rw[EQ q,c73 (-1) N]at gu
  simp (disch:=omega) only[aA,ww,g,gu,aj,aF,AC,aN,EQ q,Pg])
 have f2:au om (UV,((hx UV):Int),0,0,r,UV,WE UV (If (hx UV) (-1)) (hx UV),[])=YC (.done (.done (⟨r,UV⟩,cD UV (hx UV)))):=by rw[show au om (UV,((hx UV):Int),0,0,r,UV,WE UV (If (hx UV) (-1)) (hx UV),[])=_ from k2];refine ar ?_;unfold om;simp
 have f3:au oo (V4 UV r 0 (If (hx UV) (-1)))=YC (.done (⟨r,UV⟩,cD UV (hx UV))):=by
  rw[show au oo (V4 UV r 0 (If (hx UV) (-1)))=_ from k3];refine ar ?_;unfold oo V4
  grind
 refine ar ?_;unfold oq;simp (disch:=omega) only[aB,aF,AC];exact f3
def Rh(UV:J Nd)(r:Int)(i:Nat)(j:Int)(U:J Int):=((i:Int),UV,((hx UV):Int),(i:Int),(UV[i]!).2.1,(UV[i]!).2.2,j,r,UV,U)
def P9(UV:J Nd)(r:Int)(i:Nat)(U:J Int):=(UV,((hx UV):Int),(i:Int),r,UV,U)
theorem ag4(h:ig f t UV r)(hN:(hx UV)<=1000){i:Nat}(N:i<hx UV){U:J Int}(hU:(hx U)=hx UV):au mf (Rh UV r i 0 U)=YC (.next (P9 UV r (i+1) (note (note U (UV[i]!).2.1 i) (UV[i]!).2.2 i))):=by
 have ln:=h.len;have l1:=h.link (j:=i) (by omega) (.inl rfl);have l2:=h.link (j:=i) (by omega) (.inr rfl);have s1:mf (Rh UV r i 0 U)=YC (.next (Rh UV r i 1 (note U (UV[i]!).2.1 i))):=by
  unfold mf Rh note;simp (disch:=omega) only[aA,ww,beq_self_eq_true,show M d5 (0+1)=1 from dN ⟨by omega,by omega⟩]
  by_cases q:0<=(UV[i]!).2.1
  ·obtain⟨x,X⟩:=LX (U:=U) q (by omega)
   rw[aA q,ww,X,aj,LY q,Do q]
  grind
 have s2: ∀V:J Int,hx V=hx UV->mf (Rh UV r i 1 V)=YC (.next (Rh UV r i 2 (note V (UV[i]!).2.2 i))):=by
  intro V hV;unfold mf Rh note;simp (disch:=omega) only[aA,ww,show((1:Int)==0)=Ss from rfl,AC,beq_self_eq_true,show M d5 (1+1)=2 from dN ⟨by omega,by omega⟩]
  by_cases q:0<=(UV[i]!).2.2
  ·obtain⟨x,X⟩:=LX (U:=V) q (by omega)
   rw[aA q,ww,X,aj,LY q,Do q]
  grind
 rw[aD s1,aD (s2 _ (by rw[FB];exact hU))];refine ar ?_;unfold mf Rh P9;simp (disch:=omega) only[aF,AC,aN]
theorem acA(h:ig f t UV r)(hN:(hx UV)<=1000):qE ⟨r,UV⟩=YC (cD UV (hx UV)):=by
 have ln:=h.len;have lU:(If (hx UV) (0:Int)).length=(hx UV):=KL ..;have mk:rF ((hx UV):Int) (0:Int)=YC (If (hx UV) 0):=by unfold rF;rw[Do ⟨by omega,by omega⟩,al]
 have k3:=bc (body:=qD) (λi=>P9 UV r i (WE UV (If (hx UV) 0) i)) (hx UV) (λi N=>by
  have g:=aq UV i N;unfold qD
  conv=>lhs;unfold P9
  simp (disch:=omega) only[aA,g,];exact ag4 h hN N (by rw[DS,lU]))
 have up:=h.s8 lU (hx UV) (Pc _);have k2:=bc (body:=ou) (λi=>(UV,((hx UV):Int),(i:Int),r,UV,WE UV (If (hx UV) 0) (hx UV),cD UV i)) (hx UV) (λi N=>by
  have g:=aq UV i N;have gu:=aq (WE UV (If (hx UV) 0) (hx UV)) i (by rw[DS,lU];exact N);have el:=sY UV i;have p:=h.par (k:=i) (by omega);rw[up i N]at gu;unfold ou;rw[show cD UV (i+1)=cD UV i++G9 UV i from rfl];unfold G9
  by_cases q:(i:Int)=r
  ·have e:=p.1 q
   simp (disch:=omega) only[aA,ww,g,aj,aY q,AC,aN,EQ,Pg]
  have e:=(p.2.1 q).1
  simp (disch:=omega) only[aA,ww,g,aj,cC q,gu,aq UV _ e,aN,Do e];rw[ba (by rw[IR];omega),aj])
 have f2:au ou (UV,((hx UV):Int),0,r,UV,WE UV (If (hx UV) 0) (hx UV),[])=YC (.done (cD UV (hx UV))):=by rw[show au ou (UV,((hx UV):Int),0,r,UV,WE UV (If (hx UV) 0) (hx UV),[])=_ from k2];refine ar ?_;unfold ou;simp (disch:=omega) only[aF,AC]
 unfold qE;simp[mk,];rw[show au qD (UV,((hx UV):Int),0,r,UV,If (hx UV) 0)=_ from k3];refine ar ?_;unfold qD P9
 grind
theorem ag5(h:ig f t UV r)(hN:(hx UV)<=1000){i:Nat}(N:i<hx UV):au uh ((i:Int),0,r,UV,cD UV i)=YC (.next (((i+1:Nat):Int),r,UV,cD UV (i+1))):=by
 have ln:=h.len;have p:=h.par (k:=i) (by omega);have el:=sY UV i;have g:=aq UV i N;have key:=bc (body:=uh) (λj=>((i:Int),(j:Int),r,UV,cD UV i++(if vT UV i<j then [((UV[i]!).1,(UV[vT UV i]!).1)]else []))) (hx UV) (λj hj=>by
  have gj:=aq UV j hj;unfold uh
  by_cases hb:Below UV i j
  ·have e:=p.2.2 j hj hb
   rw[EQ (by omega),Do (by omega),Pg];have ap:aQ (cD UV i) [((UV[i]!).1,(UV[j]!).1)]=YC (cD UV i++[((UV[i]!).1,(UV[j]!).1)]):=ba (by grind)
   by_cases q:(UV[j]!).2.1=(i:Int)
   ·simp (disch:=omega) only[aB,aA,ww,gj,g,aj,ju q,ap,aN,<-e]
   have q2:=hb.resolve_left q
   simp (disch:=omega) only[aB,aA,ww,gj,g,aj,hO q,AC,ju q2,ap,aN,<-e]
  have ne:vT UV i≠j:=λq=>by
   grind
  have n1:=λq=>hb (.inl q)
  have n2:=λq=>hb (.inr q)
  have e:(if vT UV i<j+1 then [((UV[i]!).1,(UV[vT UV i]!).1)]else [])=(if vT UV i<j then [((UV[i]!).1,(UV[vT UV i]!).1)]else []):=by
   grind
  simp (disch:=omega) only[aB,aA,ww,gj,aj,hO n1,hO n2,AC,aN,e])
 have e0:(if vT UV i<0 then [((UV[i]!).1,(UV[vT UV i]!).1)]else [])=[]:=EQ (Nat.not_lt_zero _);rw[e0,Pg]at key;rw[show au uh ((i:Int),0,r,UV,cD UV i)=_ from key];refine ar ?_;unfold uh;simp (disch:=omega) only[aB,aF,AC,aN];rfl
theorem RH(h:ig f t UV r)(hN:(hx UV)<=1000):Fl ⟨r,UV⟩=YC (cD UV (hx UV)):=by have k:=bc (body:=ya) (λi=>((i:Int),r,UV,cD UV i)) (hx UV) (λi N=>by unfold ya;simp (disch:=omega) only[aB,aA,];exact ag5 h hN N);unfold Fl;rw[show au ya (0,r,UV,[])=_ from k];refine ar ?_;unfold ya;simp
end
theorem RI{f:J Pt}(bj:aS f){t:Int×Int}(r:bI t)(dK:jo t): ∃(lw:Int) (UV:J Nd),tQ ⟨f⟩ t=YC (⟨lw,UV⟩,cD UV (hx f))/\ig f t UV lw:=by
 have f1:=bj.1;obtain⟨lw,UV,D,S⟩:=afg bj r dK;have ln:=S.len;have mk:rF ((hx UV):Int) (0:Int)=YC (If (hx UV) 0):=by unfold rF;rw[Do ⟨by omega,by omega⟩,al]
 unfold tQ
 grind[qa3]
theorem acB:u0=ma:=rfl
theorem aby(r r':Int)(a b:J Nd)(I:(hx a)<=1000000):ud ⟨r,a⟩ ⟨r',b⟩=YC (KN (r=r'/\a=b)):=by
 unfold ud;simp only[aB]
 by_cases h0:r=r'
 case neg=>grind
 rw[aY h0,AC]
 by_cases h:(hx a)=hx b
 case neg=>rw[cC (by omega),ww,aF (λq=>h (by rw[q.2]))]
 rw[aY (by omega),AC];have key:=mu (body:=vn) (λi=>((i:Int),r,a,r',b)) (hx a) (λi=>a[i]! =b[i]!) (r:=Ss) (e:=h1) (λi N=>by
  unfold vn;simp (disch:=omega) only[aq,aN]
  grind) (by
  unfold vn;simp)
 refine(key).trans ?_
 by_cases q:a=b
 ·grind
 rw[EQ (λw=>q (nj h w)),aF (λw=>q w.2)]
theorem afk(c:aE)(es:J _)(D:(hx es)<=1000000)(_:(hx c.af.ii)<=1000000):
 tT c es=YC (KN (hx es=hx c.af.ii/\ ∀i,i<hx c.af.ii->(c.af.ii[i]!).2∈es)):=by
 unfold tT fE gE;simp only[aB]
 by_cases h0:(hx es)=hx c.af.ii
 case neg=>rw[hO (by omega),AC,aF (λq=>h0 q.1)]
 rw[ju (by omega),ww];have key:=jK (body:=cm) (λi=>(c.af.ii,es,((hx c.af.ii):Int),(i:Int))) (hx c.af.ii) (λi=>(c.af.ii[i]!).2∉es) (λi=>(i:Int)) (e:= -1) (λi N=>by
  unfold cm Bz;simp (disch:=omega) only[aA,aq c.af.ii i N,aj,nH es _ D,aN];refine⟨λq=>?_,λq=>?_⟩
  ·rw[aF q];rfl
  ·rw[aA (Y.1 q)];rfl) (by
  unfold cm;simp (disch:=omega) only[aF,AC])
 by_cases X: ∀i,i<hx c.af.ii->(c.af.ii[i]!).2∈es
 ·rw[show au cm (c.af.ii,es,((hx c.af.ii):Int),0)=_ from key.2 (λi N=>Y.2 (X i N)),aj,aj,aF (by omega),aA ⟨h0,X⟩]
  rfl
 obtain⟨i,N⟩:=YJ.1 X
 obtain⟨N,hn⟩:=Sv.1 N;obtain⟨m,m1,m2,m3⟩:=least (c:=λi=>(c.af.ii[i]!).2∉es) ⟨i,N,hn⟩;rw[show au cm (c.af.ii,es,((hx c.af.ii):Int),0)=_ from key.1 m m1 m2 m3,aj,aj,aA (by omega),aF (λw=>X w.2)];rfl
structure gV(k:bq):Prop where
 fI:aV k.lc
 ut:ig k.lc.jp.am k.lc.io k.ut.pp k.ut.lw
 cert:(k.lc.af.ii.map λx=>x.2).Perm (cD k.ut.pp (hx k.lc.jp.am))
theorem qb9{c:aE}(ok:aV c){UV:J Nd}{r:Int}(_:ig c.jp.am c.io UV r):
 ((cD UV (hx c.jp.am)).length=hx c.af.ii/\ ∀i,i<hx c.af.ii->(c.af.ii[i]!).2∈cD UV (hx c.jp.am))↔(c.af.ii.map λx=>x.2).Perm (cD UV (hx c.jp.am)):=by
 have cl:(c.af.ii.map λx=>x.2).length=(hx c.af.ii):=Sw ..;constructor
 ·rintro⟨D,S⟩
  refine gH (jQ ok.vX) (λx X=>?_) (by omega);obtain⟨i,N,rfl⟩:=dY.2 X;exact S i N
 intro h
 exact⟨by rw[<-h.length_eq,cl],λi N=>h.mem_iff.1 (dY.1 ⟨i,N,rfl⟩)⟩
theorem qa9{c:aE}(ok:aV c){UV:J Nd}{r:Int}(tr:ig c.jp.am c.io UV r):
 (hx c.af.ii=(cD UV (hx c.jp.am)).length/\ ∀i,i<(cD UV (hx c.jp.am)).length->rQ c.af.ii (cD UV (hx c.jp.am))[i]!/\leads (bm c.jp.am ((cD UV (hx c.jp.am))[i]!).2) (bm c.jp.am ((cD UV (hx c.jp.am))[i]!).1) c.io)↔(c.af.ii.map λx=>x.2).Perm (cD UV (hx c.jp.am)):=by
 have cl:(c.af.ii.map λx=>x.2).length=(hx c.af.ii):=Sw ..;obtain⟨_,nd,ld⟩:=tr.Qf ok.fD;constructor
 ·rintro⟨D,S⟩
  refine(gH nd (λx X=>?_) (by omega)).symm;obtain⟨i,N,rfl⟩:=aU.1 X;exact dY.1 (S i N).1
 intro h
 exact⟨by rw[<-h.length_eq,cl],λi N=>⟨dY.2 (h.mem_iff.2 (aJ N)),ld _ (aJ N)⟩⟩
theorem yt{k:bq}(fit:nm k.lc):hI k=YC (if gV k then 0 else 8):=by
 unfold hI;rw[iR fit,aj]
 by_cases ok:aV k.lc
 case neg=>rw[EQ ok,EQ (λh=>ok h.fI)];rfl
 rw[Do ok,aY rfl,AC];have bd:=ok.bd;obtain⟨r,UV,D,S⟩:=RI ok.fD ok.ie ok.cO;have same: ∀h:gV k,UV=k.ut.pp/\r=k.ut.lw:=λh=>S.same ok.fD.2.2 h.ut
 rw[D,aj]
 by_cases hr:r=k.ut.lw
 case neg=>grind
 have ln:=S.len;rw[aY hr,AC,acB,ajq UV k.ut.pp (by omega),aj]
 by_cases hn:UV=k.ut.pp
 case neg=>grind
 have el:=sY UV (hx k.lc.jp.am);rw[aA hn,SI,AC];show(tT k.lc (cD UV (hx k.lc.jp.am))).bind _=_;rw[afk k.lc _ (by omega) (by omega),aj];have iff:=qb9 ok S
 by_cases hj:(cD UV (hx k.lc.jp.am)).length=hx k.lc.af.ii/\ ∀i,i<hx k.lc.af.ii->(k.lc.af.ii[i]!).2∈cD UV (hx k.lc.jp.am)
 ·rw[aA hj,Do (⟨ok,by grind,by grind⟩)];rfl
 rw[aF hj,EQ (λh:gV k=>hj (iff.2 (by rw[hn];exact h.cert)))];rfl
theorem Ag{k:bq}(fit:nm k.lc):iu k=YC (if gV k then 0 else 8):=by
 unfold iu;rw[vM fit,aj]
 by_cases ok:aV k.lc
 case neg=>rw[EQ ok,EQ (λh=>ok h.fI)];rfl
 rw[Do ok,aY rfl,AC];have bd:=ok.bd;obtain⟨r,UV,D,S⟩:=Kx ok.fD ok.cO;have same: ∀h:gV k,UV=k.ut.pp/\r=k.ut.lw:=λh=>S.same ok.fD.2.2 h.ut
 have ln:=S.len;have azH:k.ut=⟨k.ut.lw,k.ut.pp⟩:=rfl;rw[D,aj,azH,aby _ _ _ _ (by omega),aj]
 by_cases hn:r=k.ut.lw/\UV=k.ut.pp
 case neg=>grind
 obtain⟨En,_,_⟩:=S.Qf ok.fD;rw[aA hn,SI,AC,RH S (by omega),aj,ln,LV ok _ En.kn,aj];have iff:=qa9 ok S
 by_cases hj:(hx k.lc.af.ii)=(cD UV (hx k.lc.jp.am)).length/\ ∀i,i<(cD UV (hx k.lc.jp.am)).length->rQ k.lc.af.ii (cD UV (hx k.lc.jp.am))[i]!/\leads (bm k.lc.jp.am ((cD UV (hx k.lc.jp.am))[i]!).2) (bm k.lc.jp.am ((cD UV (hx k.lc.jp.am))[i]!).1) k.lc.io
 ·rw[aA hj,Do (⟨ok,by grind,by grind⟩)];rfl
 rw[aF hj,EQ (λh:gV k=>hj (iff.2 (by rw[hn.2];exact h.cert)))];rfl
structure BQ(k:bq):Prop where
 c:uu k.lc
 n:(hx k.ut.pp)<=1000
theorem FC{k:bq}(h:BQ k):kI k k=YC h1:=by have hn:=h.n;unfold kI;rw[DL h.c,aj,ww,aby k.ut.lw k.ut.lw k.ut.pp k.ut.pp (by omega),aj,aA ⟨rfl,rfl⟩]
theorem afl{k:bq}(h:BQ k):sO k=YC k:=by have hn:=h.n;unfold sO De;rw[DM h.c,aj,bJ (by omega),aj,aj]
theorem ako(k:bq):xR k=YC h1\/(xR k=YC Ss/\BQ k):=by
 unfold xR E9
 rcases Bd k.lc with e|⟨e,sh⟩
 ·grind
 rw[e,aj,AC,aj,aB]
 by_cases h:70<hx k.ut.pp
 ·grind
 rw[aF (by omega)];exact .inr ⟨rfl,sh,by omega⟩
theorem eqS{c:aE}(ok:aV c){f:J Pt}(bj:aS f){UV:J Nd}{r:Int}(tr:ig f c.io UV r):
 ∃R:aE×Int,fw c ⟨f⟩ (cD UV (hx f))=YC R/\fu c ⟨f⟩ (cD UV (hx f))=YC R/\(R.2=0/\Bb c f (cD UV (hx f)) R.1\/R=(cE,18)):=by
 have f1:=bj.1;obtain⟨En,nd,_⟩:=tr.Qf bj;have el:=sY UV (hx f);obtain⟨R,r1,r2,r3⟩:=Jb ok bj En;have ee:lq f (cD UV (hx f))=0:=by unfold lq;rw[EQ (Y.2 En.cv),EQ (Y.2 nd),EQ (λh=>h En.kn)]
 have rn:=vQ ok bj (by omega) (λ_=>r1)
 grind
theorem mmS{α:Type}[BEq α][LawfulBEq α]: ∀{a b:J α},a.Nodup->(∀x∈a,x∈b)->hx a<=hx b
 | [],_,_,_=>Xc _
 |x::a,b,hd,h=>by
  rw[YI]at hd;have:=mmS (b:=b.erase x) hd.2 (λy hy=>by rw[Vg (λe=>hd.1 (by rw[<-e];exact hy))];exact h y (NE _ hy))
  grind
theorem uv{α:Type}[BEq α][LawfulBEq α]{a b:J α}(ha:a.Nodup)(hb:b.Nodup)(D: ∀x∈a,x∈b)(S: ∀x∈b,x∈a):a.Perm b:=gH ha D (mmS hb S)
theorem LZ{f:J Pt}{m:Nat}{p q:Pt}:q∈wX f m p↔q=p\/q∈f:=by
 unfold wX
 grind[GH,QK,List.take_append_drop]
theorem Gw{f:J Pt}(hs:fQ f){q:Nat}(hq:q<hx f){p:Pt}:p∈f.eraseIdx q↔p∈f/\p.1≠(f[q]!).1:=by
 rw[List.mem_eraseIdx_iff_getElem];constructor
 ·rintro⟨i,N,fk,rfl⟩
  refine⟨List.getElem_mem _,λe=>?_⟩;rw[<-getElem!_pos f i N]at e;rcases WF i q with c|c|c
  ·have:=eW hs c hq;omega
  ·exact fk c
  have:=eW hs c N;omega
 rintro⟨hp,fk⟩
 obtain⟨i,N,rfl⟩:=aU.1 hp
 grind
theorem Jg{f:J Pt}(hs:fQ f){q:Pt}(h:q∈f):bm f q.1=q:=by obtain⟨i,N,rfl⟩:=aU.1 h;exact nZ hs N rfl
theorem Gx{f:J Pt}(hs:fQ f){x:Int}(h:dZ f x):bm f x∈f/\(bm f x).1=x:=by
 obtain⟨i,N,rfl⟩:=h
 grind[Jg,aJ]
theorem Ky{f g:J Pt}(hf:fQ f)(hg:fQ g){x:Int}(h:dZ f x)(hm:bm f x∈g):bm g x=bm f x:=by
 grind[Jg,Gx]
theorem sE{f:J Pt}(hs:fQ f)(t:Int×Int):SO (λa b=>leads (bm f a) (bm f b) t) (dZ f) where
 pn:=λa _ h=>yd h h
 tr:=λ_ _ _ _ _ _ h k=>Bg h k
 Vr:=λa b ha hb fk=>by
  grind[oR,Gx]
abbrev rI(f:J Pt)(t:Int×Int)(a b:Int):Prop:=leads (bm f a) (bm f b) t
theorem afm{f:J Pt}(hs:fQ f){t:Int×Int}{l:J Int}(hp: ∀x∈l,dZ f x)(nd:l.Nodup):(∀e∈fT l,leads (bm f e.2) (bm f e.1) t)↔Hp (rI f t) l:=by
 constructor
 ·intro h j D S c
  have hm:(l[j]!,l[par j]!)∈fT l:=by
   refine aU.2 ⟨j-1,by rw[nJ];omega,?_⟩
   grind[Be]
  exact yd c (h _ hm)
 intro h e he
 obtain⟨i,N,rfl⟩:=aU.1 he;rw[nJ]at N;rw[Be l N];have:=h (i+1) (by omega) (by omega);have pe:par (i+1)=i / 2:=by rfl
 rw[pe]at this;refine oR t ?_ this;rw[(Gx hs (hp _ (aJ (by omega)))).2,(Gx hs (hp _ (aJ (by omega)))).2];exact λe=>bO.1 nd (i / 2) (i+1) (by omega) (by omega) e.symm
structure azI(R:bD)(W7:List Pt)(t:Int×Int):Prop where
 ok:iC R
 fD:R.lc.jp.am=W7
 io:R.lc.io=t
theorem iC.len{k:bD}(h:iC k):(hx k.bv)=(hx k.lc.jp.am):=by rw[<-h.perm.length_eq];exact Sw ..
theorem iC.bd{k:bD}(h:iC k):(hx k.bv)<=64:=by have:=h.len;have:=h.fI.fD.1;omega
theorem iC.has{k:bD}(h:iC k): ∀x∈k.bv,dZ k.lc.jp.am x:=λ_ X=>dL.1 (h.perm.mem_iff.2 X)
theorem iC.nd{k:bD}(h:iC k):k.bv.Nodup:=h.perm.nodup_iff.1 (eX h.fI.fD.2.2)
theorem iC.hp{k:bD}(h:iC k):Hp (rI k.lc.jp.am k.lc.io) k.bv:=(afm h.fI.fD.2.2 h.has h.nd).1 h.lead
abbrev G8:bD:=⟨cE,[]⟩
theorem Bb.bv{c:aE}{f:J Pt}(bj:aS f){l:J Int}(pm:(fa f).Perm l){R:bD}(e:R.bv=l)(q:Bb c f (fT l) R.lc)(h:Hp (rI f c.io) l):azI R f c.io:=by
 have nd:=pm.nodup_iff.1 (eX bj.2.2);refine⟨⟨q.ok,by rw[q.fD,e];exact pm,?_,?_⟩,q.fD,q.io⟩
 ·rw[e]
  exact uv (jQ q.ok.vX) (Bf nd) (λx X=>by obtain⟨y,hy,rfl⟩:=SJ.1 X;exact q.sub y hy) (λx X=>dY.1 (q.has x X))
 rw[e,q.fD,q.io]
 exact(afm bj.2.2 (λx X=>dL.1 (pm.mem_iff.2 X)) nd).2 h
theorem ofV{f:J Pt}{q:Nat}(hq:q<hx f){p:Pt}(he:(f[q]!).1=p.1):fa (f.set q p)=fa f:=by
 unfold fa;refine List.ext_getElem? λj=>?_
 grind
def Eo(c:aE)(to:Int×Int):Prop:=0<hx c.ae.bv/\jq (Ev.at c.ae.bv[0]!) to<=0
theorem Jh{c:aE}(ok:aV c){to:Int×Int}(rt:bI to)(dK:jo to)(le: ¬jq to c.io<0):xV c to=YC (KN (Eo c to),0):=by
 unfold xV;rw[iR ok.fit,Do ok,aj,bR dK,Do rt,aj,aY (by decide),AC,yp dK ok.cO,Do ⟨rt,ok.ie⟩,aj,aF le,AC];unfold HD;rw[mK _ ok.fit.ag,Do ok.oH,aj,aY rfl,AC]
 by_cases h:0<hx c.ae.bv
 ·have ev:=ok.oH.ev 0 h
  have g:=aq c.ae.bv 0 h;rw[show((0:Nat):Int)=0 from rfl]at g;rw[hO (by grind),AC,g,aj,aj,aY rfl,AC,yp ev.2.1 dK,Do ⟨ev.1,rt⟩,aj]
  by_cases S:jq (Ev.at c.ae.bv[0]!) to<=0
  ·rw[aA (show Eo c to from⟨h,S⟩),aA S]
  rw[aF (λk:Eo c to=>S k.2),aF S]
 rw[ju (by grind),ww,aj,aF (λk:Eo c to=>h k.1)]
 rfl
theorem pG{c:aE}(ok:aV c){to:Int×Int}(dK:jo to):qQ c to=YC (KN (Eo c to)):=by
 unfold qQ;simp[]
 by_cases h:0<hx c.ae.bv
 ·have ev:=ok.oH.ev 0 h
  have g:=aq c.ae.bv 0 h;rw[show((0:Nat):Int)=0 from rfl]at g;rw[aA (by omega),ww,g,aj,DG ev.2.1 dK,aj]
  congr 1
  by_cases S:jq (Ev.at c.ae.bv[0]!) to<=0
  ·rw[aA (show Eo c to from⟨h,S⟩),aA S]
  rw[aF (λk:Eo c to=>S k.2),aF S]
 rw[aF (by omega),AC,aF (λk:Eo c to=>h k.1)]
theorem akp{c:bA}(ok:gN c){i:Nat}(N:i<hx c.ii):Nx c (c.ii[i]!).1=YC (i:Int):=by
 have I:=ok.len;have k:=jK (body:=A4) (λj=>((c.ii[i]!).1,(j:Int),c.aO,c.ii)) (hx c.ii) (λj=>(c.ii[j]!).1=(c.ii[i]!).1) (λj=>(j:Int)) (e:= -1) (λj hj=>by
  unfold A4;simp (disch:=omega) only[aq c.ii j hj,aN]
  grind) (by
  unfold A4;simp)
 exact k.1 i N rfl λj hj e=>by have:=ok.up j i hj N;omega
abbrev Sh(c:aE)(t:Int×Int):aE:=⟨t,c.jp,c.af,c.ae,c.kw⟩
theorem FD{c:aE}(ok:aV c){to:Int×Int}(rt:bI to)(dK:jo to)(le: ¬jq to c.io<0)(kw:Eo c to):
 ∃(x:Int×Int) (c1:aE),ky c to=YC (c1,c.ae.bv[0]!,x,0)/\ni c=YC (c1,c.ae.bv[0]!,x)/\aV c1/\c1.jp=c.jp/\lK c.jp.am x/\jP c1=jP c+1/\c1.io=Ev.at c.ae.bv[0]!:=by
 obtain⟨i,c',N,num,r1,r2,A9,hf,hc,_⟩:=hf' ok kw.1;have g:=aq c.ae.bv 0 kw.1;rw[show((0:Nat):Int)=0 from rfl]at g;have Ls:(hx c'.af.ii)=hx c.af.ii-1:=by rw[hc];exact List.length_eraseIdx_of_lt N
 have PJ:c'.af.aO=c.af.aO:=by rw[hc];rfl
 refine⟨(c.af.ii[i]!).2,Sh c' _,?_,?_,A9,hf,ok.known i N,?_,rfl⟩
 ·unfold ky
  rw[Jh ok rt dK le,aj,ju rfl,ww,aA kw,SI,AC,aY rfl,AC,g,aj,r1,aj,aY rfl,AC]
 ·unfold ni
  rw[g,aj,show(c.ae.bv[0]!).2.2.1=(c.af.ii[i]!).1 from num.symm,akp ok.vX N,aj,aq c.af.ii i N,aj,num,r2,aj]
 unfold jP
 grind
theorem Ji{c:aE}(ok:aV c){to:Int×Int}(rt:bI to)(dK:jo to)(le: ¬jq to c.io<0)(kw: ¬Eo c to):ky c to=YC (cE,(0,0,0,0,0),(0,0),6):=by unfold ky;rw[Jh ok rt dK le,aj,ju rfl,ww,aF kw];rfl
theorem L1{c:aE}(ok:aV c){to:Int×Int}(rt:bI to)(dK:jo to)(le: ¬jq to c.io<0)(kw: ¬Eo c to):sP c to=YC (Sh c to,0):=by unfold sP;rw[Jh ok rt dK le,aj,ju rfl,ww,aF kw,AC,aY rfl,AC,nG ok,aj]
theorem Jj{c:aE}(ok:aV c)(to:Int×Int):qR c to=YC (Sh c to):=by unfold qR;rw[lA ok,aj]
theorem qa8{c:aE}(ok:aV c)(l:J Int){to:Int×Int}(rt:bI to)(dK:jo to)(le: ¬jq to c.io<0)(kw: ¬Eo c to):tZ ⟨c,l⟩ to=YC (⟨cE,[]⟩,(0,0),6):=by
 unfold tZ
 grind[Ji,aj]
def aP(c:aE)(l:J Int)(to:Int×Int)(out:J (Int×Int)):=
 (c.io.1,c.io.2,c.jp.am,c.af.aO,c.af.ii,c.ae.ai.aC,c.ae.ai.be,c.ae.ai.bi,c.ae.bv,c.ae.ax,c.kw,l,to.1,to.2,(0:Int),(0:Int),(0:Int),out)
def aR(c:aE)(l:J Int)(to:Int×Int)(out:J (Int×Int)):=
 (to.1,to.2,(0:Int),(0:Int),(0:Int),c.io.1,c.io.2,c.jp.am,c.af.aO,c.af.ii,c.ae.ai.aC,c.ae.ai.be,c.ae.ai.bi,c.ae.bv,c.ae.ax,c.kw,l,out)
theorem sF{c:aE}(ok:aV c): -200<=jP c/\jP c<=1000000:=by have D:=ok.vX.len;have S:=ok.vX.n0;have h3:=ok.vX.n1;unfold jP;omega
theorem imV{c:aE}(ok:aV c){to:Int×Int}(rt:bI to)(kw: ¬Eo c to){y:yc}(hy:y∈c.af.ii)(is:(cf c.jp.am y.2 c.io).2=h1):
 to.1*(cf c.jp.am y.2 c.io).1.2<(cf c.jp.am y.2 c.io).1.1*to.2:=by
 obtain⟨d,hd,_,ev⟩:=ok.Gu.has _ hy is;obtain⟨v,hv,he⟩:=aU.1 ev;have tl:=CB ok.oH v hv;have h0:0<(hx c.ae.bv):=by omega
 have e0:=(ok.oH.ev 0 h0).1.1;have Po:=(ok.oH.ev v hv).1.1;rw[he]at tl Po;have n1:=λq=>tl (.inl q)
 rw[rB]at n1;have n2: ¬jq (Ev.at c.ae.bv[0]!) to<=0:=λq=>kw ⟨h0,q⟩
 have n3:to.1*(Ev.at c.ae.bv[0]!).2<(Ev.at c.ae.bv[0]!).1*to.2:=by unfold jq at n2;rcases eJ ((Ev.at c.ae.bv[0]!).1*to.2) (to.1*(Ev.at c.ae.bv[0]!).2)with⟨a,b⟩|⟨a,b⟩|⟨a,b⟩<;>omega
 exact sj rt.1 e0 Po n3 (Int.not_lt.1 n1)
theorem Jk{c:aE}(ok:aV c){to:Int×Int}(rt:bI to)(dK:jo to)(le: ¬jq to c.io<0)(kw: ¬Eo c to):aV (Sh c to):=by
 have pt:=λ(x:Int×Int) (hb:lK c.jp.am x)=>Sy (bU ok.fD hb.2).1 (bU ok.fD hb.1).1
 refine⟨rt,dK,ok.fD,ok.vX,ok.oH,ok.NX,ok.hd,ok.known,?_⟩;refine bo.time (λy hy=>?_) ok.Gu;obtain⟨j,hj,rfl⟩:=aU.1 hy;have hb:=ok.known j hj;refine HQ (pt _ hb).1 (pt _ hb).2 ok.ie rt (by simp_all[rB]) (λis=>?_);exact KO (imV ok rt kw hy is)
theorem adS{h l:Pt}{t t':Int×Int}(hh:gO h)(I:gO l)(r:bI t)(r':bI t')(le:t.1*t'.2<=t'.1*t.2)(nf:(kg h l t).2=h1->t'.1*(kg h l t).1.2<(kg h l t).1.1*t'.2): ¬leads l h t':=by
 have agC:=HQ hh I r r' le (λis=>KO (nf is));intro hn;have e:kg h l t'=(t',h1):=by unfold kg;rw[Do hn]
 grind
theorem adT{c:aE}(ok:aV c){to:Int×Int}(rt:bI to)(dK:jo to)(le: ¬jq to c.io<0)(kw:Eo c to){c':aE}{x:Int×Int}(hd:nu c (Ev.num c.ae.bv[0]!)=YC (c',x,0)):
 ky c to=YC (Sh c' (Ev.at c.ae.bv[0]!),c.ae.bv[0]!,x,0):=by
 have g:=aq c.ae.bv 0 kw.1;rw[show((0:Nat):Int)=0 from rfl]at g;unfold ky;rw[Jh ok rt dK le,aj,ju rfl,ww,aA kw,SI,AC,aY rfl,AC,g,aj,hd,aj,aY rfl,AC]
structure Z8(c:aE)(l:List Int):Prop where
 ok:aV c
 pm:(fa c.jp.am).Perm l
 ct:(c.af.ii.map λx=>x.2).Perm (fT l)
theorem Z8.bd{c:aE}{l:J Int}(h:Z8 c l):(hx l)<=64:=by
 have:=h.ok.bd;have:(hx l)=(hx c.jp.am):=by rw[<-h.pm.length_eq];exact Sw ..
 omega
theorem abC{a b:Int×Int}: ¬jq a b<0↔b.1*a.2<=a.1*b.2:=by rw[rB];omega
theorem ag6{a b:Int×Int}:jq a b<=0↔a.1*b.2<=b.1*a.2:=by unfold jq;rcases eJ (a.1*b.2) (b.1*a.2)with⟨x,y⟩|⟨x,y⟩|⟨x,y⟩<;>omega
theorem akq{p q:Pt}(t:Int×Int)(h:p.1≠q.1)(hn: ¬leads p q t):leads q p t:=by
 unfold leads at*
 grind[Gv,Int.sub_mul]
section
variable {s t : Int × Int}
theorem ag7{c:aE}{l:J Int}(h:Z8 c l)(rs:bI s)(s64:jo s)(le: ¬jq s c.io<0)(kw: ¬Eo c s):iC ⟨Sh c s,l⟩:=by
 have ok:=h.ok;have nd:=h.pm.nodup_iff.1 (eX ok.fD.2.2);refine⟨Jk ok rs s64 le kw,h.pm,h.ct,λe he=>?_⟩;obtain⟨j,hj,X⟩:=dY.2 (h.ct.mem_iff.2 he);have hb:=ok.known j hj;rw[X]at hb;have p2:=bU ok.fD hb.2;have p1:=bU ok.fD hb.1;have nl: ¬leads (bm c.jp.am e.1) (bm c.jp.am e.2) s:=by
  refine adS p2.1 p1.1 ok.ie rs (by rw[abC]at le;exact le) λis=>?_
  have:=imV ok rs kw (aJ hj);rw[X]at this;exact this is
 grind[akq,ajt]
end
section
variable (f : J Pt)
end
section
variable {f : J Pt}
end
theorem adU(p q:Pt)(t t':Int×Int):G2 p q t'*t.2=G2 p q t*t'.2+(p.2.2-q.2.2)*(t'.1*t.2-t.1*t'.2):=by
 unfold G2
 grind
theorem RN(p q:Pt)(t:Int×Int):G2 q p t= -G2 p q t:=by
 unfold G2
 grind
theorem qb0{a b:Int}(hb:0<b)(h:0<=a*b):0<=a:=KJ λhn=>by have:=Int.mul_neg_of_neg_of_pos (show a<0 by omega) hb;omega
theorem qe4{p q:Pt}{t t':Int×Int}(d:1<=t.2)(d':1<=t'.2)(le:t.1*t'.2<=t'.1*t.2)(hb:q.2.2<=p.2.2)(h:0<=G2 p q t):0<=G2 p q t':=by refine qb0 (show 0<t.2 by omega) ?_;rw[adU p q t t'];have a:=Tj h (show 0<=t'.2 by omega);have b:=Tj (show 0<=p.2.2-q.2.2 by omega) (show 0<=t'.1*t.2-t.1*t'.2 by omega);omega
structure Yu(f:List Pt)(x:Int×Int)(t:Int×Int):Prop where
 both:lK f x
 zero:G2 (bm f x.2) (bm f x.1) t=0
 azJ:(bm f x.2).2.2<(bm f x.1).2.2
theorem Yu.behind{f:J Pt}{x t to:Int×Int}(h:Yu f x t)(d:1<=t.2)(d':1<=to.2)(le:t.1*to.2<=to.1*t.2):leads (bm f x.1) (bm f x.2) to:=by have z:=h.zero;have s:=h.azJ;have n:=RN (bm f x.2) (bm f x.1) t;have g:=qe4 (p:=bm f x.1) (q:=bm f x.2) d d' le (by omega) (by omega);unfold leads;omega
theorem Yu.B9{f:J Pt}{x t io:Int×Int}(h:Yu f x t)(d:1<=t.2)(d':1<=io.2)(ld:leads (bm f x.2) (bm f x.1) io):io.1*t.2<t.1*io.2:=by
 refine KJ λhn=>?_
 have b:=h.behind d d' (by omega);have n:=RN (bm f x.2) (bm f x.1) io;unfold leads at b ld;omega
section
variable {α : Type} [Inhabited α] {P : α -> α -> Prop} {Yz : α -> Prop}
end
section
variable {f : J Pt} {t : Int × Int}
end
theorem afp{a b:Int×Int}(h:a.1*b.2<=b.1*a.2): ¬jq b a<0:=by rw[abC];exact h
theorem akr{c:aE}(ok:aV c)(ld: ∀e∈c.af.ii.map λx=>x.2,leads (bm c.jp.am e.2) (bm c.jp.am e.1) c.io){to:Int×Int}(rt:bI to)(dK:jo to)(le: ¬jq to c.io<0)(kw:Eo c to):
 ∃x c1,ky c to=YC (c1,c.ae.bv[0]!,x,0)/\aV c1/\c1.jp=c.jp/\jP c1=jP c+1/\Yu c.jp.am x c1.io/\c.io.1*c1.io.2<c1.io.1*c.io.2/\c1.io.1*to.2<=to.1*c1.io.2:=by
 obtain⟨i0,c',Sf,num,r1,_,_,hf,hc,ge⟩:=hf' ok kw.1;obtain⟨x',c1,f1,_,A9,hf1,Sc,ME,Pp⟩:=FD ok rt dK le kw;have hb:=ok.known i0 Sf;obtain⟨d,hd,hn⟩:=ok.GD _ (aJ kw.1);obtain⟨y,hy,y1,y2,y3⟩:=ok.Gu.kw d hd;have hye:=Up.inj ok.Aa hy (aJ Sf) (by rw[<-y1,hn,num]);subst hye;have tm:Ev.at c.ae.bv[0]! =(cf c.jp.am (c.af.ii[i0]!).2 c.io).1:=by
  obtain⟨w,hw,he⟩:=aU.1 y3;have Pl:w=0:=KJ λX=>by refine ok.oH.nd 0 w (by omega) hw ?_;rw[he,<-hn,y1]
  subst Pl;rw[he]
 have abD:x'=(c.af.ii[i0]!).2:=by have:=adT ok rt dK le kw r1;rw[f1]at this;injection this with this;injection this with _ this;injection this with _ this;injection this with this _
 obtain⟨x,X⟩: ∃x,x=(c.af.ii[i0]!).2:=⟨_,rfl⟩;rw[<-X]at hb tm y2 abD;subst abD;have acE:=SJ.2 ⟨_,aJ Sf,X.symm⟩;have l0:=ld x' acE;have hpt:=bU ok.fD hb.2;have azK:=bU ok.fD hb.1;have nl: ¬leads (bm c.jp.am x'.1) (bm c.jp.am x'.2) c.io:=λh=>by have:=RN (bm c.jp.am x'.2) (bm c.jp.am x'.1) c.io;unfold leads at h l0;omega
 have W:cf c.jp.am x' c.io=kg _ _ c.io:=rfl;rw[W]at tm y2;unfold kg at tm y2;rw[EQ nl]at tm y2;have sl:(bm c.jp.am x'.2).2.2<(bm c.jp.am x'.1).2.2:=by
  refine KJ λh=>?_
  rw[EQ h]at y2;cases y2
 rw[Do sl]at tm;have tm:Ev.at c.ae.bv[0]! =met _ _:=tm;obtain⟨_,qa6,_,agD⟩:=HM hpt.1 azK.1 (by omega);have z:G2 (bm c.jp.am x'.2) (bm c.jp.am x'.1) (Ev.at c.ae.bv[0]!)=0:=by
  rw[tm];unfold G2;have:((bm c.jp.am x'.2).2.2- (bm c.jp.am x'.1).2.2)*(met (bm c.jp.am x'.2) (bm c.jp.am x'.1)).1= -((met (bm c.jp.am x'.2) (bm c.jp.am x'.1)).1*((bm c.jp.am x'.1).2.2- (bm c.jp.am x'.2).2.2)):=by rw[show(bm c.jp.am x'.2).2.2- (bm c.jp.am x'.1).2.2= -((bm c.jp.am x'.1).2.2- (bm c.jp.am x'.2).2.2) by omega,Int.neg_mul,Int.mul_comm]
  omega
 have evp:Yu c.jp.am x' _:=⟨hb,z,sl⟩;refine⟨x',c1,f1,A9,hf1,ME,by rw[Pp];exact evp,?_,?_⟩
 ·rw[Pp]
  exact evp.B9 (by rw[tm];exact qa6.1) ok.ie.1 l0
 rw[Pp]
 have S:=kw.2;rw[ag6]at S;exact S
noncomputable def oJ(P:Int->Int->Prop):J Int->Int
 | []=>0
 |x::r=>r.foldl (λt y=>if P y t then y else t) x
noncomputable def oS(bit:Int->Nat->Nat)(l:J Int)(top:Int)(d b:Nat):J Int:=l.filter λx=>decide (x≠top/\bit x d=b)
noncomputable def oF(P:Int->Int->Prop)(bit:Int->Nat->Nat):Nat->J Int->Int->Nat->J (Int×Int)
 |0,_,_,_=>[]
 |_+1,[],_,_=>[]
 |n+1,x::r,u,d=>(oJ P (x::r),u)::(oF P bit n (oS bit (x::r) (oJ P (x::r)) d 0) (oJ P (x::r)) (d+1)++oF P bit n (oS bit (x::r) (oJ P (x::r)) d 1) (oJ P (x::r)) (d+1))
section
variable {P : Int -> Int -> Prop} {Yz : Int -> Prop} {bit : Int -> Nat -> Nat}
theorem Od (o : SO P Yz) : ∀ (r : J Int) (x : Int), Yz x -> (∀ y ∈ r, Yz y) -> (r.foldl (fun t y => if P y t then y else t) x = x \/ r.foldl (fun t y => if P y t then y else t) x ∈ r) /\
    ¬ P x (r.foldl (fun t y => if P y t then y else t) x) /\ ∀ y ∈ r, ¬ P y (r.foldl (fun t y => if P y t then y else t) x)
  | [], x, X, _ => ⟨.inl rfl, o.pn x X, fun y h => by cases h⟩
  | z :: r, x, X, hr => by
    rw [Mr]
    have hz := hr z Md
    have PN := fun y hy => hr y (NE _ hy)
    by_cases c : P z x
    · rw [Do c]
      obtain ⟨a1, a2, a3⟩ := Od o r z hz PN
      have hT : Yz (r.foldl (fun t y => if P y t then y else t) z) := by
        rcases a1 with e | e
        · rw [e]; exact hz
        exact PN _ e
      refine ⟨.inr (by rcases a1 with e | e; · rw [e]; exact Md
                       exact NE _ e), ?_, fun y hy => ?_⟩
      · exact o.Yt X hz hT (o.asym hz X c) a2
      grind
    rw [EQ c]
    obtain ⟨a1, a2, a3⟩ := Od o r x X PN
    have hT : Yz (r.foldl (fun t y => if P y t then y else t) x) := by
      grind
    refine ⟨a1.imp id (NE _), a2, fun y hy => ?_⟩
    rcases SK.1 hy with rfl | hy
    · exact o.Yt hz X hT c a2
    exact a3 y hy
theorem wY(o:SO P Yz){l:J Int}(h0:l≠[])(hS: ∀x∈l,Yz x):oJ P l∈l/\ ∀y∈l,¬P y (oJ P l):=by
 cases l with
 |nil=>grind
 |cons x r=>
  obtain⟨a1,a2,a3⟩:=Od o r x (hS x Md) (λy hy=>hS y (NE _ hy));refine⟨?_,λy hy=>?_⟩
  ·rcases a1 with e|e
   ·show r.foldl _ x∈_;grind
   exact NE _ e
  rcases SK.1 hy with rfl|hy
  ·exact a2
  exact a3 y hy
theorem Of(o:SO P Yz){l:J Int}(hS: ∀x∈l,Yz x){a:Int}(ha:a∈l)(h: ∀y∈l,¬P y a):oJ P l=a:=by
 obtain⟨b1,b2⟩:=wY o (vk ha) hS;rcases Ze _ with e|e
 ·exact e
 rcases o.Vr _ _ (hS _ b1) (hS _ ha) e with k|k
 ·exact absurd k (h _ b1)
 grind
theorem aaa(o:SO P Yz){l l':J Int}(hS: ∀x∈l,Yz x)(p:l.Perm l'):oJ P l=oJ P l':=by
 by_cases h0:l=[]
 ·subst h0;rw[List.nil_perm.1 p]
 grind[wY,Of]
theorem iU{l:J Int}{top:Int}{d b:Nat}{x:Int}:x∈oS bit l top d b↔x∈l/\x≠top/\bit x d=b:=by unfold oS;simp
theorem zn{l:J Int}{top:Int}(h:top∈l)(d b:Nat):(oS bit l top d b).length<(hx l):=by refine List.length_filter_lt_length_iff_exists.2 ⟨top,h,?_⟩;simp
theorem uw{l:J Int}(h:l.Nodup)(top:Int)(d b:Nat):(oS bit l top d b).Nodup:=h.filter _
theorem HT(o:SO P Yz): ∀(n:Nat) (l l':J Int) (u:Int) (d:Nat),(∀x∈l,Yz x)->l.Perm l'->oF P bit n l u d=oF P bit n l' u d
 |0,_,_,_,_,_,_=>by rfl
 |n+1,[],l',u,d,_,p=>by simp_all
 |n+1,x::r,[],u,d,_,p=>by simp_all
 |n+1,x::r,y::q,u,d,hS,p=>by
  have e:=aaa o hS p;simp only[oF];rw[<-e];have sp: ∀b,(oS bit _ _ d b).Perm (oS bit (y::q) (oJ P (x::r)) d b):=λb=>p.filter _
  rw[HT o n _ _ _ _ (λz hz=>hS z (iU.1 hz).1) (sp 0),HT o n _ _ _ _ (λz hz=>hS z (iU.1 hz).1) (sp 1)]
theorem abE{α:Type}[BEq α][LawfulBEq α]: ∀{a b:J α},a.Nodup->(∀x∈a,x∈b)->hx a<=hx b
 | [],_,_,_=>Xc _
 |x::a,b,hd,h=>by
  rw[YI]at hd;have:=abE (b:=b.erase x) hd.2 (λy hy=>by rw[Vg (λe=>hd.1 (by rw[<-e];exact hy))];exact h y (NE _ hy))
  grind
theorem DT(o:SO P Yz)(hb: ∀x d,bit x d<2): ∀(n:Nat) (l:J Int) (u:Int) (d:Nat),(∀x∈l,Yz x)->l.Nodup->hx l<=n->((oF P bit n l u d).map λe=>e.1).Perm l/\ ∀e∈oF P bit n l u d,e.2=u\/(e.2∈l/\P e.2 e.1)
 |0,l,u,d,_,_,h=>by have:l=[]:=Ml.1 (by omega);subst this;exact⟨Y2 _,λe he=>by cases he⟩
 |n+1,[],u,d,_,_,_=>⟨Y2 _,λe he=>by cases he⟩
 |n+1,x::r,u,d,hS,nd,h=>by
  obtain⟨t1,t2⟩:=wY o (YF x r) hS;have ih:=λb=>DT o hb n (oS bit (x::r) (oJ P (x::r)) d b) (oJ P (x::r)) (d+1) (λz hz=>hS z (iU.1 hz).1) (uw nd _ d b) (by have:=zn (bit:=bit) t1 d b;omega)
  have pb: ∀b,∀e∈oF P bit n _ _ _,e.2∈x::r/\P e.2 e.1:=λb e he=>by
   have k:=(ih b).1.mem_iff.1 (SJ.2 ⟨e,he,rfl⟩);rcases(ih b).2 e he with q|⟨q1,q2⟩
   ·rw[q]
    refine⟨t1,?_⟩;obtain⟨k1,k2,_⟩:=iU.1 k;rcases o.Vr _ _ (hS _ t1) (hS _ k1) (λe=>k2 e.symm)with w|w
    ·exact w
    grind
   exact⟨(iU.1 q1).1,q2⟩
  refine⟨?_,λe he=>?_⟩
  ·simp[oF,]
   refine(List.Perm.cons _ ((ih 0).1.append (ih 1).1)).trans ?_;refine gH (YI.2 ⟨λhm=>?_,Ih.2 ⟨uw nd _ d 0,uw nd _ d 1,λa ha b KK e=>?_⟩⟩) (λy hy=>?_) ?_
   ·grind
   ·have w1:=(iU.1 ha).2.2
    have w2:=(iU.1 KK).2.2
    grind
   ·rcases SK.1 hy with rfl|hy
    ·exact t1
    rcases Ii.1 hy with hy|hy<;>exact(iU.1 hy).1
   have sub:(x::r).length<=(oJ P (x::r)::(oS bit _ _ d 0++oS bit _ _ d 1)).length:=abE nd λy hy=>by
    by_cases c:y=oJ P (x::r)
    ·grind
    refine NE _ (Ii.2 ?_)
    have:=hb y d
    by_cases z:bit y d=0
    ·exact .inl (iU.2 ⟨hy,c,z⟩)
    exact .inr (iU.2 ⟨hy,c,by omega⟩)
   exact sub
  simp[oF]at he
  grind
theorem ksK{Q : Int -> Int -> Prop}(o : SO P Yz)(q : SO Q Yz)(hb : ∀ x d, bit x d < 2) : ∀ (n : Nat) (l : J Int) (u : Int) (d : Nat), (∀ x ∈ l, Yz x) -> l.Nodup -> (hx l) <= n ->
    (∀ e ∈ oF P bit n l u d, e.2 = u \/ Q e.2 e.1) -> u ∉ l -> oF Q bit n l u d = oF P bit n l u d /\ ∀ y ∈ l, y = oJ P l \/ Q (oJ P l) y
  | 0, l, u, d, _, _, h, _, _ => by
    have : l = [] := Ml.1 (by omega)
    subst this
    exact⟨by rfl, λy hy => by cases hy⟩
  | n + 1, [], u, d, _, _, _, _, _ => ⟨by rfl, λy hy => by cases hy⟩
  | n + 1, x :: r, u, d, hS, nd, h, hQ, hu => by
    obtain⟨t1, t2⟩ := wY o (YF x r) hS
    have ne : ∀ b, ∀ e ∈ oF P bit n _ _ _, e.2 ≠ u := λb e he w => by
      obtain⟨_, k2⟩ := DT o hb n (oS bit (x :: r) (oJ P (x :: r)) d b) _ (d + 1) (λz hz => hS z (iU.1 hz).1) (uw nd _ d b) (by have := zn (bit := bit) t1 d b; omega)
      rcases k2 e he with k | ⟨k, _⟩
      ·exact hu (by rw[<-w, k]; exact t1)
      exact hu (by rw[<-w]; exact(iU.1 k).1)
    have ih : ∀ b, b = 0 \/ b = 1 -> _ := λb Vl => ksK o q hb n (oS bit (x :: r) (oJ P (x :: r)) d b) _ _ (λz hz => hS z (iU.1 hz).1) (uw nd _ d b) (by have := zn (bit := bit) t1 d b; omega)
      (λe he => by
        have := hQ e (NE _ (Ii.2 (by rcases Vl with rfl | rfl; exact .inl he; exact .inr he)))
        exact .inr (this.resolve_left (ne b e he))) (λhm => (iU.1 hm).2.1 rfl)
    have ahead : ∀ y ∈ x :: r, y = oJ P _ \/ Q _ y := λy hy => by
      by_cases c : y = oJ P (x :: r)
      ·exact .inl c
      right
      have KE := hb y d
      have Vl : bit y d = 0 \/ bit y d = 1 := by omega
      have ym : y ∈ oS bit _ _ d _ := iU.2 ⟨hy, c, rfl⟩
      have sm : ∀ z ∈ oS bit _ (oJ P (x :: r)) d (bit y d), Yz z := λz hz => hS z (iU.1 hz).1
      have st := (wY o (vk ym) sm).1
      have aqR : Q (oJ P (x :: r)) (oJ P (oS bit (x :: r) (oJ P (x :: r)) d (bit y d))) := by
        have hm : (oJ P (oS bit (x :: r) (oJ P (x :: r)) d (bit y d)), oJ P (x :: r)) ∈ oF P bit n (oS bit (x :: r) (oJ P (x :: r)) d (bit y d)) (oJ P (x :: r)) (d + 1) := by
          have I := zn (bit := bit) t1 d (bit y d)
          generalize hs : oS bit _ _ d _ = s at *
          cases s with
          | nil => cases ym
          | cons a s =>
            cases n with
            | zero => simp at h I; subst h; simp at I
            | succ n => exact Md
        have Iq : (oJ P (oS bit (x :: r) (oJ P (x :: r)) d (bit y d)), oJ P (x :: r)) ∈ oF P bit n (oS bit (x :: r) (oJ P (x :: r)) d 0) (oJ P (x :: r)) (d + 1) ++ oF P bit n (oS bit (x :: r) (oJ P (x :: r)) d 1) (oJ P (x :: r)) (d + 1) := by
          refine Ii.2 ?_
          rcases Vl with e | e
          ·rw[e]at hm ⊢; exact .inl hm
          rw[e]at hm ⊢; exact .inr hm
        have := hQ _ (NE _ Iq)
        exact this.resolve_left (λw => hu (by rw[<-w]; exact t1))
      rcases(ih _ Vl).2 y ym with e | e
      ·rw[e]; exact aqR
      exact q.tr _ _ _ (hS _ t1) (sm _ st) (hS _ hy) aqR e
    have agE := Of q hS t1 λy hy w => by
      rcases ahead y hy with e | e
      ·rw[e]at w; exact q.pn _ (hS _ t1) w
      exact q.asym (hS _ t1) (hS _ hy) e w
    simp[oF]
    grind
end
theorem Jl{α:Type}(z:α): ∀(l:J _) (k:Int) (a:α) (j:Int),lr z (nO l k a) j=if j=k then a else lr z l j
 | [],k,a,j=>by simp only[nO,lr];simp
 |p::l,k,a,j=>by
  simp[nO]
  by_cases h:k=p.1
  ·rw[ju h,ww]
   simp[lr]
   grind
  rw[hO h,AC]
  simp[lr];rw[Jl z l k a j]
  grind
def vU(m:J (Int×Int))(l:J (Int×Int)):J (Int×Int):=l.foldl (λm e=>nO m e.1 e.2) m
theorem Srt(m l l':J _):vU m (l++l')=vU (vU m l) l':=List.foldl_append ..
theorem afr: ∀(l m:J _) (j:Int),(l.map λe=>e.1).Nodup->lr 0 (vU m l) j=if j∈l.map λe=>e.1 then lr 0 l j else lr 0 m j
 | [],m,j,_=>by rfl
 |e::l,m,j,nd=>by
  obtain⟨D,S⟩:=YI.1 (by simpa using nd:(e.1::l.map λe=>e.1).Nodup);show lr 0 (vU (nO m e.1 e.2) l) j=_;rw[afr l _ j S,Jl];simp[lr]
  grind
theorem Jm: ∀{l:J _} {j v:Int},(l.map λe=>e.1).Nodup->(j,v)∈l->lr 0 l j=v
 |e::l,j,v,nd,h=>by
  obtain⟨D,S⟩:=YI.1 (by simpa using nd:(e.1::l.map λe=>e.1).Nodup);simp[lr];rcases SK.1 h with rfl|h
  ·simp
  have:j≠e.1:=λc=>D (by grind)
  rw[hO this,AC];exact Jm S h
def CC(x:Int)(d:Nat):Nat:=x.toNat / 2^(min d 64)%2
theorem Jn(x:Int)(d:Nat):CC x d<2:=Nat.mod_lt _ (by omega)
noncomputable def zf(f:J Pt)(t:Int×Int):J (Int×Int):=oF (rI f t) CC (hx f) (fa f) (-1) 0
noncomputable def wg(f:J Pt)(t:Int×Int):J Int:=f.map λp=>lr 0 (zf f t) p.1
def fU(f:J Pt)(U:J Int):Nat->J (Int×Int)
 |0=>[]
 |i+1=>fU f U i++(if 0<=U[i]! then [((f[i]!).1,U[i]!)]else [])
section
variable {f : J Pt} {t : Int × Int}
theorem Ah(bj:aS f):((zf f t).map λe=>e.1).Perm (fa f)/\ ∀e∈zf f t,e.2= -1\/(e.2∈fa f/\rI f t e.2 e.1):=
 DT (sE bj.2.2 t) Jn (hx f) _ _ 0 (λx X=>dL.1 X) (eX bj.2.2) (by unfold fa;simp)
theorem DU(f:J Pt)(t:Int×Int):(wg f t).length=(hx f):=Sw ..
theorem RO{i:Nat}(N:i<hx f):(wg f t)[i]! =lr 0 (zf f t) (f[i]!).1:=by
 unfold wg
 grind
theorem ag8(bj:aS f){i:Nat}(N:i<hx f):((f[i]!).1,(wg f t)[i]!)∈zf f t:=by
 obtain⟨D,_⟩:=Ah (t:=t) bj;obtain⟨e,he,S⟩:=SJ.1 (D.mem_iff.2 (dL.2 ⟨i,N,rfl⟩));have nd:=D.nodup_iff.2 (eX bj.2.2)
 grind[RO,Jm]
theorem alu(bj:aS f){i:Nat}(N:i<hx f):(wg f t)[i]! = -1\/(0<=(wg f t)[i]!/\dZ f (wg f t)[i]!/\(wg f t)[i]!≠(f[i]!).1/\leads (bm f (wg f t)[i]!) f[i]! t):=by
 rcases(Ah bj).2 _ (ag8 bj N)with h|⟨D,S⟩
 ·exact .inl h
 have hp:=dL.1 D
 have pk:=bU bj hp;have S:leads _ _ t:=S;rw[nZ bj.2.2 N rfl]at S;refine .inr ⟨?_,hp,λe=>?_,S⟩
 ·have:=pk.1.1
  rw[pk.2]at this;exact this
 grind[nZ,yd]
theorem DV{U:J Int}: ∀{n:Nat} {e:Int×Int},e∈fU f U n↔ ∃i,i<n/\0<=U[i]!/\e=((f[i]!).1,U[i]!)
 |0,e=>by
  constructor
  ·intro h;cases h
  omega
 |n+1,e=>by
  rw[fU,Ii,DV]
  grind
theorem wZ(U:J Int): ∀n,(fU f U n).length<=n
 |0=>Pc _
 |n+1=>by
  have:=wZ U n;rw[fU,YG]
  grind
theorem srt(hs:fQ f)(U:J Int): ∀n,n<=hx f->(fU f U n).Nodup
 |0,_=>g'
 |n+1,h=>by
  refine Ih.2 ⟨srt hs U n (by omega),by split<;>simp,λa ha b hb e=>?_⟩;obtain⟨i,D,_,h3⟩:=DV.1 ha;split at hb
  ·have hb:=Su.1 hb
   rw[hb]at e;rw[h3]at e;have:(f[i]!).1=(f[n]!).1:=by injection e
   have:=eW hs D h;omega
  cases hb
theorem CD(bj:aS f):Bc f (fU f (wg f t) (hx f))/\(fU f (wg f t) (hx f)).Nodup/\ ∀e∈fU f (wg f t) (hx f),leads (bm f e.2) (bm f e.1) t:=by
 have f1:=bj.1;have el:=wZ (f:=f) (wg f t) (hx f);have key: ∀e∈fU f (wg f t) (hx f),lK f e/\e.1≠e.2/\leads (bm f e.2) (bm f e.1) t:=λe he=>by
  obtain⟨i,N,h0,rfl⟩:=DV.1 he;rcases alu (t:=t) bj N with h|⟨_,S,h3,h4⟩
  ·omega
  exact⟨⟨⟨i,N,rfl⟩,S⟩,λe=>h3 e.symm,by rw[nZ bj.2.2 N rfl];exact h4⟩
 refine⟨⟨by omega,λe he=>?_,λe he=>(key e he).1⟩,srt bj.2.2 _ _ (Pc _),λe he=>(key e he).2.2⟩;obtain⟨hb,ne,_⟩:=key e he;obtain⟨⟨p1,p2⟩,q1,q2⟩:=Sy (bU bj hb.1) (bU bj hb.2);unfold gO at p1 q1;unfold jO;omega
theorem aab(bj:aS f){t':Int×Int}(h: ∀e∈fU f (wg f t) (hx f),leads (bm f e.2) (bm f e.1) t'):wg f t'=wg f t:=by
 have so:=sE bj.2.2 t;have so':=sE bj.2.2 t';have hS: ∀x∈fa f,dZ f x:=λx X=>dL.1 X
 have e:=(ksK so so' Jn (hx f) _ _ 0 hS (eX bj.2.2) (by unfold fa;simp) (λe he=>by
  rcases(Ah bj).2 e he with k|⟨k1,k2⟩
  ·exact .inl k
  ·right
   have hk:=(Ah bj).1.mem_iff.1 (SJ.2 ⟨e,he,rfl⟩);obtain⟨i,N,ei⟩:=dL.1 hk;have nd:=(Ah (t:=t) bj).1.nodup_iff.2 (eX bj.2.2);have ent:(wg f t)[i]! =e.2:=by rw[RO N,ei];exact Jm nd he
   have F:=bU bj (hS _ k1);have p1:=F.1.1;rw[F.2]at p1;have:=h _ (DV.2 ⟨i,N,by rw[ent];exact p1,rfl⟩);rw[ent,ei]at this;exact this) (λhm=>by
  have F:=bU bj (hS _ hm);have p1:=F.1.1;rw[F.2]at p1;exact absurd p1 (by decide))).1
 unfold wg;rw[show zf f t'=zf f t from e]
end
theorem adV{x:Int}(h0:0<=x)(d:Nat):lR d5 x (d:Int)=((x.toNat / 2^(min d 64):Nat):Int):=by
 unfold lR;rw[show(IntKind.bits d5)=64 from rfl,al,Int.fdiv_eq_ediv_of_nonneg _ (KO (Int.pow_pos (by decide)))]
 grind
theorem ag9{n:Nat}(h:n<9223372036854775808):uC d5 (n:Int) 1=((n%2:Nat):Int):=by
 unfold uC;have e:(BitVec.ofInt _ (n:Int)&&&BitVec.ofInt (IntKind.bits d5) 1).toNat=n%2:=by
  rw[BitVec.toNat_and,BitVec.toNat_ofInt,BitVec.toNat_ofInt];rw[show(IntKind.bits d5)=64 from rfl]
  grind
 rw[e];have c:n%2=0\/n%2=1:=by omega
 rcases c with c|c<;>rw[c]<;>rfl
theorem con{x:Int}(h0:0<=x)(D:x<=65535)(d:Nat):uC d5 (lR d5 x (d:Int)) 1=(CC x d:Int):=by
 rw[adV h0,ag9]
 ·rfl
 have:=Nat.div_le_self x.toNat (2^(min d 64));omega
theorem ag'{x:Int}(h0:0<=x)(d:Nat):Int.tmod (lR d5 x (d:Int)) 2=(CC x d:Int):=by rw[adV h0];rfl
section
variable {f : J Pt} {t : Int × Int}
noncomputable def mz(t:Int×Int)(r:J Pt)(x:Pt):Pt:=r.foldl (λa p=>if leads p a t then p else a) x
theorem L2(bj:aS f): ∀(r:J Pt) (x:Pt),x∈f->(∀p∈r,p∈f)->(mz t r x).1=(r.map λp=>p.1).foldl (λa y=>if rI f t y a then y else a) x.1/\mz t r x∈f
 | [],x,X,_=>⟨rfl,X⟩
 |p::r,x,X,hr=>by
  have hp:=hr p Md;have e:rI f t p.1 x.1↔leads p x t:=by show leads _ _ t↔_;rw[Jg bj.2.2 hp,Jg bj.2.2 X]
  show(mz t r (if leads p x t then p else x)).1=_/\mz t r (if leads p x t then p else x)∈f;rw[List.map_cons,Mr]
  by_cases c:leads p x t
  ·rw[Do c,Do (e.2 c)];exact L2 bj r p hp λq hq=>hr q (NE _ hq)
  rw[EQ c,EQ (λk=>c (e.1 k))];exact L2 bj r x X λq hq=>hr q (NE _ hq)
def iE(l:J Pt)(top:Int)(d b:Nat):J Pt:=l.filter λp=>decide (p.1≠top)&&KN (CC p.1 d=b)
theorem w3(l:J Pt)(top:Int)(d b:Nat):(iE l top d b).map (λp=>p.1)=oS CC (l.map λp=>p.1) top d b:=by
 unfold iE oS
 induction l with
 |nil=>rfl
 |cons p l ih=>
  grind
theorem aac{l:J Pt}{top:Int}{d b:Nat}{p:Pt}(h:p∈iE l top d b):p∈l:=(List.mem_filter.1 h).1
theorem CE(l:J Pt)(top:Int)(d b:Nat):(iE l top d b).length<=(hx l):=SL ..
theorem DW(l:J Pt)(p:Pt)(top:Int)(d b:Nat):iE (l++[p]) top d b=iE l top d b++(if p.1≠top/\CC p.1 d=b then [p]else []):=by
 unfold iE
 grind
theorem adW(bj:aS f)(r:bI t)(dK:jo t){p q:Pt}(hp:p∈f)(hq:q∈f)(fk:p.1≠q.1):de p q (t.1,t.2)=YC (KN (leads p q t),0):=by
 rcases pE (bj.2.1 _ hp) (bj.2.1 _ hq) dK r with h|⟨h,_⟩
 ·rw[show((t.1,t.2):Int×Int)=t from rfl,h,EQ fk]
 omega
theorem fpc{l:J Pt}{x:Pt}(i:Nat)(N:i<hx l):mz t (l.take (i+1)) x=if leads l[i]! (mz t (l.take i) x) t then l[i]! else mz t (l.take i) x:=by rw[cB N];unfold mz;simp
structure Yg(f:List Pt)(l:List Pt):Prop where
 sub: ∀p∈l,p∈f
 nd:(l.map λp=>p.1).Nodup
 len:(hx l)<=64
theorem Yg.side{l:J Pt}(h:Yg f l)(top:Int)(d b:Nat):Yg f (iE l top d b) where
 sub:=λp hp=>h.sub p (aac hp)
 nd:=by rw[w3];exact uw h.nd _ _ _
 len:=SH (CE ..) h.len
theorem Yg.bits(bj:aS f){l:J Pt}(h:Yg f l){p:Pt}(hp:p∈l):0<=p.1/\p.1<=65535:=by have:=bj.2.1 p (h.sub p hp);unfold gO at this;omega
theorem Yg.ne{l:J Pt}(h:Yg f l){i j:Nat}(N:i<hx l)(hj:j<hx l)(fk:i≠j):(l[i]!).1≠(l[j]!).1:=by
 have ll:(l.map λp=>p.1).length=(hx l):=Sw ..;intro e;rcases WF i j with c|c|c
 ·exact bO.1 h.nd i j c (by omega) (by grind)
 ·exact fk c
 exact bO.1 h.nd j i c (by omega) (by grind)
theorem FE(t:Int×Int): ∀(r:J Pt) (x:Pt),mz t r x=x\/mz t r x∈r
 | [],_=> .inl rfl
 |p::r,x=>by
  show mz t r (if leads p x t then p else x)=x\/mz t r (if leads p x t then p else x)∈_
  by_cases c:leads p x t
  ·rw[Do c]
   rcases FE t r p with e|e
   ·rw[e];exact .inr Md
   grind
  rw[EQ c]
  exact(FE t r x).imp id (NE _)
theorem adX{l:J Pt}(h:Yg f l){i:Nat}(N:i+1<hx l):(l[i+1]!).1≠(mz t ((l.drop 1).take i) l[0]!).1:=by
 rcases FE t _ l[0]! with e|e
 ·rw[e];exact h.ne N (by omega) (by omega)
 obtain⟨j,hj,ej⟩:=aU.1 e
 rw[PP,Mi]at hj;have:((l.drop 1).take i)[j]! =l[1+j]!:=by
  grind
 rw[<-ej,this];exact h.ne N (by omega) (by omega)
theorem XRS{l:J Pt}{i:Nat}(_:i+1<hx l):(l.drop 1)[i]! =l[i+1]!:=by simp
def RF(t:Int×Int)(l:J Pt)(B4:J (Int×Int))(d:Nat)(top:Pt)(s0 s1:J Pt)(i:Nat):=
 ((d:Int),((hx l):Int),(i:Int),l,B4,t.1,t.2,top.1,top.2.1,top.2.2,s0,s1)
def UW(t:Int×Int)(l:J Pt)(B4:J (Int×Int))(u:Int)(d:Nat)(top:Pt)(i:Nat):=
 (u,(d:Int),(1:Nat),hx l-1,hx l-1,((hx l-1:Nat):Int),(i:Int),l,B4,t.1,t.2,top)
theorem alv(bj:aS f){l:J Pt}(h:Yg f l){d:Nat}(hd:d<=1000){top:Pt}{B4:J _}{u:Int}{c0:_}{c1:_}(hc:(hx c1.2.2.2.2.1)=hx l)
 {M2 M3:J _} (r1:c0 (t.1,t.2,top.1,((d+1:Nat):Int),iE l top.1 d 0,B4)=YC (iE l top.1 d 0,M2)) (r2:c0 (t.1,t.2,top.1,((d+1:Nat):Int),iE l top.1 d 1,M2)=YC (iE l top.1 d 1,M3)):
 au (jB c0 c1) (RF t l B4 d top [] [] 0)=YC (.done (l,M3)):=by
 have I:=h.len;have st:=bc (body:=jB c0 c1) (λi=>RF t l B4 d top (iE (l.take i) top.1 d 0) (iE (l.take i) top.1 d 1) i) (hx l) (λi N=>by
  have pm:=aJ N;obtain⟨b0,b1⟩:=h.bits bj pm;have bt:=con b0 b1 d;have lt:=Jn (l[i]!).1 d;have s0:=DW (l.take i) l[i]! top.1 d 0;have s1:=DW (l.take i) l[i]! top.1 d 1;rw[<-cB N]at s0 s1;have l0:(iE (l.take i) top.1 d 0).length<=64:=SH (CE ..) (by rw[PP];omega);have l1:(iE (l.take i) top.1 d 1).length<=64:=SH (CE ..) (by rw[PP];omega);have a0:aQ _ [l[i]!]=YC (iE (l.take i) top.1 d 0++[l[i]!]):=ba (by rw[IR];omega);have a1:aQ _ [l[i]!]=YC (iE (l.take i) top.1 d 1++[l[i]!]):=ba (by rw[IR];omega);unfold jB RF;simp (disch:=omega) only[aq l i N,aN,]
  grind)
 rw[Mq]at st;refine(st).trans (ar ?_);unfold jB RF;simp (disch:=omega) only[aF,AC,aN,r1,r2,aj,hc,beq_self_eq_true,ww]
theorem aiQ{l:J Pt}(h0:l≠[]):az l 0=YC l[0]!:=aq l 0 (D8.2 h0)
theorem aqS(bj:aS f)(r:bI t)(dK:jo t){l:J Pt}(h:Yg f l)(h0:l≠[]){d:Nat}(hd:d<=1000){B4:J (Int×Int)}{u:Int}{c0:_}
 {M2 M3:J (Int×Int)} (r1:c0 (t.1,t.2,(mz t (l.drop 1) l[0]!).1,((d+1:Nat):Int),iE l (mz t (l.drop 1) l[0]!).1 d 0,nO B4 (mz t (l.drop 1) l[0]!).1 u)=YC (iE l (mz t (l.drop 1) l[0]!).1 d 0,M2))
 (r2:c0 (t.1,t.2,(mz t (l.drop 1) l[0]!).1,((d+1:Nat):Int),iE l (mz t (l.drop 1) l[0]!).1 d 1,M2)=YC (iE l (mz t (l.drop 1) l[0]!).1 d 1,M3)):
 rM c0 (t.1,t.2,u,(d:Int),l,B4)=YC (l,M3):=by
 have I:=h.len;have hp:=D8.2 h0;have ld:(l.drop 1).length=hx l-1:=Mi;have st:=bc (body:=mX c0 (t.1,t.2,u,(d:Int),l,B4)) (λi=>UW t l B4 u d (mz t ((l.drop 1).take i) l[0]!) i) (hx l-1) (λi N=>by
  have q:=aq (l.drop 1) i (by omega);rw[XRS (by omega)]at q;have ne:=adX (t:=t) h (i:=i) (by omega);have m1:=h.sub _ (aJ (i:=i+1) (by omega));have m2:mz t ((l.drop 1).take i) l[0]!∈f:=by
   rcases FE t ((l.drop 1).take i) l[0]! with e|e
   ·rw[e];exact h.sub _ (aJ hp)
   exact h.sub _ (QK (GH e))
  have A:=adW bj r dK m1 m2 ne;have tt:=fpc (t:=t) (l:=l.drop 1) (x:=l[0]!) i (by omega);rw[XRS (by omega)]at tt;rw[tt];unfold mX UW;simp (disch:=omega) only[aN]
  grind)
 rw[Mp (i:=hx l-1) (by omega)]at st;have ol:=alv bj h hd (c1:=(t.1,t.2,u,(d:Int),l,B4)) rfl (u:=u) r1 r2;unfold rM;have en:((Vf (hx l))==0)=Ss:=hO (by grind);have e2:(((KN ((0:Nat)<=1))&&(KN ((1:Int)<=(Vf (hx l)))))&&(KN ((Vf (hx l))<=(Vf (hx l)))))=h1:=by
  grind
 simp only[en,aiQ h0,aj];rw[e2,ww];refine(st).trans (ar ?_);unfold mX UW;simp only[aF (Zf _),];exact ol
theorem Yh(bj:aS f)(r:bI t)(dK:jo t): ∀(k n:Nat) (l:J Pt) (u:Int) (d:Nat) (B4:J _),Yg f l->hx l<=k->k+1<=n->d+k<=1000->
 kO n (t.1,t.2,u,(d:Int),l,B4)=YC (l,vU B4 (oF (rI f t) CC k (l.map λp=>p.1) u d))
 |k,0,l,u,d,B4,_,_,hn,_=>absurd hn (by omega)
 |k,n+1,[],u,d,B4,_,_,_,_=>by cases k<;>rfl
 |0,n+1,x::l,u,d,B4,_,hk,_,_=>absurd hk (by simp)
 |k+1,n+1,x::l,u,d,B4,h,hk,hn,hd=>by
  have ti:=L2 (t:=t) bj l x (h.sub x Md) (λp hp=>h.sub p (NE _ hp));have tl:oJ _ ((x::l).map λp=>p.1)=(mz t l x).1:=ti.1.symm;have so:=sE bj.2.2 t;have sl: ∀b,(iE (x::l) (mz t l x).1 d b).length<=k:=λb=>by
   have hS: ∀y∈((x::l).map λp=>p.1),dZ f y:=λy hy=>by obtain⟨p,hp,e⟩:=SJ.1 hy;exact dL.1 (SJ.2 ⟨p,h.sub p hp,e⟩)
   have t1:=(wY so (by simp) hS).1;have:=zn (bit:=CC) t1 d b
   grind[w3,Sw]
  have A:=Yh bj r dK k n _ (mz t l x).1 (d+1) (nO B4 (mz t l x).1 u) (h.side _ _ _) (sl 0) (by omega) (by omega);have B:=Yh bj r dK k n _ (mz t l x).1 (d+1) (vU (nO B4 (mz t l x).1 u) (oF (rI f t) CC k ((iE (x::l) (mz t l x).1 d 0).map λp=>p.1) (mz t l x).1 (d+1))) (h.side _ _ _) (sl 1) (by omega) (by omega);have C:=aqS bj r dK h (YF x l) (by omega) A B;refine(C).trans ?_;rw[w3,w3,<-Srt];refine congrArg YC (Pu rfl ?_);simp;rw[<-tl];rfl
end
section
variable {f : J Pt} {t : Int × Int}
def Us(t:Int×Int)(l:J Pt)(B4:J (Int×Int))(d:Nat)(top:Pt)(s0 s1:J Pt)(i:Nat):=
 ((d:Int),l,((hx l):Int),(i:Int),B4,t.1,t.2,top.1,top.2.1,top.2.2,s0,s1)
def Ll(t:Int×Int)(l:J Pt)(B4:J (Int×Int))(u:Int)(d:Nat)(top:Pt)(i:Nat):=
 (l,u,(d:Int),l.drop 1,((l.drop 1).length:Int),(i:Int),B4,t.1,t.2,top)
theorem alw(bj:aS f){l:J Pt}(h:Yg f l){d:Nat}(hd:d<=1000){top:Pt}{B4:J _}
 {M2 M3:J _} (r1:iM (t.1,t.2,top.1,((d+1:Nat):Int),iE l top.1 d 0,B4)=YC (iE l top.1 d 0,M2)) (r2:iM (t.1,t.2,top.1,((d+1:Nat):Int),iE l top.1 d 1,M2)=YC (iE l top.1 d 1,M3)):
 au jC (Us t l B4 d top [] [] 0)=YC (.done M3):=by
 have I:=h.len;have st:=bc (body:=jC) (λi=>Us t l B4 d top (iE (l.take i) top.1 d 0) (iE (l.take i) top.1 d 1) i) (hx l) (λi N=>by
  have pm:=aJ N;obtain⟨b0,b1⟩:=h.bits bj pm;have bt:=con b0 b1 d;have lt:=Jn (l[i]!).1 d;have s0:=DW (l.take i) l[i]! top.1 d 0;have s1:=DW (l.take i) l[i]! top.1 d 1;rw[<-cB N]at s0 s1;have l0:(iE (l.take i) top.1 d 0).length<=64:=SH (CE ..) (by rw[PP];omega);have l1:(iE (l.take i) top.1 d 1).length<=64:=SH (CE ..) (by rw[PP];omega);have a0:aQ _ [l[i]!]=YC (iE (l.take i) top.1 d 0++[l[i]!]):=ba (by rw[IR];omega);have a1:aQ _ [l[i]!]=YC (iE (l.take i) top.1 d 1++[l[i]!]):=ba (by rw[IR];omega);unfold jC Us;simp (disch:=omega) only[aq l i N,aN,]
  grind)
 rw[Mq]at st;refine(st).trans (ar ?_);unfold jC Us;simp (disch:=omega) only[aF,AC,aN,r1,r2,aj]
theorem aqT(bj:aS f)(r:bI t)(dK:jo t){l:J Pt}(h:Yg f l)(h0:l≠[]){d:Nat}(hd:d<=1000){B4:J _}{u:Int}{c0:_}
 {M2 M3:J _} (r1:iM (t.1,t.2,(mz t (l.drop 1) l[0]!).1,((d+1:Nat):Int),iE l (mz t (l.drop 1) l[0]!).1 d 0,nO B4 (mz t (l.drop 1) l[0]!).1 u)=YC (iE l (mz t (l.drop 1) l[0]!).1 d 0,M2))
 (r2:iM (t.1,t.2,(mz t (l.drop 1) l[0]!).1,((d+1:Nat):Int),iE l (mz t (l.drop 1) l[0]!).1 d 1,M2)=YC (iE l (mz t (l.drop 1) l[0]!).1 d 1,M3)):
 rN c0 (l,t.1,t.2,u,(d:Int),B4)=YC M3:=by
 have I:=h.len;have hp:=D8.2 h0;have ld:(l.drop 1).length=hx l-1:=Mi;have st:=bc (body:=mY) (λi=>Ll t l B4 u d (mz t ((l.drop 1).take i) l[0]!) i) _ (λi N=>by
  have q:=aq (l.drop 1) i N;have ne:=adX (t:=t) h (i:=i) (by omega);have m1:=h.sub _ (aJ (i:=i+1) (by omega));have m2:mz t ((l.drop 1).take i) l[0]!∈f:=by
   rcases FE t _ l[0]! with e|e
   ·rw[e];exact h.sub _ (aJ hp)
   exact h.sub _ (QK (GH e))
  have A:=adW bj r dK m1 m2 ne;have tt:=fpc (t:=t) (x:=l[0]!) i N;unfold mY Ll;simp (disch:=omega) only[aN]
  grind)
 rw[Mq]at st;have ol:=alw bj h hd r1 r2;have e1:gQ l 1 (Vf (hx l))=YC (l.drop 1):=by unfold gQ;rw[Do (by refine⟨by decide,?_,Int.le_refl _⟩;show(1:Int)<=((hx l):Int);omega)];simp[Mp,]
 unfold rN;have en:((Vf (hx l))==0)=Ss:=hO (by grind);simp only[en,aiQ h0,e1];refine(st).trans (ar ?_);unfold mY Ll;simp only[aF (Zf _),];exact ol
theorem aha(bj:aS f)(r:bI t)(dK:jo t):u5 (f,t.1,t.2,-1,0,[])=YC (vU [] (zf f t)):=by
 have h:Yg f f:=⟨λp hp=>hp,eX bj.2.2,bj.1⟩;have f1:=bj.1;unfold zf;cases hf:f with
 |nil=>rfl
 |cons x l=>
  rw[<-hf];have fl:(hx f)=hx l+1:=by rw[hf];rfl
  have d1:f.drop 1=l:=by rw[hf];rfl
  have g0:f[0]! =x:=by rw[hf];rfl
  have ti:=L2 (t:=t) bj l x (by rw[hf];exact Md) (λp hp=>by rw[hf];exact NE _ hp);have ei:fa f=x.1::l.map λp=>p.1:=by unfold fa;rw[hf];rfl
  have tl:oJ (rI f t) (fa f)=(mz t l x).1:=by rw[ei];exact ti.1.symm
  have so:=sE bj.2.2 t;have sl: ∀b,(iE f (mz t l x).1 0 b).length<=(hx l):=λb=>by
   have hS: ∀y∈fa f,dZ f y:=λy hy=>dL.1 hy
   have t1:=(wY so (by unfold fa;rw[hf];simp) hS).1;rw[tl]at t1;have:=zn (bit:=CC) t1 0 b;unfold fa at this;rw[<-w3,Sw,Sw]at this;omega
  have A:=Yh bj r dK (hx l) 1000000 _ (mz t l x).1 1 (nO [] (mz t l x).1 (-1)) (h.side _ _ _) (sl 0) (by omega) (by omega);have B:=Yh bj r dK (hx l) 1000000 _ (mz t l x).1 1 (vU (nO [] (mz t l x).1 (-1)) (oF (rI f t) CC (hx l) ((iE f (mz t l x).1 0 0).map λp=>p.1) (mz t l x).1 1)) (h.side _ _ _) (sl 1) (by omega) (by omega);have C:=aqT bj r dK h (by rw[hf];exact YF x l) (d:=0) (by omega) (c0:=kQ 999999) (by rw[d1,g0];exact A) (by rw[d1,g0];exact B);refine(C).trans (congrArg YC ?_);rw[w3,w3,<-Srt,fl];rw[show(f.map λp=>p.1)=fa f from rfl,<-tl];rw[ei];rfl
end
end Go.Proofs.YtbelikaakgedaaaGreat
