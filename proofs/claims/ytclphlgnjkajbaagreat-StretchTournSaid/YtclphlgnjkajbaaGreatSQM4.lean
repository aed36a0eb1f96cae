/- Plain laws (4). -/
import Derived.Test.YtclphlgnjkajbaaGreatSQM3
import Derived.Test.YtclphlgnjkajbaaGreatSQS1
import Derived.Test.YtclphlgnjkajbaaGreatSVm4
import Derived.Test.YtclphlgnjkajbaaGreatSVm3
open List renaming replicate->v6,length_replicate->ww,length_append->AC,length_set->Do,length_singleton->EQ,length_take->IR,append_nil->PP,mem_cons_of_mem->aal,take_append_of_le_length->aau,length_map->aav,mem_append->aaz,take_of_length_le->aaS,mem_range->ac0,filter_append->ac1,mem_replicate->ac2,getElem_replicate->ad2,length_filter_le->ad8,length_drop->adc,drop_length->ae1,take_length->ae6,mem_cons->ae7,mem_map->aeg,mem_cons_self->aeh,drop_zero->aeq,pairwise_iff_getElem->aes,length_range->aet,append_assoc->aeu,length_filterMap_le->aev,eq_of_mem_replicate->aew,length_eraseIdx_le->aex,length_cons->aey,filter_cons_of_pos->aez,filter_cons_of_neg->aeA,range->aeB,nodup_cons->aeC,take_append_drop->aeF,set_append_right->aeG,mem_of_mem_take->aeH,mem_of_mem_drop->aeI,filter_eq_self->aeK,replicate_succ->aeL,mem_filterMap->aeN,getElem_mem->aeQ,nodup_range->aeR,filter_nil->aeS,length->aeY
open Classical renaming not_not->If,not_forall->aaB,not_imp->aaC,byContradiction->aer
open Nat renaming lt_trichotomy->M2,le_refl->NE,not_lt_zero->UV,zero_le->WF,div_div_eq_div_mul->aaG,pow_succ->acZ,sub_self->ae8,lt_or_ge->aeb,pow_le_pow_right->aeJ,le_of_lt->aeO,le_trans->aeT,zero_add->aeX
open Bool renaming not_true->aah,not_false->aax,and_self->aeM,true->af5,false->af6
open Int renaming ofNat->acl,tdiv_eq_ediv_of_nonneg->aep,natCast_mul->aeE,toNat_natCast->aeP
open Option.some renaming inj->aeD
open Option renaming some->aeZ
open Decidable renaming decide->afa
namespace Go.Proofs.YtclphlgnjkajbaaGreat
open Go.Vm Classical
theorem IX (p q:Pt) (t:Int×Int):G9 p q t=(p.2.1*t.2+p.2.2*t.1) - (q.2.1*t.2+q.2.2*t.1):=by rw [YJ,Int.sub_mul,Int.sub_mul];omega
theorem K6 {p q r:Pt} {t:Int×Int} (h1:leads p q t) (h2:leads q r t):leads p r t:=by unfold leads at*;rw [IX] at*;generalize p.2.1*t.2+p.2.2*t.1=a at*;generalize q.2.1*t.2+q.2.2*t.1=b at*;generalize r.2.1*t.2+r.2.2*t.1=c at*;omega
theorem xR {p q:Pt} (t:Int×Int) (h:p.1≠q.1) (hn: ¬leads p q t):leads q p t:=by unfold leads at*;rw [IX] at*;generalize p.2.1*t.2+p.2.2*t.1=a at*;generalize q.2.1*t.2+q.2.2*t.1=b at*;omega
structure SO (P:Int->Int->Prop) (S:Int->Prop):Prop where
 irr: ∀a,S a-> ¬P a a
 tr: ∀a b c,S a->S b->S c->P a b->P b c->P a c
 tot: ∀a b,S a->S b->a≠b->P a b\/P b a
abbrev par (j:Nat):Nat:=(j-1) / 2
def Hp (P:Int->Int->Prop) (l:List Int):Prop:= ∀j,0<j->j<aeY l-> ¬P l[j]! l[par j]!
section
variable {P : Int -> Int -> Prop} {S : Int -> Prop}
theorem SO.up (o:SO P S) {a b c:Int} (ha:S a) (hb:S b) (hc:S c) (h1:P b c) (h2: ¬P a c): ¬P a b:=fun h=>h2 (o.tr a b c ha hb hc h h1)
end
theorem Tv {f:List Pt} (bY:bn f) (k:Nat):bn (f.eraseIdx k):=by
 refine ⟨aeT (aex f k) bY.1,fun p hp=>bY.2.1 p (List.mem_of_mem_eraseIdx hp),?_⟩;have h:=bY.2.2;intro i hi;have hl:=aex f k
 by_cases hk:k<aeY f
 · have:=yH hk
   rw [vR,vR];split<;>split<;>exact eh h (by omega) (by omega)
 rw [List.eraseIdx_of_length_le (by omega)] at hi ⊢
 exact h i hi
theorem K7 {f:List Pt} (bY:bn f) {k:Nat} (hk:k<aeY f):jA ⟨f⟩ (f[k]!).1=aeZ ((k:Int),0):=by
 have h1:=bY.1;have hc:cT ⟨f⟩=aeZ 0:=by rw [dU];exact congrArg aeZ (fh.2 bY)
 have bs:=oX f (f[k]!).1 (by omega) (fun i j=>eh bY.2.2);unfold jA iJ;rw [Bg];simp only [hc,aj,show ((0:Int) !=0)=af6 from rfl,pp,bs.1 k hk rfl,aah]
theorem Gm {f:List Pt} (bY:bn f) {id:Int} (h: ¬fJ f id):jA ⟨f⟩ id=aeZ (0,6):=by
 have h1:=bY.1;have hc:cT ⟨f⟩=aeZ 0:=by rw [dU];exact congrArg aeZ (fh.2 bY)
 have bs:=oX f id (by omega) (fun i j=>eh bY.2.2);obtain ⟨m,_,_,_,e⟩:=bs.2 (fun k hk he=>h ⟨k,hk,he⟩);unfold jA iJ;rw [Bg];simp only [hc,aj,show ((0:Int) !=0)=af6 from rfl,pp,e,aax,lw]
theorem IY:iK=dN:=rfl
def pI (f:List Pt) (m:Nat) (p:Pt):List Pt:=f.take m++p::f.drop m
structure OG (f:List Pt) (p:Pt) (m:Nat):Prop where
 le:m<=aeY f
 lo: ∀i,i<m->(f[i]!).1<p.1
 hi: ∀i,m<=i->i<aeY f->p.1<(f[i]!).1
theorem FE {f:List Pt} {m:Nat} (h:m<=aeY f) (p:Pt):(pI f m p).length=aeY f+1:=by unfold pI;rw [AC,aey,IR,adc];omega
theorem Hm {f:List Pt} {m:Nat} (h:m<=aeY f) (p:Pt) (i:Nat):(pI f m p)[i]! =if i<m then f[i]! else if i=m then p else f[i-1]!:=by
 have ht:(f.take m).length=m:=by rw [IR];omega
 unfold pI;simp only [List.getElem!_eq_getElem?_getD]
 by_cases h1:i<m
 · rw [rc h1,List.getElem?_append_left (by omega),List.getElem?_take_of_lt h1]
 rw [ut h1,List.getElem?_append_right (by omega),ht]
 by_cases h2:i=m
 · rw [rc h2,h2,ae8];rfl
 rw [ut h2,show i-m=(i-1-m)+1 by omega,List.getElem?_cons_succ,List.getElem?_drop,show m+(i-1-m)=i-1 by omega]
theorem YK {f:List Pt} (bY:bn f) {p:Pt} (po:eO p) {m:Nat} (h:OG f p m) (hl:(aeY f)<64):bn (pI f m p):=by
 refine ⟨by rw [FE h.le];omega,fun q hq=>?_,fun i hi=>?_⟩
 · rcases aaz.1 hq with hq|hq
   · exact bY.2.1 q (aeH hq)
   rcases ae7.1 hq with rfl|hq
   · exact po
   exact bY.2.1 q (aeI hq)
 rw [FE h.le] at hi
 rw [Hm h.le,Hm h.le];rcases M2 (i+1) m with c|c|c
 · rw [rc (by omega),rc c];exact eh bY.2.2 (by omega) (by have:=h.le;omega)
 · rw [rc (by omega),ut (by omega),rc c];exact h.lo i (by omega)
 rw [ut (show¬i+1<m by omega),ut (show¬i+1=m by omega),Nat.add_sub_cancel]
 by_cases d:i=m
 · rw [ut (by omega),rc d];exact h.hi i (by omega) (by omega)
 rw [ut (by omega),ut d];exact eh bY.2.2 (by omega) (by omega)
theorem FF {f:List Pt} (bY:bn f) {p:Pt} (h: ¬fJ f p.1): ∃m,OG f p m/\iJ ⟨f⟩ p.1=aeZ ((m:Int),af6):=by have h1:=bY.1;obtain ⟨m,a,b,c,e⟩:=(oX f p.1 (by omega) (fun i j=>eh bY.2.2)).2 (fun k hk he=>h ⟨k,hk,he⟩);refine ⟨m,⟨a,b,c⟩,?_⟩;unfold iJ;rw [Bg,e];rfl
theorem M5 {f:List Pt} (bY:bn f) {id:Int} (h:fJ f id): ∃k,k<aeY f/\(f[k]!).1=id/\iJ ⟨f⟩ id=aeZ ((k:Int),af5):=by have h1:=bY.1;obtain ⟨k,hk,he⟩:=h;refine ⟨k,hk,he,?_⟩;unfold iJ;rw [Bg,(oX f id (by omega) (fun i j=>eh bY.2.2)).1 k hk he];rfl
noncomputable def jO (f:List Pt) (es:List (Int×Int)):Int:=if¬(∀x∈es,fi x) then 8 else if¬es.Nodup then 14 else if¬(∀x∈es,jZ f x) then 6 else 0
def rP (c:aI) (f:List Pt) (es:List (Int×Int)) (i:Nat):=
 (es,es,((aeY es):Int),(i:Int),c.ci.1,c.ci.2,c.ii.am,c.af.aM,c.af.ce,c.ae.ai.aD,c.ae.ai.be,c.ae.ai.bi,c.ae.bv,c.ae.aq,c.io,f,(0:Int),(0:Int),(0:Int))
theorem xS {c:aI} (ok:bg c) {f:List Pt} (bY:bn f) {es:List (Int×Int)} (hl:(aeY es)<=1000) {r:aI×Int} (hr:jO f es=0->iF c ⟨f⟩ es=aeZ r):
 kY c ⟨f⟩ es=aeZ (if jO f es=0 then r else (dJ,jO f es)):=by
 have bd:=ok.bd;have ab:=ok.nR.bd;have sl:=ok.nR.so.fl;have sn:=ok.nR.so.n2;have su:=ok.nR.so.ul;have el:afa (((aeY es):Int)<((aeY es):Int))=af6:=aE (by omega);have hc:fI c=aeZ 0:=by rw [ju ok.fit,rc ok]
 have hf:cT ⟨f⟩=aeZ 0:=by rw [dU];exact congrArg aeZ (fh.2 bY)
 have tw:qU (aI.mk (c.ci.1,c.ci.2) (Field.mk c.ii.am) (bm.mk c.af.aM c.af.ce) (aF.mk (aS.mk c.ae.ai.aD c.ae.ai.be c.ae.ai.bi) c.ae.bv c.ae.aq) c.io)=aeZ c:=by
  unfold qU;simp only [aW (show (aeY c.ii.am)<=1048576 by omega),aW (show (aeY c.af.ce)<=1048576 by omega),aW (show (aeY c.io)<=1048576 by omega),aW (show (aeY c.ae.bv)<=1048576 by omega),aW (show (aeY c.ae.aq)<=1048576 by omega),
   aW (show (aeY c.ae.ai.aD)<=1048576 by omega),aW (show (aeY c.ae.ai.be)<=1048576 by omega),aW (show (aeY c.ae.ai.bi)<=1048576 by omega),aj]
 have k3: ∀e2:aI×Int,ar dR (rP c f es 0)=aeZ (.done e2)->ar dS (rP c f es 0)=aeZ (if∀i,i<aeY es->fi es[i]! then e2 else (dJ,8)):=by
  intro e2 h2;refine z8 (body:=dS) (fun i=>rP c f es i) (aeY es) (fun i=>fi es[i]!) (r:=(dJ,8)) (e:=e2) (fun i hi=>?_) ?_
  · have e1:afa ((i:Int)<((aeY es):Int))=af5:=aG (by omega)
    unfold dS rP fi;simp only [e1,lw,au es i hi,aj,ba (show i<1000000000 by omega)];generalize es[i]! =x
    by_cases a1:x.1<0
    · rw [aG a1];exact ⟨fun _=>rfl,fun h=>by omega⟩
    rw [aE a1]
    by_cases a2:x.2<0
    · rw [aG a2];exact ⟨fun _=>rfl,fun h=>by omega⟩
    rw [aE a2]
    by_cases a3:65535<x.1
    · rw [aG a3];exact ⟨fun _=>rfl,fun h=>by omega⟩
    rw [aE a3]
    by_cases a4:65535<x.2
    · rw [aG a4];exact ⟨fun _=>rfl,fun h=>by omega⟩
    rw [aE a4]
    by_cases a5:x.1=x.2
    · rw [eT a5];exact ⟨fun _=>rfl,fun h=>absurd a5 h.2.2.2.2⟩
    rw [eu a5];exact ⟨fun h=>absurd ⟨by omega,by omega,by omega,by omega,a5⟩ h,fun _=>rfl⟩
  unfold dS rP
  simp only [aA,el,pp];exact h2
 have k2: ∀e1:aI×Int,ar eF (rP c f es 0)=aeZ (.done (.done e1))->ar dR (rP c f es 0)=aeZ (.done (if∀i,i<aeY es->es[i]!∉es.take i then e1 else (dJ,14))):=by
  intro e0 h2;have:=z8 (body:=dR) (fun i=>rP c f es i) (aeY es) (fun i=>es[i]!∉es.take i) (r:= .done (dJ,14)) (e:= .done e0) (fun i hi=>by
   have e1:afa ((i:Int)<((aeY es):Int))=af5:=aG (by omega);unfold dR rP;simp only [e1,lw,au es i hi,js es i (by omega),aj,iP _ _ (show (es.take i).length<=1000000 by rw [IR];omega),ba (show i<1000000000 by omega)]
   by_cases h:es[i]!∈es.take i
   · rw [aG h];exact ⟨fun _=>rfl,fun k=>absurd h k⟩
   · rw [aE h];exact ⟨fun k=>absurd h k,fun _=>rfl⟩) (by
   unfold dR rP;simp only [aA,el,pp];exact h2)
  refine this.trans ?_
  by_cases hb: ∀i,i<aeY es->es[i]!∉es.take i
  · rw [rc hb,rc hb]
  rw [ut hb,ut hb]
 have Tw: ∀i,i<aeY es->(¬jZ f es[i]!->eF (rP c f es i)=aeZ (.done (.done (.done (dJ,6)))))/\(jZ f es[i]!->eF (rP c f es i)=aeZ (.next (rP c f es (i+1)))):=by
  intro i hi;have e1:afa ((i:Int)<((aeY es):Int))=af5:=aG (by omega);obtain ⟨p,e,a1,a2⟩:=zl bY (es[i]!).1;obtain ⟨q,g,b1,b2⟩:=zl bY (es[i]!).2;unfold eF rP jZ;simp only [e1,lw,au es i hi,aj,a1,b1,ba (show i<1000000000 by omega)]
  by_cases h1:fJ f (es[i]!).1
  · rw [cS (a2.2 h1)]
    by_cases h2:fJ f (es[i]!).2
    · rw [cS (b2.2 h2)]
      exact ⟨fun h=>absurd ⟨h1,h2⟩ h,fun _=>rfl⟩
    rw [dZ (fun h=>h2 (b2.1 h))]
    exact ⟨fun _=>rfl,fun h=>absurd h.2 h2⟩
  rw [dZ (fun h=>h1 (a2.1 h))]
  exact ⟨fun _=>rfl,fun h=>absurd h.1 h1⟩
 have start:kY c ⟨f⟩ es=ar dS (rP c f es 0):=by unfold kY;simp only [hc,aj,show ((0:Int) !=0)=af6 from rfl,pp,hf];rfl
 rw [start]
 by_cases h1: ∀x∈es,fi x
 case neg=>
  have er:jO f es=8:=by unfold jO;rw [rc h1]
  rw [er,ut (by omega)];have:=ff (body:=dS) (fun i=>rP c f es i) (aeY es) (fun i=> ¬fi es[i]!) (r:=(dJ,8)) (e:=r);have k3':=k3;rw [xO (P:=fi)] at h1;obtain ⟨i,h⟩:=aaB.1 h1;obtain ⟨hi,hx⟩:=aaC.1 h;obtain ⟨m,m1,m2,m3⟩:=least (c:=fun i=> ¬fi es[i]!) ⟨i,hi,hx⟩;have go: ∀j,j<aeY es->(¬fi es[j]!->dS (rP c f es j)=aeZ (.done (dJ,8)))/\(fi es[j]!->dS (rP c f es j)=aeZ (.next (rP c f es (j+1)))):=by
   intro j hj;have e1:afa ((j:Int)<((aeY es):Int))=af5:=aG (by omega);unfold dS rP fi;simp only [e1,lw,au es j hj,aj,ba (show j<1000000000 by omega)];generalize es[j]! =x
   by_cases a1:x.1<0
   · rw [aG a1];exact ⟨fun _=>rfl,fun h=>by omega⟩
   rw [aE a1]
   by_cases a2:x.2<0
   · rw [aG a2];exact ⟨fun _=>rfl,fun h=>by omega⟩
   rw [aE a2]
   by_cases a3:65535<x.1
   · rw [aG a3];exact ⟨fun _=>rfl,fun h=>by omega⟩
   rw [aE a3]
   by_cases a4:65535<x.2
   · rw [aG a4];exact ⟨fun _=>rfl,fun h=>by omega⟩
   rw [aE a4]
   by_cases a5:x.1=x.2
   · rw [eT a5];exact ⟨fun _=>rfl,fun h=>absurd a5 h.2.2.2.2⟩
   rw [eu a5];exact ⟨fun h=>absurd ⟨by omega,by omega,by omega,by omega,a5⟩ h,fun _=>rfl⟩
  rw [cB (body:=dS) (fun i=>rP c f es i) m fun j hj=>(go j (by omega)).2 (If.1 (m3 j hj))];exact aC ((go m m1).1 m2)
 have Ly:=(xO (P:=fi)).1 h1
 by_cases h2:es.Nodup
 case neg=>
  have er:jO f es=14:=by unfold jO;rw [ut (If.2 h1),rc h2]
  rw [er,ut (by omega)];have Pq:=h2;rw [FD] at Pq;obtain ⟨i,h⟩:=aaB.1 Pq;obtain ⟨hi,hx⟩:=aaC.1 h;obtain ⟨m,m1,m2,m3⟩:=least (c:=fun i=> ¬es[i]!∉es.take i) ⟨i,hi,hx⟩;have go: ∀j,j<aeY es->(es[j]!∈es.take j->dR (rP c f es j)=aeZ (.done (.done (dJ,14))))/\(es[j]!∉es.take j->dR (rP c f es j)=aeZ (.next (rP c f es (j+1)))):=by
   intro j hj;have e1:afa ((j:Int)<((aeY es):Int))=af5:=aG (by omega);unfold dR rP;simp only [e1,lw,au es j hj,js es j (by omega),aj,iP _ _ (show (es.take j).length<=1000000 by rw [IR];omega),ba (show j<1000000000 by omega)]
   by_cases h:es[j]!∈es.take j
   · rw [aG h];exact ⟨fun _=>rfl,fun k=>absurd h k⟩
   rw [aE h];exact ⟨fun k=>absurd k h,fun _=>rfl⟩
  have l2:ar dR (rP c f es 0)=aeZ (.done (dJ,14)):=by rw [cB (body:=dR) (fun i=>rP c f es i) m fun j hj=>(go j (by omega)).2 (If.1 (m3 j hj))];exact aC ((go m m1).1 (If.1 m2))
  rw [k3 _ l2,rc Ly]
 have Pq:=FD.1 h2
 by_cases h3: ∀x∈es,jZ f x
 case neg=>
  have er:jO f es=6:=by unfold jO;rw [ut (If.2 h1),ut (If.2 h2),rc h3]
  rw [er,ut (by omega)];have h3':=h3;rw [xO (P:=jZ f)] at h3';obtain ⟨i,h⟩:=aaB.1 h3';obtain ⟨hi,hx⟩:=aaC.1 h;obtain ⟨m,m1,m2,m3⟩:=least (c:=fun i=> ¬jZ f es[i]!) ⟨i,hi,hx⟩;have l1:ar eF (rP c f es 0)=aeZ (.done (.done (dJ,6))):=by rw [cB (body:=eF) (fun i=>rP c f es i) m fun j hj=>(Tw j (by omega)).2 (If.1 (m3 j hj))];exact aC ((Tw m m1).1 m2)
  rw [k3 _ (k2 _ l1),rc Ly,rc Pq]
 have h3':=(xO (P:=jZ f)).1 h3;have er:jO f es=0:=by unfold jO;rw [ut (If.2 h1),ut (If.2 h2),ut (If.2 h3)]
 rw [er,rc rfl];have l1:ar eF (rP c f es 0)=aeZ (.done (.done r)):=by rw [cB (body:=eF) (fun i=>rP c f es i) (aeY es) fun j hj=>(Tw j hj).2 (h3' j hj)];refine aC ?_;unfold eF rP;simp only [el,pp,tw,aj,hr er]
 rw [k3 _ (k2 _ l1),rc Ly,rc Pq]
theorem P8 {l:List Int} {x:Int} (hl:(aeY l)<=1000000) (hx:x∈l): ∃k,k<aeY l/\l[k]! =x/\fb l x=aeZ (k:Int)/\KB l x=aeZ (k:Int):=by
 obtain ⟨k,k1,k2,k3⟩:=least (c:=fun k=>l[k]! =x) (aQ.1 hx);have p:=iG (body:=nE) (fun i=>(l,x,(i:Int))) (aeY l) (fun i=>l[i]! =x) (fun i=>(i:Int)) (e:= -1) (fun i hi=>by
  unfold nE;simp only [aA,aG (show (i:Int)<((aeY l):Int) by omega),lw,au l i hi,aj,ba (show i<1000000000 by omega)];refine ⟨fun h=>?_,fun h=>?_⟩
  · rw [eT h];rfl
  · rw [eu h];rfl) (by
  unfold nE;simp only [aA,aE (show¬((aeY l):Int)<((aeY l):Int) by omega),pp])
 exact ⟨k,k1,k2,(K5 l x hl).1 k k1 k2 k3,p.1 k k1 k2 k3⟩
theorem tk {l:List Int} {m:Nat} {x:Int} (h:(aeY l)=m):(l++[x]).take m=l:=by rw [<- h,List.take_left]
section
variable {k : zb} {f : List Pt} {m n0 : Nat} {x : Int}
end
section
variable {k : zb} {P : Pt} {f : List Pt} {m : Nat}
end
end Go.Proofs.YtclphlgnjkajbaaGreat
namespace Go.Proofs.YtclphlgnjkajbaaGreat
open Go.Vm
abbrev Nd:=Int×Int×Int
structure K8 (P:Nat->Nat->Prop) (a b i:Nat):Prop where
 lo:a<=i
 hi:i<b
 top: ∀j,a<=j->j<b->j≠i->P i j
inductive nK (P:Nat->Nat->Prop) (N:List Nd):Nat->Nat->Int->Prop
 |nil {a b:Nat} (h:b<=a):nK P N a b (-1)
 |node {a b i:Nat} (h:K8 P a b i) (l:nK P N a i (N[i]!).2.1) (r:nK P N (i+1) b (N[i]!).2.2):nK P N a b (i:Int)
structure YL (P:Nat->Nat->Prop) (n:Nat):Prop where
 tr: ∀i j k,i<n->j<n->k<n->P i j->P j k->P i k
 asy: ∀i j,i<n->j<n->P i j-> ¬P j i
 tot: ∀i j,i<n->j<n->i≠j-> ¬P i j->P j i
theorem K8.one {P:Nat->Nat->Prop} {n a b i j:Nat} (o:YL P n) (hb:b<=n) (h:K8 P a b i) (k:K8 P a b j):i=j:=by
 refine aer fun dK=>?_
 have:=h.hi;have:=k.hi;exact o.asy i j (by omega) (by omega) (h.top j k.lo k.hi (fun e=>dK e.symm)) (k.top i h.lo h.hi dK)
theorem nK.link {P:Nat->Nat->Prop} {N:List Nd} {a b:Nat} {r:Int} (h:nK P N a b r):(b<=a/\r= -1)\/(∃i:Nat,r=(i:Int)/\a<=i/\i<b):=by
 cases h with
 |nil h=>exact .inl ⟨h,rfl⟩
 |node h l r=>exact .inr ⟨_,rfl,h.lo,h.hi⟩
theorem nK.unique {P:Nat->Nat->Prop} {n:Nat} (o:YL P n) {N N':List Nd} {a b:Nat} {r:Int} (h:nK P N a b r): ∀{r':Int},b<=n->nK P N' a b r'->r=r'/\ ∀k,a<=k->k<b->(N[k]!).2=(N'[k]!).2:=by
 induction h with
 |nil h=>
  intro r' hb h';cases h' with
  |nil _=>exact ⟨rfl,fun k h1 h2=>by omega⟩
  |node t _ _=>have:=t.lo;have:=t.hi;omega
 | @node a b i h l r ihl ihr=>
  intro r' hb h';have lo:=h.lo;have hi:=h.hi;cases h' with
  |nil q=>omega
  | @node _ _ j t l' r'=>
   have e:=h.one o hb t;subst e;obtain ⟨e1,f1⟩:=ihl (by omega) l';obtain ⟨e2,f2⟩:=ihr hb r';refine ⟨rfl,fun k h1 h2=>?_⟩;rcases M2 k i with q|q|q
   · exact f1 k h1 q
   · subst q;exact Prod.ext e1 e2
   exact f2 k (by omega) h2
theorem nK.other {P Q:Nat->Nat->Prop} {n:Nat} (o:YL Q n) {N:List Nd} {a b:Nat} {r:Int} (h:nK P N a b r):b<=n->(∀k j:Nat,a<=k->k<b->a<=j->j<b->((N[k]!).2.1=(j:Int)\/(N[k]!).2.2=(j:Int))->Q k j)->nK Q N a b r:=by
 induction h with
 |nil h=>exact fun _ _=> .nil h
 | @node a b i h l r ihl ihr=>
  intro hb q;have lo:=h.lo;have hi:=h.hi;have tl:=ihl (by omega) fun k j h1 h2 h3 h4=>q k j h1 (by omega) h3 (by omega)
  have tr:=ihr hb fun k j h1 h2 h3 h4=>q k j (by omega) h2 (by omega) h4
  refine .node ⟨lo,hi,fun j h1 h2 dK=>?_⟩ tl tr;rcases aeb j i with hj|hj
  · generalize hr:(N[i]!).2.1=s at tl
    cases tl with
    |nil q=>omega
    | @node _ _ m t _ _=>
     have t1:=t.lo;have t2:=t.hi;have qm:=q i m lo hi t1 (by omega) (.inl hr)
     by_cases e:j=m
     · rw [e];exact qm
     exact o.tr i m j (by omega) (by omega) (by omega) qm (t.top j h1 hj e)
  generalize hr:(N[i]!).2.2=s at tr
  cases tr with
  |nil q=>omega
  | @node _ _ m t _ _=>
   have t1:=t.lo;have t2:=t.hi;have qm:=q i m lo hi (by omega) t2 (.inr hr)
   by_cases e:j=m
   · rw [e];exact qm
   exact o.tr i m j (by omega) (by omega) (by omega) qm (t.top j (by omega) h2 e)
theorem nK.kids {P:Nat->Nat->Prop} {N:List Nd} {a b:Nat} {r:Int} (h:nK P N a b r): ∀k,a<=k->k<b-> ∀c:Int,((N[k]!).2.1=c\/(N[k]!).2.2=c)->c= -1\/ ∃j:Nat,c=(j:Int)/\a<=j/\j<b/\j≠k/\P k j/\r≠c:=by
 induction h with
 |nil h=>intro k h1 h2;omega
 | @node a b i h l r ihl ihr=>
  have lo:=h.lo;have hi:=h.hi;intro k h1 h2 c hc;rcases M2 k i with q|q|q
  · rcases ihl k h1 q c hc with e|⟨j,e,j1,j2,j3,j4,_⟩
    · exact .inl e
    exact .inr ⟨j,e,j1,by omega,j3,j4,by rw [e];omega⟩
  · subst q
    rcases hc with hc|hc
    · rcases l.link with ⟨_,e⟩|⟨j,e,j1,j2⟩
      · exact .inl (hc▸e)
      exact .inr ⟨j,hc▸e,j1,by omega,by omega,h.top j j1 (by omega) (by omega),by rw [<- hc,e];omega⟩
    rcases r.link with ⟨_,e⟩|⟨j,e,j1,j2⟩
    · exact .inl (hc▸e)
    exact .inr ⟨j,hc▸e,by omega,j2,by omega,h.top j (by omega) j2 (by omega),by rw [<- hc,e];omega⟩
  rcases ihr k (by omega) h2 c hc with e|⟨j,e,j1,j2,j3,j4,_⟩
  · exact .inl e
  exact .inr ⟨j,e,by omega,j2,j3,j4,by rw [e];omega⟩
theorem nK.up {P:Nat->Nat->Prop} {N:List Nd} {a b:Nat} {r:Int} (h:nK P N a b r): ∀k:Nat,a<=k->k<b->(k:Int)≠r-> ∃j,a<=j/\j<b/\((N[j]!).2.1=(k:Int)\/(N[j]!).2.2=(k:Int))/\ ∀m,a<=m->m<b->((N[m]!).2.1=(k:Int)\/(N[m]!).2.2=(k:Int))->m=j:=by
 induction h with
 |nil h=>intro k h1 h2;omega
 | @node a b i h l r ihl ihr=>
  have lo:=h.lo;have hi:=h.hi;have lk:=l.kids;have rk:=r.kids;intro k h1 h2 dK;have hki:k≠i:=fun e=>dK (by rw [e])
  rcases aeb k i with q|q
  · by_cases er:(k:Int)=(N[i]!).2.1
    · refine ⟨i,lo,hi,.inl er.symm,fun m m1 m2 hm=>?_⟩
      rcases M2 m i with w|w|w
      · rcases lk m m1 w _ hm with e|⟨j,e,_,_,_,_,hr⟩
        · omega
        exact absurd er.symm hr
      · exact w
      rcases rk m (by omega) m2 _ hm with e|⟨j,e,j1,_⟩<;>omega
    obtain ⟨j,j1,j2,j3,j4⟩:=ihl k h1 q er
    refine ⟨j,j1,by omega,j3,fun m m1 m2 hm=>?_⟩;rcases M2 m i with w|w|w
    · exact j4 m m1 w hm
    · subst w
      rcases hm with hm|hm
      · exact absurd hm.symm er
      rcases r.link with ⟨_,e⟩|⟨p,e,p1,p2⟩<;>omega
    rcases rk m (by omega) m2 _ hm with e|⟨p,e,p1,_⟩<;>omega
  by_cases er:(k:Int)=(N[i]!).2.2
  · refine ⟨i,lo,hi,.inr er.symm,fun m m1 m2 hm=>?_⟩
    rcases M2 m i with w|w|w
    · rcases lk m m1 w _ hm with e|⟨j,e,_,j2,_⟩<;>omega
    · exact w
    rcases rk m (by omega) m2 _ hm with e|⟨j,e,_,_,_,_,hr⟩
    · omega
    exact absurd er.symm hr
  obtain ⟨j,j1,j2,j3,j4⟩:=ihr k (by omega) h2 er
  refine ⟨j,by omega,j2,j3,fun m m1 m2 hm=>?_⟩;rcases M2 m i with w|w|w
  · rcases lk m m1 w _ hm with e|⟨p,e,_,p2,_⟩<;>omega
  · subst w
    rcases hm with hm|hm
    · rcases l.link with ⟨_,e⟩|⟨p,e,p1,p2⟩<;>omega
    exact absurd hm.symm er
  exact j4 m (by omega) m2 hm
inductive FG (P:Nat->Nat->Prop) (N:List Nd):Nat->Nat->Int->List Nat->Prop
 |nil {a b:Nat} (h:b<=a):FG P N a b (-1) []
 |cons {a b k:Nat} {es:List Nat} (h:K8 P a b k) (l:nK P N a k (N[k]!).2.1) (r:FG P N (k+1) b (N[k]!).2.2 es):FG P N a b (k:Int) (k::es)
theorem FG.ls {P:Nat->Nat->Prop} {N:List Nd} {a b:Nat} {r:Int} {es:List Nat} (h:FG P N a b r es):nK P N a b r:=by
 induction h with
 |nil h=>exact .nil h
 |cons h l r ih=>exact .node h l ih
theorem FG.mem {P:Nat->Nat->Prop} {N:List Nd} {a b:Nat} {r:Int} {es:List Nat} (h:FG P N a b r es): ∀e∈es,a<=e/\e<b:=by
 induction h with
 |nil h=>intro e he;cases he
 |cons h l r ih=>
  intro e he;have lo:=h.lo;have hi:=h.hi;rcases ae7.1 he with rfl|he
  · exact ⟨lo,hi⟩
  have:=ih e he;omega
end Go.Proofs.YtclphlgnjkajbaaGreat
namespace Go.Proofs.YtclphlgnjkajbaaGreat
open Go.Vm Classical
def ahP (f:List Pt) (t:Int×Int) (i j:Nat):Prop:=leads f[i]! f[j]! t
theorem xT {p q:Pt} {t:Int×Int} (h:leads p q t): ¬leads q p t:=by unfold leads at*;rw [IX] at*;generalize p.2.1*t.2+p.2.2*t.1=a at*;generalize q.2.1*t.2+q.2.2*t.1=b at*;omega
theorem YM {f:List Pt} (h:eX f) (t:Int×Int):YL (ahP f t) (aeY f) where
 tr:=fun _ _ _ _ _ _ h1 h2=>K6 h1 h2
 asy:=fun _ _ _ _ h=>xT h
 tot:=fun _ _ hi hj dK hn=>xR t (fun e=>dK (vL h hi hj e)) hn
structure xU (f:List Pt) (t:Int×Int) (N:List Nd) (r:Int):Prop where
 len:(aeY N)=aeY f
 ids: ∀k,k<aeY f->(N[k]!).1=(f[k]!).1
 ls:nK (ahP f t) N 0 (aeY f) r
theorem xU.same {f:List Pt} (h:eX f) {t:Int×Int} {N N':List Nd} {r r':Int} (a:xU f t N r) (b:xU f t N' r'):N=N'/\r=r':=by
 obtain ⟨e1,e2⟩:=a.ls.unique (YM h t) (NE _) b.ls;refine ⟨rh (by rw [a.len,b.len]) fun k hk=>?_,e1⟩;have hk:k<(aeY f):=by rw [<- a.len];exact hk
 exact Prod.ext (by rw [a.ids k hk,b.ids k hk]) (e2 k (WF _) hk)
def Below (N:List Nd) (k j:Nat):Prop:=(N[j]!).2.1=(k:Int)\/(N[j]!).2.2=(k:Int)
noncomputable def Dh (N:List Nd) (k:Nat):Nat:=if h: ∃j,j<aeY N/\Below N k j then h.choose else (aeY N)
noncomputable def ahw (N:List Nd) (k:Nat):List (Int×Int):=if Dh N k<(aeY N) then [((N[k]!).1,(N[Dh N k]!).1)] else []
noncomputable def Tx (N:List Nd):Nat->List (Int×Int)
 |0=>[]
 |k+1=>Tx N k++ahw N k
section
variable {f : List Pt} {t : Int × Int} {N : List Nd} {r : Int}
theorem xU.par (h:xU f t N r) {k:Nat} (hk:k<aeY f):((k:Int)=r->Dh N k=aeY N)/\((k:Int)≠r->Dh N k<aeY N/\Below N k (Dh N k)/\Dh N k≠k/\ahP f t (Dh N k) k)/\ ∀m,m<aeY N->Below N k m->m=Dh N k:=by
 have ln:=h.len
 by_cases hr:(k:Int)=r
 · have none: ¬ ∃j,j<aeY N/\Below N k j:=by
    rintro ⟨j,hj,hb⟩;rcases h.ls.kids j (WF _) (by omega) (k:Int) hb with e|⟨_,_,_,_,_,_,e⟩
    · omega
    exact e hr.symm
   have e:Dh N k=(aeY N):=by unfold Dh;rw [dif_neg none]
   exact ⟨fun _=>e,fun q=>absurd hr q,fun m hm hb=>absurd ⟨m,hm,hb⟩ none⟩
 obtain ⟨j,_,j2,j3,j4⟩:=h.ls.up k (WF _) hk hr
 have ex: ∃j,j<aeY N/\Below N k j:=⟨j,by omega,j3⟩;have e:Dh N k=j:=by unfold Dh;rw [dif_pos ex];have:=ex.choose_spec;exact j4 _ (WF _) (by omega) this.2
 refine ⟨fun q=>absurd q hr,fun _=>?_,fun m hm hb=>by rw [e];exact j4 m (WF _) (by omega) hb⟩;rw [e];refine ⟨by omega,j3,?_,?_⟩
 · rcases h.ls.kids j (WF _) j2 (k:Int) j3 with q|⟨i,q,_,_,q2,_⟩
   · omega
   intro w;omega
 rcases h.ls.kids j (WF _) j2 (k:Int) j3 with q|⟨i,q,_,_,_,q2,_⟩
 · omega
 have:i=k:=by omega
 rw [<- this];exact q2
end
def o1 (f:List Pt) (t:Int×Int) (e c:Nat) (i:Nat) (lc:Int) (N:List Nd) (E:List Int) (left:Int):=
 (e,c,(i:Int),f,((aeY f):Int),(i:Int),f,t.1,t.2,(0:Int),lc,N,E,(f[i]!).1,(f[i]!).2.1,(f[i]!).2.2,(f[i]!).1,left,(-1:Int))
section
variable {f : List Pt} {t : Int × Int} {N : List Nd} {r : Int}
theorem xU.link (h:xU f t N r) {j:Nat} (hj:j<aeY f) {c:Int} (hc:(N[j]!).2.1=c\/(N[j]!).2.2=c):c= -1\/(0<=c/\c<aeY N):=by
 have ln:=h.len;rcases h.ls.kids j (WF _) hj c hc with e|⟨k,e,_,k2,_⟩
 · exact .inl e
 exact .inr ⟨by omega,by omega⟩
end
theorem YN (c:aI) (es:List (Int×Int)) (h1:(aeY es)<=1000000) (_:(aeY c.af.ce)<=1000000):
 xF c es=aeZ (afa (aeY es=aeY c.af.ce/\ ∀i,i<aeY c.af.ce->(c.af.ce[i]!).2∈es)):=by
 unfold xF fT gB;simp only [aA]
 by_cases h0:(aeY es)=aeY c.af.ce
 case neg=>rw [eu (by omega),pp,aE (fun q=>h0 q.1)]
 rw [eT (by omega),lw];have key:=iG (body:=bF) (fun i=>(c.af.ce,es,((aeY c.af.ce):Int),(i:Int))) (aeY c.af.ce) (fun i=>(c.af.ce[i]!).2∉es) (fun i=>(i:Int)) (e:= -1) (fun i hi=>by
  unfold bF zc;simp only [aG (show (i:Int)<((aeY c.af.ce):Int) by omega),lw,au c.af.ce i hi,aj,iP es _ h1,ba (show i<1000000000 by omega)];refine ⟨fun q=>?_,fun q=>?_⟩
  · rw [aE q];rfl
  · rw [aG (If.1 q)];rfl) (by
  unfold bF;simp only [aE (show¬((aeY c.af.ce):Int)<((aeY c.af.ce):Int) by omega),pp])
 by_cases hx: ∀i,i<aeY c.af.ce->(c.af.ce[i]!).2∈es
 · rw [show ar bF (c.af.ce,es,((aeY c.af.ce):Int),0)=_ from key.2 (fun i hi=>If.2 (hx i hi)),aj,aj,aE (by omega),aG ⟨h0,hx⟩]
   rfl
 obtain ⟨i,hi⟩:=aaB.1 hx
 obtain ⟨hi,hn⟩:=aaC.1 hi;obtain ⟨m,m1,m2,m3⟩:=least (c:=fun i=>(c.af.ce[i]!).2∉es) ⟨i,hi,hn⟩;rw [show ar bF (c.af.ce,es,((aeY c.af.ce):Int),0)=_ from key.1 m m1 m2 m3,aj,aj,aG (by omega),aE (fun w=>hx w.2)];rfl
structure Ty (k:Cg):Prop where
 DD:bg k.jp
 ls:xU k.jp.ii.am k.jp.ci k.ls.lm k.ls.lc
 cert:(k.jp.af.ce.map fun x=>x.2).Perm (Tx k.ls.lm (aeY k.jp.ii.am))
structure aei (k:Cg):Prop where
 c:OF k.jp
 n:(aeY k.ls.lm)<=1000
theorem FH {α:Type} [BEq α] [LawfulBEq α]: ∀{a b:List α},a.Nodup->(∀x∈a,x∈b)->aeY a<=aeY b
 | [],_,_,_=>WF _
 |x::a,b,hd,h=>by rw [aeC] at hd;have hx:=h x aeh;have:=FH (a:=a) (b:=b.erase x) hd.2 (fun y hy=>by rw [List.mem_erase_of_ne (fun e=>hd.1 (by rw [<- e];exact hy))];exact h y (aal _ hy));rw [List.length_erase_of_mem hx] at this;have:=List.length_pos_of_mem hx;rw [aey];omega
theorem xV {α:Type} [BEq α] [LawfulBEq α] {a b:List α} (ha:a.Nodup) (hb:b.Nodup) (h1: ∀x∈a,x∈b) (h2: ∀x∈b,x∈a):a.Perm b:=Aa ha h1 (FH hb h2)
structure M6 (R:Cg) (F:List Pt) (t:Int×Int):Prop where
 ok:Ty R
 j0:R.jp.ii.am=F
 ci:R.jp.ci=t
theorem M6.short {R:Cg} {F:List Pt} {t:Int×Int} (h:M6 R F t):aei R:=by have:=h.ok.DD.j0.1;refine ⟨h.ok.DD.short,?_⟩;have:=h.ok.ls.len;omega
theorem M6.xK {R:Cg} {F:List Pt} {t:Int×Int} (h:M6 R F t):uG R.jp:=h.ok.DD.fit
theorem M6.same {R S:Cg} {F:List Pt} {t:Int×Int} (h:M6 R F t) (k:M6 S F t):R.ls=S.ls:=by have a:=h.ok.ls;rw [h.j0,h.ci] at a;have b:=k.ok.ls;rw [k.j0,k.ci] at b;obtain ⟨e1,e2⟩:=a.same (by rw [<- h.j0];exact h.ok.DD.j0.2.2) b;obtain ⟨_,⟨r,N⟩⟩:=R;obtain ⟨_,⟨r',N'⟩⟩:=S;simp only at e1 e2;subst e1 e2;rfl
theorem yJ {f:List Pt} {m:Nat} {p q:Pt}:q∈pI f m p↔q=p\/q∈f:=by
 unfold pI;rw [aaz,ae7];constructor
 · rintro (h|h|h)
   · exact .inr (aeH h)
   · exact .inl h
   exact .inr (aeI h)
 rintro (h|h)
 · exact .inr (.inl h)
 rw [<- aeF m f] at h
 rcases aaz.1 h with h|h
 · exact .inl h
 exact .inr (.inr h)
theorem Cs {f:List Pt} (hs:eX f) {q:Nat} (hq:q<aeY f) {p:Pt}:p∈f.eraseIdx q↔p∈f/\p.1≠(f[q]!).1:=by
 rw [List.mem_eraseIdx_iff_getElem];constructor
 · rintro ⟨i,hi,dK,rfl⟩
   refine ⟨aeQ _,fun e=>?_⟩;rw [<- getElem!_pos f i hi] at e;rcases M2 i q with c|c|c
   · have:=eh hs c hq;omega
   · exact dK c
   have:=eh hs c hi;omega
 rintro ⟨hp,dK⟩
 obtain ⟨i,hi,rfl⟩:=aQ.1 hp;refine ⟨i,hi,fun e=>dK (by rw [e]),?_⟩;rw [getElem!_pos f i hi]
theorem K9 {f:List Pt} (hs:eX f) {q:Pt} (h:q∈f):iA f q.1=q:=by obtain ⟨i,hi,rfl⟩:=aQ.1 h;exact Bi hs hi rfl
theorem vT {f:List Pt} (hs:eX f) {x:Int} (h:fJ f x):iA f x∈f/\(iA f x).1=x:=by obtain ⟨i,hi,rfl⟩:=h;rw [K9 hs (aX hi)];exact ⟨aX hi,rfl⟩
theorem Hn {f g:List Pt} (hf:eX f) (hg:eX g) {x:Int} (h:fJ f x) (hm:iA f x∈g):iA g x=iA f x:=by
 have:=K9 hg hm
 rwa [(vT hf h).2] at this
abbrev Tz (f:List Pt) (t:Int×Int) (a b:Int):Prop:=leads (iA f a) (iA f b) t
theorem Ho {f:List Pt} (hs:eX f) {t:Int×Int} {l:List Int} (hp: ∀x∈l,fJ f x) (nd:l.Nodup):(∀e∈xP l,leads (iA f e.2) (iA f e.1) t)↔Hp (Tz f t) l:=by
 constructor
 · intro h j h1 h2 c
   have hm:(l[j]!,l[par j]!)∈xP l:=by refine aQ.2 ⟨j-1,by rw [Ab];omega,?_⟩;rw [C4 l (show j-1<aeY l-1 by omega),show j-1+1=j by omega]
   exact xT c (h _ hm)
 intro h e he
 obtain ⟨i,hi,rfl⟩:=aQ.1 he;rw [Ab] at hi;rw [C4 l hi];have:=h (i+1) (by omega) (by omega);have pe:par (i+1)=i / 2:=by simp only [par];omega
 rw [pe] at this;refine xR t ?_ this;rw [(vT hs (hp _ (aX (by omega)))).2,(vT hs (hp _ (aX (by omega)))).2];exact fun e=>iN.1 nd (i / 2) (i+1) (by omega) (by omega) e.symm
structure alw (R:zb) (F:List Pt) (t:Int×Int):Prop where
 ok:rB R
 j0:R.jp.ii.am=F
 ci:R.jp.ci=t
theorem rB.len {k:zb} (h:rB k):(aeY k.bv)=(aeY k.jp.ii.am):=by rw [<- h.perm.length_eq];exact aav ..
theorem rB.bd {k:zb} (h:rB k):(aeY k.bv)<=64:=by have:=h.len;have:=h.DD.j0.1;omega
theorem rB.has {k:zb} (h:rB k): ∀x∈k.bv,fJ k.jp.ii.am x:=fun _ hx=>o4.1 (h.perm.mem_iff.2 hx)
theorem rB.nd {k:zb} (h:rB k):k.bv.Nodup:=h.perm.nodup_iff.1 (Cr h.DD.j0.2.2)
theorem rB.hp {k:zb} (h:rB k):Hp (Tz k.jp.ii.am k.jp.ci) k.bv:=(Ho h.DD.j0.2.2 h.has h.nd).1 h.lead
theorem C3.bv {c:aI} {f:List Pt} (bY:bn f) {l:List Int} (pm:(iT f).Perm l) {R:zb} (e:R.bv=l) (q:C3 c f (xP l) R.jp) (h:Hp (Tz f c.ci) l):alw R f c.ci:=by
 have nd:=pm.nodup_iff.1 (Cr bY.2.2);refine ⟨⟨q.ok,by rw [q.j0,e];exact pm,?_,?_⟩,q.j0,q.ci⟩
 · rw [e]
   exact xV (sK q.ok.wM) (K4 nd) (fun x hx=>by obtain ⟨y,hy,rfl⟩:=aeg.1 hx;exact q.sub y hy) (fun x hx=>xQ.1 (q.has x hx))
 rw [e,q.j0,q.ci]
 exact (Ho bY.2.2 (fun x hx=>o4.1 (pm.mem_iff.2 hx)) nd).2 h
def bJ (p w:List Int) (i:Nat):Int:=if i<(aeY w) then w[i]! else p[i-(aeY w)]!
def jv (i j:Nat):Prop:= ∃d,(j+1) / 2^d=i+1
theorem jv.refl (i:Nat):jv i i:=⟨0,by simp⟩
theorem mO {i k j:Nat} (hk:k=2*i+1\/k=2*i+2) (h:jv k j):jv i j:=by obtain ⟨d,hd⟩:=h;refine ⟨d+1,?_⟩;rw [acZ,<- aaG,hd];omega
theorem DE {a b c d:Nat} (h:a<=b) (hc:(c+1) / 2^a=d):(c+1) / 2^b=d / 2^(b-a):=by
 have:2^b=2^a*2^(b-a):=by rw [<- Nat.pow_add];congr 1;omega
 rw [this,<- aaG,hc]
theorem La {x e:Nat} (he:0<e):x / 2^e<=x / 2:=by obtain ⟨k,rfl⟩: ∃k,e=k+1:=⟨e-1,by omega⟩;rw [show 2^(k+1)=2*2^k by rw [acZ];omega,<- aaG];exact Nat.div_le_self _ _
theorem pJ {i j:Nat} (h1:jv (2*i+1) j) (h2:jv (2*i+2) j):False:=by
 obtain ⟨a,ha⟩:=h1;obtain ⟨b,hb⟩:=h2;rcases M2 a b with h|h|h
 · have:=DE (aeO h) ha
   have:=La (x:=2*i+1+1) (e:=b-a) (by omega);omega
 · subst h;omega
 have:=DE (aeO h) hb
 have:=La (x:=2*i+2+1) (e:=a-b) (by omega);omega
theorem TA {i k j1 j2:Nat} (h1:jv (2*i+1) j1) (h2:jv (2*i+2) j2) (g:(jv (2*k+1) j1/\jv (2*k+2) j2)\/(jv (2*k+1) j2/\jv (2*k+2) j1)):i=k:=by
 have main: ∀{i k j1 j2:Nat},jv (2*i+1) j1\/jv (2*i+2) j1->jv i j2->(jv (2*k+1) j1/\jv (2*k+2) j2)\/(jv (2*k+1) j2/\jv (2*k+2) j1)-> ∀a a':Nat,(j1+1) / 2^a=i+1->(j1+1) / 2^a'=k+1->a<a'->False:=by
  intro i k j1 j2 _ u2 g a a' ha Ei dz;have e:=DE (aeO dz) ha;rw [Ei] at e;obtain ⟨c,hc⟩: ∃c,a'-a=c+1:=⟨a'-a-1,by omega⟩;rw [hc,acZ,<- aaG] at e;have q: ∃m,(i+1) / 2^c=m+1/\(m=2*k+1\/m=2*k+2):=⟨(i+1) / 2^c-1,by omega,by omega⟩;obtain ⟨m,hm,hmk⟩:=q;have um: ∀j,jv i j->jv m j:=fun j ⟨d,hd⟩=>⟨d+c,by rw [DE (Nat.le_add_right d c) hd,show d+c-d=c by omega,hm]⟩
  have u1:jv i j1:=⟨a,ha⟩;have v1:=um _ u1;have v2:=um _ u2;rcases hmk with rfl|rfl
  · rcases g with g|g
    · exact pJ v2 g.2
    exact pJ v1 g.2
  rcases g with g|g
  · exact pJ g.1 v1
  exact pJ g.1 v2
 have i1:jv i j1:=mO (.inl rfl) h1;have i2:jv i j2:=mO (.inr rfl) h2;have k1:jv k j1:=by rcases g with g|g;exact mO (.inl rfl) g.1;exact mO (.inr rfl) g.2
 have k2:jv k j2:=by rcases g with g|g;exact mO (.inr rfl) g.2;exact mO (.inl rfl) g.1
 obtain ⟨a,ha⟩:=i1;obtain ⟨a',Ei⟩:=k1;rcases M2 a a' with h|h|h
 · exact (main (.inl h1) i2 g a a' ha Ei h).elim
 · subst h;omega
 exact (main (i:=k) (k:=i) (j1:=j1) (j2:=j2) (by rcases g with g|g;exact .inl g.1;exact .inr g.2) k2 (.inl ⟨h1,h2⟩) a' a Ei ha h).elim
def Ac (p w:List Int):Prop:= ∀i,i<aeY w->w[i]! =bJ p w (2*i+1)\/w[i]! =bJ p w (2*i+2)
theorem vU {p w:List Int} (hl:(aeY w)+1=aeY p) (hc:Ac p w): ∀(d i:Nat),aeY w+aeY p-i<=d->i<aeY w+aeY p-> ∃j,aeY w<=j/\j<aeY w+aeY p/\jv i j/\p[j-(aeY w)]! =bJ p w i:=by
 intro d
 induction d with
 |zero=>intro i h1 h2;omega
 |succ d ih=>
  intro i h1 h2
  by_cases hi:i<aeY w
  · rcases hc i hi with e|e
    · obtain ⟨j,j1,j2,j3,j4⟩:=ih (2*i+1) (by omega) (by omega)
      refine ⟨j,j1,j2,mO (.inl rfl) j3,?_⟩;rw [j4,<- e];unfold bJ;rw [rc hi]
    obtain ⟨j,j1,j2,j3,j4⟩:=ih (2*i+2) (by omega) (by omega)
    refine ⟨j,j1,j2,mO (.inr rfl) j3,?_⟩;rw [j4,<- e];unfold bJ;rw [rc hi]
  refine ⟨i,by omega,h2,.refl i,?_⟩
  unfold bJ;rw [ut hi]
def Ct (p:List Int):Prop:= ∀i j,i<j->j<aeY p->p[i]! =p[j]!->p[i]!<0
theorem Ct.inj {p:List Int} (h:Ct p) {i j:Nat} (hi:i<aeY p) (hj:j<aeY p) (e:p[i]! =p[j]!) (h0:0<=p[i]!):i=j:=by
 rcases M2 i j with k|k|k
 · have:=h i j k hj e;omega
 · exact k
 have:=h j i k hi e.symm;rw [<- e] at this;omega
section
variable {p w : List Int} (hl : (aeY w) + 1 = (aeY p)) (hc : Ac p w) (ho : Ct p)
include hl hc
theorem rC {i:Nat} (hi:i<aeY w+aeY p):bJ p w i∈p:=by obtain ⟨j,j1,j2,_,e⟩:=vU hl hc _ i (NE _) hi;rw [<- e];exact aX (by omega)
include ho
theorem DF {i:Nat} (hi:i<aeY w) (h0:0<=bJ p w (2*i+1)):bJ p w (2*i+1)≠bJ p w (2*i+2):=by
 intro e;obtain ⟨j,j1,j2,j3,j4⟩:=vU hl hc _ (2*i+1) (NE _) (by omega);obtain ⟨k,k1,k2,k3,k4⟩:=vU hl hc _ (2*i+2) (NE _) (by omega);have:=ho.inj (i:=j-(aeY w)) (j:=k-(aeY w)) (by omega) (by omega) (by rw [j4,k4,e]) (by rw [j4];exact h0);obtain rfl:j=k:=by omega
 exact pJ j3 k3
theorem TB {i k:Nat} (hi:i<aeY w) (hk:k<aeY w) (h1:0<=bJ p w (2*i+1)) (h2:0<=bJ p w (2*i+2))
 (g:(bJ p w (2*k+1)=bJ p w (2*i+1)/\bJ p w (2*k+2)=bJ p w (2*i+2))\/(bJ p w (2*k+1)=bJ p w (2*i+2)/\bJ p w (2*k+2)=bJ p w (2*i+1))):i=k:=by
 obtain ⟨j1,a1,a2,a3,a4⟩:=vU hl hc _ (2*i+1) (NE _) (by omega);obtain ⟨j2,b1,b2,b3,b4⟩:=vU hl hc _ (2*i+2) (NE _) (by omega);obtain ⟨l1,c1,c2,c3,c4⟩:=vU hl hc _ (2*k+1) (NE _) (by omega);obtain ⟨l2,d1,d2,d3,d4⟩:=vU hl hc _ (2*k+2) (NE _) (by omega);have same: ∀{x y:Nat},aeY w<=x->x<aeY w+aeY p->aeY w<=y->y<aeY w+aeY p->p[x-(aeY w)]! =p[y-(aeY w)]!->0<=p[x-(aeY w)]!->x=y:=fun {x y} hx hx' hy hy' e h0=>by have:=ho.inj (i:=x-(aeY w)) (j:=y-(aeY w)) (by omega) (by omega) e h0;omega
 refine TA a3 b3 ?_;rcases g with ⟨g1,g2⟩|⟨g1,g2⟩
 · have e1:j1=l1:=same a1 a2 c1 c2 (by rw [a4,c4,g1]) (by rw [a4];exact h1)
   have e2:j2=l2:=same b1 b2 d1 d2 (by rw [b4,d4,g2]) (by rw [b4];exact h2);subst e1 e2;exact .inl ⟨c3,d3⟩
 have e1:j2=l1:=same b1 b2 c1 c2 (by rw [b4,c4,g1]) (by rw [b4];exact h2)
 have e2:j1=l2:=same a1 a2 d1 d2 (by rw [a4,d4,g2]) (by rw [a4];exact h1);subst e1 e2;exact .inr ⟨c3,d3⟩
end
noncomputable def wH (f:List Pt) (t:Int×Int) (x y:Int):Int:=if x<0 then y else if y<0 then x else if leads (iA f x) (iA f y) t then x else y
theorem OH (f:List Pt) (t:Int×Int) (x y:Int):wH f t x y=x\/wH f t x y=y:=by
 unfold wH;split
 · exact .inr rfl
 split
 · exact .inl rfl
 split
 · exact .inl rfl
 exact .inr rfl
def Lb (f:List Pt) (t:Int×Int) (p w:List Int):Prop:=aeY w+1=aeY p/\ ∀i,i<aeY w->w[i]! =wH f t (bJ p w (2*i+1)) (bJ p w (2*i+2))
theorem Lb.tF {f:List Pt} {t:Int×Int} {p w:List Int} (h:Lb f t p w):Ac p w:=fun i hi=>by rw [h.2 i hi];exact OH ..
noncomputable def Hq (f:List Pt) (t:Int×Int) (p:List Int):Nat->List Int->List Int
 |0,w=>w
 |i+1,w=>Hq f t p i (w.set i (wH f t (bJ p w (2*i+1)) (bJ p w (2*i+2))))
noncomputable def bz (f:List Pt) (t:Int×Int) (p:List Int):List Int:=Hq f t p (aeY p-1) (v6 (aeY p-1) 0)
theorem Hr {p w:List Int} {i k:Nat} {v:Int} (h:i≠k):bJ p (w.set i v) k=bJ p w k:=by
 unfold bJ;rw [Do];split
 · rw [aT,ut (fun x=>h x.1.symm)]
 rfl
theorem Hs {f:List Pt} {t:Int×Int} {p:List Int}: ∀(n:Nat) (w:List Int),n<=aeY w->(∀i,n<=i->i<aeY w->w[i]! =wH f t (bJ p w (2*i+1)) (bJ p w (2*i+2)))->
 (Hq f t p n w).length=aeY w/\ ∀i,i<aeY w->(Hq f t p n w)[i]! =wH f t (bJ p (Hq f t p n w) (2*i+1)) (bJ p (Hq f t p n w) (2*i+2))
 |0,w,_,h=>⟨rfl,fun i hi=>h i (WF _) hi⟩
 |n+1,w,hn,h=>by
  have ih:=Hs n (w.set n (wH f t (bJ p w (2*n+1)) (bJ p w (2*n+2)))) (by rw [Do];omega) (fun i h1 h2=>by
   rw [Do] at h2;rw [Hr (by omega),Hr (by omega),aT];split
   · rename_i e;rw [e.1]
   exact h i (by omega) h2)
  rw [Do] at ih;exact ih
theorem dE {f:List Pt} {t:Int×Int} {p:List Int} (hp:1<=aeY p):Lb f t p (bz f t p):=by have:=Hs (f:=f) (t:=t) (p:=p) (aeY p-1) (v6 (aeY p-1) 0) (by rw [ww];omega) (fun i h1 h2=>by rw [ww] at h2;omega);rw [ww] at this;have hl:(bz f t p).length=aeY p-1:=this.1;exact ⟨by omega,fun i hi=>this.2 i (by omega)⟩
noncomputable def wq (p w:List Int) (i:Nat):Option (Int×Int):=
 if bJ p w (2*i+1)<0\/bJ p w (2*i+2)<0 then none
 else if w[i]! =bJ p w (2*i+1) then aeZ (bJ p w (2*i+2),bJ p w (2*i+1)) else aeZ (bJ p w (2*i+1),bJ p w (2*i+2))
noncomputable def eZ (p w:List Int):List (Int×Int):=(aeB (aeY w)).filterMap (wq p w)
theorem Ad (p w:List Int):(eZ p w).length<=(aeY w):=by
 have:=aev (wq p w) (aeB (aeY w))
 rwa [aet] at this
theorem FI {p w:List Int} {e:Int×Int}:e∈eZ p w↔ ∃i,i<aeY w/\wq p w i=aeZ e:=by
 unfold eZ;rw [aeN];constructor
 · rintro ⟨i,hi,h⟩;exact ⟨i,ac0.1 hi,h⟩
 rintro ⟨i,hi,h⟩;exact ⟨i,ac0.2 hi,h⟩
theorem vV {p w:List Int} {i:Nat} {e:Int×Int} (h:wq p w i=aeZ e):0<=bJ p w (2*i+1)/\0<=bJ p w (2*i+2)/\
 ((e=(bJ p w (2*i+2),bJ p w (2*i+1))/\w[i]! =bJ p w (2*i+1))\/(e=(bJ p w (2*i+1),bJ p w (2*i+2))/\w[i]!≠bJ p w (2*i+1))):=by
 unfold wq at h;split at h
 · cases h
 rename_i hn
 refine ⟨by omega,by omega,?_⟩;split at h
 · rename_i h1;injection h with h;exact .inl ⟨h.symm,h1⟩
 rename_i h1;injection h with h;exact .inr ⟨h.symm,h1⟩
theorem wz {α β:Type} {g:α->Option β}: ∀{l:List α},l.Nodup->(∀x∈l,∀y∈l,∀b,g x=aeZ b->g y=aeZ b->x=y)->(l.filterMap g).Nodup
 | [],_,_=> .nil
 |a::r,h,hi=>by
  obtain ⟨h1,h2⟩:=aeC.1 h;have ih:=wz (g:=g) h2 (fun x hx y hy b e1 e2=>hi x (aal _ hx) y (aal _ hy) b e1 e2);cases hg:g a with
  |none=>rw [List.filterMap_cons_none hg];exact ih
  |some b=>rw [List.filterMap_cons_some hg];refine aeC.2 ⟨fun hb=>?_,ih⟩;obtain ⟨y,hy,e⟩:=aeN.1 hb;have:=hi a (aeh ..) y (aal _ hy) b hg e;subst this;exact h1 hy
theorem IZ {p w:List Int} (hl:(aeY w)+1=aeY p) (hc:Ac p w) (ho:Ct p):(eZ p w).Nodup:=by
 refine wz aeR fun i hi k hk b e1 e2=>?_
 have hi:=ac0.1 hi;have hk:=ac0.1 hk;obtain ⟨a1,a2,a3⟩:=vV e1;obtain ⟨b1,b2,b3⟩:=vV e2;refine TB hl hc ho hi hk a1 a2 ?_;rcases a3 with ⟨rfl,_⟩|⟨rfl,_⟩<;>rcases b3 with ⟨h,_⟩|⟨h,_⟩<;>(injection h with h1 h2)
 · exact .inl ⟨h2.symm,h1.symm⟩
 · exact .inr ⟨h1.symm,h2.symm⟩
 · exact .inr ⟨h2.symm,h1.symm⟩
 exact .inl ⟨h1.symm,h2.symm⟩
theorem P9 {f:List Pt} (bY:bn f) {p w:List Int} (hl:(aeY w)+1=aeY p) (hn:(aeY p)<=64) (hc:Ac p w) (ho:Ct p) (hk: ∀x∈p,0<=x->fJ f x):o3 f (eZ p w):=by
 have hp: ∀e∈eZ p w,jZ f e/\e.1≠e.2:=fun e he=>by
  obtain ⟨i,hi,h⟩:=FI.1 he;obtain ⟨a1,a2,a3⟩:=vV h;have m1:=rC hl hc (i:=2*i+1) (by omega);have m2:=rC hl hc (i:=2*i+2) (by omega);have ne:=DF hl hc ho hi a1;rcases a3 with ⟨rfl,_⟩|⟨rfl,_⟩
  · exact ⟨⟨hk _ m2 a2,hk _ m1 a1⟩,fun h=>ne h.symm⟩
  exact ⟨⟨hk _ m1 a1,hk _ m2 a2⟩,ne⟩
 refine ⟨by have:=Ad p w;omega,fun e he=>?_,fun e he=>(hp e he).1⟩;obtain ⟨⟨h1,h2⟩,ne⟩:=hp e he;obtain ⟨⟨p1,p2⟩,q1,q2⟩:=And.intro (eb bY h1) (eb bY h2);unfold eO at p1 q1;unfold fi;omega
section
variable {P : Int -> Int -> Prop} {S : Int -> Prop} {bit : Int -> Nat -> Nat}
end
theorem FJ {α:Type} (z:α): ∀(l:List (Int×α)) (k:Int) (a:α) (j:Int),px z (nU l k a) j=if j=k then a else px z l j
 | [],k,a,j=>by
  simp only [nU,px]
  by_cases h:j=k
  · rw [rc h,eT h];rfl
  rw [ut h,eu h];rfl
 |p::l,k,a,j=>by
  simp only [nU]
  by_cases h:k=p.1
  · rw [eT h,lw]
    simp only [px]
    by_cases c:j=k
    · rw [rc c,eT c];rfl
    rw [ut c,eu c,pp,eu (by rw [<- h];exact c),pp]
  rw [eu h,pp]
  simp only [px];rw [FJ z l k a j]
  by_cases c:j=p.1
  · rw [eT c,lw,lw,ut (by rw [c];exact fun e=>h e.symm)]
  rw [eu c,pp,pp]
section
variable {f : List Pt} {t : Int × Int}
end
def Di (f:List Pt) (x:Int):Prop:=x= -1\/(0<=x/\fJ f x)
theorem Di.has {f:List Pt} {x:Int} (h:Di f x) (h0:0<=x):fJ f x:=by rcases h with h|h;omega;exact h.2
theorem yK {p w:List Int} {i:Nat} (hi:i<aeY w+aeY p) (hb:(aeY w)+aeY p<=1000):oy ⟨p,w⟩ (i:Int)=aeZ (bJ p w i):=by
 unfold oy bJ;simp only [aA]
 by_cases h:i<aeY w
 · rw [aG (by omega),lw,au w i h,aj,rc h]
 rw [aE (by omega),pp,ib ⟨by omega,by omega⟩,show (i:Int) - ((aeY w):Int)=((i-(aeY w):Nat):Int) by omega,au p _ (by omega),aj,ut h]
theorem mi {p w:List Int} {i:Nat} (hi:i<aeY w+aeY p) (hb:(aeY w)+aeY p<=1000):gJ ⟨p,w⟩ (i:Int)=aeZ (bJ p w i):=by
 unfold gJ bJ;have e:aa .i64 ((i:Int) - ((aeY w):Int))=(i:Int) - ((aeY w):Int):=ib ⟨by omega,by omega⟩;simp only [aA,e]
 by_cases h:i<aeY w
 · rw [aE (by omega),pp,au w i h,aj,rc h]
 rw [aG (by omega),lw,show (i:Int) - ((aeY w):Int)=((i-(aeY w):Nat):Int) by omega,au p _ (by omega),aj,ut h]
theorem rD {i:Nat} (h:i<1000) (k:Nat) (hk:k<=2):aa .i64 ((aa .i64 (2*(i:Int)))+(k:Int))=((2*i+k:Nat):Int):=by rw [ib (n:=2*(i:Int)) ⟨by omega,by omega⟩,ib ⟨by omega,by omega⟩];omega
theorem I0 {f:List Pt} (bY:bn f) {t:Int×Int} (rq:nQ t) {x y:Int} (hx:Di f x) (hy:Di f y):yx ⟨f⟩ t x y=aeZ (wH f t x y):=by
 unfold yx wH
 by_cases h1:x<0
 · rw [aG h1,lw,rc h1]
 rw [aE h1,pp,ut h1]
 by_cases h2:y<0
 · rw [aG h2,lw,rc h2]
 rw [aE h2,pp,ut h2];have p1:=hx.has (by omega);have p2:=hy.has (by omega);obtain ⟨j,j1,j2,j3⟩:=IV bY p1;obtain ⟨k,k1,k2,k3⟩:=IV bY p2;simp only [j2,k2,aj,au f j j1,au f k k1,j3,k3,KE (eb bY p1).1 (eb bY p2).1 rq]
 by_cases h:leads (iA f x) (iA f y) t
 · rw [aG h,lw,rc h]
 rw [aE h,pp,ut h]
theorem FK:cN=aO:=rfl
theorem oF {f:List Pt} (bY:bn f) {x:Int} (h:fJ f x): ∃k,k<aeY f/\iB ⟨f⟩ x=aeZ ((k:Int),af5)/\f[k]! =iA f x:=by have h1:=bY.1;have bs:=oX f x (by omega) (fun i j=>eh bY.2.2);obtain ⟨k,hk,he⟩:=h;refine ⟨k,hk,?_,(Bi bY.2.2 hk he).symm⟩;unfold iB;rw [FK,bs.1 k hk he];rfl
theorem Cu {f:List Pt} (bY:bn f) {x:Int} (h: ¬fJ f x): ∃m:Nat,iB ⟨f⟩ x=aeZ ((m:Int),af6):=by have h1:=bY.1;have bs:=oX f x (by omega) (fun i j=>eh bY.2.2);obtain ⟨m,_,_,_,e⟩:=bs.2 (fun k hk he=>h ⟨k,hk,he⟩);refine ⟨m,?_⟩;unfold iB;rw [FK,e];rfl
theorem FL {f:List Pt} (bY:bn f) {t:Int×Int} (r:bS t) (rq:nQ t) {x y:Int} (hx:Di f x) (hy:Di f y) (dK:0<=x->x≠y):mJ ⟨f⟩ t x y=aeZ (wH f t x y):=by
 unfold mJ wH
 by_cases h1:x<0
 · rw [aG (by split<;>omega),lw,rc h1]
   have:x= -1:=by rcases hx with h|h;exact h;omega
   have: -1<=y:=by rcases hy with h|h<;>omega
   congr 1
   split<;>omega
 rw [ut h1]
 by_cases h2:y<0
 · rw [aG (by split<;>omega),lw,rc h2]
   congr 1
   split<;>omega
 rw [aE (by split<;>omega),pp,ut h2];have p1:=hx.has (by omega);have p2:=hy.has (by omega);obtain ⟨j,j1,j2,j3⟩:=oF bY p1;obtain ⟨k,k1,k2,k3⟩:=oF bY p2;obtain ⟨a1,a2⟩:=eb bY p1;obtain ⟨b1,b2⟩:=eb bY p2;simp only [j2,k2,aj,au f j j1,au f k k1,j3,k3];rcases Dg a1 b1 rq r with h|⟨h,_⟩
 · rw [h,aj]
   by_cases h:leads (iA f x) (iA f y) t
   · rw [rc h];dsimp only;rw [aG h,lw]
   rw [ut h];dsimp only;rw [aE h,pp]
 rw [a2,b2] at h;exact absurd h (dK (by omega))
def nW (B:List Int) (i:Nat):List Int:=v6 i 0++B.drop i
theorem oG {B:List Int} {i:Nat} (h:i<=aeY B):(nW B i).length=(aeY B):=by unfold nW;rw [AC,ww,adc];omega
theorem yL {B:List Int} {i k:Nat} (h:i<=k) (hi:i<=aeY B):(nW B i)[k]! =B[k]!:=by
 unfold nW;rw [cV (by rw [ww];exact h),lG,ww]
 congr 1;omega
theorem vW {p B:List Int} {i k:Nat} (h:i<=k) (hi:i<=aeY B):bJ p (nW B i) k=bJ p B k:=by
 unfold bJ;rw [oG hi];split
 · exact yL h hi
 rfl
theorem Ht {B:List Int} {i:Nat} (h:i<aeY B):(nW B (i+1)).set i B[i]! =nW B i:=by
 refine rh (by rw [Do,oG (by omega),oG (by omega)]) fun k hk=>?_
 rw [Do,oG (by omega)] at hk;rw [aT]
 by_cases e:k=i
 · rw [rc ⟨e,by rw [oG (by omega)];omega⟩,yL (by omega) (by omega),e]
 rw [ut (fun x=>e x.1)]
 by_cases h2:k<i
 · unfold nW
   rw [bN (by rw [ww];omega),bN (by rw [ww];omega)];rw [getElem!_pos _ k (by rw [ww];omega),getElem!_pos _ k (by rw [ww];omega),ad2,ad2]
 rw [yL (by omega) (by omega),yL (by omega) (by omega)]
section
variable {f : List Pt} (bY : bn f) {t : Int × Int} (r : bS t) (rq : nQ t) {p : List Int} (h1 : 1 <= (aeY p)) (h64 : (aeY p) <= 64) (hk : ∀ x ∈ p, Di f x)
include bY rq h1 h64 hk
theorem DG {i:Nat} (hi:i<(bz f t p).length+aeY p):Di f (bJ p (bz f t p) i):=by have _:=bY;have _:=rq;have _:=h64;exact hk _ (rC (dE (f:=f) (t:=t) h1).1 (dE h1).tF hi)
theorem M7 {i:Nat} (hi:i<(bz f t p).length):
 la ((i:Int),f,t.1,t.2,p,nW (bz f t p) (i+1))=aeZ (.next ((i:Int) -1,f,t.1,t.2,p,nW (bz f t p) i)):=by
 have R:=dE (f:=f) (t:=t) (p:=p) h1;have bl:=R.1;have pl:=oG (B:=bz f t p) (i:=i+1) (by omega);unfold la;simp only [aG (show (0:Int)<=(i:Int) by omega),lw];have k1:=rD (i:=i) (by omega) 1 (by omega);have k2:=rD (i:=i) (by omega) 2 (by omega);rw [show aa .i64 (aa .i64 (2*(i:Int))+1)=((2*i+1:Nat):Int) from k1,show aa .i64 (aa .i64 (2*(i:Int))+2)=((2*i+2:Nat):Int) from k2];rw [yK (by omega) (by omega),aj,yK (by omega) (by omega),aj,vW (by omega) (by omega),vW (by omega) (by omega)];rw [show yx ⟨f⟩ (t.1,t.2) _ _=_ from I0 bY rq (DG bY rq h1 h64 hk (by omega)) (DG bY rq h1 h64 hk (by omega)),aj,au _ i (by omega),aj,<- R.2 i hi];show aeZ (Step.next (_,f,t.1,t.2,p,(nW (bz f t p) (i+1)).set i _))=_;rw [Ht hi,ib ⟨by omega,by omega⟩]
theorem FM:xG ⟨f⟩ t p=aeZ ⟨p,bz f t p⟩:=by
 have R:=dE (f:=f) (t:=t) (p:=p) h1;have bl:=R.1;have w1:aa .i64 (((aeY p):Int) -1)=((aeY p-1:Nat):Int):=nI (by omega) h1;have loop: ∀n:Nat,n<=(bz f t p).length->ar la ((n:Int) -1,f,t.1,t.2,p,nW (bz f t p) n)=aeZ ⟨p,bz f t p⟩:=by
  intro n
  induction n with
  |zero=>intro _;refine aC ?_;unfold la;rw [aE (by omega),pp];rfl
  |succ n ih=>intro hn;have st:=M7 bY rq h1 h64 hk (t:=t) (i:=n) (by omega);rw [show ((n+1:Nat):Int) -1=(n:Int) by omega,aV st];exact ih (by omega)
 unfold xG;simp only [aW (show (aeY p)<=1048576 by omega),aj,aA,w1,eT rfl,lw,KN (0:Int) (show (aeY p)-1<=1048576 by omega),ww];have:=loop (bz f t p).length (NE _);unfold nW at this;rw [ae1,PP,show (bz f t p).length=aeY p-1 by omega] at this;rw [ib (n:=((aeY p-1:Nat):Int) -1) ⟨by omega,by omega⟩];exact this
include r
theorem I1 (ho:Ct p) {i:Nat} (hi:i<(bz f t p).length):
 gQ ((i:Int),f,t.1,t.2,p,nW (bz f t p) (i+1))=aeZ (.next ((i:Int) -1,f,t.1,t.2,p,nW (bz f t p) i)):=by
 have R:=dE (f:=f) (t:=t) (p:=p) h1;have bl:=R.1;have pl:=oG (B:=bz f t p) (i:=i+1) (by omega);unfold gQ;simp only [aG (show (0:Int)<=(i:Int) by omega),lw];have k1:=rD (i:=i) (by omega) 1 (by omega);have k2:=rD (i:=i) (by omega) 2 (by omega);rw [show aa .i64 (aa .i64 (2*(i:Int))+1)=((2*i+1:Nat):Int) from k1,show aa .i64 (aa .i64 (2*(i:Int))+2)=((2*i+2:Nat):Int) from k2];rw [mi (by omega) (by omega),aj,mi (by omega) (by omega),aj,vW (by omega) (by omega),vW (by omega) (by omega)];rw [show mJ ⟨f⟩ (t.1,t.2) _ _=_ from FL bY r rq (DG bY rq h1 h64 hk (by omega)) (DG bY rq h1 h64 hk (by omega)) (fun h0=>DF R.1 R.tF ho hi h0),aj,au _ i (by omega),aj,<- R.2 i hi]
 show aeZ (Step.next (_,f,t.1,t.2,p,(nW (bz f t p) (i+1)).set i _))=_;rw [Ht hi,ib ⟨by omega,by omega⟩]
theorem Cv:oP ⟨f⟩ p=aeZ af5:=by
 have _:=r;have _:=rq;have st:=cB (body:=lz) (fun i=>(p,((aeY p):Int),(i:Int),f)) (aeY p) (fun i hi=>by
  have id:=hk _ (aX hi);unfold lz;simp only [aG (show (i:Int)<((aeY p):Int) by omega),lw,au p i hi,aj,ba (show i<1000000000 by omega)]
  by_cases h:fJ f p[i]!
  · obtain ⟨k,_,e,_⟩:=oF bY h
    rw [e,aj,lw]
  obtain ⟨m,e⟩:=Cu bY h
  rw [e,aj,pp];rcases id with id|id
  · rw [eT id];rfl
  exact absurd id.2 h)
 unfold oP;refine (show _=_ from st).trans (aC ?_);unfold lz;simp only [aE (show¬((aeY p):Int)<((aeY p):Int) by omega),pp];rfl
def FN (p:List Int):Nat->List (Int×Bool)
 |0=>nU [] (-1) af6
 |i+1=>nU (FN p i) p[i]! (afa (0<=p[i]!))
omit bY r rq h1 h64 hk in
theorem FO (p:List Int): ∀(i:Nat) (k:Int),px af6 (FN p i) k=afa (0<=k/\ ∃j,j<i/\p[j]! =k)
 |0,k=>by unfold FN;rw [FJ];rw [decide_eq_false (fun h=>by obtain ⟨_,j,hj,_⟩:=h;omega)];split<;>rfl
 |i+1,k=>by
  unfold FN;rw [FJ,FO p i k]
  by_cases e:k=p[i]!
  · rw [rc e]
    refine decide_eq_decide.2 ⟨fun h=>⟨by omega,i,by omega,e.symm⟩,fun h=>by omega⟩
  rw [ut e]
  refine decide_eq_decide.2 ⟨fun ⟨h,j,hj,hx⟩=>⟨h,j,by omega,hx⟩,fun ⟨h,j,hj,hx⟩=>⟨h,j,?_,hx⟩⟩;rcases aeb j i with h2|h2
  · exact h2
  obtain rfl:j=i:=by omega
  exact absurd hx.symm e
omit bY r rq h1 h64 hk in
theorem P' {p:List Int} (ho:Ct p) {i:Nat} (hi:i<aeY p):px af6 (FN p i) p[i]! =af6:=by
 rw [FO];refine decide_eq_false fun ⟨h0,j,hj,e⟩=>?_
 have:=ho j i hj hi e;omega
theorem oH (ho:Ct p):lT ⟨f⟩ t p=aeZ (⟨p,bz f t p⟩,0):=by
 have R:=dE (f:=f) (t:=t) (p:=p) h1;have bl:=R.1;have w1:aa .i64 (((aeY p):Int) -1)=((aeY p-1:Nat):Int):=nI (by omega) h1;have loop: ∀n:Nat,n<=(bz f t p).length->ar gQ ((n:Int) -1,f,t.1,t.2,p,nW (bz f t p) n)=aeZ (.done (⟨p,bz f t p⟩,0)):=by
  intro n
  induction n with
  |zero=>intro _;refine aC ?_;unfold gQ;rw [aE (by omega),pp];rfl
  |succ n ih=>intro hn;have st:=I1 bY r rq h1 h64 hk (t:=t) ho (i:=n) (by omega);rw [show ((n+1:Nat):Int) -1=(n:Int) by omega,aV st];exact ih (by omega)
 have fc:cT ⟨f⟩=aeZ 0:=by rw [dU];exact congrArg aeZ (fh.2 bY)
 unfold lT s8;simp only [fc,aj,cS (rfl:(0:Int)=0),pp,eH rq,rc r,aA,aE (show¬((aeY p):Int)<1 by omega),aE (show¬(64:Int)<((aeY p):Int) by omega),Cv bY r rq h1 h64 hk,aah];have st:=cB (body:=lA 0 p) (fun i=>(p,((aeY p):Int),(i:Int),f,t.1,t.2,FN p i)) (aeY p) (fun i hi=>by
  unfold lA;simp only [aG (show (i:Int)<((aeY p):Int) by omega),lw,au p i hi,aj,P' ho hi,aax,aah,pp,ba (show i<1000000000 by omega)];rfl)
 refine (show _=_ from st).trans (aC ?_);unfold lA;simp only [aE (show¬((aeY p):Int)<((aeY p):Int) by omega),pp,cS (rfl:(0:Int)=0),aW (show (aeY p)<=1048576 by omega),aj,aA,w1,eT rfl,lw,KN (0:Int) (show (aeY p)-1<=1048576 by omega),ww];have:=loop (bz f t p).length (NE _);unfold nW at this;rw [ae1,PP,show (bz f t p).length=aeY p-1 by omega] at this;rw [ib (n:=((aeY p-1:Nat):Int) -1) ⟨by omega,by omega⟩];exact this
end
structure Qa (p w:List Int):Prop where
 one:1<=aeY p
 eA:(aeY p)<=64
 len:(aeY w)+1=aeY p
 once:Ct p
 S6: ∀x∈p,-1<=x/\x<=65535
 cho:Ac p w
 none_: ∀i,i<aeY w->w[i]!<0->bJ p w (2*i+1)<0/\bJ p w (2*i+2)<0
def Lc (p w:List Int) (i:Nat):Prop:=(w[i]! =bJ p w (2*i+1)\/w[i]! =bJ p w (2*i+2))/\ ¬(w[i]!<0/\(0<=bJ p w (2*i+1)\/0<=bJ p w (2*i+2)))
def M8 (p:List Int) (i:Nat):Prop:= -1<=p[i]!/\p[i]!<=65535
def Ld (p:List Int) (i:Nat):Prop:= ∀j,j<i->p[j]! =p[i]!->p[i]!<0
theorem TC {p:List Int}:(∀i,i<aeY p->Ld p i)↔Ct p:=
 ⟨fun h i j kL hj e=>by rw [e];exact h j hj i kL e,fun h i hi j hj e=>by have:=h j i hj hi e;rw [e] at this;exact this⟩
theorem YO {p:List Int}:(∀i,i<aeY p->M8 p i)↔ ∀x∈p,-1<=x/\x<=65535:=(xO (P:=fun x=> -1<=x/\x<=65535)).symm
theorem aej {p w:List Int} (h1:1<=aeY p) (h64:(aeY p)<=64) (hl:(aeY w)+1=aeY p):
 Qa p w↔(∀i,i<aeY p->Ld p i)/\(∀i,i<aeY p->M8 p i)/\ ∀i,i<aeY w->Lc p w i:=by
 rw [TC,YO];constructor
 · intro h
   refine ⟨h.once,h.S6,fun i hi=>⟨h.cho i hi,fun ⟨a,b⟩=>?_⟩⟩;have:=h.none_ i hi a;omega
 rintro ⟨a,b,c⟩
 exact ⟨h1,h64,hl,a,b,fun i hi=>(c i hi).1,fun i hi h0=>by have:=(c i hi).2;omega⟩
theorem aek {p q:Prop} [Decidable p] [Decidable q] [Decidable (p/\q)] {a b:Int}:(if p then (if q then a else b) else b)=if p/\q then a else b:=by
 by_cases hp:p
 · rw [rc hp];exact IW ⟨fun h=>⟨hp,h⟩,fun h=>h.2⟩
 rw [ut hp,ut (fun h=>hp h.1)]
theorem Cw (p w:List Int) (hl:(aeY p)<=1000) (wl:(aeY w)<=1000):lU ⟨p,w⟩=aeZ (if Qa p w then 0 else 8):=by
 unfold lU;simp only [aA]
 by_cases h1:((aeY p):Int)<1
 · rw [aG h1,lw,ut (fun h=>by have:=h.one;omega)]
 rw [aE h1,pp]
 by_cases h2:(64:Int)<((aeY p):Int)
 · rw [aG h2,lw,ut (fun h=>by have:=h.eA;omega)]
 rw [aE h2,pp,nI (by omega) (by omega)]
 by_cases h3:(aeY w)+1=aeY p
 case neg=>rw [dZ (by omega),lw,ut (fun h=>h3 h.len)]
 rw [cS (by omega),pp];have l1:=z8 (body:=gS) (fun i=>(w,((aeY w):Int),(i:Int),p,w)) (aeY w) (Lc p w) (r:= .done (.done 8)) (e:= .done (.done 0)) (fun i hi=>by
  unfold gS Lc;have k1:=rD (i:=i) (by omega) 1 (by omega);have k2:=rD (i:=i) (by omega) 2 (by omega);simp only [aG (show (i:Int)<((aeY w):Int) by omega),lw,au w i hi,aj,show aa .i64 (aa .i64 (2*(i:Int))+1)=((2*i+1:Nat):Int) from k1,show aa .i64 (aa .i64 (2*(i:Int))+2)=((2*i+2:Nat):Int) from k2,
   mi (p:=p) (w:=w) (i:=2*i+1) (by omega) (by omega),mi (p:=p) (w:=w) (i:=2*i+2) (by omega) (by omega),ba (show i<1000000000 by omega)]
  generalize bJ p w (2*i+1)=x;generalize bJ p w (2*i+2)=y;generalize w[i]! =v
  by_cases a1:v=x
  · rw [cS a1,pp]
    by_cases a3:v<0
    · rw [aG a3,lw]
      by_cases a4:0<=(if y>x then y else x)
      · rw [aG a4,lw]
        exact ⟨fun _=>rfl,fun h=>by split at a4<;>omega⟩
      rw [aE a4,pp]
      exact ⟨fun h=>by split at a4<;>omega,fun _=>rfl⟩
    rw [aE a3,pp]
    exact ⟨fun h=>by omega,fun _=>rfl⟩
  · rw [dZ a1,lw]
    by_cases a2:v=y
    · rw [cS a2,pp]
      by_cases a3:v<0
      · rw [aG a3,lw]
        by_cases a4:0<=(if y>x then y else x)
        · rw [aG a4,lw]
          exact ⟨fun _=>rfl,fun h=>by split at a4<;>omega⟩
        rw [aE a4,pp]
        exact ⟨fun h=>by split at a4<;>omega,fun _=>rfl⟩
      rw [aE a3,pp]
      exact ⟨fun h=>by omega,fun _=>rfl⟩
    rw [dZ a2,lw]
    exact ⟨fun _=>rfl,fun h=>by omega⟩) (by
  unfold gS;simp only [aE (show¬((aeY w):Int)<((aeY w):Int) by omega),pp])
 have l1':ar gS (w,((aeY w):Int),0,p,w)=aeZ (.done (.done (if∀i,i<aeY w->Lc p w i then 0 else 8))):=by
  refine (show _=_ from l1).trans ?_
  by_cases h: ∀i,i<aeY w->Lc p w i
  · rw [rc h,rc h]
  rw [ut h,ut h]
 have l2: ∀m,ar gT (p,((aeY p):Int),0,p,w,m)=aeZ (.done (if (∀i,i<aeY p->M8 p i)/\ ∀i,i<aeY w->Lc p w i then 0 else 8)):=fun m=>by
  have l2:=z8 (body:=gT) (fun i=>(p,((aeY p):Int),(i:Int),p,w,m)) (aeY p) (M8 p) (r:= .done 8) (e:= .done (if∀i,i<aeY w->Lc p w i then 0 else 8)) (fun i hi=>by
   unfold gT pW M8;simp only [aG (show (i:Int)<((aeY p):Int) by omega),lw,au p i hi,aj,ba (show i<1000000000 by omega)];generalize p[i]! =v
   by_cases a1: -1<=v
   · rw [aG a1,lw,aj]
     by_cases a2:v<=65535
     · rw [aG a2];exact ⟨fun h=>absurd ⟨a1,a2⟩ h,fun _=>rfl⟩
     rw [aE a2]
     refine ⟨fun _=>?_,fun h=>absurd h.2 a2⟩;rw [aG (show (0:Int)<=(i:Int) by omega)];rfl
   · rw [aE a1,pp,aj]
     refine ⟨fun _=>?_,fun h=>absurd h.1 a1⟩;rw [aG (show (0:Int)<=(i:Int) by omega)];rfl) (by
   unfold gT;simp only [aE (show¬((aeY p):Int)<((aeY p):Int) by omega),pp,aA,l1'])
  refine (show _=_ from l2).trans ?_
  by_cases h: ∀i,i<aeY p->M8 p i
  · rw [rc h];congr 2;exact IW ⟨fun k=>⟨h,k⟩,fun k=>k.2⟩
  rw [ut h,ut (fun k=>h k.1)]
 have l3:=z8 (body:=lC) (fun i=>(p,((aeY p):Int),(i:Int),p,w,FN p i)) (aeY p) (Ld p) (r:=8) (e:=if (∀i,i<aeY p->M8 p i)/\ ∀i,i<aeY w->Lc p w i then 0 else 8) (fun i hi=>by
  unfold lC;simp only [aG (show (i:Int)<((aeY p):Int) by omega),lw,au p i hi,aj,FO,ba (show i<1000000000 by omega)]
  by_cases a:Ld p i
  · rw [aE (show¬(0<=p[i]!/\ ∃j,j<i/\p[j]! =p[i]!) from fun ⟨h0,j,hj,e⟩=>by have:=a j hj e;omega)]
    exact ⟨fun h=>absurd a h,fun _=>rfl⟩
  · rw [aG (show 0<=p[i]!/\ ∃j,j<i/\p[j]! =p[i]! from by
     unfold Ld at a;obtain ⟨j,hj⟩:=aaB.1 a;obtain ⟨hj,h⟩:=aaC.1 hj;obtain ⟨h,h0⟩:=aaC.1 h;exact ⟨by omega,j,hj,h⟩)]
    refine ⟨fun _=>?_,fun h=>absurd h a⟩;rw [aG (show (0:Int)<=(i:Int) by omega)];rfl) (by
  unfold lC;simp only [aE (show¬((aeY p):Int)<((aeY p):Int) by omega),pp,aA,l2])
 refine (show _=_ from l3).trans ?_;rw [IW (aej (by omega) (by omega) h3)]
 congr 1
 exact aek
def Due (c:aI) (to:Int×Int):Prop:=0<aeY c.ae.bv/\vK (Ev.at c.ae.bv[0]!) to<=0
def hP (c:aI) (r:Int) (N:List Nd) (to:Int×Int) (out:List (Int×Int)):=
 (c.ci.1,c.ci.2,c.ii.am,c.af.aM,c.af.ce,c.ae.ai.aD,c.ae.ai.be,c.ae.ai.bi,c.ae.bv,c.ae.aq,c.io,r,N,to.1,to.2,(0:Int),(0:Int),(0:Int),(0:Int),out)
noncomputable def rE (p w:List Int) (k:Nat):List (Int×Int):=(aeB k).filterMap (wq p w)
theorem xW (p w:List Int) (k:Nat):rE p w (k+1)=rE p w k++(match wq p w k with|some e=>[e]|none=>[]):=by unfold rE;rw [List.range_succ,List.filterMap_append];cases h:wq p w k<;>simp [h]
theorem Ae (p w:List Int) (k:Nat):(rE p w k).length<=k:=by
 have:=aev (wq p w) (aeB k)
 rwa [aet] at this
section
variable {p w : List Int} (hl : (aeY w) + 1 = (aeY p)) (h64 : (aeY p) <= 64) (hc : Ac p w)
include hl h64
theorem xX:E8 ⟨p,w⟩=aeZ (eZ p w):=by
 have st:=cB (body:=sF) (fun i=>((i:Int),p,w,rE p w i)) (aeY w) (fun i hi=>by
  have k1:=rD (i:=i) (by omega) 1 (by omega);have k2:=rD (i:=i) (by omega) 2 (by omega);have el:=Ae p w i;rw [xW];unfold sF;simp only [aA,aG (show (i:Int)<((aeY w):Int) by omega),lw,show aa .i64 (aa .i64 (2*(i:Int))+1)=((2*i+1:Nat):Int) from k1,show aa .i64 (aa .i64 (2*(i:Int))+2)=((2*i+2:Nat):Int) from k2,
   yK (p:=p) (w:=w) (i:=2*i+1) (by omega) (by omega),yK (p:=p) (w:=w) (i:=2*i+2) (by omega) (by omega),aj,au w i hi,ba (show i<1000000000 by omega)]
  unfold wq;generalize bJ p w (2*i+1)=x;generalize bJ p w (2*i+2)=y;generalize w[i]! =v
  by_cases a1:x<0
  · rw [aG a1,lw,rc (.inl a1)];simp
  rw [aE a1,pp]
  by_cases a2:y<0
  · rw [aG a2,lw,rc (.inr a2)];simp
  rw [aE a2,pp,ut (by omega)]
  by_cases a3:v=x
  · rw [eT a3,lw,rc a3,cZ (by rw [EQ];omega),aj]
  rw [eu a3,pp,ut a3,cZ (by rw [EQ];omega),aj])
 unfold E8;refine (show _=_ from st).trans (aC ?_);unfold sF;simp only [aA,aE (show¬((aeY w):Int)<((aeY w):Int) by omega),pp];rfl
include hc
theorem Lf (hr: ∀x∈p,-1<=x/\x<=65535):ar kX (w,((aeY w):Int),0,p,w,[])=aeZ (⟨p,w⟩,eZ p w):=by
 have st:=cB (body:=kX) (fun i=>(w,((aeY w):Int),(i:Int),p,w,rE p w i)) (aeY w) (fun i hi=>by
  have k1:=rD (i:=i) (by omega) 1 (by omega);have k2:=rD (i:=i) (by omega) 2 (by omega);have el:=Ae p w i;have m1:=hr _ (rC hl hc (i:=2*i+1) (by omega));have m2:=hr _ (rC hl hc (i:=2*i+2) (by omega));have cv:=hc i hi;have fin: ∀(x y v:Int),(-1<=x/\x<=65535)->(-1<=y/\y<=65535)->(v=x\/v=y)->
   (bif afa (0<=x) then
    bif afa (0<=y) then (bk (rE p w i) [(aa .i64 (aa .i64 (x+y) -v),v)]).bind fun l3=>aeZ (Step.next (ρ:=bE×List (Int×Int)) (w,((aeY w):Int),aa .i64 ((i:Int)+1),p,w,l3))
    else aeZ (Step.next (w,((aeY w):Int),aa .i64 ((i:Int)+1),p,w,rE p w i))
   else aeZ (Step.next (w,((aeY w):Int),aa .i64 ((i:Int)+1),p,w,rE p w i)))=
   aeZ (Step.next (w,((aeY w):Int),((i+1:Nat):Int),p,w,rE p w i++(match (if x<0\/y<0 then none else if v=x then aeZ (y,x) else aeZ (x,y)) with|some e=>[e]|none=>[]))):=by
   intro x y v hx hy hv;rw [ba (show i<1000000000 by omega)]
   by_cases a1:x<0
   · rw [aE (by omega),pp,rc (.inl a1)];simp
   rw [aG (by omega),lw]
   by_cases a2:y<0
   · rw [aE (by omega),pp,rc (.inr a2)];simp
   rw [aG (by omega),lw,ut (by omega),cZ (by rw [EQ];omega),aj,ib (n:=x+y) ⟨by omega,by omega⟩,ib ⟨by omega,by omega⟩]
   by_cases a3:v=x
   · rw [rc a3,a3,show x+y-x=y by omega]
   rw [ut a3,show x+y-v=x by omega,show v=y by omega]
  rw [xW];unfold kX;have e1:bJ p w (2*i+1)=if 2*i+1<(aeY w) then w[2*i+1]! else p[2*i+1-(aeY w)]!:=rfl
  have e2:bJ p w (2*i+2)=if 2*i+2<(aeY w) then w[2*i+2]! else p[2*i+2-(aeY w)]!:=rfl
  have f1:=fin _ _ _ m1 m2 cv;simp only [aA,aG (show (i:Int)<((aeY w):Int) by omega),lw,show aa .i64 (aa .i64 (2*(i:Int))+1)=((2*i+1:Nat):Int) from k1,show aa .i64 (aa .i64 (2*(i:Int))+2)=((2*i+2:Nat):Int) from k2,au w i hi,aj,beq_self_eq_true]
  by_cases b1:2*i+1<aeY w
  · rw [rc b1] at e1
    rw [aG (show ((2*i+1:Nat):Int)<((aeY w):Int) by omega),lw,au w _ b1,aj,<- e1]
    by_cases b2:2*i+2<aeY w
    · rw [rc b2] at e2
      rw [aG (show ((2*i+2:Nat):Int)<((aeY w):Int) by omega),lw,au w _ b2,aj,<- e2];exact f1
    rw [ut b2] at e2
    rw [aE (show¬((2*i+2:Nat):Int)<((aeY w):Int) by omega),pp,ib ⟨by omega,by omega⟩,show ((2*i+2:Nat):Int) - ((aeY w):Int)=((2*i+2-(aeY w):Nat):Int) by omega,au p _ (by omega),aj,<- e2];exact f1
  rw [ut b1] at e1
  rw [ut (show¬2*i+2<(aeY w) by omega)] at e2;rw [aE (show¬((2*i+1:Nat):Int)<((aeY w):Int) by omega),pp,ib (n:=((2*i+1:Nat):Int) - ((aeY w):Int)) ⟨by omega,by omega⟩,show ((2*i+1:Nat):Int) - ((aeY w):Int)=((2*i+1-(aeY w):Nat):Int) by omega,au p _ (by omega),aj,<- e1,
   aE (show¬((2*i+2:Nat):Int)<((aeY w):Int) by omega),pp,ib (n:=((2*i+2:Nat):Int) - ((aeY w):Int)) ⟨by omega,by omega⟩,show ((2*i+2:Nat):Int) - ((aeY w):Int)=((2*i+2-(aeY w):Nat):Int) by omega,au p _ (by omega),aj,<- e2]
  exact f1)
 refine (show _=_ from st).trans (aC ?_);unfold kX;simp only [aE (show¬((aeY w):Int)<((aeY w):Int) by omega),pp];rfl
end
structure nL (f:List Pt) (p:List Int):Prop where
 one:1<=aeY p
 eA:(aeY p)<=64
 once:Ct p
 ids: ∀x∈p,Di f x
theorem nL.S6 {f:List Pt} (bY:bn f) {p:List Int} (h:nL f p): ∀x∈p,-1<=x/\x<=65535:=fun x hx=>by
 rcases h.ids x hx with e|⟨e,hp⟩
 · omega
 have:=(eb bY hp).1
 have e2:=(eb bY hp).2;unfold eO at this;omega
section
variable {f : List Pt} (bY : bn f) {t : Int × Int} (r : bS t) (rq : nQ t) {p : List Int} (pl : nL f p)
include bY rq pl
theorem tG:zY ⟨f⟩ t p=aeZ ⟨p,bz f t p⟩:=by unfold zY;rw [FM bY rq pl.one pl.eA pl.ids];rfl
theorem jw:o3 f (eZ p (bz f t p))/\(eZ p (bz f t p)).Nodup/\(eZ p (bz f t p)).length<=63:=by have _:=rq;have R:=dE (f:=f) (t:=t) pl.one;have m:=pl.eA;have:=R.1;have el:=Ad p (bz f t p);exact ⟨P9 bY R.1 pl.eA R.tF pl.once fun x hx h0=>(pl.ids x hx).has h0,IZ R.1 R.tF pl.once,by omega⟩
include r
theorem xY:pC ⟨f⟩ t p=aeZ (⟨p,bz f t p⟩,eZ p (bz f t p)):=by have R:=dE (f:=f) (t:=t) pl.one;unfold pC;rw [oH bY r rq pl.one pl.eA pl.ids pl.once,aj];exact Lf R.1 pl.eA R.tF (pl.S6 bY)
end
def o5:bq:=⟨dJ,⟨[],[]⟩⟩
structure Qb (c:aI) (f:List Pt) (p:List Int) (k:bq):Prop where
 yP:C3 c f (eZ p (bz f c.ci p)) k.jp
 aL:k.kw=⟨p,bz f c.ci p⟩
theorem Bl {c:aI} (ok:bg c) {f:List Pt} (bY:bn f) {p:List Int} (pl:nL f p):
 ∃R:aI×Int,kY c ⟨f⟩ (eZ p (bz f c.ci p))=aeZ R/\kq c ⟨f⟩ (eZ p (bz f c.ci p))=aeZ R/\(R.2=0/\C3 c f (eZ p (bz f c.ci p)) R.1\/R=(dJ,18)):=by
 obtain ⟨uK,nd,el⟩:=jw bY ok.gO (t:=c.ci) pl;obtain ⟨R,r1,r2,r3⟩:=OE ok bY uK;have ee:jO f (eZ p (bz f c.ci p))=0:=by unfold jO;rw [ut (If.2 uK.cv),ut (If.2 nd),ut (fun h=>h uK.kn)]
 have rn:=xS ok bY (es:=eZ p (bz f c.ci p)) (by omega) (fun _=>r1);rw [rc ee] at rn;exact ⟨R,rn,r2,r3⟩
theorem Af {c:aI} (ok:bg c) {f:List Pt} (bY:bn f) {p:List Int} (pl:nL f p):
 ∃R:bq×Int,jk c ⟨f⟩ p=aeZ R/\fw c ⟨f⟩ p=aeZ R/\(R.2=0/\Qb c f p R.1\/R=(o5,18)):=by
 have h1:=xY bY ok.qw ok.gO pl;have g1:=tG bY (t:=c.ci) ok.gO pl;have B:=dE (f:=f) (t:=c.ci) pl.one;have eo:=xX B.1 pl.eA;obtain ⟨R,r1,r2,r3⟩:=Bl ok bY pl;rcases r3 with ⟨q0,qq⟩|he
 · refine ⟨(⟨R.1,⟨p,bz f c.ci p⟩⟩,0),?_,?_,.inl ⟨rfl,qq,rfl⟩⟩
   · unfold jk
     simp only [h1,aj,r1,q0,show ((0:Int) !=0)=af6 from rfl,pp]
   unfold fw
   simp only [g1,aj,eo,r2,q0,show ((0:Int) !=0)=af6 from rfl,pp]
 refine ⟨(o5,18),?_,?_,.inr rfl⟩
 · unfold jk
   simp only [h1,aj,r1,he,show ((18:Int) !=0)=af5 from rfl,lw];rfl
 unfold fw
 simp only [g1,aj,eo,r2,he,show ((18:Int) !=0)=af5 from rfl,lw];rfl
def YP (x y v:Int):List (Int×Int):=(if 0<=x/\x≠v then [(x,v)] else [])++(if 0<=y/\y≠v then [(y,v)] else [])
theorem Lg {v:Int} {w N:List Int} {L i:Int} {k c:Nat} {E:List (Int×Int)} (hk:k+2<=aeY N) (he:(aeY E)+2<=1000000):
 ar hY (v,w,L,i,0+k,2,c,2,0,N,E)=aeZ (.next (w,L,aa .i64 (i+1),N,E++YP N[k]! N[k+1]! v)):=by
 have hd:((N.drop (0+k)).take 2).length=2:=by rw [IR,adc];omega
 have g0:aH ((N.drop (0+k)).take 2) 0=aeZ N[k]!:=by have:=au ((N.drop (0+k)).take 2) 0 (by omega);rw [iu (by omega),lG] at this;simpa using this
 have g1:aH ((N.drop (0+k)).take 2) 1=aeZ N[k+1]!:=by have:=au ((N.drop (0+k)).take 2) 1 (by omega);rw [iu (by omega),lG] at this;simpa using this
 have s0:hY (v,w,L,i,0+k,2,c,2,0,N,E)=aeZ (.next (v,w,L,i,0+k,2,c,2,1,N,E++(if 0<=N[k]!/\N[k]!≠v then [(N[k]!,v)] else []))):=by
  unfold hY;simp only [aG (show (0:Int)<2 by decide),lw,g0,aj,show aa .i64 ((0:Int)+1)=1 from by decide]
  by_cases a:0<=N[k]!
  · rw [aG a,lw]
    by_cases b:N[k]! =v
    · rw [cS b,pp,ut (fun h=>h.2 b),PP]
    rw [dZ b,lw,rc ⟨a,b⟩,cZ (by rw [EQ];omega),aj]
  rw [aE a,pp,ut (fun h=>a h.1),PP]
 obtain ⟨E1,hE⟩: ∃E1,E1=E++(if 0<=N[k]!/\N[k]!≠v then [(N[k]!,v)] else []):=⟨_,rfl⟩;have l1:(aeY E1)<=aeY E+1:=by rw [hE,AC];split<;>simp
 rw [<- hE] at s0;have s1:hY (v,w,L,i,0+k,2,c,2,1,N,E1)=aeZ (.next (v,w,L,i,0+k,2,c,2,2,N,E1++(if 0<=N[k+1]!/\N[k+1]!≠v then [(N[k+1]!,v)] else []))):=by
  unfold hY;simp only [aG (show (1:Int)<2 by decide),lw,g1,aj,show aa .i64 ((1:Int)+1)=2 from by decide]
  by_cases a:0<=N[k+1]!
  · rw [aG a,lw]
    by_cases b:N[k+1]! =v
    · rw [cS b,pp,ut (fun h=>h.2 b),PP]
    rw [dZ b,lw,rc ⟨a,b⟩,cZ (by rw [EQ];omega),aj]
  rw [aE a,pp,ut (fun h=>a h.1),PP]
 rw [aV s0,aV s1];refine aC ?_;unfold hY;simp only [aE (show¬(2:Int)<2 by decide),pp];unfold YP;rw [hE,aeu]
section
variable {f : List Pt} {t : Int × Int} {p w : List Int} (hr : Lb f t p w) (h64 : (aeY p) <= 64) (ho : Ct p)
include hr ho
theorem YQ {i:Nat} (hi:i<aeY w):YP (bJ p w (2*i+1)) (bJ p w (2*i+2)) w[i]! =(match wq p w i with|some e=>[e]|none=>[]):=by
 have hw:=hr.2 i hi;have ne:0<=bJ p w (2*i+1)->bJ p w (2*i+1)≠bJ p w (2*i+2):=fun h=>DF hr.1 hr.tF ho hi h
 have Ua:=OH f t (bJ p w (2*i+1)) (bJ p w (2*i+2));unfold wq;rw [hw];generalize hx:bJ p w (2*i+1)=x at ne Ua ⊢;generalize hy:bJ p w (2*i+2)=y at ne Ua ⊢;unfold YP
 by_cases a1:x<0
 · have:wH f t x y=y:=by unfold wH;rw [rc a1]
   rw [this,ut (by omega),ut (by omega),rc (.inl a1)];rfl
 by_cases a2:y<0
 · have:wH f t x y=x:=by unfold wH;rw [ut a1,rc a2]
   rw [this,ut (by omega),ut (by omega),rc (.inr a2)];rfl
 have ne:=ne (by omega);rw [ut (show¬(x<0\/y<0) by omega)];rcases Ua with h|h
 · rw [h,ut (by omega),rc ⟨by omega,fun e=>ne e.symm⟩,rc rfl];rfl
 rw [h,rc ⟨by omega,ne⟩,ut (by omega),ut (fun e=>ne e.symm)];rfl
include h64
theorem xZ:sy ⟨p,w⟩=aeZ (eZ p w):=by
 have hl:=hr.1;have hN:(w++p).length=aeY w+(aeY p):=AC;have nd: ∀j,j<aeY w+aeY p->(w++p)[j]! =bJ p w j:=fun j hj=>by
  unfold bJ;split
  · rw [bN (by omega)]
  rw [cV (by omega)]
 have st:=cB (body:=ny) (fun i=>(w,((aeY w):Int),(i:Int),w++p,rE p w i)) (aeY w) (fun i hi=>by
  have k1:=rD (i:=i) (by omega) 1 (by omega);have k3:aa .i64 ((aa .i64 (2*(i:Int)))+3)=((2*i+3:Nat):Int):=by rw [ib (n:=2*(i:Int)) ⟨by omega,by omega⟩,ib ⟨by omega,by omega⟩];omega
  have el:=Ae p w i;unfold ny;simp only [aA,aG (show (i:Int)<((aeY w):Int) by omega),lw,au w i hi,aj,show aa .i64 (aa .i64 (2*(i:Int))+1)=((2*i+1:Nat):Int) from k1,k3,hN,
   aG (show (0:Int)<=((2*i+1:Nat):Int) by omega),aG (show ((2*i+1:Nat):Int)<=((2*i+3:Nat):Int) by omega),aG (show ((2*i+3:Nat):Int)<=((aeY w+(aeY p):Nat):Int) by omega),aeM,lw,aeP,
   show 2*i+3- (2*i+1)=2 by omega]
  rw [show ((2:Nat):Int)=2 from rfl,Lg (by omega) (by omega),nd _ (by omega),nd _ (by omega),show 2*i+1+1=2*i+2 from rfl,YQ hr ho hi,ba (show i<1000000000 by omega),xW]
  all_goals rfl)
 unfold sy;rw [show Pm w p=aeZ (w++p) from by unfold Pm;rw [rc ⟨by omega,by omega⟩]];simp only [aj,aA];refine (show _=_ from st).trans (aC ?_);unfold ny;simp only [aA,aE (show¬((aeY w):Int)<((aeY w):Int) by omega),pp];rfl
end
theorem Ag {c:aI} (ok:bg c) {f:List Pt} (bY:bn f) {p:List Int} (pl:nL f p):
 ∃R:bq×Int,bZ c ⟨f⟩ p=aeZ R/\fw c ⟨f⟩ p=aeZ R/\(R.2=0/\Qb c f p R.1\/R=(o5,18)):=by
 have h1:=oH bY ok.qw ok.gO pl.one pl.eA pl.ids pl.once;have g1:=tG bY (t:=c.ci) ok.gO pl;have B:=dE (f:=f) (t:=c.ci) pl.one;have e1:=xZ B pl.eA pl.once;have eo:=xX B.1 pl.eA;obtain ⟨R,r1,r2,r3⟩:=Bl ok bY pl;rcases r3 with ⟨q0,qq⟩|he
 · refine ⟨(⟨R.1,⟨p,bz f c.ci p⟩⟩,0),?_,?_,.inl ⟨rfl,qq,rfl⟩⟩
   · unfold bZ
     simp only [h1,aj,e1,r1,q0,show ((0:Int) !=0)=af6 from rfl,pp]
   unfold fw
   simp only [g1,aj,eo,r2,q0,show ((0:Int) !=0)=af6 from rfl,pp]
 refine ⟨(o5,18),?_,?_,.inr rfl⟩
 · unfold bZ
   simp only [h1,aj,e1,r1,he,show ((18:Int) !=0)=af5 from rfl,lw];rfl
 unfold fw
 simp only [g1,aj,eo,r2,he,show ((18:Int) !=0)=af5 from rfl,lw];rfl
def rF:aS:=⟨v6 200 0,v6 200 af6,(aeB 200).map fun j:Nat=>(199:Int) - (j:Int)⟩
def Bm:aF:=⟨rF,[],v6 200 (-1)⟩
def vX (f:Field) (t:Int×Int):aI:=⟨t,f,⟨0,[]⟩,Bm,[]⟩
theorem Lh:A9 200=aeZ (rF,0):=
 (by kernel_rfl:A9 200=ar CV (200,200,0,v6 200 0,v6 200 af6,v6 200 0)).trans (aR.2 ⟨300,by kernel_rfl⟩)
theorem Qc:bo [-1] 200=aeZ (v6 200 (-1)):=by
 unfold bo eD;have m:dV (aa .u64 (acl ([-1]:List Int).length)) (aa .u64 200)=aeZ (0,200):=by rw [show aa .u64 (acl ([-1]:List Int).length)=1 from by kernel_rfl,show aa .u64 200=200 from by kernel_rfl,uw ⟨by decide,by decide⟩ ⟨by decide,by decide⟩];rfl
 rw [m];exact (by kernel_rfl:_=ar az (1,-1::v6 199 0)).trans (aR.2 ⟨20,by kernel_rfl⟩)
theorem Gn:vw 200=aeZ (Bm,0):=by unfold vw;rw [Lh,aj,cS rfl,pp,Qc];rfl
theorem M9:xC 200=aeZ rF:=
 (by kernel_rfl:xC 200=ar xB (199,v6 200 0,v6 200 af6,[])).trans (aR.2 ⟨300,by kernel_rfl⟩)
theorem M':xD 200=aeZ Bm:=by unfold xD;rw [M9,aj];exact aR.2 ⟨300,by kernel_rfl⟩
theorem FP {f:Field} (hf:(aeY f.am)<=64) (t:Int×Int):xE f t=aeZ (vX f t):=by unfold xE oq;rw [aW (by omega),aj,aj,M'];rfl
theorem I2 (f:Field) {t:Int×Int} (rq:nQ t):yq f t=aeZ (if ic f.am≠0 then (dJ,ic f.am) else if bS t then (vX f t,0) else (dJ,8)):=by
 unfold yq;rw [dU,aj]
 by_cases h:ic f.am=0
 · have bY:=fh.1 h
   have f1:=bY.1;rw [cS h,pp,eH rq,aj,ut (show¬ic f.am≠0 from fun k=>k h)]
   by_cases rt:bS t
   · rw [rc rt,rc rt,cS rfl,pp,Gn,aj,aW (show (aeY f.am)<=1048576 by omega),aj]
     rfl
   rw [ut rt,ut rt,dZ (by decide),lw]
 rw [dZ h,lw,rc h]
theorem pK {α:Type} [Inhabited α] {n i:Nat} (a:α) (h:i<n):(v6 n a)[i]! =a:=by rw [getElem!_pos _ i (by rw [ww];exact h),ad2]
theorem YR {i:Nat} (hi:i<200):(i:Int)∈rF.bi:=by refine aeg.2 ⟨199-i,ac0.2 (by omega),?_⟩;show (199:Int) - ((199-i:Nat):Int)=(i:Int);omega
theorem lh:(aeY rF.aD)=200:=ww ..
set_option maxRecDepth 100000 in
theorem TD:(aeY rF.bi)=200:=by unfold rF;exact (aav _).trans aet
theorem Qd:fF rF where
 n1:=by rw [lh];omega
 n2:=by rw [lh];omega
 ul:=by rw [lh];exact ww ..
 fr:=fun x hx=>by obtain ⟨j,hj,rfl⟩:=aeg.1 hx;have:=ac0.1 hj;rw [lh];omega
 fd:=by
  refine rA aeR fun i hi j hj h=>?_
  have h:(199:Int) - (i:Int)=199- (j:Int):=h;omega
 uf:=fun i hi=>by
  rw [lh] at hi;rw [show rF.be[i]! =af6 from pK af6 hi];constructor
  · intro h;cases h
  intro h;exact absurd (YR hi) h
 us:=fun i hi=>by rw [lh] at hi;rw [show rF.aD[i]! =0 from pK 0 hi,show rF.be[i]! =af6 from pK af6 hi];exact ⟨by decide,by decide,fun h=>by cases h⟩
set_option maxRecDepth 100000 in
theorem Na:fu Bm where
 so:=Qd
 wl:=(ww (n:=200) (a:=(-1:Int))).trans lh.symm
 hl:=((aeX _).trans TD).trans lh.symm
 fwd:=fun i hi h=>by rw [show Bm.ai.be[i]! =af6 from pK af6 (by rw [<- lh];exact hi)] at h;cases h
 un:=fun i hi _=>pK (-1) (by rw [<- lh];exact hi)
 ev:=fun w hw=>absurd hw (UV w)
 nd:=fun v w _ hw=>absurd hw (UV w)
 ord:=fun k _ hk=>absurd hk (UV k)
theorem Hu {f:Field} (bY:bn f.am) {t:Int×Int} (r:bS t) (rq:nQ t):bg (vX f t) where
 qw:=r
 gO:=rq
 j0:=bY
 wM:=(⟨by decide,by decide,by decide,fun i hi=>absurd hi (UV i),fun i hi=>absurd hi (UV i),fun i j _ hj=>absurd hj (UV j),fun i j _ hj=>absurd hj (UV j)⟩:eQ ⟨0,[]⟩)
 nR:=Na
 Gk:=ww ..
 hd:=rfl
 known:=fun i hi=>absurd hi (UV i)
 Df:=rfl
theorem I3 (f:Field) (t:Int×Int):Roomy (vX f t) 0:=by refine ⟨NE _,Int.le_refl _,fun j hj=>?_⟩;rw [show (vX f t).ae.ai.aD[j]! =0 from pK 0 (by rw [<- lh];exact hj)];decide
def cX (p:List Int):List Int:=p.filter fun x=>decide (0<=x)
theorem o6 {p:List Int} {j:Nat} (hj:j<aeY p):cX (p.take (j+1))=cX (p.take j)++if 0<=p[j]! then [p[j]!] else []:=by
 unfold cX;rw [fE hj,ac1]
 by_cases h:0<=p[j]!
 · rw [rc h,aez (by simpa using h),aeS]
 rw [ut h,aeA (by simpa using h),aeS]
structure Hv (p:List Int) (i j:Nat) (L:List Int):Prop where
 len:(aeY L)=aeY p
 le:i<=j
 lt:j<=aeY p
 ZX:L.take i=cX (p.take j)
 rest: ∀k,j<=k->k<aeY p->L[k]! =p[k]!
theorem Hv.T4 {p:List Int} {i j:Nat} {L:List Int} (h:Hv p i j L):i=(cX (p.take j)).length:=by have:=congrArg List.length h.ZX;rw [IR,h.len] at this;have:=h.le;have:=h.lt;omega
theorem YS {p:List Int} {i:Nat} {L:List Int} (h:Hv p i (aeY p) L): ∃M:List Int,aY p ((i:Int),((aeY p):Int),L)=aeZ (.done (.done (i,aeY p,M)))/\aeY M=aeY p/\M.take i=cX p:=by
 have hl:=h.len;have hi:=h.le;have ZX:=h.ZX;rw [ae6] at ZX;unfold aY;simp only [aA,hl,aE (show¬((aeY p):Int)<((aeY p):Int) by omega),pp,aG (show (0:Int)<=(i:Int) by omega),aG (show (i:Int)<=((aeY p):Int) by omega),aG (show ((aeY p):Int)<=((aeY p):Int) by omega),aeM,lw,aeP,aeX,aax,Bool.and_true]
 by_cases h0:(aeY p)-i=0
 · have n1:Nat.beq (aeY p-i) 0=af5:=by rw [h0];rfl
   rw [n1,lw,js L i (by omega),aj,beq_self_eq_true,lw];exact ⟨L,rfl,hl,ZX⟩
 have n1:Nat.beq (aeY p-i) 0=af6:=by
  cases hb:Nat.beq (aeY p-i) 0 with
  |false=>rfl
  |true=>have:=Nat.eq_of_beq_eq_true hb;omega
 have n2:Nat.ble (i+(aeY p-i)) (aeY p)=af5:=Nat.ble_eq_true_of_le (by omega);have ll:(eK L i (v6 (aeY p-i) (0:Int))).length=(aeY p):=by unfold eK;simp;omega
 rw [n1,pp,n2,lw,js _ i (by rw [ll];omega),aj,ll,beq_self_eq_true,lw];refine ⟨_,rfl,ll,?_⟩;rw [<- ZX];unfold eK;rw [aeu,aau (by rw [IR];omega),List.take_take,Nat.min_self]
theorem ael {p:List Int} (hp:(aeY p)<=1000): ∀(d i j:Nat) (L:List Int),aeY p-j<=d->Hv p i j L->
 ∃(n:Nat) (M:List Int),ar (aY p) ((i:Int),(j:Int),L)=aeZ (.done (n,aeY p,M))/\n=(cX p).length/\aeY M=aeY p/\M.take n=cX p:=by
 have fin: ∀(i j:Nat) (L:List Int),aeY p<=j->Hv p i j L-> ∃(n:Nat) (M:List Int),ar (aY p) ((i:Int),(j:Int),L)=aeZ (.done (n,aeY p,M))/\n=(cX p).length/\aeY M=aeY p/\M.take n=cX p:=by
  intro i j L hj h;obtain rfl:j=(aeY p):=by have:=h.lt;omega
  obtain ⟨M,m1,m2,m3⟩:=YS h;exact ⟨i,M,aC m1,by rw [h.T4,ae6],m2,m3⟩
 intro d
 induction d with
 |zero=>exact fun i j L hd h=>fin i j L (by omega) h
 |succ d ih=>
  intro i j L hd h
  by_cases hj:(aeY p)<=j
  · exact fin i j L hj h
  have hl:=h.len;have kI:=h.le;have e:L[j]! =p[j]!:=h.rest j (NE _) (by omega);have st:aY p ((i:Int),(j:Int),L)=aeZ (.next (((if 0<=p[j]! then i+1 else i:Nat):Int),((j+1:Nat):Int),if 0<=p[j]! then L.set i p[j]! else L)):=by
   unfold aY jl;simp only [aA,hl,aG (show (j:Int)<((aeY p):Int) by omega),lw,au L j (by omega),aj,e,ba (show i<1000000000 by omega),ba (show j<1000000000 by omega)]
   by_cases h0:0<=p[j]!
   · rw [aE (by omega),aax,lw,au L i (by omega),aj,rc h0,rc h0];rfl
   rw [aG (by omega),aah,pp,ut h0,ut h0]
  rw [aV st];refine ih _ _ _ (by omega) ?_
  by_cases h0:0<=p[j]!
  · rw [rc h0,rc h0]
    refine ⟨by rw [Do];exact hl,by omega,by omega,?_,fun k hk Br=>?_⟩
    · rw [o6 (by omega),rc h0,<- h.ZX,fE (by rw [Do];omega),aT,rc ⟨rfl,by omega⟩,List.take_set_of_le (NE i)]
    rw [aT,ut (by omega)];exact h.rest k (by omega) Br
  rw [ut h0,ut h0]
  refine ⟨hl,by omega,by omega,?_,fun k hk Br=>h.rest k (by omega) Br⟩;rw [o6 (by omega),ut h0,PP];exact h.ZX
theorem Bn: ∀{l:List Int},(∀x∈l,0<=x)->cX l=l:=fun {l} h=>aeK.2 fun x hx=>by simpa using h x hx
theorem zm (p:List Int) (hp:(aeY p)<=1000): ∃(n:Nat) (M:List Int),bI p=aeZ (n,aeY p,M)/\n=(cX p).length/\aeY M=aeY p/\M.take n=cX p:=by
 have key: ∀(d m:Nat),aeY p-m<=d->m<=aeY p->(∀k,k<m->0<=p[k]!)-> ∃(n:Nat) (M:List Int),ar (aZ p) (((aeY p):Int),(m:Int),p)=aeZ (n,aeY p,M)/\n=(cX p).length/\aeY M=aeY p/\M.take n=cX p:=by
  intro d;have fin: ∀m,m=aeY p->(∀k,k<m->0<=p[k]!)-> ∃(n:Nat) (M:List Int),ar (aZ p) (((aeY p):Int),(m:Int),p)=aeZ (n,aeY p,M)/\n=(cX p).length/\aeY M=aeY p/\M.take n=cX p:=by
   intro m hm h;subst hm;have e:cX p=p:=Bn fun x hx=>by obtain ⟨i,hi,rfl⟩:=aQ.1 hx;exact h i hi
   refine ⟨aeY p,p,aC ?_,by rw [e],rfl,by rw [ae6,e]⟩;unfold aZ;simp only [aE (show¬((aeY p):Int)<((aeY p):Int) by omega),pp,beq_self_eq_true,lw]
  induction d with
  |zero=>exact fun m h1 h2 h=>fin m (by omega) h
  |succ d ih=>
   intro m h1 h2 h
   by_cases hm:m=aeY p
   · exact fin m hm h
   by_cases h0:0<=p[m]!
   · have st:aZ p (((aeY p):Int),(m:Int),p)=aeZ (.next (((aeY p):Int),((m+1:Nat):Int),p)):=by
      unfold aZ jl;simp only [aG (show (m:Int)<((aeY p):Int) by omega),lw,au p m (by omega),aj,aE (show¬p[m]!<0 by omega),pp,ba (show m<1000000000 by omega)]
     rw [aV st];refine ih (m+1) (by omega) (by omega) fun k hk=>?_
     by_cases e:k=m
     · rw [e];exact h0
     exact h k (by omega)
   have hd:Hv p m (m+1) p:=⟨rfl,by omega,by omega,by
    rw [o6 (by omega),ut h0,PP,Bn fun x hx=>?_];obtain ⟨i,hi,_,rfl⟩:=cC.1 hx;exact h i hi,fun k _ _=>rfl⟩
   obtain ⟨n,M,m1,m2,m3,m4⟩:=ael hp (aeY p) m (m+1) p (by omega) hd;refine ⟨n,M,aC ?_,m2,m3,m4⟩;unfold aZ jl;simp only [aG (show (m:Int)<((aeY p):Int) by omega),lw,au p m (by omega),aj,aG (show p[m]!<0 by omega),beq_self_eq_true,eu (show (m:Int)≠ -1 by omega),pp,ba (show m<1000000000 by omega),m1]
 unfold bI;exact key (aeY p) 0 (by omega) (WF _) (fun k hk=>absurd hk (UV k))
def Dj (n:Nat):Prop:= ∃i,i<7/\n=2^i
theorem Li {n:Nat} (h1:1<=n) (h2:n<=64):zF .i64 (n:Int) ((n-1:Nat):Int)=0↔Dj n:=by
 have key: ∀k:Fin 65,1<=k.val->((zF .i64 (k.val:Int) ((k.val-1:Nat):Int)=0)↔ ∃i,i<7/\k.val=2^i):=by decide+kernel
 exact key ⟨n,by omega⟩ h1
theorem dbl {q:Nat} (h:q<=64):aa .i64 ((q:Int)*2)=((2*q:Nat):Int):=by rw [ib ⟨by omega,by omega⟩];omega
theorem DH (i:Nat):2^(i+1)=2*2^i:=by rw [acZ];omega
theorem Hw (n:Nat) (h:n<=64): ∃e,e<=6/\n<=2^e/\ ∀k,k<e->2^k<n:=by
 have key: ∀m:Fin 65,∃e,e<=6/\m.val<=2^e/\ ∀k,k<e->2^k<m.val:=by decide+kernel
 exact key ⟨n,by omega⟩
noncomputable def lg (n:Nat):Nat:=if h: ∃e,e<=6/\n<=2^e/\ ∀k,k<e->2^k<n then h.choose else 0
theorem Bo {n:Nat} (h:n<=64):lg n<=6/\n<=2^lg n/\ ∀k,k<lg n->2^k<n:=by unfold lg;rw [dif_pos (Hw n h)];exact (Hw n h).choose_spec
noncomputable def dt (f:List Pt):List Int:=iT f++v6 (2^lg (aeY f)-(aeY f)) (-1)
theorem ej (f:List Pt):(iT f).length=(aeY f):=aav ..
theorem lq {f:List Pt} {i:Nat} (h:i<aeY f):(iT f)[i]! =(f[i]!).1:=by unfold iT;rw [getElem!_pos _ i (by rw [aav];exact h),getElem!_pos f i h,List.getElem_map]
section
variable {f : List Pt} (h64 : (aeY f) <= 64)
include h64
theorem rG:(dt f).length=2^lg (aeY f):=by have:=Bo h64;unfold dt;rw [AC,ej,ww];omega
theorem TE:1<=2^lg (aeY f)/\2^lg (aeY f)<=64:=
 ⟨Nat.pow_pos (by omega),aeT (aeJ (by omega) (Bo h64).1) (by decide)⟩
theorem x4:sE ⟨f⟩=aeZ (dt f):=by
 obtain ⟨g1,g2,g3⟩:=Bo h64;obtain ⟨b1,b2⟩:=TE h64;have in1:=cB (body:=nF) (fun i=>(((2^lg (aeY f):Nat):Int),(i:Int),f,(dt f).take i)) (2^lg (aeY f)) (fun i hi=>by
  have fl:=rG h64;rw [fE (show i<(dt f).length by omega)];unfold nF;simp only [aA,aG (show (i:Int)<((2^lg (aeY f):Nat):Int) by omega),lw,ba (show i<1000000000 by omega)];have tl:((dt f).take i).length=i:=by rw [IR];omega
  by_cases h:i<aeY f
  · rw [aG (by omega),lw,au f i h,aj,cZ (by rw [EQ];omega),aj]
    rw [show (dt f)[i]! =(f[i]!).1 from by unfold dt;rw [bN (by rw [ej];exact h),lq h]]
  rw [aE (by omega),pp,cZ (by rw [EQ];omega),aj]
  rw [show (dt f)[i]! = -1 from by unfold dt;rw [cV (by rw [ej];omega),ej,pK _ (by omega)]])
 have out:=cB (body:=nG) (fun i=>(((2^i:Nat):Int),f)) (lg (aeY f)) (fun i hi=>by have:=g3 i hi;unfold nG;simp only [aA,aG (show ((2^i:Nat):Int)<((aeY f):Int) by omega),lw];rw [dbl (by omega),DH]);unfold sE;refine (show _=_ from out).trans (aC ?_);unfold nG;simp only [aA,aE (show¬((2^lg (aeY f):Nat):Int)<((aeY f):Int) by omega),pp];refine (show _=_ from in1).trans (aC ?_);unfold nF;simp only [aE (show¬((2^lg (aeY f):Nat):Int)<((2^lg (aeY f):Nat):Int) by omega),pp];rw [aaS (by rw [rG h64];omega)]
end
theorem Nb:xw=xF:=rfl
structure pZ (k:bq):Prop where
 DD:bg k.jp
 br:Qa k.kw.aL k.kw.kU
 pow:Dj (aeY k.kw.aL)
 perm:(iT k.jp.ii.am).Perm (cX k.kw.aL)
 right:k.kw.kU=bz k.jp.ii.am k.jp.ci k.kw.aL
 cert:(k.jp.af.ce.map fun x=>x.2).Perm (eZ k.kw.aL k.kw.kU)
theorem kr {p:List Int} {x:Int}:x∈cX p↔x∈p/\0<=x:=by unfold cX;rw [List.mem_filter];simp
theorem Ah {f:List Pt} {p w:List Int} (br:Qa p w) (pm:(iT f).Perm (cX p)):nL f p:=by
 refine ⟨br.one,br.eA,br.once,fun x hx=>?_⟩;have:=br.S6 x hx
 by_cases h:0<=x
 · exact .inr ⟨h,o4.1 (pm.mem_iff.2 (kr.2 ⟨hx,h⟩))⟩
 exact .inl (by omega)
theorem FQ {p:List Int} (h:Ct p):(cX p).Nodup:=by
 have go: ∀(j:Nat),j<=aeY p->(cX (p.take j)).Nodup:=by
  intro j
  induction j with
  |zero=>intro _;simp [cX]
  |succ j ih=>
   intro hj;rw [o6 (by omega)]
   by_cases h0:0<=p[j]!
   · rw [rc h0]
     refine List.nodup_append.2 ⟨ih (by omega),by simp,fun a ha b hb e=>?_⟩;obtain rfl:b=p[j]!:=by simpa using hb
     subst e;have hm:=(kr.1 ha).1;obtain ⟨i,hi,_,e⟩:=cC.1 hm;have:=h i j hi (by omega) e;omega
   rw [ut h0,PP];exact ih (by omega)
 have:=go (aeY p) (NE _)
 rwa [ae6] at this
theorem Nc {f:List Pt} (h:eX f):(iT f).Pairwise (· <= ·):=by
 refine aes.2 fun i j hi hj kL=>?_
 rw [ej] at hi hj;have:=eh h kL hj;rw [<- getElem!_pos (iT f) i (by rw [ej];exact hi),<- getElem!_pos (iT f) j (by rw [ej];exact hj),lq hi,lq hj];omega
theorem Lj {f:List Pt} (h:eX f) (l:List Int):kN l=iT f↔(iT f).Perm l:=by
 constructor
 · intro e;rw [<- e];exact qN l
 intro pm
 exact List.Perm.eq_of_pairwise (le:=(· <= ·)) (fun a b _ _ h1 h2=>Int.le_antisymm h1 h2) (vt l) (Nc h) ((qN l).trans pm.symm)
theorem Gp (l:List Int) (f:List Pt) (hl:(aeY l)<=1000):cq l f ()=aeZ (afa (l=iT f)):=by
 unfold cq;simp only [aA]
 by_cases h:(aeY l)=aeY f
 case neg=>rw [dZ (by omega),lw,aE (fun e=>h (by rw [e,ej]))]
 rw [cS (by omega),pp];have key:=z8 (body:=bX) (fun i=>(f,l,((aeY l):Int),(i:Int))) (aeY l) (fun i=>l[i]! =(f[i]!).1) (r:=af6) (e:=af5) (fun i hi=>by
  unfold bX qW;simp only [aG (show (i:Int)<((aeY l):Int) by omega),lw,au l i hi,au f i (by omega),aj,ba (show i<1000000000 by omega)]
  by_cases q:l[i]! =(f[i]!).1
  · rw [eT q];exact ⟨fun w=>absurd q w,fun _=>rfl⟩
  · rw [eu q];exact ⟨fun _=>rfl,fun w=>absurd w q⟩) (by
  unfold bX;simp only [aE (show¬((aeY l):Int)<((aeY l):Int) by omega),pp])
 refine (show _=_ from key).trans ?_
 by_cases q:l=iT f
 · rw [rc (fun i hi=>by rw [q,lq (by omega)]),aG q]
 rw [ut (fun w=>q (rh (by rw [ej];exact h) fun i hi=>by rw [w i hi,lq (by omega)])),aE q]
theorem I4 (a b:List Int) (ha:(aeY a)<=1000):lD a b=aeZ (afa (a=b)):=by
 unfold lD;simp only [aA]
 by_cases h:(aeY a)=aeY b
 case neg=>rw [dZ (by omega),lw,aE (fun e=>h (by rw [e]))]
 rw [cS (by omega),pp];have key:=z8 (body:=iY) (fun i=>(a,b,((aeY a):Int),(i:Int))) (aeY a) (fun i=>a[i]! =b[i]!) (r:=af6) (e:=af5) (fun i hi=>by
  unfold iY;simp only [aG (show (i:Int)<((aeY a):Int) by omega),lw,au a i hi,au b i (by omega),aj,ba (show i<1000000000 by omega)]
  by_cases q:a[i]! =b[i]!
  · rw [cS q];exact ⟨fun w=>absurd q w,fun _=>rfl⟩
  · rw [dZ q];exact ⟨fun _=>rfl,fun w=>absurd w q⟩) (by
  unfold iY;simp only [aE (show¬((aeY a):Int)<((aeY a):Int) by omega),pp])
 refine (show _=_ from key).trans ?_
 by_cases q:a=b
 · rw [rc (fun i _=>by rw [q]),aG q]
 rw [ut (fun w=>q (rh h w)),aE q]
theorem Lk {n:Nat} {M:List Int} (hn:n<=aeY M) (hm:(aeY M)<=1000):yj Ia n M=aeZ (kN (M.take n)++M.drop n):=by unfold yj CK Ia;rw [rc hn,rc (by rw [IR];omega)];simp only [qC,if_true,Option.map_some]
theorem Hx {c:aI} (ok:bg c) {es:List (Int×Int)} (_nd:es.Nodup):(aeY es=aeY c.af.ce/\ ∀i,i<aeY c.af.ce->(c.af.ce[i]!).2∈es)↔(c.af.ce.map fun x=>x.2).Perm es:=by
 have cl:(c.af.ce.map fun x=>x.2).length=(aeY c.af.ce):=aav ..;constructor
 · rintro ⟨h1,h2⟩
   exact Aa (sK ok.wM) (fun x hx=>by obtain ⟨i,hi,rfl⟩:=xQ.2 hx;exact h2 i hi) (by omega)
 intro h
 exact ⟨by rw [<- h.length_eq,cl],fun i hi=>h.mem_iff.1 (xQ.1 ⟨i,hi,rfl⟩)⟩
theorem Dk {k:bq} (fit:uG k.jp) (hl:(aeY k.kw.aL)<=1000) (wl:(aeY k.kw.kU)<=1000):lE k=aeZ (if pZ k then 0 else 8):=by
 unfold lE;rw [ju fit,aj]
 by_cases ok:bg k.jp
 case neg=>rw [ut ok,ut (fun h=>ok h.DD)];rfl
 rw [rc ok,cS rfl,pp,show lU k.kw=_ from Cw k.kw.aL k.kw.kU hl wl,aj]
 by_cases br:Qa k.kw.aL k.kw.kU
 case neg=>rw [ut br,ut (fun h=>br h.br)];rfl
 have b1:=br.one;have b2:=br.eA;rw [rc br,cS rfl,pp,aA,nI (by omega) b1]
 by_cases pw:Dj (aeY k.kw.aL)
 case neg=>rw [dZ (fun h=>pw ((Li b1 b2).1 h)),lw,ut (fun h=>pw h.pow)]
 rw [cS ((Li b1 b2).2 pw),pp,aW (by omega),aj];obtain ⟨n,M,e1,e2,e3,e4⟩:=zm k.kw.aL hl;have nl:n<=(aeY M):=by have:=ad8 (fun x:Int=>decide (0<=x)) k.kw.aL;rw [e2,e3];exact this
 have tk:(kN (M.take n)++M.drop n).take n=kN (cX k.kw.aL):=by rw [aau (by rw [qC,IR];omega),aaS (by rw [qC,IR];omega),e4]
 have ll:(kN (M.take n)++M.drop n).length=(aeY M):=by rw [AC,qC,IR,adc];omega
 have fe:k.jp.ii=⟨k.jp.ii.am⟩:=rfl;rw [e1,aj];dsimp only;rw [Lk nl (by omega),aj,ll,beq_self_eq_true,lw,tk,Gp _ _ (by rw [qC];omega),aj]
 by_cases pm:(iT k.jp.ii.am).Perm (cX k.kw.aL)
 case neg=>rw [aE (fun h=>pm ((Lj ok.j0.2.2 _).1 h)),ut (fun h=>pm h.perm)];rfl
 have pl:=Ah br pm;rw [aG ((Lj ok.j0.2.2 _).2 pm),aah,pp,fe,xY ok.j0 ok.qw ok.gO pl,aj];dsimp only;obtain ⟨_,nd,el⟩:=jw ok.j0 ok.gO (t:=k.jp.ci) pl;have R:=dE (f:=k.jp.ii.am) (t:=k.jp.ci) pl.one;rw [I4 _ _ (by have:=R.1;omega),aj]
 by_cases hw:bz k.jp.ii.am k.jp.ci k.kw.aL=k.kw.kU
 case neg=>rw [aE hw,ut (fun h=>hw h.right.symm)];rfl
 rw [aG hw,aah,pp,Nb,YN _ _ (by omega) (by have:=ok.bd;omega),aj]
 by_cases hc:(k.jp.af.ce.map fun x=>x.2).Perm (eZ k.kw.aL (bz k.jp.ii.am k.jp.ci k.kw.aL))
 · rw [aG ((Hx ok nd).2 hc),rc ⟨ok,br,pw,pm,hw.symm,by rw [<- hw];exact hc⟩];rfl
 rw [aE (fun h=>hc ((Hx ok nd).1 h)),ut (fun h=>hc (by rw [hw];exact h.cert))];rfl
theorem Ll {f:List Pt} (bY:bn f) {t:Int×Int} {p:List Int} (pl:nL f p) {e:Int×Int} (he:e∈eZ p (bz f t p)):leads (iA f e.2) (iA f e.1) t:=by
 have R:=dE (f:=f) (t:=t) pl.one;have R1:=R.1;obtain ⟨i,hi,h⟩:=FI.1 he;obtain ⟨a1,a2,a3⟩:=vV h;have ne:=DF R.1 R.tF pl.once hi a1;have hx:=(pl.ids _ (rC R.1 R.tF (i:=2*i+1) (by omega))).has a1;have hy:=(pl.ids _ (rC R.1 R.tF (i:=2*i+2) (by omega))).has a2;have wv:=R.2 i hi;unfold wH at wv;rw [ut (by omega),ut (by omega)] at wv
 by_cases ld:leads (iA f (bJ p (bz f t p) (2*i+1))) (iA f (bJ p (bz f t p) (2*i+2))) t
 · rw [rc ld] at wv
   rcases a3 with ⟨rfl,_⟩|⟨_,h⟩
   · exact ld
   exact absurd wv h
 rw [ut ld] at wv
 rcases a3 with ⟨_,h⟩|⟨rfl,_⟩
 · rw [wv] at h;exact absurd h.symm ne
 exact xR t (by rw [(eb bY hx).2,(eb bY hy).2];exact ne) ld
section
variable {f : List Pt} (bY : bn f) {t : Int × Int} {p w : List Int} (pl : nL f p) (R : Lb f t p w)
include bY pl R
end
theorem FT: ∀e,e<=6->bo [-1] ((2^e:Nat):Int)=aeZ (v6 (2^e) (-1)):=by
 have go: ∀(n:Nat) (m:Nat),n<1000->aa .u64 (n:Int)=(n:Int)->(2^m=n)->dV (aa .u64 (acl ([-1]:List Int).length)) (aa .u64 (n:Int))=aeZ (0,(n:Int)):=fun n m hn h _=>by
  rw [show aa .u64 (acl ([-1]:List Int).length)=1 from by kernel_rfl,h,uw ⟨by decide,by decide⟩ ⟨by omega,by omega⟩];have e1:(1*(n:Int)) / 18446744073709551616=0:=by omega
  have e2:(1*(n:Int))%18446744073709551616=(n:Int):=by omega
  rw [e1,e2]
 intro e he;have he:e=0\/e=1\/e=2\/e=3\/e=4\/e=5\/e=6:=by omega
 rcases he with rfl|rfl|rfl|rfl|rfl|rfl|rfl
 · unfold bo eD;rw [go 1 0 (by omega) (by kernel_rfl) rfl];exact (by kernel_rfl:_=ar az (1,-1::v6 0 0)).trans (aR.2 ⟨20,by kernel_rfl⟩)
 · unfold bo eD;rw [go 2 1 (by omega) (by kernel_rfl) rfl];exact (by kernel_rfl:_=ar az (1,-1::v6 1 0)).trans (aR.2 ⟨20,by kernel_rfl⟩)
 · unfold bo eD;rw [go 4 2 (by omega) (by kernel_rfl) rfl];exact (by kernel_rfl:_=ar az (1,-1::v6 3 0)).trans (aR.2 ⟨20,by kernel_rfl⟩)
 · unfold bo eD;rw [go 8 3 (by omega) (by kernel_rfl) rfl];exact (by kernel_rfl:_=ar az (1,-1::v6 7 0)).trans (aR.2 ⟨20,by kernel_rfl⟩)
 · unfold bo eD;rw [go 16 4 (by omega) (by kernel_rfl) rfl];exact (by kernel_rfl:_=ar az (1,-1::v6 15 0)).trans (aR.2 ⟨20,by kernel_rfl⟩)
 · unfold bo eD;rw [go 32 5 (by omega) (by kernel_rfl) rfl];exact (by kernel_rfl:_=ar az (1,-1::v6 31 0)).trans (aR.2 ⟨20,by kernel_rfl⟩)
 unfold bo eD;rw [go 64 6 (by omega) (by kernel_rfl) rfl];exact (by kernel_rfl:_=ar az (1,-1::v6 63 0)).trans (aR.2 ⟨20,by kernel_rfl⟩)
theorem Dl {f:List Pt} (h64:(aeY f)<=64):nm ⟨f⟩=aeZ (dt f):=by
 obtain ⟨g1,g2,g3⟩:=Bo h64;obtain ⟨b1,b2⟩:=TE h64;have fl:=rG h64;have stL: ∀i,i<=aeY f->((dt f).take i++v6 (2^lg (aeY f)-i) (-1)).length=2^lg (aeY f):=fun i hi=>by rw [AC,IR,ww,fl];omega
 have in1:=cB (body:=jW) (fun i=>(f,((aeY f):Int),(i:Int),(dt f).take i++v6 (2^lg (aeY f)-i) (-1))) (aeY f) (fun i hi=>by
  unfold jW;simp only [aG (show (i:Int)<((aeY f):Int) by omega),lw,au f i hi,aj,ba (show i<1000000000 by omega),au _ i (show i<((dt f).take i++v6 (2^lg (aeY f)-i) (-1)).length by rw [stL i (by omega)];omega),lW];have e:((dt f).take i++v6 (2^lg (aeY f)-i) (-1)).set i (f[i]!).1=(dt f).take (i+1)++v6 (2^lg (aeY f)- (i+1)) (-1):=by
   rw [fE (show i<(dt f).length by omega),aeG _ _ (by rw [IR];omega),IR,Nat.min_eq_left (by omega),ae8];obtain ⟨c,hc⟩: ∃c,2^lg (aeY f)-i=c+1:=⟨2^lg (aeY f)-i-1,by omega⟩;rw [hc,show 2^lg (aeY f)- (i+1)=c by omega,aeL,List.set_cons_zero,aeu,List.singleton_append];rw [show (dt f)[i]! =(f[i]!).1 from by unfold dt;rw [bN (by rw [ej];exact hi),lq hi]]
  rw [e])
 have out:=cB (body:=mb) (fun i=>(((2^i:Nat):Int),f)) (lg (aeY f)) (fun i hi=>by have:=g3 i hi;unfold mb;simp only [aA,aG (show ((2^i:Nat):Int)<((aeY f):Int) by omega),lw];rw [dbl (by omega),DH]);unfold nm;refine (show _=_ from out).trans (aC ?_);unfold mb;simp only [aA,aE (show¬((2^lg (aeY f):Nat):Int)<((aeY f):Int) by omega),pp,FT _ g1,aj];have Zm:ar jW (f,((aeY f):Int),0,v6 (2^lg (aeY f)) (-1))=_:=in1;refine Zm.trans (aC ?_);unfold jW;simp only [aE (show¬((aeY f):Int)<((aeY f):Int) by omega),pp];have e:(dt f).take (aeY f)++v6 (2^lg (aeY f)-(aeY f)) (-1)=dt f:=by
  unfold dt;rw [aau (by rw [ej];exact NE _),aaS (by rw [ej];exact NE _)]
 rw [e]
theorem Bp {f:List Pt} (bY:bn f):nL f (dt f):=by
 have h64:=bY.1;obtain ⟨b1,b2⟩:=TE h64;have fl:=rG h64;refine ⟨by omega,by omega,fun i j kL hj e=>?_,fun x hx=>?_⟩
 · by_cases h2:j<aeY f
   · have e1:(dt f)[i]! =(f[i]!).1:=by unfold dt;rw [bN (by rw [ej];omega),lq (by omega)]
     have e2:(dt f)[j]! =(f[j]!).1:=by unfold dt;rw [bN (by rw [ej];omega),lq (by omega)]
     rw [e1,e2] at e;have:=vL bY.2.2 (by omega) h2 e;omega
   rw [e]
   unfold dt;rw [cV (by rw [ej];omega),ej,pK _ (by omega)];decide
 unfold dt at hx
 rcases aaz.1 hx with h|h
 · have hp:=o4.1 h
   have:=(eb bY hp).1;have e2:=(eb bY hp).2;unfold eO at this;exact .inr ⟨by omega,hp⟩
 exact .inl (aew h)
theorem Qe {f:List Pt} (bY:bn f):cX (dt f)=iT f:=by unfold dt cX;rw [ac1,aeK.2 (fun x hx=>by have hp:=o4.1 hx;have:=(eb bY hp).1;have e2:=(eb bY hp).2;unfold eO at this;simpa using (show 0<=x by omega)),List.filter_eq_nil_iff.2 (fun x hx=>by rw [aew hx];decide),PP]
structure tH (k:bq):Prop where
 c:OF k.jp
 p:(aeY k.kw.aL)<=1000
 w:(aeY k.kw.kU)<=1000
theorem tI:tH o5:=⟨Gl,WF _,WF _⟩
theorem Qb.short {c:aI} {f:List Pt} {p:List Int} {k:bq} (pl:nL f p) (h:Qb c f p k):tH k:=by have R:=dE (f:=f) (t:=c.ci) pl.one;have b2:=pl.eA;have b3:=R.1;refine ⟨h.yP.ok.short,by rw [h.aL];show (aeY p)<=1000;omega,by rw [h.aL];show (bz f c.ci p).length<=1000;omega⟩
theorem Cx (f:Field) {t:Int×Int} (rq:nQ t): ∃R:bq×Int,jL f t=aeZ R/\mM f t=aeZ R/\tH R.1:=by
 have cn:=I2 f rq
 by_cases h:ic f.am=0
 case neg=>
  rw [rc h] at cn;refine ⟨(o5,ic f.am),?_,?_,tI⟩
  · unfold jL
    rw [cn,aj,dZ h,lw];rfl
  unfold mM
  rw [nJ,aj,dZ h,lw,aj];rfl
 rw [ut (show¬ic f.am≠0 from fun k=>k h)] at cn;have bY:=fh.1 h;have f1:=bY.1
 by_cases rt:bS t
 case neg=>
  rw [ut rt] at cn;refine ⟨(o5,8),?_,?_,tI⟩
  · unfold jL
    rw [cn,aj,dZ (by decide),lw];rfl
  unfold mM
  rw [nJ,aj,cS h,pp,ri rq,ut rt,aj,dZ (by decide),lw];rfl
 rw [rc rt] at cn;have pl:=Bp bY;obtain ⟨R,r1,r2,r3⟩:=Af (Hu bY rt rq) bY pl;have r1:jk (vX f t) f (dt f.am)=aeZ R:=r1;have r2:fw (vX f t) f (dt f.am)=aeZ R:=r2;have k1:nm f=aeZ (dt f.am):=Dl f1;have k2:sE f=aeZ (dt f.am):=x4 f1;refine ⟨R,?_,?_,?_⟩
 · unfold jL
   rw [cn,aj,cS rfl,pp,k1,aj,r1,aj]
 · unfold mM
   rw [nJ,aj,cS h,pp,ri rq,rc rt,aj,cS rfl,pp,FP f1 t,aj,k2,aj,r2,aj]
 rcases r3 with ⟨_,q⟩|e
 · exact q.short pl
 rw [e];exact tI
theorem pZ.fit (k:bq) (n:Tu k.jp) (sh:tH k):uG k.jp:=⟨n.ci,⟨sh.c.s3,sh.c.h,sh.c.w,n.Te⟩,sh.c.d⟩
structure ahx (c:aI) (l:List Int):Prop where
 ok:bg c
 pm:(iT c.ii.am).Perm l
 ct:(c.af.ce.map fun x=>x.2).Perm (xP l)
theorem ahx.bd {c:aI} {l:List Int} (h:ahx c l):(aeY l)<=64:=by
 have:=h.ok.bd;have:(aeY l)=(aeY c.ii.am):=by rw [<- h.pm.length_eq];exact aav ..
 omega
structure ahy (f:List Pt) (p:List Int) (to:Int×Int) (k:bq):Prop where
 DD:bg k.jp
 j0:k.jp.ii.am=f
 ci:k.jp.ci=to
 br:k.kw=⟨p,bz f to p⟩
 cert:(k.jp.af.ce.map fun x=>x.2).Perm (eZ p (bz f to p))
 io: ¬Due k.jp to
inductive C5 (l:List Int) (x:Int):List Int->Prop
 |at_ (k:Nat) (hk:k<aeY l) (e:l[k]! = -1) (h: ∀j,j<k->l[j]!≠ -1) (hi:fb l (-1)=aeZ (k:Int)):C5 l x (l.set k x)
 |end_ (h: ∀j,j<aeY l->l[j]!≠ -1) (hi:fb l (-1)=aeZ (-1)):C5 l x (l++[x]++v6 (aeY l-1) (-1))
theorem YT {f:List Pt} {m:Nat} {p:Pt} {x:Int} (h:fJ f x):fJ (pI f m p) x:=by obtain ⟨i,hi,rfl⟩:=h;obtain ⟨j,hj,e⟩:=aQ.1 (yJ (m:=m) (p:=p).2 (.inr (aX hi)));exact ⟨j,hj,by rw [e]⟩
theorem OI (f:List Pt) (m:Nat) (p:Pt):fJ (pI f m p) p.1:=by obtain ⟨j,hj,e⟩:=aQ.1 (yJ (f:=f) (m:=m) (p:=p).2 (.inl rfl));exact ⟨j,hj,by rw [e]⟩
theorem Di.ins {f:List Pt} {m:Nat} {p:Pt} {x:Int} (h:Di f x):Di (pI f m p) x:=h.imp id fun h=>⟨h.1,YT h.2⟩
theorem Nf {f:List Pt} {l:List Int} (pl:nL f l) {p:Pt} (p0:0<=p.1) (nh: ¬fJ f p.1) {m:Nat} (h32:(∀j,j<aeY l->l[j]!≠ -1)->aeY l<=32) {q:List Int} (h:C5 l p.1 q):nL (pI f m p) q:=by
 have one:=pl.one;have eA:=pl.eA;have ne: ∀j,j<aeY l->l[j]!≠p.1:=fun j hj e=>by
  rcases pl.ids _ (aX hj) with h|h
  · omega
  exact nh (e▸h.2)
 cases h with
 |at_ k hk e h hi=>
  refine ⟨by rw [Do];exact one,by rw [Do];exact eA,fun i j kL hj he=>?_,fun x hx=>?_⟩
  · rw [Do] at hj
    rw [aT,aT] at he;rw [aT]
    by_cases a:i=k
    · rw [rc ⟨a,by omega⟩,ut (by omega)] at he
      exact absurd he.symm (ne j hj)
    rw [ut (fun h=>a h.1)] at he ⊢
    by_cases b:j=k
    · rw [rc ⟨b,by omega⟩] at he
      exact absurd he (ne i (by omega))
    rw [ut (fun h=>b h.1)] at he
    exact pl.once i j kL hj he
  rcases List.mem_or_eq_of_mem_set hx with h|h
  · exact (pl.ids x h).ins
  subst h;exact .inr ⟨p0,OI f m p⟩
 |end_ h hi=>
  have h32:=h32 h;have ll:(l++[p.1]++v6 (aeY l-1) (-1:Int)).length=2*(aeY l):=by rw [AC,AC,EQ,ww];omega
  have g1: ∀i,i<aeY l->(l++[p.1]++v6 (aeY l-1) (-1:Int))[i]! =l[i]!:=fun i hi=>by rw [bN (by rw [AC];omega),bN hi]
  have g2:(l++[p.1]++v6 (aeY l-1) (-1:Int))[aeY l]! =p.1:=by rw [bN (by rw [AC,EQ];omega),cV (NE _),ae8];rfl
  have g3: ∀i,aeY l<i->i<2*aeY l->(l++[p.1]++v6 (aeY l-1) (-1:Int))[i]! = -1:=fun i h1 h2=>by rw [cV (by rw [AC,EQ];omega)];rw [AC,EQ];have:=aX (l:=v6 (aeY l-1) (-1:Int)) (i:=i- (aeY l+1)) (by rw [ww];omega);exact (ac2.1 this).2
  refine ⟨by rw [ll];omega,by rw [ll];omega,fun i j kL hj he=>?_,fun x hx=>?_⟩
  · rw [ll] at hj
    rcases M2 i (aeY l) with a|a|a
    · rw [g1 i a] at he ⊢
      rcases M2 j (aeY l) with b|b|b
      · rw [g1 j b] at he;exact pl.once i j kL b he
      · rw [b,g2] at he;exact absurd he (ne i a)
      rw [g3 j b hj] at he;omega
    · rw [a,g2,g3 j (by omega) hj] at he;omega
    rw [g3 i a (by omega)];omega
  rcases aaz.1 hx with hx|hx
  · rcases aaz.1 hx with hx|hx
    · exact (pl.ids x hx).ins
    obtain rfl:=List.mem_singleton.1 hx
    exact .inr ⟨p0,OI f m p⟩
  exact .inl (ac2.1 hx).2
theorem pZ.aL {k:bq} (ok:pZ k):nL k.jp.ii.am k.kw.aL:=Ah ok.br ok.perm
theorem YU {k:bq} (ok:pZ k) (dz:(aeY k.jp.ii.am)<64) (h: ∀j,j<aeY k.kw.aL->k.kw.aL[j]!≠ -1):(aeY k.kw.aL)<=32:=by
 have all:cX k.kw.aL=k.kw.aL:=Bn fun x hx=>by
  obtain ⟨j,hj,rfl⟩:=aQ.1 hx;have:=h j hj;rcases ok.aL.ids _ (aX hj) with e|e
  · exact absurd e this
  exact e.1
 have e:=ok.perm.length_eq;rw [all,ej] at e;obtain ⟨i,hi,hp⟩:=ok.pow;have:i<=5:=by
  rcases aeb i 6 with h|h
  · omega
  obtain rfl:i=6:=by omega
  omega
 have:=aeJ (show 0<2 by omega) this;omega
section
variable {k : bq} (n : Tu k.jp) (sh : tH k)
include n sh
end
def wB (l:List Int) (k:Nat):List Int:=
 if 1<aeY l/\4*(cX (l.set k (-1))).length<=(aeY l) then cX (l.set k (-1))++v6 ((aeY l) / 2- (cX (l.set k (-1))).length) (-1) else l.set k (-1)
theorem Qf: ∀m:Nat,1<=m->m<=32->bo [-1] (m:Int)=aeZ (v6 m (-1)):=by
 intro m h1 h2;have go:aa .u64 (m:Int)=(m:Int)->dV (aa .u64 (acl ([-1]:List Int).length)) (aa .u64 (m:Int))=aeZ (0,(m:Int)):=fun h=>by
  rw [show aa .u64 (acl ([-1]:List Int).length)=1 from by kernel_rfl,h,uw ⟨by decide,by decide⟩ ⟨by omega,by omega⟩];have e1:(1*(m:Int)) / 18446744073709551616=0:=by omega
  have e2:(1*(m:Int))%18446744073709551616=(m:Int):=by omega
  rw [e1,e2]
 have cs: ∀j,j<32->m=j+1->bo [-1] (m:Int)=aeZ (v6 m (-1)):=by
  intro j hj e;subst e;have:j=0\/j=1\/j=2\/j=3\/j=4\/j=5\/j=6\/j=7\/j=8\/j=9\/j=10\/j=11\/j=12\/j=13\/j=14\/j=15\/j=16\/j=17\/j=18\/j=19\/j=20\/j=21\/j=22\/j=23\/j=24\/j=25\/j=26\/j=27\/j=28\/j=29\/j=30\/j=31:=by omega
  rcases this with rfl|rfl|rfl|rfl|rfl|rfl|rfl|rfl|rfl|rfl|rfl|rfl|rfl|rfl|rfl|rfl|rfl|rfl|rfl|rfl|rfl|rfl|rfl|rfl|rfl|rfl|rfl|rfl|rfl|rfl|rfl|rfl
  all_goals (unfold bo eD;rw [go (by kernel_rfl)])
  · exact (by kernel_rfl:_=ar az (1,-1::v6 0 0)).trans (aR.2 ⟨20,by kernel_rfl⟩)
  · exact (by kernel_rfl:_=ar az (1,-1::v6 1 0)).trans (aR.2 ⟨20,by kernel_rfl⟩)
  · exact (by kernel_rfl:_=ar az (1,-1::v6 2 0)).trans (aR.2 ⟨20,by kernel_rfl⟩)
  · exact (by kernel_rfl:_=ar az (1,-1::v6 3 0)).trans (aR.2 ⟨20,by kernel_rfl⟩)
  · exact (by kernel_rfl:_=ar az (1,-1::v6 4 0)).trans (aR.2 ⟨20,by kernel_rfl⟩)
  · exact (by kernel_rfl:_=ar az (1,-1::v6 5 0)).trans (aR.2 ⟨20,by kernel_rfl⟩)
  · exact (by kernel_rfl:_=ar az (1,-1::v6 6 0)).trans (aR.2 ⟨20,by kernel_rfl⟩)
  · exact (by kernel_rfl:_=ar az (1,-1::v6 7 0)).trans (aR.2 ⟨20,by kernel_rfl⟩)
  · exact (by kernel_rfl:_=ar az (1,-1::v6 8 0)).trans (aR.2 ⟨20,by kernel_rfl⟩)
  · exact (by kernel_rfl:_=ar az (1,-1::v6 9 0)).trans (aR.2 ⟨20,by kernel_rfl⟩)
  · exact (by kernel_rfl:_=ar az (1,-1::v6 10 0)).trans (aR.2 ⟨20,by kernel_rfl⟩)
  · exact (by kernel_rfl:_=ar az (1,-1::v6 11 0)).trans (aR.2 ⟨20,by kernel_rfl⟩)
  · exact (by kernel_rfl:_=ar az (1,-1::v6 12 0)).trans (aR.2 ⟨20,by kernel_rfl⟩)
  · exact (by kernel_rfl:_=ar az (1,-1::v6 13 0)).trans (aR.2 ⟨20,by kernel_rfl⟩)
  · exact (by kernel_rfl:_=ar az (1,-1::v6 14 0)).trans (aR.2 ⟨20,by kernel_rfl⟩)
  · exact (by kernel_rfl:_=ar az (1,-1::v6 15 0)).trans (aR.2 ⟨20,by kernel_rfl⟩)
  · exact (by kernel_rfl:_=ar az (1,-1::v6 16 0)).trans (aR.2 ⟨20,by kernel_rfl⟩)
  · exact (by kernel_rfl:_=ar az (1,-1::v6 17 0)).trans (aR.2 ⟨20,by kernel_rfl⟩)
  · exact (by kernel_rfl:_=ar az (1,-1::v6 18 0)).trans (aR.2 ⟨20,by kernel_rfl⟩)
  · exact (by kernel_rfl:_=ar az (1,-1::v6 19 0)).trans (aR.2 ⟨20,by kernel_rfl⟩)
  · exact (by kernel_rfl:_=ar az (1,-1::v6 20 0)).trans (aR.2 ⟨20,by kernel_rfl⟩)
  · exact (by kernel_rfl:_=ar az (1,-1::v6 21 0)).trans (aR.2 ⟨20,by kernel_rfl⟩)
  · exact (by kernel_rfl:_=ar az (1,-1::v6 22 0)).trans (aR.2 ⟨20,by kernel_rfl⟩)
  · exact (by kernel_rfl:_=ar az (1,-1::v6 23 0)).trans (aR.2 ⟨20,by kernel_rfl⟩)
  · exact (by kernel_rfl:_=ar az (1,-1::v6 24 0)).trans (aR.2 ⟨20,by kernel_rfl⟩)
  · exact (by kernel_rfl:_=ar az (1,-1::v6 25 0)).trans (aR.2 ⟨20,by kernel_rfl⟩)
  · exact (by kernel_rfl:_=ar az (1,-1::v6 26 0)).trans (aR.2 ⟨20,by kernel_rfl⟩)
  · exact (by kernel_rfl:_=ar az (1,-1::v6 27 0)).trans (aR.2 ⟨20,by kernel_rfl⟩)
  · exact (by kernel_rfl:_=ar az (1,-1::v6 28 0)).trans (aR.2 ⟨20,by kernel_rfl⟩)
  · exact (by kernel_rfl:_=ar az (1,-1::v6 29 0)).trans (aR.2 ⟨20,by kernel_rfl⟩)
  · exact (by kernel_rfl:_=ar az (1,-1::v6 30 0)).trans (aR.2 ⟨20,by kernel_rfl⟩)
  exact (by kernel_rfl:_=ar az (1,-1::v6 31 0)).trans (aR.2 ⟨20,by kernel_rfl⟩)
 exact cs (m-1) (by omega) (by omega)
theorem Qg {l:List Int} {k:Nat} (hk:k<aeY l) (h0:0<=l[k]!):(cX (l.set k (-1))).length+1=(cX l).length:=by
 have e1:l=l.take k++l[k]!::l.drop (k+1):=by
  conv=>lhs;rw [<- aeF k l,List.drop_eq_getElem_cons hk]
  rw [getElem!_pos l k hk]
 have e2:l.set k (-1)=l.take k++(-1)::l.drop (k+1):=by rw [List.set_eq_take_append_cons_drop,rc hk]
 have f1:(cX l).length=((l.take k).filter fun x=>decide (0<=x)).length+(((l.drop (k+1)).filter fun x=>decide (0<=x)).length+1):=by
  unfold cX
  conv=>lhs;rw [e1]
  rw [ac1,AC,aez (by simpa using h0),aey]
 have f2:(cX (l.set k (-1))).length=((l.take k).filter fun x=>decide (0<=x)).length+((l.drop (k+1)).filter fun x=>decide (0<=x)).length:=by unfold cX;rw [e2,ac1,AC,aeA (by decide)]
 omega
theorem Qh {f:List Pt} (hs:eX f) {q:Nat} (hq:q<aeY f) {x:Int} (h:fJ f x) (dK:x≠(f[q]!).1):fJ (f.eraseIdx q) x:=by obtain ⟨i,hi,rfl⟩:=h;obtain ⟨j,hj,e⟩:=aQ.1 ((Cs hs hq).2 ⟨aX hi,dK⟩);exact ⟨j,hj,by rw [e]⟩
theorem Ng {f f':List Pt} {l:List Int} (pl:nL f l) {k:Nat} (hk:k<aeY l) (h0:0<=l[k]!) (has: ∀x,fJ f x->x≠l[k]!->fJ f' x):nL f' (l.set k (-1)):=by
 refine ⟨by rw [Do];exact pl.one,by rw [Do];exact pl.eA,fun i j kL hj he=>?_,fun x hx=>?_⟩
 · rw [Do] at hj
   rw [aT,aT] at he;rw [aT]
   by_cases a:i=k
   · rw [rc ⟨a,by omega⟩];omega
   rw [ut (fun h=>a h.1)] at he ⊢
   by_cases b:j=k
   · rw [rc ⟨b,by omega⟩] at he;omega
   rw [ut (fun h=>b h.1)] at he;exact pl.once i j kL hj he
 obtain ⟨i,hi,rfl⟩:=aQ.1 hx
 rw [Do] at hi;rw [aT]
 by_cases a:i=k
 · rw [rc ⟨a,by omega⟩];exact .inl rfl
 rw [ut (fun h=>a h.1)]
 refine (pl.ids _ (aX hi)).imp id fun h=>⟨h.1,has _ h.2 fun e=>a (pl.once.inj hi hk e h.1)⟩
theorem Lm {f f':List Pt} {l:List Int} (pl:nL f l) {k:Nat} (hk:k<aeY l) (h0:0<=l[k]!) (has: ∀x,fJ f x->x≠l[k]!->fJ f' x):nL f' (wB l k):=by
 have sp:=Ng pl hk h0 has;unfold wB;split
 · rename_i h
   have nd:=FQ sp.once;have eA:=pl.eA;obtain ⟨A,hA⟩: ∃A,A=cX (l.set k (-1)):=⟨_,rfl⟩;rw [<- hA] at h nd ⊢;have An: ∀x∈A,0<=x:=fun x hx=>(kr.1 (hA▸hx)).2
   have ll:(A++v6 ((aeY l) / 2-(aeY A)) (-1:Int)).length=(aeY l) / 2:=by rw [AC,ww];omega
   have g3: ∀i,aeY A<=i->i<(aeY l) / 2->(A++v6 ((aeY l) / 2-(aeY A)) (-1:Int))[i]! = -1:=fun i h1 h2=>by rw [cV h1];have:=aX (l:=v6 ((aeY l) / 2-(aeY A)) (-1:Int)) (i:=i-(aeY A)) (by rw [ww];omega);exact (ac2.1 this).2
   refine ⟨by rw [ll];omega,by rw [ll];omega,fun i j kL hj he=>?_,fun x hx=>?_⟩
   · rw [ll] at hj
     by_cases a:i<aeY A
     · rw [bN a] at he ⊢
       by_cases b:j<aeY A
       · rw [bN b] at he
         have:=(aes.1 nd) i j a b kL;rw [getElem!_pos A i a,getElem!_pos A j b] at he;exact absurd he this
       rw [g3 j (by omega) hj] at he
       have:=An _ (aX a);omega
     rw [g3 i (by omega) (by omega)];omega
   rcases aaz.1 hx with hx|hx
   · exact sp.ids x (kr.1 (hA▸hx)).1
   exact .inl (ac2.1 hx).2
 exact sp
theorem Ln:dB=bI:=rfl
section
variable {k : bq} (n : Tu k.jp) (sh : tH k)
include n sh
end
section
variable {α : Type} [Inhabited α] {P : α -> α -> Prop} {S : α -> Prop}
end
section
variable {f : List Pt} {t : Int × Int}
end
theorem FU {f:List Pt} (bY:bn f) {t:Int×Int} {p:List Int} (pl:nL f p):Qa p (bz f t p):=by
 have R:=dE (f:=f) (t:=t) pl.one;refine ⟨pl.one,pl.eA,R.1,pl.once,pl.S6 bY,R.tF,fun i hi h=>?_⟩;rw [R.2 i hi] at h;unfold wH at h;split at h
 · rename_i h1;exact ⟨h1,h⟩
 rename_i h1
 split at h
 · omega
 split at h<;>omega
theorem ahy.ok {k:bq} (ok:pZ k) {to:Int×Int} {r:bq} (h:ahy k.jp.ii.am k.kw.aL to r):pZ r:=by
 have pl:=Ah ok.br ok.perm;refine ⟨h.DD,?_,?_,?_,?_,?_⟩
 · rw [h.br];exact FU ok.DD.j0 pl
 · rw [h.br];exact ok.pow
 · rw [h.br,h.j0];exact ok.perm
 · rw [h.br,h.j0,h.ci]
 rw [h.br];exact h.cert
theorem ahz {f:List Pt} (bY:bn f) (p:Pt):
 (∃e:Int,e≠0/\gg ⟨f⟩ p=aeZ (⟨[]⟩,e))\/
 (∃m,OG f p m/\ ¬fJ f p.1/\eO p/\aeY f<64/\gg ⟨f⟩ p=aeZ (⟨pI f m p⟩,0)):=by
 have f1:=bY.1;have hc:cT ⟨f⟩=aeZ 0:=by rw [dU];exact congrArg aeZ (fh.2 bY)
 by_cases po:eO p
 case neg=>
  refine .inl ⟨8,by decide,?_⟩
  unfold gg;rw [hc,aj,cS rfl,pp,gr,ut po];rfl
 by_cases hp:fJ f p.1
 · obtain ⟨k,hk,he,e⟩:=M5 bY hp
   refine .inl ⟨14,by decide,?_⟩
   unfold gg;rw [hc,aj,cS rfl,pp,gr,rc po,aj,cS rfl,pp,e];rfl
 obtain ⟨m,hm,e⟩:=FF bY hp
 by_cases full:(aeY f)=64
 · refine .inl ⟨18,by decide,?_⟩
   unfold gg;rw [hc,aj,cS rfl,pp,gr,rc po,aj,cS rfl,pp,e,aj,pp]
   simp only [aA,full];rfl
 have hl:(aeY f)<64:=by omega
 have hf:(acl (aeY f)==64)=af6:=by simp only [aA,beq_eq_false_iff_ne];omega
 refine .inr ⟨m,hm,hp,po,hl,?_⟩
 have hi:sf f (m:Int) [p]=aeZ (pI f m p):=by
  unfold sf;rw [rc ⟨by omega,by have:=hm.le;simpa using this,rfl,by omega⟩];simp [pI]
 unfold gg;rw [hc,aj,cS rfl,pp,gr,rc po,aj,cS rfl,pp,e,aj,pp,hf,pp,aW (show (aeY f)<=1048576 by omega),aj,hi,aj]
theorem aem {f:List Pt} (bY:bn f) {k:Nat} (hk:k<aeY f):iL ⟨f⟩ (f[k]!).1=aeZ (⟨f.eraseIdx k⟩,0):=by have f1:=bY.1;obtain ⟨L,d1,d2⟩:=sJ f k hk;unfold iL;rw [K7 bY hk,aj,cS rfl,pp,aW (show (aeY f)<=1048576 by omega),aj,ba (show k<1000000000 by omega),IY,d1,aj];show aeZ (Field.mk (L.take (aeY f-1)),(0:Int))=_;rw [d2]
theorem aen {f:List Pt} (bY:bn f) {id:Int} (h: ¬fJ f id):iL ⟨f⟩ id=aeZ (⟨[]⟩,6):=by unfold iL;rw [Gm bY h];rfl
theorem TF {l:List Int} (hl:(aeY l)<=1000) (x:Int): ∃m,C5 l x m:=by
 have ix:=K5 l (-1) (by omega)
 by_cases h: ∃i,i<aeY l/\l[i]! = -1
 · obtain ⟨k,k1,k2,k3⟩:=least h
   have k3: ∀j,j<k->l[j]!≠ -1:=k3;exact ⟨_,.at_ k k1 k2 k3 (ix.1 k k1 k2 k3)⟩
 have h2: ∀j,j<aeY l->l[j]!≠ -1:=fun j hj e=>h ⟨j,hj,e⟩
 exact ⟨_,.end_ h2 (ix.2 h2)⟩
structure TG (R:bq) (F:List Pt) (P:List Int) (t:Int×Int):Prop where
 ok:pZ R
 j0:R.jp.ii.am=F
 ci:R.jp.ci=t
 pls:R.kw.aL=P
theorem OJ {f:List Pt} {p:List Int} (bY:bn f) (pl:nL f p) (h: ∀x,fJ f x->x∈p):(iT f).Perm (cX p):=
 (List.perm_ext_iff_of_nodup (Cr bY.2.2) (FQ pl.once)).2 fun x=>⟨fun hx=>by
  have hp:=o4.1 hx;obtain ⟨i,hi,e⟩:=hp;have:=bY.2.1 _ (aX hi);unfold eO at this;exact kr.2 ⟨h x ⟨i,hi,e⟩,by omega⟩,fun hx=>by
  obtain ⟨h1,h2⟩:=kr.1 hx;exact o4.2 ((pl.ids x h1).has h2)⟩
theorem Qb.aly {c:aI} (ok:bg c) {f:List Pt} (bY:bn f) {p:List Int} (pl:nL f p) (pw:Dj (aeY p)) (pm:(iT f).Perm (cX p)) {k:bq} (h:Qb c f p k):TG k f p c.ci:=by have q:=h.yP;have b:=h.aL;obtain ⟨_,nd,_⟩:=jw bY ok.gO (t:=c.ci) pl;refine ⟨⟨q.ok,by rw [b];exact FU bY pl,by rw [b];exact pw,by rw [q.j0,b];exact pm,by rw [b,q.j0,q.ci],?_⟩,q.j0,q.ci,by rw [b]⟩;rw [b];exact xV (sK q.ok.wM) nd (fun z hz=>by obtain ⟨y,hy,rfl⟩:=aeg.1 hz;exact q.sub y hy) (fun z hz=>xQ.1 (q.has z hz))
theorem TH {c:aI} (ok:bg c) {f:List Pt} (bY:bn f) {p:List Int} (pl:nL f p) (pw:Dj (aeY p)) (pm:(iT f).Perm (cX p)):
 ∃R:bq×Int,bZ c ⟨f⟩ p=aeZ R/\(R=(o5,18)\/R.2=0/\TG R.1 f p c.ci):=by
 obtain ⟨R,r1,_,r3⟩:=Ag ok bY pl;refine ⟨R,r1,?_⟩;rcases r3 with ⟨a,b⟩|h
 · exact .inr ⟨a,b.aly ok bY pl pw pm⟩
 exact .inl h
theorem C5.mem {l q:List Int} {x:Int} (h:C5 l x q):x∈q/\ ∀y∈l,0<=y->y∈q:=by
 cases h with
 |at_ k hk e _ _=>
  refine ⟨List.mem_set hk x,fun y hy h0=>?_⟩;obtain ⟨i,hi,rfl⟩:=aQ.1 hy;have:i≠k:=fun a=>by rw [a,e] at h0;exact absurd h0 (by decide)
  have g:=aT l k i x;rw [ut (fun h=>this h.1)] at g;rw [<- g];exact aX (by rw [Do];exact hi)
 |end_ _ _=>exact ⟨by simp,fun y hy _=>by simp [hy]⟩
theorem TI {n:Nat} (h:Dj n) (h1:1<n):Dj (n / 2):=by
 obtain ⟨i,hi,rfl⟩:=h;cases i with
 |zero=>exact absurd h1 (by decide)
 |succ i=>exact ⟨i,by omega,by rw [DH];omega⟩
theorem YV {n:Nat} (h:Dj n) (h1:n<=32):Dj (2*n):=by
 obtain ⟨i,hi,rfl⟩:=h;refine ⟨i+1,?_,(DH i).symm⟩;rcases aeb i 6 with a|a
 · omega
 obtain rfl:i=6:=by omega
 exact absurd h1 (by decide)
theorem Lo {l q:List Int} {x:Int} (h1:1<=aeY l) (h:C5 l x q):(aeY q=aeY l/\ ∃k,k<aeY l/\l[k]! = -1)\/(aeY q=2*aeY l/\ ∀j,j<aeY l->l[j]!≠ -1):=by
 cases h with
 |at_ k hk e _ _=>exact .inl ⟨Do,k,hk,e⟩
 |end_ h _=>exact .inr ⟨by rw [AC,AC,EQ,ww];omega,h⟩
theorem Lp {l:List Int} {j:Nat}:(wB l j).length=if 1<aeY l/\4*(cX (l.set j (-1))).length<=(aeY l) then (aeY l) / 2 else (aeY l):=by
 unfold wB;split
 · rw [AC,ww];omega
 rw [Do]
theorem TJ {l:List Int} {j:Nat} {x:Int} (hx:x∈l) (h0:0<=x) (dK:x≠l[j]!):x∈wB l j:=by
 have a:x∈l.set j (-1):=by obtain ⟨i,hi,rfl⟩:=aQ.1 hx;have g:=aT l j i (-1);rw [ut (fun h=>dK (by rw [h.1]))] at g;rw [<- g];exact aX (by rw [Do];exact hi)
 unfold wB;split
 · exact List.mem_append_left _ (kr.2 ⟨a,h0⟩)
 exact a
section
variable {k : bq} (ok : pZ k) (sh : tH k)
include ok sh
theorem OK:lE k=aeZ 0:=by rw [Dk ok.DD.fit sh.p sh.w,rc ok]
theorem TK (p:Pt):(∃e:Int,e≠0/\gg k.jp.ii p=aeZ (⟨[]⟩,e)/\mL k p=aeZ (o5,e))\/
 ∃(m:Nat) (q:List Int),OG k.jp.ii.am p m/\ ¬fJ k.jp.ii.am p.1/\eO p/\gg k.jp.ii p=aeZ (⟨pI k.jp.ii.am m p⟩,0)/\bn (pI k.jp.ii.am m p)/\
  C5 k.kw.aL p.1 q/\nL (pI k.jp.ii.am m p) q/\Dj (aeY q)/\(iT (pI k.jp.ii.am m p)).Perm (cX q)/\
  ∀R,bZ k.jp ⟨pI k.jp.ii.am m p⟩ q=aeZ R->mL k p=aeZ R:=by
 have c1:=OK ok sh;have bY:=ok.DD.j0;have pl:=ok.aL;rcases ahz bY p with ⟨e,e0,t1⟩|⟨m,hm,hp,po,dz,t1⟩
 · have t1:gg k.jp.ii p=aeZ (⟨[]⟩,e):=t1
   refine .inl ⟨e,e0,t1,?_⟩;unfold mL;rw [c1,aj,cS rfl,pp,t1,aj,dZ e0,lw];rfl
 have t1:gg k.jp.ii p=aeZ (⟨pI k.jp.ii.am m p⟩,0):=t1;have Dm:=YK bY po hm dz;have eA:=pl.eA;have one:=pl.one;have full:=YU ok dz;obtain ⟨q,w2⟩:=TF (l:=k.kw.aL) (by omega) p.1;have p0:0<=p.1:=by have:=po;unfold eO at this;omega
 have YW:nL (pI k.jp.ii.am m p) q:=Nf pl p0 hp full w2;refine .inr ⟨m,q,hm,hp,po,t1,Dm,w2,YW,?_,OJ Dm YW fun x hx=>?_,fun R s1=>?_⟩
 · rcases Lo one w2 with ⟨a,_⟩|⟨a,b⟩
   · rw [a];exact ok.pow
   rw [a];exact YV ok.pow (full b)
 · obtain ⟨i,hi,rfl⟩:=hx
   rcases yJ.1 (aX hi) with h|h
   · rw [h];exact w2.mem.1
   obtain ⟨j,hj,e⟩:=aQ.1 h
   have:=bY.2.1 _ h;unfold eO at this;have hx:((pI k.jp.ii.am m p)[i]!).1∈cX k.kw.aL:=ok.perm.mem_iff.1 (o4.2 ⟨j,hj,by rw [e]⟩);exact w2.mem.2 _ (kr.1 hx).1 (by omega)
 unfold mL
 rw [c1,aj,cS rfl,pp,t1,aj,cS rfl,pp,aW (by omega),aj];cases w2 with
 |at_ j hj e h hi=>rw [hi,aj,aE (show¬(j:Int)<0 by omega),pp,au _ j hj,aj,lW,s1,aj]
 |end_ h hi=>
  obtain ⟨i,hi7,hpw⟩:=ok.pow;have rep:=FT i (by omega);rw [<- hpw] at rep;rw [hi,aj,aG (show (-1:Int)<0 by decide),lw,aA,rep,aj];have em:(v6 (aeY k.kw.aL) (-1:Int)).isEmpty=af6:=by
   cases hh:(aeY k.kw.aL) with
   |zero=>omega
   |succ _=>rfl
  rw [em,pp,cZ (by rw [ww];omega),aj,au _ _ (by rw [AC,ww];omega),aj,lW];have:(k.kw.aL++v6 (aeY k.kw.aL) (-1:Int)).set (aeY k.kw.aL) p.1=k.kw.aL++[p.1]++v6 (aeY k.kw.aL-1) (-1):=by
   rw [aeG _ _ (NE _),ae8];cases hh:(aeY k.kw.aL) with
   |zero=>omega
   |succ n=>simp [aeL]
  rw [this,s1,aj]
theorem Qi (id:Int):(¬fJ k.jp.ii.am id/\iL k.jp.ii id=aeZ (⟨[]⟩,6)/\kZ k id=aeZ (o5,6))\/
 ∃q j:Nat,q<aeY k.jp.ii.am/\(k.jp.ii.am[q]!).1=id/\j<aeY k.kw.aL/\k.kw.aL[j]! =id/\0<=id/\iL k.jp.ii id=aeZ (⟨k.jp.ii.am.eraseIdx q⟩,0)/\
  bn (k.jp.ii.am.eraseIdx q)/\nL (k.jp.ii.am.eraseIdx q) (wB k.kw.aL j)/\Dj (wB k.kw.aL j).length/\(iT (k.jp.ii.am.eraseIdx q)).Perm (cX (wB k.kw.aL j))/\
  (cX (k.kw.aL.set j (-1))).length=aeY k.jp.ii.am-1/\
  ∀R,bZ k.jp ⟨k.jp.ii.am.eraseIdx q⟩ (wB k.kw.aL j)=aeZ R->kZ k id=aeZ R:=by
 have c1:=OK ok sh;have bY:=ok.DD.j0;have pl:=ok.aL;have eA:=pl.eA;have one:=pl.one
 by_cases hid:fJ k.jp.ii.am id
 case neg=>have t1:iL k.jp.ii id=aeZ (⟨[]⟩,6):=aen bY hid;refine .inl ⟨hid,t1,?_⟩;unfold kZ;rw [c1,aj,cS rfl,pp,t1,aj,dZ (by decide),lw];rfl
 have hm:=kr.1 (ok.perm.mem_iff.1 (o4.2 hid));obtain ⟨q,hq,hqe⟩:=hid;have t1:=aem bY hq;rw [hqe] at t1;have t1:iL k.jp.ii id=aeZ (⟨k.jp.ii.am.eraseIdx q⟩,0):=t1;have Dm:=Tv bY q;obtain ⟨j,hj,e,ix,_⟩:=P8 (l:=k.kw.aL) (by omega) hm.1;have h0:0<=k.kw.aL[j]!:=by rw [e];exact hm.2
 have YW:nL (k.jp.ii.am.eraseIdx q) (wB k.kw.aL j):=Lm pl hj h0 fun x hx dK=>Qh bY.2.2 hq hx (by rw [hqe,<- e];exact dK)
 have fl:(k.jp.ii.am.eraseIdx q).length=(cX (k.kw.aL.set j (-1))).length:=by have a:=Qg hj h0;have b:=ok.perm.length_eq;rw [ej] at b;have:=yH hq;omega
 refine .inr ⟨q,j,hq,hqe,hj,e,hm.2,t1,Dm,YW,?_,OJ Dm YW fun x hx=>?_,by have:=yH hq;omega,fun R s1=>?_⟩
 · rw [Lp]
   split
   · rename_i h;exact TI ok.pow h.1
   exact ok.pow
 · obtain ⟨i,hi,rfl⟩:=hx
   obtain ⟨a,b⟩:=(Cs bY.2.2 hq).1 (aX hi);obtain ⟨i',tY,e'⟩:=aQ.1 a;have hx:=kr.1 (ok.perm.mem_iff.1 (o4.2 ⟨i',tY,by rw [e']⟩));exact TJ hx.1 hx.2 (by rw [e,<- hqe];exact b)
 unfold kZ
 rw [c1,aj,cS rfl,pp,t1,aj,cS rfl,pp,aW (by omega),aj,ix,aj,au _ j hj,aj];simp only [lW,aA,Do,fl];have il:(cX (k.kw.aL.set j (-1))).length<=(aeY k.kw.aL):=by have:=ad8 (fun x:Int=>decide (0<=x)) (k.kw.aL.set j (-1));rw [Do] at this;unfold cX;omega
 rw [ib (n:=4*((cX (k.kw.aL.set j (-1))).length:Int)) ⟨by omega,by omega⟩];unfold wB at s1
 by_cases a:1<aeY k.kw.aL
 · rw [aG (by omega),lw]
   by_cases b:4*(cX (k.kw.aL.set j (-1))).length<=aeY k.kw.aL
   · rw [aG (by omega),lw,Ln]
     rw [rc ⟨a,b⟩] at s1;obtain ⟨N,M,m1,m2,m3,m4⟩:=zm (k.kw.aL.set j (-1)) (by rw [Do];omega);rw [Do] at m1 m3;have w2:aa .i64 (aa .i64 (Int.tdiv ((aeY k.kw.aL):Int) 2) - (N:Int))=(((aeY k.kw.aL) / 2-N:Nat):Int):=by rw [aep (by omega),ib (n:=((aeY k.kw.aL):Int) / 2) ⟨by omega,by omega⟩,ib ⟨by omega,by omega⟩];omega
     rw [m1,aj];simp only [];rw [w2,Qf _ (by omega) (by omega),aj];have em:(v6 ((aeY k.kw.aL) / 2-N) (-1:Int)).isEmpty=af6:=by
      cases hh:(aeY k.kw.aL) / 2-N with
      |zero=>omega
      |succ _=>rfl
     have b1:Nat.ble (N+((aeY k.kw.aL) / 2-N)) (aeY k.kw.aL)=af5:=by rw [Nat.ble_eq];omega
     have lay:(eK M N (v6 ((aeY k.kw.aL) / 2-N) (-1:Int))).take (N+((aeY k.kw.aL) / 2-N))=cX (k.kw.aL.set j (-1))++v6 ((aeY k.kw.aL) / 2-N) (-1):=by unfold eK;rw [m4,aau (by rw [AC,ww];omega),aaS (by rw [AC,ww];omega)]
     rw [em,pp,ww,b1,lw,m3,b1];simp only [aax,aeM,lw];rw [lay,m2,s1,aj]
   rw [aE (by omega),pp]
   rw [ut (fun h=>b h.2)] at s1;rw [s1,aj]
 rw [aE (by omega),pp]
 rw [ut (fun h=>a h.1)] at s1;rw [s1,aj]
end
theorem TG.TL {R:bq} {F:List Pt} {P:List Int} {t:Int×Int} (h:TG R F P t):tH R:=by have a:=h.ok.br.len;have b:=h.ok.br.eA;exact ⟨h.ok.DD.short,by omega,by omega⟩
section
variable {k : bq} (ok : pZ k) (sh : tH k) (id : Int)
include ok sh
end
theorem TM {l:List Int} {k:Nat} (hk:k<aeY l) (e:l[k]! = -1):(cX l).length<(aeY l):=by unfold cX;rw [List.length_filter_lt_length_iff_exists];exact ⟨l[k]!,aX hk,by rw [e];decide⟩
structure rQ (c:aI) (m k:Nat):Prop where
 l:(aeY c.af.ce)<=m
 n:c.af.aM<=k
 u: ∀j,j<aeY c.ae.ai.aD->c.ae.ai.aD[j]!<=k
theorem rQ.FC {c:aI} (ok:bg c) {m k:Nat} (h:rQ c m k) (hm:m<=199) (hk:k<=999999): ¬(zj c.af\/ ¬uA c.ae.ai):=by
 obtain ⟨h1,h2,h3⟩:=h;have fl:=ok.Df.len;have hd:=ok.hd;have hl:=ok.nR.hl;have wl:=ok.nR.wl;have w2:=ok.Gk;rintro (h|h)
 · rcases h with h|h<;>omega
 refine h ⟨by omega,?_⟩
 have:=h3 _ (vM ok.nR.so (by omega)).1;omega
theorem rQ.more {c c':aI} {m k:Nat} (h:rQ c m k) {x:Int×Int} (hc:c'.af=mg c.af x) (hs:c'.ae.ai=c.ae.ai\/c'.ae.ai=fP c.ae.ai):rQ c' (m+1) (k+1):=by
 obtain ⟨h1,h2,h3⟩:=h;refine ⟨?_,?_,fun j hj=>?_⟩
 · rw [hc]
   show (c.af.ce++[(c.af.aM,x)]).length<=_;rw [AC,EQ];omega
 · rw [hc]
   show c.af.aM+1<=_;omega
 rcases hs with e|e
 · rw [e] at hj ⊢
   have:=h3 j hj;omega
 rw [e] at hj ⊢
 change j<(c.ae.ai.aD.set _ _).length at hj;rw [Do] at hj;show (c.ae.ai.aD.set (cM c.ae.ai) (c.ae.ai.aD[cM c.ae.ai]!+1))[j]!<=_;rw [aT];split
 · rename_i h;have:=h3 _ h.2;omega
 have:=h3 j hj;omega
theorem Lq {c:aI} (ok:bg c) {i:Nat} (hi:i<aeY c.af.ce) {c':aI} {x:Int×Int} (h:jJ c (c.af.ce[i]!).1=aeZ (c',x,0)):c'.ae.ai.aD=c.ae.ai.aD:=by
 have bd:=ok.bd;have rm:=xN ok.wM hi (n:=(c.af.ce[i]!).1) rfl;have fe:=ok.Df.erase (i:=i) hi;have pd:=yI ok.z7 (by omega) (c.af.ce[i]!).1;cases hf:(bw c.ii.am (c.af.ce[i]!).2 c.ci).2 with
 |false=>
  have no: ∀k,k<aeY c.io->(c.io[k]!).1≠(c.af.ce[i]!).1:=by
   intro k hk he;obtain ⟨x,hx,h1,h2,_⟩:=ok.Df.io _ (aX hk);obtain ⟨j,hj,rfl⟩:=aQ.1 hx;have ub:=oZ.1 ok.pY;have:j=i:=by
    rcases M2 j i with h|h|h
    · have:=ub j i h hi;omega
    · exact h
    have:=ub i j h hj;omega
   rw [this,hf] at h2;cases h2
  obtain ⟨m,e⟩:=pd.2 no;unfold jJ at h;simp only [rm,aj,show ((0:Int) !=0)=af6 from rfl,pp,fW ok,e] at h;injection h with h;injection h with h _;rw [<- h]
 |true=>
  obtain ⟨k,hk,k1,k2,k3⟩:=fe.2 hf;obtain ⟨w,hw,gx⟩:=aQ.1 k2;have hh:(c.ae.bv[w]!).2.2.2=(c.io[k]!).2:=by rw [gx]
  obtain ⟨L,d1,d2⟩:=sJ c.io k hk;unfold jJ at h;simp only [rm,aj,show ((0:Int) !=0)=af6 from rfl,pp,fW ok,pd.1 k hk k1,lw,au c.io k hk,oE ok.nR hw ok.nR.fit hh,ba (show k<1000000000 by omega),Fv,d1,d2] at h;injection h with h;injection h with h _;rw [<- h];show (dw c.ae w).ai.aD=_;have h3:(dw c.ae w).ai=eY c.ae.ai (c.ae.bv[w]!).2.2.2:=by unfold dw;split<;>rfl
  rw [h3];rfl
theorem OL {c0:aI} (ok0:bg c0) {f:List Pt} {es:List (Int×Int)} (uK:o3 f es) {k:Nat}:
 ∀(d i:Nat) (c:aI),aeY c0.af.ce-i<=d->i<=aeY c0.af.ce->bg c->(∀x∈c0.af.ce.drop i,x∈c.af.ce)->(∀x∈c.af.ce,x∈c0.af.ce.drop i\/x.2∈es)->rQ c (aeY es) k\/rQ c 100 k->
  c.ii=c0.ii->c.ci=c0.ci->rQ c 100 k->
  ∃c':aI,ar bC (kP c0 f es i c)=ar bC (kP c0 f es (aeY c0.af.ce) c')/\bg c'/\(∀x∈c'.af.ce,x.2∈es)/\c'.ii=c0.ii/\rQ c' 100 k/\c'.ci=c0.ci:=by
 have bd:=ok0.bd;intro d
 induction d with
 |zero=>
  intro i c hd hi ok h1 h2 _ hf hn hr;have:i=(aeY c0.af.ce):=by omega
  subst this;refine ⟨c,rfl,ok,fun x hx=>?_,hf,hr,hn⟩;rcases h2 x hx with h|h
  · rw [ae1] at h;cases h
  exact h
 |succ d ih=>
  intro i c hd hi ok h1 h2 _ hf hn hr
  by_cases he:i=aeY c0.af.ce
  · subst he
    refine ⟨c,rfl,ok,fun x hx=>?_,hf,hr,hn⟩;rcases h2 x hx with h|h
    · rw [ae1] at h;cases h
    exact h
  have tY:i<(aeY c0.af.ce):=by omega
  have e1:afa ((i:Int)<((aeY c0.af.ce):Int))=af5:=aG (by omega);have sc:=ba (show i<1000000000 by omega);have cg:=au c0.af.ce i tY;have dr:=uH tY;have qy:(aI.mk (c.ci.1,c.ci.2) (Field.mk c.ii.am) (bm.mk c.af.aM c.af.ce) (aF.mk (aS.mk c.ae.ai.aD c.ae.ai.be c.ae.ai.bi) c.ae.bv c.ae.aq) c.io)=c:=rfl
  by_cases qI:(c0.af.ce[i]!).2∈es
  · have s1:bC (kP c0 f es i c)=aeZ (.next (kP c0 f es (i+1) c)):=by
     unfold bC kP;simp only [e1,lw,cg,aj,iP _ _ uK.len,aG qI,aah,pp,sc]
    rw [aV s1];refine ih (i+1) c (by omega) (by omega) ok (fun x hx=>h1 x (by rw [dr];exact aal _ hx)) (fun x hx=>?_) (.inr hr) hf hn hr;rcases h2 x hx with h|h
    · rw [dr] at h
      rcases ae7.1 h with rfl|h
      · exact .inr qI
      exact .inl h
    exact .inr h
  have hm:=h1 (c0.af.ce[i]!) (by rw [dr];exact aeh)
  obtain ⟨m,N4,LQ⟩:=aQ.1 hm;obtain ⟨c',r1,r2,r3,r4,r5,r6⟩:=Tk ok N4;have ru:=Lq ok N4 r1;have rt:=wm ok N4 r1;rw [LQ] at rt;have s1:bC (kP c0 f es i c)=aeZ (.next (kP c0 f es (i+1) c')):=by unfold bC kP;simp only [e1,lw,cg,aj,iP _ _ uK.len,aE qI,aax,sc,qy,rt]
  rw [aV s1];have cl:c'.af.ce=c.af.ce.eraseIdx m:=by rw [r6];rfl
  have T0:rQ c' 100 k:=⟨by rw [cl,List.length_eraseIdx_of_lt N4];have:=hr.l;omega,by rw [r6];exact hr.n,by rw [ru];exact hr.u⟩;refine ih (i+1) c' (by omega) (by omega) r3 (fun x hx=>?_) (fun x hx=>?_) (.inr T0) (r4.trans hf) (r5.trans hn) T0
  · rw [cl]
    refine Hl (h1 x (by rw [dr];exact aal _ hx)) ?_;rw [LQ];exact vS ok0 hx tY
  rw [cl] at hx
  obtain ⟨a1,a2⟩:=qx ok.pY N4 hx;rw [LQ] at a2;rcases h2 x a1 with h|h
  · rw [dr] at h
    rcases ae7.1 h with rfl|h
    · exact absurd rfl a2
    exact .inl h
  exact .inr h
theorem I5 {f:List Pt} {es:List (Int×Int)} (uK:o3 f es) (hes:(aeY es)<=90):
 ∀(d i:Nat) (c:aI) (k:Nat),aeY es-i<=d->i<=aeY es->bg c->c.ii.am=f->rQ c (100+i) k->k+(aeY es-i)<=999999->
  ∃r:aI,ar cp (eP es i c)=aeZ (.done (r,0))/\ ∃k',k'<=k+(aeY es-i)/\rQ r 190 k':=by
 have el:=uK.len;intro d
 induction d with
 |zero=>
  intro i c k hd hi ok hf hr hk;have:i=(aeY es):=by omega
  subst this;refine ⟨c,aC ?_,k,by omega,⟨by have:=hr.l;omega,hr.n,hr.u⟩⟩;unfold cp eP;simp only [aE (show¬((aeY es):Int)<((aeY es):Int) by omega),pp]
 |succ d ih=>
  intro i c k hd hi ok hf hr hk
  by_cases he:i=aeY es
  · exact ih i c k (by omega) hi ok hf hr hk
  have bd:=ok.bd;have tY:i<(aeY es):=by omega
  have e1:afa ((i:Int)<((aeY es):Int))=af5:=aG (by omega);have sc:=ba (show i<1000000000 by omega);have cg:=au es i tY;have qy:(aI.mk (c.ci.1,c.ci.2) (Field.mk c.ii.am) (bm.mk c.af.aM c.af.ce) (aF.mk (aS.mk c.ae.ai.aD c.ae.ai.be c.ae.ai.bi) c.ae.bv c.ae.aq) c.io)=c:=rfl;have hc:=Fz c.af.ce es[i]! (by omega)
  by_cases qI:wG c.af.ce es[i]!
  · have s1:cp (eP es i c)=aeZ (.next (eP es (i+1) c)):=by
     unfold cp eP;simp only [e1,lw,cg,aj,uF,hc,aG qI,sc]
    rw [aV s1];obtain ⟨r,q1,k',q2,q3⟩:=ih (i+1) c k (by omega) (by omega) ok hf ⟨by have:=hr.l;omega,hr.n,hr.u⟩ (by omega);exact ⟨r,q1,k',by omega,q3⟩
  have hb:jZ c.ii.am es[i]!:=by rw [hf];exact uK.kn _ (aX tY)
  rcases OD ok (uK.cv _ (aX tY)) hb qI with ⟨_,_,full⟩|⟨c',r1,_,r3,r4,r5,r6,r7⟩
  · exact absurd full (hr.FC ok (by omega) (by omega))
  have s1:cp (eP es i c)=aeZ (.next (eP es (i+1) c')):=by
   unfold cp eP;simp only [e1,lw,cg,aj,uF,hc,aE qI,pp,qy,r1,show ((0:Int) !=0)=af6 from rfl,sc]
  rw [aV s1];obtain ⟨r,q1,k',q2,q3⟩:=ih (i+1) c' (k+1) (by omega) (by omega) r3 (by rw [r4,hf]) ((hr.more r6 r7)) (by omega);exact ⟨r,q1,k',by omega,q3⟩
theorem Nh {c:aI} (ok:bg c) {es:List (Int×Int)} (uK:o3 c.ii.am es) (hes:(aeY es)<=90) {k:Nat} (hr:rQ c 100 k) (hk:k+aeY es<=999999):
 ∃r:aI,iF c c.ii es=aeZ (r,0)/\ ∃k',k'<=k+aeY es/\rQ r 190 k':=by
 have bd:=ok.bd;have f1:=ok.j0.1;obtain ⟨c',g1,g2,g3,g4,g5,_⟩:=OL (f:=c.ii.am) ok uK (k:=k) (aeY c.af.ce) 0 c (by omega) (by omega) ok (fun x hx=>by rwa [aeq] at hx) (fun x hx=> .inl (by rwa [aeq])) (.inr hr) rfl rfl hr;obtain ⟨r,q1,k',q2,q3⟩:=I5 (f:=c.ii.am) uK hes (aeY es) 0 c' k (by omega) (by omega) g2 (by rw [g4]) g5 (by omega);refine ⟨r,?_,k',by omega,q3⟩;refine (show iF c c.ii es=_ from g1).trans (aC ?_);unfold bC kP;simp only [aE (show¬((aeY c.af.ce):Int)<((aeY c.af.ce):Int) by omega),pp,g4,qz c.ii.am c.ii.am (by omega),aj,aah,decide_true];have q1:=q1;unfold eP at q1;rw [g4] at q1;exact q1
theorem YX {a b:Int×Int}: ¬vK a b<0↔b.1*a.2<=a.1*b.2:=by rw [IK];omega
theorem YY {a b:Int×Int}:vK a b<=0↔a.1*b.2<=b.1*a.2:=by unfold vK;rcases eW (a.1*b.2) (b.1*a.2) with ⟨x,y⟩|⟨x,y⟩|⟨x,y⟩<;>omega
theorem Due.more {c:aI} (ok:bg c) {s t:Int×Int} (rs:bS s) (rt:bS t) (st: ¬vK t s<0) (h:Due c s):Due c t:=by refine ⟨h.1,?_⟩;have e0:=(ok.nR.ev 0 h.1).1.1;have h2:=h.2;rw [YY] at*;rw [YX] at st;exact Fg e0 rs.1 rt.1 h2 st
section
variable {s t : Int × Int}
end
noncomputable def pos (l:List Int) (x:Int):Nat:=if h: ∃k,k<aeY l/\l[k]! =x then h.choose else 0
section
variable (f : List Pt)
end
section
variable {f : List Pt}
end
section
variable {f : List Pt}
end
section
variable {f : List Pt} (bY : bn f) (h8 : (aeY f) <= 8) (r : Nat)
include bY h8
end
theorem Ni {f:List Pt} (bY:bn f) {t:Int×Int} (rt:bS t) (rq:nQ t) {p:List Int} (pl:nL f p):
 ∃r:aI,fw (vX ⟨f⟩ t) ⟨f⟩ p=aeZ (⟨r,⟨p,bz f t p⟩⟩,0)/\bg r/\r.ii=⟨f⟩/\r.ci=t/\(r.af.ce.map fun x=>x.2).Perm (eZ p (bz f t p))/\rQ r 100 63:=by
 have ok:=Hu (f:=⟨f⟩) bY rt rq;obtain ⟨c,hc⟩: ∃c,c=vX ⟨f⟩ t:=⟨_,rfl⟩;have cf:c.ii=⟨f⟩:=by rw [hc];rfl
 have cn:c.ci=t:=by rw [hc];rfl
 have hr:rQ c 100 0:=by obtain ⟨a,b,d⟩:=I3 ⟨f⟩ t;rw [hc];exact ⟨by omega,b,d⟩
 rw [<- hc] at ok ⊢;have alz:bn c.ii.am:=by rw [cf];exact bY
 obtain ⟨uK,nd,el⟩:=jw bY rq (t:=t) pl;have ahC:o3 c.ii.am (eZ p (bz f t p)):=by rw [cf];exact uK
 obtain ⟨r,q1,k',q2,q3⟩:=Nh ok ahC (by omega) hr (by omega);obtain ⟨S,s1,s2,s3⟩:=OE ok alz ahC;have es:S=(r,0):=aeD (s1.symm.trans q1);rw [es] at s2 s3;rcases s3 with ⟨_,q⟩|q
 case inr=>cases q
 have q:C3 c c.ii.am (eZ p (bz f t p)) r:=q;have rf:r.ii=⟨f⟩:=by have:=q.j0;rw [cf] at this;cases h1:r.ii;rw [h1] at this;exact congrArg Field.mk this
 have ct':(r.af.ce.map fun x=>x.2).Perm (eZ p (bz f t p)):=
  xV (sK q.ok.wM) nd (fun z hz=>by obtain ⟨y,hy,rfl⟩:=aeg.1 hz;exact q.sub y hy) (fun z hz=>xQ.1 (q.has z hz))
 have B:=dE (f:=f) (t:=t) pl.one;refine ⟨r,?_,q.ok,rf,q.ci.trans cn,ct',?_,by have:=q3.n;omega,fun j hj=>by have:=q3.u j hj;omega⟩
 · unfold fw
   rw [cn,tG bY rq pl,aj,xX B.1 pl.eA,aj];have s2:kq c ⟨f⟩ (eZ p (bz f t p))=aeZ (r,0):=by rw [<- cf];exact s2
   rw [s2,aj,cS rfl,pp]
 have:=ct'.length_eq
 rw [aav] at this;omega
def Hy (f:List Pt):Prop:= ∀p∈f,p.2.2=0
theorem Nj {f:List Pt} (bY:bn f) (st:Hy f) {t:Int×Int} (rq:nQ t) {p:List Int} (pl:nL f p) {e:Int×Int} (he:e∈eZ p (bz f t p)):(bw f e t).2=af6:=by obtain ⟨uK,_,_⟩:=jw bY rq (t:=t) pl;have hb:=uK.kn e he;have a:=st _ (vT bY.2.2 hb.1).1;have b:=st _ (vT bY.2.2 hb.2).1;unfold bw xH;rw [ut (xT (Ll bY pl he)),ut (by omega)]
theorem Nk {c:aI} (ok:bg c) {f:List Pt} (bY:bn f) (kn: ∀i,i<aeY c.af.ce->jZ f (c.af.ce[i]!).2)
 (w0: ∀i,i<aeY c.af.ce->(bw c.ii.am (c.af.ce[i]!).2 c.ci).2=af6) (w1: ∀i,i<aeY c.af.ce->(bw f (c.af.ce[i]!).2 c.ci).2=af6):
 jC c ⟨f⟩=aeZ (⟨c.ci,⟨f⟩,c.af,c.ae,[]⟩,0):=by
 have bd:=ok.bd;have f64:=bY.1;have hc:fI c=aeZ 0:=by rw [ju ok.fit,rc ok]
 have hf:cT ⟨f⟩=aeZ 0:=by rw [dU];exact congrArg aeZ (fh.2 bY)
 have tw:=fW ok;have tw':jI (aI.mk (c.ci.1,c.ci.2) (Field.mk c.ii.am) (bm.mk c.af.aM c.af.ce) (aF.mk (aS.mk c.ae.ai.aD c.ae.ai.be c.ae.ai.bi) c.ae.bv c.ae.aq) c.io)=aeZ c:=tw;have first:ar dQ (c.af.ce,((aeY c.af.ce):Int),0,c.ci.1,c.ci.2,c.ii.am,c.af.aM,c.af.ce,c.ae.ai.aD,c.ae.ai.be,c.ae.ai.bi,c.ae.bv,c.ae.aq,c.io,f,0,0,0)=
  ar dQ (c.af.ce,((aeY c.af.ce):Int),((aeY c.af.ce):Int),c.ci.1,c.ci.2,c.ii.am,c.af.aM,c.af.ce,c.ae.ai.aD,c.ae.ai.be,c.ae.ai.bi,c.ae.bv,c.ae.aq,c.io,f,0,0,0):=by
  refine cB (body:=dQ) (fun i=>(c.af.ce,((aeY c.af.ce):Int),(i:Int),c.ci.1,c.ci.2,c.ii.am,c.af.aM,c.af.ce,c.ae.ai.aD,c.ae.ai.be,c.ae.ai.bi,c.ae.bv,c.ae.aq,c.io,f,0,0,0)) (aeY c.af.ce) (fun i hi=>?_);have e1:afa ((i:Int)<((aeY c.af.ce):Int))=af5:=aG (by omega);unfold dQ;simp only [e1,lw,au c.af.ce i hi,aj,jt bY,aE (Cp bY (kn i hi).1),aE (Cp bY (kn i hi).2),pp,ba (show i<1000000000 by omega)]
 have st:=cB (body:=bV) (fun i=>KZ c f i c.ae []) (aeY c.af.ce) (fun i hi=>by
  have no: ∀j,j<aeY c.io->(c.io[j]!).1≠(c.af.ce[i]!).1:=by intro j hj he;obtain ⟨x,hx,h1,h2,_⟩:=ok.Df.io _ (aX hj);have:=ok.pY.inj hx (aX hi) (by rw [<- h1,he]);rw [this,w0 i hi] at h2;cases h2
  obtain ⟨m,pl⟩:=(yI ok.z7 (by omega) (c.af.ce[i]!).1).2 no;have wn:=oY bY (x:=(c.af.ce[i]!).2) (t:=(c.ci.1,c.ci.2)) (ok.wM.cv i hi) ok.qw ok.gO;rw [rc (kn i hi)] at wn;unfold bV KZ;simp only [aG (show (i:Int)<((aeY c.af.ce):Int) by omega),lw,au c.af.ce i hi,aj,wn,pl,w1 i hi,show ((0:Int) !=0)=af6 from rfl,pp,ba (show i<1000000000 by omega)])
 have run:ar bV (KZ c f 0 c.ae [])=aeZ (.done (⟨c.ci,⟨f⟩,c.af,c.ae,[]⟩,0)):=by refine (show _=_ from st).trans (aC ?_);unfold bV KZ;simp only [aE (show¬((aeY c.af.ce):Int)<((aeY c.af.ce):Int) by omega),pp]
 unfold jC;simp only [hc,aj,show ((0:Int) !=0)=af6 from rfl,pp,hf,aA];rw [first];refine aC ?_;unfold dQ;have e1:afa (((aeY c.af.ce):Int)<((aeY c.af.ce):Int))=af6:=aE (by omega);simp only [aA,e1,pp,tw',aj,aW (show (aeY f)<=1048576 by omega)];exact run
theorem Nl {c:aI} (ok:bg c) {f:List Pt} (bY:bn f) {es:List (Int×Int)} (uK:o3 f es) (hes:(aeY es)<=90) {k:Nat} (hr:rQ c 100 k) (hk:k+aeY es<=999999)
 (ag: ∀x,fJ c.ii.am x->fJ f x->iA f x=iA c.ii.am x) (w1: ∀e∈es,(bw f e c.ci).2=af6):
 ∃r:aI,iF c ⟨f⟩ es=aeZ (r,0)/\ ∃k',k'<=k+aeY es/\rQ r 190 k':=by
 have f1:=bY.1;obtain ⟨c',g1,g2,g3,g4,g5,g6⟩:=OL (f:=f) ok uK (k:=k) (aeY c.af.ce) 0 c (by omega) (by omega) ok (fun x hx=>by rwa [aeq] at hx) (fun x hx=> .inl (by rwa [aeq])) (.inr hr) rfl rfl hr;have bd:=g2.bd;have qy:(aI.mk (c'.ci.1,c'.ci.2) (Field.mk c'.ii.am) (bm.mk c'.af.aM c'.af.ce) (aF.mk (aS.mk c'.ae.ai.aD c'.ae.ai.be c'.ae.ai.bi) c'.ae.bv c'.ae.aq) c'.io)=c':=rfl;have start:iF c ⟨f⟩ es=ar bC (kP c f es (aeY c.af.ce) c'):=g1
 by_cases hf:c'.ii.am=f
 · obtain ⟨r,q1,k',q2,q3⟩:=I5 (f:=f) uK hes (aeY es) 0 c' k (by omega) (by omega) g2 hf g5 (by omega)
   refine ⟨r,?_,k',by omega,q3⟩;refine start.trans (aC ?_);unfold bC kP;simp only [aE (show¬((aeY c.af.ce):Int)<((aeY c.af.ce):Int) by omega),pp,qz c'.ii.am f (by have:=g2.j0.1;omega),aj,aG hf,aah];exact q1
 have kn: ∀i,i<aeY c'.af.ce->jZ f (c'.af.ce[i]!).2:=fun i hi=>uK.kn _ (g3 _ (aX hi))
 have b1: ∀i,i<aeY c'.af.ce->(bw f (c'.af.ce[i]!).2 c'.ci).2=af6:=fun i hi=>by rw [g6];exact w1 _ (g3 _ (aX hi))
 have b0: ∀i,i<aeY c'.af.ce->(bw c'.ii.am (c'.af.ce[i]!).2 c'.ci).2=af6:=fun i hi=>by have h1:=kn i hi;have h2:=g2.known i hi;rw [g4] at h2;rw [<- b1 i hi];unfold bw;rw [g4,ag _ h2.1 h1.1,ag _ h2.2 h1.2]
 have al:=Nk g2 bY kn b0 b1;rcases ZV g2 bY kn with ⟨a1,_⟩|⟨c2,a1,_,a3,a4,_,_⟩
 · rw [al] at a1
   injection a1 with a1;injection a1 with _ a1;exact absurd a1 (by decide)
 rw [al] at a1;injection a1 with a1;injection a1 with a1 _;have Lx:rQ c2 100 k:=by rw [<- a1];exact ⟨g5.l,g5.n,g5.u⟩
 obtain ⟨r,q1,k',q2,q3⟩:=I5 (f:=f) uK hes (aeY es) 0 c2 k (by omega) (by omega) a3 a4 Lx (by omega);refine ⟨r,?_,k',by omega,q3⟩;refine start.trans (aC ?_);unfold bC kP;simp only [aE (show¬((aeY c.af.ce):Int)<((aeY c.af.ce):Int) by omega),pp,qz c'.ii.am f (by have:=g2.j0.1;omega),aj,aE hf,aax,lw,qy,al,show ((0:Int) !=0)=af6 from rfl,a1];exact q1
theorem Hz {c:aI} (ok:bg c) {f:List Pt} (bY:bn f) (st:Hy f) {p:List Int} (pl:nL f p) (pw:Dj (aeY p)) (pm:(iT f).Perm (cX p)) (ag: ∀x,fJ c.ii.am x->fJ f x->iA f x=iA c.ii.am x) {k:Nat} (hr:rQ c 100 k) (hk:k+63<=999999):
 ∃R:bq×Int,bZ c ⟨f⟩ p=aeZ R/\R.2=0/\TG R.1 f p c.ci/\rQ R.1.jp 100 (k+63):=by
 obtain ⟨uK,nd,el⟩:=jw bY ok.gO (t:=c.ci) pl;obtain ⟨r,q1,k',q2,q3⟩:=Nl ok bY uK (by omega) hr (by omega) ag (fun e he=>Nj bY st ok.gO pl he);have ee:jO f (eZ p (bz f c.ci p))=0:=by unfold jO;rw [ut (If.2 uK.cv),ut (If.2 nd),ut (fun h=>h uK.kn)]
 have rn:=xS ok bY (es:=eZ p (bz f c.ci p)) (by omega) (fun _=>q1);rw [rc ee] at rn;have h1:=oH bY ok.qw ok.gO pl.one pl.eA pl.ids pl.once;have e1:=xZ (dE (f:=f) (t:=c.ci) pl.one) pl.eA pl.once;have go:bZ c ⟨f⟩ p=aeZ (⟨r,⟨p,bz f c.ci p⟩⟩,0):=by unfold bZ;simp only [h1,aj,e1,rn,show ((0:Int) !=0)=af6 from rfl,pp]
 obtain ⟨R,r1,r2⟩:=TH ok bY pl pw pm;have e:R=(⟨r,⟨p,bz f c.ci p⟩⟩,0):=aeD (r1.symm.trans go);rcases r2 with h|⟨r0,tn⟩
 · rw [h] at e;injection e with _ e;cases e
 refine ⟨R,r1,r0,tn,?_⟩;have ln:=tn.ok.cert.length_eq;rw [aav] at ln;have bl:=Ad R.1.kw.aL R.1.kw.kU;have b2:=tn.ok.br.len;have b3:=tn.ok.br.eA;rw [e] at ln bl b2 b3 ⊢;exact ⟨by omega,by have:=q3.n;show r.af.aM<=_;omega,fun j hj=>by have:=q3.u j hj;show r.ae.ai.aD[j]!<=_;omega⟩
theorem Gq {f:List Pt} (bY:bn f) {p:Pt} (po:eO p) (hp: ¬fJ f p.1) (hl:(aeY f)<64) {e:Int} (e0:e≠0) (h:gg ⟨f⟩ p=aeZ (⟨[]⟩,e)):False:=by
 obtain ⟨m,hm,e'⟩:=FF bY hp;have hc:cT ⟨f⟩=aeZ 0:=by rw [dU];exact congrArg aeZ (fh.2 bY)
 have hf:(acl (aeY f)==64)=af6:=by simp only [aA,beq_eq_false_iff_ne];omega
 have hi:sf f (m:Int) [p]=aeZ (pI f m p):=by unfold sf;rw [rc ⟨by omega,by have:=hm.le;simpa using this,rfl,by omega⟩];simp [pI]
 unfold gg at h;rw [hc,aj,cS rfl,pp,gr,rc po,aj,cS rfl,pp,e',aj,pp,hf,pp,aW (show (aeY f)<=1048576 by omega),aj,hi,aj] at h;injection h with h;injection h with _ h;exact e0 h.symm
theorem Nn {f:List Pt} (hs:eX f) {m:Nat} (h0: ∀p∈f,0<=p.1) (h: ∀p∈f,p.1<(m:Int)):(aeY f)<=m:=by
 have key: ∀i,i<aeY f->(i:Int)<=(f[i]!).1:=by
  intro i
  induction i with
  |zero=>intro hi;exact h0 _ (aX hi)
  |succ i ih=>intro hi;have a:=ih (by omega);have b:=eh hs (show i<i+1 by omega) hi;omega
 refine aer fun hn=>?_
 have a:=key m (by omega);have b:=h _ (aX (show m<(aeY f) by omega));omega
structure QI (k:bq) (b m:Nat):Prop where
 ok:pZ k
 room:rQ k.jp 100 m
 still:Hy k.jp.ii.am
 ids: ∀p∈k.jp.ii.am,p.1<(b:Int)
 quarter:(aeY k.kw.aL)=1\/aeY k.kw.aL<4*aeY k.jp.ii.am
theorem QI.TL {k:bq} {b m:Nat} (h:QI k b m):tH k:=by have a:=h.ok.br.len;have b:=h.ok.br.eA;exact ⟨h.ok.DD.short,by omega,by omega⟩
theorem QI.nn {k:bq} {b m:Nat} (h:QI k b m): ∀p∈k.jp.ii.am,0<=p.1:=fun p hp=>by have:=h.ok.DD.j0.2.1 p hp;unfold eO at this;omega
theorem QI.few {k:bq} {b m:Nat} (h:QI k b m):(aeY k.jp.ii.am)<=b:=Nn h.ok.DD.j0.2.2 h.nn h.ids
theorem QI.put {k:bq} {b m:Nat} (h:QI k b m) (hb:b<=60) (hm:m+63<=999999) {x:Nat} (hx:x<b) (nh: ¬fJ k.jp.ii.am (x:Int)):
 ∃R:bq×Int,mL k ((x:Int),(x:Int),0)=aeZ R/\R.2=0/\QI R.1 b (m+63)/\aeY R.1.jp.ii.am=aeY k.jp.ii.am+1/\
  (aeY R.1.kw.aL)=if (aeY k.jp.ii.am)=(aeY k.kw.aL) then 2*(aeY k.kw.aL) else (aeY k.kw.aL):=by
 have bY:=h.ok.DD.j0;have few:=h.few;have po:eO ((x:Int),(x:Int),0):=by unfold eO;simp only [];omega
 have pl:=h.ok.aL;have cn:=h.ok.perm.length_eq;rw [ej] at cn;rcases TK h.ok h.TL ((x:Int),(x:Int),0) with ⟨e,e0,t,_⟩|⟨j,q,hj,_,_,_,Dm,w,YW,pw,pm,go⟩
 · exact (Gq bY po nh (by omega) e0 t).elim
 have FV:Hy (pI k.jp.ii.am j ((x:Int),(x:Int),0)):=fun p hp=>by
  rcases yJ.1 hp with rfl|hp
  · rfl
  exact h.still p hp
 have alA: ∀p∈pI k.jp.ii.am j ((x:Int),(x:Int),0),p.1<(b:Int):=fun p hp=>by
  rcases yJ.1 hp with rfl|hp
  · show (x:Int)<_;omega
  exact h.ids p hp
 obtain ⟨R,s1,r0,tn,hr⟩:=Hz h.ok.DD Dm FV YW pw pm (fun y hy hy'=>Hn bY.2.2 Dm.2.2 hy (yJ.2 (.inr (vT bY.2.2 hy).1))) h.room hm;have fl:(aeY R.1.jp.ii.am)=aeY k.jp.ii.am+1:=by rw [tn.j0,FE hj.le]
 have il:=ad8 (fun y:Int=>decide (0<=y)) k.kw.aL;have pll:(aeY R.1.kw.aL)=if (aeY k.jp.ii.am)=(aeY k.kw.aL) then 2*(aeY k.kw.aL) else (aeY k.kw.aL):=by
  rw [tn.pls];rcases Lo pl.one w with ⟨a,i,hi,ei⟩|⟨a,all⟩
  · have:=TM hi ei
    rw [ut (by omega)];exact a
  have:cX k.kw.aL=k.kw.aL:=Bn fun y hy=>by
   obtain ⟨i,hi,rfl⟩:=aQ.1 hy;have a:=all i hi;have b:=(pl.S6 bY _ hy).1;omega
  rw [this] at cn;rw [rc cn];exact a
 refine ⟨R,go R s1,r0,⟨tn.ok,hr,by rw [tn.j0];exact FV,by rw [tn.j0];exact alA,?_⟩,fl,pll⟩;rw [pll,fl];have:=h.quarter;have one:=pl.one;split<;>omega
theorem QI.take {k:bq} {b m:Nat} (h:QI k b m) (hm:m+63<=999999) {x:Int} (hp:fJ k.jp.ii.am x):
 ∃R:bq×Int,kZ k x=aeZ R/\R.2=0/\QI R.1 b (m+63)/\aeY R.1.jp.ii.am+1=aeY k.jp.ii.am/\
  (aeY R.1.kw.aL)=if 1<aeY k.kw.aL/\4*(aeY k.jp.ii.am-1)<=(aeY k.kw.aL) then (aeY k.kw.aL) / 2 else (aeY k.kw.aL):=by
 have bY:=h.ok.DD.j0;have pl:=h.ok.aL;rcases Qi h.ok h.TL x with ⟨a,_⟩|⟨q,j,hq,hqe,hj,hje,h0,_,Dm,YW,pw,pm,T4,go⟩
 · exact absurd hp a
 have sub: ∀p∈k.jp.ii.am.eraseIdx q,p∈k.jp.ii.am:=fun p hp=>((Cs bY.2.2 hq).1 hp).1
 have FV:Hy (k.jp.ii.am.eraseIdx q):=fun p hp=>h.still p (sub p hp)
 obtain ⟨R,s1,r0,tn,hr⟩:=Hz h.ok.DD Dm FV YW pw pm (fun y hy hy'=>(Hn Dm.2.2 bY.2.2 hy' (sub _ (vT Dm.2.2 hy').1)).symm) h.room hm;have fl:(aeY R.1.jp.ii.am)+1=(aeY k.jp.ii.am):=by rw [tn.j0];have:=yH hq;omega
 have pll:(aeY R.1.kw.aL)=if 1<aeY k.kw.aL/\4*(aeY k.jp.ii.am-1)<=(aeY k.kw.aL) then (aeY k.kw.aL) / 2 else (aeY k.kw.aL):=by rw [tn.pls,Lp,T4]
 refine ⟨R,go R s1,r0,⟨tn.ok,hr,by rw [tn.j0];exact FV,by rw [tn.j0];exact fun p hp=>h.ids p (sub p hp),?_⟩,fl,pll⟩;have qq:=h.quarter;rw [pll];obtain ⟨i,hi,pw⟩:=h.ok.pow
 by_cases a:1<aeY k.kw.aL/\4*(aeY k.jp.ii.am-1)<=aeY k.kw.aL
 · rw [rc a]
   rcases i with _|_|i
   · omega
   · exact .inl (by rw [pw])
   right
   have:2^(i+1+1)=4*2^i:=by rw [acZ,acZ];omega
   omega
 rw [ut a]
 by_cases e1:(aeY k.kw.aL)=1
 · exact .inl e1
 right;omega
theorem Gr (b:Nat): ∃K:bq,jL ⟨[]⟩ (0,1)=aeZ (K,0)/\QI K b 63/\aeY K.kw.aL=1/\aeY K.jp.ii.am=0:=by
 have rq:nQ ((0:Int),(1:Int)):=by unfold nQ;decide
 have rt:bS ((0:Int),(1:Int)):=by unfold bS;decide
 have bY:bn []:=⟨by decide,(fun _ h=>absurd h List.not_mem_nil),(fun i h=>absurd h (UV _))⟩;have pl:=Bp bY;have fl:(dt []).length=1:=by
  rw [rG (by decide)];obtain ⟨_,_,g⟩:=Bo (n:=([]:List Pt).length) (by decide);cases hh:lg ([]:List Pt).length with
  |zero=>rfl
  |succ n=>exact absurd (g 0 (by omega)) (by decide)
 obtain ⟨c,s1,s2,s3,s4,s5,s6⟩:=Ni bY rt rq pl;obtain ⟨R,r1,r2,_⟩:=Cx ⟨[]⟩ rq;have br:=FU (t:=((0:Int),(1:Int))) bY pl;have rb:mM ⟨[]⟩ (0,1)=aeZ (⟨c,⟨dt [],bz [] (0,1) (dt [])⟩⟩,0):=by unfold mM;rw [nJ,show ic (⟨[]⟩:Field).am=0 from fh.2 bY,aj,cS rfl,pp,ri rq,rc rt,aj,cS rfl,pp,FP (by show (0:Nat)<=64;omega),aj,x4 (by show (0:Nat)<=64;omega),aj,s1,aj]
 have e:=aeD (r2.symm.trans rb);obtain ⟨k,hk⟩: ∃k:bq,k=⟨c,⟨dt [],bz [] (0,1) (dt [])⟩⟩:=⟨_,rfl⟩;rw [<- hk] at e;have tok:pZ k:=by rw [hk];exact ⟨s2,br,⟨0,by omega,fl⟩,by show (iT c.ii.am).Perm _;rw [s3];rw [Qe bY],by show bz _ _ _=bz c.ii.am c.ci _;rw [s3,s4],s5⟩
 refine ⟨k,by rw [r1,e],⟨tok,by rw [hk];exact s6,?_,?_,.inl (by rw [hk];exact fl)⟩,by rw [hk];exact fl,by rw [hk];show (aeY c.ii.am)=0;rw [s3];exact rfl⟩
 · rw [hk];show Hy c.ii.am;rw [s3];exact fun _ h=>by cases h
 rw [hk];show∀p∈c.ii.am,_;rw [s3];exact fun _ h=>by cases h
def sL (put:Bool) (q:Nat×Nat×Nat):Nat×Nat×Nat:=
 if put=af5 then (if q.2.1<64 then (if q.2.1=q.1 then (2*q.1,q.2.1+1,q.2.2+q.2.1) else (q.1,q.2.1+1,q.2.2)) else q)
 else (if 0<q.2.1 then (if 1<q.1/\4*(q.2.1-1)<=q.1 then (q.1 / 2,q.2.1-1,q.2.2+(q.2.1-1)) else (q.1,q.2.1-1,q.2.2)) else q)
def my (l:List Bool):Nat->Nat×Nat×Nat
 |0=>(1,0,0)
 |i+1=>sL l[i]! (my l i)
def Cy (l:List Bool):Nat->List Int
 |0=>[]
 |i+1=>Cy l i++[((my l (i+1)).1:Int)]
theorem rH (l:List Bool): ∀i,(Cy l i).length=i
 |0=>rfl
 |i+1=>by rw [Cy,AC,rH l i];rfl
structure Qj (q:Nat×Nat×Nat) (i:Nat):Prop where
 s1:1<=q.1
 s2:q.1<=128
 n1:q.2.1<=64
 n2:q.2.1<=q.1
 m1:q.2.2<=64*i
theorem Qj.step {q:Nat×Nat×Nat} {i:Nat} (h:Qj q i) (b:Bool):Qj (sL b q) (i+1):=by
 obtain ⟨s,n,m⟩:=q;obtain ⟨h1,h2,h3,h4,h5⟩:=h;dsimp only at h1 h2 h3 h4 h5;unfold sL;dsimp only;split
 · split
   · split
     · exact ⟨by dsimp only;omega,by dsimp only;omega,by dsimp only;omega,by dsimp only;omega,by dsimp only;omega⟩
     exact ⟨by dsimp only;omega,by dsimp only;omega,by dsimp only;omega,by dsimp only;omega,by dsimp only;omega⟩
   exact ⟨h1,h2,h3,h4,by dsimp only;omega⟩
 split
 · split
   · exact ⟨by dsimp only;omega,by dsimp only;omega,by dsimp only;omega,by dsimp only;omega,by dsimp only;omega⟩
   exact ⟨by dsimp only;omega,by dsimp only;omega,by dsimp only;omega,by dsimp only;omega,by dsimp only;omega⟩
 exact ⟨h1,h2,h3,h4,by dsimp only;omega⟩
theorem ahE (l:List Bool): ∀i,Qj (my l i) i
 |0=>(⟨by decide,by decide,by decide,by decide,by decide⟩:Qj (1,0,0) 0)
 |i+1=>(ahE l i).step _
def szS (l:List Bool) (i:Nat):=(((my l i).1:Int),((my l i).2.1:Int),l,((aeY l):Int),(i:Int),Cy l i)
theorem xK {s n m i:Nat} (h:Qj (s,n,m) i):aa .i64 (2*(s:Int))=((2*s:Nat):Int)/\aa .i64 ((n:Int)+1)=((n+1:Nat):Int)/\aa .i64 (Int.tdiv (s:Int) 2)=((s / 2:Nat):Int)/\
 (0<n->aa .i64 ((n:Int) -1)=((n-1:Nat):Int)/\aa .i64 (4*((n-1:Nat):Int))=((4*(n-1):Nat):Int)):=by
 obtain ⟨h1,h2,h3,h4,h5⟩:=h;dsimp only at h1 h2 h3 h4 h5;refine ⟨?_,?_,?_,fun h0=>⟨?_,?_⟩⟩
 · rw [ib ⟨by omega,by omega⟩];omega
 · rw [ib ⟨by omega,by omega⟩];omega
 · rw [aep (by omega),ib ⟨by omega,by omega⟩];omega
 · rw [ib ⟨by omega,by omega⟩];omega
 rw [ib ⟨by omega,by omega⟩];omega
theorem No (l:List Bool) (hl:(aeY l)<=1000) (i:Nat) (hi:i<aeY l):jj (szS l i)=aeZ (.next (szS l (i+1))):=by
 have hs:=ahE l i;have ol:=rH l i;have ap: ∀x:Int,bk (Cy l i) [x]=aeZ (Cy l i++[x]):=fun x=>cZ (by rw [ol,EQ];omega)
 unfold jj szS;rw [show Cy l (i+1)=Cy l i++[((my l (i+1)).1:Int)] from rfl,show my l (i+1)=sL l[i]! (my l i) from rfl];simp only [ap,aj,aG (show (i:Int)<((aeY l):Int) by omega),lw,au l i hi,ba (show i<1000000000 by omega)];generalize my l i=q at hs ⊢;obtain ⟨s,n,m⟩:=q;obtain ⟨e1,e2,e3,e4⟩:=xK hs;cases l[i]! with
 |true=>
  unfold sL;simp only [lw,if_true]
  by_cases h1:n<64
  · rw [aG (show (n:Int)<64 by omega),rc h1]
    by_cases h2:n=s
    · rw [eT (show (n:Int)=(s:Int) by omega),rc h2]
      simp only [lw,e1,e2]
    rw [eu (show¬(n:Int)=(s:Int) by omega),ut h2]
    simp only [lw,pp,e2]
  rw [aE (show¬(n:Int)<64 by omega),ut h1]
  rfl
 |false=>
  unfold sL;simp only [pp,aax,lw,Bool.false_eq_true,if_false]
  by_cases h1:0<n
  · obtain ⟨e5,e6⟩:=e4 h1
    rw [aG (show (0:Int)<(n:Int) by omega),rc h1]
    by_cases h2:1<s
    · rw [aG (show (1:Int)<(s:Int) by omega)]
      by_cases h3:4*(n-1)<=s
      · rw [rc ⟨h2,h3⟩]
        simp only [e5,e6,e3,aG (show ((4*(n-1):Nat):Int)<=(s:Int) by omega),lw]
      rw [ut (fun h=>h3 h.2)]
      simp only [e5,e6,aE (show¬((4*(n-1):Nat):Int)<=(s:Int) by omega),lw,pp]
    rw [aE (show¬(1:Int)<(s:Int) by omega),ut (fun h=>h2 h.1)]
    simp only [e5,lw,pp]
  rw [aE (show¬(0:Int)<(n:Int) by omega),ut h1]
  rfl
theorem TN (l:List Bool) (hl:(aeY l)<=1000):lR l=aeZ (Cy l (aeY l),0):=by unfold lR;simp only [aA,aE (show¬(1000:Int)<((aeY l):Int) by omega),pp];have:=cB (body:=jj) (szS l) (aeY l) (No l hl);rw [show ((1:Int),(0:Int),l,((aeY l):Int),(0:Int),([]:List Int))=szS l 0 from rfl,this];refine aC ?_;unfold jj szS;simp only [aE (show¬((aeY l):Int)<((aeY l):Int) by omega),pp]
theorem QI.mono {k:bq} {b c m:Nat} (h:QI k b m) (hb:b<=c):QI k c m:=⟨h.ok,h.room,h.still,fun p hp=>by have:=h.ids p hp;omega,h.quarter⟩
structure SI (l:List Bool) (i:Nat) (k:bq) (m:Nat):Prop where
 q:QI k i m
 s:(aeY k.kw.aL)=(my l i).1
 n:(aeY k.jp.ii.am)=(my l i).2.1
theorem Lr (l:List Bool): ∀(n i:Nat),i<n->(Cy l n)[i]! =((my l (i+1)).1:Int)
 |n+1,i,h=>by
  rw [Cy]
  by_cases e:i=n
  · subst e
    rw [cV (by rw [rH];exact NE _),rH,ae8];rfl
  rw [bN (by rw [rH];omega)]
  exact Lr l n i (by omega)
theorem SI.put {l:List Bool} {i:Nat} {k:bq} {m:Nat} (h:SI l i k m) (hi:i<30) (hm:m+63<=999999) (b:l[i]! =af5):
 ∃R:bq×Int,mL k ((i:Int),(i:Int),0)=aeZ R/\R.2=0/\SI l (i+1) R.1 (m+63):=by
 have few:=h.q.few;have nh: ¬fJ k.jp.ii.am (i:Int):=fun ⟨j,hj,e⟩=>by have:=h.q.ids _ (aX hj);omega
 obtain ⟨R,t,r0,q,fl,pl⟩:=(h.q.mono (show i<=i+1 by omega)).put (by omega) hm (x:=i) (by omega) nh;refine ⟨R,t,r0,q,?_,?_⟩
 · rw [pl,h.n,h.s,show my l (i+1)=sL l[i]! (my l i) from rfl,b]
   have hn:=h.n;unfold sL;rw [rc rfl,rc (show (my l i).2.1<64 by omega)];split<;>rfl
 rw [fl,h.n,show my l (i+1)=sL l[i]! (my l i) from rfl,b]
 have hn:=h.n;unfold sL;rw [rc rfl,rc (show (my l i).2.1<64 by omega)];split<;>rfl
theorem I6 (q:Nat×Nat×Nat):sL af6 q=if 0<q.2.1 then (if 1<q.1/\4*(q.2.1-1)<=q.1 then (q.1 / 2,q.2.1-1,q.2.2+(q.2.1-1)) else (q.1,q.2.1-1,q.2.2)) else q:=rfl
theorem SI.take {l:List Bool} {i:Nat} {k:bq} {m:Nat} (h:SI l i k m) (hm:m+63<=999999) (b:l[i]! =af6) (h0:0<aeY k.jp.ii.am) {x:Int} (hp:fJ k.jp.ii.am x):
 ∃R:bq×Int,kZ k x=aeZ R/\R.2=0/\SI l (i+1) R.1 (m+63):=by
 obtain ⟨R,t,r0,q,fl,pl⟩:=h.q.take hm hp;have hn:=h.n;refine ⟨R,t,r0,q.mono (by omega),?_,?_⟩
 · rw [pl,h.n,h.s,show my l (i+1)=sL l[i]! (my l i) from rfl,b]
   rw [I6,rc (show 0<(my l i).2.1 by omega)];split<;>rfl
 rw [show my l (i+1)=sL l[i]! (my l i) from rfl,b]
 rw [I6,rc (show 0<(my l i).2.1 by omega)];split
 · show _=(my l i).2.1-1;omega
 show _=(my l i).2.1-1;omega
theorem SI.none {l:List Bool} {i:Nat} {k:bq} {m:Nat} (h:SI l i k m) (b:l[i]! =af6) (h0:(aeY k.jp.ii.am)=0):SI l (i+1) k m:=by
 have hn:=h.n;have e:my l (i+1)=my l i:=by rw [show my l (i+1)=sL l[i]! (my l i) from rfl,b];rw [I6,ut (by omega)]
 exact ⟨h.q.mono (by omega),by rw [e];exact h.s,by rw [e];exact h.n⟩
def sS (l:List Bool) (i:Int) (k:bq):=
 (l,af5,Cy l (aeY l),i,k.jp.ci.1,k.jp.ci.2,k.jp.ii.am,k.jp.af.aM,k.jp.af.ce,k.jp.ae.ai.aD,k.jp.ae.ai.be,k.jp.ae.ai.bi,k.jp.ae.bv,k.jp.ae.aq,k.jp.io,k.kw.aL,k.kw.kU)
theorem I7 {l:List Bool} {i:Nat} (hi:i<aeY l) {k:bq} {m:Nat} (h:SI l i k m) (hm:m+63<=999999) (hl:(aeY l)<=30):
 ∃k',dG (sS l i k)=aeZ (.next (sS l ((i+1:Nat):Int) k'))/\SI l (i+1) k' (m+63):=by
 have ahF:(bq.mk (aI.mk (k.jp.ci.1,k.jp.ci.2) (Field.mk k.jp.ii.am) (bm.mk k.jp.af.aM k.jp.af.ce) (aF.mk (aS.mk k.jp.ae.ai.aD k.jp.ae.ai.be k.jp.ae.ai.bi) k.jp.ae.bv k.jp.ae.aq) k.jp.io) (bE.mk k.kw.aL k.kw.kU))=k:=rfl;have sc:=ba (show i<1000000000 by omega);have go:aH (Cy l (aeY l)) (i:Int)=aeZ ((my l (i+1)).1:Int):=by rw [au _ i (by rw [rH];exact hi),Lr l (aeY l) i hi]
 have gl:=au l i hi;have lt:=aG (show (i:Int)<((aeY l):Int) by omega);cases b:l[i]! with
 |true=>obtain ⟨R,t,r0,q⟩:=h.put (by omega) hm b;refine ⟨R.1,?_,q⟩;unfold dG sS;simp only [aA,lt,lw,gl,aj,b,ahF,t,r0,show ((0:Int) !=0)=af6 from rfl,pp,go,q.s,bne_self_eq_false,sc]
 |false=>
  by_cases h0:(aeY k.jp.ii.am)=0
  · refine ⟨k,?_,h.none b h0|>fun q=>⟨⟨q.q.ok,⟨q.q.room.l,by have:=q.q.room.n;omega,fun j hj=>by have:=q.q.room.u j hj;omega⟩,q.q.still,q.q.ids,q.q.quarter⟩,q.s,q.n⟩⟩
    have q:=h.none b h0;unfold dG sS;simp only [aA,lt,lw,gl,aj,b,pp,aE (show¬(0:Int)<((aeY k.jp.ii.am):Int) by omega),go,q.s,bne_self_eq_false,sc]
  have few:=h.q.few
  have w1:aa .i64 ((i:Int)*(i:Int))=((i*i:Nat):Int):=by have:i*i<=30*30:=Nat.mul_le_mul (by omega) (by omega);rw [ib ⟨by rw [<- aeE];omega,by rw [<- aeE];omega⟩];rw [aeE]
  have md:Int.tmod ((i*i:Nat):Int) ((aeY k.jp.ii.am):Int)=((i*i%(aeY k.jp.ii.am):Nat):Int):=by rw [Int.tmod_eq_emod_of_nonneg (by omega)];rfl
  have ml:=Nat.mod_lt (i*i) (show 0<(aeY k.jp.ii.am) by omega);obtain ⟨R,t,r0,q⟩:=h.take hm b (by omega) (x:=(k.jp.ii.am[i*i%(aeY k.jp.ii.am)]!).1) ⟨_,ml,rfl⟩;refine ⟨R.1,?_,q⟩;unfold dG sS;simp only [aA,lt,lw,gl,aj,b,pp,aG (show (0:Int)<((aeY k.jp.ii.am):Int) by omega),eu (show¬((aeY k.jp.ii.am):Int)=0 by omega),w1,md,au _ _ ml,ahF,t,r0,show ((0:Int) !=0)=af6 from rfl,go,q.s,bne_self_eq_false,sc]
theorem Ls {l:List Bool} (hl:(aeY l)<=30): ∀(d i:Nat) (k:bq) (m:Nat),aeY l-i<=d->i<=aeY l->SI l i k m->m+63*d<=900000->ar dG (sS l i k)=aeZ af5:=by
 intro d
 induction d with
 |zero=>
  intro i k m hd hi h _;obtain rfl:i=(aeY l):=by omega
  refine aC ?_;unfold dG sS;simp only [aA,aE (show¬((aeY l):Int)<((aeY l):Int) by omega),pp]
 |succ d ih=>
  intro i k m hd hi h hm
  by_cases e:i=aeY l
  · exact ih i k m (by omega) hi h (by omega)
  obtain ⟨k',s,h'⟩:=I7 (show i<(aeY l) by omega) h (by omega) hl;rw [aV s];exact ih (i+1) k' (m+63) (by omega) (by omega) h' (by omega)
theorem uI (l:List Bool):mv l=aeZ af5:=by
 unfold mv;rw [aj]
 by_cases h:30<acl (aeY l)
 · rw [aG h];rfl
 have hl:(aeY l)<=30:=by rw [aA] at h;omega
 obtain ⟨K,k1,k2,k3,k4⟩:=Gr 0;rw [aE h,pp,aah,pp,TN l (by omega),aj];unfold E5
 rw [aj,k1,aj,cS rfl,pp,pp];simp only [aA,rH,bne_self_eq_false,pp]
 skip
 exact Ls hl (aeY l) 0 K 63 (by omega) (by omega) ⟨k2,k3,k4⟩ (by omega)
theorem Tu.of {c:aI} (h1:RT.wf [.i .i64,.i .i64] c.ci) (h2: ∀a∈c.ae.bv,RT.wf [.i .i64,.i .i64,.i .i64,.i .i64,.i .i64] a):Tu c where
 ci:=⟨wf_i64 h1.1,wf_i64 h1.2⟩
 Te w hw:=by have:=h2 (c.ae.bv[w]!) (by rw [getElem!_pos c.ae.bv w hw];exact aeQ hw);exact ⟨wf_i64 this.1,wf_i64 this.2.1⟩
end Go.Proofs.YtclphlgnjkajbaaGreat
