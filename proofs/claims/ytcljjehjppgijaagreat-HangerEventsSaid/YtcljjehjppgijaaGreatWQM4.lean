/- Plain laws (4). -/
import Derived.Test.YtcljjehjppgijaaGreatWQM3
import Derived.Test.YtcljjehjppgijaaGreatWQTB
import Derived.Test.YtcljjehjppgijaaGreatWVm3
open List renaming length_map->lw,mem_cons_of_mem->pp,length_singleton->ut,mem_cons_self->v6,length_take->ww,append_nil->AC,length_append->If,length_drop->IR,length_cons->NE,mem_map->PP,mem_singleton->UV,mem_append->aa1,getElem!_eq_getElem?_getD->aa2,filter_cons->aa4,mem_cons->aaH,getElem_map->aaI,take_of_length_le->ab2,take_length->ab8,pairwise_iff_getElem->ab9,nodup_cons->aba,pairwise_cons->abb,replicate->abe,length_filter_le->abg,length_replicate->abi,cons_ne_nil->abm,map_cons->abn,length_pos_iff->abD,getElem_drop->abO,length_eq_zero_iff->abU,map_append->ac2,mem_filter->ac7,length_set->ace,mem_of_mem_drop->acp,mem_of_mem_take->acr,ne_nil_of_mem->acy,filter_append->acF,getElem?_drop->acI,pairwise_map->adc,getElem_take->ag2,append_assoc->ag7,nodup_append->ag8,foldl_append->agd,mem_flatMap->agJ,not_mem_nil->agY,foldl_cons->ah6,nodup_nil->ahv,nil_perm->ahx,map_nil->ahB,length->ahD
open Classical renaming not_not->Do,byContradiction->aa8,not_forall->abB,not_imp->abF,em->ahz
open Nat renaming le_refl->EQ,le_trans->ab7,lt_trichotomy->abR,le_of_not_lt->agN,add_zero->ahC
open Bool renaming not_true->aa3,not_eq_true'->ag0,not_false->ahw,true->ahF,false->ahG
open Int renaming mul_right_comm->aa5,ofNat->aa9,toNat_natCast->aak,le_of_lt->abc,le_of_eq->abd,mul_comm->ac0,neg_mul->ack,le_refl->acl,sub_mul->ah2,mul_eq_zero->ah5,not_lt->ah7,mul_nonneg->aha,lt_irrefl->ahy,zero_mul->ahA
open Prod.mk renaming inj->abK
open Prod renaming ext->acJ
open List.Perm renaming refl->ahu
open Option renaming some->ahE
open Decidable renaming decide->ahH
namespace Go.Proofs.YtcljjehjppgijaaGreat
open Go.Vm Classical
theorem Gs (l:List (Int×Int)) (hl:(ahD l)<=1048576):iN l l=ahE ahF:=by
 unfold iN;rw [bL rfl,lc];have:=bD (body:=j0) (fun i=>(l,l,(i:Int))) (ahD l) (fun i hi=>by unfold j0;simp only [ay,aI (show (i:Int)<((ahD l):Int) by omega),kw,aq l i hi,ao,dL rfl,Bool.and_self,aa3,lc,aT (show i<1000000000 by omega)]);rw [show (l,l,(0:Int))=(l,l,((0:Nat):Int)) from rfl,this];refine aC ?_;unfold j0;simp only [ay,aD (show¬((ahD l):Int)<((ahD l):Int) by omega),lc]
theorem I' (p q:Pt) (t:Int×Int):xn p q t=(p.2.1*t.2+p.2.2*t.1) - (q.2.1*t.2+q.2.2*t.1):=by rw [BU,ah2,ah2];omega
theorem DC {p q r:Pt} {t:Int×Int} (h1:leads p q t) (h2:leads q r t):leads p r t:=by unfold leads at*;rw [I'] at*;generalize p.2.1*t.2+p.2.2*t.1=a at*;generalize q.2.1*t.2+q.2.2*t.1=b at*;generalize r.2.1*t.2+r.2.2*t.1=c at*;omega
theorem yH {p q:Pt} (t:Int×Int) (h:p.1≠q.1) (hn: ¬leads p q t):leads q p t:=by unfold leads at*;rw [I'] at*;generalize p.2.1*t.2+p.2.2*t.1=a at*;generalize q.2.1*t.2+q.2.2*t.1=b at*;omega
structure SO (P:Int->Int->Prop) (S:Int->Prop):Prop where
 irr: ∀a,S a-> ¬P a a
 tr: ∀a b c,S a->S b->S c->P a b->P b c->P a c
 UB: ∀a b,S a->S b->a≠b->P a b\/P b a
section
variable {P : Int -> Int -> Prop} {S : Int -> Prop}
theorem SO.asym (o:SO P S) {a b:Int} (ha:S a) (hb:S b) (h:P a b): ¬P b a:=fun k=>o.irr a ha (o.tr a b a ha hb ha h k)
theorem SO.ntr (o:SO P S) {a b c:Int} (ha:S a) (hb:S b) (hc:S c) (h1: ¬P a b) (h2: ¬P b c): ¬P a c:=fun h=>by
 by_cases e:b=c
 · exact h1 (e▸h)
 rcases o.UB b c hb hc e with k|k
 · exact h2 k
 exact h1 (o.tr a c b ha hc hb h k)
end
noncomputable def mi (f:List Pt) (es:List (Int×Int)):Int:=if¬(∀x∈es,eO x) then 8 else if¬es.Nodup then 14 else if¬(∀x∈es,iz f x) then 6 else 0
def rP (c:aH) (f:List Pt) (es:List (Int×Int)) (i:Nat):=
 (es,es,((ahD es):Int),(i:Int),c.ci.1,c.ci.2,c.ii.am,c.af.aL,c.af.ce,c.aa.ae.ar,c.aa.ae.be,c.aa.ae.bi,c.aa.bv,c.aa.aj,c.io,f,(0:Int),(0:Int),(0:Int))
theorem Gt {c:aH} (ok:aU c) {f:List Pt} (dK:bo f) {es:List (Int×Int)} (hl:(ahD es)<=1000) {r:aH×Int} (hr:mi f es=0->qm c ⟨f⟩ es=ahE r):
 nC c ⟨f⟩ es=ahE (if mi f es=0 then r else (dI,mi f es)):=by
 have bd:=ok.bd;have ab:=ok.kE.bd;have sl:=ok.kE.so.fl;have sn:=ok.kE.so.n2;have su:=ok.kE.so.ul;have el:ahH (((ahD es):Int)<((ahD es):Int))=ahG:=aD (by omega);have hc:fE c=ahE 0:=by rw [jO ok.fit,lm ok]
 have hf:fD ⟨f⟩=ahE 0:=by rw [lO];exact congrArg ahE (lN.2 dK)
 have tw:sy (aH.mk (c.ci.1,c.ci.2) (Field.mk c.ii.am) (aZ.mk c.af.aL c.af.ce) (aJ.mk (aS.mk c.aa.ae.ar c.aa.ae.be c.aa.ae.bi) c.aa.bv c.aa.aj) c.io)=ahE c:=by
  unfold sy;simp only [bj (show (ahD c.ii.am)<=1048576 by omega),bj (show (ahD c.af.ce)<=1048576 by omega),bj (show (ahD c.io)<=1048576 by omega),bj (show (ahD c.aa.bv)<=1048576 by omega),bj (show (ahD c.aa.aj)<=1048576 by omega),
   bj (show (ahD c.aa.ae.ar)<=1048576 by omega),bj (show (ahD c.aa.ae.be)<=1048576 by omega),bj (show (ahD c.aa.ae.bi)<=1048576 by omega),ao]
 have k3: ∀e2:aH×Int,aB dP (rP c f es 0)=ahE (.done e2)->aB dQ (rP c f es 0)=ahE (if∀i,i<ahD es->eO es[i]! then e2 else (dI,8)):=by
  intro e2 h2;refine C5 (body:=dQ) (fun i=>rP c f es i) (ahD es) (fun i=>eO es[i]!) (r:=(dI,8)) (e:=e2) (fun i hi=>?_) ?_
  · have e1:ahH ((i:Int)<((ahD es):Int))=ahF:=aI (by omega)
    unfold dQ rP eO;simp only [e1,kw,aq es i hi,ao,aT (show i<1000000000 by omega)];generalize es[i]! =x
    by_cases a1:x.1<0
    · rw [aI a1];exact ⟨fun _=>rfl,fun h=>by omega⟩
    rw [aD a1]
    by_cases a2:x.2<0
    · rw [aI a2];exact ⟨fun _=>rfl,fun h=>by omega⟩
    rw [aD a2]
    by_cases a3:65535<x.1
    · rw [aI a3];exact ⟨fun _=>rfl,fun h=>by omega⟩
    rw [aD a3]
    by_cases a4:65535<x.2
    · rw [aI a4];exact ⟨fun _=>rfl,fun h=>by omega⟩
    rw [aD a4]
    by_cases a5:x.1=x.2
    · rw [dL a5];exact ⟨fun _=>rfl,fun h=>absurd a5 h.2.2.2.2⟩
    rw [dB a5];exact ⟨fun h=>absurd ⟨by omega,by omega,by omega,by omega,a5⟩ h,fun _=>rfl⟩
  unfold dQ rP
  simp only [ay,el,lc];exact h2
 have k2: ∀e1:aH×Int,aB ez (rP c f es 0)=ahE (.done (.done e1))->aB dP (rP c f es 0)=ahE (.done (if∀i,i<ahD es->es[i]!∉es.take i then e1 else (dI,14))):=by
  intro e0 h2;have:=C5 (body:=dP) (fun i=>rP c f es i) (ahD es) (fun i=>es[i]!∉es.take i) (r:= .done (dI,14)) (e:= .done e0) (fun i hi=>by
   have e1:ahH ((i:Int)<((ahD es):Int))=ahF:=aI (by omega);unfold dP rP;simp only [e1,kw,aq es i hi,kN es i (by omega),ao,mL _ _ (show (es.take i).length<=1000000 by rw [ww];omega),aT (show i<1000000000 by omega)]
   by_cases h:es[i]!∈es.take i
   · rw [aI h];exact ⟨fun _=>rfl,fun k=>absurd h k⟩
   · rw [aD h];exact ⟨fun k=>absurd h k,fun _=>rfl⟩) (by
   unfold dP rP;simp only [ay,el,lc];exact h2)
  refine this.trans ?_
  by_cases hb: ∀i,i<ahD es->es[i]!∉es.take i
  · rw [lm hb,lm hb]
  rw [ls hb,ls hb]
 have T': ∀i,i<ahD es->(¬iz f es[i]!->ez (rP c f es i)=ahE (.done (.done (.done (dI,6)))))/\(iz f es[i]!->ez (rP c f es i)=ahE (.next (rP c f es (i+1)))):=by
  intro i hi;have e1:ahH ((i:Int)<((ahD es):Int))=ahF:=aI (by omega);obtain ⟨p,e,a1,a2⟩:=zY dK (es[i]!).1;obtain ⟨q,g,b1,b2⟩:=zY dK (es[i]!).2;unfold ez rP iz;simp only [e1,kw,aq es i hi,ao,a1,b1,aT (show i<1000000000 by omega)]
  by_cases h1:nI f (es[i]!).1
  · rw [bL (a2.2 h1)]
    by_cases h2:nI f (es[i]!).2
    · rw [bL (b2.2 h2)]
      exact ⟨fun h=>absurd ⟨h1,h2⟩ h,fun _=>rfl⟩
    rw [dd (fun h=>h2 (b2.1 h))]
    exact ⟨fun _=>rfl,fun h=>absurd h.2 h2⟩
  rw [dd (fun h=>h1 (a2.1 h))]
  exact ⟨fun _=>rfl,fun h=>absurd h.1 h1⟩
 have start:nC c ⟨f⟩ es=aB dQ (rP c f es 0):=by unfold nC;simp only [hc,ao,show ((0:Int) !=0)=ahG from rfl,lc,hf];rfl
 rw [start]
 by_cases h1: ∀x∈es,eO x
 case neg=>
  have er:mi f es=8:=by unfold mi;rw [lm h1]
  rw [er,ls (by omega)];have:=cN (body:=dQ) (fun i=>rP c f es i) (ahD es) (fun i=> ¬eO es[i]!) (r:=(dI,8)) (e:=r);have k3':=k3;rw [BT (P:=eO)] at h1;obtain ⟨i,h⟩:=abB.1 h1;obtain ⟨hi,hx⟩:=abF.1 h;obtain ⟨m,m1,m2,m3⟩:=least (c:=fun i=> ¬eO es[i]!) ⟨i,hi,hx⟩;have go: ∀j,j<ahD es->(¬eO es[j]!->dQ (rP c f es j)=ahE (.done (dI,8)))/\(eO es[j]!->dQ (rP c f es j)=ahE (.next (rP c f es (j+1)))):=by
   intro j hj;have e1:ahH ((j:Int)<((ahD es):Int))=ahF:=aI (by omega);unfold dQ rP eO;simp only [e1,kw,aq es j hj,ao,aT (show j<1000000000 by omega)];generalize es[j]! =x
   by_cases a1:x.1<0
   · rw [aI a1];exact ⟨fun _=>rfl,fun h=>by omega⟩
   rw [aD a1]
   by_cases a2:x.2<0
   · rw [aI a2];exact ⟨fun _=>rfl,fun h=>by omega⟩
   rw [aD a2]
   by_cases a3:65535<x.1
   · rw [aI a3];exact ⟨fun _=>rfl,fun h=>by omega⟩
   rw [aD a3]
   by_cases a4:65535<x.2
   · rw [aI a4];exact ⟨fun _=>rfl,fun h=>by omega⟩
   rw [aD a4]
   by_cases a5:x.1=x.2
   · rw [dL a5];exact ⟨fun _=>rfl,fun h=>absurd a5 h.2.2.2.2⟩
   rw [dB a5];exact ⟨fun h=>absurd ⟨by omega,by omega,by omega,by omega,a5⟩ h,fun _=>rfl⟩
  rw [bD (body:=dQ) (fun i=>rP c f es i) m fun j hj=>(go j (by omega)).2 (Do.1 (m3 j hj))];exact aC ((go m m1).1 m2)
 have LM:=(BT (P:=eO)).1 h1
 by_cases h2:es.Nodup
 case neg=>
  have er:mi f es=14:=by unfold mi;rw [ls (Do.2 h1),lm h2]
  rw [er,ls (by omega)];have PS:=h2;rw [Gq] at PS;obtain ⟨i,h⟩:=abB.1 PS;obtain ⟨hi,hx⟩:=abF.1 h;obtain ⟨m,m1,m2,m3⟩:=least (c:=fun i=> ¬es[i]!∉es.take i) ⟨i,hi,hx⟩;have go: ∀j,j<ahD es->(es[j]!∈es.take j->dP (rP c f es j)=ahE (.done (.done (dI,14))))/\(es[j]!∉es.take j->dP (rP c f es j)=ahE (.next (rP c f es (j+1)))):=by
   intro j hj;have e1:ahH ((j:Int)<((ahD es):Int))=ahF:=aI (by omega);unfold dP rP;simp only [e1,kw,aq es j hj,kN es j (by omega),ao,mL _ _ (show (es.take j).length<=1000000 by rw [ww];omega),aT (show j<1000000000 by omega)]
   by_cases h:es[j]!∈es.take j
   · rw [aI h];exact ⟨fun _=>rfl,fun k=>absurd h k⟩
   rw [aD h];exact ⟨fun k=>absurd k h,fun _=>rfl⟩
  have l2:aB dP (rP c f es 0)=ahE (.done (dI,14)):=by rw [bD (body:=dP) (fun i=>rP c f es i) m fun j hj=>(go j (by omega)).2 (Do.1 (m3 j hj))];exact aC ((go m m1).1 (Do.1 m2))
  rw [k3 _ l2,lm LM]
 have PS:=Gq.1 h2
 by_cases h3: ∀x∈es,iz f x
 case neg=>
  have er:mi f es=6:=by unfold mi;rw [ls (Do.2 h1),ls (Do.2 h2),lm h3]
  rw [er,ls (by omega)];have h3':=h3;rw [BT (P:=iz f)] at h3';obtain ⟨i,h⟩:=abB.1 h3';obtain ⟨hi,hx⟩:=abF.1 h;obtain ⟨m,m1,m2,m3⟩:=least (c:=fun i=> ¬iz f es[i]!) ⟨i,hi,hx⟩;have l1:aB ez (rP c f es 0)=ahE (.done (.done (dI,6))):=by rw [bD (body:=ez) (fun i=>rP c f es i) m fun j hj=>(T' j (by omega)).2 (Do.1 (m3 j hj))];exact aC ((T' m m1).1 m2)
  rw [k3 _ (k2 _ l1),lm LM,lm PS]
 have h3':=(BT (P:=iz f)).1 h3;have er:mi f es=0:=by unfold mi;rw [ls (Do.2 h1),ls (Do.2 h2),ls (Do.2 h3)]
 rw [er,lm rfl];have l1:aB ez (rP c f es 0)=ahE (.done (.done r)):=by rw [bD (body:=ez) (fun i=>rP c f es i) (ahD es) fun j hj=>(T' j hj).2 (h3' j hj)];refine aC ?_;unfold ez rP;simp only [el,lc,tw,ao,hr er]
 rw [k3 _ (k2 _ l1),lm LM,lm PS]
theorem tk {l:List Int} {m:Nat} {x:Int} (h:(ahD l)=m):(l++[x]).take m=l:=by rw [<- h,List.take_left]
section
variable {k : abS} {f : List Pt} {m n0 : Nat} {x : Int}
end
section
variable {k : abS} {P : Pt} {f : List Pt} {m : Nat}
end
end Go.Proofs.YtcljjehjppgijaaGreat
namespace Go.Proofs.YtcljjehjppgijaaGreat
open Go.Vm
abbrev Nd:=Int×Int×Int
structure apj (P:Nat->Nat->Prop) (n:Nat):Prop where
 tr: ∀i j k,i<n->j<n->k<n->P i j->P j k->P i k
 asy: ∀i j,i<n->j<n->P i j-> ¬P j i
 UB: ∀i j,i<n->j<n->i≠j-> ¬P i j->P j i
end Go.Proofs.YtcljjehjppgijaaGreat
namespace Go.Proofs.YtcljjehjppgijaaGreat
open Go.Vm Classical
def QC (f:List Pt) (t:Int×Int) (i j:Nat):Prop:=leads f[i]! f[j]! t
theorem tT {p q:Pt} {t:Int×Int} (h:leads p q t): ¬leads q p t:=by unfold leads at*;rw [I'] at*;generalize p.2.1*t.2+p.2.2*t.1=a at*;generalize q.2.1*t.2+q.2.2*t.1=b at*;omega
theorem Ja {f:List Pt} (h:fa f) (t:Int×Int):apj (QC f t) (ahD f) where
 tr:=fun _ _ _ _ _ _ h1 h2=>DC h1 h2
 asy:=fun _ _ _ _ h=>tT h
 UB:=fun _ _ hi hj dM hn=>yH t (fun e=>dM (sK h hi hj e)) hn
section
variable {f : List Pt} {t : Int × Int} {N : List Nd} {r : Int}
end
def o1 (f:List Pt) (t:Int×Int) (e c:Nat) (i:Nat) (root:Int) (N:List Nd) (E:List Int) (left:Int):=
 (e,c,(i:Int),f,((ahD f):Int),(i:Int),f,t.1,t.2,(0:Int),root,N,E,(f[i]!).1,(f[i]!).2.1,(f[i]!).2.2,(f[i]!).1,left,(-1:Int))
section
variable {f : List Pt} {t : Int × Int} {N : List Nd} {r : Int}
end
theorem Gu {f:List Pt} (hs:fa f) {q:Pt} (h:q∈f):bF f q.1=q:=by obtain ⟨i,hi,rfl⟩:=aO.1 h;exact rJ hs hi rfl
theorem Ef {f:List Pt} (hs:fa f) {x:Int} (h:nI f x):bF f x∈f/\(bF f x).1=x:=by obtain ⟨i,hi,rfl⟩:=h;rw [Gu hs (aQ hi)];exact ⟨aQ hi,rfl⟩
theorem wY {f:List Pt} (hs:fa f) (t:Int×Int):SO (fun a b=>leads (bF f a) (bF f b) t) (nI f) where
 irr:=fun a _ h=>tT h h
 tr:=fun _ _ _ _ _ _ h k=>DC h k
 UB:=fun a b ha hb dM=>by
  rcases ahz (leads (bF f a) (bF f b) t) with h|h
  · exact .inl h
  exact .inr (yH t (by rw [(Ef hs ha).2,(Ef hs hb).2];exact dM) h)
abbrev jP (f:List Pt) (t:Int×Int) (a b:Int):Prop:=leads (bF f a) (bF f b) t
def xF (c:aH) (to:Int×Int):Prop:=0<ahD c.aa.bv/\dH (Ev.at c.aa.bv[0]!) to<=0
theorem BV {c:aH} (ok:aU c) {to:Int×Int} (rt:aW to) (lg:iI to) (le: ¬dH to c.ci<0):qn c to=ahE (ahH (xF c to),0):=by
 unfold qn;rw [jO ok.fit,lm ok,ao,dm lg,lm rt,ao,bL (by decide),lc,CU lg ok.iA,lm ⟨rt,ok.iL⟩,ao,aD le,lc];unfold AJ;rw [iO _ ok.fit.ag,lm ok.kE,ao,bL rfl,lc]
 by_cases h:0<ahD c.aa.bv
 · have ev:=ok.kE.ev 0 h
   have g:=aq c.aa.bv 0 h;rw [show ((0:Nat):Int)=0 from rfl] at g;rw [dB (by rw [ay];omega),lc,g,ao,ao,bL rfl,lc,CU ev.2.1 lg,lm ⟨ev.1,rt⟩,ao]
   congr 2
   by_cases h2:dH (Ev.at c.aa.bv[0]!) to<=0
   · rw [aI (show xF c to from ⟨h,h2⟩),aI h2]
   rw [aD (fun k:xF c to=>h2 k.2),aD h2]
 rw [dL (by rw [ay];omega),kw,ao,aD (fun k:xF c to=>h k.1)]
 rfl
theorem Ls {c:aZ} (ok:dX c) {i:Nat} (hi:i<ahD c.ce):KT c (c.ce[i]!).1=ahE (i:Int):=by
 have hl:=ok.len;have k:=lL (body:=tN) (fun j=>((c.ce[i]!).1,(j:Int),c.aL,c.ce)) (ahD c.ce) (fun j=>(c.ce[j]!).1=(c.ce[i]!).1) (fun j=>(j:Int)) (e:= -1) (fun j hj=>by
  unfold tN;simp only [ay,aI (show (j:Int)<((ahD c.ce):Int) by omega),kw,aq c.ce j hj,ao,aT (show j<1000000000 by omega)];refine ⟨fun h=>?_,fun h=>?_⟩
  · rw [dL h];rfl
  · rw [dB h];rfl) (by
  unfold tN;simp only [ay,aD (show¬((ahD c.ce):Int)<((ahD c.ce):Int) by omega),lc])
 exact k.1 i hi rfl fun j hj e=>by have:=ok.up j i hj hi;omega
abbrev BW (c:aH) (t:Int×Int):aH:=⟨t,c.ii,c.af,c.aa,c.io⟩
theorem Ub {c:aH} (ok:aU c) {to:Int×Int} (rt:aW to) (lg:iI to) (le: ¬dH to c.ci<0) (io:xF c to):
 ∃(x:Int×Int) (c1:aH),gE c to=ahE (c1,c.aa.bv[0]!,x,0)/\BG c=ahE (c1,c.aa.bv[0]!,x)/\aU c1/\c1.ii=c.ii/\iz c.ii.am x/\fF c1=fF c+1/\c1.ci=Ev.at c.aa.bv[0]!:=by
 obtain ⟨i,c',hi,num,r1,r2,pX,hf,hc,_⟩:=wX ok io.1;have g:=aq c.aa.bv 0 io.1;rw [show ((0:Nat):Int)=0 from rfl] at g;have G4:(ahD c'.af.ce)=ahD c.af.ce-1:=by rw [hc];exact List.length_eraseIdx_of_lt hi
 have hcn:c'.af.aL=c.af.aL:=by rw [hc];rfl
 refine ⟨(c.af.ce[i]!).2,BW c' (Ev.at c.aa.bv[0]!),?_,?_,pX,hf,ok.known i hi,?_,rfl⟩
 · unfold gE
   rw [BV ok rt lg le,ao,dL rfl,kw,aI io,aa3,lc,bL rfl,lc,g,ao,r1,ao,bL rfl,lc]
 · unfold BG
   rw [g,ao,show (c.aa.bv[0]!).2.2.1=(c.af.ce[i]!).1 from num.symm,Ls ok.sN hi,ao,aq c.af.ce i hi,ao,num,r2,ao]
 unfold fF
 show c'.af.aL- ((ahD c'.af.ce):Int)=_;rw [G4,hcn];omega
theorem Uc {c:aH} (ok:aU c) {to:Int×Int} (rt:aW to) (lg:iI to) (le: ¬dH to c.ci<0) (io: ¬xF c to):gE c to=ahE (dI,(0,0,0,0,0),(0,0),6):=by unfold gE;rw [BV ok rt lg le,ao,dL rfl,kw,aD io];rfl
theorem aaC {c:aH} (ok:aU c) {to:Int×Int} (rt:aW to) (lg:iI to) (le: ¬dH to c.ci<0) (io: ¬xF c to):wB c to=ahE (BW c to,0):=by unfold wB;rw [BV ok rt lg le,ao,dL rfl,kw,aD io,lc,bL rfl,lc,fS ok,ao]
theorem mj {c:aH} (ok:aU c): -200<=fF c/\fF c<=1000000:=by have h1:=ok.sN.len;have h2:=ok.sN.n0;have h3:=ok.sN.n1;unfold fF;omega
theorem QD {c:aH} (ok:aU c) {to:Int×Int} (rt:aW to) (io: ¬xF c to) {y:pZ} (hy:y∈c.af.ce) (is:(bk c.ii.am y.2 c.ci).2=ahF):
 to.1*(bk c.ii.am y.2 c.ci).1.2<(bk c.ii.am y.2 c.ci).1.1*to.2:=by
 obtain ⟨d,hd,_,ev⟩:=ok.zX.has _ hy is;obtain ⟨v,hv,he⟩:=aO.1 ev;have tl:=C7 ok.kE v hv;have h0:0<(ahD c.aa.bv):=by omega
 have e0:=(ok.kE.ev 0 h0).1.1;have ev':=(ok.kE.ev v hv).1.1;rw [he] at tl ev';have n1: ¬dH (bk c.ii.am y.2 c.ci).1 (Ev.at c.aa.bv[0]!)<0:=fun q=>tl (.inl q)
 rw [rH] at n1;have n2: ¬dH (Ev.at c.aa.bv[0]!) to<=0:=fun q=>io ⟨h0,q⟩
 have n3:to.1*(Ev.at c.aa.bv[0]!).2<(Ev.at c.aa.bv[0]!).1*to.2:=by unfold dH at n2;rcases cM ((Ev.at c.aa.bv[0]!).1*to.2) (to.1*(Ev.at c.aa.bv[0]!).2) with ⟨a,b⟩|⟨a,b⟩|⟨a,b⟩<;>omega
 exact mJ rt.1 e0 ev' n3 (ah7.1 n1)
theorem Ud {c:aH} (ok:aU c) {to:Int×Int} (rt:aW to) (lg:iI to) (le: ¬dH to c.ci<0) (io: ¬xF c to):aU (BW c to):=by
 have pt:=fun (x:Int×Int) (hb:iz c.ii.am x)=>And.intro (dG ok.lq hb.2).1 (dG ok.lq hb.1).1
 refine ⟨rt,lg,ok.lq,ok.sN,ok.kE,ok.Gk,ok.hd,ok.known,?_⟩;refine aR.time (t:=c.ci) (fun y hy=>?_) ok.zX;obtain ⟨j,hj,rfl⟩:=aO.1 hy;have hb:=ok.known j hj;refine Gr (pt _ hb).1 (pt _ hb).2 ok.iL rt (by rw [rH] at le;exact ah7.1 le) (fun is=>?_);exact abc (QD ok rt io hy is)
theorem aaD {c:aH} {s:Int×Int} (h1:gD c=ahE c) (h2:gD (BW c s)=ahE (BW c s)) {n:Int} {c':aH} {x:Int×Int} (h:fL c n=ahE (c',x,0)):fL (BW c s) n=ahE (BW c' s,x,0):=by
 unfold fL at h ⊢;rw [h1] at h;rw [h2];dsimp only at h ⊢;cases e0:qk c.af n with
 |none=>rw [e0] at h;cases h
 |some a0=>
  rw [e0,ao] at h;rw [ao];cases e1:(a0.2.2 !=0) with
  |true=>
   rw [e1,kw] at h;injection h with h;have:a0.2.2=0:=by rw [(abK h).2]
   rw [bL this] at e1;cases e1
  |false=>
   rw [e1,lc,ao] at h;rw [lc,ao];cases e2:lH c.io n with
   |none=>rw [e2] at h;cases h
   |some a2=>
    rw [e2,ao] at h;rw [ao];cases e3:a2.2 with
    |false=>rw [e3,lc] at h;rw [lc];injection h with h;obtain ⟨ha,hb⟩:=abK h;rw [<- ha,<- hb]
    |true=>
     rw [e3,kw] at h;rw [kw];cases e4:aG c.io a2.1 with
     |none=>rw [e4] at h;cases h
     |some a3=>
      rw [e4,ao] at h;rw [ao];cases e5:jf c.aa a3.2 with
      |none=>rw [e5] at h;cases h
      |some a4=>
       rw [e5,ao] at h;rw [ao];cases e6:(a4.2.2 !=0) with
       |true=>rw [e6,kw] at h;injection h with h;have:a4.2.2=0:=(abK (abK h).2).2;rw [bL this] at e6;cases e6
       |false=>
        rw [e6,lc] at h;rw [lc];cases e7:gR (a2.1,ai .i64 (a2.1+1),c.io) with
        |none=>rw [e7] at h;cases h
        |some a5=>rw [e7,ao] at h;rw [ao];injection h with h;obtain ⟨ha,hb⟩:=abK h;rw [<- ha,<- hb]
theorem yI {c:aH} (ok:aU c) {to:Int×Int} (rt:aW to) (lg:iI to) (le: ¬dH to c.ci<0) (io:xF c to) {c':aH} {x:Int×Int} (hd:fL c (Ev.num c.aa.bv[0]!)=ahE (c',x,0)):
 gE c to=ahE (BW c' (Ev.at c.aa.bv[0]!),c.aa.bv[0]!,x,0):=by
 have g:=aq c.aa.bv 0 io.1;rw [show ((0:Nat):Int)=0 from rfl] at g;unfold gE;rw [BV ok rt lg le,ao,dL rfl,kw,aI io,aa3,lc,bL rfl,lc,g,ao,hd,ao,bL rfl,lc]
theorem Eg {a b:Int×Int}: ¬dH a b<0↔b.1*a.2<=a.1*b.2:=by rw [rH];omega
theorem Eh {a b:Int×Int}:dH a b<=0↔a.1*b.2<=b.1*a.2:=by unfold dH;rcases cM (a.1*b.2) (b.1*a.2) with ⟨x,y⟩|⟨x,y⟩|⟨x,y⟩<;>omega
theorem BX {a b c:Int×Int} (ha:aW a) (hb:aW b) (hc:aW c) (h1: ¬dH b a<0) (h2: ¬dH c b<0): ¬dH c a<0:=by rw [Eg] at*;exact gH ha.1 hb.1 hc.1 h1 h2
theorem xF.more {c:aH} (ok:aU c) {s t:Int×Int} (rs:aW s) (rt:aW t) (st: ¬dH t s<0) (h:xF c s):xF c t:=by refine ⟨h.1,?_⟩;have e0:=(ok.kE.ev 0 h.1).1.1;have h2:=h.2;rw [Eh] at*;rw [Eg] at st;exact gH e0 rs.1 rt.1 h2 st
section
variable {s t : Int × Int}
end
noncomputable def pos (l:List Int) (x:Int):Nat:=if h: ∃k,k<ahD l/\l[k]! =x then h.choose else 0
section
variable (f : List Pt)
end
section
variable {f : List Pt}
end
theorem Lt (p q:Pt) (t t':Int×Int):xn p q t'*t.2=xn p q t*t'.2+(p.2.2-q.2.2)*(t'.1*t.2-t.1*t'.2):=by unfold xn;generalize p.2.1-q.2.1=a;generalize p.2.2-q.2.2=b;simp only [Int.mul_add,Int.mul_sub,Int.mul_assoc,ac0,Int.mul_left_comm];omega
theorem Ei (p q:Pt) (t:Int×Int):xn q p t= -xn p q t:=by unfold xn;rw [show q.2.1-p.2.1= -(p.2.1-q.2.1) by omega,show q.2.2-p.2.2= -(p.2.2-q.2.2) by omega,ack,ack];omega
theorem QE {a b:Int} (hb:0<b) (h:0<=a*b):0<=a:=aa8 fun hn=>by have:=Int.mul_neg_of_neg_of_pos (show a<0 by omega) hb;omega
theorem QF {p q:Pt} {t t':Int×Int} (d:1<=t.2) (d':1<=t'.2) (le:t.1*t'.2<=t'.1*t.2) (hb:q.2.2<=p.2.2) (h:0<=xn p q t):0<=xn p q t':=by refine QE (show 0<t.2 by omega) ?_;rw [Lt p q t t'];have a:=aha h (show 0<=t'.2 by omega);have b:=aha (show 0<=p.2.2-q.2.2 by omega) (show 0<=t'.1*t.2-t.1*t'.2 by omega);omega
structure Jq (f:List Pt) (x:Int×Int) (t:Int×Int):Prop where
 both:iz f x
 zero:xn (bF f x.2) (bF f x.1) t=0
 Np:(bF f x.2).2.2<(bF f x.1).2.2
theorem Jq.behind {f:List Pt} {x t to:Int×Int} (h:Jq f x t) (d:1<=t.2) (d':1<=to.2) (le:t.1*to.2<=to.1*t.2):leads (bF f x.1) (bF f x.2) to:=by
 have z:=h.zero;have s:=h.Np;have n:=Ei (bF f x.2) (bF f x.1) t;have g:=QF (p:=bF f x.1) (q:=bF f x.2) d d' le (by omega) (by omega);unfold leads
 by_cases e:xn (bF f x.1) (bF f x.2) to=0
 · exact .inr ⟨e,.inl s⟩
 exact .inl (by omega)
theorem Jq.once {f:List Pt} {x t u:Int×Int} (h:Jq f x t) (k:Jq f x u):t.1*u.2=u.1*t.2:=by
 have z:=Lt (bF f x.2) (bF f x.1) t u;have s:=h.Np;rw [h.zero,k.zero,ahA,ahA,Int.zero_add] at z;rcases ah5.1 z.symm with h|h
 · omega
 omega
theorem Jq.later {f:List Pt} {x t ci:Int×Int} (h:Jq f x t) (d:1<=t.2) (d':1<=ci.2) (ld:leads (bF f x.2) (bF f x.1) ci):ci.1*t.2<t.1*ci.2:=by
 refine aa8 fun hn=>?_
 have b:=h.behind d d' (by omega);have n:=Ei (bF f x.2) (bF f x.1) ci;unfold leads at b ld;have s:=h.Np;omega
structure EvL (f:List Pt) (ci to:Int×Int) (E:List ((Int×Int)×(Int×Int))):Prop where
 ev: ∀e∈E,Jq f e.1 e.2/\aW e.2/\ci.1*e.2.2<e.2.1*ci.2/\e.2.1*to.2<=to.1*e.2.2
 ch: ∀i,i+1<ahD E->(E[i]!).2.1*(E[i+1]!).2.2<=(E[i+1]!).2.1*(E[i]!).2.2/\(E[i]!).1≠(E[i+1]!).1
theorem Gv {p q:Pt} (hp:eZ p) (hq:eZ q) (h:p.1≠q.1):eh p q=ahE (if p.2.2=q.2.2 then ((0,0),6) else (met p q,0)):=by
 unfold eh;obtain ⟨w1,w2,i1,i2⟩:=CV hp hq;rw [pV (by constructor<;>constructor<;>decide),lm ⟨hp,hq,KW⟩,ls h];simp only [ao,show ((0:Int) !=0)=ahG from rfl,lc]
 by_cases e:p.2.2=q.2.2
 · rw [lm e,dL e,kw]
 rw [ls e,dB e,lc,w1,w2,ON i1 i2,(uw hp hq e).1]
 rfl
def Jr (a:xE):Int×Int:=(a.1,a.2.1)
def uF (a b:xE):Int:=if dH (Jr a) (Jr b)≠0 then dH (Jr a) (Jr b) else if iH a.2.2.1 b.2.2.1≠0 then iH a.2.2.1 b.2.2.1 else iH a.2.2.2 b.2.2.2
structure zw (a:xE):Prop where
 rat:aW (Jr a)
 lg:iI (Jr a)
theorem aaE (a b c:Int):lE [a,b,c]=ahE (if a≠0 then a else if b≠0 then b else c):=by
 unfold lE
 by_cases h1:a=0
 · subst h1
   rw [aV (y:=(0,[0,b,c],3,1)) (by rfl)]
   by_cases h2:b=0
   · subst h2
     rw [aV (y:=(0,[0,0,c],3,2)) (by rfl)]
     by_cases h3:c=0
     · subst h3
       rw [aV (y:=(0,[0,0,0],3,3)) (by rfl)];exact aC rfl
     refine aC ?_
     show (bif ahH ((2:Int)<3) then _ else _)=_;simp only [aG];simp;rw [dd h3];rfl
   refine aC ?_
   show (bif ahH ((1:Int)<3) then _ else _)=_;simp only [aG];simp;rw [dd h2,ls h2];rfl
 refine aC ?_
 show (bif ahH ((0:Int)<3) then _ else _)=_;simp only [aG];simp;rw [dd h1,ls h1];rfl
theorem BY {a b:Int×Int} (ha:iI a) (hb:iI b) (ra:aW a) (rb:aW b):mZ a b=ahE (dH a b):=by unfold mZ;rw [CU ha hb,lm ⟨ra,rb⟩];rfl
theorem Lu {a b:xE} (ha:zw a) (hb:zw b):fK a b=ahE (uF a b):=by unfold fK uF;rw [show (a.1,a.2.1)=Jr a from rfl,show (b.1,b.2.1)=Jr b from rfl,BY ha.lg hb.lg ha.rat hb.rat];simp only [ao,iw,aaE]
theorem zi {a b:xE}:uF a b<0↔a.1*b.2.1<b.1*a.2.1\/(a.1*b.2.1=b.1*a.2.1/\(a.2.2.1<b.2.2.1\/(a.2.2.1=b.2.2.1/\a.2.2.2<b.2.2.2))):=by
 unfold uF;have h1:dH (Jr a) (Jr b)=iH (a.1*b.2.1) (b.1*a.2.1):=rfl;rw [h1];rcases cM (a.1*b.2.1) (b.1*a.2.1) with ⟨h,e⟩|⟨h,e⟩|⟨h,e⟩<;>rw [e]
 · simp;omega
 · rcases cM a.2.2.1 b.2.2.1 with ⟨h2,e2⟩|⟨h2,e2⟩|⟨h2,e2⟩<;>rw [e2]
   · simp;omega
   · rcases cM a.2.2.2 b.2.2.2 with ⟨h3,e3⟩|⟨h3,e3⟩|⟨h3,e3⟩<;>rw [e3]<;>simp<;>omega
   simp;omega
 simp;omega
theorem Gw {a b c:xE} (ha:zw a) (hb:zw b) (hc:zw c) (h1:uF a b<0) (h2:uF b c<0):uF a c<0:=by
 rw [zi] at*;have da:1<=a.2.1:=ha.rat.1;have db:1<=b.2.1:=hb.rat.1;have dc:1<=c.2.1:=hc.rat.1;rcases h1 with h1|⟨e1,h1⟩<;>rcases h2 with h2|⟨e2,h2⟩
 · exact .inl (mJ da db dc h1 (abc h2))
 · exact .inl (mJ da db dc h1 (abd e2))
 · exact .inl (oy da db dc (abd e1) h2)
 right
 have x1:=gH da db dc (abd e1) (abd e2);have x2:=gH dc db da (abd e2.symm) (abd e1.symm);exact ⟨by omega,by omega⟩
theorem DD {a b c:xE} (ha:zw a) (hb:zw b) (hc:zw c) (h1: ¬uF a b<0) (h2: ¬uF b c<0): ¬uF a c<0:=by
 rw [zi] at*;have da:1<=a.2.1:=ha.rat.1;have db:1<=b.2.1:=hb.rat.1;have dc:1<=c.2.1:=hc.rat.1;intro h;have x:b.1*a.2.1<=a.1*b.2.1:=by omega
 have y:c.1*b.2.1<=b.1*c.2.1:=by omega
 have z:=gH dc db da y x;have e:a.1*c.2.1=c.1*a.2.1:=by omega
 have x1:=gH da dc db (show a.1*c.2.1<=c.1*a.2.1 by omega) y;have y1:=gH db da dc x (show a.1*c.2.1<=c.1*a.2.1 by omega);omega
theorem Ue {a b:xE} (ha:zw a) (hb:zw b) (h1: ¬uF a b<0) (h2: ¬uF b a<0):a=b:=by
 rw [zi] at*;have e:=Ee ha.rat hb.rat (show a.1*b.2.1=b.1*a.2.1 by omega);unfold Jr at e;injection e with e1 e2;have e3:a.2.2.1=b.2.2.1:=by omega
 have e4:a.2.2.2=b.2.2.2:=by omega
 exact acJ e1 (acJ e2 (acJ e3 e4))
theorem Nq {l:List xE} (h: ∀x∈l,zw x): ∃m,BC fK l=ahE m/\m.Perm l/\m.Pairwise fun x y=> ¬uF y x<0:=by
 have e: ∀x∈l,∀y∈l,(fK x y).getD 0=uF x y:=fun x hx y hy=>by rw [Lu (h x hx) (h y hy)];rfl
 refine ⟨l.mergeSort fun x y=>!ahH ((fK y x).getD 0<0),?_,List.mergeSort_perm _ _,?_⟩
 · unfold BC
   rw [lm];refine ⟨fun x hx y hy=>⟨_,Lu (h x hx) (h y hy)⟩,fun x hx=>?_,fun x hx y hy z hz h1 h2=>?_,fun x hx y hy z hz h1 h2=>?_,fun x hx y hy h1 h2=>?_⟩
   · rw [e x hx x hx,zi];omega
   · rw [e x hx y hy] at h1
     rw [e y hy z hz] at h2;rw [e x hx z hz];exact Gw (h x hx) (h y hy) (h z hz) h1 h2
   · rw [e x hx y hy] at h1
     rw [e y hy z hz] at h2;rw [e x hx z hz];exact DD (h x hx) (h y hy) (h z hz) h1 h2
   rw [e x hx y hy] at h1
   rw [e y hy x hx] at h2;exact Ue (h x hx) (h y hy) h1 h2
 obtain ⟨l',kY⟩: ∃l':List {a:xE // zw a},l'.map (fun x=>x.1)=l:=⟨l.attach.map fun x=>⟨x.1,h x.1 x.2⟩,by rw [List.map_map];exact List.attach_map_subtype_val l⟩
 have hm:(l'.mergeSort fun x y=>!ahH (uF y.1 x.1<0)).map (fun x=>x.1)=l.mergeSort fun x y=>!ahH ((fK y x).getD 0<0):=by
  rw [<- kY];refine List.map_mergeSort fun a ha b hb=>?_
  have ma:a.1∈l:=by rw [<- kY];exact PP.2 ⟨a,ha,rfl⟩
  have mb:b.1∈l:=by rw [<- kY];exact PP.2 ⟨b,hb,rfl⟩
  rw [e b.1 mb a.1 ma]
 rw [<- hm,adc];have:=List.pairwise_mergeSort (le:=fun x y:{a:xE // zw a}=>!ahH (uF y.1 x.1<0)) (fun a b c h1 h2=>by
  simp only [ag0,decide_eq_false_iff_not] at*;exact DD c.2 b.2 a.2 h2 h1) (fun a b=>by
  simp only [Bool.or_eq_true,ag0,decide_eq_false_iff_not]
  by_cases q:uF b.1 a.1<0
  · right
    intro q2;have:=Gw a.2 b.2 a.2 q2 q;rw [zi] at this;omega
  exact .inl q) l'
 exact this.imp fun h=>by simpa using h
theorem C8 {l:List Pt} {x:Pt×Pt}:x∈gB l↔ ∃i j,i<j/\j<ahD l/\x=(l[i]!,l[j]!):=by
 unfold gB;simp only [agJ,List.mem_range,PP];constructor
 · rintro ⟨i,hi,q,hq,rfl⟩
   obtain ⟨k,hk,rfl⟩:=aO.1 hq;rw [IR] at hk;refine ⟨i,i+1+k,by omega,by omega,?_⟩;rw [getElem!_pos _ k (by rw [IR];exact hk),abO,getElem!_pos l (i+1+k) (by omega)]
 rintro ⟨i,j,h1,h2,rfl⟩
 refine ⟨i,by omega,l[j]!,?_,rfl⟩;have:(l.drop (i+1))[j- (i+1)]! =l[j]!:=by
  rw [getElem!_pos _ _ (by rw [IR];omega),abO,getElem!_pos l j h2]
  congr 1;omega
 rw [<- this];exact aQ (by rw [IR];omega)
def MtF (f:List Pt) (x:xE):Prop:= ∃i j,i<j/\j<ahD f/\(f[i]!).2.2≠(f[j]!).2.2/\x=((met f[i]! f[j]!).1,(met f[i]! f[j]!).2,(f[i]!).1,(f[j]!).1)
theorem MtF.ok {f:List Pt} (ok:bo f) {x:xE} (h:MtF f x):zw x:=by obtain ⟨i,j,h1,h2,h3,rfl⟩:=h;have:=uw (ok.2.1 _ (aQ (show i<(ahD f) by omega))) (ok.2.1 _ (aQ h2)) h3;exact ⟨this.2.1,this.2.2.1⟩
theorem Nr {f:List Pt} (ok:bo f): ∀{i j:Nat},i<j->j<ahD f->(f[i]!).1<(f[j]!).1:=by
 intro i j lS
 induction j with
 |zero=>omega
 |succ j ih=>
  intro hj;have s:=ok.2.2 j (by omega)
  by_cases e:i=j
  · subst e;exact s
  have:=ih (by omega) (by omega);omega
theorem aaF {f:List Pt} (ok:bo f): ∃m,Ds f=ahE m/\ahD m<=5000/\(∀x,x∈m↔MtF f x)/\m.Pairwise fun x y=> ¬uF y x<0:=by
 have M: ∀x∈gB f,eh x.1 x.2=ahE (if x.1.2.2=x.2.2.2 then ((0,0),6) else (met x.1 x.2,0)):=fun x hx=>by obtain ⟨i,j,h1,h2,rfl⟩:=C8.1 hx;exact Gv (ok.2.1 _ (aQ (by omega))) (ok.2.1 _ (aQ h2)) (by have:=Nr ok h1 h2;dsimp only;omega)
 have mem: ∀x,x∈wg (fun p q=>(eh p q).getD ((0,0),1)) (gB f)↔MtF f x:=fun x=>by
  unfold wg;rw [agJ];constructor
  · rintro ⟨y,hy,hx⟩
    dsimp only at hx;rw [M y hy] at hx;obtain ⟨i,j,h1,h2,rfl⟩:=C8.1 hy;dsimp only [Option.getD_some] at hx
    by_cases e:(f[i]!).2.2=(f[j]!).2.2
    · rw [lm e] at hx
      simp at hx
    rw [ls e] at hx
    simp only [beq_self_eq_true,kw,UV] at hx;exact ⟨i,j,h1,h2,e,hx⟩
  rintro ⟨i,j,h1,h2,e,rfl⟩
  have hy:=C8.2 ⟨i,j,h1,h2,rfl⟩;refine ⟨_,hy,?_⟩;have h:=M _ hy;dsimp only at h ⊢;rw [h,ls e];simp
 obtain ⟨m,h1,h2,h3⟩:=Nq (l:=wg (fun p q=>(eh p q).getD ((0,0),1)) (gB f)) fun x hx=>((mem x).1 hx).ok ok
 refine ⟨m,?_,?_,fun x=>h2.mem_iff.trans (mem x),h3⟩
 · show KK eh fK f=_
   unfold KK;rw [lm ⟨by have:=ok.1;omega,fun x hx=>⟨_,M x hx⟩⟩,h1]
 have a:=BB (fun p q=>(eh p q).getD ((0,0),1)) (gB f)
 have b:=FL f;have c:=Nat.mul_le_mul ok.1 ok.1;rw [h2.length_eq];omega
theorem Uf (c:Nat->Prop): ∀n,(∀i j,i<j->j<n->c j->c i)-> ∃m,m<=n/\(∀i,i<m->c i)/\ ∀i,m<=i->i<n-> ¬c i
 |0,_=>⟨0,EQ _,fun i h=>by omega,fun i _ h=>by omega⟩
 |n+1,h=>by
  obtain ⟨m,h1,h2,h3⟩:=Uf c n fun i j a b=>h i j a (by omega)
  by_cases q:c n
  · exact ⟨n+1,EQ _,fun i hi=>by
     by_cases e:i=n
     · subst e;exact q
     exact h i n (by omega) (by omega) q,fun i a b=>by omega⟩
  exact ⟨m,by omega,h2,fun i a b=>by
   by_cases e:i=n
   · subst e;exact q
   exact h3 i a (by omega)⟩
theorem aaG {m:List xE} {R:xE->xE->Prop} (h:m.Pairwise R) {i j:Nat} (lS:i<j) (hj:j<ahD m):R m[i]! m[j]!:=by rw [getElem!_pos m i (by omega),getElem!_pos m j hj];exact ab9.1 h i j (by omega) hj lS
theorem HU {m:List xE} (hl:(ahD m)<=5000) (ok: ∀x∈m,zw x) (hs:m.Pairwise fun x y=> ¬uF y x<0) {t:Int×Int} (r:aW t) (lg:iI t):
 ∃n:Nat,n<=ahD m/\qz m t=ahE (n:Int)/\(∀i,i<n->(m[i]!).1*t.2<=t.1*(m[i]!).2.1)/\ ∀i,n<=i->i<ahD m->t.1*(m[i]!).2.1<(m[i]!).1*t.2:=by
 obtain ⟨n,n1,n2,n3⟩:=Uf (fun i=>(m[i]!).1*t.2<=t.1*(m[i]!).2.1) (ahD m) fun i j lS hj hc=>by
  have:=aaG hs lS hj;rw [zi] at this;have di:=(ok _ (aQ (show i<(ahD m) by omega))).rat.1;have dj:=(ok _ (aQ hj)).rat.1;have le:(m[i]!).1*(m[j]!).2.1<=(m[j]!).1*(m[i]!).2.1:=by omega
  exact gH di dj r.1 le hc
 refine ⟨n,n1,?_,n2,fun i a b=>Int.not_le.1 (n3 i a b)⟩;have run:bE m t ()=aB aX (m,((ahD m):Int),(n:Int),(n:Int),t):=by
  unfold bE;refine y9 (body:=aX) (fun lo hi=>(m,((ahD m):Int),(lo:Int),(hi:Int),t)) (ahD m) n (fun i=>(m[i]!).1*t.2<=t.1*(m[i]!).2.1) (fun lo hi h1 h2=>?_) n2 n3 (ahD m) 0 (ahD m) (by omega) (by omega) n1 (EQ _);have e1:ahH ((lo:Int)<(hi:Int))=ahF:=aI (by omega);have hh:=OM (a:=lo) (b:=hi) (by omega) (by omega);have ho:=ok _ (aQ (show (lo+hi) / 2<(ahD m) by omega));unfold aX mG;simp only [e1,kw,hh,aq m ((lo+hi) / 2) (by omega),ao];rw [show ((m[(lo+hi) / 2]!).1,(m[(lo+hi) / 2]!).2.1)=Jr m[(lo+hi) / 2]! from rfl,BY ho.lg lg ho.rat r];simp only [ao,aT (show (lo+hi) / 2<1000000000 by omega)]
  have cc:dH (Jr m[(lo+hi) / 2]!) t<=0↔(m[(lo+hi) / 2]!).1*t.2<=t.1*(m[(lo+hi) / 2]!).2.1:=Eh;constructor
  · intro h
    have:=cc.2 h;rw [aD (show¬0<dH (Jr m[(lo+hi) / 2]!) t by omega)];rfl
  intro h
  have: ¬dH (Jr m[(lo+hi) / 2]!) t<=0:=fun q=>h (cc.1 q)
  rw [aI (show 0<dH (Jr m[(lo+hi) / 2]!) t by omega)];rfl
 unfold qz;have e1:ahH ((n:Int)<(n:Int))=ahG:=aD (by omega);have fin: ∃b,aX (m,((ahD m):Int),(n:Int),(n:Int),t)=ahE (.done ((n:Int),b)):=by
  unfold aX mG;simp only [e1,lc]
  by_cases hn:n<ahD m
  · have ho:=ok _ (aQ hn)
    rw [aI (show (n:Int)<((ahD m):Int) by omega),kw,aq m n hn,ao,show ((m[n]!).1,(m[n]!).2.1)=Jr m[n]! from rfl,BY ho.lg lg ho.rat r,ao]
    by_cases q:0<dH (Jr m[n]!) t
    · rw [aI q];exact ⟨_,rfl⟩
    rw [aD q];exact ⟨_,rfl⟩
  rw [aD (show¬(n:Int)<((ahD m):Int) by omega)];exact ⟨_,rfl⟩
 obtain ⟨b,hb⟩:=fin;rw [run,aC hb];rfl
theorem ag9 {f:List Pt} (ok:bo f) {a b:Int×Int} (ra:aW a) (a64:iI a) (rb:aW b) (b64:iI b) (le:a.1*b.2<=b.1*a.2):
 ∃L:List xE,yu ⟨f⟩ a b=ahE (L,0)/\ahD L<=5000/\(∀x,x∈L↔MtF f x/\a.1*x.2.1<x.1*a.2/\x.1*b.2<=b.1*x.2.1)/\L.Pairwise fun x y=> ¬uF y x<0:=by
 obtain ⟨m,m1,m2,m3,m4⟩:=aaF ok;have mok: ∀x∈m,zw x:=fun x hx=>((m3 x).1 hx).ok ok
 obtain ⟨i,i1,i2,i3,i4⟩:=HU m2 mok m4 ra a64;obtain ⟨j,j1,j2,j3,j4⟩:=HU m2 mok m4 rb b64;have chk:wH ⟨f⟩ [a,b]=ahE 0:=by
  unfold wH;rw [lO,lN.2 ok,ao,bL rfl,lc];have s1:gV ([a,b],[a,b],2,0)=ahE (.next ([a,b],[a,b],2,1)):=by unfold gV;show (bif ahH ((0:Int)<2) then (aG [a,b] 0).bind _ else _)=_;rw [aI (show (0:Int)<2 by omega),kw,show aG [a,b] 0=ahE a by simp [aG],ao,dm a64,lm ra];rfl
  have s2:gV ([a,b],[a,b],2,1)=ahE (.next ([a,b],[a,b],2,2)):=by unfold gV;show (bif ahH ((1:Int)<2) then (aG [a,b] 1).bind _ else _)=_;rw [aI (show (1:Int)<2 by omega),kw,show aG [a,b] 1=ahE b by simp [aG],ao,dm b64,lm rb];rfl
  have s3:gV ([a,b],[a,b],2,2)=ahE (.done 0):=by unfold gV;show (bif ahH ((2:Int)<2) then _ else bif (2:Int)==2 then (aG [a,b] 0).bind fun a2=>(aG [a,b] 1).bind fun a3=>(mZ a2 a3).bind _ else _)=_;rw [aD (show¬(2:Int)<2 by omega),lc,dL rfl,kw,show aG [a,b] 0=ahE a by simp [aG],show aG [a,b] 1=ahE b by simp [aG],ao,ao,BY a64 b64 ra rb,ao,aD (by have:=Eh.2 le;omega)];rfl
  show aB gV ([a,b],[a,b],2,0)=_;rw [aV s1,aV s2,aC s3]
 have lS:i<=j:=by
  refine agN fun h=>?_
  have x1:=i3 j h;have x2:=j4 j (EQ _) (by omega);have d:1<=(m[j]!).2.1:=(mok _ (aQ (show j<(ahD m) by omega))).rat.1;have:=gH d ra.1 rb.1 x1 le;omega
 refine ⟨(m.drop i).take (j-i),?_,by rw [ww,IR];omega,fun x=>?_,(m4.sublist ((List.take_sublist _ _).trans (List.drop_sublist _ _)))⟩
 · unfold yu
   rw [chk,ao,bL rfl,lc,m1,ao,i2,ao,j2,ao];simp only [ay];rw [aI (show (0:Int)<=(i:Int) by omega),aI (show (i:Int)<=(j:Int) by omega),aI (show (j:Int)<=(j:Int) by omega),aI (show (j:Int)<=((ahD m):Int) by omega)];show ahE (_,_)=_;rw [Nat.zero_add,aak,aak]
 rw [aO,<- m3]
 have at_: ∀k,k<j-i->((m.drop i).take (j-i))[k]! =m[i+k]!:=fun k hk=>by rw [getElem!_pos _ k (by rw [ww,IR];omega),ag2,abO,getElem!_pos m (i+k) (by omega)]
 constructor
 · rintro ⟨k,hk,rfl⟩
   rw [ww,IR] at hk;rw [at_ k (by omega)];exact ⟨aQ (by omega),i4 _ (by omega) (by omega),j3 _ (by omega)⟩
 rintro ⟨hx,h1,h2⟩
 obtain ⟨k,hk,rfl⟩:=aO.1 hx;have k1:i<=k:=agN fun h=>by have:=i3 k h;omega
 have k2:k<j:=Nat.lt_of_not_le fun h=>by have:=j4 k h hk;omega
 exact ⟨k-i,by rw [ww,IR];omega,by rw [at_ _ (by omega)];congr 1;omega⟩
def mnI (lo hi:Int):Int:=if hi<lo then hi else lo
def mxI (lo hi:Int):Int:=if hi>lo then hi else lo
theorem Lv {p q:Pt} (hp:eZ p) (hq:eZ q) (h:p.2.2≠q.2.2) {t:Int×Int} (r:aW t) (z:xn p q t=0):met p q=t:=by
 obtain ⟨_,mr,_,me⟩:=uw hp hq h;refine Ee mr r ?_;unfold xn at z;have e:t.1*(q.2.2-p.2.2)=(p.2.1-q.2.1)*t.2:=by
  have:t.1*(q.2.2-p.2.2)= -((p.2.2-q.2.2)*t.1):=by rw [show q.2.2-p.2.2= -(p.2.2-q.2.2) by omega,Int.mul_neg,ac0]
  omega
 have k:((met p q).1*t.2-t.1*(met p q).2)*(q.2.2-p.2.2)=0:=by
  have a1:(met p q).1*t.2*(q.2.2-p.2.2)=(p.2.1-q.2.1)*(met p q).2*t.2:=by rw [<- me,aa5]
  have a2:t.1*(met p q).2*(q.2.2-p.2.2)=(p.2.1-q.2.1)*(met p q).2*t.2:=by rw [aa5,e,aa5]
  rw [ah2,a1,a2,Int.sub_self]
 rcases ah5.1 k with k|k
 · omega
 omega
theorem Jq.ne {f:List Pt} {x t:Int×Int} (h:Jq f x t):x.1≠x.2:=fun e=>by have:=h.Np;rw [e] at this;omega
theorem akC {f:List Pt} (ok:bo f) {x t:Int×Int} (h:Jq f x t) (r:aW t):MtF f (t.1,t.2,mnI x.1 x.2,mxI x.1 x.2):=by
 have ne:=h.ne;have s:=h.Np;obtain ⟨ha,hb⟩:=h.both;obtain ⟨ma,ia⟩:=Ef ok.2.2 ha;obtain ⟨mb,ib⟩:=Ef ok.2.2 hb;obtain ⟨i,hi,ei⟩:=aO.1 ma;obtain ⟨j,hj,ej⟩:=aO.1 mb;have z:=h.zero;have oa:=ok.2.1 _ ma;have ob:=ok.2.1 _ mb;rcases abR i j with q|q|q
 · have u:=Nr ok q hj
   rw [ei,ej,ia,ib] at u;refine ⟨i,j,q,hj,by rw [ei,ej];omega,?_⟩;have gz:xn (bF f x.1) (bF f x.2) t=0:=by have:=Ei (bF f x.2) (bF f x.1) t;omega
   rw [ei,ej,Lv oa ob (by omega) r gz,ia,ib];unfold mnI mxI;rw [ls (by omega),lm (by omega)]
 · subst q
   exact absurd (ia.symm.trans (by rw [<- ei,ej,ib])) ne
 have u:=Nr ok q hi
 rw [ei,ej,ia,ib] at u;refine ⟨j,i,q,hi,by rw [ei,ej];omega,?_⟩;rw [ei,ej,Lv ob oa (by omega) r z,ia,ib];unfold mnI mxI;rw [lm (by omega),ls (by omega)]
structure QG (f:List Pt) (ci to:Int×Int) (L:List xE):Prop where
 len:(ahD L)<=5000
 mem: ∀x,x∈L↔MtF f x/\ci.1*x.2.1<x.1*ci.2/\x.1*to.2<=to.1*x.2.1
 srt:L.Pairwise fun x y=> ¬uF y x<0
def evM (e:(Int×Int)×(Int×Int)):xE:=(e.2.1,e.2.2,mnI e.1.1 e.1.2,mxI e.1.1 e.1.2)
theorem QG.has {f:List Pt} (ok:bo f) {ci to:Int×Int} {L:List xE} (hL:QG f ci to L) {E:List ((Int×Int)×(Int×Int))} (h:EvL f ci to E) {e:(Int×Int)×(Int×Int)} (he:e∈E):evM e∈L:=by obtain ⟨p,r,a,b⟩:=h.ev e he;exact (hL.mem _).2 ⟨akC ok p r,a,b⟩
theorem aaJ {f:List Pt} {e g:(Int×Int)×(Int×Int)} (he:Jq f e.1 e.2) (hg:Jq f g.1 g.2) (h:evM e=evM g):e.1=g.1:=by
 unfold evM at h;injection h with h1 h;injection h with h2 h;injection h with h3 h4;have n1:=he.ne;have n2:=hg.ne;have s1:=he.Np;have s2:=hg.Np;unfold mnI at h3;unfold mxI at h4
 by_cases c:e.1.1=g.1.1
 · exact acJ c (by (repeat' split at h3)<;>(repeat' split at h4)<;>omega)
 have c1:e.1.1=g.1.2:=by (repeat' split at h3)<;>(repeat' split at h4)<;>omega
 have c2:e.1.2=g.1.1:=by (repeat' split at h3)<;>(repeat' split at h4)<;>omega
 rw [c1,c2] at s1;omega
theorem QG.more {f:List Pt} (ok:bo f) {ci to:Int×Int} {L:List xE} (hL:QG f ci to L) {E:List ((Int×Int)×(Int×Int))} (h:EvL f ci to E) (nd:(E.map fun e=>e.1).Nodup):(ahD E)<=(ahD L):=by
 have:(E.map evM).length<=(ahD L):=by
  refine List.Nodup.length_le_of_subset ?_ fun x hx=>?_
  · rw [ed] at nd ⊢
    intro i j lS hj he;rw [lw] at hj;have m1: ∀k,k<ahD E->(E.map evM)[k]! =evM E[k]!:=fun k hk=>by rw [getElem!_pos _ k (by rw [lw];exact hk),getElem!_pos E k hk,aaI]
    have m2: ∀k,k<ahD E->(E.map fun e=>e.1)[k]! =(E[k]!).1:=fun k hk=>by rw [getElem!_pos _ k (by rw [lw];exact hk),getElem!_pos E k hk,aaI]
    rw [m1 i (by omega),m1 j hj] at he;have:=nd i j lS (by rw [lw];exact hj);rw [m2 i (by omega),m2 j hj] at this;exact this (aaJ (h.ev _ (aQ (by omega))).1 (h.ev _ (aQ hj)).1 he)
  obtain ⟨e,he,rfl⟩:=PP.1 hx
  exact hL.has ok h he
 rwa [lw] at this
theorem QH {a b:Int×Int} (h: ¬dH b a<0):a.1*b.2<=b.1*a.2:=by rw [Eg] at h;exact h
theorem zj {a b:Int×Int} (h:a.1*b.2<=b.1*a.2): ¬dH b a<0:=by rw [Eg];exact h
theorem yJ {c:aH} (ok:aU c) (ld: ∀e∈c.af.ce.map fun x=>x.2,leads (bF c.ii.am e.2) (bF c.ii.am e.1) c.ci) {to:Int×Int} (rt:aW to) (lg:iI to) (le: ¬dH to c.ci<0) (io:xF c to):
 ∃x c1,gE c to=ahE (c1,c.aa.bv[0]!,x,0)/\aU c1/\c1.ii=c.ii/\fF c1=fF c+1/\Jq c.ii.am x c1.ci/\c.ci.1*c1.ci.2<c1.ci.1*c.ci.2/\c1.ci.1*to.2<=to.1*c1.ci.2:=by
 obtain ⟨i0,c',hi0,num,r1,_,_,hf,hc,ge⟩:=wX ok io.1;obtain ⟨x',c1,f1,_,pX,hf1,Ah,Pw,hn1⟩:=Ub ok rt lg le io;have hb:=ok.known i0 hi0;obtain ⟨d,hd,hn⟩:=ok.zu _ (aQ io.1);obtain ⟨y,hy,y1,y2,y3⟩:=ok.zX.io d hd;have hye:y=c.af.ce[i0]!:=Up.inj ok.sO hy (aQ hi0) (by rw [<- y1,hn,num]);subst hye;have tm:Ev.at c.aa.bv[0]! =(bk c.ii.am (c.af.ce[i0]!).2 c.ci).1:=by
  obtain ⟨w,hw,he⟩:=aO.1 y3;have hw0:w=0:=aa8 fun hx=>by refine ok.kE.nd 0 w (by omega) hw ?_;rw [he,<- hn,y1]
  subst hw0;rw [he]
 have xe:x'=(c.af.ce[i0]!).2:=by have:=yI ok rt lg le io r1;rw [f1] at this;injection this with this;injection this with _ this;injection this with _ this;injection this with this _
 obtain ⟨x,hx⟩: ∃x,x=(c.af.ce[i0]!).2:=⟨_,rfl⟩;rw [<- hx] at hb tm y2 xe;subst xe;have xm:x'∈c.af.ce.map fun x=>x.2:=PP.2 ⟨_,aQ hi0,hx.symm⟩
 have l0:=ld x' xm;have hpt:=dG ok.lq hb.2;have apo:=dG ok.lq hb.1;have nl: ¬leads (bF c.ii.am x'.1) (bF c.ii.am x'.2) c.ci:=fun h=>by have:=Ei (bF c.ii.am x'.2) (bF c.ii.am x'.1) c.ci;unfold leads at h l0;omega
 have W:bk c.ii.am x' c.ci=jN (bF c.ii.am x'.2) (bF c.ii.am x'.1) c.ci:=rfl;rw [W] at tm y2;unfold jN at tm y2;rw [ls nl] at tm y2;have sl:(bF c.ii.am x'.2).2.2<(bF c.ii.am x'.1).2.2:=by
  refine aa8 fun h=>?_
  rw [ls h] at y2;cases y2
 rw [lm sl] at tm;have tm:Ev.at c.aa.bv[0]! =met (bF c.ii.am x'.2) (bF c.ii.am x'.1):=tm;obtain ⟨_,mr,_,me⟩:=uw hpt.1 apo.1 (show (bF c.ii.am x'.2).2.2≠(bF c.ii.am x'.1).2.2 by omega);have z:xn (bF c.ii.am x'.2) (bF c.ii.am x'.1) (Ev.at c.aa.bv[0]!)=0:=by
  rw [tm];unfold xn;have:((bF c.ii.am x'.2).2.2- (bF c.ii.am x'.1).2.2)*(met (bF c.ii.am x'.2) (bF c.ii.am x'.1)).1= -((met (bF c.ii.am x'.2) (bF c.ii.am x'.1)).1*((bF c.ii.am x'.1).2.2- (bF c.ii.am x'.2).2.2)):=by rw [show (bF c.ii.am x'.2).2.2- (bF c.ii.am x'.1).2.2= -((bF c.ii.am x'.1).2.2- (bF c.ii.am x'.2).2.2) by omega,ack,ac0]
  rw [this,me];omega
 have evp:Jq c.ii.am x' (Ev.at c.aa.bv[0]!):=⟨hb,z,sl⟩;refine ⟨x',c1,f1,pX,hf1,Pw,by rw [hn1];exact evp,?_,?_⟩
 · rw [hn1]
   exact evp.later (by rw [tm];exact mr.1) ok.iL.1 l0
 rw [hn1]
 have h2:=io.2;rw [Eh] at h2;exact h2
structure QI (f:List Pt) (uG to ci:Int×Int) (E:List ((Int×Int)×(Int×Int))):Prop where
 ev: ∀e∈E,Jq f e.1 e.2/\aW e.2/\uG.1*e.2.2<e.2.1*uG.2/\e.2.1*to.2<=to.1*e.2.2/\e.2.1*ci.2<=ci.1*e.2.2
 inc:E.Pairwise fun a b=>a.2.1*b.2.2<b.2.1*a.2.2
theorem QI.nil (f:List Pt) (uG to ci:Int×Int):QI f uG to ci []:=⟨fun _ h=>by simp at h,.nil⟩
theorem QI.snoc {f:List Pt} {uG to ci t:Int×Int} {E:List ((Int×Int)×(Int×Int))} (h:QI f uG to ci E) (rn:aW ci) (r0:aW uG) {x:Int×Int} (p:Jq f x t) (r:aW t) (l0:uG.1*ci.2<=ci.1*uG.2) (l1:ci.1*t.2<t.1*ci.2) (l2:t.1*to.2<=to.1*t.2):QI f uG to t (E++[(x,t)]):=by
 refine ⟨fun e he=>?_,List.pairwise_append.2 ⟨h.inc,List.pairwise_singleton _ _,fun a ha b hb=>?_⟩⟩
 · rcases aa1.1 he with he|he
   · obtain ⟨a,b,c,d,e1⟩:=h.ev e he
     exact ⟨a,b,c,d,gH b.1 rn.1 r.1 e1 (abc l1)⟩
   obtain rfl:=UV.1 he
   exact ⟨p,r,oy r0.1 rn.1 r.1 l0 l1,l2,acl _⟩
 obtain rfl:=UV.1 hb
 obtain ⟨_,b,_,_,e1⟩:=h.ev a ha;exact oy b.1 rn.1 r.1 e1 l1
theorem QI.nodup {f:List Pt} {uG to ci:Int×Int} {E:List ((Int×Int)×(Int×Int))} (h:QI f uG to ci E):(E.map fun e=>e.1).Nodup:=by
 unfold List.Nodup;rw [adc];refine h.inc.imp_of_mem fun {a b} ha hb q e=>?_
 have:=(h.ev a ha).1.once (by rw [e];exact (h.ev b hb).1);omega
theorem QI.evL {f:List Pt} {uG to ci:Int×Int} {E:List ((Int×Int)×(Int×Int))} (h:QI f uG to ci E):EvL f uG to E:=by
 refine ⟨fun e he=>by obtain ⟨a,b,c,d,_⟩:=h.ev e he;exact ⟨a,b,c,d⟩,fun i hi=>?_⟩;have q:(E[i]!).2.1*(E[i+1]!).2.2<(E[i+1]!).2.1*(E[i]!).2.2:=by have:=ab9.1 h.inc i (i+1) (by omega) hi (by omega);rw [getElem!_pos E i (by omega),getElem!_pos E (i+1) hi];exact this
 refine ⟨abc q,fun e=>?_⟩;have:=(h.ev _ (aQ (show i<(ahD E) by omega))).1.once (by rw [e];exact (h.ev _ (aQ hi)).1);omega
structure Sys (κ:Type) where
 vv:Int×Int->aH->List (Int×Int)->Option (κ×List (Int×Int)×Int)
 Inv:aH->Prop
 set:aH->Option aH
 res:aH->κ
 zero:κ
 ok: ∀{c},Inv c->aU c
 lead: ∀{c},Inv c-> ∀e∈c.af.ce.map fun x=>x.2,leads (bF c.ii.am e.2) (bF c.ii.am e.1) c.ci
 at_: ∀{c to},Inv c->aW to->iI to-> ¬dH to c.ci<0-> ¬xF c to->Inv (BW c to)
 stop: ∀{c to out},Inv c->aW to->iI to-> ¬dH to c.ci<0-> ¬xF c to->vv to c out=ahE (res (BW c to),out,0)
 ev: ∀{c to out c1 e x},Inv c->aW to->iI to-> ¬dH to c.ci<0->xF c to->gE c to=ahE (c1,e,x,0)->aU c1->c1.ii=c.ii->ahD out+1<=1048576->
  vv to c out=match set c1 with|some c2=>vv to c2 (out++[x])|none=>ahE (zero,[],18)
 kept: ∀{c c1 c2},Inv c->aU c1->c1.ii=c.ii->set c1=ahE c2->Inv c2/\c2.ii.am=c.ii.am/\c2.ci=c1.ci/\fF c1<=fF c2
section
variable {κ : Type} (S : Sys κ)
theorem BZ {c:aH} (h:S.Inv c) {to:Int×Int} (rt:aW to) (lg:iI to) (le: ¬dH to c.ci<0) (io:xF c to):
 (∃x c2,S.Inv c2/\c2.ii.am=c.ii.am/\fF c+1<=fF c2/\Jq c.ii.am x c2.ci/\c.ci.1*c2.ci.2<c2.ci.1*c.ci.2/\c2.ci.1*to.2<=to.1*c2.ci.2/\ ∀out,ahD out+1<=1048576->S.vv to c out=S.vv to c2 (out++[x]))\/
 (∀out,ahD out+1<=1048576->S.vv to c out=ahE (S.zero,[],18)):=by
 obtain ⟨x,c1,f1,pX,hf,hr,p,l1,l2⟩:=yJ (S.ok h) (S.lead h) rt lg le io;cases hs:S.set c1 with
 |none=>right;intro out ho;have:=S.ev h rt lg le io f1 pX hf ho;rw [hs] at this;exact this
 |some c2=>left;obtain ⟨k1,k2,k3,k4⟩:=S.kept h pX hf hs;refine ⟨x,c2,k1,k2,by omega,by rw [k3];exact p,by rw [k3];exact l1,by rw [k3];exact l2,fun out ho=>?_⟩;have:=S.ev h rt lg le io f1 pX hf ho;rw [hs] at this;exact this
theorem aaK {f:List Pt} {uG to:Int×Int} (r0:aW uG) (rt:aW to) (lg:iI to): ∀(d:Nat) (c:aH) (E:List ((Int×Int)×(Int×Int))),1000000-fF c<=(d:Int)->S.Inv c->c.ii.am=f->QI f uG to c.ci E->uG.1*c.ci.2<=c.ci.1*uG.2-> ¬dH to c.ci<0->((ahD E):Int)<=fF c+200->
 S.vv to c (E.map fun e=>e.1)=ahE (S.zero,[],18)\/ ∃c2 E',S.vv to c (E.map fun e=>e.1)=ahE (S.res (BW c2 to),E'.map (fun e=>e.1),0)/\S.Inv c2/\c2.ii.am=f/\ ¬dH to c2.ci<0/\ ¬xF c2 to/\QI f uG to c2.ci E'/\((ahD E'):Int)<=fF c2+200:=by
 intro d
 induction d with
 |zero=>
  intro c E hd h hf he h0 le ho;have rb:=mj (S.ok h)
  by_cases io:xF c to
  · rcases BZ S h rt lg le io with ⟨x,c2,i2,f2,r2,p2,l1,l2,ad⟩|ad
    · have:=mj (S.ok i2);omega
    exact .inl (ad _ (by rw [lw];omega))
  exact .inr ⟨c,E,S.stop h rt lg le io,h,hf,le,io,he,ho⟩
 |succ d ih=>
  intro c E hd h hf he h0 le ho;have rb:=mj (S.ok h)
  by_cases io:xF c to
  · rcases BZ S h rt lg le io with ⟨x,c2,i2,f2,r2,p2,l1,l2,ad⟩|ad
    · rw [hf] at p2
      rw [ad _ (by rw [lw];omega),show (E.map fun e=>e.1)++[x]=(E++[(x,c2.ci)]).map (fun e=>e.1) by rw [ac2];rfl];exact ih c2 _ (by omega) i2 (f2.trans hf) (he.snoc (S.ok h).iL r0 p2 (S.ok i2).iL h0 l1 l2) (gH r0.1 (S.ok h).iL.1 (S.ok i2).iL.1 h0 (abc l1)) (zj l2) (by rw [If,ut];omega)
    exact .inl (ad _ (by rw [lw];omega))
  exact .inr ⟨c,E,S.stop h rt lg le io,h,hf,le,io,he,ho⟩
theorem Ns {t:Int×Int} (rt:aW t) (t64:iI t): ∀(d:Nat) (c:aH) (p q:List (Int×Int)),1000000-fF c<=(d:Int)->S.Inv c-> ¬dH t c.ci<0->((p++q).length:Int)<=fF c+200->
 (S.vv t c q=ahE (S.zero,[],18)/\S.vv t c (p++q)=ahE (S.zero,[],18))\/
 ∃c2 n,S.vv t c q=ahE (S.res (BW c2 t),n,0)/\S.vv t c (p++q)=ahE (S.res (BW c2 t),p++n,0)/\S.Inv c2/\ ¬dH t c2.ci<0/\ ¬xF c2 t/\((p++n).length:Int)<=1000200:=by
 intro d
 induction d with
 |zero=>
  intro c p q hd h le ho;have rb:=mj (S.ok h)
  by_cases io:xF c t
  · rcases BZ S h rt t64 le io with ⟨x,c2,i2,f2,r2,p2,l1,l2,ad⟩|ad
    · have:=mj (S.ok i2);omega
    refine .inl ⟨ad _ ?_,ad _ ?_⟩
    · rw [If] at ho;omega
    omega
  exact .inr ⟨c,q,S.stop h rt t64 le io,S.stop h rt t64 le io,h,le,io,by omega⟩
 |succ d ih=>
  intro c p q hd h le ho;have rb:=mj (S.ok h);have hq:(ahD q)<=(p++q).length:=by rw [If];omega
  by_cases io:xF c t
  · rcases BZ S h rt t64 le io with ⟨x,c2,i2,f2,r2,p2,l1,l2,ad⟩|ad
    · rw [ad q (by omega),ad (p++q) (by omega),ag7]
      exact ih c2 p (q++[x]) (by omega) i2 (zj l2) (by rw [<- ag7,If,ut];omega)
    exact .inl ⟨ad _ (by omega),ad _ (by omega)⟩
  exact .inr ⟨c,q,S.stop h rt t64 le io,S.stop h rt t64 le io,h,le,io,by omega⟩
theorem Lw {c:aH} (h:S.Inv c) {s t:Int×Int} (rs:aW s) (DW:iI s) (rt:aW t) (t64:iI t) (les: ¬dH s c.ci<0) (Lx: ¬dH t c.ci<0) (ds:xF c s) (dt:xF c t):
 (∃x c2,S.Inv c2/\c2.ii.am=c.ii.am/\fF c+1<=fF c2/\c2.ci.1*s.2<=s.1*c2.ci.2/\ ∀out,ahD out+1<=1048576->S.vv s c out=S.vv s c2 (out++[x])/\S.vv t c out=S.vv t c2 (out++[x]))\/
 (∀out,ahD out+1<=1048576->S.vv s c out=ahE (S.zero,[],18)/\S.vv t c out=ahE (S.zero,[],18)):=by
 obtain ⟨x,c1,f1,pX,hf,hr,p,l1,l2⟩:=yJ (S.ok h) (S.lead h) rs DW les ds;obtain ⟨i,c',_,_,hd,_⟩:=wX (S.ok h) ds.1;have v1:=yI (S.ok h) rs DW les ds hd;have v2:=yI (S.ok h) rt t64 Lx dt hd;have f2:gE c t=ahE (c1,c.aa.bv[0]!,x,0):=by rw [v2,<- v1,f1]
 cases hs:S.set c1 with
 |none=>right;intro out ho;have a:=S.ev h rs DW les ds f1 pX hf ho;have b:=S.ev h rt t64 Lx dt f2 pX hf ho;rw [hs] at a b;exact ⟨a,b⟩
 |some c2=>left;obtain ⟨k1,k2,k3,k4⟩:=S.kept h pX hf hs;refine ⟨x,c2,k1,k2,by omega,by rw [k3];exact l2,fun out ho=>?_⟩;have a:=S.ev h rs DW les ds f1 pX hf ho;have b:=S.ev h rt t64 Lx dt f2 pX hf ho;rw [hs] at a b;exact ⟨a,b⟩
theorem ahb {c:aH} (h:S.Inv c) {s t:Int×Int} (rs:aW s) (DW:iI s) (rt:aW t) (t64:iI t) (les: ¬dH s c.ci<0) (st: ¬dH t s<0) (ds: ¬xF c s) (dt:xF c t):
 (∃x c2,S.Inv c2/\fF c+1<=fF c2/\c2.ci.1*t.2<=t.1*c2.ci.2/\ ∀out,ahD out+1<=1048576->S.vv t c out=S.vv t c2 (out++[x])/\S.vv t (BW c s) out=S.vv t c2 (out++[x]))\/
 (∀out,ahD out+1<=1048576->S.vv t c out=ahE (S.zero,[],18)/\S.vv t (BW c s) out=ahE (S.zero,[],18)):=by
 have Lx:=BX (S.ok h).iL rs rt les st;have ha:=S.at_ h rs DW les ds;obtain ⟨x,c1,f1,pX,hf,hr,p,l1,l2⟩:=yJ (S.ok h) (S.lead h) rt t64 Lx dt;obtain ⟨i,c',_,_,hd,_⟩:=wX (S.ok h) dt.1;have hd2:=aaD (s:=s) (fS (S.ok h)) (fS (S.ok ha)) hd;have dt2:xF (BW c s) t:=dt;have v1:=yI (S.ok h) rt t64 Lx dt hd;have v2:=yI (S.ok ha) rt t64 st dt2 hd2;have f2:gE (BW c s) t=ahE (c1,c.aa.bv[0]!,x,0):=by rw [v2,<- f1,v1]
 cases hs:S.set c1 with
 |none=>right;intro out ho;have a:=S.ev h rt t64 Lx dt f1 pX hf ho;have b:=S.ev ha rt t64 st dt2 f2 pX hf ho;rw [hs] at a b;exact ⟨a,b⟩
 |some c2=>left;obtain ⟨k1,k2,k3,k4⟩:=S.kept h pX hf hs;refine ⟨x,c2,k1,by omega,by rw [k3];exact l2,fun out ho=>?_⟩;have a:=S.ev h rt t64 Lx dt f1 pX hf ho;have b:=S.ev ha rt t64 st dt2 f2 pX hf ho;rw [hs] at a b;exact ⟨a,b⟩
theorem ahc {s t:Int×Int} (rs:aW s) (DW:iI s) (rt:aW t) (t64:iI t) (st: ¬dH t s<0): ∀(d:Nat) (c:aH) (out:List (Int×Int)),1000000-fF c<=(d:Int)->S.Inv c-> ¬dH s c.ci<0->((ahD out):Int)<=fF c+200->
 (S.vv s c out=ahE (S.zero,[],18)/\S.vv t c out=ahE (S.zero,[],18))\/
 ∃c2 m,S.vv s c out=ahE (S.res (BW c2 s),m,0)/\S.Inv c2/\ ¬dH s c2.ci<0/\ ¬xF c2 s/\S.vv t c out=S.vv t c2 m/\((ahD m):Int)<=fF c2+200/\c2.ii.am=c.ii.am:=by
 intro d
 induction d with
 |zero=>
  intro c out hd h le ho;have rb:=mj (S.ok h)
  by_cases io:xF c s
  · rcases Lw S h rs DW rt t64 le (BX (S.ok h).iL rs rt le st) io (io.more (S.ok h) rs rt st) with ⟨x,c2,i2,_,r2,_,ad⟩|ad
    · have:=mj (S.ok i2);omega
    exact .inl (ad _ (by omega))
  exact .inr ⟨c,out,S.stop h rs DW le io,h,le,io,rfl,ho,rfl⟩
 |succ d ih=>
  intro c out hd h le ho;have rb:=mj (S.ok h)
  by_cases io:xF c s
  · rcases Lw S h rs DW rt t64 le (BX (S.ok h).iL rs rt le st) io (io.more (S.ok h) rs rt st) with ⟨x,c2,i2,f2,r2,l2,ad⟩|ad
    · obtain ⟨g1,g2⟩:=ad out (by omega)
      rw [g1,g2,<- f2];exact ih c2 (out++[x]) (by omega) i2 (zj l2) (by rw [If,ut];omega)
    exact .inl (ad _ (by omega))
  exact .inr ⟨c,out,S.stop h rs DW le io,h,le,io,rfl,ho,rfl⟩
theorem QJ {c:aH} (h:S.Inv c) {s t:Int×Int} (rs:aW s) (DW:iI s) (rt:aW t) (t64:iI t) (cs: ¬dH s c.ci<0) (st: ¬dH t s<0):
 (S.vv s c []=ahE (S.zero,[],18)/\S.vv t c []=ahE (S.zero,[],18))\/
 ∃c2 m,S.vv s c []=ahE (S.res (BW c2 s),m,0)/\S.Inv c2/\c2.ii.am=c.ii.am/\ ¬dH s c2.ci<0/\ ¬xF c2 s/\
  (S.vv t (BW c2 s) []=ahE (S.zero,[],18)/\S.vv t c []=ahE (S.zero,[],18)\/
  ∃c3 n,S.vv t (BW c2 s) []=ahE (S.res (BW c3 t),n,0)/\S.vv t c []=ahE (S.res (BW c3 t),m++n,0)/\S.Inv c3/\ ¬dH t c3.ci<0/\ ¬xF c3 t/\ahD m+ahD n<=1000200):=by
 have rb:=mj (S.ok h);rcases ahc S rs DW rt t64 st (1000000-fF c).toNat c [] (by omega) h cs (by simp;omega) with a|⟨c2,m,h1,h2,h3,h4,h5,h6,h7⟩
 · exact .inl a
 refine .inr ⟨c2,m,h1,h2,h7,h3,h4,?_⟩;have rb2:=mj (S.ok h2);have ct:=BX (S.ok h2).iL rs rt h3 st
 by_cases io:xF c2 t
 · rcases ahb S h2 rs DW rt t64 h3 st h4 io with ⟨x,c3,i3,r3,l3,ad⟩|ad
   · have g1:=(ad [] (by decide)).2
     have g2:=(ad m (by omega)).1;rcases Ns S rt t64 (1000000-fF c3).toNat c3 m [x] (by omega) i3 (zj l3) (by rw [If,ut];omega) with ⟨p1,p2⟩|⟨c4,n,p1,p2,p3,p4,p5,p6⟩
     · exact .inl ⟨by rw [g1];exact p1,by rw [h5,g2];exact p2⟩
     exact .inr ⟨c4,n,by rw [g1];exact p1,by rw [h5,g2];exact p2,p3,p4,p5,by rw [If] at p6;omega⟩
   exact .inl ⟨(ad [] (by decide)).2,by rw [h5];exact (ad m (by omega)).1⟩
 refine .inr ⟨c2,[],S.stop (S.at_ h2 rs DW h3 h4) rt t64 st io,?_,h2,ct,io,by simp;omega⟩
 rw [h5,AC];exact S.stop h2 rt t64 ct io
end
theorem aaL {s t:Int×Int} (DW:iI s) (t64:iI t):wG s t=ahE (if aW s/\aW t then 0 else 8):=by
 unfold wG
 by_cases rs:aW s
 · rw [lM DW,lm rs,ao,bL rfl,lc,lM t64,ao]
   by_cases rt:aW t
   · rw [lm rt,lm ⟨rs,rt⟩]
   rw [ls rt,ls fun h=>rt h.2]
 rw [lM DW,ls rs,ao,ls fun h=>rs h.1];rfl
theorem abY {a b:Int×Int} (h: ¬0<dH a b): ¬dH b a<0:=fun q=>h (by rw [rH] at q;unfold dH;rcases cM (a.1*b.2) (b.1*a.2) with ⟨x,y⟩|⟨x,y⟩|⟨x,y⟩<;>omega)
def Nt (l:List (Int×Int)) (L:List xE) (i k:Nat):Prop:= ∃j,j<k/\(L[j]!).2.2.1=mnI (l[i]!).1 (l[i]!).2/\(L[j]!).2.2.2=mxI (l[i]!).1 (l[i]!).2
theorem B0 {l:List (Int×Int)} {L:List xE} {i k:Nat}:Nt l L i (k+1)↔Nt l L i k\/((L[k]!).2.2.1=mnI (l[i]!).1 (l[i]!).2/\(L[k]!).2.2.2=mxI (l[i]!).1 (l[i]!).2):=by
 constructor
 · rintro ⟨j,hj,h⟩
   by_cases e:j=k
   · subst e;exact .inr h
   exact .inl ⟨j,by omega,h⟩
 rintro (⟨j,hj,h⟩|h)
 · exact ⟨j,by omega,h⟩
 exact ⟨k,by omega,h⟩
theorem Ug (b0:Bool) (l:List (Int×Int)) (L:List xE) (hL:(ahD L)<=5000) (hl:(ahD l)<=5000) {i:Nat} (hi:i<ahD l) (h:Nt l L i (ahD L)) (hn:l[i]!∉l.take i):
 dE (b0,l,L,(i:Int))=ahE (.next (b0,l,L,((i+1:Nat):Int))):=by
 unfold dE;simp only [ay];rw [aI (show (i:Int)<((ahD l):Int) by omega),kw];have gi:=aq l i hi;have st:=bD (body:=iD) (fun k=>(b0,l,L,(i:Int),ahH (Nt l L i k),(k:Int))) (ahD L) (fun k hk=>by
  unfold iD;simp only [ay,aI (show (k:Int)<((ahD L):Int) by omega),kw,aq L k hk,gi,ao,aT (show k<1000000000 by omega)]
  by_cases q:Nt l L i k
  · rw [aI q,kw,aI (B0.2 (.inl q))]
  rw [aD q,lc]
  rw [show (if (l[i]!).2<(l[i]!).1 then (l[i]!).2 else (l[i]!).1)=mnI (l[i]!).1 (l[i]!).2 from rfl,show (if (l[i]!).2>(l[i]!).1 then (l[i]!).2 else (l[i]!).1)=mxI (l[i]!).1 (l[i]!).2 from rfl]
  by_cases c:(L[k]!).2.2.1=mnI (l[i]!).1 (l[i]!).2
  · rw [dL c,kw]
    by_cases d:(L[k]!).2.2.2=mxI (l[i]!).1 (l[i]!).2
    · rw [dL d,aI (B0.2 (.inr ⟨c,d⟩))]
    rw [dB d,aD (fun x=>(B0.1 x).elim q (fun y=>d y.2))]
  rw [dB c,lc,aD (fun x=>(B0.1 x).elim q (fun y=>c y.1))])
 rw [show (b0,l,L,(i:Int),ahG,(0:Int))=(b0,l,L,(i:Int),ahH (Nt l L i 0),((0:Nat):Int)) by rw [aD (fun ⟨_,h,_⟩=>Nat.not_lt_zero _ h)];rfl,st];refine aC ?_;unfold iD;simp only [ay,aD (show¬((ahD L):Int)<((ahD L):Int) by omega),lc,aI h,aa3,kN l i (by omega),gi,ao,yG (l.take i) _ (by rw [ww];omega),aD hn,aT (show i<1000000000 by omega)]
theorem aaM (b0:Bool) (l:List (Int×Int)) (L:List xE) (hL:(ahD L)<=5000) (hl:(ahD l)<=5000) (h: ∀i,i<ahD l->Nt l L i (ahD L)) (nd:l.Nodup):aB dE (b0,l,L,0)=ahE b0:=by
 have st:=bD (body:=dE) (fun i=>(b0,l,L,(i:Int))) (ahD l) (fun i hi=>Ug b0 l L hL hl hi (h i hi) (fun hm=>by
  obtain ⟨j,hj,e⟩:=aO.1 hm;rw [ww] at hj;have e2:(l.take i)[j]! =l[j]!:=by rw [getElem!_pos _ j (by rw [ww];exact hj),ag2,getElem!_pos l j (by omega)]
  rw [e2] at e;exact ed.1 nd j i (by omega) hi e))
 refine (show _=_ from st).trans (aC ?_);unfold dE;simp only [ay,aD (show¬((ahD l):Int)<((ahD l):Int) by omega),lc]
theorem ahd {f:List Pt} (dK:bo f) {ci to n2:Int×Int} {L:List xE} (hL:QG f ci to L) {E:List ((Int×Int)×(Int×Int))} (h:QI f ci to n2 E) (_:(ahD E)<=1000400):
 (E.map fun e=>e.1).length<=ahD L/\ ∀b0,aB dE (b0,E.map (fun e=>e.1),L,0)=ahE b0:=by
 have more:=hL.more dK h.evL h.nodup;have len:=hL.len;refine ⟨by rw [lw];exact more,fun b0=>aaM b0 _ L hL.len (by rw [lw];omega) (fun i hi=>?_) h.nodup⟩;rw [lw] at hi;have m:(E.map fun e=>e.1)[i]! =(E[i]!).1:=by rw [getElem!_pos _ i (by rw [lw];exact hi),getElem!_pos E i hi,aaI]
 obtain ⟨j,hj,e⟩:=aO.1 (hL.has dK h.evL (aQ hi));refine ⟨j,hj,?_,?_⟩
 · rw [e,m];rfl
 rw [e,m];rfl
noncomputable def fw (P:Int->Int->Prop):List Int->Int
 | []=>0
 |x::r=>r.foldl (fun t y=>if P y t then y else t) x
noncomputable def iJ (bit:Int->Nat->Nat) (l:List Int) (jR:Int) (d b:Nat):List Int:=l.filter fun x=>decide (x≠jR/\bit x d=b)
noncomputable def eb (P:Int->Int->Prop) (bit:Int->Nat->Nat):Nat->List Int->Int->Nat->List (Int×Int)
 |0,_,_,_=>[]
 |_+1,[],_,_=>[]
 |n+1,x::r,u,d=>(fw P (x::r),u)::(eb P bit n (iJ bit (x::r) (fw P (x::r)) d 0) (fw P (x::r)) (d+1)++eb P bit n (iJ bit (x::r) (fw P (x::r)) d 1) (fw P (x::r)) (d+1))
section
variable {P : Int -> Int -> Prop} {S : Int -> Prop} {bit : Int -> Nat -> Nat}
theorem Gx (o : SO P S) : ∀ (r : List Int) (x : Int), S x -> (∀ y ∈ r, S y) -> (r.foldl (fun t y => if P y t then y else t) x = x \/ r.foldl (fun t y => if P y t then y else t) x ∈ r) /\
    ¬ P x (r.foldl (fun t y => if P y t then y else t) x) /\ ∀ y ∈ r, ¬ P y (r.foldl (fun t y => if P y t then y else t) x)
  | [], x, hx, _ => ⟨.inl rfl, o.irr x hx, fun y h => by cases h⟩
  | z :: r, x, hx, hr => by
    rw [ah6]
    have hz := hr z v6
    have Q0 : ∀ y ∈ r, S y := fun y hy => hr y (pp _ hy)
    by_cases c : P z x
    · rw [lm c]
      obtain ⟨a1, a2, a3⟩ := Gx o r z hz Q0
      have hT : S (r.foldl (fun t y => if P y t then y else t) z) := by
        rcases a1 with e | e
        · rw [e]; exact hz
        exact Q0 _ e
      refine ⟨.inr (by rcases a1 with e | e; · rw [e]; exact v6
                       exact pp _ e), ?_, fun y hy => ?_⟩
      · exact o.ntr hx hz hT (o.asym hz hx c) a2
      rcases aaH.1 hy with rfl | hy
      · exact a2
      exact a3 y hy
    rw [ls c]
    obtain ⟨a1, a2, a3⟩ := Gx o r x hx Q0
    have hT : S (r.foldl (fun t y => if P y t then y else t) x) := by
      rcases a1 with e | e
      · rw [e]; exact hx
      exact Q0 _ e
    refine ⟨a1.imp id (pp _), a2, fun y hy => ?_⟩
    rcases aaH.1 hy with rfl | hy
    · exact o.ntr hz hx hT c a2
    exact a3 y hy
theorem py (o:SO P S) {l:List Int} (h0:l≠[]) (hS: ∀x∈l,S x):fw P l∈l/\ ∀y∈l,¬P y (fw P l):=by
 cases l with
 |nil=>exact absurd rfl h0
 |cons x r=>
  obtain ⟨a1,a2,a3⟩:=Gx o r x (hS x v6) (fun y hy=>hS y (pp _ hy));refine ⟨?_,fun y hy=>?_⟩
  · rcases a1 with e|e
    · show r.foldl _ x∈_;rw [e];exact v6
    exact pp _ e
  rcases aaH.1 hy with rfl|hy
  · exact a2
  exact a3 y hy
theorem Gy (o:SO P S) {l:List Int} (hS: ∀x∈l,S x) {a:Int} (ha:a∈l) (h: ∀y∈l,¬P y a):fw P l=a:=by
 obtain ⟨b1,b2⟩:=py o (acy ha) hS;rcases ahz (fw P l=a) with e|e
 · exact e
 rcases o.UB _ _ (hS _ b1) (hS _ ha) e with k|k
 · exact absurd k (h _ b1)
 exact absurd k (b2 _ ha)
theorem QK (o:SO P S) {l l':List Int} (hS: ∀x∈l,S x) (p:l.Perm l'):fw P l=fw P l':=by
 by_cases h0:l=[]
 · subst h0;rw [ahx.1 p]
 have h0':l'≠[]:=fun e=>by subst e;exact h0 (List.perm_nil.1 p)
 obtain ⟨b1,b2⟩:=py o h0' (fun x hx=>hS x (p.mem_iff.2 hx));exact Gy o hS (p.mem_iff.2 b1) fun y hy=>b2 y (p.mem_iff.1 hy)
theorem eQ {l:List Int} {jR:Int} {d b:Nat} {x:Int}:x∈iJ bit l jR d b↔x∈l/\x≠jR/\bit x d=b:=by unfold iJ;rw [ac7,decide_eq_true_iff]
theorem rT {l:List Int} {jR:Int} (h:jR∈l) (d b:Nat):(iJ bit l jR d b).length<(ahD l):=by unfold iJ;refine List.length_filter_lt_length_iff_exists.2 ⟨jR,h,?_⟩;simp
theorem nG {l:List Int} (h:l.Nodup) (jR:Int) (d b:Nat):(iJ bit l jR d b).Nodup:=h.filter _
theorem AT (o:SO P S): ∀(n:Nat) (l l':List Int) (u:Int) (d:Nat),(∀x∈l,S x)->l.Perm l'->eb P bit n l u d=eb P bit n l' u d
 |0,_,_,_,_,_,_=>by simp only [eb]
 |n+1,[],l',u,d,_,p=>by rw [ahx.1 p]
 |n+1,x::r,[],u,d,_,p=>by have:=p.length_eq;simp at this
 |n+1,x::r,y::q,u,d,hS,p=>by
  have e:=QK o hS p;simp only [eb];rw [<- e];have sp: ∀b,(iJ bit (x::r) (fw P (x::r)) d b).Perm (iJ bit (y::q) (fw P (x::r)) d b):=fun b=>p.filter _
  rw [AT o n _ _ (fw P (x::r)) (d+1) (fun z hz=>hS z (eQ.1 hz).1) (sp 0),AT o n _ _ (fw P (x::r)) (d+1) (fun z hz=>hS z (eQ.1 hz).1) (sp 1)]
theorem Gz {α:Type} [BEq α] [LawfulBEq α]: ∀{a b:List α},a.Nodup->(∀x∈a,x∈b)->ahD a<=ahD b
 | [],_,_,_=>Nat.zero_le _
 |x::a,b,hd,h=>by rw [aba] at hd;have hx:=h x v6;have:=Gz (a:=a) (b:=b.erase x) hd.2 (fun y hy=>by rw [List.mem_erase_of_ne (fun e=>hd.1 (by rw [<- e];exact hy))];exact h y (pp _ hy));rw [List.length_erase_of_mem hx] at this;have:=List.length_pos_of_mem hx;rw [NE];omega
theorem wZ (o:SO P S) (hb: ∀x d,bit x d<2): ∀(n:Nat) (l:List Int) (u:Int) (d:Nat),(∀x∈l,S x)->l.Nodup->ahD l<=n->((eb P bit n l u d).map fun e=>e.1).Perm l/\ ∀e∈eb P bit n l u d,e.2=u\/(e.2∈l/\P e.2 e.1)
 |0,l,u,d,_,_,h=>by have:l=[]:=abU.1 (by omega);subst this;exact ⟨ahu _,fun e he=>by simp only [eb] at he;cases he⟩
 |n+1,[],u,d,_,_,_=>⟨ahu _,fun e he=>by simp only [eb] at he;cases he⟩
 |n+1,x::r,u,d,hS,nd,h=>by
  obtain ⟨t1,t2⟩:=py o (abm x r) hS;have ih: ∀b,_:=fun b=>wZ o hb n (iJ bit (x::r) (fw P (x::r)) d b) (fw P (x::r)) (d+1) (fun z hz=>hS z (eQ.1 hz).1) (nG nd _ d b) (by have:=rT (bit:=bit) t1 d b;omega)
  have pb: ∀b,∀e∈eb P bit n (iJ bit (x::r) (fw P (x::r)) d b) (fw P (x::r)) (d+1),e.2∈x::r/\P e.2 e.1:=fun b e he=>by
   have k:e.1∈iJ bit (x::r) (fw P (x::r)) d b:=(ih b).1.mem_iff.1 (PP.2 ⟨e,he,rfl⟩);rcases (ih b).2 e he with q|⟨q1,q2⟩
   · rw [q]
     refine ⟨t1,?_⟩;obtain ⟨k1,k2,_⟩:=eQ.1 k;rcases o.UB _ _ (hS _ t1) (hS _ k1) (fun e=>k2 e.symm) with w|w
     · exact w
     exact absurd w (t2 _ k1)
   exact ⟨(eQ.1 q1).1,q2⟩
  refine ⟨?_,fun e he=>?_⟩
  · simp only [eb,abn,ac2]
    refine (List.Perm.cons _ ((ih 0).1.append (ih 1).1)).trans ?_;refine sQ (aba.2 ⟨fun hm=>?_,ag8.2 ⟨nG nd _ d 0,nG nd _ d 1,fun a ha b zz e=>?_⟩⟩) (fun y hy=>?_) ?_
    · rcases aa1.1 hm with hm|hm<;>exact (eQ.1 hm).2.1 rfl
    · have w1:=(eQ.1 ha).2.2
      have w2:=(eQ.1 zz).2.2;rw [e,w2] at w1;omega
    · rcases aaH.1 hy with rfl|hy
      · exact t1
      rcases aa1.1 hy with hy|hy<;>exact (eQ.1 hy).1
    have sub:(x::r).length<=(fw P (x::r)::(iJ bit (x::r) (fw P (x::r)) d 0++iJ bit (x::r) (fw P (x::r)) d 1)).length:=Gz nd fun y hy=>by
     by_cases c:y=fw P (x::r)
     · rw [c];exact v6
     refine pp _ (aa1.2 ?_)
     have:=hb y d
     by_cases z:bit y d=0
     · exact .inl (eQ.2 ⟨hy,c,z⟩)
     exact .inr (eQ.2 ⟨hy,c,by omega⟩)
    exact sub
  simp only [eb] at he
  rcases aaH.1 he with rfl|he
  · exact .inl rfl
  rcases aa1.1 he with he|he
  · exact .inr (pb 0 e he)
  exact .inr (pb 1 e he)
theorem DE {Q : Int -> Int -> Prop} (o : SO P S) (q : SO Q S) (hb : ∀ x d, bit x d < 2) : ∀ (n : Nat) (l : List Int) (u : Int) (d : Nat), (∀ x ∈ l, S x) -> l.Nodup -> (ahD l) <= n ->
    (∀ e ∈ eb P bit n l u d, e.2 = u \/ Q e.2 e.1) -> u ∉ l -> eb Q bit n l u d = eb P bit n l u d /\ ∀ y ∈ l, y = fw P l \/ Q (fw P l) y
  | 0, l, u, d, _, _, h, _, _ => by
    have : l = [] := abU.1 (by omega)
    subst this
    exact ⟨by simp only [eb], fun y hy => by cases hy⟩
  | n + 1, [], u, d, _, _, _, _, _ => ⟨by simp only [eb], fun y hy => by cases hy⟩
  | n + 1, x :: r, u, d, hS, nd, h, hQ, hu => by
    obtain ⟨t1, t2⟩ := py o (abm x r) hS
    simp only [eb] at hQ
    have ne : ∀ b, ∀ e ∈ eb P bit n (iJ bit (x :: r) (fw P (x :: r)) d b) (fw P (x :: r)) (d + 1), e.2 ≠ u := fun b e he w => by
      obtain ⟨_, k2⟩ := wZ o hb n (iJ bit (x :: r) (fw P (x :: r)) d b) (fw P (x :: r)) (d + 1) (fun z hz => hS z (eQ.1 hz).1) (nG nd _ d b) (by have := rT (bit := bit) t1 d b; omega)
      rcases k2 e he with k | ⟨k, _⟩
      · exact hu (by rw [<- w, k]; exact t1)
      exact hu (by rw [<- w]; exact (eQ.1 k).1)
    have ih : ∀ b, b = 0 \/ b = 1 -> _ := fun b L7 => DE o q hb n (iJ bit (x :: r) (fw P (x :: r)) d b) (fw P (x :: r)) (d + 1) (fun z hz => hS z (eQ.1 hz).1) (nG nd _ d b) (by have := rT (bit := bit) t1 d b; omega)
      (fun e he => by
        have := hQ e (pp _ (aa1.2 (by rcases L7 with rfl | rfl; exact .inl he; exact .inr he)))
        exact .inr (this.resolve_left (ne b e he))) (fun hm => (eQ.1 hm).2.1 rfl)
    have ahead : ∀ y ∈ x :: r, y = fw P (x :: r) \/ Q (fw P (x :: r)) y := fun y hy => by
      by_cases c : y = fw P (x :: r)
      · exact .inl c
      right
      have hbd := hb y d
      have L7 : bit y d = 0 \/ bit y d = 1 := by omega
      have ym : y ∈ iJ bit (x :: r) (fw P (x :: r)) d (bit y d) := eQ.2 ⟨hy, c, rfl⟩
      have sm : ∀ z ∈ iJ bit (x :: r) (fw P (x :: r)) d (bit y d), S z := fun z hz => hS z (eQ.1 hz).1
      have st := (py o (acy ym) sm).1
      have akD : Q (fw P (x :: r)) (fw P (iJ bit (x :: r) (fw P (x :: r)) d (bit y d))) := by
        have hm : (fw P (iJ bit (x :: r) (fw P (x :: r)) d (bit y d)), fw P (x :: r)) ∈ eb P bit n (iJ bit (x :: r) (fw P (x :: r)) d (bit y d)) (fw P (x :: r)) (d + 1) := by
          have hl := rT (bit := bit) t1 d (bit y d)
          generalize hs : iJ bit (x :: r) (fw P (x :: r)) d (bit y d) = s at *
          cases s with
          | nil => cases ym
          | cons a s =>
            cases n with
            | zero => simp at h hl; subst h; simp at hl
            | succ n => simp only [eb]; exact v6
        have zF : (fw P (iJ bit (x :: r) (fw P (x :: r)) d (bit y d)), fw P (x :: r)) ∈ eb P bit n (iJ bit (x :: r) (fw P (x :: r)) d 0) (fw P (x :: r)) (d + 1) ++ eb P bit n (iJ bit (x :: r) (fw P (x :: r)) d 1) (fw P (x :: r)) (d + 1) := by
          refine aa1.2 ?_
          rcases L7 with e | e
          · rw [e] at hm ⊢; exact .inl hm
          rw [e] at hm ⊢; exact .inr hm
        have := hQ _ (pp _ zF)
        exact this.resolve_left (fun w => hu (by rw [<- w]; exact t1))
      rcases (ih (bit y d) L7).2 y ym with e | e
      · rw [e]; exact akD
      exact q.tr _ _ _ (hS _ t1) (sm _ st) (hS _ hy) akD e
    refine ⟨?_, ahead⟩
    have te : fw Q (x :: r) = fw P (x :: r) := Gy q hS t1 fun y hy w => by
      rcases ahead y hy with e | e
      · rw [e] at w; exact q.irr _ (hS _ t1) w
      exact q.asym (hS _ t1) (hS _ hy) e w
    simp only [eb]
    rw [te, (ih 0 (.inl rfl)).1, (ih 1 (.inr rfl)).1]
end
theorem Ly {α:Type} (z:α): ∀(l:List (Int×α)) (k:Int) (a:α) (j:Int),jr z (k7 l k a) j=if j=k then a else jr z l j
 | [],k,a,j=>by
  simp only [k7,jr]
  by_cases h:j=k
  · rw [lm h,dL h];rfl
  rw [ls h,dB h];rfl
 |p::l,k,a,j=>by
  simp only [k7]
  by_cases h:k=p.1
  · rw [dL h,kw]
    simp only [jr]
    by_cases c:j=k
    · rw [lm c,dL c];rfl
    rw [ls c,dB c,lc,dB (by rw [<- h];exact c),lc]
  rw [dB h,lc]
  simp only [jr];rw [Ly z l k a j]
  by_cases c:j=p.1
  · rw [dL c,kw,kw,ls (by rw [c];exact fun e=>h e.symm)]
  rw [dB c,lc,lc]
def iZ (m:List (Int×Int)) (l:List (Int×Int)):List (Int×Int):=l.foldl (fun m e=>k7 m e.1 e.2) m
theorem DF (m l l':List (Int×Int)):iZ m (l++l')=iZ (iZ m l) l':=agd ..
theorem Lz: ∀(l m:List (Int×Int)) (j:Int),(l.map fun e=>e.1).Nodup->jr 0 (iZ m l) j=if j∈l.map fun e=>e.1 then jr 0 l j else jr 0 m j
 | [],m,j,_=>by simp only [iZ,List.foldl_nil,ahB,agY,if_false]
 |e::l,m,j,nd=>by
  obtain ⟨h1,h2⟩:=aba.1 (by simpa using nd:(e.1::l.map fun e=>e.1).Nodup);show jr 0 (iZ (k7 m e.1 e.2) l) j=_;rw [Lz l _ j h2,Ly];simp only [abn,aaH,jr]
  by_cases c:j=e.1
  · rw [ls (by rw [c];exact h1),lm c,lm (.inl c),dL c];rfl
  rw [ls c,dB c,lc]
  by_cases d:j∈l.map fun e=>e.1
  · rw [lm d,lm (.inr d)]
  rw [ls d,ls (fun h=>h.elim c d)]
theorem B2: ∀{l:List (Int×Int)} {j v:Int},(l.map fun e=>e.1).Nodup->(j,v)∈l->jr 0 l j=v
 |e::l,j,v,nd,h=>by
  obtain ⟨h1,h2⟩:=aba.1 (by simpa using nd:(e.1::l.map fun e=>e.1).Nodup);simp only [jr];rcases aaH.1 h with rfl|h
  · rw [dL rfl];rfl
  have:j≠e.1:=fun c=>h1 (by rw [<- c];exact PP.2 ⟨_,h,rfl⟩)
  rw [dB this,lc];exact B2 h2 h
def kF (x:Int) (d:Nat):Nat:=x.toNat / 2^(min d 64)%2
theorem B3 (x:Int) (d:Nat):kF x d<2:=Nat.mod_lt _ (by omega)
noncomputable def lR (f:List Pt) (t:Int×Int):List (Int×Int):=eb (jP f t) kF (ahD f) (mu f) (-1) 0
noncomputable def kG (f:List Pt) (t:Int×Int):List Int:=f.map fun p=>jr 0 (lR f t) p.1
def c6 (f:List Pt) (U:List Int):Nat->List (Int×Int)
 |0=>[]
 |i+1=>c6 f U i++(if 0<=U[i]! then [((f[i]!).1,U[i]!)] else [])
section
variable {f : List Pt} {t : Int × Int}
theorem sR (dK:bo f):((lR f t).map fun e=>e.1).Perm (mu f)/\ ∀e∈lR f t,e.2= -1\/(e.2∈mu f/\jP f t e.2 e.1):=
 wZ (wY dK.2.2 t) B3 (ahD f) (mu f) (-1) 0 (fun x hx=>lh.1 hx) (mh dK.2.2) (by unfold mu;rw [lw];exact EQ _)
theorem zk (f:List Pt) (t:Int×Int):(kG f t).length=(ahD f):=lw ..
theorem Jb {i:Nat} (hi:i<ahD f):(kG f t)[i]! =jr 0 (lR f t) (f[i]!).1:=by unfold kG;rw [getElem!_pos _ i (by rw [lw];exact hi),aaI,getElem!_pos f i hi]
theorem aaN (dK:bo f) {i:Nat} (hi:i<ahD f):((f[i]!).1,(kG f t)[i]!)∈lR f t:=by obtain ⟨h1,_⟩:=sR (t:=t) dK;obtain ⟨e,he,h2⟩:=PP.1 (h1.mem_iff.2 (lh.2 ⟨i,hi,rfl⟩));have nd:=h1.nodup_iff.2 (mh dK.2.2);rw [Jb hi,<- h2,B2 nd (show (e.1,e.2)∈lR f t from he)];exact he
theorem ahe (dK:bo f) {i:Nat} (hi:i<ahD f):(kG f t)[i]! = -1\/(0<=(kG f t)[i]!/\nI f (kG f t)[i]!/\(kG f t)[i]!≠(f[i]!).1/\leads (bF f (kG f t)[i]!) f[i]! t):=by
 rcases (sR (t:=t) dK).2 _ (aaN dK hi) with h|⟨h1,h2⟩
 · exact .inl h
 have hp:=lh.1 h1
 have hp:nI f (kG f t)[i]!:=hp;have pk:=dG dK hp;have h2:leads (bF f (kG f t)[i]!) (bF f (f[i]!).1) t:=h2;rw [rJ dK.2.2 hi rfl] at h2;refine .inr ⟨?_,hp,fun e=>?_,h2⟩
 · have:=pk.1.1
   rw [pk.2] at this;exact this
 have:bF f (kG f t)[i]! =f[i]!:=by rw [e,rJ dK.2.2 hi rfl]
 rw [this] at h2;exact tT h2 h2
theorem w5 {U:List Int}: ∀{n:Nat} {e:Int×Int},e∈c6 f U n↔ ∃i,i<n/\0<=U[i]!/\e=((f[i]!).1,U[i]!)
 |0,e=>by
  constructor
  · intro h;cases h
  rintro ⟨i,h,_⟩;omega
 |n+1,e=>by
  rw [c6,aa1,w5];constructor
  · rintro (⟨i,h1,h2,h3⟩|h)
    · exact ⟨i,by omega,h2,h3⟩
    split at h
    · rename_i hc;exact ⟨n,by omega,hc,UV.1 h⟩
    cases h
  rintro ⟨i,h1,h2,h3⟩
  by_cases c:i=n
  · subst c;rw [lm h2];exact .inr (UV.2 h3)
  exact .inl ⟨i,by omega,h2,h3⟩
theorem pz (U:List Int): ∀n,(c6 f U n).length<=n
 |0=>EQ _
 |n+1=>by
  have:=pz U n;rw [c6,If];split
  · rw [ut];omega
  rw [List.length_nil];omega
theorem B4 (hs:fa f) (U:List Int): ∀n,n<=ahD f->(c6 f U n).Nodup
 |0,_=>ahv
 |n+1,h=>by
  rw [c6];refine ag8.2 ⟨B4 hs U n (by omega),by split<;>simp,fun a ha b hb e=>?_⟩;obtain ⟨i,h1,_,h3⟩:=w5.1 ha;split at hb
  · have hb:=UV.1 hb
    rw [hb] at e;rw [h3] at e;have:(f[i]!).1=(f[n]!).1:=by injection e
    have:=pj hs h1 h;omega
  cases hb
theorem vw (dK:bo f):Ed f (c6 f (kG f t) (ahD f))/\(c6 f (kG f t) (ahD f)).Nodup/\ ∀e∈c6 f (kG f t) (ahD f),leads (bF f e.2) (bF f e.1) t:=by
 have f1:=dK.1;have el:=pz (f:=f) (kG f t) (ahD f);have key: ∀e∈c6 f (kG f t) (ahD f),iz f e/\e.1≠e.2/\leads (bF f e.2) (bF f e.1) t:=fun e he=>by
  obtain ⟨i,hi,h0,rfl⟩:=w5.1 he;rcases ahe (t:=t) dK hi with h|⟨_,h2,h3,h4⟩
  · omega
  exact ⟨⟨⟨i,hi,rfl⟩,h2⟩,fun e=>h3 e.symm,by rw [rJ dK.2.2 hi rfl];exact h4⟩
 refine ⟨⟨by omega,fun e he=>?_,fun e he=>(key e he).1⟩,B4 dK.2.2 _ _ (EQ _),fun e he=>(key e he).2.2⟩;obtain ⟨hb,ne,_⟩:=key e he;obtain ⟨⟨p1,p2⟩,q1,q2⟩:=And.intro (dG dK hb.1) (dG dK hb.2);unfold eZ at p1 q1;unfold eO;omega
theorem QL (dK:bo f) {t':Int×Int} (h: ∀e∈c6 f (kG f t) (ahD f),leads (bF f e.2) (bF f e.1) t'):kG f t'=kG f t:=by
 have so:=wY dK.2.2 t;have so':=wY dK.2.2 t';have hS: ∀x∈mu f,nI f x:=fun x hx=>lh.1 hx
 have e:=(DE so so' B3 (ahD f) (mu f) (-1) 0 hS (mh dK.2.2) (by unfold mu;rw [lw];exact EQ _) (fun e he=>by
  rcases (sR (t:=t) dK).2 e he with k|⟨k1,k2⟩
  · exact .inl k
  · right
    have hk:e.1∈mu f:=(sR (t:=t) dK).1.mem_iff.1 (PP.2 ⟨e,he,rfl⟩);obtain ⟨i,hi,ei⟩:=lh.1 hk;have nd:=(sR (t:=t) dK).1.nodup_iff.2 (mh dK.2.2);have ui:(kG f t)[i]! =e.2:=by rw [Jb hi,ei];exact B2 nd he
    have p0:=dG dK (hS _ k1);have p1:=p0.1.1;rw [p0.2] at p1;have:=h ((f[i]!).1,(kG f t)[i]!) (w5.2 ⟨i,hi,by rw [ui];exact p1,rfl⟩);rw [ui,ei] at this;exact this) (fun hm=>by
  have p0:=dG dK (hS _ hm);have p1:=p0.1.1;rw [p0.2] at p1;exact absurd p1 (by decide))).1
 unfold kG;rw [show lR f t'=lR f t from e]
end
theorem Uh {x:Int} (h0:0<=x) (d:Nat):hZ .i64 x (d:Int)=((x.toNat / 2^(min d 64):Nat):Int):=by
 unfold hZ;rw [show (IntKind.bits .i64)=64 from rfl,aak,Int.fdiv_eq_ediv_of_nonneg _ (abc (Int.pow_pos (by decide)))];obtain ⟨n,rfl⟩: ∃n:Nat,x=(n:Int):=⟨x.toNat,by omega⟩;rw [aak]
 norm_cast
theorem aaO {n:Nat} (h:n<9223372036854775808):oP .i64 (n:Int) 1=((n%2:Nat):Int):=by
 unfold oP;have e:(BitVec.ofInt (IntKind.bits .i64) (n:Int)&&&BitVec.ofInt (IntKind.bits .i64) 1).toNat=n%2:=by
  rw [BitVec.toNat_and,BitVec.toNat_ofInt,BitVec.toNat_ofInt];rw [show (IntKind.bits .i64)=64 from rfl];have e64:((2^64:Nat):Int)=18446744073709551616:=rfl;have e1:((n:Int)%((2^64:Nat):Int)).toNat=n:=by rw [e64];omega
  have e2:((1:Int)%((2^64:Nat):Int)).toNat=1:=by rw [e64];rfl
  rw [e1,e2,Nat.and_one_is_mod]
 rw [e];have:=Nat.mod_lt n (show 0<2 by decide);have c:n%2=0\/n%2=1:=by omega
 rcases c with c|c<;>rw [c]<;>rfl
theorem OW {x:Int} (h0:0<=x) (h1:x<=65535) (d:Nat):oP .i64 (hZ .i64 x (d:Int)) 1=(kF x d:Int):=by
 rw [Uh h0,aaO]
 · rfl
 have:=Nat.div_le_self x.toNat (2^(min d 64));omega
theorem aaP {x:Int} (h0:0<=x) (d:Nat):Int.tmod (hZ .i64 x (d:Int)) 2=(kF x d:Int):=by rw [Uh h0];show Int.tmod _ ((2:Nat):Int)=_;rw [<- Int.ofNat_tmod];rfl
section
variable {f : List Pt} {t : Int × Int}
noncomputable def eG (t:Int×Int) (r:List Pt) (x:Pt):Pt:=r.foldl (fun a p=>if leads p a t then p else a) x
theorem Ej (dK:bo f): ∀(r:List Pt) (x:Pt),x∈f->(∀p∈r,p∈f)->(eG t r x).1=(r.map fun p=>p.1).foldl (fun a y=>if jP f t y a then y else a) x.1/\eG t r x∈f
 | [],x,hx,_=>⟨rfl,hx⟩
 |p::r,x,hx,hr=>by
  have hp:=hr p v6;have e:jP f t p.1 x.1↔leads p x t:=by show leads (bF f p.1) (bF f x.1) t↔_;rw [Gu dK.2.2 hp,Gu dK.2.2 hx]
  show (eG t r (if leads p x t then p else x)).1=_/\eG t r (if leads p x t then p else x)∈f;rw [abn,ah6]
  by_cases c:leads p x t
  · rw [lm c,lm (e.2 c)];exact Ej dK r p hp fun q hq=>hr q (pp _ hq)
  rw [ls c,ls (fun k=>c (e.1 k))];exact Ej dK r x hx fun q hq=>hr q (pp _ hq)
def dw (l:List Pt) (jR:Int) (d b:Nat):List Pt:=l.filter fun p=>decide (p.1≠jR)&&ahH (kF p.1 d=b)
theorem pA (l:List Pt) (jR:Int) (d b:Nat):(dw l jR d b).map (fun p=>p.1)=iJ kF (l.map fun p=>p.1) jR d b:=by
 unfold dw iJ
 induction l with
 |nil=>rfl
 |cons p l ih=>
  rw [aa4,abn,aa4]
  by_cases c:p.1≠jR/\kF p.1 d=b
  · rw [lm (by simpa using c),lm (by simpa using c),abn,ih]
  rw [ls (by simpa using c),ls (by simpa using c),ih]
theorem QM {l:List Pt} {jR:Int} {d b:Nat} {p:Pt} (h:p∈dw l jR d b):p∈l:=(ac7.1 h).1
theorem vz (l:List Pt) (jR:Int) (d b:Nat):(dw l jR d b).length<=(ahD l):=abg ..
theorem w8 (l:List Pt) (p:Pt) (jR:Int) (d b:Nat):dw (l++[p]) jR d b=dw l jR d b++(if p.1≠jR/\kF p.1 d=b then [p] else []):=by
 unfold dw;rw [acF]
 congr 1
 by_cases c:p.1≠jR/\kF p.1 d=b
 · rw [lm c,aa4,lm (by simpa using c)];rfl
 rw [ls c,aa4,ls (by simpa using c)];rfl
theorem Ui (dK:bo f) (r:aW t) (lg:iI t) {p q:Pt} (hp:p∈f) (hq:q∈f) (dM:p.1≠q.1):jY p q (t.1,t.2)=ahE (ahH (leads p q t),0):=by
 rcases DV (dK.2.1 _ hp) (dK.2.1 _ hq) lg r with h|⟨h,_⟩
 · rw [show ((t.1,t.2):Int×Int)=t from rfl,h,ls dM]
 exact absurd h dM
theorem LA {l:List Pt} {x:Pt} (i:Nat) (hi:i<ahD l):eG t (l.take (i+1)) x=if leads l[i]! (eG t (l.take i) x) t then l[i]! else eG t (l.take i) x:=by rw [dp hi];unfold eG;rw [agd];rfl
structure OX (f:List Pt) (l:List Pt):Prop where
 sub: ∀p∈l,p∈f
 nd:(l.map fun p=>p.1).Nodup
 len:(ahD l)<=64
theorem OX.side {l:List Pt} (h:OX f l) (jR:Int) (d b:Nat):OX f (dw l jR d b) where
 sub:=fun p hp=>h.sub p (QM hp)
 nd:=by rw [pA];exact nG h.nd _ _ _
 len:=ab7 (vz ..) h.len
theorem OX.bits (dK:bo f) {l:List Pt} (h:OX f l) {p:Pt} (hp:p∈l):0<=p.1/\p.1<=65535:=by have:=dK.2.1 p (h.sub p hp);unfold eZ at this;omega
theorem OX.ne {l:List Pt} (h:OX f l) {i j:Nat} (hi:i<ahD l) (hj:j<ahD l) (dM:i≠j):(l[i]!).1≠(l[j]!).1:=by
 have ll:(l.map fun p=>p.1).length=(ahD l):=lw ..;have b: ∀k,k<ahD l->(l.map fun p=>p.1)[k]! =(l[k]!).1:=fun k hk=>by rw [getElem!_pos _ k (by rw [ll];exact hk),aaI,getElem!_pos l k hk]
 intro e;rcases abR i j with c|c|c
 · exact ed.1 h.nd i j c (by omega) (by rw [b i hi,b j hj];exact e)
 · exact dM c
 exact ed.1 h.nd j i c (by omega) (by rw [b i hi,b j hj];exact e.symm)
theorem yK (t:Int×Int): ∀(r:List Pt) (x:Pt),eG t r x=x\/eG t r x∈r
 | [],_=> .inl rfl
 |p::r,x=>by
  show eG t r (if leads p x t then p else x)=x\/eG t r (if leads p x t then p else x)∈_
  by_cases c:leads p x t
  · rw [lm c]
    rcases yK t r p with e|e
    · rw [e];exact .inr v6
    exact .inr (pp _ e)
  rw [ls c]
  exact (yK t r x).imp id (pp _)
theorem Uj {l:List Pt} (h:OX f l) {i:Nat} (hi:i+1<ahD l):(l[i+1]!).1≠(eG t ((l.drop 1).take i) l[0]!).1:=by
 rcases yK t ((l.drop 1).take i) l[0]! with e|e
 · rw [e];exact h.ne hi (by omega) (by omega)
 obtain ⟨j,hj,ej⟩:=aO.1 e
 rw [ww,IR] at hj;have:((l.drop 1).take i)[j]! =l[1+j]!:=by rw [aa2,List.getElem?_take_of_lt (by omega),acI,<- aa2]
 rw [<- ej,this];exact h.ne hi (by omega) (by omega)
theorem B5 {l:List Pt} {i:Nat} (_:i+1<ahD l):(l.drop 1)[i]! =l[i+1]!:=by rw [aa2,acI,<- aa2,Nat.add_comm 1 i]
def g1S (t:Int×Int) (l:List Pt) (M:List (Int×Int)) (d:Nat) (jR:Pt) (s0 s1:List Pt) (i:Nat):=
 ((d:Int),((ahD l):Int),(i:Int),l,M,t.1,t.2,jR.1,jR.2.1,jR.2.2,s0,s1)
def g2S (t:Int×Int) (l:List Pt) (M:List (Int×Int)) (u:Int) (d:Nat) (jR:Pt) (i:Nat):=
 (u,(d:Int),(1:Nat),ahD l-1,ahD l-1,((ahD l-1:Nat):Int),(i:Int),l,M,t.1,t.2,jR)
theorem ahf (dK:bo f) {l:List Pt} (h:OX f l) {d:Nat} (hd:d<=1000) {jR:Pt} {M:List (Int×Int)} {u:Int} {c0:_} {c1:_} (hc:(ahD c1.2.2.2.2.1)=ahD l)
 {M2 M3:List (Int×Int)} (r1:c0 (t.1,t.2,jR.1,((d+1:Nat):Int),dw l jR.1 d 0,M)=ahE (dw l jR.1 d 0,M2)) (r2:c0 (t.1,t.2,jR.1,((d+1:Nat):Int),dw l jR.1 d 1,M2)=ahE (dw l jR.1 d 1,M3)):
 aB (fU c0 c1) (g1S t l M d jR [] [] 0)=ahE (.done (l,M3)):=by
 have hl:=h.len;have st:=bD (body:=fU c0 c1) (fun i=>g1S t l M d jR (dw (l.take i) jR.1 d 0) (dw (l.take i) jR.1 d 1) i) (ahD l) (fun i hi=>by
  have pm:=aQ hi;obtain ⟨b0,b1⟩:=h.bits dK pm;have bt:=OW b0 b1 d;have lt:=B3 (l[i]!).1 d;have s0:=w8 (l.take i) l[i]! jR.1 d 0;have s1:=w8 (l.take i) l[i]! jR.1 d 1;rw [<- dp hi] at s0 s1;have l0:(dw (l.take i) jR.1 d 0).length<=64:=ab7 (vz ..) (by rw [ww];omega);have l1:(dw (l.take i) jR.1 d 1).length<=64:=ab7 (vz ..) (by rw [ww];omega);have a0:bm (dw (l.take i) jR.1 d 0) [l[i]!]=ahE (dw (l.take i) jR.1 d 0++[l[i]!]):=cu (by rw [ut];omega);have a1:bm (dw (l.take i) jR.1 d 1) [l[i]!]=ahE (dw (l.take i) jR.1 d 1++[l[i]!]):=cu (by rw [ut];omega);rw [s0,s1];unfold fU g1S
  simp only [aI (show (i:Int)<((ahD l):Int) by omega),kw,aq l i hi,ao,aT (show i<1000000000 by omega),aD (show¬(d:Int)<0 by omega),lc,bt,a0,a1]
  by_cases c:(l[i]!).1=jR.1
  · rw [bL (show (l[i]!).1=jR.1 from c),lc,ls (fun k=>k.1 c),ls (fun k=>k.1 c),AC,AC]
  rw [dd c,kw]
  by_cases e:kF (l[i]!).1 d=0
  · rw [e,lm ⟨c,rfl⟩,ls (fun k=>by omega),AC];rfl
  have e1:kF (l[i]!).1 d=1:=by omega
  rw [e1,ls (fun k=>by omega),lm ⟨c,rfl⟩,AC];rfl)
 rw [ab8] at st;refine (show _=_ from st).trans (aC ?_);unfold fU g1S;simp only [aD (show¬((ahD l):Int)<((ahD l):Int) by omega),lc,aT (show d<1000000000 by omega),r1,r2,ao,hc,beq_self_eq_true,kw]
theorem abZ {l:List Pt} (h0:l≠[]):aG l 0=ahE l[0]!:=aq l 0 (abD.2 h0)
theorem akE (dK:bo f) (r:aW t) (lg:iI t) {l:List Pt} (h:OX f l) (h0:l≠[]) {d:Nat} (hd:d<=1000) {M:List (Int×Int)} {u:Int} {c0:_}
 {M2 M3:List (Int×Int)} (r1:c0 (t.1,t.2,(eG t (l.drop 1) l[0]!).1,((d+1:Nat):Int),dw l (eG t (l.drop 1) l[0]!).1 d 0,k7 M (eG t (l.drop 1) l[0]!).1 u)=ahE (dw l (eG t (l.drop 1) l[0]!).1 d 0,M2))
 (r2:c0 (t.1,t.2,(eG t (l.drop 1) l[0]!).1,((d+1:Nat):Int),dw l (eG t (l.drop 1) l[0]!).1 d 1,M2)=ahE (dw l (eG t (l.drop 1) l[0]!).1 d 1,M3)):
 mA c0 (t.1,t.2,u,(d:Int),l,M)=ahE (l,M3):=by
 have hl:=h.len;have hp:=abD.2 h0;have ld:(l.drop 1).length=ahD l-1:=IR;have dt:(l.drop 1).take (ahD l-1)=l.drop 1:=ab2 (by omega);have st:=bD (body:=iU c0 (t.1,t.2,u,(d:Int),l,M)) (fun i=>g2S t l M u d (eG t ((l.drop 1).take i) l[0]!) i) (ahD l-1) (fun i hi=>by
  have q:=aq (l.drop 1) i (by omega);rw [B5 (by omega)] at q;have ne:=Uj (t:=t) h (i:=i) (by omega);have m1:=h.sub _ (aQ (l:=l) (i:=i+1) (by omega));have m2:eG t ((l.drop 1).take i) l[0]!∈f:=by
   rcases yK t ((l.drop 1).take i) l[0]! with e|e
   · rw [e];exact h.sub _ (aQ hp)
   exact h.sub _ (acp (acr e))
  have A:=Ui dK r lg m1 m2 ne;have tt:=LA (t:=t) (l:=l.drop 1) (x:=l[0]!) i (by omega);rw [B5 (by omega)] at tt;rw [tt];unfold iU g2S;simp only [aI (show (i:Int)<((ahD l-1:Nat):Int) by omega),kw,dt,q,ao,A,aT (show i<1000000000 by omega)]
  by_cases c:leads l[i+1]! (eG t ((l.drop 1).take i) l[0]!) t
  · rw [decide_eq_true c,kw,lm c]
  rw [decide_eq_false c,lc,ls c])
 rw [ab2 (l:=l.drop 1) (i:=ahD l-1) (by omega)] at st;have ol:=ahf dK h hd (c0:=c0) (c1:=(t.1,t.2,u,(d:Int),l,M)) rfl (u:=u) r1 r2;have e1:((aa9 (ahD l)).toNat) -1=ahD l-1:=rfl;unfold mA;have en:((aa9 (ahD l))==0)=ahG:=dB (by show¬((ahD l):Int)=0;omega);have e2:(((ahH ((0:Nat)<=1))&&(ahH ((1:Int)<=(aa9 (ahD l)))))&&(ahH ((aa9 (ahD l))<=(aa9 (ahD l)))))=ahF:=by rw [aI (show (1:Int)<=aa9 (ahD l) by show (1:Int)<=((ahD l):Int);omega),aI (acl _)];rfl
 simp only [en,lc,abZ h0,ao];rw [show (((ahH ((0:Nat)<=1))&&(ahH ((1:Int)<=(aa9 (ahD l)))))&&(ahH ((aa9 (ahD l))<=(aa9 (ahD l)))))=ahF from e2,kw];refine (show _=_ from st).trans (aC ?_);unfold iU g2S;simp only [aD (ahy _),lc];exact ol
theorem OY (dK:bo f) (r:aW t) (lg:iI t): ∀(k n:Nat) (l:List Pt) (u:Int) (d:Nat) (M:List (Int×Int)),OX f l->ahD l<=k->k+1<=n->d+k<=1000->
 fy n (t.1,t.2,u,(d:Int),l,M)=ahE (l,iZ M (eb (jP f t) kF k (l.map fun p=>p.1) u d))
 |k,0,l,u,d,M,_,_,hn,_=>absurd hn (by omega)
 |k,n+1,[],u,d,M,_,_,_,_=>by cases k<;>rfl
 |0,n+1,x::l,u,d,M,_,hk,_,_=>absurd hk (by rw [NE];omega)
 |k+1,n+1,x::l,u,d,M,h,hk,hn,hd=>by
  have ti:=Ej (t:=t) dK l x (h.sub x v6) (fun p hp=>h.sub p (pp _ hp));have tl:fw (jP f t) ((x::l).map fun p=>p.1)=(eG t l x).1:=ti.1.symm;have so:=wY dK.2.2 t;have sl: ∀b,(dw (x::l) (eG t l x).1 d b).length<=k:=fun b=>by
   have hS: ∀y∈((x::l).map fun p=>p.1),nI f y:=fun y hy=>by obtain ⟨p,hp,e⟩:=PP.1 hy;exact lh.1 (PP.2 ⟨p,h.sub p hp,e⟩)
   have t1:=(py so (l:=(x::l).map fun p=>p.1) (by simp) hS).1;rw [tl] at t1;have:=rT (bit:=kF) t1 d b;rw [<- pA,lw,lw] at this;omega
  have A:=OY dK r lg k n (dw (x::l) (eG t l x).1 d 0) (eG t l x).1 (d+1) (k7 M (eG t l x).1 u) (h.side _ _ _) (sl 0) (by omega) (by omega);have B:=OY dK r lg k n (dw (x::l) (eG t l x).1 d 1) (eG t l x).1 (d+1) (iZ (k7 M (eG t l x).1 u) (eb (jP f t) kF k ((dw (x::l) (eG t l x).1 d 0).map fun p=>p.1) (eG t l x).1 (d+1))) (h.side _ _ _) (sl 1) (by omega) (by omega);have C:=akE dK r lg h (abm x l) (d:=d) (by omega) (u:=u) (M:=M) (c0:=fy n) A B;refine (show _=_ from C).trans ?_;rw [pA,pA,<- DF];refine congrArg ahE (acJ rfl ?_);show iZ (k7 M (eG t l x).1 u) _=iZ M (eb (jP f t) kF (k+1) (x.1::l.map fun p=>p.1) u d);simp only [eb];rw [<- show fw (jP f t) (x.1::l.map fun p=>p.1)=(eG t l x).1 from tl];rfl
end
section
variable {f : List Pt} {t : Int × Int}
def h1S (t:Int×Int) (l:List Pt) (M:List (Int×Int)) (d:Nat) (jR:Pt) (s0 s1:List Pt) (i:Nat):=
 ((d:Int),l,((ahD l):Int),(i:Int),M,t.1,t.2,jR.1,jR.2.1,jR.2.2,s0,s1)
def h2S (t:Int×Int) (l:List Pt) (M:List (Int×Int)) (u:Int) (d:Nat) (jR:Pt) (i:Nat):=
 (l,u,(d:Int),l.drop 1,((l.drop 1).length:Int),(i:Int),M,t.1,t.2,jR)
theorem ahg (dK:bo f) {l:List Pt} (h:OX f l) {d:Nat} (hd:d<=1000) {jR:Pt} {M:List (Int×Int)}
 {M2 M3:List (Int×Int)} (r1:fo (t.1,t.2,jR.1,((d+1:Nat):Int),dw l jR.1 d 0,M)=ahE (dw l jR.1 d 0,M2)) (r2:fo (t.1,t.2,jR.1,((d+1:Nat):Int),dw l jR.1 d 1,M2)=ahE (dw l jR.1 d 1,M3)):
 aB fV (h1S t l M d jR [] [] 0)=ahE (.done M3):=by
 have hl:=h.len;have st:=bD (body:=fV) (fun i=>h1S t l M d jR (dw (l.take i) jR.1 d 0) (dw (l.take i) jR.1 d 1) i) (ahD l) (fun i hi=>by
  have pm:=aQ hi;obtain ⟨b0,b1⟩:=h.bits dK pm;have bt:=OW b0 b1 d;have lt:=B3 (l[i]!).1 d;have s0:=w8 (l.take i) l[i]! jR.1 d 0;have s1:=w8 (l.take i) l[i]! jR.1 d 1;rw [<- dp hi] at s0 s1;have l0:(dw (l.take i) jR.1 d 0).length<=64:=ab7 (vz ..) (by rw [ww];omega);have l1:(dw (l.take i) jR.1 d 1).length<=64:=ab7 (vz ..) (by rw [ww];omega);have a0:bm (dw (l.take i) jR.1 d 0) [l[i]!]=ahE (dw (l.take i) jR.1 d 0++[l[i]!]):=cu (by rw [ut];omega);have a1:bm (dw (l.take i) jR.1 d 1) [l[i]!]=ahE (dw (l.take i) jR.1 d 1++[l[i]!]):=cu (by rw [ut];omega);rw [s0,s1];unfold fV h1S
  simp only [aI (show (i:Int)<((ahD l):Int) by omega),kw,aq l i hi,ao,aT (show i<1000000000 by omega),aD (show¬(d:Int)<0 by omega),lc,bt,a0,a1]
  by_cases c:(l[i]!).1=jR.1
  · rw [bL (show (l[i]!).1=jR.1 from c),lc,ls (fun k=>k.1 c),ls (fun k=>k.1 c),AC,AC]
  rw [dd c,kw]
  by_cases e:kF (l[i]!).1 d=0
  · rw [e,lm ⟨c,rfl⟩,ls (fun k=>by omega),AC];rfl
  have e1:kF (l[i]!).1 d=1:=by omega
  rw [e1,ls (fun k=>by omega),lm ⟨c,rfl⟩,AC];rfl)
 rw [ab8] at st;refine (show _=_ from st).trans (aC ?_);unfold fV h1S;simp only [aD (show¬((ahD l):Int)<((ahD l):Int) by omega),lc,aT (show d<1000000000 by omega),r1,r2,ao]
theorem akF (dK:bo f) (r:aW t) (lg:iI t) {l:List Pt} (h:OX f l) (h0:l≠[]) {d:Nat} (hd:d<=1000) {M:List (Int×Int)} {u:Int} {c0:_}
 {M2 M3:List (Int×Int)} (r1:fo (t.1,t.2,(eG t (l.drop 1) l[0]!).1,((d+1:Nat):Int),dw l (eG t (l.drop 1) l[0]!).1 d 0,k7 M (eG t (l.drop 1) l[0]!).1 u)=ahE (dw l (eG t (l.drop 1) l[0]!).1 d 0,M2))
 (r2:fo (t.1,t.2,(eG t (l.drop 1) l[0]!).1,((d+1:Nat):Int),dw l (eG t (l.drop 1) l[0]!).1 d 1,M2)=ahE (dw l (eG t (l.drop 1) l[0]!).1 d 1,M3)):
 jt c0 (l,t.1,t.2,u,(d:Int),M)=ahE M3:=by
 have hl:=h.len;have hp:=abD.2 h0;have ld:(l.drop 1).length=ahD l-1:=IR;have st:=bD (body:=iV) (fun i=>h2S t l M u d (eG t ((l.drop 1).take i) l[0]!) i) (l.drop 1).length (fun i hi=>by
  have q:=aq (l.drop 1) i hi;rw [B5 (by omega)] at q;have ne:=Uj (t:=t) h (i:=i) (by omega);have m1:=h.sub _ (aQ (l:=l) (i:=i+1) (by omega));have m2:eG t ((l.drop 1).take i) l[0]!∈f:=by
   rcases yK t ((l.drop 1).take i) l[0]! with e|e
   · rw [e];exact h.sub _ (aQ hp)
   exact h.sub _ (acp (acr e))
  have A:=Ui dK r lg m1 m2 ne;have tt:=LA (t:=t) (l:=l.drop 1) (x:=l[0]!) i hi;rw [B5 (by omega)] at tt;rw [tt];unfold iV h2S;simp only [aI (show (i:Int)<((l.drop 1).length:Int) by omega),kw,q,ao,A,aT (show i<1000000000 by omega)]
  by_cases c:leads l[i+1]! (eG t ((l.drop 1).take i) l[0]!) t
  · rw [decide_eq_true c,kw,lm c]
  rw [decide_eq_false c,lc,ls c])
 rw [ab8] at st;have ol:=ahg (t:=t) dK h hd r1 r2;have e1:fG l 1 (aa9 (ahD l))=ahE (l.drop 1):=by unfold fG;rw [lm (by refine ⟨by decide,?_,acl _⟩;show (1:Int)<=((ahD l):Int);omega)];refine congrArg ahE ?_;show (l.drop 1).take _=_;exact ab2 (by rw [ld];exact EQ _)
 unfold jt;have en:((aa9 (ahD l))==0)=ahG:=dB (by show¬((ahD l):Int)=0;omega);simp only [en,lc,abZ h0,ao,e1];refine (show _=_ from st).trans (aC ?_);unfold iV h2S;simp only [aD (ahy _),lc];exact ol
theorem aaQ (dK:bo f) (r:aW t) (lg:iI t):oc (f,t.1,t.2,-1,0,[])=ahE (iZ [] (lR f t)):=by
 have h:OX f f:=⟨fun p hp=>hp,mh dK.2.2,dK.1⟩;have f1:=dK.1;unfold lR;show jt (fA 999999) _=_;cases hf:f with
 |nil=>rfl
 |cons x l=>
  rw [<- hf];have fl:(ahD f)=ahD l+1:=by rw [hf];rfl
  have d1:f.drop 1=l:=by rw [hf];rfl
  have g0:f[0]! =x:=by rw [hf];rfl
  have ti:=Ej (t:=t) dK l x (by rw [hf];exact v6) (fun p hp=>by rw [hf];exact pp _ hp);have ei:mu f=x.1::l.map fun p=>p.1:=by unfold mu;rw [hf];rfl
  have tl:fw (jP f t) (mu f)=(eG t l x).1:=by rw [ei];exact ti.1.symm
  have so:=wY dK.2.2 t;have sl: ∀b,(dw f (eG t l x).1 0 b).length<=(ahD l):=fun b=>by
   have hS: ∀y∈mu f,nI f y:=fun y hy=>lh.1 hy
   have t1:=(py so (l:=mu f) (by unfold mu;rw [hf];simp) hS).1;rw [tl] at t1;have:=rT (bit:=kF) t1 0 b;unfold mu at this;rw [<- pA,lw,lw] at this;omega
  have A:=OY dK r lg (ahD l) 1000000 (dw f (eG t l x).1 0 0) (eG t l x).1 1 (k7 [] (eG t l x).1 (-1)) (h.side _ _ _) (sl 0) (by omega) (by omega);have B:=OY dK r lg (ahD l) 1000000 (dw f (eG t l x).1 0 1) (eG t l x).1 1 (iZ (k7 [] (eG t l x).1 (-1)) (eb (jP f t) kF (ahD l) ((dw f (eG t l x).1 0 0).map fun p=>p.1) (eG t l x).1 1)) (h.side _ _ _) (sl 1) (by omega) (by omega)
  have C:=akF dK r lg h (by rw [hf];exact abm x l) (d:=0) (by omega) (u:= -1) (M:=[]) (c0:=fA 999999) (M2:=iZ (k7 [] (eG t l x).1 (-1)) (eb (jP f t) kF (ahD l) ((dw f (eG t l x).1 0 0).map fun p=>p.1) (eG t l x).1 1)) (M3:=iZ (iZ (k7 [] (eG t l x).1 (-1)) (eb (jP f t) kF (ahD l) ((dw f (eG t l x).1 0 0).map fun p=>p.1) (eG t l x).1 1)) (eb (jP f t) kF (ahD l) ((dw f (eG t l x).1 0 1).map fun p=>p.1) (eG t l x).1 1)) (by rw [d1,g0];exact A) (by rw [d1,g0];exact B);refine (show _=_ from C).trans (congrArg ahE ?_);rw [pA,pA,<- DF,fl];rw [show (f.map fun p=>p.1)=mu f from rfl,<- tl];generalize jP f t=P;rw [ei];simp only [eb];rfl
end
theorem aaR {h l:Pt} {t t':Int×Int} (hh:eZ h) (hl:eZ l) (r:aW t) (r':aW t') (le:t.1*t'.2<=t'.1*t.2) (nf:(jN h l t).2=ahF->t'.1*(jN h l t).1.2<(jN h l t).1.1*t'.2): ¬leads l h t':=by
 unfold jN at nf
 by_cases h1:leads l h t
 · rw [lm h1] at nf
   have:=nf rfl;dsimp only at this;omega
 rw [ls h1] at nf
 by_cases h2:h.2.2<l.2.2
 · rw [lm h2] at nf
   obtain ⟨_,m1,m2,m3⟩:=uw hh hl (show h.2.2≠l.2.2 by omega);have up:=nf rfl;dsimp only at up;intro h3;have g:0<=xn l h t':=by rcases h3 with k|k<;>omega
   rw [BU] at g;generalize met h l=m at*;have d:=m1.1;have hB:0<l.2.2-h.2.2:=by omega
   generalize l.2.2-h.2.2=B at*;generalize hA:h.2.1-l.2.1=A at*;have g2:A*t'.2<=B*t'.1:=by
    have:(l.2.1-h.2.1)*t'.2= -(A*t'.2):=by rw [<- ack];congr 1;omega
    omega
   have g3:m.1*t'.2*B<=t'.1*m.2*B:=by
    have e1:m.1*t'.2*B=A*t'.2*m.2:=by rw [aa5,m3,aa5]
    have e2:t'.1*m.2*B=B*t'.1*m.2:=by rw [aa5,ac0 t'.1 B]
    rw [e1,e2];exact Int.mul_le_mul_of_nonneg_right g2 (by omega)
   have g4:m.1*t'.2<=t'.1*m.2:=Int.le_of_mul_le_mul_right g3 hB;omega
 exact DA r.1 r'.1 le h2 h1
def hP (c:aH) (r:Int) (N:List Nd) (to:Int×Int) (out:List (Int×Int)):=
 (c.ci.1,c.ci.2,c.ii.am,c.af.aL,c.af.ce,c.aa.ae.ar,c.aa.ae.be,c.aa.ae.bi,c.aa.bv,c.aa.aj,c.io,r,N,to.1,to.2,(0:Int),(0:Int),(0:Int),(0:Int),out)
noncomputable def HV (f:List Pt) (t:Int×Int) (k:Nat):Nat->Nat
 |0=>0
 |j+1=>HV f t k j+(if j≠k/\QC f t j k then 1 else 0)
theorem C9 (f:List Pt) (t:Int×Int) (k:Nat): ∀j,HV f t k j<=j/\(k<j->HV f t k j+1<=j)
 |0=>⟨EQ _,fun h=>by omega⟩
 |j+1=>by
  obtain ⟨h1,h2⟩:=C9 f t k j;rw [HV]
  by_cases c:j≠k/\QC f t j k
  · rw [lm c]
    exact ⟨by omega,fun h=>by have:=h2 (by omega);omega⟩
  rw [ls c]
  exact ⟨by omega,fun h=>by omega⟩
theorem QN {f:List Pt} (dK:bo f) {t:Int×Int} (lg:iI t) {k:Nat} (hk:k<ahD f):rF ⟨f⟩ f[k]! t=ahE (HV f t k (ahD f):Int):=by
 have f1:=dK.1;have key:=bD (body:=kC) (fun j=>((HV f t k j:Int),(j:Int),f,(f[k]!).1,(f[k]!).2.1,(f[k]!).2.2,t)) (ahD f) (fun j hj=>by
  have g:=aq f j hj;have le:=(C9 f t k j).1;have ld:=FX (dK.2.1 _ (aQ hj)) (dK.2.1 _ (aQ hk)) lg;have akG:((f[k]!).1,(f[k]!).2.1,(f[k]!).2.2)=f[k]!:=rfl;unfold kC;rw [HV]
  by_cases q:j=k
  · subst q
    simp only [ay,aI (show (j:Int)<((ahD f):Int) by omega),kw,g,ao,bL rfl,lc,aT (show j<1000000000 by omega),ls (show¬(j≠j/\QC f t j j) from fun w=>w.1 rfl),ahC]
  have ne:(f[j]!).1≠(f[k]!).1:=fun h=>q (sK dK.2.2 hj hk h)
  by_cases c:QC f t j k
  · rw [show ahH (leads f[j]! f[k]! t)=ahF from aI c] at ld
    simp only [ay,aI (show (j:Int)<((ahD f):Int) by omega),kw,g,ao,dd ne,akG,ld,aT (show j<1000000000 by omega),aT (show HV f t k j<1000000000 by omega),lm (show j≠k/\QC f t j k from ⟨q,c⟩)]
  rw [show ahH (leads f[j]! f[k]! t)=ahG from aD c] at ld
  simp only [ay,aI (show (j:Int)<((ahD f):Int) by omega),kw,g,ao,dd ne,akG,ld,lc,aT (show j<1000000000 by omega),ls (show¬(j≠k/\QC f t j k) from fun w=>c w.2),ahC])
 unfold rF;rw [show aB kC (0,0,f,(f[k]!).1,(f[k]!).2.1,(f[k]!).2.2,t)=_ from key];refine aC ?_;unfold kC;simp only [ay,aD (show¬((ahD f):Int)<((ahD f):Int) by omega),lc]
noncomputable def zx (f:List Pt) (t:Int×Int):Nat->List Int
 |0=>abe (ahD f) 0
 |i+1=>(zx f t i).set (HV f t i (ahD f)) (f[i]!).1
theorem qE (f:List Pt) (t:Int×Int): ∀i,(zx f t i).length=ahD f
 |0=>abi ..
 |i+1=>by rw [zx,ace,qE f t i]
theorem Nu {f:List Pt} (dK:bo f) {t:Int×Int} (lg:iI t):pO ⟨f⟩ t=ahE (zx f t (ahD f)):=by
 have f1:=dK.1;have mk:sd ((ahD f):Int) (0:Int)=ahE (abe (ahD f) 0):=by unfold sd;rw [lm ⟨by omega,by omega⟩,aak]
 have key:=bD (body:=jJ) (fun i=>((i:Int),f,t.1,t.2,zx f t i)) (ahD f) (fun i hi=>by have g:=aq f i hi;have le:=(C9 f t i (ahD f)).2 hi;have go:=aq (zx f t i) (HV f t i (ahD f)) (by rw [qE];omega);unfold jJ;simp only [ay,aI (show (i:Int)<((ahD f):Int) by omega),kw,g,ao,show ((t.1,t.2):Int×Int)=t from rfl,QN dK lg hi,go,qC,aT (show i<1000000000 by omega)];rfl);unfold pO;simp only [ay,beq_self_eq_true,kw,mk,ao];rw [show aB jJ (0,f,t.1,t.2,abe (ahD f) 0)=_ from key];refine aC ?_;unfold jJ;simp only [ay,aD (show¬((ahD f):Int)<((ahD f):Int) by omega),lc]
theorem Jc {f : List Pt} (h : fa f) {t : Int × Int} {i k : Nat} (hi : i < (ahD f)) (hk : k < (ahD f)) (a : QC f t i k) : ∀ j, j <= (ahD f) -> HV f t i j + (if i < j then 1 else 0) <= HV f t k j
  | 0, _ => by rw [ls (by omega)]; exact EQ _
  | j + 1, hj => by
    have o := Ja h t
    have ih := Jc h hi hk a j (by omega)
    have ik : i ≠ k := fun e => by subst e; exact o.asy i i hi hi a a
    rw [HV, HV]
    by_cases e : j = i
    · subst e
      rw [ls (show ¬ (j ≠ j /\ _) from fun w => w.1 rfl), lm (show j ≠ k /\ QC f t j k from ⟨ik, a⟩), lm (by omega)]
      rw [ls (by omega)] at ih
      omega
    have e2 : (if i < j + 1 then 1 else 0) = (if i < j then 1 else 0) := by
      by_cases c : i < j
      · rw [lm c, lm (by omega)]
      rw [ls c, ls (by omega)]
    rw [e2]
    by_cases c : j ≠ i /\ QC f t j i
    · have c2 : j ≠ k /\ QC f t j k := by
        have q := o.tr j i k (by omega) hi hk c.2 a
        exact ⟨fun z => by subst z; exact o.asy j j (by omega) (by omega) q q, q⟩
      rw [lm c, lm c2]; omega
    rw [ls c]; omega
theorem aaS {f:List Pt} (h:fa f) {t:Int×Int} {i k:Nat} (hi:i<ahD f) (hk:k<ahD f) (ne:i≠k):HV f t i (ahD f)≠HV f t k (ahD f):=by
 have o:=Ja h t;intro e
 by_cases a:QC f t i k
 · have:=Jc h hi hk a (ahD f) (EQ _)
   rw [lm hi] at this;omega
 have:=Jc h hk hi (o.UB i k hi hk ne a) (ahD f) (EQ _)
 rw [lm hk] at this;omega
theorem Jd {f:List Pt} (h:fa f) {t:Int×Int} {i:Nat}: ∀j,j<=ahD f->i<j->(zx f t j)[HV f t i (ahD f)]! =(f[i]!).1
 |0,_,hi=>by omega
 |j+1,hj,hi=>by
  rw [zx,bg];have hr:=(C9 f t i (ahD f)).2 (by omega)
  by_cases q:i=j
  · subst q
    rw [lm ⟨rfl,by rw [qE];omega⟩]
  rw [ls (fun w=>aaS h (by omega) (by omega) q w.1)]
  exact Jd h j (by omega) (by omega)
theorem HW {f:List Pt} (h:fa f) (t:Int×Int):(mu f).Perm (zx f t (ahD f)):=by have il:(mu f).length=(ahD f):=lw ..;refine sQ (mh h) (fun x hx=>?_) (by rw [qE,il];exact EQ _);obtain ⟨i,hi,e⟩:=lh.1 hx;have hr:=(C9 f t i (ahD f)).2 hi;exact aO.2 ⟨HV f t i (ahD f),by rw [qE];omega,by rw [Jd h _ (EQ _) hi];exact e⟩
theorem Nv {f:List Pt} (h:fa f) (t:Int×Int) {p q:Nat} (hpq:p<q) (hq:q<ahD f):jP f t (zx f t (ahD f))[p]! (zx f t (ahD f))[q]!:=by
 have pm:=HW h t;have nd:=pm.nodup_iff.1 (mh h);have ol:=qE f t (ahD f);have o:=Ja h t;have at': ∀x,x<ahD f-> ∃i,i<ahD f/\(zx f t (ahD f))[x]! =(f[i]!).1/\HV f t i (ahD f)=x:=fun x hx=>by
  obtain ⟨i,hi,e⟩:=lh.1 (pm.mem_iff.2 (aQ (l:=zx f t (ahD f)) (i:=x) (by omega)));have hr:=(C9 f t i (ahD f)).2 hi;have e2:=Jd h (t:=t) (ahD f) (EQ _) hi;rw [e] at e2;refine ⟨i,hi,e.symm,?_⟩;rcases abR (HV f t i (ahD f)) x with c|c|c
  · exact absurd e2 (ed.1 nd _ _ c (by omega))
  · exact c
  exact absurd e2.symm (ed.1 nd _ _ c (by omega))
 obtain ⟨i,hi,e1,r1⟩:=at' p (by omega);obtain ⟨k,hk,e2,r2⟩:=at' q hq;rw [e1,e2];show leads (bF f (f[i]!).1) (bF f (f[k]!).1) t;rw [rJ h hi rfl,rJ h hk rfl]
 by_cases a:QC f t i k
 · exact a
 have:=Jc h hk hi (o.UB i k hi hk (fun e=>by subst e;omega) a) (ahD f) (EQ _)
 rw [lm hk] at this;omega
theorem QO {f:List Pt} (h:fa f) (t:Int×Int):(zx f t (ahD f)).Pairwise (jP f t):=by
 refine ab9.2 fun i j hi hj lS=>?_
 have:=Nv h t lS (by rw [<- qE f t (ahD f)];exact hj);rw [getElem!_pos _ i hi,getElem!_pos _ j hj] at this;exact this
section
variable {f : List Pt} {t : Int × Int}
theorem Uk {P:Int->Int->Prop} {S:Int->Prop} (o:SO P S) {x:Int} {r:List Int} (hS: ∀y∈x::r,S y) (pw:(x::r).Pairwise P):fw P (x::r)=x:=by
 obtain ⟨p1,_⟩:=abb.1 pw;refine Gy o hS v6 fun y hy=>?_
 rcases aaH.1 hy with rfl|hy
 · exact o.irr _ (hS _ v6)
 exact o.asym (hS _ v6) (hS _ (pp _ hy)) (p1 y hy)
def mM (r:List Int) (d b:Nat):List Int:=r.filter fun x=>decide (kF x d=b)
theorem LB {P:Int->Int->Prop} {S:Int->Prop} (o:SO P S) {x:Int} {r:List Int} (hS: ∀y∈x::r,S y) (pw:(x::r).Pairwise P) (d b:Nat):iJ kF (x::r) x d b=mM r d b:=by
 obtain ⟨p1,_⟩:=abb.1 pw;unfold iJ mM;rw [aa4,ls (by simp)];refine List.filter_congr fun y hy=>?_
 have ne:y≠x:=fun e=>o.irr x (hS x v6) (by have:=p1 y hy;rwa [e] at this)
 by_cases c:kF y d=b
 · rw [aI (show y≠x/\kF y d=b from ⟨ne,c⟩),aI c]
 rw [aD (fun k=>c k.2),aD c]
theorem Nw (r:List Int) (x:Int) (d b:Nat):mM (r++[x]) d b=mM r d b++(if kF x d=b then [x] else []):=by
 unfold mM;rw [acF]
 congr 1
 by_cases c:kF x d=b
 · rw [lm c,aa4,lm (aI c)];rfl
 rw [ls c,aa4,ls (by rw [aD c];decide)];rfl
theorem Um {x:Int} {r:List Int} (hr:(ahD r)<=64) (pos: ∀y∈r,0<=y) {d:Nat} (hd:d<=1000) {b:Nat} {out A:List (Int×Int)} {c0:_} (acV:(ahD out)+ahD A<=1000) (hb:b<=2) (rec:c0 (mM r d b,x,((d+1:Nat):Int))=ahE A):
 aB (mF c0) (x::r,(d:Int),(b:Int),1,out,[])=ahE (.next (x::r,(d:Int),((b+1:Nat):Int),out++A)):=by
 have st:=bD (body:=mF c0) (fun i=>(x::r,(d:Int),(b:Int),((i+1:Nat):Int),out,mM (r.take i) d b)) (ahD r) (fun i hi=>by
  have g:=aq (x::r) (i+1) (by rw [NE];omega);have gi:(x::r)[i+1]! =r[i]!:=by rw [getElem!_pos _ _ (by rw [NE];omega),getElem!_pos r i hi];rfl
  rw [gi] at g;have s:=Nw (r.take i) r[i]! d b;rw [<- dp hi] at s;have lim:(mM (r.take i) d b).length<=64:=ab7 (abg ..) (by rw [ww];omega);have ap:bm (mM (r.take i) d b) [r[i]!]=ahE (mM (r.take i) d b++[r[i]!]):=cu (by rw [ut];omega);have bt:=aaP (pos _ (aQ hi)) d;rw [s];unfold mF;simp only [ay,NE,aI (show ((i+1:Nat):Int)<((ahD r+1:Nat):Int) by omega),kw,g,ao,aD (show¬(d:Int)<0 by omega),lc,bt,ap,aT (show i+1<1000000000 by omega)]
  by_cases c:kF r[i]! d=b
  · rw [dL (by omega),kw,lm c]
  rw [dB (by omega),lc,ls c,AC])
 rw [ab8] at st;refine (show _=_ from st).trans (aC ?_);have g0:aG (x::r) 0=ahE x:=aq (x::r) 0 (by rw [NE];omega);have ap:bm out A=ahE (out++A):=cu (by omega);unfold mF;simp only [ay,NE,aD (show¬((ahD r+1:Nat):Int)<((ahD r+1:Nat):Int) by omega),lc,g0,ao,aT (show d<1000000000 by omega),rec,aT (show b<1000000000 by omega)];cases hA:A with
 |nil=>rw [AC];rfl
 |cons a A'=>rw [hA] at ap;rw [show (a::A').isEmpty=ahG from rfl,lc,ap,ao]
theorem QP {P:Int->Int->Prop} {S:Int->Prop} (o:SO P S) {n:Nat} {l:List Int} {u:Int} {d:Nat} (hS: ∀x∈l,S x) (nd:l.Nodup) (h:(ahD l)<=n):(eb P kF n l u d).length=(ahD l):=by have:=(wZ o B3 n l u d hS nd h).1.length_eq;rw [lw] at this;exact this
theorem aaT {P:Int->Int->Prop} {S:Int->Prop} (o:SO P S) {l:List Int} (hS: ∀x∈l,S x) (pw:l.Pairwise P):l.Nodup:=by
 induction l with
 |nil=>exact ahv
 |cons x l ih=>obtain ⟨p1,p2⟩:=abb.1 pw;exact aba.2 ⟨fun h=>o.irr x (hS x v6) (p1 x h),ih (fun y hy=>hS y (pp _ hy)) p2⟩
theorem ab0 (dK:bo f): ∀(k n:Nat) (l:List Int) (u:Int) (d:Nat),(∀x∈l,nI f x)->l.Pairwise (jP f t)->ahD l<=k->k<=64->k+1<=n->d+k<=1000->
 fR n (l,u,(d:Int))=ahE (eb (jP f t) kF k l u d)
 |k,0,l,u,d,_,_,_,_,hn,_=>absurd hn (by omega)
 |k,n+1,[],u,d,_,_,_,_,_,_=>by cases k<;>rfl
 |0,n+1,x::r,u,d,_,_,hk,_,_,_=>absurd hk (by rw [NE];omega)
 |k+1,n+1,x::r,u,d,hS,pw,hk,h64,hn,hd=>by
  have o:=wY dK.2.2 t;have th:=Uk o hS pw;rw [NE] at hk;have hr: ∀b,(∀y∈mM r d b,nI f y)/\(mM r d b).Pairwise (jP f t)/\(mM r d b).length<=k:=fun b=>
   ⟨fun y hy=>hS y (pp _ (ac7.1 hy).1),(abb.1 pw).2.filter _,ab7 (abg ..) (by omega)⟩
  have pos: ∀y∈r,0<=y:=fun y hy=>by have p0:=dG dK (hS y (pp _ hy));have p1:=p0.1.1;rw [p0.2] at p1;exact p1
  have rc: ∀b,fR n (mM r d b,x,((d+1:Nat):Int))=ahE (eb (jP f t) kF k (mM r d b) x (d+1)):=fun b=>ab0 dK k n _ x (d+1) (hr b).1 (hr b).2.1 (hr b).2.2 (by omega) (by omega) (by omega)
  have ln: ∀b,(eb (jP f t) kF k (mM r d b) x (d+1)).length<=64:=fun b=>by rw [QP o (hr b).1 (aaT o (hr b).1 (hr b).2.1) (hr b).2.2];have:=(hr b).2.2;omega
  have l0:=ln 0;have l1:=ln 1;have A:=Um (x:=x) (r:=r) (by omega) pos (d:=d) (by omega) (b:=0) (out:=[(x,u)]) (by rw [ut];omega) (by omega) (rc 0);have B:=Um (x:=x) (r:=r) (by omega) pos (d:=d) (by omega) (b:=1) (out:=[(x,u)]++eb (jP f t) kF k (mM r d 0) x (d+1)) (by rw [If,ut];omega) (by omega) (rc 1);show wD (fR n) (x::r,u,(d:Int))=_;have g0:aG (x::r) 0=ahE x:=aq (x::r) 0 (by rw [NE];omega);have en:((aa9 (x::r).length)==0)=ahG:=dB (by show¬((x::r).length:Int)=0;rw [NE];omega);unfold wD;simp only [en,lc,g0,ao];have s1:pP (fR n) (x::r,(d:Int),0,[(x,u)])=ahE (.next (x::r,(d:Int),((0+1:Nat):Int),[(x,u)]++eb (jP f t) kF k (mM r d 0) x (d+1))):=A
  have s2:pP (fR n) (x::r,(d:Int),((0+1:Nat):Int),[(x,u)]++eb (jP f t) kF k (mM r d 0) x (d+1))=ahE (.next (x::r,(d:Int),((1+1:Nat):Int),([(x,u)]++eb (jP f t) kF k (mM r d 0) x (d+1))++eb (jP f t) kF k (mM r d 1) x (d+1))):=B;rw [aV s1,aV s2];refine (aC (show pP (fR n) (x::r,(d:Int),((1+1:Nat):Int),_)=ahE (.done _) from rfl)).trans ?_;simp only [eb];rw [th,LB o hS pw,LB o hS pw];rfl
theorem LC (dK:bo f):AM (zx f t (ahD f)) (-1) 0=ahE (lR f t):=by have f1:=dK.1;have pm:=HW dK.2.2 t;have h:=ab0 (t:=t) dK (ahD f) 1000000 (zx f t (ahD f)) (-1) 0 (fun x hx=>lh.1 (pm.mem_iff.2 hx)) (QO dK.2.2 t) (by rw [qE];exact EQ _) f1 (by omega) (by omega);refine (show _=_ from h).trans (congrArg ahE ?_);exact (AT (wY dK.2.2 t) (ahD f) _ _ (-1) 0 (fun x hx=>lh.1 hx) pm).symm
theorem HX (dK:bo f) (lg:iI t):u7 ⟨f⟩ t=ahE (kG f t):=by
 have f1:=dK.1;obtain ⟨k1,k2⟩:=sR (t:=t) dK;have nd:=k1.nodup_iff.2 (mh dK.2.2);have ll:(lR f t).length=(ahD f):=by have:=k1.length_eq;rw [lw] at this;rw [this];exact lw ..
 have mk:sd ((ahD f):Int) (0:Int)=ahE (abe (ahD f) 0):=by unfold sd;rw [lm ⟨by omega,by omega⟩,aak]
 let U:Nat->List Int:=fun j=>f.map fun p=>if p.1∈((lR f t).take j).map (fun e=>e.1) then jr 0 (lR f t) p.1 else 0
 have Ul: ∀j,(U j).length=(ahD f):=fun j=>lw ..
 have Ua: ∀j i,i<ahD f->(U j)[i]! =if (f[i]!).1∈((lR f t).take j).map (fun e=>e.1) then jr 0 (lR f t) (f[i]!).1 else 0:=fun j i hi=>by rw [getElem!_pos _ i (by rw [Ul];exact hi),aaI,getElem!_pos f i hi]
 have st:=bD (body:=tJ) (fun j=>(lR f t,(j:Int),f,U j)) (lR f t).length (fun j hj=>by
  have g:=aq (lR f t) j hj;have hm:=aQ hj;have hp:nI f ((lR f t)[j]!).1:=lh.1 (k1.mem_iff.1 (PP.2 ⟨_,hm,rfl⟩));obtain ⟨i,hi,ei⟩:=hp;have ga:=HI dK.2.2 (by omega) hi ei;have gu:=aq (U j) i (by rw [Ul];exact hi);unfold tJ;simp only [ay,aI (show (j:Int)<((lR f t).length:Int) by omega),kw,g,ao,ga,gu,qC,aT (show j<1000000000 by omega)];have eU:(U j).set i ((lR f t)[j]!).2=U (j+1):=by
   refine qD (by rw [ace,Ul,Ul]) fun k hk=>?_
   rw [ace,Ul] at hk;have mm:(f[k]!).1∈((lR f t).take (j+1)).map (fun e=>e.1)↔(f[k]!).1∈((lR f t).take j).map (fun e=>e.1)\/(f[k]!).1∈[(lR f t)[j]!].map (fun e=>e.1):=by rw [dp hj,ac2,aa1]
   rw [bg,Ul,Ua _ k hk,Ua _ k hk]
   by_cases c:k=i
   · subst c
     rw [lm ⟨rfl,hi⟩,lm (mm.2 (.inr (by rw [ei];exact UV.2 rfl))),ei];exact (B2 nd (show (((lR f t)[j]!).1,((lR f t)[j]!).2)∈lR f t from hm)).symm
   rw [ls (fun w=>c w.1)]
   have ne: ¬(f[k]!).1∈[(lR f t)[j]!].map fun e=>e.1:=fun w=>c (sK dK.2.2 hk hi ((UV.1 w).trans ei.symm))
   by_cases q:(f[k]!).1∈((lR f t).take j).map fun e=>e.1
   · rw [lm q,lm (mm.2 (.inl q))]
   rw [ls q,ls (fun w=>(mm.1 w).elim q ne)]
  rw [eU])
 have U0:U 0=abe (ahD f) 0:=by
  refine qD (by rw [Ul,abi]) fun k hk=>?_
  rw [Ul] at hk;rw [Ua 0 k hk,List.take_zero,ahB,ls agY,getElem!_pos _ k (by rw [abi];exact hk),List.getElem_replicate]
 have Un:U (lR f t).length=kG f t:=by
  refine qD (by rw [Ul,zk]) fun k hk=>?_
  rw [Ul] at hk;rw [Ua _ k hk,ab8,lm (k1.mem_iff.2 (lh.2 ⟨k,hk,rfl⟩)),Jb hk]
 unfold u7;rw [Nu dK lg,ao,LC dK,ao];simp only [ay,beq_self_eq_true,kw,mk,ao];rw [<- U0];refine (show _=_ from st).trans (aC ?_);unfold tJ;simp only [ay,aD (show¬((lR f t).length:Int)<((lR f t).length:Int) by omega),lc];rw [Un]
theorem DG (U:List Int) (i:Nat):c6 f U (i+1)=c6 f U i++(if 0<=U[i]! then [((f[i]!).1,U[i]!)] else []):=rfl
theorem HY {U:List Int} (hU:(ahD U)=ahD f) (hf:(ahD f)<=1000):u9 ⟨f⟩ U=ahE (c6 f U (ahD f)):=by
 have st:=bD (body:=tK) (fun i=>(U,(i:Int),f,c6 f U i)) (ahD f) (fun i hi=>by
  have gu:=aq U i (by omega);have gf:=aq f i hi;have el:=pz (f:=f) U i;have ap:bm (c6 f U i) [((f[i]!).1,U[i]!)]=ahE (c6 f U i++[((f[i]!).1,U[i]!)]):=cu (by rw [ut];omega);rw [DG];unfold tK;simp only [ay,aI (show (i:Int)<((ahD U):Int) by omega),kw,gu,gf,ao,ap,aT (show i<1000000000 by omega)]
  by_cases c:0<=U[i]!
  · rw [aI c,kw,lm c]
  rw [aD c,lc,ls c,AC])
 unfold u9;refine (show _=_ from st).trans (aC ?_);unfold tK;simp only [ay,aD (show¬((ahD f):Int)<((ahD U):Int) by omega),lc]
theorem Je (dK:bo f) (r:aW t) (lg:iI t):jT ⟨f⟩ t=ahE (kG f t,c6 f (kG f t) (ahD f)):=by
 have f1:=dK.1;obtain ⟨k1,_⟩:=sR (t:=t) dK;have nd:=k1.nodup_iff.2 (mh dK.2.2);have ul:=zk f t;have st:=bD (body:=od) (fun i=>(f,((ahD f):Int),(i:Int),iZ [] (lR f t),(kG f t).take i,c6 f (kG f t) i)) (ahD f) (fun i hi=>by
  have gf:=aq f i hi;have gm:jr 0 (iZ [] (lR f t)) (f[i]!).1=(kG f t)[i]!:=by rw [Lz _ _ _ nd,lm (k1.mem_iff.2 (lh.2 ⟨i,hi,rfl⟩)),Jb hi]
  have el:=pz (f:=f) (kG f t) i;have a1:bm ((kG f t).take i) [(kG f t)[i]!]=ahE ((kG f t).take (i+1)):=by rw [dp (by omega)];exact cu (by rw [ww,ut];omega)
  have a2:bm (c6 f (kG f t) i) [((f[i]!).1,(kG f t)[i]!)]=ahE (c6 f (kG f t) i++[((f[i]!).1,(kG f t)[i]!)]):=cu (by rw [ut];omega);rw [DG];unfold od;simp only [aI (show (i:Int)<((ahD f):Int) by omega),kw,gf,ao,gm,a1,a2,aT (show i<1000000000 by omega)]
  by_cases c:0<=(kG f t)[i]!
  · rw [aI c,kw,lm c]
  rw [aD c,lc,ls c,AC])
 have en:(kG f t).take (ahD f)=kG f t:=ab2 (by omega);unfold jT;rw [aaQ dK r lg,ao];refine (show _=_ from st).trans (aC ?_);unfold od;simp only [aD (show¬((ahD f):Int)<((ahD f):Int) by omega),lc,en]
end
theorem Nx (a b:List Int) (hl:(ahD a)<=1000000):lZ a b=ahE (ahH (a=b)):=by
 unfold lZ;simp only [ay]
 by_cases h:(ahD a)=ahD b
 case neg=>rw [dd (by omega),aD (fun k=>h (by rw [k]))];rfl
 rw [bL (by omega)];simp only [lc];have key:=C5 (body:=jw) (fun i=>(a,b,((ahD a):Int),(i:Int))) (ahD a) (fun i=>a[i]! =b[i]!) (r:=ahG) (e:=ahF) (fun i hi=>by
  unfold jw;simp only [aI (show (i:Int)<((ahD a):Int) by omega),kw,aq a i hi,aq b i (by omega),ao,aT (show i<1000000000 by omega)];constructor
  · intro h;rw [dd h];rfl
  · intro h;rw [bL h];rfl) (by
  unfold jw;simp only [aD (show¬((ahD a):Int)<((ahD a):Int) by omega),lc])
 refine (show _=_ from key).trans ?_
 by_cases q:a=b
 · rw [lm (fun i _=>by rw [q]),aI q]
 rw [ls (fun w=>q (qD h w)),aD q]
theorem LD (a b:List Int) (hl:(ahD a)<=1000000):jg a b=ahE (ahH (a=b)):=by
 unfold jg;simp only [ay]
 by_cases h:(ahD a)=ahD b
 case neg=>rw [dd (by omega),aD (fun k=>h (by rw [k]))];rfl
 rw [bL (by omega)];simp only [lc];have key:=C5 (body:=l9) (fun i=>(a,b,(i:Int))) (ahD a) (fun i=>a[i]! =b[i]!) (r:=ahG) (e:=ahF) (fun i hi=>by
  unfold l9;simp only [ay,aI (show (i:Int)<((ahD a):Int) by omega),kw,aq a i hi,aq b i (by omega),ao,aT (show i<1000000000 by omega)];constructor
  · intro h;rw [dd h];rfl
  · intro h;rw [bL h];rfl) (by
  unfold l9;simp only [ay,aD (show¬((ahD a):Int)<((ahD a):Int) by omega),lc])
 refine (show _=_ from key).trans ?_
 by_cases q:a=b
 · rw [lm (fun i _=>by rw [q]),aI q]
 rw [ls (fun w=>q (qD h w)),aD q]
structure eT (k:cC):Prop where
 Js:aU k.jp
 up:kG k.jp.ii.am k.jp.ci=k.up
 cert:(k.jp.af.ce.map fun x=>x.2).Perm (c6 k.jp.ii.am k.up (ahD k.jp.ii.am))
theorem GY {c:aH} (ok:aU c) (E:List (Int×Int)):
 (ahD E=ahD c.af.ce/\ ∀i,i<ahD c.af.ce->(c.af.ce[i]!).2∈E)↔(c.af.ce.map fun x=>x.2).Perm E:=by
 have cl:(c.af.ce.map fun x=>x.2).length=(ahD c.af.ce):=lw ..;constructor
 · rintro ⟨h1,h2⟩
   refine sQ (DB ok.sN) (fun x hx=>?_) (by omega);obtain ⟨i,hi,rfl⟩:=vu.2 hx;exact h2 i hi
 intro h
 exact ⟨by rw [<- h.length_eq,cl],fun i hi=>h.mem_iff.1 (vu.1 ⟨i,hi,rfl⟩)⟩
theorem Jf {c:aH} {E:List (Int×Int)} (nd:E.Nodup) (ld: ∀e∈E,leads (bF c.ii.am e.2) (bF c.ii.am e.1) c.ci):
 (ahD c.af.ce=ahD E/\ ∀i,i<ahD E->rI c.af.ce E[i]!/\leads (bF c.ii.am (E[i]!).2) (bF c.ii.am (E[i]!).1) c.ci)↔(c.af.ce.map fun x=>x.2).Perm E:=by
 have cl:(c.af.ce.map fun x=>x.2).length=(ahD c.af.ce):=lw ..;constructor
 · rintro ⟨h1,h2⟩
   refine (sQ nd (fun x hx=>?_) (by omega)).symm;obtain ⟨i,hi,rfl⟩:=aO.1 hx;exact vu.1 (h2 i hi).1
 intro h
 exact ⟨by rw [<- h.length_eq,cl],fun i hi=>⟨vu.2 (h.mem_iff.2 (aQ hi)),ld _ (aQ hi)⟩⟩
theorem QQ (es:List (Int×Int)) (l:List pZ) (h1:(ahD es)<=1000000) (_:(ahD l)<=1000000):
 aB kB (es,l,((ahD l):Int),0)=ahE (if∀i,i<ahD l->(l[i]!).2∈es then 0 else 8):=by
 have key:=C5 (body:=kB) (fun i=>(es,l,((ahD l):Int),(i:Int))) (ahD l) (fun i=>(l[i]!).2∈es) (r:=8) (e:=0) (fun i hi=>by
  unfold kB;simp only [aI (show (i:Int)<((ahD l):Int) by omega),kw,aq l i hi,ao,mL es _ h1,aT (show i<1000000000 by omega)];refine ⟨fun q=>?_,fun q=>?_⟩
  · rw [aD q];rfl
  · rw [aI q];rfl) (by
  unfold kB;simp only [aD (show¬((ahD l):Int)<((ahD l):Int) by omega),lc])
 refine (show _=_ from key).trans ?_
 by_cases q: ∀i,i<ahD l->(l[i]!).2∈es
 · rw [lm q,lm q]
 rw [ls q,ls q]
theorem DX {k:cC} (fit:vt k.jp):oi k=ahE (if eT k then 0 else 8):=by
 unfold oi;rw [jO fit,ao]
 by_cases ok:aU k.jp
 case neg=>rw [ls ok,ls (fun h=>ok h.Js)];rfl
 rw [lm ok,bL rfl,lc];have bd:=ok.bd;have f1:=ok.lq.1;have hh:=Je ok.lq ok.iL ok.iA;have hh:jT k.jp.ii k.jp.ci=_:=hh;have ul:=zk k.jp.ii.am k.jp.ci;rw [hh,ao,Nx _ _ (show (kG k.jp.ii.am k.jp.ci).length<=1000000 by omega),ao]
 by_cases hn:kG k.jp.ii.am k.jp.ci=k.up
 case neg=>rw [aD hn,ls (fun h:eT k=>hn h.up)];rfl
 have el:=pz (f:=k.jp.ii.am) k.up (ahD k.jp.ii.am);have iff:=GY ok (c6 k.jp.ii.am k.up (ahD k.jp.ii.am));rw [aI hn,aa3,lc,hn];simp only [ay]
 by_cases hc:(c6 k.jp.ii.am k.up (ahD k.jp.ii.am)).length=ahD k.jp.af.ce
 case neg=>rw [dd (by omega),kw,ls (fun h:eT k=>hc (iff.2 h.cert).1)]
 rw [bL (by omega),lc,QQ _ _ (by omega) (by omega)]
 by_cases hj: ∀i,i<ahD k.jp.af.ce->(k.jp.af.ce[i]!).2∈c6 k.jp.ii.am k.up (ahD k.jp.ii.am)
 · rw [lm hj,lm (show eT k from ⟨ok,hn,iff.1 ⟨hc,hj⟩⟩)]
 rw [ls hj,ls (fun h:eT k=>hj (iff.2 h.cert).2)]
theorem GA {k:cC} (fit:vt k.jp):tL k=ahE (if eT k then 0 else 8):=by
 unfold tL;rw [Gl fit,ao]
 by_cases ok:aU k.jp
 case neg=>rw [ls ok,ls (fun h=>ok h.Js)];rfl
 rw [lm ok,bL rfl,lc];have bd:=ok.bd;have f1:=ok.lq.1;have hu:u7 k.jp.ii k.jp.ci=_:=HX ok.lq ok.iA;have ul:=zk k.jp.ii.am k.jp.ci;rw [hu,ao,LD _ _ (show (kG k.jp.ii.am k.jp.ci).length<=1000000 by omega),ao]
 by_cases hn:kG k.jp.ii.am k.jp.ci=k.up
 case neg=>rw [aD hn,ls (fun h:eT k=>hn h.up)];rfl
 have of:u9 k.jp.ii (kG k.jp.ii.am k.jp.ci)=_:=HY (f:=k.jp.ii.am) ul (by omega);obtain ⟨GX,nd,ld⟩:=vw (t:=k.jp.ci) ok.lq;rw [aI hn,aa3,lc,of,ao,aaB ok _ GX.kn,ao];have iff:=Jf (c:=k.jp) nd ld
 by_cases hj:(ahD k.jp.af.ce)=(c6 k.jp.ii.am (kG k.jp.ii.am k.jp.ci) (ahD k.jp.ii.am)).length/\ ∀i,i<(c6 k.jp.ii.am (kG k.jp.ii.am k.jp.ci) (ahD k.jp.ii.am)).length->rI k.jp.af.ce (c6 k.jp.ii.am (kG k.jp.ii.am k.jp.ci) (ahD k.jp.ii.am))[i]!/\leads (bF k.jp.ii.am ((c6 k.jp.ii.am (kG k.jp.ii.am k.jp.ci) (ahD k.jp.ii.am))[i]!).2) (bF k.jp.ii.am ((c6 k.jp.ii.am (kG k.jp.ii.am k.jp.ci) (ahD k.jp.ii.am))[i]!).1) k.jp.ci
 · rw [aI hj,lm (show eT k from ⟨ok,hn,by rw [<- hn];exact iff.1 hj⟩)];rfl
 rw [aD hj,ls (fun h:eT k=>hj (iff.2 (by rw [hn];exact h.cert)))];rfl
structure Jg (k:cC):Prop where
 c:OV k.jp
 n:(ahD k.up)<=1000
theorem LF {k:cC} (h:Jg k):wL k k=ahE ahF:=by have hn:=h.n;unfold wL;rw [No h.c,ao,kw,LD _ _ (by omega),ao,aI rfl]
theorem Jh (k:cC):qt k=ahE ahF\/(qt k=ahE ahG/\Jg k):=by
 unfold qt
 rcases Lr k.jp with e|⟨e,sh⟩
 · rw [e];exact .inl rfl
 rw [e,ao,lc,ay]
 by_cases h:70<ahD k.up
 · rw [aI (by omega)];exact .inl rfl
 rw [aD (by omega)];exact .inr ⟨rfl,sh,by omega⟩
theorem Ny {c:aH} (ok:aU c) {f:List Pt} (dK:bo f):
 ∃R:aH×Int,nC c ⟨f⟩ (c6 f (kG f c.ci) (ahD f))=ahE R/\mI c ⟨f⟩ (c6 f (kG f c.ci) (ahD f))=ahE R/\(R.2=0/\Gp c f (c6 f (kG f c.ci) (ahD f)) R.1\/R=(dI,18)):=by
 have f1:=dK.1;obtain ⟨GX,nd,_⟩:=vw (t:=c.ci) dK;have el:=pz (f:=f) (kG f c.ci) (ahD f);obtain ⟨R,r1,r2,r3⟩:=aaz ok dK GX;have ee:mi f (c6 f (kG f c.ci) (ahD f))=0:=by unfold mi;rw [ls (Do.2 GX.cv),ls (Do.2 nd),ls (fun h=>h GX.kn)]
 have rn:=Gt ok dK (es:=c6 f (kG f c.ci) (ahD f)) (by omega) (fun _=>r1);rw [lm ee] at rn;exact ⟨R,rn,r2,r3⟩
structure Uo (c:aH) (f:List Pt) (R:cC×Int):Prop where
 err:R.2=0
 up:R.1.up=kG f c.ci
 vB:Gp c f (c6 f (kG f c.ci) (ahD f)) R.1.jp
theorem Ji {c:aH} (ok:aU c) {f:List Pt} (dK:bo f):
 ∃R:cC×Int,fu c ⟨f⟩=ahE R/\FT c ⟨f⟩=ahE R/\(Uo c f R\/R=(⟨dI,[]⟩,18)):=by
 have f1:=dK.1;obtain ⟨R,r1,r2,r3⟩:=Ny ok dK;have hh:=Je dK ok.iL ok.iA;have hu:=HX dK ok.iA;have of:=HY (f:=f) (zk f c.ci) (by omega);unfold fu FT;rw [hh,ao,hu,ao,of,ao];rcases r3 with ⟨q0,qq⟩|he
 · refine ⟨(⟨R.1,kG f c.ci⟩,0),?_,?_,.inl ⟨rfl,rfl,qq⟩⟩
   · rw [r1,ao,bL q0,lc]
   rw [r2,ao,bL q0,lc]
 refine ⟨(⟨dI,[]⟩,18),?_,?_,.inr rfl⟩
 · rw [r1,ao,he];rfl
 rw [r2,ao,he];rfl
theorem Gp.same {c:aH} {f:List Pt} {es:List (Int×Int)} {r:aH} (h:Gp c f es r) (nd:es.Nodup):(r.af.ce.map fun x=>x.2).Perm es:=by
 refine (List.perm_ext_iff_of_nodup (DB h.ok.sN) nd).2 fun x=>⟨fun hx=>?_,fun hx=>vu.1 (h.has x hx)⟩
 obtain ⟨y,hy,rfl⟩:=PP.1 hx;exact h.sub y hy
theorem Uo.ok {c:aH} {f:List Pt} {R:cC×Int} (dK:bo f) (h:Uo c f R):eT R.1 where
 Js:=h.vB.ok
 up:=by rw [h.vB.lq,h.vB.ci,h.up]
 cert:=by rw [h.vB.lq,h.up];exact h.vB.same (vw dK).2.1
theorem eT.short {k:cC} (h:eT k):Jg k:=⟨h.Js.short,by have:=h.Js.lq.1;rw [<- h.up,zk];omega⟩
abbrev noG:cC:=⟨dI,[]⟩
structure aps (R:cC) (F:List Pt) (t:Int×Int):Prop where
 ok:eT R
 lq:R.jp.ii.am=F
 ci:R.jp.ci=t
theorem Uo.hg {c:aH} {f:List Pt} {R:cC×Int} (dK:bo f) (h:Uo c f R):aps R.1 f c.ci:=⟨h.ok dK,h.vB.lq,h.vB.ci⟩
theorem Nz {c:aH} (ok:aU c) (ct: ∀e∈c6 c.ii.am (kG c.ii.am c.ci) (ahD c.ii.am),rI c.af.ce e) {to:Int×Int} (rt:aW to) (le: ¬dH to c.ci<0) (io: ¬xF c to):kG c.ii.am to=kG c.ii.am c.ci:=by
 obtain ⟨GX,_,ld⟩:=vw (t:=c.ci) ok.lq;refine QL ok.lq fun e he=>?_
 have kn:=GX.kn e he;have p1:=dG ok.lq kn.1;have p2:=dG ok.lq kn.2;have l0:=ld e he;obtain ⟨w,w1,w2⟩:=ct _ he;have wn:bk c.ii.am (c.af.ce[w]!).2 c.ci=jN (bF c.ii.am e.2) (bF c.ii.am e.1) c.ci:=by unfold bk;rw [w2]
 have nl: ¬leads (bF c.ii.am e.1) (bF c.ii.am e.2) to:=by
  refine aaR p2.1 p1.1 ok.iL rt (by rw [rH] at le;omega) fun is=>?_
  rw [<- wn] at is;obtain ⟨d,hd,_,ev⟩:=ok.zX.has _ (aQ w1) is;obtain ⟨v,hv,he⟩:=aO.1 ev;have tl:=C7 ok.kE v hv;have h0:0<(ahD c.aa.bv):=by omega
  have e0:=(ok.kE.ev 0 h0).1.1;have ev':=(ok.kE.ev v hv).1.1;rw [he] at tl ev';rw [<- wn];have n1: ¬dH (bk c.ii.am (c.af.ce[w]!).2 c.ci).1 (Ev.at c.aa.bv[0]!)<0:=fun q=>tl (.inl q)
  rw [rH] at n1;have n2: ¬dH (Ev.at c.aa.bv[0]!) to<=0:=fun q=>io ⟨h0,q⟩
  have n3:to.1*(Ev.at c.aa.bv[0]!).2<(Ev.at c.aa.bv[0]!).1*to.2:=by unfold dH at n2;rcases cM ((Ev.at c.aa.bv[0]!).1*to.2) (to.1*(Ev.at c.aa.bv[0]!).2) with ⟨a,b⟩|⟨a,b⟩|⟨a,b⟩<;>omega
  exact mJ rt.1 e0 ev' n3 (ah7.1 n1)
 refine yH to (fun q=>?_) nl;rw [p1.2,p2.2] at q;rw [q] at l0;exact tT l0 l0
def gP (c:aH) (U:List Int) (to:Int×Int) (out:List (Int×Int)):=
 (c.ci.1,c.ci.2,c.ii.am,c.af.aL,c.af.ce,c.aa.ae.ar,c.aa.ae.be,c.aa.ae.bi,c.aa.bv,c.aa.aj,c.io,U,to.1,to.2,(0:Int),(0:Int),(0:Int),out)
theorem aaU {k:cC} (n:T8 k.jp):vd k=ahE ahG\/(vd k=ahE ahF/\eT k/\ahD k.jp.ii.am<=10):=by
 unfold vd;rcases Jh k with e|⟨e,sh⟩
 · rw [e];exact .inl rfl
 rw [e,ao];unfold AL;rw [ao,ahw,kw]
 by_cases hm:10<aa9 (ahD k.jp.ii.am)
 · rw [aI hm];exact .inl rfl
 rw [aD hm,ahw,kw,GA ⟨n.ci,⟨sh.c.s3,sh.c.h,sh.c.w,n.Nf⟩,sh.c.d⟩,ao]
 by_cases ok:eT k
 · rw [lm ok];exact .inr ⟨rfl,ok,by rw [ay] at hm;omega⟩
 rw [ls ok];exact .inl rfl
theorem QR:kU=dE:=rfl
theorem GB {c1:aH} (pX:aU c1):(∃c2,fu c1 c1.ii=ahE (⟨c2,kG c2.ii.am c2.ci⟩,0)/\eT ⟨c2,kG c2.ii.am c2.ci⟩/\c2.ii.am=c1.ii.am/\c2.ci=c1.ci/\fF c1<=fF c2)\/fu c1 c1.ii=ahE (noG,18):=by
 obtain ⟨R,s1,_,s3⟩:=Ji pX pX.lq;have s1:fu c1 c1.ii=ahE R:=s1;rcases s3 with q|he
 · left
   have h:=q.hg pX.lq;have e:kG R.1.jp.ii.am R.1.jp.ci=R.1.up:=h.ok.up;refine ⟨R.1.jp,?_,?_,q.vB.lq,q.vB.ci,by have:=q.vB.room;omega⟩
   · rw [s1,e,<- q.err]
   rw [e];exact h.ok
 exact .inr (by rw [s1,he])
noncomputable def gx:Sys cC where
 vv to c out:=aB gn (gP c (kG c.ii.am c.ci) to out)
 Inv c:=eT ⟨c,kG c.ii.am c.ci⟩
 set c1:=(fu c1 c1.ii).bind fun R=>if R.2=0 then ahE R.1.jp else none
 res c:=⟨c,kG c.ii.am c.ci⟩
 zero:=noG
 ok h:=h.Js
 lead {c} h e he:=(vw (t:=c.ci) h.Js.lq).2.2 e (h.cert.mem_iff.1 he)
 at_ {c to} h rt lg le io:=by have ok:aU c:=h.Js;have us:=Nz ok (fun e he=>vu.2 (h.cert.mem_iff.2 he)) rt le io;show eT ⟨BW c to,kG c.ii.am to⟩;refine ⟨Ud ok rt lg le io,rfl,?_⟩;show (c.af.ce.map fun x=>x.2).Perm (c6 c.ii.am (kG c.ii.am to) (ahD c.ii.am));rw [us];exact h.cert
 stop {c to out} h rt lg le io:=by
  have ok:aU c:=h.Js;have sP:(aH.mk (c.ci.1,c.ci.2) (Field.mk c.ii.am) (aZ.mk c.af.aL c.af.ce) (aJ.mk (aS.mk c.aa.ae.ar c.aa.ae.be c.aa.ae.bi) c.aa.bv c.aa.aj) c.io)=c:=rfl;have aaV:((to.1,to.2):Int×Int)=to:=rfl;have hh:jT (BW c to).ii to=ahE (kG c.ii.am to,c6 c.ii.am (kG c.ii.am to) (ahD c.ii.am)):=Je ok.lq rt lg;refine aC ?_;unfold gn gP;simp only [sP,aaV,Uc ok rt lg le io,ao,show ((6:Int) !=0)=ahF from rfl,kw,aaC ok rt lg le io,hh]
 ev {c to out c1 e x} h rt lg le io f1 pX hf ho:=by
  have ok:aU c:=h.Js;have sP:(aH.mk (c.ci.1,c.ci.2) (Field.mk c.ii.am) (aZ.mk c.af.aL c.af.ce) (aJ.mk (aS.mk c.aa.ae.ar c.aa.ae.be c.aa.ae.bi) c.aa.bv c.aa.aj) c.io)=c:=rfl;have aaV:((to.1,to.2):Int×Int)=to:=rfl;have ol:bm out [x]=ahE (out++[x]):=cu (by rw [ut];exact ho);rcases GB pX with ⟨c2,s1,_⟩|s1
  · rw [s1,ao,lm rfl]
    refine aV ?_;unfold gn gP;simp only [sP,aaV,f1,ao,s1,show ((0:Int) !=0)=ahG from rfl,lc,ol]
  rw [s1,ao,ls (show¬(noG,(18:Int)).2=0 from fun h=>by cases h)]
  refine aC ?_;unfold gn gP;simp only [sP,aaV,f1,ao,s1,show ((0:Int) !=0)=ahG from rfl,show ((18:Int) !=0)=ahF from rfl,lc,kw]
 kept {c c1 c2} h pX hf hs:=by
  rcases GB pX with ⟨c3,s1,k1,k2,k3,k4⟩|s1
  · rw [s1,ao,lm rfl] at hs
    injection hs with hs;subst hs;exact ⟨k1,by rw [k2,hf],k3,k4⟩
  rw [s1,ao,ls (show¬(noG,(18:Int)).2=0 from fun h=>by cases h)] at hs
  cases hs
theorem sS {k:cC} (ok:eT k) {to:Int×Int} (rt:aW to) (lg:iI to) (le: ¬dH to k.jp.ci<0):gx.Inv k.jp/\fX k to=gx.vv to k.jp []/\k=gx.res k.jp:=by
 have c1:=DX ok.Js.fit;rw [lm ok] at c1;have e:=ok.up;have ke:k=⟨k.jp,kG k.jp.ii.am k.jp.ci⟩:=by rw [e]
 refine ⟨?_,?_,ke⟩
 · show eT ⟨k.jp,kG k.jp.ii.am k.jp.ci⟩
   rw [<- ke];exact ok
 show _=aB gn (gP k.jp (kG k.jp.ii.am k.jp.ci) to [])
 rw [e];unfold fX;rw [c1,ao,bL rfl,lc,dm lg,lm rt,ao,bL rfl,lc,CU lg ok.Js.iA,lm ⟨rt,ok.Js.iL⟩,ao,aD le];rfl
theorem vA (k:cC) (s t:Int×Int) (n:T8 k.jp) (DW:iI s) (t64:iI t):na k s t=ahE ahF:=by
 unfold na;rw [ao];rcases aaU n with e|⟨e,ok,h10⟩
 · rw [e];rfl
 rw [e,ao,aa3,lc,aaL DW t64,ao]
 by_cases rr:aW s/\aW t
 case neg=>rw [ls rr];rfl
 obtain ⟨rs,rt⟩:=rr;rw [lm ⟨rs,rt⟩,bL rfl,lc,wQ n.ci DW,ao]
 by_cases l1:0<dH k.jp.ci s
 · rw [aI l1];rfl
 rw [aD l1,lc,wQ DW t64,ao]
 by_cases l2:0<dH s t
 · rw [aI l2];rfl
 rw [aD l2,lc,lc];have ks:=abY l1;have st:=abY l2;have kt:=BX ok.Js.iL rs rt ks st;have dK:=ok.Js.lq;have rb:=mj ok.Js;obtain ⟨inv,at_,_⟩:=sS ok rt t64 kt;obtain ⟨_,as_,_⟩:=sS ok rs DW ks;rw [at_,as_];rcases QJ gx inv rs DW rt t64 ks st with ⟨h1,h2⟩|⟨c2,m,h1,i2,hf2,le2,apt,h3⟩
 · rw [h2,ao,h1,ao];rfl
 have b2:=gx.at_ i2 rs DW le2 apt;obtain ⟨_,av,_⟩:=sS (k:=gx.res (BW c2 s)) b2 rt t64 st;have av:fX (gx.res (BW c2 s)) t=gx.vv t (BW c2 s) []:=av;rcases h3 with ⟨_,h4⟩|⟨c3,l,h4,h5,i3,le3,apu,hl⟩
 · rw [h4,ao,h1,ao];rfl
 obtain ⟨L,a1,a2,a3,a4⟩:=ag9 dK ok.Js.iL n.ci rt t64 (QH kt);have hL:QG k.jp.ii.am k.jp.ci t L:=⟨a2,a3,a4⟩;have a1:yu k.jp.ii k.jp.ci t=ahE (L,0):=a1;obtain ⟨E,c9,e1,eS,e3⟩: ∃E c9,m++l=List.map (fun e=>e.1) E/\QI k.jp.ii.am k.jp.ci t c9 E/\ahD E<=1000400:=by
  rcases aaK gx ok.Js.iL rt t64 (1000000-fF k.jp).toNat k.jp [] (by omega) inv rfl (.nil _ _ _ _) (acl _) kt (by simp;omega) with q|⟨c9,E,q1,q2,_,_,_,q3,q4⟩
  · have q:gx.vv t k.jp []=_:=q
    rw [h5] at q;injection q with q;injection q with _ q;injection q with _ q;cases q
  have q1:gx.vv t k.jp []=_:=q1
  rw [h5] at q1;injection q1 with q1;injection q1 with _ q1;injection q1 with q1 _;have:=mj (gx.ok q2);exact ⟨E,_,q1,q3,by omega⟩
 have sh3:Jg (gx.res (BW c3 t)):=(gx.at_ i3 rt t64 le3 apu).short;obtain ⟨n1,n2⟩:=ahd dK hL eS e3;rw [<- QR] at n2;rw [h5,ao,h1,ao];simp only [show ((0:Int) !=0)=ahG from rfl,lc];rw [av,h4,ao,a1,ao];simp only [show ((0:Int) !=0)=ahG from rfl,lc];rw [LF sh3,ao,aa3,lc,bj (show (ahD m)<=1048576 by omega),ao];rw [<- e1] at n1 n2;have nl:ahH (((ahD L):Int)<((m++l).length:Int))=ahG:=aD (by omega);cases hm:l.isEmpty with
 |true=>rw [List.isEmpty_iff] at hm;subst hm;rw [AC] at n1 n2 nl ⊢;rw [kw,Gs m (by omega),ao,aa3,lc];simp only [ay];rw [nl,lc,n2]
 |false=>rw [lc,cu (show (ahD m)+ahD l<=1048576 by omega),ao,Gs (m++l) (by rw [If];omega),ao,aa3,lc];simp only [ay];rw [nl,lc,n2]
theorem T8.of {c:aH} (h1:RT.wf [.i .i64,.i .i64] c.ci) (h2: ∀a∈c.aa.bv,RT.wf [.i .i64,.i .i64,.i .i64,.i .i64,.i .i64] a):T8 c where
 ci:=⟨wf_i64 h1.1,wf_i64 h1.2⟩
 Nf w hw:=by have:=h2 (c.aa.bv[w]!) (by rw [getElem!_pos c.aa.bv w hw];exact List.getElem_mem hw);exact ⟨wf_i64 this.1,wf_i64 this.2.1⟩
end Go.Proofs.YtcljjehjppgijaaGreat
