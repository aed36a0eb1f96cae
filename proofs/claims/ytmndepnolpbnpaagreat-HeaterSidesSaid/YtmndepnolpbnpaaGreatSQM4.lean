/- Plain laws (4). -/
import Derived.Test.YtmndepnolpbnpaaGreatSQM3
import Derived.Test.YtmndepnolpbnpaaGreatSQS1
import Derived.Test.YtmndepnolpbnpaaGreatSVm4
open List renaming length_singleton->pm,replicate->pp,length_append->rc,length_replicate->v4,length_take->ww,length_set->AC,take_of_length_le->If,append_assoc->NE,take_append_of_le_length->PP,append_nil->aag,length_map->aaj,map_append->aau,mem_singleton->ab2,getElem_replicate->ab3,nodup_nil->ab7,take_take->ab8,range'_append->abk,mem_map->abx,length_drop->abD,nodup_cons->abF,range->abH,mem_range->abI,length->abK
open Classical renaming not_not->ut,not_forall->UV,not_imp->aah
open Nat renaming le_refl->v6,zero_le->wn,not_lt_zero->Do,lt_trichotomy->EQ,sub_self->ab0,zero_add->ab1,min_eq_left->ab4,ble_eq_true_of_le->ab5,le_of_ble_eq_true->ab6,lt_irrefl->abb,ble->abm,succ_ne_zero->abE
open Bool renaming not_true->IR,and_self->aa7,not_false->ab9,true->abM,false->abN
open Int renaming toNat_natCast->M2
open Prod renaming ext->abG
open Option renaming some->abL
open Decidable renaming decide->abO
namespace Go.Proofs.YtmndepnolpbnpaaGreat
open Go.Vm Classical
theorem N3 {f:List Pt} (fv:cj f) {t:Int×Int} (wH:nX t) {a b:Int} (ha:qG f a) (hb:qG f b):j8 ⟨f⟩ t a b=abL (abO (leads (pN f a) (pN f b) t)):=by obtain ⟨j,j1,j2,j3⟩:=zg fv ha;obtain ⟨k,k1,k2,k3⟩:=zg fv hb;unfold j8;simp only [j2,k2,au,ar f j j1,ar f k k1,j3,k3,Gu (je fv ha).1 (je fv hb).1 wH]
theorem EL (p q:Pt) (t:Int×Int):Du p q t=(p.2.1*t.2+p.2.2*t.1) - (q.2.1*t.2+q.2.2*t.1):=by rw [RQ,Int.sub_mul,Int.sub_mul];omega
theorem GM {p q r:Pt} {t:Int×Int} (h1:leads p q t) (h2:leads q r t):leads p r t:=by unfold leads at*;rw [EL] at*;generalize p.2.1*t.2+p.2.2*t.1=a at*;generalize q.2.1*t.2+q.2.2*t.1=b at*;generalize r.2.1*t.2+r.2.2*t.1=c at*;omega
theorem GN {p q:Pt} (t:Int×Int) (h:p.1≠q.1) (hn: ¬leads p q t):leads q p t:=by unfold leads at*;rw [EL] at*;generalize p.2.1*t.2+p.2.2*t.1=a at*;generalize q.2.1*t.2+q.2.2*t.1=b at*;omega
section
variable {P : Int -> Int -> Prop} {S : Int -> Prop}
end
noncomputable def gI (f:List Pt) (es:List (Int×Int)):Int:=if¬(∀x∈es,cZ x) then 8 else if¬es.Nodup then 14 else if¬(∀x∈es,gZ f x) then 6 else 0
theorem Cl {f:List Pt} (fv:cj f) (es:List (Int×Int)) (hl:(abK es)<=1000):mY ⟨f⟩ es=abL (gI f es):=by
 have el:abO (((abK es):Int)<((abK es):Int))=abN:=aD (by omega);have k1:=Cj (body:=kX) (fun i=>(es,(i:Int),f)) (abK es) (fun i=>gZ f es[i]!) (r:= .done (.done 6)) (e:= .done (.done 0)) (fun i hi=>by
  have e1:abO ((i:Int)<((abK es):Int))=abM:=aH (by omega);unfold kX gZ;simp only [aB,e1,ls,ar es i hi,au,aV (show i<1000000000 by omega)]
  by_cases h1:qG f (es[i]!).1
  · obtain ⟨a,a1,a2,_⟩:=zg fv h1
    rw [a2];simp only [au,aD (show¬(a:Int)<0 by omega),lw]
    by_cases h2:qG f (es[i]!).2
    · obtain ⟨b,b1,b2,_⟩:=zg fv h2
      rw [b2];simp only [au,aD (show¬(b:Int)<0 by omega),lw];exact ⟨fun h=>absurd ⟨h1,h2⟩ h,fun _=>trivial⟩
    rw [NR fv h2]
    exact ⟨fun _=>rfl,fun h=>absurd h.2 h2⟩
  · rw [NR fv h1]
    exact ⟨fun _=>rfl,fun h=>absurd h.1 h1⟩) (by
  unfold kX;simp only [aB,el,lw])
 have k2:=Cj (body:=kY) (fun i=>(es,(i:Int),f)) (abK es) (fun i=>es[i]!∉es.take i) (r:= .done 14) (e:= .done (if∀i,i<abK es->gZ f es[i]! then 0 else 6)) (fun i hi=>by
  have e1:abO ((i:Int)<((abK es):Int))=abM:=aH (by omega);unfold kY;simp only [aB,e1,ls,qF es i (by omega),ar es i hi,au,GI _ _ (show (es.take i).length<=1000000 by rw [ww];omega),aV (show i<1000000000 by omega)]
  by_cases h:es[i]!∈es.take i
  · rw [aH h];exact ⟨fun _=>rfl,fun k=>absurd h k⟩
  · rw [aD h];exact ⟨fun k=>absurd h k,fun _=>rfl⟩) (by
  unfold kY;simp only [aB,el,lw];refine k1.trans ?_
  by_cases hb: ∀i,i<abK es->gZ f es[i]!
  · rw [ol hb,ol hb]
  rw [pi hb,pi hb])
 have k3:=Cj (body:=kZ) (fun i=>(es,(i:Int),f)) (abK es) (fun i=>cZ es[i]!) (r:=8) (e:=if∀i,i<abK es->es[i]!∉es.take i then (if∀i,i<abK es->gZ f es[i]! then 0 else 6) else 14) (fun i hi=>by
  have e1:abO ((i:Int)<((abK es):Int))=abM:=aH (by omega);unfold kZ;simp only [aB,e1,ls,ar es i hi,au,p6,aV (show i<1000000000 by omega)]
  by_cases h:cZ es[i]!
  · rw [aH h];exact ⟨fun k=>absurd h k,fun _=>rfl⟩
  · rw [aD h];exact ⟨fun _=>rfl,fun k=>absurd k h⟩) (by
  unfold kZ;simp only [aB,el,lw];refine k2.trans ?_
  by_cases hb: ∀i,i<abK es->es[i]!∉es.take i
  · rw [ol hb,ol hb]
  rw [pi hb,pi hb])
 refine k3.trans ?_;unfold gI;have a1:=qH (P:=cZ) (l:=es);have a2:=wJ (l:=es);have a3:=qH (P:=gZ f) (l:=es)
 by_cases h1: ∀x∈es,cZ x
 · rw [ol (a1.1 h1),pi (ut.2 h1)]
   by_cases h2:es.Nodup
   · rw [ol (a2.1 h2),pi (ut.2 h2)]
     by_cases h3: ∀x∈es,gZ f x
     · rw [ol (a3.1 h3),pi (ut.2 h3)]
     rw [pi (fun h=>h3 (a3.2 h)),ol h3]
   rw [pi (fun h=>h2 (a2.2 h)),ol h2]
 rw [pi (fun h=>h1 (a1.2 h)),ol h1]
def rP (c:aK) (f:List Pt) (es:List (Int×Int)) (i:Nat):=
 (es,es,((abK es):Int),(i:Int),c.ci.1,c.ci.2,c.dl.am,c.ai.aL,c.ai.ce,c.ae.af.aC,c.ae.af.be,c.ae.af.bi,c.ae.bv,c.ae.ay,c.ii,f,(0:Int),(0:Int),(0:Int))
theorem Cm {c:aK} (ok:cy c) {f:List Pt} (fv:cj f) {es:List (Int×Int)} (hl:(abK es)<=1000) {r:aK×Int} (hr:gI f es=0->mU c ⟨f⟩ es=abL r):
 j7 c ⟨f⟩ es=abL (if gI f es=0 then r else (fK,gI f es)):=by
 have bd:=ok.bd;have ab:=ok.sG.bd;have sl:=ok.sG.so.fl;have sn:=ok.sG.so.n2;have su:=ok.sG.so.ul;have el:abO (((abK es):Int)<((abK es):Int))=abN:=aD (by omega);have hc:eJ c=abL 0:=by rw [oO ok.fit,ol ok]
 have hf:dY ⟨f⟩=abL 0:=by rw [iY];exact congrArg abL (iX.2 fv)
 have tw:oB (aK.mk (c.ci.1,c.ci.2) (Field.mk c.dl.am) (aZ.mk c.ai.aL c.ai.ce) (aJ.mk (aO.mk c.ae.af.aC c.ae.af.be c.ae.af.bi) c.ae.bv c.ae.ay) c.ii)=abL c:=by
  unfold oB;simp only [bg (show (abK c.dl.am)<=1048576 by omega),bg (show (abK c.ai.ce)<=1048576 by omega),bg (show (abK c.ii)<=1048576 by omega),bg (show (abK c.ae.bv)<=1048576 by omega),bg (show (abK c.ae.ay)<=1048576 by omega),
   bg (show (abK c.ae.af.aC)<=1048576 by omega),bg (show (abK c.ae.af.be)<=1048576 by omega),bg (show (abK c.ae.af.bi)<=1048576 by omega),au]
 have k3: ∀e2:aK×Int,ax cQ (rP c f es 0)=abL (.done e2)->ax cR (rP c f es 0)=abL (if∀i,i<abK es->cZ es[i]! then e2 else (fK,8)):=by
  intro e2 h2;refine Cj (body:=cR) (fun i=>rP c f es i) (abK es) (fun i=>cZ es[i]!) (r:=(fK,8)) (e:=e2) (fun i hi=>?_) ?_
  · have e1:abO ((i:Int)<((abK es):Int))=abM:=aH (by omega)
    unfold cR rP cZ;simp only [e1,ls,ar es i hi,au,aV (show i<1000000000 by omega)];generalize es[i]! =x
    by_cases a1:x.1<0
    · rw [aH a1];exact ⟨fun _=>rfl,fun h=>by omega⟩
    rw [aD a1]
    by_cases a2:x.2<0
    · rw [aH a2];exact ⟨fun _=>rfl,fun h=>by omega⟩
    rw [aD a2]
    by_cases a3:65535<x.1
    · rw [aH a3];exact ⟨fun _=>rfl,fun h=>by omega⟩
    rw [aD a3]
    by_cases a4:65535<x.2
    · rw [aH a4];exact ⟨fun _=>rfl,fun h=>by omega⟩
    rw [aD a4]
    by_cases a5:x.1=x.2
    · rw [fe a5];exact ⟨fun _=>rfl,fun h=>absurd a5 h.2.2.2.2⟩
    rw [ef a5];exact ⟨fun h=>absurd ⟨by omega,by omega,by omega,by omega,a5⟩ h,fun _=>rfl⟩
  unfold cR rP
  simp only [aB,el,lw];exact h2
 have k2: ∀e1:aK×Int,ax dh (rP c f es 0)=abL (.done (.done e1))->ax cQ (rP c f es 0)=abL (.done (if∀i,i<abK es->es[i]!∉es.take i then e1 else (fK,14))):=by
  intro e0 h2;have:=Cj (body:=cQ) (fun i=>rP c f es i) (abK es) (fun i=>es[i]!∉es.take i) (r:= .done (fK,14)) (e:= .done e0) (fun i hi=>by
   have e1:abO ((i:Int)<((abK es):Int))=abM:=aH (by omega);unfold cQ rP;simp only [e1,ls,ar es i hi,qF es i (by omega),au,p8 _ _ (show (es.take i).length<=1000000 by rw [ww];omega),aV (show i<1000000000 by omega)]
   by_cases h:es[i]!∈es.take i
   · rw [aH h];exact ⟨fun _=>rfl,fun k=>absurd h k⟩
   · rw [aD h];exact ⟨fun k=>absurd h k,fun _=>rfl⟩) (by
   unfold cQ rP;simp only [aB,el,lw];exact h2)
  refine this.trans ?_
  by_cases hb: ∀i,i<abK es->es[i]!∉es.take i
  · rw [ol hb,ol hb]
  rw [pi hb,pi hb]
 have N4: ∀i,i<abK es->(¬gZ f es[i]!->dh (rP c f es i)=abL (.done (.done (.done (fK,6)))))/\(gZ f es[i]!->dh (rP c f es i)=abL (.next (rP c f es (i+1)))):=by
  intro i hi;have e1:abO ((i:Int)<((abK es):Int))=abM:=aH (by omega);obtain ⟨p,e,a1,a2⟩:=vJ fv (es[i]!).1;obtain ⟨q,g,b1,b2⟩:=vJ fv (es[i]!).2;unfold dh rP gZ;simp only [e1,ls,ar es i hi,au,a1,b1,aV (show i<1000000000 by omega)]
  by_cases h1:qG f (es[i]!).1
  · rw [dv (a2.2 h1)]
    by_cases h2:qG f (es[i]!).2
    · rw [dv (b2.2 h2)]
      exact ⟨fun h=>absurd ⟨h1,h2⟩ h,fun _=>rfl⟩
    rw [fH (fun h=>h2 (b2.1 h))]
    exact ⟨fun _=>rfl,fun h=>absurd h.2 h2⟩
  rw [fH (fun h=>h1 (a2.1 h))]
  exact ⟨fun _=>rfl,fun h=>absurd h.1 h1⟩
 have start:j7 c ⟨f⟩ es=ax cR (rP c f es 0):=by unfold j7;simp only [hc,au,show ((0:Int) !=0)=abN from rfl,lw,hf];rfl
 rw [start]
 by_cases h1: ∀x∈es,cZ x
 case neg=>
  have er:gI f es=8:=by unfold gI;rw [ol h1]
  rw [er,pi (by omega)];have:=dD (body:=cR) (fun i=>rP c f es i) (abK es) (fun i=> ¬cZ es[i]!) (r:=(fK,8)) (e:=r);have k3':=k3;rw [qH (P:=cZ)] at h1;obtain ⟨i,h⟩:=UV.1 h1;obtain ⟨hi,hx⟩:=aah.1 h;obtain ⟨m,m1,m2,m3⟩:=least (c:=fun i=> ¬cZ es[i]!) ⟨i,hi,hx⟩;have go: ∀j,j<abK es->(¬cZ es[j]!->cR (rP c f es j)=abL (.done (fK,8)))/\(cZ es[j]!->cR (rP c f es j)=abL (.next (rP c f es (j+1)))):=by
   intro j hj;have e1:abO ((j:Int)<((abK es):Int))=abM:=aH (by omega);unfold cR rP cZ;simp only [e1,ls,ar es j hj,au,aV (show j<1000000000 by omega)];generalize es[j]! =x
   by_cases a1:x.1<0
   · rw [aH a1];exact ⟨fun _=>rfl,fun h=>by omega⟩
   rw [aD a1]
   by_cases a2:x.2<0
   · rw [aH a2];exact ⟨fun _=>rfl,fun h=>by omega⟩
   rw [aD a2]
   by_cases a3:65535<x.1
   · rw [aH a3];exact ⟨fun _=>rfl,fun h=>by omega⟩
   rw [aD a3]
   by_cases a4:65535<x.2
   · rw [aH a4];exact ⟨fun _=>rfl,fun h=>by omega⟩
   rw [aD a4]
   by_cases a5:x.1=x.2
   · rw [fe a5];exact ⟨fun _=>rfl,fun h=>absurd a5 h.2.2.2.2⟩
   rw [ef a5];exact ⟨fun h=>absurd ⟨by omega,by omega,by omega,by omega,a5⟩ h,fun _=>rfl⟩
  rw [cf (body:=cR) (fun i=>rP c f es i) m fun j hj=>(go j (by omega)).2 (ut.1 (m3 j hj))];exact aF ((go m m1).1 m2)
 have GX:=(qH (P:=cZ)).1 h1
 by_cases h2:es.Nodup
 case neg=>
  have er:gI f es=14:=by unfold gI;rw [pi (ut.2 h1),ol h2]
  rw [er,pi (by omega)];have Kw:=h2;rw [wJ] at Kw;obtain ⟨i,h⟩:=UV.1 Kw;obtain ⟨hi,hx⟩:=aah.1 h;obtain ⟨m,m1,m2,m3⟩:=least (c:=fun i=> ¬es[i]!∉es.take i) ⟨i,hi,hx⟩;have go: ∀j,j<abK es->(es[j]!∈es.take j->cQ (rP c f es j)=abL (.done (.done (fK,14))))/\(es[j]!∉es.take j->cQ (rP c f es j)=abL (.next (rP c f es (j+1)))):=by
   intro j hj;have e1:abO ((j:Int)<((abK es):Int))=abM:=aH (by omega);unfold cQ rP;simp only [e1,ls,ar es j hj,qF es j (by omega),au,p8 _ _ (show (es.take j).length<=1000000 by rw [ww];omega),aV (show j<1000000000 by omega)]
   by_cases h:es[j]!∈es.take j
   · rw [aH h];exact ⟨fun _=>rfl,fun k=>absurd h k⟩
   rw [aD h];exact ⟨fun k=>absurd k h,fun _=>rfl⟩
  have l2:ax cQ (rP c f es 0)=abL (.done (fK,14)):=by rw [cf (body:=cQ) (fun i=>rP c f es i) m fun j hj=>(go j (by omega)).2 (ut.1 (m3 j hj))];exact aF ((go m m1).1 (ut.1 m2))
  rw [k3 _ l2,ol GX]
 have Kw:=wJ.1 h2
 by_cases h3: ∀x∈es,gZ f x
 case neg=>
  have er:gI f es=6:=by unfold gI;rw [pi (ut.2 h1),pi (ut.2 h2),ol h3]
  rw [er,pi (by omega)];have YP:=h3;rw [qH (P:=gZ f)] at YP;obtain ⟨i,h⟩:=UV.1 YP;obtain ⟨hi,hx⟩:=aah.1 h;obtain ⟨m,m1,m2,m3⟩:=least (c:=fun i=> ¬gZ f es[i]!) ⟨i,hi,hx⟩;have l1:ax dh (rP c f es 0)=abL (.done (.done (fK,6))):=by rw [cf (body:=dh) (fun i=>rP c f es i) m fun j hj=>(N4 j (by omega)).2 (ut.1 (m3 j hj))];exact aF ((N4 m m1).1 m2)
  rw [k3 _ (k2 _ l1),ol GX,ol Kw]
 have YP:=(qH (P:=gZ f)).1 h3;have er:gI f es=0:=by unfold gI;rw [pi (ut.2 h1),pi (ut.2 h2),pi (ut.2 h3)]
 rw [er,ol rfl];have l1:ax dh (rP c f es 0)=abL (.done (.done r)):=by rw [cf (body:=dh) (fun i=>rP c f es i) (abK es) fun j hj=>(N4 j hj).2 (YP j hj)];refine aF ?_;unfold dh rP;simp only [el,lw,tw,au,hr er]
 rw [k3 _ (k2 _ l1),ol GX,ol Kw]
theorem tk {l:List Int} {m:Nat} {x:Int} (h:(abK l)=m):(l++[x]).take m=l:=by rw [<- h,List.take_left]
section
variable {k : SZ} {f : List Pt} {m n0 : Nat} {x : Int}
end
section
variable {k : SZ} {P : Pt} {f : List Pt} {m : Nat}
end
end Go.Proofs.YtmndepnolpbnpaaGreat
namespace Go.Proofs.YtmndepnolpbnpaaGreat
open Go.Vm
abbrev Nd:=Int×Int×Int
structure DE (P:Nat->Nat->Prop) (a b i:Nat):Prop where
 lo:a<=i
 hi:i<b
 top: ∀j,a<=j->j<b->j≠i->P i j
inductive gl (P:Nat->Nat->Prop) (N:List Nd):Nat->Nat->Int->Prop
 |nil {a b:Nat} (h:b<=a):gl P N a b (-1)
 |node {a b i:Nat} (h:DE P a b i) (l:gl P N a i (N[i]!).2.1) (r:gl P N (i+1) b (N[i]!).2.2):gl P N a b (i:Int)
structure RR (P:Nat->Nat->Prop) (n:Nat):Prop where
 tr: ∀i j k,i<n->j<n->k<n->P i j->P j k->P i k
 asy: ∀i j,i<n->j<n->P i j-> ¬P j i
 tot: ∀i j,i<n->j<n->i≠j-> ¬P i j->P j i
theorem DE.one {P:Nat->Nat->Prop} {n a b i j:Nat} (o:RR P n) (hb:b<=n) (h:DE P a b i) (k:DE P a b j):i=j:=by
 refine Classical.byContradiction fun dK=>?_
 have:=h.hi;have:=k.hi;exact o.asy i j (by omega) (by omega) (h.top j k.lo k.hi (fun e=>dK e.symm)) (k.top i h.lo h.hi dK)
theorem gl.link {P:Nat->Nat->Prop} {N:List Nd} {a b:Nat} {r:Int} (h:gl P N a b r):(b<=a/\r= -1)\/(∃i:Nat,r=(i:Int)/\a<=i/\i<b):=by
 cases h with
 |nil h=>exact .inl ⟨h,rfl⟩
 |node h l r=>exact .inr ⟨_,rfl,h.lo,h.hi⟩
theorem gl.unique {P:Nat->Nat->Prop} {n:Nat} (o:RR P n) {N N':List Nd} {a b:Nat} {r:Int} (h:gl P N a b r): ∀{r':Int},b<=n->gl P N' a b r'->r=r'/\ ∀k,a<=k->k<b->(N[k]!).2=(N'[k]!).2:=by
 induction h with
 |nil h=>
  intro r' hb h';cases h' with
  |nil _=>exact ⟨rfl,fun k h1 h2=>by omega⟩
  |node t _ _=>have:=t.lo;have:=t.hi;omega
 | @node a b i h l r Iv Iw=>
  intro r' hb h';have lo:=h.lo;have hi:=h.hi;cases h' with
  |nil q=>omega
  | @node _ _ j t l' r'=>
   have e:=h.one o hb t;subst e;obtain ⟨e1,f1⟩:=Iv (by omega) l';obtain ⟨e2,f2⟩:=Iw hb r';refine ⟨rfl,fun k h1 h2=>?_⟩;rcases EQ k i with q|q|q
   · exact f1 k h1 q
   · subst q;exact abG e1 e2
   exact f2 k (by omega) h2
theorem gl.frame {P:Nat->Nat->Prop} {N N':List Nd} {a b:Nat} {r:Int} (h:gl P N a b r):(∀k,a<=k->k<b->(N[k]!).2=(N'[k]!).2)->gl P N' a b r:=by
 induction h with
 |nil h=>exact fun _=> .nil h
 | @node a b i h l r Iv Iw=>
  intro f;have lo:=h.lo;have hi:=h.hi;have e:=f i lo hi;refine .node h ?_ ?_
  · rw [<- e];exact Iv fun k h1 h2=>f k h1 (by omega)
  rw [<- e];exact Iw fun k h1 h2=>f k (by omega) h2
theorem gl.kids {P:Nat->Nat->Prop} {N:List Nd} {a b:Nat} {r:Int} (h:gl P N a b r): ∀k,a<=k->k<b-> ∀c:Int,((N[k]!).2.1=c\/(N[k]!).2.2=c)->c= -1\/ ∃j:Nat,c=(j:Int)/\a<=j/\j<b/\j≠k/\P k j/\r≠c:=by
 induction h with
 |nil h=>intro k h1 h2;omega
 | @node a b i h l r Iv Iw=>
  have lo:=h.lo;have hi:=h.hi;intro k h1 h2 c hc;rcases EQ k i with q|q|q
  · rcases Iv k h1 q c hc with e|⟨j,e,j1,j2,j3,j4,_⟩
    · exact .inl e
    exact .inr ⟨j,e,j1,by omega,j3,j4,by rw [e];omega⟩
  · subst q
    rcases hc with hc|hc
    · rcases l.link with ⟨_,e⟩|⟨j,e,j1,j2⟩
      · exact .inl (hc▸e)
      exact .inr ⟨j,hc▸e,j1,by omega,by omega,h.top j j1 (by omega) (by omega),by rw [<- hc,e];omega⟩
    rcases r.link with ⟨_,e⟩|⟨j,e,j1,j2⟩
    · exact .inl (hc▸e)
    exact .inr ⟨j,hc▸e,by omega,j2,by omega,h.top j (by omega) j2 (by omega),by rw [<- hc,e];omega⟩
  rcases Iw k (by omega) h2 c hc with e|⟨j,e,j1,j2,j3,j4,_⟩
  · exact .inl e
  exact .inr ⟨j,e,by omega,j2,j3,j4,by rw [e];omega⟩
theorem gl.up {P:Nat->Nat->Prop} {N:List Nd} {a b:Nat} {r:Int} (h:gl P N a b r): ∀k:Nat,a<=k->k<b->(k:Int)≠r-> ∃j,a<=j/\j<b/\((N[j]!).2.1=(k:Int)\/(N[j]!).2.2=(k:Int))/\ ∀m,a<=m->m<b->((N[m]!).2.1=(k:Int)\/(N[m]!).2.2=(k:Int))->m=j:=by
 induction h with
 |nil h=>intro k h1 h2;omega
 | @node a b i h l r Iv Iw=>
  have lo:=h.lo;have hi:=h.hi;have lk:=l.kids;have rk:=r.kids;intro k h1 h2 dK;have hki:k≠i:=fun e=>dK (by rw [e])
  rcases Nat.lt_or_ge k i with q|q
  · by_cases er:(k:Int)=(N[i]!).2.1
    · refine ⟨i,lo,hi,.inl er.symm,fun m m1 m2 hm=>?_⟩
      rcases EQ m i with w|w|w
      · rcases lk m m1 w _ hm with e|⟨j,e,_,_,_,_,hr⟩
        · omega
        exact absurd er.symm hr
      · exact w
      rcases rk m (by omega) m2 _ hm with e|⟨j,e,j1,_⟩<;>omega
    obtain ⟨j,j1,j2,j3,j4⟩:=Iv k h1 q er
    refine ⟨j,j1,by omega,j3,fun m m1 m2 hm=>?_⟩;rcases EQ m i with w|w|w
    · exact j4 m m1 w hm
    · subst w
      rcases hm with hm|hm
      · exact absurd hm.symm er
      rcases r.link with ⟨_,e⟩|⟨p,e,p1,p2⟩<;>omega
    rcases rk m (by omega) m2 _ hm with e|⟨p,e,p1,_⟩<;>omega
  by_cases er:(k:Int)=(N[i]!).2.2
  · refine ⟨i,lo,hi,.inr er.symm,fun m m1 m2 hm=>?_⟩
    rcases EQ m i with w|w|w
    · rcases lk m m1 w _ hm with e|⟨j,e,_,j2,_⟩<;>omega
    · exact w
    rcases rk m (by omega) m2 _ hm with e|⟨j,e,_,_,_,_,hr⟩
    · omega
    exact absurd er.symm hr
  obtain ⟨j,j1,j2,j3,j4⟩:=Iw k (by omega) h2 er
  refine ⟨j,by omega,j2,j3,fun m m1 m2 hm=>?_⟩;rcases EQ m i with w|w|w
  · rcases lk m m1 w _ hm with e|⟨p,e,_,p2,_⟩<;>omega
  · subst w
    rcases hm with hm|hm
    · rcases l.link with ⟨_,e⟩|⟨p,e,p1,p2⟩<;>omega
    exact absurd hm.symm er
  exact j4 m (by omega) m2 hm
inductive pD (P:Nat->Nat->Prop) (N:List Nd):Nat->Nat->Int->List Nat->Prop
 |nil {a b:Nat} (h:b<=a):pD P N a b (-1) []
 |cons {a b k:Nat} {es:List Nat} (h:DE P a b k) (l:gl P N a k (N[k]!).2.1) (r:pD P N (k+1) b (N[k]!).2.2 es):pD P N a b (k:Int) (k::es)
theorem pD.lc {P:Nat->Nat->Prop} {N:List Nd} {a b:Nat} {r:Int} {es:List Nat} (h:pD P N a b r es):gl P N a b r:=by
 induction h with
 |nil h=>exact .nil h
 |cons h l r ih=>exact .node h l ih
theorem pD.mem {P:Nat->Nat->Prop} {N:List Nd} {a b:Nat} {r:Int} {es:List Nat} (h:pD P N a b r es): ∀e∈es,a<=e/\e<b:=by
 induction h with
 |nil h=>intro e he;cases he
 |cons h l r ih=>
  intro e he;have lo:=h.lo;have hi:=h.hi;rcases List.mem_cons.1 he with rfl|he
  · exact ⟨lo,hi⟩
  have:=ih e he;omega
theorem dW {α:Type} [Inhabited α] (x:α) (l:List α) (i:Nat):(x::l)[i+1]! =l[i]!:=by simp
theorem iZ {α:Type} [Inhabited α] (x:α) (l:List α):(x::l)[0]! =x:=by simp
theorem pD.chain {P:Nat->Nat->Prop} {N:List Nd} {a b:Nat} {r:Int} {es:List Nat} (h:pD P N a b r es): ∀i j,i<j->j<abK es->P es[i]! es[j]!:=by
 induction h with
 |nil h=>intro i j _ hj;cases hj
 | @cons a b k es h l r ih=>
  intro i j lr hj;cases j with
  |zero=>omega
  |succ j=>
   rw [dW];have hj:j<(abK es):=by simpa using hj
   cases i with
   |zero=>rw [iZ];have:=r.mem es[j]! (bU hj);exact h.top _ (by have:=h.lo;omega) this.2 (by omega)
   |succ i=>rw [dW];exact ih i j (by omega) hj
theorem pD.add {P:Nat->Nat->Prop} {N N':List Nd} {n:Nat} (o:RR P n) {a b:Nat} {r:Int} {es:List Nat} (h:pD P N a b r es): ∀m,a<=b->b<n->m<=abK es->(∀j,j<m->P es[j]! b)->(∀j,m<=j->j<abK es-> ¬P es[j]! b)->
 (N'[b]!).2.1=(if m<(abK es) then (es[m]!:Int) else -1)->(N'[b]!).2.2= -1->
 (∀k,a<=k->k<b->(N'[k]!).2.1=(N[k]!).2.1/\((0<m/\k=es[m-1]!)->(N'[k]!).2.2=(b:Int))/\(¬(0<m/\k=es[m-1]!)->(N'[k]!).2.2=(N[k]!).2.2))->
 pD P N' a (b+1) (if m=0 then (b:Int) else r) (es.take m++[b]):=by
 induction h with
 | @nil a b h=>
  intro m Fj hb hm _ _ hl hr _;have:m=0:=by simpa using hm
  subst this;rw [ol rfl];have hl:(N'[b]!).2.1= -1:=hl;refine .cons ⟨Fj,by omega,fun j h1 h2 h3=>by omega⟩ ?_ ?_
  · rw [hl];exact .nil h
  rw [hr];exact .nil (by omega)
 | @cons a b k es h l r ih=>
  intro m Fj hb hm hP hN hl hr hf;have lo:=h.lo;have hi:=h.hi;cases m with
  |zero=>
   rw [ol rfl];have hl:(N'[b]!).2.1=(k:Int):=by rw [hl,ol (by simp)];rfl
   have t:gl P N a b (k:Int):= .node h l r.lc;have nk: ¬P k b:=hN 0 (v6 _) (by simp);have kb:P b k:=o.tot k b (by omega) hb (by omega) nk;refine .cons ⟨Fj,by omega,fun j h1 h2 h3=>?_⟩ ?_ ?_
   · by_cases e:j=k
     · rw [e];exact kb
     exact o.tr b k j hb (by omega) (by omega) kb (h.top j h1 (by omega) e)
   · rw [hl]
     refine t.frame fun j h1 h2=>?_
     obtain ⟨f1,_,f3⟩:=hf j h1 h2;exact abG f1.symm (f3 (by omega)).symm
   rw [hr];exact .nil (by omega)
  |succ m=>
   rw [pi (by omega)];have hm:m<=(abK es):=by simpa using hm
   have pk:P k b:=by have:=hP 0 (by omega);rwa [iZ] at this
   have mem:=r.mem;have top:DE P a (b+1) k:=⟨lo,by omega,fun j h1 h2 h3=>by
    by_cases e:j=b
    · rw [e];exact pk
    exact h.top j h1 (by omega) h3⟩
   have lt:gl P N' a k (N'[k]!).2.1:=by
    rw [(hf k lo hi).1];refine l.frame fun j h1 h2=>?_
    obtain ⟨f1,_,f3⟩:=hf j h1 (by omega);refine abG f1.symm (f3 (fun q=>?_)).symm;have q2:=q.2;cases m with
    |zero=>rw [show 0+1-1=0 from rfl,iZ] at q2;omega
    |succ m=>rw [show m+1+1-1=m+1 from rfl,dW] at q2;have:=mem es[m]! (bU (by omega));omega
   have rt:=ih m (by omega) hb hm (fun j hj=>by have:=hP (j+1) (by omega);rwa [dW] at this) (fun j h1 h2=>by have:=hN (j+1) (by omega) (by simpa using h2);rwa [dW] at this)
    (by
     rw [hl]
     by_cases q:m<abK es
     · rw [ol q,ol (by simpa using q),dW]
     · rw [pi q,pi (by simpa using q)]) hr (fun j h1 h2=>by
     obtain ⟨f1,f2,f3⟩:=hf j (by omega) h2;refine ⟨f1,fun q=>f2 ⟨by omega,?_⟩,fun q=>f3 (fun w=>q ?_)⟩
     · obtain ⟨q1,q2⟩:=q
       rw [show m+1-1=(m-1)+1 by omega,dW];exact q2
     obtain ⟨_,w2⟩:=w
     cases m with
     |zero=>rw [show 0+1-1=0 from rfl,iZ] at w2;omega
     |succ m=>rw [show m+1+1-1=m+1 from rfl,dW] at w2;exact ⟨by omega,w2⟩)
   rw [show (k::es).take (m+1)++[b]=k::(es.take m++[b]) from rfl];refine .cons top lt ?_;obtain ⟨_,f2,f3⟩:=hf k lo hi
   by_cases m0:m=0
   · subst m0
     rw [ol rfl] at rt;rw [f2 ⟨by omega,by rw [show 0+1-1=0 from rfl,iZ]⟩];exact rt
   rw [pi m0] at rt
   rw [f3 (fun w=>?_)]
   · exact rt
   have w2:=w.2
   rw [show m+1-1=(m-1)+1 by omega,dW] at w2;have:=mem es[m-1]! (bU (by omega));omega
end Go.Proofs.YtmndepnolpbnpaaGreat
namespace Go.Proofs.YtmndepnolpbnpaaGreat
open Go.Vm Classical
def K4 (f:List Pt) (t:Int×Int) (i j:Nat):Prop:=leads f[i]! f[j]! t
theorem zQ {p q:Pt} {t:Int×Int} (h:leads p q t): ¬leads q p t:=by unfold leads at*;rw [EL] at*;generalize p.2.1*t.2+p.2.2*t.1=a at*;generalize q.2.1*t.2+q.2.2*t.1=b at*;omega
theorem JF {f:List Pt} (h:gX f) (t:Int×Int):RR (K4 f t) (abK f) where
 tr:=fun _ _ _ _ _ _ h1 h2=>GM h1 h2
 asy:=fun _ _ _ _ h=>zQ h
 tot:=fun _ _ hi hj dK hn=>GN t (fun e=>dK (oJ h hi hj e)) hn
structure bJ (f:List Pt) (t:Int×Int) (N:List Nd) (r:Int):Prop where
 len:(abK N)=abK f
 ids: ∀k,k<abK f->(N[k]!).1=(f[k]!).1
 lc:gl (K4 f t) N 0 (abK f) r
theorem bJ.same {f:List Pt} (h:gX f) {t:Int×Int} {N N':List Nd} {r r':Int} (a:bJ f t N r) (b:bJ f t N' r'):N=N'/\r=r':=by
 obtain ⟨e1,e2⟩:=a.lc.unique (JF h t) (v6 _) b.lc;refine ⟨m9 (by rw [a.len,b.len]) fun k hk=>?_,e1⟩;have hk:k<(abK f):=by rw [<- a.len];exact hk
 exact abG (by rw [a.ids k hk,b.ids k hk]) (e2 k (wn _) hk)
def Below (N:List Nd) (k j:Nat):Prop:=(N[j]!).2.1=(k:Int)\/(N[j]!).2.2=(k:Int)
noncomputable def gH (N:List Nd) (k:Nat):Nat:=if h: ∃j,j<abK N/\Below N k j then h.choose else (abK N)
noncomputable def nE (N:List Nd) (k:Nat):List (Int×Int):=if gH N k<(abK N) then [((N[k]!).1,(N[gH N k]!).1)] else []
noncomputable def bq (N:List Nd):Nat->List (Int×Int)
 |0=>[]
 |k+1=>bq N k++nE N k
theorem mc (N:List Nd): ∀k,(bq N k).length<=k
 |0=>v6 _
 |k+1=>by
  have:=mc N k;rw [bq,rc];unfold nE;split
  · simp only [pm];omega
  simp only [List.length_nil];omega
theorem wM {N:List Nd}: ∀{n:Nat} {e:Int×Int},e∈bq N n↔ ∃k,k<n/\gH N k<abK N/\e=((N[k]!).1,(N[gH N k]!).1)
 |0,e=>by
  constructor
  · intro h;cases h
  rintro ⟨k,h,_⟩;omega
 |n+1,e=>by
  rw [bq,List.mem_append,wM];constructor
  · rintro (⟨k,h1,h2⟩|h)
    · exact ⟨k,by omega,h2⟩
    unfold nE at h
    split at h
    · exact ⟨n,by omega,by assumption,ab2.1 h⟩
    cases h
  rintro ⟨k,h1,h2,h3⟩
  by_cases q:k=n
  · subst q
    right;unfold nE;rw [ol h2,h3];exact ab2.2 rfl
  exact .inl ⟨k,by omega,h2,h3⟩
section
variable {f : List Pt} {t : Int × Int} {N : List Nd} {r : Int}
theorem bJ.par (h:bJ f t N r) {k:Nat} (hk:k<abK f):((k:Int)=r->gH N k=abK N)/\((k:Int)≠r->gH N k<abK N/\Below N k (gH N k)/\gH N k≠k/\K4 f t (gH N k) k)/\ ∀m,m<abK N->Below N k m->m=gH N k:=by
 have ln:=h.len
 by_cases hr:(k:Int)=r
 · have none: ¬ ∃j,j<abK N/\Below N k j:=by
    rintro ⟨j,hj,hb⟩;rcases h.lc.kids j (wn _) (by omega) (k:Int) hb with e|⟨_,_,_,_,_,_,e⟩
    · omega
    exact e hr.symm
   have e:gH N k=(abK N):=by unfold gH;rw [dif_neg none]
   exact ⟨fun _=>e,fun q=>absurd hr q,fun m hm hb=>absurd ⟨m,hm,hb⟩ none⟩
 obtain ⟨j,_,j2,j3,j4⟩:=h.lc.up k (wn _) hk hr
 have ex: ∃j,j<abK N/\Below N k j:=⟨j,by omega,j3⟩;have e:gH N k=j:=by unfold gH;rw [dif_pos ex];have:=ex.choose_spec;exact j4 _ (wn _) (by omega) this.2
 refine ⟨fun q=>absurd q hr,fun _=>?_,fun m hm hb=>by rw [e];exact j4 m (wn _) (by omega) hb⟩;rw [e];refine ⟨by omega,j3,?_,?_⟩
 · rcases h.lc.kids j (wn _) j2 (k:Int) j3 with q|⟨i,q,_,_,q2,_⟩
   · omega
   intro w;omega
 rcases h.lc.kids j (wn _) j2 (k:Int) j3 with q|⟨i,q,_,_,_,q2,_⟩
 · omega
 have:i=k:=by omega
 rw [<- this];exact q2
theorem bJ.S4 (fv:cj f) (h:bJ f t N r):EK f (bq N (abK f))/\(bq N (abK f)).Nodup/\ ∀e∈bq N (abK f),leads (pN f e.2) (pN f e.1) t:=by
 have ln:=h.len;have f1:=fv.1;have inf: ∀e∈bq N (abK f),∃k j,k<abK f/\j<abK f/\j≠k/\K4 f t j k/\e=((f[k]!).1,(f[j]!).1):=by
  intro e he;obtain ⟨k,k1,k2,k3⟩:=wM.1 he;have hp:=h.par k1;have hr:(k:Int)≠r:=fun q=>by have:=hp.1 q;omega
  obtain ⟨p1,p2,p3,p4⟩:=hp.2.1 hr;exact ⟨k,gH N k,k1,by omega,p3,p4,by rw [k3,h.ids k k1,h.ids (gH N k) (by omega)]⟩
 have hb: ∀e∈bq N (abK f),gZ f e:=fun e he=>by obtain ⟨k,j,k1,j1,_,_,rfl⟩:=inf e he;exact ⟨⟨k,k1,rfl⟩,⟨j,j1,rfl⟩⟩
 refine ⟨⟨Nat.le_trans (mc N _) (by omega),fun e he=>?_,hb⟩,?_,fun e he=>?_⟩
 · obtain ⟨⟨p1,p2⟩,q1,q2⟩:=And.intro (je fv (hb e he).1) (je fv (hb e he).2)
   obtain ⟨k,j,k1,j1,ne,_,rfl⟩:=inf e he;have:(f[k]!).1≠(f[j]!).1:=fun q=>ne (oJ fv.2.2 k1 j1 q).symm
   unfold ff at p1 q1;unfold cZ;dsimp only at*;omega
 · have go: ∀n,n<=abK f->(bq N n).Nodup:=by
    intro n
    induction n with
    |zero=>exact fun _=>ab7
    |succ n ih=>
     intro hn;rw [bq,List.nodup_append];refine ⟨ih (by omega),?_,fun x hx y hy e=>?_⟩
     · unfold nE;split
       · exact abF.2 ⟨List.not_mem_nil,ab7⟩
       exact ab7
     subst e
     obtain ⟨k,k1,_,k3⟩:=wM.1 hx;unfold nE at hy;split at hy
     · have hy:=ab2.1 hy
       rw [k3] at hy;have e1:(N[k]!).1=(N[n]!).1:=(Prod.mk.inj hy).1;rw [h.ids k (by omega),h.ids n (by omega)] at e1;have:=oJ fv.2.2 (by omega) (by omega) e1;omega
     cases hy
   exact go _ (v6 _)
 obtain ⟨k,j,k1,j1,_,p,rfl⟩:=inf e he
 rw [xW fv.2.2 j1 rfl,xW fv.2.2 k1 rfl];exact p
end
theorem Yc {f:List Pt} (fv:cj f) {t:Int×Int} (r:bT t) (wH:nX t) {i j:Nat} (hi:i<abK f) (hj:j<abK f) (dK:i≠j):jg f[i]! f[j]! t=abL (abO (K4 f t i j),0):=by
 have ne:(f[i]!).1≠(f[j]!).1:=fun h=>dK (oJ fv.2.2 hi hj h)
 rcases z6 (fv.2.1 _ (bU hi)) (fv.2.1 _ (bU hj)) wH r with h|⟨h,_⟩
 · rw [h,pi ne];rfl
 exact absurd h ne
def eI (es:List Nat):List Int:=es.map fun e:Nat=>(e:Int)
theorem Ap (E:List Int) (m:Nat) (x:Int) (h:m+1<=abK E):(ek E m [x]).length=(abK E):=by unfold ek;simp only [rc,ww,abD,pm];omega
theorem Cn (es:List Nat):(eI es).length=(abK es):=aaj ..
theorem JG (es:List Nat) {j:Nat} (h:j<abK es):(eI es)[j]! =(es[j]!:Int):=by rw [getElem!_pos (eI es) j (by rw [Cn];exact h),getElem!_pos es j h];exact List.getElem_map ..
theorem JH (es:List Nat) (m:Nat):eI (es.take m)=(eI es).take m:=List.map_take ..
def o2 (f:List Pt) (t:Int×Int) (e c:Nat) (i:Nat) (io:Int) (N:List Nd) (E:List Int):=
 (e,c,f,((abK f):Int),(i:Int),f,t.1,t.2,(0:Int),io,N,E)
def o1 (f:List Pt) (t:Int×Int) (e c:Nat) (i:Nat) (io:Int) (N:List Nd) (E:List Int) (left:Int):=
 (e,c,(i:Int),f,((abK f):Int),(i:Int),f,t.1,t.2,(0:Int),io,N,E,(f[i]!).1,(f[i]!).2.1,(f[i]!).2.2,(f[i]!).1,left,(-1:Int))
def oQ (f:List Pt) (N:List Nd) (es:List Nat) (i m:Nat):List Nd:=
 (if m=0 then N else N.set es[m-1]! ((N[es[m-1]!]!).1,(N[es[m-1]!]!).2.1,(i:Int)))++[((f[i]!).1,if m<(abK es) then (es[m]!:Int) else -1,-1)]
theorem abu {f:List Pt} (fv:cj f) {t:Int×Int} (r:bT t) (wH:nX t) {i:Nat} (hi:i<abK f) {es:List Nat} (S5: ∀e∈es,e<i) {N:List Nd} (hN:(abK N)=i) {io:Int} {E:List Int} (hE:E.take (abK es)=eI es) (le:(abK es)<=abK E) (lE:(abK E)<=1000):
 ∀(e:Nat),e<=abK es->(∀j,e<=j->j<abK es-> ¬K4 f t es[j]! i)->
  ∃(m:Nat) (E':List Int),m<=e/\(0<m->K4 f t es[m-1]! i)/\(∀j,m<=j->j<abK es-> ¬K4 f t es[j]! i)/\E'.take (m+1)=eI (es.take m++[i])/\m+1<=abK E'/\abK E'<=abK E+1/\
   ax kJ (o1 f t e (abK E) i io N E (if e<(abK es) then (es[e]!:Int) else -1))=abL (.next (o2 f t (m+1) (abK E') (i+1) (if m=0 then (i:Int) else io) (oQ f N es i m) E')):=by
 have f1:=fv.1;have sc:=aV (show i<1000000000 by omega);have put: ∀m,m<=abK es-> ∃E':List Int,E'.take (m+1)=eI (es.take m++[i])/\m+1<=abK E'/\abK E'<=abK E+1/\
  ((m+1<=abK E->E'=ek E m [(i:Int)])/\(¬m+1<=abK E->E'=E.take m++[(i:Int)])):=by
  intro m hm;have tm:E.take m=eI (es.take m):=by rw [JH,<- hE,ab8,ab4 hm]
  have ei:eI (es.take m++[i])=eI (es.take m)++[(i:Int)]:=aau ..;have lm:(E.take m++[(i:Int)]).length=m+1:=by rw [rc,ww,pm];omega
  by_cases h:m+1<=abK E
  · refine ⟨ek E m [(i:Int)],?_,?_,?_,fun _=>rfl,fun q=>absurd h q⟩
    · unfold ek
      rw [ei,<- tm,PP (by omega),If (by omega)]
    · unfold ek;rw [rc];omega
    unfold ek;rw [rc,lm,abD,pm];omega
  refine ⟨E.take m++[(i:Int)],?_,by omega,by omega,fun q=>absurd q h,fun _=>rfl⟩
  rw [If (by omega),ei,tm]
 have en: ∀(s:Nat),([(i:Int)]:List Int).length=1:=fun _=>rfl
 have JI: ∀{a b:Nat},a<=b->abm a b=abM:=fun h=>ab5 h
 have S6: ∀{a b:Nat},¬a<=b->abm a b=abN:=fun h=>by
  cases hb:abm _ _ with
  |false=>rfl
  |true=>exact absurd (ab6 hb) h
 intro e
 induction e with
 |zero=>
  intro _ kC;obtain ⟨E',e1,e2,e3,e4,e5⟩:=put 0 (wn _);refine ⟨0,E',v6 _,fun h=>absurd h (abb _),kC,e1,e2,e3,aF ?_⟩;have ap: ∀x:Nd,aX N [x]=abL (N++[x]):=fun x=>fa (by rw [pm];omega)
  have ap2:aX (E.take 0) [(i:Int)]=abL (E.take 0++[(i:Int)]):=fa (by rw [pm,ww];omega);unfold kJ o1 o2 oQ
  by_cases h:0+1<=abK E
  · simp only [aB,aD (show¬(0:Int)<((0:Nat):Int) by omega),lw,ap,au,pm,JI h,ls,ab9,aa7,sc,e4 h,if_true]
    rw [Ap _ _ _ h]
  simp only [aB,aD (show¬(0:Int)<((0:Nat):Int) by omega),lw,ap,au,pm,S6 h,ap2,JI (wn (abK E)),ls,sc,e5 h,if_true]
  rfl
 |succ e ih=>
  intro he kC;have tk:E.take (e+1)=eI (es.take (e+1)):=by rw [JH,<- hE,ab8,ab4 he]
  have lt:(eI (es.take (e+1))).length=e+1:=by rw [Cn,ww];omega
  have ge:aA (E.take (e+1)) ((e:Nat):Int)=abL (es[e]!:Int):=by rw [tk,ar _ e (by omega),JG _ (by rw [ww];omega),uL (by omega)]
  have ew:aa .i64 (((e+1:Nat):Int) -1)=((e:Nat):Int):=by rw [oH ⟨by omega,by omega⟩];omega
  have eb:es[e]!<i:=S5 _ (bU (by omega));have gp:=ar f es[e]! (by omega);have ah:=Yc fv (t:=(t.1,t.2)) r wH (i:=es[e]!) (j:=i) (by omega) hi (by omega);have gn:=ar N es[e]! (by omega);have Yd:((f[i]!).1,(f[i]!).2.1,(f[i]!).2.2)=f[i]!:=rfl
  by_cases c:K4 f t es[e]! i
  · rw [show abO (K4 f (t.1,t.2) es[e]! i)=abM from aH c] at ah
    obtain ⟨E',e1,e2,e3,e4,e5⟩:=put (e+1) he;refine ⟨e+1,E',v6 _,fun _=>c,kC,e1,e2,e3,aF ?_⟩;have ap: ∀(y x:Nd),aX (N.set es[e]! y) [x]=abL (N.set es[e]! y++[x]):=fun y x=>fa (by rw [pm,AC];omega)
    have ap2:aX (E.take (e+1)) [(i:Int)]=abL (E.take (e+1)++[(i:Int)]):=fa (by rw [pm,ww];omega);unfold kJ o1 o2 oQ;rw [show e+1-1=e from rfl,pi (abE e),pi (abE e)]
    by_cases h:e+1+1<=abK E
    · simp only [aB,aH (show (0:Int)<((e+1:Nat):Int) by omega),ls,ew,ge,au,gp,Yd,ah,gn,ij,ap,pm,JI h,ab9,aa7,sc,e4 h]
      rw [Ap _ _ _ h]
    simp only [aB,aH (show (0:Int)<((e+1:Nat):Int) by omega),ls,ew,ge,au,gp,Yd,ah,gn,ij,ap,pm,S6 h,lw,ap2,JI (show e+1<=(abK E) by omega),sc,e5 h]
    rw [show (E.take (e+1)++[(i:Int)]).length=e+1+1 from by rw [rc,ww,pm];omega]
  rw [show abO (K4 f (t.1,t.2) es[e]! i)=abN from aD c] at ah
  obtain ⟨m,E',h1,h2,h3,h4,h5,h6,h7⟩:=ih (by omega) (fun j j1 j2=>by
   by_cases q:j=e
   · rw [q];exact c
   exact kC j (by omega) j2)
  refine ⟨m,E',by omega,h2,h3,h4,h5,h6,?_⟩;rw [ol (show e<(abK es) by omega)] at h7;rw [<- h7];refine aT ?_;unfold kJ o1;simp only [aB,aH (show (0:Int)<((e+1:Nat):Int) by omega),ls,ew,ge,au,gp,Yd,ah,lw,aH (show (0:Int)<=((e:Nat):Int) by omega),aH (show ((e:Nat):Int)<=((abK E):Int) by omega),aa7,M2]
theorem RS {f:List Pt} {N:List Nd} {es:List Nat} {i m:Nat} (hN:(abK N)=i) (S5: ∀e∈es,e<i) (hm:m<=abK es):
 (oQ f N es i m).length=i+1/\(oQ f N es i m)[i]! =((f[i]!).1,if m<(abK es) then (es[m]!:Int) else -1,-1)/\
 ∀k,k<i->((oQ f N es i m)[k]!).1=(N[k]!).1/\((oQ f N es i m)[k]!).2.1=(N[k]!).2.1/\((0<m/\k=es[m-1]!)->((oQ f N es i m)[k]!).2.2=(i:Int))/\(¬(0<m/\k=es[m-1]!)->((oQ f N es i m)[k]!).2.2=(N[k]!).2.2):=by
 unfold oQ
 by_cases m0:m=0
 · rw [ol m0]
   refine ⟨by rw [rc,hN];rfl,?_,fun k hk=>?_⟩
   · rw [eL (by omega),hN,ab0];rfl
   rw [eB (by omega)]
   exact ⟨rfl,rfl,fun q=>by omega,fun _=>rfl⟩
 rw [pi m0]
 have hb:=S5 _ (bU (show m-1<(abK es) by omega));refine ⟨by rw [rc,AC,hN];rfl,?_,fun k hk=>?_⟩
 · rw [eL (by rw [AC];omega),AC,hN,ab0];rfl
 rw [eB (by rw [AC];omega),bn]
 by_cases q:k=es[m-1]!
 · rw [ol ⟨q,by omega⟩,q]
   exact ⟨rfl,rfl,fun _=>rfl,fun w=>absurd ⟨by omega,rfl⟩ w⟩
 rw [pi (fun w=>q w.1)]
 exact ⟨rfl,rfl,fun w=>absurd w.2 q,fun _=>rfl⟩
theorem abv {f:List Pt} (fv:cj f) {t:Int×Int} (r:bT t) (wH:nX t): ∀(d i:Nat) (es:List Nat) (N:List Nd) (io:Int) (E:List Int),abK f-i<=d->i<=abK f->abK N=i->(∀k,k<i->(N[k]!).1=(f[k]!).1)->
 pD (K4 f t) N 0 i io es->E.take (abK es)=eI es->abK es<=abK E->abK E<=i->
 ∃(GO:Int) (N':List Nd),ax jh (o2 f t (abK es) (abK E) i io N E)=abL (⟨GO,N'⟩,0)/\bJ f t N' GO:=by
 have f1:=fv.1;have fin: ∀(es:List Nat) (N:List Nd) (io:Int) (E:List Int),abK N=abK f->(∀k,k<abK f->(N[k]!).1=(f[k]!).1)->pD (K4 f t) N 0 (abK f) io es->
  ∃(GO:Int) (N':List Nd),ax jh (o2 f t (abK es) (abK E) (abK f) io N E)=abL (⟨GO,N'⟩,0)/\bJ f t N' GO:=fun es N io E h1 h2 h3=>
  ⟨io,N,aF (by unfold jh o2;simp only [aD (show¬((abK f):Int)<((abK f):Int) by omega),lw]),⟨h1,h2,h3.lc⟩⟩
 intro d
 induction d with
 |zero=>
  intro i es N io E hd hi h1 h2 h3 _ _ _;have:i=(abK f):=by omega
  subst this;exact fin es N io E h1 h2 h3
 |succ d ih=>
  intro i es N io E hd hi h1 h2 h3 h4 h5 h6
  by_cases he:i=abK f
  · subst he;exact fin es N io E h1 h2 h3
  have u7:i<(abK f):=by omega
  have o:=JF fv.2.2 t;have mem:=h3.mem;have S5: ∀e∈es,e<i:=fun e he=>(mem e he).2
  obtain ⟨m,E',m1,m2,m3,m4,m5,m6,m7⟩:=abu fv r wH u7 S5 h1 (io:=io) h4 h5 (by omega) (abK es) (v6 _) (fun j j1 j2=>by omega);rw [pi (abb _)] at m7;have st:jh (o2 f t (abK es) (abK E) i io N E)=abL (.next (o2 f t (m+1) (abK E') (i+1) (if m=0 then (i:Int) else io) (oQ f N es i m) E')):=by
   unfold jh
   conv=>lhs;unfold o2
   simp only [aH (show (i:Int)<((abK f):Int) by omega),ls,ar f i u7,au];exact m7
  obtain ⟨a1,a2,a3⟩:=RS (f:=f) h1 S5 m1;have sp:=h3.add o (N':=oQ f N es i m) m (wn _) u7 m1 (fun j hj=>by
   by_cases q:j=m-1
   · rw [q];exact m2 (by omega)
   · have Te:=S5 _ (bU (show j<(abK es) by omega))
     have ye:=S5 _ (bU (show m-1<(abK es) by omega));exact o.tr _ es[m-1]! _ (by omega) (by omega) u7 (h3.chain j (m-1) (by omega) (by omega)) (m2 (by omega))) m3
   (by rw [a2]) (by rw [a2]) (fun k _ hk=>by obtain ⟨_,b2,b3,b4⟩:=a3 k hk;exact ⟨b2,b3,b4⟩)
  have le:(es.take m++[i]).length=m+1:=by rw [rc,ww,pm];omega
  rw [aT st];have:=ih (i+1) (es.take m++[i]) (oQ f N es i m) (if m=0 then (i:Int) else io) E' (by omega) (by omega) a1 (fun k hk=>by
   by_cases q:k=i
   · rw [q,a2]
   rw [(a3 k (by omega)).1];exact h2 k (by omega)) sp (by rw [le];exact m4) (by rw [le];exact m5) (by omega)
  rw [le] at this;exact this
theorem JJ {f:List Pt} (fv:cj f) {t:Int×Int} (r:bT t) (wH:nX t): ∃(io:Int) (N:List Nd),qB ⟨f⟩ t=abL (⟨io,N⟩,0)/\bJ f t N io:=by
 obtain ⟨io,N,h1,h2⟩:=abv fv r wH (abK f) 0 [] [] (-1) [] (by omega) (by omega) rfl (fun k hk=>by omega) (.nil (v6 _)) rfl (v6 _) (v6 _);refine ⟨io,N,?_,h2⟩;have hc:dY ⟨f⟩=abL 0:=by rw [iY];exact congrArg abL (iX.2 fv)
 unfold qB rE;rw [hc,au,dv rfl,lw,dU wH,ol r,au,au,dv rfl,lw];exact h1
def note (U:List Int) (c:Int) (i:Nat):List Int:=if 0<=c then U.set c.toNat (i:Int) else U
def Oo (N:List Nd) (U:List Int):Nat->List Int
 |0=>U
 |i+1=>note (note (Oo N U i) (N[i]!).2.1 i) (N[i]!).2.2 i
theorem xZ (U:List Int) (c:Int) (i:Nat):(note U c i).length=(abK U):=by unfold note;split<;>simp
theorem ya (N:List Nd) (U:List Int): ∀i,(Oo N U i).length=abK U
 |0=>rfl
 |i+1=>by rw [Oo,xZ,xZ,ya N U i]
theorem DF (U:List Int) (c:Int) (i k:Nat) (hk:k<abK U):(note U c i)[k]! =if c=(k:Int) then (i:Int) else U[k]!:=by
 unfold note
 by_cases h:0<=c
 · rw [ol h,bn]
   by_cases q:c=(k:Int)
   · rw [ol ⟨by omega,by omega⟩,ol q]
   rw [pi (fun w=>q (by omega)),pi q]
 rw [pi h,pi (by omega)]
theorem zh {α:Type} [Inhabited α] {n i:Nat} (a:α) (h:i<n):(pp n a)[i]! =a:=by rw [getElem!_pos _ i (by rw [v4];exact h),ab3]
section
variable {f : List Pt} {t : Int × Int} {N : List Nd} {r : Int}
theorem bJ.link (h:bJ f t N r) {j:Nat} (hj:j<abK f) {c:Int} (hc:(N[j]!).2.1=c\/(N[j]!).2.2=c):c= -1\/(0<=c/\c<abK N):=by
 have ln:=h.len;rcases h.lc.kids j (wn _) hj c hc with e|⟨k,e,_,k2,_⟩
 · exact .inl e
 exact .inr ⟨by omega,by omega⟩
theorem bJ.abw (h:bJ f t N r) {U:List Int} (hU:(abK U)=abK N): ∀i,i<=abK N-> ∀k,k<abK N->(Oo N U i)[k]! =if gH N k<i then (gH N k:Int) else U[k]!
 |0,_,k,_=>by rw [pi (Do _)];rfl
 |i+1,hi,k,hk=>by
  have ln:=h.len;have ih:=h.abw hU i (by omega) k hk;have p:=h.par (k:=k) (by omega);rw [Oo,DF _ _ _ _ (by rw [xZ,ya];omega),DF _ _ _ _ (by rw [ya];omega),ih]
  by_cases hb:Below N k i
  · have e:=p.2.2 i (by omega) hb
    rw [ol (show gH N k<i+1 by omega),<- e];rcases hb with q|q
    · by_cases w:(N[i]!).2.2=(k:Int)
      · rw [ol w]
      rw [pi w,ol q]
    rw [ol q]
  have n1: ¬(N[i]!).2.1=(k:Int):=fun q=>hb (.inl q)
  have n2: ¬(N[i]!).2.2=(k:Int):=fun q=>hb (.inr q)
  rw [pi n2,pi n1];have ne:gH N k≠i:=fun q=>by
   by_cases hr:(k:Int)=r
   · have:=p.1 hr;omega
   have:=(p.2.1 hr).2.1
   rw [q] at this;exact hb this
  by_cases q:gH N k<i
  · rw [ol q,ol (by omega)]
  rw [pi q,pi (by omega)]
def S7 (N:List Nd) (r:Int) (i:Nat) (j:Int) (U:List Int):=((i:Int),N,((abK N):Int),(i:Int),(N[i]!).2.1,(N[i]!).2.2,j,(0:Int),r,N,U)
def Ye (N:List Nd) (r:Int) (i:Nat) (U:List Int):=(N,((abK N):Int),(i:Int),(0:Int),r,N,U)
theorem JK {U:List Int} {c:Int} (h0:0<=c) (h:c<abK U): ∃x,aA U c=abL x:=⟨_,jB h0 h⟩
theorem yb {U:List Int} {c:Int} (h0:0<=c) (x:Int):bA U c x=U.set c.toNat x:=by obtain ⟨n,rfl⟩:=Int.eq_ofNat_of_zero_le h0;rw [ij,M2]
theorem RU (h:bJ f t N r) (hN:(abK N)<=1000) {i:Nat} (hi:i<abK N) {U:List Int} (hU:(abK U)=abK N):ax fC (S7 N r i 0 U)=abL (.next (Ye N r (i+1) (note (note U (N[i]!).2.1 i) (N[i]!).2.2 i))):=by
 have ln:=h.len;have l1:=h.link (j:=i) (by omega) (.inl rfl);have l2:=h.link (j:=i) (by omega) (.inr rfl);have s1:fC (S7 N r i 0 U)=abL (.next (S7 N r i 1 (note U (N[i]!).2.1 i))):=by
  unfold fC S7 note;simp only [aH (show (0:Int)<2 by omega),ls,beq_self_eq_true,show aa .i64 (0+1)=1 from oH ⟨by omega,by omega⟩]
  by_cases q:0<=(N[i]!).2.1
  · obtain ⟨x,hx⟩:=JK (U:=U) q (by omega)
    rw [aH q,ls,hx,au,yb q,ol q]
  rw [aD q,lw,pi q]
 have s2: ∀V:List Int,abK V=abK N->fC (S7 N r i 1 V)=abL (.next (S7 N r i 2 (note V (N[i]!).2.2 i))):=by
  intro V hV;unfold fC S7 note;simp only [aH (show (1:Int)<2 by omega),ls,show ((1:Int)==0)=abN from rfl,lw,beq_self_eq_true,show aa .i64 (1+1)=2 from oH ⟨by omega,by omega⟩]
  by_cases q:0<=(N[i]!).2.2
  · obtain ⟨x,hx⟩:=JK (U:=V) q (by omega)
    rw [aH q,ls,hx,au,yb q,ol q]
  rw [aD q,lw,pi q]
 rw [aT s1,aT (s2 _ (by rw [xZ];exact hU))];refine aF ?_;unfold fC S7 Ye;simp only [aD (show¬(2:Int)<2 by omega),lw,aV (show i<1000000000 by omega)]
theorem Ix (h:bJ f t N r) (hN:(abK N)<=1000):ax gT (((abK N):Int),0,0,r,N,pp (abK N) 0)=abL (⟨r,N⟩,bq N (abK N)):=by
 have ln:=h.len;have k4:=cf (body:=gT) (fun i=>(((abK N):Int),(i:Int),(0:Int),r,N,pp i (-1)++pp (abK N-i) 0)) (abK N) (fun i hi=>by
  have ll:(pp i (-1:Int)++pp (abK N-i) 0).length=(abK N):=by rw [rc,v4,v4];omega
  have e:(pp i (-1:Int)++pp (abK N-i) 0).set i (-1)=pp (i+1) (-1)++pp (abK N- (i+1)) 0:=by rw [show (abK N)-i=(abK N- (i+1))+1 by omega,List.replicate_succ,List.set_append_right _ _ (by rw [v4];exact v6 _),v4,ab0,List.set_cons_zero,List.replicate_succ',NE];rfl
  unfold gT;simp only [aH (show (i:Int)<((abK N):Int) by omega),ls,ar (pp i (-1:Int)++pp (abK N-i) 0) i (by omega),au,ij,e,aV (show i<1000000000 by omega)])
 have e0:pp 0 (-1:Int)++pp (abK N-0) 0=pp (abK N) 0:=rfl;have e1:pp (abK N) (-1:Int)++pp (abK N-(abK N)) 0=pp (abK N) (-1):=by rw [ab0,List.replicate_zero,aag]
 rw [e0,e1] at k4;rw [show ax gT (((abK N):Int),0,0,r,N,pp (abK N) 0)=_ from k4];have lU:(pp (abK N) (-1:Int)).length=(abK N):=v4 ..;have k3:=cf (body:=gS) (fun i=>Ye N r i (Oo N (pp (abK N) (-1)) i)) (abK N) (fun i hi=>by
  have g:=ar N i hi;unfold gS
  conv=>lhs;unfold Ye
  simp only [aH (show (i:Int)<((abK N):Int) by omega),ls,g,au];exact RU h hN hi (by rw [ya,lU]))
 have up:=h.abw lU (abK N) (v6 _);have k2:=cf (body:=gR) (fun i=>(N,((abK N):Int),(i:Int),(0:Int),r,N,Oo N (pp (abK N) (-1)) (abK N),bq N i)) (abK N) (fun i hi=>by
  have g:=ar N i hi;have gu:=ar (Oo N (pp (abK N) (-1)) (abK N)) i (by rw [ya,lU];exact hi);have el:=mc N i;rw [up i hi] at gu;unfold gR;rw [show bq N (i+1)=bq N i++nE N i from rfl];unfold nE
  by_cases q:gH N i<abK N
  · rw [ol q] at gu
    simp only [aH (show (i:Int)<((abK N):Int) by omega),ls,g,gu,au,aH (show (0:Int)<=(gH N i:Int) by omega),ar N (gH N i) q,aV (show i<1000000000 by omega),ol q];rw [fa (by rw [pm];omega),au]
  rw [pi q,zh (-1) hi] at gu
  simp only [aH (show (i:Int)<((abK N):Int) by omega),ls,g,gu,au,aD (show¬(0:Int)<= -1 by omega),lw,aV (show i<1000000000 by omega),pi q,aag])
 have f2:ax gR (N,((abK N):Int),0,0,r,N,Oo N (pp (abK N) (-1)) (abK N),[])=abL (.done (.done (⟨r,N⟩,bq N (abK N)))):=by rw [show ax gR (N,((abK N):Int),0,0,r,N,Oo N (pp (abK N) (-1)) (abK N),[])=_ from k2];refine aF ?_;unfold gR;simp only [aD (show¬((abK N):Int)<((abK N):Int) by omega),lw]
 have f3:ax gS (Ye N r 0 (pp (abK N) (-1)))=abL (.done (⟨r,N⟩,bq N (abK N))):=by rw [show ax gS (Ye N r 0 (pp (abK N) (-1)))=_ from k3];refine aF ?_;unfold gS Ye;simp only [aB,aD (show¬((abK N):Int)<((abK N):Int) by omega),lw];exact f2
 refine aF ?_;unfold gT;simp only [aB,aD (show¬((abK N):Int)<((abK N):Int) by omega),lw];exact f3
end
theorem EM {f:List Pt} (fv:cj f) {t:Int×Int} (r:bT t) (wH:nX t): ∃(io:Int) (N:List Nd),fo ⟨f⟩ t=abL (⟨io,N⟩,bq N (abK f))/\bJ f t N io:=by
 have f1:=fv.1;obtain ⟨io,N,h1,h2⟩:=JJ fv r wH;have ln:=h2.len;have mk:o9 ((abK N):Int) (0:Int)=abL (pp (abK N) 0):=by unfold o9;rw [ol ⟨by omega,by omega⟩,M2]
 refine ⟨io,N,?_,h2⟩;unfold fo;simp only [h1,au,aB,beq_self_eq_true,ls,mk,v4];rw [<- ln];exact Ix h2 (by omega)
theorem Iy:kS=fF:=rfl
theorem RW (c:aK) (es:List (Int×Int)) (h1:(abK es)<=1000000) (_:(abK c.ai.ce)<=1000000):
 mV c es=abL (abO (abK es=abK c.ai.ce/\ ∀i,i<abK c.ai.ce->(c.ai.ce[i]!).2∈es)):=by
 unfold mV cO da;simp only [aB]
 by_cases h0:(abK es)=abK c.ai.ce
 case neg=>rw [ef (by omega),lw,aD (fun q=>h0 q.1)]
 rw [fe (by omega),ls];have key:=ke (body:=aY) (fun i=>(c.ai.ce,es,((abK c.ai.ce):Int),(i:Int))) (abK c.ai.ce) (fun i=>(c.ai.ce[i]!).2∉es) (fun i=>(i:Int)) (e:= -1) (fun i hi=>by
  unfold aY pW;simp only [aH (show (i:Int)<((abK c.ai.ce):Int) by omega),ls,ar c.ai.ce i hi,au,p8 es _ h1,aV (show i<1000000000 by omega)];refine ⟨fun q=>?_,fun q=>?_⟩
  · rw [aD q];rfl
  · rw [aH (ut.1 q)];rfl) (by
  unfold aY;simp only [aD (show¬((abK c.ai.ce):Int)<((abK c.ai.ce):Int) by omega),lw])
 by_cases hx: ∀i,i<abK c.ai.ce->(c.ai.ce[i]!).2∈es
 · rw [show ax aY (c.ai.ce,es,((abK c.ai.ce):Int),0)=_ from key.2 (fun i hi=>ut.2 (hx i hi)),au,au,aD (by omega),aH ⟨h0,hx⟩]
   rfl
 obtain ⟨i,hi⟩:=UV.1 hx
 obtain ⟨hi,hn⟩:=aah.1 hi;obtain ⟨m,m1,m2,m3⟩:=least (c:=fun i=>(c.ai.ce[i]!).2∉es) ⟨i,hi,hn⟩;rw [show ax aY (c.ai.ce,es,((abK c.ai.ce):Int),0)=_ from key.1 m m1 m2 m3,au,au,aH (by omega),aD (fun w=>hx w.2)];rfl
structure qI (k:fS):Prop where
 clk:cy k.kw
 lc:bJ k.kw.dl.am k.kw.ci k.lc.jp k.lc.io
 cert:(k.kw.ai.ce.map fun x=>x.2).Perm (bq k.lc.jp (abK k.kw.dl.am))
theorem z7 {c:aK} (ok:cy c) {N:List Nd} {r:Int} (_:bJ c.dl.am c.ci N r):
 ((bq N (abK c.dl.am)).length=abK c.ai.ce/\ ∀i,i<abK c.ai.ce->(c.ai.ce[i]!).2∈bq N (abK c.dl.am))↔(c.ai.ce.map fun x=>x.2).Perm (bq N (abK c.dl.am)):=by
 have cl:(c.ai.ce.map fun x=>x.2).length=(abK c.ai.ce):=aaj ..;constructor
 · rintro ⟨h1,h2⟩
   refine wK (zP ok.DD) (fun x hx=>?_) (by omega);obtain ⟨i,hi,rfl⟩:=Ck.2 hx;exact h2 i hi
 intro h
 exact ⟨by rw [<- h.length_eq,cl],fun i hi=>h.mem_iff.1 (Ck.1 ⟨i,hi,rfl⟩)⟩
theorem z8 {k:fS} (fit:xX k.kw):jj k=abL (if qI k then 0 else 8):=by
 unfold jj;rw [oO fit,au]
 by_cases ok:cy k.kw
 case neg=>rw [pi ok,pi (fun h=>ok h.clk)];rfl
 rw [ol ok,dv rfl,lw];have bd:=ok.bd;obtain ⟨r,N,h1,h2⟩:=EM ok.qL ok.wI ok.oN;have h1:fo k.kw.dl k.kw.ci=abL (⟨r,N⟩,bq N (abK k.kw.dl.am)):=h1;have same: ∀h:qI k,N=k.lc.jp/\r=k.lc.io:=fun h=>h2.same ok.qL.2.2 h.lc
 rw [h1,au]
 by_cases hr:r=k.lc.io
 case neg=>rw [fH hr,ls,pi (fun h=>hr (same h).2)]
 have ln:=h2.len;rw [dv hr,lw,Iy,xY N k.lc.jp (by omega),au]
 by_cases hn:N=k.lc.jp
 case neg=>rw [aD hn,pi (fun h=>hn (same h).1)];rfl
 have el:=mc N (abK k.kw.dl.am);rw [aH hn,IR,lw];show (mV k.kw (bq N (abK k.kw.dl.am))).bind _=_;rw [RW k.kw _ (by omega) (by omega),au];have iff:=z7 ok h2
 by_cases hj:(bq N (abK k.kw.dl.am)).length=abK k.kw.ai.ce/\ ∀i,i<abK k.kw.ai.ce->(k.kw.ai.ce[i]!).2∈bq N (abK k.kw.dl.am)
 · rw [aH hj,ol (show qI k from ⟨ok,by rw [<- hn,<- hr];exact h2,by rw [<- hn];exact iff.1 hj⟩)];rfl
 rw [aD hj,pi (fun h:qI k=>hj (iff.2 (by rw [hn];exact h.cert)))];rfl
theorem Co {α:Type} [BEq α] [LawfulBEq α]: ∀{a b:List α},a.Nodup->(∀x∈a,x∈b)->abK a<=abK b
 | [],_,_,_=>wn _
 |x::a,b,hd,h=>by rw [abF] at hd;have hx:=h x List.mem_cons_self;have:=Co (a:=a) (b:=b.erase x) hd.2 (fun y hy=>by rw [List.mem_erase_of_ne (fun e=>hd.1 (by rw [<- e];exact hy))];exact h y (List.mem_cons_of_mem _ hy));rw [List.length_erase_of_mem hx] at this;have:=List.length_pos_of_mem hx;rw [List.length_cons];omega
theorem GP {α:Type} [BEq α] [LawfulBEq α] {a b:List α} (ha:a.Nodup) (hb:b.Nodup) (h1: ∀x∈a,x∈b) (h2: ∀x∈b,x∈a):a.Perm b:=wK ha h1 (Co hb h2)
structure afY (R:fS) (F:List Pt) (t:Int×Int):Prop where
 ok:qI R
 qL:R.kw.dl.am=F
 ci:R.kw.ci=t
section
variable {f : List Pt} {t : Int × Int}
end
def hP (c:aK) (r:Int) (N:List Nd) (to:Int×Int) (out:List (Int×Int)):=
 (c.ci.1,c.ci.2,c.dl.am,c.ai.aL,c.ai.ce,c.ae.af.aC,c.ae.af.be,c.ae.af.bi,c.ae.bv,c.ae.ay,c.ii,r,N,to.1,to.2,(0:Int),(0:Int),(0:Int),(0:Int),out)
def p9:aO:=⟨pp 200 0,pp 200 abN,(abH 200).map fun j:Nat=>(199:Int) - (j:Int)⟩
def Aq:aJ:=⟨p9,[],pp 200 (-1)⟩
def zi (f:Field) (t:Int×Int):aK:=⟨t,f,⟨0,[]⟩,Aq,[]⟩
theorem GQ:xH 200=abL (p9,0):=
 (by kernel_rfl:xH 200=ax zI (200,200,0,pp 200 0,pp 200 abN,pp 200 0)).trans (j9.2 ⟨300,by kernel_rfl⟩)
theorem K5:fY [-1] 200=abL (pp 200 (-1)):=by
 unfold fY pR;have m:dZ (aa .u64 (Int.ofNat ([-1]:List Int).length)) (aa .u64 200)=abL (0,200):=by rw [show aa .u64 (Int.ofNat ([-1]:List Int).length)=1 from by kernel_rfl,show aa .u64 200=200 from by kernel_rfl,xO ⟨by decide,by decide⟩ ⟨by decide,by decide⟩];rfl
 rw [m];exact (by kernel_rfl:_=ax iS (1,-1::pp 199 0)).trans (j9.2 ⟨20,by kernel_rfl⟩)
theorem CN:rD 200=abL (Aq,0):=by unfold rD;rw [GQ,au,dv rfl,lw,K5];rfl
theorem EN (f:Field) {t:Int×Int} (wH:nX t):uH f t=abL (if ik f.am≠0 then (fK,ik f.am) else if bT t then (zi f t,0) else (fK,8)):=by
 unfold uH;rw [iY,au]
 by_cases h:ik f.am=0
 · have fv:=iX.1 h
   have f1:=fv.1;rw [dv h,lw,dU wH,au,pi (show¬ik f.am≠0 from fun k=>k h)]
   by_cases rt:bT t
   · rw [ol rt,ol rt,dv rfl,lw,CN,au,bg (show (abK f.am)<=1048576 by omega),au]
     rfl
   rw [pi rt,pi rt,fH (by decide),ls]
 rw [fH h,ls,ol h]
theorem qJ {α:Type} [Inhabited α] {n i:Nat} (a:α) (h:i<n):(pp n a)[i]! =a:=by rw [getElem!_pos _ i (by rw [v4];exact h),ab3]
theorem RX {i:Nat} (hi:i<200):(i:Int)∈p9.bi:=by refine abx.2 ⟨199-i,abI.2 (by omega),?_⟩;show (199:Int) - ((199-i:Nat):Int)=(i:Int);omega
theorem i':(abK p9.aC)=200:=v4 ..
set_option maxRecDepth 100000 in
theorem N5:(abK p9.bi)=200:=by unfold p9;exact (aaj _).trans List.length_range
theorem K6:gi p9 where
 n1:=by rw [i'];omega
 n2:=by rw [i'];omega
 ul:=by rw [i'];exact v4 ..
 fr:=fun x hx=>by obtain ⟨j,hj,rfl⟩:=abx.1 hx;have:=abI.1 hj;rw [i'];omega
 fd:=by
  refine wL List.nodup_range fun i hi j hj h=>?_
  have h:(199:Int) - (i:Int)=199- (j:Int):=h;omega
 uf:=fun i hi=>by
  rw [i'] at hi;rw [show p9.be[i]! =abN from qJ abN hi];constructor
  · intro h;cases h
  intro h;exact absurd (RX hi) h
 us:=fun i hi=>by rw [i'] at hi;rw [show p9.aC[i]! =0 from qJ 0 hi,show p9.be[i]! =abN from qJ abN hi];exact ⟨by decide,by decide,fun h=>by cases h⟩
set_option maxRecDepth 100000 in
theorem Iz:iA Aq where
 so:=K6
 wl:=(v4 (n:=200) (a:=(-1:Int))).trans i'.symm
 hl:=((ab1 _).trans N5).trans i'.symm
 fwd:=fun i hi h=>by rw [show Aq.af.be[i]! =abN from qJ abN (by rw [<- i'];exact hi)] at h;cases h
 un:=fun i hi _=>qJ (-1) (by rw [<- i'];exact hi)
 ev:=fun w hw=>absurd hw (Do w)
 nd:=fun v w _ hw=>absurd hw (Do w)
 ord:=fun k _ hk=>absurd hk (Do k)
theorem K7 {f:Field} (fv:cj f.am) {t:Int×Int} (r:bT t) (wH:nX t):cy (zi f t) where
 wI:=r
 oN:=wH
 qL:=fv
 DD:=(⟨by decide,by decide,by decide,fun i hi=>absurd hi (Do i),fun i hi=>absurd hi (Do i),fun i j _ hj=>absurd hj (Do j),fun i j _ hj=>absurd hj (Do j)⟩:eD ⟨0,[]⟩)
 sG:=Iz
 K1:=v4 ..
 hd:=rfl
 known:=fun i hi=>absurd hi (Do i)
 JE:=rfl
theorem EO (f:Field) (t:Int×Int):Roomy (zi f t) 0:=by refine ⟨v6 _,Int.le_refl _,fun j hj=>?_⟩;rw [show (zi f t).ae.af.aC[j]! =0 from qJ 0 (by rw [<- i'];exact hj)];decide
theorem K8 {f:List Pt} {t:Int×Int} {N:List Nd} {r:Int} (tr:bJ f t N r):(bq N (abK f)).length=abK f-1:=by
 have ln:=tr.len;have key: ∀k,k<=abK f->(bq N k).length=if 0<=r/\r<(k:Int) then k-1 else k:=by
  intro k
  induction k with
  |zero=>intro _;rw [pi (by omega)];rfl
  |succ k ih=>
   intro hk;have e:=ih (by omega);have pr:=tr.par (show k<(abK f) by omega);have es:(bq N (k+1)).length=(bq N k).length+(nE N k).length:=by show (bq N k++nE N k).length=_;rw [rc]
   rw [es,e];unfold nE
   by_cases c:(k:Int)=r
   · rw [pi (show¬gH N k<(abK N) by rw [pr.1 c];omega),pi (by omega),ol (by omega)];rfl
   rw [ol (pr.2.1 c).1,pm]
   by_cases d:0<=r/\r<(k:Int)
   · rw [ol d,ol (by omega)];omega
   rw [pi d,pi (by omega)]
 rw [key _ (v6 _)];have tt:=tr.lc;generalize r=rt at tt ⊢;cases tt with
 |nil h0=>rw [pi (by omega)];omega
 | @node _ _ i tp _ _=>have hi:=tp.hi;rw [ol (by omega)]
theorem zj {k:fS} (ok:qI k):nU k=abL (bq k.lc.jp (abK k.kw.dl.am),0):=by have c1:=z8 ok.clk.fit;rw [ol ok] at c1;have fv:=ok.clk.qL;obtain ⟨r,N,m1,m2⟩:=EM fv ok.clk.wI ok.clk.oN;obtain ⟨q1,q2⟩:=m2.same fv.2.2 ok.lc;have m1:fo k.kw.dl k.kw.ci=abL (⟨r,N⟩,bq N (abK k.kw.dl.am)):=m1;rw [q1] at m1;unfold nU;rw [c1,au,dv rfl,lw,m1,au]
theorem afZ {n:Nat} (h:n<=1000):(if (aa .i64 ((n:Int) -1))>0 then aa .i64 ((n:Int) -1) else 0)=((n-1:Nat):Int):=by rw [oH ⟨by omega,by omega⟩];split<;>omega
def rg (a n:Nat):List Int:=(List.range' a n).map fun k:Nat=>(k:Int)
theorem ja (a n:Nat):(rg a n).length=n:=by unfold rg;rw [aaj,List.length_range']
theorem Ar {a n i:Nat} (h:i<n):(rg a n)[i]! =((a+i:Nat):Int):=by rw [getElem!_pos _ i (by rw [ja];exact h)];unfold rg;simp
theorem JL {a i b:Nat} (h1:a<=i) (h2:i<b):rg a (i-a)++[(i:Int)]++rg (i+1) (b- (i+1))=rg a (b-a):=by
 unfold rg;have e:b-a=(i-a)+(1+(b- (i+1))):=by omega
 rw [e,<- abk,<- abk,aau,aau,NE];simp only [Nat.mul_one,Nat.one_mul];rw [show a+(i-a)=i by omega];rfl
theorem gl.GR {P:Nat->Nat->Prop} {N:List Nd} {a b:Nat} {r:Int} (h:gl P N a b r): ∀k:Nat,a<=k->k<b->(-1<=(N[k]!).2.1/\(N[k]!).2.1<(k:Int))/\((N[k]!).2.2= -1\/(k:Int)<(N[k]!).2.2/\(N[k]!).2.2<(b:Int)):=by
 induction h with
 |nil h=>intro k h1 h2;omega
 | @node a b i h l r Iv Iw=>
  have:=h.lo;have:=h.hi;intro k h1 h2;rcases EQ k i with q|q|q
  · obtain ⟨x,y⟩:=Iv k h1 q
    exact ⟨x,y.imp id fun z=>by omega⟩
  · subst q
    refine ⟨?_,?_⟩
    · rcases l.link with ⟨_,e⟩|⟨j,e,_,_⟩<;>rw [e]<;>omega
    rcases r.link with ⟨_,e⟩|⟨j,e,_,_⟩<;>rw [e]<;>omega
  exact Iw k (by omega) h2
theorem gl.sA {P:Nat->Nat->Prop} {N:List Nd} (hN:(abK N)<=900) {a b:Nat} {r:Int} (h:gl P N a b r): ∀(mO:Nat) (out:List Int),b<=abK N->b-a<mO->abK out+(b-a)<=abK N->
 Go.Vm.sA N mO r out=abL (out++rg a (b-a)):=by
 induction h with
 | @nil a b h=>
  intro mO out _ hf _;cases mO with
  |zero=>omega
  |succ mO=>unfold Go.Vm.sA;rw [ol (by decide),show b-a=0 by omega];show _=abL (out++[]);rw [aag]
 | @node a b i h l r Iv Iw=>
  have h1:=h.lo;have h2:=h.hi;intro mO out hb hf ho;cases mO with
  |zero=>omega
  |succ mO=>unfold Go.Vm.sA;rw [pi (by omega),pi (by omega),M2,ol (by omega),Iv mO out (by omega) (by omega) (by omega),au,ol (by rw [rc,ja];omega),Iw mO _ hb (by omega) (by rw [rc,rc,ja,pm];omega)];rw [<- JL h1 h2];simp only [NE]
section
variable {f : List Pt} {t : Int × Int} {N : List Nd} {r : Int}
theorem bJ.ov (h:bJ f t N r) (hf:(abK f)<=900):Go.Vm.ov r N=abL (rg 0 (abK N)):=by have ln:=h.len;unfold Go.Vm.ov;rw [ol (by omega),h.lc.sA (by omega) 2000 [] (by omega) (by omega) (by simp;omega),ln];rfl
theorem bJ.iP (h:bJ f t N r) (hf:(abK f)<=900):Go.Vm.iP r N=abL abM:=by unfold Go.Vm.iP;rw [h.ov hf,Option.map_some,ja,decide_eq_true rfl]
end
structure S8 (N:List Nd) (r:Int) (es:List Nat) (out:List Int) (met:List Bool) (i:Int) (s:Nat×Nat×Int×Int×List Nd×List Int×List Int×List Bool):Prop where
 e1:s.1=abK es
 e2:s.2.1<=abK s.2.2.2.2.2.2.1
 e3:(abK es)<=s.2.1
 e4:(abK s.2.2.2.2.2.2.1)<=1000
 tk:s.2.2.2.2.2.2.1.take (abK es)=eI es
 rest:s.2.2.1=i/\s.2.2.2.1=r/\s.2.2.2.2.1=N/\s.2.2.2.2.2.1=out/\s.2.2.2.2.2.2.2=met
theorem EP (es:List Nat) (i:Nat):eI (es++[i])=eI es++[(i:Int)]:=by unfold eI;rw [aau];rfl
theorem IA {a b:Nat} (h:a<=b):abm a b=abM:=ab5 h
theorem Yf {a b:Nat} (h: ¬a<=b):abm a b=abN:=by
 cases hb:abm a b with
 |false=>rfl
 |true=>exact absurd (ab6 hb) h
theorem RY {N:List Nd} {r:Int} {es:List Nat} {out:List Int} {met:List Bool} {i:Nat} {s:Nat×Nat×Int×Int×List Nd×List Int×List Int×List Bool} (h:S8 N r es out met (i:Int) s) (hi:i<abK N) (hm:met[i]! =abN) (lm:(abK met)=abK N) (he:(abK es)<=900):
 ∃s',S8 N r (es++[i]) out (met.set i abM) (N[i]!).2.1 s'/\dS s=abL (.next s'):=by
 obtain ⟨len,cap,i0,r0,N0,K9,E,N6⟩:=s;obtain ⟨e1,e2,e3,e4,tk,rfl,rfl,rfl,rfl,rfl⟩:=h;dsimp only at e1 e2 e3 e4 tk hi hm lm;subst e1;have g1:=ar N6 i (by omega);have g2:=ar N0 i hi;rw [hm] at g1;have lE:(E.take (abK es)).length=(abK es):=by rw [ww];omega
 have ap:aX (E.take (abK es)) [(i:Int)]=abL (E.take (abK es)++[(i:Int)]):=fa (by rw [pm];omega);have el:(es++[i]).length=abK es+1:=by rw [rc];rfl
 by_cases c:(abK es)+1<=cap
 · refine ⟨(abK es+1,cap,(N0[i]!).2.1,r0,N0,K9,ek E (abK es) [(i:Int)],N6.set i abM),⟨by rw [el],by dsimp only;rw [Ap _ _ _ (by omega)];exact e2,by rw [el];exact c,by dsimp only;rw [Ap _ _ _ (by omega)];exact e4,?_,rfl,rfl,rfl,rfl,rfl⟩,?_⟩
   · dsimp only
     unfold ek;rw [EP,<- tk,el,PP (by rw [rc,lE];exact v6 _),If (by rw [rc,lE];exact v6 _)]
   unfold dS
   simp only [aH (show (0:Int)<=(i:Int) by omega),ls,g1,au,lw,pm,IA c,IA (show (abK es)+1<=(abK E) by omega),ab9,aa7,g2,ij]
 refine ⟨((E.take (abK es)++[(i:Int)]).length,(E.take (abK es)++[(i:Int)]).length,(N0[i]!).2.1,r0,N0,K9,E.take (abK es)++[(i:Int)],N6.set i abM),⟨by dsimp only;rw [rc,lE,el];rfl,v6 _,by dsimp only;rw [el,rc,lE];exact v6 _,by dsimp only;rw [rc,lE,pm];omega,?_,rfl,rfl,rfl,rfl,rfl⟩,?_⟩
 · dsimp only
   rw [EP,<- tk,If (by rw [rc,lE,el];exact v6 _)]
 unfold dS
 simp only [aH (show (0:Int)<=(i:Int) by omega),ls,g1,au,lw,pm,Yf c,ap,IA (show (abK es)<=(abK E) by omega),g2,ij]
theorem Yg {N:List Nd} {r:Int} {es:List Nat} {i:Nat} {out:List Int} {met:List Bool} {s:Nat×Nat×Int×Int×List Nd×List Int×List Int×List Bool} (h:S8 N r (es++[i]) out met (-1) s) (hi:i<abK N) (he:(abK es)<=900) (ho:(abK out)<=900):
 ∃s',S8 N r es (out++[(i:Int)]) met (N[i]!).2.2 s'/\dS s=abL (.done (.next s')):=by
 obtain ⟨len,cap,i0,r0,N0,K9,E,N6⟩:=s;obtain ⟨e1,e2,e3,e4,tk,rfl,rfl,rfl,rfl,rfl⟩:=h;have el:(es++[i]).length=abK es+1:=by rw [rc];rfl
 rw [el] at e1 e3 tk;dsimp only at e1 e2 e3 e4 tk hi ho;subst e1;have ew:aa .i64 (((abK es+1:Nat):Int) -1)=(((abK es):Nat):Int):=by rw [oH ⟨by omega,by omega⟩];omega
 have g1:aA (E.take (abK es+1)) (((abK es):Nat):Int)=abL (i:Int):=by
  rw [tk,ar _ (abK es) (by rw [Cn,el];omega),JG _ (by omega)]
  congr 1
  rw [getElem!_pos _ _ (by omega)];simp
 have g2:=ar N0 i hi;have ap:aX K9 [(i:Int)]=abL (K9++[(i:Int)]):=fa (by rw [pm];omega);refine ⟨(abK es,cap,(N0[i]!).2.2,r0,N0,K9++[(i:Int)],E,N6),⟨rfl,e2,by dsimp only;omega,e4,?_,rfl,rfl,rfl,rfl,rfl⟩,?_⟩
 · dsimp only
   have:=congrArg (List.take (abK es)) tk;rw [ab8,ab4 (by omega),EP,PP (by rw [Cn];exact v6 _),If (l:=eI es) (by rw [Cn];exact v6 _)] at this;exact this
 unfold dS
 simp only [aB,aD (show¬(0:Int)<= -1 by decide),lw,ew,g1,au,aH (show (0:Int)<=(((abK es):Nat):Int) by omega),aH (show (((abK es):Nat):Int)<=(cap:Int) by omega),aa7,ls,ap,g2,M2]
theorem N7 {s:Nat×Nat×Int×Int×List Nd×List Int×List Int×List Bool} (h:0<=s.2.2.1\/0<s.1):cd s=ax dS s:=by
 unfold cd;rcases h with h|h
 · rw [aH h,ls]
 by_cases c:0<=s.2.2.1
 · rw [aH c,ls]
 rw [aD c,lw,aB,aH (by omega),ls]
theorem af0 {s s':Nat×Nat×Int×Int×List Nd×List Int×List Int×List Bool} (h:0<=s.2.2.1\/0<s.1) (h':0<=s'.2.2.1\/0<s'.1) (e:dS s=abL (.next s')):ax cd s=ax cd s':=by
 have:cd s=cd s':=by rw [N7 h,N7 h',aT e]
 rw [Dt cd s,Dt cd s',this]
theorem gl.wk {P:Nat->Nat->Prop} {N:List Nd} {r0:Int} (hN:(abK N)<=900) {a b:Nat} {r:Int} (h:gl P N a b r): ∀(es:List Nat) (out:List Int) (met:List Bool) (s:Nat×Nat×Int×Int×List Nd×List Int×List Int×List Bool),
 S8 N r0 es out met r s->b<=abK N->abK met=abK N->(∀k,a<=k->k<b->met[k]! =abN)->abK es+(b-a)<=900->abK out+(b-a)<=900->
 ∃(Yh:List Bool) (s':Nat×Nat×Int×Int×List Nd×List Int×List Int×List Bool),S8 N r0 es (out++rg a (b-a)) Yh (-1) s'/\abK Yh=abK N/\(∀k,k<a\/b<=k->Yh[k]! =met[k]!)/\ax cd s=ax cd s':=by
 induction h with
 | @nil a b h=>intro es out met s hs _ lm _ _ _;refine ⟨met,s,?_,lm,fun _ _=>rfl,rfl⟩;rw [show b-a=0 by omega];show S8 N r0 es (out++[]) met (-1) s;rw [aag];exact hs
 | @node a b i h l r Iv Iw=>
  have h1:=h.lo;have h2:=h.hi;intro es out met s hs hb lm hm he ho;obtain ⟨s1,w1,x1⟩:=RY hs (by omega) (hm i h1 h2) lm (by omega);have y1:=af0 (.inl (by rw [hs.rest.1];omega)) (.inr (by rw [w1.e1,rc,pm];omega)) x1;obtain ⟨m2,s2,w2,l2,k2,x2⟩:=Iv (es++[i]) out (met.set i abM) s1 w1 (by omega) (by rw [AC];exact lm) (fun k q1 q2=>by rw [bn,pi (fun q=>by omega)];exact hm k q1 (by omega)) (by rw [rc,pm];omega) (by omega);obtain ⟨s3,w3,x3⟩:=Yg w2 (by omega) (by omega) (by rw [rc,ja];omega);have y3:ax cd s2=ax cd s3:=aT (by rw [N7 (.inr (by rw [w2.e1,rc,pm];omega))];exact aF x3)
  obtain ⟨m4,s4,w4,l4,k4,x4⟩:=Iw es _ m2 s3 w3 hb l2 (fun k q1 q2=>by rw [k2 k (.inr (by omega)),bn,pi (fun q=>by omega)];exact hm k (by omega) q2) (by omega) (by rw [rc,rc,ja,pm];omega);refine ⟨m4,s4,?_,l4,fun k hk=>?_,by rw [y1,x2,y3,x4]⟩
  · rw [NE,NE,<- NE (rg a (i-a)),JL h1 h2] at w4
    exact w4
  rw [k4 k (by omega),k2 k (by omega),bn,pi (fun q=>by omega)]
section
variable {f : List Pt} {t : Int × Int} {N : List Nd} {r : Int}
theorem bJ.walk (h:bJ f t N r) (hf:(abK f)<=900):iV ⟨r,N⟩=abL (rg 0 (abK N),abM):=by
 have ln:=h.len;unfold iV;simp only [aB,beq_self_eq_true,ls,Ca abN (show (abK N)<=1048576 by omega),au];have st:S8 N r [] [] (pp (abK N) abN) r (0,0,r,r,N,[],[],pp (abK N) abN):=⟨rfl,v6 _,v6 _,wn _,rfl,rfl,rfl,rfl,rfl,rfl⟩;obtain ⟨m,s,w,_,_,e⟩:=h.lc.wk (by omega) [] [] _ _ st (by omega) (by rw [v4]) (fun k _ hk=>by rw [zh _ (by omega)]) (by simp;omega) (by simp;omega);rw [e];refine aF ?_;unfold cd;rw [w.rest.1,aD (by decide),lw,w.e1,w.rest.2.2.2.1,aB,aD (by simp),lw,<- ln];rfl
end
section
variable {f : List Pt} {t : Int × Int} {N : List Nd} {r : Int}
theorem bJ.io (h:bJ f t N r):(abK f=0/\r= -1)\/(0<=r/\r<((abK N):Int)):=by
 have ln:=h.len;rcases h.lc.link with ⟨e,q⟩|⟨i,e,_,q⟩
 · exact .inl ⟨by omega,q⟩
 exact .inr ⟨by omega,by omega⟩
theorem bJ.N8 (fv:cj f) (h:bJ f t N r) {i j:Nat} (lr:i<j) (hj:j<abK N):(N[i]!).1<(N[j]!).1:=by have ln:=h.len;rw [h.ids i (by omega),h.ids j (by omega)];exact oa fv.2.2 lr (by omega)
theorem bJ.S9 (fv:cj f) (h:bJ f t N r) {i:Nat} (hi:i<abK N):0<=(N[i]!).1/\(N[i]!).1<=65535:=by have ln:=h.len;rw [h.ids i (by omega)];have:=fv.2.1 _ (bU (show i<(abK f) by omega));exact ⟨this.1,this.2.1⟩
theorem bJ.check (fv:cj f) (h:bJ f t N r):gd ⟨r,N⟩=abL 0:=by
 have f1:=fv.1;have ln:=h.len;have hr:=h.io;have x1:((abO (r<0))==(((abK N):Int)==0))=abM:=by
  rcases hr with ⟨a,b⟩|⟨a,b⟩
  · rw [aH (by omega),fe (by omega)];rfl
  rw [aD (by omega),ef (by omega)];rfl
 unfold gd;simp only [aB,aD (show¬(64:Int)<((abK N):Int) by omega),lw,aD (show¬r< -1 by omega),aD (show¬((abK N):Int)<=r by omega),x1,IR];have st:=cf (body:=jI) (fun i=>(((abK N):Int),N,((abK N):Int),(i:Int),r,N)) (abK N) (fun i hi=>by
  obtain ⟨⟨a1,a2⟩,a3⟩:=h.lc.GR i (wn _) (by omega);have b:=h.S9 fv hi;unfold jI;have c1: ¬(if (N[i]!).2.2<(N[i]!).2.1 then (N[i]!).2.2 else (N[i]!).2.1)<(-1:Int):=by split<;>omega
  have c2: ¬((abK N):Int)<=(if (N[i]!).2.2>(N[i]!).2.1 then (N[i]!).2.2 else (N[i]!).2.1):=by split<;>omega
  simp only [aH (show (i:Int)<((abK N):Int) by omega),ls,ar N i hi,au,aD c1,aD c2,lw,aD (show¬(N[i]!).1<0 by omega),aD (show¬(65535:Int)<(N[i]!).1 by omega),aV (show i<1000000000 by omega)])
 refine (show _=_ from st).trans (aF ?_);unfold jI;simp only [aD (show¬((abK N):Int)<((abK N):Int) by omega),lw,h.walk (by omega),au,IR,aB,ja,bne_self_eq_false];have st:=cf (body:=jH) (fun i=>(((abK N):Int),rg 0 (abK N),((i+1:Nat):Int),r,N)) (abK N-1) (fun i hi=>by
  have g1:=ar (rg 0 (abK N)) i (by rw [ja];omega);have g2:=ar (rg 0 (abK N)) (i+1) (by rw [ja];omega);rw [Ar (by omega),ab1] at g1 g2;have lt:=h.N8 fv (show i<i+1 by omega) (by omega);unfold jH;simp only [aH (show ((i+1:Nat):Int)<((abK N):Int) by omega),ls,show aa .i64 (((i+1:Nat):Int) -1)=(i:Int) from by rw [oH ⟨by omega,by omega⟩];omega,g1,g2,au,ar N i (by omega),ar N (i+1) (by omega),aD (show¬(N[i+1]!).1<=(N[i]!).1 by omega),lw,aV (show i+1<1000000000 by omega)])
 refine (show _=_ from st).trans (aF ?_);unfold jH;rw [aD (by dsimp only;omega),lw]
def Lm (N:List Nd) (k:Nat):List Int:=(abH (abK N)).map fun j=>if j<k then (N[j]!).1 else (j:Int)
theorem mE (N:List Nd) (k:Nat):(Lm N k).length=(abK N):=by unfold Lm;simp
theorem tZ (N:List Nd) (k:Nat) {j:Nat} (hj:j<abK N):(Lm N k)[j]! =if j<k then (N[j]!).1 else (j:Int):=by rw [getElem!_pos _ j (by rw [mE];exact hj)];unfold Lm;simp
theorem N9 (N:List Nd):Lm N 0=rg 0 (abK N):=by
 refine m9 (by rw [mE,ja]) fun i hi=>?_
 rw [mE] at hi;rw [tZ N 0 hi,Ar hi,pi (Do _),ab1]
theorem RZ (N:List Nd) {k:Nat} (hk:k<abK N):(Lm N k).set k (N[k]!).1=Lm N (k+1):=by
 refine m9 (by rw [AC,mE,mE]) fun i hi=>?_
 rw [AC,mE] at hi;rw [bn,tZ N k hi,tZ N (k+1) hi,mE]
 by_cases e:i=k
 · rw [ol ⟨e,hk⟩,ol (by omega),e]
 rw [pi (fun q=>e q.1)]
 by_cases c:i<k
 · rw [ol c,ol (by omega)]
 rw [pi c,pi (by omega)]
theorem bJ.iDs (fv:cj f) (h:bJ f t N r):rN ⟨r,N⟩=abL (Lm N (abK N),0):=by
 have f1:=fv.1;have ln:=h.len;unfold rN;rw [h.check fv,au,dv rfl,lw,h.walk (by omega),au];dsimp only;rw [aB,ja,<- N9];have st:=cf (body:=mw) (fun i=>(((abK N):Int),(i:Int),r,N,Lm N i)) (abK N) (fun i hi=>by have g:=ar (Lm N i) i (by rw [mE];exact hi);rw [tZ N i hi,pi (abb _)] at g;unfold mw;simp only [aH (show (i:Int)<((abK N):Int) by omega),ls,g,au,ar N i hi,ij,RZ N hi,aV (show i<1000000000 by omega)]);refine (show _=_ from st).trans (aF ?_);unfold mw;rw [aD (by dsimp only;omega),lw]
theorem gl.depth {P:Nat->Nat->Prop} {r0:Int} (hN:(abK N)<=900) (lt: ∀i j,i<j->j<abK N->(N[i]!).1<(N[j]!).1) {a b:Nat} {c:Int} (h:gl P N a b c): ∀(k d:Nat),b<=abK N->a<=k->k<b->d+(b-a)<=1000-> ∃m:Int,ax ig ((N[k]!).1,(d:Int),c,r0,N)=abL (m,0):=by
 induction h with
 |nil h=>intro k d _ h1 h2;omega
 | @node a b i h l r Iv Iw=>
  have h1:=h.lo;have h2:=h.hi;intro k d hb k1 k2 hd;rcases EQ k i with q|q|q
  · obtain ⟨m,e⟩:=Iv k (d+1) (by omega) k1 q (by omega)
    have:=lt k i q (by omega);refine ⟨m,(aT ?_).trans e⟩;unfold ig;simp only [aH (show (0:Int)<=(i:Int) by omega),ls,ar N i (by omega),au,ef (show (N[k]!).1≠(N[i]!).1 by omega),lw,aH this,aV (show d<1000000000 by omega)]
  · subst q
    refine ⟨(d:Int),aF ?_⟩;unfold ig;simp only [aH (show (0:Int)<=(k:Int) by omega),ls,ar N k (by omega),au,beq_self_eq_true]
  obtain ⟨m,e⟩:=Iw k (d+1) hb (by omega) k2 (by omega)
  have:=lt i k q (by omega);refine ⟨m,(aT ?_).trans e⟩;unfold ig;simp only [aH (show (0:Int)<=(i:Int) by omega),ls,ar N i (by omega),au,ef (show (N[k]!).1≠(N[i]!).1 by omega),lw,aD (show¬(N[k]!).1<(N[i]!).1 by omega),aV (show d<1000000000 by omega)]
theorem bJ.walked (fv:cj f) (h:bJ f t N r): ∃l:List (Int×Int),jA ⟨r,N⟩=abL l/\abK l=(abK N):=by
 have f1:=fv.1;have ln:=h.len;unfold jA;rw [h.walk (by omega),au];dsimp only;rw [aB,ja,beq_self_eq_true,ls,Ca _ (by omega),au];have key: ∀(d k:Nat) (out:List (Int×Int)),abK N-k<=d->k<=abK N->abK out=abK N-> ∃l:List (Int×Int),ax gU (rg 0 (abK N),((abK N):Int),(k:Int),r,N,out)=abL l/\abK l=(abK N):=by
  intro d
  induction d with
  |zero=>intro k out hd hk ho;refine ⟨out,aF ?_,ho⟩;unfold gU;rw [aD (by dsimp only;omega),lw]
  |succ d ih=>
   intro k out hd hk ho
   by_cases e:k=abK N
   · refine ⟨out,aF ?_,ho⟩
     unfold gU;rw [aD (by dsimp only;omega),lw]
   have IY:k<(abK N):=by omega
   obtain ⟨m,dm⟩:=h.lc.depth (r0:=r) (by omega) (fun i j a b=>h.N8 fv a b) k 0 (by omega) (wn _) (by omega) (by omega);have dp:nV ⟨r,N⟩ (N[k]!).1=abL (m,0):=by unfold nV;rw [h.check fv,au,dv rfl,lw];exact dm
   have g:=ar (rg 0 (abK N)) k (by rw [ja];exact IY);rw [Ar IY,ab1] at g;obtain ⟨l,i1,i2⟩:=ih (k+1) ((out.set k ((N[k]!).1,(out[k]!).2)).set k (((out.set k ((N[k]!).1,(out[k]!).2))[k]!).1,m)) (by omega) (by omega) (by rw [AC,AC];exact ho);refine ⟨l,(aT ?_).trans i1,i2⟩;unfold gU;simp only [aH (show (k:Int)<((abK N):Int) by omega),ls,g,au,ar N k IY,ar out k (by omega),dp,ij,ar (out.set k ((N[k]!).1,(out[k]!).2)) k (by rw [AC];omega),aV (show k<1000000000 by omega)]
 obtain ⟨l,i1,i2⟩:=key (abK N) 0 (pp (abK N) (0,0)) (by omega) (wn _) (v4 ..);exact ⟨l,i1,i2⟩
theorem GS (l:List (Int×Int)) (hl:(abK l)<=1000):iG l l=abL abM:=by unfold iG;rw [dv rfl,lw,aB];have st:=cf (body:=gf) (fun i=>(l,l,((abK l):Int),(i:Int))) (abK l) (fun i hi=>by unfold gf;simp only [aH (show (i:Int)<((abK l):Int) by omega),ls,ar l i hi,au,beq_self_eq_true,aa7,IR,lw,aV (show i<1000000000 by omega)]);refine (show _=_ from st).trans (aF ?_);unfold gf;rw [aD (by dsimp only;omega),lw]
theorem bJ.right (fv:cj f) (rt:bT t) (wH:nX t) (h:bJ f t N r):kU ⟨r,N⟩ ⟨f⟩ t=abL (abM,0):=by have f1:=fv.1;have ln:=h.len;obtain ⟨q,M,o1,o2⟩:=JJ fv rt wH;obtain ⟨s1,s2⟩:=o2.same fv.2.2 h;subst s1 s2;obtain ⟨l,w1,w2⟩:=h.walked fv;unfold kU;rw [h.check fv,au,dv rfl,lw,o1,au,dv rfl,lw];unfold tO;rw [h.check fv,au,dv rfl,lw,au,dv rfl,lw,dv rfl,lw,w1,au,au,GS l (by omega),au,au]
end
section
variable {f : List Pt} {t : Int × Int} {N : List Nd} {r : Int}
theorem bJ.aby (h:bJ f t N r) {k i:Nat} (hk:k<abK N) (hi:i<abK N):gH N k=i↔Below N k i:=by
 have ln:=h.len;obtain ⟨p1,p2,p3⟩:=h.par (show k<(abK f) by omega);constructor
 · intro e
   have:(k:Int)≠r:=fun q=>by have:=p1 q;omega
   have:=(p2 this).2.1
   rwa [e] at this
 intro b;exact (p3 i hi b).symm
noncomputable def La (N:List Nd) (i:Nat):List Int:=(abH (abK N)).map fun k=>if gH N k<i then 1 else 0
theorem mF (N:List Nd) (k:Nat):(La N k).length=(abK N):=by unfold La;simp
theorem ua (N:List Nd) (i:Nat) {k:Nat} (hk:k<abK N):(La N i)[k]! =if gH N k<i then 1 else 0:=by rw [getElem!_pos _ k (by rw [mF];exact hk)];unfold La;simp
theorem Oa (N:List Nd):La N 0=pp (abK N) 0:=by
 refine m9 (by rw [mF,v4]) fun i hi=>?_
 rw [mF] at hi;rw [ua N 0 hi,zh _ hi,pi (Do _)]
def uZ (B:List Int) (c:Int):List Int:=if 0<=c then B.set c.toNat (B[c.toNat]!+1) else B
theorem qK (B:List Int) (c:Int):(uZ B c).length=(abK B):=by unfold uZ;split<;>simp
theorem zk (B:List Int) (c:Int) {k:Nat} (hk:k<abK B):(uZ B c)[k]! =if c=(k:Int) then B[k]!+1 else B[k]!:=by
 unfold uZ
 by_cases h:0<=c
 · rw [ol h,bn]
   by_cases e:c=(k:Int)
   · subst e;rw [ol ⟨by omega,by omega⟩,ol rfl,M2]
   rw [pi (fun q=>e (by omega)),pi e]
 rw [pi h,pi (by omega)]
theorem bJ.cnt (h:bJ f t N r) {i:Nat} (hi:i<abK N):uZ (uZ (La N i) (N[i]!).2.1) (N[i]!).2.2=La N (i+1):=by
 have ln:=h.len;obtain ⟨⟨a1,a2⟩,a3⟩:=h.lc.GR i (wn _) (by omega);refine m9 (by rw [qK,qK,mF,mF]) fun k hk=>?_
 rw [qK,qK,mF] at hk;have e:=h.aby hk hi;unfold Below at e;rw [zk _ _ (by rw [qK,mF];exact hk),zk _ _ (by rw [mF];exact hk),ua N i hk,ua N (i+1) hk]
 by_cases p:gH N k=i
 · rw [pi (show¬gH N k<i by omega),ol (show gH N k<i+1 by omega)]
   rcases e.1 p with q|q
   · rw [ol q,pi (by omega)];rfl
   rw [pi (show¬(N[i]!).2.1=(k:Int) by omega),ol q];rfl
 rw [pi (fun q=>p (e.2 (.inl q))),pi (fun q=>p (e.2 (.inr q)))]
 by_cases c:gH N k<i
 · rw [ol c,ol (by omega)]
 rw [pi c,pi (by omega)]
theorem bJ.once (fv:cj f) (h:bJ f t N r):rO ⟨r,N⟩=abL abM:=by
 have f1:=fv.1;have ln:=h.len;unfold rO;simp only [aB,beq_self_eq_true,ls,Ca (0:Int) (show (abK N)<=1048576 by omega),au,<- Oa];have st:=cf (body:=mz) (fun i=>((i:Int),r,N,La N i)) (abK N) (fun i hi=>by
  have bd: ∀k,k<abK N->0<=(La N i)[k]!/\(La N i)[k]!<=1:=fun k hk=>by rw [ua N i hk];split<;>omega
  have e:=h.cnt hi;have l1:=h.link (j:=i) (by omega) (.inl rfl);have l2:=h.link (j:=i) (by omega) (.inr rfl);have sd:=h.lc.GR i (wn _) (by omega);have cl:=mF N i;unfold mz;simp only [aB,aH (show (i:Int)<((abK N):Int) by omega),ls,ar N i hi,au,aV (show i<1000000000 by omega)];rw [<- e];generalize La N i=B at*;have wk: ∀c:Int,0<=c->c<abK N->aa .i64 (B[c.toNat]!+1)=B[c.toNat]!+1:=fun c q1 q2=>by have:=bd c.toNat (by omega);exact oH ⟨by omega,by omega⟩
  have gB: ∀c:Int,0<=c->c<abK N->aA B c=abL B[c.toNat]!:=fun c q1 q2=>jB q1 (by omega)
  by_cases c1:0<=(N[i]!).2.1
  · have k1:(N[i]!).2.1<(abK N):=by omega
    have e1:uZ B (N[i]!).2.1=B.set (N[i]!).2.1.toNat (B[(N[i]!).2.1.toNat]!+1):=ol c1;simp only [aH c1,ls,gB _ c1 k1,au,wk _ c1 k1,yb c1];rw [<- e1]
    by_cases c2:0<=(N[i]!).2.2
    · have k2:(N[i]!).2.2<(abK N):=by omega
      have e2: ∀B':List Int,uZ B' (N[i]!).2.2=B'.set (N[i]!).2.2.toNat (B'[(N[i]!).2.2.toNat]!+1):=fun B'=>ol c2
      have g2:aA (uZ B (N[i]!).2.1) (N[i]!).2.2=abL (uZ B (N[i]!).2.1)[(N[i]!).2.2.toNat]!:=jB c2 (by rw [qK];omega);have w2:aa .i64 ((uZ B (N[i]!).2.1)[(N[i]!).2.2.toNat]!+1)=(uZ B (N[i]!).2.1)[(N[i]!).2.2.toNat]!+1:=by rw [zk _ _ (by omega)];have:=bd (N[i]!).2.2.toNat (by omega);exact oH ⟨by split<;>omega,by split<;>omega⟩
      simp only [aH c2,ls,g2,au,w2,yb c2];rw [e2]
    simp only [aD c2,lw]
    rw [show∀B',uZ B' (N[i]!).2.2=B' from fun B'=>pi c2]
  rw [show uZ B (N[i]!).2.1=B from pi c1]
  simp only [aD c1,lw]
  by_cases c2:0<=(N[i]!).2.2
  · have k2:(N[i]!).2.2<(abK N):=by omega
    have e2: ∀B':List Int,uZ B' (N[i]!).2.2=B'.set (N[i]!).2.2.toNat (B'[(N[i]!).2.2.toNat]!+1):=fun B'=>ol c2
    simp only [aH c2,ls,gB _ c2 k2,au,wk _ c2 k2,yb c2];rw [e2]
  simp only [aD c2,lw]
  rw [show∀B',uZ B' (N[i]!).2.2=B' from fun B'=>pi c2])
 refine (show _=_ from st).trans (aF ?_);unfold mz;simp only [aB,aD (show¬((abK N):Int)<((abK N):Int) by omega),lw];have cl:=mF N (abK N);have st:=cf (body:=my) (fun i=>((i:Int),r,N,La N (abK N))) (abK N) (fun i hi=>by
  have g:=ar (La N (abK N)) i (by omega);rw [ua N (abK N) hi] at g;obtain ⟨p1,p2,_⟩:=h.par (show i<(abK f) by omega);unfold my;simp only [aB,cl,aH (show (i:Int)<((abK N):Int) by omega),ls,g,au,aV (show i<1000000000 by omega)]
  by_cases c:(i:Int)=r
  · rw [fe c,ls,pi (by have:=p1 c;omega),dv c];rfl
  rw [ef c,lw,fH c,ls,ol (p2 c).1];rfl)
 refine (show _=_ from st).trans (aF ?_);unfold my;simp only [aB,cl,aD (show¬((abK N):Int)<((abK N):Int) by omega),lw]
theorem ES (N:List Nd) (r c:Int) (h1: -1<=c) (h2:c<((abK N):Int)):lR ⟨r,N⟩ c=abL abM:=by unfold lR;simp only [aH h1,ls,aB,aH h2]
theorem bJ.Yi (fv:cj f) (h:bJ f t N r):pz ⟨r,N⟩=abL 0:=by
 have f1:=fv.1;have ln:=h.len;have hr:=h.io;have x1:((r== -1)==(((abK N):Int)==0))=abM:=by
  rcases hr with ⟨a,b⟩|⟨a,b⟩
  · rw [fe b,fe (by omega)];rfl
  rw [ef (by omega),ef (by omega)];rfl
 unfold pz;simp only [aB,aD (show¬(64:Int)<((abK N):Int) by omega),lw,ES N r r (by omega) (by omega),au,IR,x1];have st:=cf (body:=kW) (fun i=>((i:Int),r,N)) (abK N) (fun i hi=>by
  have sd:=h.lc.GR i (wn _) (by omega);have b:=h.S9 fv hi;unfold kW;simp only [aB,aH (show (i:Int)<((abK N):Int) by omega),ls,ar N i hi,au,ES N r (N[i]!).2.1 (by omega) (by omega),ES N r (N[i]!).2.2 (by omega) (by omega),IR,lw,aD (show¬(N[i]!).1<0 by omega),aD (show¬(65535:Int)<(N[i]!).1 by omega),aV (show i<1000000000 by omega)])
 refine (show _=_ from st).trans (aF ?_);unfold kW;simp only [aB,aD (show¬((abK N):Int)<((abK N):Int) by omega),lw,h.once fv,au,IR,h.iP (show (abK f)<=900 by omega),h.ov (show (abK f)<=900 by omega)];have st:=cf (body:=kV) (fun i=>(((i+1:Nat):Int),r,N,rg 0 (abK N))) (abK N-1) (fun i hi=>by
  have g1:=ar (rg 0 (abK N)) i (by rw [ja];omega);have g2:=ar (rg 0 (abK N)) (i+1) (by rw [ja];omega);rw [Ar (by omega),ab1] at g1 g2;have lt:=h.N8 fv (show i<i+1 by omega) (by omega);unfold kV;simp only [aB,ja,aH (show ((i+1:Nat):Int)<((abK N):Int) by omega),ls,show aa .i64 (((i+1:Nat):Int) -1)=(i:Int) from by rw [oH ⟨by omega,by omega⟩];omega,g1,g2,au,ar N i (by omega),ar N (i+1) (by omega),aD (show¬(N[i+1]!).1<=(N[i]!).1 by omega),lw,aV (show i+1<1000000000 by omega)])
 refine (show _=_ from st).trans (aF ?_);unfold kV;rw [aB,aD (by dsimp only;rw [ja];omega),lw]
end
theorem IB {f:Field} (fv:cj f.am) {t:Int×Int} (rt:bT t) (wH:nX t): ∃k:fS,kQ f t=abL (k,0)/\afY k f.am t:=by
 have f1:=fv.1;have cn:=EN f wH;rw [pi (fun k=>k (iX.2 fv)),ol rt] at cn;have ok0:=K7 fv rt wH;obtain ⟨r0,N,h1,h2⟩:=EM fv rt wH;obtain ⟨K3,nd,_⟩:=h2.S4 fv;have el:=mc N (abK f.am);obtain ⟨r,g1,_,q⟩:=GK ok0 rfl K3 (EO f t) (by omega);have ee:gI f.am (bq N (abK f.am))=0:=by unfold gI;rw [pi (ut.2 K3.cv),pi (ut.2 nd),pi (fun h=>h K3.kn)]
 have rn:=Cm ok0 fv (es:=bq N (abK f.am)) (by omega) (fun _=>g1);rw [ol ee] at rn;have rn:j7 (zi f t) f (bq N (abK f.am))=abL (r,0):=rn;have h1:fo f (zi f t).ci=abL (⟨r0,N⟩,bq N (abK f.am)):=h1;have qf:r.dl.am=f.am:=q.qL;have qn:r.ci=t:=q.ci;refine ⟨⟨r,⟨r0,N⟩⟩,?_,⟨⟨q.ok,?_,?_⟩,qf,qn⟩⟩
 · unfold kQ kO
   rw [cn,au,dv rfl,lw,h1,au,rn,au,dv rfl,lw,au]
 · show bJ r.dl.am r.ci N r0
   rw [qf,qn];exact h2
 show (r.ai.ce.map fun x=>x.2).Perm (bq N (abK r.dl.am))
 rw [qf];exact GP (zP q.ok.DD) nd (fun x hx=>by obtain ⟨y,hy,rfl⟩:=abx.1 hx;exact q.sub y hy) (fun x hx=>Ck.1 (q.has x hx))
theorem Lb (N:List Nd) {n:Nat} (hp:gH N n<abK N): ∀m,n<m->(bq N n).length<(bq N m).length/\(bq N m)[(bq N n).length]! =((N[n]!).1,(N[gH N n]!).1):=by
 intro m
 induction m with
 |zero=>intro h;omega
 |succ m ih=>
  intro h;have e:bq N (m+1)=bq N m++nE N m:=rfl;rw [e,rc]
  by_cases q:n=m
  · subst q
    have k:nE N n=[((N[n]!).1,(N[gH N n]!).1)]:=ol hp;rw [k,eL (v6 _),ab0];exact ⟨by rw [pm];omega,rfl⟩
  obtain ⟨i1,i2⟩:=ih (by omega)
  rw [eB i1];exact ⟨by omega,i2⟩
theorem rX (f:Field) (t:Int×Int) (wH:nX t):k7 f t=abL abM:=by
 unfold k7;rw [au];rcases GL f with e|⟨e,_⟩
 · rw [e];rfl
 rw [e,au,lw,B2,au]
 by_cases h:ik f.am=0
 case neg=>rw [fH h,ls]
 rw [dv h,lw,BY wH,au]
 by_cases rt:bT t
 case neg=>rw [pi rt];rfl
 rw [ol rt,dv rfl,lw,IR,lw];have fv:=iX.1 h;have f1:=fv.1;obtain ⟨k,b1,b2⟩:=IB fv rt wH;have ed:=zj b2.ok;have tr:=b2.ok.lc;rw [b2.qL] at ed;rw [b2.qL,b2.ci] at tr;obtain ⟨kc,⟨r,N⟩⟩:=k;dsimp only at ed tr;have ln:=tr.len;have ne:=K8 tr;obtain ⟨K3,edn,eld⟩:=tr.S4 fv;have edg:mY f (bq N (abK f.am))=abL 0:=by
  rw [show mY f _=_ from Cl fv _ (by rw [ne];omega)];unfold gI;rw [pi (ut.2 K3.cv),pi (ut.2 edn),pi (fun h=>h K3.kn)]
 rw [b1,au,ed,au];dsimp only;rw [tr.iDs fv,au,show kU ⟨r,N⟩ f t=_ from tr.right fv rt wH,au,tr.Yi fv,au,edg,au];simp only [bne_self_eq_false,lw,IR,aB,mE,ln,afZ (show (abK f.am)<=1000 by omega),ne];have st:=cf (body:=gg) (fun i=>(abM,bq N (abK f.am),Lm N (abK f.am),((bq N i).length:Int),(i:Int),f.am,t.1,t.2,kc.ci.1,kc.ci.2,kc.dl.am,kc.ai.aL,kc.ai.ce,kc.ae.af.aC,kc.ae.af.be,kc.ae.af.bi,kc.ae.bv,kc.ae.ay,kc.ii,r,N)) (abK f.am) (fun i hi=>by
  have u7:i<(abK N):=by omega
  obtain ⟨⟨a1,a2⟩,a3⟩:=tr.lc.GR i (wn _) hi;have g1:=ar (Lm N (abK f.am)) i (by rw [mE];omega);rw [tZ N (abK f.am) u7,ol hi] at g1;obtain ⟨p1,p2,_⟩:=tr.par hi;have el:=mc N i;have es:bq N (i+1)=bq N i++nE N i:=rfl;have tail: ∀X:Option (Step (Bool×(List (Int×Int))×(List Int)×Int×Int×(List (Int×Int×Int))×Int×Int×Int×Int×(List (Int×Int×Int))×Int×(List (Int×Int×Int))×(List Int)×(List Bool)×(List Int)×(List (Int×Int×Int×Int×Int))×(List Int)×(List (Int×Int×Int))×Int×(List (Int×Int×Int))) Bool),
   (bif abO (0<=(N[i]!).2.2) then (bif abO ((N[i]!).2.2<=(i:Int)) then abL (.done abN) else X) else X)=X:=fun X=>by
   by_cases c:0<=(N[i]!).2.2
   · rw [aH c,ls,aD (by omega),lw]
   rw [aD c,lw]
  unfold gg;simp only [aB,aH (show (i:Int)<((abK f.am):Int) by omega),ls,ar N i u7,g1,au,ar f.am i hi,dv (tr.ids i hi),bne_self_eq_false,lw,aD (show¬(i:Int)<=(N[i]!).2.1 by omega),aV (show i<1000000000 by omega),tail]
  by_cases c:(i:Int)=r
  · have k0:nE N i=[]:=pi (by have:=p1 c;omega)
    rw [fe c,ls,es,k0,aag]
  obtain ⟨q1,q2,q3,q4⟩:=p2 c
  obtain ⟨w1,w2⟩:=Lb N q1 (abK f.am) hi;have ge:=ar (bq N (abK f.am)) (bq N i).length w1;rw [w2] at ge;have hm:=bU w1;rw [w2] at hm;have kn:=K3.kn _ hm;have ld:=eld _ hm;have na:j8 ⟨f.am⟩ (t.1,t.2) (N[i]!).1 (N[gH N i]!).1=abL abN:=by rw [N3 fv wH kn.1 kn.2];exact congrArg abL (aD (zQ ld))
  have at_:eK ⟨f.am⟩ (N[gH N i]!).1=abL (gH N i:Int):=Dw fv.2.2 (by omega) (by omega) (tr.ids (gH N i) (by omega)).symm;have k1:nE N i=[((N[i]!).1,(N[gH N i]!).1)]:=ol q1;have el1:(bq N (i+1)).length=(bq N i).length+1:=by rw [es,k1,rc];rfl
  rw [ef c,lw,aD (by omega),lw];simp only [ge,au,bne_self_eq_false,lw,na,at_,ar N (gH N i) q1,aV (show (bq N i).length<1000000000 by omega),el1];unfold Below at q2
  by_cases c1:(N[gH N i]!).2.1=(i:Int)
  · rw [dv c1,lw]
  rw [fH c1,ls,dv (q2.resolve_left c1),lw])
 refine (show _=_ from st).trans (aF ?_);unfold gg;simp only [aB,aD (show¬((abK f.am):Int)<((abK f.am):Int) by omega),lw,ls,beq_self_eq_true]
end Go.Proofs.YtmndepnolpbnpaaGreat
