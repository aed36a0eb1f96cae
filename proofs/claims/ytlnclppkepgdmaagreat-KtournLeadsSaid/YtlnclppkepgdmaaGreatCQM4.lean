/- Plain laws (4). -/
import Derived.Test.YtlnclppkepgdmaaGreatCQM3
import Derived.Test.YtlnclppkepgdmaaGreatCQS2
open Classical renaming not_not->aa,not_forall->ai,not_imp->aj
open List renaming length_replicate->ac,length_take->am,getElem_replicate->ao,drop_length->ar,length_set->ax,append_nil->ay
open Nat renaming lt_trichotomy->ae,zero_le->af,lt_or_ge->aq,le_refl->au
open Bool renaming not_true->az
namespace Go.Proofs.YtlnclppkepgdmaaGreat
open Go.Vm Classical
theorem aF4 (l:List Int) (hl:l.length<=1000000):nQ l l=some true:=by
 unfold nQ;rw [bP rfl,cond_false]
 have:=dO (body:=pC) (fun i=>(l,l,(i:Int))) l.length (fun i hi=>by
  unfold pC;simp only [aE,aH (show (i:Int)<(l.length:Int) by omega),cond_true,aC l i hi,aB,bP rfl,cond_false,aT (show i<1000000000 by omega)])
 rw [show (l,l,(0:Int))=(l,l,((0:Nat):Int)) from rfl,this];refine aK ?_;unfold pC;simp only [aE,dec_f (show¬(l.length:Int)<(l.length:Int) by omega),cond_false]
theorem aF5 {f:List Pt} (fok:cC f) {t:Int×Int} (r64:oA t) {a b:Int} (ha:nC f a) (hb:nC f b):AR ⟨f⟩ t a b=some (decide (dQ (fT f a) (fT f b) t)):=by
 obtain ⟨j,j1,j2,j3⟩:=uG fok ha;obtain ⟨k,k1,k2,k3⟩:=uG fok hb;unfold AR;simp only [j2,k2,aB,aC f j j1,aC f k k1,j3,k3,FQ (dB fok ha).1 (dB fok hb).1 r64]
theorem VX (p q:Pt) (t:Int×Int):PX p q t=(p.2.1*t.2+p.2.2*t.1) - (q.2.1*t.2+q.2.2*t.1):=by
 rw [KN,Int.sub_mul,Int.sub_mul];omega
theorem wL {p q r:Pt} {t:Int×Int} (h1:dQ p q t) (h2:dQ q r t):dQ p r t:=by
 unfold dQ at*;rw [VX] at*;generalize p.2.1*t.2+p.2.2*t.1=a at*;generalize q.2.1*t.2+q.2.2*t.1=b at*;generalize r.2.1*t.2+r.2.2*t.1=c at*;omega
theorem rE {p q:Pt} (t:Int×Int) (h:p.1≠q.1) (hn: ¬dQ p q t):dQ q p t:=by
 unfold dQ at*;rw [VX] at*;generalize p.2.1*t.2+p.2.2*t.1=a at*;generalize q.2.1*t.2+q.2.2*t.1=b at*;omega
structure SO (P:Int->Int->Prop) (S:Int->Prop):Prop where
 irr: ∀a,S a-> ¬P a a
 tr: ∀a b c,S a->S b->S c->P a b->P b c->P a c
 tot: ∀a b,S a->S b->a≠b->P a b\/P b a
abbrev par (j:Nat):Nat:=(j-1) / 2
def Hp (P:Int->Int->Prop) (l:List Int):Prop:= ∀j,0<j->j<l.length-> ¬P l[j]! l[par j]!
section
variable {P : Int -> Int -> Prop} {S : Int -> Prop}
theorem SO.asym (o:SO P S) {a b:Int} (ha:S a) (hb:S b) (h:P a b): ¬P b a:=fun k=>o.irr a ha (o.tr a b a ha hb ha h k)
theorem SO.ntr (o:SO P S) {a b c:Int} (ha:S a) (hb:S b) (hc:S c) (h1: ¬P a b) (h2: ¬P b c): ¬P a c:=fun h=>by
 by_cases e:b=c
 · exact h1 (e▸h)
 rcases o.tot b c hb hc e with k|k
 · exact h2 k
 exact h1 (o.tr a c b ha hc hb h k)
theorem SO.up (o:SO P S) {a b c:Int} (ha:S a) (hb:S b) (hc:S c) (h1:P b c) (h2: ¬P a c): ¬P a b:=fun h=>h2 (o.tr a b c ha hb hc h h1)
end
section
variable {P : Int -> Int -> Prop} {S : Int -> Prop} {bit : Int -> Nat -> Nat}
end
noncomputable def kY (f:List Pt) (es:List (Int×Int)):Int:=if¬(∀x∈es,fO x) then 8 else if¬es.Nodup then 14 else if¬(∀x∈es,iF f x) then 6 else 0
theorem QT {f:List Pt} (fok:cC f) (es:List (Int×Int)) (hl:es.length<=1000):AQ ⟨f⟩ es=some (kY f es):=by
 have el:decide ((es.length:Int)<(es.length:Int))=false:=dec_f (by omega)
 have k1:=nU (body:=sJ) (fun i=>(es,(i:Int),f)) es.length (fun i=>iF f es[i]!) (r:= .done (.done 6)) (e:= .done (.done 0)) (fun i hi=>by
  have e1:decide ((i:Int)<(es.length:Int))=true:=aH (by omega)
  unfold sJ iF;simp only [aE,e1,cond_true,aC es i hi,aB,aT (show i<1000000000 by omega)]
  by_cases h1:nC f (es[i]!).1
  · obtain ⟨a,a1,a2,_⟩:=uG fok h1
    rw [a2];simp only [aB,dec_f (show¬(a:Int)<0 by omega),cond_false]
    by_cases h2:nC f (es[i]!).2
    · obtain ⟨b,b1,b2,_⟩:=uG fok h2
      rw [b2];simp only [aB,dec_f (show¬(b:Int)<0 by omega),cond_false]
      exact ⟨fun h=>absurd ⟨h1,h2⟩ h,fun _=>trivial⟩
    rw [QN fok h2]
    exact ⟨fun _=>rfl,fun h=>absurd h.2 h2⟩
  · rw [QN fok h1]
    exact ⟨fun _=>rfl,fun h=>absurd h.1 h1⟩) (by
  unfold sJ;simp only [aE,el,cond_false])
 have k2:=nU (body:=sK) (fun i=>(es,(i:Int),f)) es.length (fun i=>es[i]!∉es.take i) (r:= .done 14) (e:= .done (if∀i,i<es.length->iF f es[i]! then 0 else 6)) (fun i hi=>by
  have e1:decide ((i:Int)<(es.length:Int))=true:=aH (by omega)
  unfold sK;simp only [aE,e1,cond_true,kK es i (by omega),aC es i hi,aB,F0 _ _ (show (es.take i).length<=1000000 by rw [am];omega),aT (show i<1000000000 by omega)]
  by_cases h:es[i]!∈es.take i
  · rw [aH h];exact ⟨fun _=>rfl,fun k=>absurd h k⟩
  · rw [dec_f h];exact ⟨fun k=>absurd h k,fun _=>rfl⟩) (by
  unfold sK;simp only [aE,el,cond_false];refine k1.trans ?_
  by_cases hb: ∀i,i<es.length->iF f es[i]!
  · rw [if_pos hb,if_pos hb]
  rw [if_neg hb,if_neg hb])
 have k3:=nU (body:=sL) (fun i=>(es,(i:Int),f)) es.length (fun i=>fO es[i]!) (r:=8) (e:=if∀i,i<es.length->es[i]!∉es.take i then (if∀i,i<es.length->iF f es[i]! then 0 else 6) else 14) (fun i hi=>by
  have e1:decide ((i:Int)<(es.length:Int))=true:=aH (by omega)
  unfold sL;simp only [aE,e1,cond_true,aC es i hi,aB,BJ,aT (show i<1000000000 by omega)]
  by_cases h:fO es[i]!
  · rw [aH h];exact ⟨fun k=>absurd h k,fun _=>rfl⟩
  · rw [dec_f h];exact ⟨fun _=>rfl,fun k=>absurd k h⟩) (by
  unfold sL;simp only [aE,el,cond_false];refine k2.trans ?_
  by_cases hb: ∀i,i<es.length->es[i]!∉es.take i
  · rw [if_pos hb,if_pos hb]
  rw [if_neg hb,if_neg hb])
 refine k3.trans ?_;unfold kY;have a1:=zG (P:=fO) (l:=es);have a2:=IX (l:=es);have a3:=zG (P:=iF f) (l:=es)
 by_cases h1: ∀x∈es,fO x
 · rw [if_pos (a1.1 h1),if_neg (aa.2 h1)]
   by_cases h2:es.Nodup
   · rw [if_pos (a2.1 h2),if_neg (aa.2 h2)]
     by_cases h3: ∀x∈es,iF f x
     · rw [if_pos (a3.1 h3),if_neg (aa.2 h3)]
     rw [if_neg (fun h=>h3 (a3.2 h)),if_pos h3]
   rw [if_neg (fun h=>h2 (a2.2 h)),if_pos h2]
 rw [if_neg (fun h=>h1 (a1.2 h)),if_pos h1]
def rP (c:aO) (f:List Pt) (es:List (Int×Int)) (i:Nat):=
 (es,es,(es.length:Int),(i:Int),c.now.1,c.now.2,c.field.points,c.certs.next_,c.certs.list,c.agenda.slots.uses,c.agenda.slots.used,c.agenda.slots.free,c.agenda.heap,c.agenda.where_,c.due,f,(0:Int),(0:Int),(0:Int))
theorem QU {c:aO} (ok:aZ c) {f:List Pt} (fok:cC f) {es:List (Int×Int)} (hl:es.length<=1000) {r:aO×Int} (hr:kY f es=0->vR c ⟨f⟩ es=some r):
 rA c ⟨f⟩ es=some (if kY f es=0 then r else (eV,kY f es)):=by
 have bd:=ok.bd;have ab:=ok.agd.bd;have sl:=ok.agd.so.fl;have sn:=ok.agd.so.n2;have su:=ok.agd.so.ul;have el:decide ((es.length:Int)<(es.length:Int))=false:=dec_f (by omega)
 have hc:gY c=some 0:=by rw [mG ok.fit,if_pos ok]
 have hf:eW ⟨f⟩=some 0:=by rw [mF];exact congrArg some (mS.2 fok)
 have tw:yQ (aO.mk (c.now.1,c.now.2) (Field.mk c.field.points) (bK.mk c.certs.next_ c.certs.list) (aP.mk (aU.mk c.agenda.slots.uses c.agenda.slots.used c.agenda.slots.free) c.agenda.heap c.agenda.where_) c.due)=some c:=by
  unfold yQ;simp only [aY (show c.field.points.length<=1048576 by omega),aY (show c.certs.list.length<=1048576 by omega),aY (show c.due.length<=1048576 by omega),aY (show c.agenda.heap.length<=1048576 by omega),aY (show c.agenda.where_.length<=1048576 by omega),
   aY (show c.agenda.slots.uses.length<=1048576 by omega),aY (show c.agenda.slots.used.length<=1048576 by omega),aY (show c.agenda.slots.free.length<=1048576 by omega),aB]
 have k3: ∀e2:aO×Int,aG fA (rP c f es 0)=some (.done e2)->aG fB (rP c f es 0)=some (if∀i,i<es.length->fO es[i]! then e2 else (eV,8)):=by
  intro e2 h2;refine nU (body:=fB) (fun i=>rP c f es i) es.length (fun i=>fO es[i]!) (r:=(eV,8)) (e:=e2) (fun i hi=>?_) ?_
  · have e1:decide ((i:Int)<(es.length:Int))=true:=aH (by omega)
    unfold fB rP fO;simp only [e1,cond_true,aC es i hi,aB,aT (show i<1000000000 by omega)]
    generalize es[i]! =x
    by_cases a1:x.1<0
    · rw [aH a1];exact ⟨fun _=>rfl,fun h=>by omega⟩
    rw [dec_f a1]
    by_cases a2:x.2<0
    · rw [aH a2];exact ⟨fun _=>rfl,fun h=>by omega⟩
    rw [dec_f a2]
    by_cases a3:65535<x.1
    · rw [aH a3];exact ⟨fun _=>rfl,fun h=>by omega⟩
    rw [dec_f a3]
    by_cases a4:65535<x.2
    · rw [aH a4];exact ⟨fun _=>rfl,fun h=>by omega⟩
    rw [dec_f a4]
    by_cases a5:x.1=x.2
    · rw [eH a5];exact ⟨fun _=>rfl,fun h=>absurd a5 h.2.2.2.2⟩
    rw [eM a5];exact ⟨fun h=>absurd ⟨by omega,by omega,by omega,by omega,a5⟩ h,fun _=>rfl⟩
  unfold fB rP
  simp only [aE,el,cond_false];exact h2
 have k2: ∀e1:aO×Int,aG fY (rP c f es 0)=some (.done (.done e1))->aG fA (rP c f es 0)=some (.done (if∀i,i<es.length->es[i]!∉es.take i then e1 else (eV,14))):=by
  intro e0 h2
  have:=nU (body:=fA) (fun i=>rP c f es i) es.length (fun i=>es[i]!∉es.take i) (r:= .done (eV,14)) (e:= .done e0) (fun i hi=>by
   have e1:decide ((i:Int)<(es.length:Int))=true:=aH (by omega)
   unfold fA rP;simp only [e1,cond_true,aC es i hi,kK es i (by omega),aB,pW _ _ (show (es.take i).length<=1000000 by rw [am];omega),aT (show i<1000000000 by omega)]
   by_cases h:es[i]!∈es.take i
   · rw [aH h];exact ⟨fun _=>rfl,fun k=>absurd h k⟩
   · rw [dec_f h];exact ⟨fun k=>absurd h k,fun _=>rfl⟩) (by
   unfold fA rP;simp only [aE,el,cond_false];exact h2)
  refine this.trans ?_
  by_cases hb: ∀i,i<es.length->es[i]!∉es.take i
  · rw [if_pos hb,if_pos hb]
  rw [if_neg hb,if_neg hb]
 have step1: ∀i,i<es.length->(¬iF f es[i]!->fY (rP c f es i)=some (.done (.done (.done (eV,6)))))/\(iF f es[i]!->fY (rP c f es i)=some (.next (rP c f es (i+1)))):=by
  intro i hi;have e1:decide ((i:Int)<(es.length:Int))=true:=aH (by omega)
  obtain ⟨p,e,a1,a2⟩:=HL fok (es[i]!).1;obtain ⟨q,g,b1,b2⟩:=HL fok (es[i]!).2;unfold fY rP iF;simp only [e1,cond_true,aC es i hi,aB,a1,b1,aT (show i<1000000000 by omega)]
  by_cases h1:nC f (es[i]!).1
  · rw [bP (a2.2 h1)]
    by_cases h2:nC f (es[i]!).2
    · rw [bP (b2.2 h2)]
      exact ⟨fun h=>absurd ⟨h1,h2⟩ h,fun _=>rfl⟩
    rw [dL (fun h=>h2 (b2.1 h))]
    exact ⟨fun _=>rfl,fun h=>absurd h.2 h2⟩
  rw [dL (fun h=>h1 (a2.1 h))]
  exact ⟨fun _=>rfl,fun h=>absurd h.1 h1⟩
 have start:rA c ⟨f⟩ es=aG fB (rP c f es 0):=by
  unfold rA;simp only [hc,aB,show ((0:Int) !=0)=false from rfl,cond_false,hf];rfl
 rw [start]
 by_cases h1: ∀x∈es,fO x
 case neg=>
  have er:kY f es=8:=by unfold kY;rw [if_pos h1]
  rw [er,if_neg (by omega)]
  have:=dS (body:=fB) (fun i=>rP c f es i) es.length (fun i=> ¬fO es[i]!) (r:=(eV,8)) (e:=r)
  have k3':=k3;rw [zG (P:=fO)] at h1;obtain ⟨i,h⟩:=ai.1 h1;obtain ⟨hi,hx⟩:=aj.1 h;obtain ⟨m,m1,m2,m3⟩:=KA (c:=fun i=> ¬fO es[i]!) ⟨i,hi,hx⟩
  have go: ∀j,j<es.length->(¬fO es[j]!->fB (rP c f es j)=some (.done (eV,8)))/\(fO es[j]!->fB (rP c f es j)=some (.next (rP c f es (j+1)))):=by
   intro j hj;have e1:decide ((j:Int)<(es.length:Int))=true:=aH (by omega)
   unfold fB rP fO;simp only [e1,cond_true,aC es j hj,aB,aT (show j<1000000000 by omega)]
   generalize es[j]! =x
   by_cases a1:x.1<0
   · rw [aH a1];exact ⟨fun _=>rfl,fun h=>by omega⟩
   rw [dec_f a1]
   by_cases a2:x.2<0
   · rw [aH a2];exact ⟨fun _=>rfl,fun h=>by omega⟩
   rw [dec_f a2]
   by_cases a3:65535<x.1
   · rw [aH a3];exact ⟨fun _=>rfl,fun h=>by omega⟩
   rw [dec_f a3]
   by_cases a4:65535<x.2
   · rw [aH a4];exact ⟨fun _=>rfl,fun h=>by omega⟩
   rw [dec_f a4]
   by_cases a5:x.1=x.2
   · rw [eH a5];exact ⟨fun _=>rfl,fun h=>absurd a5 h.2.2.2.2⟩
   rw [eM a5];exact ⟨fun h=>absurd ⟨by omega,by omega,by omega,by omega,a5⟩ h,fun _=>rfl⟩
  rw [dO (body:=fB) (fun i=>rP c f es i) m fun j hj=>(go j (by omega)).2 (aa.1 (m3 j hj))]
  exact aK ((go m m1).1 m2)
 have h1':=(zG (P:=fO)).1 h1
 by_cases h2:es.Nodup
 case neg=>
  have er:kY f es=14:=by unfold kY;rw [if_neg (aa.2 h1),if_pos h2]
  rw [er,if_neg (by omega)]
  have h2':=h2;rw [IX] at h2';obtain ⟨i,h⟩:=ai.1 h2';obtain ⟨hi,hx⟩:=aj.1 h;obtain ⟨m,m1,m2,m3⟩:=KA (c:=fun i=> ¬es[i]!∉es.take i) ⟨i,hi,hx⟩
  have go: ∀j,j<es.length->(es[j]!∈es.take j->fA (rP c f es j)=some (.done (.done (eV,14))))/\(es[j]!∉es.take j->fA (rP c f es j)=some (.next (rP c f es (j+1)))):=by
   intro j hj;have e1:decide ((j:Int)<(es.length:Int))=true:=aH (by omega)
   unfold fA rP;simp only [e1,cond_true,aC es j hj,kK es j (by omega),aB,pW _ _ (show (es.take j).length<=1000000 by rw [am];omega),aT (show j<1000000000 by omega)]
   by_cases h:es[j]!∈es.take j
   · rw [aH h];exact ⟨fun _=>rfl,fun k=>absurd h k⟩
   rw [dec_f h];exact ⟨fun k=>absurd k h,fun _=>rfl⟩
  have l2:aG fA (rP c f es 0)=some (.done (eV,14)):=by
   rw [dO (body:=fA) (fun i=>rP c f es i) m fun j hj=>(go j (by omega)).2 (aa.1 (m3 j hj))]
   exact aK ((go m m1).1 (aa.1 m2))
  rw [k3 _ l2,if_pos h1']
 have h2':=IX.1 h2
 by_cases h3: ∀x∈es,iF f x
 case neg=>
  have er:kY f es=6:=by unfold kY;rw [if_neg (aa.2 h1),if_neg (aa.2 h2),if_pos h3]
  rw [er,if_neg (by omega)]
  have h3':=h3;rw [zG (P:=iF f)] at h3';obtain ⟨i,h⟩:=ai.1 h3';obtain ⟨hi,hx⟩:=aj.1 h;obtain ⟨m,m1,m2,m3⟩:=KA (c:=fun i=> ¬iF f es[i]!) ⟨i,hi,hx⟩
  have l1:aG fY (rP c f es 0)=some (.done (.done (eV,6))):=by
   rw [dO (body:=fY) (fun i=>rP c f es i) m fun j hj=>(step1 j (by omega)).2 (aa.1 (m3 j hj))]
   exact aK ((step1 m m1).1 m2)
  rw [k3 _ (k2 _ l1),if_pos h1',if_pos h2']
 have h3':=(zG (P:=iF f)).1 h3;have er:kY f es=0:=by unfold kY;rw [if_neg (aa.2 h1),if_neg (aa.2 h2),if_neg (aa.2 h3)]
 rw [er,if_pos rfl];have l1:aG fY (rP c f es 0)=some (.done (.done r)):=by
  rw [dO (body:=fY) (fun i=>rP c f es i) es.length fun j hj=>(step1 j hj).2 (h3' j hj)]
  refine aK ?_;unfold fY rP;simp only [el,cond_false,tw,aB,hr er]
 rw [k3 _ (k2 _ l1),if_pos h1',if_pos h2']
theorem tk {l:List Int} {m:Nat} {x:Int} (h:l.length=m):(l++[x]).take m=l:=by rw [<- h,List.take_left]
section
variable {k : HF} {f : List Pt} {m n0 : Nat} {x : Int}
end
section
variable {k : HF} {P : Pt} {f : List Pt} {m : Nat}
end
end Go.Proofs.YtlnclppkepgdmaaGreat
namespace Go.Proofs.YtlnclppkepgdmaaGreat
abbrev Nd:=Int×Int×Int
structure HM (P:Nat->Nat->Prop) (a b i:Nat):Prop where
 lo:a<=i
 hi:i<b
 top: ∀j,a<=j->j<b->j≠i->P i j
inductive sR (P:Nat->Nat->Prop) (N:List Nd):Nat->Nat->Int->Prop
 |nil {a b:Nat} (h:b<=a):sR P N a b (-1)
 |node {a b i:Nat} (h:HM P a b i) (l:sR P N a i (N[i]!).2.1) (r:sR P N (i+1) b (N[i]!).2.2):sR P N a b (i:Int)
structure aNh (P:Nat->Nat->Prop) (n:Nat):Prop where
 tr: ∀i j k,i<n->j<n->k<n->P i j->P j k->P i k
 asy: ∀i j,i<n->j<n->P i j-> ¬P j i
 tot: ∀i j,i<n->j<n->i≠j-> ¬P i j->P j i
theorem HM.one {P:Nat->Nat->Prop} {n a b i j:Nat} (o:aNh P n) (hb:b<=n) (h:HM P a b i) (k:HM P a b j):i=j:=by
 refine Classical.byContradiction fun hne=>?_
 have:=h.hi;have:=k.hi
 exact o.asy i j (by omega) (by omega) (h.top j k.lo k.hi (fun e=>hne e.symm)) (k.top i h.lo h.hi hne)
theorem sR.link {P:Nat->Nat->Prop} {N:List Nd} {a b:Nat} {r:Int} (h:sR P N a b r):(b<=a/\r= -1)\/(∃i:Nat,r=(i:Int)/\a<=i/\i<b):=by
 cases h with
 |nil h=>exact .inl ⟨h,rfl⟩
 |node h l r=>exact .inr ⟨_,rfl,h.lo,h.hi⟩
theorem sR.unique {P:Nat->Nat->Prop} {n:Nat} (o:aNh P n) {N N':List Nd} {a b:Nat} {r:Int} (h:sR P N a b r): ∀{r':Int},b<=n->sR P N' a b r'->r=r'/\ ∀k,a<=k->k<b->(N[k]!).2=(N'[k]!).2:=by
 induction h with
 |nil h=>
  intro r' hb h';cases h' with
  |nil _=>exact ⟨rfl,fun k h1 h2=>by omega⟩
  |node t _ _=>have:=t.lo;have:=t.hi;omega
 | @node a b i h l r ihl ihr=>
  intro r' hb h';have lo:=h.lo;have hi:=h.hi;cases h' with
  |nil q=>omega
  | @node _ _ j t l' r'=>
   have e:=h.one o hb t;subst e;obtain ⟨e1,f1⟩:=ihl (by omega) l'
   obtain ⟨e2,f2⟩:=ihr hb r';refine ⟨rfl,fun k h1 h2=>?_⟩
   rcases ae k i with q|q|q
   · exact f1 k h1 q
   · subst q;exact Prod.ext e1 e2
   exact f2 k (by omega) h2
theorem sR.other {P Q:Nat->Nat->Prop} {n:Nat} (o:aNh Q n) {N:List Nd} {a b:Nat} {r:Int} (h:sR P N a b r):b<=n->(∀k j:Nat,a<=k->k<b->a<=j->j<b->((N[k]!).2.1=(j:Int)\/(N[k]!).2.2=(j:Int))->Q k j)->sR Q N a b r:=by
 induction h with
 |nil h=>exact fun _ _=> .nil h
 | @node a b i h l r ihl ihr=>
  intro hb q;have lo:=h.lo;have hi:=h.hi;have tl:=ihl (by omega) fun k j h1 h2 h3 h4=>q k j h1 (by omega) h3 (by omega)
  have tr:=ihr hb fun k j h1 h2 h3 h4=>q k j (by omega) h2 (by omega) h4
  refine .node ⟨lo,hi,fun j h1 h2 hne=>?_⟩ tl tr
  rcases aq j i with hj|hj
  · generalize hr:(N[i]!).2.1=s at tl
    cases tl with
    |nil q=>omega
    | @node _ _ m t _ _=>
     have t1:=t.lo;have t2:=t.hi;have qm:=q i m lo hi t1 (by omega) (.inl hr)
     by_cases e:j=m
     · rw [e];exact qm
     exact o.tr i m j (by omega) (by omega) (by omega) qm (t.top j h1 hj e)
  generalize hr:(N[i]!).2.2=s at tr
  cases tr with
  |nil q=>omega
  | @node _ _ m t _ _=>
   have t1:=t.lo;have t2:=t.hi;have qm:=q i m lo hi (by omega) t2 (.inr hr)
   by_cases e:j=m
   · rw [e];exact qm
   exact o.tr i m j (by omega) (by omega) (by omega) qm (t.top j (by omega) h2 e)
theorem sR.kids {P:Nat->Nat->Prop} {N:List Nd} {a b:Nat} {r:Int} (h:sR P N a b r): ∀k,a<=k->k<b-> ∀c:Int,((N[k]!).2.1=c\/(N[k]!).2.2=c)->c= -1\/ ∃j:Nat,c=(j:Int)/\a<=j/\j<b/\j≠k/\P k j/\r≠c:=by
 induction h with
 |nil h=>intro k h1 h2;omega
 | @node a b i h l r ihl ihr=>
  have lo:=h.lo;have hi:=h.hi;intro k h1 h2 c hc;rcases ae k i with q|q|q
  · rcases ihl k h1 q c hc with e|⟨j,e,j1,j2,j3,j4,_⟩
    · exact .inl e
    exact .inr ⟨j,e,j1,by omega,j3,j4,by rw [e];omega⟩
  · subst q
    rcases hc with hc|hc
    · rcases l.link with ⟨_,e⟩|⟨j,e,j1,j2⟩
      · exact .inl (hc▸e)
      exact .inr ⟨j,hc▸e,j1,by omega,by omega,h.top j j1 (by omega) (by omega),by rw [<- hc,e];omega⟩
    rcases r.link with ⟨_,e⟩|⟨j,e,j1,j2⟩
    · exact .inl (hc▸e)
    exact .inr ⟨j,hc▸e,by omega,j2,by omega,h.top j (by omega) j2 (by omega),by rw [<- hc,e];omega⟩
  rcases ihr k (by omega) h2 c hc with e|⟨j,e,j1,j2,j3,j4,_⟩
  · exact .inl e
  exact .inr ⟨j,e,by omega,j2,j3,j4,by rw [e];omega⟩
theorem sR.up {P:Nat->Nat->Prop} {N:List Nd} {a b:Nat} {r:Int} (h:sR P N a b r): ∀k:Nat,a<=k->k<b->(k:Int)≠r-> ∃j,a<=j/\j<b/\((N[j]!).2.1=(k:Int)\/(N[j]!).2.2=(k:Int))/\ ∀m,a<=m->m<b->((N[m]!).2.1=(k:Int)\/(N[m]!).2.2=(k:Int))->m=j:=by
 induction h with
 |nil h=>intro k h1 h2;omega
 | @node a b i h l r ihl ihr=>
  have lo:=h.lo;have hi:=h.hi;have lk:=l.kids;have rk:=r.kids;intro k h1 h2 hne;have hki:k≠i:=fun e=>hne (by rw [e])
  rcases aq k i with q|q
  · by_cases er:(k:Int)=(N[i]!).2.1
    · refine ⟨i,lo,hi,.inl er.symm,fun m m1 m2 hm=>?_⟩
      rcases ae m i with w|w|w
      · rcases lk m m1 w _ hm with e|⟨j,e,_,_,_,_,hr⟩
        · omega
        exact absurd er.symm hr
      · exact w
      rcases rk m (by omega) m2 _ hm with e|⟨j,e,j1,_⟩<;>omega
    obtain ⟨j,j1,j2,j3,j4⟩:=ihl k h1 q er
    refine ⟨j,j1,by omega,j3,fun m m1 m2 hm=>?_⟩
    rcases ae m i with w|w|w
    · exact j4 m m1 w hm
    · subst w
      rcases hm with hm|hm
      · exact absurd hm.symm er
      rcases r.link with ⟨_,e⟩|⟨p,e,p1,p2⟩<;>omega
    rcases rk m (by omega) m2 _ hm with e|⟨p,e,p1,_⟩<;>omega
  by_cases er:(k:Int)=(N[i]!).2.2
  · refine ⟨i,lo,hi,.inr er.symm,fun m m1 m2 hm=>?_⟩
    rcases ae m i with w|w|w
    · rcases lk m m1 w _ hm with e|⟨j,e,_,j2,_⟩<;>omega
    · exact w
    rcases rk m (by omega) m2 _ hm with e|⟨j,e,_,_,_,_,hr⟩
    · omega
    exact absurd er.symm hr
  obtain ⟨j,j1,j2,j3,j4⟩:=ihr k (by omega) h2 er
  refine ⟨j,by omega,j2,j3,fun m m1 m2 hm=>?_⟩
  rcases ae m i with w|w|w
  · rcases lk m m1 w _ hm with e|⟨p,e,_,p2,_⟩<;>omega
  · subst w
    rcases hm with hm|hm
    · rcases l.link with ⟨_,e⟩|⟨p,e,p1,p2⟩<;>omega
    exact absurd hm.symm er
  exact j4 m (by omega) m2 hm
inductive QV (P:Nat->Nat->Prop) (N:List Nd):Nat->Nat->Int->List Nat->Prop
 |nil {a b:Nat} (h:b<=a):QV P N a b (-1) []
 |cons {a b k:Nat} {es:List Nat} (h:HM P a b k) (l:sR P N a k (N[k]!).2.1) (r:QV P N (k+1) b (N[k]!).2.2 es):QV P N a b (k:Int) (k::es)
theorem QV.tree {P:Nat->Nat->Prop} {N:List Nd} {a b:Nat} {r:Int} {es:List Nat} (h:QV P N a b r es):sR P N a b r:=by
 induction h with
 |nil h=>exact .nil h
 |cons h l r ih=>exact .node h l ih
theorem QV.mem {P:Nat->Nat->Prop} {N:List Nd} {a b:Nat} {r:Int} {es:List Nat} (h:QV P N a b r es): ∀e∈es,a<=e/\e<b:=by
 induction h with
 |nil h=>intro e he;cases he
 |cons h l r ih=>
  intro e he;have lo:=h.lo;have hi:=h.hi;rcases List.mem_cons.1 he with rfl|he
  · exact ⟨lo,hi⟩
  have:=ih e he;omega
end Go.Proofs.YtlnclppkepgdmaaGreat
namespace Go.Proofs.YtlnclppkepgdmaaGreat
open Go.Vm Classical
def ahP (f:List Pt) (t:Int×Int) (i j:Nat):Prop:=dQ f[i]! f[j]! t
theorem wM {p q:Pt} {t:Int×Int} (h:dQ p q t): ¬dQ q p t:=by
 unfold dQ at*;rw [VX] at*;generalize p.2.1*t.2+p.2.2*t.1=a at*;generalize q.2.1*t.2+q.2.2*t.1=b at*;omega
theorem aCI {f:List Pt} (h:gI f) (t:Int×Int):aNh (ahP f t) f.length where
 tr:=fun _ _ _ _ _ _ h1 h2=>wL h1 h2
 asy:=fun _ _ _ _ h=>wM h
 tot:=fun _ _ hi hj hne hn=>rE t (fun e=>hne (zD h hi hj e)) hn
structure F3 (f:List Pt) (t:Int×Int) (N:List Nd) (r:Int):Prop where
 len:N.length=f.length
 ids: ∀k,k<f.length->(N[k]!).1=(f[k]!).1
 tree:sR (ahP f t) N 0 f.length r
theorem F3.same {f:List Pt} (h:gI f) {t:Int×Int} {N N':List Nd} {r r':Int} (a:F3 f t N r) (b:F3 f t N' r'):N=N'/\r=r':=by
 obtain ⟨e1,e2⟩:=a.tree.unique (aCI h t) (au _) b.tree;refine ⟨wH (by rw [a.len,b.len]) fun k hk=>?_,e1⟩
 have hk:k<f.length:=by rw [<- a.len];exact hk
 exact Prod.ext (by rw [a.ids k hk,b.ids k hk]) (e2 k (af _) hk)
def Below (N:List Nd) (k j:Nat):Prop:=(N[j]!).2.1=(k:Int)\/(N[j]!).2.2=(k:Int)
noncomputable def NH (N:List Nd) (k:Nat):Nat:=if h: ∃j,j<N.length/\Below N k j then h.choose else N.length
noncomputable def aV6 (N:List Nd) (k:Nat):List (Int×Int):=if NH N k<N.length then [((N[k]!).1,(N[NH N k]!).1)] else []
noncomputable def aF6 (N:List Nd):Nat->List (Int×Int)
 |0=>[]
 |k+1=>aF6 N k++aV6 N k
section
variable {f : List Pt} {t : Int × Int} {N : List Nd} {r : Int}
theorem F3.par (h:F3 f t N r) {k:Nat} (hk:k<f.length):((k:Int)=r->NH N k=N.length)/\((k:Int)≠r->NH N k<N.length/\Below N k (NH N k)/\NH N k≠k/\ahP f t (NH N k) k)/\ ∀m,m<N.length->Below N k m->m=NH N k:=by
 have ln:=h.len
 by_cases hr:(k:Int)=r
 · have none: ¬ ∃j,j<N.length/\Below N k j:=by
    rintro ⟨j,hj,hb⟩;rcases h.tree.kids j (af _) (by omega) (k:Int) hb with e|⟨_,_,_,_,_,_,e⟩
    · omega
    exact e hr.symm
   have e:NH N k=N.length:=by unfold NH;rw [dif_neg none]
   exact ⟨fun _=>e,fun q=>absurd hr q,fun m hm hb=>absurd ⟨m,hm,hb⟩ none⟩
 obtain ⟨j,_,j2,j3,j4⟩:=h.tree.up k (af _) hk hr
 have ex: ∃j,j<N.length/\Below N k j:=⟨j,by omega,j3⟩
 have e:NH N k=j:=by
  unfold NH;rw [dif_pos ex]
  have:=ex.choose_spec
  exact j4 _ (af _) (by omega) this.2
 refine ⟨fun q=>absurd q hr,fun _=>?_,fun m hm hb=>by rw [e];exact j4 m (af _) (by omega) hb⟩
 rw [e];refine ⟨by omega,j3,?_,?_⟩
 · rcases h.tree.kids j (af _) j2 (k:Int) j3 with q|⟨i,q,_,_,q2,_⟩
   · omega
   intro w;omega
 rcases h.tree.kids j (af _) j2 (k:Int) j3 with q|⟨i,q,_,_,_,q2,_⟩
 · omega
 have:i=k:=by omega
 rw [<- this];exact q2
end
def o1 (f:List Pt) (t:Int×Int) (e c:Nat) (i:Nat) (root:Int) (N:List Nd) (E:List Int) (left:Int):=
 (e,c,(i:Int),f,(f.length:Int),(i:Int),f,t.1,t.2,(0:Int),root,N,E,(f[i]!).1,(f[i]!).2.1,(f[i]!).2.2,(f[i]!).1,left,(-1:Int))
section
variable {f : List Pt} {t : Int × Int} {N : List Nd} {r : Int}
theorem F3.link (h:F3 f t N r) {j:Nat} (hj:j<f.length) {c:Int} (hc:(N[j]!).2.1=c\/(N[j]!).2.2=c):c= -1\/(0<=c/\c<N.length):=by
 have ln:=h.len;rcases h.tree.kids j (af _) hj c hc with e|⟨k,e,_,k2,_⟩
 · exact .inl e
 exact .inr ⟨by omega,by omega⟩
end
theorem aNi (c:aO) (es:List (Int×Int)) (h1:es.length<=1000000) (_:c.certs.list.length<=1000000):
 FO c es=some (decide (es.length=c.certs.list.length/\ ∀i,i<c.certs.list.length->(c.certs.list[i]!).2∈es)):=by
 unfold FO hZ jH;simp only [aE]
 by_cases h0:es.length=c.certs.list.length
 case neg=>rw [eM (by omega),cond_false,dec_f (fun q=>h0 q.1)]
 rw [eH (by omega),cond_true]
 have key:=mR (body:=bW) (fun i=>(c.certs.list,es,(c.certs.list.length:Int),(i:Int))) c.certs.list.length (fun i=>(c.certs.list[i]!).2∉es) (fun i=>(i:Int)) (e:= -1) (fun i hi=>by
  unfold bW HG;simp only [aH (show (i:Int)<(c.certs.list.length:Int) by omega),cond_true,aC c.certs.list i hi,aB,pW es _ h1,aT (show i<1000000000 by omega)]
  refine ⟨fun q=>?_,fun q=>?_⟩
  · rw [dec_f q];rfl
  · rw [aH (aa.1 q)];rfl) (by
  unfold bW;simp only [dec_f (show¬(c.certs.list.length:Int)<(c.certs.list.length:Int) by omega),cond_false])
 by_cases hx: ∀i,i<c.certs.list.length->(c.certs.list[i]!).2∈es
 · rw [show aG bW (c.certs.list,es,(c.certs.list.length:Int),0)=_ from key.2 (fun i hi=>aa.2 (hx i hi)),aB,aB,dec_f (by omega),aH ⟨h0,hx⟩]
   rfl
 obtain ⟨i,hi⟩:=ai.1 hx
 obtain ⟨hi,hn⟩:=aj.1 hi;obtain ⟨m,m1,m2,m3⟩:=KA (c:=fun i=>(c.certs.list[i]!).2∉es) ⟨i,hi,hn⟩
 rw [show aG bW (c.certs.list,es,(c.certs.list.length:Int),0)=_ from key.1 m m1 m2 m3,aB,aB,aH (by omega),dec_f (fun w=>hx w.2)]
 rfl
structure aF7 (k:LX):Prop where
 clk:aZ k.clock
 tree:F3 k.clock.field.points k.clock.now k.tree.nodes k.tree.root
 cert:(k.clock.certs.list.map fun x=>x.2).Perm (aF6 k.tree.nodes k.clock.field.points.length)
structure aTy (k:LX):Prop where
 c:TN k.clock
 n:k.tree.nodes.length<=1000
theorem QW {α:Type} [BEq α] [LawfulBEq α]: ∀{a b:List α},a.Nodup->(∀x∈a,x∈b)->a.length<=b.length
 | [],_,_,_=>af _
 |x::a,b,hd,h=>by
  rw [List.nodup_cons] at hd;have hx:=h x List.mem_cons_self
  have:=QW (a:=a) (b:=b.erase x) hd.2 (fun y hy=>by
   rw [List.mem_erase_of_ne (fun e=>hd.1 (by rw [<- e];exact hy))]
   exact h y (List.mem_cons_of_mem _ hy))
  rw [List.length_erase_of_mem hx] at this
  have:=List.length_pos_of_mem hx
  rw [List.length_cons];omega
theorem ZT {α:Type} [BEq α] [LawfulBEq α] {a b:List α} (ha:a.Nodup) (hb:b.Nodup) (h1: ∀x∈a,x∈b) (h2: ∀x∈b,x∈a):a.Perm b:=zH ha h1 (QW hb h2)
structure aBl (R:LX) (F:List Pt) (t:Int×Int):Prop where
 ok:aF7 R
 fld:R.clock.field.points=F
 now:R.clock.now=t
theorem aBl.short {R:LX} {F:List Pt} {t:Int×Int} (h:aBl R F t):aTy R:=by
 have:=h.ok.clk.fld.1
 refine ⟨h.ok.clk.short,?_⟩
 have:=h.ok.tree.len
 omega
theorem aBl.nums {R:LX} {F:List Pt} {t:Int×Int} (h:aBl R F t):wJ R.clock:=h.ok.clk.fit
theorem aBl.same {R S:LX} {F:List Pt} {t:Int×Int} (h:aBl R F t) (k:aBl S F t):R.tree=S.tree:=by
 have a:=h.ok.tree;rw [h.fld,h.now] at a;have b:=k.ok.tree;rw [k.fld,k.now] at b;obtain ⟨e1,e2⟩:=a.same (by rw [<- h.fld];exact h.ok.clk.fld.2.2) b
 obtain ⟨_,⟨r,N⟩⟩:=R;obtain ⟨_,⟨r',N'⟩⟩:=S;simp only at e1 e2;subst e1 e2;rfl
theorem QX {f:List Pt} (hs:gI f) {q:Pt} (h:q∈f):fT f q.1=q:=by
 obtain ⟨i,hi,rfl⟩:=aW.1 h;exact DS hs hi rfl
theorem aCJ {f:List Pt} (hs:gI f) {x:Int} (h:nC f x):fT f x∈f/\(fT f x).1=x:=by
 obtain ⟨i,hi,rfl⟩:=h;rw [QX hs (bL hi)];exact ⟨bL hi,rfl⟩
abbrev aF8 (f:List Pt) (t:Int×Int) (a b:Int):Prop:=dQ (fT f a) (fT f b) t
theorem TS {f:List Pt} (hs:gI f) {t:Int×Int} {l:List Int} (hp: ∀x∈l,nC f x) (nd:l.Nodup):(∀e∈F1 l,dQ (fT f e.2) (fT f e.1) t)↔Hp (aF8 f t) l:=by
 constructor
 · intro h j h1 h2 c
   have hm:(l[j]!,l[par j]!)∈F1 l:=by
    refine aW.2 ⟨j-1,by rw [IY];omega,?_⟩
    rw [M5 l (show j-1<l.length-1 by omega),show j-1+1=j by omega]
   exact wM c (h _ hm)
 intro h e he
 obtain ⟨i,hi,rfl⟩:=aW.1 he;rw [IY] at hi;rw [M5 l hi]
 have:=h (i+1) (by omega) (by omega)
 have pe:par (i+1)=i / 2:=by simp only [par];omega
 rw [pe] at this;refine rE t ?_ this;rw [(aCJ hs (hp _ (bL (by omega)))).2,(aCJ hs (hp _ (bL (by omega)))).2]
 exact fun e=>gU.1 nd (i / 2) (i+1) (by omega) (by omega) e.symm
structure aXX (R:HF) (F:List Pt) (t:Int×Int):Prop where
 ok:zI R
 fld:R.clock.field.points=F
 now:R.clock.now=t
theorem zI.len {k:HF} (h:zI k):k.heap.length=k.clock.field.points.length:=by rw [<- h.perm.length_eq];exact List.length_map ..
theorem zI.bd {k:HF} (h:zI k):k.heap.length<=64:=by have:=h.len;have:=h.clk.fld.1;omega
theorem zI.has {k:HF} (h:zI k): ∀x∈k.heap,nC k.clock.field.points x:=fun _ hx=>GX.1 (h.perm.mem_iff.2 hx)
theorem zI.nd {k:HF} (h:zI k):k.heap.Nodup:=h.perm.nodup_iff.1 (MB h.clk.fld.2.2)
theorem zI.hp {k:HF} (h:zI k):Hp (aF8 k.clock.field.points k.clock.now) k.heap:=(TS h.clk.fld.2.2 h.has h.nd).1 h.lead
theorem QQ.heap {c:aO} {f:List Pt} (fok:cC f) {l:List Int} (pm:(nK f).Perm l) {R:HF} (e:R.heap=l) (q:QQ c f (F1 l) R.clock) (h:Hp (aF8 f c.now) l):aXX R f c.now:=by
 have nd:=pm.nodup_iff.1 (MB fok.2.2);refine ⟨⟨q.ok,by rw [q.fld,e];exact pm,?_,?_⟩,q.fld,q.now⟩
 · rw [e]
   exact ZT (F2 q.ok.crt) (ZR nd) (fun x hx=>by obtain ⟨y,hy,rfl⟩:=List.mem_map.1 hx;exact q.sub y hy) (fun x hx=>zJ.1 (q.has x hx))
 rw [e,q.fld,q.now]
 exact (TS fok.2.2 (fun x hx=>GX.1 (pm.mem_iff.2 hx)) nd).2 h
theorem QY {α:Type} (z:α): ∀(l:List (Int×α)) (k:Int) (a:α) (j:Int),vK z (sX l k a) j=if j=k then a else vK z l j
 | [],k,a,j=>by
  simp only [sX,vK]
  by_cases h:j=k
  · rw [if_pos h,eH h];rfl
  rw [if_neg h,eM h];rfl
 |p::l,k,a,j=>by
  simp only [sX]
  by_cases h:k=p.1
  · rw [eH h,cond_true]
    simp only [vK]
    by_cases c:j=k
    · rw [if_pos c,eH c];rfl
    rw [if_neg c,eM c,cond_false,eM (by rw [<- h];exact c),cond_false]
  rw [eM h,cond_false]
  simp only [vK];rw [QY z l k a j]
  by_cases c:j=p.1
  · rw [eH c,cond_true,cond_true,if_neg (by rw [c];exact fun e=>h e.symm)]
  rw [eM c,cond_false,cond_false]
section
variable {f : List Pt} {t : Int × Int}
end
def RY (f:List Pt) (x:Int):Prop:=x= -1\/(0<=x/\nC f x)
theorem RY.has {f:List Pt} {x:Int} (h:RY f x) (h0:0<=x):nC f x:=by rcases h with h|h;omega;exact h.2
theorem mH {p w:List Int} {i:Nat} (hi:i<w.length+p.length) (hb:w.length+p.length<=1000):gT ⟨p,w⟩ (i:Int)=some (bD p w i):=by
 unfold gT bD;simp only [aE]
 by_cases h:i<w.length
 · rw [aH (by omega),cond_true,aC w i h,aB,if_pos h]
 rw [dec_f (by omega),cond_false,oR ⟨by omega,by omega⟩,show (i:Int) - (w.length:Int)=((i-w.length:Nat):Int) by omega,aC p _ (by omega),aB,if_neg h]
theorem nL {p w:List Int} {i:Nat} (hi:i<w.length+p.length) (hb:w.length+p.length<=1000):gP ⟨p,w⟩ (i:Int)=some (bD p w i):=by
 unfold gP bD;have e:aA .i64 ((i:Int) - (w.length:Int))=(i:Int) - (w.length:Int):=oR ⟨by omega,by omega⟩
 simp only [aE,e]
 by_cases h:i<w.length
 · rw [dec_f (by omega),cond_false,aC w i h,aB,if_pos h]
 rw [aH (by omega),cond_true,show (i:Int) - (w.length:Int)=((i-w.length:Nat):Int) by omega,aC p _ (by omega),aB,if_neg h]
theorem pL {i:Nat} (h:i<1000) (k:Nat) (hk:k<=2):aA .i64 ((aA .i64 (2*(i:Int)))+(k:Int))=((2*i+k:Nat):Int):=by
 rw [oR (n:=2*(i:Int)) ⟨by omega,by omega⟩,oR ⟨by omega,by omega⟩];omega
theorem DW {f:List Pt} (fok:cC f) {t:Int×Int} (r64:oA t) {x y:Int} (hx:RY f x) (hy:RY f y):tV ⟨f⟩ t x y=some (DV f t x y):=by
 unfold tV DV
 by_cases h1:x<0
 · rw [aH h1,cond_true,if_pos h1]
 rw [dec_f h1,cond_false,if_neg h1]
 by_cases h2:y<0
 · rw [aH h2,cond_true,if_pos h2]
 rw [dec_f h2,cond_false,if_neg h2];have p1:=hx.has (by omega)
 have p2:=hy.has (by omega)
 obtain ⟨j,j1,j2,j3⟩:=uG fok p1;obtain ⟨k,k1,k2,k3⟩:=uG fok p2;simp only [j2,k2,aB,aC f j j1,aC f k k1,j3,k3,FQ (dB fok p1).1 (dB fok p2).1 r64]
 by_cases h:dQ (fT f x) (fT f y) t
 · rw [aH h,cond_true,if_pos h]
 rw [dec_f h,cond_false,if_neg h]
theorem QZ:dF=aR:=rfl
theorem uH {f:List Pt} (fok:cC f) {x:Int} (h:nC f x): ∃k,k<f.length/\kS ⟨f⟩ x=some ((k:Int),true)/\f[k]! =fT f x:=by
 have h1:=fok.1;have bs:=GV f x (by omega) (fun i j=>pF fok.2.2)
 obtain ⟨k,hk,he⟩:=h;refine ⟨k,hk,?_,(DS fok.2.2 hk he).symm⟩;unfold kS;rw [QZ,bs.1 k hk he];rfl
theorem MC {f:List Pt} (fok:cC f) {x:Int} (h: ¬nC f x): ∃m:Nat,kS ⟨f⟩ x=some ((m:Int),false):=by
 have h1:=fok.1;have bs:=GV f x (by omega) (fun i j=>pF fok.2.2)
 obtain ⟨m,_,_,_,e⟩:=bs.2 (fun k hk he=>h ⟨k,hk,he⟩)
 refine ⟨m,?_⟩;unfold kS;rw [QZ,e];rfl
theorem Q0 {f:List Pt} (fok:cC f) {t:Int×Int} (r:bQ t) (r64:oA t) {x y:Int} (hx:RY f x) (hy:RY f y) (hne:0<=x->x≠y):qX ⟨f⟩ t x y=some (DV f t x y):=by
 unfold qX DV
 by_cases h1:x<0
 · rw [aH (by split<;>omega),cond_true,if_pos h1]
   have:x= -1:=by rcases hx with h|h;exact h;omega
   have: -1<=y:=by rcases hy with h|h<;>omega
   congr 1
   split<;>omega
 rw [if_neg h1]
 by_cases h2:y<0
 · rw [aH (by split<;>omega),cond_true,if_pos h2]
   congr 1
   split<;>omega
 rw [dec_f (by split<;>omega),cond_false,if_neg h2]
 have p1:=hx.has (by omega)
 have p2:=hy.has (by omega)
 obtain ⟨j,j1,j2,j3⟩:=uH fok p1;obtain ⟨k,k1,k2,k3⟩:=uH fok p2;obtain ⟨a1,a2⟩:=dB fok p1;obtain ⟨b1,b2⟩:=dB fok p2;simp only [j2,k2,aB,aC f j j1,aC f k k1,j3,k3];rcases EH a1 b1 r64 r with h|⟨h,_⟩
 · rw [h,aB]
   by_cases h:dQ (fT f x) (fT f y) t
   · rw [if_pos h];dsimp only;rw [aH h,cond_true]
   rw [if_neg h];dsimp only;rw [dec_f h,cond_false]
 rw [a2,b2] at h;exact absurd h (hne (by omega))
def sY (B:List Int) (i:Nat):List Int:=List.replicate i 0++B.drop i
theorem uI {B:List Int} {i:Nat} (h:i<=B.length):(sY B i).length=B.length:=by unfold sY;rw [List.length_append,ac,List.length_drop];omega
theorem GY {B:List Int} {i k:Nat} (h:i<=k) (hi:i<=B.length):(sY B i)[k]! =B[k]!:=by
 unfold sY;rw [kE (by rw [ac];exact h),uB,ac]
 congr 1;omega
theorem DX {p B:List Int} {i k:Nat} (h:i<=k) (hi:i<=B.length):bD p (sY B i) k=bD p B k:=by
 unfold bD;rw [uI hi];split
 · exact GY h hi
 rfl
theorem TU {B:List Int} {i:Nat} (h:i<B.length):(sY B (i+1)).set i B[i]! =sY B i:=by
 refine wH (by rw [ax,uI (by omega),uI (by omega)]) fun k hk=>?_
 rw [ax,uI (by omega)] at hk
 rw [bF]
 by_cases e:k=i
 · rw [if_pos ⟨e,by rw [uI (by omega)];omega⟩,GY (by omega) (by omega),e]
 rw [if_neg (fun x=>e x.1)]
 by_cases h2:k<i
 · unfold sY
   rw [iE (by rw [ac];omega),iE (by rw [ac];omega)]
   rw [getElem!_pos _ k (by rw [ac];omega),getElem!_pos _ k (by rw [ac];omega),ao,ao]
 rw [GY (by omega) (by omega),GY (by omega) (by omega)]
section
variable {f : List Pt} (fok : cC f) {t : Int × Int} (r : bQ t) (r64 : oA t) {p : List Int} (h1 : 1 <= p.length) (h64 : p.length <= 64) (hk : ∀ x ∈ p, RY f x)
include fok r64 h1 h64 hk
theorem NW {i:Nat} (hi:i<(aX f t p).length+p.length):RY f (bD p (aX f t p) i):=by
 have _:=fok;have _:=r64;have _:=h64;exact hk _ (gV (dE (f:=f) (t:=t) h1).1 (dE h1).chosen hi)
theorem aBm {i:Nat} (hi:i<(aX f t p).length):
 oQ ((i:Int),f,t.1,t.2,p,sY (aX f t p) (i+1))=some (.next ((i:Int) -1,f,t.1,t.2,p,sY (aX f t p) i)):=by
 have R:=dE (f:=f) (t:=t) (p:=p) h1;have bl:=R.1;have pl:=uI (B:=aX f t p) (i:=i+1) (by omega)
 unfold oQ;simp only [aH (show (0:Int)<=(i:Int) by omega),cond_true]
 have k1:=pL (i:=i) (by omega) 1 (by omega)
 have k2:=pL (i:=i) (by omega) 2 (by omega)
 rw [show aA .i64 (aA .i64 (2*(i:Int))+1)=((2*i+1:Nat):Int) from k1,show aA .i64 (aA .i64 (2*(i:Int))+2)=((2*i+2:Nat):Int) from k2];rw [mH (by omega) (by omega),aB,mH (by omega) (by omega),aB,DX (by omega) (by omega),DX (by omega) (by omega)]
 rw [show tV ⟨f⟩ (t.1,t.2) _ _=_ from DW fok r64 (NW fok r64 h1 h64 hk (by omega)) (NW fok r64 h1 h64 hk (by omega)),aB,aC _ i (by omega),aB,<- R.2 i hi]
 show some (bS.next (_,f,t.1,t.2,p,(sY (aX f t p) (i+1)).set i _))=_
 rw [TU hi,oR ⟨by omega,by omega⟩]
theorem Q1:FP ⟨f⟩ t p=some ⟨p,aX f t p⟩:=by
 have R:=dE (f:=f) (t:=t) (p:=p) h1;have bl:=R.1;have w1:aA .i64 ((p.length:Int) -1)=((p.length-1:Nat):Int):=qD (by omega) h1
 have loop: ∀n:Nat,n<=(aX f t p).length->aG oQ ((n:Int) -1,f,t.1,t.2,p,sY (aX f t p) n)=some ⟨p,aX f t p⟩:=by
  intro n
  induction n with
  |zero=>
   intro _;refine aK ?_;unfold oQ;rw [dec_f (by omega),cond_false]
   rfl
  |succ n ih=>
   intro hn;have st:=aBm fok r64 h1 h64 hk (t:=t) (i:=n) (by omega)
   rw [show ((n+1:Nat):Int) -1=(n:Int) by omega,bC st]
   exact ih (by omega)
 unfold FP;simp only [aY (show p.length<=1048576 by omega),aB,aE,w1,eH rfl,cond_true,P9 (0:Int) (show p.length-1<=1048576 by omega),ac]
 have:=loop (aX f t p).length (au _)
 unfold sY at this;rw [ar,ay,show (aX f t p).length=p.length-1 by omega] at this
 rw [oR (n:=((p.length-1:Nat):Int) -1) ⟨by omega,by omega⟩]
 exact this
include r
theorem VY (ho:IZ p) {i:Nat} (hi:i<(aX f t p).length):
 jR ((i:Int),f,t.1,t.2,p,sY (aX f t p) (i+1))=some (.next ((i:Int) -1,f,t.1,t.2,p,sY (aX f t p) i)):=by
 have R:=dE (f:=f) (t:=t) (p:=p) h1;have bl:=R.1;have pl:=uI (B:=aX f t p) (i:=i+1) (by omega)
 unfold jR;simp only [aH (show (0:Int)<=(i:Int) by omega),cond_true]
 have k1:=pL (i:=i) (by omega) 1 (by omega)
 have k2:=pL (i:=i) (by omega) 2 (by omega)
 rw [show aA .i64 (aA .i64 (2*(i:Int))+1)=((2*i+1:Nat):Int) from k1,show aA .i64 (aA .i64 (2*(i:Int))+2)=((2*i+2:Nat):Int) from k2];rw [nL (by omega) (by omega),aB,nL (by omega) (by omega),aB,DX (by omega) (by omega),DX (by omega) (by omega)]
 rw [show qX ⟨f⟩ (t.1,t.2) _ _=_ from Q0 fok r r64 (NW fok r64 h1 h64 hk (by omega)) (NW fok r64 h1 h64 hk (by omega)) (fun h0=>KP R.1 R.chosen ho hi h0),aB,aC _ i (by omega),aB,<- R.2 i hi]
 show some (bS.next (_,f,t.1,t.2,p,(sY (aX f t p) (i+1)).set i _))=_
 rw [TU hi,oR ⟨by omega,by omega⟩]
theorem MD:uN ⟨f⟩ p=some true:=by
 have _:=r;have _:=r64;have st:=dO (body:=oX) (fun i=>(p,(p.length:Int),(i:Int),f)) p.length (fun i hi=>by
  have id:=hk _ (bL hi);unfold oX;simp only [aH (show (i:Int)<(p.length:Int) by omega),cond_true,aC p i hi,aB,aT (show i<1000000000 by omega)]
  by_cases h:nC f p[i]!
  · obtain ⟨k,_,e,_⟩:=uH fok h
    rw [e,aB,cond_true]
  obtain ⟨m,e⟩:=MC fok h
  rw [e,aB,cond_false];rcases id with id|id
  · rw [eH id];rfl
  exact absurd id.2 h)
 unfold uN;refine (show _=_ from st).trans (aK ?_);unfold oX;simp only [dec_f (show¬(p.length:Int)<(p.length:Int) by omega),cond_false]
 rfl
def Q2 (p:List Int):Nat->List (Int×Bool)
 |0=>sX [] (-1) false
 |i+1=>sX (Q2 p i) p[i]! (decide (0<=p[i]!))
omit fok r r64 h1 h64 hk in
theorem Q3 (p:List Int): ∀(i:Nat) (k:Int),vK false (Q2 p i) k=decide (0<=k/\ ∃j,j<i/\p[j]! =k)
 |0,k=>by
  unfold Q2;rw [QY];rw [decide_eq_false (fun h=>by obtain ⟨_,j,hj,_⟩:=h;omega)]
  split<;>rfl
 |i+1,k=>by
  unfold Q2;rw [QY,Q3 p i k]
  by_cases e:k=p[i]!
  · rw [if_pos e]
    refine decide_eq_decide.2 ⟨fun h=>⟨by omega,i,by omega,e.symm⟩,fun h=>by omega⟩
  rw [if_neg e]
  refine decide_eq_decide.2 ⟨fun ⟨h,j,hj,hx⟩=>⟨h,j,by omega,hx⟩,fun ⟨h,j,hj,hx⟩=>⟨h,j,?_,hx⟩⟩
  rcases aq j i with h2|h2
  · exact h2
  obtain rfl:j=i:=by omega
  exact absurd hx.symm e
omit fok r r64 h1 h64 hk in
theorem aDP {p:List Int} (ho:IZ p) {i:Nat} (hi:i<p.length):vK false (Q2 p i) p[i]! =false:=by
 rw [Q3];refine decide_eq_false fun ⟨h0,j,hj,e⟩=>?_
 have:=ho j i hj hi e
 omega
theorem ME (ho:IZ p):uO ⟨f⟩ t p=some (⟨p,aX f t p⟩,0):=by
 have R:=dE (f:=f) (t:=t) (p:=p) h1;have bl:=R.1;have w1:aA .i64 ((p.length:Int) -1)=((p.length-1:Nat):Int):=qD (by omega) h1
 have loop: ∀n:Nat,n<=(aX f t p).length->aG jR ((n:Int) -1,f,t.1,t.2,p,sY (aX f t p) n)=some (.done (⟨p,aX f t p⟩,0)):=by
  intro n
  induction n with
  |zero=>
   intro _;refine aK ?_;unfold jR;rw [dec_f (by omega),cond_false]
   rfl
  |succ n ih=>
   intro hn;have st:=VY fok r r64 h1 h64 hk (t:=t) ho (i:=n) (by omega)
   rw [show ((n+1:Nat):Int) -1=(n:Int) by omega,bC st]
   exact ih (by omega)
 have fc:eW ⟨f⟩=some 0:=by rw [mF];exact congrArg some (mS.2 fok)
 unfold uO A6;simp only [fc,aB,bP (rfl:(0:Int)=0),cond_false,dP r64,if_pos r,aE,dec_f (show¬(p.length:Int)<1 by omega),dec_f (show¬(64:Int)<(p.length:Int) by omega),MD fok r r64 h1 h64 hk,az]
 have st:=dO (body:=oY 0 p) (fun i=>(p,(p.length:Int),(i:Int),f,t.1,t.2,Q2 p i)) p.length (fun i hi=>by
  unfold oY;simp only [aH (show (i:Int)<(p.length:Int) by omega),cond_true,aC p i hi,aB,aDP ho hi,Bool.not_false,az,cond_false,aT (show i<1000000000 by omega)]
  rfl)
 refine (show _=_ from st).trans (aK ?_);unfold oY;simp only [dec_f (show¬(p.length:Int)<(p.length:Int) by omega),cond_false,bP (rfl:(0:Int)=0),aY (show p.length<=1048576 by omega),aB,aE,w1,eH rfl,cond_true,P9 (0:Int) (show p.length-1<=1048576 by omega),ac]
 have:=loop (aX f t p).length (au _)
 unfold sY at this;rw [ar,ay,show (aX f t p).length=p.length-1 by omega] at this
 rw [oR (n:=((p.length-1:Nat):Int) -1) ⟨by omega,by omega⟩]
 exact this
end
end Go.Proofs.YtlnclppkepgdmaaGreat
