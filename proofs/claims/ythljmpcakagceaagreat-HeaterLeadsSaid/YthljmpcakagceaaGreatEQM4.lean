/- Plain laws (4). -/
import Derived.Test.YthljmpcakagceaaGreatEQM3
import Derived.Test.YthljmpcakagceaaGreatEQS2
import Derived.Test.YthljmpcakagceaaGreatEVm3
namespace Go.Proofs.YthljmpcakagceaaGreat
open Go.Vm Classical
end Go.Proofs.YthljmpcakagceaaGreat
namespace Go.Proofs.YthljmpcakagceaaGreat
open Go.Vm Classical
theorem aCA {f:List Pt} (fok:cB f) {t:Int×Int} (r64:mU t) {a b:Int} (ha:sE f a) (hb:sE f b):tZ ⟨f⟩ t a b=some (decide (dV (iV f a) (iV f b) t)):=by
 obtain ⟨j,j1,j2,j3⟩:=zB fok ha;obtain ⟨k,k1,k2,k3⟩:=zB fok hb;unfold tZ;simp only [j2,k2,aB,aC f j j1,aC f k k1,j3,k3,HG (gC fok ha).1 (gC fok hb).1 r64]
end Go.Proofs.YthljmpcakagceaaGreat
namespace Go.Proofs.YthljmpcakagceaaGreat
open Go.Vm Classical
theorem RE (p q:Pt) (t:Int×Int):MX p q t=(p.2.1*t.2+p.2.2*t.1) - (q.2.1*t.2+q.2.2*t.1):=by
 rw [HS,Int.sub_mul,Int.sub_mul];omega
theorem DV {p q r:Pt} {t:Int×Int} (h1:dV p q t) (h2:dV q r t):dV p r t:=by
 unfold dV at*;rw [RE] at*;generalize p.2.1*t.2+p.2.2*t.1=a at*;generalize q.2.1*t.2+q.2.2*t.1=b at*;generalize r.2.1*t.2+r.2.2*t.1=c at*;omega
theorem yA {p q:Pt} (t:Int×Int) (h:p.1≠q.1) (hn: ¬dV p q t):dV q p t:=by
 unfold dV at*;rw [RE] at*;generalize p.2.1*t.2+p.2.2*t.1=a at*;generalize q.2.1*t.2+q.2.2*t.1=b at*;omega
end Go.Proofs.YthljmpcakagceaaGreat
namespace Go.Proofs.YthljmpcakagceaaGreat
open Go.Vm Classical
structure SO (P:Int->Int->Prop) (S:Int->Prop):Prop where
 irr: ∀a,S a-> ¬P a a
 tr: ∀a b c,S a->S b->S c->P a b->P b c->P a c
 tot: ∀a b,S a->S b->a≠b->P a b\/P b a
abbrev par (j:Nat):Nat:=(j-1) / 2
def Hp (P:Int->Int->Prop) (l:List Int):Prop:= ∀j,0<j->j<l.length-> ¬P l[j]! l[par j]!
section
variable {P : Int -> Int -> Prop} {S : Int -> Prop}
theorem SO.asym (o:SO P S) {a b:Int} (ha:S a) (hb:S b) (h:P a b): ¬P b a:=fun k=>o.irr a ha (o.tr a b a ha hb ha h k)
theorem SO.ntr (o:SO P S) {a b c:Int} (ha:S a) (hb:S b) (hc:S c) (h1: ¬P a b) (h2: ¬P b c): ¬P a c:=fun h=>by
 by_cases e:b=c
 · exact h1 (e▸h)
 · rcases o.tot b c hb hc e with k|k
   · exact h2 k
   · exact h1 (o.tr a c b ha hc hb h k)
theorem SO.up (o:SO P S) {a b c:Int} (ha:S a) (hb:S b) (hc:S c) (h1:P b c) (h2: ¬P a c): ¬P a b:=fun h=>h2 (o.tr a b c ha hb hc h h1)
end
end Go.Proofs.YthljmpcakagceaaGreat
namespace Go.Proofs.YthljmpcakagceaaGreat
open Go.Vm Classical
end Go.Proofs.YthljmpcakagceaaGreat
namespace Go.Proofs.YthljmpcakagceaaGreat
open Go.Vm Classical
end Go.Proofs.YthljmpcakagceaaGreat
namespace Go.Proofs.YthljmpcakagceaaGreat
open Go.Vm Classical
noncomputable def kS (f:List Pt) (es:List (Int×Int)):Int:=if¬(∀x∈es,fA x) then 8 else if¬es.Nodup then 14 else if¬(∀x∈es,hJ f x) then 6 else 0
theorem NQ {f:List Pt} (fok:cB f) (es:List (Int×Int)) (hl:es.length<=1000):tY ⟨f⟩ es=some (kS f es):=by
 have el:decide ((es.length:Int)<(es.length:Int))=false:=aI (by omega)
 have k1:=GA (body:=qN) (fun i=>(es,(i:Int),f)) es.length (fun i=>hJ f es[i]!) (r:= .done (.done 6)) (e:= .done (.done 0)) (fun i hi=>by
  have e1:decide ((i:Int)<(es.length:Int))=true:=aM (by omega)
  unfold qN hJ;simp only [aF,e1,cond_true,aC es i hi,aB,bC (show i<1000000000 by omega)]
  by_cases h1:sE f (es[i]!).1
  · obtain ⟨a,a1,a2,_⟩:=zB fok h1
    rw [a2];simp only [aB,aI (show¬(a:Int)<0 by omega),cond_false]
    by_cases h2:sE f (es[i]!).2
    · obtain ⟨b,b1,b2,_⟩:=zB fok h2
      rw [b2];simp only [aB,aI (show¬(b:Int)<0 by omega),cond_false]
      exact ⟨fun h=>absurd ⟨h1,h2⟩ h,fun _=>trivial⟩
    · rw [RA fok h2]
      exact ⟨fun _=>rfl,fun h=>absurd h.2 h2⟩
  · rw [RA fok h1]
    exact ⟨fun _=>rfl,fun h=>absurd h.1 h1⟩) (by
  unfold qN;simp only [aF,el,cond_false])
 have k2:=GA (body:=qO) (fun i=>(es,(i:Int),f)) es.length (fun i=>es[i]!∉es.take i) (r:= .done 14) (e:= .done (if∀i,i<es.length->hJ f es[i]! then 0 else 6)) (fun i hi=>by
  have e1:decide ((i:Int)<(es.length:Int))=true:=aM (by omega)
  unfold qO;simp only [aF,e1,cond_true,mQ es i (by omega),aC es i hi,aB,DS _ _ (show (es.take i).length<=1000000 by rw [List.length_take];omega),bC (show i<1000000000 by omega)]
  by_cases h:es[i]!∈es.take i
  · rw [aM h];exact ⟨fun _=>rfl,fun k=>absurd h k⟩
  · rw [aI h];exact ⟨fun k=>absurd h k,fun _=>rfl⟩) (by
  unfold qO;simp only [aF,el,cond_false];refine k1.trans ?_
  by_cases hb: ∀i,i<es.length->hJ f es[i]!
  · rw [if_pos hb,if_pos hb]
  · rw [if_neg hb,if_neg hb])
 have k3:=GA (body:=qP) (fun i=>(es,(i:Int),f)) es.length (fun i=>fA es[i]!) (r:=8) (e:=if∀i,i<es.length->es[i]!∉es.take i then (if∀i,i<es.length->hJ f es[i]! then 0 else 6) else 14) (fun i hi=>by
  have e1:decide ((i:Int)<(es.length:Int))=true:=aM (by omega)
  unfold qP;simp only [aF,e1,cond_true,aC es i hi,aB,yZ,bC (show i<1000000000 by omega)]
  by_cases h:fA es[i]!
  · rw [aM h];exact ⟨fun k=>absurd h k,fun _=>rfl⟩
  · rw [aI h];exact ⟨fun _=>rfl,fun k=>absurd k h⟩) (by
  unfold qP;simp only [aF,el,cond_false];refine k2.trans ?_
  by_cases hb: ∀i,i<es.length->es[i]!∉es.take i
  · rw [if_pos hb,if_pos hb]
  · rw [if_neg hb,if_neg hb])
 refine k3.trans ?_;unfold kS;have a1:=AG (P:=fA) (l:=es);have a2:=F9 (l:=es);have a3:=AG (P:=hJ f) (l:=es)
 by_cases h1: ∀x∈es,fA x
 · rw [if_pos (a1.1 h1),if_neg (Classical.not_not.2 h1)]
   by_cases h2:es.Nodup
   · rw [if_pos (a2.1 h2),if_neg (Classical.not_not.2 h2)]
     by_cases h3: ∀x∈es,hJ f x
     · rw [if_pos (a3.1 h3),if_neg (Classical.not_not.2 h3)]
     · rw [if_neg (fun h=>h3 (a3.2 h)),if_pos h3]
   · rw [if_neg (fun h=>h2 (a2.2 h)),if_pos h2]
 · rw [if_neg (fun h=>h1 (a1.2 h)),if_pos h1]
def rP (c:aJ) (f:List Pt) (es:List (Int×Int)) (i:Nat):=
 (es,es,(es.length:Int),(i:Int),c.now.1,c.now.2,c.field.points,c.certs.next_,c.certs.list,c.agenda.slots.uses,c.agenda.slots.used,c.agenda.slots.free,c.agenda.heap,c.agenda.where_,c.due,f,(0:Int),(0:Int),(0:Int))
theorem NR {c:aJ} (ok:bD c) {f:List Pt} (fok:cB f) {es:List (Int×Int)} (hl:es.length<=1000) {r:aJ×Int} (hr:kS f es=0->tK c ⟨f⟩ es=some r):
 pH c ⟨f⟩ es=some (if kS f es=0 then r else (eD,kS f es)):=by
 have bd:=ok.bd;have ab:=ok.agd.bd;have sl:=ok.agd.so.fl;have sn:=ok.agd.so.n2;have su:=ok.agd.so.ul;have el:decide ((es.length:Int)<(es.length:Int))=false:=aI (by omega)
 have hc:gK c=some 0:=by rw [lK ok.fit,if_pos ok]
 have hf:eK ⟨f⟩=some 0:=by rw [lJ];exact congrArg some (lT.2 fok)
 have tw:wH (aJ.mk (c.now.1,c.now.2) (Field.mk c.field.points) (aU.mk c.certs.next_ c.certs.list) (aG.mk (aR.mk c.agenda.slots.uses c.agenda.slots.used c.agenda.slots.free) c.agenda.heap c.agenda.where_) c.due)=some c:=by
  unfold wH;simp only [bH (show c.field.points.length<=1048576 by omega),bH (show c.certs.list.length<=1048576 by omega),bH (show c.due.length<=1048576 by omega),bH (show c.agenda.heap.length<=1048576 by omega),bH (show c.agenda.where_.length<=1048576 by omega),
   bH (show c.agenda.slots.uses.length<=1048576 by omega),bH (show c.agenda.slots.used.length<=1048576 by omega),bH (show c.agenda.slots.free.length<=1048576 by omega),aB]
 have k3: ∀e2:aJ×Int,aH eN (rP c f es 0)=some (.done e2)->aH eO (rP c f es 0)=some (if∀i,i<es.length->fA es[i]! then e2 else (eD,8)):=by
  intro e2 h2;refine GA (body:=eO) (fun i=>rP c f es i) es.length (fun i=>fA es[i]!) (r:=(eD,8)) (e:=e2) (fun i hi=>?_) ?_
  · have e1:decide ((i:Int)<(es.length:Int))=true:=aM (by omega)
    unfold eO rP fA;simp only [e1,cond_true,aC es i hi,aB,bC (show i<1000000000 by omega)]
    generalize es[i]! =x
    by_cases a1:x.1<0
    · rw [aM a1];exact ⟨fun _=>rfl,fun h=>by omega⟩
    rw [aI a1]
    by_cases a2:x.2<0
    · rw [aM a2];exact ⟨fun _=>rfl,fun h=>by omega⟩
    rw [aI a2]
    by_cases a3:65535<x.1
    · rw [aM a3];exact ⟨fun _=>rfl,fun h=>by omega⟩
    rw [aI a3]
    by_cases a4:65535<x.2
    · rw [aM a4];exact ⟨fun _=>rfl,fun h=>by omega⟩
    rw [aI a4]
    by_cases a5:x.1=x.2
    · rw [gL a5];exact ⟨fun _=>rfl,fun h=>absurd a5 h.2.2.2.2⟩
    · rw [fW a5];exact ⟨fun h=>absurd ⟨by omega,by omega,by omega,by omega,a5⟩ h,fun _=>rfl⟩
  · unfold eO rP
    simp only [aF,el,cond_false];exact h2
 have k2: ∀e1:aJ×Int,aH fK (rP c f es 0)=some (.done (.done e1))->aH eN (rP c f es 0)=some (.done (if∀i,i<es.length->es[i]!∉es.take i then e1 else (eD,14))):=by
  intro e0 h2
  have:=GA (body:=eN) (fun i=>rP c f es i) es.length (fun i=>es[i]!∉es.take i) (r:= .done (eD,14)) (e:= .done e0) (fun i hi=>by
   have e1:decide ((i:Int)<(es.length:Int))=true:=aM (by omega)
   unfold eN rP;simp only [e1,cond_true,aC es i hi,mQ es i (by omega),aB,oK _ _ (show (es.take i).length<=1000000 by rw [List.length_take];omega),bC (show i<1000000000 by omega)]
   by_cases h:es[i]!∈es.take i
   · rw [aM h];exact ⟨fun _=>rfl,fun k=>absurd h k⟩
   · rw [aI h];exact ⟨fun k=>absurd h k,fun _=>rfl⟩) (by
   unfold eN rP;simp only [aF,el,cond_false];exact h2)
  refine this.trans ?_
  by_cases hb: ∀i,i<es.length->es[i]!∉es.take i
  · rw [if_pos hb,if_pos hb]
  · rw [if_neg hb,if_neg hb]
 have step1: ∀i,i<es.length->(¬hJ f es[i]!->fK (rP c f es i)=some (.done (.done (.done (eD,6)))))/\(hJ f es[i]!->fK (rP c f es i)=some (.next (rP c f es (i+1)))):=by
  intro i hi;have e1:decide ((i:Int)<(es.length:Int))=true:=aM (by omega)
  obtain ⟨p,e,a1,a2⟩:=FA fok (es[i]!).1;obtain ⟨q,g,b1,b2⟩:=FA fok (es[i]!).2;unfold fK rP hJ;simp only [e1,cond_true,aC es i hi,aB,a1,b1,bC (show i<1000000000 by omega)]
  by_cases h1:sE f (es[i]!).1
  · rw [dR (a2.2 h1)]
    by_cases h2:sE f (es[i]!).2
    · rw [dR (b2.2 h2)]
      exact ⟨fun h=>absurd ⟨h1,h2⟩ h,fun _=>rfl⟩
    · rw [fE (fun h=>h2 (b2.1 h))]
      exact ⟨fun _=>rfl,fun h=>absurd h.2 h2⟩
  · rw [fE (fun h=>h1 (a2.1 h))]
    exact ⟨fun _=>rfl,fun h=>absurd h.1 h1⟩
 have start:pH c ⟨f⟩ es=aH eO (rP c f es 0):=by
  unfold pH;simp only [hc,aB,show ((0:Int) !=0)=false from rfl,cond_false,hf];rfl
 rw [start]
 by_cases h1: ∀x∈es,fA x
 case neg=>
  have er:kS f es=8:=by unfold kS;rw [if_pos h1]
  rw [er,if_neg (by omega)]
  have:=dC (body:=eO) (fun i=>rP c f es i) es.length (fun i=> ¬fA es[i]!) (r:=(eD,8)) (e:=r)
  have k3':=k3;rw [AG (P:=fA)] at h1;obtain ⟨i,h⟩:=Classical.not_forall.1 h1;obtain ⟨hi,hx⟩:=Classical.not_imp.1 h;obtain ⟨m,m1,m2,m3⟩:=HD (c:=fun i=> ¬fA es[i]!) ⟨i,hi,hx⟩
  have go: ∀j,j<es.length->(¬fA es[j]!->eO (rP c f es j)=some (.done (eD,8)))/\(fA es[j]!->eO (rP c f es j)=some (.next (rP c f es (j+1)))):=by
   intro j hj;have e1:decide ((j:Int)<(es.length:Int))=true:=aM (by omega)
   unfold eO rP fA;simp only [e1,cond_true,aC es j hj,aB,bC (show j<1000000000 by omega)]
   generalize es[j]! =x
   by_cases a1:x.1<0
   · rw [aM a1];exact ⟨fun _=>rfl,fun h=>by omega⟩
   rw [aI a1]
   by_cases a2:x.2<0
   · rw [aM a2];exact ⟨fun _=>rfl,fun h=>by omega⟩
   rw [aI a2]
   by_cases a3:65535<x.1
   · rw [aM a3];exact ⟨fun _=>rfl,fun h=>by omega⟩
   rw [aI a3]
   by_cases a4:65535<x.2
   · rw [aM a4];exact ⟨fun _=>rfl,fun h=>by omega⟩
   rw [aI a4]
   by_cases a5:x.1=x.2
   · rw [gL a5];exact ⟨fun _=>rfl,fun h=>absurd a5 h.2.2.2.2⟩
   · rw [fW a5];exact ⟨fun h=>absurd ⟨by omega,by omega,by omega,by omega,a5⟩ h,fun _=>rfl⟩
  rw [eA (body:=eO) (fun i=>rP c f es i) m fun j hj=>(go j (by omega)).2 (Classical.not_not.1 (m3 j hj))]
  exact aL ((go m m1).1 m2)
 have h1':=(AG (P:=fA)).1 h1
 by_cases h2:es.Nodup
 case neg=>
  have er:kS f es=14:=by unfold kS;rw [if_neg (Classical.not_not.2 h1),if_pos h2]
  rw [er,if_neg (by omega)]
  have h2':=h2;rw [F9] at h2';obtain ⟨i,h⟩:=Classical.not_forall.1 h2';obtain ⟨hi,hx⟩:=Classical.not_imp.1 h;obtain ⟨m,m1,m2,m3⟩:=HD (c:=fun i=> ¬es[i]!∉es.take i) ⟨i,hi,hx⟩
  have go: ∀j,j<es.length->(es[j]!∈es.take j->eN (rP c f es j)=some (.done (.done (eD,14))))/\(es[j]!∉es.take j->eN (rP c f es j)=some (.next (rP c f es (j+1)))):=by
   intro j hj;have e1:decide ((j:Int)<(es.length:Int))=true:=aM (by omega)
   unfold eN rP;simp only [e1,cond_true,aC es j hj,mQ es j (by omega),aB,oK _ _ (show (es.take j).length<=1000000 by rw [List.length_take];omega),bC (show j<1000000000 by omega)]
   by_cases h:es[j]!∈es.take j
   · rw [aM h];exact ⟨fun _=>rfl,fun k=>absurd h k⟩
   · rw [aI h];exact ⟨fun k=>absurd k h,fun _=>rfl⟩
  have l2:aH eN (rP c f es 0)=some (.done (eD,14)):=by
   rw [eA (body:=eN) (fun i=>rP c f es i) m fun j hj=>(go j (by omega)).2 (Classical.not_not.1 (m3 j hj))]
   exact aL ((go m m1).1 (Classical.not_not.1 m2))
  rw [k3 _ l2,if_pos h1']
 have h2':=F9.1 h2
 by_cases h3: ∀x∈es,hJ f x
 case neg=>
  have er:kS f es=6:=by unfold kS;rw [if_neg (Classical.not_not.2 h1),if_neg (Classical.not_not.2 h2),if_pos h3]
  rw [er,if_neg (by omega)]
  have h3':=h3;rw [AG (P:=hJ f)] at h3';obtain ⟨i,h⟩:=Classical.not_forall.1 h3';obtain ⟨hi,hx⟩:=Classical.not_imp.1 h;obtain ⟨m,m1,m2,m3⟩:=HD (c:=fun i=> ¬hJ f es[i]!) ⟨i,hi,hx⟩
  have l1:aH fK (rP c f es 0)=some (.done (.done (eD,6))):=by
   rw [eA (body:=fK) (fun i=>rP c f es i) m fun j hj=>(step1 j (by omega)).2 (Classical.not_not.1 (m3 j hj))]
   exact aL ((step1 m m1).1 m2)
  rw [k3 _ (k2 _ l1),if_pos h1',if_pos h2']
 have h3':=(AG (P:=hJ f)).1 h3;have er:kS f es=0:=by unfold kS;rw [if_neg (Classical.not_not.2 h1),if_neg (Classical.not_not.2 h2),if_neg (Classical.not_not.2 h3)]
 rw [er,if_pos rfl];have l1:aH fK (rP c f es 0)=some (.done (.done r)):=by
  rw [eA (body:=fK) (fun i=>rP c f es i) es.length fun j hj=>(step1 j hj).2 (h3' j hj)]
  refine aL ?_;unfold fK rP;simp only [el,cond_false,tw,aB,hr er]
 rw [k3 _ (k2 _ l1),if_pos h1',if_pos h2']
end Go.Proofs.YthljmpcakagceaaGreat
namespace Go.Proofs.YthljmpcakagceaaGreat
open Go.Vm Classical
end Go.Proofs.YthljmpcakagceaaGreat
namespace Go.Proofs.YthljmpcakagceaaGreat
open Go.Vm Classical
end Go.Proofs.YthljmpcakagceaaGreat
namespace Go.Proofs.YthljmpcakagceaaGreat
open Go.Vm Classical
theorem tk {l:List Int} {m:Nat} {x:Int} (h:l.length=m):(l++[x]).take m=l:=by rw [<- h,List.take_left]
section
variable {k : E5} {f : List Pt} {m n0 : Nat} {x : Int}
end
end Go.Proofs.YthljmpcakagceaaGreat
namespace Go.Proofs.YthljmpcakagceaaGreat
open Go.Vm Classical
section
variable {k : E5} {P : Pt} {f : List Pt} {m : Nat}
end
end Go.Proofs.YthljmpcakagceaaGreat
namespace Go.Proofs.YthljmpcakagceaaGreat
open Go.Vm Classical
end Go.Proofs.YthljmpcakagceaaGreat
namespace Go.Proofs.YthljmpcakagceaaGreat
open Go.Vm Classical
end Go.Proofs.YthljmpcakagceaaGreat
namespace Go.Proofs.YthljmpcakagceaaGreat
abbrev Nd:=Int×Int×Int
structure CE (P:Nat->Nat->Prop) (a b i:Nat):Prop where
 lo:a<=i
 hi:i<b
 top: ∀j,a<=j->j<b->j≠i->P i j
inductive mJ (P:Nat->Nat->Prop) (N:List Nd):Nat->Nat->Int->Prop
 |nil {a b:Nat} (h:b<=a):mJ P N a b (-1)
 |node {a b i:Nat} (h:CE P a b i) (l:mJ P N a i (N[i]!).2.1) (r:mJ P N (i+1) b (N[i]!).2.2):mJ P N a b (i:Int)
structure aCB (P:Nat->Nat->Prop) (n:Nat):Prop where
 tr: ∀i j k,i<n->j<n->k<n->P i j->P j k->P i k
 asy: ∀i j,i<n->j<n->P i j-> ¬P j i
 tot: ∀i j,i<n->j<n->i≠j-> ¬P i j->P j i
theorem CE.one {P:Nat->Nat->Prop} {n a b i j:Nat} (o:aCB P n) (hb:b<=n) (h:CE P a b i) (k:CE P a b j):i=j:=by
 refine Classical.byContradiction fun hne=>?_
 have:=h.hi;have:=k.hi
 exact o.asy i j (by omega) (by omega) (h.top j k.lo k.hi (fun e=>hne e.symm)) (k.top i h.lo h.hi hne)
theorem mJ.link {P:Nat->Nat->Prop} {N:List Nd} {a b:Nat} {r:Int} (h:mJ P N a b r):(b<=a/\r= -1)\/(∃i:Nat,r=(i:Int)/\a<=i/\i<b):=by
 cases h with
 |nil h=>exact .inl ⟨h,rfl⟩
 |node h l r=>exact .inr ⟨_,rfl,h.lo,h.hi⟩
theorem mJ.unique {P:Nat->Nat->Prop} {n:Nat} (o:aCB P n) {N N':List Nd} {a b:Nat} {r:Int} (h:mJ P N a b r): ∀{r':Int},b<=n->mJ P N' a b r'->r=r'/\ ∀k,a<=k->k<b->(N[k]!).2=(N'[k]!).2:=by
 induction h with
 |nil h=>
  intro r' hb h';cases h' with
  |nil _=>exact ⟨rfl,fun k h1 h2=>by omega⟩
  |node t _ _=>have:=t.lo;have:=t.hi;omega
 | @node a b i h l r ihl ihr=>
  intro r' hb h';have lo:=h.lo;have hi:=h.hi;cases h' with
  |nil q=>omega
  | @node _ _ j t l' r'=>
   have e:=h.one o hb t;subst e;obtain ⟨e1,f1⟩:=ihl (by omega) l'
   obtain ⟨e2,f2⟩:=ihr hb r';refine ⟨rfl,fun k h1 h2=>?_⟩
   rcases Nat.lt_trichotomy k i with q|q|q
   · exact f1 k h1 q
   · subst q;exact Prod.ext e1 e2
   · exact f2 k (by omega) h2
theorem mJ.frame {P:Nat->Nat->Prop} {N N':List Nd} {a b:Nat} {r:Int} (h:mJ P N a b r):(∀k,a<=k->k<b->(N[k]!).2=(N'[k]!).2)->mJ P N' a b r:=by
 induction h with
 |nil h=>exact fun _=> .nil h
 | @node a b i h l r ihl ihr=>
  intro f;have lo:=h.lo;have hi:=h.hi;have e:=f i lo hi;refine .node h ?_ ?_
  · rw [<- e];exact ihl fun k h1 h2=>f k h1 (by omega)
  · rw [<- e];exact ihr fun k h1 h2=>f k (by omega) h2
theorem mJ.other {P Q:Nat->Nat->Prop} {n:Nat} (o:aCB Q n) {N:List Nd} {a b:Nat} {r:Int} (h:mJ P N a b r):b<=n->(∀k j:Nat,a<=k->k<b->a<=j->j<b->((N[k]!).2.1=(j:Int)\/(N[k]!).2.2=(j:Int))->Q k j)->mJ Q N a b r:=by
 induction h with
 |nil h=>exact fun _ _=> .nil h
 | @node a b i h l r ihl ihr=>
  intro hb q;have lo:=h.lo;have hi:=h.hi;have tl:=ihl (by omega) fun k j h1 h2 h3 h4=>q k j h1 (by omega) h3 (by omega)
  have tr:=ihr hb fun k j h1 h2 h3 h4=>q k j (by omega) h2 (by omega) h4
  refine .node ⟨lo,hi,fun j h1 h2 hne=>?_⟩ tl tr
  rcases Nat.lt_or_ge j i with hj|hj
  · generalize hr:(N[i]!).2.1=s at tl
    cases tl with
    |nil q=>omega
    | @node _ _ m t _ _=>
     have t1:=t.lo;have t2:=t.hi;have qm:=q i m lo hi t1 (by omega) (.inl hr)
     by_cases e:j=m
     · rw [e];exact qm
     · exact o.tr i m j (by omega) (by omega) (by omega) qm (t.top j h1 hj e)
  · generalize hr:(N[i]!).2.2=s at tr
    cases tr with
    |nil q=>omega
    | @node _ _ m t _ _=>
     have t1:=t.lo;have t2:=t.hi;have qm:=q i m lo hi (by omega) t2 (.inr hr)
     by_cases e:j=m
     · rw [e];exact qm
     · exact o.tr i m j (by omega) (by omega) (by omega) qm (t.top j (by omega) h2 e)
theorem mJ.kids {P:Nat->Nat->Prop} {N:List Nd} {a b:Nat} {r:Int} (h:mJ P N a b r): ∀k,a<=k->k<b-> ∀c:Int,((N[k]!).2.1=c\/(N[k]!).2.2=c)->c= -1\/ ∃j:Nat,c=(j:Int)/\a<=j/\j<b/\j≠k/\P k j/\r≠c:=by
 induction h with
 |nil h=>intro k h1 h2;omega
 | @node a b i h l r ihl ihr=>
  have lo:=h.lo;have hi:=h.hi;intro k h1 h2 c hc;rcases Nat.lt_trichotomy k i with q|q|q
  · rcases ihl k h1 q c hc with e|⟨j,e,j1,j2,j3,j4,_⟩
    · exact .inl e
    · exact .inr ⟨j,e,j1,by omega,j3,j4,by rw [e];omega⟩
  · subst q
    rcases hc with hc|hc
    · rcases l.link with ⟨_,e⟩|⟨j,e,j1,j2⟩
      · exact .inl (hc▸e)
      · exact .inr ⟨j,hc▸e,j1,by omega,by omega,h.top j j1 (by omega) (by omega),by rw [<- hc,e];omega⟩
    · rcases r.link with ⟨_,e⟩|⟨j,e,j1,j2⟩
      · exact .inl (hc▸e)
      · exact .inr ⟨j,hc▸e,by omega,j2,by omega,h.top j (by omega) j2 (by omega),by rw [<- hc,e];omega⟩
  · rcases ihr k (by omega) h2 c hc with e|⟨j,e,j1,j2,j3,j4,_⟩
    · exact .inl e
    · exact .inr ⟨j,e,by omega,j2,j3,j4,by rw [e];omega⟩
theorem mJ.up {P:Nat->Nat->Prop} {N:List Nd} {a b:Nat} {r:Int} (h:mJ P N a b r): ∀k:Nat,a<=k->k<b->(k:Int)≠r-> ∃j,a<=j/\j<b/\((N[j]!).2.1=(k:Int)\/(N[j]!).2.2=(k:Int))/\ ∀m,a<=m->m<b->((N[m]!).2.1=(k:Int)\/(N[m]!).2.2=(k:Int))->m=j:=by
 induction h with
 |nil h=>intro k h1 h2;omega
 | @node a b i h l r ihl ihr=>
  have lo:=h.lo;have hi:=h.hi;have lk:=l.kids;have rk:=r.kids;intro k h1 h2 hne;have hki:k≠i:=fun e=>hne (by rw [e])
  rcases Nat.lt_or_ge k i with q|q
  · by_cases er:(k:Int)=(N[i]!).2.1
    · refine ⟨i,lo,hi,.inl er.symm,fun m m1 m2 hm=>?_⟩
      rcases Nat.lt_trichotomy m i with w|w|w
      · rcases lk m m1 w _ hm with e|⟨j,e,_,_,_,_,hr⟩
        · omega
        · exact absurd er.symm hr
      · exact w
      · rcases rk m (by omega) m2 _ hm with e|⟨j,e,j1,_⟩<;>omega
    · obtain ⟨j,j1,j2,j3,j4⟩:=ihl k h1 q er
      refine ⟨j,j1,by omega,j3,fun m m1 m2 hm=>?_⟩
      rcases Nat.lt_trichotomy m i with w|w|w
      · exact j4 m m1 w hm
      · subst w
        rcases hm with hm|hm
        · exact absurd hm.symm er
        · rcases r.link with ⟨_,e⟩|⟨p,e,p1,p2⟩<;>omega
      · rcases rk m (by omega) m2 _ hm with e|⟨p,e,p1,_⟩<;>omega
  · by_cases er:(k:Int)=(N[i]!).2.2
    · refine ⟨i,lo,hi,.inr er.symm,fun m m1 m2 hm=>?_⟩
      rcases Nat.lt_trichotomy m i with w|w|w
      · rcases lk m m1 w _ hm with e|⟨j,e,_,j2,_⟩<;>omega
      · exact w
      · rcases rk m (by omega) m2 _ hm with e|⟨j,e,_,_,_,_,hr⟩
        · omega
        · exact absurd er.symm hr
    · obtain ⟨j,j1,j2,j3,j4⟩:=ihr k (by omega) h2 er
      refine ⟨j,by omega,j2,j3,fun m m1 m2 hm=>?_⟩
      rcases Nat.lt_trichotomy m i with w|w|w
      · rcases lk m m1 w _ hm with e|⟨p,e,_,p2,_⟩<;>omega
      · subst w
        rcases hm with hm|hm
        · rcases l.link with ⟨_,e⟩|⟨p,e,p1,p2⟩<;>omega
        · exact absurd hm.symm er
      · exact j4 m (by omega) m2 hm
end Go.Proofs.YthljmpcakagceaaGreat
namespace Go.Proofs.YthljmpcakagceaaGreat
inductive yB (P:Nat->Nat->Prop) (N:List Nd):Nat->Nat->Int->List Nat->Prop
 |nil {a b:Nat} (h:b<=a):yB P N a b (-1) []
 |cons {a b k:Nat} {es:List Nat} (h:CE P a b k) (l:mJ P N a k (N[k]!).2.1) (r:yB P N (k+1) b (N[k]!).2.2 es):yB P N a b (k:Int) (k::es)
theorem yB.tree {P:Nat->Nat->Prop} {N:List Nd} {a b:Nat} {r:Int} {es:List Nat} (h:yB P N a b r es):mJ P N a b r:=by
 induction h with
 |nil h=>exact .nil h
 |cons h l r ih=>exact .node h l ih
theorem yB.mem {P:Nat->Nat->Prop} {N:List Nd} {a b:Nat} {r:Int} {es:List Nat} (h:yB P N a b r es): ∀e∈es,a<=e/\e<b:=by
 induction h with
 |nil h=>intro e he;cases he
 |cons h l r ih=>
  intro e he;have lo:=h.lo;have hi:=h.hi;rcases List.mem_cons.1 he with rfl|he
  · exact ⟨lo,hi⟩
  · have:=ih e he;omega
theorem gH {α:Type} [Inhabited α] (x:α) (l:List α) (i:Nat):(x::l)[i+1]! =l[i]!:=by simp
theorem nL {α:Type} [Inhabited α] (x:α) (l:List α):(x::l)[0]! =x:=by simp
theorem yB.chain {P:Nat->Nat->Prop} {N:List Nd} {a b:Nat} {r:Int} {es:List Nat} (h:yB P N a b r es): ∀i j,i<j->j<es.length->P es[i]! es[j]!:=by
 induction h with
 |nil h=>intro i j _ hj;cases hj
 | @cons a b k es h l r ih=>
  intro i j hij hj;cases j with
  |zero=>omega
  |succ j=>
   rw [gH];have hj:j<es.length:=by simpa using hj
   cases i with
   |zero=>
    rw [nL]
    have:=r.mem es[j]! (bB hj)
    exact h.top _ (by have:=h.lo;omega) this.2 (by omega)
   |succ i=>rw [gH];exact ih i j (by omega) hj
theorem yB.add {P:Nat->Nat->Prop} {N N':List Nd} {n:Nat} (o:aCB P n) {a b:Nat} {r:Int} {es:List Nat} (h:yB P N a b r es): ∀m,a<=b->b<n->m<=es.length->(∀j,j<m->P es[j]! b)->(∀j,m<=j->j<es.length-> ¬P es[j]! b)->
 (N'[b]!).2.1=(if m<es.length then (es[m]!:Int) else -1)->(N'[b]!).2.2= -1->
 (∀k,a<=k->k<b->(N'[k]!).2.1=(N[k]!).2.1/\((0<m/\k=es[m-1]!)->(N'[k]!).2.2=(b:Int))/\(¬(0<m/\k=es[m-1]!)->(N'[k]!).2.2=(N[k]!).2.2))->
 yB P N' a (b+1) (if m=0 then (b:Int) else r) (es.take m++[b]):=by
 induction h with
 | @nil a b h=>
  intro m hab hb hm _ _ hl hr _
  have:m=0:=by simpa using hm
  subst this;rw [if_pos rfl];have hl:(N'[b]!).2.1= -1:=hl;refine .cons ⟨hab,by omega,fun j h1 h2 h3=>by omega⟩ ?_ ?_
  · rw [hl];exact .nil h
  · rw [hr];exact .nil (by omega)
 | @cons a b k es h l r ih=>
  intro m hab hb hm hP hN hl hr hf;have lo:=h.lo;have hi:=h.hi;cases m with
  |zero=>
   rw [if_pos rfl];have hl:(N'[b]!).2.1=(k:Int):=by rw [hl,if_pos (by simp)];rfl
   have t:mJ P N a b (k:Int):= .node h l r.tree;have nk: ¬P k b:=hN 0 (Nat.le_refl _) (by simp)
   have kb:P b k:=o.tot k b (by omega) hb (by omega) nk
   refine .cons ⟨hab,by omega,fun j h1 h2 h3=>?_⟩ ?_ ?_
   · by_cases e:j=k
     · rw [e];exact kb
     · exact o.tr b k j hb (by omega) (by omega) kb (h.top j h1 (by omega) e)
   · rw [hl]
     refine t.frame fun j h1 h2=>?_
     obtain ⟨f1,_,f3⟩:=hf j h1 h2;exact Prod.ext f1.symm (f3 (by omega)).symm
   · rw [hr];exact .nil (by omega)
  |succ m=>
   rw [if_neg (by omega)]
   have hm:m<=es.length:=by simpa using hm
   have pk:P k b:=by have:=hP 0 (by omega);rwa [nL] at this
   have mem:=r.mem;have top:CE P a (b+1) k:=⟨lo,by omega,fun j h1 h2 h3=>by
    by_cases e:j=b
    · rw [e];exact pk
    · exact h.top j h1 (by omega) h3⟩
   have lt:mJ P N' a k (N'[k]!).2.1:=by
    rw [(hf k lo hi).1];refine l.frame fun j h1 h2=>?_
    obtain ⟨f1,_,f3⟩:=hf j h1 (by omega)
    refine Prod.ext f1.symm (f3 (fun q=>?_)).symm
    have q2:=q.2;cases m with
    |zero=>rw [show 0+1-1=0 from rfl,nL] at q2;omega
    |succ m=>
     rw [show m+1+1-1=m+1 from rfl,gH] at q2
     have:=mem es[m]! (bB (by omega));omega
   have rt:=ih m (by omega) hb hm (fun j hj=>by have:=hP (j+1) (by omega);rwa [gH] at this) (fun j h1 h2=>by have:=hN (j+1) (by omega) (by simpa using h2);rwa [gH] at this)
    (by
     rw [hl]
     by_cases q:m<es.length
     · rw [if_pos q,if_pos (by simpa using q),gH]
     · rw [if_neg q,if_neg (by simpa using q)]) hr (fun j h1 h2=>by
     obtain ⟨f1,f2,f3⟩:=hf j (by omega) h2
     refine ⟨f1,fun q=>f2 ⟨by omega,?_⟩,fun q=>f3 (fun w=>q ?_)⟩
     · obtain ⟨q1,q2⟩:=q
       rw [show m+1-1=(m-1)+1 by omega,gH];exact q2
     · obtain ⟨_,w2⟩:=w
       cases m with
       |zero=>rw [show 0+1-1=0 from rfl,nL] at w2;omega
       |succ m=>rw [show m+1+1-1=m+1 from rfl,gH] at w2;exact ⟨by omega,w2⟩)
   rw [show (k::es).take (m+1)++[b]=k::(es.take m++[b]) from rfl];refine .cons top lt ?_;obtain ⟨_,f2,f3⟩:=hf k lo hi
   by_cases m0:m=0
   · subst m0
     rw [if_pos rfl] at rt;rw [f2 ⟨by omega,by rw [show 0+1-1=0 from rfl,nL]⟩]
     exact rt
   · rw [if_neg m0] at rt
     rw [f3 (fun w=>?_)]
     · exact rt
     · have w2:=w.2
       rw [show m+1-1=(m-1)+1 by omega,gH] at w2
       have:=mem es[m-1]! (bB (by omega));omega
end Go.Proofs.YthljmpcakagceaaGreat
namespace Go.Proofs.YthljmpcakagceaaGreat
open Go.Vm Classical
def NX (f:List Pt) (t:Int×Int) (i j:Nat):Prop:=dV f[i]! f[j]! t
theorem uD {p q:Pt} {t:Int×Int} (h:dV p q t): ¬dV q p t:=by
 unfold dV at*;rw [RE] at*;generalize p.2.1*t.2+p.2.2*t.1=a at*;generalize q.2.1*t.2+q.2.2*t.1=b at*;omega
theorem KV {f:List Pt} (h:hG f) (t:Int×Int):aCB (NX f t) f.length where
 tr:=fun _ _ _ _ _ _ h1 h2=>DV h1 h2
 asy:=fun _ _ _ _ h=>uD h
 tot:=fun _ _ hi hj hne hn=>yA t (fun e=>hne (oV h hi hj e)) hn
structure fQ (f:List Pt) (t:Int×Int) (N:List Nd) (r:Int):Prop where
 len:N.length=f.length
 ids: ∀k,k<f.length->(N[k]!).1=(f[k]!).1
 tree:mJ (NX f t) N 0 f.length r
theorem fQ.same {f:List Pt} (h:hG f) {t:Int×Int} {N N':List Nd} {r r':Int} (a:fQ f t N r) (b:fQ f t N' r'):N=N'/\r=r':=by
 obtain ⟨e1,e2⟩:=a.tree.unique (KV h t) (Nat.le_refl _) b.tree;refine ⟨DI (by rw [a.len,b.len]) fun k hk=>?_,e1⟩
 have hk:k<f.length:=by rw [<- a.len];exact hk
 exact Prod.ext (by rw [a.ids k hk,b.ids k hk]) (e2 k (Nat.zero_le _) hk)
def Below (N:List Nd) (k j:Nat):Prop:=(N[j]!).2.1=(k:Int)\/(N[j]!).2.2=(k:Int)
noncomputable def mS (N:List Nd) (k:Nat):Nat:=if h: ∃j,j<N.length/\Below N k j then h.choose else N.length
noncomputable def DW (N:List Nd) (k:Nat):List (Int×Int):=if mS N k<N.length then [((N[k]!).1,(N[mS N k]!).1)] else []
noncomputable def bL (N:List Nd):Nat->List (Int×Int)
 |0=>[]
 |k+1=>bL N k++DW N k
theorem oX (N:List Nd): ∀k,(bL N k).length<=k
 |0=>Nat.le_refl _
 |k+1=>by
  have:=oX N k
  rw [bL,List.length_append];unfold DW;split
  · simp only [List.length_singleton];omega
  · simp only [List.length_nil];omega
theorem BT {N:List Nd}: ∀{n:Nat} {e:Int×Int},e∈bL N n↔ ∃k,k<n/\mS N k<N.length/\e=((N[k]!).1,(N[mS N k]!).1)
 |0,e=>by
  constructor
  · intro h;cases h
  · rintro ⟨k,h,_⟩;omega
 |n+1,e=>by
  rw [bL,List.mem_append,BT];constructor
  · rintro (⟨k,h1,h2⟩|h)
    · exact ⟨k,by omega,h2⟩
    · unfold DW at h
      split at h
      · exact ⟨n,by omega,by assumption,List.mem_singleton.1 h⟩
      · cases h
  · rintro ⟨k,h1,h2,h3⟩
    by_cases q:k=n
    · subst q
      right;unfold DW;rw [if_pos h2,h3];exact List.mem_singleton.2 rfl
    · exact .inl ⟨k,by omega,h2,h3⟩
section
variable {f : List Pt} {t : Int × Int} {N : List Nd} {r : Int}
theorem fQ.par (h:fQ f t N r) {k:Nat} (hk:k<f.length):((k:Int)=r->mS N k=N.length)/\((k:Int)≠r->mS N k<N.length/\Below N k (mS N k)/\mS N k≠k/\NX f t (mS N k) k)/\ ∀m,m<N.length->Below N k m->m=mS N k:=by
 have ln:=h.len
 by_cases hr:(k:Int)=r
 · have none: ¬ ∃j,j<N.length/\Below N k j:=by
    rintro ⟨j,hj,hb⟩;rcases h.tree.kids j (Nat.zero_le _) (by omega) (k:Int) hb with e|⟨_,_,_,_,_,_,e⟩
    · omega
    · exact e hr.symm
   have e:mS N k=N.length:=by unfold mS;rw [dif_neg none]
   exact ⟨fun _=>e,fun q=>absurd hr q,fun m hm hb=>absurd ⟨m,hm,hb⟩ none⟩
 · obtain ⟨j,_,j2,j3,j4⟩:=h.tree.up k (Nat.zero_le _) hk hr
   have ex: ∃j,j<N.length/\Below N k j:=⟨j,by omega,j3⟩
   have e:mS N k=j:=by
    unfold mS;rw [dif_pos ex]
    have:=ex.choose_spec
    exact j4 _ (Nat.zero_le _) (by omega) this.2
   refine ⟨fun q=>absurd q hr,fun _=>?_,fun m hm hb=>by rw [e];exact j4 m (Nat.zero_le _) (by omega) hb⟩
   rw [e];refine ⟨by omega,j3,?_,?_⟩
   · rcases h.tree.kids j (Nat.zero_le _) j2 (k:Int) j3 with q|⟨i,q,_,_,q2,_⟩
     · omega
     · intro w;omega
   · rcases h.tree.kids j (Nat.zero_le _) j2 (k:Int) j3 with q|⟨i,q,_,_,_,q2,_⟩
     · omega
     · have:i=k:=by omega
       rw [<- this];exact q2
theorem fQ.edges (fok:cB f) (h:fQ f t N r):KU f (bL N f.length)/\(bL N f.length).Nodup/\ ∀e∈bL N f.length,dV (iV f e.2) (iV f e.1) t:=by
 have ln:=h.len;have f1:=fok.1;have inf: ∀e∈bL N f.length,∃k j,k<f.length/\j<f.length/\j≠k/\NX f t j k/\e=((f[k]!).1,(f[j]!).1):=by
  intro e he;obtain ⟨k,k1,k2,k3⟩:=BT.1 he;have hp:=h.par k1;have hr:(k:Int)≠r:=fun q=>by have:=hp.1 q;omega
  obtain ⟨p1,p2,p3,p4⟩:=hp.2.1 hr;exact ⟨k,mS N k,k1,by omega,p3,p4,by rw [k3,h.ids k k1,h.ids (mS N k) (by omega)]⟩
 have hb: ∀e∈bL N f.length,hJ f e:=fun e he=>by
  obtain ⟨k,j,k1,j1,_,_,rfl⟩:=inf e he;exact ⟨⟨k,k1,rfl⟩,⟨j,j1,rfl⟩⟩
 refine ⟨⟨Nat.le_trans (oX N _) (by omega),fun e he=>?_,hb⟩,?_,fun e he=>?_⟩
 · obtain ⟨⟨p1,p2⟩,q1,q2⟩:=And.intro (gC fok (hb e he).1) (gC fok (hb e he).2)
   obtain ⟨k,j,k1,j1,ne,_,rfl⟩:=inf e he
   have:(f[k]!).1≠(f[j]!).1:=fun q=>ne (oV fok.2.2 k1 j1 q).symm
   unfold gO at p1 q1;unfold fA;dsimp only at*;omega
 · have go: ∀n,n<=f.length->(bL N n).Nodup:=by
    intro n
    induction n with
    |zero=>exact fun _=>List.nodup_nil
    |succ n ih=>
     intro hn;rw [bL,List.nodup_append];refine ⟨ih (by omega),?_,fun x hx y hy e=>?_⟩
     · unfold DW;split
       · exact List.nodup_cons.2 ⟨List.not_mem_nil,List.nodup_nil⟩
       · exact List.nodup_nil
     · subst e
       obtain ⟨k,k1,_,k3⟩:=BT.1 hx;unfold DW at hy;split at hy
       · have hy:=List.mem_singleton.1 hy
         rw [k3] at hy;have e1:(N[k]!).1=(N[n]!).1:=(Prod.mk.inj hy).1;rw [h.ids k (by omega),h.ids n (by omega)] at e1
         have:=oV fok.2.2 (by omega) (by omega) e1
         omega
       · cases hy
   exact go _ (Nat.le_refl _)
 · obtain ⟨k,j,k1,j1,_,p,rfl⟩:=inf e he
   rw [xZ fok.2.2 j1 rfl,xZ fok.2.2 k1 rfl];exact p
end
end Go.Proofs.YthljmpcakagceaaGreat
namespace Go.Proofs.YthljmpcakagceaaGreat
open Go.Vm Classical
theorem aO1 {f:List Pt} (fok:cB f) {t:Int×Int} (r:bM t) (r64:mU t) {i j:Nat} (hi:i<f.length) (hj:j<f.length) (hne:i≠j):jX f[i]! f[j]! t=some (decide (NX f t i j),0):=by
 have ne:(f[i]!).1≠(f[j]!).1:=fun h=>hne (oV fok.2.2 hi hj h)
 rcases CD (fok.2.1 _ (bB hi)) (fok.2.1 _ (bB hj)) r64 r with h|⟨h,_⟩
 · rw [h,if_neg ne];rfl
 · exact absurd h ne
def eI (es:List Nat):List Int:=es.map fun e:Nat=>(e:Int)
theorem Y0 (E:List Int) (m:Nat) (x:Int) (h:m+1<=E.length):(hM E m [x]).length=E.length:=by
 unfold hM;simp only [List.length_append,List.length_take,List.length_drop,List.length_singleton];omega
theorem aCC (es:List Nat):(eI es).length=es.length:=List.length_map ..
theorem aJq (es:List Nat) {j:Nat} (h:j<es.length):(eI es)[j]! =(es[j]!:Int):=by
 rw [getElem!_pos (eI es) j (by rw [aCC];exact h),getElem!_pos es j h]
 exact List.getElem_map ..
theorem Y1 (es:List Nat) (m:Nat):eI (es.take m)=(eI es).take m:=List.map_take ..
def o2 (f:List Pt) (t:Int×Int) (e c:Nat) (i:Nat) (root:Int) (N:List Nd) (E:List Int):=
 (e,c,f,(f.length:Int),(i:Int),f,t.1,t.2,(0:Int),root,N,E)
def o1 (f:List Pt) (t:Int×Int) (e c:Nat) (i:Nat) (root:Int) (N:List Nd) (E:List Int) (left:Int):=
 (e,c,(i:Int),f,(f.length:Int),(i:Int),f,t.1,t.2,(0:Int),root,N,E,(f[i]!).1,(f[i]!).2.1,(f[i]!).2.2,(f[i]!).1,left,(-1:Int))
def zH (f:List Pt) (N:List Nd) (es:List Nat) (i m:Nat):List Nd:=
 (if m=0 then N else N.set es[m-1]! ((N[es[m-1]!]!).1,(N[es[m-1]!]!).2.1,(i:Int)))++[((f[i]!).1,if m<es.length then (es[m]!:Int) else -1,-1)]
theorem aRA {f:List Pt} (fok:cB f) {t:Int×Int} (r:bM t) (r64:mU t) {i:Nat} (hi:i<f.length) {es:List Nat} (hes: ∀e∈es,e<i) {N:List Nd} (hN:N.length=i) {root:Int} {E:List Int} (hE:E.take es.length=eI es) (le:es.length<=E.length) (lE:E.length<=1000):
 ∀(e:Nat),e<=es.length->(∀j,e<=j->j<es.length-> ¬NX f t es[j]! i)->
  ∃(m:Nat) (E':List Int),m<=e/\(0<m->NX f t es[m-1]! i)/\(∀j,m<=j->j<es.length-> ¬NX f t es[j]! i)/\E'.take (m+1)=eI (es.take m++[i])/\m+1<=E'.length/\E'.length<=E.length+1/\
   aH qB (o1 f t e E.length i root N E (if e<es.length then (es[e]!:Int) else -1))=some (.next (o2 f t (m+1) E'.length (i+1) (if m=0 then (i:Int) else root) (zH f N es i m) E')):=by
 have f1:=fok.1;have sc:=bC (show i<1000000000 by omega)
 have put: ∀m,m<=es.length-> ∃E':List Int,E'.take (m+1)=eI (es.take m++[i])/\m+1<=E'.length/\E'.length<=E.length+1/\
  ((m+1<=E.length->E'=hM E m [(i:Int)])/\(¬m+1<=E.length->E'=E.take m++[(i:Int)])):=by
  intro m hm;have tm:E.take m=eI (es.take m):=by rw [Y1,<- hE,List.take_take,Nat.min_eq_left hm]
  have ei:eI (es.take m++[i])=eI (es.take m)++[(i:Int)]:=List.map_append ..;have lm:(E.take m++[(i:Int)]).length=m+1:=by rw [List.length_append,List.length_take,List.length_singleton];omega
  by_cases h:m+1<=E.length
  · refine ⟨hM E m [(i:Int)],?_,?_,?_,fun _=>rfl,fun q=>absurd h q⟩
    · unfold hM
      rw [ei,<- tm,List.take_append_of_le_length (by omega),List.take_of_length_le (by omega)]
    · unfold hM;rw [List.length_append];omega
    · unfold hM;rw [List.length_append,lm,List.length_drop,List.length_singleton];omega
  · refine ⟨E.take m++[(i:Int)],?_,by omega,by omega,fun q=>absurd q h,fun _=>rfl⟩
    rw [List.take_of_length_le (by omega),ei,tm]
 have en: ∀(s:Nat),([(i:Int)]:List Int).length=1:=fun _=>rfl
 have ble_t: ∀{a b:Nat},a<=b->Nat.ble a b=true:=fun h=>Nat.ble_eq_true_of_le h
 have ble_f: ∀{a b:Nat},¬a<=b->Nat.ble a b=false:=fun h=>by
  cases hb:Nat.ble _ _ with
  |false=>rfl
  |true=>exact absurd (Nat.le_of_ble_eq_true hb) h
 intro e
 induction e with
 |zero=>
  intro _ hall;obtain ⟨E',e1,e2,e3,e4,e5⟩:=put 0 (Nat.zero_le _);refine ⟨0,E',Nat.le_refl _,fun h=>absurd h (Nat.lt_irrefl _),hall,e1,e2,e3,aL ?_⟩
  have ap: ∀x:Nd,bK N [x]=some (N++[x]):=fun x=>dN (by rw [List.length_singleton];omega)
  have ap2:bK (E.take 0) [(i:Int)]=some (E.take 0++[(i:Int)]):=dN (by rw [List.length_singleton,List.length_take];omega)
  unfold qB o1 o2 zH
  by_cases h:0+1<=E.length
  · simp only [aF,aI (show¬(0:Int)<((0:Nat):Int) by omega),cond_false,ap,aB,List.length_singleton,ble_t h,cond_true,Bool.not_false,Bool.and_self,sc,e4 h,if_true]
    rw [Y0 _ _ _ h]
  · simp only [aF,aI (show¬(0:Int)<((0:Nat):Int) by omega),cond_false,ap,aB,List.length_singleton,ble_f h,ap2,ble_t (Nat.zero_le E.length),cond_true,sc,e5 h,if_true]
    rfl
 |succ e ih=>
  intro he hall;have tk:E.take (e+1)=eI (es.take (e+1)):=by rw [Y1,<- hE,List.take_take,Nat.min_eq_left he]
  have lt:(eI (es.take (e+1))).length=e+1:=by rw [aCC,List.length_take];omega
  have ge:aO (E.take (e+1)) ((e:Nat):Int)=some (es[e]!:Int):=by
   rw [tk,aC _ e (by omega),aJq _ (by rw [List.length_take];omega),lH (by omega)]
  have ew:aA .i64 (((e+1:Nat):Int) -1)=((e:Nat):Int):=by rw [B9 ⟨by omega,by omega⟩];omega
  have eb:es[e]!<i:=hes _ (bB (by omega))
  have gp:=aC f es[e]! (by omega)
  have ah:=aO1 fok (t:=(t.1,t.2)) r r64 (i:=es[e]!) (j:=i) (by omega) hi (by omega)
  have gn:=aC N es[e]! (by omega)
  have peta:((f[i]!).1,(f[i]!).2.1,(f[i]!).2.2)=f[i]!:=rfl
  by_cases c:NX f t es[e]! i
  · rw [show decide (NX f (t.1,t.2) es[e]! i)=true from aM c] at ah
    obtain ⟨E',e1,e2,e3,e4,e5⟩:=put (e+1) he;refine ⟨e+1,E',Nat.le_refl _,fun _=>c,hall,e1,e2,e3,aL ?_⟩
    have ap: ∀(y x:Nd),bK (N.set es[e]! y) [x]=some (N.set es[e]! y++[x]):=fun y x=>dN (by rw [List.length_singleton,List.length_set];omega)
    have ap2:bK (E.take (e+1)) [(i:Int)]=some (E.take (e+1)++[(i:Int)]):=dN (by rw [List.length_singleton,List.length_take];omega)
    unfold qB o1 o2 zH;rw [show e+1-1=e from rfl,if_neg (Nat.succ_ne_zero e),if_neg (Nat.succ_ne_zero e)]
    by_cases h:e+1+1<=E.length
    · simp only [aF,aM (show (0:Int)<((e+1:Nat):Int) by omega),cond_true,ew,ge,aB,gp,peta,ah,gn,mH,ap,List.length_singleton,ble_t h,Bool.not_false,Bool.and_self,sc,e4 h]
      rw [Y0 _ _ _ h]
    · simp only [aF,aM (show (0:Int)<((e+1:Nat):Int) by omega),cond_true,ew,ge,aB,gp,peta,ah,gn,mH,ap,List.length_singleton,ble_f h,cond_false,ap2,ble_t (show e+1<=E.length by omega),sc,e5 h]
      rw [show (E.take (e+1)++[(i:Int)]).length=e+1+1 from by rw [List.length_append,List.length_take,List.length_singleton];omega]
  · rw [show decide (NX f (t.1,t.2) es[e]! i)=false from aI c] at ah
    obtain ⟨m,E',h1,h2,h3,h4,h5,h6,h7⟩:=ih (by omega) (fun j j1 j2=>by
     by_cases q:j=e
     · rw [q];exact c
     · exact hall j (by omega) j2)
    refine ⟨m,E',by omega,h2,h3,h4,h5,h6,?_⟩
    rw [if_pos (show e<es.length by omega)] at h7
    rw [<- h7];refine aX ?_;unfold qB o1;simp only [aF,aM (show (0:Int)<((e+1:Nat):Int) by omega),cond_true,ew,ge,aB,gp,peta,ah,cond_false,aM (show (0:Int)<=((e:Nat):Int) by omega),aM (show ((e:Nat):Int)<=(E.length:Int) by omega),Bool.and_self,Int.toNat_natCast]
end Go.Proofs.YthljmpcakagceaaGreat
namespace Go.Proofs.YthljmpcakagceaaGreat
open Go.Vm Classical
theorem aJr {f:List Pt} {N:List Nd} {es:List Nat} {i m:Nat} (hN:N.length=i) (hes: ∀e∈es,e<i) (hm:m<=es.length):
 (zH f N es i m).length=i+1/\(zH f N es i m)[i]! =((f[i]!).1,if m<es.length then (es[m]!:Int) else -1,-1)/\
 ∀k,k<i->((zH f N es i m)[k]!).1=(N[k]!).1/\((zH f N es i m)[k]!).2.1=(N[k]!).2.1/\((0<m/\k=es[m-1]!)->((zH f N es i m)[k]!).2.2=(i:Int))/\(¬(0<m/\k=es[m-1]!)->((zH f N es i m)[k]!).2.2=(N[k]!).2.2):=by
 unfold zH
 by_cases m0:m=0
 · rw [if_pos m0]
   refine ⟨by rw [List.length_append,hN];rfl,?_,fun k hk=>?_⟩
   · rw [gZ (by omega),hN,Nat.sub_self];rfl
   · rw [gV (by omega)]
     exact ⟨rfl,rfl,fun q=>by omega,fun _=>rfl⟩
 · rw [if_neg m0]
   have hb:=hes _ (bB (show m-1<es.length by omega))
   refine ⟨by rw [List.length_append,List.length_set,hN];rfl,?_,fun k hk=>?_⟩
   · rw [gZ (by rw [List.length_set];omega),List.length_set,hN,Nat.sub_self];rfl
   · rw [gV (by rw [List.length_set];omega),bG]
     by_cases q:k=es[m-1]!
     · rw [if_pos ⟨q,by omega⟩,q]
       exact ⟨rfl,rfl,fun _=>rfl,fun w=>absurd ⟨by omega,rfl⟩ w⟩
     · rw [if_neg (fun w=>q w.1)]
       exact ⟨rfl,rfl,fun w=>absurd w.2 q,fun _=>rfl⟩
theorem aRB {f:List Pt} (fok:cB f) {t:Int×Int} (r:bM t) (r64:mU t): ∀(d i:Nat) (es:List Nat) (N:List Nd) (root:Int) (E:List Int),f.length-i<=d->i<=f.length->N.length=i->(∀k,k<i->(N[k]!).1=(f[k]!).1)->
 yB (NX f t) N 0 i root es->E.take es.length=eI es->es.length<=E.length->E.length<=i->
 ∃(root':Int) (N':List Nd),aH nQ (o2 f t es.length E.length i root N E)=some (⟨root',N'⟩,0)/\fQ f t N' root':=by
 have f1:=fok.1;have fin: ∀(es:List Nat) (N:List Nd) (root:Int) (E:List Int),N.length=f.length->(∀k,k<f.length->(N[k]!).1=(f[k]!).1)->yB (NX f t) N 0 f.length root es->
  ∃(root':Int) (N':List Nd),aH nQ (o2 f t es.length E.length f.length root N E)=some (⟨root',N'⟩,0)/\fQ f t N' root':=fun es N root E h1 h2 h3=>
  ⟨root,N,aL (by
   unfold nQ o2;simp only [aI (show¬(f.length:Int)<(f.length:Int) by omega),cond_false]),⟨h1,h2,h3.tree⟩⟩
 intro d
 induction d with
 |zero=>
  intro i es N root E hd hi h1 h2 h3 _ _ _
  have:i=f.length:=by omega
  subst this;exact fin es N root E h1 h2 h3
 |succ d ih=>
  intro i es N root E hd hi h1 h2 h3 h4 h5 h6
  by_cases he:i=f.length
  · subst he;exact fin es N root E h1 h2 h3
  have hi':i<f.length:=by omega
  have o:=KV fok.2.2 t;have mem:=h3.mem;have hes: ∀e∈es,e<i:=fun e he=>(mem e he).2
  obtain ⟨m,E',m1,m2,m3,m4,m5,m6,m7⟩:=aRA fok r r64 hi' hes h1 (root:=root) h4 h5 (by omega) es.length (Nat.le_refl _) (fun j j1 j2=>by omega)
  rw [if_neg (Nat.lt_irrefl _)] at m7;have st:nQ (o2 f t es.length E.length i root N E)=some (.next (o2 f t (m+1) E'.length (i+1) (if m=0 then (i:Int) else root) (zH f N es i m) E')):=by
   unfold nQ
   conv=>lhs;unfold o2
   simp only [aM (show (i:Int)<(f.length:Int) by omega),cond_true,aC f i hi',aB]
   exact m7
  obtain ⟨a1,a2,a3⟩:=aJr (f:=f) h1 hes m1;have sp:=h3.add o (N':=zH f N es i m) m (Nat.zero_le _) hi' m1 (fun j hj=>by
   by_cases q:j=m-1
   · rw [q];exact m2 (by omega)
   · have hj':=hes _ (bB (show j<es.length by omega))
     have hm':=hes _ (bB (show m-1<es.length by omega))
     exact o.tr _ es[m-1]! _ (by omega) (by omega) hi' (h3.chain j (m-1) (by omega) (by omega)) (m2 (by omega))) m3
   (by rw [a2]) (by rw [a2]) (fun k _ hk=>by
    obtain ⟨_,b2,b3,b4⟩:=a3 k hk;exact ⟨b2,b3,b4⟩)
  have le:(es.take m++[i]).length=m+1:=by rw [List.length_append,List.length_take,List.length_singleton];omega
  rw [aX st]
  have:=ih (i+1) (es.take m++[i]) (zH f N es i m) (if m=0 then (i:Int) else root) E' (by omega) (by omega) a1 (fun k hk=>by
   by_cases q:k=i
   · rw [q,a2]
   · rw [(a3 k (by omega)).1];exact h2 k (by omega)) sp (by rw [le];exact m4) (by rw [le];exact m5) (by omega)
  rw [le] at this;exact this
theorem Y2 {f:List Pt} (fok:cB f) {t:Int×Int} (r:bM t) (r64:mU t): ∃(root:Int) (N:List Nd),zX ⟨f⟩ t=some (⟨root,N⟩,0)/\fQ f t N root:=by
 obtain ⟨root,N,h1,h2⟩:=aRB fok r r64 f.length 0 [] [] (-1) [] (by omega) (by omega) rfl (fun k hk=>by omega) (.nil (Nat.le_refl _)) rfl (Nat.le_refl _) (Nat.le_refl _)
 refine ⟨root,N,?_,h2⟩;have hc:eK ⟨f⟩=some 0:=by rw [lJ];exact congrArg some (lT.2 fok)
 unfold zX A5;rw [hc,aB,dR rfl,cond_false,dU r64,if_pos r,aB,aB,dR rfl,cond_false];exact h1
theorem aO2 {f:List Pt} (fok:cB f) {t:Int×Int} (r64:mU t) {a b:Nat} (hb:b<=f.length): ∀(d j best:Nat),b-j<=d->j<=b->CE (NX f t) a j best-> ∃i:Nat,aH kB ((b:Int),(best:Int),(j:Int),f,t)=some (i:Int)/\CE (NX f t) a b i:=by
 have f1:=fok.1;have o:=KV fok.2.2 t;have fin: ∀best:Nat,CE (NX f t) a b best-> ∃i:Nat,aH kB ((b:Int),(best:Int),(b:Int),f,t)=some (i:Int)/\CE (NX f t) a b i:=fun best h=>⟨best,aL (by
  unfold kB;simp only [aI (show¬(b:Int)<(b:Int) by omega),cond_false]),h⟩
 intro d
 induction d with
 |zero=>
  intro j best hd hj h
  have:j=b:=by omega
  subst this;exact fin best h
 |succ d ih=>
  intro j best hd hj h
  by_cases he:j=b
  · subst he;exact fin best h
  have h1:=h.lo;have h2:=h.hi;have sc:=bC (show j<1000000000 by omega)
  have ld:=HG (fok.2.1 _ (bB (show j<f.length by omega))) (fok.2.1 _ (bB (show best<f.length by omega))) r64
  by_cases c:NX f t j best
  · rw [show decide (dV f[j]! f[best]! t)=true from aM c] at ld
    rw [aX (y:=((b:Int),(j:Int),((j+1:Nat):Int),f,t)) (by
     unfold kB;simp only [aM (show (j:Int)<(b:Int) by omega),cond_true,aI (show¬(best:Int)<0 by omega),cond_false,aC f j (by omega),aC f best (by omega),aB,ld,sc])]
    refine ih (j+1) j (by omega) (by omega) ⟨by omega,by omega,fun k k1 k2 k3=>?_⟩
    by_cases q:k=best
    · rw [q];exact c
    · exact o.tr j best k (by omega) (by omega) (by omega) c (h.top k k1 (by omega) q)
  · rw [show decide (dV f[j]! f[best]! t)=false from aI c] at ld
    rw [aX (y:=((b:Int),(best:Int),((j+1:Nat):Int),f,t)) (by
     unfold kB;simp only [aM (show (j:Int)<(b:Int) by omega),cond_true,aI (show¬(best:Int)<0 by omega),cond_false,aC f j (by omega),aC f best (by omega),aB,ld,sc])]
    refine ih (j+1) best (by omega) (by omega) ⟨h1,by omega,fun k k1 k2 k3=>?_⟩
    by_cases q:k=j
    · rw [q];exact o.tot j best (by omega) (by omega) (by omega) c
    · exact h.top k k1 (by omega) k3
theorem aO3 {f:List Pt} (fok:cB f) {t:Int×Int} (r64:mU t) {a b:Nat} (hab:a<b) (hb:b<=f.length): ∃i:Nat,vN ⟨f⟩ t (a:Int) (b:Int)=some (i:Int)/\CE (NX f t) a b i:=by
 have f1:=fok.1;obtain ⟨i,h1,h2⟩:=aO2 fok r64 hb (b- (a+1)) (a+1) a (by omega) (by omega) (show CE (NX f t) a (a+1) a from ⟨by omega,by omega,fun k k1 k2 k3=>by omega⟩)
 refine ⟨i,?_,h2⟩;unfold vN;rw [aX (y:=((b:Int),(a:Int),((a+1:Nat):Int),f,t)) (by
  unfold kB;simp only [aM (show (a:Int)<(b:Int) by omega),cond_true,aM (show (-1:Int)<0 by omega),bC (show a<1000000000 by omega)])]
 exact h1
theorem UT (f:List Pt) (t:Int×Int) (a:Nat):vN ⟨f⟩ t (a:Int) (a:Int)=some (-1):=by
 unfold vN;refine aL ?_;unfold kB;simp only [aI (show¬(a:Int)<(a:Int) by omega),cond_false]
theorem aJs {f:List Pt} (fok:cB f) {t:Int×Int} (r64:mU t): ∀(d m a b:Nat) (N:List Nd),b-a<=d->d<m->a<=b->b<=f.length->N.length=f.length->
 ∃(r:Int) (N':List Nd),jK m (f,t.1,t.2,0,(a:Int),(b:Int),N)=some (r,N')/\N'.length=f.length/\(∀k:Nat,(N'[k]!).1=(N[k]!).1)/\(∀k:Nat,(k<a\/b<=k)->N'[k]! =N[k]!)/\mJ (NX f t) N' a b r:=by
 have f1:=fok.1;intro d
 induction d with
 |zero=>
  intro m a b N hd hm hab hb hN
  have:a=b:=by omega
  subst this;cases m with
  |zero=>omega
  |succ m=>
   refine ⟨-1,N,?_,hN,fun _=>rfl,fun _ _=>rfl,.nil (Nat.le_refl _)⟩
   show fP _ _=_;unfold fP;simp only [show ((t.1,t.2):Int×Int)=t from rfl,UT f t a,aB,aI (show¬(0:Int)<= -1 by omega),cond_false,beq_self_eq_true,cond_true]
 |succ d ih=>
  intro m a b N hd hm hab hb hN;cases m with
  |zero=>omega
  |succ m=>
  by_cases e:a=b
  · subst e
    refine ⟨-1,N,?_,hN,fun _=>rfl,fun _ _=>rfl,.nil (Nat.le_refl _)⟩
    show fP _ _=_;unfold fP;simp only [show ((t.1,t.2):Int×Int)=t from rfl,UT f t a,aB,aI (show¬(0:Int)<= -1 by omega),cond_false,beq_self_eq_true,cond_true]
  obtain ⟨i,t1,t2⟩:=aO3 fok r64 (show a<b by omega) hb
  have lo:=t2.lo;have hi:=t2.hi;obtain ⟨l,N1,g1,g2,g3,g4,g5⟩:=ih m a i N (by omega) (by omega) lo (by omega) hN
  have gi:=aC N1 i (by omega)
  obtain ⟨rr,N2,k1,k2,k3,k4,k5⟩:=ih m (i+1) b (N1.set i ((N1[i]!).1,l,(N1[i]!).2.2)) (by omega) (by omega) (by omega) hb (by rw [List.length_set];exact g2)
  have gj:=aC N2 i (by omega)
  have n2i:N2[i]! =((N1[i]!).1,l,(N1[i]!).2.2):=by rw [k4 i (.inl (by omega)),bG,if_pos ⟨rfl,by omega⟩]
  have n3i:(N2.set i ((N2[i]!).1,(N2[i]!).2.1,rr))[i]! =((N1[i]!).1,l,rr):=by rw [bG,if_pos ⟨rfl,by omega⟩,n2i]
  have n3: ∀k,k≠i->(N2.set i ((N2[i]!).1,(N2[i]!).2.1,rr))[k]! =N2[k]!:=fun k hk=>by rw [bG,if_neg (fun w=>hk w.1)]
  have n1: ∀k,k≠i->(N1.set i ((N1[i]!).1,l,(N1[i]!).2.2))[k]! =N1[k]!:=fun k hk=>by rw [bG,if_neg (fun w=>hk w.1)]
  refine ⟨(i:Int),N2.set i ((N2[i]!).1,(N2[i]!).2.1,rr),?_,by rw [List.length_set];exact k2,fun k=>?_,fun k hk=>?_,?_⟩
  · show fP _ _=_
    unfold fP;simp only [show ((t.1,t.2):Int×Int)=t from rfl,t1,aB,aM (show (0:Int)<=(i:Int) by omega),cond_true,g1,gi,mH,bC (show i<1000000000 by omega),k1,gj,List.length_set,k2,hN,beq_self_eq_true]
  · by_cases q:k=i
    · rw [q,n3i,<- g3 i]
    · rw [n3 k q,k3 k,n1 k q,g3 k]
  · rw [n3 k (by omega),k4 k (by omega),n1 k (by omega),g4 k (by omega)]
  · refine .node t2 ?_ ?_
    · rw [n3i]
      refine g5.frame fun k h1 h2=>?_
      rw [n3 k (by omega),k4 k (.inl (by omega)),n1 k (by omega)]
    · rw [n3i]
      refine k5.frame fun k h1 h2=>?_
      rw [n3 k (by omega)]
theorem PH {f:List Pt} (fok:cB f) {t:Int×Int} (r64:mU t): ∃(root:Int) (N:List Nd),rV ⟨f⟩ t=some ⟨root,N⟩/\fQ f t N root:=by
 have f1:=fok.1
 let ini:Nat->List Nd:=fun i=>(f.take i).map fun p=>(p.1,0,0)
 have il: ∀i,i<=f.length->(ini i).length=i:=fun i hi=>by show (List.map _ _).length=_;rw [List.length_map,List.length_take];omega
 have key:=eA (body:=oG) (fun i=>((i:Int),f,t.1,t.2,0,0,ini i)) f.length (fun i hi=>by
  have nx:ini (i+1)=ini i++[((f[i]!).1,0,0)]:=by
   show List.map _ _=List.map _ _++_;rw [jL hi,List.map_append];rfl
  unfold oG;simp only [aF,aM (show (i:Int)<(f.length:Int) by omega),cond_true,aC f i hi,aB,bC (show i<1000000000 by omega),nx]
  rw [dN (by rw [il i (by omega),List.length_singleton];omega),aB])
 obtain ⟨r,N,g1,g2,g3,_,g5⟩:=aJs fok r64 f.length 1000000 0 f.length (ini f.length) (by omega) (by omega) (by omega) (Nat.le_refl _) (il _ (Nat.le_refl _))
 refine ⟨r,N,?_,⟨g2,fun k hk=>?_,g5⟩⟩
 · unfold rV F3
   rw [show aH oG (0,f,t.1,t.2,0,0,[])=_ from key];rw [aL (r:=(⟨r,N⟩:oD)) (by
    unfold oG;have g1':rU (f,t.1,t.2,0,0,(f.length:Int),ini f.length)=some (r,N):=g1;simp only [aF,aI (show¬(f.length:Int)<(f.length:Int) by omega),cond_false,g1',aB]),aB]
 · rw [g3 k]
   show (((f.take f.length).map fun p=>((p.1,0,0):Nd))[k]!).1=_
   rw [getElem!_pos _ k (by rw [List.length_map,List.length_take];omega),List.getElem_map,List.getElem_take,getElem!_pos f k hk]
end Go.Proofs.YthljmpcakagceaaGreat
namespace Go.Proofs.YthljmpcakagceaaGreat
open Go.Vm Classical
def KG (U:List Int) (c:Int) (i:Nat):List Int:=if 0<=c then U.set c.toNat (i:Int) else U
def upL (N:List Nd) (U:List Int):Nat->List Int
 |0=>U
 |i+1=>KG (KG (upL N U i) (N[i]!).2.1 i) (N[i]!).2.2 i
theorem HT (U:List Int) (c:Int) (i:Nat):(KG U c i).length=U.length:=by unfold KG;split<;>simp
theorem HU (N:List Nd) (U:List Int): ∀i,(upL N U i).length=U.length
 |0=>rfl
 |i+1=>by rw [upL,HT,HT,HU N U i]
theorem PI (U:List Int) (c:Int) (i k:Nat) (hk:k<U.length):(KG U c i)[k]! =if c=(k:Int) then (i:Int) else U[k]!:=by
 unfold KG
 by_cases h:0<=c
 · rw [if_pos h,bG]
   by_cases q:c=(k:Int)
   · rw [if_pos ⟨by omega,by omega⟩,if_pos q]
   · rw [if_neg (fun w=>q (by omega)),if_neg q]
 · rw [if_neg h,if_neg (by omega)]
theorem aAw {α:Type} [Inhabited α] {n i:Nat} (a:α) (h:i<n):(List.replicate n a)[i]! =a:=by
 rw [getElem!_pos _ i (by rw [List.length_replicate];exact h),List.getElem_replicate]
section
variable {f : List Pt} {t : Int × Int} {N : List Nd} {r : Int}
theorem fQ.link (h:fQ f t N r) {j:Nat} (hj:j<f.length) {c:Int} (hc:(N[j]!).2.1=c\/(N[j]!).2.2=c):c= -1\/(0<=c/\c<N.length):=by
 have ln:=h.len;rcases h.tree.kids j (Nat.zero_le _) hj c hc with e|⟨k,e,_,k2,_⟩
 · exact .inl e
 · exact .inr ⟨by omega,by omega⟩
theorem fQ.upIs (h:fQ f t N r) {U:List Int} (hU:U.length=N.length): ∀i,i<=N.length-> ∀k,k<N.length->(upL N U i)[k]! =if mS N k<i then (mS N k:Int) else U[k]!
 |0,_,k,_=>by rw [if_neg (Nat.not_lt_zero _)];rfl
 |i+1,hi,k,hk=>by
  have ln:=h.len;have ih:=h.upIs hU i (by omega) k hk
  have p:=h.par (k:=k) (by omega)
  rw [upL,PI _ _ _ _ (by rw [HT,HU];omega),PI _ _ _ _ (by rw [HU];omega),ih]
  by_cases hb:Below N k i
  · have e:=p.2.2 i (by omega) hb
    rw [if_pos (show mS N k<i+1 by omega),<- e]
    rcases hb with q|q
    · by_cases w:(N[i]!).2.2=(k:Int)
      · rw [if_pos w]
      · rw [if_neg w,if_pos q]
    · rw [if_pos q]
  · have n1: ¬(N[i]!).2.1=(k:Int):=fun q=>hb (.inl q)
    have n2: ¬(N[i]!).2.2=(k:Int):=fun q=>hb (.inr q)
    rw [if_neg n2,if_neg n1];have ne:mS N k≠i:=fun q=>by
     by_cases hr:(k:Int)=r
     · have:=p.1 hr;omega
     · have:=(p.2.1 hr).2.1
       rw [q] at this;exact hb this
    by_cases q:mS N k<i
    · rw [if_pos q,if_pos (by omega)]
    · rw [if_neg q,if_neg (by omega)]
def m1S (N:List Nd) (r:Int) (i:Nat) (j:Int) (U:List Int):=((i:Int),N,(N.length:Int),(i:Int),(N[i]!).2.1,(N[i]!).2.2,j,(0:Int),r,N,U)
def m3S (N:List Nd) (r:Int) (i:Nat) (U:List Int):=(N,(N.length:Int),(i:Int),(0:Int),r,N,U)
theorem Y3 {U:List Int} {c:Int} (h0:0<=c) (h:c<U.length): ∃x,aO U c=some x:=⟨_,dM h0 h⟩
theorem Y4 {U:List Int} {c:Int} (h0:0<=c) (x:Int):bZ U c x=U.set c.toNat x:=by
 obtain ⟨n,rfl⟩:=Int.eq_ofNat_of_zero_le h0;rw [mH,Int.toNat_natCast]
theorem aJt (h:fQ f t N r) (hN:N.length<=1000) {i:Nat} (hi:i<N.length) {U:List Int} (hU:U.length=N.length):aH jE (m1S N r i 0 U)=some (.next (m3S N r (i+1) (KG (KG U (N[i]!).2.1 i) (N[i]!).2.2 i))):=by
 have ln:=h.len;have l1:=h.link (j:=i) (by omega) (.inl rfl)
 have l2:=h.link (j:=i) (by omega) (.inr rfl)
 have s1:jE (m1S N r i 0 U)=some (.next (m1S N r i 1 (KG U (N[i]!).2.1 i))):=by
  unfold jE m1S KG;simp only [aM (show (0:Int)<2 by omega),cond_true,beq_self_eq_true,show aA .i64 (0+1)=1 from B9 ⟨by omega,by omega⟩]
  by_cases q:0<=(N[i]!).2.1
  · obtain ⟨x,hx⟩:=Y3 (U:=U) q (by omega)
    rw [aM q,cond_true,hx,aB,Y4 q,if_pos q]
  · rw [aI q,cond_false,if_neg q]
 have s2: ∀V:List Int,V.length=N.length->jE (m1S N r i 1 V)=some (.next (m1S N r i 2 (KG V (N[i]!).2.2 i))):=by
  intro V hV;unfold jE m1S KG;simp only [aM (show (1:Int)<2 by omega),cond_true,show ((1:Int)==0)=false from rfl,cond_false,beq_self_eq_true,show aA .i64 (1+1)=2 from B9 ⟨by omega,by omega⟩]
  by_cases q:0<=(N[i]!).2.2
  · obtain ⟨x,hx⟩:=Y3 (U:=V) q (by omega)
    rw [aM q,cond_true,hx,aB,Y4 q,if_pos q]
  · rw [aI q,cond_false,if_neg q]
 rw [aX s1,aX (s2 _ (by rw [HT];exact hU))]
 refine aL ?_;unfold jE m1S m3S;simp only [aI (show¬(2:Int)<2 by omega),cond_false,bC (show i<1000000000 by omega)]
theorem WZ (h:fQ f t N r) (hN:N.length<=1000):aH lA ((N.length:Int),0,0,r,N,List.replicate N.length 0)=some (⟨r,N⟩,bL N N.length):=by
 have ln:=h.len;have k4:=eA (body:=lA) (fun i=>((N.length:Int),(i:Int),(0:Int),r,N,List.replicate i (-1)++List.replicate (N.length-i) 0)) N.length (fun i hi=>by
  have ll:(List.replicate i (-1:Int)++List.replicate (N.length-i) 0).length=N.length:=by rw [List.length_append,List.length_replicate,List.length_replicate];omega
  have e:(List.replicate i (-1:Int)++List.replicate (N.length-i) 0).set i (-1)=List.replicate (i+1) (-1)++List.replicate (N.length- (i+1)) 0:=by
   rw [show N.length-i=(N.length- (i+1))+1 by omega,List.replicate_succ,List.set_append_right _ _ (by rw [List.length_replicate];exact Nat.le_refl _),List.length_replicate,Nat.sub_self,List.set_cons_zero,List.replicate_succ',List.append_assoc]
   rfl
  unfold lA;simp only [aM (show (i:Int)<(N.length:Int) by omega),cond_true,aC (List.replicate i (-1:Int)++List.replicate (N.length-i) 0) i (by omega),aB,mH,e,bC (show i<1000000000 by omega)])
 have e0:List.replicate 0 (-1:Int)++List.replicate (N.length-0) 0=List.replicate N.length 0:=rfl;have e1:List.replicate N.length (-1:Int)++List.replicate (N.length-N.length) 0=List.replicate N.length (-1):=by rw [Nat.sub_self,List.replicate_zero,List.append_nil]
 rw [e0,e1] at k4;rw [show aH lA ((N.length:Int),0,0,r,N,List.replicate N.length 0)=_ from k4];have lU:(List.replicate N.length (-1:Int)).length=N.length:=List.length_replicate ..;have k3:=eA (body:=kZ) (fun i=>m3S N r i (upL N (List.replicate N.length (-1)) i)) N.length (fun i hi=>by
  have g:=aC N i hi;unfold kZ
  conv=>lhs;unfold m3S
  simp only [aM (show (i:Int)<(N.length:Int) by omega),cond_true,g,aB]
  exact aJt h hN hi (by rw [HU,lU]))
 have up:=h.upIs lU N.length (Nat.le_refl _);have k2:=eA (body:=kY) (fun i=>(N,(N.length:Int),(i:Int),(0:Int),r,N,upL N (List.replicate N.length (-1)) N.length,bL N i)) N.length (fun i hi=>by
  have g:=aC N i hi;have gu:=aC (upL N (List.replicate N.length (-1)) N.length) i (by rw [HU,lU];exact hi)
  have el:=oX N i;rw [up i hi] at gu;unfold kY;rw [show bL N (i+1)=bL N i++DW N i from rfl];unfold DW
  by_cases q:mS N i<N.length
  · rw [if_pos q] at gu
    simp only [aM (show (i:Int)<(N.length:Int) by omega),cond_true,g,gu,aB,aM (show (0:Int)<=(mS N i:Int) by omega),aC N (mS N i) q,bC (show i<1000000000 by omega),if_pos q]
    rw [dN (by rw [List.length_singleton];omega),aB]
  · rw [if_neg q,aAw (-1) hi] at gu
    simp only [aM (show (i:Int)<(N.length:Int) by omega),cond_true,g,gu,aB,aI (show¬(0:Int)<= -1 by omega),cond_false,bC (show i<1000000000 by omega),if_neg q,List.append_nil])
 have f2:aH kY (N,(N.length:Int),0,0,r,N,upL N (List.replicate N.length (-1)) N.length,[])=some (.done (.done (⟨r,N⟩,bL N N.length))):=by
  rw [show aH kY (N,(N.length:Int),0,0,r,N,upL N (List.replicate N.length (-1)) N.length,[])=_ from k2];refine aL ?_;unfold kY;simp only [aI (show¬(N.length:Int)<(N.length:Int) by omega),cond_false]
 have f3:aH kZ (m3S N r 0 (List.replicate N.length (-1)))=some (.done (⟨r,N⟩,bL N N.length)):=by
  rw [show aH kZ (m3S N r 0 (List.replicate N.length (-1)))=_ from k3];refine aL ?_;unfold kZ m3S;simp only [aF,aI (show¬(N.length:Int)<(N.length:Int) by omega),cond_false]
  exact f2
 refine aL ?_;unfold lA;simp only [aF,aI (show¬(N.length:Int)<(N.length:Int) by omega),cond_false]
 exact f3
theorem aJu (h:fQ f t N r) (hN:N.length<=1000) {i:Nat} (hi:i<N.length):aH pJ ((i:Int),0,r,N,bL N i)=some (.next (((i+1:Nat):Int),r,N,bL N (i+1))):=by
 have ln:=h.len;have p:=h.par (k:=i) (by omega)
 have el:=oX N i;have g:=aC N i hi;have key:=eA (body:=pJ) (fun j=>((i:Int),(j:Int),r,N,bL N i++(if mS N i<j then [((N[i]!).1,(N[mS N i]!).1)] else []))) N.length (fun j hj=>by
  have gj:=aC N j hj;unfold pJ
  by_cases hb:Below N i j
  · have e:=p.2.2 j hj hb
    rw [if_neg (show¬mS N i<j by omega),if_pos (show mS N i<j+1 by omega),List.append_nil]
    have ap:bK (bL N i) [((N[i]!).1,(N[j]!).1)]=some (bL N i++[((N[i]!).1,(N[j]!).1)]):=dN (by rw [List.length_singleton];omega)
    by_cases q:(N[j]!).2.1=(i:Int)
    · simp only [aF,aM (show (j:Int)<(N.length:Int) by omega),cond_true,gj,g,aB,gL q,ap,bC (show j<1000000000 by omega),<- e]
    · have q2:(N[j]!).2.2=(i:Int):=hb.resolve_left q
      simp only [aF,aM (show (j:Int)<(N.length:Int) by omega),cond_true,gj,g,aB,fW q,cond_false,gL q2,ap,bC (show j<1000000000 by omega),<- e]
  · have ne:mS N i≠j:=fun q=>by
     by_cases hr:(i:Int)=r
     · have:=p.1 hr;omega
     · have:=(p.2.1 hr).2.1
       rw [q] at this;exact hb this
    have n1: ¬(N[j]!).2.1=(i:Int):=fun q=>hb (.inl q)
    have n2: ¬(N[j]!).2.2=(i:Int):=fun q=>hb (.inr q)
    have e:(if mS N i<j+1 then [((N[i]!).1,(N[mS N i]!).1)] else [])=(if mS N i<j then [((N[i]!).1,(N[mS N i]!).1)] else []):=by
     by_cases q:mS N i<j
     · rw [if_pos q,if_pos (by omega)]
     · rw [if_neg q,if_neg (by omega)]
    simp only [aF,aM (show (j:Int)<(N.length:Int) by omega),cond_true,gj,aB,fW n1,fW n2,cond_false,bC (show j<1000000000 by omega),e])
 have e0:(if mS N i<0 then [((N[i]!).1,(N[mS N i]!).1)] else [])=[]:=if_neg (Nat.not_lt_zero _)
 rw [e0,List.append_nil] at key;rw [show aH pJ ((i:Int),0,r,N,bL N i)=_ from key];refine aL ?_;unfold pJ;simp only [aF,aI (show¬(N.length:Int)<(N.length:Int) by omega),cond_false,bC (show i<1000000000 by omega)]
 rfl
theorem Y5 (h:fQ f t N r) (hN:N.length<=1000):DE ⟨r,N⟩=some (bL N N.length):=by
 have k:=eA (body:=tV) (fun i=>((i:Int),r,N,bL N i)) N.length (fun i hi=>by
  unfold tV;simp only [aF,aM (show (i:Int)<(N.length:Int) by omega),cond_true]
  exact aJu h hN hi)
 unfold DE;rw [show aH tV (0,r,N,[])=_ from k];refine aL ?_;unfold tV;simp only [aF,aI (show¬(N.length:Int)<(N.length:Int) by omega),cond_false]
end
end Go.Proofs.YthljmpcakagceaaGreat
namespace Go.Proofs.YthljmpcakagceaaGreat
open Go.Vm Classical
theorem KW {f:List Pt} (fok:cB f) {t:Int×Int} (r:bM t) (r64:mU t): ∃(root:Int) (N:List Nd),iT ⟨f⟩ t=some (⟨root,N⟩,bL N f.length)/\fQ f t N root:=by
 have f1:=fok.1;obtain ⟨root,N,h1,h2⟩:=Y2 fok r r64;have ln:=h2.len;have mk:B2 (N.length:Int) (0:Int)=some (List.replicate N.length 0):=by
  unfold B2;rw [if_pos ⟨by omega,by omega⟩,Int.toNat_natCast]
 refine ⟨root,N,?_,h2⟩;unfold iT;simp only [h1,aB,aF,beq_self_eq_true,cond_true,mk,List.length_replicate];rw [<- ln];exact WZ h2 (by omega)
theorem W0:qF=jH:=rfl
theorem Y6 (r r':Int) (a b:List Nd) (hl:a.length<=1000000):lR ⟨r,a⟩ ⟨r',b⟩=some (decide (r=r'/\a=b)):=by
 unfold lR;simp only [aF]
 by_cases h0:r=r'
 case neg=>rw [fE h0,cond_true,aI (fun h=>h0 h.1)]
 rw [dR h0,cond_false]
 by_cases h:a.length=b.length
 case neg=>rw [fE (by omega),cond_true,aI (fun q=>h (by rw [q.2]))]
 rw [dR (by omega),cond_false]
 have key:=GA (body:=qG) (fun i=>((i:Int),r,a,r',b)) a.length (fun i=>a[i]! =b[i]!) (r:=false) (e:=true) (fun i hi=>by
  unfold qG;simp only [aF,aM (show (i:Int)<(a.length:Int) by omega),cond_true,aC a i hi,aC b i (by omega),aB,bC (show i<1000000000 by omega)]
  rw [WX]
  by_cases q:a[i]! =b[i]!
  · rw [aM q];exact ⟨fun w=>absurd q w,fun _=>rfl⟩
  · rw [aI q];exact ⟨fun _=>rfl,fun w=>absurd w q⟩) (by
  unfold qG;simp only [aF,aI (show¬(a.length:Int)<(a.length:Int) by omega),cond_false])
 refine (show _=_ from key).trans ?_
 by_cases q:a=b
 · rw [if_pos (fun i _=>by rw [q]),aM ⟨h0,q⟩]
 · rw [if_neg (fun w=>q (DI h w)),aI (fun w=>q w.2)]
theorem aJv (c:aJ) (es:List (Int×Int)) (h1:es.length<=1000000) (_:c.certs.list.length<=1000000):
 tL c es=some (decide (es.length=c.certs.list.length/\ ∀i,i<c.certs.list.length->(c.certs.list[i]!).2∈es)):=by
 unfold tL eG fD;simp only [aF]
 by_cases h0:es.length=c.certs.list.length
 case neg=>rw [fW (by omega),cond_false,aI (fun q=>h0 q.1)]
 rw [gL (by omega),cond_true]
 have key:=lS (body:=bQ) (fun i=>(c.certs.list,es,(c.certs.list.length:Int),(i:Int))) c.certs.list.length (fun i=>(c.certs.list[i]!).2∉es) (fun i=>(i:Int)) (e:= -1) (fun i hi=>by
  unfold bQ yP;simp only [aM (show (i:Int)<(c.certs.list.length:Int) by omega),cond_true,aC c.certs.list i hi,aB,oK es _ h1,bC (show i<1000000000 by omega)]
  refine ⟨fun q=>?_,fun q=>?_⟩
  · rw [aI q];rfl
  · rw [aM (Classical.not_not.1 q)];rfl) (by
  unfold bQ;simp only [aI (show¬(c.certs.list.length:Int)<(c.certs.list.length:Int) by omega),cond_false])
 by_cases hx: ∀i,i<c.certs.list.length->(c.certs.list[i]!).2∈es
 · rw [show aH bQ (c.certs.list,es,(c.certs.list.length:Int),0)=_ from key.2 (fun i hi=>Classical.not_not.2 (hx i hi)),aB,aB,aI (by omega),aM ⟨h0,hx⟩]
   rfl
 · obtain ⟨i,hi⟩:=Classical.not_forall.1 hx
   obtain ⟨hi,hn⟩:=Classical.not_imp.1 hi;obtain ⟨m,m1,m2,m3⟩:=HD (c:=fun i=>(c.certs.list[i]!).2∉es) ⟨i,hi,hn⟩
   rw [show aH bQ (c.certs.list,es,(c.certs.list.length:Int),0)=_ from key.1 m m1 m2 m3,aB,aB,aM (by omega),aI (fun w=>hx w.2)]
   rfl
structure gP (k:cX):Prop where
 clk:bD k.clock
 tree:fQ k.clock.field.points k.clock.now k.tree.nodes k.tree.root
 cert:(k.clock.certs.list.map fun x=>x.2).Perm (bL k.tree.nodes k.clock.field.points.length)
theorem KH {c:aJ} (ok:bD c) {N:List Nd} {r:Int} (_:fQ c.field.points c.now N r):
 ((bL N c.field.points.length).length=c.certs.list.length/\ ∀i,i<c.certs.list.length->(c.certs.list[i]!).2∈bL N c.field.points.length)↔(c.certs.list.map fun x=>x.2).Perm (bL N c.field.points.length):=by
 have cl:(c.certs.list.map fun x=>x.2).length=c.certs.list.length:=List.length_map ..
 constructor
 · rintro ⟨h1,h2⟩
   refine BQ (DU ok.crt) (fun x hx=>?_) (by omega)
   obtain ⟨i,hi,rfl⟩:=wW.2 hx;exact h2 i hi
 · intro h
   exact ⟨by rw [<- h.length_eq,cl],fun i hi=>h.mem_iff.1 (wW.1 ⟨i,hi,rfl⟩)⟩
theorem RF {c:aJ} (ok:bD c) {N:List Nd} {r:Int} (tr:fQ c.field.points c.now N r):
 (c.certs.list.length=(bL N c.field.points.length).length/\ ∀i,i<(bL N c.field.points.length).length->uO c.certs.list (bL N c.field.points.length)[i]!/\dV (iV c.field.points ((bL N c.field.points.length)[i]!).2) (iV c.field.points ((bL N c.field.points.length)[i]!).1) c.now)↔(c.certs.list.map fun x=>x.2).Perm (bL N c.field.points.length):=by
 have cl:(c.certs.list.map fun x=>x.2).length=c.certs.list.length:=List.length_map ..
 obtain ⟨_,nd,ld⟩:=tr.edges ok.fld;constructor
 · rintro ⟨h1,h2⟩
   refine (BQ nd (fun x hx=>?_) (by omega)).symm
   obtain ⟨i,hi,rfl⟩:=aY.1 hx;exact wW.1 (h2 i hi).1
 · intro h
   exact ⟨by rw [<- h.length_eq,cl],fun i hi=>⟨wW.2 (h.mem_iff.2 (bB hi)),ld _ (bB hi)⟩⟩
theorem uP {k:cX} (fit:wU k.clock):nS k=some (if gP k then 0 else 8):=by
 unfold nS;rw [lK fit,aB]
 by_cases ok:bD k.clock
 case neg=>rw [if_neg ok,if_neg (fun h=>ok h.clk)];rfl
 rw [if_pos ok,dR rfl,cond_false];have bd:=ok.bd;obtain ⟨r,N,h1,h2⟩:=KW ok.fld ok.nowv ok.now64;have h1:iT k.clock.field k.clock.now=some (⟨r,N⟩,bL N k.clock.field.points.length):=h1;have same: ∀h:gP k,N=k.tree.nodes/\r=k.tree.root:=fun h=>h2.same ok.fld.2.2 h.tree
 rw [h1,aB]
 by_cases hr:r=k.tree.root
 case neg=>rw [fE hr,cond_true,if_neg (fun h=>hr (same h).2)]
 have ln:=h2.len;rw [dR hr,cond_false,W0,HR N k.tree.nodes (by omega),aB]
 by_cases hn:N=k.tree.nodes
 case neg=>rw [aI hn,if_neg (fun h=>hn (same h).1)];rfl
 have el:=oX N k.clock.field.points.length;rw [aM hn,Bool.not_true,cond_false];show (tL k.clock (bL N k.clock.field.points.length)).bind _=_;rw [aJv k.clock _ (by omega) (by omega),aB]
 have iff:=KH ok h2
 by_cases hj:(bL N k.clock.field.points.length).length=k.clock.certs.list.length/\ ∀i,i<k.clock.certs.list.length->(k.clock.certs.list[i]!).2∈bL N k.clock.field.points.length
 · rw [aM hj,if_pos (show gP k from ⟨ok,by rw [<- hn,<- hr];exact h2,by rw [<- hn];exact iff.1 hj⟩)];rfl
 · rw [aI hj,if_neg (fun h:gP k=>hj (iff.2 (by rw [hn];exact h.cert)))];rfl
theorem DX {k:cX} (fit:wU k.clock):pK k=some (if gP k then 0 else 8):=by
 unfold pK;rw [NM fit,aB]
 by_cases ok:bD k.clock
 case neg=>rw [if_neg ok,if_neg (fun h=>ok h.clk)];rfl
 rw [if_pos ok,dR rfl,cond_false];have bd:=ok.bd;obtain ⟨r,N,h1,h2⟩:=PH ok.fld (t:=k.clock.now) ok.now64;have h1:rV k.clock.field k.clock.now=some ⟨r,N⟩:=h1;have same: ∀h:gP k,N=k.tree.nodes/\r=k.tree.root:=fun h=>h2.same ok.fld.2.2 h.tree
 have ln:=h2.len;have keta:k.tree=⟨k.tree.root,k.tree.nodes⟩:=rfl;rw [h1,aB,keta,Y6 _ _ _ _ (by omega),aB]
 by_cases hn:r=k.tree.root/\N=k.tree.nodes
 case neg=>rw [aI hn,if_neg (fun h:gP k=>hn ⟨(same h).2,(same h).1⟩)];rfl
 have el:=oX N k.clock.field.points.length;obtain ⟨eok,_,_⟩:=h2.edges ok.fld;rw [aM hn,Bool.not_true,cond_false,Y5 h2 (by omega),aB,ln,aJp ok _ eok.kn,aB]
 have iff:=RF ok h2
 by_cases hj:k.clock.certs.list.length=(bL N k.clock.field.points.length).length/\ ∀i,i<(bL N k.clock.field.points.length).length->uO k.clock.certs.list (bL N k.clock.field.points.length)[i]!/\dV (iV k.clock.field.points ((bL N k.clock.field.points.length)[i]!).2) (iV k.clock.field.points ((bL N k.clock.field.points.length)[i]!).1) k.clock.now
 · rw [aM hj,if_pos (show gP k from ⟨ok,by rw [<- hn.1,<- hn.2];exact h2,by rw [<- hn.2];exact iff.1 hj⟩)];rfl
 · rw [aI hj,if_neg (fun h:gP k=>hj (iff.2 (by rw [hn.2];exact h.cert)))];rfl
structure aO5 (k:cX):Prop where
 c:aJ7 k.clock
 n:k.tree.nodes.length<=1000
theorem RG (k:cX):tP k=some true\/(tP k=some false/\aO5 k):=by
 unfold tP DD
 rcases UR k.clock with e|⟨e,sh⟩
 · rw [e];exact .inl rfl
 rw [e,aB,cond_false,aB,aF]
 by_cases h:70<k.tree.nodes.length
 · rw [aM (by omega)];exact .inl rfl
 · rw [aI (by omega)];exact .inr ⟨rfl,sh,by omega⟩
theorem W3 {c:aJ} (ok:bD c) {f:List Pt} (fok:cB f) {N:List Nd} {r:Int} (tr:fQ f c.now N r):
 ∃R:aJ×Int,pH c ⟨f⟩ (bL N f.length)=some R/\oI c ⟨f⟩ (bL N f.length)=some R/\(R.2=0/\NO c f (bL N f.length) R.1\/R=(eD,18)):=by
 have f1:=fok.1;obtain ⟨eok,nd,_⟩:=tr.edges fok;have el:=oX N f.length;obtain ⟨R,r1,r2,r3⟩:=aJn ok fok eok;have ee:kS f (bL N f.length)=0:=by
  unfold kS;rw [if_neg (Classical.not_not.2 eok.cv),if_neg (Classical.not_not.2 nd),if_neg (fun h=>h eok.kn)]
 have rn:=NR ok fok (es:=bL N f.length) (by omega) (fun _=>r1)
 rw [if_pos ee] at rn;exact ⟨R,rn,r2,r3⟩
end Go.Proofs.YthljmpcakagceaaGreat
namespace Go.Proofs.YthljmpcakagceaaGreat
open Go.Vm Classical
end Go.Proofs.YthljmpcakagceaaGreat
namespace Go.Proofs.YthljmpcakagceaaGreat
open Go.Vm Classical
end Go.Proofs.YthljmpcakagceaaGreat
namespace Go.Proofs.YthljmpcakagceaaGreat
open Go.Vm Classical
theorem NS {α:Type} [BEq α] [LawfulBEq α]: ∀{a b:List α},a.Nodup->(∀x∈a,x∈b)->a.length<=b.length
 | [],_,_,_=>Nat.zero_le _
 |x::a,b,hd,h=>by
  rw [List.nodup_cons] at hd;have hx:=h x List.mem_cons_self
  have:=NS (a:=a) (b:=b.erase x) hd.2 (fun y hy=>by
   rw [List.mem_erase_of_ne (fun e=>hd.1 (by rw [<- e];exact hy))]
   exact h y (List.mem_cons_of_mem _ hy))
  rw [List.length_erase_of_mem hx] at this
  have:=List.length_pos_of_mem hx
  rw [List.length_cons];omega
theorem J4 {α:Type} [BEq α] [LawfulBEq α] {a b:List α} (ha:a.Nodup) (hb:b.Nodup) (h1: ∀x∈a,x∈b) (h2: ∀x∈b,x∈a):a.Perm b:=BQ ha h1 (NS hb h2)
structure W4 (R:cX) (F:List Pt) (t:Int×Int):Prop where
 ok:gP R
 fld:R.clock.field.points=F
 now:R.clock.now=t
theorem W4.nums {R:cX} {F:List Pt} {t:Int×Int} (h:W4 R F t):wU R.clock:=h.ok.clk.fit
theorem W4.same {R S:cX} {F:List Pt} {t:Int×Int} (h:W4 R F t) (k:W4 S F t):R.tree=S.tree:=by
 have a:=h.ok.tree;rw [h.fld,h.now] at a;have b:=k.ok.tree;rw [k.fld,k.now] at b;obtain ⟨e1,e2⟩:=a.same (by rw [<- h.fld];exact h.ok.clk.fld.2.2) b
 obtain ⟨_,⟨r,N⟩⟩:=R;obtain ⟨_,⟨r',N'⟩⟩:=S;simp only at e1 e2;subst e1 e2;rfl
end Go.Proofs.YthljmpcakagceaaGreat
namespace Go.Proofs.YthljmpcakagceaaGreat
open Go.Vm Classical
theorem NT {f:List Pt} (hs:hG f) {q:Pt} (h:q∈f):iV f q.1=q:=by
 obtain ⟨i,hi,rfl⟩:=aY.1 h;exact xZ hs hi rfl
theorem Y7 {f:List Pt} (hs:hG f) {x:Int} (h:sE f x):iV f x∈f/\(iV f x).1=x:=by
 obtain ⟨i,hi,rfl⟩:=h;rw [NT hs (bB hi)];exact ⟨bB hi,rfl⟩
abbrev aCD (f:List Pt) (t:Int×Int) (a b:Int):Prop:=dV (iV f a) (iV f b) t
theorem PJ {f:List Pt} (hs:hG f) {t:Int×Int} {l:List Int} (hp: ∀x∈l,sE f x) (nd:l.Nodup):(∀e∈DT l,dV (iV f e.2) (iV f e.1) t)↔Hp (aCD f t) l:=by
 constructor
 · intro h j h1 h2 c
   have hm:(l[j]!,l[par j]!)∈DT l:=by
    refine aY.2 ⟨j-1,by rw [GB];omega,?_⟩
    rw [J3 l (show j-1<l.length-1 by omega),show j-1+1=j by omega]
   exact uD c (h _ hm)
 · intro h e he
   obtain ⟨i,hi,rfl⟩:=aY.1 he;rw [GB] at hi;rw [J3 l hi]
   have:=h (i+1) (by omega) (by omega)
   have pe:par (i+1)=i / 2:=by simp only [par];omega
   rw [pe] at this;refine yA t ?_ this;rw [(Y7 hs (hp _ (bB (by omega)))).2,(Y7 hs (hp _ (bB (by omega)))).2]
   exact fun e=>gG.1 nd (i / 2) (i+1) (by omega) (by omega) e.symm
structure aTf (R:E5) (F:List Pt) (t:Int×Int):Prop where
 ok:wV R
 fld:R.clock.field.points=F
 now:R.clock.now=t
theorem wV.len {k:E5} (h:wV k):k.heap.length=k.clock.field.points.length:=by rw [<- h.perm.length_eq];exact List.length_map ..
theorem wV.bd {k:E5} (h:wV k):k.heap.length<=64:=by have:=h.len;have:=h.clk.fld.1;omega
theorem wV.has {k:E5} (h:wV k): ∀x∈k.heap,sE k.clock.field.points x:=fun _ hx=>YZ.1 (h.perm.mem_iff.2 hx)
theorem wV.nd {k:E5} (h:wV k):k.heap.Nodup:=h.perm.nodup_iff.1 (JG h.clk.fld.2.2)
theorem wV.hp {k:E5} (h:wV k):Hp (aCD k.clock.field.points k.clock.now) k.heap:=(PJ h.clk.fld.2.2 h.has h.nd).1 h.lead
theorem NO.heap {c:aJ} {f:List Pt} (fok:cB f) {l:List Int} (pm:(FB f).Perm l) {R:E5} (e:R.heap=l) (q:NO c f (DT l) R.clock) (h:Hp (aCD f c.now) l):aTf R f c.now:=by
 have nd:=pm.nodup_iff.1 (JG fok.2.2);refine ⟨⟨q.ok,by rw [q.fld,e];exact pm,?_,?_⟩,q.fld,q.now⟩
 · rw [e]
   exact J4 (DU q.ok.crt) (US nd) (fun x hx=>by obtain ⟨y,hy,rfl⟩:=List.mem_map.1 hx;exact q.sub y hy) (fun x hx=>wW.1 (q.has x hx))
 · rw [e,q.fld,q.now]
   exact (PJ fok.2.2 (fun x hx=>YZ.1 (pm.mem_iff.2 hx)) nd).2 h
end Go.Proofs.YthljmpcakagceaaGreat
namespace Go.Proofs.YthljmpcakagceaaGreat
open Go.Vm Classical
section
variable {f : List Pt} {t : Int × Int}
abbrev uT (t:Int×Int) (p q:Pt):Prop:=dV p q t
theorem aCE {f:List Pt} (hs:hG f) (t:Int×Int):SOA (uT t) (fun p=>p∈f) where
 irr:=fun a _ h=>uD h h
 tr:=fun _ _ _ _ _ _ h k=>DV h k
 ntr:=fun a b c ha hb hc h1 h2 h=>by
  by_cases e:b.1=c.1
  · have:b=c:=by rw [<- NT hs hb,<- NT hs hc,e]
    exact h1 (this▸h)
  · rcases Classical.em (dV b c t) with k|k
    · exact h2 k
    · exact h1 (DV h (yA t e k))
theorem aCF (hs:hG f) {l:List Pt} (p:l.Perm f) {i j:Nat} (hi:i<l.length) (hj:j<l.length) (hne:i≠j):(l[i]!).1≠(l[j]!).1:=by
 have nd:(FB l).Nodup:=(p.map fun x:Pt=>x.1).nodup_iff.2 (JG hs)
 intro e;have b: ∀k,k<l.length->(FB l)[k]! =(l[k]!).1:=fun k hk=>by
  unfold FB;rw [getElem!_pos _ k (by rw [List.length_map];exact hk),List.getElem_map,getElem!_pos l k hk]
 have ll:(FB l).length=l.length:=List.length_map ..;rcases Nat.lt_trichotomy i j with c|c|c
 · exact gG.1 nd i j c (by omega) (by rw [b i hi,b j hj];exact e)
 · exact hne c
 · exact gG.1 nd j i c (by omega) (by rw [b i hi,b j hj];exact e.symm)
def i1S (n i j:Nat) (l:List Pt) (t:Int×Int):=((0:Int),(n:Int),(i:Int),(j:Int),l,t.1,t.2)
def i2S (n i:Nat) (l:List Pt) (t:Int×Int):=((0:Int),(n:Int),(i:Int),l,t.1,t.2)
theorem aCG (fok:cB f) (r:bM t) (r64:mU t) {n:Nat} (hn:n<=64): ∀(j i:Nat) (l:List Pt),l.Perm f->l.length=n->j<=i->i<n->
 aH aZ (i1S n i j l t)=some (.next (i2S n (i+1) (N4 (uT t) j l) t)):=by
 intro j
 induction j with
 |zero=>
  intro i l p hl hj hi;refine aL ?_;unfold aZ i1S i2S;simp only [aI (show¬(0:Int)<((0:Nat):Int) by omega),cond_false,bC (show i<1000000000 by omega),N4]
 |succ j ih=>
  intro i l p hl hj hi;have h1:j+1<l.length:=by omega
  have h0:j<l.length:=by omega
  have m1:=p.mem_iff.1 (bB h1);have m0:=p.mem_iff.1 (bB h0);have ne:=aCF fok.2.2 p h1 h0 (by omega)
  have ah:jX l[j+1]! l[j]! (t.1,t.2)=some (decide (dV l[j+1]! l[j]! t),0):=by
   rcases CD (fok.2.1 _ m1) (fok.2.1 _ m0) r64 r with h|⟨h,_⟩
   · rw [show ((t.1,t.2):Int×Int)=t from rfl,h,if_neg ne]
   · exact absurd h ne
  have wp:aA .i64 (((j+1:Nat):Int) -1)=(j:Int):=by rw [B9 ⟨by omega,by omega⟩];omega
  have g1:=aC l (j+1) h1;have g0:=aC l j h0;have gs:aO (bZ l ((j+1:Nat):Int) l[j]!) (j:Int)=some ((bZ l ((j+1:Nat):Int) l[j]!)[j]!):=aC _ j (by rw [zR];exact h0)
  have nb:((l[j+1]!).1==(l[j]!).1)=false:=by simpa using ne
  by_cases c:dV l[j+1]! l[j]! t
  · have s1:aZ (i1S n i (j+1) l t)=some (.next (i1S n i j (HE l (j+1) j) t)):=by
     unfold aZ i1S;simp only [aM (show (0:Int)<((j+1:Nat):Int) by omega),cond_true,wp,g1,g0,aB,nb,cond_false,ah,aM c,beq_self_eq_true,gs]
     simp only [mH];rfl
    rw [aX s1];have pm:=(F5 h1 h0).trans p;rw [ih i (HE l (j+1) j) pm (by rw [I4];exact hl) (by omega) hi]
    conv=>rhs;unfold N4
    rw [if_pos (show uT t l[j+1]! l[j]! from c)]
  · refine aL ?_
    unfold aZ i1S;simp only [aM (show (0:Int)<((j+1:Nat):Int) by omega),cond_true,wp,g1,g0,aB,nb,cond_false,ah,aI c,beq_self_eq_true,bC (show i<1000000000 by omega)]
    unfold N4;rw [if_neg (show¬uT t l[j+1]! l[j]! from c)];rfl
theorem aAx (fok:cB f) (r:bM t) (r64:mU t) {c0:Int×Int×List Pt×Int×Int} (hc:c0.2.2.1.length=f.length): ∀(d i:Nat),f.length-i<=d->i<=f.length->
 aH (bA c0) (i2S f.length i (DJ (uT t) f i) t)=some (DJ (uT t) f f.length,t.1,t.2):=by
 have f1:=fok.1;intro d
 induction d with
 |zero=>
  intro i hd hi
  have:i=f.length:=by omega
  subst this;have le:=(wO (uT t) f f.length (Nat.le_refl _)).length_eq;refine aL ?_;unfold bA i2S;simp only [aI (show¬(f.length:Int)<(f.length:Int) by omega),cond_false,le,hc,beq_self_eq_true,cond_true]
 |succ d ih=>
  intro i hd hi
  by_cases e:i=f.length
  · exact ih i (by omega) hi
  · have pm:=wO (uT t) f i hi
    have s1:bA c0 (i2S f.length i (DJ (uT t) f i) t)=some (.next (i2S f.length (i+1) (DJ (uT t) f (i+1)) t)):=by
     have:=aCG fok r r64 f1 i i _ pm pm.length_eq (Nat.le_refl _) (show i<f.length by omega)
     unfold bA;show (bif decide ((i:Int)<(f.length:Int)) then _ else _)=_
     rw [aM (show (i:Int)<(f.length:Int) by omega),cond_true]
     exact this
    rw [aX s1];exact ih (i+1) (by omega) (by omega)
theorem aCH (s:ByteArray) {n:Nat} (h:n<=12) (hs:12<s.size): ∃r,uS s (n:Int)=some r:=by
 show∃r,(s[n]?.map fun b=>(b.toNat:Int))=some r
 rw [getElem?_pos s n (show n<s.size by omega)]
 exact ⟨_,rfl⟩
set_option maxRecDepth 100000 in
theorem aRC {n:Nat} (h:n<=12): ∃r,sQ (n:Int)=some r:=by
 unfold sQ uM;rw [aI (show¬4294967296<=(n:Int) by omega),cond_false,aI (show¬65536<=(n:Int) by omega),cond_false,aI (show¬256<=(n:Int) by omega),cond_false]
 have w8:aA .u8 (n:Int)=(n:Int):=by
  have:n=0\/n=1\/n=2\/n=3\/n=4\/n=5\/n=6\/n=7\/n=8\/n=9\/n=10\/n=11\/n=12:=by omega
  rcases this with rfl|rfl|rfl|rfl|rfl|rfl|rfl|rfl|rfl|rfl|rfl|rfl|rfl<;>rfl
 have key: ∀s:ByteArray,12<s.size-> ∃r,((uS s (aA .u8 (n:Int))).bind fun n7=>some (aA .i64 (0+aA .i64 n7))).bind (fun n0=>some n0)=some r:=fun s h12=>by
  obtain ⟨r,e⟩:=aCH s h h12;rw [w8,e];exact ⟨_,rfl⟩
 exact key _ (by decide)
theorem KI (fok:cB f) (r:bM t) (r64:mU t) (h12:f.length<=12): ∃L:List Pt,vH ⟨f⟩ t=some (L,0)/\L.Perm f/\WD (uT t) L f.length:=by
 have f1:=fok.1;obtain ⟨m,hm⟩:=aRC h12;have pm:=wO (uT t) f f.length (Nat.le_refl _);refine ⟨DJ (uT t) f f.length,?_,pm,MT (aCE fok.2.2 t) (fun x hx=>hx) _ (Nat.le_refl _)⟩
 have ins:bN (0,(f.length:Int),f,t.1,t.2)=some (DJ (uT t) f f.length,t.1,t.2):=by
  unfold bN
  by_cases h0:f.length=0
  · obtain rfl:f=[]:=List.length_eq_zero_iff.1 h0
    refine aL ?_;unfold bA;rfl
  · refine Eq.trans ?_ (aAx fok r r64 (c0:=(0,(f.length:Int),f,t.1,t.2)) rfl f.length 1 (by omega) (by omega))
    have:DJ (uT t) f 1=f:=rfl
    rw [this];rfl
 have pdq:bT (0,(f.length:Int),m,f,t.1,t.2)=some (DJ (uT t) f f.length,t.1,t.2):=by
  show cO (bJ 999999) _=_;unfold cO;refine aL ?_;unfold eC
  simp only [show aA .i64 ((f.length:Int) -0)=(f.length:Int) by rw [B9 ⟨by omega,by omega⟩];omega,aM (show (f.length:Int)<=12 by omega),cond_true,ins,aB,pm.length_eq,beq_self_eq_true]
 have hc:eK ⟨f⟩=some 0:=by rw [lJ];exact congrArg some (lT.2 fok)
 have ck:dZ t=some 0:=by rw [dU r64,if_pos r]
 have wl:aA .u64 (Int.ofNat f.length)=(f.length:Int):=by
  show (Int.ofNat (Nat.mod f.length 18446744073709551616))=_;rw [show Nat.mod f.length 18446744073709551616=f.length from Nat.mod_eq_of_lt (by omega)];rfl
 unfold vH dT;simp only [hc,aB,show ((0:Int) !=0)=false from rfl,cond_false,ck,bH (show f.length<=1048576 by omega),wl,hm]
 rw [show bT (0,Int.ofNat f.length,m,f,t)=_ from pdq];simp only [aB,pm.length_eq,beq_self_eq_true,cond_true]
theorem CF (fok:cB f) (r:bM t) (r64:mU t) (h12:f.length<=12):(f=[]/\mA ⟨f⟩ t=some (0,42))\/
 ∃p,p∈f/\(∀q∈f,¬dV q p t)/\mA ⟨f⟩ t=some (p.1,0):=by
 obtain ⟨L,h1,h2,h3⟩:=KI fok r r64 h12;have le:=h2.length_eq;unfold mA;rw [h1,aB,show ((0:Int) !=0)=false from rfl,cond_false]
 by_cases h0:f.length=0
 · obtain rfl:f=[]:=List.length_eq_zero_iff.1 h0
   obtain rfl:L=[]:=List.length_eq_zero_iff.1 le;exact .inl ⟨rfl,rfl⟩
 · have hl:0<L.length:=by omega
   right;refine ⟨L[0]!,h2.mem_iff.1 (bB hl),fun q hq=>?_,?_⟩
   · obtain ⟨i,hi,rfl⟩:=aY.1 (h2.mem_iff.2 hq)
     by_cases c:i=0
     · subst c;exact fun h=>uD h h
     · exact h3 0 i (by omega) (by omega)
   · rw [show ((Int.ofNat L.length==0):Bool)=false by simp only [aF,beq_eq_false_iff_ne];omega,cond_false,aC L 0 hl|>(fun h=>(h:aO L 0=some L[0]!)),aB]
end
end Go.Proofs.YthljmpcakagceaaGreat
namespace Go.Proofs.YthljmpcakagceaaGreat
open Go.Vm Classical
def UU (c:aJ) (to:Int×Int):Prop:=0<c.agenda.heap.length/\mR (Ev.at c.agenda.heap[0]!) to<=0
theorem NU {c:aJ} (ok:bD c) {to:Int×Int} (rt:bM to) (r64:mU to) (le: ¬mR to c.now<0):tM c to=some (decide (UU c to),0):=by
 unfold tM;rw [lK ok.fit,if_pos ok,aB,dU r64,if_pos rt,aB,dR (by decide),cond_false,MV r64 ok.now64,if_pos ⟨rt,ok.nowv⟩,aB,aI le,cond_false]
 unfold F0;rw [jR _ ok.fit.ag,if_pos ok.agd,aB,dR rfl,cond_false]
 by_cases h:0<c.agenda.heap.length
 · have ev:=ok.agd.ev 0 h
   have g:=aC c.agenda.heap 0 h;rw [show ((0:Nat):Int)=0 from rfl] at g;rw [fW (by rw [aF];omega),cond_false,g,aB,aB,dR rfl,cond_false,MV ev.2.1 r64,if_pos ⟨ev.1,rt⟩,aB]
   congr 2
   by_cases h2:mR (Ev.at c.agenda.heap[0]!) to<=0
   · rw [aM (show UU c to from ⟨h,h2⟩),aM h2]
   · rw [aI (fun k:UU c to=>h2 k.2),aI h2]
 · rw [gL (by rw [aF];omega),cond_true,aB,aI (fun k:UU c to=>h k.1)]
   rfl
theorem aCI {c:aJ} (ok:bD c) {to:Int×Int} (r64:mU to):tX c to=some (decide (UU c to)):=by
 unfold tX;simp only [aF]
 by_cases h:0<c.agenda.heap.length
 · have ev:=ok.agd.ev 0 h
   have g:=aC c.agenda.heap 0 h;rw [show ((0:Nat):Int)=0 from rfl] at g;rw [aM (by omega),cond_true,g,aB,BJ ev.2.1 r64,aB]
   congr 1
   by_cases h2:mR (Ev.at c.agenda.heap[0]!) to<=0
   · rw [aM (show UU c to from ⟨h,h2⟩),aM h2]
   · rw [aI (fun k:UU c to=>h2 k.2),aI h2]
 · rw [aI (by omega),cond_false,aI (fun k:UU c to=>h k.1)]
theorem UV {c:aU} (ok:eX c) {i:Nat} (hi:i<c.list.length):TZ c (c.list[i]!).1=some (i:Int):=by
 have hl:=ok.len;have k:=lS (body:=xU) (fun j=>((c.list[i]!).1,(j:Int),c.next_,c.list)) c.list.length (fun j=>(c.list[j]!).1=(c.list[i]!).1) (fun j=>(j:Int)) (e:= -1) (fun j hj=>by
  unfold xU;simp only [aF,aM (show (j:Int)<(c.list.length:Int) by omega),cond_true,aC c.list j hj,aB,bC (show j<1000000000 by omega)]
  refine ⟨fun h=>?_,fun h=>?_⟩
  · rw [gL h];rfl
  · rw [fW h];rfl) (by
  unfold xU;simp only [aF,aI (show¬(c.list.length:Int)<(c.list.length:Int) by omega),cond_false])
 exact k.1 i hi rfl fun j hj e=>by have:=ok.up j i hj hi;omega
abbrev atT (c:aJ) (t:Int×Int):aJ:=⟨t,c.field,c.certs,c.agenda,c.due⟩
theorem aCJ {c:aJ} (ok:bD c) {to:Int×Int} (rt:bM to) (r64:mU to) (le: ¬mR to c.now<0) (due:UU c to):
 ∃(x:Int×Int) (c1:aJ),rO c to=some (c1,c.agenda.heap[0]!,x,0)/\HC c=some (c1,c.agenda.heap[0]!,x)/\bD c1/\c1.field=c.field/\hJ c.field.points x/\qY c1=qY c+1/\c1.now=Ev.at c.agenda.heap[0]!:=by
 obtain ⟨i,c',hi,num,r1,r2,ok1,hf,hc,_⟩:=WY ok due.1;have g:=aC c.agenda.heap 0 due.1;rw [show ((0:Nat):Int)=0 from rfl] at g;have hcl:c'.certs.list.length=c.certs.list.length-1:=by
  rw [hc];exact List.length_eraseIdx_of_lt hi
 have hcn:c'.certs.next_=c.certs.next_:=by rw [hc];rfl
 refine ⟨(c.certs.list[i]!).2,atT c' (Ev.at c.agenda.heap[0]!),?_,?_,ok1,hf,ok.known i hi,?_,rfl⟩
 · unfold rO
   rw [NU ok rt r64 le,aB,gL rfl,cond_true,aM due,Bool.not_true,cond_false,dR rfl,cond_false,g,aB,r1,aB,dR rfl,cond_false]
 · unfold HC
   rw [g,aB,show (c.agenda.heap[0]!).2.2.1=(c.certs.list[i]!).1 from num.symm,UV ok.crt hi,aB,aC c.certs.list i hi,aB,num,r2,aB]
 · unfold qY
   show c'.certs.next_- (c'.certs.list.length:Int)=_;rw [hcl,hcn];omega
theorem aCK {c:aJ} (ok:bD c) {to:Int×Int} (rt:bM to) (r64:mU to) (le: ¬mR to c.now<0) (due: ¬UU c to):rO c to=some (eD,(0,0,0,0,0),(0,0),6):=by
 unfold rO;rw [NU ok rt r64 le,aB,gL rfl,cond_true,aI due];rfl
theorem aJw {c:aJ} (ok:bD c) {to:Int×Int} (rt:bM to) (r64:mU to) (le: ¬mR to c.now<0) (due: ¬UU c to):BA c to=some (atT c to,0):=by
 unfold BA;rw [NU ok rt r64 le,aB,gL rfl,cond_true,aI due,cond_false,dR rfl,cond_false,kK ok,aB]
theorem RH {c:aJ} (ok:bD c): -200<=qY c/\qY c<=1000000:=by
 have h1:=ok.crt.len;have h2:=ok.crt.n0;have h3:=ok.crt.n1;unfold qY;omega
end Go.Proofs.YthljmpcakagceaaGreat
namespace Go.Proofs.YthljmpcakagceaaGreat
open Go.Vm Classical
end Go.Proofs.YthljmpcakagceaaGreat
namespace Go.Proofs.YthljmpcakagceaaGreat
open Go.Vm Classical
theorem aAy {c:aJ} (ok:bD c) {to:Int×Int} (rt:bM to) (due: ¬UU c to) {y:uC} (hy:y∈c.certs.list) (is:(bI c.field.points y.2 c.now).2=true):
 to.1*(bI c.field.points y.2 c.now).1.2<(bI c.field.points y.2 c.now).1.1*to.2:=by
 obtain ⟨d,hd,_,ev⟩:=ok.fol.has _ hy is;obtain ⟨v,hv,he⟩:=aY.1 ev;have tl:=JE ok.agd v hv;have h0:0<c.agenda.heap.length:=by omega
 have e0:=(ok.agd.ev 0 h0).1.1;have ev':=(ok.agd.ev v hv).1.1;rw [he] at tl ev';have n1: ¬mR (bI c.field.points y.2 c.now).1 (Ev.at c.agenda.heap[0]!)<0:=fun q=>tl (.inl q)
 rw [vI] at n1;have n2: ¬mR (Ev.at c.agenda.heap[0]!) to<=0:=fun q=>due ⟨h0,q⟩
 have n3:to.1*(Ev.at c.agenda.heap[0]!).2<(Ev.at c.agenda.heap[0]!).1*to.2:=by
  unfold mR at n2;rcases eB ((Ev.at c.agenda.heap[0]!).1*to.2) (to.1*(Ev.at c.agenda.heap[0]!).2) with ⟨a,b⟩|⟨a,b⟩|⟨a,b⟩<;>omega
 exact yW rt.1 e0 ev' n3 (Int.not_lt.1 n1)
theorem aCL {c:aJ} (ok:bD c) {to:Int×Int} (rt:bM to) (r64:mU to) (le: ¬mR to c.now<0) (due: ¬UU c to):bD (atT c to):=by
 have pt:=fun (x:Int×Int) (hb:hJ c.field.points x)=>And.intro (gC ok.fld hb.2).1 (gC ok.fld hb.1).1
 refine ⟨rt,r64,ok.fld,ok.crt,ok.agd,ok.w200,ok.hd,ok.known,?_⟩;refine aW.time (t:=c.now) (fun y hy=>?_) ok.fol
 obtain ⟨j,hj,rfl⟩:=aY.1 hy;have hb:=ok.known j hj;refine NP (pt _ hb).1 (pt _ hb).2 ok.nowv rt (by rw [vI] at le;exact Int.not_lt.1 le) (fun is=>?_)
 exact Int.le_of_lt (aAy ok rt due hy is)
structure aRD (c:aJ) (l:List Int):Prop where
 ok:bD c
 pm:(FB c.field.points).Perm l
 ct:(c.certs.list.map fun x=>x.2).Perm (DT l)
theorem aRD.bd {c:aJ} {l:List Int} (h:aRD c l):l.length<=64:=by
 have:=h.ok.bd
 have:l.length=c.field.points.length:=by rw [<- h.pm.length_eq];exact List.length_map ..
 omega
end Go.Proofs.YthljmpcakagceaaGreat
namespace Go.Proofs.YthljmpcakagceaaGreat
open Go.Vm Classical
theorem aJx {h l:Pt} {t t':Int×Int} (hh:gO h) (hl:gO l) (r:bM t) (r':bM t') (le:t.1*t'.2<=t'.1*t.2) (nf:(mI h l t).2=true->t'.1*(mI h l t).1.2<(mI h l t).1.1*t'.2): ¬dV l h t':=by
 unfold mI at nf
 by_cases h1:dV l h t
 · rw [if_pos h1] at nf
   have:=nf rfl
   dsimp only at this;omega
 · rw [if_neg h1] at nf
   by_cases h2:h.2.2<l.2.2
   · rw [if_pos h2] at nf
     obtain ⟨_,m1,m2,m3⟩:=I5 hh hl (show h.2.2≠l.2.2 by omega)
     have up:=nf rfl;dsimp only at up;intro h3;have g:0<=MX l h t':=by rcases h3 with k|k<;>omega
     rw [HS] at g;generalize met h l=m at*;have d:=m1.1;have hB:0<l.2.2-h.2.2:=by omega
     generalize l.2.2-h.2.2=B at*;generalize hA:h.2.1-l.2.1=A at*;have g2:A*t'.2<=B*t'.1:=by
      have:(l.2.1-h.2.1)*t'.2= -(A*t'.2):=by rw [<- Int.neg_mul];congr 1;omega
      omega
     have g3:m.1*t'.2*B<=t'.1*m.2*B:=by
      have e1:m.1*t'.2*B=A*t'.2*m.2:=by rw [Int.mul_right_comm,m3,Int.mul_right_comm]
      have e2:t'.1*m.2*B=B*t'.1*m.2:=by rw [Int.mul_right_comm,Int.mul_comm t'.1 B]
      rw [e1,e2];exact Int.mul_le_mul_of_nonneg_right g2 (by omega)
     have g4:m.1*t'.2<=t'.1*m.2:=Int.le_of_mul_le_mul_right g3 hB;omega
   · exact J2 r.1 r'.1 le h2 h1
theorem W5 {c:aJ} (ok:bD c) {N:List Nd} {r:Int} (tr:fQ c.field.points c.now N r) (ct: ∀e∈bL N c.field.points.length,uO c.certs.list e) {to:Int×Int} (rt:bM to) (le: ¬mR to c.now<0) (due: ¬UU c to):fQ c.field.points to N r:=by
 have ln:=tr.len;refine ⟨tr.len,tr.ids,tr.tree.other (KV ok.fld.2.2 to) (Nat.le_refl _) fun k j _ hk _ hj hb=>?_⟩
 have hbl:Below N j k:=hb;have hp:=tr.par hj;have hr:(j:Int)≠r:=fun q=>by
  have e:=hp.1 q
  have:=hp.2.2 k (by omega) hbl
  omega
 obtain ⟨p1,p2,p3,_⟩:=hp.2.1 hr;have ek:=hp.2.2 k (by omega) hbl
 have mem:((c.field.points[j]!).1,(c.field.points[k]!).1)∈bL N c.field.points.length:=BT.2 ⟨j,hj,p1,by rw [<- ek,tr.ids j hj,tr.ids k hk]⟩
 obtain ⟨w,w1,w2⟩:=ct _ mem;have hk':=ok.fld.2.1 _ (bB hk);have hj':=ok.fld.2.1 _ (bB hj);have wn:bI c.field.points (c.certs.list[w]!).2 c.now=mI c.field.points[k]! c.field.points[j]! c.now:=by
  unfold bI;rw [w2,xZ ok.fld.2.2 hk rfl,xZ ok.fld.2.2 hj rfl]
 have nl: ¬dV c.field.points[j]! c.field.points[k]! to:=by
  refine aJx hk' hj' ok.nowv rt (by rw [vI] at le;omega) fun is=>?_
  rw [<- wn] at is;obtain ⟨d,hd,_,ev⟩:=ok.fol.has _ (bB w1) is;obtain ⟨v,hv,he⟩:=aY.1 ev;have tl:=JE ok.agd v hv;have h0:0<c.agenda.heap.length:=by omega
  have e0:=(ok.agd.ev 0 h0).1.1;have ev':=(ok.agd.ev v hv).1.1;rw [he] at tl ev';rw [<- wn];have n1: ¬mR (bI c.field.points (c.certs.list[w]!).2 c.now).1 (Ev.at c.agenda.heap[0]!)<0:=fun q=>tl (.inl q)
  rw [vI] at n1;have n2: ¬mR (Ev.at c.agenda.heap[0]!) to<=0:=fun q=>due ⟨h0,q⟩
  have n3:to.1*(Ev.at c.agenda.heap[0]!).2<(Ev.at c.agenda.heap[0]!).1*to.2:=by
   unfold mR at n2;rcases eB ((Ev.at c.agenda.heap[0]!).1*to.2) (to.1*(Ev.at c.agenda.heap[0]!).2) with ⟨a,b⟩|⟨a,b⟩|⟨a,b⟩<;>omega
  exact yW rt.1 e0 ev' n3 (Int.not_lt.1 n1)
 exact yA to (fun e=>p3 (by rw [<- ek];exact oV ok.fld.2.2 hk hj e.symm)) nl
end Go.Proofs.YthljmpcakagceaaGreat
namespace Go.Proofs.YthljmpcakagceaaGreat
open Go.Vm Classical
structure aTg (c:aJ) (f:List Pt) (k:cX):Prop where
 ren:NO c f (bL k.tree.nodes f.length) k.clock
 tree:fQ f c.now k.tree.nodes k.tree.root
theorem EO {c:aJ} (ok:bD c) {f:List Pt} (fok:cB f):
 ∃R:cX×Int,jI c ⟨f⟩=some R/\yS c ⟨f⟩=some R/\(R.2=0/\aTg c f R.1\/R=(⟨eD,⟨0,[]⟩⟩,18)):=by
 have f1:=fok.1;obtain ⟨r,N,h1,h2⟩:=KW fok ok.nowv ok.now64;obtain ⟨r',N',g1,g2⟩:=PH fok (t:=c.now) ok.now64;obtain ⟨e1,e2⟩:=g2.same fok.2.2 h2;subst e1 e2;have ln:=h2.len;obtain ⟨R,r1,r2,r3⟩:=W3 ok fok h2;have eo:=Y5 h2 (by omega)
 rw [ln] at eo;rcases r3 with ⟨q0,qq⟩|he
 · refine ⟨(⟨R.1,⟨r',N'⟩⟩,0),?_,?_,.inl ⟨rfl,qq,h2⟩⟩
   · unfold jI
     simp only [h1,aB,r1,q0,show ((0:Int) !=0)=false from rfl,cond_false]
   · unfold yS
     simp only [g1,aB,eo,r2,q0,show ((0:Int) !=0)=false from rfl,cond_false]
 · refine ⟨(⟨eD,⟨0,[]⟩⟩,18),?_,?_,.inr rfl⟩
   · unfold jI
     simp only [h1,aB,r1,he,show ((18:Int) !=0)=true from rfl,cond_true]
   · unfold yS
     simp only [g1,aB,eo,r2,he,show ((18:Int) !=0)=true from rfl,cond_true]
def hP (c:aJ) (r:Int) (N:List Nd) (to:Int×Int) (out:List (Int×Int)):=
 (c.now.1,c.now.2,c.field.points,c.certs.next_,c.certs.list,c.agenda.slots.uses,c.agenda.slots.used,c.agenda.slots.free,c.agenda.heap,c.agenda.where_,c.due,r,N,to.1,to.2,(0:Int),(0:Int),(0:Int),(0:Int),out)
end Go.Proofs.YthljmpcakagceaaGreat
namespace Go.Proofs.YthljmpcakagceaaGreat
open Go.Vm Classical
end Go.Proofs.YthljmpcakagceaaGreat
namespace Go.Proofs.YthljmpcakagceaaGreat
open Go.Vm Classical
end Go.Proofs.YthljmpcakagceaaGreat
namespace Go.Proofs.YthljmpcakagceaaGreat
open Go.Vm Classical
theorem W6 {to:Int×Int} (rt:bM to) (r64:mU to): ∀(d:Nat) (c:aJ) (r:Int) (N:List Nd) (out:List (Int×Int)),1000000-qY c<(d:Int)->gP ⟨c,⟨r,N⟩⟩-> ¬mR to c.now<0->(out.length:Int)<=qY c+200->
 ∃R:cX×List (Int×Int)×Int,aH iB (hP c r N to out)=some R/\(R.2.2=18\/R.2.2=0/\W4 R.1 c.field.points to/\ ¬UU R.1.clock to):=by
 intro d
 induction d with
 |zero=>intro c r N out hd ok;have:=(RH (show bD c from ok.clk)).2;omega
 |succ d ih=>
  intro c r N out hd hok le ho;have ok:bD c:=hok.clk;have tr:fQ c.field.points c.now N r:=hok.tree;have bd:=ok.bd;have rb:=RH ok;have ct: ∀e∈bL N c.field.points.length,uO c.certs.list e:=fun e he=>wW.2 (hok.cert.mem_iff.2 he)
  have ceta:(aJ.mk (c.now.1,c.now.2) (Field.mk c.field.points) (aU.mk c.certs.next_ c.certs.list) (aG.mk (aR.mk c.agenda.slots.uses c.agenda.slots.used c.agenda.slots.free) c.agenda.heap c.agenda.where_) c.due)=c:=rfl;have teta:((to.1,to.2):Int×Int)=to:=rfl
  by_cases due:UU c to
  · obtain ⟨x,c1,e1,_,ok1,hf,_,hr,hn⟩:=aCJ ok rt r64 le due
    obtain ⟨R,s1,_,s3⟩:=EO ok1 ok1.fld;have s1:jI c1 c1.field=some R:=s1;have ol:bK out [x]=some (out++[x]):=dN (by rw [List.length_singleton];omega)
    rcases s3 with ⟨q0,qs⟩|he
    · have st1:iB (hP c r N to out)=some (.next (hP R.1.clock R.1.tree.root R.1.tree.nodes to (out++[x]))):=by
       unfold iB hP;simp only [ceta,teta,e1,aB,s1,q0,show ((0:Int) !=0)=false from rfl,cond_false,ol]
      have rr:=qs.ren.room;have hk:gP ⟨R.1.clock,⟨R.1.tree.root,R.1.tree.nodes⟩⟩:=by
       obtain ⟨_,nd,_⟩:=qs.tree.edges ok1.fld;refine ⟨qs.ren.ok,?_,?_⟩
       · show fQ R.1.clock.field.points R.1.clock.now R.1.tree.nodes R.1.tree.root
         rw [qs.ren.fld,qs.ren.now];exact qs.tree
       · show (R.1.clock.certs.list.map fun x=>x.2).Perm (bL R.1.tree.nodes R.1.clock.field.points.length)
         rw [qs.ren.fld];exact J4 (DU qs.ren.ok.crt) nd (fun x hx=>by obtain ⟨y,hy,rfl⟩:=List.mem_map.1 hx;exact qs.ren.sub y hy) (fun x hx=>wW.1 (qs.ren.has x hx))
      rw [aX st1];obtain ⟨S,t1,t2⟩:=ih R.1.clock R.1.tree.root R.1.tree.nodes (out++[x]) (by omega) hk (fun h=>by
       have h2:=due.2;rw [qs.ren.now,hn,vI] at h
       have: ¬0<mR (Ev.at c.agenda.heap[0]!) to:=by omega
       unfold mR at this;rcases eB ((Ev.at c.agenda.heap[0]!).1*to.2) (to.1*(Ev.at c.agenda.heap[0]!).2) with ⟨a,b⟩|⟨a,b⟩|⟨a,b⟩<;>omega) (by rw [List.length_append,List.length_singleton];omega)
      rw [qs.ren.fld,hf] at t2;exact ⟨S,t1,t2⟩
    · refine ⟨(⟨eD,⟨0,[]⟩⟩,[],18),aL ?_,.inl rfl⟩
      unfold iB hP;simp only [ceta,teta,e1,aB,s1,he,show ((0:Int) !=0)=false from rfl,show ((18:Int) !=0)=true from rfl,cond_false,cond_true]
  · obtain ⟨r2,N2,h1,h2⟩:=KW ok.fld rt r64
    have ts:=W5 ok tr ct rt le due;obtain ⟨e1,e2⟩:=h2.same ok.fld.2.2 ts;subst e1 e2;have h1:iT c.field to=some (⟨r2,N2⟩,bL N2 c.field.points.length):=h1;refine ⟨(⟨atT c to,⟨r2,N2⟩⟩,out,0),aL ?_,.inr ⟨rfl,⟨⟨aCL ok rt r64 le due,ts,hok.cert⟩,rfl,rfl⟩,due⟩⟩;unfold iB hP
    simp only [ceta,teta,aCK ok rt r64 le due,aB,show ((6:Int) !=0)=true from rfl,cond_true,aJw ok rt r64 le due,h1]
theorem GC {k:cX} (ok:gP k) {to:Int×Int} (rt:bM to) (r64:mU to) (le: ¬mR to k.clock.now<0):
 ∃R:cX×List (Int×Int)×Int,nE k to=some R/\(R.2.2=18\/R.2.2=0/\W4 R.1 k.clock.field.points to/\ ¬UU R.1.clock to):=by
 have c1:=uP ok.clk.fit;rw [if_pos ok] at c1;have rb:=RH ok.clk;obtain ⟨R,r1,r2⟩:=W6 rt r64 (1000001-qY k.clock).toNat k.clock k.tree.root k.tree.nodes [] (by omega) ok le (by simp;omega)
 refine ⟨R,?_,r2⟩;unfold nE;rw [c1,aB,dR rfl,cond_false,dU r64,if_pos rt,aB,dR rfl,cond_false,MV r64 ok.clk.now64,if_pos ⟨rt,ok.clk.nowv⟩,aB,aI le];exact r1
theorem HV {k:cX} (ok:gP k):(k.clock.field.points=[]/\kG k=some (0,42))\/
 ∃i,i<k.clock.field.points.length/\(∀j,j<k.clock.field.points.length->j≠i->NX k.clock.field.points k.clock.now i j)/\kG k=some ((k.clock.field.points[i]!).1,0):=by
 have c1:=uP ok.clk.fit;rw [if_pos ok] at c1;have tr:=ok.tree;have tt:=tr.tree;have ln:=tr.len;unfold kG;rw [c1,aB,dR rfl,cond_false];generalize hr:k.tree.root=rt at tt ⊢;cases tt with
 |nil h0=>
  refine .inl ⟨List.length_eq_zero_iff.1 (by omega),?_⟩
  rw [aM (by decide),cond_true]
 | @node _ _ i tp _ _=>
  have hi:=tp.hi;refine .inr ⟨i,hi,fun j hj hne=>tp.top j (Nat.zero_le _) hj hne,?_⟩
  rw [aI (by omega),cond_false,aC k.tree.nodes i (by omega),aB,tr.ids i hi]
theorem NV {k:cX} (ok:gP k) (h12:k.clock.field.points.length<=12): ∃a:Int×Int,kG k=some a/\mA k.clock.field k.clock.now=some a:=by
 have fok:=ok.clk.fld;rcases HV ok with ⟨h0,l⟩|⟨i,hi,ht,l⟩
 · rcases CF fok ok.clk.nowv ok.clk.now64 h12 with ⟨_,m⟩|⟨p,hp,_,_⟩
   · exact ⟨_,l,m⟩
   · rw [h0] at hp;cases hp
 · rcases CF fok ok.clk.nowv ok.clk.now64 h12 with ⟨h0,_⟩|⟨p,hp,hm,m⟩
   · rw [h0] at hi;cases hi
   · obtain ⟨j,hj,rfl⟩:=aY.1 hp
     have:j=i:=by
      rcases Classical.em (j=i) with e|e
      · exact e
      · exact absurd (ht j hj e) (hm _ (bB hi))
     subst this;exact ⟨_,l,m⟩
theorem aAz {f:List Pt} {t:Int×Int} {N:List Nd} {r:Int} (tr:fQ f t N r):(bL N f.length).length=f.length-1:=by
 have ln:=tr.len;have key: ∀k,k<=f.length->(bL N k).length=if 0<=r/\r<(k:Int) then k-1 else k:=by
  intro k
  induction k with
  |zero=>intro _;rw [if_neg (by omega)];rfl
  |succ k ih=>
   intro hk;have e:=ih (by omega)
   have pr:=tr.par (show k<f.length by omega)
   have es:(bL N (k+1)).length=(bL N k).length+(DW N k).length:=by
    show (bL N k++DW N k).length=_;rw [List.length_append]
   rw [es,e];unfold DW
   by_cases c:(k:Int)=r
   · rw [if_neg (show¬mS N k<N.length by rw [pr.1 c];omega),if_neg (by omega),if_pos (by omega)];rfl
   · rw [if_pos (pr.2.1 c).1,List.length_singleton]
     by_cases d:0<=r/\r<(k:Int)
     · rw [if_pos d,if_pos (by omega)];omega
     · rw [if_neg d,if_neg (by omega)]
 rw [key _ (Nat.le_refl _)];have tt:=tr.tree;generalize r=rt at tt ⊢;cases tt with
 |nil h0=>rw [if_neg (by omega)];omega
 | @node _ _ i tp _ _=>
  have hi:=tp.hi;rw [if_pos (by omega)]
theorem JH {k:cX} (ok:gP k):qM k=some (bL k.tree.nodes k.clock.field.points.length,0):=by
 have c1:=uP ok.clk.fit;rw [if_pos ok] at c1;have fok:=ok.clk.fld;obtain ⟨r,N,m1,m2⟩:=KW fok ok.clk.nowv ok.clk.now64;obtain ⟨q1,q2⟩:=m2.same fok.2.2 ok.tree;have m1:iT k.clock.field k.clock.now=some (⟨r,N⟩,bL N k.clock.field.points.length):=m1;rw [q1] at m1;unfold qM;rw [c1,aB,dR rfl,cond_false,m1,aB]
theorem aCM {k:cX} (n:aCy k.clock):zY k=some false\/(zY k=some true/\gP k/\k.clock.field.points.length<=10):=by
 unfold zY;rcases RG k with e|⟨e,sh⟩
 · rw [e];exact .inl rfl
 rw [e,aB];unfold F2;rw [aB,Bool.not_false,cond_true]
 by_cases hm:10<Int.ofNat k.clock.field.points.length
 · rw [aM hm];exact .inl rfl
 · rw [aI hm,Bool.not_false,cond_true,DX ⟨n.now,⟨sh.c.s3,sh.c.h,sh.c.w,n.at64⟩,sh.c.d⟩,aB]
   by_cases ok:gP k
   · rw [if_pos ok];exact .inr ⟨rfl,ok,by rw [aF] at hm;omega⟩
   · rw [if_neg ok];exact .inl rfl
theorem aTh {n:Nat} (h:n<=1000):(if (aA .i64 ((n:Int) -1))>0 then aA .i64 ((n:Int) -1) else 0)=((n-1:Nat):Int):=by
 rw [B9 ⟨by omega,by omega⟩]
 split<;>omega
theorem BU (k:cX) (to:Int×Int) (n:aCy k.clock) (r64:mU to):qQ k to=some true:=by
 unfold qQ;rw [aB];rcases aCM n with e|⟨e,ok,h10⟩
 · rw [e];rfl
 rw [e,aB,Bool.not_true,cond_false,wP r64,aB]
 by_cases rt:bM to
 case neg=>rw [if_neg rt];rfl
 rw [if_pos rt,dR rfl,cond_false,BJ n.now r64,aB]
 by_cases l1:0<mR k.clock.now to
 · rw [aM l1];rfl
 rw [aI l1,cond_false,cond_false];have le: ¬mR to k.clock.now<0:=fun h=>l1 (by rw [vI] at h;unfold mR;rcases eB (k.clock.now.1*to.2) (to.1*k.clock.now.2) with ⟨a,b⟩|⟨a,b⟩|⟨a,b⟩<;>omega)
 obtain ⟨R,r1,r2⟩:=GC ok rt r64 le;rw [r1,aB];rcases r2 with r0|⟨r0,ht,nd⟩
 · rw [r0];rfl
 rw [r0,show ((0:Int) !=0)=false from rfl,cond_false];obtain ⟨⟨RC,RT⟩,out,er⟩:=R;dsimp only at r0 ht nd ⊢;have hok:=ht.ok;have hf:RC.field.points=k.clock.field.points:=ht.fld;have hn:RC.now=to:=ht.now;have hfe:RC.field=k.clock.field:=by
  have:=hf
  cases hx:RC.field;cases hy:k.clock.field;rw [hx,hy] at this;simpa using this
 obtain ⟨a,a1,a2⟩:=NV hok (by show RC.field.points.length<=12;rw [hf];omega)
 have a2:mA RC.field RC.now=some a:=a2;rw [hfe,hn] at a2;have ed:qM ⟨RC,RT⟩=some (bL RT.nodes RC.field.points.length,0):=JH hok;have tr:fQ RC.field.points RC.now RT.nodes RT.root:=hok.tree;have ne:=aAz tr;obtain ⟨eok,edn,eld⟩:=tr.edges hok.clk.fld;rw [hf] at ed ne
 have wt:tX RC to=some false:=by rw [aCI hok.clk r64];exact congrArg some (aI nd)
 have fok:=ok.clk.fld;have edg:tY k.clock.field (bL RT.nodes k.clock.field.points.length)=some 0:=by
  rw [show tY k.clock.field _=_ from NQ fok _ (by rw [ne];omega)]
  rw [hf] at eok edn;unfold kS;rw [if_neg (Classical.not_not.2 eok.cv),if_neg (Classical.not_not.2 edn),if_neg (fun h=>h eok.kn)]
 have ck:pK ⟨RC,RT⟩=some 0:=by rw [DX hok.clk.fit,if_pos hok]
 rw [a1,aB,a2,aB,ed,aB,ck,aB];simp only [show ((0:Int) !=0)=false from rfl,cond_false,hn,beq_self_eq_true,Bool.and_self,Bool.not_true,bne_self_eq_false,aTh (show k.clock.field.points.length<=1000 by omega),ne,aF,wt,aB,edg]
 generalize hes:bL RT.nodes k.clock.field.points.length=es at*;have el:es.length<=9:=by rw [ne];omega
 have st:=eA (body:=kC) (fun i=>(true,es,(i:Int),to.1,to.2,k.clock.field.points,to.1,to.2,RC.field.points,RC.certs.next_,RC.certs.list,RC.agenda.slots.uses,RC.agenda.slots.used,RC.agenda.slots.free,RC.agenda.heap,RC.agenda.where_,RC.due,RT.root,RT.nodes)) es.length (fun i hi=>by
  have g:=aC es i hi;rw [hf] at eok eld;rw [hes] at eok eld;have kn:=eok.kn _ (bB hi);have ld:=eld _ (bB hi);have na:tZ ⟨k.clock.field.points⟩ to (es[i]!).1 (es[i]!).2=some false:=by
   rw [aCA fok r64 kn.1 kn.2];rw [hn] at ld;exact congrArg some (aI (uD ld))
  unfold kC;simp only [aF,aM (show (i:Int)<(es.length:Int) by omega),cond_true,g,aB]
  rw [show ((to.1,to.2):Int×Int)=to from rfl,na,aB,cond_false,bC (show i<1000000000 by omega)])
 refine (show _=_ from st).trans (aL ?_);obtain ⟨q,N,o1,o2⟩:=Y2 fok rt r64;have tr':=tr;rw [hf,hn] at tr';obtain ⟨s1,s2⟩:=o2.same fok.2.2 tr';have nl:=tr'.len;unfold kC;simp only [aF,aI (show¬(es.length:Int)<(es.length:Int) by omega),cond_false]
 rw [show ((to.1,to.2):Int×Int)=to from rfl,o1,aB,cond_true,show ((0:Int)==0)=true from rfl,cond_true,s1,s2,show lR ⟨RT.root,RT.nodes⟩ ⟨RT.root,RT.nodes⟩=_ from Y6 RT.root RT.root RT.nodes RT.nodes (by omega),aB,aM ⟨rfl,rfl⟩]
end Go.Proofs.YthljmpcakagceaaGreat
namespace Go.Proofs.YthljmpcakagceaaGreat
open Go.Vm Classical
theorem aCy.of {c:aJ} (h1:RT.wf [.i .i64,.i .i64] c.now) (h2: ∀a∈c.agenda.heap,RT.wf [.i .i64,.i .i64,.i .i64,.i .i64,.i .i64] a):aCy c where
 now:=⟨IZ h1.1,IZ h1.2⟩
 at64 w hw:=by
  have:=h2 (c.agenda.heap[w]!) (by rw [getElem!_pos c.agenda.heap w hw];exact List.getElem_mem hw)
  exact ⟨IZ this.1,IZ this.2.1⟩
end Go.Proofs.YthljmpcakagceaaGreat
