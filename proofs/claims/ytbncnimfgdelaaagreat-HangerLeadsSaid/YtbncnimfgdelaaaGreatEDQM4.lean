/- Plain laws (4). -/
import Derived.Test.YtbncnimfgdelaaaGreatEDQM3
import Derived.Test.YtbncnimfgdelaaaGreatEDQS2
import Derived.Test.YtbncnimfgdelaaaGreatEDVm3
namespace Go.Proofs.YtbncnimfgdelaaaGreat
open Go.Vm Classical
theorem aDP {f:List Pt} (fok:bJ f) {t:Int×Int} (r64:nB t) {a b:Int} (ha:nD f a) (hb:nD f b):vD ⟨f⟩ t a b=some (decide (bT (eD f a) (eD f b) t)):=by
 obtain ⟨j,j1,j2,j3⟩:=AI fok ha;obtain ⟨k,k1,k2,k3⟩:=AI fok hb;unfold vD;simp only [j2,k2,aB,aC f j j1,aC f k k1,j3,k3,IT (eC fok ha).1 (eC fok hb).1 r64]
theorem SY (p q:Pt) (t:Int×Int):N8 p q t=(p.2.1*t.2+p.2.2*t.1) - (q.2.1*t.2+q.2.2*t.1):=by
 rw [I6,Int.sub_mul,Int.sub_mul];omega
theorem zJ {p q r:Pt} {t:Int×Int} (h1:bT p q t) (h2:bT q r t):bT p r t:=by
 unfold bT at*;rw [SY] at*;generalize p.2.1*t.2+p.2.2*t.1=a at*;generalize q.2.1*t.2+q.2.2*t.1=b at*;generalize r.2.1*t.2+r.2.2*t.1=c at*;omega
theorem vH {p q:Pt} (t:Int×Int) (h:p.1≠q.1) (hn: ¬bT p q t):bT q p t:=by
 unfold bT at*;rw [SY] at*;generalize p.2.1*t.2+p.2.2*t.1=a at*;generalize q.2.1*t.2+q.2.2*t.1=b at*;omega
structure SO (P:Int->Int->Prop) (S:Int->Prop):Prop where
 irr: ∀a,S a-> ¬P a a
 tr: ∀a b c,S a->S b->S c->P a b->P b c->P a c
 tot: ∀a b,S a->S b->a≠b->P a b\/P b a
abbrev par (j:Nat):Nat:=(j-1) / 2
def Hp (P:Int->Int->Prop) (l:List Int):Prop:= ∀j,0<j->j<l.length-> ¬P l[j]! l[par j]!
section
variable {P : Int -> Int -> Prop} {S : Int -> Prop}
theorem SO.asym (o:SO P S) {a b:Int} (ha:S a) (hb:S b) (h:P a b): ¬P b a:=fun k=>o.irr a ha (o.tr a b a ha hb ha h k)
theorem SO.ntr (o:SO P S) {a b c:Int} (ha:S a) (hb:S b) (hc:S c) (h1: ¬P a b) (h2: ¬P b c): ¬P a c:=fun h=>by
 by_cases e:b=c
 · exact h1 (e▸h)
 · rcases o.tot b c hb hc e with k|k
   · exact h2 k
   · exact h1 (o.tr a c b ha hc hb h k)
theorem SO.up (o:SO P S) {a b c:Int} (ha:S a) (hb:S b) (hc:S c) (h1:P b c) (h2: ¬P a c): ¬P a b:=fun h=>h2 (o.tr a b c ha hb hc h h1)
end
noncomputable def jX (f:List Pt) (es:List (Int×Int)):Int:=if¬(∀x∈es,fI x) then 8 else if¬es.Nodup then 14 else if¬(∀x∈es,iJ f x) then 6 else 0
theorem O1 {f:List Pt} (fok:bJ f) (es:List (Int×Int)) (hl:es.length<=1000):vC ⟨f⟩ es=some (jX f es):=by
 have el:decide ((es.length:Int)<(es.length:Int))=false:=aH (by omega)
 have k1:=CW (body:=rQ) (fun i=>(es,(i:Int),f)) es.length (fun i=>iJ f es[i]!) (r:= .done (.done 6)) (e:= .done (.done 0)) (fun i hi=>by
  have e1:decide ((i:Int)<(es.length:Int))=true:=aO (by omega)
  unfold rQ iJ;simp only [aF,e1,cond_true,aC es i hi,aB,aX (show i<1000000000 by omega)]
  by_cases h1:nD f (es[i]!).1
  · obtain ⟨a,a1,a2,_⟩:=AI fok h1
    rw [a2];simp only [aB,aH (show¬(a:Int)<0 by omega),cond_false]
    by_cases h2:nD f (es[i]!).2
    · obtain ⟨b,b1,b2,_⟩:=AI fok h2
      rw [b2];simp only [aB,aH (show¬(b:Int)<0 by omega),cond_false]
      exact ⟨fun h=>absurd ⟨h1,h2⟩ h,fun _=>trivial⟩
    · rw [SW fok h2]
      exact ⟨fun _=>rfl,fun h=>absurd h.2 h2⟩
  · rw [SW fok h1]
    exact ⟨fun _=>rfl,fun h=>absurd h.1 h1⟩) (by
  unfold rQ;simp only [aF,el,cond_false])
 have k2:=CW (body:=rR) (fun i=>(es,(i:Int),f)) es.length (fun i=>es[i]!∉es.take i) (r:= .done 14) (e:= .done (if∀i,i<es.length->iJ f es[i]! then 0 else 6)) (fun i hi=>by
  have e1:decide ((i:Int)<(es.length:Int))=true:=aO (by omega)
  unfold rR;simp only [aF,e1,cond_true,nM es i (by omega),aC es i hi,aB,EP _ _ (show (es.take i).length<=1000000 by rw [List.length_take];omega),aX (show i<1000000000 by omega)]
  by_cases h:es[i]!∈es.take i
  · rw [aO h];exact ⟨fun _=>rfl,fun k=>absurd h k⟩
  · rw [aH h];exact ⟨fun k=>absurd h k,fun _=>rfl⟩) (by
  unfold rR;simp only [aF,el,cond_false];refine k1.trans ?_
  by_cases hb: ∀i,i<es.length->iJ f es[i]!
  · rw [if_pos hb,if_pos hb]
  · rw [if_neg hb,if_neg hb])
 have k3:=CW (body:=rS) (fun i=>(es,(i:Int),f)) es.length (fun i=>fI es[i]!) (r:=8) (e:=if∀i,i<es.length->es[i]!∉es.take i then (if∀i,i<es.length->iJ f es[i]! then 0 else 6) else 14) (fun i hi=>by
  have e1:decide ((i:Int)<(es.length:Int))=true:=aO (by omega)
  unfold rS;simp only [aF,e1,cond_true,aC es i hi,aB,AG,aX (show i<1000000000 by omega)]
  by_cases h:fI es[i]!
  · rw [aO h];exact ⟨fun k=>absurd h k,fun _=>rfl⟩
  · rw [aH h];exact ⟨fun _=>rfl,fun k=>absurd k h⟩) (by
  unfold rS;simp only [aF,el,cond_false];refine k2.trans ?_
  by_cases hb: ∀i,i<es.length->es[i]!∉es.take i
  · rw [if_pos hb,if_pos hb]
  · rw [if_neg hb,if_neg hb])
 refine k3.trans ?_;unfold jX;have a1:=BF (P:=fI) (l:=es);have a2:=HA (l:=es);have a3:=BF (P:=iJ f) (l:=es)
 by_cases h1: ∀x∈es,fI x
 · rw [if_pos (a1.1 h1),if_neg (Classical.not_not.2 h1)]
   by_cases h2:es.Nodup
   · rw [if_pos (a2.1 h2),if_neg (Classical.not_not.2 h2)]
     by_cases h3: ∀x∈es,iJ f x
     · rw [if_pos (a3.1 h3),if_neg (Classical.not_not.2 h3)]
     · rw [if_neg (fun h=>h3 (a3.2 h)),if_pos h3]
   · rw [if_neg (fun h=>h2 (a2.2 h)),if_pos h2]
 · rw [if_neg (fun h=>h1 (a1.2 h)),if_pos h1]
def rP (c:aL) (f:List Pt) (es:List (Int×Int)) (i:Nat):=
 (es,es,(es.length:Int),(i:Int),c.now.1,c.now.2,c.field.points,c.certs.next_,c.certs.list,c.agenda.slots.uses,c.agenda.slots.used,c.agenda.slots.free,c.agenda.heap,c.agenda.where_,c.due,f,(0:Int),(0:Int),(0:Int))
theorem ET {c:aL} (ok:bA c) {f:List Pt} (fok:bJ f) {es:List (Int×Int)} (hl:es.length<=1000) {r:aL×Int} (hr:jX f es=0->oC c ⟨f⟩ es=some r):
 oD c ⟨f⟩ es=some (if jX f es=0 then r else (dW,jX f es)):=by
 have bd:=ok.bd;have ab:=ok.agd.bd;have sl:=ok.agd.so.fl;have sn:=ok.agd.so.n2;have su:=ok.agd.so.ul;have el:decide ((es.length:Int)<(es.length:Int))=false:=aH (by omega)
 have hc:gY c=some 0:=by rw [mB ok.fit,if_pos ok]
 have hf:fZ ⟨f⟩=some 0:=by rw [mA];exact congrArg some (kQ.2 fok)
 have tw:xM (aL.mk (c.now.1,c.now.2) (Field.mk c.field.points) (bF.mk c.certs.next_ c.certs.list) (aK.mk (aU.mk c.agenda.slots.uses c.agenda.slots.used c.agenda.slots.free) c.agenda.heap c.agenda.where_) c.due)=some c:=by
  unfold xM;simp only [bG (show c.field.points.length<=1048576 by omega),bG (show c.certs.list.length<=1048576 by omega),bG (show c.due.length<=1048576 by omega),bG (show c.agenda.heap.length<=1048576 by omega),bG (show c.agenda.where_.length<=1048576 by omega),
   bG (show c.agenda.slots.uses.length<=1048576 by omega),bG (show c.agenda.slots.used.length<=1048576 by omega),bG (show c.agenda.slots.free.length<=1048576 by omega),aB]
 have k3: ∀e2:aL×Int,aG eV (rP c f es 0)=some (.done e2)->aG eW (rP c f es 0)=some (if∀i,i<es.length->fI es[i]! then e2 else (dW,8)):=by
  intro e2 h2;refine CW (body:=eW) (fun i=>rP c f es i) es.length (fun i=>fI es[i]!) (r:=(dW,8)) (e:=e2) (fun i hi=>?_) ?_
  · have e1:decide ((i:Int)<(es.length:Int))=true:=aO (by omega)
    unfold eW rP fI;simp only [e1,cond_true,aC es i hi,aB,aX (show i<1000000000 by omega)]
    generalize es[i]! =x
    by_cases a1:x.1<0
    · rw [aO a1];exact ⟨fun _=>rfl,fun h=>by omega⟩
    rw [aH a1]
    by_cases a2:x.2<0
    · rw [aO a2];exact ⟨fun _=>rfl,fun h=>by omega⟩
    rw [aH a2]
    by_cases a3:65535<x.1
    · rw [aO a3];exact ⟨fun _=>rfl,fun h=>by omega⟩
    rw [aH a3]
    by_cases a4:65535<x.2
    · rw [aO a4];exact ⟨fun _=>rfl,fun h=>by omega⟩
    rw [aH a4]
    by_cases a5:x.1=x.2
    · rw [fS a5];exact ⟨fun _=>rfl,fun h=>absurd a5 h.2.2.2.2⟩
    · rw [eN a5];exact ⟨fun h=>absurd ⟨by omega,by omega,by omega,by omega,a5⟩ h,fun _=>rfl⟩
  · unfold eW rP
    simp only [aF,el,cond_false];exact h2
 have k2: ∀e1:aL×Int,aG fR (rP c f es 0)=some (.done (.done e1))->aG eV (rP c f es 0)=some (.done (if∀i,i<es.length->es[i]!∉es.take i then e1 else (dW,14))):=by
  intro e0 h2
  have:=CW (body:=eV) (fun i=>rP c f es i) es.length (fun i=>es[i]!∉es.take i) (r:= .done (dW,14)) (e:= .done e0) (fun i hi=>by
   have e1:decide ((i:Int)<(es.length:Int))=true:=aO (by omega)
   unfold eV rP;simp only [e1,cond_true,aC es i hi,nM es i (by omega),aB,pM _ _ (show (es.take i).length<=1000000 by rw [List.length_take];omega),aX (show i<1000000000 by omega)]
   by_cases h:es[i]!∈es.take i
   · rw [aO h];exact ⟨fun _=>rfl,fun k=>absurd h k⟩
   · rw [aH h];exact ⟨fun k=>absurd h k,fun _=>rfl⟩) (by
   unfold eV rP;simp only [aF,el,cond_false];exact h2)
  refine this.trans ?_
  by_cases hb: ∀i,i<es.length->es[i]!∉es.take i
  · rw [if_pos hb,if_pos hb]
  · rw [if_neg hb,if_neg hb]
 have step1: ∀i,i<es.length->(¬iJ f es[i]!->fR (rP c f es i)=some (.done (.done (.done (dW,6)))))/\(iJ f es[i]!->fR (rP c f es i)=some (.next (rP c f es (i+1)))):=by
  intro i hi;have e1:decide ((i:Int)<(es.length:Int))=true:=aO (by omega)
  obtain ⟨p,e,a1,a2⟩:=GD fok (es[i]!).1;obtain ⟨q,g,b1,b2⟩:=GD fok (es[i]!).2;unfold fR rP iJ;simp only [e1,cond_true,aC es i hi,aB,a1,b1,aX (show i<1000000000 by omega)]
  by_cases h1:nD f (es[i]!).1
  · rw [cP (a2.2 h1)]
    by_cases h2:nD f (es[i]!).2
    · rw [cP (b2.2 h2)]
      exact ⟨fun h=>absurd ⟨h1,h2⟩ h,fun _=>rfl⟩
    · rw [dX (fun h=>h2 (b2.1 h))]
      exact ⟨fun _=>rfl,fun h=>absurd h.2 h2⟩
  · rw [dX (fun h=>h1 (a2.1 h))]
    exact ⟨fun _=>rfl,fun h=>absurd h.1 h1⟩
 have start:oD c ⟨f⟩ es=aG eW (rP c f es 0):=by
  unfold oD;simp only [hc,aB,show ((0:Int) !=0)=false from rfl,cond_false,hf];rfl
 rw [start]
 by_cases h1: ∀x∈es,fI x
 case neg=>
  have er:jX f es=8:=by unfold jX;rw [if_pos h1]
  rw [er,if_neg (by omega)]
  have:=dG (body:=eW) (fun i=>rP c f es i) es.length (fun i=> ¬fI es[i]!) (r:=(dW,8)) (e:=r)
  have k3':=k3;rw [BF (P:=fI)] at h1;obtain ⟨i,h⟩:=Classical.not_forall.1 h1;obtain ⟨hi,hx⟩:=Classical.not_imp.1 h;obtain ⟨m,m1,m2,m3⟩:=K2 (c:=fun i=> ¬fI es[i]!) ⟨i,hi,hx⟩
  have go: ∀j,j<es.length->(¬fI es[j]!->eW (rP c f es j)=some (.done (dW,8)))/\(fI es[j]!->eW (rP c f es j)=some (.next (rP c f es (j+1)))):=by
   intro j hj;have e1:decide ((j:Int)<(es.length:Int))=true:=aO (by omega)
   unfold eW rP fI;simp only [e1,cond_true,aC es j hj,aB,aX (show j<1000000000 by omega)]
   generalize es[j]! =x
   by_cases a1:x.1<0
   · rw [aO a1];exact ⟨fun _=>rfl,fun h=>by omega⟩
   rw [aH a1]
   by_cases a2:x.2<0
   · rw [aO a2];exact ⟨fun _=>rfl,fun h=>by omega⟩
   rw [aH a2]
   by_cases a3:65535<x.1
   · rw [aO a3];exact ⟨fun _=>rfl,fun h=>by omega⟩
   rw [aH a3]
   by_cases a4:65535<x.2
   · rw [aO a4];exact ⟨fun _=>rfl,fun h=>by omega⟩
   rw [aH a4]
   by_cases a5:x.1=x.2
   · rw [fS a5];exact ⟨fun _=>rfl,fun h=>absurd a5 h.2.2.2.2⟩
   · rw [eN a5];exact ⟨fun h=>absurd ⟨by omega,by omega,by omega,by omega,a5⟩ h,fun _=>rfl⟩
  rw [cW (body:=eW) (fun i=>rP c f es i) m fun j hj=>(go j (by omega)).2 (Classical.not_not.1 (m3 j hj))]
  exact aI ((go m m1).1 m2)
 have h1':=(BF (P:=fI)).1 h1
 by_cases h2:es.Nodup
 case neg=>
  have er:jX f es=14:=by unfold jX;rw [if_neg (Classical.not_not.2 h1),if_pos h2]
  rw [er,if_neg (by omega)]
  have h2':=h2;rw [HA] at h2';obtain ⟨i,h⟩:=Classical.not_forall.1 h2';obtain ⟨hi,hx⟩:=Classical.not_imp.1 h;obtain ⟨m,m1,m2,m3⟩:=K2 (c:=fun i=> ¬es[i]!∉es.take i) ⟨i,hi,hx⟩
  have go: ∀j,j<es.length->(es[j]!∈es.take j->eV (rP c f es j)=some (.done (.done (dW,14))))/\(es[j]!∉es.take j->eV (rP c f es j)=some (.next (rP c f es (j+1)))):=by
   intro j hj;have e1:decide ((j:Int)<(es.length:Int))=true:=aO (by omega)
   unfold eV rP;simp only [e1,cond_true,aC es j hj,nM es j (by omega),aB,pM _ _ (show (es.take j).length<=1000000 by rw [List.length_take];omega),aX (show j<1000000000 by omega)]
   by_cases h:es[j]!∈es.take j
   · rw [aO h];exact ⟨fun _=>rfl,fun k=>absurd h k⟩
   · rw [aH h];exact ⟨fun k=>absurd k h,fun _=>rfl⟩
  have l2:aG eV (rP c f es 0)=some (.done (dW,14)):=by
   rw [cW (body:=eV) (fun i=>rP c f es i) m fun j hj=>(go j (by omega)).2 (Classical.not_not.1 (m3 j hj))]
   exact aI ((go m m1).1 (Classical.not_not.1 m2))
  rw [k3 _ l2,if_pos h1']
 have h2':=HA.1 h2
 by_cases h3: ∀x∈es,iJ f x
 case neg=>
  have er:jX f es=6:=by unfold jX;rw [if_neg (Classical.not_not.2 h1),if_neg (Classical.not_not.2 h2),if_pos h3]
  rw [er,if_neg (by omega)]
  have h3':=h3;rw [BF (P:=iJ f)] at h3';obtain ⟨i,h⟩:=Classical.not_forall.1 h3';obtain ⟨hi,hx⟩:=Classical.not_imp.1 h;obtain ⟨m,m1,m2,m3⟩:=K2 (c:=fun i=> ¬iJ f es[i]!) ⟨i,hi,hx⟩
  have l1:aG fR (rP c f es 0)=some (.done (.done (dW,6))):=by
   rw [cW (body:=fR) (fun i=>rP c f es i) m fun j hj=>(step1 j (by omega)).2 (Classical.not_not.1 (m3 j hj))]
   exact aI ((step1 m m1).1 m2)
  rw [k3 _ (k2 _ l1),if_pos h1',if_pos h2']
 have h3':=(BF (P:=iJ f)).1 h3;have er:jX f es=0:=by unfold jX;rw [if_neg (Classical.not_not.2 h1),if_neg (Classical.not_not.2 h2),if_neg (Classical.not_not.2 h3)]
 rw [er,if_pos rfl];have l1:aG fR (rP c f es 0)=some (.done (.done r)):=by
  rw [cW (body:=fR) (fun i=>rP c f es i) es.length fun j hj=>(step1 j hj).2 (h3' j hj)]
  refine aI ?_;unfold fR rP;simp only [el,cond_false,tw,aB,hr er]
 rw [k3 _ (k2 _ l1),if_pos h1',if_pos h2']
theorem tk {l:List Int} {m:Nat} {x:Int} (h:l.length=m):(l++[x]).take m=l:=by rw [<- h,List.take_left]
section
variable {k : F7} {f : List Pt} {m n0 : Nat} {x : Int}
end
section
variable {k : F7} {P : Pt} {f : List Pt} {m : Nat}
end
end Go.Proofs.YtbncnimfgdelaaaGreat
namespace Go.Proofs.YtbncnimfgdelaaaGreat
abbrev Nd:=Int×Int×Int
structure V8 (P:Nat->Nat->Prop) (a b i:Nat):Prop where
 lo:a<=i
 hi:i<b
 top: ∀j,a<=j->j<b->j≠i->P i j
inductive sA (P:Nat->Nat->Prop) (N:List Nd):Nat->Nat->Int->Prop
 |nil {a b:Nat} (h:b<=a):sA P N a b (-1)
 |node {a b i:Nat} (h:V8 P a b i) (l:sA P N a i (N[i]!).2.1) (r:sA P N (i+1) b (N[i]!).2.2):sA P N a b (i:Int)
structure aKn (P:Nat->Nat->Prop) (n:Nat):Prop where
 tr: ∀i j k,i<n->j<n->k<n->P i j->P j k->P i k
 asy: ∀i j,i<n->j<n->P i j-> ¬P j i
 tot: ∀i j,i<n->j<n->i≠j-> ¬P i j->P j i
theorem V8.one {P:Nat->Nat->Prop} {n a b i j:Nat} (o:aKn P n) (hb:b<=n) (h:V8 P a b i) (k:V8 P a b j):i=j:=by
 refine Classical.byContradiction fun hne=>?_
 have:=h.hi;have:=k.hi
 exact o.asy i j (by omega) (by omega) (h.top j k.lo k.hi (fun e=>hne e.symm)) (k.top i h.lo h.hi hne)
theorem sA.link {P:Nat->Nat->Prop} {N:List Nd} {a b:Nat} {r:Int} (h:sA P N a b r):(b<=a/\r= -1)\/(∃i:Nat,r=(i:Int)/\a<=i/\i<b):=by
 cases h with
 |nil h=>exact .inl ⟨h,rfl⟩
 |node h l r=>exact .inr ⟨_,rfl,h.lo,h.hi⟩
theorem sA.unique {P:Nat->Nat->Prop} {n:Nat} (o:aKn P n) {N N':List Nd} {a b:Nat} {r:Int} (h:sA P N a b r): ∀{r':Int},b<=n->sA P N' a b r'->r=r'/\ ∀k,a<=k->k<b->(N[k]!).2=(N'[k]!).2:=by
 induction h with
 |nil h=>
  intro r' hb h';cases h' with
  |nil _=>exact ⟨rfl,fun k h1 h2=>by omega⟩
  |node t _ _=>have:=t.lo;have:=t.hi;omega
 | @node a b i h l r ihl ihr=>
  intro r' hb h';have lo:=h.lo;have hi:=h.hi;cases h' with
  |nil q=>omega
  | @node _ _ j t l' r'=>
   have e:=h.one o hb t;subst e;obtain ⟨e1,f1⟩:=ihl (by omega) l'
   obtain ⟨e2,f2⟩:=ihr hb r';refine ⟨rfl,fun k h1 h2=>?_⟩
   rcases Nat.lt_trichotomy k i with q|q|q
   · exact f1 k h1 q
   · subst q;exact Prod.ext e1 e2
   · exact f2 k (by omega) h2
theorem sA.other {P Q:Nat->Nat->Prop} {n:Nat} (o:aKn Q n) {N:List Nd} {a b:Nat} {r:Int} (h:sA P N a b r):b<=n->(∀k j:Nat,a<=k->k<b->a<=j->j<b->((N[k]!).2.1=(j:Int)\/(N[k]!).2.2=(j:Int))->Q k j)->sA Q N a b r:=by
 induction h with
 |nil h=>exact fun _ _=> .nil h
 | @node a b i h l r ihl ihr=>
  intro hb q;have lo:=h.lo;have hi:=h.hi;have tl:=ihl (by omega) fun k j h1 h2 h3 h4=>q k j h1 (by omega) h3 (by omega)
  have tr:=ihr hb fun k j h1 h2 h3 h4=>q k j (by omega) h2 (by omega) h4
  refine .node ⟨lo,hi,fun j h1 h2 hne=>?_⟩ tl tr
  rcases Nat.lt_or_ge j i with hj|hj
  · generalize hr:(N[i]!).2.1=s at tl
    cases tl with
    |nil q=>omega
    | @node _ _ m t _ _=>
     have t1:=t.lo;have t2:=t.hi;have qm:=q i m lo hi t1 (by omega) (.inl hr)
     by_cases e:j=m
     · rw [e];exact qm
     · exact o.tr i m j (by omega) (by omega) (by omega) qm (t.top j h1 hj e)
  · generalize hr:(N[i]!).2.2=s at tr
    cases tr with
    |nil q=>omega
    | @node _ _ m t _ _=>
     have t1:=t.lo;have t2:=t.hi;have qm:=q i m lo hi (by omega) t2 (.inr hr)
     by_cases e:j=m
     · rw [e];exact qm
     · exact o.tr i m j (by omega) (by omega) (by omega) qm (t.top j (by omega) h2 e)
theorem sA.kids {P:Nat->Nat->Prop} {N:List Nd} {a b:Nat} {r:Int} (h:sA P N a b r): ∀k,a<=k->k<b-> ∀c:Int,((N[k]!).2.1=c\/(N[k]!).2.2=c)->c= -1\/ ∃j:Nat,c=(j:Int)/\a<=j/\j<b/\j≠k/\P k j/\r≠c:=by
 induction h with
 |nil h=>intro k h1 h2;omega
 | @node a b i h l r ihl ihr=>
  have lo:=h.lo;have hi:=h.hi;intro k h1 h2 c hc;rcases Nat.lt_trichotomy k i with q|q|q
  · rcases ihl k h1 q c hc with e|⟨j,e,j1,j2,j3,j4,_⟩
    · exact .inl e
    · exact .inr ⟨j,e,j1,by omega,j3,j4,by rw [e];omega⟩
  · subst q
    rcases hc with hc|hc
    · rcases l.link with ⟨_,e⟩|⟨j,e,j1,j2⟩
      · exact .inl (hc▸e)
      · exact .inr ⟨j,hc▸e,j1,by omega,by omega,h.top j j1 (by omega) (by omega),by rw [<- hc,e];omega⟩
    · rcases r.link with ⟨_,e⟩|⟨j,e,j1,j2⟩
      · exact .inl (hc▸e)
      · exact .inr ⟨j,hc▸e,by omega,j2,by omega,h.top j (by omega) j2 (by omega),by rw [<- hc,e];omega⟩
  · rcases ihr k (by omega) h2 c hc with e|⟨j,e,j1,j2,j3,j4,_⟩
    · exact .inl e
    · exact .inr ⟨j,e,by omega,j2,j3,j4,by rw [e];omega⟩
theorem sA.up {P:Nat->Nat->Prop} {N:List Nd} {a b:Nat} {r:Int} (h:sA P N a b r): ∀k:Nat,a<=k->k<b->(k:Int)≠r-> ∃j,a<=j/\j<b/\((N[j]!).2.1=(k:Int)\/(N[j]!).2.2=(k:Int))/\ ∀m,a<=m->m<b->((N[m]!).2.1=(k:Int)\/(N[m]!).2.2=(k:Int))->m=j:=by
 induction h with
 |nil h=>intro k h1 h2;omega
 | @node a b i h l r ihl ihr=>
  have lo:=h.lo;have hi:=h.hi;have lk:=l.kids;have rk:=r.kids;intro k h1 h2 hne;have hki:k≠i:=fun e=>hne (by rw [e])
  rcases Nat.lt_or_ge k i with q|q
  · by_cases er:(k:Int)=(N[i]!).2.1
    · refine ⟨i,lo,hi,.inl er.symm,fun m m1 m2 hm=>?_⟩
      rcases Nat.lt_trichotomy m i with w|w|w
      · rcases lk m m1 w _ hm with e|⟨j,e,_,_,_,_,hr⟩
        · omega
        · exact absurd er.symm hr
      · exact w
      · rcases rk m (by omega) m2 _ hm with e|⟨j,e,j1,_⟩<;>omega
    · obtain ⟨j,j1,j2,j3,j4⟩:=ihl k h1 q er
      refine ⟨j,j1,by omega,j3,fun m m1 m2 hm=>?_⟩
      rcases Nat.lt_trichotomy m i with w|w|w
      · exact j4 m m1 w hm
      · subst w
        rcases hm with hm|hm
        · exact absurd hm.symm er
        · rcases r.link with ⟨_,e⟩|⟨p,e,p1,p2⟩<;>omega
      · rcases rk m (by omega) m2 _ hm with e|⟨p,e,p1,_⟩<;>omega
  · by_cases er:(k:Int)=(N[i]!).2.2
    · refine ⟨i,lo,hi,.inr er.symm,fun m m1 m2 hm=>?_⟩
      rcases Nat.lt_trichotomy m i with w|w|w
      · rcases lk m m1 w _ hm with e|⟨j,e,_,j2,_⟩<;>omega
      · exact w
      · rcases rk m (by omega) m2 _ hm with e|⟨j,e,_,_,_,_,hr⟩
        · omega
        · exact absurd er.symm hr
    · obtain ⟨j,j1,j2,j3,j4⟩:=ihr k (by omega) h2 er
      refine ⟨j,by omega,j2,j3,fun m m1 m2 hm=>?_⟩
      rcases Nat.lt_trichotomy m i with w|w|w
      · rcases lk m m1 w _ hm with e|⟨p,e,_,p2,_⟩<;>omega
      · subst w
        rcases hm with hm|hm
        · rcases l.link with ⟨_,e⟩|⟨p,e,p1,p2⟩<;>omega
        · exact absurd hm.symm er
      · exact j4 m (by omega) m2 hm
inductive O2 (P:Nat->Nat->Prop) (N:List Nd):Nat->Nat->Int->List Nat->Prop
 |nil {a b:Nat} (h:b<=a):O2 P N a b (-1) []
 |cons {a b k:Nat} {es:List Nat} (h:V8 P a b k) (l:sA P N a k (N[k]!).2.1) (r:O2 P N (k+1) b (N[k]!).2.2 es):O2 P N a b (k:Int) (k::es)
theorem O2.tree {P:Nat->Nat->Prop} {N:List Nd} {a b:Nat} {r:Int} {es:List Nat} (h:O2 P N a b r es):sA P N a b r:=by
 induction h with
 |nil h=>exact .nil h
 |cons h l r ih=>exact .node h l ih
theorem O2.mem {P:Nat->Nat->Prop} {N:List Nd} {a b:Nat} {r:Int} {es:List Nat} (h:O2 P N a b r es): ∀e∈es,a<=e/\e<b:=by
 induction h with
 |nil h=>intro e he;cases he
 |cons h l r ih=>
  intro e he;have lo:=h.lo;have hi:=h.hi;rcases List.mem_cons.1 he with rfl|he
  · exact ⟨lo,hi⟩
  · have:=ih e he;omega
end Go.Proofs.YtbncnimfgdelaaaGreat
namespace Go.Proofs.YtbncnimfgdelaaaGreat
open Go.Vm Classical
def V9 (f:List Pt) (t:Int×Int) (i j:Nat):Prop:=bT f[i]! f[j]! t
theorem mK {p q:Pt} {t:Int×Int} (h:bT p q t): ¬bT q p t:=by
 unfold bT at*;rw [SY] at*;generalize p.2.1*t.2+p.2.2*t.1=a at*;generalize q.2.1*t.2+q.2.2*t.1=b at*;omega
theorem FO {f:List Pt} (h:fC f) (t:Int×Int):aKn (V9 f t) f.length where
 tr:=fun _ _ _ _ _ _ h1 h2=>zJ h1 h2
 asy:=fun _ _ _ _ h=>mK h
 tot:=fun _ _ hi hj hne hn=>vH t (fun e=>hne (xW h hi hj e)) hn
structure EU (f:List Pt) (t:Int×Int) (N:List Nd) (r:Int):Prop where
 len:N.length=f.length
 ids: ∀k,k<f.length->(N[k]!).1=(f[k]!).1
 tree:sA (V9 f t) N 0 f.length r
theorem EU.same {f:List Pt} (h:fC f) {t:Int×Int} {N N':List Nd} {r r':Int} (a:EU f t N r) (b:EU f t N' r'):N=N'/\r=r':=by
 obtain ⟨e1,e2⟩:=a.tree.unique (FO h t) (Nat.le_refl _) b.tree;refine ⟨rX (by rw [a.len,b.len]) fun k hk=>?_,e1⟩
 have hk:k<f.length:=by rw [<- a.len];exact hk
 exact Prod.ext (by rw [a.ids k hk,b.ids k hk]) (e2 k (Nat.zero_le _) hk)
def Below (N:List Nd) (k j:Nat):Prop:=(N[j]!).2.1=(k:Int)\/(N[j]!).2.2=(k:Int)
noncomputable def LR (N:List Nd) (k:Nat):Nat:=if h: ∃j,j<N.length/\Below N k j then h.choose else N.length
noncomputable def aSm (N:List Nd) (k:Nat):List (Int×Int):=if LR N k<N.length then [((N[k]!).1,(N[LR N k]!).1)] else []
noncomputable def aDQ (N:List Nd):Nat->List (Int×Int)
 |0=>[]
 |k+1=>aDQ N k++aSm N k
section
variable {f : List Pt} {t : Int × Int} {N : List Nd} {r : Int}
theorem EU.par (h:EU f t N r) {k:Nat} (hk:k<f.length):((k:Int)=r->LR N k=N.length)/\((k:Int)≠r->LR N k<N.length/\Below N k (LR N k)/\LR N k≠k/\V9 f t (LR N k) k)/\ ∀m,m<N.length->Below N k m->m=LR N k:=by
 have ln:=h.len
 by_cases hr:(k:Int)=r
 · have none: ¬ ∃j,j<N.length/\Below N k j:=by
    rintro ⟨j,hj,hb⟩;rcases h.tree.kids j (Nat.zero_le _) (by omega) (k:Int) hb with e|⟨_,_,_,_,_,_,e⟩
    · omega
    · exact e hr.symm
   have e:LR N k=N.length:=by unfold LR;rw [dif_neg none]
   exact ⟨fun _=>e,fun q=>absurd hr q,fun m hm hb=>absurd ⟨m,hm,hb⟩ none⟩
 · obtain ⟨j,_,j2,j3,j4⟩:=h.tree.up k (Nat.zero_le _) hk hr
   have ex: ∃j,j<N.length/\Below N k j:=⟨j,by omega,j3⟩
   have e:LR N k=j:=by
    unfold LR;rw [dif_pos ex]
    have:=ex.choose_spec
    exact j4 _ (Nat.zero_le _) (by omega) this.2
   refine ⟨fun q=>absurd q hr,fun _=>?_,fun m hm hb=>by rw [e];exact j4 m (Nat.zero_le _) (by omega) hb⟩
   rw [e];refine ⟨by omega,j3,?_,?_⟩
   · rcases h.tree.kids j (Nat.zero_le _) j2 (k:Int) j3 with q|⟨i,q,_,_,q2,_⟩
     · omega
     · intro w;omega
   · rcases h.tree.kids j (Nat.zero_le _) j2 (k:Int) j3 with q|⟨i,q,_,_,_,q2,_⟩
     · omega
     · have:i=k:=by omega
       rw [<- this];exact q2
end
def o1 (f:List Pt) (t:Int×Int) (e c:Nat) (i:Nat) (root:Int) (N:List Nd) (E:List Int) (left:Int):=
 (e,c,(i:Int),f,(f.length:Int),(i:Int),f,t.1,t.2,(0:Int),root,N,E,(f[i]!).1,(f[i]!).2.1,(f[i]!).2.2,(f[i]!).1,left,(-1:Int))
section
variable {f : List Pt} {t : Int × Int} {N : List Nd} {r : Int}
theorem EU.link (h:EU f t N r) {j:Nat} (hj:j<f.length) {c:Int} (hc:(N[j]!).2.1=c\/(N[j]!).2.2=c):c= -1\/(0<=c/\c<N.length):=by
 have ln:=h.len;rcases h.tree.kids j (Nat.zero_le _) hj c hc with e|⟨k,e,_,k2,_⟩
 · exact .inl e
 · exact .inr ⟨by omega,by omega⟩
end
structure aDR (k:SH):Prop where
 clk:bA k.clock
 tree:EU k.clock.field.points k.clock.now k.tree.nodes k.tree.root
 cert:(k.clock.certs.list.map fun x=>x.2).Perm (aDQ k.tree.nodes k.clock.field.points.length)
theorem O3 {α:Type} [BEq α] [LawfulBEq α]: ∀{a b:List α},a.Nodup->(∀x∈a,x∈b)->a.length<=b.length
 | [],_,_,_=>Nat.zero_le _
 |x::a,b,hd,h=>by
  rw [List.nodup_cons] at hd;have hx:=h x List.mem_cons_self
  have:=O3 (a:=a) (b:=b.erase x) hd.2 (fun y hy=>by
   rw [List.mem_erase_of_ne (fun e=>hd.1 (by rw [<- e];exact hy))]
   exact h y (List.mem_cons_of_mem _ hy))
  rw [List.length_erase_of_mem hx] at this
  have:=List.length_pos_of_mem hx
  rw [List.length_cons];omega
theorem WA {α:Type} [BEq α] [LawfulBEq α] {a b:List α} (ha:a.Nodup) (hb:b.Nodup) (h1: ∀x∈a,x∈b) (h2: ∀x∈b,x∈a):a.Perm b:=tI ha h1 (O3 hb h2)
structure aDS (R:SH) (F:List Pt) (t:Int×Int):Prop where
 ok:aDR R
 fld:R.clock.field.points=F
 now:R.clock.now=t
theorem aDS.nums {R:SH} {F:List Pt} {t:Int×Int} (h:aDS R F t):xZ R.clock:=h.ok.clk.fit
theorem aDS.same {R S:SH} {F:List Pt} {t:Int×Int} (h:aDS R F t) (k:aDS S F t):R.tree=S.tree:=by
 have a:=h.ok.tree;rw [h.fld,h.now] at a;have b:=k.ok.tree;rw [k.fld,k.now] at b;obtain ⟨e1,e2⟩:=a.same (by rw [<- h.fld];exact h.ok.clk.fld.2.2) b
 obtain ⟨_,⟨r,N⟩⟩:=R;obtain ⟨_,⟨r',N'⟩⟩:=S;simp only at e1 e2;subst e1 e2;rfl
theorem yD {f:List Pt} (hs:fC f) {q:Pt} (h:q∈f):eD f q.1=q:=by
 obtain ⟨i,hi,rfl⟩:=aW.1 h;exact pV hs hi rfl
theorem I7 {f:List Pt} (hs:fC f) {x:Int} (h:nD f x):eD f x∈f/\(eD f x).1=x:=by
 obtain ⟨i,hi,rfl⟩:=h;rw [yD hs (bB hi)];exact ⟨bB hi,rfl⟩
theorem uF {f:List Pt} (hs:fC f) (t:Int×Int):SO (fun a b=>bT (eD f a) (eD f b) t) (nD f) where
 irr:=fun a _ h=>mK h h
 tr:=fun _ _ _ _ _ _ h k=>zJ h k
 tot:=fun a b ha hb hne=>by
  rcases Classical.em (bT (eD f a) (eD f b) t) with h|h
  · exact .inl h
  · exact .inr (vH t (by rw [(I7 hs ha).2,(I7 hs hb).2];exact hne) h)
abbrev gC (f:List Pt) (t:Int×Int) (a b:Int):Prop:=bT (eD f a) (eD f b) t
theorem QX {f:List Pt} (hs:fC f) {t:Int×Int} {l:List Int} (hp: ∀x∈l,nD f x) (nd:l.Nodup):(∀e∈EQ l,bT (eD f e.2) (eD f e.1) t)↔Hp (gC f t) l:=by
 constructor
 · intro h j h1 h2 c
   have hm:(l[j]!,l[par j]!)∈EQ l:=by
    refine aW.2 ⟨j-1,by rw [HB];omega,?_⟩
    rw [LC l (show j-1<l.length-1 by omega),show j-1+1=j by omega]
   exact mK c (h _ hm)
 · intro h e he
   obtain ⟨i,hi,rfl⟩:=aW.1 he;rw [HB] at hi;rw [LC l hi]
   have:=h (i+1) (by omega) (by omega)
   have pe:par (i+1)=i / 2:=by simp only [par];omega
   rw [pe] at this;refine vH t ?_ this;rw [(I7 hs (hp _ (bB (by omega)))).2,(I7 hs (hp _ (bB (by omega)))).2]
   exact fun e=>eH.1 nd (i / 2) (i+1) (by omega) (by omega) e.symm
structure aT8 (R:F7) (F:List Pt) (t:Int×Int):Prop where
 ok:yB R
 fld:R.clock.field.points=F
 now:R.clock.now=t
theorem yB.len {k:F7} (h:yB k):k.heap.length=k.clock.field.points.length:=by rw [<- h.perm.length_eq];exact List.length_map ..
theorem yB.bd {k:F7} (h:yB k):k.heap.length<=64:=by have:=h.len;have:=h.clk.fld.1;omega
theorem yB.has {k:F7} (h:yB k): ∀x∈k.heap,nD k.clock.field.points x:=fun _ hx=>hG.1 (h.perm.mem_iff.2 hx)
theorem yB.nd {k:F7} (h:yB k):k.heap.Nodup:=h.perm.nodup_iff.1 (iT h.clk.fld.2.2)
theorem yB.hp {k:F7} (h:yB k):Hp (gC k.clock.field.points k.clock.now) k.heap:=(QX h.clk.fld.2.2 h.has h.nd).1 h.lead
theorem GC.heap {c:aL} {f:List Pt} (fok:bJ f) {l:List Int} (pm:(fM f).Perm l) {R:F7} (e:R.heap=l) (q:GC c f (EQ l) R.clock) (h:Hp (gC f c.now) l):aT8 R f c.now:=by
 have nd:=pm.nodup_iff.1 (iT fok.2.2);refine ⟨⟨q.ok,by rw [q.fld,e];exact pm,?_,?_⟩,q.fld,q.now⟩
 · rw [e]
   exact WA (ES q.ok.crt) (V6 nd) (fun x hx=>by obtain ⟨y,hy,rfl⟩:=List.mem_map.1 hx;exact q.sub y hy) (fun x hx=>yC.1 (q.has x hx))
 · rw [e,q.fld,q.now]
   exact (QX fok.2.2 (fun x hx=>hG.1 (pm.mem_iff.2 hx)) nd).2 h
section
variable {f : List Pt} {t : Int × Int}
abbrev vZ (t:Int×Int) (p q:Pt):Prop:=bT p q t
theorem aDT {f:List Pt} (hs:fC f) (t:Int×Int):SOA (vZ t) (fun p=>p∈f) where
 irr:=fun a _ h=>mK h h
 tr:=fun _ _ _ _ _ _ h k=>zJ h k
 ntr:=fun a b c ha hb hc h1 h2 h=>by
  by_cases e:b.1=c.1
  · have:b=c:=by rw [<- yD hs hb,<- yD hs hc,e]
    exact h1 (this▸h)
  · rcases Classical.em (bT b c t) with k|k
    · exact h2 k
    · exact h1 (zJ h (vH t e k))
theorem aDU (hs:fC f) {l:List Pt} (p:l.Perm f) {i j:Nat} (hi:i<l.length) (hj:j<l.length) (hne:i≠j):(l[i]!).1≠(l[j]!).1:=by
 have nd:(fM l).Nodup:=(p.map fun x:Pt=>x.1).nodup_iff.2 (iT hs)
 intro e;have b: ∀k,k<l.length->(fM l)[k]! =(l[k]!).1:=fun k hk=>by
  unfold fM;rw [getElem!_pos _ k (by rw [List.length_map];exact hk),List.getElem_map,getElem!_pos l k hk]
 have ll:(fM l).length=l.length:=List.length_map ..;rcases Nat.lt_trichotomy i j with c|c|c
 · exact eH.1 nd i j c (by omega) (by rw [b i hi,b j hj];exact e)
 · exact hne c
 · exact eH.1 nd j i c (by omega) (by rw [b i hi,b j hj];exact e.symm)
def i1S (n i j:Nat) (l:List Pt) (t:Int×Int):=((0:Int),(n:Int),(i:Int),(j:Int),l,t.1,t.2)
def i2S (n i:Nat) (l:List Pt) (t:Int×Int):=((0:Int),(n:Int),(i:Int),l,t.1,t.2)
theorem aDV (fok:bJ f) (r:bM t) (r64:nB t) {n:Nat} (hn:n<=64): ∀(j i:Nat) (l:List Pt),l.Perm f->l.length=n->j<=i->i<n->
 aG aY (i1S n i j l t)=some (.next (i2S n (i+1) (PG (vZ t) j l) t)):=by
 intro j
 induction j with
 |zero=>
  intro i l p hl hj hi;refine aI ?_;unfold aY i1S i2S;simp only [aH (show¬(0:Int)<((0:Nat):Int) by omega),cond_false,aX (show i<1000000000 by omega),PG]
 |succ j ih=>
  intro i l p hl hj hi;have h1:j+1<l.length:=by omega
  have h0:j<l.length:=by omega
  have m1:=p.mem_iff.1 (bB h1);have m0:=p.mem_iff.1 (bB h0);have ne:=aDU fok.2.2 p h1 h0 (by omega)
  have ah:jG l[j+1]! l[j]! (t.1,t.2)=some (decide (bT l[j+1]! l[j]! t),0):=by
   rcases DG (fok.2.1 _ m1) (fok.2.1 _ m0) r64 r with h|⟨h,_⟩
   · rw [show ((t.1,t.2):Int×Int)=t from rfl,h,if_neg ne]
   · exact absurd h ne
  have wp:aA .i64 (((j+1:Nat):Int) -1)=(j:Int):=by rw [IP ⟨by omega,by omega⟩];omega
  have g1:=aC l (j+1) h1;have g0:=aC l j h0;have gs:aM (cD l ((j+1:Nat):Int) l[j]!) (j:Int)=some ((cD l ((j+1:Nat):Int) l[j]!)[j]!):=aC _ j (by rw [AZ];exact h0)
  have nb:((l[j+1]!).1==(l[j]!).1)=false:=by simpa using ne
  by_cases c:bT l[j+1]! l[j]! t
  · have s1:aY (i1S n i (j+1) l t)=some (.next (i1S n i j (IQ l (j+1) j) t)):=by
     unfold aY i1S;simp only [aO (show (0:Int)<((j+1:Nat):Int) by omega),cond_true,wp,g1,g0,aB,nb,cond_false,ah,aO c,beq_self_eq_true,gs]
     simp only [rW];rfl
    rw [bC s1];have pm:=(G6 h1 h0).trans p;rw [ih i (IQ l (j+1) j) pm (by rw [KB];exact hl) (by omega) hi]
    conv=>rhs;unfold PG
    rw [if_pos (show vZ t l[j+1]! l[j]! from c)]
  · refine aI ?_
    unfold aY i1S;simp only [aO (show (0:Int)<((j+1:Nat):Int) by omega),cond_true,wp,g1,g0,aB,nb,cond_false,ah,aH c,beq_self_eq_true,aX (show i<1000000000 by omega)]
    unfold PG;rw [if_neg (show¬vZ t l[j+1]! l[j]! from c)];rfl
theorem aBu (fok:bJ f) (r:bM t) (r64:nB t) {c0:Int×Int×List Pt×Int×Int} (hc:c0.2.2.1.length=f.length): ∀(d i:Nat),f.length-i<=d->i<=f.length->
 aG (aZ c0) (i2S f.length i (EG (vZ t) f i) t)=some (EG (vZ t) f f.length,t.1,t.2):=by
 have f1:=fok.1;intro d
 induction d with
 |zero=>
  intro i hd hi
  have:i=f.length:=by omega
  subst this;have le:=(xT (vZ t) f f.length (Nat.le_refl _)).length_eq;refine aI ?_;unfold aZ i2S;simp only [aH (show¬(f.length:Int)<(f.length:Int) by omega),cond_false,le,hc,beq_self_eq_true,cond_true]
 |succ d ih=>
  intro i hd hi
  by_cases e:i=f.length
  · exact ih i (by omega) hi
  · have pm:=xT (vZ t) f i hi
    have s1:aZ c0 (i2S f.length i (EG (vZ t) f i) t)=some (.next (i2S f.length (i+1) (EG (vZ t) f (i+1)) t)):=by
     have:=aDV fok r r64 f1 i i _ pm pm.length_eq (Nat.le_refl _) (show i<f.length by omega)
     unfold aZ;show (bif decide ((i:Int)<(f.length:Int)) then _ else _)=_
     rw [aO (show (i:Int)<(f.length:Int) by omega),cond_true]
     exact this
    rw [bC s1];exact ih (i+1) (by omega) (by omega)
theorem aDW (s:ByteArray) {n:Nat} (h:n<=12) (hs:12<s.size): ∃r,vY s (n:Int)=some r:=by
 show∃r,(s[n]?.map fun b=>(b.toNat:Int))=some r
 rw [getElem?_pos s n (show n<s.size by omega)]
 exact ⟨_,rfl⟩
set_option maxRecDepth 100000 in
theorem aSn {n:Nat} (h:n<=12): ∃r,uA (n:Int)=some r:=by
 unfold uA vS;rw [aH (show¬4294967296<=(n:Int) by omega),cond_false,aH (show¬65536<=(n:Int) by omega),cond_false,aH (show¬256<=(n:Int) by omega),cond_false]
 have w8:aA .u8 (n:Int)=(n:Int):=by
  have:n=0\/n=1\/n=2\/n=3\/n=4\/n=5\/n=6\/n=7\/n=8\/n=9\/n=10\/n=11\/n=12:=by omega
  rcases this with rfl|rfl|rfl|rfl|rfl|rfl|rfl|rfl|rfl|rfl|rfl|rfl|rfl<;>rfl
 have key: ∀s:ByteArray,12<s.size-> ∃r,((vY s (aA .u8 (n:Int))).bind fun n7=>some (aA .i64 (0+aA .i64 n7))).bind (fun n0=>some n0)=some r:=fun s h12=>by
  obtain ⟨r,e⟩:=aDW s h h12;rw [w8,e];exact ⟨_,rfl⟩
 exact key _ (by decide)
theorem LS (fok:bJ f) (r:bM t) (r64:nB t) (h12:f.length<=12): ∃L:List Pt,wQ ⟨f⟩ t=some (L,0)/\L.Perm f/\X9 (vZ t) L f.length:=by
 have f1:=fok.1;obtain ⟨m,hm⟩:=aSn h12;have pm:=xT (vZ t) f f.length (Nat.le_refl _);refine ⟨EG (vZ t) f f.length,?_,pm,N5 (aDT fok.2.2 t) (fun x hx=>hx) _ (Nat.le_refl _)⟩
 have ins:bN (0,(f.length:Int),f,t.1,t.2)=some (EG (vZ t) f f.length,t.1,t.2):=by
  unfold bN
  by_cases h0:f.length=0
  · obtain rfl:f=[]:=List.length_eq_zero_iff.1 h0
    refine aI ?_;unfold aZ;rfl
  · refine Eq.trans ?_ (aBu fok r r64 (c0:=(0,(f.length:Int),f,t.1,t.2)) rfl f.length 1 (by omega) (by omega))
    have:EG (vZ t) f 1=f:=rfl
    rw [this];rfl
 have pdq:bS (0,(f.length:Int),m,f,t.1,t.2)=some (EG (vZ t) f f.length,t.1,t.2):=by
  show cM (bK 999999) _=_;unfold cM;refine aI ?_;unfold eI
  simp only [show aA .i64 ((f.length:Int) -0)=(f.length:Int) by rw [IP ⟨by omega,by omega⟩];omega,aO (show (f.length:Int)<=12 by omega),cond_true,ins,aB,pm.length_eq,beq_self_eq_true]
 have hc:fZ ⟨f⟩=some 0:=by rw [mA];exact congrArg some (kQ.2 fok)
 have ck:eS t=some 0:=by rw [dY r64,if_pos r]
 have wl:aA .u64 (Int.ofNat f.length)=(f.length:Int):=by
  show (Int.ofNat (Nat.mod f.length 18446744073709551616))=_;rw [show Nat.mod f.length 18446744073709551616=f.length from Nat.mod_eq_of_lt (by omega)];rfl
 unfold wQ dT;simp only [hc,aB,show ((0:Int) !=0)=false from rfl,cond_false,ck,bG (show f.length<=1048576 by omega),wl,hm]
 rw [show bS (0,Int.ofNat f.length,m,f,t)=_ from pdq];simp only [aB,pm.length_eq,beq_self_eq_true,cond_true]
theorem LT (fok:bJ f) (r:bM t) (r64:nB t) (h12:f.length<=12):(f=[]/\mR ⟨f⟩ t=some (0,42))\/
 ∃p,p∈f/\(∀q∈f,¬bT q p t)/\mR ⟨f⟩ t=some (p.1,0):=by
 obtain ⟨L,h1,h2,h3⟩:=LS fok r r64 h12;have le:=h2.length_eq;unfold mR;rw [h1,aB,show ((0:Int) !=0)=false from rfl,cond_false]
 by_cases h0:f.length=0
 · obtain rfl:f=[]:=List.length_eq_zero_iff.1 h0
   obtain rfl:L=[]:=List.length_eq_zero_iff.1 le;exact .inl ⟨rfl,rfl⟩
 · have hl:0<L.length:=by omega
   right;refine ⟨L[0]!,h2.mem_iff.1 (bB hl),fun q hq=>?_,?_⟩
   · obtain ⟨i,hi,rfl⟩:=aW.1 (h2.mem_iff.2 hq)
     by_cases c:i=0
     · subst c;exact fun h=>mK h h
     · exact h3 0 i (by omega) (by omega)
   · rw [show ((Int.ofNat L.length==0):Bool)=false by simp only [aF,beq_eq_false_iff_ne];omega,cond_false,aC L 0 hl|>(fun h=>(h:aM L 0=some L[0]!)),aB]
end
noncomputable def fF (P:Int->Int->Prop):List Int->Int
 | []=>0
 |x::r=>r.foldl (fun t y=>if P y t then y else t) x
noncomputable def jK (bit:Int->Nat->Nat) (l:List Int) (top:Int) (d b:Nat):List Int:=l.filter fun x=>decide (x≠top/\bit x d=b)
noncomputable def eJ (P:Int->Int->Prop) (bit:Int->Nat->Nat):Nat->List Int->Int->Nat->List (Int×Int)
 |0,_,_,_=>[]
 |_+1,[],_,_=>[]
 |n+1,x::r,u,d=>(fF P (x::r),u)::(eJ P bit n (jK bit (x::r) (fF P (x::r)) d 0) (fF P (x::r)) (d+1)++eJ P bit n (jK bit (x::r) (fF P (x::r)) d 1) (fF P (x::r)) (d+1))
section
variable {P : Int -> Int -> Prop} {S : Int -> Prop} {bit : Int -> Nat -> Nat}
theorem O4 (o : SO P S) : ∀ (r : List Int) (x : Int), S x -> (∀ y ∈ r, S y) -> (r.foldl (fun t y => if P y t then y else t) x = x \/ r.foldl (fun t y => if P y t then y else t) x ∈ r) /\
    ¬ P x (r.foldl (fun t y => if P y t then y else t) x) /\ ∀ y ∈ r, ¬ P y (r.foldl (fun t y => if P y t then y else t) x)
  | [], x, hx, _ => ⟨.inl rfl, o.irr x hx, fun y h => by cases h⟩
  | z :: r, x, hx, hr => by
    rw [List.foldl_cons]
    have hz := hr z List.mem_cons_self
    have hr' : ∀ y ∈ r, S y := fun y hy => hr y (List.mem_cons_of_mem _ hy)
    by_cases c : P z x
    · rw [if_pos c]
      obtain ⟨a1, a2, a3⟩ := O4 o r z hz hr'
      have hT : S (r.foldl (fun t y => if P y t then y else t) z) := by
        rcases a1 with e | e
        · rw [e]; exact hz
        · exact hr' _ e
      refine ⟨.inr (by rcases a1 with e | e; · rw [e]; exact List.mem_cons_self
                       · exact List.mem_cons_of_mem _ e), ?_, fun y hy => ?_⟩
      · exact o.ntr hx hz hT (o.asym hz hx c) a2
      · rcases List.mem_cons.1 hy with rfl | hy
        · exact a2
        · exact a3 y hy
    · rw [if_neg c]
      obtain ⟨a1, a2, a3⟩ := O4 o r x hx hr'
      have hT : S (r.foldl (fun t y => if P y t then y else t) x) := by
        rcases a1 with e | e
        · rw [e]; exact hx
        · exact hr' _ e
      refine ⟨a1.imp id (List.mem_cons_of_mem _), a2, fun y hy => ?_⟩
      rcases List.mem_cons.1 hy with rfl | hy
      · exact o.ntr hz hx hT c a2
      · exact a3 y hy
theorem nN (o:SO P S) {l:List Int} (h0:l≠[]) (hS: ∀x∈l,S x):fF P l∈l/\ ∀y∈l,¬P y (fF P l):=by
 cases l with
 |nil=>exact absurd rfl h0
 |cons x r=>
  obtain ⟨a1,a2,a3⟩:=O4 o r x (hS x List.mem_cons_self) (fun y hy=>hS y (List.mem_cons_of_mem _ hy))
  refine ⟨?_,fun y hy=>?_⟩
  · rcases a1 with e|e
    · show r.foldl _ x∈_;rw [e];exact List.mem_cons_self
    · exact List.mem_cons_of_mem _ e
  · rcases List.mem_cons.1 hy with rfl|hy
    · exact a2
    · exact a3 y hy
theorem O5 (o:SO P S) {l:List Int} (hS: ∀x∈l,S x) {a:Int} (ha:a∈l) (h: ∀y∈l,¬P y a):fF P l=a:=by
 obtain ⟨b1,b2⟩:=nN o (List.ne_nil_of_mem ha) hS;rcases Classical.em (fF P l=a) with e|e
 · exact e
 · rcases o.tot _ _ (hS _ b1) (hS _ ha) e with k|k
   · exact absurd k (h _ b1)
   · exact absurd k (b2 _ ha)
theorem aBv (o:SO P S) {l l':List Int} (hS: ∀x∈l,S x) (p:l.Perm l'):fF P l=fF P l':=by
 by_cases h0:l=[]
 · subst h0;rw [List.nil_perm.1 p]
 · have h0':l'≠[]:=fun e=>by subst e;exact h0 (List.perm_nil.1 p)
   obtain ⟨b1,b2⟩:=nN o h0' (fun x hx=>hS x (p.mem_iff.2 hx))
   exact O5 o hS (p.mem_iff.2 b1) fun y hy=>b2 y (p.mem_iff.1 hy)
theorem fG {l:List Int} {top:Int} {d b:Nat} {x:Int}:x∈jK bit l top d b↔x∈l/\x≠top/\bit x d=b:=by
 unfold jK;rw [List.mem_filter,decide_eq_true_iff]
theorem tJ {l:List Int} {top:Int} (h:top∈l) (d b:Nat):(jK bit l top d b).length<l.length:=by
 unfold jK;refine List.length_filter_lt_length_iff_exists.2 ⟨top,h,?_⟩;simp
theorem oM {l:List Int} (h:l.Nodup) (top:Int) (d b:Nat):(jK bit l top d b).Nodup:=h.filter _
theorem HC (o:SO P S): ∀(n:Nat) (l l':List Int) (u:Int) (d:Nat),(∀x∈l,S x)->l.Perm l'->eJ P bit n l u d=eJ P bit n l' u d
 |0,_,_,_,_,_,_=>by simp only [eJ]
 |n+1,[],l',u,d,_,p=>by rw [List.nil_perm.1 p]
 |n+1,x::r,[],u,d,_,p=>by have:=p.length_eq;simp at this
 |n+1,x::r,y::q,u,d,hS,p=>by
  have e:=aBv o hS p;simp only [eJ];rw [<- e];have sp: ∀b,(jK bit (x::r) (fF P (x::r)) d b).Perm (jK bit (y::q) (fF P (x::r)) d b):=fun b=>p.filter _
  rw [HC o n _ _ (fF P (x::r)) (d+1) (fun z hz=>hS z (fG.1 hz).1) (sp 0),HC o n _ _ (fF P (x::r)) (d+1) (fun z hz=>hS z (fG.1 hz).1) (sp 1)]
theorem O6 {α:Type} [BEq α] [LawfulBEq α]: ∀{a b:List α},a.Nodup->(∀x∈a,x∈b)->a.length<=b.length
 | [],_,_,_=>Nat.zero_le _
 |x::a,b,hd,h=>by
  rw [List.nodup_cons] at hd;have hx:=h x List.mem_cons_self
  have:=O6 (a:=a) (b:=b.erase x) hd.2 (fun y hy=>by
   rw [List.mem_erase_of_ne (fun e=>hd.1 (by rw [<- e];exact hy))]
   exact h y (List.mem_cons_of_mem _ hy))
  rw [List.length_erase_of_mem hx] at this
  have:=List.length_pos_of_mem hx
  rw [List.length_cons];omega
theorem yE (o:SO P S) (hb: ∀x d,bit x d<2): ∀(n:Nat) (l:List Int) (u:Int) (d:Nat),(∀x∈l,S x)->l.Nodup->l.length<=n->((eJ P bit n l u d).map fun e=>e.1).Perm l/\ ∀e∈eJ P bit n l u d,e.2=u\/(e.2∈l/\P e.2 e.1)
 |0,l,u,d,_,_,h=>by
  have:l=[]:=List.length_eq_zero_iff.1 (by omega)
  subst this;exact ⟨List.Perm.refl _,fun e he=>by simp only [eJ] at he;cases he⟩
 |n+1,[],u,d,_,_,_=>⟨List.Perm.refl _,fun e he=>by simp only [eJ] at he;cases he⟩
 |n+1,x::r,u,d,hS,nd,h=>by
  obtain ⟨t1,t2⟩:=nN o (List.cons_ne_nil x r) hS;have ih: ∀b,_:=fun b=>yE o hb n (jK bit (x::r) (fF P (x::r)) d b) (fF P (x::r)) (d+1) (fun z hz=>hS z (fG.1 hz).1) (oM nd _ d b) (by have:=tJ (bit:=bit) t1 d b;omega)
  have pb: ∀b,∀e∈eJ P bit n (jK bit (x::r) (fF P (x::r)) d b) (fF P (x::r)) (d+1),e.2∈x::r/\P e.2 e.1:=fun b e he=>by
   have k:e.1∈jK bit (x::r) (fF P (x::r)) d b:=(ih b).1.mem_iff.1 (List.mem_map.2 ⟨e,he,rfl⟩);rcases (ih b).2 e he with q|⟨q1,q2⟩
   · rw [q]
     refine ⟨t1,?_⟩;obtain ⟨k1,k2,_⟩:=fG.1 k;rcases o.tot _ _ (hS _ t1) (hS _ k1) (fun e=>k2 e.symm) with w|w
     · exact w
     · exact absurd w (t2 _ k1)
   · exact ⟨(fG.1 q1).1,q2⟩
  refine ⟨?_,fun e he=>?_⟩
  · simp only [eJ,List.map_cons,List.map_append]
    refine (List.Perm.cons _ ((ih 0).1.append (ih 1).1)).trans ?_;refine tI (List.nodup_cons.2 ⟨fun hm=>?_,List.nodup_append.2 ⟨oM nd _ d 0,oM nd _ d 1,fun a ha b hb' e=>?_⟩⟩) (fun y hy=>?_) ?_
    · rcases List.mem_append.1 hm with hm|hm<;>exact (fG.1 hm).2.1 rfl
    · have w1:=(fG.1 ha).2.2
      have w2:=(fG.1 hb').2.2;rw [e,w2] at w1;omega
    · rcases List.mem_cons.1 hy with rfl|hy
      · exact t1
      · rcases List.mem_append.1 hy with hy|hy<;>exact (fG.1 hy).1
    · have sub:(x::r).length<=(fF P (x::r)::(jK bit (x::r) (fF P (x::r)) d 0++jK bit (x::r) (fF P (x::r)) d 1)).length:=O6 nd fun y hy=>by
       by_cases c:y=fF P (x::r)
       · rw [c];exact List.mem_cons_self
       · refine List.mem_cons_of_mem _ (List.mem_append.2 ?_)
         have:=hb y d
         by_cases z:bit y d=0
         · exact .inl (fG.2 ⟨hy,c,z⟩)
         · exact .inr (fG.2 ⟨hy,c,by omega⟩)
      exact sub
  · simp only [eJ] at he
    rcases List.mem_cons.1 he with rfl|he
    · exact .inl rfl
    · rcases List.mem_append.1 he with he|he
      · exact .inr (pb 0 e he)
      · exact .inr (pb 1 e he)
theorem LD {Q : Int -> Int -> Prop} (o : SO P S) (q : SO Q S) (hb : ∀ x d, bit x d < 2) : ∀ (n : Nat) (l : List Int) (u : Int) (d : Nat), (∀ x ∈ l, S x) -> l.Nodup -> l.length <= n ->
    (∀ e ∈ eJ P bit n l u d, e.2 = u \/ Q e.2 e.1) -> u ∉ l -> eJ Q bit n l u d = eJ P bit n l u d /\ ∀ y ∈ l, y = fF P l \/ Q (fF P l) y
  | 0, l, u, d, _, _, h, _, _ => by
    have : l = [] := List.length_eq_zero_iff.1 (by omega)
    subst this
    exact ⟨by simp only [eJ], fun y hy => by cases hy⟩
  | n + 1, [], u, d, _, _, _, _, _ => ⟨by simp only [eJ], fun y hy => by cases hy⟩
  | n + 1, x :: r, u, d, hS, nd, h, hQ, hu => by
    obtain ⟨t1, t2⟩ := nN o (List.cons_ne_nil x r) hS
    simp only [eJ] at hQ
    have ne : ∀ b, ∀ e ∈ eJ P bit n (jK bit (x :: r) (fF P (x :: r)) d b) (fF P (x :: r)) (d + 1), e.2 ≠ u := fun b e he w => by
      obtain ⟨_, k2⟩ := yE o hb n (jK bit (x :: r) (fF P (x :: r)) d b) (fF P (x :: r)) (d + 1) (fun z hz => hS z (fG.1 hz).1) (oM nd _ d b) (by have := tJ (bit := bit) t1 d b; omega)
      rcases k2 e he with k | ⟨k, _⟩
      · exact hu (by rw [<- w, k]; exact t1)
      · exact hu (by rw [<- w]; exact (fG.1 k).1)
    have ih : ∀ b, b = 0 \/ b = 1 -> _ := fun b hb2 => LD o q hb n (jK bit (x :: r) (fF P (x :: r)) d b) (fF P (x :: r)) (d + 1) (fun z hz => hS z (fG.1 hz).1) (oM nd _ d b) (by have := tJ (bit := bit) t1 d b; omega)
      (fun e he => by
        have := hQ e (List.mem_cons_of_mem _ (List.mem_append.2 (by rcases hb2 with rfl | rfl; · exact .inl he
                                                                    · exact .inr he)))
        exact .inr (this.resolve_left (ne b e he))) (fun hm => (fG.1 hm).2.1 rfl)
    have ahead : ∀ y ∈ x :: r, y = fF P (x :: r) \/ Q (fF P (x :: r)) y := fun y hy => by
      by_cases c : y = fF P (x :: r)
      · exact .inl c
      · right
        have hbd := hb y d
        have hb2 : bit y d = 0 \/ bit y d = 1 := by omega
        have ym : y ∈ jK bit (x :: r) (fF P (x :: r)) d (bit y d) := fG.2 ⟨hy, c, rfl⟩
        have sm : ∀ z ∈ jK bit (x :: r) (fF P (x :: r)) d (bit y d), S z := fun z hz => hS z (fG.1 hz).1
        have st := (nN o (List.ne_nil_of_mem ym) sm).1
        have top1 : Q (fF P (x :: r)) (fF P (jK bit (x :: r) (fF P (x :: r)) d (bit y d))) := by
          have hm : (fF P (jK bit (x :: r) (fF P (x :: r)) d (bit y d)), fF P (x :: r)) ∈ eJ P bit n (jK bit (x :: r) (fF P (x :: r)) d (bit y d)) (fF P (x :: r)) (d + 1) := by
            have hl := tJ (bit := bit) t1 d (bit y d)
            generalize hs : jK bit (x :: r) (fF P (x :: r)) d (bit y d) = s at *
            cases s with
            | nil => cases ym
            | cons a s =>
              cases n with
              | zero => simp at h hl; subst h; simp at hl
              | succ n => simp only [eJ]; exact List.mem_cons_self
          have hm' : (fF P (jK bit (x :: r) (fF P (x :: r)) d (bit y d)), fF P (x :: r)) ∈ eJ P bit n (jK bit (x :: r) (fF P (x :: r)) d 0) (fF P (x :: r)) (d + 1) ++ eJ P bit n (jK bit (x :: r) (fF P (x :: r)) d 1) (fF P (x :: r)) (d + 1) := by
            refine List.mem_append.2 ?_
            rcases hb2 with e | e
            · rw [e] at hm ⊢; exact .inl hm
            · rw [e] at hm ⊢; exact .inr hm
          have := hQ _ (List.mem_cons_of_mem _ hm')
          exact this.resolve_left (fun w => hu (by rw [<- w]; exact t1))
        rcases (ih (bit y d) hb2).2 y ym with e | e
        · rw [e]; exact top1
        · exact q.tr _ _ _ (hS _ t1) (sm _ st) (hS _ hy) top1 e
    refine ⟨?_, ahead⟩
    have te : fF Q (x :: r) = fF P (x :: r) := O5 q hS t1 fun y hy w => by
      rcases ahead y hy with e | e
      · rw [e] at w; exact q.irr _ (hS _ t1) w
      · exact q.asym (hS _ t1) (hS _ hy) e w
    simp only [eJ]
    rw [te, (ih 0 (.inl rfl)).1, (ih 1 (.inr rfl)).1]
end
theorem WB {α:Type} (z:α): ∀(l:List (Int×α)) (k:Int) (a:α) (j:Int),lC z (nQ l k a) j=if j=k then a else lC z l j
 | [],k,a,j=>by
  simp only [nQ,lC]
  by_cases h:j=k
  · rw [if_pos h,fS h];rfl
  · rw [if_neg h,eN h];rfl
 |p::l,k,a,j=>by
  simp only [nQ]
  by_cases h:k=p.1
  · rw [fS h,cond_true]
    simp only [lC]
    by_cases c:j=k
    · rw [if_pos c,fS c];rfl
    · rw [if_neg c,eN c,cond_false,eN (by rw [<- h];exact c),cond_false]
  · rw [eN h,cond_false]
    simp only [lC];rw [WB z l k a j]
    by_cases c:j=p.1
    · rw [fS c,cond_true,cond_true,if_neg (by rw [c];exact fun e=>h e.symm)]
    · rw [eN c,cond_false,cond_false]
def kS (m:List (Int×Int)) (l:List (Int×Int)):List (Int×Int):=l.foldl (fun m e=>nQ m e.1 e.2) m
theorem LE (m l l':List (Int×Int)):kS m (l++l')=kS (kS m l) l':=List.foldl_append ..
theorem WC: ∀(l m:List (Int×Int)) (j:Int),(l.map fun e=>e.1).Nodup->lC 0 (kS m l) j=if j∈l.map fun e=>e.1 then lC 0 l j else lC 0 m j
 | [],m,j,_=>by simp only [kS,List.foldl_nil,List.map_nil,List.not_mem_nil,if_false]
 |e::l,m,j,nd=>by
  obtain ⟨h1,h2⟩:=List.nodup_cons.1 (by simpa using nd:(e.1::l.map fun e=>e.1).Nodup)
  show lC 0 (kS (nQ m e.1 e.2) l) j=_;rw [WC l _ j h2,WB];simp only [List.map_cons,List.mem_cons,lC]
  by_cases c:j=e.1
  · rw [if_neg (by rw [c];exact h1),if_pos c,if_pos (.inl c),fS c];rfl
  · rw [if_neg c,eN c,cond_false]
    by_cases d:j∈l.map fun e=>e.1
    · rw [if_pos d,if_pos (.inr d)]
    · rw [if_neg d,if_neg (fun h=>h.elim c d)]
theorem EV: ∀{l:List (Int×Int)} {j v:Int},(l.map fun e=>e.1).Nodup->(j,v)∈l->lC 0 l j=v
 |e::l,j,v,nd,h=>by
  obtain ⟨h1,h2⟩:=List.nodup_cons.1 (by simpa using nd:(e.1::l.map fun e=>e.1).Nodup)
  simp only [lC];rcases List.mem_cons.1 h with rfl|h
  · rw [fS rfl];rfl
  · have:j≠e.1:=fun c=>h1 (by rw [<- c];exact List.mem_map.2 ⟨_,h,rfl⟩)
    rw [eN this,cond_false];exact EV h2 h
def lE (x:Int) (d:Nat):Nat:=x.toNat / 2^(min d 64)%2
theorem FP (x:Int) (d:Nat):lE x d<2:=Nat.mod_lt _ (by omega)
noncomputable def mU (f:List Pt) (t:Int×Int):List (Int×Int):=eJ (gC f t) lE f.length (fM f) (-1) 0
noncomputable def mC (f:List Pt) (t:Int×Int):List Int:=f.map fun p=>lC 0 (mU f t) p.1
def cC (f:List Pt) (U:List Int):Nat->List (Int×Int)
 |0=>[]
 |i+1=>cC f U i++(if 0<=U[i]! then [((f[i]!).1,U[i]!)] else [])
section
variable {f : List Pt} {t : Int × Int}
theorem vI (fok:bJ f):((mU f t).map fun e=>e.1).Perm (fM f)/\ ∀e∈mU f t,e.2= -1\/(e.2∈fM f/\gC f t e.2 e.1):=
 yE (uF fok.2.2 t) FP f.length (fM f) (-1) 0 (fun x hx=>hG.1 hx) (iT fok.2.2) (by unfold fM;rw [List.length_map];exact Nat.le_refl _)
theorem zK (f:List Pt) (t:Int×Int):(mC f t).length=f.length:=List.length_map ..
theorem O7 {i:Nat} (hi:i<f.length):(mC f t)[i]! =lC 0 (mU f t) (f[i]!).1:=by
 unfold mC;rw [getElem!_pos _ i (by rw [List.length_map];exact hi),List.getElem_map,getElem!_pos f i hi]
theorem aAs (fok:bJ f) {i:Nat} (hi:i<f.length):((f[i]!).1,(mC f t)[i]!)∈mU f t:=by
 obtain ⟨h1,_⟩:=vI (t:=t) fok;obtain ⟨e,he,h2⟩:=List.mem_map.1 (h1.mem_iff.2 (hG.2 ⟨i,hi,rfl⟩));have nd:=h1.nodup_iff.2 (iT fok.2.2);rw [O7 hi,<- h2,EV nd (show (e.1,e.2)∈mU f t from he)];exact he
theorem aDX (fok:bJ f) {i:Nat} (hi:i<f.length):(mC f t)[i]! = -1\/(0<=(mC f t)[i]!/\nD f (mC f t)[i]!/\(mC f t)[i]!≠(f[i]!).1/\bT (eD f (mC f t)[i]!) f[i]! t):=by
 rcases (vI (t:=t) fok).2 _ (aAs fok hi) with h|⟨h1,h2⟩
 · exact .inl h
 · have hp:=hG.1 h1
   have hp:nD f (mC f t)[i]!:=hp;have pk:=eC fok hp;have h2:bT (eD f (mC f t)[i]!) (eD f (f[i]!).1) t:=h2;rw [pV fok.2.2 hi rfl] at h2;refine .inr ⟨?_,hp,fun e=>?_,h2⟩
   · have:=pk.1.1
     rw [pk.2] at this;exact this
   · have:eD f (mC f t)[i]! =f[i]!:=by rw [e,pV fok.2.2 hi rfl]
     rw [this] at h2;exact mK h2 h2
theorem CX {U:List Int}: ∀{n:Nat} {e:Int×Int},e∈cC f U n↔ ∃i,i<n/\0<=U[i]!/\e=((f[i]!).1,U[i]!)
 |0,e=>by
  constructor
  · intro h;cases h
  · rintro ⟨i,h,_⟩;omega
 |n+1,e=>by
  rw [cC,List.mem_append,CX];constructor
  · rintro (⟨i,h1,h2,h3⟩|h)
    · exact ⟨i,by omega,h2,h3⟩
    · split at h
      · rename_i hc;exact ⟨n,by omega,hc,List.mem_singleton.1 h⟩
      · cases h
  · rintro ⟨i,h1,h2,h3⟩
    by_cases c:i=n
    · subst c;rw [if_pos h2];exact .inr (List.mem_singleton.2 h3)
    · exact .inl ⟨i,by omega,h2,h3⟩
theorem oN (U:List Int): ∀n,(cC f U n).length<=n
 |0=>Nat.le_refl _
 |n+1=>by
  have:=oN U n
  rw [cC,List.length_append];split
  · rw [List.length_singleton];omega
  · rw [List.length_nil];omega
theorem I8 (hs:fC f) (U:List Int): ∀n,n<=f.length->(cC f U n).Nodup
 |0,_=>List.nodup_nil
 |n+1,h=>by
  rw [cC];refine List.nodup_append.2 ⟨I8 hs U n (by omega),by split<;>simp,fun a ha b hb e=>?_⟩
  obtain ⟨i,h1,_,h3⟩:=CX.1 ha;split at hb
  · have hb:=List.mem_singleton.1 hb
    rw [hb] at e;rw [h3] at e
    have:(f[i]!).1=(f[n]!).1:=by injection e
    have:=tF hs h1 h
    omega
  · cases hb
theorem wZ (fok:bJ f):I5 f (cC f (mC f t) f.length)/\(cC f (mC f t) f.length).Nodup/\ ∀e∈cC f (mC f t) f.length,bT (eD f e.2) (eD f e.1) t:=by
 have f1:=fok.1;have el:=oN (f:=f) (mC f t) f.length;have key: ∀e∈cC f (mC f t) f.length,iJ f e/\e.1≠e.2/\bT (eD f e.2) (eD f e.1) t:=fun e he=>by
  obtain ⟨i,hi,h0,rfl⟩:=CX.1 he;rcases aDX (t:=t) fok hi with h|⟨_,h2,h3,h4⟩
  · omega
  · exact ⟨⟨⟨i,hi,rfl⟩,h2⟩,fun e=>h3 e.symm,by rw [pV fok.2.2 hi rfl];exact h4⟩
 refine ⟨⟨by omega,fun e he=>?_,fun e he=>(key e he).1⟩,I8 fok.2.2 _ _ (Nat.le_refl _),fun e he=>(key e he).2.2⟩
 obtain ⟨hb,ne,_⟩:=key e he;obtain ⟨⟨p1,p2⟩,q1,q2⟩:=And.intro (eC fok hb.1) (eC fok hb.2);unfold gZ at p1 q1;unfold fI;omega
theorem L7 (fok:bJ f) {i:Nat} (hi:i<f.length):(mC f t)[i]! = -1↔ ∀q∈f,¬bT q f[i]! t:=by
 have so:=uF fok.2.2 t;have hS: ∀x∈fM f,nD f x:=fun x hx=>hG.1 hx
 have im:(f[i]!).1∈fM f:=hG.2 ⟨i,hi,rfl⟩;obtain ⟨t1,t2⟩:=nN so (List.ne_nil_of_mem im) hS;have nd:=(vI (t:=t) fok).1.nodup_iff.2 (iT fok.2.2);have head:(fF (gC f t) (fM f),(-1:Int))∈mU f t:=by
  unfold mU;have ln:(fM f).length=f.length:=List.length_map ..;generalize hx:fM f=l at*;cases l with
  |nil=>cases im
  |cons a l=>
   rw [<- ln];simp only [List.length_cons,eJ];exact List.mem_cons_self
 constructor
 · intro h q hq hl
   rcases Classical.em ((f[i]!).1=fF (gC f t) (fM f)) with e|e
   · refine t2 q.1 (List.mem_map.2 ⟨q,hq,rfl⟩) ?_
     show bT (eD f q.1) (eD f _) t;rw [<- e,yD fok.2.2 hq,pV fok.2.2 hi rfl];exact hl
   ·
    have hm:=aAs (t:=t) fok hi;rw [h] at hm;exact e (ups_root fok hm)
 · intro h
   have e:(f[i]!).1=fF (gC f t) (fM f):=by
    rcases Classical.em ((f[i]!).1=fF (gC f t) (fM f)) with e|e
    · exact e
    · rcases so.tot _ _ (hS _ im) (hS _ t1) e with k|k
      · exact absurd k (t2 _ im)
      · have k:bT (eD f _) (eD f (f[i]!).1) t:=k
        rw [pV fok.2.2 hi rfl] at k;exact absurd k (h _ (I7 fok.2.2 (hS _ t1)).1)
   rw [O7 hi,e];exact EV nd head
where
 ups_root {f:List Pt} {t:Int×Int} (fok:bJ f) {x:Int} (h:(x,(-1:Int))∈mU f t):x=fF (gC f t) (fM f):=by
  have so:=uF fok.2.2 t;have hS: ∀x∈fM f,nD f x:=fun x hx=>hG.1 hx
  have ln:(fM f).length=f.length:=List.length_map ..;have nd:=iT fok.2.2;have pos: ∀y∈fM f,(0:Int)<=y:=fun y hy=>by
   have:=eC fok (hG.1 hy)
   have h1:=this.1.1;rw [this.2] at h1;exact h1
  unfold mU at h;generalize hx:fM f=l at*;cases l with
  |nil=>rw [<- ln] at h;simp only [List.length_nil,eJ] at h;cases h
  |cons a l=>
   obtain ⟨t1,t2⟩:=nN so (List.cons_ne_nil a l) hS;rw [<- ln] at h;simp only [List.length_cons,eJ] at h;rcases List.mem_cons.1 h with e|e
   · exact congrArg Prod.fst e
   · exfalso
     have bad: ∀b,(x,(-1:Int))∈eJ (gC f t) lE l.length (jK lE (a::l) (fF (gC f t) (a::l)) 0 b) (fF (gC f t) (a::l)) 1->False:=fun b hb=>by
      have sl:=tJ (bit:=lE) t1 0 b;rw [List.length_cons] at sl;rcases (yE so FP l.length (jK lE (a::l) (fF (gC f t) (a::l)) 0 b) (fF (gC f t) (a::l)) 1 (fun z hz=>hS z (fG.1 hz).1) (oM nd _ 0 b) (Nat.le_of_lt_succ sl)).2 _ hb with k|⟨k,_⟩
      · have h0:=pos _ t1
        rw [<- show (-1:Int)=fF (gC f t) (a::l) from k] at h0;exact absurd h0 (by decide)
      · exact absurd (show (0:Int)<= -1 from pos _ (fG.1 k).1) (by decide)
     rcases List.mem_append.1 e with e|e
     · exact bad 0 e
     · exact bad 1 e
theorem aBw (fok:bJ f) {t':Int×Int} (h: ∀e∈cC f (mC f t) f.length,bT (eD f e.2) (eD f e.1) t'):mC f t'=mC f t:=by
 have so:=uF fok.2.2 t;have so':=uF fok.2.2 t';have hS: ∀x∈fM f,nD f x:=fun x hx=>hG.1 hx
 have e:=(LD so so' FP f.length (fM f) (-1) 0 hS (iT fok.2.2) (by unfold fM;rw [List.length_map];exact Nat.le_refl _) (fun e he=>by
  rcases (vI (t:=t) fok).2 e he with k|⟨k1,k2⟩
  · exact .inl k
  · right
    have hk:e.1∈fM f:=(vI (t:=t) fok).1.mem_iff.1 (List.mem_map.2 ⟨e,he,rfl⟩);obtain ⟨i,hi,ei⟩:=hG.1 hk;have nd:=(vI (t:=t) fok).1.nodup_iff.2 (iT fok.2.2);have ui:(mC f t)[i]! =e.2:=by rw [O7 hi,ei];exact EV nd he
    have p0:=eC fok (hS _ k1);have p1:=p0.1.1;rw [p0.2] at p1
    have:=h ((f[i]!).1,(mC f t)[i]!) (CX.2 ⟨i,hi,by rw [ui];exact p1,rfl⟩)
    rw [ui,ei] at this;exact this) (fun hm=>by
  have p0:=eC fok (hS _ hm);have p1:=p0.1.1;rw [p0.2] at p1;exact absurd p1 (by decide))).1
 unfold mC;rw [show mU f t'=mU f t from e]
end
theorem aDY {x:Int} (h0:0<=x) (d:Nat):fN .i64 x (d:Int)=((x.toNat / 2^(min d 64):Nat):Int):=by
 unfold fN;rw [show (IntKind.bits .i64)=64 from rfl,Int.toNat_natCast,Int.fdiv_eq_ediv_of_nonneg _ (Int.le_of_lt (Int.pow_pos (by decide)))]
 obtain ⟨n,rfl⟩: ∃n:Nat,x=(n:Int):=⟨x.toNat,by omega⟩
 rw [Int.toNat_natCast]
 norm_cast
theorem aKo {n:Nat} (h:n<9223372036854775808):sL .i64 (n:Int) 1=((n%2:Nat):Int):=by
 unfold sL;have e:(BitVec.ofInt (IntKind.bits .i64) (n:Int)&&&BitVec.ofInt (IntKind.bits .i64) 1).toNat=n%2:=by
  rw [BitVec.toNat_and,BitVec.toNat_ofInt,BitVec.toNat_ofInt];rw [show (IntKind.bits .i64)=64 from rfl];have e64:((2^64:Nat):Int)=18446744073709551616:=rfl;have e1:((n:Int)%((2^64:Nat):Int)).toNat=n:=by rw [e64];omega
  have e2:((1:Int)%((2^64:Nat):Int)).toNat=1:=by rw [e64];rfl
  rw [e1,e2,Nat.and_one_is_mod]
 rw [e]
 have:=Nat.mod_lt n (show 0<2 by decide)
 have c:n%2=0\/n%2=1:=by omega
 rcases c with c|c<;>rw [c]<;>rfl
theorem aAt {x:Int} (h0:0<=x) (h1:x<=65535) (d:Nat):sL .i64 (fN .i64 x (d:Int)) 1=(lE x d:Int):=by
 rw [aDY h0,aKo]
 · rfl
 · have:=Nat.div_le_self x.toNat (2^(min d 64));omega
theorem aKp {x:Int} (h0:0<=x) (d:Nat):Int.tmod (fN .i64 x (d:Int)) 2=(lE x d:Int):=by
 rw [aDY h0];show Int.tmod _ ((2:Nat):Int)=_;rw [<- Int.ofNat_tmod];rfl
section
variable {f : List Pt} {t : Int × Int}
noncomputable def fY (t:Int×Int) (r:List Pt) (x:Pt):Pt:=r.foldl (fun a p=>if bT p a t then p else a) x
theorem L8 (fok:bJ f): ∀(r:List Pt) (x:Pt),x∈f->(∀p∈r,p∈f)->(fY t r x).1=(r.map fun p=>p.1).foldl (fun a y=>if gC f t y a then y else a) x.1/\fY t r x∈f
 | [],x,hx,_=>⟨rfl,hx⟩
 |p::r,x,hx,hr=>by
  have hp:=hr p List.mem_cons_self;have e:gC f t p.1 x.1↔bT p x t:=by show bT (eD f p.1) (eD f x.1) t↔_;rw [yD fok.2.2 hp,yD fok.2.2 hx]
  show (fY t r (if bT p x t then p else x)).1=_/\fY t r (if bT p x t then p else x)∈f
  rw [List.map_cons,List.foldl_cons]
  by_cases c:bT p x t
  · rw [if_pos c,if_pos (e.2 c)];exact L8 fok r p hp fun q hq=>hr q (List.mem_cons_of_mem _ hq)
  · rw [if_neg c,if_neg (fun k=>c (e.1 k))];exact L8 fok r x hx fun q hq=>hr q (List.mem_cons_of_mem _ hq)
def eB (l:List Pt) (top:Int) (d b:Nat):List Pt:=l.filter fun p=>decide (p.1≠top)&&decide (lE p.1 d=b)
theorem tK (l:List Pt) (top:Int) (d b:Nat):(eB l top d b).map (fun p=>p.1)=jK lE (l.map fun p=>p.1) top d b:=by
 unfold eB jK
 induction l with
 |nil=>rfl
 |cons p l ih=>
  rw [List.filter_cons,List.map_cons,List.filter_cons]
  by_cases c:p.1≠top/\lE p.1 d=b
  · rw [if_pos (by simpa using c),if_pos (by simpa using c),List.map_cons,ih]
  · rw [if_neg (by simpa using c),if_neg (by simpa using c),ih]
theorem aBx {l:List Pt} {top:Int} {d b:Nat} {p:Pt} (h:p∈eB l top d b):p∈l:=(List.mem_filter.1 h).1
theorem BG (l:List Pt) (top:Int) (d b:Nat):(eB l top d b).length<=l.length:=List.length_filter_le ..
theorem CY (l:List Pt) (p:Pt) (top:Int) (d b:Nat):eB (l++[p]) top d b=eB l top d b++(if p.1≠top/\lE p.1 d=b then [p] else []):=by
 unfold eB;rw [List.filter_append]
 congr 1
 by_cases c:p.1≠top/\lE p.1 d=b
 · rw [if_pos c,List.filter_cons,if_pos (by simpa using c)];rfl
 · rw [if_neg c,List.filter_cons,if_neg (by simpa using c)];rfl
theorem aDZ (fok:bJ f) (r:bM t) (r64:nB t) {p q:Pt} (hp:p∈f) (hq:q∈f) (hne:p.1≠q.1):jG p q (t.1,t.2)=some (decide (bT p q t),0):=by
 rcases DG (fok.2.1 _ hp) (fok.2.1 _ hq) r64 r with h|⟨h,_⟩
 · rw [show ((t.1,t.2):Int×Int)=t from rfl,h,if_neg hne]
 · exact absurd h hne
theorem WD {l:List Pt} {x:Pt} (i:Nat) (hi:i<l.length):fY t (l.take (i+1)) x=if bT l[i]! (fY t (l.take i) x) t then l[i]! else fY t (l.take i) x:=by
 rw [dZ hi];unfold fY;rw [List.foldl_append];rfl
structure LOK (f:List Pt) (l:List Pt):Prop where
 sub: ∀p∈l,p∈f
 nd:(l.map fun p=>p.1).Nodup
 len:l.length<=64
theorem LOK.side {l:List Pt} (h:LOK f l) (top:Int) (d b:Nat):LOK f (eB l top d b) where
 sub:=fun p hp=>h.sub p (aBx hp)
 nd:=by rw [tK];exact oM h.nd _ _ _
 len:=Nat.le_trans (BG ..) h.len
theorem LOK.bits (fok:bJ f) {l:List Pt} (h:LOK f l) {p:Pt} (hp:p∈l):0<=p.1/\p.1<=65535:=by
 have:=fok.2.1 p (h.sub p hp)
 unfold gZ at this;omega
theorem LOK.ne {l:List Pt} (h:LOK f l) {i j:Nat} (hi:i<l.length) (hj:j<l.length) (hne:i≠j):(l[i]!).1≠(l[j]!).1:=by
 have ll:(l.map fun p=>p.1).length=l.length:=List.length_map ..
 have b: ∀k,k<l.length->(l.map fun p=>p.1)[k]! =(l[k]!).1:=fun k hk=>by
  rw [getElem!_pos _ k (by rw [ll];exact hk),List.getElem_map,getElem!_pos l k hk]
 intro e;rcases Nat.lt_trichotomy i j with c|c|c
 · exact eH.1 h.nd i j c (by omega) (by rw [b i hi,b j hj];exact e)
 · exact hne c
 · exact eH.1 h.nd j i c (by omega) (by rw [b i hi,b j hj];exact e.symm)
theorem EW (t:Int×Int): ∀(r:List Pt) (x:Pt),fY t r x=x\/fY t r x∈r
 | [],_=> .inl rfl
 |p::r,x=>by
  show fY t r (if bT p x t then p else x)=x\/fY t r (if bT p x t then p else x)∈_
  by_cases c:bT p x t
  · rw [if_pos c]
    rcases EW t r p with e|e
    · rw [e];exact .inr List.mem_cons_self
    · exact .inr (List.mem_cons_of_mem _ e)
  · rw [if_neg c]
    exact (EW t r x).imp id (List.mem_cons_of_mem _)
theorem aD0 {l:List Pt} (h:LOK f l) {i:Nat} (hi:i+1<l.length):(l[i+1]!).1≠(fY t ((l.drop 1).take i) l[0]!).1:=by
 rcases EW t ((l.drop 1).take i) l[0]! with e|e
 · rw [e];exact h.ne hi (by omega) (by omega)
 · obtain ⟨j,hj,ej⟩:=aW.1 e
   rw [List.length_take,List.length_drop] at hj
   have:((l.drop 1).take i)[j]! =l[1+j]!:=by
    rw [List.getElem!_eq_getElem?_getD,List.getElem?_take_of_lt (by omega),List.getElem?_drop,<- List.getElem!_eq_getElem?_getD]
   rw [<- ej,this];exact h.ne hi (by omega) (by omega)
theorem I9 {l:List Pt} {i:Nat} (_:i+1<l.length):(l.drop 1)[i]! =l[i+1]!:=by
 rw [List.getElem!_eq_getElem?_getD,List.getElem?_drop,<- List.getElem!_eq_getElem?_getD,Nat.add_comm 1 i]
def g1S (t:Int×Int) (l:List Pt) (M:List (Int×Int)) (d:Nat) (top:Pt) (s0 s1:List Pt) (i:Nat):=
 ((d:Int),(l.length:Int),(i:Int),l,M,t.1,t.2,top.1,top.2.1,top.2.2,s0,s1)
def g2S (t:Int×Int) (l:List Pt) (M:List (Int×Int)) (u:Int) (d:Nat) (top:Pt) (i:Nat):=
 (u,(d:Int),(1:Nat),l.length-1,l.length-1,((l.length-1:Nat):Int),(i:Int),l,M,t.1,t.2,top)
theorem aP3 (fok:bJ f) {l:List Pt} (h:LOK f l) {d:Nat} (hd:d<=1000) {top:Pt} {M:List (Int×Int)} {u:Int} {c0:_} {c1:_} (hc:c1.2.2.2.2.1.length=l.length)
 {M2 M3:List (Int×Int)} (r1:c0 (t.1,t.2,top.1,((d+1:Nat):Int),eB l top.1 d 0,M)=some (eB l top.1 d 0,M2)) (r2:c0 (t.1,t.2,top.1,((d+1:Nat):Int),eB l top.1 d 1,M2)=some (eB l top.1 d 1,M3)):
 aG (iF c0 c1) (g1S t l M d top [] [] 0)=some (.done (l,M3)):=by
 have hl:=h.len;have st:=cW (body:=iF c0 c1) (fun i=>g1S t l M d top (eB (l.take i) top.1 d 0) (eB (l.take i) top.1 d 1) i) l.length (fun i hi=>by
  have pm:=bB hi;obtain ⟨b0,b1⟩:=h.bits fok pm;have bt:=aAt b0 b1 d;have lt:=FP (l[i]!).1 d;have s0:=CY (l.take i) l[i]! top.1 d 0;have s1:=CY (l.take i) l[i]! top.1 d 1;rw [<- dZ hi] at s0 s1;have l0:(eB (l.take i) top.1 d 0).length<=64:=Nat.le_trans (BG ..) (by rw [List.length_take];omega)
  have l1:(eB (l.take i) top.1 d 1).length<=64:=Nat.le_trans (BG ..) (by rw [List.length_take];omega)
  have a0:bL (eB (l.take i) top.1 d 0) [l[i]!]=some (eB (l.take i) top.1 d 0++[l[i]!]):=dB (by rw [List.length_singleton];omega)
  have a1:bL (eB (l.take i) top.1 d 1) [l[i]!]=some (eB (l.take i) top.1 d 1++[l[i]!]):=dB (by rw [List.length_singleton];omega)
  rw [s0,s1];unfold iF g1S;simp only [aO (show (i:Int)<(l.length:Int) by omega),cond_true,aC l i hi,aB,aX (show i<1000000000 by omega),aH (show¬(d:Int)<0 by omega),cond_false,bt,a0,a1]
  by_cases c:(l[i]!).1=top.1
  · rw [cP (show (l[i]!).1=top.1 from c),cond_false,if_neg (fun k=>k.1 c),if_neg (fun k=>k.1 c),List.append_nil,List.append_nil]
  · rw [dX c,cond_true]
    by_cases e:lE (l[i]!).1 d=0
    · rw [e,if_pos ⟨c,rfl⟩,if_neg (fun k=>by omega),List.append_nil];rfl
    · have e1:lE (l[i]!).1 d=1:=by omega
      rw [e1,if_neg (fun k=>by omega),if_pos ⟨c,rfl⟩,List.append_nil];rfl)
 rw [List.take_length] at st;refine (show _=_ from st).trans (aI ?_);unfold iF g1S;simp only [aH (show¬(l.length:Int)<(l.length:Int) by omega),cond_false,aX (show d<1000000000 by omega),r1,r2,aB,hc,beq_self_eq_true,cond_true]
theorem aK6 {l:List Pt} (h0:l≠[]):aM l 0=some l[0]!:=aC l 0 (List.length_pos_iff.2 h0)
theorem aSo (fok:bJ f) (r:bM t) (r64:nB t) {l:List Pt} (h:LOK f l) (h0:l≠[]) {d:Nat} (hd:d<=1000) {M:List (Int×Int)} {u:Int} {c0:_}
 {M2 M3:List (Int×Int)} (r1:c0 (t.1,t.2,(fY t (l.drop 1) l[0]!).1,((d+1:Nat):Int),eB l (fY t (l.drop 1) l[0]!).1 d 0,nQ M (fY t (l.drop 1) l[0]!).1 u)=some (eB l (fY t (l.drop 1) l[0]!).1 d 0,M2))
 (r2:c0 (t.1,t.2,(fY t (l.drop 1) l[0]!).1,((d+1:Nat):Int),eB l (fY t (l.drop 1) l[0]!).1 d 1,M2)=some (eB l (fY t (l.drop 1) l[0]!).1 d 1,M3)):
 pC c0 (t.1,t.2,u,(d:Int),l,M)=some (l,M3):=by
 have hl:=h.len;have hp:=List.length_pos_iff.2 h0;have ld:(l.drop 1).length=l.length-1:=List.length_drop;have dt:(l.drop 1).take (l.length-1)=l.drop 1:=List.take_of_length_le (by omega)
 have st:=cW (body:=kJ c0 (t.1,t.2,u,(d:Int),l,M)) (fun i=>g2S t l M u d (fY t ((l.drop 1).take i) l[0]!) i) (l.length-1) (fun i hi=>by
  have q:=aC (l.drop 1) i (by omega)
  rw [I9 (by omega)] at q
  have ne:=aD0 (t:=t) h (i:=i) (by omega)
  have m1:=h.sub _ (bB (l:=l) (i:=i+1) (by omega))
  have m2:fY t ((l.drop 1).take i) l[0]!∈f:=by
   rcases EW t ((l.drop 1).take i) l[0]! with e|e
   · rw [e];exact h.sub _ (bB hp)
   · exact h.sub _ (List.mem_of_mem_drop (List.mem_of_mem_take e))
  have A:=aDZ fok r r64 m1 m2 ne;have tt:=WD (t:=t) (l:=l.drop 1) (x:=l[0]!) i (by omega)
  rw [I9 (by omega)] at tt
  rw [tt];unfold kJ g2S;simp only [aO (show (i:Int)<((l.length-1:Nat):Int) by omega),cond_true,dt,q,aB,A,aX (show i<1000000000 by omega)]
  by_cases c:bT l[i+1]! (fY t ((l.drop 1).take i) l[0]!) t
  · rw [decide_eq_true c,cond_true,if_pos c]
  · rw [decide_eq_false c,cond_false,if_neg c])
 rw [List.take_of_length_le (l:=l.drop 1) (i:=l.length-1) (by omega)] at st
 have ol:=aP3 fok h hd (c0:=c0) (c1:=(t.1,t.2,u,(d:Int),l,M)) rfl (u:=u) r1 r2;have e1:((Int.ofNat l.length).toNat) -1=l.length-1:=rfl;unfold pC;have en:((Int.ofNat l.length)==0)=false:=eN (by show¬(l.length:Int)=0;omega)
 have e2:(((decide ((0:Nat)<=1))&&(decide ((1:Int)<=(Int.ofNat l.length))))&&(decide ((Int.ofNat l.length)<=(Int.ofNat l.length))))=true:=by
  rw [aO (show (1:Int)<=Int.ofNat l.length by show (1:Int)<=(l.length:Int);omega),aO (Int.le_refl _)];rfl
 simp only [en,cond_false,aK6 h0,aB];rw [show (((decide ((0:Nat)<=1))&&(decide ((1:Int)<=(Int.ofNat l.length))))&&(decide ((Int.ofNat l.length)<=(Int.ofNat l.length))))=true from e2,cond_true];refine (show _=_ from st).trans (aI ?_);unfold kJ g2S;simp only [aH (Int.lt_irrefl _),cond_false];exact ol
theorem aAv (fok:bJ f) (r:bM t) (r64:nB t): ∀(k n:Nat) (l:List Pt) (u:Int) (d:Nat) (M:List (Int×Int)),LOK f l->l.length<=k->k+1<=n->d+k<=1000->
 gU n (t.1,t.2,u,(d:Int),l,M)=some (l,kS M (eJ (gC f t) lE k (l.map fun p=>p.1) u d))
 |k,0,l,u,d,M,_,_,hn,_=>absurd hn (by omega)
 |k,n+1,[],u,d,M,_,_,_,_=>by cases k<;>rfl
 |0,n+1,x::l,u,d,M,_,hk,_,_=>absurd hk (by rw [List.length_cons];omega)
 |k+1,n+1,x::l,u,d,M,h,hk,hn,hd=>by
  have ti:=L8 (t:=t) fok l x (h.sub x List.mem_cons_self) (fun p hp=>h.sub p (List.mem_cons_of_mem _ hp))
  have tl:fF (gC f t) ((x::l).map fun p=>p.1)=(fY t l x).1:=ti.1.symm
  have so:=uF fok.2.2 t;have sl: ∀b,(eB (x::l) (fY t l x).1 d b).length<=k:=fun b=>by
   have hS: ∀y∈((x::l).map fun p=>p.1),nD f y:=fun y hy=>by
    obtain ⟨p,hp,e⟩:=List.mem_map.1 hy;exact hG.1 (List.mem_map.2 ⟨p,h.sub p hp,e⟩)
   have t1:=(nN so (l:=(x::l).map fun p=>p.1) (by simp) hS).1
   rw [tl] at t1
   have:=tJ (bit:=lE) t1 d b
   rw [<- tK,List.length_map,List.length_map] at this;omega
  have A:=aAv fok r r64 k n (eB (x::l) (fY t l x).1 d 0) (fY t l x).1 (d+1) (nQ M (fY t l x).1 u) (h.side _ _ _) (sl 0) (by omega) (by omega)
  have B:=aAv fok r r64 k n (eB (x::l) (fY t l x).1 d 1) (fY t l x).1 (d+1) (kS (nQ M (fY t l x).1 u) (eJ (gC f t) lE k ((eB (x::l) (fY t l x).1 d 0).map fun p=>p.1) (fY t l x).1 (d+1))) (h.side _ _ _) (sl 1) (by omega) (by omega)
  have C:=aSo fok r r64 h (List.cons_ne_nil x l) (d:=d) (by omega) (u:=u) (M:=M) (c0:=gU n) A B
  refine (show _=_ from C).trans ?_;rw [tK,tK,<- LE];refine congrArg some (Prod.ext rfl ?_);show kS (nQ M (fY t l x).1 u) _=kS M (eJ (gC f t) lE (k+1) (x.1::l.map fun p=>p.1) u d)
  simp only [eJ];rw [<- show fF (gC f t) (x.1::l.map fun p=>p.1)=(fY t l x).1 from tl]
  rfl
end
section
variable {f : List Pt} {t : Int × Int}
def h1S (t:Int×Int) (l:List Pt) (M:List (Int×Int)) (d:Nat) (top:Pt) (s0 s1:List Pt) (i:Nat):=
 ((d:Int),l,(l.length:Int),(i:Int),M,t.1,t.2,top.1,top.2.1,top.2.2,s0,s1)
def h2S (t:Int×Int) (l:List Pt) (M:List (Int×Int)) (u:Int) (d:Nat) (top:Pt) (i:Nat):=
 (l,u,(d:Int),l.drop 1,((l.drop 1).length:Int),(i:Int),M,t.1,t.2,top)
theorem aP4 (fok:bJ f) {l:List Pt} (h:LOK f l) {d:Nat} (hd:d<=1000) {top:Pt} {M:List (Int×Int)}
 {M2 M3:List (Int×Int)} (r1:gL (t.1,t.2,top.1,((d+1:Nat):Int),eB l top.1 d 0,M)=some (eB l top.1 d 0,M2)) (r2:gL (t.1,t.2,top.1,((d+1:Nat):Int),eB l top.1 d 1,M2)=some (eB l top.1 d 1,M3)):
 aG iG (h1S t l M d top [] [] 0)=some (.done M3):=by
 have hl:=h.len;have st:=cW (body:=iG) (fun i=>h1S t l M d top (eB (l.take i) top.1 d 0) (eB (l.take i) top.1 d 1) i) l.length (fun i hi=>by
  have pm:=bB hi;obtain ⟨b0,b1⟩:=h.bits fok pm;have bt:=aAt b0 b1 d;have lt:=FP (l[i]!).1 d;have s0:=CY (l.take i) l[i]! top.1 d 0;have s1:=CY (l.take i) l[i]! top.1 d 1;rw [<- dZ hi] at s0 s1;have l0:(eB (l.take i) top.1 d 0).length<=64:=Nat.le_trans (BG ..) (by rw [List.length_take];omega)
  have l1:(eB (l.take i) top.1 d 1).length<=64:=Nat.le_trans (BG ..) (by rw [List.length_take];omega)
  have a0:bL (eB (l.take i) top.1 d 0) [l[i]!]=some (eB (l.take i) top.1 d 0++[l[i]!]):=dB (by rw [List.length_singleton];omega)
  have a1:bL (eB (l.take i) top.1 d 1) [l[i]!]=some (eB (l.take i) top.1 d 1++[l[i]!]):=dB (by rw [List.length_singleton];omega)
  rw [s0,s1];unfold iG h1S;simp only [aO (show (i:Int)<(l.length:Int) by omega),cond_true,aC l i hi,aB,aX (show i<1000000000 by omega),aH (show¬(d:Int)<0 by omega),cond_false,bt,a0,a1]
  by_cases c:(l[i]!).1=top.1
  · rw [cP (show (l[i]!).1=top.1 from c),cond_false,if_neg (fun k=>k.1 c),if_neg (fun k=>k.1 c),List.append_nil,List.append_nil]
  · rw [dX c,cond_true]
    by_cases e:lE (l[i]!).1 d=0
    · rw [e,if_pos ⟨c,rfl⟩,if_neg (fun k=>by omega),List.append_nil];rfl
    · have e1:lE (l[i]!).1 d=1:=by omega
      rw [e1,if_neg (fun k=>by omega),if_pos ⟨c,rfl⟩,List.append_nil];rfl)
 rw [List.take_length] at st;refine (show _=_ from st).trans (aI ?_);unfold iG h1S;simp only [aH (show¬(l.length:Int)<(l.length:Int) by omega),cond_false,aX (show d<1000000000 by omega),r1,r2,aB]
theorem aSp (fok:bJ f) (r:bM t) (r64:nB t) {l:List Pt} (h:LOK f l) (h0:l≠[]) {d:Nat} (hd:d<=1000) {M:List (Int×Int)} {u:Int} {c0:_}
 {M2 M3:List (Int×Int)} (r1:gL (t.1,t.2,(fY t (l.drop 1) l[0]!).1,((d+1:Nat):Int),eB l (fY t (l.drop 1) l[0]!).1 d 0,nQ M (fY t (l.drop 1) l[0]!).1 u)=some (eB l (fY t (l.drop 1) l[0]!).1 d 0,M2))
 (r2:gL (t.1,t.2,(fY t (l.drop 1) l[0]!).1,((d+1:Nat):Int),eB l (fY t (l.drop 1) l[0]!).1 d 1,M2)=some (eB l (fY t (l.drop 1) l[0]!).1 d 1,M3)):
 lF c0 (l,t.1,t.2,u,(d:Int),M)=some M3:=by
 have hl:=h.len;have hp:=List.length_pos_iff.2 h0;have ld:(l.drop 1).length=l.length-1:=List.length_drop;have st:=cW (body:=kK) (fun i=>h2S t l M u d (fY t ((l.drop 1).take i) l[0]!) i) (l.drop 1).length (fun i hi=>by
  have q:=aC (l.drop 1) i hi;rw [I9 (by omega)] at q
  have ne:=aD0 (t:=t) h (i:=i) (by omega)
  have m1:=h.sub _ (bB (l:=l) (i:=i+1) (by omega))
  have m2:fY t ((l.drop 1).take i) l[0]!∈f:=by
   rcases EW t ((l.drop 1).take i) l[0]! with e|e
   · rw [e];exact h.sub _ (bB hp)
   · exact h.sub _ (List.mem_of_mem_drop (List.mem_of_mem_take e))
  have A:=aDZ fok r r64 m1 m2 ne;have tt:=WD (t:=t) (l:=l.drop 1) (x:=l[0]!) i hi;rw [I9 (by omega)] at tt
  rw [tt];unfold kK h2S;simp only [aO (show (i:Int)<((l.drop 1).length:Int) by omega),cond_true,q,aB,A,aX (show i<1000000000 by omega)]
  by_cases c:bT l[i+1]! (fY t ((l.drop 1).take i) l[0]!) t
  · rw [decide_eq_true c,cond_true,if_pos c]
  · rw [decide_eq_false c,cond_false,if_neg c])
 rw [List.take_length] at st;have ol:=aP4 (t:=t) fok h hd r1 r2;have e1:iE l 1 (Int.ofNat l.length)=some (l.drop 1):=by
  unfold iE;rw [if_pos (by refine ⟨by decide,?_,Int.le_refl _⟩;show (1:Int)<=(l.length:Int);omega)]
  refine congrArg some ?_;show (l.drop 1).take _=_;exact List.take_of_length_le (by rw [ld];exact Nat.le_refl _)
 unfold lF;have en:((Int.ofNat l.length)==0)=false:=eN (by show¬(l.length:Int)=0;omega)
 simp only [en,cond_false,aK6 h0,aB,e1];refine (show _=_ from st).trans (aI ?_);unfold kK h2S;simp only [aH (Int.lt_irrefl _),cond_false];exact ol
theorem aKq (fok:bJ f) (r:bM t) (r64:nB t):rC (f,t.1,t.2,-1,0,[])=some (kS [] (mU f t)):=by
 have h:LOK f f:=⟨fun p hp=>hp,iT fok.2.2,fok.1⟩
 have f1:=fok.1;unfold mU;show lF (gV 999999) _=_;cases hf:f with
 |nil=>rfl
 |cons x l=>
  rw [<- hf];have fl:f.length=l.length+1:=by rw [hf];rfl
  have d1:f.drop 1=l:=by rw [hf];rfl
  have g0:f[0]! =x:=by rw [hf];rfl
  have ti:=L8 (t:=t) fok l x (by rw [hf];exact List.mem_cons_self) (fun p hp=>by rw [hf];exact List.mem_cons_of_mem _ hp)
  have ei:fM f=x.1::l.map fun p=>p.1:=by unfold fM;rw [hf];rfl
  have tl:fF (gC f t) (fM f)=(fY t l x).1:=by rw [ei];exact ti.1.symm
  have so:=uF fok.2.2 t;have sl: ∀b,(eB f (fY t l x).1 0 b).length<=l.length:=fun b=>by
   have hS: ∀y∈fM f,nD f y:=fun y hy=>hG.1 hy
   have t1:=(nN so (l:=fM f) (by unfold fM;rw [hf];simp) hS).1
   rw [tl] at t1
   have:=tJ (bit:=lE) t1 0 b
   unfold fM at this;rw [<- tK,List.length_map,List.length_map] at this;omega
  have A:=aAv fok r r64 l.length 1000000 (eB f (fY t l x).1 0 0) (fY t l x).1 1 (nQ [] (fY t l x).1 (-1)) (h.side _ _ _) (sl 0) (by omega) (by omega)
  have B:=aAv fok r r64 l.length 1000000 (eB f (fY t l x).1 0 1) (fY t l x).1 1 (kS (nQ [] (fY t l x).1 (-1)) (eJ (gC f t) lE l.length ((eB f (fY t l x).1 0 0).map fun p=>p.1) (fY t l x).1 1)) (h.side _ _ _) (sl 1) (by omega) (by omega)
  have C:=aSp fok r r64 h (by rw [hf];exact List.cons_ne_nil x l) (d:=0) (by omega) (u:= -1) (M:=[]) (c0:=gV 999999) (M2:=kS (nQ [] (fY t l x).1 (-1)) (eJ (gC f t) lE l.length ((eB f (fY t l x).1 0 0).map fun p=>p.1) (fY t l x).1 1)) (M3:=kS (kS (nQ [] (fY t l x).1 (-1)) (eJ (gC f t) lE l.length ((eB f (fY t l x).1 0 0).map fun p=>p.1) (fY t l x).1 1)) (eJ (gC f t) lE l.length ((eB f (fY t l x).1 0 1).map fun p=>p.1) (fY t l x).1 1)) (by rw [d1,g0];exact A) (by rw [d1,g0];exact B)
  refine (show _=_ from C).trans (congrArg some ?_);rw [tK,tK,<- LE,fl];rw [show (f.map fun p=>p.1)=fM f from rfl,<- tl]
  generalize gC f t=P;rw [ei];simp only [eJ];rfl
end
def YQ (c:aL) (to:Int×Int):Prop:=0<c.agenda.heap.length/\nO (Ev.at c.agenda.heap[0]!) to<=0
theorem O8 {c:aL} (ok:bA c) {to:Int×Int} (rt:bM to) (r64:nB to) (le: ¬nO to c.now<0):uU c to=some (decide (YQ c to),0):=by
 unfold uU;rw [mB ok.fit,if_pos ok,aB,dY r64,if_pos rt,aB,cP (by decide),cond_false,N6 r64 ok.now64,if_pos ⟨rt,ok.nowv⟩,aB,aH le,cond_false]
 unfold G1;rw [kC _ ok.fit.ag,if_pos ok.agd,aB,cP rfl,cond_false]
 by_cases h:0<c.agenda.heap.length
 · have ev:=ok.agd.ev 0 h
   have g:=aC c.agenda.heap 0 h;rw [show ((0:Nat):Int)=0 from rfl] at g;rw [eN (by rw [aF];omega),cond_false,g,aB,aB,cP rfl,cond_false,N6 ev.2.1 r64,if_pos ⟨ev.1,rt⟩,aB]
   congr 2
   by_cases h2:nO (Ev.at c.agenda.heap[0]!) to<=0
   · rw [aO (show YQ c to from ⟨h,h2⟩),aO h2]
   · rw [aH (fun k:YQ c to=>h2 k.2),aH h2]
 · rw [fS (by rw [aF];omega),cond_true,aB,aH (fun k:YQ c to=>h k.1)]
   rfl
theorem O9 {c:aL} (ok:bA c) {to:Int×Int} (r64:nB to):EE c to=some (decide (YQ c to)):=by
 unfold EE;simp only [aF]
 by_cases h:0<c.agenda.heap.length
 · have ev:=ok.agd.ev 0 h
   have g:=aC c.agenda.heap 0 h;rw [show ((0:Nat):Int)=0 from rfl] at g;rw [aO (by omega),cond_true,g,aB,CP ev.2.1 r64,aB]
   congr 1
   by_cases h2:nO (Ev.at c.agenda.heap[0]!) to<=0
   · rw [aO (show YQ c to from ⟨h,h2⟩),aO h2]
   · rw [aH (fun k:YQ c to=>h2 k.2),aH h2]
 · rw [aH (by omega),cond_false,aH (fun k:YQ c to=>h k.1)]
theorem WE {c:bF} (ok:eQ c) {i:Nat} (hi:i<c.list.length):VD c (c.list[i]!).1=some (i:Int):=by
 have hl:=ok.len;have k:=mJ (body:=zE) (fun j=>((c.list[i]!).1,(j:Int),c.next_,c.list)) c.list.length (fun j=>(c.list[j]!).1=(c.list[i]!).1) (fun j=>(j:Int)) (e:= -1) (fun j hj=>by
  unfold zE;simp only [aF,aO (show (j:Int)<(c.list.length:Int) by omega),cond_true,aC c.list j hj,aB,aX (show j<1000000000 by omega)]
  refine ⟨fun h=>?_,fun h=>?_⟩
  · rw [fS h];rfl
  · rw [eN h];rfl) (by
  unfold zE;simp only [aF,aH (show¬(c.list.length:Int)<(c.list.length:Int) by omega),cond_false])
 exact k.1 i hi rfl fun j hj e=>by have:=ok.up j i hj hi;omega
abbrev atT (c:aL) (t:Int×Int):aL:=⟨t,c.field,c.certs,c.agenda,c.due⟩
theorem aD1 {c:aL} (ok:bA c) {to:Int×Int} (rt:bM to) (r64:nB to) (le: ¬nO to c.now<0) (due:YQ c to):
 ∃(x:Int×Int) (c1:aL),sT c to=some (c1,c.agenda.heap[0]!,x,0)/\CJ c=some (c1,c.agenda.heap[0]!,x)/\bA c1/\c1.field=c.field/\iJ c.field.points x/\sE c1=sE c+1/\c1.now=Ev.at c.agenda.heap[0]!:=by
 obtain ⟨i,c',hi,num,r1,r2,ok1,hf,hc,_⟩:=YP ok due.1;have g:=aC c.agenda.heap 0 due.1;rw [show ((0:Nat):Int)=0 from rfl] at g;have hcl:c'.certs.list.length=c.certs.list.length-1:=by
  rw [hc];exact List.length_eraseIdx_of_lt hi
 have hcn:c'.certs.next_=c.certs.next_:=by rw [hc];rfl
 refine ⟨(c.certs.list[i]!).2,atT c' (Ev.at c.agenda.heap[0]!),?_,?_,ok1,hf,ok.known i hi,?_,rfl⟩
 · unfold sT
   rw [O8 ok rt r64 le,aB,fS rfl,cond_true,aO due,Bool.not_true,cond_false,cP rfl,cond_false,g,aB,r1,aB,cP rfl,cond_false]
 · unfold CJ
   rw [g,aB,show (c.agenda.heap[0]!).2.2.1=(c.certs.list[i]!).1 from num.symm,WE ok.crt hi,aB,aC c.certs.list i hi,aB,num,r2,aB]
 · unfold sE
   show c'.certs.next_- (c'.certs.list.length:Int)=_;rw [hcl,hcn];omega
theorem aD2 {c:aL} (ok:bA c) {to:Int×Int} (rt:bM to) (r64:nB to) (le: ¬nO to c.now<0) (due: ¬YQ c to):sT c to=some (dW,(0,0,0,0,0),(0,0),6):=by
 unfold sT;rw [O8 ok rt r64 le,aB,fS rfl,cond_true,aH due];rfl
theorem aKr {c:aL} (ok:bA c) {to:Int×Int} (rt:bM to) (r64:nB to) (le: ¬nO to c.now<0) (due: ¬YQ c to):CC c to=some (atT c to,0):=by
 unfold CC;rw [O8 ok rt r64 le,aB,fS rfl,cond_true,aH due,cond_false,cP rfl,cond_false,lB ok,aB]
theorem aD3 {c:aL} (ok:bA c) (to:Int×Int):EF c to=some (atT c to):=by
 unfold EF;rw [iB ok,aB]
theorem SZ {c:aL} (ok:bA c): -200<=sE c/\sE c<=1000000:=by
 have h1:=ok.crt.len;have h2:=ok.crt.n0;have h3:=ok.crt.n1;unfold sE;omega
theorem aKs {h l:Pt} {t t':Int×Int} (hh:gZ h) (hl:gZ l) (r:bM t) (r':bM t') (le:t.1*t'.2<=t'.1*t.2) (nf:(nC h l t).2=true->t'.1*(nC h l t).1.2<(nC h l t).1.1*t'.2): ¬bT l h t':=by
 unfold nC at nf
 by_cases h1:bT l h t
 · rw [if_pos h1] at nf
   have:=nf rfl
   dsimp only at this;omega
 · rw [if_neg h1] at nf
   by_cases h2:h.2.2<l.2.2
   · rw [if_pos h2] at nf
     obtain ⟨_,m1,m2,m3⟩:=KC hh hl (show h.2.2≠l.2.2 by omega)
     have up:=nf rfl;dsimp only at up;intro h3;have g:0<=N8 l h t':=by rcases h3 with k|k<;>omega
     rw [I6] at g;generalize met h l=m at*;have d:=m1.1;have hB:0<l.2.2-h.2.2:=by omega
     generalize l.2.2-h.2.2=B at*;generalize hA:h.2.1-l.2.1=A at*;have g2:A*t'.2<=B*t'.1:=by
      have:(l.2.1-h.2.1)*t'.2= -(A*t'.2):=by rw [<- Int.neg_mul];congr 1;omega
      omega
     have g3:m.1*t'.2*B<=t'.1*m.2*B:=by
      have e1:m.1*t'.2*B=A*t'.2*m.2:=by rw [Int.mul_right_comm,m3,Int.mul_right_comm]
      have e2:t'.1*m.2*B=B*t'.1*m.2:=by rw [Int.mul_right_comm,Int.mul_comm t'.1 B]
      rw [e1,e2];exact Int.mul_le_mul_of_nonneg_right g2 (by omega)
     have g4:m.1*t'.2<=t'.1*m.2:=Int.le_of_mul_le_mul_right g3 hB;omega
   · exact LB r.1 r'.1 le h2 h1
def hP (c:aL) (r:Int) (N:List Nd) (to:Int×Int) (out:List (Int×Int)):=
 (c.now.1,c.now.2,c.field.points,c.certs.next_,c.certs.list,c.agenda.slots.uses,c.agenda.slots.used,c.agenda.slots.free,c.agenda.heap,c.agenda.where_,c.due,r,N,to.1,to.2,(0:Int),(0:Int),(0:Int),(0:Int),out)
def AM:aU:=⟨List.replicate 200 0,List.replicate 200 false,(List.range 200).map fun j:Nat=>(199:Int) - (j:Int)⟩
def L9:aK:=⟨AM,[],List.replicate 200 (-1)⟩
def HD (f:Field) (t:Int×Int):aL:=⟨t,f,⟨0,[]⟩,L9,[]⟩
theorem WG:IK 200=some (AM,0):=
 (by kernel_rfl:IK 200=aG K1 (200,200,0,List.replicate 200 0,List.replicate 200 false,List.replicate 200 0)).trans (vE.2 ⟨300,by kernel_rfl⟩)
theorem aBy:kH [-1] 200=some (List.replicate 200 (-1)):=by
 unfold kH zT;have m:gW (aA .u64 (Int.ofNat ([-1]:List Int).length)) (aA .u64 200)=some (0,200):=by
  rw [show aA .u64 (Int.ofNat ([-1]:List Int).length)=1 from by kernel_rfl,show aA .u64 200=200 from by kernel_rfl,IR ⟨by decide,by decide⟩ ⟨by decide,by decide⟩]
  rfl
 rw [m];exact (by kernel_rfl:_=aG oA (1,-1::List.replicate 199 0)).trans (vE.2 ⟨20,by kernel_rfl⟩)
theorem PK:B7 200=some (L9,0):=by
 unfold B7;rw [WG,aB,cP rfl,cond_false,aBy];rfl
theorem S0 (f:Field) {t:Int×Int} (r64:nB t):FA f t=some (if oJ f.points≠0 then (dW,oJ f.points) else if bM t then (HD f t,0) else (dW,8)):=by
 unfold FA;rw [mA,aB]
 by_cases h:oJ f.points=0
 · have fok:=kQ.1 h
   have f1:=fok.1;rw [cP h,cond_false,dY r64,aB,if_neg (show¬oJ f.points≠0 from fun k=>k h)]
   by_cases rt:bM t
   · rw [if_pos rt,if_pos rt,cP rfl,cond_false,PK,aB,bG (show f.points.length<=1048576 by omega),aB]
     rfl
   · rw [if_neg rt,if_neg rt,dX (by decide),cond_true]
 · rw [dX h,cond_true,if_pos h]
theorem BH {α:Type} [Inhabited α] {n i:Nat} (a:α) (h:i<n):(List.replicate n a)[i]! =a:=by
 rw [getElem!_pos _ i (by rw [List.length_replicate];exact h),List.getElem_replicate]
theorem aKt {i:Nat} (hi:i<200):(i:Int)∈AM.free:=by
 refine List.mem_map.2 ⟨199-i,List.mem_range.2 (by omega),?_⟩
 show (199:Int) - ((199-i:Nat):Int)=(i:Int);omega
theorem oO:AM.uses.length=200:=List.length_replicate ..
set_option maxRecDepth 100000 in
theorem aD4:AM.free.length=200:=by
 unfold AM;exact (List.length_map _).trans List.length_range
theorem aBz:fD AM where
 n1:=by rw [oO];omega
 n2:=by rw [oO];omega
 ul:=by rw [oO];exact List.length_replicate ..
 fr:=fun x hx=>by
  obtain ⟨j,hj,rfl⟩:=List.mem_map.1 hx
  have:=List.mem_range.1 hj
  rw [oO];omega
 fd:=by
  refine yA List.nodup_range fun i hi j hj h=>?_
  have h:(199:Int) - (i:Int)=199- (j:Int):=h;omega
 uf:=fun i hi=>by
  rw [oO] at hi;rw [show AM.used[i]! =false from BH false hi];constructor
  · intro h;cases h
  · intro h;exact absurd (aKt hi) h
 us:=fun i hi=>by
  rw [oO] at hi;rw [show AM.uses[i]! =0 from BH 0 hi,show AM.used[i]! =false from BH false hi];exact ⟨by decide,by decide,fun h=>by cases h⟩
set_option maxRecDepth 100000 in
theorem YR:fE L9 where
 so:=aBz
 wl:=(List.length_replicate (n:=200) (a:=(-1:Int))).trans oO.symm
 hl:=((Nat.zero_add _).trans aD4).trans oO.symm
 fwd:=fun i hi h=>by
  rw [show L9.slots.used[i]! =false from BH false (by rw [<- oO];exact hi)] at h
  cases h
 un:=fun i hi _=>BH (-1) (by rw [<- oO];exact hi)
 ev:=fun w hw=>absurd hw (Nat.not_lt_zero w)
 nd:=fun v w _ hw=>absurd hw (Nat.not_lt_zero w)
 ord:=fun k _ hk=>absurd hk (Nat.not_lt_zero k)
theorem aBA {f:Field} (fok:bJ f.points) {t:Int×Int} (r:bM t) (r64:nB t):bA (HD f t) where
 nowv:=r
 now64:=r64
 fld:=fok
 crt:=(⟨by decide,by decide,by decide,fun i hi=>absurd hi (Nat.not_lt_zero i),fun i hi=>absurd hi (Nat.not_lt_zero i),fun i j _ hj=>absurd hj (Nat.not_lt_zero j),fun i j _ hj=>absurd hj (Nat.not_lt_zero j)⟩:eQ ⟨0,[]⟩)
 agd:=YR
 w200:=List.length_replicate ..
 hd:=rfl
 known:=fun i hi=>absurd hi (Nat.not_lt_zero i)
 fol:=rfl
theorem S1 (f:Field) (t:Int×Int):LA (HD f t) 0:=by
 refine ⟨Nat.le_refl _,Int.le_refl _,fun j hj=>?_⟩
 rw [show (HD f t).agenda.slots.uses[j]! =0 from BH 0 (by rw [<- oO];exact hj)]
 decide
noncomputable def QY (f:List Pt) (t:Int×Int) (k:Nat):Nat->Nat
 |0=>0
 |j+1=>QY f t k j+(if j≠k/\V9 f t j k then 1 else 0)
theorem KN (f:List Pt) (t:Int×Int) (k:Nat): ∀j,QY f t k j<=j/\(k<j->QY f t k j+1<=j)
 |0=>⟨Nat.le_refl _,fun h=>by omega⟩
 |j+1=>by
  obtain ⟨h1,h2⟩:=KN f t k j;rw [QY]
  by_cases c:j≠k/\V9 f t j k
  · rw [if_pos c]
    exact ⟨by omega,fun h=>by have:=h2 (by omega);omega⟩
  · rw [if_neg c]
    exact ⟨by omega,fun h=>by omega⟩
theorem aBB {f:List Pt} (fok:bJ f) {t:Int×Int} (r64:nB t) {k:Nat} (hk:k<f.length):wO ⟨f⟩ f[k]! t=some (QY f t k f.length:Int):=by
 have f1:=fok.1;have key:=cW (body:=nA) (fun j=>((QY f t k j:Int),(j:Int),f,(f[k]!).1,(f[k]!).2.1,(f[k]!).2.2,t)) f.length (fun j hj=>by
  have g:=aC f j hj;have le:=(KN f t k j).1;have ld:=IT (fok.2.1 _ (bB hj)) (fok.2.1 _ (bB hk)) r64;have peta:((f[k]!).1,(f[k]!).2.1,(f[k]!).2.2)=f[k]!:=rfl;unfold nA;rw [QY]
  by_cases q:j=k
  · subst q
    simp only [aF,aO (show (j:Int)<(f.length:Int) by omega),cond_true,g,aB,cP rfl,cond_false,aX (show j<1000000000 by omega),if_neg (show¬(j≠j/\V9 f t j j) from fun w=>w.1 rfl),Nat.add_zero]
  · have ne:(f[j]!).1≠(f[k]!).1:=fun h=>q (xW fok.2.2 hj hk h)
    by_cases c:V9 f t j k
    · rw [show decide (bT f[j]! f[k]! t)=true from aO c] at ld
      simp only [aF,aO (show (j:Int)<(f.length:Int) by omega),cond_true,g,aB,dX ne,peta,ld,aX (show j<1000000000 by omega),aX (show QY f t k j<1000000000 by omega),if_pos (show j≠k/\V9 f t j k from ⟨q,c⟩)]
    · rw [show decide (bT f[j]! f[k]! t)=false from aH c] at ld
      simp only [aF,aO (show (j:Int)<(f.length:Int) by omega),cond_true,g,aB,dX ne,peta,ld,cond_false,aX (show j<1000000000 by omega),if_neg (show¬(j≠k/\V9 f t j k) from fun w=>c w.2),Nat.add_zero])
 unfold wO;rw [show aG nA (0,0,f,(f[k]!).1,(f[k]!).2.1,(f[k]!).2.2,t)=_ from key];refine aI ?_;unfold nA;simp only [aF,aH (show¬(f.length:Int)<(f.length:Int) by omega),cond_false]
noncomputable def F0s (f:List Pt) (t:Int×Int):Nat->List Int
 |0=>List.replicate f.length 0
 |i+1=>(F0s f t i).set (QY f t i f.length) (f[i]!).1
theorem vJ (f:List Pt) (t:Int×Int): ∀i,(F0s f t i).length=f.length
 |0=>List.length_replicate ..
 |i+1=>by rw [F0s,List.length_set,vJ f t i]
theorem YS {f:List Pt} (fok:bJ f) {t:Int×Int} (r64:nB t):tX ⟨f⟩ t=some (F0s f t f.length):=by
 have f1:=fok.1;have mk:xE (f.length:Int) (0:Int)=some (List.replicate f.length 0):=by
  unfold xE;rw [if_pos ⟨by omega,by omega⟩,Int.toNat_natCast]
 have key:=cW (body:=lW) (fun i=>((i:Int),f,t.1,t.2,F0s f t i)) f.length (fun i hi=>by
  have g:=aC f i hi;have le:=(KN f t i f.length).2 hi;have go:=aC (F0s f t i) (QY f t i f.length) (by rw [vJ];omega)
  unfold lW;simp only [aF,aO (show (i:Int)<(f.length:Int) by omega),cond_true,g,aB,show ((t.1,t.2):Int×Int)=t from rfl,aBB fok r64 hi,go,rW,aX (show i<1000000000 by omega)]
  rfl)
 unfold tX;simp only [aF,beq_self_eq_true,cond_true,mk,aB];rw [show aG lW (0,f,t.1,t.2,List.replicate f.length 0)=_ from key];refine aI ?_;unfold lW;simp only [aF,aH (show¬(f.length:Int)<(f.length:Int) by omega),cond_false]
theorem S2 {f : List Pt} (h : fC f) {t : Int × Int} {i k : Nat} (hi : i < f.length) (hk : k < f.length) (a : V9 f t i k) : ∀ j, j <= f.length -> QY f t i j + (if i < j then 1 else 0) <= QY f t k j
  | 0, _ => by rw [if_neg (by omega)]; exact Nat.le_refl _
  | j + 1, hj => by
    have o := FO h t
    have ih := S2 h hi hk a j (by omega)
    have ik : i ≠ k := fun e => by subst e; exact o.asy i i hi hi a a
    rw [QY, QY]
    by_cases e : j = i
    · subst e
      rw [if_neg (show ¬ (j ≠ j /\ _) from fun w => w.1 rfl), if_pos (show j ≠ k /\ V9 f t j k from ⟨ik, a⟩), if_pos (by omega)]
      rw [if_neg (by omega)] at ih
      omega
    · have e2 : (if i < j + 1 then 1 else 0) = (if i < j then 1 else 0) := by
        by_cases c : i < j
        · rw [if_pos c, if_pos (by omega)]
        · rw [if_neg c, if_neg (by omega)]
      rw [e2]
      by_cases c : j ≠ i /\ V9 f t j i
      · have c2 : j ≠ k /\ V9 f t j k := by
          have q := o.tr j i k (by omega) hi hk c.2 a
          exact ⟨fun z => by subst z; exact o.asy j j (by omega) (by omega) q q, q⟩
        rw [if_pos c, if_pos c2]; omega
      · rw [if_neg c]; omega
theorem aKu {f:List Pt} (h:fC f) {t:Int×Int} {i k:Nat} (hi:i<f.length) (hk:k<f.length) (ne:i≠k):QY f t i f.length≠QY f t k f.length:=by
 have o:=FO h t;intro e
 by_cases a:V9 f t i k
 · have:=S2 h hi hk a f.length (Nat.le_refl _)
   rw [if_pos hi] at this;omega
 · have:=S2 h hk hi (o.tot i k hi hk ne a) f.length (Nat.le_refl _)
   rw [if_pos hk] at this;omega
theorem S3 {f:List Pt} (h:fC f) {t:Int×Int} {i:Nat}: ∀j,j<=f.length->i<j->(F0s f t j)[QY f t i f.length]! =(f[i]!).1
 |0,_,hi=>by omega
 |j+1,hj,hi=>by
  rw [F0s,bE];have hr:=(KN f t i f.length).2 (by omega)
  by_cases q:i=j
  · subst q
    rw [if_pos ⟨rfl,by rw [vJ];omega⟩]
  · rw [if_neg (fun w=>aKu h (by omega) (by omega) q w.1)]
    exact S3 h j (by omega) (by omega)
theorem QZ {f:List Pt} (h:fC f) (t:Int×Int):(fM f).Perm (F0s f t f.length):=by
 have il:(fM f).length=f.length:=List.length_map ..;refine tI (iT h) (fun x hx=>?_) (by rw [vJ,il];exact Nat.le_refl _)
 obtain ⟨i,hi,e⟩:=hG.1 hx;have hr:=(KN f t i f.length).2 hi;exact aW.2 ⟨QY f t i f.length,by rw [vJ];omega,by rw [S3 h _ (Nat.le_refl _) hi];exact e⟩
theorem YT {f:List Pt} (h:fC f) (t:Int×Int) {p q:Nat} (hpq:p<q) (hq:q<f.length):gC f t (F0s f t f.length)[p]! (F0s f t f.length)[q]!:=by
 have pm:=QZ h t;have nd:=pm.nodup_iff.1 (iT h);have ol:=vJ f t f.length;have o:=FO h t;have at': ∀x,x<f.length-> ∃i,i<f.length/\(F0s f t f.length)[x]! =(f[i]!).1/\QY f t i f.length=x:=fun x hx=>by
  obtain ⟨i,hi,e⟩:=hG.1 (pm.mem_iff.2 (bB (l:=F0s f t f.length) (i:=x) (by omega)))
  have hr:=(KN f t i f.length).2 hi;have e2:=S3 h (t:=t) f.length (Nat.le_refl _) hi;rw [e] at e2;refine ⟨i,hi,e.symm,?_⟩;rcases Nat.lt_trichotomy (QY f t i f.length) x with c|c|c
  · exact absurd e2 (eH.1 nd _ _ c (by omega))
  · exact c
  · exact absurd e2.symm (eH.1 nd _ _ c (by omega))
 obtain ⟨i,hi,e1,r1⟩:=at' p (by omega)
 obtain ⟨k,hk,e2,r2⟩:=at' q hq;rw [e1,e2];show bT (eD f (f[i]!).1) (eD f (f[k]!).1) t;rw [pV h hi rfl,pV h hk rfl]
 by_cases a:V9 f t i k
 · exact a
 · have:=S2 h hk hi (o.tot i k hi hk (fun e=>by subst e;omega) a) f.length (Nat.le_refl _)
   rw [if_pos hk] at this;omega
theorem aBC {f:List Pt} (h:fC f) (t:Int×Int):(F0s f t f.length).Pairwise (gC f t):=by
 refine List.pairwise_iff_getElem.2 fun i j hi hj hij=>?_
 have:=YT h t hij (by rw [<- vJ f t f.length];exact hj)
 rw [getElem!_pos _ i hi,getElem!_pos _ j hj] at this;exact this
section
variable {f : List Pt} {t : Int × Int}
theorem aD5 {P:Int->Int->Prop} {S:Int->Prop} (o:SO P S) {x:Int} {r:List Int} (hS: ∀y∈x::r,S y) (pw:(x::r).Pairwise P):fF P (x::r)=x:=by
 obtain ⟨p1,_⟩:=List.pairwise_cons.1 pw;refine O5 o hS List.mem_cons_self fun y hy=>?_
 rcases List.mem_cons.1 hy with rfl|hy
 · exact o.irr _ (hS _ List.mem_cons_self)
 · exact o.asym (hS _ List.mem_cons_self) (hS _ (List.mem_cons_of_mem _ hy)) (p1 y hy)
def pN (r:List Int) (d b:Nat):List Int:=r.filter fun x=>decide (lE x d=b)
theorem WH {P:Int->Int->Prop} {S:Int->Prop} (o:SO P S) {x:Int} {r:List Int} (hS: ∀y∈x::r,S y) (pw:(x::r).Pairwise P) (d b:Nat):jK lE (x::r) x d b=pN r d b:=by
 obtain ⟨p1,_⟩:=List.pairwise_cons.1 pw;unfold jK pN;rw [List.filter_cons,if_neg (by simp)]
 refine List.filter_congr fun y hy=>?_
 have ne:y≠x:=fun e=>o.irr x (hS x List.mem_cons_self) (by have:=p1 y hy;rwa [e] at this)
 by_cases c:lE y d=b
 · rw [aO (show y≠x/\lE y d=b from ⟨ne,c⟩),aO c]
 · rw [aH (fun k=>c k.2),aH c]
theorem YU (r:List Int) (x:Int) (d b:Nat):pN (r++[x]) d b=pN r d b++(if lE x d=b then [x] else []):=by
 unfold pN;rw [List.filter_append]
 congr 1
 by_cases c:lE x d=b
 · rw [if_pos c,List.filter_cons,if_pos (aO c)];rfl
 · rw [if_neg c,List.filter_cons,if_neg (by rw [aH c];decide)];rfl
theorem aD6 {x:Int} {r:List Int} (hr:r.length<=64) (pos: ∀y∈r,0<=y) {d:Nat} (hd:d<=1000) {b:Nat} {out A:List (Int×Int)} {c0:_} (hout:out.length+A.length<=1000) (hb:b<=2) (rec:c0 (pN r d b,x,((d+1:Nat):Int))=some A):
 aG (pJ c0) (x::r,(d:Int),(b:Int),1,out,[])=some (.next (x::r,(d:Int),((b+1:Nat):Int),out++A)):=by
 have st:=cW (body:=pJ c0) (fun i=>(x::r,(d:Int),(b:Int),((i+1:Nat):Int),out,pN (r.take i) d b)) r.length (fun i hi=>by
  have g:=aC (x::r) (i+1) (by rw [List.length_cons];omega)
  have gi:(x::r)[i+1]! =r[i]!:=by
   rw [getElem!_pos _ _ (by rw [List.length_cons];omega),getElem!_pos r i hi];rfl
  rw [gi] at g;have s:=YU (r.take i) r[i]! d b;rw [<- dZ hi] at s;have lim:(pN (r.take i) d b).length<=64:=Nat.le_trans (List.length_filter_le ..) (by rw [List.length_take];omega)
  have ap:bL (pN (r.take i) d b) [r[i]!]=some (pN (r.take i) d b++[r[i]!]):=dB (by rw [List.length_singleton];omega)
  have bt:=aKp (pos _ (bB hi)) d;rw [s];unfold pJ;simp only [aF,List.length_cons,aO (show ((i+1:Nat):Int)<((r.length+1:Nat):Int) by omega),cond_true,g,aB,aH (show¬(d:Int)<0 by omega),cond_false,bt,ap,aX (show i+1<1000000000 by omega)]
  by_cases c:lE r[i]! d=b
  · rw [fS (by omega),cond_true,if_pos c]
  · rw [eN (by omega),cond_false,if_neg c,List.append_nil])
 rw [List.take_length] at st;refine (show _=_ from st).trans (aI ?_);have g0:aM (x::r) 0=some x:=aC (x::r) 0 (by rw [List.length_cons];omega)
 have ap:bL out A=some (out++A):=dB (by omega)
 unfold pJ;simp only [aF,List.length_cons,aH (show¬((r.length+1:Nat):Int)<((r.length+1:Nat):Int) by omega),cond_false,g0,aB,aX (show d<1000000000 by omega),rec,aX (show b<1000000000 by omega)]
 cases hA:A with
 |nil=>rw [List.append_nil];rfl
 |cons a A'=>rw [hA] at ap;rw [show (a::A').isEmpty=false from rfl,cond_false,ap,aB]
theorem aBD {P:Int->Int->Prop} {S:Int->Prop} (o:SO P S) {n:Nat} {l:List Int} {u:Int} {d:Nat} (hS: ∀x∈l,S x) (nd:l.Nodup) (h:l.length<=n):(eJ P lE n l u d).length=l.length:=by
 have:=(yE o FP n l u d hS nd h).1.length_eq
 rw [List.length_map] at this;exact this
theorem aKv {P:Int->Int->Prop} {S:Int->Prop} (o:SO P S) {l:List Int} (hS: ∀x∈l,S x) (pw:l.Pairwise P):l.Nodup:=by
 induction l with
 |nil=>exact List.nodup_nil
 |cons x l ih=>
  obtain ⟨p1,p2⟩:=List.pairwise_cons.1 pw;exact List.nodup_cons.2 ⟨fun h=>o.irr x (hS x List.mem_cons_self) (p1 x h),ih (fun y hy=>hS y (List.mem_cons_of_mem _ hy)) p2⟩
theorem aK7 (fok:bJ f): ∀(k n:Nat) (l:List Int) (u:Int) (d:Nat),(∀x∈l,nD f x)->l.Pairwise (gC f t)->l.length<=k->k<=64->k+1<=n->d+k<=1000->
 iA n (l,u,(d:Int))=some (eJ (gC f t) lE k l u d)
 |k,0,l,u,d,_,_,_,_,hn,_=>absurd hn (by omega)
 |k,n+1,[],u,d,_,_,_,_,_,_=>by cases k<;>rfl
 |0,n+1,x::r,u,d,_,_,hk,_,_,_=>absurd hk (by rw [List.length_cons];omega)
 |k+1,n+1,x::r,u,d,hS,pw,hk,h64,hn,hd=>by
  have o:=uF fok.2.2 t;have th:=aD5 o hS pw;rw [List.length_cons] at hk;have hr: ∀b,(∀y∈pN r d b,nD f y)/\(pN r d b).Pairwise (gC f t)/\(pN r d b).length<=k:=fun b=>
   ⟨fun y hy=>hS y (List.mem_cons_of_mem _ (List.mem_filter.1 hy).1),(List.pairwise_cons.1 pw).2.filter _,Nat.le_trans (List.length_filter_le ..) (by omega)⟩
  have pos: ∀y∈r,0<=y:=fun y hy=>by
   have p0:=eC fok (hS y (List.mem_cons_of_mem _ hy));have p1:=p0.1.1;rw [p0.2] at p1;exact p1
  have rc: ∀b,iA n (pN r d b,x,((d+1:Nat):Int))=some (eJ (gC f t) lE k (pN r d b) x (d+1)):=fun b=>aK7 fok k n _ x (d+1) (hr b).1 (hr b).2.1 (hr b).2.2 (by omega) (by omega) (by omega)
  have ln: ∀b,(eJ (gC f t) lE k (pN r d b) x (d+1)).length<=64:=fun b=>by
   rw [aBD o (hr b).1 (aKv o (hr b).1 (hr b).2.1) (hr b).2.2];have:=(hr b).2.2;omega
  have l0:=ln 0;have l1:=ln 1;have A:=aD6 (x:=x) (r:=r) (by omega) pos (d:=d) (by omega) (b:=0) (out:=[(x,u)]) (by rw [List.length_singleton];omega) (by omega) (rc 0)
  have B:=aD6 (x:=x) (r:=r) (by omega) pos (d:=d) (by omega) (b:=1) (out:=[(x,u)]++eJ (gC f t) lE k (pN r d 0) x (d+1)) (by rw [List.length_append,List.length_singleton];omega) (by omega) (rc 1)
  show CE (iA n) (x::r,u,(d:Int))=_;have g0:aM (x::r) 0=some x:=aC (x::r) 0 (by rw [List.length_cons];omega)
  have en:((Int.ofNat (x::r).length)==0)=false:=eN (by show¬((x::r).length:Int)=0;rw [List.length_cons];omega)
  unfold CE;simp only [en,cond_false,g0,aB];have s1:tY (iA n) (x::r,(d:Int),0,[(x,u)])=some (.next (x::r,(d:Int),((0+1:Nat):Int),[(x,u)]++eJ (gC f t) lE k (pN r d 0) x (d+1))):=A
  have s2:tY (iA n) (x::r,(d:Int),((0+1:Nat):Int),[(x,u)]++eJ (gC f t) lE k (pN r d 0) x (d+1))=some (.next (x::r,(d:Int),((1+1:Nat):Int),([(x,u)]++eJ (gC f t) lE k (pN r d 0) x (d+1))++eJ (gC f t) lE k (pN r d 1) x (d+1))):=B
  rw [bC s1,bC s2];refine (aI (show tY (iA n) (x::r,(d:Int),((1+1:Nat):Int),_)=some (.done _) from rfl)).trans ?_;simp only [eJ];rw [th,WH o hS pw,WH o hS pw];rfl
theorem WI (fok:bJ f):G4 (F0s f t f.length) (-1) 0=some (mU f t):=by
 have f1:=fok.1;have pm:=QZ fok.2.2 t;have h:=aK7 (t:=t) fok f.length 1000000 (F0s f t f.length) (-1) 0 (fun x hx=>hG.1 (pm.mem_iff.2 hx)) (aBC fok.2.2 t) (by rw [vJ];exact Nat.le_refl _) f1 (by omega) (by omega)
 refine (show _=_ from h).trans (congrArg some ?_);exact (HC (uF fok.2.2 t) f.length _ _ (-1) 0 (fun x hx=>hG.1 hx) pm).symm
theorem Q0 (fok:bJ f) (r64:nB t):A5 ⟨f⟩ t=some (mC f t):=by
 have f1:=fok.1;obtain ⟨k1,k2⟩:=vI (t:=t) fok;have nd:=k1.nodup_iff.2 (iT fok.2.2);have ll:(mU f t).length=f.length:=by have:=k1.length_eq;rw [List.length_map] at this;rw [this];exact List.length_map ..
 have mk:xE (f.length:Int) (0:Int)=some (List.replicate f.length 0):=by
  unfold xE;rw [if_pos ⟨by omega,by omega⟩,Int.toNat_natCast]
 let U:Nat->List Int:=fun j=>f.map fun p=>if p.1∈((mU f t).take j).map (fun e=>e.1) then lC 0 (mU f t) p.1 else 0
 have Ul: ∀j,(U j).length=f.length:=fun j=>List.length_map ..
 have Ua: ∀j i,i<f.length->(U j)[i]! =if (f[i]!).1∈((mU f t).take j).map (fun e=>e.1) then lC 0 (mU f t) (f[i]!).1 else 0:=fun j i hi=>by
  rw [getElem!_pos _ i (by rw [Ul];exact hi),List.getElem_map,getElem!_pos f i hi]
 have st:=cW (body:=zB) (fun j=>(mU f t,(j:Int),f,U j)) (mU f t).length (fun j hj=>by
  have g:=aC (mU f t) j hj;have hm:=bB hj;have hp:nD f ((mU f t)[j]!).1:=hG.1 (k1.mem_iff.1 (List.mem_map.2 ⟨_,hm,rfl⟩));obtain ⟨i,hi,ei⟩:=hp;have ga:=QM fok.2.2 (by omega) hi ei
  have gu:=aC (U j) i (by rw [Ul];exact hi)
  unfold zB;simp only [aF,aO (show (j:Int)<((mU f t).length:Int) by omega),cond_true,g,aB,ga,gu,rW,aX (show j<1000000000 by omega)]
  have eU:(U j).set i ((mU f t)[j]!).2=U (j+1):=by
   refine rX (by rw [List.length_set,Ul,Ul]) fun k hk=>?_
   rw [List.length_set,Ul] at hk;have mm:(f[k]!).1∈((mU f t).take (j+1)).map (fun e=>e.1)↔(f[k]!).1∈((mU f t).take j).map (fun e=>e.1)\/(f[k]!).1∈[(mU f t)[j]!].map (fun e=>e.1):=by rw [dZ hj,List.map_append,List.mem_append]
   rw [bE,Ul,Ua _ k hk,Ua _ k hk]
   by_cases c:k=i
   · subst c
     rw [if_pos ⟨rfl,hi⟩,if_pos (mm.2 (.inr (by rw [ei];exact List.mem_singleton.2 rfl))),ei]
     exact (EV nd (show (((mU f t)[j]!).1,((mU f t)[j]!).2)∈mU f t from hm)).symm
   · rw [if_neg (fun w=>c w.1)]
     have ne: ¬(f[k]!).1∈[(mU f t)[j]!].map fun e=>e.1:=fun w=>c (xW fok.2.2 hk hi ((List.mem_singleton.1 w).trans ei.symm))
     by_cases q:(f[k]!).1∈((mU f t).take j).map fun e=>e.1
     · rw [if_pos q,if_pos (mm.2 (.inl q))]
     · rw [if_neg q,if_neg (fun w=>(mm.1 w).elim q ne)]
  rw [eU])
 have U0:U 0=List.replicate f.length 0:=by
  refine rX (by rw [Ul,List.length_replicate]) fun k hk=>?_
  rw [Ul] at hk;rw [Ua 0 k hk,List.take_zero,List.map_nil,if_neg List.not_mem_nil,getElem!_pos _ k (by rw [List.length_replicate];exact hk),List.getElem_replicate]
 have Un:U (mU f t).length=mC f t:=by
  refine rX (by rw [Ul,zK]) fun k hk=>?_
  rw [Ul] at hk;rw [Ua _ k hk,List.take_length,if_pos (k1.mem_iff.2 (hG.2 ⟨k,hk,rfl⟩)),O7 hk]
 unfold A5;rw [YS fok r64,aB,WI fok,aB];simp only [aF,beq_self_eq_true,cond_true,mk,aB];rw [<- U0];refine (show _=_ from st).trans (aI ?_);unfold zB;simp only [aF,aH (show¬((mU f t).length:Int)<((mU f t).length:Int) by omega),cond_false]
 rw [Un]
theorem EX (U:List Int) (i:Nat):cC f U (i+1)=cC f U i++(if 0<=U[i]! then [((f[i]!).1,U[i]!)] else []):=rfl
theorem Q1 {U:List Int} (hU:U.length=f.length) (hf:f.length<=1000):A6 ⟨f⟩ U=some (cC f U f.length):=by
 have st:=cW (body:=zC) (fun i=>(U,(i:Int),f,cC f U i)) f.length (fun i hi=>by
  have gu:=aC U i (by omega)
  have gf:=aC f i hi;have el:=oN (f:=f) U i;have ap:bL (cC f U i) [((f[i]!).1,U[i]!)]=some (cC f U i++[((f[i]!).1,U[i]!)]):=dB (by rw [List.length_singleton];omega)
  rw [EX];unfold zC;simp only [aF,aO (show (i:Int)<(U.length:Int) by omega),cond_true,gu,gf,aB,ap,aX (show i<1000000000 by omega)]
  by_cases c:0<=U[i]!
  · rw [aO c,cond_true,if_pos c]
  · rw [aH c,cond_false,if_neg c,List.append_nil])
 unfold A6;refine (show _=_ from st).trans (aI ?_);unfold zC;simp only [aF,aH (show¬(f.length:Int)<(U.length:Int) by omega),cond_false]
theorem JA (fok:bJ f) (r:bM t) (r64:nB t):gX ⟨f⟩ t=some (mC f t,cC f (mC f t) f.length):=by
 have f1:=fok.1;obtain ⟨k1,_⟩:=vI (t:=t) fok;have nd:=k1.nodup_iff.2 (iT fok.2.2);have ul:=zK f t;have st:=cW (body:=rD) (fun i=>(f,(f.length:Int),(i:Int),kS [] (mU f t),(mC f t).take i,cC f (mC f t) i)) f.length (fun i hi=>by
  have gf:=aC f i hi;have gm:lC 0 (kS [] (mU f t)) (f[i]!).1=(mC f t)[i]!:=by
   rw [WC _ _ _ nd,if_pos (k1.mem_iff.2 (hG.2 ⟨i,hi,rfl⟩)),O7 hi]
  have el:=oN (f:=f) (mC f t) i;have a1:bL ((mC f t).take i) [(mC f t)[i]!]=some ((mC f t).take (i+1)):=by
   rw [dZ (by omega)];exact dB (by rw [List.length_take,List.length_singleton];omega)
  have a2:bL (cC f (mC f t) i) [((f[i]!).1,(mC f t)[i]!)]=some (cC f (mC f t) i++[((f[i]!).1,(mC f t)[i]!)]):=dB (by rw [List.length_singleton];omega)
  rw [EX];unfold rD;simp only [aO (show (i:Int)<(f.length:Int) by omega),cond_true,gf,aB,gm,a1,a2,aX (show i<1000000000 by omega)]
  by_cases c:0<=(mC f t)[i]!
  · rw [aO c,cond_true,if_pos c]
  · rw [aH c,cond_false,if_neg c,List.append_nil])
 have en:(mC f t).take f.length=mC f t:=List.take_of_length_le (by omega)
 unfold gX;rw [aKq fok r r64,aB];refine (show _=_ from st).trans (aI ?_);unfold rD;simp only [aH (show¬(f.length:Int)<(f.length:Int) by omega),cond_false,en]
end
theorem YV (a b:List Int) (hl:a.length<=1000000):oT a b=some (decide (a=b)):=by
 unfold oT;simp only [aF]
 by_cases h:a.length=b.length
 case neg=>rw [dX (by omega),aH (fun k=>h (by rw [k]))];rfl
 rw [cP (by omega)]
 simp only [cond_false];have key:=CW (body:=lH) (fun i=>(a,b,(a.length:Int),(i:Int))) a.length (fun i=>a[i]! =b[i]!) (r:=false) (e:=true) (fun i hi=>by
  unfold lH;simp only [aO (show (i:Int)<(a.length:Int) by omega),cond_true,aC a i hi,aC b i (by omega),aB,aX (show i<1000000000 by omega)]
  constructor
  · intro h;rw [dX h];rfl
  · intro h;rw [cP h];rfl) (by
  unfold lH;simp only [aH (show¬(a.length:Int)<(a.length:Int) by omega),cond_false])
 refine (show _=_ from key).trans ?_
 by_cases q:a=b
 · rw [if_pos (fun i _=>by rw [q]),aO q]
 · rw [if_neg (fun w=>q (rX h w)),aH q]
theorem WJ (a b:List Int) (hl:a.length<=1000000):kX a b=some (decide (a=b)):=by
 unfold kX;simp only [aF]
 by_cases h:a.length=b.length
 case neg=>rw [dX (by omega),aH (fun k=>h (by rw [k]))];rfl
 rw [cP (by omega)]
 simp only [cond_false];have key:=CW (body:=oW) (fun i=>(a,b,(i:Int))) a.length (fun i=>a[i]! =b[i]!) (r:=false) (e:=true) (fun i hi=>by
  unfold oW;simp only [aF,aO (show (i:Int)<(a.length:Int) by omega),cond_true,aC a i hi,aC b i (by omega),aB,aX (show i<1000000000 by omega)]
  constructor
  · intro h;rw [dX h];rfl
  · intro h;rw [cP h];rfl) (by
  unfold oW;simp only [aF,aH (show¬(a.length:Int)<(a.length:Int) by omega),cond_false])
 refine (show _=_ from key).trans ?_
 by_cases q:a=b
 · rw [if_pos (fun i _=>by rw [q]),aO q]
 · rw [if_neg (fun w=>q (rX h w)),aH q]
structure iK (k:cB):Prop where
 clk:bA k.clock
 up:mC k.clock.field.points k.clock.now=k.up
 cert:(k.clock.certs.list.map fun x=>x.2).Perm (cC k.clock.field.points k.up k.clock.field.points.length)
theorem PL {c:aL} (ok:bA c) (E:List (Int×Int)):
 (E.length=c.certs.list.length/\ ∀i,i<c.certs.list.length->(c.certs.list[i]!).2∈E)↔(c.certs.list.map fun x=>x.2).Perm E:=by
 have cl:(c.certs.list.map fun x=>x.2).length=c.certs.list.length:=List.length_map ..
 constructor
 · rintro ⟨h1,h2⟩
   refine tI (ES ok.crt) (fun x hx=>?_) (by omega)
   obtain ⟨i,hi,rfl⟩:=yC.2 hx;exact h2 i hi
 · intro h
   exact ⟨by rw [<- h.length_eq,cl],fun i hi=>h.mem_iff.1 (yC.1 ⟨i,hi,rfl⟩)⟩
theorem S4 {c:aL} {E:List (Int×Int)} (nd:E.Nodup) (ld: ∀e∈E,bT (eD c.field.points e.2) (eD c.field.points e.1) c.now):
 (c.certs.list.length=E.length/\ ∀i,i<E.length->vU c.certs.list E[i]!/\bT (eD c.field.points (E[i]!).2) (eD c.field.points (E[i]!).1) c.now)↔(c.certs.list.map fun x=>x.2).Perm E:=by
 have cl:(c.certs.list.map fun x=>x.2).length=c.certs.list.length:=List.length_map ..
 constructor
 · rintro ⟨h1,h2⟩
   refine (tI nd (fun x hx=>?_) (by omega)).symm
   obtain ⟨i,hi,rfl⟩:=aW.1 hx;exact yC.1 (h2 i hi).1
 · intro h
   exact ⟨by rw [<- h.length_eq,cl],fun i hi=>⟨yC.2 (h.mem_iff.2 (bB hi)),ld _ (bB hi)⟩⟩
theorem aBE (es:List (Int×Int)) (l:List uE) (h1:es.length<=1000000) (_:l.length<=1000000):
 aG mZ (es,l,(l.length:Int),0)=some (if∀i,i<l.length->(l[i]!).2∈es then 0 else 8):=by
 have key:=CW (body:=mZ) (fun i=>(es,l,(l.length:Int),(i:Int))) l.length (fun i=>(l[i]!).2∈es) (r:=8) (e:=0) (fun i hi=>by
  unfold mZ;simp only [aO (show (i:Int)<(l.length:Int) by omega),cond_true,aC l i hi,aB,pM es _ h1,aX (show i<1000000000 by omega)]
  refine ⟨fun q=>?_,fun q=>?_⟩
  · rw [aH q];rfl
  · rw [aO q];rfl) (by
  unfold mZ;simp only [aH (show¬(l.length:Int)<(l.length:Int) by omega),cond_false])
 refine (show _=_ from key).trans ?_
 by_cases q: ∀i,i<l.length->(l[i]!).2∈es
 · rw [if_pos q,if_pos q]
 · rw [if_neg q,if_neg q]
theorem vV {k:cB} (fit:xZ k.clock):oU k=some (if iK k then 0 else 8):=by
 unfold oU;rw [mB fit,aB]
 by_cases ok:bA k.clock
 case neg=>rw [if_neg ok,if_neg (fun h=>ok h.clk)];rfl
 rw [if_pos ok,cP rfl,cond_false];have bd:=ok.bd;have f1:=ok.fld.1;have hh:=JA ok.fld ok.nowv ok.now64;have hh:gX k.clock.field k.clock.now=_:=hh;have ul:=zK k.clock.field.points k.clock.now;rw [hh,aB,YV _ _ (show (mC k.clock.field.points k.clock.now).length<=1000000 by omega),aB]
 by_cases hn:mC k.clock.field.points k.clock.now=k.up
 case neg=>rw [aH hn,if_neg (fun h:iK k=>hn h.up)];rfl
 have el:=oN (f:=k.clock.field.points) k.up k.clock.field.points.length;have iff:=PL ok (cC k.clock.field.points k.up k.clock.field.points.length);rw [aO hn,Bool.not_true,cond_false,hn];simp only [aF]
 by_cases hc:(cC k.clock.field.points k.up k.clock.field.points.length).length=k.clock.certs.list.length
 case neg=>rw [dX (by omega),cond_true,if_neg (fun h:iK k=>hc (iff.2 h.cert).1)]
 rw [cP (by omega),cond_false,aBE _ _ (by omega) (by omega)]
 by_cases hj: ∀i,i<k.clock.certs.list.length->(k.clock.certs.list[i]!).2∈cC k.clock.field.points k.up k.clock.field.points.length
 · rw [if_pos hj,if_pos (show iK k from ⟨ok,hn,iff.1 ⟨hc,hj⟩⟩)]
 · rw [if_neg hj,if_neg (fun h:iK k=>hj (iff.2 h.cert).2)]
theorem EY {k:cB} (fit:xZ k.clock):qN k=some (if iK k then 0 else 8):=by
 unfold qN;rw [OX fit,aB]
 by_cases ok:bA k.clock
 case neg=>rw [if_neg ok,if_neg (fun h=>ok h.clk)];rfl
 rw [if_pos ok,cP rfl,cond_false];have bd:=ok.bd;have f1:=ok.fld.1;have hu:A5 k.clock.field k.clock.now=_:=Q0 ok.fld ok.now64;have ul:=zK k.clock.field.points k.clock.now;rw [hu,aB,WJ _ _ (show (mC k.clock.field.points k.clock.now).length<=1000000 by omega),aB]
 by_cases hn:mC k.clock.field.points k.clock.now=k.up
 case neg=>rw [aH hn,if_neg (fun h:iK k=>hn h.up)];rfl
 have of:A6 k.clock.field (mC k.clock.field.points k.clock.now)=_:=Q1 (f:=k.clock.field.points) ul (by omega)
 obtain ⟨eok,nd,ld⟩:=wZ (t:=k.clock.now) ok.fld;rw [aO hn,Bool.not_true,cond_false,of,aB,aKm ok _ eok.kn,aB];have iff:=S4 (c:=k.clock) nd ld
 by_cases hj:k.clock.certs.list.length=(cC k.clock.field.points (mC k.clock.field.points k.clock.now) k.clock.field.points.length).length/\ ∀i,i<(cC k.clock.field.points (mC k.clock.field.points k.clock.now) k.clock.field.points.length).length->vU k.clock.certs.list (cC k.clock.field.points (mC k.clock.field.points k.clock.now) k.clock.field.points.length)[i]!/\bT (eD k.clock.field.points ((cC k.clock.field.points (mC k.clock.field.points k.clock.now) k.clock.field.points.length)[i]!).2) (eD k.clock.field.points ((cC k.clock.field.points (mC k.clock.field.points k.clock.now) k.clock.field.points.length)[i]!).1) k.clock.now
 · rw [aO hj,if_pos (show iK k from ⟨ok,hn,by rw [<- hn];exact iff.1 hj⟩)];rfl
 · rw [aH hj,if_neg (fun h:iK k=>hj (iff.2 (by rw [hn];exact h.cert)))];rfl
structure aP5 (k:cB):Prop where
 c:aK5 k.clock
 n:k.up.length<=1000
theorem S5 (k:cB):uX k=some true\/(uX k=some false/\aP5 k):=by
 unfold uX
 rcases V5 k.clock with e|⟨e,sh⟩
 · rw [e];exact .inl rfl
 rw [e,aB,cond_false,aF]
 by_cases h:70<k.up.length
 · rw [aO (by omega)];exact .inl rfl
 · rw [aH (by omega)];exact .inr ⟨rfl,sh,by omega⟩
theorem YW {c:aL} (ok:bA c) {f:List Pt} (fok:bJ f):
 ∃R:aL×Int,oD c ⟨f⟩ (cC f (mC f c.now) f.length)=some R/\jJ c ⟨f⟩ (cC f (mC f c.now) f.length)=some R/\(R.2=0/\GC c f (cC f (mC f c.now) f.length) R.1\/R=(dW,18)):=by
 have f1:=fok.1;obtain ⟨eok,nd,_⟩:=wZ (t:=c.now) fok;have el:=oN (f:=f) (mC f c.now) f.length;obtain ⟨R,r1,r2,r3⟩:=aKk ok fok eok;have ee:jX f (cC f (mC f c.now) f.length)=0:=by
  unfold jX;rw [if_neg (Classical.not_not.2 eok.cv),if_neg (Classical.not_not.2 nd),if_neg (fun h=>h eok.kn)]
 have rn:=ET ok fok (es:=cC f (mC f c.now) f.length) (by omega) (fun _=>r1)
 rw [if_pos ee] at rn;exact ⟨R,rn,r2,r3⟩
structure aBF (c:aL) (f:List Pt) (R:cB×Int):Prop where
 err:R.2=0
 up:R.1.up=mC f c.now
 ren:GC c f (cC f (mC f c.now) f.length) R.1.clock
theorem S6 {c:aL} (ok:bA c) {f:List Pt} (fok:bJ f):
 ∃R:cB×Int,jT c ⟨f⟩=some R/\CK c ⟨f⟩=some R/\(aBF c f R\/R=(⟨dW,[]⟩,18)):=by
 have f1:=fok.1;obtain ⟨R,r1,r2,r3⟩:=YW ok fok;have hh:=JA fok ok.nowv ok.now64;have hu:=Q0 fok ok.now64;have of:=Q1 (f:=f) (zK f c.now) (by omega)
 unfold jT CK;rw [hh,aB,hu,aB,of,aB];rcases r3 with ⟨q0,qq⟩|he
 · refine ⟨(⟨R.1,mC f c.now⟩,0),?_,?_,.inl ⟨rfl,rfl,qq⟩⟩
   · rw [r1,aB,cP q0,cond_false]
   · rw [r2,aB,cP q0,cond_false]
 · refine ⟨(⟨dW,[]⟩,18),?_,?_,.inr rfl⟩
   · rw [r1,aB,he];rfl
   · rw [r2,aB,he];rfl
theorem GC.same {c:aL} {f:List Pt} {es:List (Int×Int)} {r:aL} (h:GC c f es r) (nd:es.Nodup):(r.certs.list.map fun x=>x.2).Perm es:=by
 refine (List.perm_ext_iff_of_nodup (ES h.ok.crt) nd).2 fun x=>⟨fun hx=>?_,fun hx=>yC.1 (h.has x hx)⟩
 obtain ⟨y,hy,rfl⟩:=List.mem_map.1 hx;exact h.sub y hy
theorem aBF.ok {c:aL} {f:List Pt} {R:cB×Int} (fok:bJ f) (h:aBF c f R):iK R.1 where
 clk:=h.ren.ok
 up:=by rw [h.ren.fld,h.ren.now,h.up]
 cert:=by rw [h.ren.fld,h.up];exact h.ren.same (wZ fok).2.1
theorem aBG {c:aL} (ok:bA c) {to:Int×Int} (rt:bM to) (due: ¬YQ c to) {y:uE} (hy:y∈c.certs.list) (is:(bI c.field.points y.2 c.now).2=true):
 to.1*(bI c.field.points y.2 c.now).1.2<(bI c.field.points y.2 c.now).1.1*to.2:=by
 obtain ⟨d,hd,_,ev⟩:=ok.fol.has _ hy is;obtain ⟨v,hv,he⟩:=aW.1 ev;have tl:=KL ok.agd v hv;have h0:0<c.agenda.heap.length:=by omega
 have e0:=(ok.agd.ev 0 h0).1.1;have ev':=(ok.agd.ev v hv).1.1;rw [he] at tl ev';have n1: ¬nO (bI c.field.points y.2 c.now).1 (Ev.at c.agenda.heap[0]!)<0:=fun q=>tl (.inl q)
 rw [wR] at n1;have n2: ¬nO (Ev.at c.agenda.heap[0]!) to<=0:=fun q=>due ⟨h0,q⟩
 have n3:to.1*(Ev.at c.agenda.heap[0]!).2<(Ev.at c.agenda.heap[0]!).1*to.2:=by
  unfold nO at n2;rcases eG ((Ev.at c.agenda.heap[0]!).1*to.2) (to.1*(Ev.at c.agenda.heap[0]!).2) with ⟨a,b⟩|⟨a,b⟩|⟨a,b⟩<;>omega
 exact AD rt.1 e0 ev' n3 (Int.not_lt.1 n1)
theorem aD7 {c:aL} (ok:bA c) {to:Int×Int} (rt:bM to) (r64:nB to) (le: ¬nO to c.now<0) (due: ¬YQ c to):bA (atT c to):=by
 have pt:=fun (x:Int×Int) (hb:iJ c.field.points x)=>And.intro (eC ok.fld hb.2).1 (eC ok.fld hb.1).1
 refine ⟨rt,r64,ok.fld,ok.crt,ok.agd,ok.w200,ok.hd,ok.known,?_⟩;refine aV.time (t:=c.now) (fun y hy=>?_) ok.fol
 obtain ⟨j,hj,rfl⟩:=aW.1 hy;have hb:=ok.known j hj;refine O0 (pt _ hb).1 (pt _ hb).2 ok.nowv rt (by rw [wR] at le;exact Int.not_lt.1 le) (fun is=>?_)
 exact Int.le_of_lt (aBG ok rt due hy is)
structure aSq (c:aL) (l:List Int):Prop where
 ok:bA c
 pm:(fM c.field.points).Perm l
 ct:(c.certs.list.map fun x=>x.2).Perm (EQ l)
theorem aSq.bd {c:aL} {l:List Int} (h:aSq c l):l.length<=64:=by
 have:=h.ok.bd
 have:l.length=c.field.points.length:=by rw [<- h.pm.length_eq];exact List.length_map ..
 omega
abbrev noG:cB:=⟨dW,[]⟩
structure aBH (R:cB) (F:List Pt) (t:Int×Int):Prop where
 ok:iK R
 fld:R.clock.field.points=F
 now:R.clock.now=t
theorem aBH.up {R:cB} {F:List Pt} {t:Int×Int} (h:aBH R F t):R.up=mC F t:=by rw [<- h.ok.up,h.fld,h.now]
theorem aBF.hg {c:aL} {f:List Pt} {R:cB×Int} (fok:bJ f) (h:aBF c f R):aBH R.1 f c.now:=⟨h.ok fok,h.ren.fld,h.ren.now⟩
theorem YX {c:aL} (ok:bA c) (ct: ∀e∈cC c.field.points (mC c.field.points c.now) c.field.points.length,vU c.certs.list e) {to:Int×Int} (rt:bM to) (le: ¬nO to c.now<0) (due: ¬YQ c to):mC c.field.points to=mC c.field.points c.now:=by
 obtain ⟨eok,_,ld⟩:=wZ (t:=c.now) ok.fld;refine aBw ok.fld fun e he=>?_
 have kn:=eok.kn e he;have p1:=eC ok.fld kn.1;have p2:=eC ok.fld kn.2;have l0:=ld e he;obtain ⟨w,w1,w2⟩:=ct _ he;have wn:bI c.field.points (c.certs.list[w]!).2 c.now=nC (eD c.field.points e.2) (eD c.field.points e.1) c.now:=by
  unfold bI;rw [w2]
 have nl: ¬bT (eD c.field.points e.1) (eD c.field.points e.2) to:=by
  refine aKs p2.1 p1.1 ok.nowv rt (by rw [wR] at le;omega) fun is=>?_
  rw [<- wn] at is;obtain ⟨d,hd,_,ev⟩:=ok.fol.has _ (bB w1) is;obtain ⟨v,hv,he⟩:=aW.1 ev;have tl:=KL ok.agd v hv;have h0:0<c.agenda.heap.length:=by omega
  have e0:=(ok.agd.ev 0 h0).1.1;have ev':=(ok.agd.ev v hv).1.1;rw [he] at tl ev';rw [<- wn];have n1: ¬nO (bI c.field.points (c.certs.list[w]!).2 c.now).1 (Ev.at c.agenda.heap[0]!)<0:=fun q=>tl (.inl q)
  rw [wR] at n1;have n2: ¬nO (Ev.at c.agenda.heap[0]!) to<=0:=fun q=>due ⟨h0,q⟩
  have n3:to.1*(Ev.at c.agenda.heap[0]!).2<(Ev.at c.agenda.heap[0]!).1*to.2:=by
   unfold nO at n2;rcases eG ((Ev.at c.agenda.heap[0]!).1*to.2) (to.1*(Ev.at c.agenda.heap[0]!).2) with ⟨a,b⟩|⟨a,b⟩|⟨a,b⟩<;>omega
  exact AD rt.1 e0 ev' n3 (Int.not_lt.1 n1)
 refine vH to (fun q=>?_) nl
 rw [p1.2,p2.2] at q;rw [q] at l0;exact mK l0 l0
def gP (c:aL) (U:List Int) (to:Int×Int) (out:List (Int×Int)):=
 (c.now.1,c.now.2,c.field.points,c.certs.next_,c.certs.list,c.agenda.slots.uses,c.agenda.slots.used,c.agenda.slots.free,c.agenda.heap,c.agenda.where_,c.due,U,to.1,to.2,(0:Int),(0:Int),(0:Int),out)
def gR (c:aL) (U:List Int) (to:Int×Int) (out:List (Int×Int)):=
 (to.1,to.2,(0:Int),(0:Int),(0:Int),c.now.1,c.now.2,c.field.points,c.certs.next_,c.certs.list,c.agenda.slots.uses,c.agenda.slots.used,c.agenda.slots.free,c.agenda.heap,c.agenda.where_,c.due,U,out)
theorem aBI {to:Int×Int} (rt:bM to) (r64:nB to): ∀(d:Nat) (c:aL) (U:List Int) (out:List (Int×Int)),1000000-sE c<(d:Int)->iK ⟨c,U⟩-> ¬nO to c.now<0->(out.length:Int)<=sE c+200->
 ∃R:cB×List (Int×Int)×Int,aG iP (gP c U to out)=some R/\aG nK (gR c U to out)=some R/\(R=(noG,[],18)\/R.2.2=0/\aBH R.1 c.field.points to/\R.2.1.length<=1048576):=by
 intro d
 induction d with
 |zero=>intro c U out hd ok;have:=(SZ (show bA c from ok.clk)).2;omega
 |succ d ih=>
  intro c U out hd hok le ho;have ok:bA c:=hok.clk;have hu:mC c.field.points c.now=U:=hok.up;have bd:=ok.bd;have rb:=SZ ok;have f1:=ok.fld.1;have ul:=zK c.field.points c.now;have ct: ∀e∈cC c.field.points (mC c.field.points c.now) c.field.points.length,vU c.certs.list e:=fun e he=>yC.2 (hok.cert.mem_iff.2 (by rw [hu] at he;exact he))
  have ceta:(aL.mk (c.now.1,c.now.2) (Field.mk c.field.points) (bF.mk c.certs.next_ c.certs.list) (aK.mk (aU.mk c.agenda.slots.uses c.agenda.slots.used c.agenda.slots.free) c.agenda.heap c.agenda.where_) c.due)=c:=rfl;have teta:((to.1,to.2):Int×Int)=to:=rfl
  by_cases due:YQ c to
  · obtain ⟨x,c1,e1,e2,ok1,hf,_,hr,hn⟩:=aD1 ok rt r64 le due
    obtain ⟨R,s1,s2,s3⟩:=S6 ok1 ok1.fld;have s1:jT c1 c1.field=some R:=s1;have s2:CK c1 c1.field=some R:=s2;have ol:bL out [x]=some (out++[x]):=dB (by rw [List.length_singleton];omega)
    rcases s3 with q|he
    · have q0:=q.err
      have hg:=q.hg ok1.fld;have st1:iP (gP c U to out)=some (.next (gP R.1.clock R.1.up to (out++[x]))):=by
       unfold iP gP;simp only [ceta,teta,e1,aB,s1,q0,show ((0:Int) !=0)=false from rfl,cond_false,ol]
      have st2:nK (gR c U to out)=some (.next (gR R.1.clock R.1.up to (out++[x]))):=by
       unfold nK gR;simp only [ceta,teta,O9 ok r64,aO due,aB,cond_true,e2,s2,q0,show ((0:Int) !=0)=false from rfl,cond_false,ol]
      have rr:=q.ren.room;rw [bC st1,bC st2];obtain ⟨S,t1,t2,t3⟩:=ih R.1.clock R.1.up (out++[x]) (by omega) hg.ok (fun h=>by
       have h2:=due.2;rw [q.ren.now,hn,wR] at h
       have: ¬0<nO (Ev.at c.agenda.heap[0]!) to:=by omega
       unfold nO at this;rcases eG ((Ev.at c.agenda.heap[0]!).1*to.2) (to.1*(Ev.at c.agenda.heap[0]!).2) with ⟨a,b⟩|⟨a,b⟩|⟨a,b⟩<;>omega) (by rw [List.length_append,List.length_singleton];omega)
      rw [q.ren.fld,hf] at t3;exact ⟨S,t1,t2,t3⟩
    · refine ⟨(noG,[],18),aI ?_,aI ?_,.inl rfl⟩
      · unfold iP gP
        simp only [ceta,teta,e1,aB,s1,he,show ((0:Int) !=0)=false from rfl,show ((18:Int) !=0)=true from rfl,cond_false,cond_true]
      · unfold nK gR
        simp only [ceta,teta,O9 ok r64,aO due,aB,cond_true,e2,s2,he,show ((18:Int) !=0)=true from rfl]
  · have hh:gX c.field to=some (mC c.field.points to,cC c.field.points (mC c.field.points to) c.field.points.length):=JA ok.fld rt r64
    have us:=(YX ok ct rt le due).trans hu;rw [us] at hh;have cl:cA U=some U:=bG (by rw [<- hu];omega)
    have hh2:gX (atT c to).field to=some (U,cC c.field.points U c.field.points.length):=hh;refine ⟨(⟨atT c to,U⟩,out,0),aI ?_,aI ?_,.inr ⟨rfl,⟨⟨aD7 ok rt r64 le due,us,hok.cert⟩,rfl,rfl⟩,by show out.length<=1048576;omega⟩⟩
    · unfold iP gP
      simp only [ceta,teta,aD2 ok rt r64 le due,aB,show ((6:Int) !=0)=true from rfl,cond_true,aKr ok rt r64 le due,hh2]
    · unfold nK gR
      simp only [ceta,teta,O9 ok r64,aH due,aB,cond_false,cl,aD3 ok]
theorem HE {k:cB} (ok:iK k) {to:Int×Int} (rt:bM to) (r64:nB to) (le: ¬nO to k.clock.now<0):
 ∃R:cB×List (Int×Int)×Int,oE k to=some R/\X7 k to=some R/\(R=(noG,[],18)\/R.2.2=0/\aBH R.1 k.clock.field.points to/\R.2.1.length<=1048576):=by
 have c1:=vV ok.clk.fit;rw [if_pos ok] at c1;have rb:=SZ ok.clk;obtain ⟨R,r1,r2,r3⟩:=aBI rt r64 (1000001-sE k.clock).toNat k.clock k.up [] (by omega) ok le (by simp;omega)
 refine ⟨R,?_,r2,r3⟩;unfold oE;rw [c1,aB,cP rfl,cond_false,dY r64,if_pos rt,aB,cP rfl,cond_false,N6 r64 ok.clk.now64,if_pos ⟨rt,ok.clk.nowv⟩,aB,aH le];exact r1
theorem YY {f:Field} (fok:bJ f.points) {t:Int×Int} (rt:bM t) (r64:nB t): ∃k:cB,rH f t=some (k,0)/\aBH k f.points t:=by
 have f1:=fok.1;have cn:=S0 f r64;rw [if_neg (fun k=>k (kQ.2 fok)),if_pos rt] at cn
 have ok0:=aBA fok rt r64;obtain ⟨eok,nd,_⟩:=wZ (t:=t) fok;have el:=oN (f:=f.points) (mC f.points t) f.points.length;obtain ⟨r,g1,_,q⟩:=V3 ok0 rfl eok (S1 f t) (by omega)
 have ee:jX f.points (cC f.points (mC f.points t) f.points.length)=0:=by
  unfold jX;rw [if_neg (Classical.not_not.2 eok.cv),if_neg (Classical.not_not.2 nd),if_neg (fun h=>h eok.kn)]
 have rn:=ET ok0 fok (es:=cC f.points (mC f.points t) f.points.length) (by omega) (fun _=>g1)
 rw [if_pos ee] at rn;have rn:oD (HD f t) f (cC f.points (mC f.points t) f.points.length)=some (r,0):=rn;have hh:gX f (HD f t).now=some (mC f.points t,cC f.points (mC f.points t) f.points.length):=JA fok rt r64;refine ⟨⟨r,mC f.points t⟩,?_,aBF.hg (c:=HD f t) (R:=(⟨r,mC f.points t⟩,0)) fok ⟨rfl,rfl,q⟩⟩;unfold rH jT
 rw [cn,aB,cP rfl,cond_false,hh,aB,rn,aB,cP rfl,cond_false,aB]
theorem aKw {k:cB} (n:aDN k.clock):A7 k=some false\/(A7 k=some true/\iK k/\k.clock.field.points.length<=10):=by
 unfold A7;rcases S5 k with e|⟨e,sh⟩
 · rw [e];exact .inl rfl
 rw [e,aB];unfold G3;rw [aB,Bool.not_false,cond_true]
 by_cases hm:10<Int.ofNat k.clock.field.points.length
 · rw [aO hm];exact .inl rfl
 · rw [aH hm,Bool.not_false,cond_true,EY ⟨n.now,⟨sh.c.s3,sh.c.h,sh.c.w,n.at64⟩,sh.c.d⟩,aB]
   by_cases ok:iK k
   · rw [if_pos ok];exact .inr ⟨rfl,ok,by rw [aF] at hm;omega⟩
   · rw [if_neg ok];exact .inl rfl
theorem YZ {f:List Pt} (fok:bJ f) (t:Int×Int):(cC f (mC f t) f.length).length=f.length-1:=by
 by_cases h0:f.length=0
 · have:=oN (f:=f) (mC f t) f.length
   omega
 have so:=uF fok.2.2 t;have il:(fM f).length=f.length:=List.length_map ..;obtain ⟨t1,t2⟩:=nN so (l:=fM f) (fun e=>by rw [e] at il;exact h0 il.symm) (fun x hx=>hG.1 hx)
 obtain ⟨i,hi,ei⟩:=hG.1 t1;have o:=FO fok.2.2 t;have first: ∀q∈f,¬bT q f[i]! t:=fun q hq hl=>by
  refine t2 q.1 (List.mem_map.2 ⟨q,hq,rfl⟩) ?_;show bT (eD f q.1) (eD f _) t;rw [<- ei,yD fok.2.2 hq,pV fok.2.2 hi rfl];exact hl
 have ui:=(L7 fok hi).2 first
 have key: ∀k,k<=f.length->(cC f (mC f t) k).length=if i<k then k-1 else k:=by
  intro k
  induction k with
  |zero=>intro _;rfl
  |succ k ih=>
   intro hk;rw [EX,List.length_append,ih (by omega)]
   by_cases c:k=i
   · subst c
     rw [ui,if_neg (show¬(0:Int)<= -1 by decide),if_neg (by omega),if_pos (by omega)];rfl
   · have nn:(mC f t)[k]!≠ -1:=fun e=>by
      have fk:=(L7 fok (show k<f.length by omega)).1 e
      by_cases a:V9 f t k i
      · exact first _ (bB (by omega)) a
      · exact fk _ (bB hi) (o.tot k i (by omega) hi c a)
     rcases aDX (t:=t) fok (show k<f.length by omega) with e|⟨e,_⟩
     · exact absurd e nn
     · rw [if_pos e,List.length_singleton]
       by_cases d:i<k
       · rw [if_pos d,if_pos (by omega)];omega
       · rw [if_neg d,if_neg (by omega)]
 rw [key _ (Nat.le_refl _),if_pos hi]
theorem PA {k:cB} (ok:iK k) (h12:k.clock.field.points.length<=12): ∃a:Int×Int,pI k=some a/\mR k.clock.field k.clock.now=some a:=by
 have c1:=vV ok.clk.fit;rw [if_pos ok] at c1;have fok:=ok.clk.fld;have ul:=zK k.clock.field.points k.clock.now;rw [ok.up] at ul;unfold pI;rw [c1,aB,cP rfl,cond_false];rcases LT fok ok.clk.nowv ok.clk.now64 h12 with ⟨h0,m⟩|⟨p,hp,first,m⟩
 · have ul:k.up.length=0:=by rw [ul,h0];rfl
   refine ⟨(0,42),?_,m⟩;rw [(V7 k.up (-1) (by omega)).2 (fun j hj=>by omega),aB,aO (by decide),cond_true]
 · obtain ⟨i,hi,rfl⟩:=aW.1 hp
   have ui:k.up[i]! = -1:=by rw [<- ok.up];exact (L7 fok hi).2 first
   have o:=FO fok.2.2 k.clock.now;have uo: ∀j,j<i->k.up[j]!≠ -1:=fun j hj e=>by
    rw [<- ok.up] at e;have fj:=(L7 fok (show j<k.clock.field.points.length by omega)).1 e
    by_cases c:V9 k.clock.field.points k.clock.now j i
    · exact first _ (bB (by omega)) c
    · exact fj _ (bB hi) (o.tot j i (by omega) hi (by omega) c)
   refine ⟨((k.clock.field.points[i]!).1,0),?_,m⟩;rw [(V7 k.up (-1) (by omega)).1 i (by omega) ui uo,aB,aH (by omega),cond_false,aC _ i hi,aB]
theorem KO {k:cB} (ok:iK k):rO k=some (cC k.clock.field.points k.up k.clock.field.points.length,0):=by
 have c1:=vV ok.clk.fit;rw [if_pos ok] at c1;have hh:gX k.clock.field k.clock.now=_:=JA ok.clk.fld ok.clk.nowv ok.clk.now64;rw [ok.up] at hh;unfold rO;rw [c1,aB,cP rfl,cond_false,hh,aB]
theorem aSr {n:Nat} (h:n<=1000):(if (aA .i64 ((n:Int) -1))>0 then aA .i64 ((n:Int) -1) else 0)=((n-1:Nat):Int):=by
 rw [IP ⟨by omega,by omega⟩]
 split<;>omega
theorem CZ (k:cB) (to:Int×Int) (n:aDN k.clock) (r64:nB to):rT k to=some true:=by
 unfold rT;rw [aB];rcases aKw n with e|⟨e,ok,h10⟩
 · rw [e];rfl
 rw [e,aB,Bool.not_true,cond_false,xU r64,aB]
 by_cases rt:bM to
 case neg=>rw [if_neg rt];rfl
 rw [if_pos rt,cP rfl,cond_false,CP n.now r64,aB]
 by_cases l1:0<nO k.clock.now to
 · rw [aO l1];rfl
 rw [aH l1,cond_false,cond_false];have le: ¬nO to k.clock.now<0:=fun h=>l1 (by rw [wR] at h;unfold nO;rcases eG (k.clock.now.1*to.2) (to.1*k.clock.now.2) with ⟨a,b⟩|⟨a,b⟩|⟨a,b⟩<;>omega)
 obtain ⟨R,r1,_,r2⟩:=HE ok rt r64 le;rw [r1,aB];rcases r2 with r0|⟨r0,ht,_⟩
 · rw [r0];rfl
 rw [r0,show ((0:Int) !=0)=false from rfl,cond_false];obtain ⟨⟨RC,RU⟩,out,er⟩:=R;dsimp only at r0 ht ⊢;have hok:=ht.ok;have hf:RC.field.points=k.clock.field.points:=ht.fld;have hn:RC.now=to:=ht.now;have hu:RU=mC k.clock.field.points to:=ht.up;have hfe:RC.field=k.clock.field:=by
  have:=hf
  cases hx:RC.field;cases hy:k.clock.field;rw [hx,hy] at this;simpa using this
 have fok:=ok.clk.fld;have f1:=fok.1;obtain ⟨a,a1,a2⟩:=PA hok (by show RC.field.points.length<=12;rw [hf];omega)
 have a2:mR RC.field RC.now=some a:=a2;rw [hfe,hn] at a2;have ed:rO ⟨RC,RU⟩=some (cC RC.field.points RU RC.field.points.length,0):=KO hok;rw [hf] at ed;have ne:=YZ fok to;rw [<- hu] at ne;obtain ⟨eok,edn,eld⟩:=wZ (t:=to) fok;rw [<- hu] at eok edn eld;obtain ⟨B,b1,b2⟩:=YY (f:=k.clock.field) fok rt r64;have bu:B.up=RU:=by rw [b2.up,hu]
 have rl:RU.length<=1000000:=by rw [hu,zK];omega
 have edg:vC k.clock.field (cC k.clock.field.points RU k.clock.field.points.length)=some 0:=by
  rw [show vC k.clock.field _=_ from O1 fok _ (by rw [ne];omega)]
  unfold jX;rw [if_neg (Classical.not_not.2 eok.cv),if_neg (Classical.not_not.2 edn),if_neg (fun h=>h eok.kn)]
 have ck:qN ⟨RC,RU⟩=some 0:=by rw [EY hok.clk.fit,if_pos hok]
 rw [a1,aB,a2,aB,b1,aB,ed,aB,ck,aB];simp only [show ((0:Int) !=0)=false from rfl,cond_false,hn,beq_self_eq_true,Bool.and_self,Bool.not_true,bne_self_eq_false,aSr (show k.clock.field.points.length<=1000 by omega),ne,aF,aB,edg,bu,WJ RU RU rl,decide_true]
 generalize hes:cC k.clock.field.points RU k.clock.field.points.length=es at*;have el:es.length<=9:=by rw [ne];omega
 have st:=cW (body:=kO) (fun i=>(true,es,(i:Int),to.1,to.2,k.clock.field.points)) es.length (fun i hi=>by
  have g:=aC es i hi;have kn:=eok.kn _ (bB hi);have ld:=eld _ (bB hi);have na:vD ⟨k.clock.field.points⟩ to (es[i]!).1 (es[i]!).2=some false:=by
   rw [aDP fok r64 kn.1 kn.2];exact congrArg some (aH (mK ld))
  unfold kO;simp only [aF,aO (show (i:Int)<(es.length:Int) by omega),cond_true,g,aB]
  rw [show ((to.1,to.2):Int×Int)=to from rfl,na,aB,cond_false,aX (show i<1000000000 by omega)])
 refine (show _=_ from st).trans (aI ?_);unfold kO;simp only [aF,aH (show¬(es.length:Int)<(es.length:Int) by omega),cond_false]
theorem aDN.of {c:aL} (h1:RT.wf [.i .i64,.i .i64] c.now) (h2: ∀a∈c.agenda.heap,RT.wf [.i .i64,.i .i64,.i .i64,.i .i64,.i .i64] a):aDN c where
 now:=⟨J3 h1.1,J3 h1.2⟩
 at64 w hw:=by
  have:=h2 (c.agenda.heap[w]!) (by rw [getElem!_pos c.agenda.heap w hw];exact List.getElem_mem hw)
  exact ⟨J3 this.1,J3 this.2.1⟩
end Go.Proofs.YtbncnimfgdelaaaGreat
