/- Plain laws (4). -/
import Derived.Test.YtbgoiokedpjgbaaGreatTQM3
import Derived.Test.YtbgoiokedpjgbaaGreatTQS2
open Classical renaming not_not->bm,not_forall->bu,not_imp->bv
open List renaming length_replicate->bn,length_eraseIdx_le->bw,length_take->bz,getElem_replicate->cb,length_cons->cf,drop_length->ci,mem_append->ck,length_set->cm,append_nil->cp,mem_cons->cu
open Nat renaming lt_trichotomy->bo,zero_le->bq,lt_or_ge->ce,le_refl->cj,le_trans->cw
open Bool renaming not_true->cd,not_false->cq
namespace Go.Proofs.YtbgoiokedpjgbaaGreat
open Go.Vm Classical
theorem YZ (l:List Int) (hl:l.length<=1000000):pR l l=some true:=by
 unfold pR;rw [bT rfl,cond_false]
 have:=cB (body:=pC) (fun i=>(l,l,(i:Int))) l.length (fun i hi=>by
  unfold pC;simp only [aF,aJ (show (i:Int)<(l.length:Int) by omega),cond_true,aE l i hi,aB,bT rfl,cond_false,aU (show i<1000000000 by omega)])
 rw [show (l,l,(0:Int))=(l,l,((0:Nat):Int)) from rfl,this];refine aL ?_;unfold pC;simp only [aF,dec_f (show¬(l.length:Int)<(l.length:Int) by omega),cond_false]
theorem U7 (p q:Pt) (t:Int×Int):SC p q t=(p.2.1*t.2+p.2.2*t.1) - (q.2.1*t.2+q.2.2*t.1):=by
 rw [aM8,Int.sub_mul,Int.sub_mul];omega
theorem Y0 {p q r:Pt} {t:Int×Int} (h1:hY p q t) (h2:hY q r t):hY p r t:=by
 unfold hY at*;rw [U7] at*;generalize p.2.1*t.2+p.2.2*t.1=a at*;generalize q.2.1*t.2+q.2.2*t.1=b at*;generalize r.2.1*t.2+r.2.2*t.1=c at*;omega
theorem FG {p q:Pt} (t:Int×Int) (h:p.1≠q.1) (hn: ¬hY p q t):hY q p t:=by
 unfold hY at*;rw [U7] at*;generalize p.2.1*t.2+p.2.2*t.1=a at*;generalize q.2.1*t.2+q.2.2*t.1=b at*;omega
structure SO (P:Int->Int->Prop) (S:Int->Prop):Prop where
 irr: ∀a,S a-> ¬P a a
 tr: ∀a b c,S a->S b->S c->P a b->P b c->P a c
 tot: ∀a b,S a->S b->a≠b->P a b\/P b a
abbrev par (j:Nat):Nat:=(j-1) / 2
def Hp (P:Int->Int->Prop) (l:List Int):Prop:= ∀j,0<j->j<l.length-> ¬P l[j]! l[par j]!
section
variable {P : Int -> Int -> Prop} {S : Int -> Prop}
theorem SO.up (o:SO P S) {a b c:Int} (ha:S a) (hb:S b) (hc:S c) (h1:P b c) (h2: ¬P a c): ¬P a b:=fun h=>h2 (o.tr a b c ha hb hc h h1)
end
section
variable {P : Int -> Int -> Prop} {S : Int -> Prop} {bit : Int -> Nat -> Nat}
end
theorem aFZ {f:List Pt} (fok:cE f) (k:Nat):cE (f.eraseIdx k):=by
 refine ⟨cw (bw f k) fok.1,fun p hp=>fok.2.1 p (List.mem_of_mem_eraseIdx hp),?_⟩
 have h:=fok.2.2;intro i hi;have hl:=bw f k
 by_cases hk:k<f.length
 · have:=M5 hk
   rw [C8,C8];split<;>split<;>exact hJ h (by omega) (by omega)
 rw [List.eraseIdx_of_length_le (by omega)] at hi ⊢
 exact h i hi
theorem Y1 {f:List Pt} (fok:cE f) {k:Nat} (hk:k<f.length):mO ⟨f⟩ (f[k]!).1=some ((k:Int),0):=by
 have h1:=fok.1;have hc:fI ⟨f⟩=some 0:=by rw [kD];exact congrArg some (iH.2 fok)
 have bs:=AF f (f[k]!).1 (by omega) (fun i j=>hJ fok.2.2)
 unfold mO yC;rw [U1];simp only [hc,aB,show ((0:Int) !=0)=false from rfl,cond_false,bs.1 k hk rfl,cd]
theorem Q2 {f:List Pt} (fok:cE f) {id:Int} (h: ¬kJ f id):mO ⟨f⟩ id=some (0,6):=by
 have h1:=fok.1;have hc:fI ⟨f⟩=some 0:=by rw [kD];exact congrArg some (iH.2 fok)
 have bs:=AF f id (by omega) (fun i j=>hJ fok.2.2)
 obtain ⟨m,_,_,_,e⟩:=bs.2 (fun k hk he=>h ⟨k,hk,he⟩)
 unfold mO yC;rw [U1];simp only [hc,aB,show ((0:Int) !=0)=false from rfl,cond_false,e,cq,cond_true]
theorem U8:iC=eL:=rfl
theorem aAZ {f:List Pt} (fok:cE f) {k:Nat} (hk:k<f.length):oF ⟨f⟩ (f[k]!).1=some (⟨f.eraseIdx k⟩,0)/\oM ⟨f⟩ (f[k]!).1=some (⟨f.eraseIdx k⟩,0):=by
 have f1:=fok.1;constructor
 · obtain ⟨L,d1,d2⟩:=E9 f k hk
   unfold oF;rw [Y1 fok hk,aB,bT rfl,cond_false,aV (show f.length<=1048576 by omega),aB,aU (show k<1000000000 by omega),U8,d1,aB]
   show some (Field.mk (L.take (f.length-1)),(0:Int))=_;rw [d2]
 have hc:oI ⟨f⟩=some 0:=by rw [yS];exact congrArg some (iH.2 fok)
 unfold oM;rw [hc,aB,bT rfl,cond_false,SF fok.2.2 (by omega) hk rfl,aB,dec_f (by omega),cond_false]
 unfold AU;generalize hn:(f[k]!).1=n;have key:=cB (body:=jQ) (fun i=>(n,(i:Int),f,(f.take i).filter (fun x=>x.1 !=n))) f.length (fun i hi=>by
  have nx:(f.take (i+1)).filter (fun x=>x.1 !=n)=(f.take i).filter (fun x=>x.1 !=n)++(if (f[i]!).1 !=n then [f[i]!] else []):=by
   rw [fQ hi,List.filter_append,List.filter_cons,List.filter_nil]
  have fl:((f.take i).filter (fun x=>x.1 !=n)).length<=200:=cw (List.length_filter_le _ _) (by rw [bz];omega)
  unfold jQ;simp only [aF,aJ (show (i:Int)<(f.length:Int) by omega),cond_true,aE f i hi,aB,aU (show i<1000000000 by omega),nx]
  by_cases h:(f[i]!).1=n
  · rw [bT h];simp
  rw [cP h]
  simp only [cond_true,if_true,dB (show ((f.take i).filter (fun x=>x.1 !=n)).length+[f[i]!].length<=1048576 by simp only [cf,List.length_nil];omega),aB])
 have fin:aG jQ (n,(f.length:Int),f,(f.take f.length).filter (fun x=>x.1 !=n))=some ⟨f.eraseIdx k⟩:=aL (by
  unfold jQ;simp only [aF,dec_f (show¬(f.length:Int)<(f.length:Int) by omega),cond_false,List.take_length]
  rw [JV hk (fun i j=>hJ fok.2.2) hn])
 rw [show aG jQ (n,0,f,[])=_ from key,fin,aB]
theorem U9 {f:List Pt} (fok:cE f) {id:Int} (h: ¬kJ f id):oF ⟨f⟩ id=some (⟨[]⟩,6)/\oM ⟨f⟩ id=some (⟨[]⟩,6):=by
 constructor
 · unfold oF
   rw [Q2 fok h];rfl
 have hc:oI ⟨f⟩=some 0:=by rw [yS];exact congrArg some (iH.2 fok)
 unfold oM;rw [hc,aB,bT rfl,cond_false,U3 fok h];rfl
def aNb (f:List Pt) (m:Nat) (p:Pt):List Pt:=f.take m++p::f.drop m
noncomputable def pF (f:List Pt) (es:List (Int×Int)):Int:=if¬(∀x∈es,fY x) then 8 else if¬es.Nodup then 14 else if¬(∀x∈es,lD f x) then 6 else 0
def rP (c:aR) (f:List Pt) (es:List (Int×Int)) (i:Nat):=
 (es,es,(es.length:Int),(i:Int),c.ar.1,c.ar.2,c.au.aa,c.ax.ao,c.ax.aq,c.ay.ai.ac,c.ay.ai.ae,c.ay.ai.af,c.ay.aj,c.ay.am,c.az,f,(0:Int),(0:Int),(0:Int))
theorem P6 {c:aR} (ok:bG c) {f:List Pt} (fok:cE f) {es:List (Int×Int)} (hl:es.length<=1000) {r:aR×Int} (hr:pF f es=0->vR c ⟨f⟩ es=some r):
 rA c ⟨f⟩ es=some (if pF f es=0 then r else (fC,pF f es)):=by
 have bd:=ok.bd;have ab:=ok.agd.bd;have sl:=ok.agd.so.fl;have sn:=ok.agd.so.n2;have su:=ok.agd.so.ul;have el:decide ((es.length:Int)<(es.length:Int))=false:=dec_f (by omega)
 have hc:iG c=some 0:=by rw [oR ok.fit,if_pos ok]
 have hf:fI ⟨f⟩=some 0:=by rw [kD];exact congrArg some (iH.2 fok)
 have tw:yE (aR.mk (c.ar.1,c.ar.2) (Field.mk c.au.aa) (bO.mk c.ax.ao c.ax.aq) (aP.mk (bD.mk c.ay.ai.ac c.ay.ai.ae c.ay.ai.af) c.ay.aj c.ay.am) c.az)=some c:=by
  unfold yE;simp only [aV (show c.au.aa.length<=1048576 by omega),aV (show c.ax.aq.length<=1048576 by omega),aV (show c.az.length<=1048576 by omega),aV (show c.ay.aj.length<=1048576 by omega),aV (show c.ay.am.length<=1048576 by omega),
   aV (show c.ay.ai.ac.length<=1048576 by omega),aV (show c.ay.ai.ae.length<=1048576 by omega),aV (show c.ay.ai.af.length<=1048576 by omega),aB]
 have k3: ∀e2:aR×Int,aG eS (rP c f es 0)=some (.done e2)->aG eT (rP c f es 0)=some (if∀i,i<es.length->fY es[i]! then e2 else (fC,8)):=by
  intro e2 h2;refine qM (body:=eT) (fun i=>rP c f es i) es.length (fun i=>fY es[i]!) (r:=(fC,8)) (e:=e2) (fun i hi=>?_) ?_
  · have e1:decide ((i:Int)<(es.length:Int))=true:=aJ (by omega)
    unfold eT rP fY;simp only [e1,cond_true,aE es i hi,aB,aU (show i<1000000000 by omega)]
    generalize es[i]! =x
    by_cases a1:x.1<0
    · rw [aJ a1];exact ⟨fun _=>rfl,fun h=>by omega⟩
    rw [dec_f a1]
    by_cases a2:x.2<0
    · rw [aJ a2];exact ⟨fun _=>rfl,fun h=>by omega⟩
    rw [dec_f a2]
    by_cases a3:65535<x.1
    · rw [aJ a3];exact ⟨fun _=>rfl,fun h=>by omega⟩
    rw [dec_f a3]
    by_cases a4:65535<x.2
    · rw [aJ a4];exact ⟨fun _=>rfl,fun h=>by omega⟩
    rw [dec_f a4]
    by_cases a5:x.1=x.2
    · rw [eI a5];exact ⟨fun _=>rfl,fun h=>absurd a5 h.2.2.2.2⟩
    rw [eB a5];exact ⟨fun h=>absurd ⟨by omega,by omega,by omega,by omega,a5⟩ h,fun _=>rfl⟩
  unfold eT rP
  simp only [aF,el,cond_false];exact h2
 have k2: ∀e1:aR×Int,aG fP (rP c f es 0)=some (.done (.done e1))->aG eS (rP c f es 0)=some (.done (if∀i,i<es.length->es[i]!∉es.take i then e1 else (fC,14))):=by
  intro e0 h2
  have:=qM (body:=eS) (fun i=>rP c f es i) es.length (fun i=>es[i]!∉es.take i) (r:= .done (fC,14)) (e:= .done e0) (fun i hi=>by
   have e1:decide ((i:Int)<(es.length:Int))=true:=aJ (by omega)
   unfold eS rP;simp only [e1,cond_true,aE es i hi,mF es i (by omega),aB,pT _ _ (show (es.take i).length<=1000000 by rw [bz];omega),aU (show i<1000000000 by omega)]
   by_cases h:es[i]!∈es.take i
   · rw [aJ h];exact ⟨fun _=>rfl,fun k=>absurd h k⟩
   · rw [dec_f h];exact ⟨fun k=>absurd h k,fun _=>rfl⟩) (by
   unfold eS rP;simp only [aF,el,cond_false];exact h2)
  refine this.trans ?_
  by_cases hb: ∀i,i<es.length->es[i]!∉es.take i
  · rw [if_pos hb,if_pos hb]
  rw [if_neg hb,if_neg hb]
 have step1: ∀i,i<es.length->(¬lD f es[i]!->fP (rP c f es i)=some (.done (.done (.done (fC,6)))))/\(lD f es[i]!->fP (rP c f es i)=some (.next (rP c f es (i+1)))):=by
  intro i hi;have e1:decide ((i:Int)<(es.length:Int))=true:=aJ (by omega)
  obtain ⟨p,e,a1,a2⟩:=G8 fok (es[i]!).1;obtain ⟨q,g,b1,b2⟩:=G8 fok (es[i]!).2;unfold fP rP lD;simp only [e1,cond_true,aE es i hi,aB,a1,b1,aU (show i<1000000000 by omega)]
  by_cases h1:kJ f (es[i]!).1
  · rw [bT (a2.2 h1)]
    by_cases h2:kJ f (es[i]!).2
    · rw [bT (b2.2 h2)]
      exact ⟨fun h=>absurd ⟨h1,h2⟩ h,fun _=>rfl⟩
    rw [cP (fun h=>h2 (b2.1 h))]
    exact ⟨fun _=>rfl,fun h=>absurd h.2 h2⟩
  rw [cP (fun h=>h1 (a2.1 h))]
  exact ⟨fun _=>rfl,fun h=>absurd h.1 h1⟩
 have start:rA c ⟨f⟩ es=aG eT (rP c f es 0):=by
  unfold rA;simp only [hc,aB,show ((0:Int) !=0)=false from rfl,cond_false,hf];rfl
 rw [start]
 by_cases h1: ∀x∈es,fY x
 case neg=>
  have er:pF f es=8:=by unfold pF;rw [if_pos h1]
  rw [er,if_neg (by omega)]
  have:=dM (body:=eT) (fun i=>rP c f es i) es.length (fun i=> ¬fY es[i]!) (r:=(fC,8)) (e:=r)
  have k3':=k3;rw [FC (P:=fY)] at h1;obtain ⟨i,h⟩:=bu.1 h1;obtain ⟨hi,hx⟩:=bv.1 h;obtain ⟨m,m1,m2,m3⟩:=E2 (c:=fun i=> ¬fY es[i]!) ⟨i,hi,hx⟩
  have go: ∀j,j<es.length->(¬fY es[j]!->eT (rP c f es j)=some (.done (fC,8)))/\(fY es[j]!->eT (rP c f es j)=some (.next (rP c f es (j+1)))):=by
   intro j hj;have e1:decide ((j:Int)<(es.length:Int))=true:=aJ (by omega)
   unfold eT rP fY;simp only [e1,cond_true,aE es j hj,aB,aU (show j<1000000000 by omega)]
   generalize es[j]! =x
   by_cases a1:x.1<0
   · rw [aJ a1];exact ⟨fun _=>rfl,fun h=>by omega⟩
   rw [dec_f a1]
   by_cases a2:x.2<0
   · rw [aJ a2];exact ⟨fun _=>rfl,fun h=>by omega⟩
   rw [dec_f a2]
   by_cases a3:65535<x.1
   · rw [aJ a3];exact ⟨fun _=>rfl,fun h=>by omega⟩
   rw [dec_f a3]
   by_cases a4:65535<x.2
   · rw [aJ a4];exact ⟨fun _=>rfl,fun h=>by omega⟩
   rw [dec_f a4]
   by_cases a5:x.1=x.2
   · rw [eI a5];exact ⟨fun _=>rfl,fun h=>absurd a5 h.2.2.2.2⟩
   rw [eB a5];exact ⟨fun h=>absurd ⟨by omega,by omega,by omega,by omega,a5⟩ h,fun _=>rfl⟩
  rw [cB (body:=eT) (fun i=>rP c f es i) m fun j hj=>(go j (by omega)).2 (bm.1 (m3 j hj))]
  exact aL ((go m m1).1 m2)
 have h1':=(FC (P:=fY)).1 h1
 by_cases h2:es.Nodup
 case neg=>
  have er:pF f es=14:=by unfold pF;rw [if_neg (bm.2 h1),if_pos h2]
  rw [er,if_neg (by omega)]
  have h2':=h2;rw [P1] at h2';obtain ⟨i,h⟩:=bu.1 h2';obtain ⟨hi,hx⟩:=bv.1 h;obtain ⟨m,m1,m2,m3⟩:=E2 (c:=fun i=> ¬es[i]!∉es.take i) ⟨i,hi,hx⟩
  have go: ∀j,j<es.length->(es[j]!∈es.take j->eS (rP c f es j)=some (.done (.done (fC,14))))/\(es[j]!∉es.take j->eS (rP c f es j)=some (.next (rP c f es (j+1)))):=by
   intro j hj;have e1:decide ((j:Int)<(es.length:Int))=true:=aJ (by omega)
   unfold eS rP;simp only [e1,cond_true,aE es j hj,mF es j (by omega),aB,pT _ _ (show (es.take j).length<=1000000 by rw [bz];omega),aU (show j<1000000000 by omega)]
   by_cases h:es[j]!∈es.take j
   · rw [aJ h];exact ⟨fun _=>rfl,fun k=>absurd h k⟩
   rw [dec_f h];exact ⟨fun k=>absurd k h,fun _=>rfl⟩
  have l2:aG eS (rP c f es 0)=some (.done (fC,14)):=by
   rw [cB (body:=eS) (fun i=>rP c f es i) m fun j hj=>(go j (by omega)).2 (bm.1 (m3 j hj))]
   exact aL ((go m m1).1 (bm.1 m2))
  rw [k3 _ l2,if_pos h1']
 have h2':=P1.1 h2
 by_cases h3: ∀x∈es,lD f x
 case neg=>
  have er:pF f es=6:=by unfold pF;rw [if_neg (bm.2 h1),if_neg (bm.2 h2),if_pos h3]
  rw [er,if_neg (by omega)]
  have h3':=h3;rw [FC (P:=lD f)] at h3';obtain ⟨i,h⟩:=bu.1 h3';obtain ⟨hi,hx⟩:=bv.1 h;obtain ⟨m,m1,m2,m3⟩:=E2 (c:=fun i=> ¬lD f es[i]!) ⟨i,hi,hx⟩
  have l1:aG fP (rP c f es 0)=some (.done (.done (fC,6))):=by
   rw [cB (body:=fP) (fun i=>rP c f es i) m fun j hj=>(step1 j (by omega)).2 (bm.1 (m3 j hj))]
   exact aL ((step1 m m1).1 m2)
  rw [k3 _ (k2 _ l1),if_pos h1',if_pos h2']
 have h3':=(FC (P:=lD f)).1 h3;have er:pF f es=0:=by unfold pF;rw [if_neg (bm.2 h1),if_neg (bm.2 h2),if_neg (bm.2 h3)]
 rw [er,if_pos rfl];have l1:aG fP (rP c f es 0)=some (.done (.done r)):=by
  rw [cB (body:=fP) (fun i=>rP c f es i) es.length fun j hj=>(step1 j hj).2 (h3' j hj)]
  refine aL ?_;unfold fP rP;simp only [el,cond_false,tw,aB,hr er]
 rw [k3 _ (k2 _ l1),if_pos h1',if_pos h2']
theorem aDw {l:List Int} {x:Int} (hl:l.length<=1000000) (hx:x∈l): ∃k,k<l.length/\l[k]! =x/\jP l x=some (k:Int)/\X3 l x=some (k:Int):=by
 obtain ⟨k,k1,k2,k3⟩:=E2 (c:=fun k=>l[k]! =x) (aY.1 hx)
 have p:=jK (body:=sR) (fun i=>(l,x,(i:Int))) l.length (fun i=>l[i]! =x) (fun i=>(i:Int)) (e:= -1) (fun i hi=>by
  unfold sR;simp only [aF,aJ (show (i:Int)<(l.length:Int) by omega),cond_true,aE l i hi,aB,aU (show i<1000000000 by omega)]
  refine ⟨fun h=>?_,fun h=>?_⟩
  · rw [eI h];rfl
  · rw [eB h];rfl) (by
  unfold sR;simp only [aF,dec_f (show¬(l.length:Int)<(l.length:Int) by omega),cond_false])
 exact ⟨k,k1,k2,(YX l x hl).1 k k1 k2 k3,p.1 k k1 k2 k3⟩
theorem tk {l:List Int} {m:Nat} {x:Int} (h:l.length=m):(l++[x]).take m=l:=by rw [<- h,List.take_left]
section
variable {k : G0} {f : List Pt} {m n0 : Nat} {x : Int}
end
section
variable {k : G0} {P : Pt} {f : List Pt} {m : Nat}
end
end Go.Proofs.YtbgoiokedpjgbaaGreat
namespace Go.Proofs.YtbgoiokedpjgbaaGreat
abbrev Nd:=Int×Int×Int
structure Y2 (P:Nat->Nat->Prop) (a b i:Nat):Prop where
 lo:a<=i
 hi:i<b
 top: ∀j,a<=j->j<b->j≠i->P i j
inductive sU (P:Nat->Nat->Prop) (N:List Nd):Nat->Nat->Int->Prop
 |nil {a b:Nat} (h:b<=a):sU P N a b (-1)
 |node {a b i:Nat} (h:Y2 P a b i) (l:sU P N a i (N[i]!).2.1) (r:sU P N (i+1) b (N[i]!).2.2):sU P N a b (i:Int)
structure aNc (P:Nat->Nat->Prop) (n:Nat):Prop where
 tr: ∀i j k,i<n->j<n->k<n->P i j->P j k->P i k
 asy: ∀i j,i<n->j<n->P i j-> ¬P j i
 tot: ∀i j,i<n->j<n->i≠j-> ¬P i j->P j i
theorem Y2.one {P:Nat->Nat->Prop} {n a b i j:Nat} (o:aNc P n) (hb:b<=n) (h:Y2 P a b i) (k:Y2 P a b j):i=j:=by
 refine Classical.byContradiction fun hne=>?_
 have:=h.hi;have:=k.hi
 exact o.asy i j (by omega) (by omega) (h.top j k.lo k.hi (fun e=>hne e.symm)) (k.top i h.lo h.hi hne)
theorem sU.link {P:Nat->Nat->Prop} {N:List Nd} {a b:Nat} {r:Int} (h:sU P N a b r):(b<=a/\r= -1)\/(∃i:Nat,r=(i:Int)/\a<=i/\i<b):=by
 cases h with
 |nil h=>exact .inl ⟨h,rfl⟩
 |node h l r=>exact .inr ⟨_,rfl,h.lo,h.hi⟩
theorem sU.unique {P:Nat->Nat->Prop} {n:Nat} (o:aNc P n) {N N':List Nd} {a b:Nat} {r:Int} (h:sU P N a b r): ∀{r':Int},b<=n->sU P N' a b r'->r=r'/\ ∀k,a<=k->k<b->(N[k]!).2=(N'[k]!).2:=by
 induction h with
 |nil h=>
  intro r' hb h';cases h' with
  |nil _=>exact ⟨rfl,fun k h1 h2=>by omega⟩
  |node t _ _=>have:=t.lo;have:=t.hi;omega
 | @node a b i h l r ihl ihr=>
  intro r' hb h';have lo:=h.lo;have hi:=h.hi;cases h' with
  |nil q=>omega
  | @node _ _ j t l' r'=>
   have e:=h.one o hb t;subst e;obtain ⟨e1,f1⟩:=ihl (by omega) l'
   obtain ⟨e2,f2⟩:=ihr hb r';refine ⟨rfl,fun k h1 h2=>?_⟩
   rcases bo k i with q|q|q
   · exact f1 k h1 q
   · subst q;exact Prod.ext e1 e2
   exact f2 k (by omega) h2
theorem sU.other {P Q:Nat->Nat->Prop} {n:Nat} (o:aNc Q n) {N:List Nd} {a b:Nat} {r:Int} (h:sU P N a b r):b<=n->(∀k j:Nat,a<=k->k<b->a<=j->j<b->((N[k]!).2.1=(j:Int)\/(N[k]!).2.2=(j:Int))->Q k j)->sU Q N a b r:=by
 induction h with
 |nil h=>exact fun _ _=> .nil h
 | @node a b i h l r ihl ihr=>
  intro hb q;have lo:=h.lo;have hi:=h.hi;have tl:=ihl (by omega) fun k j h1 h2 h3 h4=>q k j h1 (by omega) h3 (by omega)
  have tr:=ihr hb fun k j h1 h2 h3 h4=>q k j (by omega) h2 (by omega) h4
  refine .node ⟨lo,hi,fun j h1 h2 hne=>?_⟩ tl tr
  rcases ce j i with hj|hj
  · generalize hr:(N[i]!).2.1=s at tl
    cases tl with
    |nil q=>omega
    | @node _ _ m t _ _=>
     have t1:=t.lo;have t2:=t.hi;have qm:=q i m lo hi t1 (by omega) (.inl hr)
     by_cases e:j=m
     · rw [e];exact qm
     exact o.tr i m j (by omega) (by omega) (by omega) qm (t.top j h1 hj e)
  generalize hr:(N[i]!).2.2=s at tr
  cases tr with
  |nil q=>omega
  | @node _ _ m t _ _=>
   have t1:=t.lo;have t2:=t.hi;have qm:=q i m lo hi (by omega) t2 (.inr hr)
   by_cases e:j=m
   · rw [e];exact qm
   exact o.tr i m j (by omega) (by omega) (by omega) qm (t.top j (by omega) h2 e)
theorem sU.kids {P:Nat->Nat->Prop} {N:List Nd} {a b:Nat} {r:Int} (h:sU P N a b r): ∀k,a<=k->k<b-> ∀c:Int,((N[k]!).2.1=c\/(N[k]!).2.2=c)->c= -1\/ ∃j:Nat,c=(j:Int)/\a<=j/\j<b/\j≠k/\P k j/\r≠c:=by
 induction h with
 |nil h=>intro k h1 h2;omega
 | @node a b i h l r ihl ihr=>
  have lo:=h.lo;have hi:=h.hi;intro k h1 h2 c hc;rcases bo k i with q|q|q
  · rcases ihl k h1 q c hc with e|⟨j,e,j1,j2,j3,j4,_⟩
    · exact .inl e
    exact .inr ⟨j,e,j1,by omega,j3,j4,by rw [e];omega⟩
  · subst q
    rcases hc with hc|hc
    · rcases l.link with ⟨_,e⟩|⟨j,e,j1,j2⟩
      · exact .inl (hc▸e)
      exact .inr ⟨j,hc▸e,j1,by omega,by omega,h.top j j1 (by omega) (by omega),by rw [<- hc,e];omega⟩
    rcases r.link with ⟨_,e⟩|⟨j,e,j1,j2⟩
    · exact .inl (hc▸e)
    exact .inr ⟨j,hc▸e,by omega,j2,by omega,h.top j (by omega) j2 (by omega),by rw [<- hc,e];omega⟩
  rcases ihr k (by omega) h2 c hc with e|⟨j,e,j1,j2,j3,j4,_⟩
  · exact .inl e
  exact .inr ⟨j,e,by omega,j2,j3,j4,by rw [e];omega⟩
theorem sU.up {P:Nat->Nat->Prop} {N:List Nd} {a b:Nat} {r:Int} (h:sU P N a b r): ∀k:Nat,a<=k->k<b->(k:Int)≠r-> ∃j,a<=j/\j<b/\((N[j]!).2.1=(k:Int)\/(N[j]!).2.2=(k:Int))/\ ∀m,a<=m->m<b->((N[m]!).2.1=(k:Int)\/(N[m]!).2.2=(k:Int))->m=j:=by
 induction h with
 |nil h=>intro k h1 h2;omega
 | @node a b i h l r ihl ihr=>
  have lo:=h.lo;have hi:=h.hi;have lk:=l.kids;have rk:=r.kids;intro k h1 h2 hne;have hki:k≠i:=fun e=>hne (by rw [e])
  rcases ce k i with q|q
  · by_cases er:(k:Int)=(N[i]!).2.1
    · refine ⟨i,lo,hi,.inl er.symm,fun m m1 m2 hm=>?_⟩
      rcases bo m i with w|w|w
      · rcases lk m m1 w _ hm with e|⟨j,e,_,_,_,_,hr⟩
        · omega
        exact absurd er.symm hr
      · exact w
      rcases rk m (by omega) m2 _ hm with e|⟨j,e,j1,_⟩<;>omega
    obtain ⟨j,j1,j2,j3,j4⟩:=ihl k h1 q er
    refine ⟨j,j1,by omega,j3,fun m m1 m2 hm=>?_⟩
    rcases bo m i with w|w|w
    · exact j4 m m1 w hm
    · subst w
      rcases hm with hm|hm
      · exact absurd hm.symm er
      rcases r.link with ⟨_,e⟩|⟨p,e,p1,p2⟩<;>omega
    rcases rk m (by omega) m2 _ hm with e|⟨p,e,p1,_⟩<;>omega
  by_cases er:(k:Int)=(N[i]!).2.2
  · refine ⟨i,lo,hi,.inr er.symm,fun m m1 m2 hm=>?_⟩
    rcases bo m i with w|w|w
    · rcases lk m m1 w _ hm with e|⟨j,e,_,j2,_⟩<;>omega
    · exact w
    rcases rk m (by omega) m2 _ hm with e|⟨j,e,_,_,_,_,hr⟩
    · omega
    exact absurd er.symm hr
  obtain ⟨j,j1,j2,j3,j4⟩:=ihr k (by omega) h2 er
  refine ⟨j,by omega,j2,j3,fun m m1 m2 hm=>?_⟩
  rcases bo m i with w|w|w
  · rcases lk m m1 w _ hm with e|⟨p,e,_,p2,_⟩<;>omega
  · subst w
    rcases hm with hm|hm
    · rcases l.link with ⟨_,e⟩|⟨p,e,p1,p2⟩<;>omega
    exact absurd hm.symm er
  exact j4 m (by omega) m2 hm
inductive P7 (P:Nat->Nat->Prop) (N:List Nd):Nat->Nat->Int->List Nat->Prop
 |nil {a b:Nat} (h:b<=a):P7 P N a b (-1) []
 |cons {a b k:Nat} {es:List Nat} (h:Y2 P a b k) (l:sU P N a k (N[k]!).2.1) (r:P7 P N (k+1) b (N[k]!).2.2 es):P7 P N a b (k:Int) (k::es)
theorem P7.bk {P:Nat->Nat->Prop} {N:List Nd} {a b:Nat} {r:Int} {es:List Nat} (h:P7 P N a b r es):sU P N a b r:=by
 induction h with
 |nil h=>exact .nil h
 |cons h l r ih=>exact .node h l ih
theorem P7.mem {P:Nat->Nat->Prop} {N:List Nd} {a b:Nat} {r:Int} {es:List Nat} (h:P7 P N a b r es): ∀e∈es,a<=e/\e<b:=by
 induction h with
 |nil h=>intro e he;cases he
 |cons h l r ih=>
  intro e he;have lo:=h.lo;have hi:=h.hi;rcases cu.1 he with rfl|he
  · exact ⟨lo,hi⟩
  have:=ih e he;omega
end Go.Proofs.YtbgoiokedpjgbaaGreat
namespace Go.Proofs.YtbgoiokedpjgbaaGreat
open Go.Vm Classical
def ahP (f:List Pt) (t:Int×Int) (i j:Nat):Prop:=hY f[i]! f[j]! t
theorem MD {p q:Pt} {t:Int×Int} (h:hY p q t): ¬hY q p t:=by
 unfold hY at*;rw [U7] at*;generalize p.2.1*t.2+p.2.2*t.1=a at*;generalize q.2.1*t.2+q.2.2*t.1=b at*;omega
theorem aNd {f:List Pt} (h:gS f) (t:Int×Int):aNc (ahP f t) f.length where
 tr:=fun _ _ _ _ _ _ h1 h2=>Y0 h1 h2
 asy:=fun _ _ _ _ h=>MD h
 tot:=fun _ _ hi hj hne hn=>FG t (fun e=>hne (IC h hi hj e)) hn
structure FH (f:List Pt) (t:Int×Int) (N:List Nd) (r:Int):Prop where
 len:N.length=f.length
 ids: ∀k,k<f.length->(N[k]!).1=(f[k]!).1
 bk:sU (ahP f t) N 0 f.length r
theorem FH.same {f:List Pt} (h:gS f) {t:Int×Int} {N N':List Nd} {r r':Int} (a:FH f t N r) (b:FH f t N' r'):N=N'/\r=r':=by
 obtain ⟨e1,e2⟩:=a.bk.unique (aNd h t) (cj _) b.bk;refine ⟨wB (by rw [a.len,b.len]) fun k hk=>?_,e1⟩
 have hk:k<f.length:=by rw [<- a.len];exact hk
 exact Prod.ext (by rw [a.ids k hk,b.ids k hk]) (e2 k (bq _) hk)
def Below (N:List Nd) (k j:Nat):Prop:=(N[j]!).2.1=(k:Int)\/(N[j]!).2.2=(k:Int)
noncomputable def MO (N:List Nd) (k:Nat):Nat:=if h: ∃j,j<N.length/\Below N k j then h.choose else N.length
noncomputable def aWy (N:List Nd) (k:Nat):List (Int×Int):=if MO N k<N.length then [((N[k]!).1,(N[MO N k]!).1)] else []
noncomputable def aF0 (N:List Nd):Nat->List (Int×Int)
 |0=>[]
 |k+1=>aF0 N k++aWy N k
section
variable {f : List Pt} {t : Int × Int} {N : List Nd} {r : Int}
theorem FH.par (h:FH f t N r) {k:Nat} (hk:k<f.length):((k:Int)=r->MO N k=N.length)/\((k:Int)≠r->MO N k<N.length/\Below N k (MO N k)/\MO N k≠k/\ahP f t (MO N k) k)/\ ∀m,m<N.length->Below N k m->m=MO N k:=by
 have ln:=h.len
 by_cases hr:(k:Int)=r
 · have none: ¬ ∃j,j<N.length/\Below N k j:=by
    rintro ⟨j,hj,hb⟩;rcases h.bk.kids j (bq _) (by omega) (k:Int) hb with e|⟨_,_,_,_,_,_,e⟩
    · omega
    exact e hr.symm
   have e:MO N k=N.length:=by unfold MO;rw [dif_neg none]
   exact ⟨fun _=>e,fun q=>absurd hr q,fun m hm hb=>absurd ⟨m,hm,hb⟩ none⟩
 obtain ⟨j,_,j2,j3,j4⟩:=h.bk.up k (bq _) hk hr
 have ex: ∃j,j<N.length/\Below N k j:=⟨j,by omega,j3⟩
 have e:MO N k=j:=by
  unfold MO;rw [dif_pos ex]
  have:=ex.choose_spec
  exact j4 _ (bq _) (by omega) this.2
 refine ⟨fun q=>absurd q hr,fun _=>?_,fun m hm hb=>by rw [e];exact j4 m (bq _) (by omega) hb⟩
 rw [e];refine ⟨by omega,j3,?_,?_⟩
 · rcases h.bk.kids j (bq _) j2 (k:Int) j3 with q|⟨i,q,_,_,q2,_⟩
   · omega
   intro w;omega
 rcases h.bk.kids j (bq _) j2 (k:Int) j3 with q|⟨i,q,_,_,_,q2,_⟩
 · omega
 have:i=k:=by omega
 rw [<- this];exact q2
end
def o1 (f:List Pt) (t:Int×Int) (e c:Nat) (i:Nat) (bi:Int) (N:List Nd) (E:List Int) (left:Int):=
 (e,c,(i:Int),f,(f.length:Int),(i:Int),f,t.1,t.2,(0:Int),bi,N,E,(f[i]!).1,(f[i]!).2.1,(f[i]!).2.2,(f[i]!).1,left,(-1:Int))
section
variable {f : List Pt} {t : Int × Int} {N : List Nd} {r : Int}
theorem FH.link (h:FH f t N r) {j:Nat} (hj:j<f.length) {c:Int} (hc:(N[j]!).2.1=c\/(N[j]!).2.2=c):c= -1\/(0<=c/\c<N.length):=by
 have ln:=h.len;rcases h.bk.kids j (bq _) hj c hc with e|⟨k,e,_,k2,_⟩
 · exact .inl e
 exact .inr ⟨by omega,by omega⟩
end
theorem aNe (c:aR) (es:List (Int×Int)) (h1:es.length<=1000000) (_:c.ax.aq.length<=1000000):
 E0 c es=some (decide (es.length=c.ax.aq.length/\ ∀i,i<c.ax.aq.length->(c.ax.aq[i]!).2∈es)):=by
 unfold E0 hU jE;simp only [aF]
 by_cases h0:es.length=c.ax.aq.length
 case neg=>rw [eB (by omega),cond_false,dec_f (fun q=>h0 q.1)]
 rw [eI (by omega),cond_true]
 have key:=jK (body:=bQ) (fun i=>(c.ax.aq,es,(c.ax.aq.length:Int),(i:Int))) c.ax.aq.length (fun i=>(c.ax.aq[i]!).2∉es) (fun i=>(i:Int)) (e:= -1) (fun i hi=>by
  unfold bQ G1;simp only [aJ (show (i:Int)<(c.ax.aq.length:Int) by omega),cond_true,aE c.ax.aq i hi,aB,pT es _ h1,aU (show i<1000000000 by omega)]
  refine ⟨fun q=>?_,fun q=>?_⟩
  · rw [dec_f q];rfl
  · rw [aJ (bm.1 q)];rfl) (by
  unfold bQ;simp only [dec_f (show¬(c.ax.aq.length:Int)<(c.ax.aq.length:Int) by omega),cond_false])
 by_cases hx: ∀i,i<c.ax.aq.length->(c.ax.aq[i]!).2∈es
 · rw [show aG bQ (c.ax.aq,es,(c.ax.aq.length:Int),0)=_ from key.2 (fun i hi=>bm.2 (hx i hi)),aB,aB,dec_f (by omega),aJ ⟨h0,hx⟩]
   rfl
 obtain ⟨i,hi⟩:=bu.1 hx
 obtain ⟨hi,hn⟩:=bv.1 hi;obtain ⟨m,m1,m2,m3⟩:=E2 (c:=fun i=>(c.ax.aq[i]!).2∉es) ⟨i,hi,hn⟩
 rw [show aG bQ (c.ax.aq,es,(c.ax.aq.length:Int),0)=_ from key.1 m m1 m2 m3,aB,aB,aJ (by omega),dec_f (fun w=>hx w.2)]
 rfl
structure aF1 (k:K5):Prop where
 clk:bG k.be
 bk:FH k.be.au.aa k.be.ar k.bk.bj k.bk.bi
 cert:(k.be.ax.aq.map fun x=>x.2).Perm (aF0 k.bk.bj k.be.au.aa.length)
structure aTV (k:K5):Prop where
 c:P2 k.be
 n:k.bk.bj.length<=1000
theorem P8 {α:Type} [BEq α] [LawfulBEq α]: ∀{a b:List α},a.Nodup->(∀x∈a,x∈b)->a.length<=b.length
 | [],_,_,_=>bq _
 |x::a,b,hd,h=>by
  rw [List.nodup_cons] at hd;have hx:=h x List.mem_cons_self
  have:=P8 (a:=a) (b:=b.erase x) hd.2 (fun y hy=>by
   rw [List.mem_erase_of_ne (fun e=>hd.1 (by rw [<- e];exact hy))]
   exact h y (List.mem_cons_of_mem _ hy))
  rw [List.length_erase_of_mem hx] at this
  have:=List.length_pos_of_mem hx
  rw [cf];omega
theorem Y3 {α:Type} [BEq α] [LawfulBEq α] {a b:List α} (ha:a.Nodup) (hb:b.Nodup) (h1: ∀x∈a,x∈b) (h2: ∀x∈b,x∈a):a.Perm b:=yV ha h1 (P8 hb h2)
structure aA0 (R:K5) (F:List Pt) (t:Int×Int):Prop where
 ok:aF1 R
 fld:R.be.au.aa=F
 ar:R.be.ar=t
theorem aA0.short {R:K5} {F:List Pt} {t:Int×Int} (h:aA0 R F t):aTV R:=by
 have:=h.ok.clk.fld.1
 refine ⟨h.ok.clk.short,?_⟩
 have:=h.ok.bk.len
 omega
theorem aA0.nums {R:K5} {F:List Pt} {t:Int×Int} (h:aA0 R F t):wC R.be:=h.ok.clk.fit
theorem aA0.same {R S:K5} {F:List Pt} {t:Int×Int} (h:aA0 R F t) (k:aA0 S F t):R.bk=S.bk:=by
 have a:=h.ok.bk;rw [h.fld,h.ar] at a;have b:=k.ok.bk;rw [k.fld,k.ar] at b;obtain ⟨e1,e2⟩:=a.same (by rw [<- h.fld];exact h.ok.clk.fld.2.2) b
 obtain ⟨_,⟨r,N⟩⟩:=R;obtain ⟨_,⟨r',N'⟩⟩:=S;simp only at e1 e2;subst e1 e2;rfl
theorem aNf {f:List Pt} {m:Nat} {p q:Pt}:q∈aNb f m p↔q=p\/q∈f:=by
 unfold aNb;rw [ck,cu];constructor
 · rintro (h|h|h)
   · exact .inr (List.mem_of_mem_take h)
   · exact .inl h
   exact .inr (List.mem_of_mem_drop h)
 rintro (h|h)
 · exact .inr (.inl h)
 rw [<- List.take_append_drop m f] at h
 rcases ck.1 h with h|h
 · exact .inl h
 exact .inr (.inr h)
theorem aDx {f:List Pt} (hs:gS f) {q:Nat} (hq:q<f.length) {p:Pt}:p∈f.eraseIdx q↔p∈f/\p.1≠(f[q]!).1:=by
 rw [List.mem_eraseIdx_iff_getElem];constructor
 · rintro ⟨i,hi,hne,rfl⟩
   refine ⟨List.getElem_mem _,fun e=>?_⟩
   rw [<- getElem!_pos f i hi] at e;rcases bo i q with c|c|c
   · have:=hJ hs c hq;omega
   · exact hne c
   have:=hJ hs c hi;omega
 rintro ⟨hp,hne⟩
 obtain ⟨i,hi,rfl⟩:=aY.1 hp;refine ⟨i,hi,fun e=>hne (by rw [e]),?_⟩
 rw [getElem!_pos f i hi]
theorem aF2 {f:List Pt} (hs:gS f) {q:Pt} (h:q∈f):iT f q.1=q:=by
 obtain ⟨i,hi,rfl⟩:=aY.1 h;exact JW hs hi rfl
theorem aCn {f:List Pt} (hs:gS f) {x:Int} (h:kJ f x):iT f x∈f/\(iT f x).1=x:=by
 obtain ⟨i,hi,rfl⟩:=h;rw [aF2 hs (bI hi)];exact ⟨bI hi,rfl⟩
abbrev aF3 (f:List Pt) (t:Int×Int) (a b:Int):Prop:=hY (iT f a) (iT f b) t
theorem SY {f:List Pt} (hs:gS f) {t:Int×Int} {l:List Int} (hp: ∀x∈l,kJ f x) (nd:l.Nodup):(∀e∈FD l,hY (iT f e.2) (iT f e.1) t)↔Hp (aF3 f t) l:=by
 constructor
 · intro h j h1 h2 c
   have hm:(l[j]!,l[par j]!)∈FD l:=by
    refine aY.2 ⟨j-1,by rw [IG];omega,?_⟩
    rw [MB l (show j-1<l.length-1 by omega),show j-1+1=j by omega]
   exact MD c (h _ hm)
 intro h e he
 obtain ⟨i,hi,rfl⟩:=aY.1 he;rw [IG] at hi;rw [MB l hi]
 have:=h (i+1) (by omega) (by omega)
 have pe:par (i+1)=i / 2:=by simp only [par];omega
 rw [pe] at this;refine FG t ?_ this;rw [(aCn hs (hp _ (bI (by omega)))).2,(aCn hs (hp _ (bI (by omega)))).2]
 exact fun e=>iW.1 nd (i / 2) (i+1) (by omega) (by omega) e.symm
structure aYf (R:G0) (F:List Pt) (t:Int×Int):Prop where
 ok:yW R
 fld:R.be.au.aa=F
 ar:R.be.ar=t
theorem yW.len {k:G0} (h:yW k):k.aj.length=k.be.au.aa.length:=by rw [<- h.perm.length_eq];exact List.length_map ..
theorem yW.bd {k:G0} (h:yW k):k.aj.length<=64:=by have:=h.len;have:=h.clk.fld.1;omega
theorem yW.has {k:G0} (h:yW k): ∀x∈k.aj,kJ k.be.au.aa x:=fun _ hx=>J1.1 (h.perm.mem_iff.2 hx)
theorem yW.nd {k:G0} (h:yW k):k.aj.Nodup:=h.perm.nodup_iff.1 (ST h.clk.fld.2.2)
theorem yW.hp {k:G0} (h:yW k):Hp (aF3 k.be.au.aa k.be.ar) k.aj:=(SY h.clk.fld.2.2 h.has h.nd).1 h.lead
theorem P0.aj {c:aR} {f:List Pt} (fok:cE f) {l:List Int} (pm:(rG f).Perm l) {R:G0} (e:R.aj=l) (q:P0 c f (FD l) R.be) (h:Hp (aF3 f c.ar) l):aYf R f c.ar:=by
 have nd:=pm.nodup_iff.1 (ST fok.2.2);refine ⟨⟨q.ok,by rw [q.fld,e];exact pm,?_,?_⟩,q.fld,q.ar⟩
 · rw [e]
   exact Y3 (MC q.ok.crt) (YW nd) (fun x hx=>by obtain ⟨y,hy,rfl⟩:=List.mem_map.1 hx;exact q.sub y hy) (fun x hx=>FE.1 (q.has x hx))
 rw [e,q.fld,q.ar]
 exact (SY fok.2.2 (fun x hx=>J1.1 (pm.mem_iff.2 hx)) nd).2 h
theorem P9 {α:Type} (z:α): ∀(l:List (Int×α)) (k:Int) (a:α) (j:Int),vJ z (sZ l k a) j=if j=k then a else vJ z l j
 | [],k,a,j=>by
  simp only [sZ,vJ]
  by_cases h:j=k
  · rw [if_pos h,eI h];rfl
  rw [if_neg h,eB h];rfl
 |p::l,k,a,j=>by
  simp only [sZ]
  by_cases h:k=p.1
  · rw [eI h,cond_true]
    simp only [vJ]
    by_cases c:j=k
    · rw [if_pos c,eI c];rfl
    rw [if_neg c,eB c,cond_false,eB (by rw [<- h];exact c),cond_false]
  rw [eB h,cond_false]
  simp only [vJ];rw [P9 z l k a j]
  by_cases c:j=p.1
  · rw [eI c,cond_true,cond_true,if_neg (by rw [c];exact fun e=>h e.symm)]
  rw [eB c,cond_false,cond_false]
section
variable {f : List Pt} {t : Int × Int}
end
def MP (f:List Pt) (x:Int):Prop:=x= -1\/(0<=x/\kJ f x)
theorem MP.has {f:List Pt} {x:Int} (h:MP f x) (h0:0<=x):kJ f x:=by rcases h with h|h;omega;exact h.2
theorem rI {p w:List Int} {i:Nat} (hi:i<w.length+p.length) (hb:w.length+p.length<=1000):kC ⟨p,w⟩ (i:Int)=some (bK p w i):=by
 unfold kC bK;simp only [aF]
 by_cases h:i<w.length
 · rw [aJ (by omega),cond_true,aE w i h,aB,if_pos h]
 rw [dec_f (by omega),cond_false,mD ⟨by omega,by omega⟩,show (i:Int) - (w.length:Int)=((i-w.length:Nat):Int) by omega,aE p _ (by omega),aB,if_neg h]
theorem qE {p w:List Int} {i:Nat} (hi:i<w.length+p.length) (hb:w.length+p.length<=1000):jG ⟨p,w⟩ (i:Int)=some (bK p w i):=by
 unfold jG bK;have e:aA .i64 ((i:Int) - (w.length:Int))=(i:Int) - (w.length:Int):=mD ⟨by omega,by omega⟩
 simp only [aF,e]
 by_cases h:i<w.length
 · rw [dec_f (by omega),cond_false,aE w i h,aB,if_pos h]
 rw [aJ (by omega),cond_true,show (i:Int) - (w.length:Int)=((i-w.length:Nat):Int) by omega,aE p _ (by omega),aB,if_neg h]
theorem qN {i:Nat} (h:i<1000) (k:Nat) (hk:k<=2):aA .i64 ((aA .i64 (2*(i:Int)))+(k:Int))=((2*i+k:Nat):Int):=by
 rw [mD (n:=2*(i:Int)) ⟨by omega,by omega⟩,mD ⟨by omega,by omega⟩];omega
theorem J3 {f:List Pt} (fok:cE f) {t:Int×Int} (r64:tB t) {x y:Int} (hx:MP f x) (hy:MP f y):xI ⟨f⟩ t x y=some (DF f t x y):=by
 unfold xI DF
 by_cases h1:x<0
 · rw [aJ h1,cond_true,if_pos h1]
 rw [dec_f h1,cond_false,if_neg h1]
 by_cases h2:y<0
 · rw [aJ h2,cond_true,if_pos h2]
 rw [dec_f h2,cond_false,if_neg h2];have p1:=hx.has (by omega)
 have p2:=hy.has (by omega)
 obtain ⟨j,j1,j2,j3⟩:=DA fok p1;obtain ⟨k,k1,k2,k3⟩:=DA fok p2;simp only [j2,k2,aB,aE f j j1,aE f k k1,j3,k3,O8 (fT fok p1).1 (fT fok p2).1 r64]
 by_cases h:hY (iT f x) (iT f y) t
 · rw [aJ h,cond_true,if_pos h]
 rw [dec_f h,cond_false,if_neg h]
theorem QA:dF=aS:=rfl
theorem tZ {f:List Pt} (fok:cE f) {x:Int} (h:kJ f x): ∃k,k<f.length/\kV ⟨f⟩ x=some ((k:Int),true)/\f[k]! =iT f x:=by
 have h1:=fok.1;have bs:=AF f x (by omega) (fun i j=>hJ fok.2.2)
 obtain ⟨k,hk,he⟩:=h;refine ⟨k,hk,?_,(JW fok.2.2 hk he).symm⟩;unfold kV;rw [QA,bs.1 k hk he];rfl
theorem LH {f:List Pt} (fok:cE f) {x:Int} (h: ¬kJ f x): ∃m:Nat,kV ⟨f⟩ x=some ((m:Int),false):=by
 have h1:=fok.1;have bs:=AF f x (by omega) (fun i j=>hJ fok.2.2)
 obtain ⟨m,_,_,_,e⟩:=bs.2 (fun k hk he=>h ⟨k,hk,he⟩)
 refine ⟨m,?_⟩;unfold kV;rw [QA,e];rfl
theorem QB {f:List Pt} (fok:cE f) {t:Int×Int} (r:cQ t) (r64:tB t) {x y:Int} (hx:MP f x) (hy:MP f y) (hne:0<=x->x≠y):qX ⟨f⟩ t x y=some (DF f t x y):=by
 unfold qX DF
 by_cases h1:x<0
 · rw [aJ (by split<;>omega),cond_true,if_pos h1]
   have:x= -1:=by rcases hx with h|h;exact h;omega
   have: -1<=y:=by rcases hy with h|h<;>omega
   congr 1
   split<;>omega
 rw [if_neg h1]
 by_cases h2:y<0
 · rw [aJ (by split<;>omega),cond_true,if_pos h2]
   congr 1
   split<;>omega
 rw [dec_f (by split<;>omega),cond_false,if_neg h2]
 have p1:=hx.has (by omega)
 have p2:=hy.has (by omega)
 obtain ⟨j,j1,j2,j3⟩:=tZ fok p1;obtain ⟨k,k1,k2,k3⟩:=tZ fok p2;obtain ⟨a1,a2⟩:=fT fok p1;obtain ⟨b1,b2⟩:=fT fok p2;simp only [j2,k2,aB,aE f j j1,aE f k k1,j3,k3];rcases MN a1 b1 r64 r with h|⟨h,_⟩
 · rw [h,aB]
   by_cases h:hY (iT f x) (iT f y) t
   · rw [if_pos h];dsimp only;rw [aJ h,cond_true]
   rw [if_neg h];dsimp only;rw [dec_f h,cond_false]
 rw [a2,b2] at h;exact absurd h (hne (by omega))
def tC (B:List Int) (i:Nat):List Int:=List.replicate i 0++B.drop i
theorem uA {B:List Int} {i:Nat} (h:i<=B.length):(tC B i).length=B.length:=by unfold tC;rw [List.length_append,bn,List.length_drop];omega
theorem GH {B:List Int} {i k:Nat} (h:i<=k) (hi:i<=B.length):(tC B i)[k]! =B[k]!:=by
 unfold tC;rw [gN (by rw [bn];exact h),pD,bn]
 congr 1;omega
theorem DH {p B:List Int} {i k:Nat} (h:i<=k) (hi:i<=B.length):bK p (tC B i) k=bK p B k:=by
 unfold bK;rw [uA hi];split
 · exact GH h hi
 rfl
theorem SZ {B:List Int} {i:Nat} (h:i<B.length):(tC B (i+1)).set i B[i]! =tC B i:=by
 refine wB (by rw [cm,uA (by omega),uA (by omega)]) fun k hk=>?_
 rw [cm,uA (by omega)] at hk
 rw [aZ]
 by_cases e:k=i
 · rw [if_pos ⟨e,by rw [uA (by omega)];omega⟩,GH (by omega) (by omega),e]
 rw [if_neg (fun x=>e x.1)]
 by_cases h2:k<i
 · unfold tC
   rw [eX (by rw [bn];omega),eX (by rw [bn];omega)]
   rw [getElem!_pos _ k (by rw [bn];omega),getElem!_pos _ k (by rw [bn];omega),cb,cb]
 rw [GH (by omega) (by omega),GH (by omega) (by omega)]
section
variable {f : List Pt} (fok : cE f) {t : Int × Int} (r : cQ t) (r64 : tB t) {p : List Int} (h1 : 1 <= p.length) (h64 : p.length <= 64) (hk : ∀ x ∈ p, MP f x)
include fok r64 h1 h64 hk
theorem M8 {i:Nat} (hi:i<(cK f t p).length+p.length):MP f (bK p (cK f t p) i):=by
 have _:=fok;have _:=r64;have _:=h64;exact hk _ (mH (fZ (f:=f) (t:=t) h1).1 (fZ h1).chosen hi)
theorem aA1 {i:Nat} (hi:i<(cK f t p).length):
 oN ((i:Int),f,t.1,t.2,p,tC (cK f t p) (i+1))=some (.next ((i:Int) -1,f,t.1,t.2,p,tC (cK f t p) i)):=by
 have R:=fZ (f:=f) (t:=t) (p:=p) h1;have bl:=R.1;have pl:=uA (B:=cK f t p) (i:=i+1) (by omega)
 unfold oN;simp only [aJ (show (0:Int)<=(i:Int) by omega),cond_true]
 have k1:=qN (i:=i) (by omega) 1 (by omega)
 have k2:=qN (i:=i) (by omega) 2 (by omega)
 rw [show aA .i64 (aA .i64 (2*(i:Int))+1)=((2*i+1:Nat):Int) from k1,show aA .i64 (aA .i64 (2*(i:Int))+2)=((2*i+2:Nat):Int) from k2];rw [rI (by omega) (by omega),aB,rI (by omega) (by omega),aB,DH (by omega) (by omega),DH (by omega) (by omega)]
 rw [show xI ⟨f⟩ (t.1,t.2) _ _=_ from J3 fok r64 (M8 fok r64 h1 h64 hk (by omega)) (M8 fok r64 h1 h64 hk (by omega)),aB,aE _ i (by omega),aB,<- R.2 i hi]
 show some (bR.next (_,f,t.1,t.2,p,(tC (cK f t p) (i+1)).set i _))=_
 rw [SZ hi,mD ⟨by omega,by omega⟩]
theorem QC:zY ⟨f⟩ t p=some ⟨p,cK f t p⟩:=by
 have R:=fZ (f:=f) (t:=t) (p:=p) h1;have bl:=R.1;have w1:aA .i64 ((p.length:Int) -1)=((p.length-1:Nat):Int):=qB (by omega) h1
 have loop: ∀n:Nat,n<=(cK f t p).length->aG oN ((n:Int) -1,f,t.1,t.2,p,tC (cK f t p) n)=some ⟨p,cK f t p⟩:=by
  intro n
  induction n with
  |zero=>
   intro _;refine aL ?_;unfold oN;rw [dec_f (by omega),cond_false]
   rfl
  |succ n ih=>
   intro hn;have st:=aA1 fok r64 h1 h64 hk (t:=t) (i:=n) (by omega)
   rw [show ((n+1:Nat):Int) -1=(n:Int) by omega,bA st]
   exact ih (by omega)
 unfold zY;simp only [aV (show p.length<=1048576 by omega),aB,aF,w1,eI rfl,cond_true,PJ (0:Int) (show p.length-1<=1048576 by omega),bn]
 have:=loop (cK f t p).length (cj _)
 unfold tC at this;rw [ci,cp,show (cK f t p).length=p.length-1 by omega] at this
 rw [mD (n:=((p.length-1:Nat):Int) -1) ⟨by omega,by omega⟩]
 exact this
include r
theorem VA (ho:FF p) {i:Nat} (hi:i<(cK f t p).length):
 jO ((i:Int),f,t.1,t.2,p,tC (cK f t p) (i+1))=some (.next ((i:Int) -1,f,t.1,t.2,p,tC (cK f t p) i)):=by
 have R:=fZ (f:=f) (t:=t) (p:=p) h1;have bl:=R.1;have pl:=uA (B:=cK f t p) (i:=i+1) (by omega)
 unfold jO;simp only [aJ (show (0:Int)<=(i:Int) by omega),cond_true]
 have k1:=qN (i:=i) (by omega) 1 (by omega)
 have k2:=qN (i:=i) (by omega) 2 (by omega)
 rw [show aA .i64 (aA .i64 (2*(i:Int))+1)=((2*i+1:Nat):Int) from k1,show aA .i64 (aA .i64 (2*(i:Int))+2)=((2*i+2:Nat):Int) from k2];rw [qE (by omega) (by omega),aB,qE (by omega) (by omega),aB,DH (by omega) (by omega),DH (by omega) (by omega)]
 rw [show qX ⟨f⟩ (t.1,t.2) _ _=_ from QB fok r r64 (M8 fok r64 h1 h64 hk (by omega)) (M8 fok r64 h1 h64 hk (by omega)) (fun h0=>M7 R.1 R.chosen ho hi h0),aB,aE _ i (by omega),aB,<- R.2 i hi]
 show some (bR.next (_,f,t.1,t.2,p,(tC (cK f t p) (i+1)).set i _))=_
 rw [SZ hi,mD ⟨by omega,by omega⟩]
theorem LJ:uJ ⟨f⟩ p=some true:=by
 have _:=r;have _:=r64;have st:=cB (body:=oX) (fun i=>(p,(p.length:Int),(i:Int),f)) p.length (fun i hi=>by
  have id:=hk _ (bI hi);unfold oX;simp only [aJ (show (i:Int)<(p.length:Int) by omega),cond_true,aE p i hi,aB,aU (show i<1000000000 by omega)]
  by_cases h:kJ f p[i]!
  · obtain ⟨k,_,e,_⟩:=tZ fok h
    rw [e,aB,cond_true]
  obtain ⟨m,e⟩:=LH fok h
  rw [e,aB,cond_false];rcases id with id|id
  · rw [eI id];rfl
  exact absurd id.2 h)
 unfold uJ;refine (show _=_ from st).trans (aL ?_);unfold oX;simp only [dec_f (show¬(p.length:Int)<(p.length:Int) by omega),cond_false]
 rfl
def QD (p:List Int):Nat->List (Int×Bool)
 |0=>sZ [] (-1) false
 |i+1=>sZ (QD p i) p[i]! (decide (0<=p[i]!))
omit fok r r64 h1 h64 hk in
theorem QE (p:List Int): ∀(i:Nat) (k:Int),vJ false (QD p i) k=decide (0<=k/\ ∃j,j<i/\p[j]! =k)
 |0,k=>by
  unfold QD;rw [P9];rw [decide_eq_false (fun h=>by obtain ⟨_,j,hj,_⟩:=h;omega)]
  split<;>rfl
 |i+1,k=>by
  unfold QD;rw [P9,QE p i k]
  by_cases e:k=p[i]!
  · rw [if_pos e]
    refine decide_eq_decide.2 ⟨fun h=>⟨by omega,i,by omega,e.symm⟩,fun h=>by omega⟩
  rw [if_neg e]
  refine decide_eq_decide.2 ⟨fun ⟨h,j,hj,hx⟩=>⟨h,j,by omega,hx⟩,fun ⟨h,j,hj,hx⟩=>⟨h,j,?_,hx⟩⟩
  rcases ce j i with h2|h2
  · exact h2
  obtain rfl:j=i:=by omega
  exact absurd hx.symm e
omit fok r r64 h1 h64 hk in
theorem aDy {p:List Int} (ho:FF p) {i:Nat} (hi:i<p.length):vJ false (QD p i) p[i]! =false:=by
 rw [QE];refine decide_eq_false fun ⟨h0,j,hj,e⟩=>?_
 have:=ho j i hj hi e
 omega
theorem BW (ho:FF p):pO ⟨f⟩ t p=some (⟨p,cK f t p⟩,0):=by
 have R:=fZ (f:=f) (t:=t) (p:=p) h1;have bl:=R.1;have w1:aA .i64 ((p.length:Int) -1)=((p.length-1:Nat):Int):=qB (by omega) h1
 have loop: ∀n:Nat,n<=(cK f t p).length->aG jO ((n:Int) -1,f,t.1,t.2,p,tC (cK f t p) n)=some (.done (⟨p,cK f t p⟩,0)):=by
  intro n
  induction n with
  |zero=>
   intro _;refine aL ?_;unfold jO;rw [dec_f (by omega),cond_false]
   rfl
  |succ n ih=>
   intro hn;have st:=VA fok r r64 h1 h64 hk (t:=t) ho (i:=n) (by omega)
   rw [show ((n+1:Nat):Int) -1=(n:Int) by omega,bA st]
   exact ih (by omega)
 have fc:fI ⟨f⟩=some 0:=by rw [kD];exact congrArg some (iH.2 fok)
 unfold pO AQ;simp only [fc,aB,bT (rfl:(0:Int)=0),cond_false,gO r64,if_pos r,aF,dec_f (show¬(p.length:Int)<1 by omega),dec_f (show¬(64:Int)<(p.length:Int) by omega),LJ fok r r64 h1 h64 hk,cd]
 have st:=cB (body:=oY 0 p) (fun i=>(p,(p.length:Int),(i:Int),f,t.1,t.2,QD p i)) p.length (fun i hi=>by
  unfold oY;simp only [aJ (show (i:Int)<(p.length:Int) by omega),cond_true,aE p i hi,aB,aDy ho hi,cq,cd,cond_false,aU (show i<1000000000 by omega)]
  rfl)
 refine (show _=_ from st).trans (aL ?_);unfold oY;simp only [dec_f (show¬(p.length:Int)<(p.length:Int) by omega),cond_false,bT (rfl:(0:Int)=0),aV (show p.length<=1048576 by omega),aB,aF,w1,eI rfl,cond_true,PJ (0:Int) (show p.length-1<=1048576 by omega),bn]
 have:=loop (cK f t p).length (cj _)
 unfold tC at this;rw [ci,cp,show (cK f t p).length=p.length-1 by omega] at this
 rw [mD (n:=((p.length-1:Nat):Int) -1) ⟨by omega,by omega⟩]
 exact this
end
end Go.Proofs.YtbgoiokedpjgbaaGreat
