/- Plain laws (4). -/
import Derived.Test.YtlnclppkepgdmaaGreatVQM3
import Derived.Test.YtlnclppkepgdmaaGreatVQTB
import Derived.Test.YtlnclppkepgdmaaGreatVVm4
import Derived.Test.YtlnclppkepgdmaaGreatVVm3
open List renaming length_replicate->pp,length_take->rc,length_map->sp,length_singleton->ww,length_append->AC,length_drop->EQ,append_nil->If,length_set->IR,take_length->abA,pairwise_iff_getElem->abZ,mem_map->ac6,mem_range->acf,getElem_map->aci,mem_cons_of_mem->acj,take_append_of_le_length->acl,mem_singleton->aco,replicate->acp,getElem_drop->acr,append_assoc->acu,length_filterMap_le->acv,getElem_replicate->acA,length_filter_le->acE,range->acS,mem_filterMap->acV,pairwise_map->acX,getElem_take->ad2,length_range->ad7,mem_flatMap->ada,drop_length->adh,nodup_cons->ads,filter_nil->adt,length->adX
open Classical renaming not_not->ut,byContradiction->NE,not_forall->PP,not_imp->UV
open Bool renaming not_true->v6,not_false->ach,not_eq_true'->ad0,and_self->adI,true->aec,false->ael
open Nat renaming le_refl->Do,div_div_eq_div_mul->ab0,lt_trichotomy->acg,pow_succ->acy,le_of_lt->ad3,le_of_not_lt->adc,not_lt_zero->adr,zero_add->adQ
open Int renaming mul_right_comm->M2,le_of_eq->ac2,le_of_lt->acn,toNat_natCast->acs,mul_comm->acw,neg_mul->acF,sub_mul->adk,mul_eq_zero->adm,not_lt->adu,mul_nonneg->ady,zero_mul->adK
open Prod.mk renaming inj->acq
open Prod renaming ext->adE
open Option renaming some->adZ
open Decidable renaming decide->aen
namespace Go.Proofs.YtlnclppkepgdmaaGreat
open Go.Vm Classical
theorem MC (l:List Int) (hl:(adX l)<=1000000):mG l l=adZ aec:=by unfold mG;rw [bF rfl,lm];have:=bT (body:=mf) (fun i=>(l,l,(i:Int))) (adX l) (fun i hi=>by unfold mf;simp only [ay,aF (show (i:Int)<((adX l):Int) by omega),lc,aq l i hi,ao,bF rfl,lm,aQ (show i<1000000000 by omega)]);rw [show (l,l,(0:Int))=(l,l,((0:Nat):Int)) from rfl,this];refine aG ?_;unfold mf;simp only [ay,aA (show¬((adX l):Int)<((adX l):Int) by omega),lm]
theorem G8 (l:List (Int×Int)) (hl:(adX l)<=1048576):iT l l=adZ aec:=by
 unfold iT;rw [bF rfl,lm];have:=bT (body:=ke) (fun i=>(l,l,(i:Int))) (adX l) (fun i hi=>by unfold ke;simp only [ay,aF (show (i:Int)<((adX l):Int) by omega),lc,aq l i hi,ao,dy rfl,adI,v6,lm,aQ (show i<1000000000 by omega)]);rw [show (l,l,(0:Int))=(l,l,((0:Nat):Int)) from rfl,this];refine aG ?_;unfold ke;simp only [ay,aA (show¬((adX l):Int)<((adX l):Int) by omega),lm]
theorem abS (p q:Pt) (t:Int×Int):xH p q t=(p.2.1*t.2+p.2.2*t.1) - (q.2.1*t.2+q.2.2*t.1):=by rw [Cv,adk,adk];omega
theorem Ei {p q:Pt} (t:Int×Int) (h:p.1≠q.1) (hn: ¬leads p q t):leads q p t:=by unfold leads at*;rw [abS] at*;generalize p.2.1*t.2+p.2.2*t.1=a at*;generalize q.2.1*t.2+q.2.2*t.1=b at*;omega
section
variable {P : Int -> Int -> Prop} {S : Int -> Prop}
end
noncomputable def mj (f:List Pt) (es:List (Int×Int)):Int:=if¬(∀x∈es,eX x) then 8 else if¬es.Nodup then 14 else if¬(∀x∈es,ig f x) then 6 else 0
def rP (c:aI) (f:List Pt) (es:List (Int×Int)) (i:Nat):=
 (es,es,((adX es):Int),(i:Int),c.ci.1,c.ci.2,c.ii.am,c.ai.aL,c.ai.ce,c.ae.af.az,c.ae.af.be,c.ae.af.bi,c.ae.bv,c.ae.aj,c.io,f,(0:Int),(0:Int),(0:Int))
theorem G9 {c:aI} (ok:aU c) {f:List Pt} (gx:bM f) {es:List (Int×Int)} (hl:(adX es)<=1000) {r:aI×Int} (hr:mj f es=0->qB c ⟨f⟩ es=adZ r):
 nH c ⟨f⟩ es=adZ (if mj f es=0 then r else (eu,mj f es)):=by
 have bd:=ok.bd;have ab:=ok.ky.bd;have sl:=ok.ky.so.fl;have sn:=ok.ky.so.n2;have su:=ok.ky.so.ul;have el:aen (((adX es):Int)<((adX es):Int))=ael:=aA (by omega);have hc:fB c=adZ 0:=by rw [jQ ok.fit,ls ok]
 have hf:eD ⟨f⟩=adZ 0:=by rw [jP];exact congrArg adZ (j0.2 gx)
 have tw:sN (aI.mk (c.ci.1,c.ci.2) (Field.mk c.ii.am) (bm.mk c.ai.aL c.ai.ce) (aK.mk (aS.mk c.ae.af.az c.ae.af.be c.ae.af.bi) c.ae.bv c.ae.aj) c.io)=adZ c:=by
  unfold sN;simp only [bk (show (adX c.ii.am)<=1048576 by omega),bk (show (adX c.ai.ce)<=1048576 by omega),bk (show (adX c.io)<=1048576 by omega),bk (show (adX c.ae.bv)<=1048576 by omega),bk (show (adX c.ae.aj)<=1048576 by omega),
   bk (show (adX c.ae.af.az)<=1048576 by omega),bk (show (adX c.ae.af.be)<=1048576 by omega),bk (show (adX c.ae.af.bi)<=1048576 by omega),ao]
 have k3: ∀e2:aI×Int,aB dW (rP c f es 0)=adZ (.done e2)->aB dX (rP c f es 0)=adZ (if∀i,i<adX es->eX es[i]! then e2 else (eu,8)):=by
  intro e2 h2;refine nj (body:=dX) (fun i=>rP c f es i) (adX es) (fun i=>eX es[i]!) (r:=(eu,8)) (e:=e2) (fun i hi=>?_) ?_
  · have e1:aen ((i:Int)<((adX es):Int))=aec:=aF (by omega)
    unfold dX rP eX;simp only [e1,lc,aq es i hi,ao,aQ (show i<1000000000 by omega)];generalize es[i]! =x
    by_cases a1:x.1<0
    · rw [aF a1];exact ⟨fun _=>rfl,fun h=>by omega⟩
    rw [aA a1]
    by_cases a2:x.2<0
    · rw [aF a2];exact ⟨fun _=>rfl,fun h=>by omega⟩
    rw [aA a2]
    by_cases a3:65535<x.1
    · rw [aF a3];exact ⟨fun _=>rfl,fun h=>by omega⟩
    rw [aA a3]
    by_cases a4:65535<x.2
    · rw [aF a4];exact ⟨fun _=>rfl,fun h=>by omega⟩
    rw [aA a4]
    by_cases a5:x.1=x.2
    · rw [dy a5];exact ⟨fun _=>rfl,fun h=>absurd a5 h.2.2.2.2⟩
    rw [dE a5];exact ⟨fun h=>absurd ⟨by omega,by omega,by omega,by omega,a5⟩ h,fun _=>rfl⟩
  unfold dX rP
  simp only [ay,el,lm];exact h2
 have k2: ∀e1:aI×Int,aB eI (rP c f es 0)=adZ (.done (.done e1))->aB dW (rP c f es 0)=adZ (.done (if∀i,i<adX es->es[i]!∉es.take i then e1 else (eu,14))):=by
  intro e0 h2;have:=nj (body:=dW) (fun i=>rP c f es i) (adX es) (fun i=>es[i]!∉es.take i) (r:= .done (eu,14)) (e:= .done e0) (fun i hi=>by
   have e1:aen ((i:Int)<((adX es):Int))=aec:=aF (by omega);unfold dW rP;simp only [e1,lc,aq es i hi,iU es i (by omega),ao,mM _ _ (show (es.take i).length<=1000000 by rw [rc];omega),aQ (show i<1000000000 by omega)]
   by_cases h:es[i]!∈es.take i
   · rw [aF h];exact ⟨fun _=>rfl,fun k=>absurd h k⟩
   · rw [aA h];exact ⟨fun k=>absurd h k,fun _=>rfl⟩) (by
   unfold dW rP;simp only [ay,el,lm];exact h2)
  refine this.trans ?_
  by_cases hb: ∀i,i<adX es->es[i]!∉es.take i
  · rw [ls hb,ls hb]
  rw [lw hb,lw hb]
 have Vl: ∀i,i<adX es->(¬ig f es[i]!->eI (rP c f es i)=adZ (.done (.done (.done (eu,6)))))/\(ig f es[i]!->eI (rP c f es i)=adZ (.next (rP c f es (i+1)))):=by
  intro i hi;have e1:aen ((i:Int)<((adX es):Int))=aec:=aF (by omega);obtain ⟨p,e,a1,a2⟩:=As gx (es[i]!).1;obtain ⟨q,g,b1,b2⟩:=As gx (es[i]!).2;unfold eI rP ig;simp only [e1,lc,aq es i hi,ao,a1,b1,aQ (show i<1000000000 by omega)]
  by_cases h1:mA f (es[i]!).1
  · rw [bF (a2.2 h1)]
    by_cases h2:mA f (es[i]!).2
    · rw [bF (b2.2 h2)]
      exact ⟨fun h=>absurd ⟨h1,h2⟩ h,fun _=>rfl⟩
    rw [cO (fun h=>h2 (b2.1 h))]
    exact ⟨fun _=>rfl,fun h=>absurd h.2 h2⟩
  rw [cO (fun h=>h1 (a2.1 h))]
  exact ⟨fun _=>rfl,fun h=>absurd h.1 h1⟩
 have start:nH c ⟨f⟩ es=aB dX (rP c f es 0):=by unfold nH;simp only [hc,ao,show ((0:Int) !=0)=ael from rfl,lm,hf];rfl
 rw [start]
 by_cases h1: ∀x∈es,eX x
 case neg=>
  have er:mj f es=8:=by unfold mj;rw [ls h1]
  rw [er,lw (by omega)];have:=c7 (body:=dX) (fun i=>rP c f es i) (adX es) (fun i=> ¬eX es[i]!) (r:=(eu,8)) (e:=r);have k3':=k3;rw [y7 (P:=eX)] at h1;obtain ⟨i,h⟩:=PP.1 h1;obtain ⟨hi,hx⟩:=UV.1 h;obtain ⟨m,m1,m2,m3⟩:=least (c:=fun i=> ¬eX es[i]!) ⟨i,hi,hx⟩;have go: ∀j,j<adX es->(¬eX es[j]!->dX (rP c f es j)=adZ (.done (eu,8)))/\(eX es[j]!->dX (rP c f es j)=adZ (.next (rP c f es (j+1)))):=by
   intro j hj;have e1:aen ((j:Int)<((adX es):Int))=aec:=aF (by omega);unfold dX rP eX;simp only [e1,lc,aq es j hj,ao,aQ (show j<1000000000 by omega)];generalize es[j]! =x
   by_cases a1:x.1<0
   · rw [aF a1];exact ⟨fun _=>rfl,fun h=>by omega⟩
   rw [aA a1]
   by_cases a2:x.2<0
   · rw [aF a2];exact ⟨fun _=>rfl,fun h=>by omega⟩
   rw [aA a2]
   by_cases a3:65535<x.1
   · rw [aF a3];exact ⟨fun _=>rfl,fun h=>by omega⟩
   rw [aA a3]
   by_cases a4:65535<x.2
   · rw [aF a4];exact ⟨fun _=>rfl,fun h=>by omega⟩
   rw [aA a4]
   by_cases a5:x.1=x.2
   · rw [dy a5];exact ⟨fun _=>rfl,fun h=>absurd a5 h.2.2.2.2⟩
   rw [dE a5];exact ⟨fun h=>absurd ⟨by omega,by omega,by omega,by omega,a5⟩ h,fun _=>rfl⟩
  rw [bT (body:=dX) (fun i=>rP c f es i) m fun j hj=>(go j (by omega)).2 (ut.1 (m3 j hj))];exact aG ((go m m1).1 m2)
 have MY:=(y7 (P:=eX)).1 h1
 by_cases h2:es.Nodup
 case neg=>
  have er:mj f es=14:=by unfold mj;rw [lw (ut.2 h1),ls h2]
  rw [er,lw (by omega)];have Q1:=h2;rw [G5] at Q1;obtain ⟨i,h⟩:=PP.1 Q1;obtain ⟨hi,hx⟩:=UV.1 h;obtain ⟨m,m1,m2,m3⟩:=least (c:=fun i=> ¬es[i]!∉es.take i) ⟨i,hi,hx⟩;have go: ∀j,j<adX es->(es[j]!∈es.take j->dW (rP c f es j)=adZ (.done (.done (eu,14))))/\(es[j]!∉es.take j->dW (rP c f es j)=adZ (.next (rP c f es (j+1)))):=by
   intro j hj;have e1:aen ((j:Int)<((adX es):Int))=aec:=aF (by omega);unfold dW rP;simp only [e1,lc,aq es j hj,iU es j (by omega),ao,mM _ _ (show (es.take j).length<=1000000 by rw [rc];omega),aQ (show j<1000000000 by omega)]
   by_cases h:es[j]!∈es.take j
   · rw [aF h];exact ⟨fun _=>rfl,fun k=>absurd h k⟩
   rw [aA h];exact ⟨fun k=>absurd k h,fun _=>rfl⟩
  have l2:aB dW (rP c f es 0)=adZ (.done (eu,14)):=by rw [bT (body:=dW) (fun i=>rP c f es i) m fun j hj=>(go j (by omega)).2 (ut.1 (m3 j hj))];exact aG ((go m m1).1 (ut.1 m2))
  rw [k3 _ l2,ls MY]
 have Q1:=G5.1 h2
 by_cases h3: ∀x∈es,ig f x
 case neg=>
  have er:mj f es=6:=by unfold mj;rw [lw (ut.2 h1),lw (ut.2 h2),ls h3]
  rw [er,lw (by omega)];have h3':=h3;rw [y7 (P:=ig f)] at h3';obtain ⟨i,h⟩:=PP.1 h3';obtain ⟨hi,hx⟩:=UV.1 h;obtain ⟨m,m1,m2,m3⟩:=least (c:=fun i=> ¬ig f es[i]!) ⟨i,hi,hx⟩;have l1:aB eI (rP c f es 0)=adZ (.done (.done (eu,6))):=by rw [bT (body:=eI) (fun i=>rP c f es i) m fun j hj=>(Vl j (by omega)).2 (ut.1 (m3 j hj))];exact aG ((Vl m m1).1 m2)
  rw [k3 _ (k2 _ l1),ls MY,ls Q1]
 have h3':=(y7 (P:=ig f)).1 h3;have er:mj f es=0:=by unfold mj;rw [lw (ut.2 h1),lw (ut.2 h2),lw (ut.2 h3)]
 rw [er,ls rfl];have l1:aB eI (rP c f es 0)=adZ (.done (.done r)):=by rw [bT (body:=eI) (fun i=>rP c f es i) (adX es) fun j hj=>(Vl j hj).2 (h3' j hj)];refine aG ?_;unfold eI rP;simp only [el,lm,tw,ao,hr er]
 rw [k3 _ (k2 _ l1),ls MY,ls Q1]
theorem tk {l:List Int} {m:Nat} {x:Int} (h:(adX l)=m):(l++[x]).take m=l:=by rw [<- h,List.take_left]
section
variable {k : adb} {f : List Pt} {m n0 : Nat} {x : Int}
end
section
variable {k : adb} {P : Pt} {f : List Pt} {m : Nat}
end
end Go.Proofs.YtlnclppkepgdmaaGreat
namespace Go.Proofs.YtlnclppkepgdmaaGreat
open Go.Vm
abbrev Nd:=Int×Int×Int
end Go.Proofs.YtlnclppkepgdmaaGreat
namespace Go.Proofs.YtlnclppkepgdmaaGreat
open Go.Vm Classical
section
variable {f : List Pt} {t : Int × Int} {N : List Nd} {r : Int}
end
def o1 (f:List Pt) (t:Int×Int) (e c:Nat) (i:Nat) (root:Int) (N:List Nd) (E:List Int) (left:Int):=
 (e,c,(i:Int),f,((adX f):Int),(i:Int),f,t.1,t.2,(0:Int),root,N,E,(f[i]!).1,(f[i]!).2.1,(f[i]!).2.2,(f[i]!).1,left,(-1:Int))
section
variable {f : List Pt} {t : Int × Int} {N : List Nd} {r : Int}
end
theorem abT (c:aI) (es:List (Int×Int)) (h1:(adX es)<=1000000) (_:(adX c.ai.ce)<=1000000):
 yS c es=adZ (aen (adX es=adX c.ai.ce/\ ∀i,i<adX c.ai.ce->(c.ai.ce[i]!).2∈es)):=by
 unfold yS fP gQ;simp only [ay]
 by_cases h0:(adX es)=adX c.ai.ce
 case neg=>rw [dE (by omega),lm,aA (fun q=>h0 q.1)]
 rw [dy (by omega),lc];have key:=jZ (body:=bE) (fun i=>(c.ai.ce,es,((adX c.ai.ce):Int),(i:Int))) (adX c.ai.ce) (fun i=>(c.ai.ce[i]!).2∉es) (fun i=>(i:Int)) (e:= -1) (fun i hi=>by
  unfold bE Al;simp only [aF (show (i:Int)<((adX c.ai.ce):Int) by omega),lc,aq c.ai.ce i hi,ao,mM es _ h1,aQ (show i<1000000000 by omega)];refine ⟨fun q=>?_,fun q=>?_⟩
  · rw [aA q];rfl
  · rw [aF (ut.1 q)];rfl) (by
  unfold bE;simp only [aA (show¬((adX c.ai.ce):Int)<((adX c.ai.ce):Int) by omega),lm])
 by_cases hx: ∀i,i<adX c.ai.ce->(c.ai.ce[i]!).2∈es
 · rw [show aB bE (c.ai.ce,es,((adX c.ai.ce):Int),0)=_ from key.2 (fun i hi=>ut.2 (hx i hi)),ao,ao,aA (by omega),aF ⟨h0,hx⟩]
   rfl
 obtain ⟨i,hi⟩:=PP.1 hx
 obtain ⟨hi,hn⟩:=UV.1 hi;obtain ⟨m,m1,m2,m3⟩:=least (c:=fun i=>(c.ai.ce[i]!).2∉es) ⟨i,hi,hn⟩;rw [show aB bE (c.ai.ce,es,((adX c.ai.ce):Int),0)=_ from key.1 m m1 m2 m3,ao,ao,aF (by omega),aA (fun w=>hx w.2)];rfl
theorem Vn {f:List Pt} (hs:iQ f) {q:Pt} (h:q∈f):bW f q.1=q:=by obtain ⟨i,hi,rfl⟩:=aP.1 h;exact Cr hs hi rfl
theorem Qc {f:List Pt} (hs:iQ f) {x:Int} (h:mA f x):bW f x∈f/\(bW f x).1=x:=by obtain ⟨i,hi,rfl⟩:=h;rw [Vn hs (aV hi)];exact ⟨aV hi,rfl⟩
def xS (c:aI) (to:Int×Int):Prop:=0<adX c.ae.bv/\dP (Ev.at c.ae.bv[0]!) to<=0
theorem Cx {c:aI} (ok:aU c) {to:Int×Int} (rt:aX to) (kr:jf to) (le: ¬dP to c.ci<0):qC c to=adZ (aen (xS c to),0):=by
 unfold qC;rw [jQ ok.fit,ls ok,ao,dz kr,ls rt,ao,bF (by decide),lm,Dt kr ok.fQ,ls ⟨rt,ok.iR⟩,ao,aA le,lm];unfold Bb;rw [iV _ ok.fit.ag,ls ok.ky,ao,bF rfl,lm]
 by_cases h:0<adX c.ae.bv
 · have ev:=ok.ky.ev 0 h
   have g:=aq c.ae.bv 0 h;rw [show ((0:Nat):Int)=0 from rfl] at g;rw [dE (by rw [ay];omega),lm,g,ao,ao,bF rfl,lm,Dt ev.2.1 kr,ls ⟨ev.1,rt⟩,ao]
   congr 2
   by_cases h2:dP (Ev.at c.ae.bv[0]!) to<=0
   · rw [aF (show xS c to from ⟨h,h2⟩),aF h2]
   rw [aA (fun k:xS c to=>h2 k.2),aA h2]
 rw [dy (by rw [ay];omega),lc,ao,aA (fun k:xS c to=>h k.1)]
 rfl
theorem MD {c:bm} (ok:ek c) {i:Nat} (hi:i<adX c.ce):L4 c (c.ce[i]!).1=adZ (i:Int):=by
 have hl:=ok.len;have k:=jZ (body:=uo) (fun j=>((c.ce[i]!).1,(j:Int),c.aL,c.ce)) (adX c.ce) (fun j=>(c.ce[j]!).1=(c.ce[i]!).1) (fun j=>(j:Int)) (e:= -1) (fun j hj=>by
  unfold uo;simp only [ay,aF (show (j:Int)<((adX c.ce):Int) by omega),lc,aq c.ce j hj,ao,aQ (show j<1000000000 by omega)];refine ⟨fun h=>?_,fun h=>?_⟩
  · rw [dy h];rfl
  · rw [dE h];rfl) (by
  unfold uo;simp only [ay,aA (show¬((adX c.ce):Int)<((adX c.ce):Int) by omega),lm])
 exact k.1 i hi rfl fun j hj e=>by have:=ok.up j i hj hi;omega
abbrev DF (c:aI) (t:Int×Int):aI:=⟨t,c.ii,c.ai,c.ae,c.io⟩
theorem Vo {c:aI} (ok:aU c) {to:Int×Int} (rt:aX to) (kr:jf to) (le: ¬dP to c.ci<0) (io:xS c to):
 ∃(x:Int×Int) (c1:aI),gF c to=adZ (c1,c.ae.bv[0]!,x,0)/\Ch c=adZ (c1,c.ae.bv[0]!,x)/\aU c1/\c1.ii=c.ii/\ig c.ii.am x/\fC c1=fC c+1/\c1.ci=Ev.at c.ae.bv[0]!:=by
 obtain ⟨i,c',hi,num,r1,r2,qO,hf,hc,_⟩:=xk ok io.1;have g:=aq c.ae.bv 0 io.1;rw [show ((0:Nat):Int)=0 from rfl] at g;have HZ:(adX c'.ai.ce)=adX c.ai.ce-1:=by rw [hc];exact List.length_eraseIdx_of_lt hi
 have hcn:c'.ai.aL=c.ai.aL:=by rw [hc];rfl
 refine ⟨(c.ai.ce[i]!).2,DF c' (Ev.at c.ae.bv[0]!),?_,?_,qO,hf,ok.known i hi,?_,rfl⟩
 · unfold gF
   rw [Cx ok rt kr le,ao,dy rfl,lc,aF io,v6,lm,bF rfl,lm,g,ao,r1,ao,bF rfl,lm]
 · unfold Ch
   rw [g,ao,show (c.ae.bv[0]!).2.2.1=(c.ai.ce[i]!).1 from num.symm,MD ok.s8 hi,ao,aq c.ai.ce i hi,ao,num,r2,ao]
 unfold fC
 show c'.ai.aL- ((adX c'.ai.ce):Int)=_;rw [HZ,hcn];omega
theorem Vp {c:aI} (ok:aU c) {to:Int×Int} (rt:aX to) (kr:jf to) (le: ¬dP to c.ci<0) (io: ¬xS c to):gF c to=adZ (eu,(0,0,0,0,0),(0,0),6):=by unfold gF;rw [Cx ok rt kr le,ao,dy rfl,lc,aA io];rfl
theorem abU {c:aI} (ok:aU c) {to:Int×Int} (rt:aX to) (kr:jf to) (le: ¬dP to c.ci<0) (io: ¬xS c to):wQ c to=adZ (DF c to,0):=by unfold wQ;rw [Cx ok rt kr le,ao,dy rfl,lc,aA io,lm,bF rfl,lm,fV ok,ao]
theorem mn {c:aI} (ok:aU c): -200<=fC c/\fC c<=1000000:=by have h1:=ok.s8.len;have h2:=ok.s8.n0;have h3:=ok.s8.n1;unfold fC;omega
theorem RQ {c:aI} (ok:aU c) {to:Int×Int} (rt:aX to) (io: ¬xS c to) {y:qP} (hy:y∈c.ai.ce) (is:(bo c.ii.am y.2 c.ci).2=aec):
 to.1*(bo c.ii.am y.2 c.ci).1.2<(bo c.ii.am y.2 c.ci).1.1*to.2:=by
 obtain ⟨d,hd,_,ev⟩:=ok.Ar.has _ hy is;obtain ⟨v,hv,he⟩:=aP.1 ev;have tl:=DE ok.ky v hv;have h0:0<(adX c.ae.bv):=by omega
 have e0:=(ok.ky.ev 0 h0).1.1;have ev':=(ok.ky.ev v hv).1.1;rw [he] at tl ev';have n1: ¬dP (bo c.ii.am y.2 c.ci).1 (Ev.at c.ae.bv[0]!)<0:=fun q=>tl (.inl q)
 rw [rY] at n1;have n2: ¬dP (Ev.at c.ae.bv[0]!) to<=0:=fun q=>io ⟨h0,q⟩
 have n3:to.1*(Ev.at c.ae.bv[0]!).2<(Ev.at c.ae.bv[0]!).1*to.2:=by unfold dP at n2;rcases c6 ((Ev.at c.ae.bv[0]!).1*to.2) (to.1*(Ev.at c.ae.bv[0]!).2) with ⟨a,b⟩|⟨a,b⟩|⟨a,b⟩<;>omega
 exact mK rt.1 e0 ev' n3 (adu.1 n1)
theorem Vq {c:aI} (ok:aU c) {to:Int×Int} (rt:aX to) (kr:jf to) (le: ¬dP to c.ci<0) (io: ¬xS c to):aU (DF c to):=by
 have pt:=fun (x:Int×Int) (hb:ig c.ii.am x)=>And.intro (cU ok.kQ hb.2).1 (cU ok.kQ hb.1).1
 refine ⟨rt,kr,ok.kQ,ok.s8,ok.ky,ok.G1,ok.hd,ok.known,?_⟩;refine aR.time (t:=c.ci) (fun y hy=>?_) ok.Ar;obtain ⟨j,hj,rfl⟩:=aP.1 hy;have hb:=ok.known j hj;refine G6 (pt _ hb).1 (pt _ hb).2 ok.iR rt (by rw [rY] at le;exact adu.1 le) (fun is=>?_);exact acn (RQ ok rt io hy is)
theorem abV {c:aI} {s:Int×Int} (h1:gE c=adZ c) (h2:gE (DF c s)=adZ (DF c s)) {n:Int} {c':aI} {x:Int×Int} (h:fK c n=adZ (c',x,0)):fK (DF c s) n=adZ (DF c' s,x,0):=by
 unfold fK at h ⊢;rw [h1] at h;rw [h2];dsimp only at h ⊢;cases e0:qA c.ai n with
 |none=>rw [e0] at h;cases h
 |some a0=>
  rw [e0,ao] at h;rw [ao];cases e1:(a0.2.2 !=0) with
  |true=>
   rw [e1,lc] at h;injection h with h;have:a0.2.2=0:=by rw [(acq h).2]
   rw [bF this] at e1;cases e1
  |false=>
   rw [e1,lm,ao] at h;rw [lm,ao];cases e2:lJ c.io n with
   |none=>rw [e2] at h;cases h
   |some a2=>
    rw [e2,ao] at h;rw [ao];cases e3:a2.2 with
    |false=>rw [e3,lm] at h;rw [lm];injection h with h;obtain ⟨ha,hb⟩:=acq h;rw [<- ha,<- hb]
    |true=>
     rw [e3,lc] at h;rw [lc];cases e4:aH c.io a2.1 with
     |none=>rw [e4] at h;cases h
     |some a3=>
      rw [e4,ao] at h;rw [ao];cases e5:jl c.ae a3.2 with
      |none=>rw [e5] at h;cases h
      |some a4=>
       rw [e5,ao] at h;rw [ao];cases e6:(a4.2.2 !=0) with
       |true=>rw [e6,lc] at h;injection h with h;have:a4.2.2=0:=(acq (acq h).2).2;rw [bF this] at e6;cases e6
       |false=>
        rw [e6,lm] at h;rw [lm];cases e7:gX (a2.1,aa .i64 (a2.1+1),c.io) with
        |none=>rw [e7] at h;cases h
        |some a5=>rw [e7,ao] at h;rw [ao];injection h with h;obtain ⟨ha,hb⟩:=acq h;rw [<- ha,<- hb]
theorem y8 {c:aI} (ok:aU c) {to:Int×Int} (rt:aX to) (kr:jf to) (le: ¬dP to c.ci<0) (io:xS c to) {c':aI} {x:Int×Int} (hd:fK c (Ev.num c.ae.bv[0]!)=adZ (c',x,0)):
 gF c to=adZ (DF c' (Ev.at c.ae.bv[0]!),c.ae.bv[0]!,x,0):=by
 have g:=aq c.ae.bv 0 io.1;rw [show ((0:Nat):Int)=0 from rfl] at g;unfold gF;rw [Cx ok rt kr le,ao,dy rfl,lc,aF io,v6,lm,bF rfl,lm,g,ao,hd,ao,bF rfl,lm]
theorem EZ {a b:Int×Int}: ¬dP a b<0↔b.1*a.2<=a.1*b.2:=by rw [rY];omega
theorem E0 {a b:Int×Int}:dP a b<=0↔a.1*b.2<=b.1*a.2:=by unfold dP;rcases c6 (a.1*b.2) (b.1*a.2) with ⟨x,y⟩|⟨x,y⟩|⟨x,y⟩<;>omega
theorem Cy {a b c:Int×Int} (ha:aX a) (hb:aX b) (hc:aX c) (h1: ¬dP b a<0) (h2: ¬dP c b<0): ¬dP c a<0:=by rw [EZ] at*;exact gI ha.1 hb.1 hc.1 h1 h2
theorem xS.more {c:aI} (ok:aU c) {s t:Int×Int} (rs:aX s) (rt:aX t) (st: ¬dP t s<0) (h:xS c s):xS c t:=by refine ⟨h.1,?_⟩;have e0:=(ok.ky.ev 0 h.1).1.1;have h2:=h.2;rw [E0] at*;rw [EZ] at st;exact gI e0 rs.1 rt.1 h2 st
section
variable {s t : Int × Int}
end
noncomputable def pos (l:List Int) (x:Int):Nat:=if h: ∃k,k<adX l/\l[k]! =x then h.choose else 0
section
variable (f : List Pt)
end
section
variable {f : List Pt}
end
theorem ME (p q:Pt) (t t':Int×Int):xH p q t'*t.2=xH p q t*t'.2+(p.2.2-q.2.2)*(t'.1*t.2-t.1*t'.2):=by unfold xH;generalize p.2.1-q.2.1=a;generalize p.2.2-q.2.2=b;simp only [Int.mul_add,Int.mul_sub,Int.mul_assoc,acw,Int.mul_left_comm];omega
theorem E1 (p q:Pt) (t:Int×Int):xH q p t= -xH p q t:=by unfold xH;rw [show q.2.1-p.2.1= -(p.2.1-q.2.1) by omega,show q.2.2-p.2.2= -(p.2.2-q.2.2) by omega,acF,acF];omega
theorem RR {a b:Int} (hb:0<b) (h:0<=a*b):0<=a:=NE fun hn=>by have:=Int.mul_neg_of_neg_of_pos (show a<0 by omega) hb;omega
theorem RS {p q:Pt} {t t':Int×Int} (d:1<=t.2) (d':1<=t'.2) (le:t.1*t'.2<=t'.1*t.2) (hb:q.2.2<=p.2.2) (h:0<=xH p q t):0<=xH p q t':=by refine RR (show 0<t.2 by omega) ?_;rw [ME p q t t'];have a:=ady h (show 0<=t'.2 by omega);have b:=ady (show 0<=p.2.2-q.2.2 by omega) (show 0<=t'.1*t.2-t.1*t'.2 by omega);omega
structure Kv (f:List Pt) (x:Int×Int) (t:Int×Int):Prop where
 both:ig f x
 zero:xH (bW f x.2) (bW f x.1) t=0
 OG:(bW f x.2).2.2<(bW f x.1).2.2
theorem Kv.behind {f:List Pt} {x t to:Int×Int} (h:Kv f x t) (d:1<=t.2) (d':1<=to.2) (le:t.1*to.2<=to.1*t.2):leads (bW f x.1) (bW f x.2) to:=by
 have z:=h.zero;have s:=h.OG;have n:=E1 (bW f x.2) (bW f x.1) t;have g:=RS (p:=bW f x.1) (q:=bW f x.2) d d' le (by omega) (by omega);unfold leads
 by_cases e:xH (bW f x.1) (bW f x.2) to=0
 · exact .inr ⟨e,.inl s⟩
 exact .inl (by omega)
theorem Kv.once {f:List Pt} {x t u:Int×Int} (h:Kv f x t) (k:Kv f x u):t.1*u.2=u.1*t.2:=by
 have z:=ME (bW f x.2) (bW f x.1) t u;have s:=h.OG;rw [h.zero,k.zero,adK,adK,Int.zero_add] at z;rcases adm.1 z.symm with h|h
 · omega
 omega
theorem Kv.later {f:List Pt} {x t ci:Int×Int} (h:Kv f x t) (d:1<=t.2) (d':1<=ci.2) (ld:leads (bW f x.2) (bW f x.1) ci):ci.1*t.2<t.1*ci.2:=by
 refine NE fun hn=>?_
 have b:=h.behind d d' (by omega);have n:=E1 (bW f x.2) (bW f x.1) ci;unfold leads at b ld;have s:=h.OG;omega
structure EvL (f:List Pt) (ci to:Int×Int) (E:List ((Int×Int)×(Int×Int))):Prop where
 ev: ∀e∈E,Kv f e.1 e.2/\aX e.2/\ci.1*e.2.2<e.2.1*ci.2/\e.2.1*to.2<=to.1*e.2.2
 ch: ∀i,i+1<adX E->(E[i]!).2.1*(E[i+1]!).2.2<=(E[i+1]!).2.1*(E[i]!).2.2/\(E[i]!).1≠(E[i+1]!).1
theorem G' {p q:Pt} (hp:ff p) (hq:ff q) (h:p.1≠q.1):eC p q=adZ (if p.2.2=q.2.2 then ((0,0),6) else (met p q,0)):=by
 unfold eC;obtain ⟨w1,w2,i1,i2⟩:=Du hp hq;rw [qg (by constructor<;>constructor<;>decide),ls ⟨hp,hq,L7⟩,lw h];simp only [ao,show ((0:Int) !=0)=ael from rfl,lm]
 by_cases e:p.2.2=q.2.2
 · rw [ls e,dy e,lc]
 rw [lw e,dE e,lm,w1,w2,P2 i1 i2,(uP hp hq e).1]
 rfl
def Kw (a:xY):Int×Int:=(a.1,a.2.1)
def uX (a b:xY):Int:=if dP (Kw a) (Kw b)≠0 then dP (Kw a) (Kw b) else if iO a.2.2.1 b.2.2.1≠0 then iO a.2.2.1 b.2.2.1 else iO a.2.2.2 b.2.2.2
structure zV (a:xY):Prop where
 rat:aX (Kw a)
 kr:jf (Kw a)
theorem abW (a b c:Int):lF [a,b,c]=adZ (if a≠0 then a else if b≠0 then b else c):=by
 unfold lF
 by_cases h1:a=0
 · subst h1
   rw [aT (y:=(0,[0,b,c],3,1)) (by rfl)]
   by_cases h2:b=0
   · subst h2
     rw [aT (y:=(0,[0,0,c],3,2)) (by rfl)]
     by_cases h3:c=0
     · subst h3
       rw [aT (y:=(0,[0,0,0],3,3)) (by rfl)];exact aG rfl
     refine aG ?_
     show (bif aen ((2:Int)<3) then _ else _)=_;simp only [aH];simp;rw [cO h3];rfl
   refine aG ?_
   show (bif aen ((1:Int)<3) then _ else _)=_;simp only [aH];simp;rw [cO h2,lw h2];rfl
 refine aG ?_
 show (bif aen ((0:Int)<3) then _ else _)=_;simp only [aH];simp;rw [cO h1,lw h1];rfl
theorem Cz {a b:Int×Int} (ha:jf a) (hb:jf b) (ra:aX a) (rb:aX b):ng a b=adZ (dP a b):=by unfold ng;rw [Dt ha hb,ls ⟨ra,rb⟩];rfl
theorem MF {a b:xY} (ha:zV a) (hb:zV b):fJ a b=adZ (uX a b):=by unfold fJ uX;rw [show (a.1,a.2.1)=Kw a from rfl,show (b.1,b.2.1)=Kw b from rfl,Cz ha.kr hb.kr ha.rat hb.rat];simp only [ao,iE,abW]
theorem zL {a b:xY}:uX a b<0↔a.1*b.2.1<b.1*a.2.1\/(a.1*b.2.1=b.1*a.2.1/\(a.2.2.1<b.2.2.1\/(a.2.2.1=b.2.2.1/\a.2.2.2<b.2.2.2))):=by
 unfold uX;have h1:dP (Kw a) (Kw b)=iO (a.1*b.2.1) (b.1*a.2.1):=rfl;rw [h1];rcases c6 (a.1*b.2.1) (b.1*a.2.1) with ⟨h,e⟩|⟨h,e⟩|⟨h,e⟩<;>rw [e]
 · simp;omega
 · rcases c6 a.2.2.1 b.2.2.1 with ⟨h2,e2⟩|⟨h2,e2⟩|⟨h2,e2⟩<;>rw [e2]
   · simp;omega
   · rcases c6 a.2.2.2 b.2.2.2 with ⟨h3,e3⟩|⟨h3,e3⟩|⟨h3,e3⟩<;>rw [e3]<;>simp<;>omega
   simp;omega
 simp;omega
theorem Ha {a b c:xY} (ha:zV a) (hb:zV b) (hc:zV c) (h1:uX a b<0) (h2:uX b c<0):uX a c<0:=by
 rw [zL] at*;have da:1<=a.2.1:=ha.rat.1;have db:1<=b.2.1:=hb.rat.1;have dc:1<=c.2.1:=hc.rat.1;rcases h1 with h1|⟨e1,h1⟩<;>rcases h2 with h2|⟨e2,h2⟩
 · exact .inl (mK da db dc h1 (acn h2))
 · exact .inl (mK da db dc h1 (ac2 e2))
 · exact .inl (oK da db dc (ac2 e1) h2)
 right
 have x1:=gI da db dc (ac2 e1) (ac2 e2);have x2:=gI dc db da (ac2 e2.symm) (ac2 e1.symm);exact ⟨by omega,by omega⟩
theorem Ej {a b c:xY} (ha:zV a) (hb:zV b) (hc:zV c) (h1: ¬uX a b<0) (h2: ¬uX b c<0): ¬uX a c<0:=by
 rw [zL] at*;have da:1<=a.2.1:=ha.rat.1;have db:1<=b.2.1:=hb.rat.1;have dc:1<=c.2.1:=hc.rat.1;intro h;have x:b.1*a.2.1<=a.1*b.2.1:=by omega
 have y:c.1*b.2.1<=b.1*c.2.1:=by omega
 have z:=gI dc db da y x;have e:a.1*c.2.1=c.1*a.2.1:=by omega
 have x1:=gI da dc db (show a.1*c.2.1<=c.1*a.2.1 by omega) y;have y1:=gI db da dc x (show a.1*c.2.1<=c.1*a.2.1 by omega);omega
theorem Vr {a b:xY} (ha:zV a) (hb:zV b) (h1: ¬uX a b<0) (h2: ¬uX b a<0):a=b:=by
 rw [zL] at*;have e:=EY ha.rat hb.rat (show a.1*b.2.1=b.1*a.2.1 by omega);unfold Kw at e;injection e with e1 e2;have e3:a.2.2.1=b.2.2.1:=by omega
 have e4:a.2.2.2=b.2.2.2:=by omega
 exact adE e1 (adE e2 (adE e3 e4))
theorem OH {l:List xY} (h: ∀x∈l,zV x): ∃m,B' fJ l=adZ m/\m.Perm l/\m.Pairwise fun x y=> ¬uX y x<0:=by
 have e: ∀x∈l,∀y∈l,(fJ x y).getD 0=uX x y:=fun x hx y hy=>by rw [MF (h x hx) (h y hy)];rfl
 refine ⟨l.mergeSort fun x y=>!aen ((fJ y x).getD 0<0),?_,List.mergeSort_perm _ _,?_⟩
 · unfold B'
   rw [ls];refine ⟨fun x hx y hy=>⟨_,MF (h x hx) (h y hy)⟩,fun x hx=>?_,fun x hx y hy z hz h1 h2=>?_,fun x hx y hy z hz h1 h2=>?_,fun x hx y hy h1 h2=>?_⟩
   · rw [e x hx x hx,zL];omega
   · rw [e x hx y hy] at h1
     rw [e y hy z hz] at h2;rw [e x hx z hz];exact Ha (h x hx) (h y hy) (h z hz) h1 h2
   · rw [e x hx y hy] at h1
     rw [e y hy z hz] at h2;rw [e x hx z hz];exact Ej (h x hx) (h y hy) (h z hz) h1 h2
   rw [e x hx y hy] at h1
   rw [e y hy x hx] at h2;exact Vr (h x hx) (h y hy) h1 h2
 obtain ⟨l',kZ⟩: ∃l':List {a:xY // zV a},l'.map (fun x=>x.1)=l:=⟨l.attach.map fun x=>⟨x.1,h x.1 x.2⟩,by rw [List.map_map];exact List.attach_map_subtype_val l⟩
 have hm:(l'.mergeSort fun x y=>!aen (uX y.1 x.1<0)).map (fun x=>x.1)=l.mergeSort fun x y=>!aen ((fJ y x).getD 0<0):=by
  rw [<- kZ];refine List.map_mergeSort fun a ha b hb=>?_
  have ma:a.1∈l:=by rw [<- kZ];exact ac6.2 ⟨a,ha,rfl⟩
  have mb:b.1∈l:=by rw [<- kZ];exact ac6.2 ⟨b,hb,rfl⟩
  rw [e b.1 mb a.1 ma]
 rw [<- hm,acX];have:=List.pairwise_mergeSort (le:=fun x y:{a:xY // zV a}=>!aen (uX y.1 x.1<0)) (fun a b c h1 h2=>by
  simp only [ad0,decide_eq_false_iff_not] at*;exact Ej c.2 b.2 a.2 h2 h1) (fun a b=>by
  simp only [Bool.or_eq_true,ad0,decide_eq_false_iff_not]
  by_cases q:uX b.1 a.1<0
  · right
    intro q2;have:=Ha a.2 b.2 a.2 q2 q;rw [zL] at this;omega
  exact .inl q) l'
 exact this.imp fun h=>by simpa using h
theorem DG {l:List Pt} {x:Pt×Pt}:x∈gC l↔ ∃i j,i<j/\j<adX l/\x=(l[i]!,l[j]!):=by
 unfold gC;simp only [ada,acf,ac6];constructor
 · rintro ⟨i,hi,q,hq,rfl⟩
   obtain ⟨k,hk,rfl⟩:=aP.1 hq;rw [EQ] at hk;refine ⟨i,i+1+k,by omega,by omega,?_⟩;rw [getElem!_pos _ k (by rw [EQ];exact hk),acr,getElem!_pos l (i+1+k) (by omega)]
 rintro ⟨i,j,h1,h2,rfl⟩
 refine ⟨i,by omega,l[j]!,?_,rfl⟩;have:(l.drop (i+1))[j- (i+1)]! =l[j]!:=by
  rw [getElem!_pos _ _ (by rw [EQ];omega),acr,getElem!_pos l j h2]
  congr 1;omega
 rw [<- this];exact aV (by rw [EQ];omega)
def MtF (f:List Pt) (x:xY):Prop:= ∃i j,i<j/\j<adX f/\(f[i]!).2.2≠(f[j]!).2.2/\x=((met f[i]! f[j]!).1,(met f[i]! f[j]!).2,(f[i]!).1,(f[j]!).1)
theorem MtF.ok {f:List Pt} (ok:bM f) {x:xY} (h:MtF f x):zV x:=by obtain ⟨i,j,h1,h2,h3,rfl⟩:=h;have:=uP (ok.2.1 _ (aV (show i<(adX f) by omega))) (ok.2.1 _ (aV h2)) h3;exact ⟨this.2.1,this.2.2.1⟩
theorem OI {f:List Pt} (ok:bM f): ∀{i j:Nat},i<j->j<adX f->(f[i]!).1<(f[j]!).1:=by
 intro i j lS
 induction j with
 |zero=>omega
 |succ j ih=>
  intro hj;have s:=ok.2.2 j (by omega)
  by_cases e:i=j
  · subst e;exact s
  have:=ih (by omega) (by omega);omega
theorem abX {f:List Pt} (ok:bM f): ∃m,D9 f=adZ m/\adX m<=5000/\(∀x,x∈m↔MtF f x)/\m.Pairwise fun x y=> ¬uX y x<0:=by
 have M: ∀x∈gC f,eC x.1 x.2=adZ (if x.1.2.2=x.2.2.2 then ((0,0),6) else (met x.1 x.2,0)):=fun x hx=>by obtain ⟨i,j,h1,h2,rfl⟩:=DG.1 hx;exact G' (ok.2.1 _ (aV (by omega))) (ok.2.1 _ (aV h2)) (by have:=OI ok h1 h2;dsimp only;omega)
 have mem: ∀x,x∈wK (fun p q=>(eC p q).getD ((0,0),1)) (gC f)↔MtF f x:=fun x=>by
  unfold wK;rw [ada];constructor
  · rintro ⟨y,hy,hx⟩
    dsimp only at hx;rw [M y hy] at hx;obtain ⟨i,j,h1,h2,rfl⟩:=DG.1 hy;dsimp only [Option.getD_some] at hx
    by_cases e:(f[i]!).2.2=(f[j]!).2.2
    · rw [ls e] at hx
      simp at hx
    rw [lw e] at hx
    simp only [beq_self_eq_true,lc,aco] at hx;exact ⟨i,j,h1,h2,e,hx⟩
  rintro ⟨i,j,h1,h2,e,rfl⟩
  have hy:=DG.2 ⟨i,j,h1,h2,rfl⟩;refine ⟨_,hy,?_⟩;have h:=M _ hy;dsimp only at h ⊢;rw [h,lw e];simp
 obtain ⟨m,h1,h2,h3⟩:=OH (l:=wK (fun p q=>(eC p q).getD ((0,0),1)) (gC f)) fun x hx=>((mem x).1 hx).ok ok
 refine ⟨m,?_,?_,fun x=>h2.mem_iff.trans (mem x),h3⟩
 · show LU eC fJ f=_
   unfold LU;rw [ls ⟨by have:=ok.1;omega,fun x hx=>⟨_,M x hx⟩⟩,h1]
 have a:=B9 (fun p q=>(eC p q).getD ((0,0),1)) (gC f)
 have b:=Gt f;have c:=Nat.mul_le_mul ok.1 ok.1;rw [h2.length_eq];omega
theorem Vs (c:Nat->Prop): ∀n,(∀i j,i<j->j<n->c j->c i)-> ∃m,m<=n/\(∀i,i<m->c i)/\ ∀i,m<=i->i<n-> ¬c i
 |0,_=>⟨0,Do _,fun i h=>by omega,fun i _ h=>by omega⟩
 |n+1,h=>by
  obtain ⟨m,h1,h2,h3⟩:=Vs c n fun i j a b=>h i j a (by omega)
  by_cases q:c n
  · exact ⟨n+1,Do _,fun i hi=>by
     by_cases e:i=n
     · subst e;exact q
     exact h i n (by omega) (by omega) q,fun i a b=>by omega⟩
  exact ⟨m,by omega,h2,fun i a b=>by
   by_cases e:i=n
   · subst e;exact q
   exact h3 i a (by omega)⟩
theorem abY {m:List xY} {R:xY->xY->Prop} (h:m.Pairwise R) {i j:Nat} (lS:i<j) (hj:j<adX m):R m[i]! m[j]!:=by rw [getElem!_pos m i (by omega),getElem!_pos m j hj];exact abZ.1 h i j (by omega) hj lS
theorem IW {m:List xY} (hl:(adX m)<=5000) (ok: ∀x∈m,zV x) (hs:m.Pairwise fun x y=> ¬uX y x<0) {t:Int×Int} (r:aX t) (kr:jf t):
 ∃n:Nat,n<=adX m/\qL m t=adZ (n:Int)/\(∀i,i<n->(m[i]!).1*t.2<=t.1*(m[i]!).2.1)/\ ∀i,n<=i->i<adX m->t.1*(m[i]!).2.1<(m[i]!).1*t.2:=by
 obtain ⟨n,n1,n2,n3⟩:=Vs (fun i=>(m[i]!).1*t.2<=t.1*(m[i]!).2.1) (adX m) fun i j lS hj hc=>by
  have:=abY hs lS hj;rw [zL] at this;have di:=(ok _ (aV (show i<(adX m) by omega))).rat.1;have dj:=(ok _ (aV hj)).rat.1;have le:(m[i]!).1*(m[j]!).2.1<=(m[j]!).1*(m[i]!).2.1:=by omega
  exact gI di dj r.1 le hc
 refine ⟨n,n1,?_,n2,fun i a b=>Int.not_le.1 (n3 i a b)⟩;have run:bJ m t ()=aB aY (m,((adX m):Int),(n:Int),(n:Int),t):=by
  unfold bJ;refine zA (body:=aY) (fun lo hi=>(m,((adX m):Int),(lo:Int),(hi:Int),t)) (adX m) n (fun i=>(m[i]!).1*t.2<=t.1*(m[i]!).2.1) (fun lo hi h1 h2=>?_) n2 n3 (adX m) 0 (adX m) (by omega) (by omega) n1 (Do _);have e1:aen ((lo:Int)<(hi:Int))=aec:=aF (by omega);have hh:=P1 (a:=lo) (b:=hi) (by omega) (by omega);have ho:=ok _ (aV (show (lo+hi) / 2<(adX m) by omega));unfold aY mH;simp only [e1,lc,hh,aq m ((lo+hi) / 2) (by omega),ao];rw [show ((m[(lo+hi) / 2]!).1,(m[(lo+hi) / 2]!).2.1)=Kw m[(lo+hi) / 2]! from rfl,Cz ho.kr kr ho.rat r];simp only [ao,aQ (show (lo+hi) / 2<1000000000 by omega)]
  have cc:dP (Kw m[(lo+hi) / 2]!) t<=0↔(m[(lo+hi) / 2]!).1*t.2<=t.1*(m[(lo+hi) / 2]!).2.1:=E0;constructor
  · intro h
    have:=cc.2 h;rw [aA (show¬0<dP (Kw m[(lo+hi) / 2]!) t by omega)];rfl
  intro h
  have: ¬dP (Kw m[(lo+hi) / 2]!) t<=0:=fun q=>h (cc.1 q)
  rw [aF (show 0<dP (Kw m[(lo+hi) / 2]!) t by omega)];rfl
 unfold qL;have e1:aen ((n:Int)<(n:Int))=ael:=aA (by omega);have fin: ∃b,aY (m,((adX m):Int),(n:Int),(n:Int),t)=adZ (.done ((n:Int),b)):=by
  unfold aY mH;simp only [e1,lm]
  by_cases hn:n<adX m
  · have ho:=ok _ (aV hn)
    rw [aF (show (n:Int)<((adX m):Int) by omega),lc,aq m n hn,ao,show ((m[n]!).1,(m[n]!).2.1)=Kw m[n]! from rfl,Cz ho.kr kr ho.rat r,ao]
    by_cases q:0<dP (Kw m[n]!) t
    · rw [aF q];exact ⟨_,rfl⟩
    rw [aA q];exact ⟨_,rfl⟩
  rw [aA (show¬(n:Int)<((adX m):Int) by omega)];exact ⟨_,rfl⟩
 obtain ⟨b,hb⟩:=fin;rw [run,aG hb];rfl
theorem aja {f:List Pt} (ok:bM f) {a b:Int×Int} (ra:aX a) (a64:jf a) (rb:aX b) (b64:jf b) (le:a.1*b.2<=b.1*a.2):
 ∃L:List xY,yP ⟨f⟩ a b=adZ (L,0)/\adX L<=5000/\(∀x,x∈L↔MtF f x/\a.1*x.2.1<x.1*a.2/\x.1*b.2<=b.1*x.2.1)/\L.Pairwise fun x y=> ¬uX y x<0:=by
 obtain ⟨m,m1,m2,m3,m4⟩:=abX ok;have mok: ∀x∈m,zV x:=fun x hx=>((m3 x).1 hx).ok ok
 obtain ⟨i,i1,i2,i3,i4⟩:=IW m2 mok m4 ra a64;obtain ⟨j,j1,j2,j3,j4⟩:=IW m2 mok m4 rb b64;have chk:wV ⟨f⟩ [a,b]=adZ 0:=by
  unfold wV;rw [jP,j0.2 ok,ao,bF rfl,lm];have s1:hJ ([a,b],[a,b],2,0)=adZ (.next ([a,b],[a,b],2,1)):=by unfold hJ;show (bif aen ((0:Int)<2) then (aH [a,b] 0).bind _ else _)=_;rw [aF (show (0:Int)<2 by omega),lc,show aH [a,b] 0=adZ a by simp [aH],ao,dz a64,ls ra];rfl
  have s2:hJ ([a,b],[a,b],2,1)=adZ (.next ([a,b],[a,b],2,2)):=by unfold hJ;show (bif aen ((1:Int)<2) then (aH [a,b] 1).bind _ else _)=_;rw [aF (show (1:Int)<2 by omega),lc,show aH [a,b] 1=adZ b by simp [aH],ao,dz b64,ls rb];rfl
  have s3:hJ ([a,b],[a,b],2,2)=adZ (.done 0):=by unfold hJ;show (bif aen ((2:Int)<2) then _ else bif (2:Int)==2 then (aH [a,b] 0).bind fun a2=>(aH [a,b] 1).bind fun a3=>(ng a2 a3).bind _ else _)=_;rw [aA (show¬(2:Int)<2 by omega),lm,dy rfl,lc,show aH [a,b] 0=adZ a by simp [aH],show aH [a,b] 1=adZ b by simp [aH],ao,ao,Cz a64 b64 ra rb,ao,aA (by have:=E0.2 le;omega)];rfl
  show aB hJ ([a,b],[a,b],2,0)=_;rw [aT s1,aT s2,aG s3]
 have lS:i<=j:=by
  refine adc fun h=>?_
  have x1:=i3 j h;have x2:=j4 j (Do _) (by omega);have d:1<=(m[j]!).2.1:=(mok _ (aV (show j<(adX m) by omega))).rat.1;have:=gI d ra.1 rb.1 x1 le;omega
 refine ⟨(m.drop i).take (j-i),?_,by rw [rc,EQ];omega,fun x=>?_,(m4.sublist ((List.take_sublist _ _).trans (List.drop_sublist _ _)))⟩
 · unfold yP
   rw [chk,ao,bF rfl,lm,m1,ao,i2,ao,j2,ao];simp only [ay];rw [aF (show (0:Int)<=(i:Int) by omega),aF (show (i:Int)<=(j:Int) by omega),aF (show (j:Int)<=(j:Int) by omega),aF (show (j:Int)<=((adX m):Int) by omega)];show adZ (_,_)=_;rw [adQ,acs,acs]
 rw [aP,<- m3]
 have at_: ∀k,k<j-i->((m.drop i).take (j-i))[k]! =m[i+k]!:=fun k hk=>by rw [getElem!_pos _ k (by rw [rc,EQ];omega),ad2,acr,getElem!_pos m (i+k) (by omega)]
 constructor
 · rintro ⟨k,hk,rfl⟩
   rw [rc,EQ] at hk;rw [at_ k (by omega)];exact ⟨aV (by omega),i4 _ (by omega) (by omega),j3 _ (by omega)⟩
 rintro ⟨hx,h1,h2⟩
 obtain ⟨k,hk,rfl⟩:=aP.1 hx;have k1:i<=k:=adc fun h=>by have:=i3 k h;omega
 have k2:k<j:=Nat.lt_of_not_le fun h=>by have:=j4 k h hk;omega
 exact ⟨k-i,by rw [rc,EQ];omega,by rw [at_ _ (by omega)];congr 1;omega⟩
def mnI (lo hi:Int):Int:=if hi<lo then hi else lo
def mxI (lo hi:Int):Int:=if hi>lo then hi else lo
theorem MG {p q:Pt} (hp:ff p) (hq:ff q) (h:p.2.2≠q.2.2) {t:Int×Int} (r:aX t) (z:xH p q t=0):met p q=t:=by
 obtain ⟨_,mr,_,me⟩:=uP hp hq h;refine EY mr r ?_;unfold xH at z;have e:t.1*(q.2.2-p.2.2)=(p.2.1-q.2.1)*t.2:=by
  have:t.1*(q.2.2-p.2.2)= -((p.2.2-q.2.2)*t.1):=by rw [show q.2.2-p.2.2= -(p.2.2-q.2.2) by omega,Int.mul_neg,acw]
  omega
 have k:((met p q).1*t.2-t.1*(met p q).2)*(q.2.2-p.2.2)=0:=by
  have a1:(met p q).1*t.2*(q.2.2-p.2.2)=(p.2.1-q.2.1)*(met p q).2*t.2:=by rw [<- me,M2]
  have a2:t.1*(met p q).2*(q.2.2-p.2.2)=(p.2.1-q.2.1)*(met p q).2*t.2:=by rw [M2,e,M2]
  rw [adk,a1,a2,Int.sub_self]
 rcases adm.1 k with k|k
 · omega
 omega
theorem Kv.ne {f:List Pt} {x t:Int×Int} (h:Kv f x t):x.1≠x.2:=fun e=>by have:=h.OG;rw [e] at this;omega
theorem amF {f:List Pt} (ok:bM f) {x t:Int×Int} (h:Kv f x t) (r:aX t):MtF f (t.1,t.2,mnI x.1 x.2,mxI x.1 x.2):=by
 have ne:=h.ne;have s:=h.OG;obtain ⟨ha,hb⟩:=h.both;obtain ⟨ma,ia⟩:=Qc ok.2.2 ha;obtain ⟨mb,ib⟩:=Qc ok.2.2 hb;obtain ⟨i,hi,ei⟩:=aP.1 ma;obtain ⟨j,hj,ej⟩:=aP.1 mb;have z:=h.zero;have oa:=ok.2.1 _ ma;have ob:=ok.2.1 _ mb;rcases acg i j with q|q|q
 · have u:=OI ok q hj
   rw [ei,ej,ia,ib] at u;refine ⟨i,j,q,hj,by rw [ei,ej];omega,?_⟩;have gz:xH (bW f x.1) (bW f x.2) t=0:=by have:=E1 (bW f x.2) (bW f x.1) t;omega
   rw [ei,ej,MG oa ob (by omega) r gz,ia,ib];unfold mnI mxI;rw [lw (by omega),ls (by omega)]
 · subst q
   exact absurd (ia.symm.trans (by rw [<- ei,ej,ib])) ne
 have u:=OI ok q hi
 rw [ei,ej,ia,ib] at u;refine ⟨j,i,q,hi,by rw [ei,ej];omega,?_⟩;rw [ei,ej,MG ob oa (by omega) r z,ia,ib];unfold mnI mxI;rw [ls (by omega),lw (by omega)]
structure RU (f:List Pt) (ci to:Int×Int) (L:List xY):Prop where
 len:(adX L)<=5000
 mem: ∀x,x∈L↔MtF f x/\ci.1*x.2.1<x.1*ci.2/\x.1*to.2<=to.1*x.2.1
 srt:L.Pairwise fun x y=> ¬uX y x<0
def evM (e:(Int×Int)×(Int×Int)):xY:=(e.2.1,e.2.2,mnI e.1.1 e.1.2,mxI e.1.1 e.1.2)
theorem RU.has {f:List Pt} (ok:bM f) {ci to:Int×Int} {L:List xY} (hL:RU f ci to L) {E:List ((Int×Int)×(Int×Int))} (h:EvL f ci to E) {e:(Int×Int)×(Int×Int)} (he:e∈E):evM e∈L:=by obtain ⟨p,r,a,b⟩:=h.ev e he;exact (hL.mem _).2 ⟨amF ok p r,a,b⟩
theorem ab1 {f:List Pt} {e g:(Int×Int)×(Int×Int)} (he:Kv f e.1 e.2) (hg:Kv f g.1 g.2) (h:evM e=evM g):e.1=g.1:=by
 unfold evM at h;injection h with h1 h;injection h with h2 h;injection h with h3 h4;have n1:=he.ne;have n2:=hg.ne;have s1:=he.OG;have s2:=hg.OG;unfold mnI at h3;unfold mxI at h4
 by_cases c:e.1.1=g.1.1
 · exact adE c (by (repeat' split at h3)<;>(repeat' split at h4)<;>omega)
 have c1:e.1.1=g.1.2:=by (repeat' split at h3)<;>(repeat' split at h4)<;>omega
 have c2:e.1.2=g.1.1:=by (repeat' split at h3)<;>(repeat' split at h4)<;>omega
 rw [c1,c2] at s1;omega
theorem RU.more {f:List Pt} (ok:bM f) {ci to:Int×Int} {L:List xY} (hL:RU f ci to L) {E:List ((Int×Int)×(Int×Int))} (h:EvL f ci to E) (nd:(E.map fun e=>e.1).Nodup):(adX E)<=(adX L):=by
 have:(E.map evM).length<=(adX L):=by
  refine List.Nodup.length_le_of_subset ?_ fun x hx=>?_
  · rw [iF] at nd ⊢
    intro i j lS hj he;rw [sp] at hj;have m1: ∀k,k<adX E->(E.map evM)[k]! =evM E[k]!:=fun k hk=>by rw [getElem!_pos _ k (by rw [sp];exact hk),getElem!_pos E k hk,aci]
    have m2: ∀k,k<adX E->(E.map fun e=>e.1)[k]! =(E[k]!).1:=fun k hk=>by rw [getElem!_pos _ k (by rw [sp];exact hk),getElem!_pos E k hk,aci]
    rw [m1 i (by omega),m1 j hj] at he;have:=nd i j lS (by rw [sp];exact hj);rw [m2 i (by omega),m2 j hj] at this;exact this (ab1 (h.ev _ (aV (by omega))).1 (h.ev _ (aV hj)).1 he)
  obtain ⟨e,he,rfl⟩:=ac6.1 hx
  exact hL.has ok h he
 rwa [sp] at this
theorem RW {a b:Int×Int} (h: ¬dP b a<0):a.1*b.2<=b.1*a.2:=by rw [EZ] at h;exact h
theorem zM {a b:Int×Int} (h:a.1*b.2<=b.1*a.2): ¬dP b a<0:=by rw [EZ];exact h
theorem y9 {c:aI} (ok:aU c) (ld: ∀e∈c.ai.ce.map fun x=>x.2,leads (bW c.ii.am e.2) (bW c.ii.am e.1) c.ci) {to:Int×Int} (rt:aX to) (kr:jf to) (le: ¬dP to c.ci<0) (io:xS c to):
 ∃x c1,gF c to=adZ (c1,c.ae.bv[0]!,x,0)/\aU c1/\c1.ii=c.ii/\fC c1=fC c+1/\Kv c.ii.am x c1.ci/\c.ci.1*c1.ci.2<c1.ci.1*c.ci.2/\c1.ci.1*to.2<=to.1*c1.ci.2:=by
 obtain ⟨i0,c',hi0,num,r1,_,_,hf,hc,ge⟩:=xk ok io.1;obtain ⟨x',c1,f1,_,qO,hf1,AH,QG,hn1⟩:=Vo ok rt kr le io;have hb:=ok.known i0 hi0;obtain ⟨d,hd,hn⟩:=ok.zU _ (aV io.1);obtain ⟨y,hy,y1,y2,y3⟩:=ok.Ar.io d hd;have hye:y=c.ai.ce[i0]!:=Up.inj ok.tc hy (aV hi0) (by rw [<- y1,hn,num]);subst hye;have tm:Ev.at c.ae.bv[0]! =(bo c.ii.am (c.ai.ce[i0]!).2 c.ci).1:=by
  obtain ⟨w,hw,he⟩:=aP.1 y3;have hw0:w=0:=NE fun hx=>by refine ok.ky.nd 0 w (by omega) hw ?_;rw [he,<- hn,y1]
  subst hw0;rw [he]
 have xe:x'=(c.ai.ce[i0]!).2:=by have:=y8 ok rt kr le io r1;rw [f1] at this;injection this with this;injection this with _ this;injection this with _ this;injection this with this _
 obtain ⟨x,hx⟩: ∃x,x=(c.ai.ce[i0]!).2:=⟨_,rfl⟩;rw [<- hx] at hb tm y2 xe;subst xe;have xm:x'∈c.ai.ce.map fun x=>x.2:=ac6.2 ⟨_,aV hi0,hx.symm⟩
 have l0:=ld x' xm;have hpt:=cU ok.kQ hb.2;have arz:=cU ok.kQ hb.1;have nl: ¬leads (bW c.ii.am x'.1) (bW c.ii.am x'.2) c.ci:=fun h=>by have:=E1 (bW c.ii.am x'.2) (bW c.ii.am x'.1) c.ci;unfold leads at h l0;omega
 have W:bo c.ii.am x' c.ci=jO (bW c.ii.am x'.2) (bW c.ii.am x'.1) c.ci:=rfl;rw [W] at tm y2;unfold jO at tm y2;rw [lw nl] at tm y2;have sl:(bW c.ii.am x'.2).2.2<(bW c.ii.am x'.1).2.2:=by
  refine NE fun h=>?_
  rw [lw h] at y2;cases y2
 rw [ls sl] at tm;have tm:Ev.at c.ae.bv[0]! =met (bW c.ii.am x'.2) (bW c.ii.am x'.1):=tm;obtain ⟨_,mr,_,me⟩:=uP hpt.1 arz.1 (show (bW c.ii.am x'.2).2.2≠(bW c.ii.am x'.1).2.2 by omega);have z:xH (bW c.ii.am x'.2) (bW c.ii.am x'.1) (Ev.at c.ae.bv[0]!)=0:=by
  rw [tm];unfold xH;have:((bW c.ii.am x'.2).2.2- (bW c.ii.am x'.1).2.2)*(met (bW c.ii.am x'.2) (bW c.ii.am x'.1)).1= -((met (bW c.ii.am x'.2) (bW c.ii.am x'.1)).1*((bW c.ii.am x'.1).2.2- (bW c.ii.am x'.2).2.2)):=by rw [show (bW c.ii.am x'.2).2.2- (bW c.ii.am x'.1).2.2= -((bW c.ii.am x'.1).2.2- (bW c.ii.am x'.2).2.2) by omega,acF,acw]
  rw [this,me];omega
 have evp:Kv c.ii.am x' (Ev.at c.ae.bv[0]!):=⟨hb,z,sl⟩;refine ⟨x',c1,f1,qO,hf1,QG,by rw [hn1];exact evp,?_,?_⟩
 · rw [hn1]
   exact evp.later (by rw [tm];exact mr.1) ok.iR.1 l0
 rw [hn1]
 have h2:=io.2;rw [E0] at h2;exact h2
structure RX (f:List Pt) (uY to ci:Int×Int) (E:List ((Int×Int)×(Int×Int))):Prop where
 ev: ∀e∈E,Kv f e.1 e.2/\aX e.2/\uY.1*e.2.2<e.2.1*uY.2/\e.2.1*to.2<=to.1*e.2.2/\e.2.1*ci.2<=ci.1*e.2.2
 inc:E.Pairwise fun a b=>a.2.1*b.2.2<b.2.1*a.2.2
theorem RX.nil (f:List Pt) (uY to ci:Int×Int):RX f uY to ci []:=⟨fun _ h=>by simp at h,.nil⟩
theorem RX.snoc {f:List Pt} {uY to ci t:Int×Int} {E:List ((Int×Int)×(Int×Int))} (h:RX f uY to ci E) (rn:aX ci) (r0:aX uY) {x:Int×Int} (p:Kv f x t) (r:aX t) (l0:uY.1*ci.2<=ci.1*uY.2) (l1:ci.1*t.2<t.1*ci.2) (l2:t.1*to.2<=to.1*t.2):RX f uY to t (E++[(x,t)]):=by
 refine ⟨fun e he=>?_,List.pairwise_append.2 ⟨h.inc,List.pairwise_singleton _ _,fun a ha b hb=>?_⟩⟩
 · rcases List.mem_append.1 he with he|he
   · obtain ⟨a,b,c,d,e1⟩:=h.ev e he
     exact ⟨a,b,c,d,gI b.1 rn.1 r.1 e1 (acn l1)⟩
   obtain rfl:=aco.1 he
   exact ⟨p,r,oK r0.1 rn.1 r.1 l0 l1,l2,Int.le_refl _⟩
 obtain rfl:=aco.1 hb
 obtain ⟨_,b,_,_,e1⟩:=h.ev a ha;exact oK b.1 rn.1 r.1 e1 l1
theorem RX.nodup {f:List Pt} {uY to ci:Int×Int} {E:List ((Int×Int)×(Int×Int))} (h:RX f uY to ci E):(E.map fun e=>e.1).Nodup:=by
 unfold List.Nodup;rw [acX];refine h.inc.imp_of_mem fun {a b} ha hb q e=>?_
 have:=(h.ev a ha).1.once (by rw [e];exact (h.ev b hb).1);omega
theorem RX.evL {f:List Pt} {uY to ci:Int×Int} {E:List ((Int×Int)×(Int×Int))} (h:RX f uY to ci E):EvL f uY to E:=by
 refine ⟨fun e he=>by obtain ⟨a,b,c,d,_⟩:=h.ev e he;exact ⟨a,b,c,d⟩,fun i hi=>?_⟩;have q:(E[i]!).2.1*(E[i+1]!).2.2<(E[i+1]!).2.1*(E[i]!).2.2:=by have:=abZ.1 h.inc i (i+1) (by omega) hi (by omega);rw [getElem!_pos E i (by omega),getElem!_pos E (i+1) hi];exact this
 refine ⟨acn q,fun e=>?_⟩;have:=(h.ev _ (aV (show i<(adX E) by omega))).1.once (by rw [e];exact (h.ev _ (aV hi)).1);omega
structure Sys (κ:Type) where
 vP:Int×Int->aI->List (Int×Int)->Option (κ×List (Int×Int)×Int)
 Inv:aI->Prop
 set:aI->Option aI
 res:aI->κ
 zero:κ
 ok: ∀{c},Inv c->aU c
 lead: ∀{c},Inv c-> ∀e∈c.ai.ce.map fun x=>x.2,leads (bW c.ii.am e.2) (bW c.ii.am e.1) c.ci
 at_: ∀{c to},Inv c->aX to->jf to-> ¬dP to c.ci<0-> ¬xS c to->Inv (DF c to)
 stop: ∀{c to out},Inv c->aX to->jf to-> ¬dP to c.ci<0-> ¬xS c to->vP to c out=adZ (res (DF c to),out,0)
 ev: ∀{c to out c1 e x},Inv c->aX to->jf to-> ¬dP to c.ci<0->xS c to->gF c to=adZ (c1,e,x,0)->aU c1->c1.ii=c.ii->adX out+1<=1048576->
  vP to c out=match set c1 with|some c2=>vP to c2 (out++[x])|none=>adZ (zero,[],18)
 kept: ∀{c c1 c2},Inv c->aU c1->c1.ii=c.ii->set c1=adZ c2->Inv c2/\c2.ii.am=c.ii.am/\c2.ci=c1.ci/\fC c1<=fC c2
section
variable {κ : Type} (S : Sys κ)
theorem CA {c:aI} (h:S.Inv c) {to:Int×Int} (rt:aX to) (kr:jf to) (le: ¬dP to c.ci<0) (io:xS c to):
 (∃x c2,S.Inv c2/\c2.ii.am=c.ii.am/\fC c+1<=fC c2/\Kv c.ii.am x c2.ci/\c.ci.1*c2.ci.2<c2.ci.1*c.ci.2/\c2.ci.1*to.2<=to.1*c2.ci.2/\ ∀out,adX out+1<=1048576->S.vP to c out=S.vP to c2 (out++[x]))\/
 (∀out,adX out+1<=1048576->S.vP to c out=adZ (S.zero,[],18)):=by
 obtain ⟨x,c1,f1,qO,hf,hr,p,l1,l2⟩:=y9 (S.ok h) (S.lead h) rt kr le io;cases hs:S.set c1 with
 |none=>right;intro out ho;have:=S.ev h rt kr le io f1 qO hf ho;rw [hs] at this;exact this
 |some c2=>left;obtain ⟨k1,k2,k3,k4⟩:=S.kept h qO hf hs;refine ⟨x,c2,k1,k2,by omega,by rw [k3];exact p,by rw [k3];exact l1,by rw [k3];exact l2,fun out ho=>?_⟩;have:=S.ev h rt kr le io f1 qO hf ho;rw [hs] at this;exact this
theorem ab2 {f:List Pt} {uY to:Int×Int} (r0:aX uY) (rt:aX to) (kr:jf to): ∀(d:Nat) (c:aI) (E:List ((Int×Int)×(Int×Int))),1000000-fC c<=(d:Int)->S.Inv c->c.ii.am=f->RX f uY to c.ci E->uY.1*c.ci.2<=c.ci.1*uY.2-> ¬dP to c.ci<0->((adX E):Int)<=fC c+200->
 S.vP to c (E.map fun e=>e.1)=adZ (S.zero,[],18)\/ ∃c2 E',S.vP to c (E.map fun e=>e.1)=adZ (S.res (DF c2 to),E'.map (fun e=>e.1),0)/\S.Inv c2/\c2.ii.am=f/\ ¬dP to c2.ci<0/\ ¬xS c2 to/\RX f uY to c2.ci E'/\((adX E'):Int)<=fC c2+200:=by
 intro d
 induction d with
 |zero=>
  intro c E hd h hf he h0 le ho;have rb:=mn (S.ok h)
  by_cases io:xS c to
  · rcases CA S h rt kr le io with ⟨x,c2,i2,f2,r2,p2,l1,l2,ad⟩|ad
    · have:=mn (S.ok i2);omega
    exact .inl (ad _ (by rw [sp];omega))
  exact .inr ⟨c,E,S.stop h rt kr le io,h,hf,le,io,he,ho⟩
 |succ d ih=>
  intro c E hd h hf he h0 le ho;have rb:=mn (S.ok h)
  by_cases io:xS c to
  · rcases CA S h rt kr le io with ⟨x,c2,i2,f2,r2,p2,l1,l2,ad⟩|ad
    · rw [hf] at p2
      rw [ad _ (by rw [sp];omega),show (E.map fun e=>e.1)++[x]=(E++[(x,c2.ci)]).map (fun e=>e.1) by rw [List.map_append];rfl];exact ih c2 _ (by omega) i2 (f2.trans hf) (he.snoc (S.ok h).iR r0 p2 (S.ok i2).iR h0 l1 l2) (gI r0.1 (S.ok h).iR.1 (S.ok i2).iR.1 h0 (acn l1)) (zM l2) (by rw [AC,ww];omega)
    exact .inl (ad _ (by rw [sp];omega))
  exact .inr ⟨c,E,S.stop h rt kr le io,h,hf,le,io,he,ho⟩
theorem OJ {t:Int×Int} (rt:aX t) (t64:jf t): ∀(d:Nat) (c:aI) (p q:List (Int×Int)),1000000-fC c<=(d:Int)->S.Inv c-> ¬dP t c.ci<0->((p++q).length:Int)<=fC c+200->
 (S.vP t c q=adZ (S.zero,[],18)/\S.vP t c (p++q)=adZ (S.zero,[],18))\/
 ∃c2 n,S.vP t c q=adZ (S.res (DF c2 t),n,0)/\S.vP t c (p++q)=adZ (S.res (DF c2 t),p++n,0)/\S.Inv c2/\ ¬dP t c2.ci<0/\ ¬xS c2 t/\((p++n).length:Int)<=1000200:=by
 intro d
 induction d with
 |zero=>
  intro c p q hd h le ho;have rb:=mn (S.ok h)
  by_cases io:xS c t
  · rcases CA S h rt t64 le io with ⟨x,c2,i2,f2,r2,p2,l1,l2,ad⟩|ad
    · have:=mn (S.ok i2);omega
    refine .inl ⟨ad _ ?_,ad _ ?_⟩
    · rw [AC] at ho;omega
    omega
  exact .inr ⟨c,q,S.stop h rt t64 le io,S.stop h rt t64 le io,h,le,io,by omega⟩
 |succ d ih=>
  intro c p q hd h le ho;have rb:=mn (S.ok h);have hq:(adX q)<=(p++q).length:=by rw [AC];omega
  by_cases io:xS c t
  · rcases CA S h rt t64 le io with ⟨x,c2,i2,f2,r2,p2,l1,l2,ad⟩|ad
    · rw [ad q (by omega),ad (p++q) (by omega),acu]
      exact ih c2 p (q++[x]) (by omega) i2 (zM l2) (by rw [<- acu,AC,ww];omega)
    exact .inl ⟨ad _ (by omega),ad _ (by omega)⟩
  exact .inr ⟨c,q,S.stop h rt t64 le io,S.stop h rt t64 le io,h,le,io,by omega⟩
theorem MH {c:aI} (h:S.Inv c) {s t:Int×Int} (rs:aX s) (EF:jf s) (rt:aX t) (t64:jf t) (les: ¬dP s c.ci<0) (MJ: ¬dP t c.ci<0) (ds:xS c s) (dt:xS c t):
 (∃x c2,S.Inv c2/\c2.ii.am=c.ii.am/\fC c+1<=fC c2/\c2.ci.1*s.2<=s.1*c2.ci.2/\ ∀out,adX out+1<=1048576->S.vP s c out=S.vP s c2 (out++[x])/\S.vP t c out=S.vP t c2 (out++[x]))\/
 (∀out,adX out+1<=1048576->S.vP s c out=adZ (S.zero,[],18)/\S.vP t c out=adZ (S.zero,[],18)):=by
 obtain ⟨x,c1,f1,qO,hf,hr,p,l1,l2⟩:=y9 (S.ok h) (S.lead h) rs EF les ds;obtain ⟨i,c',_,_,hd,_⟩:=xk (S.ok h) ds.1;have v1:=y8 (S.ok h) rs EF les ds hd;have v2:=y8 (S.ok h) rt t64 MJ dt hd;have f2:gF c t=adZ (c1,c.ae.bv[0]!,x,0):=by rw [v2,<- v1,f1]
 cases hs:S.set c1 with
 |none=>right;intro out ho;have a:=S.ev h rs EF les ds f1 qO hf ho;have b:=S.ev h rt t64 MJ dt f2 qO hf ho;rw [hs] at a b;exact ⟨a,b⟩
 |some c2=>left;obtain ⟨k1,k2,k3,k4⟩:=S.kept h qO hf hs;refine ⟨x,c2,k1,k2,by omega,by rw [k3];exact l2,fun out ho=>?_⟩;have a:=S.ev h rs EF les ds f1 qO hf ho;have b:=S.ev h rt t64 MJ dt f2 qO hf ho;rw [hs] at a b;exact ⟨a,b⟩
theorem ajd {c:aI} (h:S.Inv c) {s t:Int×Int} (rs:aX s) (EF:jf s) (rt:aX t) (t64:jf t) (les: ¬dP s c.ci<0) (st: ¬dP t s<0) (ds: ¬xS c s) (dt:xS c t):
 (∃x c2,S.Inv c2/\fC c+1<=fC c2/\c2.ci.1*t.2<=t.1*c2.ci.2/\ ∀out,adX out+1<=1048576->S.vP t c out=S.vP t c2 (out++[x])/\S.vP t (DF c s) out=S.vP t c2 (out++[x]))\/
 (∀out,adX out+1<=1048576->S.vP t c out=adZ (S.zero,[],18)/\S.vP t (DF c s) out=adZ (S.zero,[],18)):=by
 have MJ:=Cy (S.ok h).iR rs rt les st;have ha:=S.at_ h rs EF les ds;obtain ⟨x,c1,f1,qO,hf,hr,p,l1,l2⟩:=y9 (S.ok h) (S.lead h) rt t64 MJ dt;obtain ⟨i,c',_,_,hd,_⟩:=xk (S.ok h) dt.1;have hd2:=abV (s:=s) (fV (S.ok h)) (fV (S.ok ha)) hd;have dt2:xS (DF c s) t:=dt;have v1:=y8 (S.ok h) rt t64 MJ dt hd;have v2:=y8 (S.ok ha) rt t64 st dt2 hd2;have f2:gF (DF c s) t=adZ (c1,c.ae.bv[0]!,x,0):=by rw [v2,<- f1,v1]
 cases hs:S.set c1 with
 |none=>right;intro out ho;have a:=S.ev h rt t64 MJ dt f1 qO hf ho;have b:=S.ev ha rt t64 st dt2 f2 qO hf ho;rw [hs] at a b;exact ⟨a,b⟩
 |some c2=>left;obtain ⟨k1,k2,k3,k4⟩:=S.kept h qO hf hs;refine ⟨x,c2,k1,by omega,by rw [k3];exact l2,fun out ho=>?_⟩;have a:=S.ev h rt t64 MJ dt f1 qO hf ho;have b:=S.ev ha rt t64 st dt2 f2 qO hf ho;rw [hs] at a b;exact ⟨a,b⟩
theorem aje {s t:Int×Int} (rs:aX s) (EF:jf s) (rt:aX t) (t64:jf t) (st: ¬dP t s<0): ∀(d:Nat) (c:aI) (out:List (Int×Int)),1000000-fC c<=(d:Int)->S.Inv c-> ¬dP s c.ci<0->((adX out):Int)<=fC c+200->
 (S.vP s c out=adZ (S.zero,[],18)/\S.vP t c out=adZ (S.zero,[],18))\/
 ∃c2 m,S.vP s c out=adZ (S.res (DF c2 s),m,0)/\S.Inv c2/\ ¬dP s c2.ci<0/\ ¬xS c2 s/\S.vP t c out=S.vP t c2 m/\((adX m):Int)<=fC c2+200/\c2.ii.am=c.ii.am:=by
 intro d
 induction d with
 |zero=>
  intro c out hd h le ho;have rb:=mn (S.ok h)
  by_cases io:xS c s
  · rcases MH S h rs EF rt t64 le (Cy (S.ok h).iR rs rt le st) io (io.more (S.ok h) rs rt st) with ⟨x,c2,i2,_,r2,_,ad⟩|ad
    · have:=mn (S.ok i2);omega
    exact .inl (ad _ (by omega))
  exact .inr ⟨c,out,S.stop h rs EF le io,h,le,io,rfl,ho,rfl⟩
 |succ d ih=>
  intro c out hd h le ho;have rb:=mn (S.ok h)
  by_cases io:xS c s
  · rcases MH S h rs EF rt t64 le (Cy (S.ok h).iR rs rt le st) io (io.more (S.ok h) rs rt st) with ⟨x,c2,i2,f2,r2,l2,ad⟩|ad
    · obtain ⟨g1,g2⟩:=ad out (by omega)
      rw [g1,g2,<- f2];exact ih c2 (out++[x]) (by omega) i2 (zM l2) (by rw [AC,ww];omega)
    exact .inl (ad _ (by omega))
  exact .inr ⟨c,out,S.stop h rs EF le io,h,le,io,rfl,ho,rfl⟩
theorem RY {c:aI} (h:S.Inv c) {s t:Int×Int} (rs:aX s) (EF:jf s) (rt:aX t) (t64:jf t) (cs: ¬dP s c.ci<0) (st: ¬dP t s<0):
 (S.vP s c []=adZ (S.zero,[],18)/\S.vP t c []=adZ (S.zero,[],18))\/
 ∃c2 m,S.vP s c []=adZ (S.res (DF c2 s),m,0)/\S.Inv c2/\c2.ii.am=c.ii.am/\ ¬dP s c2.ci<0/\ ¬xS c2 s/\
  (S.vP t (DF c2 s) []=adZ (S.zero,[],18)/\S.vP t c []=adZ (S.zero,[],18)\/
  ∃c3 n,S.vP t (DF c2 s) []=adZ (S.res (DF c3 t),n,0)/\S.vP t c []=adZ (S.res (DF c3 t),m++n,0)/\S.Inv c3/\ ¬dP t c3.ci<0/\ ¬xS c3 t/\adX m+adX n<=1000200):=by
 have rb:=mn (S.ok h);rcases aje S rs EF rt t64 st (1000000-fC c).toNat c [] (by omega) h cs (by simp;omega) with a|⟨c2,m,h1,h2,h3,h4,h5,h6,h7⟩
 · exact .inl a
 refine .inr ⟨c2,m,h1,h2,h7,h3,h4,?_⟩;have rb2:=mn (S.ok h2);have ct:=Cy (S.ok h2).iR rs rt h3 st
 by_cases io:xS c2 t
 · rcases ajd S h2 rs EF rt t64 h3 st h4 io with ⟨x,c3,i3,r3,l3,ad⟩|ad
   · have g1:=(ad [] (by decide)).2
     have g2:=(ad m (by omega)).1;rcases OJ S rt t64 (1000000-fC c3).toNat c3 m [x] (by omega) i3 (zM l3) (by rw [AC,ww];omega) with ⟨p1,p2⟩|⟨c4,n,p1,p2,p3,p4,p5,p6⟩
     · exact .inl ⟨by rw [g1];exact p1,by rw [h5,g2];exact p2⟩
     exact .inr ⟨c4,n,by rw [g1];exact p1,by rw [h5,g2];exact p2,p3,p4,p5,by rw [AC] at p6;omega⟩
   exact .inl ⟨(ad [] (by decide)).2,by rw [h5];exact (ad m (by omega)).1⟩
 refine .inr ⟨c2,[],S.stop (S.at_ h2 rs EF h3 h4) rt t64 st io,?_,h2,ct,io,by simp;omega⟩
 rw [h5,If];exact S.stop h2 rt t64 ct io
end
theorem ab3 {s t:Int×Int} (EF:jf s) (t64:jf t):wU s t=adZ (if aX s/\aX t then 0 else 8):=by
 unfold wU
 by_cases rs:aX s
 · rw [lP EF,ls rs,ao,bF rfl,lm,lP t64,ao]
   by_cases rt:aX t
   · rw [ls rt,ls ⟨rs,rt⟩]
   rw [lw rt,lw fun h=>rt h.2]
 rw [lP EF,lw rs,ao,lw fun h=>rs h.1];rfl
theorem adj {a b:Int×Int} (h: ¬0<dP a b): ¬dP b a<0:=fun q=>h (by rw [rY] at q;unfold dP;rcases c6 (a.1*b.2) (b.1*a.2) with ⟨x,y⟩|⟨x,y⟩|⟨x,y⟩<;>omega)
def OK (l:List (Int×Int)) (L:List xY) (i k:Nat):Prop:= ∃j,j<k/\(L[j]!).2.2.1=mnI (l[i]!).1 (l[i]!).2/\(L[j]!).2.2.2=mxI (l[i]!).1 (l[i]!).2
theorem CB {l:List (Int×Int)} {L:List xY} {i k:Nat}:OK l L i (k+1)↔OK l L i k\/((L[k]!).2.2.1=mnI (l[i]!).1 (l[i]!).2/\(L[k]!).2.2.2=mxI (l[i]!).1 (l[i]!).2):=by
 constructor
 · rintro ⟨j,hj,h⟩
   by_cases e:j=k
   · subst e;exact .inr h
   exact .inl ⟨j,by omega,h⟩
 rintro (⟨j,hj,h⟩|h)
 · exact ⟨j,by omega,h⟩
 exact ⟨k,by omega,h⟩
theorem Vt (b0:Bool) (l:List (Int×Int)) (L:List xY) (hL:(adX L)<=5000) (hl:(adX l)<=5000) {i:Nat} (hi:i<adX l) (h:OK l L i (adX L)) (hn:l[i]!∉l.take i):
 dN (b0,l,L,(i:Int))=adZ (.next (b0,l,L,((i+1:Nat):Int))):=by
 unfold dN;simp only [ay];rw [aF (show (i:Int)<((adX l):Int) by omega),lc];have gi:=aq l i hi;have st:=bT (body:=iK) (fun k=>(b0,l,L,(i:Int),aen (OK l L i k),(k:Int))) (adX L) (fun k hk=>by
  unfold iK;simp only [ay,aF (show (k:Int)<((adX L):Int) by omega),lc,aq L k hk,gi,ao,aQ (show k<1000000000 by omega)]
  by_cases q:OK l L i k
  · rw [aF q,lc,aF (CB.2 (.inl q))]
  rw [aA q,lm]
  rw [show (if (l[i]!).2<(l[i]!).1 then (l[i]!).2 else (l[i]!).1)=mnI (l[i]!).1 (l[i]!).2 from rfl,show (if (l[i]!).2>(l[i]!).1 then (l[i]!).2 else (l[i]!).1)=mxI (l[i]!).1 (l[i]!).2 from rfl]
  by_cases c:(L[k]!).2.2.1=mnI (l[i]!).1 (l[i]!).2
  · rw [dy c,lc]
    by_cases d:(L[k]!).2.2.2=mxI (l[i]!).1 (l[i]!).2
    · rw [dy d,aF (CB.2 (.inr ⟨c,d⟩))]
    rw [dE d,aA (fun x=>(CB.1 x).elim q (fun y=>d y.2))]
  rw [dE c,lm,aA (fun x=>(CB.1 x).elim q (fun y=>c y.1))])
 rw [show (b0,l,L,(i:Int),ael,(0:Int))=(b0,l,L,(i:Int),aen (OK l L i 0),((0:Nat):Int)) by rw [aA (fun ⟨_,h,_⟩=>adr _ h)];rfl,st];refine aG ?_;unfold iK;simp only [ay,aA (show¬((adX L):Int)<((adX L):Int) by omega),lm,aF h,v6,iU l i (by omega),gi,ao,y6 (l.take i) _ (by rw [rc];omega),aA hn,aQ (show i<1000000000 by omega)]
theorem ab4 (b0:Bool) (l:List (Int×Int)) (L:List xY) (hL:(adX L)<=5000) (hl:(adX l)<=5000) (h: ∀i,i<adX l->OK l L i (adX L)) (nd:l.Nodup):aB dN (b0,l,L,0)=adZ b0:=by
 have st:=bT (body:=dN) (fun i=>(b0,l,L,(i:Int))) (adX l) (fun i hi=>Vt b0 l L hL hl hi (h i hi) (fun hm=>by
  obtain ⟨j,hj,e⟩:=aP.1 hm;rw [rc] at hj;have e2:(l.take i)[j]! =l[j]!:=by rw [getElem!_pos _ j (by rw [rc];exact hj),ad2,getElem!_pos l j (by omega)]
  rw [e2] at e;exact iF.1 nd j i (by omega) hi e))
 refine (show _=_ from st).trans (aG ?_);unfold dN;simp only [ay,aA (show¬((adX l):Int)<((adX l):Int) by omega),lm]
theorem ajf {f:List Pt} (gx:bM f) {ci to n2:Int×Int} {L:List xY} (hL:RU f ci to L) {E:List ((Int×Int)×(Int×Int))} (h:RX f ci to n2 E) (_:(adX E)<=1000400):
 (E.map fun e=>e.1).length<=adX L/\ ∀b0,aB dN (b0,E.map (fun e=>e.1),L,0)=adZ b0:=by
 have more:=hL.more gx h.evL h.nodup;have len:=hL.len;refine ⟨by rw [sp];exact more,fun b0=>ab4 b0 _ L hL.len (by rw [sp];omega) (fun i hi=>?_) h.nodup⟩;rw [sp] at hi;have m:(E.map fun e=>e.1)[i]! =(E[i]!).1:=by rw [getElem!_pos _ i (by rw [sp];exact hi),getElem!_pos E i hi,aci]
 obtain ⟨j,hj,e⟩:=aP.1 (hL.has gx h.evL (aV hi));refine ⟨j,hj,?_,?_⟩
 · rw [e,m];rfl
 rw [e,m];rfl
def bG (p w:List Int) (i:Nat):Int:=if i<(adX w) then w[i]! else p[i-(adX w)]!
def jR (i j:Nat):Prop:= ∃d,(j+1) / 2^d=i+1
theorem jR.refl (i:Nat):jR i i:=⟨0,by simp⟩
theorem nN {i k j:Nat} (hk:k=2*i+1\/k=2*i+2) (h:jR k j):jR i j:=by obtain ⟨d,hd⟩:=h;refine ⟨d+1,?_⟩;rw [acy,<- ab0,hd];omega
theorem E2 {a b c d:Nat} (h:a<=b) (hc:(c+1) / 2^a=d):(c+1) / 2^b=d / 2^(b-a):=by
 have:2^b=2^a*2^(b-a):=by rw [<- Nat.pow_add];congr 1;omega
 rw [this,<- ab0,hc]
theorem MK {x e:Nat} (he:0<e):x / 2^e<=x / 2:=by obtain ⟨k,rfl⟩: ∃k,e=k+1:=⟨e-1,by omega⟩;rw [show 2^(k+1)=2*2^k by rw [acy];omega,<- ab0];exact Nat.div_le_self _ _
theorem qR {i j:Nat} (h1:jR (2*i+1) j) (h2:jR (2*i+2) j):False:=by
 obtain ⟨a,ha⟩:=h1;obtain ⟨b,hb⟩:=h2;rcases acg a b with h|h|h
 · have:=E2 (ad3 h) ha
   have:=MK (x:=2*i+1+1) (e:=b-a) (by omega);omega
 · subst h;omega
 have:=E2 (ad3 h) hb
 have:=MK (x:=2*i+2+1) (e:=a-b) (by omega);omega
theorem Vu {i k j1 j2:Nat} (h1:jR (2*i+1) j1) (h2:jR (2*i+2) j2) (g:(jR (2*k+1) j1/\jR (2*k+2) j2)\/(jR (2*k+1) j2/\jR (2*k+2) j1)):i=k:=by
 have main: ∀{i k j1 j2:Nat},jR (2*i+1) j1\/jR (2*i+2) j1->jR i j2->(jR (2*k+1) j1/\jR (2*k+2) j2)\/(jR (2*k+1) j2/\jR (2*k+2) j1)-> ∀a a':Nat,(j1+1) / 2^a=i+1->(j1+1) / 2^a'=k+1->a<a'->False:=by
  intro i k j1 j2 _ u2 g a a' ha FH dC;have e:=E2 (ad3 dC) ha;rw [FH] at e;obtain ⟨c,hc⟩: ∃c,a'-a=c+1:=⟨a'-a-1,by omega⟩;rw [hc,acy,<- ab0] at e;have q: ∃m,(i+1) / 2^c=m+1/\(m=2*k+1\/m=2*k+2):=⟨(i+1) / 2^c-1,by omega,by omega⟩;obtain ⟨m,hm,hmk⟩:=q;have um: ∀j,jR i j->jR m j:=fun j ⟨d,hd⟩=>⟨d+c,by rw [E2 (Nat.le_add_right d c) hd,show d+c-d=c by omega,hm]⟩
  have u1:jR i j1:=⟨a,ha⟩;have v1:=um _ u1;have v2:=um _ u2;rcases hmk with rfl|rfl
  · rcases g with g|g
    · exact qR v2 g.2
    exact qR v1 g.2
  rcases g with g|g
  · exact qR g.1 v1
  exact qR g.1 v2
 have i1:jR i j1:=nN (.inl rfl) h1;have i2:jR i j2:=nN (.inr rfl) h2;have k1:jR k j1:=by rcases g with g|g;exact nN (.inl rfl) g.1;exact nN (.inr rfl) g.2
 have k2:jR k j2:=by rcases g with g|g;exact nN (.inr rfl) g.2;exact nN (.inl rfl) g.1
 obtain ⟨a,ha⟩:=i1;obtain ⟨a',FH⟩:=k1;rcases acg a a' with h|h|h
 · exact (main (.inl h1) i2 g a a' ha FH h).elim
 · subst h;omega
 exact (main (i:=k) (k:=i) (j1:=j1) (j2:=j2) (by rcases g with g|g;exact .inl g.1;exact .inr g.2) k2 (.inl ⟨h1,h2⟩) a' a FH ha h).elim
def xn (p w:List Int):Prop:= ∀i,i<adX w->w[i]! =bG p w (2*i+1)\/w[i]! =bG p w (2*i+2)
theorem xo {p w:List Int} (hl:(adX w)+1=adX p) (hc:xn p w): ∀(d i:Nat),adX w+adX p-i<=d->i<adX w+adX p-> ∃j,adX w<=j/\j<adX w+adX p/\jR i j/\p[j-(adX w)]! =bG p w i:=by
 intro d
 induction d with
 |zero=>intro i h1 h2;omega
 |succ d ih=>
  intro i h1 h2
  by_cases hi:i<adX w
  · rcases hc i hi with e|e
    · obtain ⟨j,j1,j2,j3,j4⟩:=ih (2*i+1) (by omega) (by omega)
      refine ⟨j,j1,j2,nN (.inl rfl) j3,?_⟩;rw [j4,<- e];unfold bG;rw [ls hi]
    obtain ⟨j,j1,j2,j3,j4⟩:=ih (2*i+2) (by omega) (by omega)
    refine ⟨j,j1,j2,nN (.inr rfl) j3,?_⟩;rw [j4,<- e];unfold bG;rw [ls hi]
  refine ⟨i,by omega,h2,.refl i,?_⟩
  unfold bG;rw [lw hi]
def Bk (p:List Int):Prop:= ∀i j,i<j->j<adX p->p[i]! =p[j]!->p[i]!<0
theorem Bk.inj {p:List Int} (h:Bk p) {i j:Nat} (hi:i<adX p) (hj:j<adX p) (e:p[i]! =p[j]!) (h0:0<=p[i]!):i=j:=by
 rcases acg i j with k|k|k
 · have:=h i j k hj e;omega
 · exact k
 have:=h j i k hi e.symm;rw [<- e] at this;omega
section
variable {p w : List Int} (hl : (adX w) + 1 = (adX p)) (hc : xn p w) (ho : Bk p)
include hl hc
theorem iH {i:Nat} (hi:i<adX w+adX p):bG p w i∈p:=by obtain ⟨j,j1,j2,_,e⟩:=xo hl hc _ i (Do _) hi;rw [<- e];exact aV (by omega)
include ho
theorem E3 {i:Nat} (hi:i<adX w) (h0:0<=bG p w (2*i+1)):bG p w (2*i+1)≠bG p w (2*i+2):=by
 intro e;obtain ⟨j,j1,j2,j3,j4⟩:=xo hl hc _ (2*i+1) (Do _) (by omega);obtain ⟨k,k1,k2,k3,k4⟩:=xo hl hc _ (2*i+2) (Do _) (by omega);have:=ho.inj (i:=j-(adX w)) (j:=k-(adX w)) (by omega) (by omega) (by rw [j4,k4,e]) (by rw [j4];exact h0);obtain rfl:j=k:=by omega
 exact qR j3 k3
theorem Vv {i k:Nat} (hi:i<adX w) (hk:k<adX w) (h1:0<=bG p w (2*i+1)) (h2:0<=bG p w (2*i+2))
 (g:(bG p w (2*k+1)=bG p w (2*i+1)/\bG p w (2*k+2)=bG p w (2*i+2))\/(bG p w (2*k+1)=bG p w (2*i+2)/\bG p w (2*k+2)=bG p w (2*i+1))):i=k:=by
 obtain ⟨j1,a1,a2,a3,a4⟩:=xo hl hc _ (2*i+1) (Do _) (by omega);obtain ⟨j2,b1,b2,b3,b4⟩:=xo hl hc _ (2*i+2) (Do _) (by omega);obtain ⟨l1,c1,c2,c3,c4⟩:=xo hl hc _ (2*k+1) (Do _) (by omega);obtain ⟨l2,d1,d2,d3,d4⟩:=xo hl hc _ (2*k+2) (Do _) (by omega);have same: ∀{x y:Nat},adX w<=x->x<adX w+adX p->adX w<=y->y<adX w+adX p->p[x-(adX w)]! =p[y-(adX w)]!->0<=p[x-(adX w)]!->x=y:=fun {x y} hx hx' hy hy' e h0=>by have:=ho.inj (i:=x-(adX w)) (j:=y-(adX w)) (by omega) (by omega) e h0;omega
 refine Vu a3 b3 ?_;rcases g with ⟨g1,g2⟩|⟨g1,g2⟩
 · have e1:j1=l1:=same a1 a2 c1 c2 (by rw [a4,c4,g1]) (by rw [a4];exact h1)
   have e2:j2=l2:=same b1 b2 d1 d2 (by rw [b4,d4,g2]) (by rw [b4];exact h2);subst e1 e2;exact .inl ⟨c3,d3⟩
 have e1:j2=l1:=same b1 b2 c1 c2 (by rw [b4,c4,g1]) (by rw [b4];exact h2)
 have e2:j1=l2:=same a1 a2 d1 d2 (by rw [a4,d4,g2]) (by rw [a4];exact h1);subst e1 e2;exact .inr ⟨c3,d3⟩
end
noncomputable def za (f:List Pt) (t:Int×Int) (x y:Int):Int:=if x<0 then y else if y<0 then x else if leads (bW f x) (bW f y) t then x else y
theorem ab5 (f:List Pt) (t:Int×Int) (x y:Int):za f t x y=x\/za f t x y=y:=by
 unfold za;split
 · exact .inr rfl
 split
 · exact .inl rfl
 split
 · exact .inl rfl
 exact .inr rfl
def IX (f:List Pt) (t:Int×Int) (p w:List Int):Prop:=adX w+1=adX p/\ ∀i,i<adX w->w[i]! =za f t (bG p w (2*i+1)) (bG p w (2*i+2))
theorem IX.ri {f:List Pt} {t:Int×Int} {p w:List Int} (h:IX f t p w):xn p w:=fun i hi=>by rw [h.2 i hi];exact ab5 ..
noncomputable def IY (f:List Pt) (t:Int×Int) (p:List Int):Nat->List Int->List Int
 |0,w=>w
 |i+1,w=>IY f t p i (w.set i (za f t (bG p w (2*i+1)) (bG p w (2*i+2))))
noncomputable def bw (f:List Pt) (t:Int×Int) (p:List Int):List Int:=IY f t p (adX p-1) (acp (adX p-1) 0)
theorem IZ {p w:List Int} {i k:Nat} {v:Int} (h:i≠k):bG p (w.set i v) k=bG p w k:=by
 unfold bG;rw [IR];split
 · rw [bj,lw (fun x=>h x.1.symm)]
 rfl
theorem I0 {f:List Pt} {t:Int×Int} {p:List Int}: ∀(n:Nat) (w:List Int),n<=adX w->(∀i,n<=i->i<adX w->w[i]! =za f t (bG p w (2*i+1)) (bG p w (2*i+2)))->
 (IY f t p n w).length=adX w/\ ∀i,i<adX w->(IY f t p n w)[i]! =za f t (bG p (IY f t p n w) (2*i+1)) (bG p (IY f t p n w) (2*i+2))
 |0,w,_,h=>⟨rfl,fun i hi=>h i (Nat.zero_le _) hi⟩
 |n+1,w,hn,h=>by
  have ih:=I0 n (w.set n (za f t (bG p w (2*n+1)) (bG p w (2*n+2)))) (by rw [IR];omega) (fun i h1 h2=>by
   rw [IR] at h2;rw [IZ (by omega),IZ (by omega),bj];split
   · rename_i e;rw [e.1]
   exact h i (by omega) h2)
  rw [IR] at ih;exact ih
theorem dK {f:List Pt} {t:Int×Int} {p:List Int} (hp:1<=adX p):IX f t p (bw f t p):=by have:=I0 (f:=f) (t:=t) (p:=p) (adX p-1) (acp (adX p-1) 0) (by rw [pp];omega) (fun i h1 h2=>by rw [pp] at h2;omega);rw [pp] at this;have hl:(bw f t p).length=adX p-1:=this.1;exact ⟨by omega,fun i hi=>this.2 i (by omega)⟩
theorem I1 {f:List Pt} {t:Int×Int} {p w v:List Int} (h:IX f t p w) (g:IX f t p v):w=v:=by
 have hl:(adX w)=(adX v):=by have:=h.1;have:=g.1;omega
 have key: ∀(d i:Nat),adX w-i<=d->i<adX w->w[i]! =v[i]!:=by
  intro d
  induction d with
  |zero=>intro i h1 h2;omega
  |succ d ih=>
   intro i _ hi;have nd: ∀k,i<k->bG p w k=bG p v k:=fun k hk=>by
    unfold bG;rw [hl];split
    · rename_i h';exact ih k (by omega) (by omega)
    rfl
   rw [h.2 i hi,g.2 i (by omega),nd _ (by omega),nd _ (by omega)]
 exact sZ hl fun i hi=>key _ i (Do _) hi
noncomputable def xK (p w:List Int) (i:Nat):Option (Int×Int):=
 if bG p w (2*i+1)<0\/bG p w (2*i+2)<0 then none
 else if w[i]! =bG p w (2*i+1) then adZ (bG p w (2*i+2),bG p w (2*i+1)) else adZ (bG p w (2*i+1),bG p w (2*i+2))
noncomputable def gK (p w:List Int):List (Int×Int):=(acS (adX w)).filterMap (xK p w)
theorem Hb (p w:List Int):(gK p w).length<=(adX w):=by
 have:=acv (xK p w) (acS (adX w))
 rwa [ad7] at this
theorem Bl {p w:List Int} {e:Int×Int}:e∈gK p w↔ ∃i,i<adX w/\xK p w i=adZ e:=by
 unfold gK;rw [acV];constructor
 · rintro ⟨i,hi,h⟩;exact ⟨i,acf.1 hi,h⟩
 rintro ⟨i,hi,h⟩;exact ⟨i,acf.2 hi,h⟩
theorem xp {p w:List Int} {i:Nat} {e:Int×Int} (h:xK p w i=adZ e):0<=bG p w (2*i+1)/\0<=bG p w (2*i+2)/\
 ((e=(bG p w (2*i+2),bG p w (2*i+1))/\w[i]! =bG p w (2*i+1))\/(e=(bG p w (2*i+1),bG p w (2*i+2))/\w[i]!≠bG p w (2*i+1))):=by
 unfold xK at h;split at h
 · cases h
 rename_i hn
 refine ⟨by omega,by omega,?_⟩;split at h
 · rename_i h1;injection h with h;exact .inl ⟨h.symm,h1⟩
 rename_i h1;injection h with h;exact .inr ⟨h.symm,h1⟩
theorem xL {α β:Type} {g:α->Option β}: ∀{l:List α},l.Nodup->(∀x∈l,∀y∈l,∀b,g x=adZ b->g y=adZ b->x=y)->(l.filterMap g).Nodup
 | [],_,_=> .nil
 |a::r,h,hi=>by
  obtain ⟨h1,h2⟩:=ads.1 h;have ih:=xL (g:=g) h2 (fun x hx y hy b e1 e2=>hi x (acj _ hx) y (acj _ hy) b e1 e2);cases hg:g a with
  |none=>rw [List.filterMap_cons_none hg];exact ih
  |some b=>rw [List.filterMap_cons_some hg];refine ads.2 ⟨fun hb=>?_,ih⟩;obtain ⟨y,hy,e⟩:=acV.1 hb;have:=hi a (List.mem_cons_self ..) y (acj _ hy) b hg e;subst this;exact h1 hy
theorem Kf {p w:List Int} (hl:(adX w)+1=adX p) (hc:xn p w) (ho:Bk p):(gK p w).Nodup:=by
 refine xL List.nodup_range fun i hi k hk b e1 e2=>?_
 have hi:=acf.1 hi;have hk:=acf.1 hk;obtain ⟨a1,a2,a3⟩:=xp e1;obtain ⟨b1,b2,b3⟩:=xp e2;refine Vv hl hc ho hi hk a1 a2 ?_;rcases a3 with ⟨rfl,_⟩|⟨rfl,_⟩<;>rcases b3 with ⟨h,_⟩|⟨h,_⟩<;>(injection h with h1 h2)
 · exact .inl ⟨h2.symm,h1.symm⟩
 · exact .inr ⟨h1.symm,h2.symm⟩
 · exact .inr ⟨h2.symm,h1.symm⟩
 exact .inl ⟨h1.symm,h2.symm⟩
theorem RZ {f:List Pt} (gx:bM f) {p w:List Int} (hl:(adX w)+1=adX p) (hn:(adX p)<=64) (hc:xn p w) (ho:Bk p) (hk: ∀x∈p,0<=x->mA f x):Cu f (gK p w):=by
 have hp: ∀e∈gK p w,ig f e/\e.1≠e.2:=fun e he=>by
  obtain ⟨i,hi,h⟩:=Bl.1 he;obtain ⟨a1,a2,a3⟩:=xp h;have m1:=iH hl hc (i:=2*i+1) (by omega);have m2:=iH hl hc (i:=2*i+2) (by omega);have ne:=E3 hl hc ho hi a1;rcases a3 with ⟨rfl,_⟩|⟨rfl,_⟩
  · exact ⟨⟨hk _ m2 a2,hk _ m1 a1⟩,fun h=>ne h.symm⟩
  exact ⟨⟨hk _ m1 a1,hk _ m2 a2⟩,ne⟩
 refine ⟨by have:=Hb p w;omega,fun e he=>?_,fun e he=>(hp e he).1⟩;obtain ⟨⟨h1,h2⟩,ne⟩:=hp e he;obtain ⟨⟨p1,p2⟩,q1,q2⟩:=And.intro (cU gx h1) (cU gx h2);unfold ff at p1 q1;unfold eX;omega
section
variable {P : Int -> Int -> Prop} {S : Int -> Prop} {bit : Int -> Nat -> Nat}
end
theorem Hc {α:Type} (z:α): ∀(l:List (Int×α)) (k:Int) (a:α) (j:Int),qu z (oW l k a) j=if j=k then a else qu z l j
 | [],k,a,j=>by
  simp only [oW,qu]
  by_cases h:j=k
  · rw [ls h,dy h];rfl
  rw [lw h,dE h];rfl
 |p::l,k,a,j=>by
  simp only [oW]
  by_cases h:k=p.1
  · rw [dy h,lc]
    simp only [qu]
    by_cases c:j=k
    · rw [ls c,dy c];rfl
    rw [lw c,dE c,lm,dE (by rw [<- h];exact c),lm]
  rw [dE h,lm]
  simp only [qu];rw [Hc z l k a j]
  by_cases c:j=p.1
  · rw [dy c,lc,lc,lw (by rw [c];exact fun e=>h e.symm)]
  rw [dE c,lm,lm]
section
variable {f : List Pt} {t : Int × Int}
end
def Kg (f:List Pt) (x:Int):Prop:=x= -1\/(0<=x/\mA f x)
theorem Kg.has {f:List Pt} {x:Int} (h:Kg f x) (h0:0<=x):mA f x:=by rcases h with h|h;omega;exact h.2
theorem nO {p w:List Int} {i:Nat} (hi:i<adX w+adX p) (hb:(adX w)+adX p<=1000):iC ⟨p,w⟩ (i:Int)=adZ (bG p w i):=by
 unfold iC bG;simp only [ay]
 by_cases h:i<adX w
 · rw [aF (by omega),lc,aq w i h,ao,ls h]
 rw [aA (by omega),lm,nJ ⟨by omega,by omega⟩,show (i:Int) - ((adX w):Int)=((i-(adX w):Nat):Int) by omega,aq p _ (by omega),ao,lw h]
theorem mW {p w:List Int} {i:Nat} (hi:i<adX w+adX p) (hb:(adX w)+adX p<=1000):fS ⟨p,w⟩ (i:Int)=adZ (bG p w i):=by
 unfold fS bG;have e:aa .i64 ((i:Int) - ((adX w):Int))=(i:Int) - ((adX w):Int):=nJ ⟨by omega,by omega⟩;simp only [ay,e]
 by_cases h:i<adX w
 · rw [aA (by omega),lm,aq w i h,ao,ls h]
 rw [aF (by omega),lc,show (i:Int) - ((adX w):Int)=((i-(adX w):Nat):Int) by omega,aq p _ (by omega),ao,lw h]
theorem oM {i:Nat} (h:i<1000) (k:Nat) (hk:k<=2):aa .i64 ((aa .i64 (2*(i:Int)))+(k:Int))=((2*i+k:Nat):Int):=by rw [nJ (n:=2*(i:Int)) ⟨by omega,by omega⟩,nJ ⟨by omega,by omega⟩];omega
theorem CC {f:List Pt} (gx:bM f) {t:Int×Int} (kr:jf t) {x y:Int} (hx:Kg f x) (hy:Kg f y):sm ⟨f⟩ t x y=adZ (za f t x y):=by
 unfold sm za
 by_cases h1:x<0
 · rw [aF h1,lc,ls h1]
 rw [aA h1,lm,lw h1]
 by_cases h2:y<0
 · rw [aF h2,lc,ls h2]
 rw [aA h2,lm,lw h2];have p1:=hx.has (by omega);have p2:=hy.has (by omega);obtain ⟨j,j1,j2,j3⟩:=xj gx p1;obtain ⟨k,k1,k2,k3⟩:=xj gx p2;simp only [j2,k2,ao,aq f j j1,aq f k k1,j3,k3,GA (cU gx p1).1 (cU gx p2).1 kr]
 by_cases h:leads (bW f x) (bW f y) t
 · rw [aF h,lc,ls h]
 rw [aA h,lm,lw h]
theorem Hd:cL=aN:=rfl
theorem pJ {f:List Pt} (gx:bM f) {x:Int} (h:mA f x): ∃k,k<adX f/\jb ⟨f⟩ x=adZ ((k:Int),aec)/\f[k]! =bW f x:=by have h1:=gx.1;have bs:=zJ f x (by omega) (fun i j=>nK gx.2.2);obtain ⟨k,hk,he⟩:=h;refine ⟨k,hk,?_,(Cr gx.2.2 hk he).symm⟩;unfold jb;rw [Hd,bs.1 k hk he];rfl
theorem DH {f:List Pt} (gx:bM f) {x:Int} (h: ¬mA f x): ∃m:Nat,jb ⟨f⟩ x=adZ ((m:Int),ael):=by have h1:=gx.1;have bs:=zJ f x (by omega) (fun i j=>nK gx.2.2);obtain ⟨m,_,_,_,e⟩:=bs.2 (fun k hk he=>h ⟨k,hk,he⟩);refine ⟨m,?_⟩;unfold jb;rw [Hd,e];rfl
theorem He {f:List Pt} (gx:bM f) {t:Int×Int} (r:aX t) (kr:jf t) {x y:Int} (hx:Kg f x) (hy:Kg f y) (ec:0<=x->x≠y):nF ⟨f⟩ t x y=adZ (za f t x y):=by
 unfold nF za
 by_cases h1:x<0
 · rw [aF (by split<;>omega),lc,ls h1]
   have:x= -1:=by rcases hx with h|h;exact h;omega
   have: -1<=y:=by rcases hy with h|h<;>omega
   congr 1
   split<;>omega
 rw [lw h1]
 by_cases h2:y<0
 · rw [aF (by split<;>omega),lc,ls h2]
   congr 1
   split<;>omega
 rw [aA (by split<;>omega),lm,lw h2];have p1:=hx.has (by omega);have p2:=hy.has (by omega);obtain ⟨j,j1,j2,j3⟩:=pJ gx p1;obtain ⟨k,k1,k2,k3⟩:=pJ gx p2;obtain ⟨a1,a2⟩:=cU gx p1;obtain ⟨b1,b2⟩:=cU gx p2;simp only [j2,k2,ao,aq f j j1,aq f k k1,j3,k3];rcases EE a1 b1 kr r with h|⟨h,_⟩
 · rw [h,ao]
   by_cases h:leads (bW f x) (bW f y) t
   · rw [ls h];dsimp only;rw [aF h,lc]
   rw [lw h];dsimp only;rw [aA h,lm]
 rw [a2,b2] at h;exact absurd h (ec (by omega))
def oY (B:List Int) (i:Nat):List Int:=acp i 0++B.drop i
theorem pK {B:List Int} {i:Nat} (h:i<=adX B):(oY B i).length=(adX B):=by unfold oY;rw [AC,pp,EQ];omega
theorem zN {B:List Int} {i k:Nat} (h:i<=k) (hi:i<=adX B):(oY B i)[k]! =B[k]!:=by
 unfold oY;rw [iD (by rw [pp];exact h),pF,pp]
 congr 1;omega
theorem xq {p B:List Int} {i k:Nat} (h:i<=k) (hi:i<=adX B):bG p (oY B i) k=bG p B k:=by
 unfold bG;rw [pK hi];split
 · exact zN h hi
 rfl
theorem I2 {B:List Int} {i:Nat} (h:i<adX B):(oY B (i+1)).set i B[i]! =oY B i:=by
 refine sZ (by rw [IR,pK (by omega),pK (by omega)]) fun k hk=>?_
 rw [IR,pK (by omega)] at hk;rw [bj]
 by_cases e:k=i
 · rw [ls ⟨e,by rw [pK (by omega)];omega⟩,zN (by omega) (by omega),e]
 rw [lw (fun x=>e x.1)]
 by_cases h2:k<i
 · unfold oY
   rw [fU (by rw [pp];omega),fU (by rw [pp];omega)];rw [getElem!_pos _ k (by rw [pp];omega),getElem!_pos _ k (by rw [pp];omega),acA,acA]
 rw [zN (by omega) (by omega),zN (by omega) (by omega)]
section
variable {f : List Pt} (gx : bM f) {t : Int × Int} (r : aX t) (kr : jf t) {p : List Int} (h1 : 1 <= (adX p)) (h64 : (adX p) <= 64) (hk : ∀ x ∈ p, Kg f x)
include gx kr h1 h64 hk
theorem E4 {i:Nat} (hi:i<(bw f t p).length+adX p):Kg f (bG p (bw f t p) i):=by have _:=gx;have _:=kr;have _:=h64;exact hk _ (iH (dK (f:=f) (t:=t) h1).1 (dK h1).ri hi)
theorem OL {i:Nat} (hi:i<(bw f t p).length):
 lO ((i:Int),f,t.1,t.2,p,oY (bw f t p) (i+1))=adZ (.next ((i:Int) -1,f,t.1,t.2,p,oY (bw f t p) i)):=by
 have R:=dK (f:=f) (t:=t) (p:=p) h1;have bl:=R.1;have pl:=pK (B:=bw f t p) (i:=i+1) (by omega);unfold lO;simp only [aF (show (0:Int)<=(i:Int) by omega),lc];have k1:=oM (i:=i) (by omega) 1 (by omega);have k2:=oM (i:=i) (by omega) 2 (by omega);rw [show aa .i64 (aa .i64 (2*(i:Int))+1)=((2*i+1:Nat):Int) from k1,show aa .i64 (aa .i64 (2*(i:Int))+2)=((2*i+2:Nat):Int) from k2];rw [nO (by omega) (by omega),ao,nO (by omega) (by omega),ao,xq (by omega) (by omega),xq (by omega) (by omega)];rw [show sm ⟨f⟩ (t.1,t.2) _ _=_ from CC gx kr (E4 gx kr h1 h64 hk (by omega)) (E4 gx kr h1 h64 hk (by omega)),ao,aq _ i (by omega),ao,<- R.2 i hi];show adZ (Step.next (_,f,t.1,t.2,p,(oY (bw f t p) (i+1)).set i _))=_;rw [I2 hi,nJ ⟨by omega,by omega⟩]
theorem Hf:yT ⟨f⟩ t p=adZ ⟨p,bw f t p⟩:=by
 have R:=dK (f:=f) (t:=t) (p:=p) h1;have bl:=R.1;have w1:aa .i64 (((adX p):Int) -1)=((adX p-1:Nat):Int):=mU (by omega) h1;have loop: ∀n:Nat,n<=(bw f t p).length->aB lO ((n:Int) -1,f,t.1,t.2,p,oY (bw f t p) n)=adZ ⟨p,bw f t p⟩:=by
  intro n
  induction n with
  |zero=>intro _;refine aG ?_;unfold lO;rw [aA (by omega),lm];rfl
  |succ n ih=>intro hn;have st:=OL gx kr h1 h64 hk (t:=t) (i:=n) (by omega);rw [show ((n+1:Nat):Int) -1=(n:Int) by omega,aT st];exact ih (by omega)
 unfold yT;simp only [bk (show (adX p)<=1048576 by omega),ao,ay,w1,dy rfl,lc,GM (0:Int) (show (adX p)-1<=1048576 by omega),pp];have:=loop (bw f t p).length (Do _);unfold oY at this;rw [adh,If,show (bw f t p).length=adX p-1 by omega] at this;rw [nJ (n:=((adX p-1:Nat):Int) -1) ⟨by omega,by omega⟩];exact this
include r
theorem Kh (ho:Bk p) {i:Nat} (hi:i<(bw f t p).length):
 hM ((i:Int),f,t.1,t.2,p,oY (bw f t p) (i+1))=adZ (.next ((i:Int) -1,f,t.1,t.2,p,oY (bw f t p) i)):=by
 have R:=dK (f:=f) (t:=t) (p:=p) h1;have bl:=R.1;have pl:=pK (B:=bw f t p) (i:=i+1) (by omega);unfold hM;simp only [aF (show (0:Int)<=(i:Int) by omega),lc];have k1:=oM (i:=i) (by omega) 1 (by omega);have k2:=oM (i:=i) (by omega) 2 (by omega);rw [show aa .i64 (aa .i64 (2*(i:Int))+1)=((2*i+1:Nat):Int) from k1,show aa .i64 (aa .i64 (2*(i:Int))+2)=((2*i+2:Nat):Int) from k2];rw [mW (by omega) (by omega),ao,mW (by omega) (by omega),ao,xq (by omega) (by omega),xq (by omega) (by omega)];rw [show nF ⟨f⟩ (t.1,t.2) _ _=_ from He gx r kr (E4 gx kr h1 h64 hk (by omega)) (E4 gx kr h1 h64 hk (by omega)) (fun h0=>E3 R.1 R.ri ho hi h0),ao,aq _ i (by omega),ao,<- R.2 i hi]
 show adZ (Step.next (_,f,t.1,t.2,p,(oY (bw f t p) (i+1)).set i _))=_;rw [I2 hi,nJ ⟨by omega,by omega⟩]
theorem DI:pU ⟨f⟩ p=adZ aec:=by
 have _:=r;have _:=kr;have st:=bT (body:=lY) (fun i=>(p,((adX p):Int),(i:Int),f)) (adX p) (fun i hi=>by
  have id:=hk _ (aV hi);unfold lY;simp only [aF (show (i:Int)<((adX p):Int) by omega),lc,aq p i hi,ao,aQ (show i<1000000000 by omega)]
  by_cases h:mA f p[i]!
  · obtain ⟨k,_,e,_⟩:=pJ gx h
    rw [e,ao,lc]
  obtain ⟨m,e⟩:=DH gx h
  rw [e,ao,lm];rcases id with id|id
  · rw [dy id];rfl
  exact absurd id.2 h)
 unfold pU;refine (show _=_ from st).trans (aG ?_);unfold lY;simp only [aA (show¬((adX p):Int)<((adX p):Int) by omega),lm];rfl
def Hg (p:List Int):Nat->List (Int×Bool)
 |0=>oW [] (-1) ael
 |i+1=>oW (Hg p i) p[i]! (aen (0<=p[i]!))
omit gx r kr h1 h64 hk in
theorem Hh (p:List Int): ∀(i:Nat) (k:Int),qu ael (Hg p i) k=aen (0<=k/\ ∃j,j<i/\p[j]! =k)
 |0,k=>by unfold Hg;rw [Hc];rw [decide_eq_false (fun h=>by obtain ⟨_,j,hj,_⟩:=h;omega)];split<;>rfl
 |i+1,k=>by
  unfold Hg;rw [Hc,Hh p i k]
  by_cases e:k=p[i]!
  · rw [ls e]
    refine decide_eq_decide.2 ⟨fun h=>⟨by omega,i,by omega,e.symm⟩,fun h=>by omega⟩
  rw [lw e]
  refine decide_eq_decide.2 ⟨fun ⟨h,j,hj,hx⟩=>⟨h,j,by omega,hx⟩,fun ⟨h,j,hj,hx⟩=>⟨h,j,?_,hx⟩⟩;rcases Nat.lt_or_ge j i with h2|h2
  · exact h2
  obtain rfl:j=i:=by omega
  exact absurd hx.symm e
omit gx r kr h1 h64 hk in
theorem R0 {p:List Int} (ho:Bk p) {i:Nat} (hi:i<adX p):qu ael (Hg p i) p[i]! =ael:=by
 rw [Hh];refine decide_eq_false fun ⟨h0,j,hj,e⟩=>?_
 have:=ho j i hj hi e;omega
theorem DJ (ho:Bk p):pV ⟨f⟩ t p=adZ (⟨p,bw f t p⟩,0):=by
 have R:=dK (f:=f) (t:=t) (p:=p) h1;have bl:=R.1;have w1:aa .i64 (((adX p):Int) -1)=((adX p-1:Nat):Int):=mU (by omega) h1;have loop: ∀n:Nat,n<=(bw f t p).length->aB hM ((n:Int) -1,f,t.1,t.2,p,oY (bw f t p) n)=adZ (.done (⟨p,bw f t p⟩,0)):=by
  intro n
  induction n with
  |zero=>intro _;refine aG ?_;unfold hM;rw [aA (by omega),lm];rfl
  |succ n ih=>intro hn;have st:=Kh gx r kr h1 h64 hk (t:=t) ho (i:=n) (by omega);rw [show ((n+1:Nat):Int) -1=(n:Int) by omega,aT st];exact ih (by omega)
 have fc:eD ⟨f⟩=adZ 0:=by rw [jP];exact congrArg adZ (j0.2 gx)
 unfold pV uI;simp only [fc,ao,bF (rfl:(0:Int)=0),lm,dz kr,ls r,ay,aA (show¬((adX p):Int)<1 by omega),aA (show¬(64:Int)<((adX p):Int) by omega),DI gx r kr h1 h64 hk,v6];have st:=bT (body:=lZ 0 p) (fun i=>(p,((adX p):Int),(i:Int),f,t.1,t.2,Hg p i)) (adX p) (fun i hi=>by
  unfold lZ;simp only [aF (show (i:Int)<((adX p):Int) by omega),lc,aq p i hi,ao,R0 ho hi,ach,v6,lm,aQ (show i<1000000000 by omega)];rfl)
 refine (show _=_ from st).trans (aG ?_);unfold lZ;simp only [aA (show¬((adX p):Int)<((adX p):Int) by omega),lm,bF (rfl:(0:Int)=0),bk (show (adX p)<=1048576 by omega),ao,ay,w1,dy rfl,lc,GM (0:Int) (show (adX p)-1<=1048576 by omega),pp];have:=loop (bw f t p).length (Do _);unfold oY at this;rw [adh,If,show (bw f t p).length=adX p-1 by omega] at this;rw [nJ (n:=((adX p-1:Nat):Int) -1) ⟨by omega,by omega⟩];exact this
end
structure Ki (p w:List Int):Prop where
 one:1<=adX p
 gy:(adX p)<=64
 len:(adX w)+1=adX p
 once:Bk p
 P3: ∀x∈p,-1<=x/\x<=65535
 cho:xn p w
 none_: ∀i,i<adX w->w[i]!<0->bG p w (2*i+1)<0/\bG p w (2*i+2)<0
def Kj (p w:List Int) (i:Nat):Prop:=(w[i]! =bG p w (2*i+1)\/w[i]! =bG p w (2*i+2))/\ ¬(w[i]!<0/\(0<=bG p w (2*i+1)\/0<=bG p w (2*i+2)))
def R2 (p w:List Int) (i:Nat):Prop:=(w[i]! =bG p w (2*i+1)\/w[i]! =bG p w (2*i+2))/\ ¬(w[i]! = -1/\(bG p w (2*i+1)≠ -1\/bG p w (2*i+2)≠ -1))
def HO (p:List Int) (i:Nat):Prop:= -1<=p[i]!/\p[i]!<=65535
def Hi (p:List Int) (i:Nat):Prop:= ∀j,j<i->p[j]! =p[i]!->p[i]!<0
theorem CD {p:List Int}:(∀i,i<adX p->Hi p i)↔Bk p:=
 ⟨fun h i j lS hj e=>by rw [e];exact h j hj i lS e,fun h i hi j hj e=>by have:=h j i hj hi e;rw [e] at this;exact this⟩
theorem Kk {p:List Int}:(∀i,i<adX p->HO p i)↔ ∀x∈p,-1<=x/\x<=65535:=(y7 (P:=fun x=> -1<=x/\x<=65535)).symm
theorem Vw {p w:List Int} (h1:1<=adX p) (h64:(adX p)<=64) (hl:(adX w)+1=adX p):
 Ki p w↔(∀i,i<adX p->Hi p i)/\(∀i,i<adX p->HO p i)/\ ∀i,i<adX w->Kj p w i:=by
 rw [CD,Kk];constructor
 · intro h
   refine ⟨h.once,h.P3,fun i hi=>⟨h.cho i hi,fun ⟨a,b⟩=>?_⟩⟩;have:=h.none_ i hi a;omega
 rintro ⟨a,b,c⟩
 exact ⟨h1,h64,hl,a,b,fun i hi=>(c i hi).1,fun i hi h0=>by have:=(c i hi).2;omega⟩
theorem ML {p w:List Int} (hl:(adX w)+1=adX p) (hr: ∀x∈p,-1<=x/\x<=65535):(∀i,i<adX w->Kj p w i)↔ ∀i,i<adX w->R2 p w i:=by
 constructor<;>intro h i hi
 · have hc:xn p w:=fun i hi=>(h i hi).1
   have a1:=hr _ (iH hl hc (i:=2*i+1) (by omega));have a2:=hr _ (iH hl hc (i:=2*i+2) (by omega));obtain ⟨b1,b2⟩:=h i hi;exact ⟨b1,by omega⟩
 have hc:xn p w:=fun i hi=>(h i hi).1
 have a1:=hr _ (iH hl hc (i:=2*i+1) (by omega));have a2:=hr _ (iH hl hc (i:=2*i+2) (by omega));obtain ⟨b1,b2⟩:=h i hi;exact ⟨b1,by omega⟩
theorem ajg {p q:Prop} [Decidable p] [Decidable q] [Decidable (p/\q)] {a b:Int}:(if p then (if q then a else b) else b)=if p/\q then a else b:=by
 by_cases hp:p
 · rw [ls hp];exact Cw ⟨fun h=>⟨hp,h⟩,fun h=>h.2⟩
 rw [lw hp,lw (fun h=>hp h.1)]
theorem DK (p w:List Int) (hl:(adX p)<=1000) (wl:(adX w)<=1000):kK ⟨p,w⟩=adZ (if Ki p w then 0 else 8):=by
 unfold kK;simp only [ay]
 by_cases h1:((adX p):Int)<1
 · rw [aF h1,lc,lw (fun h=>by have:=h.one;omega)]
 rw [aA h1,lm]
 by_cases h2:(64:Int)<((adX p):Int)
 · rw [aF h2,lc,lw (fun h=>by have:=h.gy;omega)]
 rw [aA h2,lm,mU (by omega) (by omega)]
 by_cases h3:(adX w)+1=adX p
 case neg=>rw [cO (by omega),lc,lw (fun h=>h3 h.len)]
 rw [bF (by omega),lm];have l1:=nj (body:=hZ) (fun i=>(w,((adX w):Int),(i:Int),p,w)) (adX w) (Kj p w) (r:= .done (.done 8)) (e:= .done (.done 0)) (fun i hi=>by
  unfold hZ Kj;have k1:=oM (i:=i) (by omega) 1 (by omega);have k2:=oM (i:=i) (by omega) 2 (by omega);simp only [aF (show (i:Int)<((adX w):Int) by omega),lc,aq w i hi,ao,show aa .i64 (aa .i64 (2*(i:Int))+1)=((2*i+1:Nat):Int) from k1,show aa .i64 (aa .i64 (2*(i:Int))+2)=((2*i+2:Nat):Int) from k2,
   mW (p:=p) (w:=w) (i:=2*i+1) (by omega) (by omega),mW (p:=p) (w:=w) (i:=2*i+2) (by omega) (by omega),aQ (show i<1000000000 by omega)]
  generalize bG p w (2*i+1)=x;generalize bG p w (2*i+2)=y;generalize w[i]! =v
  by_cases a1:v=x
  · rw [bF a1,lm]
    by_cases a3:v<0
    · rw [aF a3,lc]
      by_cases a4:0<=(if y>x then y else x)
      · rw [aF a4,lc]
        exact ⟨fun _=>rfl,fun h=>by split at a4<;>omega⟩
      rw [aA a4,lm]
      exact ⟨fun h=>by split at a4<;>omega,fun _=>rfl⟩
    rw [aA a3,lm]
    exact ⟨fun h=>by omega,fun _=>rfl⟩
  · rw [cO a1,lc]
    by_cases a2:v=y
    · rw [bF a2,lm]
      by_cases a3:v<0
      · rw [aF a3,lc]
        by_cases a4:0<=(if y>x then y else x)
        · rw [aF a4,lc]
          exact ⟨fun _=>rfl,fun h=>by split at a4<;>omega⟩
        rw [aA a4,lm]
        exact ⟨fun h=>by split at a4<;>omega,fun _=>rfl⟩
      rw [aA a3,lm]
      exact ⟨fun h=>by omega,fun _=>rfl⟩
    rw [cO a2,lc]
    exact ⟨fun _=>rfl,fun h=>by omega⟩) (by
  unfold hZ;simp only [aA (show¬((adX w):Int)<((adX w):Int) by omega),lm])
 have l1':aB hZ (w,((adX w):Int),0,p,w)=adZ (.done (.done (if∀i,i<adX w->Kj p w i then 0 else 8))):=by
  refine (show _=_ from l1).trans ?_
  by_cases h: ∀i,i<adX w->Kj p w i
  · rw [ls h,ls h]
  rw [lw h,lw h]
 have l2: ∀m,aB ic (p,((adX p):Int),0,p,w,m)=adZ (.done (if (∀i,i<adX p->HO p i)/\ ∀i,i<adX w->Kj p w i then 0 else 8)):=fun m=>by
  have l2:=nj (body:=ic) (fun i=>(p,((adX p):Int),(i:Int),p,w,m)) (adX p) (HO p) (r:= .done 8) (e:= .done (if∀i,i<adX w->Kj p w i then 0 else 8)) (fun i hi=>by
   unfold ic rf HO;simp only [aF (show (i:Int)<((adX p):Int) by omega),lc,aq p i hi,ao,aQ (show i<1000000000 by omega)];generalize p[i]! =v
   by_cases a1: -1<=v
   · rw [aF a1,lc,ao]
     by_cases a2:v<=65535
     · rw [aF a2];exact ⟨fun h=>absurd ⟨a1,a2⟩ h,fun _=>rfl⟩
     rw [aA a2]
     refine ⟨fun _=>?_,fun h=>absurd h.2 a2⟩;rw [aF (show (0:Int)<=(i:Int) by omega)];rfl
   · rw [aA a1,lm,ao]
     refine ⟨fun _=>?_,fun h=>absurd h.1 a1⟩;rw [aF (show (0:Int)<=(i:Int) by omega)];rfl) (by
   unfold ic;simp only [aA (show¬((adX p):Int)<((adX p):Int) by omega),lm,ay,l1'])
  refine (show _=_ from l2).trans ?_
  by_cases h: ∀i,i<adX p->HO p i
  · rw [ls h];congr 2;exact Cw ⟨fun k=>⟨h,k⟩,fun k=>k.2⟩
  rw [lw h,lw (fun k=>h k.1)]
 have l3:=nj (body:=l9) (fun i=>(p,((adX p):Int),(i:Int),p,w,Hg p i)) (adX p) (Hi p) (r:=8) (e:=if (∀i,i<adX p->HO p i)/\ ∀i,i<adX w->Kj p w i then 0 else 8) (fun i hi=>by
  unfold l9;simp only [aF (show (i:Int)<((adX p):Int) by omega),lc,aq p i hi,ao,Hh,aQ (show i<1000000000 by omega)]
  by_cases a:Hi p i
  · rw [aA (show¬(0<=p[i]!/\ ∃j,j<i/\p[j]! =p[i]!) from fun ⟨h0,j,hj,e⟩=>by have:=a j hj e;omega)]
    exact ⟨fun h=>absurd a h,fun _=>rfl⟩
  · rw [aF (show 0<=p[i]!/\ ∃j,j<i/\p[j]! =p[i]! from by
     unfold Hi at a;obtain ⟨j,hj⟩:=PP.1 a;obtain ⟨hj,h⟩:=UV.1 hj;obtain ⟨h,h0⟩:=UV.1 h;exact ⟨by omega,j,hj,h⟩)]
    refine ⟨fun _=>?_,fun h=>absurd h a⟩;rw [aF (show (0:Int)<=(i:Int) by omega)];rfl) (by
  unfold l9;simp only [aA (show¬((adX p):Int)<((adX p):Int) by omega),lm,ay,l2])
 refine (show _=_ from l3).trans ?_;rw [Cw (Vw (by omega) (by omega) h3)]
 congr 1
 exact ajg
theorem Hj (p:List Int) (hl:(adX p)<=1000):yO p=adZ (!aen (Bk p)):=by
 have l2:=nj (body:=oD) (fun i=>(p,(i:Int))) (adX p) (Hi p) (r:=aec) (e:=ael) (fun i hi=>by
  have l1:=nj (body:=oC) (fun j=>(p,(i:Int),(j:Int))) i (fun j=>p[j]! =p[i]!->p[i]!<0) (r:= .done aec) (e:= .next (p,((i+1:Nat):Int))) (fun j hj=>by
   unfold oC;simp only [aF (show (j:Int)<(i:Int) by omega),lc,aq p i hi,aq p j (by omega),ao,aQ (show j<1000000000 by omega)]
   by_cases a:0<=p[i]!
   · rw [aF a,lc]
     by_cases b:p[j]! =p[i]!
     · rw [dy b];exact ⟨fun _=>rfl,fun h=>by have:=h b;omega⟩
     rw [dE b];exact ⟨fun h=>absurd (fun k=>absurd k b) h,fun _=>rfl⟩
   · rw [aA a,lm]
     exact ⟨fun h=>absurd (fun _=>by omega) h,fun _=>rfl⟩) (by
   unfold oC;simp only [aA (show¬(i:Int)<(i:Int) by omega),lm,aQ (show i<1000000000 by omega)])
  have l1:=(show _=_ from l1);unfold oD;simp only [ay,aF (show (i:Int)<((adX p):Int) by omega),lc]
  by_cases a:Hi p i
  · rw [ls (show∀j,j<i->p[j]! =p[i]!->p[i]!<0 from a)] at l1
    exact ⟨fun h=>absurd a h,fun _=>l1⟩
  · rw [lw (show¬ ∀j,j<i->p[j]! =p[i]!->p[i]!<0 from a)] at l1
    exact ⟨fun _=>l1,fun h=>absurd h a⟩) (by
  unfold oD;simp only [ay,aA (show¬((adX p):Int)<((adX p):Int) by omega),lm])
 refine (show _=_ from l2).trans ?_
 by_cases h:Bk p
 · rw [ls (CD.2 h),aF h];rfl
 rw [lw (fun k=>h (CD.1 k)),aA h];rfl
theorem Hk (p w:List Int) (hl:(adX p)<=1000) (wl:(adX w)<=1000):qK ⟨p,w⟩=adZ (if Ki p w then 0 else 8):=by
 unfold qK;simp only [ay]
 by_cases h1:((adX p):Int)<1
 · rw [aF h1,lc,lw (fun h=>by have:=h.one;omega)]
 rw [aA h1,lm]
 by_cases h2:(64:Int)<((adX p):Int)
 · rw [aF h2,lc,lw (fun h=>by have:=h.gy;omega)]
 rw [aA h2,lm,mU (by omega) (by omega)]
 by_cases h3:(adX w)+1=adX p
 case neg=>rw [cO (by omega),lc,lw (fun h=>h3 h.len)]
 rw [bF (by omega),lm,Hj p hl,ao]
 by_cases ho:Bk p
 case neg=>rw [aA ho,lw (fun h=>ho h.once)];rfl
 rw [aF ho,v6,lm];have l1:=nj (body:=lM) (fun i=>((i:Int),p,w)) (adX w) (R2 p w) (r:= .done 8) (e:= .done 0) (fun i hi=>by
  unfold lM R2;have k1:=oM (i:=i) (by omega) 1 (by omega);have k2:=oM (i:=i) (by omega) 2 (by omega);simp only [ay,aF (show (i:Int)<((adX w):Int) by omega),lc,aq w i hi,ao,show aa .i64 (aa .i64 (2*(i:Int))+1)=((2*i+1:Nat):Int) from k1,show aa .i64 (aa .i64 (2*(i:Int))+2)=((2*i+2:Nat):Int) from k2,
   nO (p:=p) (w:=w) (i:=2*i+1) (by omega) (by omega),nO (p:=p) (w:=w) (i:=2*i+2) (by omega) (by omega),aQ (show i<1000000000 by omega)]
  generalize bG p w (2*i+1)=x;generalize bG p w (2*i+2)=y;generalize w[i]! =v
  by_cases a1:v=x
  · rw [bF a1,lm]
    by_cases a3:v= -1
    · rw [dy a3,lc]
      by_cases a4:x= -1
      · rw [bF a4,lm]
        by_cases a5:y= -1
        · rw [bF a5,lm];exact ⟨fun h=>by omega,fun _=>rfl⟩
        rw [cO a5,lc];exact ⟨fun _=>rfl,fun h=>by omega⟩
      rw [cO a4,lc];exact ⟨fun _=>rfl,fun h=>by omega⟩
    rw [dE a3,lm];exact ⟨fun h=>by omega,fun _=>rfl⟩
  · rw [cO a1,lc]
    by_cases a2:v=y
    · rw [bF a2,lm]
      by_cases a3:v= -1
      · rw [dy a3,lc]
        by_cases a4:x= -1
        · rw [bF a4,lm]
          by_cases a5:y= -1
          · rw [bF a5,lm];exact ⟨fun h=>by omega,fun _=>rfl⟩
          rw [cO a5,lc];exact ⟨fun _=>rfl,fun h=>by omega⟩
        rw [cO a4,lc];exact ⟨fun _=>rfl,fun h=>by omega⟩
      rw [dE a3,lm];exact ⟨fun h=>by omega,fun _=>rfl⟩
    rw [cO a2,lc]
    exact ⟨fun _=>rfl,fun h=>by omega⟩) (by
  unfold lM;simp only [ay,aA (show¬((adX w):Int)<((adX w):Int) by omega),lm])
 have l1':aB lM (0,p,w)=adZ (.done (if∀i,i<adX w->R2 p w i then 0 else 8)):=by
  refine (show _=_ from l1).trans ?_
  by_cases h: ∀i,i<adX w->R2 p w i
  · rw [ls h,ls h]
  rw [lw h,lw h]
 have l2:=nj (body:=oE) (fun i=>(((adX p):Int),(i:Int),p,w)) (adX p) (HO p) (r:=8) (e:=if∀i,i<adX w->R2 p w i then 0 else 8) (fun i hi=>by
  unfold oE HO;simp only [aF (show (i:Int)<((adX p):Int) by omega),lc,aq p i hi,ao,aQ (show i<1000000000 by omega)];generalize p[i]! =v
  by_cases a1:v< -1
  · rw [aF a1];exact ⟨fun _=>rfl,fun h=>by omega⟩
  · rw [aA a1,lm]
    by_cases a2:65535<v
    · rw [aF a2];exact ⟨fun _=>rfl,fun h=>by omega⟩
    rw [aA a2];exact ⟨fun h=>by omega,fun _=>rfl⟩) (by
  unfold oE;simp only [aA (show¬((adX p):Int)<((adX p):Int) by omega),lm,l1'])
 refine (show _=_ from l2).trans ?_;rw [Cw (Vw (by omega) (by omega) h3)]
 congr 1
 by_cases hr: ∀i,i<adX p->HO p i
 · rw [ls hr]
   exact Cw ⟨fun h=>⟨CD.2 ho,hr,(ML h3 (Kk.1 hr)).2 h⟩,fun h=>(ML h3 (Kk.1 hr)).1 h.2.2⟩
 rw [lw hr,lw (fun h=>hr h.2.1)]
theorem ab6 {h l:Pt} {t t':Int×Int} (hh:ff h) (hl:ff l) (r:aX t) (r':aX t') (le:t.1*t'.2<=t'.1*t.2) (nf:(jO h l t).2=aec->t'.1*(jO h l t).1.2<(jO h l t).1.1*t'.2): ¬leads l h t':=by
 unfold jO at nf
 by_cases h1:leads l h t
 · rw [ls h1] at nf
   have:=nf rfl;dsimp only at this;omega
 rw [lw h1] at nf
 by_cases h2:h.2.2<l.2.2
 · rw [ls h2] at nf
   obtain ⟨_,m1,m2,m3⟩:=uP hh hl (show h.2.2≠l.2.2 by omega);have up:=nf rfl;dsimp only at up;intro h3;have g:0<=xH l h t':=by rcases h3 with k|k<;>omega
   rw [Cv] at g;generalize met h l=m at*;have d:=m1.1;have hB:0<l.2.2-h.2.2:=by omega
   generalize l.2.2-h.2.2=B at*;generalize hA:h.2.1-l.2.1=A at*;have g2:A*t'.2<=B*t'.1:=by
    have:(l.2.1-h.2.1)*t'.2= -(A*t'.2):=by rw [<- acF];congr 1;omega
    omega
   have g3:m.1*t'.2*B<=t'.1*m.2*B:=by
    have e1:m.1*t'.2*B=A*t'.2*m.2:=by rw [M2,m3,M2]
    have e2:t'.1*m.2*B=B*t'.1*m.2:=by rw [M2,acw t'.1 B]
    rw [e1,e2];exact Int.mul_le_mul_of_nonneg_right g2 (by omega)
   have g4:m.1*t'.2<=t'.1*m.2:=Int.le_of_mul_le_mul_right g3 hB;omega
 exact Eg r.1 r'.1 le h2 h1
def hP (c:aI) (r:Int) (N:List Nd) (to:Int×Int) (out:List (Int×Int)):=
 (c.ci.1,c.ci.2,c.ii.am,c.ai.aL,c.ai.ce,c.ae.af.az,c.ae.af.be,c.ae.af.bi,c.ae.bv,c.ae.aj,c.io,r,N,to.1,to.2,(0:Int),(0:Int),(0:Int),(0:Int),out)
noncomputable def uZ (p w:List Int) (k:Nat):List (Int×Int):=(acS k).filterMap (xK p w)
theorem Ek (p w:List Int) (k:Nat):uZ p w (k+1)=uZ p w k++(match xK p w k with|some e=>[e]|none=>[]):=by unfold uZ;rw [List.range_succ,List.filterMap_append];cases h:xK p w k<;>simp [h]
theorem Hl (p w:List Int) (k:Nat):(uZ p w k).length<=k:=by
 have:=acv (xK p w) (acS k)
 rwa [ad7] at this
section
variable {p w : List Int} (hl : (adX w) + 1 = (adX p)) (h64 : (adX p) <= 64) (hc : xn p w)
include hl h64
theorem El:vD ⟨p,w⟩=adZ (gK p w):=by
 have st:=bT (body:=uh) (fun i=>((i:Int),p,w,uZ p w i)) (adX w) (fun i hi=>by
  have k1:=oM (i:=i) (by omega) 1 (by omega);have k2:=oM (i:=i) (by omega) 2 (by omega);have el:=Hl p w i;rw [Ek];unfold uh;simp only [ay,aF (show (i:Int)<((adX w):Int) by omega),lc,show aa .i64 (aa .i64 (2*(i:Int))+1)=((2*i+1:Nat):Int) from k1,show aa .i64 (aa .i64 (2*(i:Int))+2)=((2*i+2:Nat):Int) from k2,
   nO (p:=p) (w:=w) (i:=2*i+1) (by omega) (by omega),nO (p:=p) (w:=w) (i:=2*i+2) (by omega) (by omega),ao,aq w i hi,aQ (show i<1000000000 by omega)]
  unfold xK;generalize bG p w (2*i+1)=x;generalize bG p w (2*i+2)=y;generalize w[i]! =v
  by_cases a1:x<0
  · rw [aF a1,lc,ls (.inl a1)];simp
  rw [aA a1,lm]
  by_cases a2:y<0
  · rw [aF a2,lc,ls (.inr a2)];simp
  rw [aA a2,lm,lw (by omega)]
  by_cases a3:v=x
  · rw [dy a3,lc,ls a3,dO (by rw [ww];omega),ao]
  rw [dE a3,lm,lw a3,dO (by rw [ww];omega),ao])
 unfold vD;refine (show _=_ from st).trans (aG ?_);unfold uh;simp only [ay,aA (show¬((adX w):Int)<((adX w):Int) by omega),lm];rfl
include hc
theorem MM (hr: ∀x∈p,-1<=x/\x<=65535):aB lI (w,((adX w):Int),0,p,w,[])=adZ (⟨p,w⟩,gK p w):=by
 have st:=bT (body:=lI) (fun i=>(w,((adX w):Int),(i:Int),p,w,uZ p w i)) (adX w) (fun i hi=>by
  have k1:=oM (i:=i) (by omega) 1 (by omega);have k2:=oM (i:=i) (by omega) 2 (by omega);have el:=Hl p w i;have m1:=hr _ (iH hl hc (i:=2*i+1) (by omega));have m2:=hr _ (iH hl hc (i:=2*i+2) (by omega));have cv:=hc i hi;have fin: ∀(x y v:Int),(-1<=x/\x<=65535)->(-1<=y/\y<=65535)->(v=x\/v=y)->
   (bif aen (0<=x) then
    bif aen (0<=y) then (bK (uZ p w i) [(aa .i64 (aa .i64 (x+y) -v),v)]).bind fun l3=>adZ (Step.next (ρ:=bq×List (Int×Int)) (w,((adX w):Int),aa .i64 ((i:Int)+1),p,w,l3))
    else adZ (Step.next (w,((adX w):Int),aa .i64 ((i:Int)+1),p,w,uZ p w i))
   else adZ (Step.next (w,((adX w):Int),aa .i64 ((i:Int)+1),p,w,uZ p w i)))=
   adZ (Step.next (w,((adX w):Int),((i+1:Nat):Int),p,w,uZ p w i++(match (if x<0\/y<0 then none else if v=x then adZ (y,x) else adZ (x,y)) with|some e=>[e]|none=>[]))):=by
   intro x y v hx hy hv;rw [aQ (show i<1000000000 by omega)]
   by_cases a1:x<0
   · rw [aA (by omega),lm,ls (.inl a1)];simp
   rw [aF (by omega),lc]
   by_cases a2:y<0
   · rw [aA (by omega),lm,ls (.inr a2)];simp
   rw [aF (by omega),lc,lw (by omega),dO (by rw [ww];omega),ao,nJ (n:=x+y) ⟨by omega,by omega⟩,nJ ⟨by omega,by omega⟩]
   by_cases a3:v=x
   · rw [ls a3,a3,show x+y-x=y by omega]
   rw [lw a3,show x+y-v=x by omega,show v=y by omega]
  rw [Ek];unfold lI;have e1:bG p w (2*i+1)=if 2*i+1<(adX w) then w[2*i+1]! else p[2*i+1-(adX w)]!:=rfl
  have e2:bG p w (2*i+2)=if 2*i+2<(adX w) then w[2*i+2]! else p[2*i+2-(adX w)]!:=rfl
  have f1:=fin _ _ _ m1 m2 cv;simp only [ay,aF (show (i:Int)<((adX w):Int) by omega),lc,show aa .i64 (aa .i64 (2*(i:Int))+1)=((2*i+1:Nat):Int) from k1,show aa .i64 (aa .i64 (2*(i:Int))+2)=((2*i+2:Nat):Int) from k2,aq w i hi,ao,beq_self_eq_true]
  by_cases b1:2*i+1<adX w
  · rw [ls b1] at e1
    rw [aF (show ((2*i+1:Nat):Int)<((adX w):Int) by omega),lc,aq w _ b1,ao,<- e1]
    by_cases b2:2*i+2<adX w
    · rw [ls b2] at e2
      rw [aF (show ((2*i+2:Nat):Int)<((adX w):Int) by omega),lc,aq w _ b2,ao,<- e2];exact f1
    rw [lw b2] at e2
    rw [aA (show¬((2*i+2:Nat):Int)<((adX w):Int) by omega),lm,nJ ⟨by omega,by omega⟩,show ((2*i+2:Nat):Int) - ((adX w):Int)=((2*i+2-(adX w):Nat):Int) by omega,aq p _ (by omega),ao,<- e2];exact f1
  rw [lw b1] at e1
  rw [lw (show¬2*i+2<(adX w) by omega)] at e2;rw [aA (show¬((2*i+1:Nat):Int)<((adX w):Int) by omega),lm,nJ (n:=((2*i+1:Nat):Int) - ((adX w):Int)) ⟨by omega,by omega⟩,show ((2*i+1:Nat):Int) - ((adX w):Int)=((2*i+1-(adX w):Nat):Int) by omega,aq p _ (by omega),ao,<- e1,
   aA (show¬((2*i+2:Nat):Int)<((adX w):Int) by omega),lm,nJ (n:=((2*i+2:Nat):Int) - ((adX w):Int)) ⟨by omega,by omega⟩,show ((2*i+2:Nat):Int) - ((adX w):Int)=((2*i+2-(adX w):Nat):Int) by omega,aq p _ (by omega),ao,<- e2]
  exact f1)
 refine (show _=_ from st).trans (aG ?_);unfold lI;simp only [aA (show¬((adX w):Int)<((adX w):Int) by omega),lm];rfl
end
structure DL (f:List Pt) (p:List Int):Prop where
 one:1<=adX p
 gy:(adX p)<=64
 once:Bk p
 ids: ∀x∈p,Kg f x
theorem DL.P3 {f:List Pt} (gx:bM f) {p:List Int} (h:DL f p): ∀x∈p,-1<=x/\x<=65535:=fun x hx=>by
 rcases h.ids x hx with e|⟨e,hp⟩
 · omega
 have:=(cU gx hp).1
 have e2:=(cU gx hp).2;unfold ff at this;omega
section
variable {f : List Pt} (gx : bM f) {t : Int × Int} (r : aX t) (kr : jf t) {p : List Int} (pl : DL f p)
include gx kr pl
theorem HP:Bg ⟨f⟩ t p=adZ ⟨p,bw f t p⟩:=by unfold Bg;rw [Hf gx kr pl.one pl.gy pl.ids];rfl
theorem oN:Cu f (gK p (bw f t p))/\(gK p (bw f t p)).Nodup/\(gK p (bw f t p)).length<=63:=by have _:=kr;have R:=dK (f:=f) (t:=t) pl.one;have m:=pl.gy;have:=R.1;have el:=Hb p (bw f t p);exact ⟨RZ gx R.1 pl.gy R.ri pl.once fun x hx h0=>(pl.ids x hx).has h0,Kf R.1 R.ri pl.once,by omega⟩
include r
theorem tf:jW ⟨f⟩ t p=adZ (⟨p,bw f t p⟩,gK p (bw f t p)):=by have R:=dK (f:=f) (t:=t) pl.one;unfold jW;rw [DJ gx r kr pl.one pl.gy pl.ids pl.once,ao];exact MM R.1 pl.gy R.ri (pl.P3 gx)
end
def zO:cV:=⟨eu,⟨[],[]⟩⟩
structure arD (c:aI) (f:List Pt) (p:List Int) (k:cV):Prop where
 uw:Mw c f (gK p (bw f c.ci p)) k.jp
 aW:k.kw=⟨p,bw f c.ci p⟩
theorem Kl {c:aI} (ok:aU c) {f:List Pt} (gx:bM f) {p:List Int} (pl:DL f p):
 ∃R:aI×Int,nH c ⟨f⟩ (gK p (bw f c.ci p))=adZ R/\mJ c ⟨f⟩ (gK p (bw f c.ci p))=adZ R/\(R.2=0/\Mw c f (gK p (bw f c.ci p)) R.1\/R=(eu,18)):=by
 obtain ⟨Ke,nd,el⟩:=oN gx ok.fQ (t:=c.ci) pl;obtain ⟨R,r1,r2,r3⟩:=abP ok gx Ke;have ee:mj f (gK p (bw f c.ci p))=0:=by unfold mj;rw [lw (ut.2 Ke.cv),lw (ut.2 nd),lw (fun h=>h Ke.kn)]
 have rn:=G9 ok gx (es:=gK p (bw f c.ci p)) (by omega) (fun _=>r1);rw [ls ee] at rn;exact ⟨R,rn,r2,r3⟩
theorem Bm {c:aI} (ok:aU c) {f:List Pt} (gx:bM f) {p:List Int} (pl:DL f p):
 ∃R:cV×Int,eJ c ⟨f⟩ p=adZ R/\uO c ⟨f⟩ p=adZ R/\(R.2=0/\arD c f p R.1\/R=(zO,18)):=by
 have h1:=tf gx ok.iR ok.fQ pl;have g1:=HP gx (t:=c.ci) ok.fQ pl;have B:=dK (f:=f) (t:=c.ci) pl.one;have eo:=El B.1 pl.gy;obtain ⟨R,r1,r2,r3⟩:=Kl ok gx pl;rcases r3 with ⟨q0,qq⟩|he
 · refine ⟨(⟨R.1,⟨p,bw f c.ci p⟩⟩,0),?_,?_,.inl ⟨rfl,qq,rfl⟩⟩
   · unfold eJ
     simp only [h1,ao,r1,q0,show ((0:Int) !=0)=ael from rfl,lm]
   unfold uO
   simp only [g1,ao,eo,r2,q0,show ((0:Int) !=0)=ael from rfl,lm]
 refine ⟨(zO,18),?_,?_,.inr rfl⟩
 · unfold eJ
   simp only [h1,ao,r1,he,show ((18:Int) !=0)=aec from rfl,lc];rfl
 unfold uO
 simp only [g1,ao,eo,r2,he,show ((18:Int) !=0)=aec from rfl,lc];rfl
def gR (p:List Int):List Int:=p.filter fun x=>decide (0<=x)
theorem mN {p:List Int} {j:Nat} (hj:j<adX p):gR (p.take (j+1))=gR (p.take j)++if 0<=p[j]! then [p[j]!] else []:=by
 unfold gR;rw [gb hj,List.filter_append]
 by_cases h:0<=p[j]!
 · rw [ls h,List.filter_cons_of_pos (by simpa using h),adt]
 rw [lw h,List.filter_cons_of_neg (by simpa using h),adt]
theorem Vx (p:List Int) (j:Nat):(gR (p.take j)).length<=j:=by have:=acE (fun x:Int=>decide (0<=x)) (p.take j);rw [rc] at this;unfold gR;omega
theorem CE (p:List Int) (hl:(adX p)<=1000):zz p=adZ (gR p):=by
 have st:=bT (body:=rW) (fun i=>(p,(i:Int),gR (p.take i))) (adX p) (fun i hi=>by
  have el:=Vx p i;rw [mN hi];unfold rW;simp only [ay,aF (show (i:Int)<((adX p):Int) by omega),lc,aq p i hi,ao,aQ (show i<1000000000 by omega)]
  by_cases h:0<=p[i]!
  · rw [aF h,lc,ls h,dO (by rw [ww];omega),ao]
  rw [aA h,lm,lw h,If])
 unfold zz;refine (show _=_ from st).trans (aG ?_);unfold rW;simp only [ay,aA (show¬((adX p):Int)<((adX p):Int) by omega),lm,abA]
structure I3 (p:List Int) (i j:Nat) (L:List Int):Prop where
 len:(adX L)=adX p
 le:i<=j
 lt:j<=adX p
 got:L.take i=gR (p.take j)
 rest: ∀k,j<=k->k<adX p->L[k]! =p[k]!
theorem I3.cnt {p:List Int} {i j:Nat} {L:List Int} (h:I3 p i j L):i=(gR (p.take j)).length:=by have:=congrArg List.length h.got;rw [rc,h.len] at this;have:=h.le;have:=h.lt;omega
theorem ab7 {p:List Int} {i:Nat} {L:List Int} (h:I3 p i (adX p) L): ∃M:List Int,ba p ((i:Int),((adX p):Int),L)=adZ (.done (.done (i,adX p,M)))/\adX M=adX p/\M.take i=gR p:=by
 have hl:=h.len;have hi:=h.le;have got:=h.got;rw [abA] at got;unfold ba;simp only [ay,hl,aA (show¬((adX p):Int)<((adX p):Int) by omega),lm,aF (show (0:Int)<=(i:Int) by omega),aF (show (i:Int)<=((adX p):Int) by omega),aF (show ((adX p):Int)<=((adX p):Int) by omega),adI,lc,acs,adQ,ach,Bool.and_true]
 by_cases h0:(adX p)-i=0
 · have n1:Nat.beq (adX p-i) 0=aec:=by rw [h0];rfl
   rw [n1,lc,iU L i (by omega),ao,beq_self_eq_true,lc];exact ⟨L,rfl,hl,got⟩
 have n1:Nat.beq (adX p-i) 0=ael:=by
  cases hb:Nat.beq (adX p-i) 0 with
  |false=>rfl
  |true=>have:=Nat.eq_of_beq_eq_true hb;omega
 have n2:Nat.ble (i+(adX p-i)) (adX p)=aec:=Nat.ble_eq_true_of_le (by omega);have ll:(fD L i (acp (adX p-i) (0:Int))).length=(adX p):=by unfold fD;simp;omega
 rw [n1,lm,n2,lc,iU _ i (by rw [ll];omega),ao,ll,beq_self_eq_true,lc];refine ⟨_,rfl,ll,?_⟩;rw [<- got];unfold fD;rw [acu,acl (by rw [rc];omega),List.take_take,Nat.min_self]
theorem ajh {p:List Int} (hp:(adX p)<=1000): ∀(d i j:Nat) (L:List Int),adX p-j<=d->I3 p i j L->
 ∃(n:Nat) (M:List Int),aB (ba p) ((i:Int),(j:Int),L)=adZ (.done (n,adX p,M))/\n=(gR p).length/\adX M=adX p/\M.take n=gR p:=by
 have fin: ∀(i j:Nat) (L:List Int),adX p<=j->I3 p i j L-> ∃(n:Nat) (M:List Int),aB (ba p) ((i:Int),(j:Int),L)=adZ (.done (n,adX p,M))/\n=(gR p).length/\adX M=adX p/\M.take n=gR p:=by
  intro i j L hj h;obtain rfl:j=(adX p):=by have:=h.lt;omega
  obtain ⟨M,m1,m2,m3⟩:=ab7 h;exact ⟨i,M,aG m1,by rw [h.cnt,abA],m2,m3⟩
 intro d
 induction d with
 |zero=>exact fun i j L hd h=>fin i j L (by omega) h
 |succ d ih=>
  intro i j L hd h
  by_cases hj:(adX p)<=j
  · exact fin i j L hj h
  have hl:=h.len;have lh:=h.le;have e:L[j]! =p[j]!:=h.rest j (Do _) (by omega);have st:ba p ((i:Int),(j:Int),L)=adZ (.next (((if 0<=p[j]! then i+1 else i:Nat):Int),((j+1:Nat):Int),if 0<=p[j]! then L.set i p[j]! else L)):=by
   unfold ba jI;simp only [ay,hl,aF (show (j:Int)<((adX p):Int) by omega),lc,aq L j (by omega),ao,e,aQ (show i<1000000000 by omega),aQ (show j<1000000000 by omega)]
   by_cases h0:0<=p[j]!
   · rw [aA (by omega),ach,lc,aq L i (by omega),ao,ls h0,ls h0];rfl
   rw [aF (by omega),v6,lm,lw h0,lw h0]
  rw [aT st];refine ih _ _ _ (by omega) ?_
  by_cases h0:0<=p[j]!
  · rw [ls h0,ls h0]
    refine ⟨by rw [IR];exact hl,by omega,by omega,?_,fun k hk AI=>?_⟩
    · rw [mN (by omega),ls h0,<- h.got,gb (by rw [IR];omega),bj,ls ⟨rfl,by omega⟩,List.take_set_of_le (Do i)]
    rw [bj,lw (by omega)];exact h.rest k (by omega) AI
  rw [lw h0,lw h0]
  refine ⟨hl,by omega,by omega,?_,fun k hk AI=>h.rest k (by omega) AI⟩;rw [mN (by omega),lw h0,If];exact h.got
theorem MN: ∀{l:List Int},(∀x∈l,0<=x)->gR l=l:=fun {l} h=>List.filter_eq_self.2 fun x hx=>by simpa using h x hx
theorem HQ (p:List Int) (hp:(adX p)<=1000): ∃(n:Nat) (M:List Int),cb p=adZ (n,adX p,M)/\n=(gR p).length/\adX M=adX p/\M.take n=gR p:=by
 have key: ∀(d m:Nat),adX p-m<=d->m<=adX p->(∀k,k<m->0<=p[k]!)-> ∃(n:Nat) (M:List Int),aB (bc p) (((adX p):Int),(m:Int),p)=adZ (n,adX p,M)/\n=(gR p).length/\adX M=adX p/\M.take n=gR p:=by
  intro d;have fin: ∀m,m=adX p->(∀k,k<m->0<=p[k]!)-> ∃(n:Nat) (M:List Int),aB (bc p) (((adX p):Int),(m:Int),p)=adZ (n,adX p,M)/\n=(gR p).length/\adX M=adX p/\M.take n=gR p:=by
   intro m hm h;subst hm;have e:gR p=p:=MN fun x hx=>by obtain ⟨i,hi,rfl⟩:=aP.1 hx;exact h i hi
   refine ⟨adX p,p,aG ?_,by rw [e],rfl,by rw [abA,e]⟩;unfold bc;simp only [aA (show¬((adX p):Int)<((adX p):Int) by omega),lm,beq_self_eq_true,lc]
  induction d with
  |zero=>exact fun m h1 h2 h=>fin m (by omega) h
  |succ d ih=>
   intro m h1 h2 h
   by_cases hm:m=adX p
   · exact fin m hm h
   by_cases h0:0<=p[m]!
   · have st:bc p (((adX p):Int),(m:Int),p)=adZ (.next (((adX p):Int),((m+1:Nat):Int),p)):=by
      unfold bc jI;simp only [aF (show (m:Int)<((adX p):Int) by omega),lc,aq p m (by omega),ao,aA (show¬p[m]!<0 by omega),lm,aQ (show m<1000000000 by omega)]
     rw [aT st];refine ih (m+1) (by omega) (by omega) fun k hk=>?_
     by_cases e:k=m
     · rw [e];exact h0
     exact h k (by omega)
   have hd:I3 p m (m+1) p:=⟨rfl,by omega,by omega,by
    rw [mN (by omega),lw h0,If,MN fun x hx=>?_];obtain ⟨i,hi,_,rfl⟩:=bS.1 hx;exact h i hi,fun k _ _=>rfl⟩
   obtain ⟨n,M,m1,m2,m3,m4⟩:=ajh hp (adX p) m (m+1) p (by omega) hd;refine ⟨n,M,aG ?_,m2,m3,m4⟩;unfold bc jI;simp only [aF (show (m:Int)<((adX p):Int) by omega),lc,aq p m (by omega),ao,aF (show p[m]!<0 by omega),beq_self_eq_true,dE (show (m:Int)≠ -1 by omega),lm,aQ (show m<1000000000 by omega),m1]
 unfold cb;exact key (adX p) 0 (by omega) (Nat.zero_le _) (fun k hk=>absurd hk (adr k))
def R3 (n:Nat):Prop:= ∃i,i<7/\n=2^i
theorem MO {n:Nat} (h1:1<=n) (h2:n<=64):AS .i64 (n:Int) ((n-1:Nat):Int)=0↔R3 n:=by
 have key: ∀k:Fin 65,1<=k.val->((AS .i64 (k.val:Int) ((k.val-1:Nat):Int)=0)↔ ∃i,i<7/\k.val=2^i):=by decide+kernel
 exact key ⟨n,by omega⟩ h1
theorem dbl {q:Nat} (h:q<=64):aa .i64 ((q:Int)*2)=((2*q:Nat):Int):=by rw [nJ ⟨by omega,by omega⟩];omega
theorem ab8 (i:Nat):2^(i+1)=2*2^i:=by rw [acy];omega
theorem Hm {n:Nat}:ud (n:Int)=adZ (aen (R3 n)):=by
 have st:=nj (body:=oF) (fun i=>((n:Int),((2^i:Nat):Int))) 7 (fun i=>n≠2^i) (r:=aec) (e:=ael) (fun i hi=>by
  have b1:2^i<=64:=Nat.le_trans (Nat.pow_le_pow_right (by omega) (show i<=6 by omega)) (by decide);unfold oF;simp only [aF (show ((2^i:Nat):Int)<=64 by omega),lc]
  by_cases h:n=2^i
  · rw [dy (by omega)];exact ⟨fun _=>rfl,fun k=>absurd h k⟩
  · rw [dE (by omega),lm,dbl b1,ab8]
    exact ⟨fun k=>absurd h k,fun _=>rfl⟩) (by
  unfold oF;rfl)
 unfold ud;refine (show _=_ from st).trans ?_
 by_cases h:R3 n
 · obtain ⟨i,hi,e⟩:=h
   rw [lw (fun k=>k i hi e),aF ⟨i,hi,e⟩]
 rw [ls (fun i hi e=>h ⟨i,hi,e⟩),aA h]
theorem pL (f:List Pt):(qQ f).length=(adX f):=sp ..
theorem xt {f:List Pt} {i:Nat} (h:i<adX f):(qQ f)[i]! =(f[i]!).1:=by unfold qQ;rw [getElem!_pos _ i (by rw [sp];exact h),getElem!_pos f i h,aci]
section
variable {f : List Pt} (h64 : (adX f) <= 64)
include h64
end
theorem OM:yJ=yS:=rfl
structure tg (k:cV):Prop where
 Hn:aU k.jp
 br:Ki k.kw.aW k.kw.jG
 pow:R3 (adX k.kw.aW)
 perm:(qQ k.jp.ii.am).Perm (gR k.kw.aW)
 right:k.kw.jG=bw k.jp.ii.am k.jp.ci k.kw.aW
 cert:(k.jp.ai.ce.map fun x=>x.2).Perm (gK k.kw.aW k.kw.jG)
theorem DM {p:List Int} {x:Int}:x∈gR p↔x∈p/\0<=x:=by unfold gR;rw [List.mem_filter];simp
theorem Bn {f:List Pt} {p w:List Int} (br:Ki p w) (pm:(qQ f).Perm (gR p)):DL f p:=by
 refine ⟨br.one,br.gy,br.once,fun x hx=>?_⟩;have:=br.P3 x hx
 by_cases h:0<=x
 · exact .inr ⟨h,Qb.1 (pm.mem_iff.2 (DM.2 ⟨hx,h⟩))⟩
 exact .inl (by omega)
theorem ON {p:List Int} (h:Bk p):(gR p).Nodup:=by
 have go: ∀(j:Nat),j<=adX p->(gR (p.take j)).Nodup:=by
  intro j
  induction j with
  |zero=>intro _;simp [gR]
  |succ j ih=>
   intro hj;rw [mN (by omega)]
   by_cases h0:0<=p[j]!
   · rw [ls h0]
     refine List.nodup_append.2 ⟨ih (by omega),by simp,fun a ha b hb e=>?_⟩;obtain rfl:b=p[j]!:=by simpa using hb
     subst e;have hm:=(DM.1 ha).1;obtain ⟨i,hi,_,e⟩:=bS.1 hm;have:=h i j hi (by omega) e;omega
   rw [lw h0,If];exact ih (by omega)
 have:=go (adX p) (Do _)
 rwa [abA] at this
theorem OO {f:List Pt} (h:iQ f):(qQ f).Pairwise (· <= ·):=by
 refine abZ.2 fun i j hi hj lS=>?_
 rw [pL] at hi hj;have:=nK h lS hj;rw [<- getElem!_pos (qQ f) i (by rw [pL];exact hi),<- getElem!_pos (qQ f) j (by rw [pL];exact hj),xt hi,xt hj];omega
theorem MP {f:List Pt} (h:iQ f) (l:List Int):lA l=qQ f↔(qQ f).Perm l:=by
 constructor
 · intro e;rw [<- e];exact sH l
 intro pm
 exact List.Perm.eq_of_pairwise (le:=(· <= ·)) (fun a b _ _ h1 h2=>Int.le_antisymm h1 h2) (wI l) (OO h) ((sH l).trans pm.symm)
theorem HR (l:List Int) (f:List Pt) (hl:(adX l)<=1000):cq l f ()=adZ (aen (l=qQ f)):=by
 unfold cq;simp only [ay]
 by_cases h:(adX l)=adX f
 case neg=>rw [cO (by omega),lc,aA (fun e=>h (by rw [e,pL]))]
 rw [bF (by omega),lm];have key:=nj (body:=bU) (fun i=>(f,l,((adX l):Int),(i:Int))) (adX l) (fun i=>l[i]! =(f[i]!).1) (r:=ael) (e:=aec) (fun i hi=>by
  unfold bU sP;simp only [aF (show (i:Int)<((adX l):Int) by omega),lc,aq l i hi,aq f i (by omega),ao,aQ (show i<1000000000 by omega)]
  by_cases q:l[i]! =(f[i]!).1
  · rw [dy q];exact ⟨fun w=>absurd q w,fun _=>rfl⟩
  · rw [dE q];exact ⟨fun _=>rfl,fun w=>absurd w q⟩) (by
  unfold bU;simp only [aA (show¬((adX l):Int)<((adX l):Int) by omega),lm])
 refine (show _=_ from key).trans ?_
 by_cases q:l=qQ f
 · rw [ls (fun i hi=>by rw [q,xt (by omega)]),aF q]
 rw [lw (fun w=>q (sZ (by rw [pL];exact h) fun i hi=>by rw [w i hi,xt (by omega)])),aA q]
theorem Km (a b:List Int) (ha:(adX a)<=1000):mc a b=adZ (aen (a=b)):=by
 unfold mc;simp only [ay]
 by_cases h:(adX a)=adX b
 case neg=>rw [cO (by omega),lc,aA (fun e=>h (by rw [e]))]
 rw [bF (by omega),lm];have key:=nj (body:=jx) (fun i=>(a,b,((adX a):Int),(i:Int))) (adX a) (fun i=>a[i]! =b[i]!) (r:=ael) (e:=aec) (fun i hi=>by
  unfold jx;simp only [aF (show (i:Int)<((adX a):Int) by omega),lc,aq a i hi,aq b i (by omega),ao,aQ (show i<1000000000 by omega)]
  by_cases q:a[i]! =b[i]!
  · rw [bF q];exact ⟨fun w=>absurd q w,fun _=>rfl⟩
  · rw [cO q];exact ⟨fun _=>rfl,fun w=>absurd w q⟩) (by
  unfold jx;simp only [aA (show¬((adX a):Int)<((adX a):Int) by omega),lm])
 refine (show _=_ from key).trans ?_
 by_cases q:a=b
 · rw [ls (fun i _=>by rw [q]),aF q]
 rw [lw (fun w=>q (sZ h w)),aA q]
theorem MQ {n:Nat} {M:List Int} (hn:n<=adX M) (hm:(adX M)<=1000):zl Jw n M=adZ (lA (M.take n)++M.drop n):=by unfold zl DZ Jw;rw [ls hn,ls (by rw [rc];omega)];simp only [sj,if_true,Option.map_some]
theorem I4 {c:aI} (ok:aU c) {es:List (Int×Int)} (_nd:es.Nodup):(adX es=adX c.ai.ce/\ ∀i,i<adX c.ai.ce->(c.ai.ce[i]!).2∈es)↔(c.ai.ce.map fun x=>x.2).Perm es:=by
 have cl:(c.ai.ce.map fun x=>x.2).length=(adX c.ai.ce):=sp ..;constructor
 · rintro ⟨h1,h2⟩
   exact xl (Eh ok.s8) (fun x hx=>by obtain ⟨i,hi,rfl⟩:=vO.2 hx;exact h2 i hi) (by omega)
 intro h
 exact ⟨by rw [<- h.length_eq,cl],fun i hi=>h.mem_iff.1 (vO.1 ⟨i,hi,rfl⟩)⟩
theorem EG {k:cV} (fit:s9 k.jp) (hl:(adX k.kw.aW)<=1000) (wl:(adX k.kw.jG)<=1000):ov k=adZ (if tg k then 0 else 8):=by
 unfold ov;rw [jQ fit,ao]
 by_cases ok:aU k.jp
 case neg=>rw [lw ok,lw (fun h=>ok h.Hn)];rfl
 rw [ls ok,bF rfl,lm,show kK k.kw=_ from DK k.kw.aW k.kw.jG hl wl,ao]
 by_cases br:Ki k.kw.aW k.kw.jG
 case neg=>rw [lw br,lw (fun h=>br h.br)];rfl
 have b1:=br.one;have b2:=br.gy;rw [ls br,bF rfl,lm,ay,mU (by omega) b1]
 by_cases pw:R3 (adX k.kw.aW)
 case neg=>rw [cO (fun h=>pw ((MO b1 b2).1 h)),lc,lw (fun h=>pw h.pow)]
 rw [bF ((MO b1 b2).2 pw),lm,bk (by omega),ao];obtain ⟨n,M,e1,e2,e3,e4⟩:=HQ k.kw.aW hl;have nl:n<=(adX M):=by have:=acE (fun x:Int=>decide (0<=x)) k.kw.aW;rw [e2,e3];exact this
 have tk:(lA (M.take n)++M.drop n).take n=lA (gR k.kw.aW):=by rw [acl (by rw [sj,rc];omega),List.take_of_length_le (by rw [sj,rc];omega),e4]
 have ll:(lA (M.take n)++M.drop n).length=(adX M):=by rw [AC,sj,rc,EQ];omega
 have fe:k.jp.ii=⟨k.jp.ii.am⟩:=rfl;rw [e1,ao];dsimp only;rw [MQ nl (by omega),ao,ll,beq_self_eq_true,lc,tk,HR _ _ (by rw [sj];omega),ao]
 by_cases pm:(qQ k.jp.ii.am).Perm (gR k.kw.aW)
 case neg=>rw [aA (fun h=>pm ((MP ok.kQ.2.2 _).1 h)),lw (fun h=>pm h.perm)];rfl
 have pl:=Bn br pm;rw [aF ((MP ok.kQ.2.2 _).2 pm),v6,lm,fe,tf ok.kQ ok.iR ok.fQ pl,ao];dsimp only;obtain ⟨_,nd,el⟩:=oN ok.kQ ok.fQ (t:=k.jp.ci) pl;have R:=dK (f:=k.jp.ii.am) (t:=k.jp.ci) pl.one;rw [Km _ _ (by have:=R.1;omega),ao]
 by_cases hw:bw k.jp.ii.am k.jp.ci k.kw.aW=k.kw.jG
 case neg=>rw [aA hw,lw (fun h=>hw h.right.symm)];rfl
 rw [aF hw,v6,lm,OM,abT _ _ (by omega) (by have:=ok.bd;omega),ao]
 by_cases hc:(k.jp.ai.ce.map fun x=>x.2).Perm (gK k.kw.aW (bw k.jp.ii.am k.jp.ci k.kw.aW))
 · rw [aF ((I4 ok nd).2 hc),ls ⟨ok,br,pw,pm,hw.symm,by rw [<- hw];exact hc⟩];rfl
 rw [aA (fun h=>hc ((I4 ok nd).1 h)),lw (fun h=>hc (by rw [hw];exact h.cert))];rfl
theorem Ho {f:List Pt} (gx:bM f) (p:List Int) (hp:(adX p)<=1000):ug ⟨f⟩ p=adZ (aen (∀i,i<adX p->p[i]! = -1\/mA f p[i]!)):=by
 have st:=nj (body:=oG) (fun i=>(p,(i:Int),f)) (adX p) (fun i=>p[i]! = -1\/mA f p[i]!) (r:=ael) (e:=aec) (fun i hi=>by
  unfold oG;simp only [ay,aF (show (i:Int)<((adX p):Int) by omega),lc,aq p i hi,ao,aQ (show i<1000000000 by omega)]
  by_cases h:p[i]! = -1
  · rw [bF h];exact ⟨fun k=>absurd (.inl h) k,fun _=>rfl⟩
  · rw [cO h,lc]
    by_cases h2:mA f p[i]!
    · obtain ⟨m,_,e,_⟩:=xj gx h2
      rw [e,ao,aA (by omega)];exact ⟨fun k=>absurd (.inr h2) k,fun _=>rfl⟩
    rw [OB gx h2,ao]
    exact ⟨fun _=>rfl,fun k=>by rcases k with k|k;exact absurd k h;exact absurd k h2⟩) (by
  unfold oG;simp only [ay,aA (show¬((adX p):Int)<((adX p):Int) by omega),lm])
 unfold ug;refine (show _=_ from st).trans ?_
 by_cases h: ∀i,i<adX p->p[i]! = -1\/mA f p[i]!
 · rw [ls h,aF h]
 rw [lw h,aA h]
theorem HS {f:List Pt} (gx:bM f) {t:Int×Int} (kr:jf t) {p w:List Int} (br:Ki p w) (pl:DL f p):sU ⟨p,w⟩ ⟨f⟩ t=adZ (aen (w=bw f t p)):=by
 have b2:=br.gy;have b3:=br.len;have st:=nj (body:=p8) (fun i=>((i:Int),p,w,f,t)) (adX w) (fun i=>w[i]! =za f t (bG p w (2*i+1)) (bG p w (2*i+2))) (r:=ael) (e:=aec) (fun i hi=>by
  have k1:=oM (i:=i) (by omega) 1 (by omega);have k2:=oM (i:=i) (by omega) 2 (by omega);unfold p8;simp only [ay,aF (show (i:Int)<((adX w):Int) by omega),lc,show aa .i64 (aa .i64 (2*(i:Int))+1)=((2*i+1:Nat):Int) from k1,show aa .i64 (aa .i64 (2*(i:Int))+2)=((2*i+2:Nat):Int) from k2,
   nO (p:=p) (w:=w) (i:=2*i+1) (by omega) (by omega),nO (p:=p) (w:=w) (i:=2*i+2) (by omega) (by omega),ao,aq w i hi,aQ (show i<1000000000 by omega),
   CC gx kr (pl.ids _ (iH b3 br.cho (i:=2*i+1) (by omega))) (pl.ids _ (iH b3 br.cho (i:=2*i+2) (by omega)))]
  by_cases h:w[i]! =za f t (bG p w (2*i+1)) (bG p w (2*i+2))
  · rw [bF h];exact ⟨fun k=>absurd h k,fun _=>rfl⟩
  · rw [cO h];exact ⟨fun _=>rfl,fun k=>absurd k h⟩) (by
  unfold p8;simp only [ay,aA (show¬((adX w):Int)<((adX w):Int) by omega),lm])
 unfold sU;refine (show _=_ from st).trans ?_;have R:=dK (f:=f) (t:=t) pl.one
 by_cases h:w=bw f t p
 · rw [ls (by rw [h];exact R.2),aF h]
 rw [lw (fun k=>h (I1 ⟨b3,k⟩ R)),aA h]
theorem Em {f:List Pt} (gx:bM f) {t:Int×Int} {p:List Int} (pl:DL f p) {e:Int×Int} (he:e∈gK p (bw f t p)):leads (bW f e.2) (bW f e.1) t:=by
 have R:=dK (f:=f) (t:=t) pl.one;have R1:=R.1;obtain ⟨i,hi,h⟩:=Bl.1 he;obtain ⟨a1,a2,a3⟩:=xp h;have ne:=E3 R.1 R.ri pl.once hi a1;have hx:=(pl.ids _ (iH R.1 R.ri (i:=2*i+1) (by omega))).has a1;have hy:=(pl.ids _ (iH R.1 R.ri (i:=2*i+2) (by omega))).has a2;have wv:=R.2 i hi;unfold za at wv;rw [lw (by omega),lw (by omega)] at wv
 by_cases ld:leads (bW f (bG p (bw f t p) (2*i+1))) (bW f (bG p (bw f t p) (2*i+2))) t
 · rw [ls ld] at wv
   rcases a3 with ⟨rfl,_⟩|⟨_,h⟩
   · exact ld
   exact absurd wv h
 rw [lw ld] at wv
 rcases a3 with ⟨_,h⟩|⟨rfl,_⟩
 · rw [wv] at h;exact absurd h.symm ne
 exact Ei t (by rw [(cU gx hx).2,(cU gx hy).2];exact ne) ld
theorem Hp {k:cV} (fit:s9 k.jp) (hl:(adX k.kw.aW)<=1000) (wl:(adX k.kw.jG)<=1000):ui k=adZ (if tg k then 0 else 8):=by
 unfold ui;rw [G2 fit,ao]
 by_cases ok:aU k.jp
 case neg=>rw [lw ok,lw (fun h=>ok h.Hn)];rfl
 rw [ls ok,bF rfl,lm,show qK k.kw=_ from Hk k.kw.aW k.kw.jG hl wl,ao]
 by_cases br:Ki k.kw.aW k.kw.jG
 case neg=>rw [lw br,lw (fun h=>br h.br)];rfl
 have b1:=br.one;have b2:=br.gy;rw [ls br,bF rfl,lm,ay,Hm,ao]
 by_cases pw:R3 (adX k.kw.aW)
 case neg=>rw [aA pw,lw (fun h=>pw h.pow)];rfl
 have fe:k.jp.ii=⟨k.jp.ii.am⟩:=rfl;rw [aF pw,v6,lm,fe,Ho ok.kQ _ hl,ao]
 by_cases pm:(qQ k.jp.ii.am).Perm (gR k.kw.aW)
 case neg=>
  by_cases kn: ∀i,i<adX k.kw.aW->k.kw.aW[i]! = -1\/mA k.jp.ii.am k.kw.aW[i]!
  case neg=>rw [aA kn,lw (fun h=>pm h.perm)];rfl
  rw [aF kn,v6,lm,CE _ hl,ao,ay,ay,lw (fun h=>pm h.perm)];rw [cO (fun h=>pm ?_)]
  · rfl
  have h:((gR k.kw.aW).length:Int)=((adX k.jp.ii.am):Int):=h;refine (xl (ON br.once) (fun x hx=>?_) (by rw [pL];omega)).symm;obtain ⟨h1,h2⟩:=DM.1 hx;obtain ⟨i,hi,rfl⟩:=aP.1 h1;rcases kn i hi with e|e
  · omega
  exact Qb.2 e
 have pl:=Bn br pm;have kn: ∀i,i<adX k.kw.aW->k.kw.aW[i]! = -1\/mA k.jp.ii.am k.kw.aW[i]!:=fun i hi=>by
  rcases pl.ids _ (aV hi) with e|e
  · exact .inl e
  exact .inr e.2
 rw [aF kn,v6,lm,CE _ hl,ao,ay,ay,bF (by rw [<- pm.length_eq,pL]),lm,show sU k.kw ⟨k.jp.ii.am⟩ k.jp.ci=_ from HS ok.kQ ok.fQ br pl,ao]
 by_cases hw:k.kw.jG=bw k.jp.ii.am k.jp.ci k.kw.aW
 case neg=>rw [aA hw,lw (fun h=>hw h.right)];rfl
 obtain ⟨Ke,nd,el⟩:=oN ok.kQ ok.fQ (t:=k.jp.ci) pl;rw [aF hw,v6,lm,show vD k.kw=_ from El br.len b2,ao];rw [hw];rw [abR ok _ Ke.kn,ao]
 by_cases hc:(k.jp.ai.ce.map fun x=>x.2).Perm (gK k.kw.aW (bw k.jp.ii.am k.jp.ci k.kw.aW))
 · rw [aF (show _/\_ from ⟨by rw [<- hc.length_eq,sp],fun i hi=>⟨vO.2 (hc.mem_iff.2 (aV hi)),Em ok.kQ pl (aV hi)⟩⟩),ls ⟨ok,br,pw,pm,hw,by rw [hw];exact hc⟩];rfl
 rw [aA (fun h=>hc ?_),lw (fun h=>hc (by have:=h.cert;rw [hw] at this;exact this))]
 · rfl
 have cl:(k.jp.ai.ce.map fun x=>x.2).length=(adX k.jp.ai.ce):=sp ..;refine (xl nd (fun x hx=>?_) (by omega)).symm;obtain ⟨i,hi,rfl⟩:=aP.1 hx;exact vO.1 (h.2 i hi).1
section
variable {f : List Pt} (gx : bM f) {t : Int × Int} {p w : List Int} (pl : DL f p) (R : IX f t p w)
include gx pl R
end
structure DN (k:cV):Prop where
 c:Qa k.jp
 p:(adX k.kw.aW)<=1000
 w:(adX k.kw.jG)<=1000
theorem OP {k:cV} (h:DN k):wZ k k=adZ aec:=by have h1:=h.p;have h2:=h.w;unfold wZ sQ;rw [OE h.c,ao,lc,MC _ (by omega),ao,lc,MC _ (by omega),ao,ao]
theorem MR (k:cV):qF k=adZ aec\/(qF k=adZ ael/\DN k):=by
 unfold qF yN
 rcases MB k.jp with e|⟨e,sh⟩
 · rw [e];exact .inl rfl
 rw [e,ao,lm];simp only [ay]
 by_cases h:70<adX k.kw.aW
 · rw [aF (by omega)];exact .inl rfl
 rw [aA (by omega),lm,ao]
 by_cases h2:70<adX k.kw.jG
 · rw [aF (by omega)];exact .inl rfl
 rw [aA (by omega)];exact .inr ⟨rfl,sh,by omega,by omega⟩
theorem tg.fit (k:cV) (n:OF k.jp) (sh:DN k):s9 k.jp:=⟨n.ci,⟨sh.c.s3,sh.c.h,sh.c.w,n.Ov⟩,sh.c.d⟩
theorem Hq {c:aI} (ok:aU c) {lo hi:Int} (hb:ig c.ii.am (lo,hi)) (h:rZ c.ai.ce (lo,hi)) {to:Int×Int} (rt:aX to) (le: ¬dP to c.ci<0) (io: ¬xS c to):
 ¬leads (bW c.ii.am lo) (bW c.ii.am hi) to:=by
 obtain ⟨w,w1,w2⟩:=h;have Js:=(cU ok.kQ hb.2).1;have hj':=(cU ok.kQ hb.1).1;have wn:bo c.ii.am (c.ai.ce[w]!).2 c.ci=jO (bW c.ii.am hi) (bW c.ii.am lo) c.ci:=by unfold bo;rw [w2]
 refine ab6 Js hj' ok.iR rt (by rw [rY] at le;omega) fun is=>?_
 rw [<- wn] at is;obtain ⟨d,hd,_,ev⟩:=ok.Ar.has _ (aV w1) is;obtain ⟨v,hv,he⟩:=aP.1 ev;have tl:=DE ok.ky v hv;have h0:0<(adX c.ae.bv):=by omega
 have e0:=(ok.ky.ev 0 h0).1.1;have ev':=(ok.ky.ev v hv).1.1;rw [he] at tl ev';rw [<- wn];have n1: ¬dP (bo c.ii.am (c.ai.ce[w]!).2 c.ci).1 (Ev.at c.ae.bv[0]!)<0:=fun q=>tl (.inl q)
 rw [rY] at n1;have n2: ¬dP (Ev.at c.ae.bv[0]!) to<=0:=fun q=>io ⟨h0,q⟩
 have n3:to.1*(Ev.at c.ae.bv[0]!).2<(Ev.at c.ae.bv[0]!).1*to.2:=by unfold dP at n2;rcases c6 ((Ev.at c.ae.bv[0]!).1*to.2) (to.1*(Ev.at c.ae.bv[0]!).2) with ⟨a,b⟩|⟨a,b⟩|⟨a,b⟩<;>omega
 exact mK rt.1 e0 ev' n3 (adu.1 n1)
theorem HT {c:aI} (ok:aU c) {p:List Int} (pl:DL c.ii.am p) (ct: ∀e∈gK p (bw c.ii.am c.ci p),rZ c.ai.ce e) {to:Int×Int} (rt:aX to) (le: ¬dP to c.ci<0) (io: ¬xS c to):
 bw c.ii.am to p=bw c.ii.am c.ci p:=by
 have R:=dK (f:=c.ii.am) (t:=c.ci) pl.one;have R1:=R.1;refine I1 (dK pl.one) ⟨R.1,fun i hi=>?_⟩;have wv:=R.2 i hi;have ne:=E3 R.1 R.ri pl.once hi;have ix:=pl.ids _ (iH R.1 R.ri (i:=2*i+1) (by omega));have iy:=pl.ids _ (iH R.1 R.ri (i:=2*i+2) (by omega));have mem: ∀e,xK p (bw c.ii.am c.ci p) i=adZ e->rZ c.ai.ce e:=fun e h=>ct e (Bl.2 ⟨i,hi,h⟩)
 unfold xK at mem;rw [wv];rw [wv] at mem;generalize bG p (bw c.ii.am c.ci p) (2*i+1)=x at*;generalize bG p (bw c.ii.am c.ci p) (2*i+2)=y at*;unfold za at*
 by_cases x0:x<0
 · rw [ls x0,ls x0]
 rw [lw x0,lw x0]
 by_cases y0:y<0
 · rw [ls y0,ls y0]
 rw [lw y0,lw y0];rw [lw x0,lw y0,lw (show¬(x<0\/y<0) by omega)] at mem;have hx:=ix.has (by omega);have hy:=iy.has (by omega);have nxy:=ne (by omega)
 by_cases ld:leads (bW c.ii.am x) (bW c.ii.am y) c.ci
 · rw [ls ld]
   rw [ls ld,ls rfl] at mem;have st:=Hq ok (lo:=y) (hi:=x) ⟨hy,hx⟩ (mem _ rfl) rt le io;rw [ls (Ei to (by rw [(cU ok.kQ hx).2,(cU ok.kQ hy).2];exact fun h=>nxy h.symm) st)]
 rw [lw ld]
 rw [lw ld,lw (fun h=>nxy h.symm)] at mem;have st:=Hq ok (lo:=x) (hi:=y) ⟨hx,hy⟩ (mem _ rfl) rt le io;rw [lw st]
def tP (c:aI) (p w:List Int) (to:Int×Int) (out:List (Int×Int)):=
 (c.ci.1,c.ci.2,c.ii.am,c.ai.aL,c.ai.ce,c.ae.af.az,c.ae.af.be,c.ae.af.bi,c.ae.bv,c.ae.aj,c.io,p,w,to.1,to.2,(0:Int),(0:Int),(0:Int),out)
section
variable {α : Type} [Inhabited α] {P : α -> α -> Prop} {S : α -> Prop}
end
section
variable {f : List Pt} {t : Int × Int}
end
theorem Vy {f:List Pt} (gx:bM f) {t:Int×Int} {p:List Int} (pl:DL f p):Ki p (bw f t p):=by
 have R:=dK (f:=f) (t:=t) pl.one;refine ⟨pl.one,pl.gy,R.1,pl.once,pl.P3 gx,R.ri,fun i hi h=>?_⟩;rw [R.2 i hi] at h;unfold za at h;split at h
 · rename_i h1;exact ⟨h1,h⟩
 rename_i h1
 split at h
 · omega
 split at h<;>omega
theorem Kn (k:cV) (n:OF k.jp):vE k=adZ ael\/(vE k=adZ aec/\DN k/\adX k.jp.ii.am<=10/\tg k):=by
 unfold vE;rcases MR k with e|⟨e,sh⟩
 · rw [e];exact .inl rfl
 rw [e,ao,ach,lc];unfold Bc;rw [ao,ay]
 by_cases h:10<adX k.jp.ii.am
 · rw [aF (by omega)];exact .inl rfl
 rw [aA (by omega),ach,lc,Hp (tg.fit k n sh) sh.p sh.w,ao]
 by_cases ok:tg k
 · rw [ls ok];exact .inr ⟨rfl,sh,by omega,ok⟩
 rw [lw ok];exact .inl rfl
theorem R4:kV=dN:=rfl
structure KtI (p:List Int) (c:aI):Prop where
 Hn:aU c
 pl:DL c.ii.am p
 cert:(c.ai.ce.map fun x=>x.2).Perm (gK p (bw c.ii.am c.ci p))
theorem Hr {c1:aI} (qO:aU c1) {p:List Int} (pl:DL c1.ii.am p):(∃c2,eJ c1 c1.ii p=adZ (⟨c2,⟨p,bw c2.ii.am c2.ci p⟩⟩,0)/\KtI p c2/\c2.ii.am=c1.ii.am/\c2.ci=c1.ci/\fC c1<=fC c2)\/eJ c1 c1.ii p=adZ (zO,18):=by
 obtain ⟨R,s1,_,s3⟩:=Bm qO qO.kQ pl;have s1:eJ c1 c1.ii p=adZ R:=s1;rcases s3 with ⟨q0,qs⟩|he
 · left
   have e3:bw R.1.jp.ii.am R.1.jp.ci p=bw c1.ii.am c1.ci p:=by rw [qs.uw.kQ,qs.uw.ci]
   have nd:=(oN qs.uw.ok.kQ qs.uw.ok.fQ (t:=R.1.jp.ci) (p:=p) (by rw [qs.uw.kQ];exact pl)).2.1;refine ⟨R.1.jp,?_,⟨qs.uw.ok,by rw [qs.uw.kQ];exact pl,?_⟩,qs.uw.kQ,qs.uw.ci,by have:=qs.uw.room;omega⟩
   · rw [s1,e3,<- q0,<- qs.aW]
   refine (List.perm_ext_iff_of_nodup (Eh qs.uw.ok.s8) nd).2 fun e=>⟨fun h=>?_,fun h=>?_⟩
   · obtain ⟨x,hx,rfl⟩:=ac6.1 h
     rw [e3];exact qs.uw.sub x hx
   rw [e3] at h
   exact vO.1 (qs.uw.has e h)
 exact .inr (by rw [s1,he])
noncomputable def th (p:List Int):Sys cV where
 vP to c out:=aB gp (tP c p (bw c.ii.am c.ci p) to out)
 Inv c:=KtI p c
 set c1:=(eJ c1 c1.ii p).bind fun R=>if R.2=0 then adZ R.1.jp else none
 res c:=⟨c,⟨p,bw c.ii.am c.ci p⟩⟩
 zero:=zO
 ok h:=h.Hn
 lead h e he:=Em h.Hn.kQ h.pl (h.cert.mem_iff.1 he)
 at_ {c to} h rt kr le io:=by have st:=HT h.Hn h.pl (fun e he=>vO.2 (h.cert.mem_iff.2 he)) rt le io;refine ⟨Vq h.Hn rt kr le io,h.pl,?_⟩;show (c.ai.ce.map fun x=>x.2).Perm (gK p (bw c.ii.am to p));rw [st];exact h.cert
 stop {c to out} h rt kr le io:=by
  have ok:=h.Hn;have h1:jW c.ii to p=_:=tf ok.kQ rt kr h.pl;have te:(aI.mk (c.ci.1,c.ci.2) (Field.mk c.ii.am) (bm.mk c.ai.aL c.ai.ce) (aK.mk (aS.mk c.ae.af.az c.ae.af.be c.ae.af.bi) c.ae.bv c.ae.aj) c.io)=c:=rfl;have ab9:((to.1,to.2):Int×Int)=to:=rfl;refine aG ?_;unfold gp tP;simp only [te,ab9,Vp ok rt kr le io,ao,show ((6:Int) !=0)=aec from rfl,lc,abU ok rt kr le io];rw [show jW (DF c to).ii to p=_ from h1,ao]
 ev {c to out c1 e x} h rt kr le io f1 qO hf ho:=by
  have ok:=h.Hn;have te:(aI.mk (c.ci.1,c.ci.2) (Field.mk c.ii.am) (bm.mk c.ai.aL c.ai.ce) (aK.mk (aS.mk c.ae.af.az c.ae.af.be c.ae.af.bi) c.ae.bv c.ae.aj) c.io)=c:=rfl;have ab9:((to.1,to.2):Int×Int)=to:=rfl;have ol:bK out [x]=adZ (out++[x]):=dO (by rw [ww];exact ho);rcases Hr qO (p:=p) (by rw [hf];exact h.pl) with ⟨c2,s1,_⟩|s1
  · rw [s1,ao,ls rfl]
    refine aT ?_;unfold gp tP;simp only [te,ab9,f1,ao,s1,show ((0:Int) !=0)=ael from rfl,lm,ol]
  rw [s1,ao,lw (show¬(zO,(18:Int)).2=0 from fun h=>by cases h)]
  refine aG ?_;unfold gp tP;simp only [te,ab9,f1,ao,s1,show ((0:Int) !=0)=ael from rfl,show ((18:Int) !=0)=aec from rfl,lm,lc];rfl
 kept {c c1 c2} h qO hf hs:=by
  rcases Hr qO (p:=p) (by rw [hf];exact h.pl) with ⟨c3,s1,k1,k2,k3,k4⟩|s1
  · rw [s1,ao,ls rfl] at hs
    injection hs with hs;subst hs;exact ⟨k1,by rw [k2,hf],k3,k4⟩
  rw [s1,ao,lw (show¬(zO,(18:Int)).2=0 from fun h=>by cases h)] at hs
  cases hs
theorem aji {k:cV} (ok:tg k):(th k.kw.aW).Inv k.jp/\k=(th k.kw.aW).res k.jp:=by refine ⟨⟨ok.Hn,Bn ok.br ok.perm,by rw [<- ok.right];exact ok.cert⟩,?_⟩;show k=⟨k.jp,⟨k.kw.aW,bw k.jp.ii.am k.jp.ci k.kw.aW⟩⟩;rw [<- ok.right]
theorem amG {k:cV} (ok:tg k) {c:aI} (h:(th k.kw.aW).Inv c) (hf:c.ii.am=k.jp.ii.am):tg ((th k.kw.aW).res c):=
 ⟨h.Hn,Vy h.Hn.kQ h.pl,ok.pow,by show (qQ c.ii.am).Perm _;rw [hf];exact ok.perm,rfl,h.cert⟩
theorem Bo {k:cV} (ok:tg k) {to:Int×Int} (rt:aX to) (kr:jf to) (le: ¬dP to k.jp.ci<0):fZ k to=(th k.kw.aW).vP to k.jp []:=by
 have n:OF k.jp:=⟨ok.Hn.fQ,fun w hw=>(ok.Hn.ky.ev w hw).2.1⟩;have b1:=ok.br.gy;have b2:=ok.br.len;have sh:DN k:=⟨ok.Hn.short,by omega,by omega⟩;have fit:=tg.fit k n sh;have c1:=EG fit sh.p sh.w;rw [ls ok] at c1;show _=aB gp (tP k.jp k.kw.aW (bw k.jp.ii.am k.jp.ci k.kw.aW) to []);rw [<- ok.right];unfold fZ;rw [c1,ao,bF rfl,lm,dz kr,ls rt,ao,bF rfl,lm,Dt kr ok.Hn.fQ,ls ⟨rt,ok.Hn.iR⟩,ao,aA le];rfl
theorem vQ (k:cV) (s t:Int×Int) (n:OF k.jp) (EF:jf s) (t64:jf t):nh k s t=adZ aec:=by
 unfold nh;rw [ao];rcases Kn k n with e|⟨e,sh,h10,ok⟩
 · rw [e];rfl
 rw [e,ao,v6,lm,ab3 EF t64,ao]
 by_cases rr:aX s/\aX t
 case neg=>rw [lw rr];rfl
 obtain ⟨rs,rt⟩:=rr;rw [ls ⟨rs,rt⟩,bF rfl,lm,xb n.ci EF,ao]
 by_cases l1:0<dP k.jp.ci s
 · rw [aF l1];rfl
 rw [aA l1,lm,xb EF t64,ao]
 by_cases l2:0<dP s t
 · rw [aF l2];rfl
 rw [aA l2,lm,lm];have ks:=adj l1;have st:=adj l2;have kt:=Cy ok.Hn.iR rs rt ks st;have gx:=ok.Hn.kQ;have rb:=mn ok.Hn;obtain ⟨inv,_⟩:=aji ok;have at_:=Bo ok rt t64 kt;have as_:=Bo ok rs EF ks;rw [at_,as_];rcases RY (th k.kw.aW) inv rs EF rt t64 ks st with ⟨h1,h2⟩|⟨c2,m,h1,i2,hf2,le2,arE,h3⟩
 · rw [h2,ao,h1,ao];rfl
 have b2:=(th k.kw.aW).at_ i2 rs EF le2 arE;have RF:=amG ok b2 hf2;have av:fZ ((th k.kw.aW).res (DF c2 s)) t=(th k.kw.aW).vP t (DF c2 s) []:=Bo RF rt t64 st;rcases h3 with ⟨_,h4⟩|⟨c3,l,h4,h5,i3,le3,arF,hl⟩
 · rw [h4,ao,h1,ao];rfl
 obtain ⟨L,a1,a2,a3,a4⟩:=aja gx ok.Hn.iR n.ci rt t64 (RW kt);have hL:RU k.jp.ii.am k.jp.ci t L:=⟨a2,a3,a4⟩;have a1:yP k.jp.ii k.jp.ci t=adZ (L,0):=a1;obtain ⟨E,c9,e1,eS,e3⟩: ∃E c9,m++l=List.map (fun e=>e.1) E/\RX k.jp.ii.am k.jp.ci t c9 E/\adX E<=1000400:=by
  rcases ab2 (th k.kw.aW) ok.Hn.iR rt t64 (1000000-fC k.jp).toNat k.jp [] (by omega) inv rfl (.nil _ _ _ _) (Int.le_refl _) kt (by simp;omega) with q|⟨c9,E,q1,q2,_,_,_,q3,q4⟩
  · have q:(th k.kw.aW).vP t k.jp []=_:=q
    rw [h5] at q;injection q with q;injection q with _ q;injection q with _ q;cases q
  have q1:(th k.kw.aW).vP t k.jp []=_:=q1
  rw [h5] at q1;injection q1 with q1;injection q1 with _ q1;injection q1 with q1 _;have:=mn ((th k.kw.aW).ok q2);exact ⟨E,_,q1,q3,by omega⟩
 have sh3:DN ((th k.kw.aW).res (DF c3 t)):=by have i4:=(th k.kw.aW).at_ i3 rt t64 le3 arF;have mo:(adX k.kw.aW)<=64:=i4.pl.gy;have B1:(bw c3.ii.am t k.kw.aW).length+1=(adX k.kw.aW):=(dK (f:=c3.ii.am) (t:=t) i4.pl.one).1;exact ⟨i4.Hn.short,by show (adX k.kw.aW)<=1000;omega,by show (bw c3.ii.am t k.kw.aW).length<=1000;omega⟩
 obtain ⟨n1,n2⟩:=ajf gx hL eS e3;rw [<- R4] at n2;rw [h5,ao,h1,ao];simp only [show ((0:Int) !=0)=ael from rfl,lm];rw [av,h4,ao,a1,ao];simp only [show ((0:Int) !=0)=ael from rfl,lm];rw [OP sh3,ao,v6,lm,bk (show (adX m)<=1048576 by omega),ao];rw [<- e1] at n1 n2;have nl:aen (((adX L):Int)<((m++l).length:Int))=ael:=aA (by omega);cases hm:l.isEmpty with
 |true=>rw [List.isEmpty_iff] at hm;subst hm;rw [If] at n1 n2 nl ⊢;rw [lc,G8 m (by omega),ao,v6,lm];simp only [ay];rw [nl,lm,n2]
 |false=>rw [lm,dO (show (adX m)+adX l<=1048576 by omega),ao,G8 (m++l) (by rw [AC];omega),ao,v6,lm];simp only [ay];rw [nl,lm,n2]
theorem OF.of {c:aI} (h1:RT.wf [.i .i64,.i .i64] c.ci) (h2: ∀a∈c.ae.bv,RT.wf [.i .i64,.i .i64,.i .i64,.i .i64,.i .i64] a):OF c where
 ci:=⟨wf_i64 h1.1,wf_i64 h1.2⟩
 Ov w hw:=by have:=h2 (c.ae.bv[w]!) (by rw [getElem!_pos c.ae.bv w hw];exact List.getElem_mem hw);exact ⟨wf_i64 this.1,wf_i64 this.2.1⟩
end Go.Proofs.YtlnclppkepgdmaaGreat
