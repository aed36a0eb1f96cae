/- Plain laws (4). -/
import Derived.Test.YtogihpogmfjoiaaGreatPQM3
import Derived.Test.YtogihpogmfjoiaaGreatPQS2
open Classical renaming not_not->bn,not_forall->cd,not_imp->ck
open List renaming length_replicate->bo,length_cons->bu,length_take->bv,getElem!_eq_getElem?_getD->bw,length_drop->ce,length_nil->cf,length_append->ci,length_set->cp,drop_length->cq,getElem_replicate->cw,mem_append->cy,mem_of_mem_take->cz,mem_of_mem_drop->c6,mem_cons->c8,append_assoc->c9,append_nil->db
open Nat renaming lt_trichotomy->bq,zero_le->bz,lt_or_ge->cu,le_refl->c7
open Bool renaming not_false->cj,not_true->cm
namespace Go.Proofs.YtogihpogmfjoiaaGreat
open Go.Vm Classical
theorem Y5 (l:List Int) (hl:l.length<=1000000):pU l l=some true:=by
 unfold pU;rw [bF rfl,cond_false]
 have:=cA (body:=pH) (fun i=>(l,l,(i:Int))) l.length (fun i hi=>by
  unfold pH;simp only [aF,aJ (show (i:Int)<(l.length:Int) by omega),cond_true,aD l i hi,aB,bF rfl,cond_false,aU (show i<1000000000 by omega)])
 rw [show (l,l,(0:Int))=(l,l,((0:Nat):Int)) from rfl,this];refine aL ?_;unfold pH;simp only [aF,dec_f (show¬(l.length:Int)<(l.length:Int) by omega),cond_false]
theorem VE (p q:Pt) (t:Int×Int):SJ p q t=(p.2.1*t.2+p.2.2*t.1) - (q.2.1*t.2+q.2.2*t.1):=by
 rw [aNB,Int.sub_mul,Int.sub_mul];omega
theorem Y6 {p q r:Pt} {t:Int×Int} (h1:hY p q t) (h2:hY q r t):hY p r t:=by
 unfold hY at*;rw [VE] at*;generalize p.2.1*t.2+p.2.2*t.1=a at*;generalize q.2.1*t.2+q.2.2*t.1=b at*;generalize r.2.1*t.2+r.2.2*t.1=c at*;omega
theorem FE {p q:Pt} (t:Int×Int) (h:p.1≠q.1) (hn: ¬hY p q t):hY q p t:=by
 unfold hY at*;rw [VE] at*;generalize p.2.1*t.2+p.2.2*t.1=a at*;generalize q.2.1*t.2+q.2.2*t.1=b at*;omega
structure SO (P:Int->Int->Prop) (S:Int->Prop):Prop where
 irr: ∀a,S a-> ¬P a a
 tr: ∀a b c,S a->S b->S c->P a b->P b c->P a c
 tot: ∀a b,S a->S b->a≠b->P a b\/P b a
abbrev par (j:Nat):Nat:=(j-1) / 2
def Hp (P:Int->Int->Prop) (l:List Int):Prop:= ∀j,0<j->j<l.length-> ¬P l[j]! l[par j]!
section
variable {P : Int -> Int -> Prop} {S : Int -> Prop}
theorem SO.up (o:SO P S) {a b c:Int} (ha:S a) (hb:S b) (hc:S c) (h1:P b c) (h2: ¬P a c): ¬P a b:=fun h=>h2 (o.tr a b c ha hb hc h h1)
end
section
variable {P : Int -> Int -> Prop} {S : Int -> Prop} {bit : Int -> Nat -> Nat}
end
theorem Y7 {f:List Pt} (fok:bS f) {k:Nat} (hk:k<f.length):mP ⟨f⟩ (f[k]!).1=some ((k:Int),0):=by
 have h1:=fok.1;have hc:dR ⟨f⟩=some 0:=by rw [gS];exact congrArg some (fZ.2 fok)
 have bs:=vH f (f[k]!).1 (by omega) (fun i j=>gU fok.2.2)
 unfold mP lC;rw [JW];simp only [hc,aB,show ((0:Int) !=0)=false from rfl,cond_false,bs.1 k hk rfl,cm]
theorem Q7 {f:List Pt} (fok:bS f) {id:Int} (h: ¬kI f id):mP ⟨f⟩ id=some (0,6):=by
 have h1:=fok.1;have hc:dR ⟨f⟩=some 0:=by rw [gS];exact congrArg some (fZ.2 fok)
 have bs:=vH f id (by omega) (fun i j=>gU fok.2.2)
 obtain ⟨m,_,_,_,e⟩:=bs.2 (fun k hk he=>h ⟨k,hk,he⟩)
 unfold mP lC;rw [JW];simp only [hc,aB,show ((0:Int) !=0)=false from rfl,cond_false,e,cj,cond_true]
def A6 (f:List Pt) (m:Nat) (p:Pt):List Pt:=f.take m++p::f.drop m
structure aCt (f:List Pt) (p:Pt) (m:Nat):Prop where
 le:m<=f.length
 lo: ∀i,i<m->(f[i]!).1<p.1
 hi: ∀i,m<=i->i<f.length->p.1<(f[i]!).1
theorem Y8 {f:List Pt} {m:Nat} (h:m<=f.length) (p:Pt):(A6 f m p).length=f.length+1:=by
 unfold A6;rw [ci,bu,bv,ce];omega
theorem S3 {f:List Pt} {m:Nat} (h:m<=f.length) (p:Pt) (i:Nat):(A6 f m p)[i]! =if i<m then f[i]! else if i=m then p else f[i-1]!:=by
 have ht:(f.take m).length=m:=by rw [bv];omega
 unfold A6;simp only [bw]
 by_cases h1:i<m
 · rw [if_pos h1,List.getElem?_append_left (by omega),List.getElem?_take_of_lt h1]
 rw [if_neg h1,List.getElem?_append_right (by omega),ht]
 by_cases h2:i=m
 · rw [if_pos h2,h2,Nat.sub_self];rfl
 rw [if_neg h2,show i-m=(i-1-m)+1 by omega,List.getElem?_cons_succ,List.getElem?_drop,show m+(i-1-m)=i-1 by omega]
theorem aNE {f:List Pt} (fok:bS f) {p:Pt} (po:gV p) {m:Nat} (h:aCt f p m) (hl:f.length<64):bS (A6 f m p):=by
 refine ⟨by rw [Y8 h.le];omega,fun q hq=>?_,fun i hi=>?_⟩
 · rcases cy.1 hq with hq|hq
   · exact fok.2.1 q (cz hq)
   rcases c8.1 hq with rfl|hq
   · exact po
   exact fok.2.1 q (c6 hq)
 rw [Y8 h.le] at hi
 rw [S3 h.le,S3 h.le];rcases bq (i+1) m with c|c|c
 · rw [if_pos (by omega),if_pos c];exact gU fok.2.2 (by omega) (by have:=h.le;omega)
 · rw [if_pos (by omega),if_neg (by omega),if_pos c];exact h.lo i (by omega)
 rw [if_neg (show¬i+1<m by omega),if_neg (show¬i+1=m by omega),Nat.add_sub_cancel]
 by_cases d:i=m
 · rw [if_neg (by omega),if_pos d];exact h.hi i (by omega) (by omega)
 rw [if_neg (by omega),if_neg d];exact gU fok.2.2 (by omega) (by omega)
theorem aAZ {f:List Pt} (fok:bS f) {p:Pt} (h: ¬kI f p.1): ∃m,aCt f p m/\lC ⟨f⟩ p.1=some ((m:Int),false):=by
 have h1:=fok.1;obtain ⟨m,a,b,c,e⟩:=(vH f p.1 (by omega) (fun i j=>gU fok.2.2)).2 (fun k hk he=>h ⟨k,hk,he⟩)
 refine ⟨m,⟨a,b,c⟩,?_⟩;unfold lC;rw [JW,e];rfl
theorem aA0 {f:List Pt} (fok:bS f) {id:Int} (h:kI f id): ∃k,k<f.length/\(f[k]!).1=id/\lC ⟨f⟩ id=some ((k:Int),true):=by
 have h1:=fok.1;obtain ⟨k,hk,he⟩:=h;refine ⟨k,hk,he,?_⟩;unfold lC;rw [JW,(vH f id (by omega) (fun i j=>gU fok.2.2)).1 k hk he];rfl
theorem aNF {f:List Pt} (_:bS f) {p:Pt} {m:Nat} (h:aCt f p m) (hl:f.length<64):aH fU (false,0,f,p.1,p.2.1,p.2.2,[])=some (⟨A6 f m p⟩,0):=by
 have hle:=h.le;have tl: ∀i,(f.take i).length<=64:=fun i=>by rw [bv];omega
 have k1:=cA (body:=fU) (fun i=>(false,(i:Int),f,p.1,p.2.1,p.2.2,f.take i)) m (fun i hi=>by
  unfold fU;simp only [aF,aJ (show (i:Int)<(f.length:Int) by omega),cond_true,cj,aD f i (by omega),aB,dec_f (show¬p.1<(f[i]!).1 from Int.not_lt.2 (Int.le_of_lt (h.lo i hi))),cond_false,
   cI (show (f.take i).length+[f[i]!].length<=1048576 by have:=tl i;simp only [bu,cf];omega),aU (show i<1000000000 by omega),fR (show i<f.length by omega)])
 refine (show aH fU (false,0,f,p.1,p.2.1,p.2.2,[])=_ from k1).trans ?_;have pe:((p.1,p.2.1,p.2.2):Pt)=p:=rfl;rcases cu m f.length with hm|hm
 · have s1:fU (false,(m:Int),f,p.1,p.2.1,p.2.2,f.take m)=some (.next (true,((m+1:Nat):Int),f,p.1,p.2.1,p.2.2,f.take m++[p]++[f[m]!])):=by
    unfold fU;simp only [aF,aJ (show (m:Int)<(f.length:Int) by omega),cond_true,cj,aD f m hm,aB,aJ (h.hi m (c7 _) hm),pe,
     cI (show (f.take m).length+[p].length<=1048576 by have:=tl m;simp only [bu,cf];omega),
     cI (show (f.take m++[p]).length+[f[m]!].length<=1048576 by have:=tl m;simp only [ci,bu,cf];omega),aU (show m<1000000000 by omega)]
   rw [aX s1];have k2:=cA (body:=fU) (fun i=>(true,((m+1+i:Nat):Int),f,p.1,p.2.1,p.2.2,f.take m++[p]++(f.drop m).take (i+1))) (f.length- (m+1)) (fun i hi=>by
    have ed:(f.drop m).take (i+1+1)=(f.drop m).take (i+1)++[f[m+1+i]!]:=by
     rw [fR (show i+1<(f.drop m).length by rw [ce];omega),nU];congr 3;omega
    unfold fU;simp only [aF,aJ (show ((m+1+i:Nat):Int)<(f.length:Int) by omega),cond_true,cm,cond_false,aD f (m+1+i) (by omega),aB,
     cI (show (f.take m++[p]++(f.drop m).take (i+1)).length+[f[m+1+i]!].length<=1048576 by have:=tl m;simp only [ci,bv,ce,bu,cf] at this ⊢;omega),aU (show m+1+i<1000000000 by omega),ed]
    rw [c9 (f.take m++[p]),show m+1+i+1=m+1+(i+1) by omega])
   have e0:(f.drop m).take (0+1)=[f[m]!]:=by
    have:=YA hm
    rw [show f.drop m=f[m]!::f.drop (m+1) by rw [getElem!_pos f m hm,List.getElem_cons_drop]];rfl
   rw [e0] at k2;refine (show aH fU (true,((m+1:Nat):Int),f,p.1,p.2.1,p.2.2,f.take m++[p]++[f[m]!])=_ from k2).trans (aL ?_);have ef:(f.drop m).take (f.length- (m+1)+1)=f.drop m:=List.take_of_length_le (by rw [ce];omega)
   rw [ef,show m+1+(f.length- (m+1))=f.length by omega]
   unfold fU A6;simp only [aF,dec_f (show¬(f.length:Int)<(f.length:Int) by omega),cond_false,cm,c9,List.singleton_append]
 obtain rfl:m=f.length:=by omega
 refine aL ?_;unfold fU A6;simp only [aF,dec_f (show¬(f.length:Int)<(f.length:Int) by omega),cond_false,cj,cond_true,pe,List.take_length,
  cI (show f.length+[p].length<=1048576 by simp only [bu,cf];omega),aB,cq]
theorem P9 {f:List Pt} (fok:bS f) (p:Pt):
 (∃e:Int,e≠0/\nO ⟨f⟩ p=some (⟨[]⟩,e)/\nQ ⟨f⟩ p=some (⟨[]⟩,e))\/
 (∃m,aCt f p m/\ ¬kI f p.1/\gV p/\f.length<64/\nO ⟨f⟩ p=some (⟨A6 f m p⟩,0)/\nQ ⟨f⟩ p=some (⟨A6 f m p⟩,0)):=by
 have f1:=fok.1;have hc:dR ⟨f⟩=some 0:=by rw [gS];exact congrArg some (fZ.2 fok)
 have hc2:mR ⟨f⟩=some 0:=by rw [yV];exact congrArg some (fZ.2 fok)
 by_cases po:gV p
 case neg=>
  refine .inl ⟨8,by decide,?_,?_⟩
  · unfold nO;rw [hc,aB,bF rfl,cond_false,fV,if_neg po];rfl
  unfold nQ;rw [hc2,aB,bF rfl,cond_false,iH,if_neg po];rfl
 by_cases hp:kI f p.1
 · obtain ⟨k,hk,he,e⟩:=aA0 fok hp
   refine .inl ⟨14,by decide,?_,?_⟩
   · unfold nO;rw [hc,aB,bF rfl,cond_false,fV,if_pos po,aB,bF rfl,cond_false,e];rfl
   unfold nQ;rw [hc2,aB,bF rfl,cond_false,iH,if_pos po,aB,bF rfl,cond_false,LA fok.2.2 (by omega) hk he,aB,aJ (show (0:Int)<=(k:Int) by omega)];rfl
 obtain ⟨m,hm,e⟩:=aAZ fok hp
 by_cases full:f.length=64
 · refine .inl ⟨18,by decide,?_,?_⟩
   · unfold nO;rw [hc,aB,bF rfl,cond_false,fV,if_pos po,aB,bF rfl,cond_false,e,aB,cond_false]
     simp only [aF,full];rfl
   unfold nQ;rw [hc2,aB,bF rfl,cond_false,iH,if_pos po,aB,bF rfl,cond_false,LK fok hp,aB,dec_f (by decide),cond_false]
   simp only [aF,full];rfl
 have hl:f.length<64:=by omega
 have hf:(Int.ofNat f.length==64)=false:=by simp only [aF,beq_eq_false_iff_ne];omega
 refine .inr ⟨m,hm,hp,po,hl,?_,?_⟩
 · have hi:FQ f (m:Int) [p]=some (A6 f m p):=by
    unfold FQ;rw [if_pos ⟨by omega,by have:=hm.le;simpa using this,rfl,by omega⟩]
    simp [A6]
   unfold nO;rw [hc,aB,bF rfl,cond_false,fV,if_pos po,aB,bF rfl,cond_false,e,aB,cond_false,hf,cond_false,aT (show f.length<=1048576 by omega),aB,hi,aB]
 unfold nQ
 rw [hc2,aB,bF rfl,cond_false,iH,if_pos po,aB,bF rfl,cond_false,LK fok hp,aB,dec_f (by decide),cond_false,hf,cond_false]
 exact aNF fok hm hl
theorem aUh {f:List Pt} (fok:bS f) {p:Pt} (po:gV p) {k:Nat} (hk:k<f.length) (he:(f[k]!).1=p.1):bS (f.set k p):=by
 refine ⟨by rw [cp];exact fok.1,fun q hq=>?_,fun i hi=>?_⟩
 · rcases List.mem_or_eq_of_mem_set hq with h|rfl
   · exact fok.2.1 q h
   exact po
 rw [cp] at hi
 have h:=gU fok.2.2 (show i<i+1 by omega) hi
 have g: ∀j:Nat,((f.set k p)[j]!).1=(f[j]!).1:=fun j=>by
  simp only [bw,List.getElem?_set]
  by_cases c:k=j
  · subst c
    rw [if_pos rfl,if_pos hk];simp only [bw] at he;exact he.symm
  rw [if_neg c]
 rw [g,g];exact h
theorem J4 {f:List Pt} (fok:bS f) (p:Pt):
 (∃e:Int,e≠0/\jK ⟨f⟩ p=some (⟨[]⟩,e)/\jL ⟨f⟩ p=some (⟨[]⟩,e))\/
 (∃k,k<f.length/\(f[k]!).1=p.1/\gV p/\jK ⟨f⟩ p=some (⟨f.set k p⟩,0)/\jL ⟨f⟩ p=some (⟨f.set k p⟩,0)):=by
 have f1:=fok.1;have hc:dR ⟨f⟩=some 0:=by rw [gS];exact congrArg some (fZ.2 fok)
 have hc2:mR ⟨f⟩=some 0:=by rw [yV];exact congrArg some (fZ.2 fok)
 by_cases po:gV p
 case neg=>
  refine .inl ⟨8,by decide,?_,?_⟩
  · unfold jK;rw [hc,aB,bF rfl,cond_false,fV,if_neg po];rfl
  unfold jL;rw [hc2,aB,bF rfl,cond_false,iH,if_neg po];rfl
 by_cases hp:kI f p.1
 case neg=>
  refine .inl ⟨6,by decide,?_,?_⟩
  · unfold jK;rw [hc,aB,bF rfl,cond_false,fV,if_pos po,aB,bF rfl,cond_false,Q7 fok hp];rfl
  unfold jL;rw [hc2,aB,bF rfl,cond_false,iH,if_pos po,aB,bF rfl,cond_false,LK fok hp];rfl
 obtain ⟨k,hk,he⟩:=hp;have pl:=Y7 fok hk;rw [he] at pl;refine .inr ⟨k,hk,he,po,?_,?_⟩
 · unfold jK
   rw [hc,aB,bF rfl,cond_false,fV,if_pos po,aB,bF rfl,cond_false,pl,aB,bF rfl,cond_false,aT (show f.length<=1048576 by omega),aB,aD f k hk,aB,oV]
 unfold jL mW
 rw [hc2,aB,bF rfl,cond_false,iH,if_pos po,aB,bF rfl,cond_false,LA fok.2.2 (by omega) hk he,aB,dec_f (by omega),cond_false,aT (show f.length<=1048576 by omega),aB,aB,aD f k hk,aB,oV]
noncomputable def pJ (f:List Pt) (es:List (Int×Int)):Int:=if¬(∀x∈es,gB x) then 8 else if¬es.Nodup then 14 else if¬(∀x∈es,lG f x) then 6 else 0
def rP (c:aQ) (f:List Pt) (es:List (Int×Int)) (i:Nat):=
 (es,es,(es.length:Int),(i:Int),c.au.1,c.au.2,c.ax.aa,c.ay.aq,c.ay.ar,c.az.ai.ac,c.az.ai.ae,c.az.ai.af,c.az.aj,c.az.am,c.ba,f,(0:Int),(0:Int),(0:Int))
theorem QA {c:aQ} (ok:bG c) {f:List Pt} (fok:bS f) {es:List (Int×Int)} (hl:es.length<=1000) {r:aQ×Int} (hr:pJ f es=0->vZ c ⟨f⟩ es=some r):
 rD c ⟨f⟩ es=some (if pJ f es=0 then r else (fF,pJ f es)):=by
 have bd:=ok.bd;have ab:=ok.agd.bd;have sl:=ok.agd.so.fl;have sn:=ok.agd.so.n2;have su:=ok.agd.so.ul;have el:decide ((es.length:Int)<(es.length:Int))=false:=dec_f (by omega)
 have hc:iG c=some 0:=by rw [oY ok.fit,if_pos ok]
 have hf:dR ⟨f⟩=some 0:=by rw [gS];exact congrArg some (fZ.2 fok)
 have tw:yK (aQ.mk (c.au.1,c.au.2) (Field.mk c.ax.aa) (bO.mk c.ay.aq c.ay.ar) (aO.mk (bC.mk c.az.ai.ac c.az.ai.ae c.az.ai.af) c.az.aj c.az.am) c.ba)=some c:=by
  unfold yK;simp only [aT (show c.ax.aa.length<=1048576 by omega),aT (show c.ay.ar.length<=1048576 by omega),aT (show c.ba.length<=1048576 by omega),aT (show c.az.aj.length<=1048576 by omega),aT (show c.az.am.length<=1048576 by omega),
   aT (show c.az.ai.ac.length<=1048576 by omega),aT (show c.az.ai.ae.length<=1048576 by omega),aT (show c.az.ai.af.length<=1048576 by omega),aB]
 have k3: ∀e2:aQ×Int,aH eV (rP c f es 0)=some (.done e2)->aH eW (rP c f es 0)=some (if∀i,i<es.length->gB es[i]! then e2 else (fF,8)):=by
  intro e2 h2;refine qP (body:=eW) (fun i=>rP c f es i) es.length (fun i=>gB es[i]!) (r:=(fF,8)) (e:=e2) (fun i hi=>?_) ?_
  · have e1:decide ((i:Int)<(es.length:Int))=true:=aJ (by omega)
    unfold eW rP gB;simp only [e1,cond_true,aD es i hi,aB,aU (show i<1000000000 by omega)]
    generalize es[i]! =x
    by_cases a1:x.1<0
    · rw [aJ a1];exact ⟨fun _=>rfl,fun h=>by omega⟩
    rw [dec_f a1]
    by_cases a2:x.2<0
    · rw [aJ a2];exact ⟨fun _=>rfl,fun h=>by omega⟩
    rw [dec_f a2]
    by_cases a3:65535<x.1
    · rw [aJ a3];exact ⟨fun _=>rfl,fun h=>by omega⟩
    rw [dec_f a3]
    by_cases a4:65535<x.2
    · rw [aJ a4];exact ⟨fun _=>rfl,fun h=>by omega⟩
    rw [dec_f a4]
    by_cases a5:x.1=x.2
    · rw [eY a5];exact ⟨fun _=>rfl,fun h=>absurd a5 h.2.2.2.2⟩
    rw [eO a5];exact ⟨fun h=>absurd ⟨by omega,by omega,by omega,by omega,a5⟩ h,fun _=>rfl⟩
  unfold eW rP
  simp only [aF,el,cond_false];exact h2
 have k2: ∀e1:aQ×Int,aH fP (rP c f es 0)=some (.done (.done e1))->aH eV (rP c f es 0)=some (.done (if∀i,i<es.length->es[i]!∉es.take i then e1 else (fF,14))):=by
  intro e0 h2
  have:=qP (body:=eV) (fun i=>rP c f es i) es.length (fun i=>es[i]!∉es.take i) (r:= .done (fF,14)) (e:= .done e0) (fun i hi=>by
   have e1:decide ((i:Int)<(es.length:Int))=true:=aJ (by omega)
   unfold eV rP;simp only [e1,cond_true,aD es i hi,mF es i (by omega),aB,pW _ _ (show (es.take i).length<=1000000 by rw [bv];omega),aU (show i<1000000000 by omega)]
   by_cases h:es[i]!∈es.take i
   · rw [aJ h];exact ⟨fun _=>rfl,fun k=>absurd h k⟩
   · rw [dec_f h];exact ⟨fun k=>absurd h k,fun _=>rfl⟩) (by
   unfold eV rP;simp only [aF,el,cond_false];exact h2)
  refine this.trans ?_
  by_cases hb: ∀i,i<es.length->es[i]!∉es.take i
  · rw [if_pos hb,if_pos hb]
  rw [if_neg hb,if_neg hb]
 have step1: ∀i,i<es.length->(¬lG f es[i]!->fP (rP c f es i)=some (.done (.done (.done (fF,6)))))/\(lG f es[i]!->fP (rP c f es i)=some (.next (rP c f es (i+1)))):=by
  intro i hi;have e1:decide ((i:Int)<(es.length:Int))=true:=aJ (by omega)
  obtain ⟨p,e,a1,a2⟩:=G8 fok (es[i]!).1;obtain ⟨q,g,b1,b2⟩:=G8 fok (es[i]!).2;unfold fP rP lG;simp only [e1,cond_true,aD es i hi,aB,a1,b1,aU (show i<1000000000 by omega)]
  by_cases h1:kI f (es[i]!).1
  · rw [bF (a2.2 h1)]
    by_cases h2:kI f (es[i]!).2
    · rw [bF (b2.2 h2)]
      exact ⟨fun h=>absurd ⟨h1,h2⟩ h,fun _=>rfl⟩
    rw [cN (fun h=>h2 (b2.1 h))]
    exact ⟨fun _=>rfl,fun h=>absurd h.2 h2⟩
  rw [cN (fun h=>h1 (a2.1 h))]
  exact ⟨fun _=>rfl,fun h=>absurd h.1 h1⟩
 have start:rD c ⟨f⟩ es=aH eW (rP c f es 0):=by
  unfold rD;simp only [hc,aB,show ((0:Int) !=0)=false from rfl,cond_false,hf];rfl
 rw [start]
 by_cases h1: ∀x∈es,gB x
 case neg=>
  have er:pJ f es=8:=by unfold pJ;rw [if_pos h1]
  rw [er,if_neg (by omega)]
  have:=dO (body:=eW) (fun i=>rP c f es i) es.length (fun i=> ¬gB es[i]!) (r:=(fF,8)) (e:=r)
  have k3':=k3;rw [FB (P:=gB)] at h1;obtain ⟨i,h⟩:=cd.1 h1;obtain ⟨hi,hx⟩:=ck.1 h;obtain ⟨m,m1,m2,m3⟩:=G1 (c:=fun i=> ¬gB es[i]!) ⟨i,hi,hx⟩
  have go: ∀j,j<es.length->(¬gB es[j]!->eW (rP c f es j)=some (.done (fF,8)))/\(gB es[j]!->eW (rP c f es j)=some (.next (rP c f es (j+1)))):=by
   intro j hj;have e1:decide ((j:Int)<(es.length:Int))=true:=aJ (by omega)
   unfold eW rP gB;simp only [e1,cond_true,aD es j hj,aB,aU (show j<1000000000 by omega)]
   generalize es[j]! =x
   by_cases a1:x.1<0
   · rw [aJ a1];exact ⟨fun _=>rfl,fun h=>by omega⟩
   rw [dec_f a1]
   by_cases a2:x.2<0
   · rw [aJ a2];exact ⟨fun _=>rfl,fun h=>by omega⟩
   rw [dec_f a2]
   by_cases a3:65535<x.1
   · rw [aJ a3];exact ⟨fun _=>rfl,fun h=>by omega⟩
   rw [dec_f a3]
   by_cases a4:65535<x.2
   · rw [aJ a4];exact ⟨fun _=>rfl,fun h=>by omega⟩
   rw [dec_f a4]
   by_cases a5:x.1=x.2
   · rw [eY a5];exact ⟨fun _=>rfl,fun h=>absurd a5 h.2.2.2.2⟩
   rw [eO a5];exact ⟨fun h=>absurd ⟨by omega,by omega,by omega,by omega,a5⟩ h,fun _=>rfl⟩
  rw [cA (body:=eW) (fun i=>rP c f es i) m fun j hj=>(go j (by omega)).2 (bn.1 (m3 j hj))]
  exact aL ((go m m1).1 m2)
 have h1':=(FB (P:=gB)).1 h1
 by_cases h2:es.Nodup
 case neg=>
  have er:pJ f es=14:=by unfold pJ;rw [if_neg (bn.2 h1),if_pos h2]
  rw [er,if_neg (by omega)]
  have h2':=h2;rw [P4] at h2';obtain ⟨i,h⟩:=cd.1 h2';obtain ⟨hi,hx⟩:=ck.1 h;obtain ⟨m,m1,m2,m3⟩:=G1 (c:=fun i=> ¬es[i]!∉es.take i) ⟨i,hi,hx⟩
  have go: ∀j,j<es.length->(es[j]!∈es.take j->eV (rP c f es j)=some (.done (.done (fF,14))))/\(es[j]!∉es.take j->eV (rP c f es j)=some (.next (rP c f es (j+1)))):=by
   intro j hj;have e1:decide ((j:Int)<(es.length:Int))=true:=aJ (by omega)
   unfold eV rP;simp only [e1,cond_true,aD es j hj,mF es j (by omega),aB,pW _ _ (show (es.take j).length<=1000000 by rw [bv];omega),aU (show j<1000000000 by omega)]
   by_cases h:es[j]!∈es.take j
   · rw [aJ h];exact ⟨fun _=>rfl,fun k=>absurd h k⟩
   rw [dec_f h];exact ⟨fun k=>absurd k h,fun _=>rfl⟩
  have l2:aH eV (rP c f es 0)=some (.done (fF,14)):=by
   rw [cA (body:=eV) (fun i=>rP c f es i) m fun j hj=>(go j (by omega)).2 (bn.1 (m3 j hj))]
   exact aL ((go m m1).1 (bn.1 m2))
  rw [k3 _ l2,if_pos h1']
 have h2':=P4.1 h2
 by_cases h3: ∀x∈es,lG f x
 case neg=>
  have er:pJ f es=6:=by unfold pJ;rw [if_neg (bn.2 h1),if_neg (bn.2 h2),if_pos h3]
  rw [er,if_neg (by omega)]
  have h3':=h3;rw [FB (P:=lG f)] at h3';obtain ⟨i,h⟩:=cd.1 h3';obtain ⟨hi,hx⟩:=ck.1 h;obtain ⟨m,m1,m2,m3⟩:=G1 (c:=fun i=> ¬lG f es[i]!) ⟨i,hi,hx⟩
  have l1:aH fP (rP c f es 0)=some (.done (.done (fF,6))):=by
   rw [cA (body:=fP) (fun i=>rP c f es i) m fun j hj=>(step1 j (by omega)).2 (bn.1 (m3 j hj))]
   exact aL ((step1 m m1).1 m2)
  rw [k3 _ (k2 _ l1),if_pos h1',if_pos h2']
 have h3':=(FB (P:=lG f)).1 h3;have er:pJ f es=0:=by unfold pJ;rw [if_neg (bn.2 h1),if_neg (bn.2 h2),if_neg (bn.2 h3)]
 rw [er,if_pos rfl];have l1:aH fP (rP c f es 0)=some (.done (.done r)):=by
  rw [cA (body:=fP) (fun i=>rP c f es i) es.length fun j hj=>(step1 j hj).2 (h3' j hj)]
  refine aL ?_;unfold fP rP;simp only [el,cond_false,tw,aB,hr er]
 rw [k3 _ (k2 _ l1),if_pos h1',if_pos h2']
theorem tk {l:List Int} {m:Nat} {x:Int} (h:l.length=m):(l++[x]).take m=l:=by rw [<- h,List.take_left]
section
variable {k : GZ} {f : List Pt} {m n0 : Nat} {x : Int}
end
section
variable {k : GZ} {P : Pt} {f : List Pt} {m : Nat}
end
end Go.Proofs.YtogihpogmfjoiaaGreat
namespace Go.Proofs.YtogihpogmfjoiaaGreat
abbrev Nd:=Int×Int×Int
structure Y9 (P:Nat->Nat->Prop) (a b i:Nat):Prop where
 lo:a<=i
 hi:i<b
 top: ∀j,a<=j->j<b->j≠i->P i j
inductive sZ (P:Nat->Nat->Prop) (N:List Nd):Nat->Nat->Int->Prop
 |nil {a b:Nat} (h:b<=a):sZ P N a b (-1)
 |node {a b i:Nat} (h:Y9 P a b i) (l:sZ P N a i (N[i]!).2.1) (r:sZ P N (i+1) b (N[i]!).2.2):sZ P N a b (i:Int)
structure aNG (P:Nat->Nat->Prop) (n:Nat):Prop where
 tr: ∀i j k,i<n->j<n->k<n->P i j->P j k->P i k
 asy: ∀i j,i<n->j<n->P i j-> ¬P j i
 tot: ∀i j,i<n->j<n->i≠j-> ¬P i j->P j i
theorem Y9.one {P:Nat->Nat->Prop} {n a b i j:Nat} (o:aNG P n) (hb:b<=n) (h:Y9 P a b i) (k:Y9 P a b j):i=j:=by
 refine Classical.byContradiction fun hne=>?_
 have:=h.hi;have:=k.hi
 exact o.asy i j (by omega) (by omega) (h.top j k.lo k.hi (fun e=>hne e.symm)) (k.top i h.lo h.hi hne)
theorem sZ.link {P:Nat->Nat->Prop} {N:List Nd} {a b:Nat} {r:Int} (h:sZ P N a b r):(b<=a/\r= -1)\/(∃i:Nat,r=(i:Int)/\a<=i/\i<b):=by
 cases h with
 |nil h=>exact .inl ⟨h,rfl⟩
 |node h l r=>exact .inr ⟨_,rfl,h.lo,h.hi⟩
theorem sZ.unique {P:Nat->Nat->Prop} {n:Nat} (o:aNG P n) {N N':List Nd} {a b:Nat} {r:Int} (h:sZ P N a b r): ∀{r':Int},b<=n->sZ P N' a b r'->r=r'/\ ∀k,a<=k->k<b->(N[k]!).2=(N'[k]!).2:=by
 induction h with
 |nil h=>
  intro r' hb h';cases h' with
  |nil _=>exact ⟨rfl,fun k h1 h2=>by omega⟩
  |node t _ _=>have:=t.lo;have:=t.hi;omega
 | @node a b i h l r ihl ihr=>
  intro r' hb h';have lo:=h.lo;have hi:=h.hi;cases h' with
  |nil q=>omega
  | @node _ _ j t l' r'=>
   have e:=h.one o hb t;subst e;obtain ⟨e1,f1⟩:=ihl (by omega) l'
   obtain ⟨e2,f2⟩:=ihr hb r';refine ⟨rfl,fun k h1 h2=>?_⟩
   rcases bq k i with q|q|q
   · exact f1 k h1 q
   · subst q;exact Prod.ext e1 e2
   exact f2 k (by omega) h2
theorem sZ.other {P Q:Nat->Nat->Prop} {n:Nat} (o:aNG Q n) {N:List Nd} {a b:Nat} {r:Int} (h:sZ P N a b r):b<=n->(∀k j:Nat,a<=k->k<b->a<=j->j<b->((N[k]!).2.1=(j:Int)\/(N[k]!).2.2=(j:Int))->Q k j)->sZ Q N a b r:=by
 induction h with
 |nil h=>exact fun _ _=> .nil h
 | @node a b i h l r ihl ihr=>
  intro hb q;have lo:=h.lo;have hi:=h.hi;have tl:=ihl (by omega) fun k j h1 h2 h3 h4=>q k j h1 (by omega) h3 (by omega)
  have tr:=ihr hb fun k j h1 h2 h3 h4=>q k j (by omega) h2 (by omega) h4
  refine .node ⟨lo,hi,fun j h1 h2 hne=>?_⟩ tl tr
  rcases cu j i with hj|hj
  · generalize hr:(N[i]!).2.1=s at tl
    cases tl with
    |nil q=>omega
    | @node _ _ m t _ _=>
     have t1:=t.lo;have t2:=t.hi;have qm:=q i m lo hi t1 (by omega) (.inl hr)
     by_cases e:j=m
     · rw [e];exact qm
     exact o.tr i m j (by omega) (by omega) (by omega) qm (t.top j h1 hj e)
  generalize hr:(N[i]!).2.2=s at tr
  cases tr with
  |nil q=>omega
  | @node _ _ m t _ _=>
   have t1:=t.lo;have t2:=t.hi;have qm:=q i m lo hi (by omega) t2 (.inr hr)
   by_cases e:j=m
   · rw [e];exact qm
   exact o.tr i m j (by omega) (by omega) (by omega) qm (t.top j (by omega) h2 e)
theorem sZ.kids {P:Nat->Nat->Prop} {N:List Nd} {a b:Nat} {r:Int} (h:sZ P N a b r): ∀k,a<=k->k<b-> ∀c:Int,((N[k]!).2.1=c\/(N[k]!).2.2=c)->c= -1\/ ∃j:Nat,c=(j:Int)/\a<=j/\j<b/\j≠k/\P k j/\r≠c:=by
 induction h with
 |nil h=>intro k h1 h2;omega
 | @node a b i h l r ihl ihr=>
  have lo:=h.lo;have hi:=h.hi;intro k h1 h2 c hc;rcases bq k i with q|q|q
  · rcases ihl k h1 q c hc with e|⟨j,e,j1,j2,j3,j4,_⟩
    · exact .inl e
    exact .inr ⟨j,e,j1,by omega,j3,j4,by rw [e];omega⟩
  · subst q
    rcases hc with hc|hc
    · rcases l.link with ⟨_,e⟩|⟨j,e,j1,j2⟩
      · exact .inl (hc▸e)
      exact .inr ⟨j,hc▸e,j1,by omega,by omega,h.top j j1 (by omega) (by omega),by rw [<- hc,e];omega⟩
    rcases r.link with ⟨_,e⟩|⟨j,e,j1,j2⟩
    · exact .inl (hc▸e)
    exact .inr ⟨j,hc▸e,by omega,j2,by omega,h.top j (by omega) j2 (by omega),by rw [<- hc,e];omega⟩
  rcases ihr k (by omega) h2 c hc with e|⟨j,e,j1,j2,j3,j4,_⟩
  · exact .inl e
  exact .inr ⟨j,e,by omega,j2,j3,j4,by rw [e];omega⟩
theorem sZ.up {P:Nat->Nat->Prop} {N:List Nd} {a b:Nat} {r:Int} (h:sZ P N a b r): ∀k:Nat,a<=k->k<b->(k:Int)≠r-> ∃j,a<=j/\j<b/\((N[j]!).2.1=(k:Int)\/(N[j]!).2.2=(k:Int))/\ ∀m,a<=m->m<b->((N[m]!).2.1=(k:Int)\/(N[m]!).2.2=(k:Int))->m=j:=by
 induction h with
 |nil h=>intro k h1 h2;omega
 | @node a b i h l r ihl ihr=>
  have lo:=h.lo;have hi:=h.hi;have lk:=l.kids;have rk:=r.kids;intro k h1 h2 hne;have hki:k≠i:=fun e=>hne (by rw [e])
  rcases cu k i with q|q
  · by_cases er:(k:Int)=(N[i]!).2.1
    · refine ⟨i,lo,hi,.inl er.symm,fun m m1 m2 hm=>?_⟩
      rcases bq m i with w|w|w
      · rcases lk m m1 w _ hm with e|⟨j,e,_,_,_,_,hr⟩
        · omega
        exact absurd er.symm hr
      · exact w
      rcases rk m (by omega) m2 _ hm with e|⟨j,e,j1,_⟩<;>omega
    obtain ⟨j,j1,j2,j3,j4⟩:=ihl k h1 q er
    refine ⟨j,j1,by omega,j3,fun m m1 m2 hm=>?_⟩
    rcases bq m i with w|w|w
    · exact j4 m m1 w hm
    · subst w
      rcases hm with hm|hm
      · exact absurd hm.symm er
      rcases r.link with ⟨_,e⟩|⟨p,e,p1,p2⟩<;>omega
    rcases rk m (by omega) m2 _ hm with e|⟨p,e,p1,_⟩<;>omega
  by_cases er:(k:Int)=(N[i]!).2.2
  · refine ⟨i,lo,hi,.inr er.symm,fun m m1 m2 hm=>?_⟩
    rcases bq m i with w|w|w
    · rcases lk m m1 w _ hm with e|⟨j,e,_,j2,_⟩<;>omega
    · exact w
    rcases rk m (by omega) m2 _ hm with e|⟨j,e,_,_,_,_,hr⟩
    · omega
    exact absurd er.symm hr
  obtain ⟨j,j1,j2,j3,j4⟩:=ihr k (by omega) h2 er
  refine ⟨j,by omega,j2,j3,fun m m1 m2 hm=>?_⟩
  rcases bq m i with w|w|w
  · rcases lk m m1 w _ hm with e|⟨p,e,_,p2,_⟩<;>omega
  · subst w
    rcases hm with hm|hm
    · rcases l.link with ⟨_,e⟩|⟨p,e,p1,p2⟩<;>omega
    exact absurd hm.symm er
  exact j4 m (by omega) m2 hm
inductive QB (P:Nat->Nat->Prop) (N:List Nd):Nat->Nat->Int->List Nat->Prop
 |nil {a b:Nat} (h:b<=a):QB P N a b (-1) []
 |cons {a b k:Nat} {es:List Nat} (h:Y9 P a b k) (l:sZ P N a k (N[k]!).2.1) (r:QB P N (k+1) b (N[k]!).2.2 es):QB P N a b (k:Int) (k::es)
theorem QB.bm {P:Nat->Nat->Prop} {N:List Nd} {a b:Nat} {r:Int} {es:List Nat} (h:QB P N a b r es):sZ P N a b r:=by
 induction h with
 |nil h=>exact .nil h
 |cons h l r ih=>exact .node h l ih
theorem QB.mem {P:Nat->Nat->Prop} {N:List Nd} {a b:Nat} {r:Int} {es:List Nat} (h:QB P N a b r es): ∀e∈es,a<=e/\e<b:=by
 induction h with
 |nil h=>intro e he;cases he
 |cons h l r ih=>
  intro e he;have lo:=h.lo;have hi:=h.hi;rcases c8.1 he with rfl|he
  · exact ⟨lo,hi⟩
  have:=ih e he;omega
end Go.Proofs.YtogihpogmfjoiaaGreat
namespace Go.Proofs.YtogihpogmfjoiaaGreat
open Go.Vm Classical
def ahP (f:List Pt) (t:Int×Int) (i j:Nat):Prop:=hY f[i]! f[j]! t
theorem MI {p q:Pt} {t:Int×Int} (h:hY p q t): ¬hY q p t:=by
 unfold hY at*;rw [VE] at*;generalize p.2.1*t.2+p.2.2*t.1=a at*;generalize q.2.1*t.2+q.2.2*t.1=b at*;omega
theorem aNH {f:List Pt} (h:iI f) (t:Int×Int):aNG (ahP f t) f.length where
 tr:=fun _ _ _ _ _ _ h1 h2=>Y6 h1 h2
 asy:=fun _ _ _ _ h=>MI h
 tot:=fun _ _ hi hj hne hn=>FE t (fun e=>hne (IC h hi hj e)) hn
structure FF (f:List Pt) (t:Int×Int) (N:List Nd) (r:Int):Prop where
 len:N.length=f.length
 ids: ∀k,k<f.length->(N[k]!).1=(f[k]!).1
 bm:sZ (ahP f t) N 0 f.length r
theorem FF.same {f:List Pt} (h:iI f) {t:Int×Int} {N N':List Nd} {r r':Int} (a:FF f t N r) (b:FF f t N' r'):N=N'/\r=r':=by
 obtain ⟨e1,e2⟩:=a.bm.unique (aNH h t) (c7 _) b.bm;refine ⟨wH (by rw [a.len,b.len]) fun k hk=>?_,e1⟩
 have hk:k<f.length:=by rw [<- a.len];exact hk
 exact Prod.ext (by rw [a.ids k hk,b.ids k hk]) (e2 k (bz _) hk)
def Below (N:List Nd) (k j:Nat):Prop:=(N[j]!).2.1=(k:Int)\/(N[j]!).2.2=(k:Int)
noncomputable def MS (N:List Nd) (k:Nat):Nat:=if h: ∃j,j<N.length/\Below N k j then h.choose else N.length
noncomputable def aWU (N:List Nd) (k:Nat):List (Int×Int):=if MS N k<N.length then [((N[k]!).1,(N[MS N k]!).1)] else []
noncomputable def aF3 (N:List Nd):Nat->List (Int×Int)
 |0=>[]
 |k+1=>aF3 N k++aWU N k
section
variable {f : List Pt} {t : Int × Int} {N : List Nd} {r : Int}
theorem FF.par (h:FF f t N r) {k:Nat} (hk:k<f.length):((k:Int)=r->MS N k=N.length)/\((k:Int)≠r->MS N k<N.length/\Below N k (MS N k)/\MS N k≠k/\ahP f t (MS N k) k)/\ ∀m,m<N.length->Below N k m->m=MS N k:=by
 have ln:=h.len
 by_cases hr:(k:Int)=r
 · have none: ¬ ∃j,j<N.length/\Below N k j:=by
    rintro ⟨j,hj,hb⟩;rcases h.bm.kids j (bz _) (by omega) (k:Int) hb with e|⟨_,_,_,_,_,_,e⟩
    · omega
    exact e hr.symm
   have e:MS N k=N.length:=by unfold MS;rw [dif_neg none]
   exact ⟨fun _=>e,fun q=>absurd hr q,fun m hm hb=>absurd ⟨m,hm,hb⟩ none⟩
 obtain ⟨j,_,j2,j3,j4⟩:=h.bm.up k (bz _) hk hr
 have ex: ∃j,j<N.length/\Below N k j:=⟨j,by omega,j3⟩
 have e:MS N k=j:=by
  unfold MS;rw [dif_pos ex]
  have:=ex.choose_spec
  exact j4 _ (bz _) (by omega) this.2
 refine ⟨fun q=>absurd q hr,fun _=>?_,fun m hm hb=>by rw [e];exact j4 m (bz _) (by omega) hb⟩
 rw [e];refine ⟨by omega,j3,?_,?_⟩
 · rcases h.bm.kids j (bz _) j2 (k:Int) j3 with q|⟨i,q,_,_,q2,_⟩
   · omega
   intro w;omega
 rcases h.bm.kids j (bz _) j2 (k:Int) j3 with q|⟨i,q,_,_,_,q2,_⟩
 · omega
 have:i=k:=by omega
 rw [<- this];exact q2
end
def o1 (f:List Pt) (t:Int×Int) (e c:Nat) (i:Nat) (bj:Int) (N:List Nd) (E:List Int) (left:Int):=
 (e,c,(i:Int),f,(f.length:Int),(i:Int),f,t.1,t.2,(0:Int),bj,N,E,(f[i]!).1,(f[i]!).2.1,(f[i]!).2.2,(f[i]!).1,left,(-1:Int))
section
variable {f : List Pt} {t : Int × Int} {N : List Nd} {r : Int}
theorem FF.link (h:FF f t N r) {j:Nat} (hj:j<f.length) {c:Int} (hc:(N[j]!).2.1=c\/(N[j]!).2.2=c):c= -1\/(0<=c/\c<N.length):=by
 have ln:=h.len;rcases h.bm.kids j (bz _) hj c hc with e|⟨k,e,_,k2,_⟩
 · exact .inl e
 exact .inr ⟨by omega,by omega⟩
end
theorem aNI (c:aQ) (es:List (Int×Int)) (h1:es.length<=1000000) (_:c.ay.ar.length<=1000000):
 E2 c es=some (decide (es.length=c.ay.ar.length/\ ∀i,i<c.ay.ar.length->(c.ay.ar[i]!).2∈es)):=by
 unfold E2 hU jE;simp only [aF]
 by_cases h0:es.length=c.ay.ar.length
 case neg=>rw [eO (by omega),cond_false,dec_f (fun q=>h0 q.1)]
 rw [eY (by omega),cond_true]
 have key:=lA (body:=bP) (fun i=>(c.ay.ar,es,(c.ay.ar.length:Int),(i:Int))) c.ay.ar.length (fun i=>(c.ay.ar[i]!).2∉es) (fun i=>(i:Int)) (e:= -1) (fun i hi=>by
  unfold bP G0;simp only [aJ (show (i:Int)<(c.ay.ar.length:Int) by omega),cond_true,aD c.ay.ar i hi,aB,pW es _ h1,aU (show i<1000000000 by omega)]
  refine ⟨fun q=>?_,fun q=>?_⟩
  · rw [dec_f q];rfl
  · rw [aJ (bn.1 q)];rfl) (by
  unfold bP;simp only [dec_f (show¬(c.ay.ar.length:Int)<(c.ay.ar.length:Int) by omega),cond_false])
 by_cases hx: ∀i,i<c.ay.ar.length->(c.ay.ar[i]!).2∈es
 · rw [show aH bP (c.ay.ar,es,(c.ay.ar.length:Int),0)=_ from key.2 (fun i hi=>bn.2 (hx i hi)),aB,aB,dec_f (by omega),aJ ⟨h0,hx⟩]
   rfl
 obtain ⟨i,hi⟩:=cd.1 hx
 obtain ⟨hi,hn⟩:=ck.1 hi;obtain ⟨m,m1,m2,m3⟩:=G1 (c:=fun i=>(c.ay.ar[i]!).2∉es) ⟨i,hi,hn⟩
 rw [show aH bP (c.ay.ar,es,(c.ay.ar.length:Int),0)=_ from key.1 m m1 m2 m3,aB,aB,aJ (by omega),dec_f (fun w=>hx w.2)]
 rfl
structure aF4 (k:K8):Prop where
 clk:bG k.bg
 bm:FF k.bg.ax.aa k.bg.au k.bm.bk k.bm.bj
 cert:(k.bg.ay.ar.map fun x=>x.2).Perm (aF3 k.bm.bk k.bg.ax.aa.length)
structure aUi (k:K8):Prop where
 c:P5 k.bg
 n:k.bm.bk.length<=1000
theorem QC {α:Type} [BEq α] [LawfulBEq α]: ∀{a b:List α},a.Nodup->(∀x∈a,x∈b)->a.length<=b.length
 | [],_,_,_=>bz _
 |x::a,b,hd,h=>by
  rw [List.nodup_cons] at hd;have hx:=h x List.mem_cons_self
  have:=QC (a:=a) (b:=b.erase x) hd.2 (fun y hy=>by
   rw [List.mem_erase_of_ne (fun e=>hd.1 (by rw [<- e];exact hy))]
   exact h y (List.mem_cons_of_mem _ hy))
  rw [List.length_erase_of_mem hx] at this
  have:=List.length_pos_of_mem hx
  rw [bu];omega
theorem ZA {α:Type} [BEq α] [LawfulBEq α] {a b:List α} (ha:a.Nodup) (hb:b.Nodup) (h1: ∀x∈a,x∈b) (h2: ∀x∈b,x∈a):a.Perm b:=yY ha h1 (QC hb h2)
structure aA1 (R:K8) (F:List Pt) (t:Int×Int):Prop where
 ok:aF4 R
 fld:R.bg.ax.aa=F
 au:R.bg.au=t
theorem aA1.short {R:K8} {F:List Pt} {t:Int×Int} (h:aA1 R F t):aUi R:=by
 have:=h.ok.clk.fld.1
 refine ⟨h.ok.clk.short,?_⟩
 have:=h.ok.bm.len
 omega
theorem aA1.nums {R:K8} {F:List Pt} {t:Int×Int} (h:aA1 R F t):wI R.bg:=h.ok.clk.fit
theorem aA1.same {R S:K8} {F:List Pt} {t:Int×Int} (h:aA1 R F t) (k:aA1 S F t):R.bm=S.bm:=by
 have a:=h.ok.bm;rw [h.fld,h.au] at a;have b:=k.ok.bm;rw [k.fld,k.au] at b;obtain ⟨e1,e2⟩:=a.same (by rw [<- h.fld];exact h.ok.clk.fld.2.2) b
 obtain ⟨_,⟨r,N⟩⟩:=R;obtain ⟨_,⟨r',N'⟩⟩:=S;simp only at e1 e2;subst e1 e2;rfl
theorem aCu {f:List Pt} {m:Nat} {p q:Pt}:q∈A6 f m p↔q=p\/q∈f:=by
 unfold A6;rw [cy,c8];constructor
 · rintro (h|h|h)
   · exact .inr (cz h)
   · exact .inl h
   exact .inr (c6 h)
 rintro (h|h)
 · exact .inr (.inl h)
 rw [<- List.take_append_drop m f] at h
 rcases cy.1 h with h|h
 · exact .inl h
 exact .inr (.inr h)
theorem aF5 {f:List Pt} (hs:iI f) {q:Pt} (h:q∈f):iU f q.1=q:=by
 obtain ⟨i,hi,rfl⟩:=aY.1 h;exact JY hs hi rfl
theorem aCv {f:List Pt} (hs:iI f) {x:Int} (h:kI f x):iU f x∈f/\(iU f x).1=x:=by
 obtain ⟨i,hi,rfl⟩:=h;rw [aF5 hs (bH hi)];exact ⟨bH hi,rfl⟩
abbrev aF6 (f:List Pt) (t:Int×Int) (a b:Int):Prop:=hY (iU f a) (iU f b) t
theorem S4 {f:List Pt} (hs:iI f) {t:Int×Int} {l:List Int} (hp: ∀x∈l,kI f x) (nd:l.Nodup):(∀e∈FC l,hY (iU f e.2) (iU f e.1) t)↔Hp (aF6 f t) l:=by
 constructor
 · intro h j h1 h2 c
   have hm:(l[j]!,l[par j]!)∈FC l:=by
    refine aY.2 ⟨j-1,by rw [IG];omega,?_⟩
    rw [MG l (show j-1<l.length-1 by omega),show j-1+1=j by omega]
   exact MI c (h _ hm)
 intro h e he
 obtain ⟨i,hi,rfl⟩:=aY.1 he;rw [IG] at hi;rw [MG l hi]
 have:=h (i+1) (by omega) (by omega)
 have pe:par (i+1)=i / 2:=by simp only [par];omega
 rw [pe] at this;refine FE t ?_ this;rw [(aCv hs (hp _ (bH (by omega)))).2,(aCv hs (hp _ (bH (by omega)))).2]
 exact fun e=>iW.1 nd (i / 2) (i+1) (by omega) (by omega) e.symm
structure aYq (R:GZ) (F:List Pt) (t:Int×Int):Prop where
 ok:yZ R
 fld:R.bg.ax.aa=F
 au:R.bg.au=t
theorem yZ.len {k:GZ} (h:yZ k):k.aj.length=k.bg.ax.aa.length:=by rw [<- h.perm.length_eq];exact List.length_map ..
theorem yZ.bd {k:GZ} (h:yZ k):k.aj.length<=64:=by have:=h.len;have:=h.clk.fld.1;omega
theorem yZ.has {k:GZ} (h:yZ k): ∀x∈k.aj,kI k.bg.ax.aa x:=fun _ hx=>M9.1 (h.perm.mem_iff.2 hx)
theorem yZ.nd {k:GZ} (h:yZ k):k.aj.Nodup:=h.perm.nodup_iff.1 (SZ h.clk.fld.2.2)
theorem yZ.hp {k:GZ} (h:yZ k):Hp (aF6 k.bg.ax.aa k.bg.au) k.aj:=(S4 h.clk.fld.2.2 h.has h.nd).1 h.lead
theorem P3.aj {c:aQ} {f:List Pt} (fok:bS f) {l:List Int} (pm:(rL f).Perm l) {R:GZ} (e:R.aj=l) (q:P3 c f (FC l) R.bg) (h:Hp (aF6 f c.au) l):aYq R f c.au:=by
 have nd:=pm.nodup_iff.1 (SZ fok.2.2);refine ⟨⟨q.ok,by rw [q.fld,e];exact pm,?_,?_⟩,q.fld,q.au⟩
 · rw [e]
   exact ZA (MH q.ok.crt) (Y3 nd) (fun x hx=>by obtain ⟨y,hy,rfl⟩:=List.mem_map.1 hx;exact q.sub y hy) (fun x hx=>FD.1 (q.has x hx))
 rw [e,q.fld,q.au]
 exact (S4 fok.2.2 (fun x hx=>M9.1 (pm.mem_iff.2 hx)) nd).2 h
theorem QD {α:Type} (z:α): ∀(l:List (Int×α)) (k:Int) (a:α) (j:Int),vR z (tG l k a) j=if j=k then a else vR z l j
 | [],k,a,j=>by
  simp only [tG,vR]
  by_cases h:j=k
  · rw [if_pos h,eY h];rfl
  rw [if_neg h,eO h];rfl
 |p::l,k,a,j=>by
  simp only [tG]
  by_cases h:k=p.1
  · rw [eY h,cond_true]
    simp only [vR]
    by_cases c:j=k
    · rw [if_pos c,eY c];rfl
    rw [if_neg c,eO c,cond_false,eO (by rw [<- h];exact c),cond_false]
  rw [eO h,cond_false]
  simp only [vR];rw [QD z l k a j]
  by_cases c:j=p.1
  · rw [eY c,cond_true,cond_true,if_neg (by rw [c];exact fun e=>h e.symm)]
  rw [eO c,cond_false,cond_false]
section
variable {f : List Pt} {t : Int × Int}
end
def MT (f:List Pt) (x:Int):Prop:=x= -1\/(0<=x/\kI f x)
theorem MT.has {f:List Pt} {x:Int} (h:MT f x) (h0:0<=x):kI f x:=by rcases h with h|h;omega;exact h.2
theorem rN {p w:List Int} {i:Nat} (hi:i<w.length+p.length) (hb:w.length+p.length<=1000):kG ⟨p,w⟩ (i:Int)=some (bJ p w i):=by
 unfold kG bJ;simp only [aF]
 by_cases h:i<w.length
 · rw [aJ (by omega),cond_true,aD w i h,aB,if_pos h]
 rw [dec_f (by omega),cond_false,oB ⟨by omega,by omega⟩,show (i:Int) - (w.length:Int)=((i-w.length:Nat):Int) by omega,aD p _ (by omega),aB,if_neg h]
theorem qI {p w:List Int} {i:Nat} (hi:i<w.length+p.length) (hb:w.length+p.length<=1000):jI ⟨p,w⟩ (i:Int)=some (bJ p w i):=by
 unfold jI bJ;have e:aA .i64 ((i:Int) - (w.length:Int))=(i:Int) - (w.length:Int):=oB ⟨by omega,by omega⟩
 simp only [aF,e]
 by_cases h:i<w.length
 · rw [dec_f (by omega),cond_false,aD w i h,aB,if_pos h]
 rw [aJ (by omega),cond_true,show (i:Int) - (w.length:Int)=((i-w.length:Nat):Int) by omega,aD p _ (by omega),aB,if_neg h]
theorem qQ {i:Nat} (h:i<1000) (k:Nat) (hk:k<=2):aA .i64 ((aA .i64 (2*(i:Int)))+(k:Int))=((2*i+k:Nat):Int):=by
 rw [oB (n:=2*(i:Int)) ⟨by omega,by omega⟩,oB ⟨by omega,by omega⟩];omega
theorem J5 {f:List Pt} (fok:bS f) {t:Int×Int} (r64:tH t) {x y:Int} (hx:MT f x) (hy:MT f y):xQ ⟨f⟩ t x y=some (DH f t x y):=by
 unfold xQ DH
 by_cases h1:x<0
 · rw [aJ h1,cond_true,if_pos h1]
 rw [dec_f h1,cond_false,if_neg h1]
 by_cases h2:y<0
 · rw [aJ h2,cond_true,if_pos h2]
 rw [dec_f h2,cond_false,if_neg h2];have p1:=hx.has (by omega)
 have p2:=hy.has (by omega)
 obtain ⟨j,j1,j2,j3⟩:=DC fok p1;obtain ⟨k,k1,k2,k3⟩:=DC fok p2;simp only [j2,k2,aB,aD f j j1,aD f k k1,j3,k3,PA (fT fok p1).1 (fT fok p2).1 r64]
 by_cases h:hY (iU f x) (iU f y) t
 · rw [aJ h,cond_true,if_pos h]
 rw [dec_f h,cond_false,if_neg h]
theorem QE:dE=aR:=rfl
theorem uE {f:List Pt} (fok:bS f) {x:Int} (h:kI f x): ∃k,k<f.length/\kY ⟨f⟩ x=some ((k:Int),true)/\f[k]! =iU f x:=by
 have h1:=fok.1;have bs:=vH f x (by omega) (fun i j=>gU fok.2.2)
 obtain ⟨k,hk,he⟩:=h;refine ⟨k,hk,?_,(JY fok.2.2 hk he).symm⟩;unfold kY;rw [QE,bs.1 k hk he];rfl
theorem LN {f:List Pt} (fok:bS f) {x:Int} (h: ¬kI f x): ∃m:Nat,kY ⟨f⟩ x=some ((m:Int),false):=by
 have h1:=fok.1;have bs:=vH f x (by omega) (fun i j=>gU fok.2.2)
 obtain ⟨m,_,_,_,e⟩:=bs.2 (fun k hk he=>h ⟨k,hk,he⟩)
 refine ⟨m,?_⟩;unfold kY;rw [QE,e];rfl
theorem QF {f:List Pt} (fok:bS f) {t:Int×Int} (r:cS t) (r64:tH t) {x y:Int} (hx:MT f x) (hy:MT f y) (hne:0<=x->x≠y):rA ⟨f⟩ t x y=some (DH f t x y):=by
 unfold rA DH
 by_cases h1:x<0
 · rw [aJ (by split<;>omega),cond_true,if_pos h1]
   have:x= -1:=by rcases hx with h|h;exact h;omega
   have: -1<=y:=by rcases hy with h|h<;>omega
   congr 1
   split<;>omega
 rw [if_neg h1]
 by_cases h2:y<0
 · rw [aJ (by split<;>omega),cond_true,if_pos h2]
   congr 1
   split<;>omega
 rw [dec_f (by split<;>omega),cond_false,if_neg h2]
 have p1:=hx.has (by omega)
 have p2:=hy.has (by omega)
 obtain ⟨j,j1,j2,j3⟩:=uE fok p1;obtain ⟨k,k1,k2,k3⟩:=uE fok p2;obtain ⟨a1,a2⟩:=fT fok p1;obtain ⟨b1,b2⟩:=fT fok p2;simp only [j2,k2,aB,aD f j j1,aD f k k1,j3,k3];rcases MR a1 b1 r64 r with h|⟨h,_⟩
 · rw [h,aB]
   by_cases h:hY (iU f x) (iU f y) t
   · rw [if_pos h];dsimp only;rw [aJ h,cond_true]
   rw [if_neg h];dsimp only;rw [dec_f h,cond_false]
 rw [a2,b2] at h;exact absurd h (hne (by omega))
def tI (B:List Int) (i:Nat):List Int:=List.replicate i 0++B.drop i
theorem uF {B:List Int} {i:Nat} (h:i<=B.length):(tI B i).length=B.length:=by unfold tI;rw [ci,bo,ce];omega
theorem GG {B:List Int} {i k:Nat} (h:i<=k) (hi:i<=B.length):(tI B i)[k]! =B[k]!:=by
 unfold tI;rw [fQ (by rw [bo];exact h),nU,bo]
 congr 1;omega
theorem DJ {p B:List Int} {i k:Nat} (h:i<=k) (hi:i<=B.length):bJ p (tI B i) k=bJ p B k:=by
 unfold bJ;rw [uF hi];split
 · exact GG h hi
 rfl
theorem S5 {B:List Int} {i:Nat} (h:i<B.length):(tI B (i+1)).set i B[i]! =tI B i:=by
 refine wH (by rw [cp,uF (by omega),uF (by omega)]) fun k hk=>?_
 rw [cp,uF (by omega)] at hk
 rw [aZ]
 by_cases e:k=i
 · rw [if_pos ⟨e,by rw [uF (by omega)];omega⟩,GG (by omega) (by omega),e]
 rw [if_neg (fun x=>e x.1)]
 by_cases h2:k<i
 · unfold tI
   rw [eJ (by rw [bo];omega),eJ (by rw [bo];omega)]
   rw [getElem!_pos _ k (by rw [bo];omega),getElem!_pos _ k (by rw [bo];omega),cw,cw]
 rw [GG (by omega) (by omega),GG (by omega) (by omega)]
section
variable {f : List Pt} (fok : bS f) {t : Int × Int} (r : cS t) (r64 : tH t) {p : List Int} (h1 : 1 <= p.length) (h64 : p.length <= 64) (hk : ∀ x ∈ p, MT f x)
include fok r64 h1 h64 hk
theorem NC {i:Nat} (hi:i<(cK f t p).length+p.length):MT f (bJ p (cK f t p) i):=by
 have _:=fok;have _:=r64;have _:=h64;exact hk _ (mH (gC (f:=f) (t:=t) h1).1 (gC h1).chosen hi)
theorem aA2 {i:Nat} (hi:i<(cK f t p).length):
 oT ((i:Int),f,t.1,t.2,p,tI (cK f t p) (i+1))=some (.next ((i:Int) -1,f,t.1,t.2,p,tI (cK f t p) i)):=by
 have R:=gC (f:=f) (t:=t) (p:=p) h1;have bl:=R.1;have pl:=uF (B:=cK f t p) (i:=i+1) (by omega)
 unfold oT;simp only [aJ (show (0:Int)<=(i:Int) by omega),cond_true]
 have k1:=qQ (i:=i) (by omega) 1 (by omega)
 have k2:=qQ (i:=i) (by omega) 2 (by omega)
 rw [show aA .i64 (aA .i64 (2*(i:Int))+1)=((2*i+1:Nat):Int) from k1,show aA .i64 (aA .i64 (2*(i:Int))+2)=((2*i+2:Nat):Int) from k2];rw [rN (by omega) (by omega),aB,rN (by omega) (by omega),aB,DJ (by omega) (by omega),DJ (by omega) (by omega)]
 rw [show xQ ⟨f⟩ (t.1,t.2) _ _=_ from J5 fok r64 (NC fok r64 h1 h64 hk (by omega)) (NC fok r64 h1 h64 hk (by omega)),aB,aD _ i (by omega),aB,<- R.2 i hi]
 show some (bQ.next (_,f,t.1,t.2,p,(tI (cK f t p) (i+1)).set i _))=_
 rw [S5 hi,oB ⟨by omega,by omega⟩]
theorem QG:AC ⟨f⟩ t p=some ⟨p,cK f t p⟩:=by
 have R:=gC (f:=f) (t:=t) (p:=p) h1;have bl:=R.1;have w1:aA .i64 ((p.length:Int) -1)=((p.length-1:Nat):Int):=qF (by omega) h1
 have loop: ∀n:Nat,n<=(cK f t p).length->aH oT ((n:Int) -1,f,t.1,t.2,p,tI (cK f t p) n)=some ⟨p,cK f t p⟩:=by
  intro n
  induction n with
  |zero=>
   intro _;refine aL ?_;unfold oT;rw [dec_f (by omega),cond_false]
   rfl
  |succ n ih=>
   intro hn;have st:=aA2 fok r64 h1 h64 hk (t:=t) (i:=n) (by omega)
   rw [show ((n+1:Nat):Int) -1=(n:Int) by omega,aX st]
   exact ih (by omega)
 unfold AC;simp only [aT (show p.length<=1048576 by omega),aB,aF,w1,eY rfl,cond_true,PL (0:Int) (show p.length-1<=1048576 by omega),bo]
 have:=loop (cK f t p).length (c7 _)
 unfold tI at this;rw [cq,db,show (cK f t p).length=p.length-1 by omega] at this
 rw [oB (n:=((p.length-1:Nat):Int) -1) ⟨by omega,by omega⟩]
 exact this
include r
theorem VF (ho:GI p) {i:Nat} (hi:i<(cK f t p).length):
 jU ((i:Int),f,t.1,t.2,p,tI (cK f t p) (i+1))=some (.next ((i:Int) -1,f,t.1,t.2,p,tI (cK f t p) i)):=by
 have R:=gC (f:=f) (t:=t) (p:=p) h1;have bl:=R.1;have pl:=uF (B:=cK f t p) (i:=i+1) (by omega)
 unfold jU;simp only [aJ (show (0:Int)<=(i:Int) by omega),cond_true]
 have k1:=qQ (i:=i) (by omega) 1 (by omega)
 have k2:=qQ (i:=i) (by omega) 2 (by omega)
 rw [show aA .i64 (aA .i64 (2*(i:Int))+1)=((2*i+1:Nat):Int) from k1,show aA .i64 (aA .i64 (2*(i:Int))+2)=((2*i+2:Nat):Int) from k2];rw [qI (by omega) (by omega),aB,qI (by omega) (by omega),aB,DJ (by omega) (by omega),DJ (by omega) (by omega)]
 rw [show rA ⟨f⟩ (t.1,t.2) _ _=_ from QF fok r r64 (NC fok r64 h1 h64 hk (by omega)) (NC fok r64 h1 h64 hk (by omega)) (fun h0=>NB R.1 R.chosen ho hi h0),aB,aD _ i (by omega),aB,<- R.2 i hi]
 show some (bQ.next (_,f,t.1,t.2,p,(tI (cK f t p) (i+1)).set i _))=_
 rw [S5 hi,oB ⟨by omega,by omega⟩]
theorem LO:uP ⟨f⟩ p=some true:=by
 have _:=r;have _:=r64;have st:=cA (body:=pC) (fun i=>(p,(p.length:Int),(i:Int),f)) p.length (fun i hi=>by
  have id:=hk _ (bH hi);unfold pC;simp only [aJ (show (i:Int)<(p.length:Int) by omega),cond_true,aD p i hi,aB,aU (show i<1000000000 by omega)]
  by_cases h:kI f p[i]!
  · obtain ⟨k,_,e,_⟩:=uE fok h
    rw [e,aB,cond_true]
  obtain ⟨m,e⟩:=LN fok h
  rw [e,aB,cond_false];rcases id with id|id
  · rw [eY id];rfl
  exact absurd id.2 h)
 unfold uP;refine (show _=_ from st).trans (aL ?_);unfold pC;simp only [dec_f (show¬(p.length:Int)<(p.length:Int) by omega),cond_false]
 rfl
def QH (p:List Int):Nat->List (Int×Bool)
 |0=>tG [] (-1) false
 |i+1=>tG (QH p i) p[i]! (decide (0<=p[i]!))
omit fok r r64 h1 h64 hk in
theorem QI (p:List Int): ∀(i:Nat) (k:Int),vR false (QH p i) k=decide (0<=k/\ ∃j,j<i/\p[j]! =k)
 |0,k=>by
  unfold QH;rw [QD];rw [decide_eq_false (fun h=>by obtain ⟨_,j,hj,_⟩:=h;omega)]
  split<;>rfl
 |i+1,k=>by
  unfold QH;rw [QD,QI p i k]
  by_cases e:k=p[i]!
  · rw [if_pos e]
    refine decide_eq_decide.2 ⟨fun h=>⟨by omega,i,by omega,e.symm⟩,fun h=>by omega⟩
  rw [if_neg e]
  refine decide_eq_decide.2 ⟨fun ⟨h,j,hj,hx⟩=>⟨h,j,by omega,hx⟩,fun ⟨h,j,hj,hx⟩=>⟨h,j,?_,hx⟩⟩
  rcases cu j i with h2|h2
  · exact h2
  obtain rfl:j=i:=by omega
  exact absurd hx.symm e
omit fok r r64 h1 h64 hk in
theorem aDG {p:List Int} (ho:GI p) {i:Nat} (hi:i<p.length):vR false (QH p i) p[i]! =false:=by
 rw [QI];refine decide_eq_false fun ⟨h0,j,hj,e⟩=>?_
 have:=ho j i hj hi e
 omega
theorem BY (ho:GI p):pS ⟨f⟩ t p=some (⟨p,cK f t p⟩,0):=by
 have R:=gC (f:=f) (t:=t) (p:=p) h1;have bl:=R.1;have w1:aA .i64 ((p.length:Int) -1)=((p.length-1:Nat):Int):=qF (by omega) h1
 have loop: ∀n:Nat,n<=(cK f t p).length->aH jU ((n:Int) -1,f,t.1,t.2,p,tI (cK f t p) n)=some (.done (⟨p,cK f t p⟩,0)):=by
  intro n
  induction n with
  |zero=>
   intro _;refine aL ?_;unfold jU;rw [dec_f (by omega),cond_false]
   rfl
  |succ n ih=>
   intro hn;have st:=VF fok r r64 h1 h64 hk (t:=t) ho (i:=n) (by omega)
   rw [show ((n+1:Nat):Int) -1=(n:Int) by omega,aX st]
   exact ih (by omega)
 have fc:dR ⟨f⟩=some 0:=by rw [gS];exact congrArg some (fZ.2 fok)
 unfold pS AT;simp only [fc,aB,bF (rfl:(0:Int)=0),cond_false,gQ r64,if_pos r,aF,dec_f (show¬(p.length:Int)<1 by omega),dec_f (show¬(64:Int)<(p.length:Int) by omega),LO fok r r64 h1 h64 hk,cm]
 have st:=cA (body:=pD 0 p) (fun i=>(p,(p.length:Int),(i:Int),f,t.1,t.2,QH p i)) p.length (fun i hi=>by
  unfold pD;simp only [aJ (show (i:Int)<(p.length:Int) by omega),cond_true,aD p i hi,aB,aDG ho hi,cj,cm,cond_false,aU (show i<1000000000 by omega)]
  rfl)
 refine (show _=_ from st).trans (aL ?_);unfold pD;simp only [dec_f (show¬(p.length:Int)<(p.length:Int) by omega),cond_false,bF (rfl:(0:Int)=0),aT (show p.length<=1048576 by omega),aB,aF,w1,eY rfl,cond_true,PL (0:Int) (show p.length-1<=1048576 by omega),bo]
 have:=loop (cK f t p).length (c7 _)
 unfold tI at this;rw [cq,db,show (cK f t p).length=p.length-1 by omega] at this
 rw [oB (n:=((p.length-1:Nat):Int) -1) ⟨by omega,by omega⟩]
 exact this
end
end Go.Proofs.YtogihpogmfjoiaaGreat
