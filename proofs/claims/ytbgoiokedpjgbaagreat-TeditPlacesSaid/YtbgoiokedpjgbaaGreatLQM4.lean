/- Plain laws (4). -/
import Derived.Test.YtbgoiokedpjgbaaGreatLQM3
import Derived.Test.YtbgoiokedpjgbaaGreatLQS2
open Classical renaming not_not->ut,not_forall->If,not_imp->PP
open List renaming length_replicate->v6,length_cons->AC,length_take->Do,length_nil->F0s,length_drop->IR,length_append->M2,length_eraseIdx_le->acl,drop_length->acK,getElem_replicate->ae0,mem_append->ae3,mem_of_mem_take->ae5,mem_of_mem_drop->aem,mem_cons->aeu,append_assoc->aev,take_length->aew,length_set->aex,append_nil->aeA,length->aeC
open Nat renaming lt_trichotomy->ww,zero_le->EQ,lt_or_ge->adc,le_refl->aet,le_trans->aeB
open Bool renaming not_false->NE,not_true->UV,true->aeE,false->aeF
open Option renaming some->aeD
open Decidable renaming decide->aeH
namespace Go.Proofs.YtbgoiokedpjgbaaGreat
open Go.Vm Classical
theorem JX (p q:Pt) (t:Int×Int):HV p q t=(p.2.1*t.2+p.2.2*t.1) - (q.2.1*t.2+q.2.2*t.1):=by
 rw [ad6,Int.sub_mul,Int.sub_mul];omega
theorem MO {p q r:Pt} {t:Int×Int} (h1:leads p q t) (h2:leads q r t):leads p r t:=by
 unfold leads at*;rw [JX] at*;generalize p.2.1*t.2+p.2.2*t.1=a at*;generalize q.2.1*t.2+q.2.2*t.1=b at*;generalize r.2.1*t.2+r.2.2*t.1=c at*;omega
theorem yj {p q:Pt} (t:Int×Int) (h:p.1≠q.1) (hn: ¬leads p q t):leads q p t:=by
 unfold leads at*;rw [JX] at*;generalize p.2.1*t.2+p.2.2*t.1=a at*;generalize q.2.1*t.2+q.2.2*t.1=b at*;omega
structure SO (P:Int->Int->Prop) (S:Int->Prop):Prop where
 irr: ∀a,S a-> ¬P a a
 tr: ∀a b c,S a->S b->S c->P a b->P b c->P a c
 tot: ∀a b,S a->S b->a≠b->P a b\/P b a
abbrev par (j:Nat):Nat:=(j-1) / 2
def Hp (P:Int->Int->Prop) (l:List Int):Prop:= ∀j,0<j->j<aeC l-> ¬P l[j]! l[par j]!
section
variable {P : Int -> Int -> Prop} {S : Int -> Prop}
theorem SO.up (o:SO P S) {a b c:Int} (ha:S a) (hb:S b) (hc:S c) (h1:P b c) (h2: ¬P a c): ¬P a b:=fun h=>h2 (o.tr a b c ha hb hc h h1)
end
section
variable {P : Int -> Int -> Prop} {S : Int -> Prop} {bit : Int -> Nat -> Nat}
end
theorem VV {f:List Pt} (dE:bC f) (k:Nat):bC (f.eraseIdx k):=by
 refine ⟨aeB (acl f k) dE.1,fun p hp=>dE.2.1 p (List.mem_of_mem_eraseIdx hp),?_⟩
 have h:=dE.2.2;intro i hi;have hl:=acl f k
 by_cases hk:k<aeC f
 · have:=BA hk
   rw [wz,wz];split<;>split<;>exact eH h (by omega) (by omega)
 rw [List.eraseIdx_of_length_le (by omega)] at hi ⊢
 exact h i hi
theorem MP {f:List Pt} (dE:bC f) {k:Nat} (hk:k<aeC f):jY ⟨f⟩ (f[k]!).1=aeD ((k:Int),0):=by
 have h1:=dE.1;have hc:dQ ⟨f⟩=aeD 0:=by rw [gm];exact congrArg aeD (fo.2 dE)
 have bs:=pQ f (f[k]!).1 (by omega) (fun i j=>eH dE.2.2)
 unfold jY jd;rw [By];simp only [hc,ar,show ((0:Int) !=0)=aeF from rfl,ol,bs.1 k hk rfl,UV]
theorem G9 {f:List Pt} (dE:bC f) {id:Int} (h: ¬fU f id):jY ⟨f⟩ id=aeD (0,6):=by
 have h1:=dE.1;have hc:dQ ⟨f⟩=aeD 0:=by rw [gm];exact congrArg aeD (fo.2 dE)
 have bs:=pQ f id (by omega) (fun i j=>eH dE.2.2)
 obtain ⟨m,_,_,_,e⟩:=bs.2 (fun k hk he=>h ⟨k,hk,he⟩)
 unfold jY jd;rw [By];simp only [hc,ar,show ((0:Int) !=0)=aeF from rfl,ol,e,NE,lw]
theorem JY:je=dZ:=rfl
theorem OZ {f:List Pt} (dE:bC f) {k:Nat} (hk:k<aeC f):jf ⟨f⟩ (f[k]!).1=aeD (⟨f.eraseIdx k⟩,0)/\wc ⟨f⟩ (f[k]!).1=aeD (⟨f.eraseIdx k⟩,0):=by
 have f1:=dE.1;constructor
 · obtain ⟨L,d1,d2⟩:=yd f k hk
   unfold jf;rw [MP dE hk,ar,bo rfl,ol,ba (show (aeC f)<=1048576 by omega),ar,aT (show k<1000000000 by omega),JY,d1,ar]
   show aeD (Field.mk (L.take (aeC f-1)),(0:Int))=_;rw [d2]
 have hc:gf ⟨f⟩=aeD 0:=by rw [oA];exact congrArg aeD (fo.2 dE)
 unfold wc;rw [hc,ar,bo rfl,ol,CC dE.2.2 (by omega) hk rfl,ar,aC (by omega),ol]
 unfold zy;generalize hn:(f[k]!).1=n;have key:=cz (body:=ie) (fun i=>(n,(i:Int),f,(f.take i).filter (fun x=>x.1 !=n))) (aeC f) (fun i hi=>by
  have nx:(f.take (i+1)).filter (fun x=>x.1 !=n)=(f.take i).filter (fun x=>x.1 !=n)++(if (f[i]!).1 !=n then [f[i]!] else []):=by
   rw [ew hi,List.filter_append,List.filter_cons,List.filter_nil]
  have fl:((f.take i).filter (fun x=>x.1 !=n)).length<=200:=aeB (List.length_filter_le _ _) (by rw [Do];omega)
  unfold ie;simp only [aA,aF (show (i:Int)<((aeC f):Int) by omega),lw,au f i hi,ar,aT (show i<1000000000 by omega),nx]
  by_cases h:(f[i]!).1=n
  · rw [bo h];simp
  rw [cC h]
  simp only [lw,if_true,bY (show ((f.take i).filter (fun x=>x.1 !=n)).length+[f[i]!].length<=1048576 by simp only [AC,F0s];omega),ar])
 have fin:ax ie (n,((aeC f):Int),f,(f.take (aeC f)).filter (fun x=>x.1 !=n))=aeD ⟨f.eraseIdx k⟩:=aJ (by
  unfold ie;simp only [aA,aC (show¬((aeC f):Int)<((aeC f):Int) by omega),ol,aew]
  rw [BB hk (fun i j=>eH dE.2.2) hn])
 rw [show ax ie (n,0,f,[])=_ from key,fin,ar]
theorem JZ {f:List Pt} (dE:bC f) {id:Int} (h: ¬fU f id):jf ⟨f⟩ id=aeD (⟨[]⟩,6)/\wc ⟨f⟩ id=aeD (⟨[]⟩,6):=by
 constructor
 · unfold jf
   rw [G9 dE h];rfl
 have hc:gf ⟨f⟩=aeD 0:=by rw [oA];exact congrArg aeD (fo.2 dE)
 unfold wc;rw [hc,ar,bo rfl,ol,CL dE h];rfl
def qy (f:List Pt) (m:Nat) (p:Pt):List Pt:=f.take m++p::f.drop m
structure MQ (f:List Pt) (p:Pt) (m:Nat):Prop where
 le:m<=aeC f
 lo: ∀i,i<m->(f[i]!).1<p.1
 hi: ∀i,m<=i->i<aeC f->p.1<(f[i]!).1
theorem MR {f:List Pt} {m:Nat} (h:m<=aeC f) (p:Pt):(qy f m p).length=aeC f+1:=by
 unfold qy;rw [M2,AC,Do,IR];omega
theorem Ig {f:List Pt} {m:Nat} (h:m<=aeC f) (p:Pt) (i:Nat):(qy f m p)[i]! =if i<m then f[i]! else if i=m then p else f[i-1]!:=by
 have ht:(f.take m).length=m:=by rw [Do];omega
 unfold qy;simp only [List.getElem!_eq_getElem?_getD]
 by_cases h1:i<m
 · rw [pp h1,List.getElem?_append_left (by omega),List.getElem?_take_of_lt h1]
 rw [rc h1,List.getElem?_append_right (by omega),ht]
 by_cases h2:i=m
 · rw [pp h2,h2,Nat.sub_self];rfl
 rw [rc h2,show i-m=(i-1-m)+1 by omega,List.getElem?_cons_succ,List.getElem?_drop,show m+(i-1-m)=i-1 by omega]
theorem ad9 {f:List Pt} (dE:bC f) {p:Pt} (po:fK p) {m:Nat} (h:MQ f p m) (hl:(aeC f)<64):bC (qy f m p):=by
 refine ⟨by rw [MR h.le];omega,fun q hq=>?_,fun i hi=>?_⟩
 · rcases ae3.1 hq with hq|hq
   · exact dE.2.1 q (ae5 hq)
   rcases aeu.1 hq with rfl|hq
   · exact po
   exact dE.2.1 q (aem hq)
 rw [MR h.le] at hi
 rw [Ig h.le,Ig h.le];rcases ww (i+1) m with c|c|c
 · rw [pp (by omega),pp c];exact eH dE.2.2 (by omega) (by have:=h.le;omega)
 · rw [pp (by omega),rc (by omega),pp c];exact h.lo i (by omega)
 rw [rc (show¬i+1<m by omega),rc (show¬i+1=m by omega),Nat.add_sub_cancel]
 by_cases d:i=m
 · rw [rc (by omega),pp d];exact h.hi i (by omega) (by omega)
 rw [rc (by omega),rc d];exact eH dE.2.2 (by omega) (by omega)
theorem O0 {f:List Pt} (dE:bC f) {p:Pt} (h: ¬fU f p.1): ∃m,MQ f p m/\jd ⟨f⟩ p.1=aeD ((m:Int),aeF):=by
 have h1:=dE.1;obtain ⟨m,a,b,c,e⟩:=(pQ f p.1 (by omega) (fun i j=>eH dE.2.2)).2 (fun k hk he=>h ⟨k,hk,he⟩)
 refine ⟨m,⟨a,b,c⟩,?_⟩;unfold jd;rw [By,e];rfl
theorem O1 {f:List Pt} (dE:bC f) {id:Int} (h:fU f id): ∃k,k<aeC f/\(f[k]!).1=id/\jd ⟨f⟩ id=aeD ((k:Int),aeE):=by
 have h1:=dE.1;obtain ⟨k,hk,he⟩:=h;refine ⟨k,hk,he,?_⟩;unfold jd;rw [By,(pQ f id (by omega) (fun i j=>eH dE.2.2)).1 k hk he];rfl
theorem aea {f:List Pt} (_:bC f) {p:Pt} {m:Nat} (h:MQ f p m) (hl:(aeC f)<64):ax ff (aeF,0,f,p.1,p.2.1,p.2.2,[])=aeD (⟨qy f m p⟩,0):=by
 have k7:=h.le;have tl: ∀i,(f.take i).length<=64:=fun i=>by rw [Do];omega
 have k1:=cz (body:=ff) (fun i=>(aeF,(i:Int),f,p.1,p.2.1,p.2.2,f.take i)) m (fun i hi=>by
  unfold ff;simp only [aA,aF (show (i:Int)<((aeC f):Int) by omega),lw,NE,au f i (by omega),ar,aC (show¬p.1<(f[i]!).1 from Int.not_lt.2 (Int.le_of_lt (h.lo i hi))),ol,
   bY (show (f.take i).length+[f[i]!].length<=1048576 by have:=tl i;simp only [AC,F0s];omega),aT (show i<1000000000 by omega),ew (show i<(aeC f) by omega)])
 refine (show ax ff (aeF,0,f,p.1,p.2.1,p.2.2,[])=_ from k1).trans ?_;have pe:((p.1,p.2.1,p.2.2):Pt)=p:=rfl;rcases adc m (aeC f) with hm|hm
 · have s1:ff (aeF,(m:Int),f,p.1,p.2.1,p.2.2,f.take m)=aeD (.next (aeE,((m+1:Nat):Int),f,p.1,p.2.1,p.2.2,f.take m++[p]++[f[m]!])):=by
    unfold ff;simp only [aA,aF (show (m:Int)<((aeC f):Int) by omega),lw,NE,au f m hm,ar,aF (h.hi m (aet _) hm),pe,
     bY (show (f.take m).length+[p].length<=1048576 by have:=tl m;simp only [AC,F0s];omega),
     bY (show (f.take m++[p]).length+[f[m]!].length<=1048576 by have:=tl m;simp only [M2,AC,F0s];omega),aT (show m<1000000000 by omega)]
   rw [aZ s1];have k2:=cz (body:=ff) (fun i=>(aeE,((m+1+i:Nat):Int),f,p.1,p.2.1,p.2.2,f.take m++[p]++(f.drop m).take (i+1))) (aeC f- (m+1)) (fun i hi=>by
    have ed:(f.drop m).take (i+1+1)=(f.drop m).take (i+1)++[f[m+1+i]!]:=by
     rw [ew (show i+1<(f.drop m).length by rw [IR];omega),kN];congr 3;omega
    unfold ff;simp only [aA,aF (show ((m+1+i:Nat):Int)<((aeC f):Int) by omega),lw,UV,ol,au f (m+1+i) (by omega),ar,
     bY (show (f.take m++[p]++(f.drop m).take (i+1)).length+[f[m+1+i]!].length<=1048576 by have:=tl m;simp only [M2,Do,IR,AC,F0s] at this ⊢;omega),aT (show m+1+i<1000000000 by omega),ed]
    rw [aev (f.take m++[p]),show m+1+i+1=m+1+(i+1) by omega])
   have e0:(f.drop m).take (0+1)=[f[m]!]:=by
    have:=Me hm
    rw [show f.drop m=f[m]!::f.drop (m+1) by rw [getElem!_pos f m hm,List.getElem_cons_drop]];rfl
   rw [e0] at k2;refine (show ax ff (aeE,((m+1:Nat):Int),f,p.1,p.2.1,p.2.2,f.take m++[p]++[f[m]!])=_ from k2).trans (aJ ?_);have ef:(f.drop m).take (aeC f- (m+1)+1)=f.drop m:=List.take_of_length_le (by rw [IR];omega)
   rw [ef,show m+1+(aeC f- (m+1))=(aeC f) by omega]
   unfold ff qy;simp only [aA,aC (show¬((aeC f):Int)<((aeC f):Int) by omega),ol,UV,aev,List.singleton_append]
 obtain rfl:m=(aeC f):=by omega
 refine aJ ?_;unfold ff qy;simp only [aA,aC (show¬((aeC f):Int)<((aeC f):Int) by omega),ol,NE,lw,pe,aew,
  bY (show (aeC f)+[p].length<=1048576 by simp only [AC,F0s];omega),ar,acK]
theorem Gm {f:List Pt} (dE:bC f) (p:Pt):
 (∃e:Int,e≠0/\iK ⟨f⟩ p=aeD (⟨[]⟩,e)/\rJ ⟨f⟩ p=aeD (⟨[]⟩,e))\/
 (∃m,MQ f p m/\ ¬fU f p.1/\fK p/\aeC f<64/\iK ⟨f⟩ p=aeD (⟨qy f m p⟩,0)/\rJ ⟨f⟩ p=aeD (⟨qy f m p⟩,0)):=by
 have f1:=dE.1;have hc:dQ ⟨f⟩=aeD 0:=by rw [gm];exact congrArg aeD (fo.2 dE)
 have En:gf ⟨f⟩=aeD 0:=by rw [oA];exact congrArg aeD (fo.2 dE)
 by_cases po:fK p
 case neg=>
  refine .inl ⟨8,by decide,?_,?_⟩
  · unfold iK;rw [hc,ar,bo rfl,ol,iM,rc po];rfl
  unfold rJ;rw [En,ar,bo rfl,ol,lI,rc po];rfl
 by_cases hp:fU f p.1
 · obtain ⟨k,hk,he,e⟩:=O1 dE hp
   refine .inl ⟨14,by decide,?_,?_⟩
   · unfold iK;rw [hc,ar,bo rfl,ol,iM,pp po,ar,bo rfl,ol,e];rfl
   unfold rJ;rw [En,ar,bo rfl,ol,lI,pp po,ar,bo rfl,ol,CC dE.2.2 (by omega) hk he,ar,aF (show (0:Int)<=(k:Int) by omega)];rfl
 obtain ⟨m,hm,e⟩:=O0 dE hp
 by_cases full:(aeC f)=64
 · refine .inl ⟨18,by decide,?_,?_⟩
   · unfold iK;rw [hc,ar,bo rfl,ol,iM,pp po,ar,bo rfl,ol,e,ar,ol]
     simp only [aA,full];rfl
   unfold rJ;rw [En,ar,bo rfl,ol,lI,pp po,ar,bo rfl,ol,CL dE hp,ar,aC (by decide),ol]
   simp only [aA,full];rfl
 have hl:(aeC f)<64:=by omega
 have hf:(Int.ofNat (aeC f)==64)=aeF:=by simp only [aA,beq_eq_false_iff_ne];omega
 refine .inr ⟨m,hm,hp,po,hl,?_,?_⟩
 · have hi:yA f (m:Int) [p]=aeD (qy f m p):=by
    unfold yA;rw [pp ⟨by omega,by have:=hm.le;simpa using this,rfl,by omega⟩]
    simp [qy]
   unfold iK;rw [hc,ar,bo rfl,ol,iM,pp po,ar,bo rfl,ol,e,ar,ol,hf,ol,ba (show (aeC f)<=1048576 by omega),ar,hi,ar]
 unfold rJ
 rw [En,ar,bo rfl,ol,lI,pp po,ar,bo rfl,ol,CL dE hp,ar,aC (by decide),ol,hf,ol]
 exact aea dE hm hl
noncomputable def lY (f:List Pt) (es:List (Int×Int)):Int:=if¬(∀x∈es,fq x) then 8 else if¬es.Nodup then 14 else if¬(∀x∈es,jj f x) then 6 else 0
def rP (c:aP) (f:List Pt) (es:List (Int×Int)) (i:Nat):=
 (es,es,((aeC es):Int),(i:Int),c.ci.1,c.ci.2,c.ii.am,c.ai.aL,c.ai.ce,c.aa.af.aB,c.aa.af.be,c.aa.af.bi,c.aa.bv,c.aa.aj,c.io,f,(0:Int),(0:Int),(0:Int))
theorem Gn {c:aP} (ok:bn c) {f:List Pt} (dE:bC f) {es:List (Int×Int)} (hl:(aeC es)<=1000) {r:aP×Int} (hr:lY f es=0->qj c ⟨f⟩ es=aeD r):
 ny c ⟨f⟩ es=aeD (if lY f es=0 then r else (eO,lY f es)):=by
 have bd:=ok.bd;have ab:=ok.mS.bd;have sl:=ok.mS.so.fl;have sn:=ok.mS.so.n2;have su:=ok.mS.so.ul;have el:aeH (((aeC es):Int)<((aeC es):Int))=aeF:=aC (by omega)
 have hc:gj c=aeD 0:=by rw [lL ok.fit,pp ok]
 have hf:dQ ⟨f⟩=aeD 0:=by rw [gm];exact congrArg aeD (fo.2 dE)
 have tw:sq (aP.mk (c.ci.1,c.ci.2) (Field.mk c.ii.am) (bG.mk c.ai.aL c.ai.ce) (aM.mk (bc.mk c.aa.af.aB c.aa.af.be c.aa.af.bi) c.aa.bv c.aa.aj) c.io)=aeD c:=by
  unfold sq;simp only [ba (show (aeC c.ii.am)<=1048576 by omega),ba (show (aeC c.ai.ce)<=1048576 by omega),ba (show (aeC c.io)<=1048576 by omega),ba (show (aeC c.aa.bv)<=1048576 by omega),ba (show (aeC c.aa.aj)<=1048576 by omega),
   ba (show (aeC c.aa.af.aB)<=1048576 by omega),ba (show (aeC c.aa.af.be)<=1048576 by omega),ba (show (aeC c.aa.af.bi)<=1048576 by omega),ar]
 have k3: ∀e2:aP×Int,ax ej (rP c f es 0)=aeD (.done e2)->ax ek (rP c f es 0)=aeD (if∀i,i<aeC es->fq es[i]! then e2 else (eO,8)):=by
  intro e2 h2;refine mT (body:=ek) (fun i=>rP c f es i) (aeC es) (fun i=>fq es[i]!) (r:=(eO,8)) (e:=e2) (fun i hi=>?_) ?_
  · have e1:aeH ((i:Int)<((aeC es):Int))=aeE:=aF (by omega)
    unfold ek rP fq;simp only [e1,lw,au es i hi,ar,aT (show i<1000000000 by omega)]
    generalize es[i]! =x
    by_cases a1:x.1<0
    · rw [aF a1];exact ⟨fun _=>rfl,fun h=>by omega⟩
    rw [aC a1]
    by_cases a2:x.2<0
    · rw [aF a2];exact ⟨fun _=>rfl,fun h=>by omega⟩
    rw [aC a2]
    by_cases a3:65535<x.1
    · rw [aF a3];exact ⟨fun _=>rfl,fun h=>by omega⟩
    rw [aC a3]
    by_cases a4:65535<x.2
    · rw [aF a4];exact ⟨fun _=>rfl,fun h=>by omega⟩
    rw [aC a4]
    by_cases a5:x.1=x.2
    · rw [eu a5];exact ⟨fun _=>rfl,fun h=>absurd a5 h.2.2.2.2⟩
    rw [dR a5];exact ⟨fun h=>absurd ⟨by omega,by omega,by omega,by omega,a5⟩ h,fun _=>rfl⟩
  unfold ek rP
  simp only [aA,el,ol];exact h2
 have k2: ∀e1:aP×Int,ax eW (rP c f es 0)=aeD (.done (.done e1))->ax ej (rP c f es 0)=aeD (.done (if∀i,i<aeC es->es[i]!∉es.take i then e1 else (eO,14))):=by
  intro e0 h2
  have:=mT (body:=ej) (fun i=>rP c f es i) (aeC es) (fun i=>es[i]!∉es.take i) (r:= .done (eO,14)) (e:= .done e0) (fun i hi=>by
   have e1:aeH ((i:Int)<((aeC es):Int))=aeE:=aF (by omega)
   unfold ej rP;simp only [e1,lw,au es i hi,jO es i (by omega),ar,mw _ _ (show (es.take i).length<=1000000 by rw [Do];omega),aT (show i<1000000000 by omega)]
   by_cases h:es[i]!∈es.take i
   · rw [aF h];exact ⟨fun _=>rfl,fun k=>absurd h k⟩
   · rw [aC h];exact ⟨fun k=>absurd h k,fun _=>rfl⟩) (by
   unfold ej rP;simp only [aA,el,ol];exact h2)
  refine this.trans ?_
  by_cases hb: ∀i,i<aeC es->es[i]!∉es.take i
  · rw [pp hb,pp hb]
  rw [rc hb,rc hb]
 have VW: ∀i,i<aeC es->(¬jj f es[i]!->eW (rP c f es i)=aeD (.done (.done (.done (eO,6)))))/\(jj f es[i]!->eW (rP c f es i)=aeD (.next (rP c f es (i+1)))):=by
  intro i hi;have e1:aeH ((i:Int)<((aeC es):Int))=aeE:=aF (by omega)
  obtain ⟨p,e,a1,a2⟩:=zG dE (es[i]!).1;obtain ⟨q,g,b1,b2⟩:=zG dE (es[i]!).2;unfold eW rP jj;simp only [e1,lw,au es i hi,ar,a1,b1,aT (show i<1000000000 by omega)]
  by_cases h1:fU f (es[i]!).1
  · rw [bo (a2.2 h1)]
    by_cases h2:fU f (es[i]!).2
    · rw [bo (b2.2 h2)]
      exact ⟨fun h=>absurd ⟨h1,h2⟩ h,fun _=>rfl⟩
    rw [cC (fun h=>h2 (b2.1 h))]
    exact ⟨fun _=>rfl,fun h=>absurd h.2 h2⟩
  rw [cC (fun h=>h1 (a2.1 h))]
  exact ⟨fun _=>rfl,fun h=>absurd h.1 h1⟩
 have start:ny c ⟨f⟩ es=ax ek (rP c f es 0):=by
  unfold ny;simp only [hc,ar,show ((0:Int) !=0)=aeF from rfl,ol,hf];rfl
 rw [start]
 by_cases h1: ∀x∈es,fq x
 case neg=>
  have er:lY f es=8:=by unfold lY;rw [pp h1]
  rw [er,rc (by omega)]
  have:=dh (body:=ek) (fun i=>rP c f es i) (aeC es) (fun i=> ¬fq es[i]!) (r:=(eO,8)) (e:=r)
  have k3':=k3;rw [yg (P:=fq)] at h1;obtain ⟨i,h⟩:=If.1 h1;obtain ⟨hi,hx⟩:=PP.1 h;obtain ⟨m,m1,m2,m3⟩:=least (c:=fun i=> ¬fq es[i]!) ⟨i,hi,hx⟩
  have go: ∀j,j<aeC es->(¬fq es[j]!->ek (rP c f es j)=aeD (.done (eO,8)))/\(fq es[j]!->ek (rP c f es j)=aeD (.next (rP c f es (j+1)))):=by
   intro j hj;have e1:aeH ((j:Int)<((aeC es):Int))=aeE:=aF (by omega)
   unfold ek rP fq;simp only [e1,lw,au es j hj,ar,aT (show j<1000000000 by omega)]
   generalize es[j]! =x
   by_cases a1:x.1<0
   · rw [aF a1];exact ⟨fun _=>rfl,fun h=>by omega⟩
   rw [aC a1]
   by_cases a2:x.2<0
   · rw [aF a2];exact ⟨fun _=>rfl,fun h=>by omega⟩
   rw [aC a2]
   by_cases a3:65535<x.1
   · rw [aF a3];exact ⟨fun _=>rfl,fun h=>by omega⟩
   rw [aC a3]
   by_cases a4:65535<x.2
   · rw [aF a4];exact ⟨fun _=>rfl,fun h=>by omega⟩
   rw [aC a4]
   by_cases a5:x.1=x.2
   · rw [eu a5];exact ⟨fun _=>rfl,fun h=>absurd a5 h.2.2.2.2⟩
   rw [dR a5];exact ⟨fun h=>absurd ⟨by omega,by omega,by omega,by omega,a5⟩ h,fun _=>rfl⟩
  rw [cz (body:=ek) (fun i=>rP c f es i) m fun j hj=>(go j (by omega)).2 (ut.1 (m3 j hj))]
  exact aJ ((go m m1).1 m2)
 have Nc:=(yg (P:=fq)).1 h1
 by_cases h2:es.Nodup
 case neg=>
  have er:lY f es=14:=by unfold lY;rw [rc (ut.2 h1),pp h2]
  rw [er,rc (by omega)]
  have RE:=h2;rw [Gh] at RE;obtain ⟨i,h⟩:=If.1 RE;obtain ⟨hi,hx⟩:=PP.1 h;obtain ⟨m,m1,m2,m3⟩:=least (c:=fun i=> ¬es[i]!∉es.take i) ⟨i,hi,hx⟩
  have go: ∀j,j<aeC es->(es[j]!∈es.take j->ej (rP c f es j)=aeD (.done (.done (eO,14))))/\(es[j]!∉es.take j->ej (rP c f es j)=aeD (.next (rP c f es (j+1)))):=by
   intro j hj;have e1:aeH ((j:Int)<((aeC es):Int))=aeE:=aF (by omega)
   unfold ej rP;simp only [e1,lw,au es j hj,jO es j (by omega),ar,mw _ _ (show (es.take j).length<=1000000 by rw [Do];omega),aT (show j<1000000000 by omega)]
   by_cases h:es[j]!∈es.take j
   · rw [aF h];exact ⟨fun _=>rfl,fun k=>absurd h k⟩
   rw [aC h];exact ⟨fun k=>absurd k h,fun _=>rfl⟩
  have l2:ax ej (rP c f es 0)=aeD (.done (eO,14)):=by
   rw [cz (body:=ej) (fun i=>rP c f es i) m fun j hj=>(go j (by omega)).2 (ut.1 (m3 j hj))]
   exact aJ ((go m m1).1 (ut.1 m2))
  rw [k3 _ l2,pp Nc]
 have RE:=Gh.1 h2
 by_cases h3: ∀x∈es,jj f x
 case neg=>
  have er:lY f es=6:=by unfold lY;rw [rc (ut.2 h1),rc (ut.2 h2),pp h3]
  rw [er,rc (by omega)]
  have h3':=h3;rw [yg (P:=jj f)] at h3';obtain ⟨i,h⟩:=If.1 h3';obtain ⟨hi,hx⟩:=PP.1 h;obtain ⟨m,m1,m2,m3⟩:=least (c:=fun i=> ¬jj f es[i]!) ⟨i,hi,hx⟩
  have l1:ax eW (rP c f es 0)=aeD (.done (.done (eO,6))):=by
   rw [cz (body:=eW) (fun i=>rP c f es i) m fun j hj=>(VW j (by omega)).2 (ut.1 (m3 j hj))]
   exact aJ ((VW m m1).1 m2)
  rw [k3 _ (k2 _ l1),pp Nc,pp RE]
 have h3':=(yg (P:=jj f)).1 h3;have er:lY f es=0:=by unfold lY;rw [rc (ut.2 h1),rc (ut.2 h2),rc (ut.2 h3)]
 rw [er,pp rfl];have l1:ax eW (rP c f es 0)=aeD (.done (.done r)):=by
  rw [cz (body:=eW) (fun i=>rP c f es i) (aeC es) fun j hj=>(VW j hj).2 (h3' j hj)]
  refine aJ ?_;unfold eW rP;simp only [el,ol,tw,ar,hr er]
 rw [k3 _ (k2 _ l1),pp Nc,pp RE]
theorem Sx {l:List Int} {x:Int} (hl:(aeC l)<=1000000) (hx:x∈l): ∃k,k<aeC l/\l[k]! =x/\eD l x=aeD (k:Int)/\Md l x=aeD (k:Int):=by
 obtain ⟨k,k1,k2,k3⟩:=least (c:=fun k=>l[k]! =x) (aS.1 hx)
 have p:=hO (body:=oy) (fun i=>(l,x,(i:Int))) (aeC l) (fun i=>l[i]! =x) (fun i=>(i:Int)) (e:= -1) (fun i hi=>by
  unfold oy;simp only [aA,aF (show (i:Int)<((aeC l):Int) by omega),lw,au l i hi,ar,aT (show i<1000000000 by omega)]
  refine ⟨fun h=>?_,fun h=>?_⟩
  · rw [eu h];rfl
  · rw [dR h];rfl) (by
  unfold oy;simp only [aA,aC (show¬((aeC l):Int)<((aeC l):Int) by omega),ol])
 exact ⟨k,k1,k2,(Gi l x hl).1 k k1 k2 k3,p.1 k k1 k2 k3⟩
theorem tk {l:List Int} {m:Nat} {x:Int} (h:(aeC l)=m):(l++[x]).take m=l:=by rw [<- h,List.take_left]
section
variable {k : zx} {f : List Pt} {m n0 : Nat} {x : Int}
end
section
variable {k : zx} {P : Pt} {f : List Pt} {m : Nat}
end
end Go.Proofs.YtbgoiokedpjgbaaGreat
namespace Go.Proofs.YtbgoiokedpjgbaaGreat
abbrev Nd:=Int×Int×Int
structure MS (P:Nat->Nat->Prop) (a b i:Nat):Prop where
 lo:a<=i
 hi:i<b
 top: ∀j,a<=j->j<b->j≠i->P i j
inductive oC (P:Nat->Nat->Prop) (N:List Nd):Nat->Nat->Int->Prop
 |nil {a b:Nat} (h:b<=a):oC P N a b (-1)
 |node {a b i:Nat} (h:MS P a b i) (l:oC P N a i (N[i]!).2.1) (r:oC P N (i+1) b (N[i]!).2.2):oC P N a b (i:Int)
structure aeb (P:Nat->Nat->Prop) (n:Nat):Prop where
 tr: ∀i j k,i<n->j<n->k<n->P i j->P j k->P i k
 asy: ∀i j,i<n->j<n->P i j-> ¬P j i
 tot: ∀i j,i<n->j<n->i≠j-> ¬P i j->P j i
theorem MS.one {P:Nat->Nat->Prop} {n a b i j:Nat} (o:aeb P n) (hb:b<=n) (h:MS P a b i) (k:MS P a b j):i=j:=by
 refine Classical.byContradiction fun dS=>?_
 have:=h.hi;have:=k.hi
 exact o.asy i j (by omega) (by omega) (h.top j k.lo k.hi (fun e=>dS e.symm)) (k.top i h.lo h.hi dS)
theorem oC.link {P:Nat->Nat->Prop} {N:List Nd} {a b:Nat} {r:Int} (h:oC P N a b r):(b<=a/\r= -1)\/(∃i:Nat,r=(i:Int)/\a<=i/\i<b):=by
 cases h with
 |nil h=>exact .inl ⟨h,rfl⟩
 |node h l r=>exact .inr ⟨_,rfl,h.lo,h.hi⟩
theorem oC.unique {P:Nat->Nat->Prop} {n:Nat} (o:aeb P n) {N N':List Nd} {a b:Nat} {r:Int} (h:oC P N a b r): ∀{r':Int},b<=n->oC P N' a b r'->r=r'/\ ∀k,a<=k->k<b->(N[k]!).2=(N'[k]!).2:=by
 induction h with
 |nil h=>
  intro r' hb h';cases h' with
  |nil _=>exact ⟨rfl,fun k h1 h2=>by omega⟩
  |node t _ _=>have:=t.lo;have:=t.hi;omega
 | @node a b i h l r ihl ihr=>
  intro r' hb h';have lo:=h.lo;have hi:=h.hi;cases h' with
  |nil q=>omega
  | @node _ _ j t l' r'=>
   have e:=h.one o hb t;subst e;obtain ⟨e1,f1⟩:=ihl (by omega) l'
   obtain ⟨e2,f2⟩:=ihr hb r';refine ⟨rfl,fun k h1 h2=>?_⟩
   rcases ww k i with q|q|q
   · exact f1 k h1 q
   · subst q;exact Prod.ext e1 e2
   exact f2 k (by omega) h2
theorem oC.other {P Q:Nat->Nat->Prop} {n:Nat} (o:aeb Q n) {N:List Nd} {a b:Nat} {r:Int} (h:oC P N a b r):b<=n->(∀k j:Nat,a<=k->k<b->a<=j->j<b->((N[k]!).2.1=(j:Int)\/(N[k]!).2.2=(j:Int))->Q k j)->oC Q N a b r:=by
 induction h with
 |nil h=>exact fun _ _=> .nil h
 | @node a b i h l r ihl ihr=>
  intro hb q;have lo:=h.lo;have hi:=h.hi;have tl:=ihl (by omega) fun k j h1 h2 h3 h4=>q k j h1 (by omega) h3 (by omega)
  have tr:=ihr hb fun k j h1 h2 h3 h4=>q k j (by omega) h2 (by omega) h4
  refine .node ⟨lo,hi,fun j h1 h2 dS=>?_⟩ tl tr
  rcases adc j i with hj|hj
  · generalize hr:(N[i]!).2.1=s at tl
    cases tl with
    |nil q=>omega
    | @node _ _ m t _ _=>
     have t1:=t.lo;have t2:=t.hi;have qm:=q i m lo hi t1 (by omega) (.inl hr)
     by_cases e:j=m
     · rw [e];exact qm
     exact o.tr i m j (by omega) (by omega) (by omega) qm (t.top j h1 hj e)
  generalize hr:(N[i]!).2.2=s at tr
  cases tr with
  |nil q=>omega
  | @node _ _ m t _ _=>
   have t1:=t.lo;have t2:=t.hi;have qm:=q i m lo hi (by omega) t2 (.inr hr)
   by_cases e:j=m
   · rw [e];exact qm
   exact o.tr i m j (by omega) (by omega) (by omega) qm (t.top j (by omega) h2 e)
theorem oC.kids {P:Nat->Nat->Prop} {N:List Nd} {a b:Nat} {r:Int} (h:oC P N a b r): ∀k,a<=k->k<b-> ∀c:Int,((N[k]!).2.1=c\/(N[k]!).2.2=c)->c= -1\/ ∃j:Nat,c=(j:Int)/\a<=j/\j<b/\j≠k/\P k j/\r≠c:=by
 induction h with
 |nil h=>intro k h1 h2;omega
 | @node a b i h l r ihl ihr=>
  have lo:=h.lo;have hi:=h.hi;intro k h1 h2 c hc;rcases ww k i with q|q|q
  · rcases ihl k h1 q c hc with e|⟨j,e,j1,j2,j3,j4,_⟩
    · exact .inl e
    exact .inr ⟨j,e,j1,by omega,j3,j4,by rw [e];omega⟩
  · subst q
    rcases hc with hc|hc
    · rcases l.link with ⟨_,e⟩|⟨j,e,j1,j2⟩
      · exact .inl (hc▸e)
      exact .inr ⟨j,hc▸e,j1,by omega,by omega,h.top j j1 (by omega) (by omega),by rw [<- hc,e];omega⟩
    rcases r.link with ⟨_,e⟩|⟨j,e,j1,j2⟩
    · exact .inl (hc▸e)
    exact .inr ⟨j,hc▸e,by omega,j2,by omega,h.top j (by omega) j2 (by omega),by rw [<- hc,e];omega⟩
  rcases ihr k (by omega) h2 c hc with e|⟨j,e,j1,j2,j3,j4,_⟩
  · exact .inl e
  exact .inr ⟨j,e,by omega,j2,j3,j4,by rw [e];omega⟩
theorem oC.up {P:Nat->Nat->Prop} {N:List Nd} {a b:Nat} {r:Int} (h:oC P N a b r): ∀k:Nat,a<=k->k<b->(k:Int)≠r-> ∃j,a<=j/\j<b/\((N[j]!).2.1=(k:Int)\/(N[j]!).2.2=(k:Int))/\ ∀m,a<=m->m<b->((N[m]!).2.1=(k:Int)\/(N[m]!).2.2=(k:Int))->m=j:=by
 induction h with
 |nil h=>intro k h1 h2;omega
 | @node a b i h l r ihl ihr=>
  have lo:=h.lo;have hi:=h.hi;have lk:=l.kids;have rk:=r.kids;intro k h1 h2 dS;have hki:k≠i:=fun e=>dS (by rw [e])
  rcases adc k i with q|q
  · by_cases er:(k:Int)=(N[i]!).2.1
    · refine ⟨i,lo,hi,.inl er.symm,fun m m1 m2 hm=>?_⟩
      rcases ww m i with w|w|w
      · rcases lk m m1 w _ hm with e|⟨j,e,_,_,_,_,hr⟩
        · omega
        exact absurd er.symm hr
      · exact w
      rcases rk m (by omega) m2 _ hm with e|⟨j,e,j1,_⟩<;>omega
    obtain ⟨j,j1,j2,j3,j4⟩:=ihl k h1 q er
    refine ⟨j,j1,by omega,j3,fun m m1 m2 hm=>?_⟩
    rcases ww m i with w|w|w
    · exact j4 m m1 w hm
    · subst w
      rcases hm with hm|hm
      · exact absurd hm.symm er
      rcases r.link with ⟨_,e⟩|⟨p,e,p1,p2⟩<;>omega
    rcases rk m (by omega) m2 _ hm with e|⟨p,e,p1,_⟩<;>omega
  by_cases er:(k:Int)=(N[i]!).2.2
  · refine ⟨i,lo,hi,.inr er.symm,fun m m1 m2 hm=>?_⟩
    rcases ww m i with w|w|w
    · rcases lk m m1 w _ hm with e|⟨j,e,_,j2,_⟩<;>omega
    · exact w
    rcases rk m (by omega) m2 _ hm with e|⟨j,e,_,_,_,_,hr⟩
    · omega
    exact absurd er.symm hr
  obtain ⟨j,j1,j2,j3,j4⟩:=ihr k (by omega) h2 er
  refine ⟨j,by omega,j2,j3,fun m m1 m2 hm=>?_⟩
  rcases ww m i with w|w|w
  · rcases lk m m1 w _ hm with e|⟨p,e,_,p2,_⟩<;>omega
  · subst w
    rcases hm with hm|hm
    · rcases l.link with ⟨_,e⟩|⟨p,e,p1,p2⟩<;>omega
    exact absurd hm.symm er
  exact j4 m (by omega) m2 hm
inductive Gp (P:Nat->Nat->Prop) (N:List Nd):Nat->Nat->Int->List Nat->Prop
 |nil {a b:Nat} (h:b<=a):Gp P N a b (-1) []
 |cons {a b k:Nat} {es:List Nat} (h:MS P a b k) (l:oC P N a k (N[k]!).2.1) (r:Gp P N (k+1) b (N[k]!).2.2 es):Gp P N a b (k:Int) (k::es)
theorem Gp.ls {P:Nat->Nat->Prop} {N:List Nd} {a b:Nat} {r:Int} {es:List Nat} (h:Gp P N a b r es):oC P N a b r:=by
 induction h with
 |nil h=>exact .nil h
 |cons h l r ih=>exact .node h l ih
theorem Gp.mem {P:Nat->Nat->Prop} {N:List Nd} {a b:Nat} {r:Int} {es:List Nat} (h:Gp P N a b r es): ∀e∈es,a<=e/\e<b:=by
 induction h with
 |nil h=>intro e he;cases he
 |cons h l r ih=>
  intro e he;have lo:=h.lo;have hi:=h.hi;rcases aeu.1 he with rfl|he
  · exact ⟨lo,hi⟩
  have:=ih e he;omega
end Go.Proofs.YtbgoiokedpjgbaaGreat
namespace Go.Proofs.YtbgoiokedpjgbaaGreat
open Go.Vm Classical
def ahP (f:List Pt) (t:Int×Int) (i j:Nat):Prop:=leads f[i]! f[j]! t
theorem Ds {p q:Pt} {t:Int×Int} (h:leads p q t): ¬leads q p t:=by
 unfold leads at*;rw [JX] at*;generalize p.2.1*t.2+p.2.2*t.1=a at*;generalize q.2.1*t.2+q.2.2*t.1=b at*;omega
theorem aec {f:List Pt} (h:fM f) (t:Int×Int):aeb (ahP f t) (aeC f) where
 tr:=fun _ _ _ _ _ _ h1 h2=>MO h1 h2
 asy:=fun _ _ _ _ h=>Ds h
 tot:=fun _ _ hi hj dS hn=>yj t (fun e=>dS (Ap h hi hj e)) hn
structure yk (f:List Pt) (t:Int×Int) (N:List Nd) (r:Int):Prop where
 len:(aeC N)=aeC f
 ids: ∀k,k<aeC f->(N[k]!).1=(f[k]!).1
 ls:oC (ahP f t) N 0 (aeC f) r
theorem yk.same {f:List Pt} (h:fM f) {t:Int×Int} {N N':List Nd} {r r':Int} (a:yk f t N r) (b:yk f t N' r'):N=N'/\r=r':=by
 obtain ⟨e1,e2⟩:=a.ls.unique (aec h t) (aet _) b.ls;refine ⟨qu (by rw [a.len,b.len]) fun k hk=>?_,e1⟩
 have hk:k<(aeC f):=by rw [<- a.len];exact hk
 exact Prod.ext (by rw [a.ids k hk,b.ids k hk]) (e2 k (EQ _) hk)
def Below (N:List Nd) (k j:Nat):Prop:=(N[j]!).2.1=(k:Int)\/(N[j]!).2.2=(k:Int)
noncomputable def DJ (N:List Nd) (k:Nat):Nat:=if h: ∃j,j<aeC N/\Below N k j then h.choose else (aeC N)
noncomputable def aqK (N:List Nd) (k:Nat):List (Int×Int):=if DJ N k<(aeC N) then [((N[k]!).1,(N[DJ N k]!).1)] else []
noncomputable def VX (N:List Nd):Nat->List (Int×Int)
 |0=>[]
 |k+1=>VX N k++aqK N k
section
variable {f : List Pt} {t : Int × Int} {N : List Nd} {r : Int}
theorem yk.par (h:yk f t N r) {k:Nat} (hk:k<aeC f):((k:Int)=r->DJ N k=aeC N)/\((k:Int)≠r->DJ N k<aeC N/\Below N k (DJ N k)/\DJ N k≠k/\ahP f t (DJ N k) k)/\ ∀m,m<aeC N->Below N k m->m=DJ N k:=by
 have ln:=h.len
 by_cases hr:(k:Int)=r
 · have none: ¬ ∃j,j<aeC N/\Below N k j:=by
    rintro ⟨j,hj,hb⟩;rcases h.ls.kids j (EQ _) (by omega) (k:Int) hb with e|⟨_,_,_,_,_,_,e⟩
    · omega
    exact e hr.symm
   have e:DJ N k=(aeC N):=by unfold DJ;rw [dif_neg none]
   exact ⟨fun _=>e,fun q=>absurd hr q,fun m hm hb=>absurd ⟨m,hm,hb⟩ none⟩
 obtain ⟨j,_,j2,j3,j4⟩:=h.ls.up k (EQ _) hk hr
 have ex: ∃j,j<aeC N/\Below N k j:=⟨j,by omega,j3⟩
 have e:DJ N k=j:=by
  unfold DJ;rw [dif_pos ex]
  have:=ex.choose_spec
  exact j4 _ (EQ _) (by omega) this.2
 refine ⟨fun q=>absurd q hr,fun _=>?_,fun m hm hb=>by rw [e];exact j4 m (EQ _) (by omega) hb⟩
 rw [e];refine ⟨by omega,j3,?_,?_⟩
 · rcases h.ls.kids j (EQ _) j2 (k:Int) j3 with q|⟨i,q,_,_,q2,_⟩
   · omega
   intro w;omega
 rcases h.ls.kids j (EQ _) j2 (k:Int) j3 with q|⟨i,q,_,_,_,q2,_⟩
 · omega
 have:i=k:=by omega
 rw [<- this];exact q2
end
def o1 (f:List Pt) (t:Int×Int) (e c:Nat) (i:Nat) (lc:Int) (N:List Nd) (E:List Int) (left:Int):=
 (e,c,(i:Int),f,((aeC f):Int),(i:Int),f,t.1,t.2,(0:Int),lc,N,E,(f[i]!).1,(f[i]!).2.1,(f[i]!).2.2,(f[i]!).1,left,(-1:Int))
section
variable {f : List Pt} {t : Int × Int} {N : List Nd} {r : Int}
theorem yk.link (h:yk f t N r) {j:Nat} (hj:j<aeC f) {c:Int} (hc:(N[j]!).2.1=c\/(N[j]!).2.2=c):c= -1\/(0<=c/\c<aeC N):=by
 have ln:=h.len;rcases h.ls.kids j (EQ _) hj c hc with e|⟨k,e,_,k2,_⟩
 · exact .inl e
 exact .inr ⟨by omega,by omega⟩
end
theorem aed (c:aP) (es:List (Int×Int)) (h1:(aeC es)<=1000000) (_:(aeC c.ai.ce)<=1000000):
 xZ c es=aeD (aeH (aeC es=aeC c.ai.ce/\ ∀i,i<aeC c.ai.ce->(c.ai.ce[i]!).2∈es)):=by
 unfold xZ fY gP;simp only [aA]
 by_cases h0:(aeC es)=aeC c.ai.ce
 case neg=>rw [dR (by omega),ol,aC (fun q=>h0 q.1)]
 rw [eu (by omega),lw]
 have key:=hO (body:=bJ) (fun i=>(c.ai.ce,es,((aeC c.ai.ce):Int),(i:Int))) (aeC c.ai.ce) (fun i=>(c.ai.ce[i]!).2∉es) (fun i=>(i:Int)) (e:= -1) (fun i hi=>by
  unfold bJ zz;simp only [aF (show (i:Int)<((aeC c.ai.ce):Int) by omega),lw,au c.ai.ce i hi,ar,mw es _ h1,aT (show i<1000000000 by omega)]
  refine ⟨fun q=>?_,fun q=>?_⟩
  · rw [aC q];rfl
  · rw [aF (ut.1 q)];rfl) (by
  unfold bJ;simp only [aC (show¬((aeC c.ai.ce):Int)<((aeC c.ai.ce):Int) by omega),ol])
 by_cases hx: ∀i,i<aeC c.ai.ce->(c.ai.ce[i]!).2∈es
 · rw [show ax bJ (c.ai.ce,es,((aeC c.ai.ce):Int),0)=_ from key.2 (fun i hi=>ut.2 (hx i hi)),ar,ar,aC (by omega),aF ⟨h0,hx⟩]
   rfl
 obtain ⟨i,hi⟩:=If.1 hx
 obtain ⟨hi,hn⟩:=PP.1 hi;obtain ⟨m,m1,m2,m3⟩:=least (c:=fun i=>(c.ai.ce[i]!).2∉es) ⟨i,hi,hn⟩
 rw [show ax bJ (c.ai.ce,es,((aeC c.ai.ce):Int),0)=_ from key.1 m m1 m2 m3,ar,ar,aF (by omega),aC (fun w=>hx w.2)]
 rfl
structure VY (k:CA):Prop where
 D6:bn k.jp
 ls:yk k.jp.ii.am k.jp.ci k.ls.lm k.ls.lc
 cert:(k.jp.ai.ce.map fun x=>x.2).Perm (VX k.ls.lm (aeC k.jp.ii.am))
structure al9 (k:CA):Prop where
 c:QQ k.jp
 n:(aeC k.ls.lm)<=1000
theorem Gq {α:Type} [BEq α] [LawfulBEq α]: ∀{a b:List α},a.Nodup->(∀x∈a,x∈b)->aeC a<=aeC b
 | [],_,_,_=>EQ _
 |x::a,b,hd,h=>by
  rw [List.nodup_cons] at hd;have hx:=h x List.mem_cons_self
  have:=Gq (a:=a) (b:=b.erase x) hd.2 (fun y hy=>by
   rw [List.mem_erase_of_ne (fun e=>hd.1 (by rw [<- e];exact hy))]
   exact h y (List.mem_cons_of_mem _ hy))
  rw [List.length_erase_of_mem hx] at this
  have:=List.length_pos_of_mem hx
  rw [AC];omega
theorem Dt {α:Type} [BEq α] [LawfulBEq α] {a b:List α} (ha:a.Nodup) (hb:b.Nodup) (h1: ∀x∈a,x∈b) (h2: ∀x∈b,x∈a):a.Perm b:=sF ha h1 (Gq hb h2)
structure O2 (R:CA) (F:List Pt) (t:Int×Int):Prop where
 ok:VY R
 jS:R.jp.ii.am=F
 ci:R.jp.ci=t
theorem O2.short {R:CA} {F:List Pt} {t:Int×Int} (h:O2 R F t):al9 R:=by
 have:=h.ok.D6.jS.1
 refine ⟨h.ok.D6.short,?_⟩
 have:=h.ok.ls.len
 omega
theorem O2.Au {R:CA} {F:List Pt} {t:Int×Int} (h:O2 R F t):qw R.jp:=h.ok.D6.fit
theorem O2.same {R S:CA} {F:List Pt} {t:Int×Int} (h:O2 R F t) (k:O2 S F t):R.ls=S.ls:=by
 have a:=h.ok.ls;rw [h.jS,h.ci] at a;have b:=k.ok.ls;rw [k.jS,k.ci] at b;obtain ⟨e1,e2⟩:=a.same (by rw [<- h.jS];exact h.ok.D6.jS.2.2) b
 obtain ⟨_,⟨r,N⟩⟩:=R;obtain ⟨_,⟨r',N'⟩⟩:=S;simp only at e1 e2;subst e1 e2;rfl
theorem J0 {f:List Pt} {m:Nat} {p q:Pt}:q∈qy f m p↔q=p\/q∈f:=by
 unfold qy;rw [ae3,aeu];constructor
 · rintro (h|h|h)
   · exact .inr (ae5 h)
   · exact .inl h
   exact .inr (aem h)
 rintro (h|h)
 · exact .inr (.inl h)
 rw [<- List.take_append_drop m f] at h
 rcases ae3.1 h with h|h
 · exact .inl h
 exact .inr (.inr h)
theorem CP {f:List Pt} (hs:fM f) {q:Nat} (hq:q<aeC f) {p:Pt}:p∈f.eraseIdx q↔p∈f/\p.1≠(f[q]!).1:=by
 rw [List.mem_eraseIdx_iff_getElem];constructor
 · rintro ⟨i,hi,dS,rfl⟩
   refine ⟨List.getElem_mem _,fun e=>?_⟩
   rw [<- getElem!_pos f i hi] at e;rcases ww i q with c|c|c
   · have:=eH hs c hq;omega
   · exact dS c
   have:=eH hs c hi;omega
 rintro ⟨hp,dS⟩
 obtain ⟨i,hi,rfl⟩:=aS.1 hp;refine ⟨i,hi,fun e=>dS (by rw [e]),?_⟩
 rw [getElem!_pos f i hi]
theorem VZ {f:List Pt} (hs:fM f) {q:Pt} (h:q∈f):gF f q.1=q:=by
 obtain ⟨i,hi,rfl⟩:=aS.1 h;exact BC hs hi rfl
theorem QS {f:List Pt} (hs:fM f) {x:Int} (h:fU f x):gF f x∈f/\(gF f x).1=x:=by
 obtain ⟨i,hi,rfl⟩:=h;rw [VZ hs (aY hi)];exact ⟨aY hi,rfl⟩
abbrev V0 (f:List Pt) (t:Int×Int) (a b:Int):Prop:=leads (gF f a) (gF f b) t
theorem Ih {f:List Pt} (hs:fM f) {t:Int×Int} {l:List Int} (hp: ∀x∈l,fU f x) (nd:l.Nodup):(∀e∈yh l,leads (gF f e.2) (gF f e.1) t)↔Hp (V0 f t) l:=by
 constructor
 · intro h j h1 h2 c
   have hm:(l[j]!,l[par j]!)∈yh l:=by
    refine aS.2 ⟨j-1,by rw [Av];omega,?_⟩
    rw [Dr l (show j-1<aeC l-1 by omega),show j-1+1=j by omega]
   exact Ds c (h _ hm)
 intro h e he
 obtain ⟨i,hi,rfl⟩:=aS.1 he;rw [Av] at hi;rw [Dr l hi]
 have:=h (i+1) (by omega) (by omega)
 have pe:par (i+1)=i / 2:=by simp only [par];omega
 rw [pe] at this;refine yj t ?_ this;rw [(QS hs (hp _ (aY (by omega)))).2,(QS hs (hp _ (aY (by omega)))).2]
 exact fun e=>gI.1 nd (i / 2) (i+1) (by omega) (by omega) e.symm
structure auG (R:zx) (F:List Pt) (t:Int×Int):Prop where
 ok:sG R
 jS:R.jp.ii.am=F
 ci:R.jp.ci=t
theorem sG.len {k:zx} (h:sG k):(aeC k.bv)=(aeC k.jp.ii.am):=by rw [<- h.perm.length_eq];exact List.length_map ..
theorem sG.bd {k:zx} (h:sG k):(aeC k.bv)<=64:=by have:=h.len;have:=h.D6.jS.1;omega
theorem sG.has {k:zx} (h:sG k): ∀x∈k.bv,fU k.jp.ii.am x:=fun _ hx=>pR.1 (h.perm.mem_iff.2 hx)
theorem sG.nd {k:zx} (h:sG k):k.bv.Nodup:=h.perm.nodup_iff.1 (CO h.D6.jS.2.2)
theorem sG.hp {k:zx} (h:sG k):Hp (V0 k.jp.ii.am k.jp.ci) k.bv:=(Ih h.D6.jS.2.2 h.has h.nd).1 h.lead
theorem Gg.bv {c:aP} {f:List Pt} (dE:bC f) {l:List Int} (pm:(kG f).Perm l) {R:zx} (e:R.bv=l) (q:Gg c f (yh l) R.jp) (h:Hp (V0 f c.ci) l):auG R f c.ci:=by
 have nd:=pm.nodup_iff.1 (CO dE.2.2);refine ⟨⟨q.ok,by rw [q.jS,e];exact pm,?_,?_⟩,q.jS,q.ci⟩
 · rw [e]
   exact Dt (yi q.ok.uu) (MM nd) (fun x hx=>by obtain ⟨y,hy,rfl⟩:=List.mem_map.1 hx;exact q.sub y hy) (fun x hx=>u9.1 (q.has x hx))
 rw [e,q.jS,q.ci]
 exact (Ih dE.2.2 (fun x hx=>pR.1 (pm.mem_iff.2 hx)) nd).2 h
theorem Gr {α:Type} (z:α): ∀(l:List (Int×α)) (k:Int) (a:α) (j:Int),p8 z (oL l k a) j=if j=k then a else p8 z l j
 | [],k,a,j=>by
  simp only [oL,p8]
  by_cases h:j=k
  · rw [pp h,eu h];rfl
  rw [rc h,dR h];rfl
 |p::l,k,a,j=>by
  simp only [oL]
  by_cases h:k=p.1
  · rw [eu h,lw]
    simp only [p8]
    by_cases c:j=k
    · rw [pp c,eu c];rfl
    rw [rc c,dR c,ol,dR (by rw [<- h];exact c),ol]
  rw [dR h,ol]
  simp only [p8];rw [Gr z l k a j]
  by_cases c:j=p.1
  · rw [eu c,lw,lw,rc (by rw [c];exact fun e=>h e.symm)]
  rw [dR c,ol,ol]
section
variable {f : List Pt} {t : Int × Int}
end
def DK (f:List Pt) (x:Int):Prop:=x= -1\/(0<=x/\fU f x)
theorem DK.has {f:List Pt} {x:Int} (h:DK f x) (h0:0<=x):fU f x:=by rcases h with h|h;omega;exact h.2
theorem nD {p w:List Int} {i:Nat} (hi:i<aeC w+aeC p) (hb:(aeC w)+aeC p<=1000):iw ⟨p,w⟩ (i:Int)=aeD (bz p w i):=by
 unfold iw bz;simp only [aA]
 by_cases h:i<aeC w
 · rw [aF (by omega),lw,au w i h,ar,pp h]
 rw [aC (by omega),ol,iC ⟨by omega,by omega⟩,show (i:Int) - ((aeC w):Int)=((i-(aeC w):Nat):Int) by omega,au p _ (by omega),ar,rc h]
theorem mI {p w:List Int} {i:Nat} (hi:i<aeC w+aeC p) (hb:(aeC w)+aeC p<=1000):gW ⟨p,w⟩ (i:Int)=aeD (bz p w i):=by
 unfold gW bz;have e:ae .i64 ((i:Int) - ((aeC w):Int))=(i:Int) - ((aeC w):Int):=iC ⟨by omega,by omega⟩
 simp only [aA,e]
 by_cases h:i<aeC w
 · rw [aC (by omega),ol,au w i h,ar,pp h]
 rw [aF (by omega),lw,show (i:Int) - ((aeC w):Int)=((i-(aeC w):Nat):Int) by omega,au p _ (by omega),ar,rc h]
theorem mU {i:Nat} (h:i<1000) (k:Nat) (hk:k<=2):ae .i64 ((ae .i64 (2*(i:Int)))+(k:Int))=((2*i+k:Nat):Int):=by
 rw [iC (n:=2*(i:Int)) ⟨by omega,by omega⟩,iC ⟨by omega,by omega⟩];omega
theorem BI {f:List Pt} (dE:bC f) {t:Int×Int} (ya:oM t) {x y:Int} (hx:DK f x) (hy:DK f y):rF ⟨f⟩ t x y=aeD (vd f t x y):=by
 unfold rF vd
 by_cases h1:x<0
 · rw [aF h1,lw,pp h1]
 rw [aC h1,ol,rc h1]
 by_cases h2:y<0
 · rw [aF h2,lw,pp h2]
 rw [aC h2,ol,rc h2];have p1:=hx.has (by omega)
 have p2:=hy.has (by omega)
 obtain ⟨j,j1,j2,j3⟩:=wC dE p1;obtain ⟨k,k1,k2,k3⟩:=wC dE p2;simp only [j2,k2,ar,au f j j1,au f k k1,j3,k3,FM (fa dE p1).1 (fa dE p2).1 ya]
 by_cases h:leads (gF f x) (gF f y) t
 · rw [aF h,lw,pp h]
 rw [aC h,ol,rc h]
theorem Gs:cV=aQ:=rfl
theorem pg {f:List Pt} (dE:bC f) {x:Int} (h:fU f x): ∃k,k<aeC f/\iW ⟨f⟩ x=aeD ((k:Int),aeE)/\f[k]! =gF f x:=by
 have h1:=dE.1;have bs:=pQ f x (by omega) (fun i j=>eH dE.2.2)
 obtain ⟨k,hk,he⟩:=h;refine ⟨k,hk,?_,(BC dE.2.2 hk he).symm⟩;unfold iW;rw [Gs,bs.1 k hk he];rfl
theorem CQ {f:List Pt} (dE:bC f) {x:Int} (h: ¬fU f x): ∃m:Nat,iW ⟨f⟩ x=aeD ((m:Int),aeF):=by
 have h1:=dE.1;have bs:=pQ f x (by omega) (fun i j=>eH dE.2.2)
 obtain ⟨m,_,_,_,e⟩:=bs.2 (fun k hk he=>h ⟨k,hk,he⟩)
 refine ⟨m,?_⟩;unfold iW;rw [Gs,e];rfl
theorem Gt {f:List Pt} (dE:bC f) {t:Int×Int} (r:cE t) (ya:oM t) {x y:Int} (hx:DK f x) (hy:DK f y) (dS:0<=x->x≠y):nq ⟨f⟩ t x y=aeD (vd f t x y):=by
 unfold nq vd
 by_cases h1:x<0
 · rw [aF (by split<;>omega),lw,pp h1]
   have:x= -1:=by rcases hx with h|h;exact h;omega
   have: -1<=y:=by rcases hy with h|h<;>omega
   congr 1
   split<;>omega
 rw [rc h1]
 by_cases h2:y<0
 · rw [aF (by split<;>omega),lw,pp h2]
   congr 1
   split<;>omega
 rw [aC (by split<;>omega),ol,rc h2]
 have p1:=hx.has (by omega)
 have p2:=hy.has (by omega)
 obtain ⟨j,j1,j2,j3⟩:=pg dE p1;obtain ⟨k,k1,k2,k3⟩:=pg dE p2;obtain ⟨a1,a2⟩:=fa dE p1;obtain ⟨b1,b2⟩:=fa dE p2;simp only [j2,k2,ar,au f j j1,au f k k1,j3,k3];rcases DI a1 b1 ya r with h|⟨h,_⟩
 · rw [h,ar]
   by_cases h:leads (gF f x) (gF f y) t
   · rw [pp h];dsimp only;rw [aF h,lw]
   rw [rc h];dsimp only;rw [aC h,ol]
 rw [a2,b2] at h;exact absurd h (dS (by omega))
def oN (B:List Int) (i:Nat):List Int:=List.replicate i 0++B.drop i
theorem ph {B:List Int} {i:Nat} (h:i<=aeC B):(oN B i).length=(aeC B):=by unfold oN;rw [M2,v6,IR];omega
theorem yZ {B:List Int} {i k:Nat} (h:i<=k) (hi:i<=aeC B):(oN B i)[k]! =B[k]!:=by
 unfold oN;rw [dM (by rw [v6];exact h),kN,v6]
 congr 1;omega
theorem wJ {p B:List Int} {i k:Nat} (h:i<=k) (hi:i<=aeC B):bz p (oN B i) k=bz p B k:=by
 unfold bz;rw [ph hi];split
 · exact yZ h hi
 rfl
theorem Ii {B:List Int} {i:Nat} (h:i<aeC B):(oN B (i+1)).set i B[i]! =oN B i:=by
 refine qu (by rw [aex,ph (by omega),ph (by omega)]) fun k hk=>?_
 rw [aex,ph (by omega)] at hk
 rw [aU]
 by_cases e:k=i
 · rw [pp ⟨e,by rw [ph (by omega)];omega⟩,yZ (by omega) (by omega),e]
 rw [rc (fun x=>e x.1)]
 by_cases h2:k<i
 · unfold oN
   rw [cw (by rw [v6];omega),cw (by rw [v6];omega)]
   rw [getElem!_pos _ k (by rw [v6];omega),getElem!_pos _ k (by rw [v6];omega),ae0,ae0]
 rw [yZ (by omega) (by omega),yZ (by omega) (by omega)]
section
variable {f : List Pt} (dE : bC f) {t : Int × Int} (r : cE t) (ya : oM t) {p : List Int} (h1 : 1 <= (aeC p)) (h64 : (aeC p) <= 64) (hk : ∀ x ∈ p, DK f x)
include dE ya h1 h64 hk
theorem D9 {i:Nat} (hi:i<(bZ f t p).length+aeC p):DK f (bz p (bZ f t p) i):=by
 have _:=dE;have _:=ya;have _:=h64;exact hk _ (jQ (eQ (f:=f) (t:=t) h1).1 (eQ h1).ur hi)
theorem O3 {i:Nat} (hi:i<(bZ f t p).length):
 ly ((i:Int),f,t.1,t.2,p,oN (bZ f t p) (i+1))=aeD (.next ((i:Int) -1,f,t.1,t.2,p,oN (bZ f t p) i)):=by
 have R:=eQ (f:=f) (t:=t) (p:=p) h1;have bl:=R.1;have pl:=ph (B:=bZ f t p) (i:=i+1) (by omega)
 unfold ly;simp only [aF (show (0:Int)<=(i:Int) by omega),lw]
 have k1:=mU (i:=i) (by omega) 1 (by omega)
 have k2:=mU (i:=i) (by omega) 2 (by omega)
 rw [show ae .i64 (ae .i64 (2*(i:Int))+1)=((2*i+1:Nat):Int) from k1,show ae .i64 (ae .i64 (2*(i:Int))+2)=((2*i+2:Nat):Int) from k2];rw [nD (by omega) (by omega),ar,nD (by omega) (by omega),ar,wJ (by omega) (by omega),wJ (by omega) (by omega)]
 rw [show rF ⟨f⟩ (t.1,t.2) _ _=_ from BI dE ya (D9 dE ya h1 h64 hk (by omega)) (D9 dE ya h1 h64 hk (by omega)),ar,au _ i (by omega),ar,<- R.2 i hi]
 show aeD (Step.next (_,f,t.1,t.2,p,(oN (bZ f t p) (i+1)).set i _))=_
 rw [Ii hi,iC ⟨by omega,by omega⟩]
theorem Gu:s8 ⟨f⟩ t p=aeD ⟨p,bZ f t p⟩:=by
 have R:=eQ (f:=f) (t:=t) (p:=p) h1;have bl:=R.1;have w1:ae .i64 (((aeC p):Int) -1)=((aeC p-1:Nat):Int):=mF (by omega) h1
 have loop: ∀n:Nat,n<=(bZ f t p).length->ax ly ((n:Int) -1,f,t.1,t.2,p,oN (bZ f t p) n)=aeD ⟨p,bZ f t p⟩:=by
  intro n
  induction n with
  |zero=>
   intro _;refine aJ ?_;unfold ly;rw [aC (by omega),ol]
   rfl
  |succ n ih=>
   intro hn;have st:=O3 dE ya h1 h64 hk (t:=t) (i:=n) (by omega)
   rw [show ((n+1:Nat):Int) -1=(n:Int) by omega,aZ st]
   exact ih (by omega)
 unfold s8;simp only [ba (show (aeC p)<=1048576 by omega),ar,aA,w1,eu rfl,lw,F1 (0:Int) (show (aeC p)-1<=1048576 by omega),v6]
 have:=loop (bZ f t p).length (aet _)
 unfold oN at this;rw [acK,aeA,show (bZ f t p).length=aeC p-1 by omega] at this
 rw [iC (n:=((aeC p-1:Nat):Int) -1) ⟨by omega,by omega⟩]
 exact this
include r
theorem J1 (ho:za p) {i:Nat} (hi:i<(bZ f t p).length):
 ic ((i:Int),f,t.1,t.2,p,oN (bZ f t p) (i+1))=aeD (.next ((i:Int) -1,f,t.1,t.2,p,oN (bZ f t p) i)):=by
 have R:=eQ (f:=f) (t:=t) (p:=p) h1;have bl:=R.1;have pl:=ph (B:=bZ f t p) (i:=i+1) (by omega)
 unfold ic;simp only [aF (show (0:Int)<=(i:Int) by omega),lw]
 have k1:=mU (i:=i) (by omega) 1 (by omega)
 have k2:=mU (i:=i) (by omega) 2 (by omega)
 rw [show ae .i64 (ae .i64 (2*(i:Int))+1)=((2*i+1:Nat):Int) from k1,show ae .i64 (ae .i64 (2*(i:Int))+2)=((2*i+2:Nat):Int) from k2];rw [mI (by omega) (by omega),ar,mI (by omega) (by omega),ar,wJ (by omega) (by omega),wJ (by omega) (by omega)]
 rw [show nq ⟨f⟩ (t.1,t.2) _ _=_ from Gt dE r ya (D9 dE ya h1 h64 hk (by omega)) (D9 dE ya h1 h64 hk (by omega)) (fun h0=>D8 R.1 R.ur ho hi h0),ar,au _ i (by omega),ar,<- R.2 i hi]
 show aeD (Step.next (_,f,t.1,t.2,p,(oN (bZ f t p) (i+1)).set i _))=_
 rw [Ii hi,iC ⟨by omega,by omega⟩]
theorem CR:pJ ⟨f⟩ p=aeD aeE:=by
 have _:=r;have _:=ya;have st:=cz (body:=lU) (fun i=>(p,((aeC p):Int),(i:Int),f)) (aeC p) (fun i hi=>by
  have id:=hk _ (aY hi);unfold lU;simp only [aF (show (i:Int)<((aeC p):Int) by omega),lw,au p i hi,ar,aT (show i<1000000000 by omega)]
  by_cases h:fU f p[i]!
  · obtain ⟨k,_,e,_⟩:=pg dE h
    rw [e,ar,lw]
  obtain ⟨m,e⟩:=CQ dE h
  rw [e,ar,ol];rcases id with id|id
  · rw [eu id];rfl
  exact absurd id.2 h)
 unfold pJ;refine (show _=_ from st).trans (aJ ?_);unfold lU;simp only [aC (show¬((aeC p):Int)<((aeC p):Int) by omega),ol]
 rfl
def Gv (p:List Int):Nat->List (Int×Bool)
 |0=>oL [] (-1) aeF
 |i+1=>oL (Gv p i) p[i]! (aeH (0<=p[i]!))
omit dE r ya h1 h64 hk in
theorem Gw (p:List Int): ∀(i:Nat) (k:Int),p8 aeF (Gv p i) k=aeH (0<=k/\ ∃j,j<i/\p[j]! =k)
 |0,k=>by
  unfold Gv;rw [Gr];rw [decide_eq_false (fun h=>by obtain ⟨_,j,hj,_⟩:=h;omega)]
  split<;>rfl
 |i+1,k=>by
  unfold Gv;rw [Gr,Gw p i k]
  by_cases e:k=p[i]!
  · rw [pp e]
    refine decide_eq_decide.2 ⟨fun h=>⟨by omega,i,by omega,e.symm⟩,fun h=>by omega⟩
  rw [rc e]
  refine decide_eq_decide.2 ⟨fun ⟨h,j,hj,hx⟩=>⟨h,j,by omega,hx⟩,fun ⟨h,j,hj,hx⟩=>⟨h,j,?_,hx⟩⟩
  rcases adc j i with h2|h2
  · exact h2
  obtain rfl:j=i:=by omega
  exact absurd hx.symm e
omit dE r ya h1 h64 hk in
theorem Sy {p:List Int} (ho:za p) {i:Nat} (hi:i<aeC p):p8 aeF (Gv p i) p[i]! =aeF:=by
 rw [Gw];refine decide_eq_false fun ⟨h0,j,hj,e⟩=>?_
 have:=ho j i hj hi e
 omega
theorem ve (ho:za p):mq ⟨f⟩ t p=aeD (⟨p,bZ f t p⟩,0):=by
 have R:=eQ (f:=f) (t:=t) (p:=p) h1;have bl:=R.1;have w1:ae .i64 (((aeC p):Int) -1)=((aeC p-1:Nat):Int):=mF (by omega) h1
 have loop: ∀n:Nat,n<=(bZ f t p).length->ax ic ((n:Int) -1,f,t.1,t.2,p,oN (bZ f t p) n)=aeD (.done (⟨p,bZ f t p⟩,0)):=by
  intro n
  induction n with
  |zero=>
   intro _;refine aJ ?_;unfold ic;rw [aC (by omega),ol]
   rfl
  |succ n ih=>
   intro hn;have st:=J1 dE r ya h1 h64 hk (t:=t) ho (i:=n) (by omega)
   rw [show ((n+1:Nat):Int) -1=(n:Int) by omega,aZ st]
   exact ih (by omega)
 have fc:dQ ⟨f⟩=aeD 0:=by rw [gm];exact congrArg aeD (fo.2 dE)
 unfold mq tU;simp only [fc,ar,bo (rfl:(0:Int)=0),ol,fI ya,pp r,aA,aC (show¬((aeC p):Int)<1 by omega),aC (show¬(64:Int)<((aeC p):Int) by omega),CR dE r ya h1 h64 hk,UV]
 have st:=cz (body:=lV 0 p) (fun i=>(p,((aeC p):Int),(i:Int),f,t.1,t.2,Gv p i)) (aeC p) (fun i hi=>by
  unfold lV;simp only [aF (show (i:Int)<((aeC p):Int) by omega),lw,au p i hi,ar,Sy ho hi,NE,UV,ol,aT (show i<1000000000 by omega)]
  rfl)
 refine (show _=_ from st).trans (aJ ?_);unfold lV;simp only [aC (show¬((aeC p):Int)<((aeC p):Int) by omega),ol,bo (rfl:(0:Int)=0),ba (show (aeC p)<=1048576 by omega),ar,aA,w1,eu rfl,lw,F1 (0:Int) (show (aeC p)-1<=1048576 by omega),v6]
 have:=loop (bZ f t p).length (aet _)
 unfold oN at this;rw [acK,aeA,show (bZ f t p).length=aeC p-1 by omega] at this
 rw [iC (n:=((aeC p-1:Nat):Int) -1) ⟨by omega,by omega⟩]
 exact this
end
end Go.Proofs.YtbgoiokedpjgbaaGreat
