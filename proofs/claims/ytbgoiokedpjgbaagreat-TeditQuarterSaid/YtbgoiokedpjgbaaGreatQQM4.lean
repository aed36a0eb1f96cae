/- Plain laws (4). -/
import Derived.Test.YtbgoiokedpjgbaaGreatQQM3
import Derived.Test.YtbgoiokedpjgbaaGreatQQS2
open Classical renaming not_not->ut,not_forall->If,not_imp->PP
open List renaming length_replicate->v6,length_cons->AC,length_take->Do,length_nil->F0s,length_drop->IR,length_append->M2,length_eraseIdx_le->WF,drop_length->acl,getElem_replicate->adm,mem_append->ae1,mem_of_mem_take->ae2,mem_of_mem_drop->ae3,mem_cons->ae5,append_assoc->ae8,take_length->ae9,length_set->af3,append_nil->af4,length->afa
open Nat renaming lt_trichotomy->ww,zero_le->EQ,lt_or_ge->adc,le_refl->ae4,le_trans->af5
open Bool renaming not_false->NE,not_true->UV,true->afc,false->afe
open Option renaming some->afb
open Decidable renaming decide->afg
namespace Go.Proofs.YtbgoiokedpjgbaaGreat
open Go.Vm Classical
theorem KF (p q:Pt) (t:Int×Int):IH p q t=(p.2.1*t.2+p.2.2*t.1) - (q.2.1*t.2+q.2.2*t.1):=by
 rw [aeG,Int.sub_mul,Int.sub_mul];omega
theorem Ns {p q r:Pt} {t:Int×Int} (h1:leads p q t) (h2:leads q r t):leads p r t:=by
 unfold leads at*;rw [KF] at*;generalize p.2.1*t.2+p.2.2*t.1=a at*;generalize q.2.1*t.2+q.2.2*t.1=b at*;generalize r.2.1*t.2+r.2.2*t.1=c at*;omega
theorem yR {p q:Pt} (t:Int×Int) (h:p.1≠q.1) (hn: ¬leads p q t):leads q p t:=by
 unfold leads at*;rw [KF] at*;generalize p.2.1*t.2+p.2.2*t.1=a at*;generalize q.2.1*t.2+q.2.2*t.1=b at*;omega
structure SO (P:Int->Int->Prop) (S:Int->Prop):Prop where
 irr: ∀a,S a-> ¬P a a
 tr: ∀a b c,S a->S b->S c->P a b->P b c->P a c
 tot: ∀a b,S a->S b->a≠b->P a b\/P b a
abbrev par (j:Nat):Nat:=(j-1) / 2
def Hp (P:Int->Int->Prop) (l:List Int):Prop:= ∀j,0<j->j<afa l-> ¬P l[j]! l[par j]!
section
variable {P : Int -> Int -> Prop} {S : Int -> Prop}
theorem SO.up (o:SO P S) {a b c:Int} (ha:S a) (hb:S b) (hc:S c) (h1:P b c) (h2: ¬P a c): ¬P a b:=fun h=>h2 (o.tr a b c ha hb hc h h1)
end
section
variable {P : Int -> Int -> Prop} {S : Int -> Prop} {bit : Int -> Nat -> Nat}
end
theorem Ww {f:List Pt} (bT:bm f) (k:Nat):bm (f.eraseIdx k):=by
 refine ⟨af5 (WF f k) bT.1,fun p hp=>bT.2.1 p (List.mem_of_mem_eraseIdx hp),?_⟩
 have h:=bT.2.2;intro i hi;have hl:=WF f k
 by_cases hk:k<afa f
 · have:=zH hk
   rw [xn,xn];split<;>split<;>exact ej h (by omega) (by omega)
 rw [List.eraseIdx_of_length_le (by omega)] at hi ⊢
 exact h i hi
theorem Nt {f:List Pt} (bT:bm f) {k:Nat} (hk:k<afa f):j9 ⟨f⟩ (f[k]!).1=afb ((k:Int),0):=by
 have h1:=bT.1;have hc:db ⟨f⟩=afb 0:=by rw [eE];exact congrArg afb (dp.2 bT)
 have bs:=qe f (f[k]!).1 (by omega) (fun i j=>ej bT.2.2)
 unfold j9 jh;rw [Cg];simp only [hc,aj,show ((0:Int) !=0)=afe from rfl,ol,bs.1 k hk rfl,UV]
theorem HM {f:List Pt} (bT:bm f) {id:Int} (h: ¬ft f id):j9 ⟨f⟩ id=afb (0,6):=by
 have h1:=bT.1;have hc:db ⟨f⟩=afb 0:=by rw [eE];exact congrArg afb (dp.2 bT)
 have bs:=qe f id (by omega) (fun i j=>ej bT.2.2)
 obtain ⟨m,_,_,_,e⟩:=bs.2 (fun k hk he=>h ⟨k,hk,he⟩)
 unfold j9 jh;rw [Cg];simp only [hc,aj,show ((0:Int) !=0)=afe from rfl,ol,e,NE,lw]
theorem KG:ji=eh:=rfl
theorem PC {f:List Pt} (bT:bm f) {k:Nat} (hk:k<afa f):jj ⟨f⟩ (f[k]!).1=afb (⟨f.eraseIdx k⟩,0)/\xe ⟨f⟩ (f[k]!).1=afb (⟨f.eraseIdx k⟩,0):=by
 have f1:=bT.1;constructor
 · obtain ⟨L,d1,d2⟩:=uF f k hk
   unfold jj;rw [Nt bT hk,aj,bu rfl,ol,ba (show (afa f)<=1048576 by omega),aj,aT (show k<1000000000 by omega),KG,d1,aj]
   show afb (Field.mk (L.take (afa f-1)),(0:Int))=_;rw [d2]
 have hc:gm ⟨f⟩=afb 0:=by rw [gp];exact congrArg afb (dp.2 bT)
 unfold xe;rw [hc,aj,bu rfl,ol,Dk bT.2.2 (by omega) hk rfl,aj,aC (by omega),ol]
 unfold Ah;generalize hn:(f[k]!).1=n;have key:=bS (body:=ic) (fun i=>(n,(i:Int),f,(f.take i).filter (fun x=>x.1 !=n))) (afa f) (fun i hi=>by
  have nx:(f.take (i+1)).filter (fun x=>x.1 !=n)=(f.take i).filter (fun x=>x.1 !=n)++(if (f[i]!).1 !=n then [f[i]!] else []):=by
   rw [dC hi,List.filter_append,List.filter_cons,List.filter_nil]
  have fl:((f.take i).filter (fun x=>x.1 !=n)).length<=200:=af5 (List.length_filter_le _ _) (by rw [Do];omega)
  unfold ic;simp only [az,aE (show (i:Int)<((afa f):Int) by omega),lw,ar f i hi,aj,aT (show i<1000000000 by omega),nx]
  by_cases h:(f[i]!).1=n
  · rw [bu h];simp
  rw [cz h]
  simp only [lw,if_true,bR (show ((f.take i).filter (fun x=>x.1 !=n)).length+[f[i]!].length<=1048576 by simp only [AC,F0s];omega),aj])
 have fin:ay ic (n,((afa f):Int),f,(f.take (afa f)).filter (fun x=>x.1 !=n))=afb ⟨f.eraseIdx k⟩:=aH (by
  unfold ic;simp only [az,aC (show¬((afa f):Int)<((afa f):Int) by omega),ol,ae9]
  rw [Ch hk (fun i j=>ej bT.2.2) hn])
 rw [show ay ic (n,0,f,[])=_ from key,fin,aj]
theorem KH {f:List Pt} (bT:bm f) {id:Int} (h: ¬ft f id):jj ⟨f⟩ id=afb (⟨[]⟩,6)/\xe ⟨f⟩ id=afb (⟨[]⟩,6):=by
 constructor
 · unfold jj
   rw [HM bT h];rfl
 have hc:gm ⟨f⟩=afb 0:=by rw [gp];exact congrArg afb (dp.2 bT)
 unfold xe;rw [hc,aj,bu rfl,ol,Dt bT h];rfl
def nU (f:List Pt) (m:Nat) (p:Pt):List Pt:=f.take m++p::f.drop m
structure Nu (f:List Pt) (p:Pt) (m:Nat):Prop where
 le:m<=afa f
 lo: ∀i,i<m->(f[i]!).1<p.1
 hi: ∀i,m<=i->i<afa f->p.1<(f[i]!).1
theorem GY {f:List Pt} {m:Nat} (h:m<=afa f) (p:Pt):(nU f m p).length=afa f+1:=by
 unfold nU;rw [M2,AC,Do,IR];omega
theorem IZ {f:List Pt} {m:Nat} (h:m<=afa f) (p:Pt) (i:Nat):(nU f m p)[i]! =if i<m then f[i]! else if i=m then p else f[i-1]!:=by
 have ht:(f.take m).length=m:=by rw [Do];omega
 unfold nU;simp only [List.getElem!_eq_getElem?_getD]
 by_cases h1:i<m
 · rw [pp h1,List.getElem?_append_left (by omega),List.getElem?_take_of_lt h1]
 rw [rc h1,List.getElem?_append_right (by omega),ht]
 by_cases h2:i=m
 · rw [pp h2,h2,Nat.sub_self];rfl
 rw [rc h2,show i-m=(i-1-m)+1 by omega,List.getElem?_cons_succ,List.getElem?_drop,show m+(i-1-m)=i-1 by omega]
theorem aeJ {f:List Pt} (bT:bm f) {p:Pt} (po:fq p) {m:Nat} (h:Nu f p m) (hl:(afa f)<64):bm (nU f m p):=by
 refine ⟨by rw [GY h.le];omega,fun q hq=>?_,fun i hi=>?_⟩
 · rcases ae1.1 hq with hq|hq
   · exact bT.2.1 q (ae2 hq)
   rcases ae5.1 hq with rfl|hq
   · exact po
   exact bT.2.1 q (ae3 hq)
 rw [GY h.le] at hi
 rw [IZ h.le,IZ h.le];rcases ww (i+1) m with c|c|c
 · rw [pp (by omega),pp c];exact ej bT.2.2 (by omega) (by have:=h.le;omega)
 · rw [pp (by omega),rc (by omega),pp c];exact h.lo i (by omega)
 rw [rc (show¬i+1<m by omega),rc (show¬i+1=m by omega),Nat.add_sub_cancel]
 by_cases d:i=m
 · rw [rc (by omega),pp d];exact h.hi i (by omega) (by omega)
 rw [rc (by omega),rc d];exact ej bT.2.2 (by omega) (by omega)
theorem GZ {f:List Pt} (bT:bm f) {p:Pt} (h: ¬ft f p.1): ∃m,Nu f p m/\jh ⟨f⟩ p.1=afb ((m:Int),afe):=by
 have h1:=bT.1;obtain ⟨m,a,b,c,e⟩:=(qe f p.1 (by omega) (fun i j=>ej bT.2.2)).2 (fun k hk he=>h ⟨k,hk,he⟩)
 refine ⟨m,⟨a,b,c⟩,?_⟩;unfold jh;rw [Cg,e];rfl
theorem PD {f:List Pt} (bT:bm f) {id:Int} (h:ft f id): ∃k,k<afa f/\(f[k]!).1=id/\jh ⟨f⟩ id=afb ((k:Int),afc):=by
 have h1:=bT.1;obtain ⟨k,hk,he⟩:=h;refine ⟨k,hk,he,?_⟩;unfold jh;rw [Cg,(qe f id (by omega) (fun i j=>ej bT.2.2)).1 k hk he];rfl
theorem aeK {f:List Pt} (_:bm f) {p:Pt} {m:Nat} (h:Nu f p m) (hl:(afa f)<64):ay fo (afe,0,f,p.1,p.2.1,p.2.2,[])=afb (⟨nU f m p⟩,0):=by
 have ly:=h.le;have tl: ∀i,(f.take i).length<=64:=fun i=>by rw [Do];omega
 have k1:=bS (body:=fo) (fun i=>(afe,(i:Int),f,p.1,p.2.1,p.2.2,f.take i)) m (fun i hi=>by
  unfold fo;simp only [az,aE (show (i:Int)<((afa f):Int) by omega),lw,NE,ar f i (by omega),aj,aC (show¬p.1<(f[i]!).1 from Int.not_lt.2 (Int.le_of_lt (h.lo i hi))),ol,
   bR (show (f.take i).length+[f[i]!].length<=1048576 by have:=tl i;simp only [AC,F0s];omega),aT (show i<1000000000 by omega),dC (show i<(afa f) by omega)])
 refine (show ay fo (afe,0,f,p.1,p.2.1,p.2.2,[])=_ from k1).trans ?_;have pe:((p.1,p.2.1,p.2.2):Pt)=p:=rfl;rcases adc m (afa f) with hm|hm
 · have s1:fo (afe,(m:Int),f,p.1,p.2.1,p.2.2,f.take m)=afb (.next (afc,((m+1:Nat):Int),f,p.1,p.2.1,p.2.2,f.take m++[p]++[f[m]!])):=by
    unfold fo;simp only [az,aE (show (m:Int)<((afa f):Int) by omega),lw,NE,ar f m hm,aj,aE (h.hi m (ae4 _) hm),pe,
     bR (show (f.take m).length+[p].length<=1048576 by have:=tl m;simp only [AC,F0s];omega),
     bR (show (f.take m++[p]).length+[f[m]!].length<=1048576 by have:=tl m;simp only [M2,AC,F0s];omega),aT (show m<1000000000 by omega)]
   rw [aV s1];have k2:=bS (body:=fo) (fun i=>(afc,((m+1+i:Nat):Int),f,p.1,p.2.1,p.2.2,f.take m++[p]++(f.drop m).take (i+1))) (afa f- (m+1)) (fun i hi=>by
    have ed:(f.drop m).take (i+1+1)=(f.drop m).take (i+1)++[f[m+1+i]!]:=by
     rw [dC (show i+1<(f.drop m).length by rw [IR];omega),kZ];congr 3;omega
    unfold fo;simp only [az,aE (show ((m+1+i:Nat):Int)<((afa f):Int) by omega),lw,UV,ol,ar f (m+1+i) (by omega),aj,
     bR (show (f.take m++[p]++(f.drop m).take (i+1)).length+[f[m+1+i]!].length<=1048576 by have:=tl m;simp only [M2,Do,IR,AC,F0s] at this ⊢;omega),aT (show m+1+i<1000000000 by omega),ed]
    rw [ae8 (f.take m++[p]),show m+1+i+1=m+1+(i+1) by omega])
   have e0:(f.drop m).take (0+1)=[f[m]!]:=by
    have:=MS hm
    rw [show f.drop m=f[m]!::f.drop (m+1) by rw [getElem!_pos f m hm,List.getElem_cons_drop]];rfl
   rw [e0] at k2;refine (show ay fo (afc,((m+1:Nat):Int),f,p.1,p.2.1,p.2.2,f.take m++[p]++[f[m]!])=_ from k2).trans (aH ?_);have ef:(f.drop m).take (afa f- (m+1)+1)=f.drop m:=List.take_of_length_le (by rw [IR];omega)
   rw [ef,show m+1+(afa f- (m+1))=(afa f) by omega]
   unfold fo nU;simp only [az,aC (show¬((afa f):Int)<((afa f):Int) by omega),ol,UV,ae8,List.singleton_append]
 obtain rfl:m=(afa f):=by omega
 refine aH ?_;unfold fo nU;simp only [az,aC (show¬((afa f):Int)<((afa f):Int) by omega),ol,NE,lw,pe,ae9,
  bR (show (afa f)+[p].length<=1048576 by simp only [AC,F0s];omega),aj,acl]
theorem G0 {f:List Pt} (bT:bm f) (p:Pt):
 (∃e:Int,e≠0/\gG ⟨f⟩ p=afb (⟨[]⟩,e)/\sx ⟨f⟩ p=afb (⟨[]⟩,e))\/
 (∃m,Nu f p m/\ ¬ft f p.1/\fq p/\afa f<64/\gG ⟨f⟩ p=afb (⟨nU f m p⟩,0)/\sx ⟨f⟩ p=afb (⟨nU f m p⟩,0)):=by
 have f1:=bT.1;have hc:db ⟨f⟩=afb 0:=by rw [eE];exact congrArg afb (dp.2 bT)
 have E5:gm ⟨f⟩=afb 0:=by rw [gp];exact congrArg afb (dp.2 bT)
 by_cases po:fq p
 case neg=>
  refine .inl ⟨8,by decide,?_,?_⟩
  · unfold gG;rw [hc,aj,bu rfl,ol,gL,rc po];rfl
  unfold sx;rw [E5,aj,bu rfl,ol,lX,rc po];rfl
 by_cases hp:ft f p.1
 · obtain ⟨k,hk,he,e⟩:=PD bT hp
   refine .inl ⟨14,by decide,?_,?_⟩
   · unfold gG;rw [hc,aj,bu rfl,ol,gL,pp po,aj,bu rfl,ol,e];rfl
   unfold sx;rw [E5,aj,bu rfl,ol,lX,pp po,aj,bu rfl,ol,Dk bT.2.2 (by omega) hk he,aj,aE (show (0:Int)<=(k:Int) by omega)];rfl
 obtain ⟨m,hm,e⟩:=GZ bT hp
 by_cases full:(afa f)=64
 · refine .inl ⟨18,by decide,?_,?_⟩
   · unfold gG;rw [hc,aj,bu rfl,ol,gL,pp po,aj,bu rfl,ol,e,aj,ol]
     simp only [az,full];rfl
   unfold sx;rw [E5,aj,bu rfl,ol,lX,pp po,aj,bu rfl,ol,Dt bT hp,aj,aC (by decide),ol]
   simp only [az,full];rfl
 have hl:(afa f)<64:=by omega
 have hf:(Int.ofNat (afa f)==64)=afe:=by simp only [az,beq_eq_false_iff_ne];omega
 refine .inr ⟨m,hm,hp,po,hl,?_,?_⟩
 · have hi:tR f (m:Int) [p]=afb (nU f m p):=by
    unfold tR;rw [pp ⟨by omega,by have:=hm.le;simpa using this,rfl,by omega⟩]
    simp [nU]
   unfold gG;rw [hc,aj,bu rfl,ol,gL,pp po,aj,bu rfl,ol,e,aj,ol,hf,ol,ba (show (afa f)<=1048576 by omega),aj,hi,aj]
 unfold sx
 rw [E5,aj,bu rfl,ol,lX,pp po,aj,bu rfl,ol,Dt bT hp,aj,aC (by decide),ol,hf,ol]
 exact aeK bT hm hl
noncomputable def kI (f:List Pt) (es:List (Int×Int)):Int:=if¬(∀x∈es,fC x) then 8 else if¬es.Nodup then 14 else if¬(∀x∈es,iJ f x) then 6 else 0
def rP (c:aM) (f:List Pt) (es:List (Int×Int)) (i:Nat):=
 (es,es,((afa es):Int),(i:Int),c.ci.1,c.ci.2,c.ii.am,c.af.aN,c.af.ce,c.ae.ai.aA,c.ae.ai.be,c.ae.ai.bi,c.ae.bv,c.ae.aq,c.io,f,(0:Int),(0:Int),(0:Int))
theorem yS {c:aM} (ok:aZ c) {f:List Pt} (bT:bm f) {es:List (Int×Int)} (hl:(afa es)<=1000) {r:aM×Int} (hr:kI f es=0->ja c ⟨f⟩ es=afb r):
 lQ c ⟨f⟩ es=afb (if kI f es=0 then r else (dY,kI f es)):=by
 have bd:=ok.bd;have ab:=ok.mb.bd;have sl:=ok.mb.so.fl;have sn:=ok.mb.so.n2;have su:=ok.mb.so.ul;have el:afg (((afa es):Int)<((afa es):Int))=afe:=aC (by omega)
 have hc:fT c=afb 0:=by rw [jT ok.fit,pp ok]
 have hf:db ⟨f⟩=afb 0:=by rw [eE];exact congrArg afb (dp.2 bT)
 have tw:sW (aM.mk (c.ci.1,c.ci.2) (Field.mk c.ii.am) (bF.mk c.af.aN c.af.ce) (aL.mk (bg.mk c.ae.ai.aA c.ae.ai.be c.ae.ai.bi) c.ae.bv c.ae.aq) c.io)=afb c:=by
  unfold sW;simp only [ba (show (afa c.ii.am)<=1048576 by omega),ba (show (afa c.af.ce)<=1048576 by omega),ba (show (afa c.io)<=1048576 by omega),ba (show (afa c.ae.bv)<=1048576 by omega),ba (show (afa c.ae.aq)<=1048576 by omega),
   ba (show (afa c.ae.ai.aA)<=1048576 by omega),ba (show (afa c.ae.ai.be)<=1048576 by omega),ba (show (afa c.ae.ai.bi)<=1048576 by omega),aj]
 have k3: ∀e2:aM×Int,ay eC (rP c f es 0)=afb (.done e2)->ay eD (rP c f es 0)=afb (if∀i,i<afa es->fC es[i]! then e2 else (dY,8)):=by
  intro e2 h2;refine np (body:=eD) (fun i=>rP c f es i) (afa es) (fun i=>fC es[i]!) (r:=(dY,8)) (e:=e2) (fun i hi=>?_) ?_
  · have e1:afg ((i:Int)<((afa es):Int))=afc:=aE (by omega)
    unfold eD rP fC;simp only [e1,lw,ar es i hi,aj,aT (show i<1000000000 by omega)]
    generalize es[i]! =x
    by_cases a1:x.1<0
    · rw [aE a1];exact ⟨fun _=>rfl,fun h=>by omega⟩
    rw [aC a1]
    by_cases a2:x.2<0
    · rw [aE a2];exact ⟨fun _=>rfl,fun h=>by omega⟩
    rw [aC a2]
    by_cases a3:65535<x.1
    · rw [aE a3];exact ⟨fun _=>rfl,fun h=>by omega⟩
    rw [aC a3]
    by_cases a4:65535<x.2
    · rw [aE a4];exact ⟨fun _=>rfl,fun h=>by omega⟩
    rw [aC a4]
    by_cases a5:x.1=x.2
    · rw [eI a5];exact ⟨fun _=>rfl,fun h=>absurd a5 h.2.2.2.2⟩
    rw [dX a5];exact ⟨fun h=>absurd ⟨by omega,by omega,by omega,by omega,a5⟩ h,fun _=>rfl⟩
  unfold eD rP
  simp only [az,el,ol];exact h2
 have k2: ∀e1:aM×Int,ay fb (rP c f es 0)=afb (.done (.done e1))->ay eC (rP c f es 0)=afb (.done (if∀i,i<afa es->es[i]!∉es.take i then e1 else (dY,14))):=by
  intro e0 h2
  have:=np (body:=eC) (fun i=>rP c f es i) (afa es) (fun i=>es[i]!∉es.take i) (r:= .done (dY,14)) (e:= .done e0) (fun i hi=>by
   have e1:afg ((i:Int)<((afa es):Int))=afc:=aE (by omega)
   unfold eC rP;simp only [e1,lw,ar es i hi,jR es i (by omega),aj,jm _ _ (show (es.take i).length<=1000000 by rw [Do];omega),aT (show i<1000000000 by omega)]
   by_cases h:es[i]!∈es.take i
   · rw [aE h];exact ⟨fun _=>rfl,fun k=>absurd h k⟩
   · rw [aC h];exact ⟨fun k=>absurd h k,fun _=>rfl⟩) (by
   unfold eC rP;simp only [az,el,ol];exact h2)
  refine this.trans ?_
  by_cases hb: ∀i,i<afa es->es[i]!∉es.take i
  · rw [pp hb,pp hb]
  rw [rc hb,rc hb]
 have Wx: ∀i,i<afa es->(¬iJ f es[i]!->fb (rP c f es i)=afb (.done (.done (.done (dY,6)))))/\(iJ f es[i]!->fb (rP c f es i)=afb (.next (rP c f es (i+1)))):=by
  intro i hi;have e1:afg ((i:Int)<((afa es):Int))=afc:=aE (by omega)
  obtain ⟨p,e,a1,a2⟩:=Aq bT (es[i]!).1;obtain ⟨q,g,b1,b2⟩:=Aq bT (es[i]!).2;unfold fb rP iJ;simp only [e1,lw,ar es i hi,aj,a1,b1,aT (show i<1000000000 by omega)]
  by_cases h1:ft f (es[i]!).1
  · rw [bu (a2.2 h1)]
    by_cases h2:ft f (es[i]!).2
    · rw [bu (b2.2 h2)]
      exact ⟨fun h=>absurd ⟨h1,h2⟩ h,fun _=>rfl⟩
    rw [cz (fun h=>h2 (b2.1 h))]
    exact ⟨fun _=>rfl,fun h=>absurd h.2 h2⟩
  rw [cz (fun h=>h1 (a2.1 h))]
  exact ⟨fun _=>rfl,fun h=>absurd h.1 h1⟩
 have start:lQ c ⟨f⟩ es=ay eD (rP c f es 0):=by
  unfold lQ;simp only [hc,aj,show ((0:Int) !=0)=afe from rfl,ol,hf];rfl
 rw [start]
 by_cases h1: ∀x∈es,fC x
 case neg=>
  have er:kI f es=8:=by unfold kI;rw [pp h1]
  rw [er,rc (by omega)]
  have:=di (body:=eD) (fun i=>rP c f es i) (afa es) (fun i=> ¬fC es[i]!) (r:=(dY,8)) (e:=r)
  have k3':=k3;rw [yP (P:=fC)] at h1;obtain ⟨i,h⟩:=If.1 h1;obtain ⟨hi,hx⟩:=PP.1 h;obtain ⟨m,m1,m2,m3⟩:=least (c:=fun i=> ¬fC es[i]!) ⟨i,hi,hx⟩
  have go: ∀j,j<afa es->(¬fC es[j]!->eD (rP c f es j)=afb (.done (dY,8)))/\(fC es[j]!->eD (rP c f es j)=afb (.next (rP c f es (j+1)))):=by
   intro j hj;have e1:afg ((j:Int)<((afa es):Int))=afc:=aE (by omega)
   unfold eD rP fC;simp only [e1,lw,ar es j hj,aj,aT (show j<1000000000 by omega)]
   generalize es[j]! =x
   by_cases a1:x.1<0
   · rw [aE a1];exact ⟨fun _=>rfl,fun h=>by omega⟩
   rw [aC a1]
   by_cases a2:x.2<0
   · rw [aE a2];exact ⟨fun _=>rfl,fun h=>by omega⟩
   rw [aC a2]
   by_cases a3:65535<x.1
   · rw [aE a3];exact ⟨fun _=>rfl,fun h=>by omega⟩
   rw [aC a3]
   by_cases a4:65535<x.2
   · rw [aE a4];exact ⟨fun _=>rfl,fun h=>by omega⟩
   rw [aC a4]
   by_cases a5:x.1=x.2
   · rw [eI a5];exact ⟨fun _=>rfl,fun h=>absurd a5 h.2.2.2.2⟩
   rw [dX a5];exact ⟨fun h=>absurd ⟨by omega,by omega,by omega,by omega,a5⟩ h,fun _=>rfl⟩
  rw [bS (body:=eD) (fun i=>rP c f es i) m fun j hj=>(go j (by omega)).2 (ut.1 (m3 j hj))]
  exact aH ((go m m1).1 m2)
 have NR:=(yP (P:=fC)).1 h1
 by_cases h2:es.Nodup
 case neg=>
  have er:kI f es=14:=by unfold kI;rw [rc (ut.2 h1),pp h2]
  rw [er,rc (by omega)]
  have Sh:=h2;rw [GU] at Sh;obtain ⟨i,h⟩:=If.1 Sh;obtain ⟨hi,hx⟩:=PP.1 h;obtain ⟨m,m1,m2,m3⟩:=least (c:=fun i=> ¬es[i]!∉es.take i) ⟨i,hi,hx⟩
  have go: ∀j,j<afa es->(es[j]!∈es.take j->eC (rP c f es j)=afb (.done (.done (dY,14))))/\(es[j]!∉es.take j->eC (rP c f es j)=afb (.next (rP c f es (j+1)))):=by
   intro j hj;have e1:afg ((j:Int)<((afa es):Int))=afc:=aE (by omega)
   unfold eC rP;simp only [e1,lw,ar es j hj,jR es j (by omega),aj,jm _ _ (show (es.take j).length<=1000000 by rw [Do];omega),aT (show j<1000000000 by omega)]
   by_cases h:es[j]!∈es.take j
   · rw [aE h];exact ⟨fun _=>rfl,fun k=>absurd h k⟩
   rw [aC h];exact ⟨fun k=>absurd k h,fun _=>rfl⟩
  have l2:ay eC (rP c f es 0)=afb (.done (dY,14)):=by
   rw [bS (body:=eC) (fun i=>rP c f es i) m fun j hj=>(go j (by omega)).2 (ut.1 (m3 j hj))]
   exact aH ((go m m1).1 (ut.1 m2))
  rw [k3 _ l2,pp NR]
 have Sh:=GU.1 h2
 by_cases h3: ∀x∈es,iJ f x
 case neg=>
  have er:kI f es=6:=by unfold kI;rw [rc (ut.2 h1),rc (ut.2 h2),pp h3]
  rw [er,rc (by omega)]
  have h3':=h3;rw [yP (P:=iJ f)] at h3';obtain ⟨i,h⟩:=If.1 h3';obtain ⟨hi,hx⟩:=PP.1 h;obtain ⟨m,m1,m2,m3⟩:=least (c:=fun i=> ¬iJ f es[i]!) ⟨i,hi,hx⟩
  have l1:ay fb (rP c f es 0)=afb (.done (.done (dY,6))):=by
   rw [bS (body:=fb) (fun i=>rP c f es i) m fun j hj=>(Wx j (by omega)).2 (ut.1 (m3 j hj))]
   exact aH ((Wx m m1).1 m2)
  rw [k3 _ (k2 _ l1),pp NR,pp Sh]
 have h3':=(yP (P:=iJ f)).1 h3;have er:kI f es=0:=by unfold kI;rw [rc (ut.2 h1),rc (ut.2 h2),rc (ut.2 h3)]
 rw [er,pp rfl];have l1:ay fb (rP c f es 0)=afb (.done (.done r)):=by
  rw [bS (body:=fb) (fun i=>rP c f es i) (afa es) fun j hj=>(Wx j hj).2 (h3' j hj)]
  refine aH ?_;unfold fb rP;simp only [el,ol,tw,aj,hr er]
 rw [k3 _ (k2 _ l1),pp NR,pp Sh]
theorem S9 {l:List Int} {x:Int} (hl:(afa l)<=1000000) (hx:x∈l): ∃k,k<afa l/\l[k]! =x/\eK l x=afb (k:Int)/\MR l x=afb (k:Int):=by
 obtain ⟨k,k1,k2,k3⟩:=least (c:=fun k=>l[k]! =x) (aS.1 hx)
 have p:=hO (body:=oP) (fun i=>(l,x,(i:Int))) (afa l) (fun i=>l[i]! =x) (fun i=>(i:Int)) (e:= -1) (fun i hi=>by
  unfold oP;simp only [az,aE (show (i:Int)<((afa l):Int) by omega),lw,ar l i hi,aj,aT (show i<1000000000 by omega)]
  refine ⟨fun h=>?_,fun h=>?_⟩
  · rw [eI h];rfl
  · rw [dX h];rfl) (by
  unfold oP;simp only [az,aC (show¬((afa l):Int)<((afa l):Int) by omega),ol])
 exact ⟨k,k1,k2,(GV l x hl).1 k k1 k2 k3,p.1 k k1 k2 k3⟩
theorem tk {l:List Int} {m:Nat} {x:Int} (h:(afa l)=m):(l++[x]).take m=l:=by rw [<- h,List.take_left]
section
variable {k : Ag} {f : List Pt} {m n0 : Nat} {x : Int}
end
section
variable {k : Ag} {P : Pt} {f : List Pt} {m : Nat}
end
end Go.Proofs.YtbgoiokedpjgbaaGreat
namespace Go.Proofs.YtbgoiokedpjgbaaGreat
abbrev Nd:=Int×Int×Int
structure Nv (P:Nat->Nat->Prop) (a b i:Nat):Prop where
 lo:a<=i
 hi:i<b
 top: ∀j,a<=j->j<b->j≠i->P i j
inductive oR (P:Nat->Nat->Prop) (N:List Nd):Nat->Nat->Int->Prop
 |nil {a b:Nat} (h:b<=a):oR P N a b (-1)
 |node {a b i:Nat} (h:Nv P a b i) (l:oR P N a i (N[i]!).2.1) (r:oR P N (i+1) b (N[i]!).2.2):oR P N a b (i:Int)
structure aeL (P:Nat->Nat->Prop) (n:Nat):Prop where
 tr: ∀i j k,i<n->j<n->k<n->P i j->P j k->P i k
 asy: ∀i j,i<n->j<n->P i j-> ¬P j i
 tot: ∀i j,i<n->j<n->i≠j-> ¬P i j->P j i
theorem Nv.one {P:Nat->Nat->Prop} {n a b i j:Nat} (o:aeL P n) (hb:b<=n) (h:Nv P a b i) (k:Nv P a b j):i=j:=by
 refine Classical.byContradiction fun ec=>?_
 have:=h.hi;have:=k.hi
 exact o.asy i j (by omega) (by omega) (h.top j k.lo k.hi (fun e=>ec e.symm)) (k.top i h.lo h.hi ec)
theorem oR.link {P:Nat->Nat->Prop} {N:List Nd} {a b:Nat} {r:Int} (h:oR P N a b r):(b<=a/\r= -1)\/(∃i:Nat,r=(i:Int)/\a<=i/\i<b):=by
 cases h with
 |nil h=>exact .inl ⟨h,rfl⟩
 |node h l r=>exact .inr ⟨_,rfl,h.lo,h.hi⟩
theorem oR.unique {P:Nat->Nat->Prop} {n:Nat} (o:aeL P n) {N N':List Nd} {a b:Nat} {r:Int} (h:oR P N a b r): ∀{r':Int},b<=n->oR P N' a b r'->r=r'/\ ∀k,a<=k->k<b->(N[k]!).2=(N'[k]!).2:=by
 induction h with
 |nil h=>
  intro r' hb h';cases h' with
  |nil _=>exact ⟨rfl,fun k h1 h2=>by omega⟩
  |node t _ _=>have:=t.lo;have:=t.hi;omega
 | @node a b i h l r ihl ihr=>
  intro r' hb h';have lo:=h.lo;have hi:=h.hi;cases h' with
  |nil q=>omega
  | @node _ _ j t l' r'=>
   have e:=h.one o hb t;subst e;obtain ⟨e1,f1⟩:=ihl (by omega) l'
   obtain ⟨e2,f2⟩:=ihr hb r';refine ⟨rfl,fun k h1 h2=>?_⟩
   rcases ww k i with q|q|q
   · exact f1 k h1 q
   · subst q;exact Prod.ext e1 e2
   exact f2 k (by omega) h2
theorem oR.other {P Q:Nat->Nat->Prop} {n:Nat} (o:aeL Q n) {N:List Nd} {a b:Nat} {r:Int} (h:oR P N a b r):b<=n->(∀k j:Nat,a<=k->k<b->a<=j->j<b->((N[k]!).2.1=(j:Int)\/(N[k]!).2.2=(j:Int))->Q k j)->oR Q N a b r:=by
 induction h with
 |nil h=>exact fun _ _=> .nil h
 | @node a b i h l r ihl ihr=>
  intro hb q;have lo:=h.lo;have hi:=h.hi;have tl:=ihl (by omega) fun k j h1 h2 h3 h4=>q k j h1 (by omega) h3 (by omega)
  have tr:=ihr hb fun k j h1 h2 h3 h4=>q k j (by omega) h2 (by omega) h4
  refine .node ⟨lo,hi,fun j h1 h2 ec=>?_⟩ tl tr
  rcases adc j i with hj|hj
  · generalize hr:(N[i]!).2.1=s at tl
    cases tl with
    |nil q=>omega
    | @node _ _ m t _ _=>
     have t1:=t.lo;have t2:=t.hi;have qm:=q i m lo hi t1 (by omega) (.inl hr)
     by_cases e:j=m
     · rw [e];exact qm
     exact o.tr i m j (by omega) (by omega) (by omega) qm (t.top j h1 hj e)
  generalize hr:(N[i]!).2.2=s at tr
  cases tr with
  |nil q=>omega
  | @node _ _ m t _ _=>
   have t1:=t.lo;have t2:=t.hi;have qm:=q i m lo hi (by omega) t2 (.inr hr)
   by_cases e:j=m
   · rw [e];exact qm
   exact o.tr i m j (by omega) (by omega) (by omega) qm (t.top j (by omega) h2 e)
theorem oR.kids {P:Nat->Nat->Prop} {N:List Nd} {a b:Nat} {r:Int} (h:oR P N a b r): ∀k,a<=k->k<b-> ∀c:Int,((N[k]!).2.1=c\/(N[k]!).2.2=c)->c= -1\/ ∃j:Nat,c=(j:Int)/\a<=j/\j<b/\j≠k/\P k j/\r≠c:=by
 induction h with
 |nil h=>intro k h1 h2;omega
 | @node a b i h l r ihl ihr=>
  have lo:=h.lo;have hi:=h.hi;intro k h1 h2 c hc;rcases ww k i with q|q|q
  · rcases ihl k h1 q c hc with e|⟨j,e,j1,j2,j3,j4,_⟩
    · exact .inl e
    exact .inr ⟨j,e,j1,by omega,j3,j4,by rw [e];omega⟩
  · subst q
    rcases hc with hc|hc
    · rcases l.link with ⟨_,e⟩|⟨j,e,j1,j2⟩
      · exact .inl (hc▸e)
      exact .inr ⟨j,hc▸e,j1,by omega,by omega,h.top j j1 (by omega) (by omega),by rw [<- hc,e];omega⟩
    rcases r.link with ⟨_,e⟩|⟨j,e,j1,j2⟩
    · exact .inl (hc▸e)
    exact .inr ⟨j,hc▸e,by omega,j2,by omega,h.top j (by omega) j2 (by omega),by rw [<- hc,e];omega⟩
  rcases ihr k (by omega) h2 c hc with e|⟨j,e,j1,j2,j3,j4,_⟩
  · exact .inl e
  exact .inr ⟨j,e,by omega,j2,j3,j4,by rw [e];omega⟩
theorem oR.up {P:Nat->Nat->Prop} {N:List Nd} {a b:Nat} {r:Int} (h:oR P N a b r): ∀k:Nat,a<=k->k<b->(k:Int)≠r-> ∃j,a<=j/\j<b/\((N[j]!).2.1=(k:Int)\/(N[j]!).2.2=(k:Int))/\ ∀m,a<=m->m<b->((N[m]!).2.1=(k:Int)\/(N[m]!).2.2=(k:Int))->m=j:=by
 induction h with
 |nil h=>intro k h1 h2;omega
 | @node a b i h l r ihl ihr=>
  have lo:=h.lo;have hi:=h.hi;have lk:=l.kids;have rk:=r.kids;intro k h1 h2 ec;have hki:k≠i:=fun e=>ec (by rw [e])
  rcases adc k i with q|q
  · by_cases er:(k:Int)=(N[i]!).2.1
    · refine ⟨i,lo,hi,.inl er.symm,fun m m1 m2 hm=>?_⟩
      rcases ww m i with w|w|w
      · rcases lk m m1 w _ hm with e|⟨j,e,_,_,_,_,hr⟩
        · omega
        exact absurd er.symm hr
      · exact w
      rcases rk m (by omega) m2 _ hm with e|⟨j,e,j1,_⟩<;>omega
    obtain ⟨j,j1,j2,j3,j4⟩:=ihl k h1 q er
    refine ⟨j,j1,by omega,j3,fun m m1 m2 hm=>?_⟩
    rcases ww m i with w|w|w
    · exact j4 m m1 w hm
    · subst w
      rcases hm with hm|hm
      · exact absurd hm.symm er
      rcases r.link with ⟨_,e⟩|⟨p,e,p1,p2⟩<;>omega
    rcases rk m (by omega) m2 _ hm with e|⟨p,e,p1,_⟩<;>omega
  by_cases er:(k:Int)=(N[i]!).2.2
  · refine ⟨i,lo,hi,.inr er.symm,fun m m1 m2 hm=>?_⟩
    rcases ww m i with w|w|w
    · rcases lk m m1 w _ hm with e|⟨j,e,_,j2,_⟩<;>omega
    · exact w
    rcases rk m (by omega) m2 _ hm with e|⟨j,e,_,_,_,_,hr⟩
    · omega
    exact absurd er.symm hr
  obtain ⟨j,j1,j2,j3,j4⟩:=ihr k (by omega) h2 er
  refine ⟨j,by omega,j2,j3,fun m m1 m2 hm=>?_⟩
  rcases ww m i with w|w|w
  · rcases lk m m1 w _ hm with e|⟨p,e,_,p2,_⟩<;>omega
  · subst w
    rcases hm with hm|hm
    · rcases l.link with ⟨_,e⟩|⟨p,e,p1,p2⟩<;>omega
    exact absurd hm.symm er
  exact j4 m (by omega) m2 hm
inductive G1 (P:Nat->Nat->Prop) (N:List Nd):Nat->Nat->Int->List Nat->Prop
 |nil {a b:Nat} (h:b<=a):G1 P N a b (-1) []
 |cons {a b k:Nat} {es:List Nat} (h:Nv P a b k) (l:oR P N a k (N[k]!).2.1) (r:G1 P N (k+1) b (N[k]!).2.2 es):G1 P N a b (k:Int) (k::es)
theorem G1.ls {P:Nat->Nat->Prop} {N:List Nd} {a b:Nat} {r:Int} {es:List Nat} (h:G1 P N a b r es):oR P N a b r:=by
 induction h with
 |nil h=>exact .nil h
 |cons h l r ih=>exact .node h l ih
theorem G1.mem {P:Nat->Nat->Prop} {N:List Nd} {a b:Nat} {r:Int} {es:List Nat} (h:G1 P N a b r es): ∀e∈es,a<=e/\e<b:=by
 induction h with
 |nil h=>intro e he;cases he
 |cons h l r ih=>
  intro e he;have lo:=h.lo;have hi:=h.hi;rcases ae5.1 he with rfl|he
  · exact ⟨lo,hi⟩
  have:=ih e he;omega
end Go.Proofs.YtbgoiokedpjgbaaGreat
namespace Go.Proofs.YtbgoiokedpjgbaaGreat
open Go.Vm Classical
def ahP (f:List Pt) (t:Int×Int) (i j:Nat):Prop:=leads f[i]! f[j]! t
theorem yT {p q:Pt} {t:Int×Int} (h:leads p q t): ¬leads q p t:=by
 unfold leads at*;rw [KF] at*;generalize p.2.1*t.2+p.2.2*t.1=a at*;generalize q.2.1*t.2+q.2.2*t.1=b at*;omega
theorem aeM {f:List Pt} (h:fx f) (t:Int×Int):aeL (ahP f t) (afa f) where
 tr:=fun _ _ _ _ _ _ h1 h2=>Ns h1 h2
 asy:=fun _ _ _ _ h=>yT h
 tot:=fun _ _ hi hj ec hn=>yR t (fun e=>ec (xh h hi hj e)) hn
structure yU (f:List Pt) (t:Int×Int) (N:List Nd) (r:Int):Prop where
 len:(afa N)=afa f
 ids: ∀k,k<afa f->(N[k]!).1=(f[k]!).1
 ls:oR (ahP f t) N 0 (afa f) r
theorem yU.same {f:List Pt} (h:fx f) {t:Int×Int} {N N':List Nd} {r r':Int} (a:yU f t N r) (b:yU f t N' r'):N=N'/\r=r':=by
 obtain ⟨e1,e2⟩:=a.ls.unique (aeM h t) (ae4 _) b.ls;refine ⟨qO (by rw [a.len,b.len]) fun k hk=>?_,e1⟩
 have hk:k<(afa f):=by rw [<- a.len];exact hk
 exact Prod.ext (by rw [a.ids k hk,b.ids k hk]) (e2 k (EQ _) hk)
def Below (N:List Nd) (k j:Nat):Prop:=(N[j]!).2.1=(k:Int)\/(N[j]!).2.2=(k:Int)
noncomputable def Ek (N:List Nd) (k:Nat):Nat:=if h: ∃j,j<afa N/\Below N k j then h.choose else (afa N)
noncomputable def aqR (N:List Nd) (k:Nat):List (Int×Int):=if Ek N k<(afa N) then [((N[k]!).1,(N[Ek N k]!).1)] else []
noncomputable def Wy (N:List Nd):Nat->List (Int×Int)
 |0=>[]
 |k+1=>Wy N k++aqR N k
section
variable {f : List Pt} {t : Int × Int} {N : List Nd} {r : Int}
theorem yU.par (h:yU f t N r) {k:Nat} (hk:k<afa f):((k:Int)=r->Ek N k=afa N)/\((k:Int)≠r->Ek N k<afa N/\Below N k (Ek N k)/\Ek N k≠k/\ahP f t (Ek N k) k)/\ ∀m,m<afa N->Below N k m->m=Ek N k:=by
 have ln:=h.len
 by_cases hr:(k:Int)=r
 · have none: ¬ ∃j,j<afa N/\Below N k j:=by
    rintro ⟨j,hj,hb⟩;rcases h.ls.kids j (EQ _) (by omega) (k:Int) hb with e|⟨_,_,_,_,_,_,e⟩
    · omega
    exact e hr.symm
   have e:Ek N k=(afa N):=by unfold Ek;rw [dif_neg none]
   exact ⟨fun _=>e,fun q=>absurd hr q,fun m hm hb=>absurd ⟨m,hm,hb⟩ none⟩
 obtain ⟨j,_,j2,j3,j4⟩:=h.ls.up k (EQ _) hk hr
 have ex: ∃j,j<afa N/\Below N k j:=⟨j,by omega,j3⟩
 have e:Ek N k=j:=by
  unfold Ek;rw [dif_pos ex]
  have:=ex.choose_spec
  exact j4 _ (EQ _) (by omega) this.2
 refine ⟨fun q=>absurd q hr,fun _=>?_,fun m hm hb=>by rw [e];exact j4 m (EQ _) (by omega) hb⟩
 rw [e];refine ⟨by omega,j3,?_,?_⟩
 · rcases h.ls.kids j (EQ _) j2 (k:Int) j3 with q|⟨i,q,_,_,q2,_⟩
   · omega
   intro w;omega
 rcases h.ls.kids j (EQ _) j2 (k:Int) j3 with q|⟨i,q,_,_,_,q2,_⟩
 · omega
 have:i=k:=by omega
 rw [<- this];exact q2
end
def o1 (f:List Pt) (t:Int×Int) (e c:Nat) (i:Nat) (lc:Int) (N:List Nd) (E:List Int) (left:Int):=
 (e,c,(i:Int),f,((afa f):Int),(i:Int),f,t.1,t.2,(0:Int),lc,N,E,(f[i]!).1,(f[i]!).2.1,(f[i]!).2.2,(f[i]!).1,left,(-1:Int))
section
variable {f : List Pt} {t : Int × Int} {N : List Nd} {r : Int}
theorem yU.link (h:yU f t N r) {j:Nat} (hj:j<afa f) {c:Int} (hc:(N[j]!).2.1=c\/(N[j]!).2.2=c):c= -1\/(0<=c/\c<afa N):=by
 have ln:=h.len;rcases h.ls.kids j (EQ _) hj c hc with e|⟨k,e,_,k2,_⟩
 · exact .inl e
 exact .inr ⟨by omega,by omega⟩
end
theorem aeN (c:aM) (es:List (Int×Int)) (h1:(afa es)<=1000000) (_:(afa c.af.ce)<=1000000):
 yF c es=afb (afg (afa es=afa c.af.ce/\ ∀i,i<afa c.af.ce->(c.af.ce[i]!).2∈es)):=by
 unfold yF gf gR;simp only [az]
 by_cases h0:(afa es)=afa c.af.ce
 case neg=>rw [dX (by omega),ol,aC (fun q=>h0 q.1)]
 rw [eI (by omega),lw]
 have key:=hO (body:=bK) (fun i=>(c.af.ce,es,((afa c.af.ce):Int),(i:Int))) (afa c.af.ce) (fun i=>(c.af.ce[i]!).2∉es) (fun i=>(i:Int)) (e:= -1) (fun i hi=>by
  unfold bK Ai;simp only [aE (show (i:Int)<((afa c.af.ce):Int) by omega),lw,ar c.af.ce i hi,aj,jm es _ h1,aT (show i<1000000000 by omega)]
  refine ⟨fun q=>?_,fun q=>?_⟩
  · rw [aC q];rfl
  · rw [aE (ut.1 q)];rfl) (by
  unfold bK;simp only [aC (show¬((afa c.af.ce):Int)<((afa c.af.ce):Int) by omega),ol])
 by_cases hx: ∀i,i<afa c.af.ce->(c.af.ce[i]!).2∈es
 · rw [show ay bK (c.af.ce,es,((afa c.af.ce):Int),0)=_ from key.2 (fun i hi=>ut.2 (hx i hi)),aj,aj,aC (by omega),aE ⟨h0,hx⟩]
   rfl
 obtain ⟨i,hi⟩:=If.1 hx
 obtain ⟨hi,hn⟩:=PP.1 hi;obtain ⟨m,m1,m2,m3⟩:=least (c:=fun i=>(c.af.ce[i]!).2∉es) ⟨i,hi,hn⟩
 rw [show ay bK (c.af.ce,es,((afa c.af.ce):Int),0)=_ from key.1 m m1 m2 m3,aj,aj,aE (by omega),aC (fun w=>hx w.2)]
 rfl
structure Wz (k:Di):Prop where
 CA:aZ k.jp
 ls:yU k.jp.ii.am k.jp.ci k.ls.lm k.ls.lc
 cert:(k.jp.af.ce.map fun x=>x.2).Perm (Wy k.ls.lm (afa k.jp.ii.am))
structure amx (k:Di):Prop where
 c:Rv k.jp
 n:(afa k.ls.lm)<=1000
theorem G2 {α:Type} [BEq α] [LawfulBEq α]: ∀{a b:List α},a.Nodup->(∀x∈a,x∈b)->afa a<=afa b
 | [],_,_,_=>EQ _
 |x::a,b,hd,h=>by
  rw [List.nodup_cons] at hd;have hx:=h x List.mem_cons_self
  have:=G2 (a:=a) (b:=b.erase x) hd.2 (fun y hy=>by
   rw [List.mem_erase_of_ne (fun e=>hd.1 (by rw [<- e];exact hy))]
   exact h y (List.mem_cons_of_mem _ hy))
  rw [List.length_erase_of_mem hx] at this
  have:=List.length_pos_of_mem hx
  rw [AC];omega
theorem yV {α:Type} [BEq α] [LawfulBEq α] {a b:List α} (ha:a.Nodup) (hb:b.Nodup) (h1: ∀x∈a,x∈b) (h2: ∀x∈b,x∈a):a.Perm b:=te ha h1 (G2 hb h2)
structure PE (R:Di) (F:List Pt) (t:Int×Int):Prop where
 ok:Wz R
 iK:R.jp.ii.am=F
 ci:R.jp.ci=t
theorem PE.short {R:Di} {F:List Pt} {t:Int×Int} (h:PE R F t):amx R:=by
 have:=h.ok.CA.iK.1
 refine ⟨h.ok.CA.short,?_⟩
 have:=h.ok.ls.len
 omega
theorem PE.A7 {R:Di} {F:List Pt} {t:Int×Int} (h:PE R F t):qP R.jp:=h.ok.CA.fit
theorem PE.same {R S:Di} {F:List Pt} {t:Int×Int} (h:PE R F t) (k:PE S F t):R.ls=S.ls:=by
 have a:=h.ok.ls;rw [h.iK,h.ci] at a;have b:=k.ok.ls;rw [k.iK,k.ci] at b;obtain ⟨e1,e2⟩:=a.same (by rw [<- h.iK];exact h.ok.CA.iK.2.2) b
 obtain ⟨_,⟨r,N⟩⟩:=R;obtain ⟨_,⟨r',N'⟩⟩:=S;simp only at e1 e2;subst e1 e2;rfl
theorem zJ {f:List Pt} {m:Nat} {p q:Pt}:q∈nU f m p↔q=p\/q∈f:=by
 unfold nU;rw [ae1,ae5];constructor
 · rintro (h|h|h)
   · exact .inr (ae2 h)
   · exact .inl h
   exact .inr (ae3 h)
 rintro (h|h)
 · exact .inr (.inl h)
 rw [<- List.take_append_drop m f] at h
 rcases ae1.1 h with h|h
 · exact .inl h
 exact .inr (.inr h)
theorem Dx {f:List Pt} (hs:fx f) {q:Nat} (hq:q<afa f) {p:Pt}:p∈f.eraseIdx q↔p∈f/\p.1≠(f[q]!).1:=by
 rw [List.mem_eraseIdx_iff_getElem];constructor
 · rintro ⟨i,hi,ec,rfl⟩
   refine ⟨List.getElem_mem _,fun e=>?_⟩
   rw [<- getElem!_pos f i hi] at e;rcases ww i q with c|c|c
   · have:=ej hs c hq;omega
   · exact ec c
   have:=ej hs c hi;omega
 rintro ⟨hp,ec⟩
 obtain ⟨i,hi,rfl⟩:=aS.1 hp;refine ⟨i,hi,fun e=>ec (by rw [e]),?_⟩
 rw [getElem!_pos f i hi]
theorem Nw {f:List Pt} (hs:fx f) {q:Pt} (h:q∈f):fR f q.1=q:=by
 obtain ⟨i,hi,rfl⟩:=aS.1 h;exact Ci hs hi rfl
theorem xx {f:List Pt} (hs:fx f) {x:Int} (h:ft f x):fR f x∈f/\(fR f x).1=x:=by
 obtain ⟨i,hi,rfl⟩:=h;rw [Nw hs (aW hi)];exact ⟨aW hi,rfl⟩
theorem I0 {f g:List Pt} (hf:fx f) (hg:fx g) {x:Int} (h:ft f x) (hm:fR f x∈g):fR g x=fR f x:=by
 have:=Nw hg hm
 rwa [(xx hf h).2] at this
abbrev WA (f:List Pt) (t:Int×Int) (a b:Int):Prop:=leads (fR f a) (fR f b) t
theorem I1 {f:List Pt} (hs:fx f) {t:Int×Int} {l:List Int} (hp: ∀x∈l,ft f x) (nd:l.Nodup):(∀e∈yQ l,leads (fR f e.2) (fR f e.1) t)↔Hp (WA f t) l:=by
 constructor
 · intro h j h1 h2 c
   have hm:(l[j]!,l[par j]!)∈yQ l:=by
    refine aS.2 ⟨j-1,by rw [A9];omega,?_⟩
    rw [D7 l (show j-1<afa l-1 by omega),show j-1+1=j by omega]
   exact yT c (h _ hm)
 intro h e he
 obtain ⟨i,hi,rfl⟩:=aS.1 he;rw [A9] at hi;rw [D7 l hi]
 have:=h (i+1) (by omega) (by omega)
 have pe:par (i+1)=i / 2:=by simp only [par];omega
 rw [pe] at this;refine yR t ?_ this;rw [(xx hs (hp _ (aW (by omega)))).2,(xx hs (hp _ (aW (by omega)))).2]
 exact fun e=>gM.1 nd (i / 2) (i+1) (by omega) (by omega) e.symm
structure auS (R:Ag) (F:List Pt) (t:Int×Int):Prop where
 ok:tg R
 iK:R.jp.ii.am=F
 ci:R.jp.ci=t
theorem tg.len {k:Ag} (h:tg k):(afa k.bv)=(afa k.jp.ii.am):=by rw [<- h.perm.length_eq];exact List.length_map ..
theorem tg.bd {k:Ag} (h:tg k):(afa k.bv)<=64:=by have:=h.len;have:=h.CA.iK.1;omega
theorem tg.has {k:Ag} (h:tg k): ∀x∈k.bv,ft k.jp.ii.am x:=fun _ hx=>mZ.1 (h.perm.mem_iff.2 hx)
theorem tg.nd {k:Ag} (h:tg k):k.bv.Nodup:=h.perm.nodup_iff.1 (Dw h.CA.iK.2.2)
theorem tg.hp {k:Ag} (h:tg k):Hp (WA k.jp.ii.am k.jp.ci) k.bv:=(I1 h.CA.iK.2.2 h.has h.nd).1 h.lead
theorem D6.bv {c:aM} {f:List Pt} (bT:bm f) {l:List Int} (pm:(jb f).Perm l) {R:Ag} (e:R.bv=l) (q:D6 c f (yQ l) R.jp) (h:Hp (WA f c.ci) l):auS R f c.ci:=by
 have nd:=pm.nodup_iff.1 (Dw bT.2.2);refine ⟨⟨q.ok,by rw [q.iK,e];exact pm,?_,?_⟩,q.iK,q.ci⟩
 · rw [e]
   exact yV (uG q.ok.tu) (Nq nd) (fun x hx=>by obtain ⟨y,hy,rfl⟩:=List.mem_map.1 hx;exact q.sub y hy) (fun x hx=>th.1 (q.has x hx))
 rw [e,q.iK,q.ci]
 exact (I1 bT.2.2 (fun x hx=>mZ.1 (pm.mem_iff.2 hx)) nd).2 h
theorem G3 {α:Type} (z:α): ∀(l:List (Int×α)) (k:Int) (a:α) (j:Int),qA z (o3 l k a) j=if j=k then a else qA z l j
 | [],k,a,j=>by
  simp only [o3,qA]
  by_cases h:j=k
  · rw [pp h,eI h];rfl
  rw [rc h,dX h];rfl
 |p::l,k,a,j=>by
  simp only [o3]
  by_cases h:k=p.1
  · rw [eI h,lw]
    simp only [qA]
    by_cases c:j=k
    · rw [pp c,eI c];rfl
    rw [rc c,dX c,ol,dX (by rw [<- h];exact c),ol]
  rw [dX h,ol]
  simp only [qA];rw [G3 z l k a j]
  by_cases c:j=p.1
  · rw [eI c,lw,lw,rc (by rw [c];exact fun e=>h e.symm)]
  rw [dX c,ol,ol]
section
variable {f : List Pt} {t : Int × Int}
end
def El (f:List Pt) (x:Int):Prop:=x= -1\/(0<=x/\ft f x)
theorem El.has {f:List Pt} {x:Int} (h:El f x) (h0:0<=x):ft f x:=by rcases h with h|h;omega;exact h.2
theorem nQ {p w:List Int} {i:Nat} (hi:i<afa w+afa p) (hb:(afa w)+afa p<=1000):iw ⟨p,w⟩ (i:Int)=afb (bC p w i):=by
 unfold iw bC;simp only [az]
 by_cases h:i<afa w
 · rw [aE (by omega),lw,ar w i h,aj,pp h]
 rw [aC (by omega),ol,jq ⟨by omega,by omega⟩,show (i:Int) - ((afa w):Int)=((i-(afa w):Nat):Int) by omega,ar p _ (by omega),aj,rc h]
theorem m7 {p w:List Int} {i:Nat} (hi:i<afa w+afa p) (hb:(afa w)+afa p<=1000):gX ⟨p,w⟩ (i:Int)=afb (bC p w i):=by
 unfold gX bC;have e:aa .i64 ((i:Int) - ((afa w):Int))=(i:Int) - ((afa w):Int):=jq ⟨by omega,by omega⟩
 simp only [az,e]
 by_cases h:i<afa w
 · rw [aC (by omega),ol,ar w i h,aj,pp h]
 rw [aE (by omega),lw,show (i:Int) - ((afa w):Int)=((i-(afa w):Nat):Int) by omega,ar p _ (by omega),aj,rc h]
theorem nq {i:Nat} (h:i<1000) (k:Nat) (hk:k<=2):aa .i64 ((aa .i64 (2*(i:Int)))+(k:Int))=((2*i+k:Nat):Int):=by
 rw [jq (n:=2*(i:Int)) ⟨by omega,by omega⟩,jq ⟨by omega,by omega⟩];omega
theorem Cm {f:List Pt} (bT:bm f) {t:Int×Int} (qc:nm t) {x y:Int} (hx:El f x) (hy:El f y):sj ⟨f⟩ t x y=afb (wa f t x y):=by
 unfold sj wa
 by_cases h1:x<0
 · rw [aE h1,lw,pp h1]
 rw [aC h1,ol,rc h1]
 by_cases h2:y<0
 · rw [aE h2,lw,pp h2]
 rw [aC h2,ol,rc h2];have p1:=hx.has (by omega)
 have p2:=hy.has (by omega)
 obtain ⟨j,j1,j2,j3⟩:=xp bT p1;obtain ⟨k,k1,k2,k3⟩:=xp bT p2;simp only [j2,k2,aj,ar f j j1,ar f k k1,j3,k3,Gm (dW bT p1).1 (dW bT p2).1 qc]
 by_cases h:leads (fR f x) (fR f y) t
 · rw [aE h,lw,pp h]
 rw [aC h,ol,rc h]
theorem G4:cX=aQ:=rfl
theorem pH {f:List Pt} (bT:bm f) {x:Int} (h:ft f x): ∃k,k<afa f/\iY ⟨f⟩ x=afb ((k:Int),afc)/\f[k]! =fR f x:=by
 have h1:=bT.1;have bs:=qe f x (by omega) (fun i j=>ej bT.2.2)
 obtain ⟨k,hk,he⟩:=h;refine ⟨k,hk,?_,(Ci bT.2.2 hk he).symm⟩;unfold iY;rw [G4,bs.1 k hk he];rfl
theorem Dy {f:List Pt} (bT:bm f) {x:Int} (h: ¬ft f x): ∃m:Nat,iY ⟨f⟩ x=afb ((m:Int),afe):=by
 have h1:=bT.1;have bs:=qe f x (by omega) (fun i j=>ej bT.2.2)
 obtain ⟨m,_,_,_,e⟩:=bs.2 (fun k hk he=>h ⟨k,hk,he⟩)
 refine ⟨m,?_⟩;unfold iY;rw [G4,e];rfl
theorem G5 {f:List Pt} (bT:bm f) {t:Int×Int} (r:bX t) (qc:nm t) {x y:Int} (hx:El f x) (hy:El f y) (ec:0<=x->x≠y):nL ⟨f⟩ t x y=afb (wa f t x y):=by
 unfold nL wa
 by_cases h1:x<0
 · rw [aE (by split<;>omega),lw,pp h1]
   have:x= -1:=by rcases hx with h|h;exact h;omega
   have: -1<=y:=by rcases hy with h|h<;>omega
   congr 1
   split<;>omega
 rw [rc h1]
 by_cases h2:y<0
 · rw [aE (by split<;>omega),lw,pp h2]
   congr 1
   split<;>omega
 rw [aC (by split<;>omega),ol,rc h2]
 have p1:=hx.has (by omega)
 have p2:=hy.has (by omega)
 obtain ⟨j,j1,j2,j3⟩:=pH bT p1;obtain ⟨k,k1,k2,k3⟩:=pH bT p2;obtain ⟨a1,a2⟩:=dW bT p1;obtain ⟨b1,b2⟩:=dW bT p2;simp only [j2,k2,aj,ar f j j1,ar f k k1,j3,k3];rcases Ej a1 b1 qc r with h|⟨h,_⟩
 · rw [h,aj]
   by_cases h:leads (fR f x) (fR f y) t
   · rw [pp h];dsimp only;rw [aE h,lw]
   rw [rc h];dsimp only;rw [aC h,ol]
 rw [a2,b2] at h;exact absurd h (ec (by omega))
def o4 (B:List Int) (i:Nat):List Int:=List.replicate i 0++B.drop i
theorem pI {B:List Int} {i:Nat} (h:i<=afa B):(o4 B i).length=(afa B):=by unfold o4;rw [M2,v6,IR];omega
theorem zK {B:List Int} {i k:Nat} (h:i<=k) (hi:i<=afa B):(o4 B i)[k]! =B[k]!:=by
 unfold o4;rw [dB (by rw [v6];exact h),kZ,v6]
 congr 1;omega
theorem xy {p B:List Int} {i k:Nat} (h:i<=k) (hi:i<=afa B):bC p (o4 B i) k=bC p B k:=by
 unfold bC;rw [pI hi];split
 · exact zK h hi
 rfl
theorem I2 {B:List Int} {i:Nat} (h:i<afa B):(o4 B (i+1)).set i B[i]! =o4 B i:=by
 refine qO (by rw [af3,pI (by omega),pI (by omega)]) fun k hk=>?_
 rw [af3,pI (by omega)] at hk
 rw [aX]
 by_cases e:k=i
 · rw [pp ⟨e,by rw [pI (by omega)];omega⟩,zK (by omega) (by omega),e]
 rw [rc (fun x=>e x.1)]
 by_cases h2:k<i
 · unfold o4
   rw [ck (by rw [v6];omega),ck (by rw [v6];omega)]
   rw [getElem!_pos _ k (by rw [v6];omega),getElem!_pos _ k (by rw [v6];omega),adm,adm]
 rw [zK (by omega) (by omega),zK (by omega) (by omega)]
section
variable {f : List Pt} (bT : bm f) {t : Int × Int} (r : bX t) (qc : nm t) {p : List Int} (h1 : 1 <= (afa p)) (h64 : (afa p) <= 64) (hk : ∀ x ∈ p, El f x)
include bT qc h1 h64 hk
theorem EN {i:Nat} (hi:i<(bB f t p).length+afa p):El f (bC p (bB f t p) i):=by
 have _:=bT;have _:=qc;have _:=h64;exact hk _ (jV (dL (f:=f) (t:=t) h1).1 (dL h1).vg hi)
theorem PF {i:Nat} (hi:i<(bB f t p).length):
 lI ((i:Int),f,t.1,t.2,p,o4 (bB f t p) (i+1))=afb (.next ((i:Int) -1,f,t.1,t.2,p,o4 (bB f t p) i)):=by
 have R:=dL (f:=f) (t:=t) (p:=p) h1;have bl:=R.1;have pl:=pI (B:=bB f t p) (i:=i+1) (by omega)
 unfold lI;simp only [aE (show (0:Int)<=(i:Int) by omega),lw]
 have k1:=nq (i:=i) (by omega) 1 (by omega)
 have k2:=nq (i:=i) (by omega) 2 (by omega)
 rw [show aa .i64 (aa .i64 (2*(i:Int))+1)=((2*i+1:Nat):Int) from k1,show aa .i64 (aa .i64 (2*(i:Int))+2)=((2*i+2:Nat):Int) from k2];rw [nQ (by omega) (by omega),aj,nQ (by omega) (by omega),aj,xy (by omega) (by omega),xy (by omega) (by omega)]
 rw [show sj ⟨f⟩ (t.1,t.2) _ _=_ from Cm bT qc (EN bT qc h1 h64 hk (by omega)) (EN bT qc h1 h64 hk (by omega)),aj,ar _ i (by omega),aj,<- R.2 i hi]
 show afb (Step.next (_,f,t.1,t.2,p,(o4 (bB f t p) (i+1)).set i _))=_
 rw [I2 hi,jq ⟨by omega,by omega⟩]
theorem G6:uh ⟨f⟩ t p=afb ⟨p,bB f t p⟩:=by
 have R:=dL (f:=f) (t:=t) (p:=p) h1;have bl:=R.1;have w1:aa .i64 (((afa p):Int) -1)=((afa p-1:Nat):Int):=mV (by omega) h1
 have loop: ∀n:Nat,n<=(bB f t p).length->ay lI ((n:Int) -1,f,t.1,t.2,p,o4 (bB f t p) n)=afb ⟨p,bB f t p⟩:=by
  intro n
  induction n with
  |zero=>
   intro _;refine aH ?_;unfold lI;rw [aC (by omega),ol]
   rfl
  |succ n ih=>
   intro hn;have st:=PF bT qc h1 h64 hk (t:=t) (i:=n) (by omega)
   rw [show ((n+1:Nat):Int) -1=(n:Int) by omega,aV st]
   exact ih (by omega)
 unfold uh;simp only [ba (show (afa p)<=1048576 by omega),aj,az,w1,eI rfl,lw,GA (0:Int) (show (afa p)-1<=1048576 by omega),v6]
 have:=loop (bB f t p).length (ae4 _)
 unfold o4 at this;rw [acl,af4,show (bB f t p).length=afa p-1 by omega] at this
 rw [jq (n:=((afa p-1:Nat):Int) -1) ⟨by omega,by omega⟩]
 exact this
include r
theorem KI (ho:zP p) {i:Nat} (hi:i<(bB f t p).length):
 ib ((i:Int),f,t.1,t.2,p,o4 (bB f t p) (i+1))=afb (.next ((i:Int) -1,f,t.1,t.2,p,o4 (bB f t p) i)):=by
 have R:=dL (f:=f) (t:=t) (p:=p) h1;have bl:=R.1;have pl:=pI (B:=bB f t p) (i:=i+1) (by omega)
 unfold ib;simp only [aE (show (0:Int)<=(i:Int) by omega),lw]
 have k1:=nq (i:=i) (by omega) 1 (by omega)
 have k2:=nq (i:=i) (by omega) 2 (by omega)
 rw [show aa .i64 (aa .i64 (2*(i:Int))+1)=((2*i+1:Nat):Int) from k1,show aa .i64 (aa .i64 (2*(i:Int))+2)=((2*i+2:Nat):Int) from k2];rw [m7 (by omega) (by omega),aj,m7 (by omega) (by omega),aj,xy (by omega) (by omega),xy (by omega) (by omega)]
 rw [show nL ⟨f⟩ (t.1,t.2) _ _=_ from G5 bT r qc (EN bT qc h1 h64 hk (by omega)) (EN bT qc h1 h64 hk (by omega)) (fun h0=>EM R.1 R.vg ho hi h0),aj,ar _ i (by omega),aj,<- R.2 i hi]
 show afb (Step.next (_,f,t.1,t.2,p,(o4 (bB f t p) (i+1)).set i _))=_
 rw [I2 hi,jq ⟨by omega,by omega⟩]
theorem Dz:p4 ⟨f⟩ p=afb afc:=by
 have _:=r;have _:=qc;have st:=bS (body:=mn) (fun i=>(p,((afa p):Int),(i:Int),f)) (afa p) (fun i hi=>by
  have id:=hk _ (aW hi);unfold mn;simp only [aE (show (i:Int)<((afa p):Int) by omega),lw,ar p i hi,aj,aT (show i<1000000000 by omega)]
  by_cases h:ft f p[i]!
  · obtain ⟨k,_,e,_⟩:=pH bT h
    rw [e,aj,lw]
  obtain ⟨m,e⟩:=Dy bT h
  rw [e,aj,ol];rcases id with id|id
  · rw [eI id];rfl
  exact absurd id.2 h)
 unfold p4;refine (show _=_ from st).trans (aH ?_);unfold mn;simp only [aC (show¬((afa p):Int)<((afa p):Int) by omega),ol]
 rfl
def G7 (p:List Int):Nat->List (Int×Bool)
 |0=>o3 [] (-1) afe
 |i+1=>o3 (G7 p i) p[i]! (afg (0<=p[i]!))
omit bT r qc h1 h64 hk in
theorem G8 (p:List Int): ∀(i:Nat) (k:Int),qA afe (G7 p i) k=afg (0<=k/\ ∃j,j<i/\p[j]! =k)
 |0,k=>by
  unfold G7;rw [G3];rw [decide_eq_false (fun h=>by obtain ⟨_,j,hj,_⟩:=h;omega)]
  split<;>rfl
 |i+1,k=>by
  unfold G7;rw [G3,G8 p i k]
  by_cases e:k=p[i]!
  · rw [pp e]
    refine decide_eq_decide.2 ⟨fun h=>⟨by omega,i,by omega,e.symm⟩,fun h=>by omega⟩
  rw [rc e]
  refine decide_eq_decide.2 ⟨fun ⟨h,j,hj,hx⟩=>⟨h,j,by omega,hx⟩,fun ⟨h,j,hj,hx⟩=>⟨h,j,?_,hx⟩⟩
  rcases adc j i with h2|h2
  · exact h2
  obtain rfl:j=i:=by omega
  exact absurd hx.symm e
omit bT r qc h1 h64 hk in
theorem S' {p:List Int} (ho:zP p) {i:Nat} (hi:i<afa p):qA afe (G7 p i) p[i]! =afe:=by
 rw [G8];refine decide_eq_false fun ⟨h0,j,hj,e⟩=>?_
 have:=ho j i hj hi e
 omega
theorem pJ (ho:zP p):mK ⟨f⟩ t p=afb (⟨p,bB f t p⟩,0):=by
 have R:=dL (f:=f) (t:=t) (p:=p) h1;have bl:=R.1;have w1:aa .i64 (((afa p):Int) -1)=((afa p-1:Nat):Int):=mV (by omega) h1
 have loop: ∀n:Nat,n<=(bB f t p).length->ay ib ((n:Int) -1,f,t.1,t.2,p,o4 (bB f t p) n)=afb (.done (⟨p,bB f t p⟩,0)):=by
  intro n
  induction n with
  |zero=>
   intro _;refine aH ?_;unfold ib;rw [aC (by omega),ol]
   rfl
  |succ n ih=>
   intro hn;have st:=KI bT r qc h1 h64 hk (t:=t) ho (i:=n) (by omega)
   rw [show ((n+1:Nat):Int) -1=(n:Int) by omega,aV st]
   exact ih (by omega)
 have fc:db ⟨f⟩=afb 0:=by rw [eE];exact congrArg afb (dp.2 bT)
 unfold mK uX;simp only [fc,aj,bu (rfl:(0:Int)=0),ol,ff qc,pp r,az,aC (show¬((afa p):Int)<1 by omega),aC (show¬(64:Int)<((afa p):Int) by omega),Dz bT r qc h1 h64 hk,UV]
 have st:=bS (body:=mq 0 p) (fun i=>(p,((afa p):Int),(i:Int),f,t.1,t.2,G7 p i)) (afa p) (fun i hi=>by
  unfold mq;simp only [aE (show (i:Int)<((afa p):Int) by omega),lw,ar p i hi,aj,S' ho hi,NE,UV,ol,aT (show i<1000000000 by omega)]
  rfl)
 refine (show _=_ from st).trans (aH ?_);unfold mq;simp only [aC (show¬((afa p):Int)<((afa p):Int) by omega),ol,bu (rfl:(0:Int)=0),ba (show (afa p)<=1048576 by omega),aj,az,w1,eI rfl,lw,GA (0:Int) (show (afa p)-1<=1048576 by omega),v6]
 have:=loop (bB f t p).length (ae4 _)
 unfold o4 at this;rw [acl,af4,show (bB f t p).length=afa p-1 by omega] at this
 rw [jq (n:=((afa p-1:Nat):Int) -1) ⟨by omega,by omega⟩]
 exact this
end
end Go.Proofs.YtbgoiokedpjgbaaGreat
