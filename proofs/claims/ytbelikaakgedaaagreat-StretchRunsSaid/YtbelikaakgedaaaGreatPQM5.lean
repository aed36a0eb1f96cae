/- Plain laws (5). -/
import Derived.Test.YtbelikaakgedaaaGreatPQM4
import Derived.Test.YtbelikaakgedaaaGreatPQS4
open Nat renaming le_refl->If,div_div_eq_div_mul->Sw,lt_trichotomy->Ii,le_of_lt->SH,add_zero->YJ,le_trans->Mq,pow_succ->SK
open List renaming length_replicate->IR,length_singleton->NE,mem_cons_of_mem->PP,replicate->Y,length_cons->WF,mem_cons_self->Pc,length_set->Md,length_map->KJ,append_nil->YG,pairwise_cons->Xc,getElem_replicate->Mi,length_filter_le->SG,mem_singleton->YH,length_take->Mp,drop_length->YI,nodup_cons->GH,mem_map->SJ,length->Mg
open Int renaming toNat_natCast->EE
open Classical renaming not_not->SI
open Bool renaming not_true->QK,true->al,false->KL
open Option renaming some->Sv
open Decidable renaming decide->YF
namespace Go.Proofs.YtbelikaakgedaaaGreat
open Go.Vm Classical
theorem RP{h l:Pt}{t t':Int×Int}(hh:gO h)(I:gO l)(r:bI t)(r':bI t')(le:t.1*t'.2<=t'.1*t.2)(nf:(kg h l t).2=al->t'.1*(kg h l t).1.2<(kg h l t).1.1*t'.2): ¬leads l h t':=by
 unfold kg at nf
 by_cases D:leads l h t
 ·grind
 rw[EQ D]at nf
 by_cases S:h.2.2<l.2.2
 ·rw[Do S]at nf
  obtain⟨_,m1,m2,m3⟩:=HM hh I (show h.2.2≠l.2.2 by omega);have up:=nf rfl;dsimp only at up;intro h3;have g:0<=G2 l h t':=by rcases h3 with k|k<;>omega
  rw[Gv]at g;generalize met h l=m at*;have d:=m1.1;have hB:0<l.2.2-h.2.2:=by omega
  generalize l.2.2-h.2.2=B at*;generalize hA:h.2.1-l.2.1=A at*;have g2:A*t'.2<=B*t'.1:=by
   have:(l.2.1-h.2.1)*t'.2= -(A*t'.2):=by grind
   omega
  have g3:m.1*t'.2*B<=t'.1*m.2*B:=by
   have e1:m.1*t'.2*B=A*t'.2*m.2:=by grind
   have e2:t'.1*m.2*B=B*t'.1*m.2:=by grind
   rw[e1,e2];exact Int.mul_le_mul_of_nonneg_right g2 (by omega)
  have g4:=Int.le_of_mul_le_mul_right g3 hB;omega
 exact abj r.1 r'.1 le S D
theorem c67{c:aE}(ok:aV c){UV:J Nd}{r:Int}(tr:ig c.jp.am c.io UV r)(ct: ∀e∈cD UV (Mg c.jp.am),rQ c.af.ii e){to:Int×Int}(rt:bI to)(le: ¬jq to c.io<0)(kw: ¬Eo c to):ig c.jp.am to UV r:=by
 have ln:=tr.len;refine⟨tr.len,tr.ids,tr.ut.other (DQ ok.fD.2.2 to) (If _) λk j _ hk _ hj hb=>?_⟩;have PQ:Below UV j k:=hb;have hp:=tr.par hj;have hr:(j:Int)≠r:=λq=>by
  grind
 obtain⟨p1,p2,p3,_⟩:=hp.2.1 hr;have dgV:=hp.2.2 k (by omega) PQ;have mem:=DR.2 ⟨j,hj,p1,by rw[<-dgV,tr.ids j hj,tr.ids k hk]⟩;obtain⟨w,w1,w2⟩:=ct _ mem;have OS:=ok.fD.2.1 _ (aJ hk);have Y8:=ok.fD.2.1 _ (aJ hj);have wn:cf c.jp.am (c.af.ii[w]!).2 c.io=kg c.jp.am[k]! c.jp.am[j]! c.io:=by unfold cf;rw[w2,nZ ok.fD.2.2 hk rfl,nZ ok.fD.2.2 hj rfl]
 have nl: ¬leads c.jp.am[j]! c.jp.am[k]! to:=by
  refine RP OS Y8 ok.ie rt (by rw[rB]at le;omega) λis=>?_
  rw[<-wn]at is;obtain⟨d,hd,_,ev⟩:=ok.Gu.has _ (aJ w1) is;obtain⟨v,hv,he⟩:=aU.1 ev;have tl:=CB ok.oH v hv;have h0:0<(Mg c.ae.bv):=by omega
  have e0:=(ok.oH.ev 0 h0).1.1;have Po:=(ok.oH.ev v hv).1.1;rw[he]at tl Po;rw[<-wn];have n1:=λq=>tl (.inl q)
  rw[rB]at n1;have n2: ¬jq (Ev.at c.ae.bv[0]!) to<=0:=λq=>kw ⟨h0,q⟩
  have n3:to.1*(Ev.at c.ae.bv[0]!).2<(Ev.at c.ae.bv[0]!).1*to.2:=by unfold jq at n2;rcases eJ ((Ev.at c.ae.bv[0]!).1*to.2) (to.1*(Ev.at c.ae.bv[0]!).2)with⟨a,b⟩|⟨a,b⟩|⟨a,b⟩<;>omega
  exact sj rt.1 e0 Po n3 (Int.not_lt.1 n1)
 exact oR to (λe=>p3 (by rw[<-dgV];exact o7 ok.fD.2.2 hk hj e.symm)) nl
structure azM(c:aE)(f:List Pt)(k:bq):Prop where
 tj:Bb c f (cD k.ut.pp (Mg f)) k.lc
 ut:ig f c.io k.ut.pp k.ut.lw
theorem aj5{c:aE}(ok:aV c){f:J Pt}(bj:aS f):
 ∃R:bq×Int,qz c ⟨f⟩=Sv R/\iF c ⟨f⟩=Sv R/\(R.2=0/\azM c f R.1\/R=(⟨cE,⟨0,[]⟩⟩,18)):=by
 have f1:=bj.1;obtain⟨r,UV,D,S⟩:=RI bj ok.ie ok.cO;obtain⟨r',N',g1,g2⟩:=Kx bj ok.cO;obtain⟨e1,e2⟩:=g2.same bj.2.2 S;subst e1 e2;have ln:=S.len;obtain⟨R,r1,r2,r3⟩:=eqS ok bj S;have eo:=RH S (by omega);rcases r3 with⟨q0,qq⟩|he
 ·refine⟨(⟨R.1,⟨r',N'⟩⟩,0),?_,?_,.inl ⟨rfl,qq,S⟩⟩
  ·unfold qz
   grind
  unfold iF
  grind
 refine⟨(⟨cE,⟨0,[]⟩⟩,18),?_,?_,.inr rfl⟩
 ·unfold qz
  grind
 unfold iF
 grind
def hP(c:aE)(r:Int)(UV:J Nd)(to:Int×Int)(out:J (Int×Int)):=
 (c.io.1,c.io.2,c.jp.am,c.af.aO,c.af.ii,c.ae.ai.aC,c.ae.ai.be,c.ae.ai.bi,c.ae.bv,c.ae.ax,c.kw,r,UV,to.1,to.2,(0:Int),(0:Int),(0:Int),(0:Int),out)
def hR(c:aE)(r:Int)(UV:J Nd)(to:Int×Int)(out:J (Int×Int)):=
 (to.1,to.2,(0:Int),(0:Int),(0:Int),(0:Int),c.io.1,c.io.2,c.jp.am,c.af.aO,c.af.ii,c.ae.ai.aC,c.ae.ai.be,c.ae.ai.bi,c.ae.bv,c.ae.ax,c.kw,r,UV,out)
noncomputable def RQ(f:J Pt)(t:Int×Int)(k:Nat):Nat->Nat
 |0=>0
 |j+1=>RQ f t k j+(if j≠k/\Jf f t j k then 1 else 0)
theorem Kz(f:J Pt)(t:Int×Int)(k:Nat): ∀j,RQ f t k j<=j/\(k<j->RQ f t k j+1<=j)
 |0=>⟨If _,λh=>by omega⟩
 |j+1=>by
  obtain⟨D,S⟩:=Kz f t k j;rw[RQ]
  grind
theorem aad{f:J Pt}(bj:aS f){t:Int×Int}(dK:jo t){k:Nat}(hk:k<Mg f):y8 ⟨f⟩ f[k]! t=Sv (RQ f t k (Mg f):Int):=by
 have f1:=bj.1;have key:=bc (body:=pD) (λj=>((RQ f t k j:Int),(j:Int),f,(f[k]!).1,(f[k]!).2.1,(f[k]!).2.2,t)) (Mg f) (λj hj=>by
  have g:=aq f j hj;have le:=(Kz f t k j).1;have ld:=Ct (bj.2.1 _ (aJ hj)) (bj.2.1 _ (aJ hk)) dK;unfold pD;rw[RQ]
  by_cases q:j=k
  ·subst q
   simp only[aB,aA (show(j:Int)<((Mg f):Int) by omega),ww,g,aj,aY rfl,AC,aN (show j<1000000000 by omega),EQ (show¬(j≠j/\Jf f t j j)from λw=>w.1 rfl),YJ]
  have ne:=λh=>q (o7 bj.2.2 hj hk h)
  by_cases c:Jf f t j k
  ·rw[show YF (leads f[j]! f[k]! t)=al from aA c]at ld
   simp only[aB,aA (show(j:Int)<((Mg f):Int) by omega),ww,g,aj,cC ne,ld,aN (show j<1000000000 by omega),aN (show RQ f t k j<1000000000 by omega),Do (show j≠k/\Jf f t j k from⟨q,c⟩)]
  rw[show YF (leads f[j]! f[k]! t)=KL from aF c]at ld
  simp only[aB,aA (show(j:Int)<((Mg f):Int) by omega),ww,g,aj,cC ne,ld,AC,aN (show j<1000000000 by omega),EQ (show¬(j≠k/\Jf f t j k)from λw=>c w.2),YJ])
 unfold y8;rw[show au pD (0,0,f,(f[k]!).1,(f[k]!).2.1,(f[k]!).2.2,t)=_ from key];refine ar ?_;unfold pD;simp
noncomputable def Jp(f:J Pt)(t:Int×Int):Nat->J Int
 |0=>Y (Mg f) 0
 |i+1=>(Jp f t i).set (RQ f t i (Mg f)) (f[i]!).1
theorem ye(f:J Pt)(t:Int×Int): ∀i,(Jp f t i).length=Mg f
 |0=>IR ..
 |i+1=>by rw[Jp,Md,ye f t i]
theorem afR{f:J Pt}(bj:aS f){t:Int×Int}(dK:jo t):xz ⟨f⟩ t=Sv (Jp f t (Mg f)):=by
 have f1:=bj.1;have mk:rF ((Mg f):Int) (0:Int)=Sv (Y (Mg f) 0):=by unfold rF;rw[Do ⟨by omega,by omega⟩,EE]
 have key:=bc (body:=oA) (λi=>((i:Int),f,t.1,t.2,Jp f t i)) (Mg f) (λi N=>by have g:=aq f i N;have le:=(Kz f t i (Mg f)).2 N;have go:=aq (Jp f t i) (RQ f t i (Mg f)) (by rw[ye];omega);unfold oA;simp only[aB,aA (show(i:Int)<((Mg f):Int) by omega),g,aj,aad bj dK N,go,aN (show i<1000000000 by omega)];rfl);unfold xz;simp[aB,beq_self_eq_true,mk,aj];rw[show au oA (0,f,t.1,t.2,Y (Mg f) 0)=_ from key];refine ar ?_;unfold oA;simp
theorem RR{f : J Pt}(h : fQ f){t : Int × Int}{i k : Nat}(N : i < (Mg f))(hk : k < (Mg f))(a : Jf f t i k) : ∀ j, j <= (Mg f) -> RQ f t i j + (if i < j then 1 else 0) <= RQ f t k j
  | 0, _ => by exact If _
  | j + 1, hj => by
    have o := DQ h t
    have ih := RR h N hk a j (by omega)
    have agF : i ≠ k := λe => by subst e; exact o.Lm i i N N a a
    rw[RQ, RQ]
    by_cases e : j = i
    ·grind
    have e2 : (if i < j + 1 then 1 else 0) = (if i < j then 1 else 0) := by
      by_cases c : i < j
      ·rw[Do c, Do (by omega)]
      rw[EQ c, EQ (by omega)]
    by_cases c : j ≠ i /\ Jf f t j i
    ·have c2 : j ≠ k /\ Jf f t j k := by
       have q := o.tr j i k (by omega) N hk c.2 a
       exact⟨λz => by subst z; exact o.Lm j j (by omega) (by omega) q q, q⟩
     rw[Do c, Do c2]; omega
    grind
theorem ahb{f:J Pt}(h:fQ f){t:Int×Int}{i k:Nat}(N:i<Mg f)(hk:k<Mg f)(ne:i≠k):RQ f t i (Mg f)≠RQ f t k (Mg f):=by
 have o:=DQ h t
 by_cases a:Jf f t i k
 ·have:=RR h N hk a (Mg f) (If _)
  grind
 have:=RR h hk N (o.Vr i k N hk ne a) (Mg f) (If _)
 grind
theorem RS{f:J Pt}(h:fQ f){t:Int×Int}{i:Nat}: ∀j,j<=Mg f->i<j->(Jp f t j)[RQ f t i (Mg f)]! =(f[i]!).1
 |0,_,N=>by omega
 |j+1,hj,N=>by
  rw[Jp,bQ];have hr:=(Kz f t i (Mg f)).2 (by omega)
  by_cases q:i=j
  ·subst q
   rw[Do ⟨rfl,by rw[ye];omega⟩]
  rw[EQ (λw=>ahb h (by omega) (by omega) q w.1)]
  exact RS h j (by omega) (by omega)
theorem dgL{f:J Pt}(h:fQ f)(t:Int×Int):(fa f).Perm (Jp f t (Mg f)):=by have il:(fa f).length=(Mg f):=KJ ..;refine gH (eX h) (λx X=>?_) (by rw[ye,il];omega);obtain⟨i,N,e⟩:=dL.1 X;have hr:=(Kz f t i (Mg f)).2 N;exact aU.2 ⟨RQ f t i (Mg f),by rw[ye];omega,by rw[RS h _ (If _) N];exact e⟩
theorem afV{f:J Pt}(h:fQ f)(t:Int×Int){p q:Nat}(hpq:p<q)(hq:q<Mg f):rI f t (Jp f t (Mg f))[p]! (Jp f t (Mg f))[q]!:=by
 have pm:=dgL h t;have nd:=pm.nodup_iff.1 (eX h);have ol:=ye f t (Mg f);have o:=DQ h t;have at': ∀x,x<Mg f-> ∃i,i<Mg f/\(Jp f t (Mg f))[x]! =(f[i]!).1/\RQ f t i (Mg f)=x:=λx X=>by
  obtain⟨i,N,e⟩:=dL.1 (pm.mem_iff.2 (aJ (i:=x) (by omega)));have hr:=(Kz f t i (Mg f)).2 N;have e2:=RS h (t:=t) (Mg f) (If _) N;rw[e]at e2;refine⟨i,N,e.symm,?_⟩;rcases Ii _ x with c|c|c
  ·exact absurd e2 (bO.1 nd _ _ c (by omega))
  ·exact c
  exact absurd e2.symm (bO.1 nd _ _ c (by omega))
 obtain⟨i,N,e1,r1⟩:=at' p (by omega);obtain⟨k,hk,e2,r2⟩:=at' q hq;rw[e1,e2];show leads _ _ t;rw[nZ h N rfl,nZ h hk rfl]
 by_cases a:Jf f t i k
 ·exact a
 have:=RR h hk N (o.Vr i k N hk (λe=>by subst e;omega) a) (Mg f) (If _)
 omega
theorem aae{f:J Pt}(h:fQ f)(t:Int×Int):(Jp f t (Mg f)).Pairwise (rI f t):=by
 refine List.pairwise_iff_getElem.2 λi j N hj rE=>?_
 have:=afV h t rE (by rw[<-ye f t (Mg f)];exact hj)
 grind
section
variable {f : J Pt} {t : Int × Int}
theorem adY{P:Int->Int->Prop}{Yz:Int->Prop}(o:SO P Yz){x:Int}{r:J Int}(hS: ∀y∈x::r,Yz y)(pw:(x::r).Pairwise P):oJ P (x::r)=x:=by
 obtain⟨p1,_⟩:=Xc.1 pw;refine Of o hS Pc λy hy=>?_
 rcases List.mem_cons.1 hy with rfl|hy
 ·exact o.pn _ (hS _ Pc)
 exact o.asym (hS _ Pc) (hS _ (PP _ hy)) (p1 y hy)
def CF(r:J Int)(d b:Nat):J Int:=r.filter λx=>decide (CC x d=b)
theorem adZ{P:Int->Int->Prop}{Yz:Int->Prop}(o:SO P Yz){x:Int}{r:J Int}(hS: ∀y∈x::r,Yz y)(pw:(x::r).Pairwise P)(d b:Nat):oS CC (x::r) x d b=CF r d b:=by
 obtain⟨p1,_⟩:=Xc.1 pw;unfold oS CF;rw[List.filter_cons,EQ (by simp)];refine List.filter_congr λy hy=>?_
 have ne:y≠x:=λe=>o.pn x (hS x Pc) (by have:=p1 y hy;rwa [e]at this)
 grind
theorem aj6(r:J Int)(x:Int)(d b:Nat):CF (r++[x]) d b=CF r d b++(if CC x d=b then [x]else []):=by
 unfold CF
 grind
theorem ad0{x:Int}{r:J Int}(hr:(Mg r)<=64)(pos: ∀y∈r,0<=y){d:Nat}(hd:d<=1000){b:Nat}{out A:J _}{c0:_}(tq:(Mg out)+Mg A<=1000)(hb:b<=2)(rec:c0 (CF r d b,x,((d+1:Nat):Int))=Sv A):
 au (rZ c0) (x::r,(d:Int),(b:Int),1,out,[])=Sv (.next (x::r,(d:Int),((b+1:Nat):Int),out++A)):=by
 have st:=bc (body:=rZ c0) (λi=>(x::r,(d:Int),(b:Int),((i+1:Nat):Int),out,CF (r.take i) d b)) (Mg r) (λi N=>by
  have g:=aq (x::r) (i+1) (by rw[WF];omega);have gi:(x::r)[i+1]! =r[i]!:=by rw[getElem!_pos _ _ (by rw[WF];omega),getElem!_pos r i N];rfl
  rw[gi]at g;have s:=aj6 (r.take i) r[i]! d b;rw[<-cB N]at s;have lim:(CF (r.take i) d b).length<=64:=Mq (SG ..) (by rw[Mp];omega);have ap:aQ _ [r[i]!]=Sv (CF (r.take i) d b++[r[i]!]):=ba (by rw[NE];omega);have bt:=ag' (pos _ (aJ N)) d;rw[s];unfold rZ;simp (disch:=omega) only[aB,WF,aA,ww,g,aj,aF,AC,ap,aN]
  by_cases c:CC r[i]! d=b
  ·rw[ju (by omega),ww,Do c]
  rw[hO (by omega),AC,EQ c,YG])
 refine(st).trans (ar ?_);have g0:=aq (x::r) 0 (by rw[WF];omega);have ap:aQ out A=Sv _:=ba (by omega);unfold rZ;simp (disch:=omega) only[aN,]
 grind
theorem aaf{P:Int->Int->Prop}{Yz:Int->Prop}(o:SO P Yz){n:Nat}{l:J Int}{u:Int}{d:Nat}(hS: ∀x∈l,Yz x)(nd:l.Nodup)(h:(Mg l)<=n):(oF P CC n l u d).length=(Mg l):=by
 have:=(DT o Jn n l u d hS nd h).1.length_eq
 grind
theorem ahc{P:Int->Int->Prop}{Yz:Int->Prop}(o:SO P Yz){l:J Int}(hS: ∀x∈l,Yz x)(pw:l.Pairwise P):l.Nodup:=by
 induction l with
 |nil=>simp
 |cons x l ih=>obtain⟨p1,p2⟩:=Xc.1 pw;exact GH.2 ⟨λh=>o.pn x (hS x Pc) (p1 x h),ih (λy hy=>hS y (PP _ hy)) p2⟩
theorem aiR(bj:aS f): ∀(k n:Nat) (l:J Int) (u:Int) (d:Nat),(∀x∈l,dZ f x)->l.Pairwise (rI f t)->Mg l<=k->k<=64->k+1<=n->d+k<=1000->
 vC n (l,u,(d:Int))=Sv (oF (rI f t) CC k l u d)
 |k,0,l,u,d,_,_,_,_,hn,_=>absurd hn (by omega)
 |k,n+1,[],u,d,_,_,_,_,_,_=>by cases k<;>rfl
 |0,n+1,x::r,u,d,_,_,hk,_,_,_=>absurd hk (by simp)
 |k+1,n+1,x::r,u,d,hS,pw,hk,Ph,hn,hd=>by
  have o:=sE bj.2.2 t;have agG:=adY o hS pw;rw[WF]at hk;have hr: ∀b,(∀y∈CF r d b,dZ f y)/\(CF r d b).Pairwise _/\(CF r d b).length<=k:=λb=>
   ⟨λy hy=>hS y (PP _ (List.mem_filter.1 hy).1),(Xc.1 pw).2.filter _,Mq (SG ..) (by omega)⟩
  have pos:=λy hy=>by have F:=bU bj (hS y (PP _ hy));have p1:=F.1.1;rw[F.2]at p1;exact p1
  have dgE:=λb=>aiR bj k n _ x (d+1) (hr b).1 (hr b).2.1 (hr b).2.2 (by omega) (by omega) (by omega)
  have ln: ∀b,(oF (rI f t) CC k _ x (d+1)).length<=64:=λb=>by rw[aaf o (hr b).1 (ahc o (hr b).1 (hr b).2.1) (hr b).2.2];have:=(hr b).2.2;omega
  have l0:=ln 0;have l1:=ln 1;have A:=ad0 (by omega) pos (by omega) (out:=[(x,u)]) (by rw[NE];omega) (by omega) (dgE 0);have B:=ad0 (by omega) pos (by omega) (out:=[(x,u)]++oF (rI f t) CC k (CF r d 0) x (d+1)) (by rw[List.length_append,NE];omega) (by omega) (dgE 1);show Dx _ _=_;have g0:az _ 0=Sv x:=aq (x::r) 0 (by rw[WF];omega);unfold Dx;simp[g0,];have s1:=A;have s2:=B;rw[aD s1,aD s2];refine(ar (rfl)).trans ?_;simp[oF]
  grind[adZ]
theorem qa2(bj:aS f):HH (Jp f t (Mg f)) (-1) 0=Sv (zf f t):=by have f1:=bj.1;have pm:=dgL bj.2.2 t;have h:=aiR bj (Mg f) 1000000 _ (-1) 0 (λx X=>dL.1 (pm.mem_iff.2 X)) (aae bj.2.2 t) (by rw[ye];omega) f1 (by omega) (by omega);refine(h).trans (congrArg Sv ?_);exact(HT (sE bj.2.2 t) (Mg f) _ _ _ 0 (λx X=>dL.1 X) pm).symm
theorem dgB(bj:aS f)(dK:jo t):Fm ⟨f⟩ t=Sv (wg f t):=by
 have f1:=bj.1;obtain⟨k1,k2⟩:=Ah bj;have nd:=k1.nodup_iff.2 (eX bj.2.2);have ll:(zf f t).length=(Mg f):=by have:=k1.length_eq;rw[KJ]at this;rw[this];exact KJ ..
 have mk:rF ((Mg f):Int) (0:Int)=Sv (Y (Mg f) 0):=by unfold rF;rw[Do ⟨by omega,by omega⟩,EE]
 let U:=λj=>f.map λp=>if p.1∈((zf f t).take j).map (λe=>e.1)then lr 0 (zf f t) p.1 else 0
 have Ul: ∀j,(U j).length=(Mg f):=λj=>KJ ..
 have Ua: ∀j i,i<Mg f->(U j)[i]! =if(f[i]!).1∈((zf f t).take j).map (λe=>e.1)then lr 0 _ (f[i]!).1 else 0:=λj i N=>by rw[getElem!_pos _ i (by rw[Ul];exact N),List.getElem_map,getElem!_pos f i N]
 have st:=bc (body:=AX) (λj=>(zf f t,(j:Int),f,U j)) _ (λj hj=>by
  have g:=aq (zf f t) j hj;have hm:=aJ hj;have hp:=dL.1 (k1.mem_iff.1 (SJ.2 ⟨_,hm,rfl⟩));obtain⟨i,N,ei⟩:=hp;have ga:=Cu bj.2.2 (by omega) N ei;have gu:=aq (U j) i (by rw[Ul];exact N);unfold AX;simp (disch:=omega) only[aB,aA,ww,g,aj,ga,gu,cA,aN];have qb2:(U j).set i ((zf f t)[j]!).2=U (j+1):=by
   refine nj (by rw[Md,Ul,Ul]) λk hk=>?_
   rw[Md,Ul]at hk;have mm:(f[k]!).1∈((zf f t).take (j+1)).map (λe=>e.1)↔(f[k]!).1∈((zf f t).take j).map (λe=>e.1)\/(f[k]!).1∈[(zf f t)[j]!].map (λe=>e.1):=by rw[cB hj,List.map_append,List.mem_append]
   rw[bQ,Ul,Ua _ k hk,Ua _ k hk]
   by_cases c:k=i
   ·subst c
    rw[Do ⟨rfl,N⟩,Do (mm.2 (.inr (by rw[ei];exact YH.2 rfl))),ei];exact(Jm nd (hm)).symm
   rw[EQ (λw=>c w.1)]
   have ne:=λw=>c (o7 bj.2.2 hk N ((YH.1 w).trans ei.symm))
   by_cases q:(f[k]!).1∈((zf f t).take j).map λe=>e.1
   ·rw[Do q,Do (mm.2 (.inl q))]
   rw[EQ q,EQ (λw=>(mm.1 w).elim q ne)]
  rw[qb2])
 have l10:U 0=Y (Mg f) 0:=by
  refine nj (by rw[Ul,IR]) λk hk=>?_
  rw[Ul]at hk;rw[Ua 0 k hk,List.take_zero,List.map_nil,EQ List.not_mem_nil,getElem!_pos _ k (by rw[IR];exact hk),Mi]
 have c79:U (zf f t).length=wg f t:=by
  refine nj (by rw[Ul,DU]) λk hk=>?_
  rw[Ul]at hk;rw[Ua _ k hk,List.take_length,Do (k1.mem_iff.2 (dL.2 ⟨k,hk,rfl⟩)),RO hk]
 unfold Fm;rw[afR bj dK,aj,qa2 bj,aj];simp[mk,];rw[<-l10];refine(st).trans (ar ?_);unfold AX;simp (disch:=omega) only[aB,aF,AC];rw[c79]
theorem abG(U:J Int)(i:Nat):fU f U (i+1)=fU f U i++(if 0<=U[i]! then [((f[i]!).1,U[i]!)]else []):=rfl
theorem apS{U:J Int}(hU:(Mg U)=Mg f)(hf:(Mg f)<=1000):IV ⟨f⟩ U=Sv (fU f U (Mg f)):=by
 have st:=bc (body:=AY) (λi=>(U,(i:Int),f,fU f U i)) (Mg f) (λi N=>by
  have gu:=aq U i (by omega);have gf:=aq f i N;have el:=wZ (f:=f) U i;have ap:aQ _ [((f[i]!).1,U[i]!)]=Sv (fU f U i++[((f[i]!).1,U[i]!)]):=ba (by rw[NE];omega);rw[abG];unfold AY;simp (disch:=omega) only[aB,aA,ww,gu,gf,aj,ap,aN]
  by_cases c:0<=U[i]!
  ·rw[aA c,ww,Do c]
  rw[aF c,AC,EQ c,YG])
 refine(st).trans (ar ?_);unfold AY
 grind
theorem RU(bj:aS f)(r:bI t)(dK:jo t):tU ⟨f⟩ t=Sv (wg f t,fU f (wg f t) (Mg f)):=by
 have f1:=bj.1;obtain⟨k1,_⟩:=Ah bj;have nd:=k1.nodup_iff.2 (eX bj.2.2);have ul:=DU f t;have st:=bc (body:=u6) (λi=>(f,((Mg f):Int),(i:Int),vU [] (zf f t),(wg f t).take i,fU f (wg f t) i)) (Mg f) (λi N=>by
  have gf:=aq f i N;have qe3:lr 0 (vU [] (zf f t)) (f[i]!).1=(wg f t)[i]!:=by rw[afr _ _ _ nd,Do (k1.mem_iff.2 (dL.2 ⟨i,N,rfl⟩)),RO N]
  have el:=wZ (f:=f) (wg f t) i;have a1:aQ ((wg f t).take i) [(wg f t)[i]!]=Sv ((wg f t).take (i+1)):=by rw[cB (by omega)];exact ba (by rw[Mp,NE];omega)
  have a2:aQ _ [((f[i]!).1,(wg f t)[i]!)]=Sv (fU f (wg f t) i++[((f[i]!).1,(wg f t)[i]!)]):=ba (by rw[NE];omega);rw[abG];unfold u6;simp (disch:=omega) only[aA,ww,gf,aj,qe3,a1,a2,aN]
  by_cases c:0<=(wg f t)[i]!
  ·rw[aA c,ww,Do c]
  rw[aF c,AC,EQ c,YG])
 unfold tU;rw[aha bj r dK,aj];refine(st).trans (ar ?_);unfold u6
 grind
end
theorem qe8(a b:J Int)(I:(Mg a)<=1000000):jh a b=Sv (YF (a=b)):=by
 unfold jh;simp[]
 by_cases h:(Mg a)=Mg b
 case neg=>rw[cC (by omega),aF (λk=>h (by rw[k]))];rfl
 rw[aY (by omega)];simp;have key:=mu (body:=gD) (λi=>(a,b,((Mg a):Int),(i:Int))) (Mg a) (λi=>a[i]! =b[i]!) (r:=KL) (e:=al) (λi N=>by
  unfold gD;simp (disch:=omega) only[aq,aN]
  grind) (by
  unfold gD;simp)
 refine(key).trans ?_
 by_cases q:a=b
 ·grind
 rw[EQ (λw=>q (nj h w)),aF q]
theorem abH(a b:J Int)(I:(Mg a)<=1000000):fW a b=Sv (YF (a=b)):=by
 unfold fW;simp[]
 by_cases h:(Mg a)=Mg b
 case neg=>rw[cC (by omega),aF (λk=>h (by rw[k]))];rfl
 rw[aY (by omega)];simp;have key:=mu (body:=ji) (λi=>(a,b,(i:Int))) (Mg a) (λi=>a[i]! =b[i]!) (r:=KL) (e:=al) (λi N=>by
  unfold ji;simp (disch:=omega) only[aq,aN]
  grind) (by
  unfold ji;simp)
 refine(key).trans ?_
 by_cases q:a=b
 ·grind
 rw[EQ (λw=>q (nj h w)),aF q]
structure gC(k:bE):Prop where
 fI:aV k.lc
 up:wg k.lc.jp.am k.lc.io=k.up
 cert:(k.lc.af.ii.map λx=>x.2).Perm (fU k.lc.jp.am k.up (Mg k.lc.jp.am))
theorem c68{c:aE}(ok:aV c)(E:J _):
 (Mg E=Mg c.af.ii/\ ∀i,i<Mg c.af.ii->(c.af.ii[i]!).2∈E)↔(c.af.ii.map λx=>x.2).Perm E:=by
 have cl:(c.af.ii.map λx=>x.2).length=(Mg c.af.ii):=KJ ..;constructor
 ·rintro⟨D,S⟩
  refine gH (jQ ok.vX) (λx X=>?_) (by omega);obtain⟨i,N,rfl⟩:=dY.2 X;exact S i N
 intro h
 exact⟨by rw[<-h.length_eq,cl],λi N=>h.mem_iff.1 (dY.1 ⟨i,N,rfl⟩)⟩
theorem l11{c:aE}{E:J _}(nd:E.Nodup)(ld: ∀e∈E,leads (bm c.jp.am e.2) (bm c.jp.am e.1) c.io):
 (Mg c.af.ii=Mg E/\ ∀i,i<Mg E->rQ c.af.ii E[i]!/\leads (bm c.jp.am (E[i]!).2) (bm c.jp.am (E[i]!).1) c.io)↔(c.af.ii.map λx=>x.2).Perm E:=by
 have cl:(c.af.ii.map λx=>x.2).length=(Mg c.af.ii):=KJ ..;constructor
 ·rintro⟨D,S⟩
  refine(gH nd (λx X=>?_) (by omega)).symm;obtain⟨i,N,rfl⟩:=aU.1 X;exact dY.1 (S i N).1
 intro h
 exact⟨by rw[<-h.length_eq,cl],λi N=>⟨dY.2 (h.mem_iff.2 (aJ N)),ld _ (aJ N)⟩⟩
theorem aag(es:J _)(l:J yc)(D:(Mg es)<=1000000)(_:(Mg l)<=1000000):
 au pB (es,l,((Mg l):Int),0)=Sv (if∀i,i<Mg l->(l[i]!).2∈es then 0 else 8):=by
 have key:=mu (body:=pB) (λi=>(es,l,((Mg l):Int),(i:Int))) (Mg l) (λi=>(l[i]!).2∈es) (e:=0) (λi N=>by
  unfold pB;simp (disch:=omega) only[aA,aq l i N,aj,nH es _ D,aN];refine⟨λq=>?_,λq=>?_⟩
  ·rw[aF q];rfl
  ·rw[aA q];rfl) (by
  unfold pB;simp (disch:=omega) only[aF,AC])
 grind
theorem yu{k:bE}(fit:nm k.lc):hJ k=Sv (if gC k then 0 else 8):=by
 unfold hJ;rw[iR fit,aj]
 by_cases ok:aV k.lc
 case neg=>rw[EQ ok,EQ (λh=>ok h.fI)];rfl
 rw[Do ok,aY rfl,AC];have f1:=ok.fD.1;have hh:=RU ok.fD ok.ie ok.cO;have ul:=DU k.lc.jp.am k.lc.io;rw[hh,aj,qe8 _ _ (show(wg k.lc.jp.am k.lc.io).length<=1000000 by omega),aj]
 by_cases hn:wg k.lc.jp.am k.lc.io=k.up
 case neg=>rw[aF hn,EQ (λh:gC k=>hn h.up)];rfl
 have el:=wZ (f:=k.lc.jp.am) k.up (Mg k.lc.jp.am);have iff:=c68 ok (fU k.lc.jp.am k.up (Mg k.lc.jp.am));rw[aA hn,QK,AC,hn];simp[]
 by_cases hc:(fU k.lc.jp.am k.up (Mg k.lc.jp.am)).length=Mg k.lc.af.ii
 case neg=>rw[cC (by omega),ww,EQ (λh:gC k=>hc (iff.2 h.cert).1)]
 rw[aY (by omega),AC,aag _ _ (by omega) (by omega)]
 by_cases hj: ∀i,i<Mg k.lc.af.ii->(k.lc.af.ii[i]!).2∈fU k.lc.jp.am k.up (Mg k.lc.jp.am)
 ·rw[Do hj,Do (⟨ok,hn,iff.1 ⟨hc,hj⟩⟩)]
 rw[EQ hj,EQ (λh:gC k=>hj (iff.2 h.cert).2)]
theorem Ai{k:bE}(fit:nm k.lc):iv k=Sv (if gC k then 0 else 8):=by
 unfold iv;rw[vM fit,aj]
 by_cases ok:aV k.lc
 case neg=>rw[EQ ok,EQ (λh=>ok h.fI)];rfl
 rw[Do ok,aY rfl,AC];have f1:=ok.fD.1;have hu:=dgB ok.fD ok.cO;have ul:=DU k.lc.jp.am k.lc.io;rw[hu,aj,abH _ _ (show(wg k.lc.jp.am k.lc.io).length<=1000000 by omega),aj]
 by_cases hn:wg k.lc.jp.am k.lc.io=k.up
 case neg=>rw[aF hn,EQ (λh:gC k=>hn h.up)];rfl
 have of:=apS (f:=k.lc.jp.am) ul (by omega);obtain⟨En,nd,ld⟩:=CD ok.fD;rw[aA hn,QK,AC,of,aj,LV ok _ En.kn,aj];have iff:=l11 nd ld
 by_cases hj:(Mg k.lc.af.ii)=(fU k.lc.jp.am (wg k.lc.jp.am k.lc.io) (Mg k.lc.jp.am)).length/\ ∀i,i<(fU k.lc.jp.am (wg k.lc.jp.am k.lc.io) (Mg k.lc.jp.am)).length->rQ k.lc.af.ii (fU k.lc.jp.am (wg k.lc.jp.am k.lc.io) (Mg k.lc.jp.am))[i]!/\leads (bm k.lc.jp.am ((fU k.lc.jp.am (wg k.lc.jp.am k.lc.io) (Mg k.lc.jp.am))[i]!).2) (bm k.lc.jp.am ((fU k.lc.jp.am (wg k.lc.jp.am k.lc.io) (Mg k.lc.jp.am))[i]!).1) k.lc.io
 ·rw[aA hj,Do (⟨ok,hn,by grind⟩)];rfl
 rw[aF hj,EQ (λh:gC k=>hj (iff.2 (by rw[hn];exact h.cert)))];rfl
structure BS(k:bE):Prop where
 c:uu k.lc
 n:(Mg k.up)<=1000
theorem FF{k:bE}(h:BS k):kJ k k=Sv al:=by have hn:=h.n;unfold kJ;rw[DL h.c,aj,ww,abH _ _ (by omega),aj,aA rfl]
theorem l12(k:bE):xS k=Sv al\/(xS k=Sv KL/\BS k):=by
 unfold xS
 rcases Bd k.lc with e|⟨e,sh⟩
 ·grind
 rw[e,aj,AC,aB]
 by_cases h:70<Mg k.up
 ·grind
 rw[aF (by omega)];exact .inr ⟨rfl,sh,by omega⟩
theorem l14{c:aE}(ok:aV c){f:J Pt}(bj:aS f):
 ∃R:aE×Int,fw c ⟨f⟩ (fU f (wg f c.io) (Mg f))=Sv R/\fu c ⟨f⟩ (fU f (wg f c.io) (Mg f))=Sv R/\(R.2=0/\Bb c f (fU f (wg f c.io) (Mg f)) R.1\/R=(cE,18)):=by
 have f1:=bj.1;obtain⟨En,nd,_⟩:=CD bj;have el:=wZ (f:=f) (wg f c.io) (Mg f);obtain⟨R,r1,r2,r3⟩:=Jb ok bj En;have ee:lq f (fU f (wg f c.io) (Mg f))=0:=by unfold lq;rw[EQ (SI.2 En.cv),EQ (SI.2 nd),EQ (λh=>h En.kn)]
 have rn:=vQ ok bj (by omega) (λ_=>r1)
 grind
structure T4(c:aE)(f:List Pt)(R:bE×Int):Prop where
 err:R.2=0
 up:R.1.up=wg f c.io
 tj:Bb c f (fU f (wg f c.io) (Mg f)) R.1.lc
theorem Inl{c:aE}(ok:aV c){f:J Pt}(bj:aS f):
 ∃R:bE×Int,jE c ⟨f⟩=Sv R/\qO c ⟨f⟩=Sv R/\(T4 c f R\/R=(⟨cE,[]⟩,18)):=by
 have f1:=bj.1;obtain⟨R,r1,r2,r3⟩:=l14 ok bj;have hh:=RU bj ok.ie ok.cO;have hu:=dgB bj ok.cO;have of:=apS (DU f c.io) (by omega);unfold jE qO;rw[hh,aj,hu,aj,of,aj];rcases r3 with⟨q0,qq⟩|he
 ·refine⟨(⟨R.1,wg f c.io⟩,0),?_,?_,.inl ⟨rfl,rfl,qq⟩⟩
  ·rw[r1,aj,aY q0,AC]
  rw[r2,aj,aY q0,AC]
 grind
theorem Bb.same{c:aE}{f:J Pt}{es:J _}{r:aE}(h:Bb c f es r)(nd:es.Nodup):(r.af.ii.map λx=>x.2).Perm es:=by
 refine(List.perm_ext_iff_of_nodup (jQ h.ok.vX) nd).2 λx=>⟨λX=>?_,λX=>dY.1 (h.has x X)⟩
 obtain⟨y,hy,rfl⟩:=SJ.1 X;exact h.sub y hy
theorem T4.ok{c:aE}{f:J Pt}{R:bE×Int}(bj:aS f)(h:T4 c f R):gC R.1 where
 fI:=h.tj.ok
 up:=by rw[h.tj.fD,h.tj.io,h.up]
 cert:=by rw[h.tj.fD,h.up];exact h.tj.same (CD bj).2.1
def bV(p w:J Int)(i:Nat):Int:=if i<(Mg w)then w[i]! else p[i-(Mg w)]!
def pH(i j:Nat):Prop:= ∃d,(j+1) / 2^d=i+1
theorem pH.refl(i:Nat):pH i i:=⟨0,by simp⟩
theorem uy{i k j:Nat}(hk:k=2*i+1\/k=2*i+2)(h:pH k j):pH i j:=by obtain⟨d,hd⟩:=h;refine⟨d+1,?_⟩;rw[SK,<-Sw,hd];omega
theorem L3{a b c d:Nat}(h:a<=b)(hc:(c+1) / 2^a=d):(c+1) / 2^b=d / 2^(b-a):=by
 have:2^b=2^a*2^(b-a):=by rw[<-Nat.pow_add];congr 1;omega
 rw[this,<-Sw,hc]
theorem abI{x e:Nat}(he:0<e):x / 2^e<=x / 2:=by obtain⟨k,rfl⟩: ∃k,e=k+1:=⟨e-1,by omega⟩;rw[show 2^(k+1)=2*2^k by omega,<-Sw];exact Nat.div_le_self _ _
theorem yf{i j:Nat}(D:pH (2*i+1) j)(S:pH (2*i+2) j):False:=by
 obtain⟨a,ha⟩:=D;obtain⟨b,hb⟩:=S;rcases Ii a b with h|h|h
 ·have:=L3 (SH h) ha
  have:=abI (x:=2*i+1+1) (e:=b-a) (by omega);omega
 ·subst h;omega
 have:=L3 (SH h) hb
 have:=abI (x:=2*i+2+1) (e:=a-b) (by omega);omega
theorem ad2{i k j1 j2:Nat}(D:pH (2*i+1) j1)(S:pH (2*i+2) j2)(g:(pH (2*k+1) j1/\pH (2*k+2) j2)\/(pH (2*k+1) j2/\pH (2*k+2) j1)):i=k:=by
 have main: ∀{i k j1 j2:Nat},pH (2*i+1) j1\/pH (2*i+2) j1->pH i j2->(pH (2*k+1) j1/\pH (2*k+2) j2)\/(pH (2*k+1) j2/\pH (2*k+2) j1)-> ∀a a':Nat,(j1+1) / 2^a=i+1->(j1+1) / 2^a'=k+1->a<a'->False:=by
  intro i k j1 j2 _ u2 g a a' ha OT iY;have e:=L3 (SH iY) ha;obtain⟨c,hc⟩: ∃c,a'-a=c+1:=⟨a'-a-1,by omega⟩;rw[hc,SK,<-Sw]at e;have q: ∃m,(i+1) / 2^c=m+1/\(m=2*k+1\/m=2*k+2):=⟨(i+1) / 2^c-1,by omega,by omega⟩;obtain⟨m,hm,fm⟩:=q;have um: ∀j,pH i j->pH m j:=λj ⟨d,hd⟩=>⟨d+c,by rw[L3 (Nat.le_add_right d c) hd,show d+c-d=c by omega,hm]⟩
  have u1:pH i j1:=⟨a,ha⟩;have v1:=um _ u1;have v2:=um _ u2;rcases fm with rfl|rfl
  ·rcases g with g|g
   ·exact yf v2 g.2
   exact yf v1 g.2
  rcases g with g|g
  ·exact yf g.1 v1
  exact yf g.1 v2
 have i1:=uy (.inl rfl) D;have i2:=uy (.inr rfl) S;have k1:pH k j1:=by rcases g with g|g;exact uy (.inl rfl) g.1;exact uy (.inr rfl) g.2
 have k2:pH k j2:=by rcases g with g|g;exact uy (.inr rfl) g.2;exact uy (.inl rfl) g.1
 obtain⟨a,ha⟩:=i1;obtain⟨a',OT⟩:=k1;rcases Ii a a' with h|h|h
 ·exact(main (.inl D) i2 g a a' ha OT h).elim
 ·subst h;omega
 grind
def HU(p w:J Int):Prop:= ∀i,i<Mg w->w[i]! =bV p w (2*i+1)\/w[i]! =bV p w (2*i+2)
theorem DX{p w:J Int}(I:(Mg w)+1=Mg p)(hc:HU p w): ∀(d i:Nat),Mg w+Mg p-i<=d->i<Mg w+Mg p-> ∃j,Mg w<=j/\j<Mg w+Mg p/\pH i j/\p[j-(Mg w)]! =bV p w i:=by
 intro d
 induction d with
 |zero=>omega
 |succ d ih=>
  intro i D S
  by_cases N:i<Mg w
  ·rcases hc i N with e|e
   ·obtain⟨j,j1,j2,j3,j4⟩:=ih (2*i+1) (by omega) (by omega)
    refine⟨j,j1,j2,uy (.inl rfl) j3,?_⟩;rw[j4,<-e];unfold bV;rw[Do N]
   obtain⟨j,j1,j2,j3,j4⟩:=ih (2*i+2) (by omega) (by omega)
   refine⟨j,j1,j2,uy (.inr rfl) j3,?_⟩;rw[j4,<-e];unfold bV;rw[Do N]
  refine⟨i,by omega,S,.refl i,?_⟩
  unfold bV;rw[EQ N]
def FG(p:J Int):Prop:= ∀i j,i<j->j<Mg p->p[i]! =p[j]!->p[i]!<0
theorem FG.inj{p:J Int}(h:FG p){i j:Nat}(N:i<Mg p)(hj:j<Mg p)(e:p[i]! =p[j]!)(h0:0<=p[i]!):i=j:=by
 rcases Ii i j with k|k|k
 ·have:=h i j k hj e;omega
 ·exact k
 have:=h j i k N e.symm;omega
section
variable {p w : J Int} (I : (Mg w) + 1 = (Mg p)) (hc : HU p w) (ho : FG p)
include I hc
theorem mA{i:Nat}(N:i<Mg w+Mg p):bV p w i∈p:=by
 obtain⟨j,j1,j2,_,e⟩:=DX I hc _ i (If _) N
 grind
include ho
theorem Jr{i:Nat}(N:i<Mg w)(h0:0<=bV p w (2*i+1)):bV p w (2*i+1)≠bV p w (2*i+2):=by
 intro e;obtain⟨j,j1,j2,j3,j4⟩:=DX I hc _ (2*i+1) (If _) (by omega);obtain⟨k,k1,k2,k3,k4⟩:=DX I hc _ (2*i+2) (If _) (by omega);have:=ho.inj (i:=j-(Mg w)) (j:=k-(Mg w)) (by omega) (by omega) (by rw[j4,k4,e]) (by rw[j4];exact h0)
 grind[yf]
theorem ad3{i k:Nat}(N:i<Mg w)(hk:k<Mg w)(D:0<=bV p w (2*i+1))(S:0<=bV p w (2*i+2))
 (g:(bV p w (2*k+1)=bV p w (2*i+1)/\bV p w (2*k+2)=bV p w (2*i+2))\/(bV p w (2*k+1)=bV p w (2*i+2)/\bV p w (2*k+2)=bV p w (2*i+1))):i=k:=by
 obtain⟨j1,a1,a2,a3,a4⟩:=DX I hc _ (2*i+1) (If _) (by omega);obtain⟨j2,b1,b2,b3,b4⟩:=DX I hc _ (2*i+2) (If _) (by omega);obtain⟨l1,c1,c2,c3,c4⟩:=DX I hc _ (2*k+1) (If _) (by omega);obtain⟨l2,d1,d2,d3,d4⟩:=DX I hc _ (2*k+2) (If _) (by omega);have same: ∀{x y:Nat},Mg w<=x->x<Mg w+Mg p->Mg w<=y->y<Mg w+Mg p->p[x-(Mg w)]! =p[y-(Mg w)]!->0<=p[x-(Mg w)]!->x=y:=λ{x y} X ao hy UT e h0=>by have:=ho.inj (by omega) (by omega) e h0;omega
 grind[ad2]
end
noncomputable def CG(f:J Pt)(t:Int×Int)(x y:Int):Int:=if x<0 then y else if y<0 then x else if leads (bm f x) (bm f y) t then x else y
theorem fpS(f:J Pt)(t:Int×Int)(x y:Int):CG f t x y=x\/CG f t x y=y:=by unfold CG;omega
def Oh(f:J Pt)(t:Int×Int)(p w:J Int):Prop:=Mg w+1=Mg p/\ ∀i,i<Mg w->w[i]! =CG f t (bV p w (2*i+1)) (bV p w (2*i+2))
theorem Oh.w5{f:J Pt}{t:Int×Int}{p w:J Int}(h:Oh f t p w):HU p w:=λi N=>by rw[h.2 i N];exact fpS ..
noncomputable def Qn(f:J Pt)(t:Int×Int)(p:J Int):Nat->J Int->J Int
 |0,w=>w
 |i+1,w=>Qn f t p i (w.set i (CG f t (bV p w (2*i+1)) (bV p w (2*i+2))))
noncomputable def cy(f:J Pt)(t:Int×Int)(p:J Int):J Int:=Qn f t p (Mg p-1) (Y (Mg p-1) 0)
theorem goS{p w:J Int}{i k:Nat}{v:Int}(h:i≠k):bV p (w.set i v) k=bV p w k:=by
 unfold bV
 grind
theorem jnE{f:J Pt}{t:Int×Int}{p:J Int}: ∀(n:Nat) (w:J Int),n<=Mg w->(∀i,n<=i->i<Mg w->w[i]! =CG f t (bV p w (2*i+1)) (bV p w (2*i+2)))->
 (Qn f t p n w).length=Mg w/\ ∀i,i<Mg w->(Qn f t p n w)[i]! =CG f t (bV p (Qn f t p n w) (2*i+1)) (bV p (Qn f t p n w) (2*i+2))
 |0,w,_,h=>⟨rfl,λi N=>h i (Nat.zero_le _) N⟩
 |n+1,w,hn,h=>by
  have ih:=jnE n (w.set n (CG f t (bV p w (2*n+1)) (bV p w (2*n+2)))) (by grind) (λi D S=>by
   rw[Md]at S;rw[goS (by omega),goS (by omega),bQ];split
   ·rename_i e;rw[e.1]
   grind)
  rw[Md]at ih;exact ih
theorem eh{f:J Pt}{t:Int×Int}{p:J Int}(hp:1<=Mg p):Oh f t p (cy f t p):=by have:=jnE (f:=f) (t:=t) (p:=p) (Mg p-1) (Y (Mg p-1) 0) (by simp) (λi D S=>by grind);rw[IR]at this;have I:(cy f t p).length=Mg p-1:=this.1;exact⟨by omega,λi N=>this.2 i (by omega)⟩
theorem jnK{f:J Pt}{t:Int×Int}{p w v:J Int}(h:Oh f t p w)(g:Oh f t p v):w=v:=by
 have I:(Mg w)=(Mg v):=by have:=h.1;have:=g.1;omega
 have key: ∀(d i:Nat),Mg w-i<=d->i<Mg w->w[i]! =v[i]!:=by
  intro d
  induction d with
  |zero=>omega
  |succ d ih=>
   intro i _ N;have nd: ∀k,i<k->bV p w k=bV p v k:=λk hk=>by
    unfold bV
    grind
   rw[h.2 i N,g.2 i (by omega),nd _ (by omega),nd _ (by omega)]
 exact nj I λi N=>key _ i (If _) N
noncomputable def Ed(p w:J Int)(i:Nat):O (Int×Int):=
 if bV p w (2*i+1)<0\/bV p w (2*i+2)<0 then none
 else if w[i]! =bV p w (2*i+1)then Sv (bV p w (2*i+2),bV p w (2*i+1))else Sv (bV p w (2*i+1),bV p w (2*i+2))
noncomputable def kL(p w:J Int):J (Int×Int):=(List.range (Mg w)).filterMap (Ed p w)
theorem afu(p w:J Int):(kL p w).length<=(Mg w):=by
 have:=List.length_filterMap_le (Ed p w) (List.range (Mg w))
 rwa [List.length_range]at this
theorem HV{p w:J Int}{e:Int×Int}:e∈kL p w↔ ∃i,i<Mg w/\Ed p w i=Sv e:=by unfold kL;simp
theorem HW{p w:J Int}{i:Nat}{e:Int×Int}(h:Ed p w i=Sv e):0<=bV p w (2*i+1)/\0<=bV p w (2*i+2)/\
 ((e=(bV p w (2*i+2),bV p w (2*i+1))/\w[i]! =bV p w (2*i+1))\/(e=(bV p w (2*i+1),bV p w (2*i+2))/\w[i]!≠bV p w (2*i+1))):=by
 unfold Ed at h
 grind
theorem ajI{α β:Type}{g:α->O β}: ∀{l:J α},l.Nodup->(∀x∈l,∀y∈l,∀b,g x=Sv b->g y=Sv b->x=y)->(l.filterMap g).Nodup
 | [],_,_=> .nil
 |a::r,h,N=>by
  obtain⟨D,S⟩:=GH.1 h;have ih:=ajI S (λx X y hy b e1 e2=>N x (PP _ X) y (PP _ hy) b e1 e2)
  grind
theorem age{p w:J Int}(I:(Mg w)+1=Mg p)(hc:HU p w)(ho:FG p):(kL p w).Nodup:=by
 refine ajI List.nodup_range λi N k hk b e1 e2=>?_
 grind[HW,ad3]
theorem aah{f:J Pt}(bj:aS f){p w:J Int}(I:(Mg w)+1=Mg p)(hn:(Mg p)<=64)(hc:HU p w)(ho:FG p)(hk: ∀x∈p,0<=x->dZ f x):Bc f (kL p w):=by
 have hp: ∀e∈kL p w,lK f e/\e.1≠e.2:=λe he=>by
  obtain⟨i,N,h⟩:=HV.1 he;obtain⟨a1,a2,a3⟩:=HW h;have m1:=mA I hc (i:=2*i+1) (by omega);have m2:=mA I hc (i:=2*i+2) (by omega);have ne:=Jr I hc ho N a1;rcases a3 with⟨rfl,_⟩|⟨rfl,_⟩
  ·exact⟨⟨hk _ m2 a2,hk _ m1 a1⟩,λh=>ne h.symm⟩
  exact⟨⟨hk _ m1 a1,hk _ m2 a2⟩,ne⟩
 refine⟨by have:=afu p w;omega,λe he=>?_,λe he=>(hp e he).1⟩;obtain⟨⟨D,S⟩,ne⟩:=hp e he;obtain⟨⟨p1,p2⟩,q1,q2⟩:=And.intro (bU bj D) (bU bj S);unfold gO at p1 q1;unfold jO;omega
def LG(f:J Pt)(x:Int):Prop:=x= -1\/(0<=x/\dZ f x)
theorem LG.has{f:J Pt}{x:Int}(h:LG f x)(h0:0<=x):dZ f x:=by rcases h with h|h;omega;exact h.2
theorem CH{p w:J Int}{i:Nat}(N:i<Mg w+Mg p)(hb:(Mg w)+Mg p<=1000):mi ⟨p,w⟩ (i:Int)=Sv (bV p w i):=by
 unfold mi bV;simp only[aB]
 by_cases h:i<Mg w
 ·simp_all[aq,]
 rw[aF (by omega),AC,dN ⟨by omega,by omega⟩,show(i:Int) - ((Mg w):Int)=((i-(Mg w):Nat):Int) by omega,aq p _ (by omega),aj,EQ h]
theorem yv{p w:J Int}{i:Nat}(N:i<Mg w+Mg p)(hb:(Mg w)+Mg p<=1000):la ⟨p,w⟩ (i:Int)=Sv (bV p w i):=by
 unfold la bV;have e:M d5 _=(i:Int) - ((Mg w):Int):=dN ⟨by omega,by omega⟩;simp only[aB,e]
 by_cases h:i<Mg w
 ·simp_all[aF,aq,]
 rw[aA (by omega),ww,show(i:Int) - ((Mg w):Int)=((i-(Mg w):Nat):Int) by omega,aq p _ (by omega),aj,EQ h]
theorem sZ{i:Nat}(h:i<1000)(k:Nat)(hk:k<=2):M d5 ((M d5 (2*(i:Int)))+(k:Int))=((2*i+k:Nat):Int):=by
 grind[dN]
theorem afv{f:J Pt}(bj:aS f){t:Int×Int}(dK:jo t){x y:Int}(X:LG f x)(hy:LG f y):Cp ⟨f⟩ t x y=Sv (CG f t x y):=by
 unfold Cp CG
 by_cases D:x<0
 ·rw[aA D,ww,Do D]
 rw[aF D,AC,EQ D]
 by_cases S:y<0
 ·rw[aA S,ww,Do S]
 have p1:=X.has (by omega);have p2:=hy.has (by omega);obtain⟨j,j1,j2,j3⟩:=yr bj p1;obtain⟨k,k1,k2,k3⟩:=yr bj p2;simp[j2,k2,aq f j j1,aq f k k1,j3,k3,Ct (bU bj p1).1 (bU bj p2).1 dK]
 grind
theorem ajJ:dH=bk:=rfl
theorem w8{f:J Pt}(bj:aS f){x:Int}(h:dZ f x): ∃k,k<Mg f/\mW ⟨f⟩ x=Sv ((k:Int),al)/\f[k]! =bm f x:=by have D:=bj.1;have bs:=vK f x (by omega) (λi j=>eW bj.2.2);obtain⟨k,hk,he⟩:=h;refine⟨k,hk,?_,(nZ bj.2.2 hk he).symm⟩;unfold mW;rw[ajJ,bs.1 k hk he];rfl
theorem c81{f:J Pt}(bj:aS f){x:Int}(h: ¬dZ f x): ∃m:Nat,mW ⟨f⟩ x=Sv ((m:Int),KL):=by have D:=bj.1;have bs:=vK f x (by omega) (λi j=>eW bj.2.2);obtain⟨m,_,_,_,e⟩:=bs.2 (λk hk he=>h ⟨k,hk,he⟩);refine⟨m,?_⟩;unfold mW;rw[ajJ,e];rfl
theorem c69{f:J Pt}(bj:aS f){t:Int×Int}(r:bI t)(dK:jo t){x y:Int}(X:LG f x)(hy:LG f y)(fk:0<=x->x≠y):xU ⟨f⟩ t x y=Sv (CG f t x y):=by
 unfold xU CG
 by_cases D:x<0
 ·rw[aA (by split<;>omega),ww,Do D]
  have:x= -1:=by rcases X with h|h;exact h;omega
  have: -1<=y:=by rcases hy with h|h<;>omega
  congr 1
  split<;>omega
 rw[EQ D]
 by_cases S:y<0
 ·rw[aA (by split<;>omega),ww,Do S]
  congr 1
  split<;>omega
 rw[aF (by split<;>omega),AC,EQ S];have p1:=X.has (by omega);have p2:=hy.has (by omega);obtain⟨j,j1,j2,j3⟩:=w8 bj p1;obtain⟨k,k1,k2,k3⟩:=w8 bj p2;obtain⟨a1,a2⟩:=bU bj p1;obtain⟨b1,b2⟩:=bU bj p2;simp[j2,k2,aq f j j1,aq f k k1,j3,k3];rcases pE a1 b1 dK r with h|⟨h,_⟩
 ·rw[h,aj]
  by_cases h:leads (bm f x) (bm f y) t
  ·rw[Do h];dsimp only;rw[aA h,ww]
  rw[EQ h];dsimp only;rw[aF h,AC]
 omega
def wj(B:J Int)(i:Nat):J Int:=Y i 0++B.drop i
theorem CI{B:J Int}{i:Nat}(h:i<=Mg B):(wj B i).length=(Mg B):=by unfold wj;grind
theorem KB{B:J Int}{i k:Nat}(h:i<=k)(N:i<=Mg B):(wj B i)[k]! =B[k]!:=by
 unfold wj
 grind
theorem DY{p B:J Int}{i k:Nat}(h:i<=k)(N:i<=Mg B):bV p (wj B i) k=bV p B k:=by
 unfold bV
 grind[CI,KB]
theorem afw{B:J Int}{i:Nat}(h:i<Mg B):(wj B (i+1)).set i B[i]! =wj B i:=by
 refine nj (by grind[Md,CI]) λk hk=>?_
 rw[bQ]
 by_cases e:k=i
 ·rw[Do ⟨e,by grind[CI]⟩,KB (by omega) (by omega),e]
 rw[EQ (λx=>e x.1)]
 by_cases S:k<i
 ·unfold wj
  rw[jx (by rw[IR];omega),jx (by rw[IR];omega)];rw[getElem!_pos _ k (by rw[IR];omega),getElem!_pos _ k (by rw[IR];omega),Mi,Mi]
 grind[KB]
section
variable {f : J Pt} (bj : aS f) {t : Int × Int} (r : bI t) (dK : jo t) {p : J Int} (D : 1 <= (Mg p)) (Ph : (Mg p) <= 64) (hk : ∀ x ∈ p, LG f x)
include bj dK D Ph hk
theorem L4{i:Nat}(N:i<(cy f t p).length+Mg p):LG f (bV p (cy f t p) i):=by have:=bj;have:=dK;have:=Ph;exact hk _ (mA (eh D).1 (eh D).w5 N)
theorem c83{i:Nat}(N:i<(cy f t p).length):
 qN ((i:Int),f,t.1,t.2,p,wj (cy f t p) (i+1))=Sv (.next ((i:Int)-1,f,t.1,t.2,p,wj (cy f t p) i)):=by
 have R:=eh (f:=f) (t:=t) D;have bl:=R.1;have pl:=CI (B:=cy f t p) (i:=i+1) (by omega);unfold qN;simp;have k1:=sZ (i:=i) (by omega) 1 (by omega);have k2:=sZ (i:=i) (by omega) 2 (by omega);rw[show M d5 (M d5 (2*(i:Int))+1)=((2*i+1:Nat):Int)from k1,show M d5 (M d5 (2*(i:Int))+2)=((2*i+2:Nat):Int)from k2];rw[CH (by omega) (by omega),aj,CH (by omega) (by omega),aj,DY (by omega) (by omega),DY (by omega) (by omega)];rw[afv bj dK (L4 bj dK D Ph hk (by omega)) (L4 bj dK D Ph hk (by omega)),aj,aq _ i (by omega),aj,<-R.2 i N];show Sv (Step.next (_,f,t.1,t.2,p,(wj (cy f t p) (i+1)).set i _))=_
 grind[afw,dN]
theorem c70:A2 ⟨f⟩ t p=Sv ⟨p,cy f t p⟩:=by
 have R:=eh (f:=f) (t:=t) D;have bl:=R.1;have w1:=p5 (by omega) D;have loop: ∀n:Nat,n<=(cy f t p).length->au qN ((n:Int)-1,f,t.1,t.2,p,wj (cy f t p) n)=Sv ⟨p,cy f t p⟩:=by
  intro n
  induction n with
  |zero=>intro _;refine ar ?_;unfold qN;rfl
  |succ n ih=>intro hn;have st:=c83 bj dK D Ph hk (i:=n) (by omega);rw[show((n+1:Nat):Int)-1=(n:Int) by omega,aD st];exact ih (by omega)
 unfold A2;simp (disch:=omega) only[bJ,aB,w1,NJ,];have:=loop _ (If _);unfold wj at this
 grind[YI,dN]
include r
theorem ckT(ho:FG p){i:Nat}(N:i<(cy f t p).length):
 oi ((i:Int),f,t.1,t.2,p,wj (cy f t p) (i+1))=Sv (.next ((i:Int)-1,f,t.1,t.2,p,wj (cy f t p) i)):=by
 have R:=eh (f:=f) (t:=t) D;have bl:=R.1;have pl:=CI (B:=cy f t p) (i:=i+1) (by omega);unfold oi;simp;have k1:=sZ (i:=i) (by omega) 1 (by omega);have k2:=sZ (i:=i) (by omega) 2 (by omega);rw[show M d5 (M d5 (2*(i:Int))+1)=((2*i+1:Nat):Int)from k1,show M d5 (M d5 (2*(i:Int))+2)=((2*i+2:Nat):Int)from k2];rw[yv (by omega) (by omega),aj,yv (by omega) (by omega),aj,DY (by omega) (by omega),DY (by omega) (by omega)];rw[c69 bj r dK (L4 bj dK D Ph hk (by omega)) (L4 bj dK D Ph hk (by omega)) (λh0=>Jr R.1 R.w5 ho N h0),aj,aq _ i (by omega),aj,<-R.2 i N];show Sv (Step.next (_,f,t.1,t.2,p,(wj (cy f t p) (i+1)).set i _))=_
 grind[afw,dN]
theorem c36:By ⟨f⟩ p=Sv al:=by
 have:=r;have:=dK
 have st:=bc (body:=rf) (λi=>(p,((Mg p):Int),(i:Int),f)) (Mg p) (λi N=>by
  have id:=hk _ (aJ N);unfold rf;simp (disch:=omega) only[aA,ww,aq p i N,aj,aN]
  by_cases h:dZ f p[i]!
  ·obtain⟨k,_,e,_⟩:=w8 bj h
   rw[e,aj,ww]
  obtain⟨m,e⟩:=c81 bj h
  rw[e,aj,AC];rcases id with id|id
  ·rw[ju id];rfl
  exact absurd id.2 h)
 refine(st).trans (ar ?_);unfold rf;simp
def On(p:J Int):Nat->J (Int×Bool)
 |0=>nO [] (-1) KL
 |i+1=>nO (On p i) p[i]! (YF (0<=p[i]!))
omit bj r dK D Ph hk in
theorem Oo(p:J Int): ∀(i:Nat) (k:Int),lr KL (On p i) k=YF (0<=k/\ ∃j,j<i/\p[j]! =k)
 |0,k=>by unfold On;rw[Jl];rw[decide_eq_false (λh=>by obtain⟨_,j,hj,_⟩:=h;omega)];split<;>rfl
 |i+1,k=>by
  unfold On;rw[Jl,Oo p i k]
  by_cases e:k=p[i]!
  ·rw[Do e]
   refine decide_eq_decide.2 ⟨λh=>⟨by omega,i,by omega,e.symm⟩,λh=>by omega⟩
  rw[EQ e]
  refine decide_eq_decide.2 ⟨λ⟨h,j,hj,X⟩=>⟨h,j,by omega,X⟩,λ⟨h,j,hj,X⟩=>⟨h,j,?_,X⟩⟩;rcases Nat.lt_or_ge j i with S|S
  ·exact S
  obtain rfl:j=i:=by omega
  exact absurd X.symm e
omit bj r dK D Ph hk in
theorem aai{p:J Int}(ho:FG p){i:Nat}(N:i<Mg p):lr KL (On p i) p[i]! =KL:=by
 rw[Oo];refine decide_eq_false λ⟨h0,j,hj,e⟩=>?_
 have:=ho j i hj N e;omega
theorem ajK(ho:FG p):rV ⟨f⟩ t p=Sv (⟨p,cy f t p⟩,0):=by
 have R:=eh (f:=f) (t:=t) D;have bl:=R.1;have w1:=p5 (by omega) D;have loop: ∀n:Nat,n<=(cy f t p).length->au oi ((n:Int)-1,f,t.1,t.2,p,wj (cy f t p) n)=Sv (.done (⟨p,cy f t p⟩,0)):=by
  intro n
  induction n with
  |zero=>intro _;refine ar ?_;rfl
  |succ n ih=>intro hn;have st:=ckT bj r dK D Ph hk ho (i:=n) (by omega);rw[show((n+1:Nat):Int)-1=(n:Int) by omega,aD st];exact ih (by omega)
 have qa1:dm ⟨f⟩=Sv 0:=by rw[fR];exact congrArg Sv (eV.2 bj)
 unfold rV Bx;simp (disch:=omega) only[qa1,bR dK,Do r,aB,aF,c36 bj r dK D Ph hk,];have st:=bc (body:=rh 0 p) (λi=>(p,((Mg p):Int),(i:Int),f,t.1,t.2,On p i)) (Mg p) (λi N=>by unfold rh;simp (disch:=omega) only[aA,aq p i N,aj,aai ho N,aN];rfl);refine(st).trans (ar ?_);unfold rh;simp (disch:=omega) only[bJ,aB,w1,NJ,];have:=loop _ (If _);unfold wj at this
 grind[YI,dN]
end
end Go.Proofs.YtbelikaakgedaaaGreat
