/- Plain laws (3). -/
import Derived.Test.YtkdikjnhkfffjaaGreatPQM2
import Derived.Test.YtkdikjnhkfffjaaGreatPQS3
open List renaming length_append->EQ,mem_cons_of_mem->If,length_drop->IR,length_map->UV,length_cons->WF,mem_append->aai,length_nil->aaQ,mem_cons_self->ab0,mem_map->abt,length_set->abv,nodup_cons->abw,length_singleton->abx,drop_zero->abB,length->abF
open Int renaming mul_right_comm->NE,mul_le_mul_of_nonneg_right->aaP,le_of_mul_le_mul_right->abq,le_trans->abu,natAbs_mul->abC,mul_comm->abE
open Classical renaming byContradiction->PP,not_not->aby
open Nat renaming lt_trichotomy->abr,dvd_mul_left->abz,not_lt_zero->abA
open Bool renaming not_true->abD,true->abL,false->abM
open Option renaming some->abK
open Decidable renaming decide->abN
namespace Go.Proofs.YtkdikjnhkfffjaaGreat
open Go.Vm Classical
theorem Hv{ds:List wk}(hu:Up ds)(hl:(abF ds)<=1000000)(n:Int):(∀k,k<abF ds->(ds[k]!).1=n->rl ds n=abK ((k:Int),abL))/\((∀k,k<abF ds->(ds[k]!).1≠n)-> ∃m:Nat,rl ds n=abK ((m:Int),abM)):=by
 have bs:=tj ds n hl (xf.1 hu);unfold rl;rw[ahb];constructor
 ·intro k hk he;rw[bs.1 k hk he];rfl
 intro h
 obtain⟨m,_,_,_,e⟩:=bs.2 h;exact⟨m,by rw[e];rfl⟩
theorem aT.bd{c:aH}(ok:aT c):(abF c.io)<=200/\abF c.ii.am<=64/\abF c.af.ce<=200:=by have:=ok.hd;have:=ok.nB.bd;have:=ok.dI.1;have:=ok.wF.len;omega
theorem jc{c:aH}(ok:aT c):mf c=abK c:=by
 have bd:=ok.bd;have ab:=ok.nB.bd;have hl:=ok.nB.so.fl;have hn:=ok.nB.so.n2;have hu:=ok.nB.so.ul;unfold mf;simp only[cM (show(abF c.ii.am)<=1048576 by omega),cM (show(abF c.af.ce)<=1048576 by omega),cM (show(abF c.io)<=1048576 by omega),cM (show(abF c.ae.bv)<=1048576 by omega),cM (show(abF c.ae.aC)<=1048576 by omega),
  cM (show(abF c.ae.ai.ay)<=1048576 by omega),cM (show(abF c.ae.ai.be)<=1048576 by omega),cM (show(abF c.ae.ai.bi)<=1048576 by omega),aj]
theorem tC{cs:List wk}{i:Nat}(hu:Up cs)(hi:i<abF cs){x:wk}(hx:x∈cs.eraseIdx i):x∈cs/\x.1≠(cs[i]!).1:=by
 rw[Ga,aai]at hx;have ub:=xf.1 hu;rcases hx with hx|hx
 ·obtain⟨j,h1,h2,rfl⟩:=cS.1 hx
  have:=ub j i h1 hi;exact⟨aE h2,by omega⟩
 obtain⟨j,hj,rfl⟩:=aN.1 hx
 rw[IR]at hj;rw[Ad];have:=ub i (i+1+j) (by omega) (by omega);exact⟨aE (by omega),by omega⟩
theorem Ir{c:aH}(ok:aT c)(i:Nat)(hi:i<abF c.af.ce): ∀j,j<(tu c.af i).ce.length->kr c.ii.am ((tu c.af i).ce[j]!).2:=by intro j hj;have hm:(tu c.af i).ce[j]!∈c.af.ce:=(tC ok.tB hi (aE hj)).1;obtain⟨m,Wz,V1⟩:=aN.1 hm;rw[<-V1];exact ok.known m Wz
theorem TP{c:aH}(ok:aT c){i:Nat}(hi:i<abF c.af.ce):
 ∃c':aH,jF c (c.af.ce[i]!).1=abK (c',(c.af.ce[i]!).2,0)/\aT c'/\c'.ii=c.ii/\c'.ci=c.ci/\c'.af=tu c.af i:=by
 have bd:=ok.bd;have rm:=C2 ok.wF hi (n:=(c.af.ce[i]!).1) rfl;have fe:=ok.AA.erase (i:=i) hi;have pd:=Hv ok.KT (by omega) (c.af.ce[i]!).1;cases hf:(bP c.ii.am (c.af.ce[i]!).2 c.ci).2 with
 |false=>
  have no: ∀k,k<abF c.io->(c.io[k]!).1≠(c.af.ce[i]!).1:=by
   intro k hk he;obtain⟨x,hx,h1,h2,_⟩:=ok.AA.io _ (aE hk);obtain⟨j,hj,rfl⟩:=aN.1 hx;have ub:=xf.1 ok.tB;have:j=i:=by
    rcases abr j i with h|h|h
    ·have:=ub j i h hi;omega
    ·exact h
    have:=ub i j h hj;omega
   rw[this,hf]at h2;cases h2
  refine⟨⟨c.ci,c.ii,tu c.af i,c.ae,c.io⟩,?_,?_,rfl,rfl,rfl⟩
  ·unfold jF
   obtain⟨m,e⟩:=pd.2 no;simp only[rm,aj,show((0:Int) !=0)=abM from rfl,ww,jc ok,e]
  exact⟨ok.gZ,ok.dP,ok.dI,KS ok.wF hi,ok.nB,ok.Hu,ok.hd,Ir ok i hi,fe.1 hf⟩
 |true=>
  obtain⟨k,hk,k1,k2,k3⟩:=fe.2 hf;obtain⟨w,hw,me⟩:=aN.1 k2;have hh:(c.ae.bv[w]!).2.2.2=(c.io[k]!).2:=by rw[me]
  have ub:=xf.1 ok.KT;have dl:(c.io.eraseIdx k).length=abF c.io-1:=Gc hk;obtain⟨L,d1,d2⟩:=yX c.io k hk;refine⟨⟨c.ci,c.ii,tu c.af i,fu c.ae w,c.io.eraseIdx k⟩,?_,?_,rfl,rfl,rfl⟩
  ·unfold jF
   simp only[rm,aj,show((0:Int) !=0)=abM from rfl,ww,jc ok,pd.1 k hk k1,v6,ar c.io k hk,uG ok.nB hw ok.nB.fit hh,aM (show k<1000000000 by omega),KN,d1,d2]
  have rem:=Hr ok.nB hw
  have W9:=KM ok.nB hw;have eX:(fu c.ae w).bv.length=abF c.ae.bv-1:=by
   have h1:=rem.hl;have h2:=ok.nB.hl;have h3:(fu c.ae w).ai=qj c.ae.ai (c.ae.bv[w]!).2.2.2:=by unfold fu;split<;>rfl
   rw[h3]at h1;change _+(c.ae.ai.bi++[_]).length=(abF c.ae.ai.ay)at h1;rw[EQ]at h1;simp only[WF,aaQ]at h1;omega
  have ahd:(fu c.ae w).aC.length=200:=by
   have h1:=rem.wl;have h3:(fu c.ae w).ai=qj c.ae.ai (c.ae.bv[w]!).2.2.2:=by unfold fu;split<;>rfl
   rw[h3]at h1;change _=(abF c.ae.ai.ay)at h1;rw[h1,<-ok.nB.wl,ok.Hu]
  refine⟨ok.gZ,ok.dP,ok.dI,KS ok.wF hi,rem,ahd,?_,Ir ok i hi,?_⟩
  ·show(fu c.ae w).bv.length=(c.io.eraseIdx k).length
   rw[eX,dl,ok.hd]
  refine k3.mono λx hx e he hm=>(W9 e).2 ⟨hm,λh=>?_⟩
  have:=(tC ok.tB hi hx).2;rw[h,me]at he;exact this he.symm
theorem BS{c:aH}(ok:aT c){i:Nat}(_hi:i<abF c.af.ce){c':aH}(h:jF c (c.af.ce[i]!).1=abK (c',(c.af.ce[i]!).2,0)):wW c (c.af.ce[i]!).1=abK (c',0):=by unfold wW;rw[iF ok.fit,AC ok];simp only[aj,show((0:Int) !=0)=abM from rfl,ww,h]
abbrev eQ:aH:=⟨(0,0),⟨[]⟩,⟨0,[]⟩,⟨⟨[],[],[]⟩,[],[]⟩,[]⟩
theorem OQ{l:List Pt}(ok:aR l){id:Int}(h:dY l id): ¬(bC l id).1<0:=by obtain⟨h1,_⟩:=bK ok h;have:=h1.1;omega
theorem Vl{c:aH}(ok:aT c){x:Int×Int}(hx:jB x)(hb:kr c.ii.am x)(hn: ¬qy c.af.ce x):
 (j9 c x=abK (eQ,0,18)/\(Ip c.af\/ ¬CW c.ae.ai))\/
 ∃c':aH,j9 c x=abK (c',c.af.aW,0)/\aT c'/\c'.ii=c.ii/\c'.ci=c.ci/\c'.af=tq c.af x/\(c'.ae.ai=c.ae.ai\/c'.ae.ai=pB c.ae.ai):=by
 have bd:=ok.bd;have n0:=ok.wF.n0;have n1:=ok.wF.n1;have fit:=ok.fit;have ad:=Ra ok.wF hx;have hc:fG c=abK 0:=by rw[iF fit,AC ok]
 have p1:=pC ok.dI x.1;have p2:=pC ok.dI x.2;have q1:=OQ ok.dI hb.1;have q2:=OQ ok.dI hb.2;have wh:=zA ok.dI hx ok.gZ ok.dP
 by_cases hf:Ip c.af
 ·rw[AC hf]at ad
  left;refine⟨?_,.inl hf⟩
  unfold j9 ef
  simp_all[aA,]
 have cok:=TO ok.wF hx hn hf;have aaD: ∀j,j<(tq c.af x).ce.length->kr c.ii.am ((tq c.af x).ce[j]!).2:=by
  intro j hj;rw[DQ]at hj;rw[xX]
  by_cases h:j<abF c.af.ce
  ·rw[AC h];exact ok.known j h
  grind
 have fresh: ∀e∈c.ae.bv,Ev.num e≠c.af.aW:=by intro e he fo;obtain⟨d,hd,h1⟩:=ok.C0 e he;obtain⟨y,hy,h2,_⟩:=ok.AA.io d hd;obtain⟨j,hj,rfl⟩:=aN.1 hy;have:=(ok.wF.nr j hj).2;omega
 have sn:=ok.AA.snoc (x:=(c.af.aW,x));cases hw:(bP c.ii.am x c.ci).2 with
 |false=>
  right;refine⟨⟨c.ci,c.ii,tq c.af x,c.ae,c.io⟩,?_,⟨ok.gZ,ok.dP,ok.dI,cok,ok.nB,ok.Hu,ok.hd,aaD,sn.1 hw⟩,rfl,rfl,rfl,.inl rfl⟩
  unfold j9 ef
  simp_all[aA,jc]
 |true=>
  obtain⟨t1,t2⟩:=F6 (bK ok.dI hb.2).1 (bK ok.dI hb.1).1 ok.dP ok.gZ hw
  by_cases op:CW c.ae.ai
  ·right
   have pu:=Ah ok.nB op ok.nB.fit (t:=(bP c.ii.am x c.ci).1) t1 t2 n0 n1 fresh;have pok:=Vk ok.nB op (t:=(bP c.ii.am x c.ci).1) t1 t2 n0 n1 fresh;have Xa:=Q9 ok.nB op (n:=c.af.aW) t1;have ahf:=F' ok.nB op (t:=(bP c.ii.am x c.ci).1) (n:=c.af.aW) t1;have ap: ∀h:Int×Int,ba c.io [(c.af.aW,h)]=abK _:=λh=>bG (by simp;omega)
   have ahd:(tg c.ae (bP c.ii.am x c.ci).1 c.af.aW).aC.length=200:=by have:=pok.wl;change _=(c.ae.ai.ay.set _ _).length at this;rw[abv]at this;rw[this,<-ok.nB.wl,ok.Hu]
   refine⟨⟨c.ci,c.ii,tq c.af x,tg c.ae _ c.af.aW,c.io++[(c.af.aW,xd c.ae.ai)]⟩,?_,⟨ok.gZ,ok.dP,ok.dI,cok,pok,ahd,?_,aaD,?_⟩,rfl,rfl,rfl,.inr rfl⟩
   ·unfold j9 ef
    simp_all[aA,jc,]
   ·show(tg c.ae _ c.af.aW).bv.length=(c.io++[_]).length
    rw[ahf,EQ,ok.hd];rfl
   have fm:=ok.AA.mono λy hy e he hm=>(Xa e).2 (.inr hm)
   exact(fm.snoc).2 _ hw rfl ((Xa _).2 (.inl rfl))
  left
  have pu:=Ai ok.nB op ok.nB.fit (t:=(bP c.ii.am x c.ci).1) t1 t2 n0 n1 fresh
  unfold j9 ef
  simp_all[aA,jc,]
theorem Up.inj{cs:List wk}(h:Up cs){x y:wk}(hx:x∈cs)(hy:y∈cs)(he:x.1=y.1):x=y:=by
 obtain⟨i,hi,rfl⟩:=aN.1 hx;obtain⟨j,hj,rfl⟩:=aN.1 hy;have ub:=xf.1 h;rcases abr i j with h1|h1|h1
 ·have:=ub i j h1 hj;omega
 ·rw[h1]
 have:=ub j i h1 hi;omega
structure KU(c:aH)(f:List Pt)(i k:Nat)(a:aS)(ds:List wk):Prop where
 ok:gb a
 w2:(abF a.aC)=200
 new:bk f c.ci a.bv (c.af.ce.take i) ds
 old:bk c.ii.am c.ci a.bv (c.af.ce.drop i) (c.io.drop k)
 kl:k<=abF c.io
 cnt:(abF a.bv)=abF ds+(abF c.io-k)
theorem ahg{a:aS}(ok:gb a){w:Nat}(hw:w<abF a.bv):(fu a w).bv.length=abF a.bv-1/\(fu a w).aC.length=(abF a.aC):=by
 have rem:=Hr ok hw;have h3:(fu a w).ai=qj a.ai (a.bv[w]!).2.2.2:=by unfold fu;split<;>rfl
 have h1:=rem.hl;have h2:=ok.hl;have h4:=rem.wl;rw[h3]at h1 h4;change _+(a.ai.bi++[_]).length=(abF a.ai.ay)at h1;change _=(abF a.ai.ay)at h4;rw[EQ]at h1;simp only[WF,aaQ]at h1;exact⟨by omega,by rw[h4,ok.wl]⟩
theorem adp{a:aS}{t:Int×Int}{n:Int}(ok:gb a)(pok:gb (tg a t n)):(tg a t n).aC.length=(abF a.aC):=by have:=pok.wl;change _=(a.ai.ay.set _ _).length at this;rw[abv]at this;rw[this,ok.wl]
theorem bk.len{l:List Pt}{t:Int×Int}{H:List Ev}: ∀{cs ds:List wk},bk l t H cs ds->abF ds<=abF cs
 | [],ds,h=>by rw[h];omega
 |x::cs,ds,h=>by
  cases hy:(bP l x.2 t).2 with
  |true=>obtain⟨d,EB,rfl,_,_,h4⟩:=h.1 hy;exact Nat.succ_le_succ h4.len
  |false=>exact Nat.le_succ_of_le (h.2 hy).len
def KV(a a':aS):Prop:= ∀b:Int,(∀j,j<abF a.ai.ay->a.ai.ay[j]!<=b)-> ∀j,j<abF a'.ai.ay->a'.ai.ay[j]!<=b+1
theorem KV.same{a a':aS}(h:a'.ai.ay=a.ai.ay):KV a a':=λb hb j hj=>by rw[h]at hj ⊢;have:=hb j hj;omega
theorem KV.taken{a a':aS}(h:a'.ai=pB a.ai):KV a a':=λb hb j hj=>by
 rw[h]at hj ⊢;change j<(a.ai.ay.set _ _).length at hj;rw[abv]at hj;show(a.ai.ay.set (mA a.ai) (a.ai.ay[mA a.ai]!+1))[j]!<=_;rw[cw];split
 ·rename_i h;have:=hb _ h.2;omega
 have:=hb j hj;omega
section
variable {c : aH} (ok : aT c) {f : List Pt} (aV : aR f) (kn : ∀ i, i < (abF c.af.ce) -> kr f (c.af.ce[i]!).2)
include ok
theorem Gd{i:Nat}{x:wk}(hx:x∈c.af.ce.take i)(hi:i<abF c.af.ce):x.1≠(c.af.ce[i]!).1:=by obtain⟨j,h1,h2,rfl⟩:=cS.1 hx;have:=ok.wF.up j i h1 hi;omega
theorem Bu{i:Nat}{x:wk}(hx:x∈c.af.ce.drop (i+1))(hi:i<abF c.af.ce):x.1≠(c.af.ce[i]!).1:=by obtain⟨j,h1,rfl⟩:=aN.1 hx;rw[IR]at h1;rw[Ad];have:=ok.wF.up i (i+1+j) (by omega) (by omega);omega
theorem Xb{i k:Nat}{a:aS}{ds:List wk}(inv:KU c f i k a ds)(hi:i<abF c.af.ce)(was:(bP c.ii.am (c.af.ce[i]!).2 c.ci).2=abM): ∀e∈a.bv,Ev.num e≠(c.af.ce[i]!).1:=by
 have u1:Up (c.af.ce.take i):=ok.tB.sublist (List.take_sublist _ _);have u2:Up (c.af.ce.drop i):=ok.tB.sublist (List.drop_sublist _ _);have d1:=inv.new.up u1;have d2:=inv.old.up u2;have aln: ∀x∈ds,∀y∈c.io.drop k,x.1<y.1:=by intro x hx y hy;obtain⟨p,hp,h1,_⟩:=inv.new.io x hx;obtain⟨q,hq,h2,_⟩:=inv.old.io y hy;obtain⟨m,m1,m2,rfl⟩:=cS.1 hp;obtain⟨n,n1,rfl⟩:=aN.1 hq;rw[IR]at n1;rw[Ad]at h2;have:=ok.wF.up m (i+n) (by omega) (by omega);omega
 have nd:((ds++c.io.drop k).map λx=>x.1).Nodup:=Rf (by show List.Pairwise _ _;rw[List.pairwise_append];exact⟨d1,d2,aln⟩);have only:=Iq (H:=a.bv) nd (by rw[UV,EQ,IR,inv.cnt];exact Nat.le_refl _) (λn hn=>by
  obtain⟨x,hx,rfl⟩:=abt.1 hn;rcases aai.1 hx with hx|hx
  ·obtain⟨p,hp,h1,h2,h3⟩:=inv.new.io x hx
   exact⟨_,h3,h1.symm⟩
  obtain⟨p,hp,h1,h2,h3⟩:=inv.old.io x hx
  exact⟨_,h3,h1.symm⟩)
 intro e he fo;obtain⟨x,hx,h1⟩:=abt.1 (only e he);rcases aai.1 hx with hx|hx
 ·obtain⟨p,hp,h2,_⟩:=inv.new.io x hx
  exact Gd ok hp hi (by rw[<-h2,h1,fo])
 obtain⟨p,hp,h2,h3,_⟩:=inv.old.io x hx
 have hp':p∈c.af.ce:=List.mem_of_mem_drop hp;have:=ok.tB.inj hp' (aE hi) (by rw[<-h2,h1,fo]);rw[this,was]at h3;cases h3
def Xc(c:aH)(f:List Pt)(i:Nat)(a:aS)(ds:List wk):=
 (c.af.ce,((abF c.af.ce):Int),(i:Int),c.ci.1,c.ci.2,c.ii.am,c.af.aW,c.af.ce,c.ae.ai.ay,c.ae.ai.be,c.ae.ai.bi,c.ae.bv,c.ae.aC,c.io,f,(0:Int),(0:Int),(0:Int),c.ci.1,c.ci.2,c.af.aW,c.af.ce,a.ai.ay,a.ai.be,a.ai.bi,a.bv,a.aC,f,ds)
include aV kn
theorem aaE{i k:Nat}{a:aS}{ds:List wk}(inv:KU c f i k a ds)(hi:i<abF c.af.ce)(hds:(abF ds)<=i):
 (eg (Xc c f i a ds)=abK (.done (.done (eQ,18)))/\ ¬CW a.ai)\/
 ∃k' a' EB,eg (Xc c f i a ds)=abK (.next (Xc c f (i+1) a' EB))/\KU c f (i+1) k' a' EB/\abF EB<=i+1/\KV a a':=by
 have bd:=ok.bd;have e1:abN ((i:Int)<((abF c.af.ce):Int))=abL:=az (by omega);have sc:=aM (show i<1000000000 by omega);have cg:=ar c.af.ce i hi;have hb:=kn i hi;have wn:=zA aV (x:=(c.af.ce[i]!).2) (t:=(c.ci.1,c.ci.2)) (ok.wF.cv i hi) ok.gZ ok.dP;rw[AC hb]at wn;have pd:=Hv ok.KT (by omega) (c.af.ce[i]!).1;have dr:=uH hi;have tk:=da hi;have old:=inv.old;rw[dr]at old;have adq:aS.mk (bF.mk a.ai.ay a.ai.be a.ai.bi) a.bv a.aC=a:=rfl;have other: ∀x∈c.af.ce.take i,x.1≠(c.af.ce[i]!).1:=λx hx=>Gd ok hx hi
 have aaF: ∀x∈c.af.ce.drop (i+1),x.1≠(c.af.ce[i]!).1:=λx hx=>Bu ok hx hi
 cases adr:(bP c.ii.am (c.af.ce[i]!).2 c.ci).2 with
 |true=>
  obtain⟨d,EB,hd1,hd2,hd3,hd4⟩:=(bk.lB adr).1 old;have hk:k<(abF c.io):=by
   refine PP λh=>?_
   rw[List.drop_eq_nil_of_le (by omega)]at hd1;cases hd1
  have dk:=uH hk;rw[dk]at hd1;injection hd1 with hd5 hd6;subst hd5 hd6;obtain⟨w,hw,me⟩:=aN.1 hd3;have hh:(a.bv[w]!).2.2.2=(c.io[k]!).2:=by rw[me]
  have alo:Ev.num a.bv[w]! =(c.af.ce[i]!).1:=by rw[me]
  have pl:=pd.1 k hk hd2;have gk:=ar c.io k hk;have ap:ba ds [c.io[k]!]=abK (ds++[c.io[k]!]):=bG (by simp;omega);cases XZ:(bP f (c.af.ce[i]!).2 c.ci).2 with
  |true=>
   right;have tt:bo (bP f (c.af.ce[i]!).2 c.ci).1/\jb (bP f (c.af.ce[i]!).2 c.ci).1:=F6 (bK aV hb.2).1 (bK aV hb.1).1 ok.dP ok.gZ XZ;obtain⟨t1,t2⟩:=tt;have re:=IM inv.ok inv.ok.fit (t:=(bP f (c.af.ce[i]!).2 c.ci).1) hw hh t1 t2;have rok:=aax inv.ok hw t1 t2;have W9:=W6 inv.ok hw t1;have aaG:=Ho inv.ok hw t1;have stay: ∀(cs:List wk),(∀x∈cs,x.1≠(c.af.ce[i]!).1)-> ∀x∈cs,∀e:Ev,e.num=x.1->e∈a.bv->e∈(pZ a w (bP f (c.af.ce[i]!).2 c.ci).1).bv:=by
    intro cs v8 x hx e he hm;refine(W9 e).2 (.inr ⟨hm,λh=>v8 x hx ?_⟩);rw[<-he,h,alo]
   refine⟨k+1,pZ a w (bP f (c.af.ce[i]!).2 c.ci).1,ds++[c.io[k]!],?_,⟨rok,by rw[aaG.2];exact inv.w2,?_,?_,by omega,?_⟩,by simp;omega,.same rfl⟩
   ·unfold eg Xc
    simp only[e1,v6,cg,aj,wn,pl,XZ,gk,adq,re,ap,show((0:Int) !=0)=abM from rfl,ww,sc]
   ·rw[tk]
    exact((inv.new.mono (stay _ other)).snoc (x:=c.af.ce[i]!)).2 _ XZ hd2 ((W9 _).2 (.inl (by show _=((bP f (c.af.ce[i]!).2 c.ci).1.1,(bP f (c.af.ce[i]!).2 c.ci).1.2,(a.bv[w]!).2.2);rw[me])))
   ·exact hd4.mono (stay _ aaF)
   rw[aaG.1,inv.cnt,EQ]
   simp only[WF,aaQ];omega
  |false=>
   right;have rv:=uG inv.ok hw inv.ok.fit hh;have rok:=Hr inv.ok hw;have W9:=KM inv.ok hw;have aaG:=ahg inv.ok hw;have stay: ∀(cs:List wk),(∀x∈cs,x.1≠(c.af.ce[i]!).1)-> ∀x∈cs,∀e:Ev,e.num=x.1->e∈a.bv->e∈(fu a w).bv:=by intro cs v8 x hx e he hm;refine(W9 e).2 ⟨hm,λh=>v8 x hx ?_⟩;rw[<-he,h,alo]
   refine⟨k+1,fu a w,ds,?_,⟨rok,by rw[aaG.2];exact inv.w2,?_,hd4.mono (stay _ aaF),by omega,?_⟩,by omega,.same (by unfold fu;split<;>rfl)⟩
   ·unfold eg Xc
    simp only[e1,v6,cg,aj,wn,pl,XZ,gk,adq,rv,show((0:Int) !=0)=abM from rfl,ww,sc]
   ·rw[tk]
    exact((inv.new.mono (stay _ other)).snoc (x:=c.af.ce[i]!)).1 XZ
   have:=inv.cnt
   rw[aaG.1];omega
 |false=>
  have AA:=(bk.kU adr).1 old;have no: ∀j,j<abF c.io->(c.io[j]!).1≠(c.af.ce[i]!).1:=by intro j hj he;obtain⟨x,hx,h1,h2,_⟩:=ok.AA.io _ (aE hj);have:=ok.tB.inj hx (aE hi) (by rw[<-h1,he]);rw[this,adr]at h2;cases h2
  obtain⟨m,pl⟩:=pd.2 no;cases XZ:(bP f (c.af.ce[i]!).2 c.ci).2 with
  |true=>
   have tt:bo (bP f (c.af.ce[i]!).2 c.ci).1/\jb (bP f (c.af.ce[i]!).2 c.ci).1:=F6 (bK aV hb.2).1 (bK aV hb.1).1 ok.dP ok.gZ XZ;obtain⟨t1,t2⟩:=tt;have n0:=(ok.wF.nr i hi).1;have n1:(c.af.ce[i]!).1<=1000000:=by have:=(ok.wF.nr i hi).2;have:=ok.wF.n1;omega
   have fresh:=Xb ok inv hi adr
   by_cases op:CW a.ai
   ·right
    have pu:=Ah inv.ok op inv.ok.fit (t:=(bP f (c.af.ce[i]!).2 c.ci).1) (n:=(c.af.ce[i]!).1) t1 t2 n0 n1 fresh;have pok:=Vk inv.ok op (t:=(bP f (c.af.ce[i]!).2 c.ci).1) (n:=(c.af.ce[i]!).1) t1 t2 n0 n1 fresh;have Xa:=Q9 inv.ok op (t:=(bP f (c.af.ce[i]!).2 c.ci).1) (n:=(c.af.ce[i]!).1) t1;have ahf:=F' inv.ok op (t:=(bP f (c.af.ce[i]!).2 c.ci).1) (n:=(c.af.ce[i]!).1) t1;have ap: ∀h:Int×Int,ba ds [((c.af.ce[i]!).1,h)]=abK (ds++[((c.af.ce[i]!).1,h)]):=λh=>bG (by simp;omega)
    refine⟨k,tg a (bP f (c.af.ce[i]!).2 c.ci).1 (c.af.ce[i]!).1,ds++[((c.af.ce[i]!).1,xd a.ai)],?_,⟨pok,by rw[adp inv.ok pok];exact inv.w2,?_,?_,inv.kl,?_⟩,by simp;omega,.taken rfl⟩
    ·unfold eg Xc
     simp only[e1,v6,cg,aj,wn,pl,XZ,adq,pu,ap,show((0:Int) !=0)=abM from rfl,ww,sc]
    ·rw[tk]
     exact((inv.new.mono λx hx e he hm=>(Xa e).2 (.inr hm)).snoc (x:=c.af.ce[i]!)).2 _ XZ rfl ((Xa _).2 (.inl rfl))
    ·exact AA.mono λx hx e he hm=>(Xa e).2 (.inr hm)
    have:=inv.cnt
    rw[ahf,EQ];simp only[WF,aaQ];omega
   left
   have pu:=Ai inv.ok op inv.ok.fit (t:=(bP f (c.af.ce[i]!).2 c.ci).1) (n:=(c.af.ce[i]!).1) t1 t2 n0 n1 fresh;have ap: ∀h:Int×Int,ba ds [((c.af.ce[i]!).1,h)]=abK (ds++[((c.af.ce[i]!).1,h)]):=λh=>bG (by simp;omega)
   refine⟨?_,op⟩;unfold eg Xc;simp only[e1,v6,cg,aj,wn,pl,XZ,adq,pu,ap,show((18:Int) !=0)=abL from rfl,ww]
  |false=>
   right;refine⟨k,a,ds,?_,⟨inv.ok,inv.w2,?_,AA,inv.kl,inv.cnt⟩,by omega,.same rfl⟩
   ·unfold eg Xc
    simp only[e1,v6,cg,aj,wn,pl,XZ,show((0:Int) !=0)=abM from rfl,ww,sc]
   rw[tk]
   exact(inv.new.snoc (x:=c.af.ce[i]!)).1 XZ
theorem aeW:
 (rp c ⟨f⟩=abK (eQ,18)/\ ∀b:Int,(∀j,j<abF c.ae.ai.ay->c.ae.ai.ay[j]!<=b)->abF c.af.ce<200->1000000<=b+abF c.af.ce)\/
 ∃c':aH,rp c ⟨f⟩=abK (c',0)/\aT c'/\c'.ii.am=f/\c'.ci=c.ci/\c'.af=c.af/\ ∀b:Int,(∀j,j<abF c.ae.ai.ay->c.ae.ai.ay[j]!<=b)-> ∀j,j<abF c'.ae.ai.ay->c'.ae.ai.ay[j]!<=b+(abF c.af.ce):=by
 have bd:=ok.bd;have f64:=aV.1;have run: ∀(d i k:Nat) (a:aS) (ds:List wk),abF c.af.ce-i<=d->i<=abF c.af.ce->KU c f i k a ds->abF ds<=i->
  (aq eg (Xc c f i a ds)=abK (.done (eQ,18))/\ ∀b:Int,(∀j,j<abF a.ai.ay->a.ai.ay[j]!<=b)->abF c.af.ce<200->1000000<=b+(abF c.af.ce-i:Nat))\/
  ∃c':aH,aq eg (Xc c f i a ds)=abK (.done (c',0))/\aT c'/\c'.ii.am=f/\c'.ci=c.ci/\c'.af=c.af/\ ∀b:Int,(∀j,j<abF a.ai.ay->a.ai.ay[j]!<=b)-> ∀j,j<abF c'.ae.ai.ay->c'.ae.ai.ay[j]!<=b+(abF c.af.ce-i:Nat):=by
  have fin: ∀(k:Nat) (a:aS) (ds:List wk),KU c f (abF c.af.ce) k a ds-> ∃c':aH,aq eg (Xc c f (abF c.af.ce) a ds)=abK (.done (c',0))/\aT c'/\c'.ii.am=f/\c'.ci=c.ci/\c'.af=c.af/\ ∀b:Int,(∀j,j<abF a.ai.ay->a.ai.ay[j]!<=b)-> ∀j,j<abF c'.ae.ai.ay->c'.ae.ai.ay[j]!<=b+(abF c.af.ce-(abF c.af.ce):Nat):=by
   intro k a ds inv;have e1:abN (((abF c.af.ce):Int)<((abF c.af.ce):Int))=abM:=aA (by omega);have hk:(abF c.io)-k=0:=by have:=inv.old;rw[List.drop_length]at this;have:c.io.drop k=[]:=this;rw[List.drop_eq_nil_iff]at this;omega
   have new:=inv.new;rw[List.take_length]at new;refine⟨⟨c.ci,⟨f⟩,c.af,a,ds⟩,au ?_,⟨ok.gZ,ok.dP,aV,ok.wF,inv.ok,inv.w2,?_,kn,new⟩,rfl,rfl,rfl,λb hb j hj=>by have:=hb j hj;simpa using this⟩
   ·unfold eg Xc
    simp only[e1,ww]
   have:=inv.cnt
   show(abF a.bv)=abF ds;omega
  intro d
  induction d with
  |zero=>
   intro i k a ds hd hi inv hds;have:i=(abF c.af.ce):=by omega
   subst this;exact .inr (fin k a ds inv)
  |succ d ih=>
   intro i k a ds hd hi inv hds
   by_cases he:i=abF c.af.ce
   ·subst he;exact .inr (fin k a ds inv)
   rcases aaE ok aV kn inv (by omega) hds with⟨h1,h2⟩|⟨k',a',EB,h1,h3,h4,h5⟩
   ·refine .inl ⟨au h1,λb hb hl=>?_⟩
    have o1:=inv.ok.so;have LK:=inv.ok.hl;have wl:=inv.ok.wl;have w2:=inv.w2;have cn:=inv.cnt;have dl:=ok.AA.len;have fl:0<(abF a.ai.bi):=by have:=inv.old.len;rw[IR,IR]at this;omega
    have:=hb _ (DK o1 fl).1;have: ¬a.ai.ay[mA a.ai]!<1000000:=λh=>h2 ⟨fl,h⟩
    omega
   rw[aQ h1]
   rcases ih (i+1) k' a' EB (by omega) (by omega) h3 h4 with⟨g1,g2⟩|⟨c',g1,g2,g3,g4,g5,g6⟩
   ·refine .inl ⟨g1,λb hb hl=>?_⟩
    have:=g2 (b+1) (h5 b hb) hl;omega
   refine .inr ⟨c',g1,g2,g3,g4,g5,λb hb j hj=>?_⟩
   have:=g6 (b+1) (h5 b hb) j hj;omega
 have start:=run (abF c.af.ce) 0 0 c.ae [] (by omega) (by omega) ⟨ok.nB,ok.Hu,rfl,by rw[abB,abB];exact ok.AA,by omega,by have:=ok.hd;simp;omega⟩ (by simp);have hc:fG c=abK 0:=by rw[iF ok.fit,AC ok]
 have hf:cU ⟨f⟩=abK 0:=by rw[eW];exact congrArg abK (dM.2 aV)
 have tw:=jc ok;have tw':mf (aH.mk (c.ci.1,c.ci.2) (Field.mk c.ii.am) (cm.mk c.af.aW c.af.ce) (aS.mk (bF.mk c.ae.ai.ay c.ae.ai.be c.ae.ai.bi) c.ae.bv c.ae.aC) c.io)=abK c:=tw;have first:aq mW (c.af.ce,((abF c.af.ce):Int),0,c.ci.1,c.ci.2,c.ii.am,c.af.aW,c.af.ce,c.ae.ai.ay,c.ae.ai.be,c.ae.ai.bi,c.ae.bv,c.ae.aC,c.io,f,0,0,0)=
  aq mW (c.af.ce,((abF c.af.ce):Int),((abF c.af.ce):Int),c.ci.1,c.ci.2,c.ii.am,c.af.aW,c.af.ce,c.ae.ai.ay,c.ae.ai.be,c.ae.ai.bi,c.ae.bv,c.ae.aC,c.io,f,0,0,0):=by
  refine bz (body:=mW) (λi=>(c.af.ce,((abF c.af.ce):Int),(i:Int),c.ci.1,c.ci.2,c.ii.am,c.af.aW,c.af.ce,c.ae.ai.ay,c.ae.ai.be,c.ae.ai.bi,c.ae.bv,c.ae.aC,c.io,f,0,0,0)) (abF c.af.ce) (λi hi=>?_);have e1:abN ((i:Int)<((abF c.af.ce):Int))=abL:=az (by omega);unfold mW;simp only[e1,v6,ar c.af.ce i hi,aj,pC aV,aA (OQ aV (kn i hi).1),aA (OQ aV (kn i hi).2),ww,aM (show i<1000000000 by omega)]
 have aaH: ∀r,aq eg (Xc c f 0 c.ae [])=abK (.done r)->rp c ⟨f⟩=abK r:=by intro r hr;unfold rp;simp only[hc,aj,show((0:Int) !=0)=abM from rfl,ww,hf,aK];rw[first];refine au ?_;unfold mW;have e1:abN (((abF c.af.ce):Int)<((abF c.af.ce):Int))=abM:=aA (by omega);simp only[aK,e1,ww,tw',aj,cM (show(abF f)<=1048576 by omega)];exact hr
 rcases start with⟨h1,h2⟩|⟨c',h1,h3⟩
 ·exact .inl ⟨aaH _ h1,h2⟩
 exact .inr ⟨c',aaH _ h1,h3⟩
end
theorem ie(l:List _)(x:Int×Int)(hl:(abF l)<=1000000):dK l x=abK (abN (x∈l)):=by
 unfold dK sA;have key:=pz (body:=lM) (λi=>(l,((abF l):Int),(i:Int),x)) (abF l) (λi=>l[i]! =x) (λi=>(i:Int)) (e:= -1) (λi hi=>by
  have e1:abN ((i:Int)<((abF l):Int))=abL:=az (by omega);unfold lM;simp (disch:=omega) only[e1,ar l i hi,aj,aM];generalize l[i]! =y;constructor
  ·intro h;rw[lZ (congrArg Prod.fst h.symm),lZ (congrArg Prod.snd h.symm)];rfl
  ·intro h
   by_cases h1:x.1=y.1
   ·rw[lZ h1,jA (λh2=>h (Prod.ext h1.symm h2.symm))];rfl
   rw[jA h1];rfl) (by
  unfold lM;simp)
 rw[aK]
 by_cases hx:x∈l
 ·obtain⟨i,hi,he⟩:=aN.1 hx
  obtain⟨k,h1,h2,h3⟩:=least (c:=λi=>l[i]! =x) ⟨i,hi,he⟩;have:=key.1 k h1 h2 h3;rw[show((0:Nat):Int)=0 from rfl]at this;rw[this,az hx];simp (disch:=omega) only[aj,az]
 grind
theorem Rg(a b:List wk)(hl:(abF a)<=1000000):xT ⟨a⟩ ⟨b⟩=abK (abN (a=b)):=by
 unfold xT;simp[]
 by_cases h:(abF a)=abF b
 case neg=>rw[dV (by omega),aA (λk=>h (by rw[k]))];rfl
 rw[bw (by omega)];simp;have key:=eo (body:=u9) (λi=>((i:Int),a,b)) (abF a) (λi=> ¬a[i]! =b[i]!) (r:=abM) (e:=abL) (λi hi=>by
  have e1:=az (by omega);unfold u9;simp (disch:=omega) only[ar,aM,]
  grind) (by
  unfold u9;simp)
 by_cases he:a=b
 ·grind
 rw[aA he]
 refine key.1 (PP λhx=>he (ny h λi hi=>?_))
 grind
theorem tD(a b:List wk)(hl:(abF a)<=1000000):kJ a b=abK (abN (a=b)):=by
 unfold kJ;simp[]
 by_cases h:(abF a)=abF b
 case neg=>rw[dV (by omega),aA (λk=>h (by rw[k]))];rfl
 rw[bw (by omega)];simp;have key:=eo (body:=k9) (λi=>(a,b,((abF a):Int),(i:Int))) (abF a) (λi=> ¬a[i]! =b[i]!) (r:=abM) (e:=abL) (λi hi=>by
  have e1:=az (by omega);unfold k9;simp (disch:=omega) only[ar,aM,]
  grind) (by
  unfold k9;simp)
 by_cases he:a=b
 ·grind
 rw[aA he]
 refine key.1 (PP λhx=>he (ny h λi hi=>?_))
 grind
theorem Na{cs:List wk}{m:Nat}{x:wk}(hx:x∈cs)(fo:x.1≠(cs[m]!).1):x∈cs.eraseIdx m:=by
 obtain⟨j,hj,rfl⟩:=aN.1 hx;have hjm:j≠m:=λh=>fo (by rw[h])
 rw[Ga,aai]
 by_cases h:j<m
 ·exact .inl (cS.2 ⟨j,h,hj,rfl⟩)
 right
 rw[aN];refine⟨j- (m+1),by rw[IR];omega,?_⟩
 grind
def kP(c0:aH)(f:List Pt)(es:List (Int×Int))(i:Nat)(c:aH):=
 (es,c0.af.ce,((abF c0.af.ce):Int),(i:Int),c.ci.1,c.ci.2,c.ii.am,c.af.aW,c.af.ce,c.ae.ai.ay,c.ae.ai.be,c.ae.ai.bi,c.ae.bv,c.ae.aC,c.io,f,(0:Int),(0:Int),(0:Int))
def eP(es:List (Int×Int))(i:Nat)(c:aH):=
 (es,((abF es):Int),(i:Int),c.ci.1,c.ci.2,c.ii.am,c.af.aW,c.af.ce,c.ae.ai.ay,c.ae.ai.be,c.ae.ai.bi,c.ae.bv,c.ae.aC,c.io,(0:Int),(0:Int),(0:Int))
def Ge(c:aH):Int:=c.af.aW- ((abF c.af.ce):Int)
structure yY(c:aH)(f:List Pt)(es:List (Int×Int))(r:aH):Prop where
 has: ∀e∈es,qy r.af.ce e
 sub: ∀x∈r.af.ce,x.2∈es
 ok:aT r
 dI:r.ii.am=f
 ci:r.ci=c.ci
 room:Ge c<=Ge r
def Roomy(c:aH)(k:Nat):Prop:=abF c.af.ce<=k/\c.af.aW<=k/\ ∀j,j<abF c.ae.ai.ay->c.ae.ai.ay[j]!<=k
theorem Roomy.KW{c:aH}(ok:aT c){k:Nat}(h:Roomy c k)(hk:k<=199): ¬(Ip c.af\/ ¬CW c.ae.ai):=by
 obtain⟨h1,h2,h3⟩:=h;have fl:=ok.AA.len;have hd:=ok.hd;have hl:=ok.nB.hl;have wl:=ok.nB.wl;have w2:=ok.Hu;rintro(h|h)
 ·rcases h with h|h<;>omega
 refine h ⟨by omega,?_⟩
 have:=h3 _ (DK ok.nB.so (by omega)).1;omega
theorem Roomy.more{c c':aH}{k:Nat}(h:Roomy c k){x:Int×Int}(hc:c'.af=tq c.af x)(hs:c'.ae.ai=c.ae.ai\/c'.ae.ai=pB c.ae.ai):Roomy c' (k+1):=by
 obtain⟨h1,h2,h3⟩:=h;refine⟨?_,?_,λj hj=>?_⟩
 ·rw[hc]
  show(c.af.ce++[(c.af.aW,x)]).length<=_
  grind
 ·rw[hc]
  show c.af.aW+1<=_;omega
 rcases hs with e|e
 ·grind
 rw[e]at hj ⊢
 change j<(c.ae.ai.ay.set _ _).length at hj;show(c.ae.ai.ay.set _ _)[j]!<=_
 grind
structure mM(f:List Pt)(es:List (Int×Int)):Prop where
 len:(abF es)<=1000000
 cv: ∀x∈es,jB x
 kn: ∀x∈es,kr f x
theorem aaI{c0:aH}(ok0:aT c0){f:List Pt}{es:List (Int×Int)}(oL:mM f es):
 ∀(d i:Nat) (c:aH),abF c0.af.ce-i<=d->i<=abF c0.af.ce->aT c->(∀x∈c0.af.ce.drop i,x∈c.af.ce)->(∀x∈c.af.ce,x∈c0.af.ce.drop i\/x.2∈es)->
  ∃c':aH,aq bL (kP c0 f es i c)=aq bL (kP c0 f es (abF c0.af.ce) c')/\aT c'/\(∀x∈c'.af.ce,x.2∈es)/\c'.ii=c.ii/\c'.ci=c.ci/\Ge c<=Ge c':=by
 have bd:=ok0.bd;intro d
 induction d with
 |zero=>
  grind
 |succ d ih=>
  intro i c hd hi ok h1 h2
  by_cases he:i=abF c0.af.ce
  ·grind
  have tY:i<(abF c0.af.ce):=by omega
  have e1:abN ((i:Int)<((abF c0.af.ce):Int))=abL:=az (by omega);have sc:=aM (show i<1000000000 by omega);have cg:=ar c0.af.ce i tY;have dr:=uH tY;have B5:(aH.mk (c.ci.1,c.ci.2) (Field.mk c.ii.am) (cm.mk c.af.aW c.af.ce) (aS.mk (bF.mk c.ae.ai.ay c.ae.ai.be c.ae.ai.bi) c.ae.bv c.ae.aC) c.io)=c:=rfl
  by_cases AN:(c0.af.ce[i]!).2∈es
  ·have s1:bL (kP c0 f es i c)=abK (.next (kP c0 f es (i+1) c)):=by
    unfold bL kP;simp only[e1,v6,cg,aj,ie _ _ oL.len,az AN,abD,ww,sc]
   rw[aQ s1];refine ih (i+1) c (by omega) (by omega) ok (λx hx=>h1 x (by rw[dr];exact If _ hx)) (λx hx=>?_)
   grind
  have hm:=h1 (c0.af.ce[i]!) (by rw[dr];exact ab0)
  obtain⟨m,Wz,V1⟩:=aN.1 hm;obtain⟨c',r1,r3,r4,r5,r6⟩:=TP ok Wz;have rt:=BS ok Wz r1;rw[V1]at rt;have s1:bL (kP c0 f es i c)=abK (.next (kP c0 f es (i+1) c')):=by unfold bL kP;simp only[e1,v6,cg,aj,ie _ _ oL.len,aA AN,Bool.not_false,sc,B5,rt]
  rw[aQ s1];have cl:c'.af.ce=c.af.ce.eraseIdx m:=by rw[r6];rfl
  have yt:Ge c<=Ge c':=by unfold Ge;rw[r6];show _<=c.af.aW- (((c.af.ce.eraseIdx m).length:Nat):Int);rw[List.length_eraseIdx_of_lt Wz];omega
  have hs:(∀x∈c0.af.ce.drop (i+1),x∈c'.af.ce)/\(∀x∈c'.af.ce,x∈c0.af.ce.drop (i+1)\/x.2∈es):=by
   refine⟨λx hx=>?_,λx hx=>?_⟩
   ·rw[cl]
    refine Na (h1 x (by rw[dr];exact If _ hx)) ?_;rw[V1];exact Bu ok0 hx tY
   rw[cl]at hx
   obtain⟨a1,a2⟩:=tC ok.tB Wz hx;rw[V1]at a2;rcases h2 x a1 with h|h
   ·rw[dr]at h
    rcases List.mem_cons.1 h with rfl|h
    ·exact absurd rfl a2
    exact .inl h
   exact .inr h
  obtain⟨d',q1,q3,q4,q5,q6,q7⟩:=ih (i+1) c' (by omega) (by omega) r3 hs.1 hs.2
  grind
theorem Rh{f:List Pt}(_fok:aR f){es:List (Int×Int)}(oL:mM f es):
 ∀(d i:Nat) (c:aH),abF es-i<=d->i<=abF es->aT c->c.ii.am=f->(∀x∈c.af.ce,x.2∈es)->(∀j,j<i->qy c.af.ce es[j]!)->
  ∃r:aH×Int,aq cB (eP es i c)=abK (.done r)/\(r.2=0/\yY c f es r.1\/r=(eQ,18))/\(∀k,Roomy c k->k+(abF es-i)<=199->r.2=0):=by
 have el:=oL.len;have fin: ∀c:aH,aT c->c.ii.am=f->(∀x∈c.af.ce,x.2∈es)->(∀j,j<abF es->qy c.af.ce es[j]!)-> ∃r:aH×Int,aq cB (eP es (abF es) c)=abK (.done r)/\(r.2=0/\yY c f es r.1\/r=(eQ,18))/\r.2=0:=by
  intro c ok hf hs hh;have e1:abN (((abF es):Int)<((abF es):Int))=abM:=aA (by omega);refine⟨(c,0),au ?_,.inl ⟨rfl,λe he=>by obtain⟨j,hj,q⟩:=aN.1 he;grind,hs,ok,hf,rfl,Int.le_refl _⟩,rfl⟩
  unfold cB eP
  simp
 intro d
 induction d with
 |zero=>
  grind
 |succ d ih=>
  intro i c hd hi ok hf hs hh
  by_cases he:i=abF es
  ·grind
  have bd:=ok.bd;have tY:i<(abF es):=by omega
  have e1:abN ((i:Int)<((abF es):Int))=abL:=az (by omega);have sc:=aM (show i<1000000000 by omega);have cg:=ar es i tY;have B5:(aH.mk (c.ci.1,c.ci.2) (Field.mk c.ii.am) (cm.mk c.af.aW c.af.ce) (aS.mk (bF.mk c.ae.ai.ay c.ae.ai.be c.ae.ai.bi) c.ae.bv c.ae.aC) c.io)=c:=rfl;have hc:=Gb c.af.ce es[i]! (by omega)
  by_cases AN:qy c.af.ce es[i]!
  ·have s1:cB (eP es i c)=abK (.next (eP es (i+1) c)):=by
    unfold cB eP;simp only[e1,v6,cg,aj,xp,hc,az AN,sc]
   grind[aQ]
  have hb:kr c.ii.am es[i]!:=by rw[hf];exact oL.kn _ (aE tY)
  rcases Vl ok (oL.cv _ (aE tY)) hb AN with⟨r1,full⟩|⟨c',r1,r3,r4,r5,r6,r7⟩
  ·refine⟨(eQ,18),au ?_,.inr rfl,λk hk hl=>absurd full (hk.KW ok (by omega))⟩
   unfold cB eP
   simp_all[v6,aj,xp,aA,ww]
  have s1:cB (eP es i c)=abK (.next (eP es (i+1) c')):=by
   unfold cB eP;simp only[e1,v6,cg,aj,xp,hc,aA AN,ww,B5,r1,show((0:Int) !=0)=abM from rfl,sc]
  rw[aQ s1];obtain⟨r,q1,q3,q6⟩:=ih (i+1) c' (by omega) (by omega) r3 (by rw[r4,hf]) (λx hx=>by
   rw[r6]at hx;rcases aai.1 (hx)with h|h
   ·exact hs x h
   ·rw[List.mem_singleton.1 h];exact aE tY) (λj hj=>by
   rw[r6];show qy (c.af.ce++[(c.af.aW,es[i]!)]) _
   by_cases q:j=i
   ·rw[q];exact⟨abF c.af.ce,by rw[EQ,abx];omega,by rw[tc (Nat.le_refl _),Nat.sub_self];rfl⟩
   obtain⟨w,w1,w2⟩:=hh j (by omega)
   exact⟨w,by rw[EQ];omega,by rw[eE w1];exact w2⟩)
  refine⟨r,q1,q3.imp (λ⟨q4,q5⟩=>⟨q4,q5.has,q5.sub,q5.ok,q5.dI,q5.ci.trans r5,abu ?_ q5.room⟩) id,λk hk hl=>q6 (k+1) (hk.more r6 r7) (by omega)⟩;unfold Ge;rw[r6];show _<=(c.af.aW+1) - (((c.af.ce++[(c.af.aW,es[i]!)]).length:Nat):Int)
  grind
theorem Gf{c:aH}(ok:aT c){f:List Pt}(aV:aR f){es:List _}(oL:mM f es):
 ∃r:aH×Int,gX c ⟨f⟩ es=abK r/\(r.2=0/\yY c f es r.1\/r=(eQ,18)):=by
 obtain⟨c',g1,g3,g4,g5,g6,g7⟩:=aaI ok oL (abF c.af.ce) 0 c (by omega) (by omega) ok (λx hx=>by assumption) (λx hx=> .inl (by grind));have bd:=g3.bd;have TQ:gX c ⟨f⟩ es=aq bL (kP c f es 0 c):=rfl;rw[TQ,g1];have eq1:=tD c'.ii.am f (by omega);have B5:(aH.mk _ _ _ _ c'.io)=c':=rfl
 by_cases hf:c'.ii.am=f
 ·obtain⟨r,i1,i3,_⟩:=Rh aV oL (abF es) 0 c' (by omega) (by omega) g3 hf g4 (λj hj=>absurd hj (abA j))
  refine⟨r,au ?_,i3.imp (λ⟨q4,q5⟩=>⟨q4,q5.has,q5.sub,q5.ok,q5.dI,q5.ci.trans g6,abu g7 q5.room⟩) id⟩
  unfold bL kP
  simp[eq1,az hf,];exact i1
 have kn: ∀i,i<abF c'.af.ce->kr f _:=λi hi=>oL.kn _ (g4 _ (aE hi))
 rcases aeW g3 aV kn with⟨a1,_⟩|⟨c2,a1,a3,a4,a5,a6,_⟩
 ·refine⟨(eQ,18),au ?_,.inr rfl⟩
  unfold bL kP
  simp_all
 obtain⟨r,i1,i3,_⟩:=Rh aV oL (abF es) 0 c2 (by omega) (by omega) a3 a4 (by grind) (λj hj=>absurd hj (abA j))
 refine⟨r,au ?_,i3.imp (λ⟨q4,q5⟩=>⟨q4,q5.has,q5.sub,q5.ok,q5.dI,(q5.ci.trans a5).trans g6,abu (abu g7 (by unfold Ge;grind)) q5.room⟩) id⟩
 unfold bL kP
 simp[eq1,aA hf,a1,];exact i1
theorem KX{α:Type}[Inhabited α]{l:List α}:l.Nodup↔ ∀k,k<abF l->l[k]!∉l.take k:=by
 rw[bJ];constructor
 ·intro h k hk hm
  obtain⟨i,h1,h2,h3⟩:=cS.1 hm
  grind
 intro h i j p8 hj he
 exact h j hj (cS.2 ⟨i,p8,by omega,he⟩)
theorem C3{α:Type}[Inhabited α]{l:List α}{P:α->Prop}:(∀x∈l,P x)↔ ∀i,i<abF l->P l[i]!:=by
 constructor
 ·grind
 intro h x hx
 obtain⟨i,hi,rfl⟩:=aN.1 hx;exact h i hi
theorem kV{σ ρ:Type}{body:σ->Option _}(st:Nat->σ)(n:Nat)(P:Nat->Prop){r e:ρ}(h: ∀i,i<n->(¬P i->body (st i)=abK (.done r))/\(P i->body (st i)=abK (.next (st (i+1)))))
 (aaj:body (st n)=abK (.done e)):aq body (st 0)=abK (if∀i,i<n->P i then e else r):=by
 have key:=eo st n (λi=> ¬P i) (λi hi=>⟨(h i hi).1,λhn=>(h i hi).2 (aby.1 hn)⟩) aaj
 grind
theorem El{f:List Pt}(aV:aR f)(id:Int): ∃p e,fH ⟨f⟩ id=abK (p,e)/\(e=0↔dY f id):=by
 have h1:=aV.1;have hc:cU ⟨f⟩=abK 0:=by rw[eW];exact congrArg abK (dM.2 aV)
 have bs:=tj f id (by omega) (λi j=>fD aV.2.2);unfold fH lQ kL;rw[DP];simp only[hc,]
 by_cases h:dY f id
 ·obtain⟨k,hk,he⟩:=h
  rw[bs.1 k hk he];refine⟨f[k]!,0,?_,λ_=>⟨k,hk,he⟩,λ_=>rfl⟩;simp_all[ar]
 obtain⟨m,_,_,_,e⟩:=bs.2 (λk hk he=>h ⟨k,hk,he⟩)
 rw[e];exact⟨(0,0,0),6,rfl,λh=>(by cases h),λk=>absurd k h⟩
structure aeY(c:aH):Prop where
 f:(abF c.ii.am)<=1000000
 l:(abF c.af.ce)<=1000000
 d:(abF c.io)<=1000000
 h:(abF c.ae.bv)<=1000000
 w:(abF c.ae.aC)<=1000000
 s1:(abF c.ae.ai.ay)<=1000000
 s2:(abF c.ae.ai.be)<=1000000
 s3:(abF c.ae.ai.bi)<=1000000
theorem aT.short{c:aH}(ok:aT c):aeY c:=by have bd:=ok.bd;have ab:=ok.nB.bd;have sl:=ok.nB.so.fl;have sn:=ok.nB.so.n2;have su:=ok.nB.so.ul;exact⟨by omega,by omega,by omega,by omega,by omega,by omega,by omega,by omega⟩
structure alp(c:aH):Prop where
 ci:jb c.ci
 aau: ∀w,w<abF c.ae.bv->jb ((c.ae.bv[w]!).1,(c.ae.bv[w]!).2.1)
theorem Vn{a b:Int×Int}(ha:bo a)(hb:bo b)(h:a.1*b.2=b.1*a.2):a=b:=by
 obtain⟨a1,_,a3⟩:=ha;obtain⟨b1,_,b3⟩:=hb;have hn:a.1.natAbs*b.2.natAbs=b.1.natAbs*a.2.natAbs:=by rw[<-abC,<-abC,h]
 have d1:b.2.natAbs ∣ a.2.natAbs:=by
  have:b.2.natAbs ∣ b.1.natAbs*a.2.natAbs:=by rw[<-hn];exact abz _ _
  exact(Nat.Coprime.dvd_of_dvd_mul_left b3 this)
 grind[abz,Nat.Coprime.dvd_of_dvd_mul_left,Nat.dvd_antisymm,Int.eq_of_mul_eq_mul_right,Prod.ext]
theorem Bv(p q:Pt)(t:Int×Int):LC p q t=(p.2.1-q.2.1)*t.2+(p.2.2-q.2.2)*t.1:=rfl
theorem C4{l h:Pt}{t t':Int×Int}(d:1<=t.2)(d':1<=t'.2)(le:t.1*t'.2<=t'.1*t.2)(hB: ¬h.2.2<l.2.2)(hn: ¬leads l h t): ¬leads l h t':=by
 unfold leads at*;rw[Bv]at*;generalize l.2.1-h.2.1=A at*;have hs:l.2.2-h.2.2<=0:=by omega
 intro hl;have key:(A*t'.2+(l.2.2-h.2.2)*t'.1)*t.2<=(A*t.2+(l.2.2-h.2.2)*t.1)*t'.2:=by
  have h1:=Int.mul_le_mul_of_nonpos_left hs le
  grind
 rcases hl with hl|⟨hl,h2|⟨h2,h3⟩⟩
 ·refine hn (.inl ?_)
  have:0<(A*t'.2+(l.2.2-h.2.2)*t'.1)*t.2:=Int.mul_pos hl (by omega);have k:0<(A*t.2+(l.2.2-h.2.2)*t.1)*t'.2:=by omega
  exact Int.pos_of_mul_pos_left k (by omega)
 ·omega
 have z:l.2.2-h.2.2=0:=by omega
 rw[z]at hl hn;have:A=0:=by
  have:A*t'.2=0:=by omega
  rcases Int.mul_eq_zero.1 this with h|h
  ·exact h
  omega
 grind
theorem E3{h l:Pt}{t t':Int×Int}(hh:fM h)(hl:fM l)(r:bo t)(r':bo t')(le:t.1*t'.2<=t'.1*t.2)(up:(jl h l t).2=abL->t'.1*(jl h l t).1.2<=(jl h l t).1.1*t'.2):
 jl h l t'=jl h l t:=by
 unfold jl at*
 by_cases h1:leads l h t
 ·rw[AC h1]at up ⊢
  have e:=Vn r r' (by have:=up rfl;dsimp only at this;omega)
  grind
 rw[Do h1]at up ⊢
 by_cases h2:h.2.2<l.2.2
 ·rw[AC h2]at up ⊢
  obtain⟨_,m1,m2,m3⟩:=EZ hh hl (by omega);have up:=up rfl;dsimp only at up
  by_cases h3:leads l h t'
  ·rw[AC h3]
   have:t'=met h l:=by
    refine Vn r' m1 ?_;have g:0<=LC l h t':=by rcases h3 with k|k<;>omega
    rw[Bv]at g;generalize met h l=m at*;have d:=m1.1;have hB:0<l.2.2-h.2.2:=by omega
    generalize l.2.2-h.2.2=B at*;generalize hA:h.2.1-l.2.1=A at*;have g2:A*t'.2<=B*t'.1:=by
     have:(l.2.1-h.2.1)*t'.2= -(A*t'.2):=by rw[<-Int.neg_mul];congr 1;omega
     omega
    have g3:m.1*t'.2*B<=t'.1*m.2*B:=by
     have e1:m.1*t'.2*B=A*t'.2*m.2:=by rw[NE,m3,NE]
     have e2:t'.1*m.2*B=B*t'.1*m.2:=by rw[NE,abE t'.1 B]
     rw[e1,e2];exact aaP g2 (by omega)
    have g4:=abq g3 hB;omega
   rw[this]
  grind
 rw[Do (C4 r.1 r'.1 le h2 h1)]
theorem Aj{a:aS}(ok:gb a): ∀k,k<abF a.bv-> ¬less a.bv[k]! a.bv[0]!:=by
 have d:=λw hw=>(ok.ev w hw).1.1
 intro k
 induction k using Nat.strongRecOn with
 |ind k ih=>
  intro hk
  by_cases h0:k=0
  ·grind[qQ]
  exact Ag (d 0 (by omega)) (d ((k-1) / 2) (by omega)) (d k hk) (ih ((k-1) / 2) (by omega) (by omega)) (ok.ord k (by omega) hk)
theorem aaJ{h l:Pt}{t:Int×Int}(hh:fM h)(hl:fM l)(r:bo t)(is:(jl h l t).2=abL):t.1*(jl h l t).1.2<=(jl h l t).1.1*t.2:=by
 unfold jl at*
 by_cases h1:leads l h t
 ·grind
 rw[Do h1]at is ⊢
 by_cases h2:h.2.2<l.2.2
 ·rw[AC h2]
  obtain⟨_,m1,m2,m3⟩:=EZ hh hl (by omega);have g:=Int.not_lt.1 λk=>h1 (.inl k)
  rw[Bv]at g;generalize met h l=m at*;have d:=m1.1;have hB:0<l.2.2-h.2.2:=by omega
  generalize l.2.2-h.2.2=B at*;generalize hA:h.2.1-l.2.1=A at*;have g2:B*t.1<=A*t.2:=by
   have:(l.2.1-h.2.1)*t.2= -(A*t.2):=by rw[<-Int.neg_mul];congr 1;omega
   omega
  have e1:t.1*m.2*B=B*t.1*m.2:=by rw[NE,abE t.1 B]
  have e2:m.1*t.2*B=A*t.2*m.2:=by rw[NE,m3,NE]
  have g3:t.1*m.2*B<=m.1*t.2*B:=by rw[e1,e2];exact aaP g2 (by omega)
  exact abq g3 hB
 grind
theorem bk.time{l:List Pt}{t t':Int×Int}{H:List Ev}: ∀{cs ds:List wk},(∀x∈cs,bP l x.2 t'=bP l x.2 t)->bk l t H cs ds->bk l t' H cs ds
 | [],_,_,h=>h
 |x::cs,ds,hw,h=>by
  have e:=hw x ab0;have ih: ∀{ds},bk l t H cs ds->bk l t' H cs ds:=λ{ds}=>bk.time λy hy=>hw y (If _ hy)
  refine⟨λhy=>?_,λhy=>?_⟩
  ·rw[e]at hy
   obtain⟨d,EB,h1,h2,h3,h4⟩:=h.1 hy
   grind
  rw[e]at hy
  exact ih (h.2 hy)
theorem KY{c:aH}(ok:aT c)(fo:0<abF c.ae.bv):
 ∃(i:Nat) (c':aH),i<abF c.af.ce/\(c.af.ce[i]!).1=Ev.num c.ae.bv[0]!/\jF c (Ev.num c.ae.bv[0]!)=abK (c',(c.af.ce[i]!).2,0)/\
  aT ⟨Ev.at c.ae.bv[0]!,c'.ii,c'.af,c'.ae,c'.io⟩/\c'.ii=c.ii/\c'.af=tu c.af i/\c.ci.1*(Ev.at c.ae.bv[0]!).2<=(Ev.at c.ae.bv[0]!).1*c.ci.2:=by
 have hm:=aE fo;obtain⟨d,hd,hn⟩:=ok.C0 _ hm;obtain⟨x,hx,h1,h2,h3⟩:=ok.AA.io d hd;obtain⟨w,hw,he⟩:=aN.1 h3;have hw0:w=0:=PP λhx=>by
  refine ok.nB.nd 0 w (by omega) hw ?_
  grind
 subst hw0;obtain⟨i,hi,rfl⟩:=aN.1 hx;have num:(c.af.ce[i]!).1=Ev.num c.ae.bv[0]!:=by rw[<-hn,h1]
 have tm:Ev.at c.ae.bv[0]! =(bP c.ii.am (c.af.ce[i]!).2 c.ci).1:=by rw[he]
 obtain⟨c',r1,r3,r4,r5,r6⟩:=TP ok hi;have hb:=ok.known i hi;have pt:=λ(x:Int×Int) (hb:kr c.ii.am x)=>And.intro (bK ok.dI hb.2).1 (bK ok.dI hb.1).1
 have rt:=F6 (pt _ hb).1 (pt _ hb).2 ok.dP ok.gZ h2;have ge:=aaJ (pt _ hb).1 (pt _ hb).2 ok.gZ h2;rw[num]at r1;refine⟨i,c',hi,num,r1,?_,r4,r6,by rw[tm];exact ge⟩;refine⟨by rw[tm];exact rt.1,by rw[tm];exact rt.2,r3.dI,r3.wF,r3.nB,r3.Hu,r3.hd,r3.known,?_⟩;refine bk.time (λy hy=>?_) r3.AA;have hy':y∈c.af.ce:=by rw[r6]at hy;exact(tC ok.tB hi hy).1
 obtain⟨j,hj,rfl⟩:=aN.1 hy';have hbj:=ok.known j hj;rw[r4,r5];refine E3 (pt _ hbj).1 (pt _ hbj).2 ok.gZ (by rw[tm];exact rt.1) (by rw[tm];exact ge) (λis=>?_);obtain⟨d',hd',k1,k2⟩:=ok.AA.has _ hy' is;obtain⟨w,hw,he⟩:=aN.1 k2;have:=Aj ok.nB w hw;rw[he]at this;exact Int.not_lt.1 λk=>this (.inl (oH.2 k))
theorem lC{p q:Pt}{t:Int×Int}(hp:fM p)(hq:fM q)(ht:jb t)(hr:bo t):df p q t=abK (abN (leads p q t),if p.1=q.1 then 2 else 0)\/(p.1=q.1/\df p q t=abK (abM,2)):=by
 unfold df;rw[zu ht,AC ⟨hp,hq,hr⟩]
 by_cases h:p.1=q.1
 ·right;simp[h]
 left
 simp[yV hp hq ht]
 grind[KF]
end Go.Proofs.YtkdikjnhkfffjaaGreat
namespace Go.Proofs.YtkdikjnhkfffjaaGreat
open Go.Vm
theorem gd{α:Type}[BEq α][LawfulBEq α]: ∀{a b:List α},a.Nodup->(∀x∈a,x∈b)->abF b<=abF a->a.Perm b
 | [],b,_,_,hl=>by
  grind
 |x::a,b,hd,h,hl=>by
  rw[abw]at hd;have hx:=h x ab0;have ih:=gd (b:=b.erase x) hd.2 (λy hy=>by
   rw[List.mem_erase_of_ne (λe=>hd.1 (by rw[<-e];exact hy))];exact h y (If _ hy)) (by
   rw[List.length_erase_of_mem hx];rw[WF]at hl;omega)
  grind
theorem xY{α β:Type}{f:α->β}: ∀{l:List α},l.Nodup->(∀x∈l,∀y∈l,f x=f y->x=y)->(l.map f).Nodup
 | [],_,_=>List.nodup_nil
 |x::l,h,hi=>by
  rw[abw]at h;rw[List.map_cons,abw];refine⟨λhm=>?_,xY h.2 λy hy z hz=>hi y (If _ hy) z (If _ hz)⟩
  grind
end Go.Proofs.YtkdikjnhkfffjaaGreat
namespace Go.Proofs.YtkdikjnhkfffjaaGreat
open Go.Vm Classical
def xZ(l:List Int)(k:Nat):List (Int×Int):=(List.range k).map λi=>(l[i+1]!,l[i / 2]!)
abbrev dN(l:List Int):List (Int×Int):=xZ l (abF l-1)
theorem gU(l:List Int)(k:Nat):(xZ l k).length=k:=by unfold xZ;simp
theorem Is(l:List Int)(k:Nat):xZ l (k+1)=xZ l k++[(l[k+1]!,l[k / 2]!)]:=by unfold xZ;rw[List.range_succ,List.map_append];rfl
theorem vQ(l:List Int){k i:Nat}(h:i<k):(xZ l k)[i]! =(l[i+1]!,l[i / 2]!):=by rw[getElem!_pos _ i (by rw[gU];exact h)];unfold xZ;simp
theorem Gg(l:List Int)(hl:(abF l)<=1000):oU l=abK (dN l):=by
 unfold oU;have key:=bz (body:=sy) (λi=>(l,((i+1:Nat):Int),xZ l i)) (abF l-1) (λi hi=>by
  have e:aa .i64 (Int.tdiv (aa .i64 (((i+1:Nat):Int)-1)) 2)=((i / 2:Nat):Int):=by rw[show aa .i64 (((i+1:Nat):Int)-1)=(i:Int)from by rw[fN ⟨by omega,by omega⟩];omega,Int.tdiv_eq_ediv_of_nonneg (by omega),fN ⟨by omega,by omega⟩];omega
  unfold sy;simp (disch:=omega) only[aK,az,v6,ar,e,aj];rw[bG (by rw[gU,abx];omega),aj,aM (by omega),<-Is])
 rw[show(l,(1:Int),([]:List _))=(l,((0+1:Nat):Int),xZ l 0)from rfl,key];refine au ?_;unfold sy
 grind
theorem alq(l:List Int)(hl:(abF l)<=1000):F2 l=abK (dN l):=by rw[<-Gg l hl];rfl
theorem Hw{l:List Int}{e:Int×Int}(h:e∈dN l):e.1∈l/\e.2∈l:=by
 obtain⟨i,hi,rfl⟩:=aN.1 h
 grind[gU,vQ,aE]
theorem Ri{l:List Int}(hd:l.Nodup){e:Int×Int}(h:e∈dN l):e.1≠e.2:=by obtain⟨i,hi,rfl⟩:=aN.1 h;rw[gU]at hi;rw[vQ l hi];exact λh=>bJ.1 hd _ _ (by omega) (by omega) h.symm
theorem vR{l:List Int}(hd:l.Nodup):(dN l).Nodup:=by
 refine xY List.nodup_range λi hi j hj h=>?_
 have h2:=bJ.1 hd
 grind
theorem Ak(l:List Int)(x:Int)(hl:(abF l)<=1000000):
 (∀k,k<abF l->l[k]! =x->(∀j,j<k->l[j]!≠x)->dt l x=abK (k:Int))/\((∀k,k<abF l->l[k]!≠x)->dt l x=abK (-1)):=by
 have k1:=pz (body:=mK) (λi=>(l,x,((abF l):Int),(i:Int))) (abF l) (λi=>l[i]! =x) (λi=>(i:Int)) (e:= -1) (λi hi=>by
  unfold mK;simp (disch:=omega) only[az,ar l i hi,aj,aM];refine⟨λh=>?_,λh=>?_⟩
  ·rw[lZ h.symm];rfl
  ·rw[jA (λk=>h k.symm)];rfl) (by
  unfold mK;simp (disch:=omega) only[aA,ww])
 assumption
theorem OR(l:List Int)(x:Int)(hl:(abF l)<=1000000):mL l x=abK (abN (x∈l)):=by
 unfold mL
 by_cases hx:x∈l
 ·obtain⟨k,k1,k2,k3⟩:=least (aN.1 hx)
  rw[(Ak l x hl).1 k k1 k2 k3,aj,az hx,az (by omega)]
 grind[Ak,aj,aA]
theorem eZ{f:List Pt}(aV:aR f){id:Int}(h:dY f id):fH ⟨f⟩ id=abK (bC f id,0):=by
 have h1:=aV.1;have hc:cU ⟨f⟩=abK 0:=by rw[eW];exact congrArg abK (dM.2 aV)
 have bs:=tj f id (by omega) (λi j=>fD aV.2.2);unfold fH lQ kL;rw[DP];simp[hc,];obtain⟨k,hk,he⟩:=h;rw[bs.1 k hk he];simp[aj,abD,ww,show((0:Int) !=0)=abM from rfl,ar f k hk,iO aV.2.2 hk he]
theorem Rj{f:List Pt}(aV:aR f){t:Int×Int}(r:bo t)(dX:jb t){a b:Int}(ha:dY f a)(hb:dY f b)(fo:a≠b):vH ⟨f⟩ t a b=abK (abN (leads (bC f a) (bC f b) t)):=by
 unfold vH
 grind[eZ,aj,bK,lC]
theorem ads{f:List Pt}(aV:aR f){t:Int×Int}(dX:jb t){x:Int×Int}(hb:kr f x):Bl x ⟨f⟩ t=abK (abN (leads (bC f x.2) (bC f x.1) t)):=by
 obtain⟨h1,h2⟩:=hb;obtain⟨j,j1,j2,j3⟩:=zz aV h1;obtain⟨k,k1,k2,k3⟩:=zz aV h2;unfold Bl
 grind[aj,ar,CU,bK]
def cq(f:List Pt):List Int:=f.map λp=>p.1
theorem db{f:List Pt}(h:eu f):(cq f).Nodup:=by
 refine xY ?_ ?_
 ·exact bJ.2 λi j p8 hj e=>by have:=fD h p8 hj;grind
 intro x hx y hy e
 obtain⟨i,hi,rfl⟩:=aN.1 hx;obtain⟨j,hj,rfl⟩:=aN.1 hy;rw[gT h hi hj e]
theorem cz{f:List Pt}{id:Int}:id∈cq f↔dY f id:=by
 unfold cq dY;rw[abt];constructor
 ·rintro⟨p,hp,rfl⟩
  obtain⟨i,hi,rfl⟩:=aN.1 hp;exact⟨i,hi,rfl⟩
 grind
structure kW(k:bX):Prop where
 iG:aT k.jp
 perm:(cq k.jp.ii.am).Perm k.bv
 cert:(k.jp.af.ce.map λx=>x.2).Perm (dN k.bv)
 lead: ∀e∈dN k.bv,leads (bC k.jp.ii.am e.2) (bC k.jp.ii.am e.1) k.jp.ci
theorem ma{c:cm}(ok:hM c):(c.ce.map λx=>x.2).Nodup:=by
 refine xY ?_ ?_
 ·exact bJ.2 λi j p8 hj e=>ok.nd i j p8 hj (by rw[e])
 intro x hx y hy e
 obtain⟨i,hi,rfl⟩:=aN.1 hx;obtain⟨j,hj,rfl⟩:=aN.1 hy;rcases abr i j with k|k|k
 ·exact absurd e (ok.nd i j k hj)
 ·rw[k]
 exact absurd e.symm (ok.nd j i k hi)
def aeZ(k:bX):Prop:=(∀i,i<abF k.jp.ii.am->(k.jp.ii.am[i]!).1∈k.bv)/\(dN k.bv).length=abF k.jp.af.ce/\
 ∀i,i<abF k.jp.af.ce->(k.jp.af.ce[i]!).2∈dN k.bv/\leads (bC k.jp.ii.am (k.jp.af.ce[i]!).2.2) (bC k.jp.ii.am (k.jp.af.ce[i]!).2.1) k.jp.ci
def Vo(k:bX):Prop:=(∀i,i<abF k.bv->dY k.jp.ii.am k.bv[i]!/\ ∀j,j<i->k.bv[j]!≠k.bv[i]!)/\abF k.jp.af.ce=(dN k.bv).length/\
 ∀i,i<(dN k.bv).length->qy k.jp.af.ce (dN k.bv)[i]!/\leads (bC k.jp.ii.am ((dN k.bv)[i]!).2) (bC k.jp.ii.am ((dN k.bv)[i]!).1) k.jp.ci
theorem dW{l:List wk}{x:Int×Int}:qy l x↔x∈l.map λy=>y.2:=by
 unfold qy;rw[abt];constructor
 ·grind
 rintro⟨y,hy,rfl⟩
 obtain⟨i,hi,rfl⟩:=aN.1 hy
 grind
theorem alr{k:bX}(ok:aT k.jp)(hl:(abF k.bv)=abF k.jp.ii.am):aeZ k↔kW k:=by
 have nd:=db ok.dI.2.2;have il:(cq k.jp.ii.am).length=(abF k.jp.ii.am):=UV ..;have cl:(k.jp.af.ce.map λx=>x.2).length=(abF k.jp.af.ce):=UV ..;have cn:=ma ok.wF;constructor
 ·rintro⟨h1,h2,h3⟩
  have pm:=gd nd (λx hx=>by obtain⟨i,hi,rfl⟩:=cz.1 hx;exact h1 i hi) (by omega);have pc:=gd cn (λx hx=>by obtain⟨i,hi,rfl⟩:=dW.2 hx;exact(h3 i hi).1) (by omega);refine⟨ok,pm,pc,λe he=>?_⟩;obtain⟨i,hi,rfl⟩:=dW.2 (pc.mem_iff.2 he)
  grind
 intro h
 refine⟨λi hi=>h.perm.mem_iff.1 (cz.2 ⟨i,hi,rfl⟩),by rw[<-h.cert.length_eq,cl],λi hi=>?_⟩;have:=h.cert.mem_iff.1 (dW.1 ⟨i,hi,rfl⟩);exact⟨this,h.lead _ this⟩
theorem als{k:bX}(ok:aT k.jp)(hl:(abF k.bv)=abF k.jp.ii.am):Vo k↔kW k:=by
 have nd:=db ok.dI.2.2;have il:(cq k.jp.ii.am).length=(abF k.jp.ii.am):=UV ..;have cl:(k.jp.af.ce.map λx=>x.2).length=(abF k.jp.af.ce):=UV ..;constructor
 ·rintro⟨h1,h2,h3⟩
  have hn:=bJ.2 λi j p8 hj e=>(h1 j hj).2 i p8 e
  have pm:=gd hn (λx hx=>by obtain⟨i,hi,rfl⟩:=aN.1 hx;exact cz.2 (h1 i hi).1) (by omega);have pc:(dN k.bv).Perm (k.jp.af.ce.map λx=>x.2):=gd (vR hn) (λx hx=>by obtain⟨i,hi,rfl⟩:=aN.1 hx;exact dW.1 (h3 i hi).1) (by omega);refine⟨ok,pm.symm,pc.symm,λe he=>?_⟩;obtain⟨i,hi,rfl⟩:=aN.1 he
  grind
 intro h
 have hn:=h.perm.nodup_iff.1 nd;refine⟨λi hi=>⟨cz.1 (h.perm.mem_iff.2 (aE hi)),λj hj e=>bJ.1 hn j i hj hi e⟩,by rw[<-h.cert.length_eq,cl],λi hi=>?_⟩;exact⟨dW.2 (h.cert.mem_iff.2 (aE hi)),h.lead _ (aE hi)⟩
theorem Bw{α:Type}{p q:Prop}[Decidable p][Decidable q]{a b:α}(h:p↔q):(if p then a else b)=if q then a else b:=by
 grind
theorem pD{k:bX}(fit:oc k.jp)(hl:(abF k.bv)<=1000):nH k=abK (if kW k then 0 else 8):=by
 unfold nH;rw[iF fit,aj]
 by_cases ok:aT k.jp
 case neg=>rw[Do ok,Do (λh=>ok h.iG)];rfl
 rw[AC ok,bw rfl,ww]
 by_cases hh:(abF k.bv)=abF k.jp.ii.am
 case neg=>rw[dV (by grind),v6,Do (λh=>hh ?_)];rw[<-h.perm.length_eq];exact UV ..
 rw[bw (by grind),ww,<-Bw (alr ok hh)];have bd:=ok.bd;have M5:=kV (body:=sK) (λi=>(dN k.bv,k.jp.af.ce,((abF k.jp.af.ce):Int),(i:Int),k.jp.ci.1,k.jp.ci.2,k.jp.ii.am,k.jp.af.aW,k.jp.af.ce,k.jp.ae.ai.ay,k.jp.ae.ai.be,k.jp.ae.ai.bi,k.jp.ae.bv,k.jp.ae.aC,k.jp.io,k.bv)) (abF k.jp.af.ce)
  (λi=>(k.jp.af.ce[i]!).2∈dN k.bv/\leads (bC k.jp.ii.am (k.jp.af.ce[i]!).2.2) (bC k.jp.ii.am (k.jp.af.ce[i]!).2.1) k.jp.ci) (r:= .done 8) (e:= .done 0) (λi hi=>by
  have hb:=ok.known i hi;have hv:=ok.wF.cv i hi;unfold sK;simp (disch:=omega) only[ar k.jp.af.ce i hi,aj,ie (dN k.bv) _ (by rw[gU];omega),Rj ok.dI ok.gZ ok.dP hb.2 hb.1 (λh=>hv.2.2.2.2 h.symm),aM]
  grind) (by
  unfold sK;simp)
 have outer:=kV (body:=sL) (λi=>(k.jp.ii.am,((abF k.jp.ii.am):Int),(i:Int),k.jp.ci.1,k.jp.ci.2,k.jp.ii.am,k.jp.af.aW,k.jp.af.ce,k.jp.ae.ai.ay,k.jp.ae.ai.be,k.jp.ae.ai.bi,k.jp.ae.bv,k.jp.ae.aC,k.jp.io,k.bv)) (abF k.jp.ii.am)
  (λi=>(k.jp.ii.am[i]!).1∈k.bv) (r:=8) (e:=if(dN k.bv).length=abF k.jp.af.ce/\ ∀i,i<abF k.jp.af.ce->(k.jp.af.ce[i]!).2∈dN k.bv/\leads (bC k.jp.ii.am (k.jp.af.ce[i]!).2.2) (bC k.jp.ii.am (k.jp.af.ce[i]!).2.1) k.jp.ci then 0 else 8) (λi hi=>by
  unfold sL;simp (disch:=omega) only[ar k.jp.ii.am i hi,OR,aM]
  grind) (by
  unfold sL;simp (disch:=omega) only[Gg k.bv hl,]
  grind)
 refine(outer).trans ?_
 by_cases h1: ∀i,i<abF k.jp.ii.am->(k.jp.ii.am[i]!).1∈k.bv
 ·rw[AC h1]
  congr 1
  exact Bw ⟨λh=>⟨h1,h.1,h.2⟩,λh=>⟨h.2.1,h.2.2⟩⟩
 rw[Do h1,Do (λh:aeZ k=>h1 h.1)]
theorem I6{c:aH}(ok:aT c)(es:List _)(kn: ∀x∈es,kr c.ii.am x):
 qN c es=abK (abN (abF c.af.ce=abF es/\ ∀i,i<abF es->qy c.af.ce es[i]!/\leads (bC c.ii.am (es[i]!).2) (bC c.ii.am (es[i]!).1) c.ci)):=by
 have bd:=ok.bd;unfold qN;simp only[aK]
 by_cases h0:(abF c.af.ce)=abF es
 case neg=>rw[dV (by omega),v6,aA (λh=>h0 h.1)]
 have key:=kV (body:=ve) (λi=>(es,(i:Int),c.ci.1,c.ci.2,c.ii.am,c.af.aW,c.af.ce,c.ae.ai.ay,c.ae.ai.be,c.ae.ai.bi,c.ae.bv,c.ae.aC,c.io)) (abF es)
  (λi=>qy c.af.ce es[i]!/\leads _ _ c.ci) (e:=abL) (λi hi=>by
  have alu:cm.mk c.af.aW c.af.ce=c.af:=rfl;unfold ve;simp (disch:=omega) only[aK,az,ar es i hi,aj,alu,OO,ads ok.dI ok.dP (kn _ (aE hi)),aM]
  by_cases h1:qy c.af.ce es[i]!
  ·rw[az h1]
   by_cases h2:leads (bC c.ii.am (es[i]!).2) (bC c.ii.am (es[i]!).1) c.ci
   ·rw[az h2]
    exact⟨λh=>absurd ⟨h1,h2⟩ h,λ_=>rfl⟩
   rw[aA h2]
   exact⟨λ_=>rfl,λh=>absurd h.2 h2⟩
  ·rw[aA h1]
   exact⟨λ_=>rfl,λh=>absurd h.1 h1⟩) (by
  unfold ve;simp (disch:=omega) only[aK,aA,ww])
 grind
theorem adt{σ ρ:Type}{body:σ->Option _}(st:Nat->σ)(n:Nat)(P:Nat->Prop){r:ρ}(h: ∀i,i<n->(¬P i->body (st i)=abK (.done r))/\(P i->body (st i)=abK (.next (st (i+1)))))
 (hx: ¬ ∀i,i<n->P i):aq body (st 0)=abK r:=by
 obtain⟨i,hi⟩:=Classical.not_forall.1 hx;obtain⟨hi,hx⟩:=Classical.not_imp.1 hi;obtain⟨m,m1,m2,m3⟩:=least (c:=λi=> ¬P i) ⟨i,hi,hx⟩;rw[bz st m λj hj=>(h j (by omega)).2 (aby.1 (m3 j hj))]
 grind[au]
def ckS(k:bX)(i:Nat):=((i:Int),k.jp.ci.1,k.jp.ci.2,k.jp.ii.am,k.jp.af.aW,k.jp.af.ce,k.jp.ae.ai.ay,k.jp.ae.ai.be,k.jp.ae.ai.bi,k.jp.ae.bv,k.jp.ae.aC,k.jp.io,k.bv)
theorem KZ{k:bX}(fit:oc k.jp)(hl:(abF k.bv)<=1000):o8 k=abK (if kW k then 0 else 8):=by
 unfold o8;rw[tz fit,aj]
 by_cases ok:aT k.jp
 case neg=>rw[Do ok,Do (λh=>ok h.iG)];rfl
 rw[AC ok,bw rfl,ww]
 by_cases hh:(abF k.bv)=abF k.jp.ii.am
 case neg=>rw[dV (by grind),v6,Do (λh=>hh ?_)];rw[<-h.perm.length_eq];exact UV ..
 rw[bw (by grind),ww,<-Bw (als ok hh)];have step: ∀i,i<abF k.bv->(¬(dY k.jp.ii.am k.bv[i]!/\ ∀j,j<i->k.bv[j]!≠k.bv[i]!)->o7 (ckS k i)=abK (.done 8))/\((dY k.jp.ii.am k.bv[i]!/\ ∀j,j<i->k.bv[j]!≠k.bv[i]!)->o7 (ckS k i)=abK (.next (ckS k (i+1)))):=by
  intro i hi;unfold ckS;unfold o7;simp (disch:=omega) only[aK,az,ar k.bv i hi,aj]
  by_cases h1:dY k.jp.ii.am k.bv[i]!
  case neg=>rw[OP ok.dI h1];exact⟨λ_=>rfl,λh=>absurd h.1 h1⟩
  obtain⟨m,m1,m2,m3⟩:=zz ok.dI h1;rw[m2];have M5:=kV (body:=sS) (λj=>((i:Int),(j:Int),k.jp.ci.1,k.jp.ci.2,k.jp.ii.am,k.jp.af.aW,k.jp.af.ce,k.jp.ae.ai.ay,k.jp.ae.ai.be,k.jp.ae.ai.bi,k.jp.ae.bv,k.jp.ae.aC,k.jp.io,k.bv)) i
   (λj=>k.bv[j]!≠k.bv[i]!) (e:= .next (((i+1:Nat):Int),k.jp.ci.1,k.jp.ci.2,k.jp.ii.am,k.jp.af.aW,k.jp.af.ce,k.jp.ae.ai.ay,k.jp.ae.ai.be,k.jp.ae.ai.bi,k.jp.ae.bv,k.jp.ae.aC,k.jp.io,k.bv)) (λj hj=>by
   unfold sS;simp (disch:=omega) only[az,ar,aj,aM]
   by_cases h:k.bv[j]! =k.bv[i]!
   ·rw[lZ h];exact⟨λ_=>rfl,λk=>absurd h k⟩
   ·rw[jA h];exact⟨λk=>absurd h k,λ_=>rfl⟩) (by
   unfold sS;simp (disch:=omega) only[aA,ww,aM])
  grind
 by_cases hP: ∀i,i<abF k.bv->dY k.jp.ii.am k.bv[i]!/\ ∀j,j<i->k.bv[j]!≠k.bv[i]!
 ·have jus:=I6 ok _ (λx hx=>by
   obtain⟨h1,h2⟩:=Hw hx;obtain⟨i,hi,e1⟩:=aN.1 h1;obtain⟨j,hj,e2⟩:=aN.1 h2;exact⟨e1▸(hP i hi).1,e2▸(hP j hj).1⟩)
  have o:=kV _ (abF k.bv) _ (e:=if Vo k then 0 else 8) step (by
   unfold o7 ckS;simp (disch:=omega) only[aK,aA,alq k.bv hl,aj,jus]
   by_cases h2:(abF k.jp.af.ce)=(dN k.bv).length/\ ∀i,i<(dN k.bv).length->qy k.jp.af.ce (dN k.bv)[i]!/\leads (bC k.jp.ii.am ((dN k.bv)[i]!).2) (bC k.jp.ii.am ((dN k.bv)[i]!).1) k.jp.ci
   ·rw[az h2,AC (⟨hP,h2.1,h2.2⟩)];rfl
   rw[aA h2,Do (λh:Vo k=>h2 ⟨h.2.1,h.2.2⟩)];rfl)
  refine(o).trans ?_;rw[AC hP]
 rw[Do (λh:Vo k=>hP h.1)]
 exact adt _ (abF k.bv) _ step hP
end Go.Proofs.YtkdikjnhkfffjaaGreat
