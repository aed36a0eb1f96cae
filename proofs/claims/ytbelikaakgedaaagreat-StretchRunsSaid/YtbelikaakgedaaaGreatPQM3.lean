/- Plain laws (3). -/
import Derived.Test.YtbelikaakgedaaaGreatPQM2
import Derived.Test.YtbelikaakgedaaaGreatPQS4
open List renaming length_append->If,mem_cons_of_mem->NE,length_drop->PP,length_map->Pc,mem_append->Sw,mem_cons_self->YG,length_cons->Mi,mem_map->SG,nodup_cons->EE,length_singleton->SI,length_nil->GH,length_set->QK,drop_zero->Mq,length->Sv
open Bool renaming not_true->IR,not_false->Md,and_self->SH,true->KL,false->YF
open Int renaming mul_right_comm->Y,mul_le_mul_of_nonneg_right->KJ,le_of_mul_le_mul_right->Xc,le_trans->YH,natAbs_mul->SJ,mul_comm->SK
open Classical renaming byContradiction->WF,not_not->Mp
open Nat renaming lt_trichotomy->Ii,dvd_mul_left->YI,not_lt_zero->YJ
open Prod renaming ext->Mg
open Option renaming some->al
open Decidable renaming decide->Pg
namespace Go.Proofs.YtbelikaakgedaaaGreat
open Go.Vm Classical
theorem xcC(c:aE)(n:Int)(I:(Sv c.kw)<=1000000):(∀k,k<Sv c.kw->(c.kw[k]!).1=n->(∀j,j<k->(c.kw[j]!).1≠n)->yb c n=al (k:Int))/\((∀k,k<Sv c.kw->(c.kw[k]!).1≠n)->yb c n=al (-1)):=by
 refine jK (λi=>(n,(i:Int),c.io.1,c.io.2,c.jp.am,c.af.aO,c.af.ii,c.ae.ai.aC,c.ae.ai.be,c.ae.ai.bi,c.ae.bv,c.ae.ax,c.kw)) (Sv c.kw) (λi=>(c.kw[i]!).1=n) (λi=>(i:Int)) (λi N=>?_) ?_
 ·have e1:=aA (by omega)
  unfold zX;simp (disch:=omega) only[aq c.kw i N,aN]
  grind
 unfold zX
 simp
theorem afb{ds:J yc}(hu:Up ds)(I:(Sv ds)<=1000000)(n:Int):(∀k,k<Sv ds->(ds[k]!).1=n->tV ds n=al ((k:Int),KL))/\((∀k,k<Sv ds->(ds[k]!).1≠n)-> ∃m:Nat,tV ds n=al ((m:Int),YF)):=by
 have bs:=vK ds n I (Ba.1 hu);unfold tV;rw[ak9];constructor
 ·intro k hk he;rw[bs.1 k hk he];rfl
 intro h
 obtain ⟨m,_,_,_,e⟩:=bs.2 h;exact ⟨m,by rw[e];rfl⟩
theorem aV.bd{c:aE}(ok:aV c):(Sv c.kw)<=200/\Sv c.jp.am<=64/\Sv c.af.ii<=200:=by have:=ok.hd;have:=ok.oH.bd;have:=ok.fD.1;have:=ok.vX.len;omega
theorem lA{c:aE}(ok:aV c):ib c=al c:=by have bd:=ok.bd;unfold ib oW sN;simp (disch:=omega) only[bJ,aj,xE ok.oH]
theorem nG{c:aE}(ok:aV c):oY c=al c:=by have bd:=ok.bd;have ab:=ok.oH.bd;have I:=ok.oH.so.fl;have hn:=ok.oH.so.n2;have hu:=ok.oH.so.ul;unfold oY;simp (disch:=omega) only[bJ,aj]
theorem zd{cs:J yc}{i:Nat}(hu:Up cs)(N:i<Sv cs){x:yc}(X:x∈cs.eraseIdx i):x∈cs/\x.1≠(cs[i]!).1:=by
 rw[CA,Sw]at X;have ub:=Ba.1 hu;rcases X with X|X
 ·obtain⟨j,D,S,rfl⟩:=cN.1 X
  grind
 obtain⟨j,hj,rfl⟩:=aU.1 X
 rw[PP]at hj;have:=ub i (i+1+j) (by omega) (by omega)
 grind
theorem ho1{c:aE}(ok:aV c)(i:Nat)(N:i<Sv c.af.ii): ∀j,j<(rC c.af i).ii.length->lK c.jp.am ((rC c.af i).ii[j]!).2:=by intro j hj;have hm:(rC c.af i).ii[j]!∈c.af.ii:=(zd ok.Aa N (aJ hj)).1;obtain⟨m,PM,Y6⟩:=aU.1 hm;rw[<-Y6];exact ok.known m PM
theorem adC{c:aE}(ok:aV c){i:Nat}(N:i<Sv c.af.ii):
 ∃c':aE,nu c (c.af.ii[i]!).1=al (c',(c.af.ii[i]!).2,0)/\sW c (c.af.ii[i]!).1=al c'/\aV c'/\c'.jp=c.jp/\c'.io=c.io/\c'.af=rC c.af i:=by
 have bd:=ok.bd;have c30:=acv ok.vX N rfl;have ho2:=af8 ok.vX N rfl;have fe:=ok.Gu.erase N;have pd:=afb ok.RA (by omega) (c.af.ii[i]!).1;have da:=xcC c (c.af.ii[i]!).1 (by omega);cases hf:(cf c.jp.am (c.af.ii[i]!).2 c.io).2 with
 |false=>
  have no: ∀k,k<Sv c.kw->(c.kw[k]!).1≠(c.af.ii[i]!).1:=by
   intro k hk he;obtain⟨x,X,D,S,_⟩:=ok.Gu.kw _ (aJ hk);obtain⟨j,hj,rfl⟩:=aU.1 X;have ub:=Ba.1 ok.Aa;have:j=i:=by
    rcases Ii j i with h|h|h
    ·have:=ub j i h N;omega
    ·exact h
    have:=ub i j h hj;omega
   grind
  refine⟨⟨c.io,c.jp,rC c.af i,c.ae,c.kw⟩,?_,?_,?_,rfl,rfl,rfl⟩
  ·unfold nu
   obtain⟨m,e⟩:=pd.2 no;simp_all[aj,AC,nG]
  ·unfold sW
   simp_all[lA,aj,aF,AC]
  exact⟨ok.ie,ok.cO,ok.fD,dom ok.vX N,ok.oH,ok.NX,ok.hd,ho1 ok i N,fe.1 hf⟩
 |true=>
  obtain⟨k,hk,k1,k2,k3⟩:=fe.2 hf;obtain⟨w,hw,nP⟩:=aU.1 k2;have hh:(c.ae.bv[w]!).2.2.2=(c.kw[k]!).2:=by rw[nP]
  have ub:=Ba.1 ok.RA;have before: ∀j,j<k->(c.kw[j]!).1≠(c.af.ii[i]!).1:=λj hj he=>by grind
  have dl:=I7 hk;obtain⟨L,d1,d2⟩:=Fv c.kw k hk;refine⟨⟨c.io,c.jp,rC c.af i,fS c.ae w,c.kw.eraseIdx k⟩,?_,?_,?_,rfl,rfl,rfl⟩
  ·unfold nu
   simp (disch:=omega) only[c30,aj,show((0:Int) !=0)=YF from rfl,AC,nG ok,pd.1 k hk k1,ww,aq c.kw k hk,hAW ok.oH hw ok.oH.fit hh,aN,peL,d1,d2]
  ·unfold sW
   have s1:=lJ c.kw k (by omega);have s2:gQ c.kw ((k+1:Nat):Int) ((Sv c.kw):Int)=al (c.kw.drop (k+1)):=by unfold gQ;rw[Do ⟨by omega,by omega,by omega⟩];simp_all[Int.toNat_natCast,List.take_of_length_le,PP,Nat.le_refl]
   have tl:(c.kw.take k).length=k:=by grind
   have dl2:(c.kw.drop (k+1)).length=Sv c.kw- (k+1):=PP;simp (disch:=omega) only[lA ok,aj,ho2,da.1 k hk k1 before,aA,ww,aq c.kw k hk,ae9 ok.oH hw hh,s1,bJ,aN,aB,s2,ba,CA];cases hem:(c.kw.drop (k+1)).isEmpty with
   |true=>
    grind
   |false=>rfl
  have rem:=Ko ok.oH hw
  have P7:=wrT ok.oH hw;have fJ:(fS c.ae w).bv.length=Sv c.ae.bv-1:=by
   have D:=rem.I;have S:=ok.oH.I;have h3:(fS c.ae w).ai=lh c.ae.ai (c.ae.bv[w]!).2.2.2:=by unfold fS;split<;>rfl
   rw[h3]at D;change _+(c.ae.ai.bi++[_]).length=(Sv c.ae.ai.aC)at D;rw[If]at D;simp only[Mi,GH]at D;omega
  have UR:(fS c.ae w).ax.length=200:=by
   have D:=rem.wl;have h3:(fS c.ae w).ai=lh c.ae.ai (c.ae.bv[w]!).2.2.2:=by unfold fS;split<;>rfl
   rw[h3]at D;change _=(Sv c.ae.ai.aC)at D;rw[D,<-ok.oH.wl,ok.NX]
  refine⟨ok.ie,ok.cO,ok.fD,dom ok.vX N,rem,UR,?_,ho1 ok i N,?_⟩
  ·show(fS c.ae w).bv.length=(c.kw.eraseIdx k).length
   rw[fJ,dl,ok.hd]
  refine k3.mono λx X e he hm=>(P7 e).2 ⟨hm,λh=>?_⟩
  have:=(zd ok.Aa N X).2;rw[h,nP]at he;exact this he.symm
theorem qa4{c:aE}(ok:aV c){i:Nat}(_hi:i<Sv c.af.ii){c':aE}(h:nu c (c.af.ii[i]!).1=al (c',(c.af.ii[i]!).2,0)):yX c (c.af.ii[i]!).1=al (c',0):=by
 unfold yX;rw[iR ok.fit,Do ok]
 grind
abbrev cE:aE:=⟨(0,0),⟨[]⟩,⟨0,[]⟩,⟨⟨[],[],[]⟩,[],[]⟩,[]⟩
theorem RC{l:J Pt}(ok:aS l){id:Int}(h:dZ l id): ¬(bm l id).1<0:=by obtain⟨D,_⟩:=bU ok h;have:=D.1;omega
theorem agR{c:aE}(ok:aV c){x:Int×Int}(X:jO x)(hb:lK c.jp.am x)(hn: ¬rQ c.af.ii x):
 (lz c x=al (cE,0,18)/\oQ c x=al (cE,0,18)/\(I6 c.af\/ ¬Ea c.ae.ai))\/
 ∃c':aE,lz c x=al (c',c.af.aO,0)/\oQ c x=al (c',c.af.aO,0)/\aV c'/\c'.jp=c.jp/\c'.io=c.io/\c'.af=vL c.af x/\(c'.ae.ai=c.ae.ai\/c'.ae.ai=jN c.ae.ai):=by
 have bd:=ok.bd;have n0:=ok.vX.n0;have n1:=ok.vX.n1;have fit:=ok.fit;have ad:=akh ok.vX X;have rd:=af7 ok.vX X;rw[EQ hn]at ad rd;have hc:fL c=al 0:=by rw[iR fit,Do ok]
 have p1:=qU ok.fD x.1;have p2:=qU ok.fD x.2;have q1:=RC ok.fD hb.1;have q2:=RC ok.fD hb.2;have wh:=BO ok.fD X ok.ie ok.cO;have rw':=BP ok.fD ok.cO hb
 by_cases hf:I6 c.af
 ·rw[Do hf]at ad rd
  left;refine⟨?_,?_,.inl hf⟩
  ·unfold lz eD
   simp_all[aF,]
  unfold oQ
  grind
 rw[EQ hf]at ad rd;have cok:=acu ok.vX X hn hf;have adE: ∀j,j<(vL c.af x).ii.length->lK c.jp.am ((vL c.af x).ii[j]!).2:=by
  intro j hj;rw[Gt]at hj;rw[z8]
  by_cases h:j<Sv c.af.ii
  ·rw[Do h];exact ok.known j h
  grind
 have fresh: ∀e∈c.ae.bv,Ev.num e≠c.af.aO:=by intro e he fk;obtain⟨d,hd,D⟩:=ok.GD e he;obtain⟨y,hy,S,_⟩:=ok.Gu.kw d hd;obtain⟨j,hj,rfl⟩:=aU.1 hy;have:=(ok.vX.nr j hj).2;omega
 have sn:=ok.Gu.snoc (x:=(c.af.aO,x));cases hw:(cf c.jp.am x c.io).2 with
 |false=>
  right;refine⟨⟨c.io,c.jp,vL c.af x,c.ae,c.kw⟩,?_,?_,⟨ok.ie,ok.cO,ok.fD,cok,ok.oH,ok.NX,ok.hd,adE,sn.1 hw⟩,rfl,rfl,rfl,.inl rfl⟩
  ·unfold lz eD
   simp_all[aF,nG]
  unfold oQ
  simp_all[lA,]
 |true=>
  obtain⟨t1,t2⟩:=IZ (bU ok.fD hb.2).1 (bU ok.fD hb.1).1 ok.cO ok.ie hw
  by_cases op:Ea c.ae.ai
  ·right
   have pu:=ae6 ok.oH op ok.oH.fit (t:=(cf c.jp.am x c.io).1) t1 t2 n0 n1 fresh;have rp:=hmo ok.oH op (t:=(cf c.jp.am x c.io).1) t1 t2 n0 n1;have Zp:=aji ok.oH op (t:=(cf c.jp.am x c.io).1) t1 t2 n0 n1 fresh;have ZX:=ajh ok.oH op (n:=c.af.aO) t1;have US:=I4 ok.oH op (t:=(cf c.jp.am x c.io).1) (n:=c.af.aO) t1;have ap: ∀h:Int×Int,aQ c.kw [(c.af.aO,h)]=al (c.kw++[(c.af.aO,h)]):=λh=>ba (by simp;omega)
   have UR:(rO c.ae (cf c.jp.am x c.io).1 c.af.aO).ax.length=200:=by have:=Zp.wl;change _=(c.ae.ai.aC.set _ _).length at this;rw[QK]at this;rw[this,<-ok.oH.wl,ok.NX]
   refine⟨⟨c.io,c.jp,vL c.af x,rO c.ae (cf c.jp.am x c.io).1 c.af.aO,c.kw++[(c.af.aO,o8 c.ae.ai)]⟩,?_,?_,⟨ok.ie,ok.cO,ok.fD,cok,Zp,UR,?_,adE,?_⟩,rfl,rfl,rfl,.inr rfl⟩
   ·unfold lz eD
    simp_all[aF,nG,]
   ·unfold oQ
    simp[rd,lA ok,rw',hw,xC ok.oH.so,aA op,rp,ap]
   ·show(rO c.ae (cf c.jp.am x c.io).1 c.af.aO).bv.length=(c.kw++[_]).length
    rw[US,If,ok.hd];rfl
   have c63:=ok.Gu.mono λy hy e he hm=>(ZX e).2 (.inr hm)
   exact(c63.snoc).2 _ hw rfl ((ZX _).2 (.inl rfl))
  left
  have pu:=hnt ok.oH op ok.oH.fit (t:=(cf c.jp.am x c.io).1) t1 t2 n0 n1 fresh;refine⟨?_,?_,.inr op⟩
  ·unfold lz eD
   simp_all[aF,nG,]
  unfold oQ
  simp[rd,lA ok,rw',hw,xC ok.oH.so,aF op,]
theorem Up.inj{cs:J yc}(h:Up cs){x y:yc}(X:x∈cs)(hy:y∈cs)(he:x.1=y.1):x=y:=by
 obtain⟨i,N,rfl⟩:=aU.1 X;obtain⟨j,hj,rfl⟩:=aU.1 hy;have ub:=Ba.1 h;rcases Ii i j with D|D|D
 ·have:=ub i j D hj;omega
 ·rw[D]
 grind
structure NY(c:aE)(f:List Pt)(i k:Nat)(a:aM)(ds:List yc):Prop where
 ok:gB a
 w2:(Sv a.ax)=200
 new:bo f c.io a.bv (c.af.ii.take i) ds
 old:bo c.jp.am c.io a.bv (c.af.ii.drop i) (c.kw.drop k)
 kl:k<=Sv c.kw
 PF:(Sv a.bv)=Sv ds+(Sv c.kw-k)
theorem ald{a:aM}(ok:gB a){w:Nat}(hw:w<Sv a.bv):(fS a w).bv.length=Sv a.bv-1/\(fS a w).ax.length=(Sv a.ax):=by
 have rem:=Ko ok hw;have h3:(fS a w).ai=lh a.ai (a.bv[w]!).2.2.2:=by unfold fS;split<;>rfl
 have D:=rem.I;have S:=ok.I;have h4:=rem.wl;rw[h3]at D h4;change _+(a.ai.bi++[_]).length=(Sv a.ai.aC)at D;change _=(Sv a.ai.aC)at h4;simp[]at D;exact⟨by omega,by rw[h4,ok.wl]⟩
theorem agS{a:aM}{t:Int×Int}{n:Int}(ok:gB a)(Zp:gB (rO a t n)):(rO a t n).ax.length=(Sv a.ax):=by have:=Zp.wl;change _=(a.ai.aC.set _ _).length at this;rw[QK]at this;rw[this,ok.wl]
section
variable {c : aE} (ok : aV c) {f : J Pt} (bj : aS f) (kn : ∀ i, i < (Sv c.af.ii) -> lK f (c.af.ii[i]!).2)
include ok
theorem v''{i:Nat}{x:yc}(X:x∈c.af.ii.take i)(N:i<Sv c.af.ii):x.1≠(c.af.ii[i]!).1:=by obtain⟨j,D,S,rfl⟩:=cN.1 X;have:=ok.vX.up j i D N;omega
theorem hd1{i:Nat}{x:yc}(X:x∈c.af.ii.drop (i+1))(N:i<Sv c.af.ii):x.1≠(c.af.ii[i]!).1:=by obtain⟨j,D,rfl⟩:=aU.1 X;rw[PP]at D;rw[Cs];have:=ok.vX.up i (i+1+j) (by omega) (by omega);omega
theorem aga{i k:Nat}{a:aM}{ds:J yc}(inv:NY c f i k a ds)(N:i<Sv c.af.ii)(was:(cf c.jp.am (c.af.ii[i]!).2 c.io).2=YF): ∀e∈a.bv,Ev.num e≠(c.af.ii[i]!).1:=by
 have u1:Up (c.af.ii.take i):=ok.Aa.sublist (List.take_sublist _ _);have u2:Up (c.af.ii.drop i):=ok.Aa.sublist (List.drop_sublist _ _);have d1:=inv.new.up u1;have d2:=inv.old.up u2;have aqv: ∀x∈ds,∀y∈c.kw.drop k,x.1<y.1:=by intro x X y hy;obtain⟨p,hp,D,_⟩:=inv.new.kw x X;obtain⟨q,hq,S,_⟩:=inv.old.kw y hy;obtain⟨m,m1,m2,rfl⟩:=cN.1 hp;obtain⟨n,n1,rfl⟩:=aU.1 hq;rw[PP]at n1;rw[Cs]at S;have:=ok.vX.up m (i+n) (by omega) (by omega);omega
 have nd:=ajp (by show List.Pairwise _ _;rw[List.pairwise_append];exact⟨d1,d2,aqv⟩);have only:=st0 (H:=a.bv) nd (by rw[Pc,If,PP,inv.PF];omega) (λn hn=>by
  obtain⟨x,X,rfl⟩:=SG.1 hn;rcases Sw.1 X with X|X
  ·obtain⟨p,hp,D,S,h3⟩:=inv.new.kw x X
   grind
  obtain⟨p,hp,D,S,h3⟩:=inv.old.kw x X
  grind)
 intro e he fk;obtain⟨x,X,D⟩:=SG.1 (only e he);rcases Sw.1 X with X|X
 ·obtain⟨p,hp,S,_⟩:=inv.new.kw x X
  grind[v'']
 obtain⟨p,hp,S,h3,_⟩:=inv.old.kw x X
 have WX:=List.mem_of_mem_drop hp;have:=ok.Aa.inj WX (aJ N) (by rw[<-S,D,fk])
 grind
def ZZ(c:aE)(f:J Pt)(i:Nat)(a:aM)(ds:J yc):=
 (c.af.ii,((Sv c.af.ii):Int),(i:Int),c.io.1,c.io.2,c.jp.am,c.af.aO,c.af.ii,c.ae.ai.aC,c.ae.ai.be,c.ae.ai.bi,c.ae.bv,c.ae.ax,c.kw,f,(0:Int),(0:Int),(0:Int),c.io.1,c.io.2,c.af.aO,c.af.ii,a.ai.aC,a.ai.be,a.ai.bi,a.bv,a.ax,f,ds)
def Z0(c:aE)(f:J Pt)(i:Nat)(a:aM)(ds:J yc):=
 ((i:Int),c.io.1,c.io.2,c.jp.am,c.af.aO,c.af.ii,c.ae.ai.aC,c.ae.ai.be,c.ae.ai.bi,c.ae.bv,c.ae.ax,c.kw,f,(0:Int),(0:Int),(0:Int),c.io.1,c.io.2,f,c.af.aO,c.af.ii,a.ai.aC,a.ai.be,a.ai.bi,a.bv,a.ax,ds)
include bj kn
theorem adF{i k:Nat}{a:aM}{ds:J yc}(inv:NY c f i k a ds)(N:i<Sv c.af.ii)(GM:(Sv ds)<=i):
 (eE (ZZ c f i a ds)=al (.done (.done (cE,18)))/\dv (Z0 c f i a ds)=al (.done (cE,18)))\/
 ∃k' a' GN,eE (ZZ c f i a ds)=al (.next (ZZ c f (i+1) a' GN))/\dv (Z0 c f i a ds)=al (.next (Z0 c f (i+1) a' GN))/\NY c f (i+1) k' a' GN/\Sv GN<=i+1:=by
 have bd:=ok.bd;have e1:Pg ((i:Int)<((Sv c.af.ii):Int))=KL:=aA (by omega);have sc:=aN (show i<1000000000 by omega);have cg:=aq c.af.ii i N;have hb:=kn i N;have wn:=BO bj (ok.vX.cv i N) ok.ie ok.cO;rw[Do hb]at wn;have wr:=BP bj ok.cO hb;have pd:=afb ok.RA (by omega) (c.af.ii[i]!).1;have da:=xcC c (c.af.ii[i]!).1 (by omega);have dr:=zl N;have tk:=cB N;have old:=inv.old;rw[dr]at old;have Ug:aM.mk (bg.mk a.ai.aC a.ai.be a.ai.bi) a.bv a.ax=a:=rfl;have vN:(aE.mk (c.io.1,c.io.2) (Field.mk c.jp.am) (bA.mk c.af.aO c.af.ii) (aM.mk (bg.mk c.ae.ai.aC c.ae.ai.be c.ae.ai.bi) c.ae.bv c.ae.ax) c.kw)=c:=rfl
 have other: ∀x∈c.af.ii.take i,x.1≠(c.af.ii[i]!).1:=λx X=>v'' ok X N
 have adG: ∀x∈c.af.ii.drop (i+1),x.1≠(c.af.ii[i]!).1:=λx X=>hd1 ok X N
 cases Lk:(cf c.jp.am (c.af.ii[i]!).2 c.io).2 with
 |true=>
  obtain⟨d,GN,Lg,NC,hd3,hd4⟩:=(bo.mL Lk).1 old;have hk:k<(Sv c.kw):=by
   refine WF λh=>?_
   grind[List.drop_eq_nil_of_le]
  have dk:=zl hk;rw[dk]at Lg;injection Lg with hd5 hd6;subst hd5 hd6;obtain⟨w,hw,nP⟩:=aU.1 hd3;have hh:(a.bv[w]!).2.2.2=(c.kw[k]!).2:=by rw[nP]
  have azB:Ev.num a.bv[w]! =(c.af.ii[i]!).1:=by rw[nP]
  have before: ∀j,j<k->(c.kw[j]!).1≠(c.af.ii[i]!).1:=λj hj he=>by
   grind
  have pl:=pd.1 k hk NC;have dq:=da.1 k hk NC before;have gk:=aq c.kw k hk;have k0:Pg ((0:Int)<=(k:Int))=KL:=aA (by omega);have ap:aQ ds [c.kw[k]!]=al (ds++[c.kw[k]!]):=ba (by simp;omega);cases Uh:(cf f (c.af.ii[i]!).2 c.io).2 with
  |true=>
   right;have tt:bI (cf f (c.af.ii[i]!).2 c.io).1/\jo (cf f (c.af.ii[i]!).2 c.io).1:=IZ (bU bj hb.2).1 (bU bj hb.1).1 ok.cO ok.ie Uh;obtain⟨t1,t2⟩:=tt;have c64:=aen inv.ok inv.ok.fit hw hh t1 t2;have rr:=rnR inv.ok hw hh t1 t2;have Jx:=adw inv.ok hw t1 t2;have P7:=rnA inv.ok hw t1;have ZW:=Km inv.ok hw t1;have stay: ∀(cs:J yc),(∀x∈cs,x.1≠(c.af.ii[i]!).1)-> ∀x∈cs,∀e:Ev,e.num=x.1->e∈a.bv->e∈(p6 a w (cf f (c.af.ii[i]!).2 c.io).1).bv:=by
    grind
   refine⟨k+1,p6 a w (cf f (c.af.ii[i]!).2 c.io).1,ds++[c.kw[k]!],?_,?_,⟨Jx,by rw[ZW.2];exact inv.w2,?_,?_,by omega,?_⟩,by simp;omega⟩
   ·unfold eE ZZ
    simp only[e1,ww,cg,aj,wn,pl,Uh,gk,Ug,c64,ap,show((0:Int) !=0)=YF from rfl,AC,sc]
   ·unfold dv Z0
    simp only[aB,e1,ww,cg,aj,vN,dq,wr,Uh,k0,gk,Ug,rr,ap,IR,AC,sc]
   ·rw[tk]
    exact((inv.new.mono (stay _ other)).snoc).2 _ Uh NC ((P7 _).2 (.inl (by show _=((cf f (c.af.ii[i]!).2 c.io).1.1,(cf f (c.af.ii[i]!).2 c.io).1.2,(a.bv[w]!).2.2);rw[nP])))
   ·exact hd4.mono (stay _ adG)
   rw[ZW.1,inv.PF,If]
   grind
  |false=>
   right;have rv:=hAW inv.ok hw inv.ok.fit hh;have rr:=ae9 inv.ok hw hh;have Jx:=Ko inv.ok hw;have P7:=wrT inv.ok hw;have ZW:=ald inv.ok hw;have stay: ∀(cs:J yc),(∀x∈cs,x.1≠(c.af.ii[i]!).1)-> ∀x∈cs,∀e:Ev,e.num=x.1->e∈a.bv->e∈(fS a w).bv:=by intro cs yL x X e he hm;refine(P7 e).2 ⟨hm,λh=>yL x X ?_⟩;rw[<-he,h,azB]
   refine⟨k+1,fS a w,ds,?_,?_,⟨Jx,by rw[ZW.2];exact inv.w2,?_,hd4.mono (stay _ adG),by omega,?_⟩,by omega⟩
   ·unfold eE ZZ
    simp only[e1,ww,cg,aj,wn,pl,Uh,gk,Ug,rv,show((0:Int) !=0)=YF from rfl,AC,sc]
   ·unfold dv Z0
    simp only[aB,e1,ww,cg,aj,vN,dq,wr,Uh,k0,gk,Ug,rr,Md,AC,sc]
   ·rw[tk]
    exact((inv.new.mono (stay _ other)).snoc).1 Uh
   have:=inv.PF
   rw[ZW.1];omega
 |false=>
  have Gu:=(bo.mq Lk).1 old;have no: ∀j,j<Sv c.kw->(c.kw[j]!).1≠(c.af.ii[i]!).1:=by intro j hj he;obtain⟨x,X,D,S,_⟩:=ok.Gu.kw _ (aJ hj);have:=ok.Aa.inj X (aJ N) (by rw[<-D,he]);rw[this,Lk]at S;cases S
  obtain⟨m,pl⟩:=pd.2 no;have dq:=da.2 no;have k0:Pg ((0:Int)<= -1)=YF:=aF (by omega);cases Uh:(cf f (c.af.ii[i]!).2 c.io).2 with
  |true=>
   have tt:bI (cf f (c.af.ii[i]!).2 c.io).1/\jo (cf f (c.af.ii[i]!).2 c.io).1:=IZ (bU bj hb.2).1 (bU bj hb.1).1 ok.cO ok.ie Uh;obtain⟨t1,t2⟩:=tt;have n0:=(ok.vX.nr i N).1;have n1:(c.af.ii[i]!).1<=1000000:=by have:=(ok.vX.nr i N).2;have:=ok.vX.n1;omega
   have fresh:=aga ok inv N Lk
   by_cases op:Ea a.ai
   ·right
    have pu:=ae6 inv.ok op inv.ok.fit t1 t2 n0 n1 fresh;have rp:=hmo inv.ok op t1 t2 n0 n1;have Zp:=aji inv.ok op t1 t2 n0 n1 fresh;have ZX:=ajh inv.ok op (n:=(c.af.ii[i]!).1) t1;have US:=I4 inv.ok op (n:=(c.af.ii[i]!).1) t1;have ap: ∀h:Int×Int,aQ ds [((c.af.ii[i]!).1,h)]=al (ds++[((c.af.ii[i]!).1,h)]):=λh=>ba (by simp;omega)
    have T3:=xC inv.ok.so;rw[aA op]at T3;refine⟨k,rO a (cf f (c.af.ii[i]!).2 c.io).1 (c.af.ii[i]!).1,ds++[((c.af.ii[i]!).1,o8 a.ai)],?_,?_,⟨Zp,by rw[agS inv.ok Zp];exact inv.w2,?_,?_,inv.kl,?_⟩,by simp;omega⟩
    ·unfold eE ZZ
     simp only[e1,ww,cg,aj,wn,pl,Uh,Ug,pu,ap,show((0:Int) !=0)=YF from rfl,AC,sc]
    ·unfold dv Z0
     simp only[aB,e1,ww,cg,aj,vN,dq,wr,Uh,k0,Ug,rp,ap,IR,AC,sc,T3]
    ·rw[tk]
     exact((inv.new.mono λx X e he hm=>(ZX e).2 (.inr hm)).snoc).2 _ Uh rfl ((ZX _).2 (.inl rfl))
    ·exact Gu.mono λx X e he hm=>(ZX e).2 (.inr hm)
    have:=inv.PF
    rw[US,If];simp only[Mi,GH];omega
   left
   have pu:=hnt inv.ok op inv.ok.fit t1 t2 n0 n1 fresh;have ap: ∀h:Int×Int,aQ ds [((c.af.ii[i]!).1,h)]=al (ds++[((c.af.ii[i]!).1,h)]):=λh=>ba (by simp;omega)
   have T3:=xC inv.ok.so;rw[aF op]at T3;constructor
   ·unfold eE ZZ
    simp only[e1,ww,cg,aj,wn,pl,Uh,Ug,pu,ap,show((18:Int) !=0)=KL from rfl,AC]
   unfold dv Z0
   simp only[aB,e1,ww,cg,aj,vN,dq,wr,Uh,k0,Ug,IR,Md,AC,T3]
  |false=>
   right;refine⟨k,a,ds,?_,?_,⟨inv.ok,inv.w2,?_,Gu,inv.kl,inv.PF⟩,by omega⟩
   ·unfold eE ZZ
    simp only[e1,ww,cg,aj,wn,pl,Uh,show((0:Int) !=0)=YF from rfl,AC,sc]
   ·unfold dv Z0
    simp only[aB,e1,ww,cg,aj,vN,dq,wr,Uh,k0,Md,AC,sc]
   rw[tk]
   exact(inv.new.snoc).1 Uh
theorem aqx:
 (tX c ⟨f⟩=al (cE,18)/\pN c ⟨f⟩=al (cE,18))\/
 ∃c':aE,tX c ⟨f⟩=al (c',0)/\pN c ⟨f⟩=al (c',0)/\aV c'/\c'.jp.am=f/\c'.io=c.io/\c'.af=c.af:=by
 have bd:=ok.bd;have f64:=bj.1;have run: ∀(d i k:Nat) (a:aM) (ds:J yc),Sv c.af.ii-i<=d->i<=Sv c.af.ii->NY c f i k a ds->Sv ds<=i->
  (au eE (ZZ c f i a ds)=al (.done (cE,18))/\au dv (Z0 c f i a ds)=al (cE,18))\/
  ∃c':aE,au eE (ZZ c f i a ds)=al (.done (c',0))/\au dv (Z0 c f i a ds)=al (c',0)/\aV c'/\c'.jp.am=f/\c'.io=c.io/\c'.af=c.af:=by
  have fin: ∀(k:Nat) (a:aM) (ds:J yc),NY c f (Sv c.af.ii) k a ds-> ∃c':aE,au eE (ZZ c f (Sv c.af.ii) a ds)=al (.done (c',0))/\au dv (Z0 c f (Sv c.af.ii) a ds)=al (c',0)/\aV c'/\c'.jp.am=f/\c'.io=c.io/\c'.af=c.af:=by
   intro k a ds inv;have hk:(Sv c.kw)-k=0:=by have:=inv.old;rw[List.drop_length]at this;have:c.kw.drop k=[]:=this;rw[List.drop_eq_nil_iff]at this;omega
   have new:=inv.new;rw[List.take_length]at new;refine⟨⟨c.io,⟨f⟩,c.af,a,ds⟩,ar ?_,ar ?_,⟨ok.ie,ok.cO,bj,ok.vX,inv.ok,inv.w2,?_,kn,new⟩,rfl,rfl,rfl⟩
   ·unfold eE ZZ
    simp
   ·unfold dv Z0
    simp[]
   have:=inv.PF
   show(Sv a.bv)=Sv ds;omega
  intro d
  induction d with
  |zero=>
   intro i k a ds hd N inv GM;have:i=(Sv c.af.ii):=by omega
   subst this;exact .inr (fin k a ds inv)
  |succ d ih=>
   intro i k a ds hd N inv GM
   by_cases he:i=Sv c.af.ii
   ·subst he;exact .inr (fin k a ds inv)
   rcases adF ok bj kn inv (by omega) GM with⟨D,S⟩|⟨k',a',GN,D,S,h3,h4⟩
   ·exact .inl ⟨ar D,ar S⟩
   rw[aD D,aD S]
   exact ih _ k' a' GN (by omega) (by omega) h3 h4
 have start:=run (Sv c.af.ii) 0 0 c.ae [] (by omega) (by omega) ⟨ok.oH,ok.NX,rfl,by rw[Mq,Mq];exact ok.Gu,by omega,by have:=ok.hd;simp;omega⟩ (by simp);have hc:fL c=al 0:=by rw[iR ok.fit,Do ok]
 have hf:dm ⟨f⟩=al 0:=by rw[fR];exact congrArg al (eV.2 bj)
 have tw:=nG ok;have tw':=tw;have first:au qw (c.af.ii,((Sv c.af.ii):Int),0,c.io.1,c.io.2,c.jp.am,c.af.aO,c.af.ii,c.ae.ai.aC,c.ae.ai.be,c.ae.ai.bi,c.ae.bv,c.ae.ax,c.kw,f,0,0,0)=
  au qw (c.af.ii,((Sv c.af.ii):Int),((Sv c.af.ii):Int),c.io.1,c.io.2,c.jp.am,c.af.aO,c.af.ii,c.ae.ai.aC,c.ae.ai.be,c.ae.ai.bi,c.ae.bv,c.ae.ax,c.kw,f,0,0,0):=by
  refine bc (λi=>(c.af.ii,((Sv c.af.ii):Int),(i:Int),c.io.1,c.io.2,c.jp.am,c.af.aO,c.af.ii,c.ae.ai.aC,c.ae.ai.be,c.ae.ai.bi,c.ae.bv,c.ae.ax,c.kw,f,0,0,0)) (Sv c.af.ii) (λi N=>?_);have e1:Pg ((i:Int)<((Sv c.af.ii):Int))=KL:=aA (by omega);unfold qw;simp (disch:=omega) only[e1,ww,aq c.af.ii i N,aj,qU bj,aF (RC bj (kn i N).1),aF (RC bj (kn i N).2),AC,aN]
 have azD: ∀r,au eE (ZZ c f 0 c.ae [])=al (.done r)->tX c ⟨f⟩=al r:=by intro r hr;unfold tX;simp[hc,hf,];rw[first];refine ar ?_;unfold qw;have e1:Pg (((Sv c.af.ii):Int)<((Sv c.af.ii):Int))=YF:=aF (by omega);simp (disch:=omega) only[e1,tw',bJ];exact hr
 have aBr: ∀r,au dv (Z0 c f 0 c.ae [])=al r->pN c ⟨f⟩=al r:=by intro r hr;unfold pN oW;simp (disch:=omega) only[lA ok,bJ];exact hr
 grind
end
theorem nH(l:J _)(x:Int×Int)(I:(Sv l)<=1000000):dQ l x=al (Pg (x∈l)):=by
 unfold dQ uW;have key:=jK (body:=mV) (λi=>(l,((Sv l):Int),(i:Int),x)) (Sv l) (λi=>l[i]! =x) (λi=>(i:Int)) (e:= -1) (λi N=>by
  have e1:Pg ((i:Int)<((Sv l):Int))=KL:=aA (by omega);unfold mV;simp (disch:=omega) only[e1,aq l i N,aj,aN];generalize l[i]! =y;constructor
  ·intro h;rw[ju (congrArg Prod.fst h.symm),ju (congrArg Prod.snd h.symm)];rfl
  ·intro h
   by_cases D:x.1=y.1
   ·rw[ju D,hO (λS=>h (Mg D.symm S.symm))];rfl
   rw[hO D];rfl) (by
  unfold mV;simp)
 rw[aB]
 by_cases X:x∈l
 ·obtain⟨i,N,he⟩:=aU.1 X
  obtain⟨k,D,S,h3⟩:=least (c:=λi=>l[i]! =x) ⟨i,N,he⟩;have:=key.1 k D S h3;rw[show((0:Nat):Int)=0 from rfl]at this;rw[this,aA X];simp (disch:=omega) only[aj,aA]
 grind
theorem hg1(l:J _)(x:Int×Int)(I:(Sv l)<=1000000):IW l x=al (Pg (x∈l)):=by
 unfold IW;have key:=dX (body:=AZ) (λi=>(l,(i:Int),x)) (Sv l) (λi=>l[i]! =x) (e:=YF) (λi N=>by
  have e1:Pg ((i:Int)<((Sv l):Int))=KL:=aA (by omega);unfold AZ;simp (disch:=omega) only[aB,e1,aq l i N,aj,aN];generalize l[i]! =y;constructor
  ·intro h;rw[ju (congrArg Prod.fst h),ju (congrArg Prod.snd h)];rfl
  ·intro h
   by_cases D:y.1=x.1
   ·rw[ju D,hO (λS=>h (Mg D S))];rfl
   rw[hO D];rfl) (by
  unfold AZ;simp[])
 by_cases X:x∈l
 ·rw[aA X];exact key.1 (aU.1 X)
 grind
theorem abi(a b:J yc)(I:(Sv a)<=1000000):sQ ⟨a⟩ ⟨b⟩=al (Pg (a=b)):=by
 unfold sQ;simp[]
 by_cases h:(Sv a)=Sv b
 case neg=>rw[cC (by omega),aF (λk=>h (by rw[k]))];rfl
 rw[aY (by omega)];simp;have key:=dX (body:=xt) (λi=>((i:Int),a,b)) (Sv a) (λi=> ¬a[i]! =b[i]!) (r:=YF) (e:=KL) (λi N=>by
  have e1:=aA (by omega);unfold xt;simp (disch:=omega) only[aq,aN,]
  grind) (by
  unfold xt;simp)
 by_cases he:a=b
 ·grind
 rw[aF he]
 refine key.1 (WF λX=>he (nj h λi N=>?_))
 grind
theorem ajq(a b:J yc)(I:(Sv a)<=1000000):ma a b=al (Pg (a=b)):=by
 unfold ma;simp[]
 by_cases h:(Sv a)=Sv b
 case neg=>rw[cC (by omega),aF (λk=>h (by rw[k]))];rfl
 rw[aY (by omega)];simp;have key:=dX (body:=mC) (λi=>(a,b,((Sv a):Int),(i:Int))) (Sv a) (λi=> ¬a[i]! =b[i]!) (r:=YF) (e:=KL) (λi N=>by
  have e1:=aA (by omega);unfold mC;simp (disch:=omega) only[aq,aN,]
  grind) (by
  unfold mC;simp)
 by_cases he:a=b
 ·grind
 rw[aF he]
 refine key.1 (WF λX=>he (nj h λi N=>?_))
 grind
theorem aki{cs:J yc}{m:Nat}{x:yc}(X:x∈cs)(fk:x.1≠(cs[m]!).1):x∈cs.eraseIdx m:=by
 obtain⟨j,hj,rfl⟩:=aU.1 X;have hjm:j≠m:=λh=>fk (by rw[h])
 rw[CA,Sw]
 by_cases h:j<m
 ·exact .inl (cN.2 ⟨j,h,hj,rfl⟩)
 right
 rw[aU];refine⟨j- (m+1),by rw[PP];omega,?_⟩
 grind
def kP(c0:aE)(f:J Pt)(es:J (Int×Int))(i:Nat)(c:aE):=
 (es,c0.af.ii,((Sv c0.af.ii):Int),(i:Int),c.io.1,c.io.2,c.jp.am,c.af.aO,c.af.ii,c.ae.ai.aC,c.ae.ai.be,c.ae.ai.bi,c.ae.bv,c.ae.ax,c.kw,f,(0:Int),(0:Int),(0:Int))
def kR(c0:aE)(f:J Pt)(es:J (Int×Int))(i:Nat)(c:aE):=
 (es,(i:Int),c0.io.1,c0.io.2,c0.jp.am,c0.af.aO,c0.af.ii,c0.ae.ai.aC,c0.ae.ai.be,c0.ae.ai.bi,c0.ae.bv,c0.ae.ax,c0.kw,f,(0:Int),(0:Int),(0:Int),c.io.1,c.io.2,c.jp.am,c.af.aO,c.af.ii,c.ae.ai.aC,c.ae.ai.be,c.ae.ai.bi,c.ae.bv,c.ae.ax,c.kw)
def eP(es:J (Int×Int))(i:Nat)(c:aE):=
 (es,((Sv es):Int),(i:Int),c.io.1,c.io.2,c.jp.am,c.af.aO,c.af.ii,c.ae.ai.aC,c.ae.ai.be,c.ae.ai.bi,c.ae.bv,c.ae.ax,c.kw,(0:Int),(0:Int),(0:Int))
def eR(es:J (Int×Int))(i:Nat)(c:aE):=
 (es,(i:Int),(0:Int),(0:Int),(0:Int),c.io.1,c.io.2,c.jp.am,c.af.aO,c.af.ii,c.ae.ai.aC,c.ae.ai.be,c.ae.ai.bi,c.ae.bv,c.ae.ax,c.kw)
def jP(c:aE):Int:=c.af.aO- ((Sv c.af.ii):Int)
structure Bb(c:aE)(f:List Pt)(es:List (Int×Int))(r:aE):Prop where
 has: ∀e∈es,rQ r.af.ii e
 sub: ∀x∈r.af.ii,x.2∈es
 ok:aV r
 fD:r.jp.am=f
 io:r.io=c.io
 room:jP c<=jP r
def Roomy(c:aE)(k:Nat):Prop:=Sv c.af.ii<=k/\c.af.aO<=k/\ ∀j,j<Sv c.ae.ai.aC->c.ae.ai.aC[j]!<=k
theorem bo.len{l:J Pt}{t:Int×Int}{H:J Ev}: ∀{cs ds:J yc},bo l t H cs ds->Sv ds<=Sv cs
 | [],ds,h=>by rw[h];omega
 |x::cs,ds,h=>by
  cases hy:(cf l x.2 t).2 with
  |true=>obtain⟨d,GN,rfl,_,_,h4⟩:=h.1 hy;exact Nat.succ_le_succ h4.len
  |false=>exact Nat.le_succ_of_le (h.2 hy).len
theorem Roomy.adI{c:aE}(ok:aV c){k:Nat}(h:Roomy c k)(hk:k<=199): ¬(I6 c.af\/ ¬Ea c.ae.ai):=by
 obtain⟨D,S,h3⟩:=h;have fl:=ok.Gu.len;have hd:=ok.hd;have I:=ok.oH.I;have wl:=ok.oH.wl;have w2:=ok.NX;rintro(h|h)
 ·rcases h with h|h<;>omega
 refine h ⟨by omega,?_⟩
 have:=h3 _ (Gm ok.oH.so (by omega)).1;omega
theorem Roomy.more{c c':aE}{k:Nat}(h:Roomy c k){x:Int×Int}(hc:c'.af=vL c.af x)(hs:c'.ae.ai=c.ae.ai\/c'.ae.ai=jN c.ae.ai):Roomy c' (k+1):=by
 obtain⟨D,S,h3⟩:=h;refine⟨?_,?_,λj hj=>?_⟩
 ·rw[hc]
  show(c.af.ii++[(c.af.aO,x)]).length<=_
  grind
 ·rw[hc]
  show c.af.aO+1<=_;omega
 rcases hs with e|e
 ·grind
 rw[e]at hj ⊢
 change j<(c.ae.ai.aC.set _ _).length at hj;show(c.ae.ai.aC.set _ _)[j]!<=_
 grind
structure Bc(f:List Pt)(es:List (Int×Int)):Prop where
 len:(Sv es)<=1000000
 cv: ∀x∈es,jO x
 kn: ∀x∈es,lK f x
theorem adJ{c0:aE}(ok0:aV c0){f:J Pt}{es:J (Int×Int)}(En:Bc f es):
 ∀(d i:Nat) (c:aE),Sv c0.af.ii-i<=d->i<=Sv c0.af.ii->aV c->(∀x∈c0.af.ii.drop i,x∈c.af.ii)->(∀x∈c.af.ii,x∈c0.af.ii.drop i\/x.2∈es)->
  ∃c':aE,au fM (kP c0 f es i c)=au fM (kP c0 f es (Sv c0.af.ii) c')/\au eH (kR c0 f es i c)=au eH (kR c0 f es (Sv c0.af.ii) c')/\aV c'/\(∀x∈c'.af.ii,x.2∈es)/\c'.jp=c.jp/\c'.io=c.io/\jP c<=jP c':=by
 have bd:=ok0.bd;intro d
 induction d with
 |zero=>
  grind
 |succ d ih=>
  intro i c hd N ok D S
  by_cases he:i=Sv c0.af.ii
  ·grind
  have yD:i<(Sv c0.af.ii):=by omega
  have e1:Pg ((i:Int)<((Sv c0.af.ii):Int))=KL:=aA (by omega);have sc:=aN (show i<1000000000 by omega);have cg:=aq c0.af.ii i yD;have dr:=zl yD;have vN:(aE.mk (c.io.1,c.io.2) (Field.mk c.jp.am) (bA.mk c.af.aO c.af.ii) (aM.mk (bg.mk c.ae.ai.aC c.ae.ai.be c.ae.ai.bi) c.ae.bv c.ae.ax) c.kw)=c:=rfl
  by_cases FU:(c0.af.ii[i]!).2∈es
  ·have s1:fM (kP c0 f es i c)=al (.next (kP c0 f es (i+1) c)):=by
    unfold fM kP;simp only[e1,ww,cg,aj,nH _ _ En.len,aA FU,IR,AC,sc]
   have s2:eH (kR c0 f es i c)=al (.next (kR c0 f es (i+1) c)):=by unfold eH kR;simp only[aB,e1,ww,cg,aj,hg1 _ _ En.len,aA FU,IR,AC,sc]
   rw[aD s1,aD s2];refine ih (i+1) c (by omega) (by omega) ok (λx X=>D x (by rw[dr];exact NE _ X)) (λx X=>?_)
   grind
  have hm:=D (c0.af.ii[i]!) (by rw[dr];exact YG)
  obtain⟨m,PM,Y6⟩:=aU.1 hm;obtain⟨c',r1,r2,r3,r4,r5,r6⟩:=adC ok PM;have rt:=qa4 ok PM r1;rw[Y6]at r2 rt;have s1:fM (kP c0 f es i c)=al (.next (kP c0 f es (i+1) c')):=by unfold fM kP;simp only[e1,ww,cg,aj,nH _ _ En.len,aF FU,Md,sc,vN,rt]
  have s2:eH (kR c0 f es i c)=al (.next (kR c0 f es (i+1) c')):=by unfold eH kR;simp only[aB,e1,ww,cg,aj,hg1 _ _ En.len,aF FU,Md,sc,vN,r2]
  rw[aD s1,aD s2];have cl:c'.af.ii=c.af.ii.eraseIdx m:=by rw[r6];rfl
  have Ay:jP c<=jP c':=by unfold jP;rw[r6];show _<=c.af.aO- (((c.af.ii.eraseIdx m).length:Nat):Int);rw[List.length_eraseIdx_of_lt PM];omega
  have hs:(∀x∈c0.af.ii.drop (i+1),x∈c'.af.ii)/\(∀x∈c'.af.ii,x∈c0.af.ii.drop (i+1)\/x.2∈es):=by
   refine⟨λx X=>?_,λx X=>?_⟩
   ·rw[cl]
    refine aki (D x (by rw[dr];exact NE _ X)) ?_;rw[Y6];exact hd1 ok0 X yD
   rw[cl]at X
   obtain⟨a1,a2⟩:=zd ok.Aa PM X;rw[Y6]at a2;rcases S x a1 with h|h
   ·rw[dr]at h
    rcases List.mem_cons.1 h with rfl|h
    ·exact absurd rfl a2
    exact .inl h
   exact .inr h
  obtain⟨d',q1,q2,q3,q4,q5,hg2,agz⟩:=ih (i+1) c' (by omega) (by omega) r3 hs.1 hs.2
  grind
theorem hd2{f:J Pt}(_fok:aS f){es:J (Int×Int)}(En:Bc f es):
 ∀(d i:Nat) (c:aE),Sv es-i<=d->i<=Sv es->aV c->c.jp.am=f->(∀x∈c.af.ii,x.2∈es)->(∀j,j<i->rQ c.af.ii es[j]!)->
  ∃r:aE×Int,au gT (eP es i c)=al (.done r)/\au ft (eR es i c)=al (.done r)/\(r.2=0/\Bb c f es r.1\/r=(cE,18))/\(∀k,Roomy c k->k+(Sv es-i)<=199->r.2=0):=by
 have el:=En.len;have fin: ∀c:aE,aV c->c.jp.am=f->(∀x∈c.af.ii,x.2∈es)->(∀j,j<Sv es->rQ c.af.ii es[j]!)-> ∃r:aE×Int,au gT (eP es (Sv es) c)=al (.done r)/\au ft (eR es (Sv es) c)=al (.done r)/\(r.2=0/\Bb c f es r.1\/r=(cE,18))/\r.2=0:=by
  intro c ok hf hs hh;have e1:Pg (((Sv es):Int)<((Sv es):Int))=YF:=aF (by omega);refine⟨(c,0),ar ?_,ar ?_,.inl ⟨rfl,λe he=>by obtain⟨j,hj,q⟩:=aU.1 he;grind,hs,ok,hf,rfl,Int.le_refl _⟩,rfl⟩
  ·unfold gT eP
   simp
  unfold ft eR
  simp
 intro d
 induction d with
 |zero=>
  grind
 |succ d ih=>
  intro i c hd N ok hf hs hh
  by_cases he:i=Sv es
  ·grind
  have bd:=ok.bd;have yD:i<(Sv es):=by omega
  have e1:Pg ((i:Int)<((Sv es):Int))=KL:=aA (by omega);have sc:=aN (show i<1000000000 by omega);have cg:=aq es i yD;have vN:(aE.mk (c.io.1,c.io.2) (Field.mk c.jp.am) (bA.mk c.af.aO c.af.ii) (aM.mk (bg.mk c.ae.ai.aC c.ae.ai.be c.ae.ai.bi) c.ae.bv c.ae.ax) c.kw)=c:=rfl;have X0:bA.mk c.af.aO c.af.ii=c.af:=rfl;have hc:=hmk c.af.ii es[i]! (by omega);have hr:=DK c.af es[i]! (by omega)
  by_cases FU:rQ c.af.ii es[i]!
  ·have s1:gT (eP es i c)=al (.next (eP es (i+1) c)):=by
    unfold gT eP;simp only[e1,ww,cg,aj,Kq,hc,aA FU,sc]
   have s2:ft (eR es i c)=al (.next (eR es (i+1) c)):=by unfold ft eR;simp only[aB,e1,ww,cg,aj,X0,hr,aA FU,sc]
   grind[aD]
  have hb:lK c.jp.am es[i]!:=by rw[hf];exact En.kn _ (aJ yD)
  rcases agR ok (En.cv _ (aJ yD)) hb FU with⟨r1,r2,full⟩|⟨c',r1,r2,r3,r4,r5,r6,agb⟩
  ·refine⟨(cE,18),ar ?_,ar ?_,.inr rfl,λk hk I=>absurd full (hk.adI ok (by omega))⟩
   ·unfold gT eP
    simp_all[ww,aj,Kq,aF,AC]
   unfold ft eR
   simp_all
  have s1:gT (eP es i c)=al (.next (eP es (i+1) c')):=by
   unfold gT eP;simp only[e1,ww,cg,aj,Kq,hc,aF FU,AC,vN,r1,show((0:Int) !=0)=YF from rfl,sc]
  have s2:ft (eR es i c)=al (.next (eR es (i+1) c')):=by unfold ft eR;simp only[aB,e1,ww,cg,aj,X0,hr,aF FU,AC,vN,r2,show((0:Int) !=0)=YF from rfl,sc]
  rw[aD s1,aD s2];obtain⟨r,q1,q2,q3,hg2⟩:=ih (i+1) c' (by omega) (by omega) r3 (by rw[r4,hf]) (λx X=>by
   rw[r6]at X;rcases Sw.1 (X)with h|h
   ·exact hs x h
   ·rw[List.mem_singleton.1 h];exact aJ yD) (λj hj=>by
   rw[r6];show rQ (c.af.ii++[(c.af.aO,es[i]!)]) _
   by_cases q:j=i
   ·rw[q];exact⟨Sv c.af.ii,by rw[If,SI];omega,by rw[zZ (Nat.le_refl _),Nat.sub_self];rfl⟩
   obtain⟨w,w1,w2⟩:=hh j (by omega)
   exact⟨w,by rw[If];omega,by rw[jx w1];exact w2⟩)
  refine⟨r,q1,q2,q3.imp (λ⟨q4,q5⟩=>⟨q4,q5.has,q5.sub,q5.ok,q5.fD,q5.io.trans r5,YH ?_ q5.room⟩) id,λk hk I=>hg2 (k+1) (hk.more r6 agb) (by omega)⟩;unfold jP;rw[r6];show _<=(c.af.aO+1) - (((c.af.ii++[(c.af.aO,es[i]!)]).length:Nat):Int)
  grind
theorem Jb{c:aE}(ok:aV c){f:J Pt}(bj:aS f){es:J _}(En:Bc f es):
 ∃r:aE×Int,tY c ⟨f⟩ es=al r/\fu c ⟨f⟩ es=al r/\(r.2=0/\Bb c f es r.1\/r=(cE,18)):=by
 obtain⟨c',g1,g2,g3,g4,g5,g6,g7⟩:=adJ ok En (Sv c.af.ii) 0 c (by omega) (by omega) ok (λx X=>by assumption) (λx X=> .inl (by grind));have bd:=g3.bd;have ale:tY c ⟨f⟩ es=au fM (kP c f es 0 c):=rfl;have alf:fu c ⟨f⟩ es=au eH (kR c f es 0 c):=by unfold fu;simp[lA ok,];rfl
 rw[ale,alf,g1,g2];have eq1:=ajq c'.jp.am f (by omega);have eq2:=abi c'.jp.am f (by omega);have vN:(aE.mk _ _ _ _ c'.kw)=c':=rfl
 by_cases hf:c'.jp.am=f
 ·obtain⟨r,i1,i2,i3,_⟩:=hd2 bj En (Sv es) 0 c' (by omega) (by omega) g3 hf g4 (λj hj=>absurd hj (YJ j))
  refine⟨r,ar ?_,ar ?_,i3.imp (λ⟨q4,q5⟩=>⟨q4,q5.has,q5.sub,q5.ok,q5.fD,q5.io.trans g6,YH g7 q5.room⟩) id⟩
  ·unfold fM kP
   simp[eq1,aA hf,];exact i1
  unfold eH kR
  simp[eq2,aA hf,];exact i2
 have kn: ∀i,i<Sv c'.af.ii->lK f _:=λi N=>En.kn _ (g4 _ (aJ N))
 rcases aqx g3 bj kn with⟨a1,a2⟩|⟨c2,a1,a2,a3,a4,a5,a6⟩
 ·refine⟨(cE,18),ar ?_,ar ?_,.inr rfl⟩
  ·unfold fM kP
   simp_all
  unfold eH kR
  simp_all
 obtain⟨r,i1,i2,i3,_⟩:=hd2 bj En (Sv es) 0 c2 (by omega) (by omega) a3 a4 (by grind) (λj hj=>absurd hj (YJ j))
 refine⟨r,ar ?_,ar ?_,i3.imp (λ⟨q4,q5⟩=>⟨q4,q5.has,q5.sub,q5.ok,q5.fD,(q5.io.trans a5).trans g6,YH (YH g7 (by unfold jP;grind)) q5.room⟩) id⟩
 ·unfold fM kP
  simp[eq1,aF hf,a1,];exact i1
 unfold eH kR
 simp[eq2,aF hf,a2,];exact i2
theorem afc{α:Type}[Inhabited α]{l:J α}:l.Nodup↔ ∀k,k<Sv l->l[k]!∉l.take k:=by
 rw[bO];constructor
 ·intro h k hk hm
  obtain⟨i,D,S,h3⟩:=cN.1 hm
  grind
 intro h i j rE hj he
 exact h j hj (cN.2 ⟨i,rE,by omega,he⟩)
theorem Fy{α:Type}[Inhabited α]{l:J α}{P:α->Prop}:(∀x∈l,P x)↔ ∀i,i<Sv l->P l[i]!:=by
 constructor
 ·grind
 intro h x X
 obtain⟨i,N,rfl⟩:=aU.1 X;exact h i N
theorem mu{σ ρ:Type}{body:σ->O _}(st:Nat->σ)(n:Nat)(P:Nat->Prop){r e:ρ}(h: ∀i,i<n->(¬P i->body (st i)=al (.done r))/\(P i->body (st i)=al (.next (st (i+1)))))
 (Rx:body (st n)=al (.done e)):au body (st 0)=al (if∀i,i<n->P i then e else r):=by
 have key:=dX st n (λi=> ¬P i) (λi N=>⟨(h i N).1,λhn=>(h i N).2 (Mp.1 hn)⟩) Rx
 grind
theorem hx2{f:J Pt}(bj:aS f)(id:Int): ∃p e,dA ⟨f⟩ id=al (p,e)/\(e=0↔dZ f id):=by
 have D:=bj.1;have hc:dm ⟨f⟩=al 0:=by rw[fR];exact congrArg al (eV.2 bj)
 have bs:=vK f id (by omega) (λi j=>eW bj.2.2);unfold dA ly lY;rw[Gs];simp only[hc,]
 by_cases h:dZ f id
 ·obtain⟨k,hk,he⟩:=h
  rw[bs.1 k hk he];refine⟨f[k]!,0,?_,λ_=>⟨k,hk,he⟩,λ_=>rfl⟩;simp_all[aq]
 obtain⟨m,_,_,_,e⟩:=bs.2 (λk hk he=>h ⟨k,hk,he⟩)
 rw[e];exact⟨(0,0,0),6,rfl,λh=>(by cases h),λk=>absurd k h⟩
structure uu(c:aE):Prop where
 f:(Sv c.jp.am)<=1000000
 l:(Sv c.af.ii)<=1000000
 d:(Sv c.kw)<=1000000
 h:(Sv c.ae.bv)<=1000000
 w:(Sv c.ae.ax)<=1000000
 s1:(Sv c.ae.ai.aC)<=1000000
 s2:(Sv c.ae.ai.be)<=1000000
 s3:(Sv c.ae.ai.bi)<=1000000
theorem aV.short{c:aE}(ok:aV c):uu c:=by have bd:=ok.bd;have ab:=ok.oH.bd;have sl:=ok.oH.so.fl;have sn:=ok.oH.so.n2;have qe2:=ok.oH.so.ul;exact⟨by omega,by omega,by omega,by omega,by omega,by omega,by omega,by omega⟩
theorem nI:uu cE:=⟨by decide,by decide,by decide,by decide,by decide,by decide,by decide,by decide⟩
theorem Ku(l:J Int)(I:(Sv l)<=1000000):jH l l=al KL:=by
 unfold jH;rw[aY rfl];refine(bc (λi=>(l,l,(i:Int))) (Sv l) λi N=>?_).trans (ar ?_)
 ·have e1:Pg ((i:Int)<((Sv l):Int))=KL:=aA (by omega)
  unfold vj;simp (disch:=omega) only[aB,e1,ww,aq l i N,aj,aN,aY rfl,AC]
 unfold vj
 simp
theorem c65(l:J Bool)(I:(Sv l)<=1000000):mI l l=al KL:=by
 unfold mI;rw[aY rfl];refine(bc (λi=>(l,l,(i:Int))) (Sv l) λi N=>?_).trans (ar ?_)
 ·have e1:Pg ((i:Int)<((Sv l):Int))=KL:=aA (by omega)
  unfold sS;simp (disch:=omega) only[aB,e1,ww,aq l i N,aj,aN,beq_self_eq_true,IR,AC]
 unfold sS
 simp
theorem acz(c:bA)(I:(Sv c.ii)<=1000000):sR c c=al KL:=by
 unfold sR;rw[aY rfl,aY rfl];refine(bc (λi=>((i:Int),c.aO,c.ii,c.aO,c.ii)) (Sv c.ii) λi N=>?_).trans (ar ?_)
 ·have e1:Pg ((i:Int)<((Sv c.ii):Int))=KL:=aA (by omega)
  unfold BD;simp (disch:=omega) only[aB,e1,ww,aq c.ii i N,aj,aN,beq_self_eq_true,SH,IR,AC]
 unfold BD
 simp
theorem qe1(a:aM)(D:(Sv a.bv)<=1000000)(S:(Sv a.ax)<=1000000)(h3:(Sv a.ai.aC)<=1000000)(h4:(Sv a.ai.be)<=1000000)(h5:(Sv a.ai.bi)<=1000000):sU a a=al KL:=by
 unfold sU wP;simp only[Ku _ h3,c65 _ h4,Ku _ h5,Ku _ S,];rw[aY rfl];refine(bc (λi=>((i:Int),a.ai.aC,a.ai.be,a.ai.bi,a.bv,a.ax,a.ai.aC,a.ai.be,a.ai.bi,a.bv,a.ax)) (Sv a.bv) λi N=>?_).trans (ar ?_)
 ·have e1:Pg ((i:Int)<((Sv a.bv):Int))=KL:=aA (by omega)
  unfold BE;simp (disch:=omega) only[aB,e1,ww,aq a.bv i N,aj,aN,beq_self_eq_true,SH,IR,AC]
 unfold BE
 simp
theorem DL{c:aE}(sh:uu c):nC c c=al KL:=by
 have hd:=sh.d;unfold nC;simp only[beq_self_eq_true,abi c.jp.am c.jp.am sh.f,acz _ sh.l,qe1 _ sh.h sh.w sh.s1 sh.s2 sh.s3,];rw[aY rfl];refine(bc (λi=>((i:Int),c.io.1,c.io.2,c.jp.am,c.af.aO,c.af.ii,c.ae.ai.aC,c.ae.ai.be,c.ae.ai.bi,c.ae.bv,c.ae.ax,c.kw,c.io.1,c.io.2,c.jp.am,c.af.aO,c.af.ii,c.ae.ai.aC,c.ae.ai.be,c.ae.ai.bi,c.ae.bv,c.ae.ax,c.kw)) (Sv c.kw) λi N=>?_).trans (ar ?_)
 ·have e1:Pg ((i:Int)<((Sv c.kw):Int))=KL:=aA (by omega)
  unfold BF;simp (disch:=omega) only[aB,e1,ww,aq c.kw i N,aj,aN,beq_self_eq_true,SH,IR,AC]
 unfold BF
 simp
structure ze(c:aE):Prop where
 io:jo c.io
 Wr: ∀w,w<Sv c.ae.bv->jo ((c.ae.bv[w]!).1,(c.ae.bv[w]!).2.1)
theorem c16(f:Field):xO f=al KL\/(xO f=al YF/\Sv f.am<=70):=by
 unfold xO
 grind[aB,aA,aF]
theorem Bd(c:aE):oM c=al KL\/(oM c=al YF/\uu c):=by
 unfold oM E7 E6
 simp[]
 by_cases D:40<Sv c.af.ii
 ·rw[aA (by omega)];exact .inl rfl
 rw[aF (by omega)]
 by_cases S:40<Sv c.kw
 ·rw[aA (by omega)];exact .inl rfl
 rw[aF (by omega)];rcases c16 c.jp with e|⟨e,hf⟩
 ·rw[e];exact .inl rfl
 rw[e];simp
 by_cases a1:210<Sv c.ae.ai.aC
 ·rw[aA (by omega)];exact .inl rfl
 rw[aF (by omega)]
 by_cases a2:210<Sv c.ae.ai.be
 ·rw[aA (by omega)];exact .inl rfl
 rw[aF (by omega)]
 by_cases a3:210<Sv c.ae.ai.bi
 ·rw[aA (by omega)];exact .inl rfl
 rw[aF (by omega)]
 by_cases a4:210<Sv c.ae.bv
 ·rw[aA (by omega)];exact .inl rfl
 rw[aF (by omega)]
 by_cases a5:210<Sv c.ae.ax
 ·rw[aA (by omega)];exact .inl rfl
 rw[aF (by omega)];exact .inr ⟨rfl,⟨by omega,by omega,by omega,by omega,by omega,by omega,by omega,by omega⟩⟩
theorem DM{c:aE}(sh:uu c):ib c=al c:=by obtain⟨D,S,h3,h4,h5,h6,h7,h8⟩:=sh;unfold ib oW sN oX qn;simp (disch:=omega) only[bJ,aj]
theorem ajr{a b:Int×Int}(ha:bI a)(hb:bI b)(h:a.1*b.2=b.1*a.2):a=b:=by
 obtain⟨a1,_,a3⟩:=ha;obtain⟨b1,_,b3⟩:=hb;have hn:a.1.natAbs*b.2.natAbs=b.1.natAbs*a.2.natAbs:=by rw[<-SJ,<-SJ,h]
 have d1:b.2.natAbs ∣ a.2.natAbs:=by
  have:b.2.natAbs ∣ b.1.natAbs*a.2.natAbs:=by rw[<-hn];exact YI _ _
  exact(Nat.Coprime.dvd_of_dvd_mul_left b3 this)
 grind[YI,Nat.Coprime.dvd_of_dvd_mul_left,Nat.dvd_antisymm,Int.eq_of_mul_eq_mul_right,Mg]
theorem Gv(p q:Pt)(t:Int×Int):G2 p q t=(p.2.1-q.2.1)*t.2+(p.2.2-q.2.2)*t.1:=rfl
theorem abj{l h:Pt}{t t':Int×Int}(d:1<=t.2)(d':1<=t'.2)(le:t.1*t'.2<=t'.1*t.2)(hB: ¬h.2.2<l.2.2)(hn: ¬leads l h t): ¬leads l h t':=by
 unfold leads at*;rw[Gv]at*;generalize l.2.1-h.2.1=A at*;have hs:l.2.2-h.2.2<=0:=by omega
 intro I;have key:(A*t'.2+(l.2.2-h.2.2)*t'.1)*t.2<=(A*t.2+(l.2.2-h.2.2)*t.1)*t'.2:=by
  have D:=Int.mul_le_mul_of_nonpos_left hs le
  grind
 rcases I with I|⟨I,S|⟨S,h3⟩⟩
 ·refine hn (.inl ?_)
  have:0<(A*t'.2+(l.2.2-h.2.2)*t'.1)*t.2:=Int.mul_pos I (by omega);have k:0<(A*t.2+(l.2.2-h.2.2)*t.1)*t'.2:=by omega
  exact Int.pos_of_mul_pos_left k (by omega)
 ·omega
 have z:l.2.2-h.2.2=0:=by omega
 rw[z]at I hn;have:A=0:=by
  have:A*t'.2=0:=by omega
  rcases Int.mul_eq_zero.1 this with h|h
  ·exact h
  omega
 grind
theorem HQ{h l:Pt}{t t':Int×Int}(hh:gO h)(I:gO l)(r:bI t)(r':bI t')(le:t.1*t'.2<=t'.1*t.2)(up:(kg h l t).2=KL->t'.1*(kg h l t).1.2<=(kg h l t).1.1*t'.2):
 kg h l t'=kg h l t:=by
 unfold kg at*
 by_cases D:leads l h t
 ·rw[Do D]at up ⊢
  have e:=ajr r r' (by have:=up rfl;dsimp only at this;omega)
  grind
 rw[EQ D]at up ⊢
 by_cases S:h.2.2<l.2.2
 ·rw[Do S]at up ⊢
  obtain⟨_,m1,m2,m3⟩:=HM hh I (by omega);have up:=up rfl;dsimp only at up
  by_cases h3:leads l h t'
  ·rw[Do h3]
   have:t'=met h l:=by
    refine ajr r' m1 ?_;have g:0<=G2 l h t':=by rcases h3 with k|k<;>omega
    rw[Gv]at g;generalize met h l=m at*;have d:=m1.1;have hB:0<l.2.2-h.2.2:=by omega
    generalize l.2.2-h.2.2=B at*;generalize hA:h.2.1-l.2.1=A at*;have g2:A*t'.2<=B*t'.1:=by
     have:(l.2.1-h.2.1)*t'.2= -(A*t'.2):=by rw[<-Int.neg_mul];congr 1;omega
     omega
    have g3:m.1*t'.2*B<=t'.1*m.2*B:=by
     have e1:m.1*t'.2*B=A*t'.2*m.2:=by rw[Y,m3,Y]
     have e2:t'.1*m.2*B=B*t'.1*m.2:=by rw[Y,SK t'.1 B]
     rw[e1,e2];exact KJ g2 (by omega)
    have g4:=Xc g3 hB;omega
   rw[this]
  grind
 rw[EQ (abj r.1 r'.1 le S D)]
theorem CB{a:aM}(ok:gB a): ∀k,k<Sv a.bv-> ¬less a.bv[k]! a.bv[0]!:=by
 have d:=λw hw=>(ok.ev w hw).1.1
 intro k
 induction k using Nat.strongRecOn with
 |ind k ih=>
  intro hk
  by_cases h0:k=0
  ·grind[sX]
  exact Cv (d 0 (by omega)) (d ((k-1) / 2) (by omega)) (d k hk) (ih ((k-1) / 2) (by omega) (by omega)) (ok.ord k (by omega) hk)
theorem adK{h l:Pt}{t:Int×Int}(hh:gO h)(I:gO l)(r:bI t)(is:(kg h l t).2=KL):t.1*(kg h l t).1.2<=(kg h l t).1.1*t.2:=by
 unfold kg at*
 by_cases D:leads l h t
 ·grind
 rw[EQ D]at is ⊢
 by_cases S:h.2.2<l.2.2
 ·rw[Do S]
  obtain⟨_,m1,m2,m3⟩:=HM hh I (by omega);have g:=Int.not_lt.1 λk=>D (.inl k)
  rw[Gv]at g;generalize met h l=m at*;have d:=m1.1;have hB:0<l.2.2-h.2.2:=by omega
  generalize l.2.2-h.2.2=B at*;generalize hA:h.2.1-l.2.1=A at*;have g2:B*t.1<=A*t.2:=by
   have:(l.2.1-h.2.1)*t.2= -(A*t.2):=by rw[<-Int.neg_mul];congr 1;omega
   omega
  have e1:t.1*m.2*B=B*t.1*m.2:=by rw[Y,SK t.1 B]
  have e2:m.1*t.2*B=A*t.2*m.2:=by rw[Y,m3,Y]
  have g3:t.1*m.2*B<=m.1*t.2*B:=by rw[e1,e2];exact KJ g2 (by omega)
  exact Xc g3 hB
 grind
theorem bo.time{l:J Pt}{t t':Int×Int}{H:J Ev}: ∀{cs ds:J yc},(∀x∈cs,cf l x.2 t'=cf l x.2 t)->bo l t H cs ds->bo l t' H cs ds
 | [],_,_,h=>h
 |x::cs,ds,hw,h=>by
  have e:=hw x YG;have ih: ∀{ds},bo l t H cs ds->bo l t' H cs ds:=λ{ds}=>bo.time λy hy=>hw y (NE _ hy)
  refine⟨λhy=>?_,λhy=>?_⟩
  ·rw[e]at hy
   obtain⟨d,GN,D,S,h3,h4⟩:=h.1 hy
   grind
  rw[e]at hy
  exact ih (h.2 hy)
theorem hf'{c:aE}(ok:aV c)(fk:0<Sv c.ae.bv):
 ∃(i:Nat) (c':aE),i<Sv c.af.ii/\(c.af.ii[i]!).1=Ev.num c.ae.bv[0]!/\nu c (Ev.num c.ae.bv[0]!)=al (c',(c.af.ii[i]!).2,0)/\sW c (Ev.num c.ae.bv[0]!)=al c'/\
  aV ⟨Ev.at c.ae.bv[0]!,c'.jp,c'.af,c'.ae,c'.kw⟩/\c'.jp=c.jp/\c'.af=rC c.af i/\c.io.1*(Ev.at c.ae.bv[0]!).2<=(Ev.at c.ae.bv[0]!).1*c.io.2:=by
 have hm:=aJ fk;obtain⟨d,hd,hn⟩:=ok.GD _ hm;obtain⟨x,X,D,S,h3⟩:=ok.Gu.kw d hd;obtain⟨w,hw,he⟩:=aU.1 h3;have Pl:w=0:=WF λX=>by refine ok.oH.nd 0 w (by omega) hw ?_;rw[he,<-hn,D]
 subst Pl;obtain⟨i,N,rfl⟩:=aU.1 X;have num:(c.af.ii[i]!).1=Ev.num c.ae.bv[0]!:=by rw[<-hn,D]
 have tm:Ev.at c.ae.bv[0]! =(cf c.jp.am (c.af.ii[i]!).2 c.io).1:=by rw[he]
 obtain⟨c',r1,r2,r3,r4,r5,r6⟩:=adC ok N;have hb:=ok.known i N;have pt:=λ(x:Int×Int) (hb:lK c.jp.am x)=>And.intro (bU ok.fD hb.2).1 (bU ok.fD hb.1).1
 have rt:=IZ (pt _ hb).1 (pt _ hb).2 ok.cO ok.ie S;have ge:=adK (pt _ hb).1 (pt _ hb).2 ok.ie S;rw[num]at r1 r2;refine⟨i,c',N,num,r1,r2,?_,r4,r6,by rw[tm];exact ge⟩;refine⟨by rw[tm];exact rt.1,by rw[tm];exact rt.2,r3.fD,r3.vX,r3.oH,r3.NX,r3.hd,r3.known,?_⟩;refine bo.time (λy hy=>?_) r3.Gu;have UT:y∈c.af.ii:=by rw[r6]at hy;exact(zd ok.Aa N hy).1
 obtain⟨j,hj,rfl⟩:=aU.1 UT;have hbj:=ok.known j hj;rw[r4,r5];refine HQ (pt _ hbj).1 (pt _ hbj).2 ok.ie (by rw[tm];exact rt.1) (by rw[tm];exact ge) (λis=>?_);obtain⟨d',hd',k1,k2⟩:=ok.Gu.has _ UT is;obtain⟨w,hw,he⟩:=aU.1 k2;have:=CB ok.oH w hw;rw[he]at this;exact Int.not_lt.1 λk=>this (.inl (rB.2 k))
theorem pE{p q:Pt}{t:Int×Int}(hp:gO p)(hq:gO q)(ht:jo t)(hr:bI t):de p q t=al (Pg (leads p q t),if p.1=q.1 then 2 else 0)\/(p.1=q.1/\de p q t=al (YF,2)):=by
 unfold de;rw[BI ht,Do ⟨hp,hq,hr⟩]
 by_cases h:p.1=q.1
 ·right;simp[h]
 left
 simp[k0' hp hq ht]
 grind[Nz]
end Go.Proofs.YtbelikaakgedaaaGreat
namespace Go.Proofs.YtbelikaakgedaaaGreat
open Go.Vm
theorem gH{α:Type}[BEq α][LawfulBEq α]: ∀{a b:J α},a.Nodup->(∀x∈a,x∈b)->Sv b<=Sv a->a.Perm b
 | [],b,_,_,I=>by
  grind
 |x::a,b,hd,h,I=>by
  rw[EE]at hd;have X:=h x YG;have ih:=gH (b:=b.erase x) hd.2 (λy hy=>by
   rw[List.mem_erase_of_ne (λe=>hd.1 (by rw[<-e];exact hy))];exact h y (NE _ hy)) (by
   rw[List.length_erase_of_mem X];rw[Mi]at I;omega)
  grind
theorem DN{α β:Type}{f:α->β}: ∀{l:J α},l.Nodup->(∀x∈l,∀y∈l,f x=f y->x=y)->(l.map f).Nodup
 | [],_,_=>List.nodup_nil
 |x::l,h,N=>by
  rw[EE]at h;rw[List.map_cons,EE];refine⟨λhm=>?_,DN h.2 λy hy z hz=>N y (NE _ hy) z (NE _ hz)⟩
  grind
end Go.Proofs.YtbelikaakgedaaaGreat
namespace Go.Proofs.YtbelikaakgedaaaGreat
open Go.Vm Classical
def Ab(l:J Int)(k:Nat):J (Int×Int):=(List.range k).map λi=>(l[i+1]!,l[i / 2]!)
abbrev fT(l:J Int):J (Int×Int):=Ab l (Sv l-1)
theorem nJ(l:J Int)(k:Nat):(Ab l k).length=k:=by unfold Ab;simp
theorem hap(l:J Int)(k:Nat):Ab l (k+1)=Ab l k++[(l[k+1]!,l[k / 2]!)]:=by unfold Ab;rw[List.range_succ,List.map_append];rfl
theorem Be(l:J Int){k i:Nat}(h:i<k):(Ab l k)[i]! =(l[i+1]!,l[i / 2]!):=by rw[getElem!_pos _ i (by rw[nJ];exact h)];unfold Ab;simp
theorem N3(l:J Int)(I:(Sv l)<=1000):tN l=al (fT l):=by
 unfold tN;have key:=bc (body:=uU) (λi=>(l,((i+1:Nat):Int),Ab l i)) (Sv l-1) (λi N=>by
  have e:M d5 (Int.tdiv (M d5 (((i+1:Nat):Int)-1)) 2)=((i / 2:Nat):Int):=by rw[show M d5 (((i+1:Nat):Int)-1)=(i:Int)from by rw[dN ⟨by omega,by omega⟩];omega,Int.tdiv_eq_ediv_of_nonneg (by omega),dN ⟨by omega,by omega⟩];omega
  unfold uU;simp (disch:=omega) only[aB,aA,ww,aq,e,aj];rw[ba (by rw[nJ,SI];omega),aj,aN (by omega),<-hap])
 rw[show(l,(1:Int),([]:J _))=(l,((0+1:Nat):Int),Ab l 0)from rfl,key];refine ar ?_;unfold uU
 grind
theorem Um(l:J Int)(I:(Sv l)<=1000):Cn l=al (fT l):=by rw[<-N3 l I];rfl
theorem Kv{l:J Int}{e:Int×Int}(h:e∈fT l):e.1∈l/\e.2∈l:=by
 obtain⟨i,N,rfl⟩:=aU.1 h
 grind[nJ,Be,aJ]
theorem ajt{l:J Int}(hd:l.Nodup){e:Int×Int}(h:e∈fT l):e.1≠e.2:=by obtain⟨i,N,rfl⟩:=aU.1 h;rw[nJ]at N;rw[Be l N];exact λh=>bO.1 hd _ _ (by omega) (by omega) h.symm
theorem Bf{l:J Int}(hd:l.Nodup):(fT l).Nodup:=by
 refine DN List.nodup_range λi N j hj h=>?_
 have S:=bO.1 hd
 grind
theorem Jc(l:J Int)(x:Int)(I:(Sv l)<=1000000):
 (∀k,k<Sv l->l[k]! =x->(∀j,j<k->l[j]!≠x)->dt l x=al (k:Int))/\((∀k,k<Sv l->l[k]!≠x)->dt l x=al (-1)):=by
 have k1:=jK (body:=nU) (λi=>(l,x,((Sv l):Int),(i:Int))) (Sv l) (λi=>l[i]! =x) (λi=>(i:Int)) (e:= -1) (λi N=>by
  unfold nU;simp (disch:=omega) only[aA,aq l i N,aj,aN];refine⟨λh=>?_,λh=>?_⟩
  ·rw[ju h.symm];rfl
  ·rw[hO (λk=>h k.symm)];rfl) (by
  unfold nU;simp (disch:=omega) only[aF,AC])
 assumption
theorem akj(l:J Int)(x:Int)(I:(Sv l)<=1000000):nV l x=al (Pg (x∈l)):=by
 unfold nV
 by_cases X:x∈l
 ·obtain⟨k,k1,k2,k3⟩:=least (aU.1 X)
  rw[(Jc l x I).1 k k1 k2 k3,aj,aA X,aA (by omega)]
 grind[Jc,aj,aF]
theorem cz{f:J Pt}(bj:aS f){id:Int}(h:dZ f id):dA ⟨f⟩ id=al (bm f id,0):=by
 have D:=bj.1;have hc:dm ⟨f⟩=al 0:=by rw[fR];exact congrArg al (eV.2 bj)
 have bs:=vK f id (by omega) (λi j=>eW bj.2.2);unfold dA ly lY;rw[Gs];simp[hc,];obtain⟨k,hk,he⟩:=h;rw[bs.1 k hk he];simp[aj,IR,AC,show((0:Int) !=0)=YF from rfl,aq f k hk,nZ bj.2.2 hk he]
theorem adL{f:J Pt}(bj:aS f){t:Int×Int}(r:bI t)(dK:jo t){a b:Int}(ha:dZ f a)(hb:dZ f b)(fk:a≠b):AJ ⟨f⟩ t a b=al (Pg (leads (bm f a) (bm f b) t)):=by
 unfold AJ
 grind[cz,aj,bU,pE]
theorem agU{f:J Pt}(bj:aS f){t:Int×Int}(dK:jo t){x:Int×Int}(hb:lK f x):Dw x ⟨f⟩ t=al (Pg (leads (bm f x.2) (bm f x.1) t)):=by
 obtain⟨D,S⟩:=hb;obtain⟨j,j1,j2,j3⟩:=yr bj D;obtain⟨k,k1,k2,k3⟩:=yr bj S;unfold Dw
 grind[aj,aq,Ct,bU]
def fa(f:J Pt):J Int:=f.map λp=>p.1
theorem eX{f:J Pt}(h:fQ f):(fa f).Nodup:=by
 refine DN ?_ ?_
 ·exact bO.2 λi j rE hj e=>by have:=eW h rE hj;grind
 intro x X y hy e
 obtain⟨i,N,rfl⟩:=aU.1 X;obtain⟨j,hj,rfl⟩:=aU.1 hy;rw[o7 h N hj e]
theorem dL{f:J Pt}{id:Int}:id∈fa f↔dZ f id:=by
 unfold fa dZ;rw[SG];constructor
 ·rintro⟨p,hp,rfl⟩
  obtain⟨i,N,rfl⟩:=aU.1 hp;exact⟨i,N,rfl⟩
 grind
structure iC(k:bD):Prop where
 fI:aV k.lc
 perm:(fa k.lc.jp.am).Perm k.bv
 cert:(k.lc.af.ii.map λx=>x.2).Perm (fT k.bv)
 lead: ∀e∈fT k.bv,leads (bm k.lc.jp.am e.2) (bm k.lc.jp.am e.1) k.lc.io
theorem jQ{c:bA}(ok:gN c):(c.ii.map λx=>x.2).Nodup:=by
 refine DN ?_ ?_
 ·exact bO.2 λi j rE hj e=>ok.nd i j rE hj (by rw[e])
 intro x X y hy e
 obtain⟨i,N,rfl⟩:=aU.1 X;obtain⟨j,hj,rfl⟩:=aU.1 hy;rcases Ii i j with k|k|k
 ·exact absurd e (ok.nd i j k hj)
 ·rw[k]
 exact absurd e.symm (ok.nd j i k N)
def aiM(k:bD):Prop:=(∀i,i<Sv k.lc.jp.am->(k.lc.jp.am[i]!).1∈k.bv)/\(fT k.bv).length=Sv k.lc.af.ii/\
 ∀i,i<Sv k.lc.af.ii->(k.lc.af.ii[i]!).2∈fT k.bv/\leads (bm k.lc.jp.am (k.lc.af.ii[i]!).2.2) (bm k.lc.jp.am (k.lc.af.ii[i]!).2.1) k.lc.io
def X2(k:bD):Prop:=(∀i,i<Sv k.bv->dZ k.lc.jp.am k.bv[i]!/\ ∀j,j<i->k.bv[j]!≠k.bv[i]!)/\Sv k.lc.af.ii=(fT k.bv).length/\
 ∀i,i<(fT k.bv).length->rQ k.lc.af.ii (fT k.bv)[i]!/\leads (bm k.lc.jp.am ((fT k.bv)[i]!).2) (bm k.lc.jp.am ((fT k.bv)[i]!).1) k.lc.io
theorem dY{l:J yc}{x:Int×Int}:rQ l x↔x∈l.map λy=>y.2:=by
 unfold rQ;rw[SG];constructor
 ·grind
 rintro⟨y,hy,rfl⟩
 obtain⟨i,N,rfl⟩:=aU.1 hy
 grind
theorem aqy{k:bD}(ok:aV k.lc)(I:(Sv k.bv)=Sv k.lc.jp.am):aiM k↔iC k:=by
 have nd:=eX ok.fD.2.2;have il:(fa k.lc.jp.am).length=(Sv k.lc.jp.am):=Pc ..;have cl:(k.lc.af.ii.map λx=>x.2).length=(Sv k.lc.af.ii):=Pc ..;have cn:=jQ ok.vX;constructor
 ·rintro⟨D,S,h3⟩
  have pm:=gH nd (λx X=>by obtain⟨i,N,rfl⟩:=dL.1 X;exact D i N) (by omega);have pc:=gH cn (λx X=>by obtain⟨i,N,rfl⟩:=dY.2 X;exact(h3 i N).1) (by omega);refine⟨ok,pm,pc,λe he=>?_⟩;obtain⟨i,N,rfl⟩:=dY.2 (pc.mem_iff.2 he)
  grind
 intro h
 refine⟨λi N=>h.perm.mem_iff.1 (dL.2 ⟨i,N,rfl⟩),by rw[<-h.cert.length_eq,cl],λi N=>?_⟩;have:=h.cert.mem_iff.1 (dY.1 ⟨i,N,rfl⟩);exact⟨this,h.lead _ this⟩
theorem aqz{k:bD}(ok:aV k.lc)(I:(Sv k.bv)=Sv k.lc.jp.am):X2 k↔iC k:=by
 have nd:=eX ok.fD.2.2;have il:(fa k.lc.jp.am).length=(Sv k.lc.jp.am):=Pc ..;have cl:(k.lc.af.ii.map λx=>x.2).length=(Sv k.lc.af.ii):=Pc ..;constructor
 ·rintro⟨D,S,h3⟩
  have hn:=bO.2 λi j rE hj e=>(D j hj).2 i rE e
  have pm:=gH hn (λx X=>by obtain⟨i,N,rfl⟩:=aU.1 X;exact dL.2 (D i N).1) (by omega);have pc:(fT k.bv).Perm (k.lc.af.ii.map λx=>x.2):=gH (Bf hn) (λx X=>by obtain⟨i,N,rfl⟩:=aU.1 X;exact dY.1 (h3 i N).1) (by omega);refine⟨ok,pm.symm,pc.symm,λe he=>?_⟩;obtain⟨i,N,rfl⟩:=aU.1 he
  grind
 intro h
 have hn:=h.perm.nodup_iff.1 nd;refine⟨λi N=>⟨dL.1 (h.perm.mem_iff.2 (aJ N)),λj hj e=>bO.1 hn j i hj N e⟩,by rw[<-h.cert.length_eq,cl],λi N=>?_⟩;exact⟨dY.2 (h.cert.mem_iff.2 (aJ N)),h.lead _ (aJ N)⟩
theorem DO{α:Type}{p q:Prop}[Decidable p][Decidable q]{a b:α}(h:p↔q):(if p then a else b)=if q then a else b:=by
 grind
theorem qV{k:bD}(fit:nm k.lc)(I:(Sv k.bv)<=1000):jA k=al (if iC k then 0 else 8):=by
 unfold jA;rw[iR fit,aj]
 by_cases ok:aV k.lc
 case neg=>rw[EQ ok,EQ (λh=>ok h.fI)];rfl
 rw[Do ok,aY rfl,AC]
 by_cases hh:(Sv k.bv)=Sv k.lc.jp.am
 case neg=>rw[cC (by grind),ww,EQ (λh=>hh ?_)];rw[<-h.perm.length_eq];exact Pc ..
 rw[aY (by grind),AC,<-DO (aqy ok hh)];have bd:=ok.bd;have P3:=mu (body:=uX) (λi=>(fT k.bv,k.lc.af.ii,((Sv k.lc.af.ii):Int),(i:Int),k.lc.io.1,k.lc.io.2,k.lc.jp.am,k.lc.af.aO,k.lc.af.ii,k.lc.ae.ai.aC,k.lc.ae.ai.be,k.lc.ae.ai.bi,k.lc.ae.bv,k.lc.ae.ax,k.lc.kw,k.bv)) (Sv k.lc.af.ii)
  (λi=>(k.lc.af.ii[i]!).2∈fT k.bv/\leads (bm k.lc.jp.am (k.lc.af.ii[i]!).2.2) (bm k.lc.jp.am (k.lc.af.ii[i]!).2.1) k.lc.io) (r:= .done 8) (e:= .done 0) (λi N=>by
  have hb:=ok.known i N;have hv:=ok.vX.cv i N;unfold uX;simp (disch:=omega) only[aq k.lc.af.ii i N,aj,nH (fT k.bv) _ (by rw[nJ];omega),adL ok.fD ok.ie ok.cO hb.2 hb.1 (λh=>hv.2.2.2.2 h.symm),aN]
  grind) (by
  unfold uX;simp)
 have outer:=mu (body:=uY) (λi=>(k.lc.jp.am,((Sv k.lc.jp.am):Int),(i:Int),k.lc.io.1,k.lc.io.2,k.lc.jp.am,k.lc.af.aO,k.lc.af.ii,k.lc.ae.ai.aC,k.lc.ae.ai.be,k.lc.ae.ai.bi,k.lc.ae.bv,k.lc.ae.ax,k.lc.kw,k.bv)) (Sv k.lc.jp.am)
  (λi=>(k.lc.jp.am[i]!).1∈k.bv) (r:=8) (e:=if(fT k.bv).length=Sv k.lc.af.ii/\ ∀i,i<Sv k.lc.af.ii->(k.lc.af.ii[i]!).2∈fT k.bv/\leads (bm k.lc.jp.am (k.lc.af.ii[i]!).2.2) (bm k.lc.jp.am (k.lc.af.ii[i]!).2.1) k.lc.io then 0 else 8) (λi N=>by
  unfold uY;simp (disch:=omega) only[aq k.lc.jp.am i N,akj,aN]
  grind) (by
  unfold uY;simp (disch:=omega) only[N3 k.bv I,]
  grind)
 refine(outer).trans ?_
 by_cases D: ∀i,i<Sv k.lc.jp.am->(k.lc.jp.am[i]!).1∈k.bv
 ·rw[Do D]
  congr 1
  exact DO ⟨λh=>⟨D,h.1,h.2⟩,λh=>⟨h.2.1,h.2.2⟩⟩
 rw[EQ D,EQ (λh:aiM k=>D h.1)]
theorem LV{c:aE}(ok:aV c)(es:J _)(kn: ∀x∈es,lK c.jp.am x):
 sV c es=al (Pg (Sv c.af.ii=Sv es/\ ∀i,i<Sv es->rQ c.af.ii es[i]!/\leads (bm c.jp.am (es[i]!).2) (bm c.jp.am (es[i]!).1) c.io)):=by
 have bd:=ok.bd;unfold sV;simp only[aB]
 by_cases h0:(Sv c.af.ii)=Sv es
 case neg=>rw[cC (by omega),ww,aF (λh=>h0 h.1)]
 have key:=mu (body:=xx) (λi=>(es,(i:Int),c.io.1,c.io.2,c.jp.am,c.af.aO,c.af.ii,c.ae.ai.aC,c.ae.ai.be,c.ae.ai.bi,c.ae.bv,c.ae.ax,c.kw)) (Sv es)
  (λi=>rQ c.af.ii es[i]!/\leads _ _ c.io) (e:=KL) (λi N=>by
  have X0:bA.mk c.af.aO c.af.ii=c.af:=rfl;unfold xx;simp (disch:=omega) only[aB,aA,aq es i N,aj,X0,DK,agU ok.fD ok.cO (kn _ (aJ N)),aN]
  by_cases D:rQ c.af.ii es[i]!
  ·rw[aA D]
   by_cases S:leads (bm c.jp.am (es[i]!).2) (bm c.jp.am (es[i]!).1) c.io
   ·rw[aA S]
    exact⟨λh=>absurd ⟨D,S⟩ h,λ_=>rfl⟩
   rw[aF S]
   exact⟨λ_=>rfl,λh=>absurd h.2 S⟩
  ·rw[aF D]
   exact⟨λ_=>rfl,λh=>absurd h.1 D⟩) (by
  unfold xx;simp (disch:=omega) only[aB,aF,AC])
 grind
theorem agV{σ ρ:Type}{body:σ->O _}(st:Nat->σ)(n:Nat)(P:Nat->Prop){r:ρ}(h: ∀i,i<n->(¬P i->body (st i)=al (.done r))/\(P i->body (st i)=al (.next (st (i+1)))))
 (X: ¬ ∀i,i<n->P i):au body (st 0)=al r:=by
 obtain⟨i,N⟩:=Classical.not_forall.1 X;obtain⟨N,X⟩:=Classical.not_imp.1 N;obtain⟨m,m1,m2,m3⟩:=least (c:=λi=> ¬P i) ⟨i,N,X⟩;rw[bc st m λj hj=>(h j (by omega)).2 (Mp.1 (m3 j hj))]
 grind[ar]
def LC(k:bD)(i:Nat):=((i:Int),k.lc.io.1,k.lc.io.2,k.lc.jp.am,k.lc.af.aO,k.lc.af.ii,k.lc.ae.ai.aC,k.lc.ae.ai.be,k.lc.ae.ai.bi,k.lc.ae.bv,k.lc.ae.ax,k.lc.kw,k.bv)
theorem Ac{k:bD}(fit:nm k.lc)(I:(Sv k.bv)<=1000):iq k=al (if iC k then 0 else 8):=by
 unfold iq;rw[vM fit,aj]
 by_cases ok:aV k.lc
 case neg=>rw[EQ ok,EQ (λh=>ok h.fI)];rfl
 rw[Do ok,aY rfl,AC]
 by_cases hh:(Sv k.bv)=Sv k.lc.jp.am
 case neg=>rw[cC (by grind),ww,EQ (λh=>hh ?_)];rw[<-h.perm.length_eq];exact Pc ..
 rw[aY (by grind),AC,<-DO (aqz ok hh)];have step: ∀i,i<Sv k.bv->(¬(dZ k.lc.jp.am k.bv[i]!/\ ∀j,j<i->k.bv[j]!≠k.bv[i]!)->qJ (LC k i)=al (.done 8))/\((dZ k.lc.jp.am k.bv[i]!/\ ∀j,j<i->k.bv[j]!≠k.bv[i]!)->qJ (LC k i)=al (.next (LC k (i+1)))):=by
  intro i N;unfold LC;unfold qJ;simp (disch:=omega) only[aB,aA,aq k.bv i N,aj]
  by_cases D:dZ k.lc.jp.am k.bv[i]!
  case neg=>rw[Fx ok.fD D];exact⟨λ_=>rfl,λh=>absurd h.1 D⟩
  obtain⟨m,m1,m2,m3⟩:=yr ok.fD D;rw[m2];have P3:=mu (body:=vv) (λj=>((i:Int),(j:Int),k.lc.io.1,k.lc.io.2,k.lc.jp.am,k.lc.af.aO,k.lc.af.ii,k.lc.ae.ai.aC,k.lc.ae.ai.be,k.lc.ae.ai.bi,k.lc.ae.bv,k.lc.ae.ax,k.lc.kw,k.bv)) i
   (λj=>k.bv[j]!≠k.bv[i]!) (e:= .next (((i+1:Nat):Int),k.lc.io.1,k.lc.io.2,k.lc.jp.am,k.lc.af.aO,k.lc.af.ii,k.lc.ae.ai.aC,k.lc.ae.ai.be,k.lc.ae.ai.bi,k.lc.ae.bv,k.lc.ae.ax,k.lc.kw,k.bv)) (λj hj=>by
   unfold vv;simp (disch:=omega) only[aA,aq,aj,aN]
   by_cases h:k.bv[j]! =k.bv[i]!
   ·rw[ju h];exact⟨λ_=>rfl,λk=>absurd h k⟩
   ·rw[hO h];exact⟨λk=>absurd h k,λ_=>rfl⟩) (by
   unfold vv;simp (disch:=omega) only[aF,AC,aN])
  grind
 by_cases hP: ∀i,i<Sv k.bv->dZ k.lc.jp.am k.bv[i]!/\ ∀j,j<i->k.bv[j]!≠k.bv[i]!
 ·have jus:=LV ok _ (λx X=>by
   obtain⟨D,S⟩:=Kv X;obtain⟨i,N,e1⟩:=aU.1 D;obtain⟨j,hj,e2⟩:=aU.1 S;exact⟨e1▸(hP i N).1,e2▸(hP j hj).1⟩)
  have o:=mu _ (Sv k.bv) _ (e:=if X2 k then 0 else 8) step (by
   unfold qJ LC;simp (disch:=omega) only[aB,aF,Um k.bv I,aj,jus]
   by_cases S:(Sv k.lc.af.ii)=(fT k.bv).length/\ ∀i,i<(fT k.bv).length->rQ k.lc.af.ii (fT k.bv)[i]!/\leads (bm k.lc.jp.am ((fT k.bv)[i]!).2) (bm k.lc.jp.am ((fT k.bv)[i]!).1) k.lc.io
   ·rw[aA S,Do (⟨hP,S.1,S.2⟩)];rfl
   rw[aF S,EQ (λh:X2 k=>S ⟨h.2.1,h.2.2⟩)];rfl)
  refine(o).trans ?_;rw[Do hP]
 rw[EQ (λh:X2 k=>hP h.1)]
 exact agV _ (Sv k.bv) _ step hP
end Go.Proofs.YtbelikaakgedaaaGreat
