/- Plain laws (3). -/
import Derived.Test.YtclphlgnjkajbaaGreatPQM2
import Derived.Test.YtclphlgnjkajbaaGreatPQS2
open Bool renaming not_true->v4,not_false->AC,and_self->ae1,true->aez,false->aeA
open List renaming length_append->v6,mem_cons_of_mem->Do,length_map->If,length_drop->IR,length_singleton->NE,length_cons->PP,mem_append->UV,mem_cons_self->acl,length_nil->adR,mem_map->adT,drop_zero->adV,drop_length->ae5,length_set->ae7,nodup_cons->ae8,mem_cons->aev,length->aex
open Classical renaming byContradiction->ww,not_not->EQ,not_forall->aeo,not_imp->aeq
open Int renaming mul_right_comm->M2,mul_le_mul_of_nonneg_right->adM,le_of_mul_le_mul_right->adZ,le_refl->ae0,mul_assoc->ae2,le_trans->ae6,mul_comm->aer,natAbs_mul->aeu
open Nat renaming lt_trichotomy->adc,le_refl->aen,dvd_mul_left->aes,not_lt_zero->aet
open Prod renaming ext->aep,fst->aew
open Option renaming some->aey
open Decidable renaming decide->aeB
namespace Go.Proofs.YtclphlgnjkajbaaGreat
open Go.Vm Classical
theorem I8 (c:aG) (n:Int) (hl:(aex c.io)<=1000000):(∀k,k<aex c.io->(c.io[k]!).1=n->(∀j,j<k->(c.io[j]!).1≠n)->o4 c n=aey (k:Int))/\((∀k,k<aex c.io->(c.io[k]!).1≠n)->o4 c n=aey (-1)):=by
 unfold o4;refine gZ (body:=mY) (fun i=>(n,(i:Int),c.ci.1,c.ci.2,c.ii.am,c.af.ay,c.af.ce,c.aa.ae.au,c.aa.ae.be,c.aa.ae.bi,c.aa.bv,c.aa.aj,c.io)) (aex c.io) (fun i=>(c.io[i]!).1=n) (fun i=>(i:Int)) (fun i hi=>?_) ?_
 · have e1:aeB ((i:Int)<((aex c.io):Int))=aez:=aM (by omega)
   unfold mY;simp only [aB,e1,pi,az c.io i hi,ax,ba (show i<1000000000 by omega)];constructor
   · intro h;rw [fb h];rfl
   intro h;rw [eY h];rfl
 unfold mY
 have:aeB (((aex c.io):Int)<((aex c.io):Int))=aeA:=aJ (by omega);simp only [aB,this,pp]
theorem FJ {ds:List ng} (hu:Up ds) (hl:(aex ds)<=1000000) (n:Int):(∀k,k<aex ds->(ds[k]!).1=n->lU ds n=aey ((k:Int),aez))/\((∀k,k<aex ds->(ds[k]!).1≠n)-> ∃m:Nat,lU ds n=aey ((m:Int),aeA)):=by
 have bs:=Cp ds n hl (p6.1 hu);unfold lU;rw [adS];constructor
 · intro k hk he;rw [bs.1 k hk he];rfl
 intro h
 obtain ⟨m,_,_,_,e⟩:=bs.2 h;exact ⟨m,by rw [e];rfl⟩
theorem aU.bd {c:aG} (ok:aU c):(aex c.io)<=200/\aex c.ii.am<=64/\aex c.af.ce<=200:=by have:=ok.hd;have:=ok.kO.bd;have:=ok.jT.1;have:=ok.oC.len;omega
theorem ie {c:aG} (ok:aU c):nO c=aey c:=by have bd:=ok.bd;unfold nO uD uE;simp only [bo (show (aex c.ii.am)<=1048576 by omega),bo (show (aex c.af.ce)<=1048576 by omega),bo (show (aex c.io)<=1048576 by omega),ax,oB ok.kO]
theorem ig {c:aG} (ok:aU c):hZ c=aey c:=by
 have bd:=ok.bd;have ab:=ok.kO.bd;have hl:=ok.kO.so.fl;have hn:=ok.kO.so.n2;have hu:=ok.kO.so.ul;unfold hZ;simp only [bo (show (aex c.ii.am)<=1048576 by omega),bo (show (aex c.af.ce)<=1048576 by omega),bo (show (aex c.io)<=1048576 by omega),bo (show (aex c.aa.bv)<=1048576 by omega),bo (show (aex c.aa.aj)<=1048576 by omega),
  bo (show (aex c.aa.ae.au)<=1048576 by omega),bo (show (aex c.aa.ae.be)<=1048576 by omega),bo (show (aex c.aa.ae.bi)<=1048576 by omega),ax]
theorem p7 {cs:List ng} {i:Nat} (hu:Up cs) (hi:i<aex cs) {x:ng} (hx:x∈cs.eraseIdx i):x∈cs/\x.1≠(cs[i]!).1:=by
 rw [qJ,UV] at hx;have ub:=p6.1 hu;rcases hx with hx|hx
 · obtain ⟨j,h1,h2,rfl⟩:=cN.1 hx
   have:=ub j i h1 hi;exact ⟨bj h2,by omega⟩
 obtain ⟨j,hj,rfl⟩:=aS.1 hx
 rw [IR] at hj;rw [nS];have:=ub i (i+1+j) (by omega) (by omega);exact ⟨bj (by omega),by omega⟩
theorem wS {c:aG} (ok:aU c) (i:Nat) (hi:i<aex c.af.ce): ∀j,j<(kN c.af i).ce.length->iY c.ii.am ((kN c.af i).ce[j]!).2:=by intro j hj;have hm:(kN c.af i).ce[j]!∈c.af.ce:=(p7 ok.nX hi (bj hj)).1;obtain ⟨m,Ou,JT⟩:=aS.1 hm;rw [<- JT];exact ok.known m Ou
theorem K8 {c:aG} (ok:aU c) {i:Nat} (hi:i<aex c.af.ce):
 ∃c':aG,ia c (c.af.ce[i]!).1=aey (c',(c.af.ce[i]!).2,0)/\nP c (c.af.ce[i]!).1=aey c'/\aU c'/\c'.ii=c.ii/\c'.ci=c.ci/\c'.af=kN c.af i:=by
 have bd:=ok.bd;have rm:=Eh ok.oC hi (n:=(c.af.ce[i]!).1) rfl;have wo:=Bh ok.oC hi (n:=(c.af.ce[i]!).1) rfl;have fe:=ok.yX.erase (i:=i) hi;have pd:=FJ ok.Ek (by omega) (c.af.ce[i]!).1;have da:=I8 c (c.af.ce[i]!).1 (by omega);cases hf:(bk c.ii.am (c.af.ce[i]!).2 c.ci).2 with
 |false=>
  have no: ∀k,k<aex c.io->(c.io[k]!).1≠(c.af.ce[i]!).1:=by
   intro k hk he;obtain ⟨x,hx,h1,h2,_⟩:=ok.yX.io _ (bj hk);obtain ⟨j,hj,rfl⟩:=aS.1 hx;have ub:=p6.1 ok.nX;have:j=i:=by
    rcases adc j i with h|h|h
    · have:=ub j i h hi;omega
    · exact h
    have:=ub i j h hj;omega
   rw [this,hf] at h2;cases h2
  refine ⟨⟨c.ci,c.ii,kN c.af i,c.aa,c.io⟩,?_,?_,?_,rfl,rfl,rfl⟩
  · unfold ia
    obtain ⟨m,e⟩:=pd.2 no;simp only [rm,ax,show ((0:Int) !=0)=aeA from rfl,pp,ig ok,e]
  · unfold nP
    simp only [ie ok,ax,wo,da.2 no,aJ (show¬(0:Int)<= -1 by omega),pp]
  exact ⟨ok.jE,ok.iV,ok.jT,Eg ok.oC hi,ok.kO,ok.Ei,ok.hd,wS ok i hi,fe.1 hf⟩
 |true=>
  obtain ⟨k,hk,k1,k2,k3⟩:=fe.2 hf;obtain ⟨w,hw,fW⟩:=aS.1 k2;have hh:(c.aa.bv[w]!).2.2.2=(c.io[k]!).2:=by rw [fW]
  have ub:=p6.1 ok.Ek;have before: ∀j,j<k->(c.io[j]!).1≠(c.af.ce[i]!).1:=fun j hj he=>by have:=ub j k hj hk;omega
  have dl:(c.io.eraseIdx k).length=aex c.io-1:=MF hk;obtain ⟨L,d1,d2⟩:=BL c.io k hk;refine ⟨⟨c.ci,c.ii,kN c.af i,dI c.aa w,c.io.eraseIdx k⟩,?_,?_,?_,rfl,rfl,rfl⟩
  · unfold ia
    simp only [rm,ax,show ((0:Int) !=0)=aeA from rfl,pp,ig ok,pd.1 k hk k1,pi,az c.io k hk,tn ok.kO hw ok.kO.fit hh,ba (show k<1000000000 by omega),K4,d1,d2]
  · unfold nP
    have s1:hM c.io 0 (k:Int)=aey (c.io.take k):=nU c.io k (by omega);have s2:hM c.io ((k+1:Nat):Int) ((aex c.io):Int)=aey (c.io.drop (k+1)):=by unfold hM;rw [rc ⟨by omega,by omega,by omega⟩];simp only [Int.toNat_natCast];rw [List.take_of_length_le (by rw [IR];exact aen _)]
    have tl:(c.io.take k).length=k:=by rw [List.length_take];omega
    have dl2:(c.io.drop (k+1)).length=aex c.io- (k+1):=IR;simp only [ie ok,ax,wo,da.1 k hk k1 before,aM (show (0:Int)<=(k:Int) by omega),pi,az c.io k hk,tp ok.kO hw hh,s1,bo (show (c.io.take k).length<=1048576 by omega),ba (show k<1000000000 by omega),aB,s2,
     eZ (show (c.io.take k).length+(c.io.drop (k+1)).length<=1048576 by omega),qJ]
    cases hem:(c.io.drop (k+1)).isEmpty with
    |true=>rw [List.isEmpty_iff] at hem;rw [hem,List.append_nil];rfl
    |false=>rfl
  have rem:=Bf ok.kO hw
  have N6:=Eb ok.kO hw;have cy:(dI c.aa w).bv.length=aex c.aa.bv-1:=by
   have h1:=rem.hl;have h2:=ok.kO.hl;have h3:(dI c.aa w).ae=eG c.aa.ae (c.aa.bv[w]!).2.2.2:=by unfold dI;split<;>rfl
   rw [h3] at h1;change _+(c.aa.ae.bi++[_]).length=(aex c.aa.ae.au) at h1;rw [v6] at h1;simp only [PP,adR] at h1;omega
  have adU:(dI c.aa w).aj.length=200:=by
   have h1:=rem.wl;have h3:(dI c.aa w).ae=eG c.aa.ae (c.aa.bv[w]!).2.2.2:=by unfold dI;split<;>rfl
   rw [h3] at h1;change _=(aex c.aa.ae.au) at h1;rw [h1,<- ok.kO.wl,ok.Ei]
  refine ⟨ok.jE,ok.iV,ok.jT,Eg ok.oC hi,rem,adU,?_,wS ok i hi,?_⟩
  · show (dI c.aa w).bv.length=(c.io.eraseIdx k).length
    rw [cy,dl,ok.hd]
  refine k3.mono fun x hx e he hm=>(N6 e).2 ⟨hm,fun h=>?_⟩
  have:=(p7 ok.nX hi hx).2;rw [h,fW] at he;exact this he.symm
theorem vf {c:aG} (ok:aU c) {i:Nat} (_hi:i<aex c.af.ce) {c':aG} (h:ia c (c.af.ce[i]!).1=aey (c',(c.af.ce[i]!).2,0)):pZ c (c.af.ce[i]!).1=aey (c',0):=by unfold pZ;rw [kB ok.fit,rc ok];simp only [ax,show ((0:Int) !=0)=aeA from rfl,pp,h]
abbrev cU:aG:=⟨(0,0),⟨[]⟩,⟨0,[]⟩,⟨⟨[],[],[]⟩,[],[]⟩,[]⟩
theorem GY {l:List Pt} (ok:dQ l) {id:Int} (h:pB l id): ¬(bS l id).1<0:=by obtain ⟨h1,_⟩:=dL ok h;have:=h1.1;omega
theorem MG {c:aG} (ok:aU c) {x:Int×Int} (hx:g8 x) (hb:iY c.ii.am x) (hn: ¬lD c.af.ce x):
 (gg c x=aey (cU,0,18)/\ky c x=aey (cU,0,18)/\(Ad c.af\/ ¬vd c.aa.ae))\/
 ∃c':aG,gg c x=aey (c',c.af.ay,0)/\ky c x=aey (c',c.af.ay,0)/\aU c'/\c'.ii=c.ii/\c'.ci=c.ci/\c'.af=m8 c.af x/\(c'.aa.ae=c.aa.ae\/c'.aa.ae=fF c.aa.ae):=by
 have bd:=ok.bd;have n0:=ok.oC.n0;have n1:=ok.oC.n1;have fit:=ok.fit;have ad:=I3 ok.oC hx;have rd:=GW ok.oC hx;rw [ut hn] at ad rd;have hc:gf c=aey 0:=by rw [kB fit,rc ok]
 have p1:=kA ok.jT x.1;have p2:=kA ok.jT x.2;have q1:=GY ok.jT hb.1;have q2:=GY ok.jT hb.2;have wh:=sE ok.jT hx ok.jE ok.iV;rw [rc hb] at wh;have rw':=sF ok.jT ok.iV hb
 by_cases hf:Ad c.af
 · rw [rc hf] at ad rd
   left;refine ⟨?_,?_,.inl hf⟩
   · unfold gg cV
     simp only [hc,ax,show ((0:Int) !=0)=aeA from rfl,pp,ad,show ((18:Int)==8)=aeA from rfl,p1,p2,aJ q1,aJ q2,show ((18:Int) !=0)=aez from rfl,pi]
   unfold ky
   simp only [rd,ax,show ((18:Int) !=0)=aez from rfl,pi]
 rw [ut hf] at ad rd;have cok:=K6 ok.oC hx hn hf;have Q0: ∀j,j<(m8 c.af x).ce.length->iY c.ii.am ((m8 c.af x).ce[j]!).2:=by
  intro j hj;rw [xz] at hj;rw [qK]
  by_cases h:j<aex c.af.ce
  · rw [rc h];exact ok.known j h
  rw [ut h,rc (by omega)];exact hb
 have fresh: ∀e∈c.aa.bv,Ev.num e≠c.af.ay:=by intro e he dZ;obtain ⟨d,hd,h1⟩:=ok.xI e he;obtain ⟨y,hy,h2,_⟩:=ok.yX.io d hd;obtain ⟨j,hj,rfl⟩:=aS.1 hy;have:=(ok.oC.nr j hj).2;omega
 have sn:=ok.yX.snoc (x:=(c.af.ay,x));cases hw:(bk c.ii.am x c.ci).2 with
 |false=>
  right;refine ⟨⟨c.ci,c.ii,m8 c.af x,c.aa,c.io⟩,?_,?_,⟨ok.jE,ok.iV,ok.jT,cok,ok.kO,ok.Ei,ok.hd,Q0,sn.1 hw⟩,rfl,rfl,rfl,.inl rfl⟩
  · unfold gg cV
    simp only [hc,ax,show ((0:Int) !=0)=aeA from rfl,pp,ad,show ((0:Int)==8)=aeA from rfl,p1,p2,aJ q1,aJ q2,ig ok,wh,hw]
  unfold ky
  simp only [rd,ax,show ((0:Int) !=0)=aeA from rfl,pp,ie ok,rw',hw,AC,pi]
 |true=>
  obtain ⟨t1,t2⟩:=z6 (dL ok.jT hb.2).1 (dL ok.jT hb.1).1 ok.iV ok.jE hw
  by_cases op:vd c.aa.ae
  · right
    have pu:=th ok.kO op ok.kO.fit (t:=(bk c.ii.am x c.ci).1) (n:=c.af.ay) t1 t2 n0 n1 fresh;have rp:=ve ok.kO op (t:=(bk c.ii.am x c.ci).1) (n:=c.af.ay) t1 t2 n0 n1;have pok:=MD ok.kO op (t:=(bk c.ii.am x c.ci).1) (n:=c.af.ay) t1 t2 n0 n1 fresh;have N7:=IZ ok.kO op (t:=(bk c.ii.am x c.ci).1) (n:=c.af.ay) t1;have adW:=Ab ok.kO op (t:=(bk c.ii.am x c.ci).1) (n:=c.af.ay) t1;have ap: ∀h:Int×Int,bu c.io [(c.af.ay,h)]=aey (c.io++[(c.af.ay,h)]):=fun h=>eZ (by simp;omega)
    have adU:(jt c.aa (bk c.ii.am x c.ci).1 c.af.ay).aj.length=200:=by have:=pok.wl;change _=(c.aa.ae.au.set _ _).length at this;rw [ae7] at this;rw [this,<- ok.kO.wl,ok.Ei]
    refine ⟨⟨c.ci,c.ii,m8 c.af x,jt c.aa (bk c.ii.am x c.ci).1 c.af.ay,c.io++[(c.af.ay,js c.aa.ae)]⟩,?_,?_,⟨ok.jE,ok.iV,ok.jT,cok,pok,adU,?_,Q0,?_⟩,rfl,rfl,rfl,.inr rfl⟩
    · unfold gg cV
      simp only [hc,ax,show ((0:Int) !=0)=aeA from rfl,pp,ad,show ((0:Int)==8)=aeA from rfl,p1,p2,aJ q1,aJ q2,ig ok,wh,hw,pi,pu,ap]
    · unfold ky
      simp only [rd,ax,show ((0:Int) !=0)=aeA from rfl,pp,ie ok,rw',hw,v4,oA ok.kO.so,aM op,rp,ap]
    · show (jt c.aa (bk c.ii.am x c.ci).1 c.af.ay).bv.length=(c.io++[_]).length
      rw [adW,v6,ok.hd];rfl
    have fm:aV c.ii.am c.ci (jt c.aa (bk c.ii.am x c.ci).1 c.af.ay).bv c.af.ce c.io:=ok.yX.mono fun y hy e he hm=>(N7 e).2 (.inr hm)
    exact (fm.snoc (x:=(c.af.ay,x))).2 _ hw rfl ((N7 _).2 (.inl rfl))
  left
  have pu:=ti ok.kO op ok.kO.fit (t:=(bk c.ii.am x c.ci).1) (n:=c.af.ay) t1 t2 n0 n1 fresh;refine ⟨?_,?_,.inr op⟩
  · unfold gg cV
    simp only [hc,ax,show ((0:Int) !=0)=aeA from rfl,pp,ad,show ((0:Int)==8)=aeA from rfl,p1,p2,aJ q1,aJ q2,ig ok,wh,hw,pi,pu,show ((18:Int) !=0)=aez from rfl]
  unfold ky
  simp only [rd,ax,show ((0:Int) !=0)=aeA from rfl,pp,ie ok,rw',hw,v4,oA ok.kO.so,aJ op,AC,pi]
theorem Up.inj {cs:List ng} (h:Up cs) {x y:ng} (hx:x∈cs) (hy:y∈cs) (he:x.1=y.1):x=y:=by
 obtain ⟨i,hi,rfl⟩:=aS.1 hx;obtain ⟨j,hj,rfl⟩:=aS.1 hy;have ub:=p6.1 h;rcases adc i j with h1|h1|h1
 · have:=ub i j h1 hj;omega
 · rw [h1]
 have:=ub j i h1 hi;omega
structure El (c:aG) (f:List Pt) (i k:Nat) (a:aF) (ds:List ng):Prop where
 ok:dT a
 w2:(aex a.aj)=200
 new:aV f c.ci a.bv (c.af.ce.take i) ds
 old:aV c.ii.am c.ci a.bv (c.af.ce.drop i) (c.io.drop k)
 kl:k<=aex c.io
 cnt:(aex a.bv)=aex ds+(aex c.io-k)
theorem adX {a:aF} (ok:dT a) {w:Nat} (hw:w<aex a.bv):(dI a w).bv.length=aex a.bv-1/\(dI a w).aj.length=(aex a.aj):=by
 have rem:=Bf ok hw;have h3:(dI a w).ae=eG a.ae (a.bv[w]!).2.2.2:=by unfold dI;split<;>rfl
 have h1:=rem.hl;have h2:=ok.hl;have h4:=rem.wl;rw [h3] at h1 h4;change _+(a.ae.bi++[_]).length=(aex a.ae.au) at h1;change _=(aex a.ae.au) at h4;rw [v6] at h1;simp only [PP,adR] at h1;exact ⟨by omega,by rw [h4,ok.wl]⟩
theorem XN {a:aF} {t:Int×Int} {n:Int} (ok:dT a) (pok:dT (jt a t n)):(jt a t n).aj.length=(aex a.aj):=by have:=pok.wl;change _=(a.ae.au.set _ _).length at this;rw [ae7] at this;rw [this,ok.wl]
section
variable {c : aG} (ok : aU c) {f : List Pt} (pG : dQ f) (kn : ∀ i, i < (aex c.af.ce) -> iY f (c.af.ce[i]!).2)
include ok
theorem Ae {i:Nat} {x:ng} (hx:x∈c.af.ce.take i) (hi:i<aex c.af.ce):x.1≠(c.af.ce[i]!).1:=by obtain ⟨j,h1,h2,rfl⟩:=cN.1 hx;have:=ok.oC.up j i h1 hi;omega
theorem uO {i:Nat} {x:ng} (hx:x∈c.af.ce.drop (i+1)) (hi:i<aex c.af.ce):x.1≠(c.af.ce[i]!).1:=by obtain ⟨j,h1,rfl⟩:=aS.1 hx;rw [IR] at h1;rw [nS];have:=ok.oC.up i (i+1+j) (by omega) (by omega);omega
theorem N8 {i k:Nat} {a:aF} {ds:List ng} (inv:El c f i k a ds) (hi:i<aex c.af.ce) (was:(bk c.ii.am (c.af.ce[i]!).2 c.ci).2=aeA): ∀e∈a.bv,Ev.num e≠(c.af.ce[i]!).1:=by
 have u1:Up (c.af.ce.take i):=ok.nX.sublist (List.take_sublist _ _);have u2:Up (c.af.ce.drop i):=ok.nX.sublist (List.drop_sublist _ _);have d1:=inv.new.up u1;have d2:=inv.old.up u2;have ahz: ∀x∈ds,∀y∈c.io.drop k,x.1<y.1:=by intro x hx y hy;obtain ⟨p,hp,h1,_⟩:=inv.new.io x hx;obtain ⟨q,hq,h2,_⟩:=inv.old.io y hy;obtain ⟨m,m1,m2,rfl⟩:=cN.1 hp;obtain ⟨n,n1,rfl⟩:=aS.1 hq;rw [IR] at n1;rw [nS] at h2;have:=ok.oC.up m (i+n) (by omega) (by omega);omega
 have nd:((ds++c.io.drop k).map fun x=>x.1).Nodup:=I7 (by show List.Pairwise _ _;rw [List.pairwise_append];exact ⟨d1,d2,ahz⟩);have only:=BM (H:=a.bv) nd (by rw [If,v6,IR,inv.cnt];exact aen _) (fun n hn=>by
  obtain ⟨x,hx,rfl⟩:=adT.1 hn;rcases UV.1 hx with hx|hx
  · obtain ⟨p,hp,h1,h2,h3⟩:=inv.new.io x hx
    exact ⟨_,h3,h1.symm⟩
  obtain ⟨p,hp,h1,h2,h3⟩:=inv.old.io x hx
  exact ⟨_,h3,h1.symm⟩)
 intro e he dZ;obtain ⟨x,hx,h1⟩:=adT.1 (only e he);rcases UV.1 hx with hx|hx
 · obtain ⟨p,hp,h2,_⟩:=inv.new.io x hx
   exact Ae ok hp hi (by rw [<- h2,h1,dZ])
 obtain ⟨p,hp,h2,h3,_⟩:=inv.old.io x hx
 have hp':p∈c.af.ce:=List.mem_of_mem_drop hp;have:=ok.nX.inj hp' (bj hi) (by rw [<- h2,h1,dZ]);rw [this,was] at h3;cases h3
def N9 (c:aG) (f:List Pt) (i:Nat) (a:aF) (ds:List ng):=
 (c.af.ce,((aex c.af.ce):Int),(i:Int),c.ci.1,c.ci.2,c.ii.am,c.af.ay,c.af.ce,c.aa.ae.au,c.aa.ae.be,c.aa.ae.bi,c.aa.bv,c.aa.aj,c.io,f,(0:Int),(0:Int),(0:Int),c.ci.1,c.ci.2,c.af.ay,c.af.ce,a.ae.au,a.ae.be,a.ae.bi,a.bv,a.aj,f,ds)
def N' (c:aG) (f:List Pt) (i:Nat) (a:aF) (ds:List ng):=
 ((i:Int),c.ci.1,c.ci.2,c.ii.am,c.af.ay,c.af.ce,c.aa.ae.au,c.aa.ae.be,c.aa.ae.bi,c.aa.bv,c.aa.aj,c.io,f,(0:Int),(0:Int),(0:Int),c.ci.1,c.ci.2,f,c.af.ay,c.af.ce,a.ae.au,a.ae.be,a.ae.bi,a.bv,a.aj,ds)
include pG kn
theorem Q1 {i k:Nat} {a:aF} {ds:List ng} (inv:El c f i k a ds) (hi:i<aex c.af.ce) (RP:(aex ds)<=i):
 (cY (N9 c f i a ds)=aey (.done (.done (cU,18)))/\cm (N' c f i a ds)=aey (.done (cU,18)))\/
 ∃k' a' vT,cY (N9 c f i a ds)=aey (.next (N9 c f (i+1) a' vT))/\cm (N' c f i a ds)=aey (.next (N' c f (i+1) a' vT))/\El c f (i+1) k' a' vT/\aex vT<=i+1:=by
 have bd:=ok.bd;have e1:aeB ((i:Int)<((aex c.af.ce):Int))=aez:=aM (by omega);have sc:=ba (show i<1000000000 by omega);have cg:=az c.af.ce i hi;have hb:=kn i hi;have wn:=sE pG (x:=(c.af.ce[i]!).2) (t:=(c.ci.1,c.ci.2)) (ok.oC.cv i hi) ok.jE ok.iV;rw [rc hb] at wn;have wr:=sF pG (x:=(c.af.ce[i]!).2) (t:=(c.ci.1,c.ci.2)) ok.iV hb;have pd:=FJ ok.Ek (by omega) (c.af.ce[i]!).1;have da:=I8 c (c.af.ce[i]!).1 (by omega);have dr:=lZ hi;have tk:=iU hi;have old:=inv.old;rw [dr] at old;have I9:aF.mk (aQ.mk a.ae.au a.ae.be a.ae.bi) a.bv a.aj=a:=rfl
 have lE:(aG.mk (c.ci.1,c.ci.2) (Field.mk c.ii.am) (aX.mk c.af.ay c.af.ce) (aF.mk (aQ.mk c.aa.ae.au c.aa.ae.be c.aa.ae.bi) c.aa.bv c.aa.aj) c.io)=c:=rfl;have other: ∀x∈c.af.ce.take i,x.1≠(c.af.ce[i]!).1:=fun x hx=>Ae ok hx hi
 have Q2: ∀x∈c.af.ce.drop (i+1),x.1≠(c.af.ce[i]!).1:=fun x hx=>uO ok hx hi
 cases XO:(bk c.ii.am (c.af.ce[i]!).2 c.ci).2 with
 |true=>
  obtain ⟨d,vT,hd1,hd2,hd3,hd4⟩:=(aV.gr XO).1 old;have hk:k<(aex c.io):=by
   refine ww fun h=>?_
   rw [List.drop_eq_nil_of_le (by omega)] at hd1;cases hd1
  have dk:=lZ hk;rw [dk] at hd1;injection hd1 with hd5 hd6;subst hd5 hd6;obtain ⟨w,hw,fW⟩:=aS.1 hd3;have hh:(a.bv[w]!).2.2.2=(c.io[k]!).2:=by rw [fW]
  have ahA:Ev.num a.bv[w]! =(c.af.ce[i]!).1:=by rw [fW]
  have before: ∀j,j<k->(c.io[j]!).1≠(c.af.ce[i]!).1:=fun j hj he=>by have:=p6.1 ok.Ek j k hj hk;omega
  have pl:=pd.1 k hk hd2;have dq:=da.1 k hk hd2 before;have gk:=az c.io k hk;have k0:aeB ((0:Int)<=(k:Int))=aez:=aM (by omega);have ap:bu ds [c.io[k]!]=aey (ds++[c.io[k]!]):=eZ (by simp;omega);cases I':(bk f (c.af.ce[i]!).2 c.ci).2 with
  |true=>
   right;have tt:bm (bk f (c.af.ce[i]!).2 c.ci).1/\jw (bk f (c.af.ce[i]!).2 c.ci).1:=z6 (dL pG hb.2).1 (dL pG hb.1).1 ok.iV ok.jE I';obtain ⟨t1,t2⟩:=tt;have re:=B6 inv.ok inv.ok.fit (t:=(bk f (c.af.ce[i]!).2 c.ci).1) hw hh t1 t2;have rr:=Be inv.ok (t:=(bk f (c.af.ce[i]!).2 c.ci).1) hw hh t1 t2;have rok:=QU inv.ok hw t1 t2;have N6:=N5 inv.ok hw t1;have Q3:=Bd inv.ok hw t1;have stay: ∀(cs:List ng),(∀x∈cs,x.1≠(c.af.ce[i]!).1)-> ∀x∈cs,∀e:Ev,e.num=x.1->e∈a.bv->e∈(iA a w (bk f (c.af.ce[i]!).2 c.ci).1).bv:=by
    intro cs p8 x hx e he hm;refine (N6 e).2 (.inr ⟨hm,fun h=>p8 x hx ?_⟩);rw [<- he,h,ahA]
   refine ⟨k+1,iA a w (bk f (c.af.ce[i]!).2 c.ci).1,ds++[c.io[k]!],?_,?_,⟨rok,by rw [Q3.2];exact inv.w2,?_,?_,by omega,?_⟩,by simp;omega⟩
   · unfold cY N9
     simp only [e1,pi,cg,ax,wn,pl,I',gk,I9,re,ap,show ((0:Int) !=0)=aeA from rfl,pp,sc]
   · unfold cm N'
     simp only [aB,e1,pi,cg,ax,lE,dq,wr,I',k0,gk,I9,rr,ap,v4,pp,sc]
   · rw [tk]
     exact ((inv.new.mono (stay _ other)).snoc (x:=c.af.ce[i]!)).2 _ I' hd2 ((N6 _).2 (.inl (by show _=((bk f (c.af.ce[i]!).2 c.ci).1.1,(bk f (c.af.ce[i]!).2 c.ci).1.2,(a.bv[w]!).2.2);rw [fW])))
   · exact hd4.mono (stay _ Q2)
   rw [Q3.1,inv.cnt,v6]
   simp only [PP,adR];omega
  |false=>
   right;have rv:=tn inv.ok hw inv.ok.fit hh;have rr:=tp inv.ok hw hh;have rok:=Bf inv.ok hw;have N6:=Eb inv.ok hw;have Q3:=adX inv.ok hw;have stay: ∀(cs:List ng),(∀x∈cs,x.1≠(c.af.ce[i]!).1)-> ∀x∈cs,∀e:Ev,e.num=x.1->e∈a.bv->e∈(dI a w).bv:=by intro cs p8 x hx e he hm;refine (N6 e).2 ⟨hm,fun h=>p8 x hx ?_⟩;rw [<- he,h,ahA]
   refine ⟨k+1,dI a w,ds,?_,?_,⟨rok,by rw [Q3.2];exact inv.w2,?_,hd4.mono (stay _ Q2),by omega,?_⟩,by omega⟩
   · unfold cY N9
     simp only [e1,pi,cg,ax,wn,pl,I',gk,I9,rv,show ((0:Int) !=0)=aeA from rfl,pp,sc]
   · unfold cm N'
     simp only [aB,e1,pi,cg,ax,lE,dq,wr,I',k0,gk,I9,rr,AC,pp,sc]
   · rw [tk]
     exact ((inv.new.mono (stay _ other)).snoc (x:=c.af.ce[i]!)).1 I'
   have:=inv.cnt
   rw [Q3.1];omega
 |false=>
  have yX:=(aV.fu XO).1 old;have no: ∀j,j<aex c.io->(c.io[j]!).1≠(c.af.ce[i]!).1:=by intro j hj he;obtain ⟨x,hx,h1,h2,_⟩:=ok.yX.io _ (bj hj);have:=ok.nX.inj hx (bj hi) (by rw [<- h1,he]);rw [this,XO] at h2;cases h2
  obtain ⟨m,pl⟩:=pd.2 no;have dq:=da.2 no;have k0:aeB ((0:Int)<= -1)=aeA:=aJ (by omega);cases I':(bk f (c.af.ce[i]!).2 c.ci).2 with
  |true=>
   have tt:bm (bk f (c.af.ce[i]!).2 c.ci).1/\jw (bk f (c.af.ce[i]!).2 c.ci).1:=z6 (dL pG hb.2).1 (dL pG hb.1).1 ok.iV ok.jE I';obtain ⟨t1,t2⟩:=tt;have n0:=(ok.oC.nr i hi).1;have n1:(c.af.ce[i]!).1<=1000000:=by have:=(ok.oC.nr i hi).2;have:=ok.oC.n1;omega
   have fresh:=N8 ok inv hi XO
   by_cases op:vd a.ae
   · right
     have pu:=th inv.ok op inv.ok.fit (t:=(bk f (c.af.ce[i]!).2 c.ci).1) (n:=(c.af.ce[i]!).1) t1 t2 n0 n1 fresh;have rp:=ve inv.ok op (t:=(bk f (c.af.ce[i]!).2 c.ci).1) (n:=(c.af.ce[i]!).1) t1 t2 n0 n1;have pok:=MD inv.ok op (t:=(bk f (c.af.ce[i]!).2 c.ci).1) (n:=(c.af.ce[i]!).1) t1 t2 n0 n1 fresh;have N7:=IZ inv.ok op (t:=(bk f (c.af.ce[i]!).2 c.ci).1) (n:=(c.af.ce[i]!).1) t1;have adW:=Ab inv.ok op (t:=(bk f (c.af.ce[i]!).2 c.ci).1) (n:=(c.af.ce[i]!).1) t1;have ap: ∀h:Int×Int,bu ds [((c.af.ce[i]!).1,h)]=aey (ds++[((c.af.ce[i]!).1,h)]):=fun h=>eZ (by simp;omega)
     have opn:=oA inv.ok.so;rw [aM op] at opn;refine ⟨k,jt a (bk f (c.af.ce[i]!).2 c.ci).1 (c.af.ce[i]!).1,ds++[((c.af.ce[i]!).1,js a.ae)],?_,?_,⟨pok,by rw [XN inv.ok pok];exact inv.w2,?_,?_,inv.kl,?_⟩,by simp;omega⟩
     · unfold cY N9
       simp only [e1,pi,cg,ax,wn,pl,I',I9,pu,ap,show ((0:Int) !=0)=aeA from rfl,pp,sc]
     · unfold cm N'
       simp only [aB,e1,pi,cg,ax,lE,dq,wr,I',k0,I9,rp,ap,v4,pp,sc,opn]
     · rw [tk]
       exact ((inv.new.mono fun x hx e he hm=>(N7 e).2 (.inr hm)).snoc (x:=c.af.ce[i]!)).2 _ I' rfl ((N7 _).2 (.inl rfl))
     · exact yX.mono fun x hx e he hm=>(N7 e).2 (.inr hm)
     have:=inv.cnt
     rw [adW,v6];simp only [PP,adR];omega
   left
   have pu:=ti inv.ok op inv.ok.fit (t:=(bk f (c.af.ce[i]!).2 c.ci).1) (n:=(c.af.ce[i]!).1) t1 t2 n0 n1 fresh;have ap: ∀h:Int×Int,bu ds [((c.af.ce[i]!).1,h)]=aey (ds++[((c.af.ce[i]!).1,h)]):=fun h=>eZ (by simp;omega)
   have opn:=oA inv.ok.so;rw [aJ op] at opn;constructor
   · unfold cY N9
     simp only [e1,pi,cg,ax,wn,pl,I',I9,pu,ap,show ((18:Int) !=0)=aez from rfl,pp]
   unfold cm N'
   simp only [aB,e1,pi,cg,ax,lE,dq,wr,I',k0,I9,v4,AC,pp,opn]
  |false=>
   right;refine ⟨k,a,ds,?_,?_,⟨inv.ok,inv.w2,?_,yX,inv.kl,inv.cnt⟩,by omega⟩
   · unfold cY N9
     simp only [e1,pi,cg,ax,wn,pl,I',show ((0:Int) !=0)=aeA from rfl,pp,sc]
   · unfold cm N'
     simp only [aB,e1,pi,cg,ax,lE,dq,wr,I',k0,AC,pp,sc]
   rw [tk]
   exact (inv.new.snoc (x:=c.af.ce[i]!)).1 I'
theorem ahC:
 (lV c ⟨f⟩=aey (cU,18)/\k8 c ⟨f⟩=aey (cU,18))\/
 ∃c':aG,lV c ⟨f⟩=aey (c',0)/\k8 c ⟨f⟩=aey (c',0)/\aU c'/\c'.ii.am=f/\c'.ci=c.ci/\c'.af=c.af:=by
 have bd:=ok.bd;have f64:=pG.1;have run: ∀(d i k:Nat) (a:aF) (ds:List ng),aex c.af.ce-i<=d->i<=aex c.af.ce->El c f i k a ds->aex ds<=i->
  (aE cY (N9 c f i a ds)=aey (.done (cU,18))/\aE cm (N' c f i a ds)=aey (cU,18))\/
  ∃c':aG,aE cY (N9 c f i a ds)=aey (.done (c',0))/\aE cm (N' c f i a ds)=aey (c',0)/\aU c'/\c'.ii.am=f/\c'.ci=c.ci/\c'.af=c.af:=by
  have fin: ∀(k:Nat) (a:aF) (ds:List ng),El c f (aex c.af.ce) k a ds-> ∃c':aG,aE cY (N9 c f (aex c.af.ce) a ds)=aey (.done (c',0))/\aE cm (N' c f (aex c.af.ce) a ds)=aey (c',0)/\aU c'/\c'.ii.am=f/\c'.ci=c.ci/\c'.af=c.af:=by
   intro k a ds inv;have e1:aeB (((aex c.af.ce):Int)<((aex c.af.ce):Int))=aeA:=aJ (by omega);have hk:(aex c.io)-k=0:=by have:=inv.old;rw [ae5] at this;have:c.io.drop k=[]:=this;rw [List.drop_eq_nil_iff] at this;omega
   have new:=inv.new;rw [List.take_length] at new;refine ⟨⟨c.ci,⟨f⟩,c.af,a,ds⟩,aI ?_,aI ?_,⟨ok.jE,ok.iV,pG,ok.oC,inv.ok,inv.w2,?_,kn,new⟩,rfl,rfl,rfl⟩
   · unfold cY N9
     simp only [e1,pp]
   · unfold cm N'
     simp only [aB,e1,pp]
   have:=inv.cnt
   show (aex a.bv)=aex ds;omega
  intro d
  induction d with
  |zero=>
   intro i k a ds hd hi inv RP;have:i=(aex c.af.ce):=by omega
   subst this;exact .inr (fin k a ds inv)
  |succ d ih=>
   intro i k a ds hd hi inv RP
   by_cases he:i=aex c.af.ce
   · subst he;exact .inr (fin k a ds inv)
   rcases Q1 ok pG kn inv (by omega) RP with ⟨h1,h2⟩|⟨k',a',vT,h1,h2,h3,h4⟩
   · exact .inl ⟨aI h1,aI h2⟩
   rw [aW h1,aW h2]
   exact ih (i+1) k' a' vT (by omega) (by omega) h3 h4
 have start:=run (aex c.af.ce) 0 0 c.aa [] (by omega) (by omega) ⟨ok.kO,ok.Ei,rfl,by rw [adV,adV];exact ok.yX,by omega,by have:=ok.hd;simp;omega⟩ (by simp);have hc:gf c=aey 0:=by rw [kB ok.fit,rc ok]
 have hf:jd ⟨f⟩=aey 0:=by rw [qI];exact congrArg aey (o6.2 pG)
 have tw:=ig ok;have tw':hZ (aG.mk (c.ci.1,c.ci.2) (Field.mk c.ii.am) (aX.mk c.af.ay c.af.ce) (aF.mk (aQ.mk c.aa.ae.au c.aa.ae.be c.aa.ae.bi) c.aa.bv c.aa.aj) c.io)=aey c:=tw;have first:aE iM (c.af.ce,((aex c.af.ce):Int),0,c.ci.1,c.ci.2,c.ii.am,c.af.ay,c.af.ce,c.aa.ae.au,c.aa.ae.be,c.aa.ae.bi,c.aa.bv,c.aa.aj,c.io,f,0,0,0)=
  aE iM (c.af.ce,((aex c.af.ce):Int),((aex c.af.ce):Int),c.ci.1,c.ci.2,c.ii.am,c.af.ay,c.af.ce,c.aa.ae.au,c.aa.ae.be,c.aa.ae.bi,c.aa.bv,c.aa.aj,c.io,f,0,0,0):=by
  refine eC (body:=iM) (fun i=>(c.af.ce,((aex c.af.ce):Int),(i:Int),c.ci.1,c.ci.2,c.ii.am,c.af.ay,c.af.ce,c.aa.ae.au,c.aa.ae.be,c.aa.ae.bi,c.aa.bv,c.aa.aj,c.io,f,0,0,0)) (aex c.af.ce) (fun i hi=>?_);have e1:aeB ((i:Int)<((aex c.af.ce):Int))=aez:=aM (by omega);unfold iM;simp only [e1,pi,az c.af.ce i hi,ax,kA pG,aJ (GY pG (kn i hi).1),aJ (GY pG (kn i hi).2),pp,ba (show i<1000000000 by omega)]
 have Q4: ∀r,aE cY (N9 c f 0 c.aa [])=aey (.done r)->lV c ⟨f⟩=aey r:=by intro r hr;unfold lV;simp only [hc,ax,show ((0:Int) !=0)=aeA from rfl,pp,hf,aB];rw [first];refine aI ?_;unfold iM;have e1:aeB (((aex c.af.ce):Int)<((aex c.af.ce):Int))=aeA:=aJ (by omega);simp only [aB,e1,pp,tw',ax,bo (show (aex f)<=1048576 by omega)];exact hr
 have Y4: ∀r,aE cm (N' c f 0 c.aa [])=aey r->k8 c ⟨f⟩=aey r:=by intro r hr;unfold k8 uD;simp only [ie ok,ax,bo (show (aex f)<=1048576 by omega)];exact hr
 rcases start with ⟨h1,h2⟩|⟨c',h1,h2,h3⟩
 · exact .inl ⟨Q4 _ h1,Y4 _ h2⟩
 exact .inr ⟨c',Q4 _ h1,Y4 _ h2,h3⟩
end
theorem lb (l:List (Int×Int)) (x:Int×Int) (hl:(aex l)<=1000000):fE l x=aey (aeB (x∈l)):=by
 unfold fE mR;have key:=gZ (body:=gX) (fun i=>(l,((aex l):Int),(i:Int),x)) (aex l) (fun i=>l[i]! =x) (fun i=>(i:Int)) (e:= -1) (fun i hi=>by
  have e1:aeB ((i:Int)<((aex l):Int))=aez:=aM (by omega);unfold gX;simp only [e1,pi,az l i hi,ax,ba (show i<1000000000 by omega)];generalize l[i]! =y;constructor
  · intro h;rw [fb (congrArg aew h.symm),fb (congrArg Prod.snd h.symm)];rfl
  · intro h
    by_cases h1:x.1=y.1
    · rw [fb h1,eY (fun h2=>h (aep h1.symm h2.symm))];rfl
    rw [eY h1];rfl) (by
  unfold gX;have:aeB (((aex l):Int)<((aex l):Int))=aeA:=aJ (by omega);simp only [this,pp])
 rw [aB]
 by_cases hx:x∈l
 · obtain ⟨i,hi,he⟩:=aS.1 hx
   obtain ⟨k,h1,h2,h3⟩:=least (c:=fun i=>l[i]! =x) ⟨i,hi,he⟩;have:=key.1 k h1 h2 h3;rw [show ((0:Nat):Int)=0 from rfl] at this;rw [this,aM hx];simp only [ax,aM (show (0:Int)<=(k:Int) by omega)]
 have:=key.2 fun i hi he=>hx (aS.2 ⟨i,hi,he⟩)
 rw [show ((0:Nat):Int)=0 from rfl] at this;rw [this,aJ hx];rfl
theorem BN (l:List (Int×Int)) (x:Int×Int) (hl:(aex l)<=1000000):DO l x=aey (aeB (x∈l)):=by
 unfold DO;have key:=c7 (body:=rE) (fun i=>(l,(i:Int),x)) (aex l) (fun i=>l[i]! =x) (r:=aez) (e:=aeA) (fun i hi=>by
  have e1:aeB ((i:Int)<((aex l):Int))=aez:=aM (by omega);unfold rE;simp only [aB,e1,pi,az l i hi,ax,ba (show i<1000000000 by omega)];generalize l[i]! =y;constructor
  · intro h;rw [fb (congrArg aew h),fb (congrArg Prod.snd h)];rfl
  · intro h
    by_cases h1:y.1=x.1
    · rw [fb h1,eY (fun h2=>h (aep h1 h2))];rfl
    rw [eY h1];rfl) (by
  unfold rE;have:aeB (((aex l):Int)<((aex l):Int))=aeA:=aJ (by omega);simp only [aB,this,pp])
 by_cases hx:x∈l
 · rw [aM hx];exact key.1 (aS.1 hx)
 rw [aJ hx];exact key.2 fun i hi he=>hx (aS.2 ⟨i,hi,he⟩)
theorem K9 (x y:ng):((x.1==y.1)&&((x.2.1==y.2.1)&&(x.2.2==y.2.2)))=aeB (x=y):=by
 rw [Bool.eq_iff_iff,decide_eq_true_iff];simp only [Bool.and_eq_true,beq_iff_eq];constructor
 · rintro ⟨h1,h2,h3⟩;exact aep h1 (aep h2 h3)
 rintro rfl;exact ⟨rfl,rfl,rfl⟩
theorem BO (a b:List ng) (hl:(aex a)<=1000000):hO ⟨a⟩ ⟨b⟩=aey (aeB (a=b)):=by
 unfold hO;simp only [aB]
 by_cases h:(aex a)=aex b
 case neg=>rw [dK (by omega),aJ (fun k=>h (by rw [k]))];rfl
 rw [bz (by omega)];simp only [pp];have key:=c7 (body:=og) (fun i=>((i:Int),a,b)) (aex a) (fun i=> ¬a[i]! =b[i]!) (r:=aeA) (e:=aez) (fun i hi=>by
  have e1:aeB ((i:Int)<((aex a):Int))=aez:=aM (by omega);unfold og;simp only [aB,e1,pi,az a i hi,az b i (by omega),ax,ba (show i<1000000000 by omega),K9];constructor
  · intro h;rw [aJ h];rfl
  · intro h;rw [aM (EQ.1 h)];rfl) (by
  unfold og;have:aeB (((aex a):Int)<((aex a):Int))=aeA:=aJ (by omega);simp only [aB,this,pp])
 by_cases he:a=b
 · rw [aM he]
   exact key.2 fun i hi=>EQ.2 (by rw [he])
 rw [aJ he]
 refine key.1 (ww fun hx=>he (wJ h fun i hi=>?_));exact ww fun hn=>hx ⟨i,hi,hn⟩
theorem Af (a b:List ng) (hl:(aex a)<=1000000):jo a b=aey (aeB (a=b)):=by
 unfold jo;simp only [aB]
 by_cases h:(aex a)=aex b
 case neg=>rw [dK (by omega),aJ (fun k=>h (by rw [k]))];rfl
 rw [bz (by omega)];simp only [pp];have key:=c7 (body:=gH) (fun i=>(a,b,((aex a):Int),(i:Int))) (aex a) (fun i=> ¬a[i]! =b[i]!) (r:=aeA) (e:=aez) (fun i hi=>by
  have e1:aeB ((i:Int)<((aex a):Int))=aez:=aM (by omega);unfold gH;simp only [e1,pi,az a i hi,az b i (by omega),ax,ba (show i<1000000000 by omega),K9];constructor
  · intro h;rw [aJ h];rfl
  · intro h;rw [aM (EQ.1 h)];rfl) (by
  unfold gH;have:aeB (((aex a):Int)<((aex a):Int))=aeA:=aJ (by omega);simp only [this,pp])
 by_cases he:a=b
 · rw [aM he]
   exact key.2 fun i hi=>EQ.2 (by rw [he])
 rw [aJ he]
 refine key.1 (ww fun hx=>he (wJ h fun i hi=>?_));exact ww fun hn=>hx ⟨i,hi,hn⟩
theorem xA {cs:List ng} {m:Nat} {x:ng} (hx:x∈cs) (dZ:x.1≠(cs[m]!).1):x∈cs.eraseIdx m:=by
 obtain ⟨j,hj,rfl⟩:=aS.1 hx;have hjm:j≠m:=fun h=>dZ (by rw [h])
 rw [qJ,UV]
 by_cases h:j<m
 · exact .inl (cN.2 ⟨j,h,hj,rfl⟩)
 right
 rw [aS];refine ⟨j- (m+1),by rw [IR];omega,?_⟩;rw [nS]
 congr 1;omega
def kP (c0:aG) (f:List Pt) (es:List (Int×Int)) (i:Nat) (c:aG):=
 (es,c0.af.ce,((aex c0.af.ce):Int),(i:Int),c.ci.1,c.ci.2,c.ii.am,c.af.ay,c.af.ce,c.aa.ae.au,c.aa.ae.be,c.aa.ae.bi,c.aa.bv,c.aa.aj,c.io,f,(0:Int),(0:Int),(0:Int))
def kR (c0:aG) (f:List Pt) (es:List (Int×Int)) (i:Nat) (c:aG):=
 (es,(i:Int),c0.ci.1,c0.ci.2,c0.ii.am,c0.af.ay,c0.af.ce,c0.aa.ae.au,c0.aa.ae.be,c0.aa.ae.bi,c0.aa.bv,c0.aa.aj,c0.io,f,(0:Int),(0:Int),(0:Int),c.ci.1,c.ci.2,c.ii.am,c.af.ay,c.af.ce,c.aa.ae.au,c.aa.ae.be,c.aa.ae.bi,c.aa.bv,c.aa.aj,c.io)
def eP (es:List (Int×Int)) (i:Nat) (c:aG):=
 (es,((aex es):Int),(i:Int),c.ci.1,c.ci.2,c.ii.am,c.af.ay,c.af.ce,c.aa.ae.au,c.aa.ae.be,c.aa.ae.bi,c.aa.bv,c.aa.aj,c.io,(0:Int),(0:Int),(0:Int))
def eR (es:List (Int×Int)) (i:Nat) (c:aG):=
 (es,(i:Int),(0:Int),(0:Int),(0:Int),c.ci.1,c.ci.2,c.ii.am,c.af.ay,c.af.ce,c.aa.ae.au,c.aa.ae.be,c.aa.ae.bi,c.aa.bv,c.aa.aj,c.io)
def jF (c:aG):Int:=c.af.ay- ((aex c.af.ce):Int)
structure Q5 (c:aG) (f:List Pt) (es:List (Int×Int)) (r:aG):Prop where
 has: ∀e∈es,lD r.af.ce e
 sub: ∀x∈r.af.ce,x.2∈es
 ok:aU r
 jT:r.ii.am=f
 ci:r.ci=c.ci
 room:jF c<=jF r
def Roomy (c:aG) (k:Nat):Prop:=aex c.af.ce<=k/\c.af.ay<=k/\ ∀j,j<aex c.aa.ae.au->c.aa.ae.au[j]!<=k
theorem aV.len {l:List Pt} {t:Int×Int} {H:List Ev}: ∀{cs ds:List ng},aV l t H cs ds->aex ds<=aex cs
 | [],ds,h=>by rw [show ds=[] from h];exact aen _
 |x::cs,ds,h=>by
  cases hy:(bk l x.2 t).2 with
  |true=>obtain ⟨d,vT,rfl,_,_,h4⟩:=h.1 hy;exact Nat.succ_le_succ h4.len
  |false=>exact Nat.le_succ_of_le (h.2 hy).len
theorem Roomy.Q6 {c:aG} (ok:aU c) {k:Nat} (h:Roomy c k) (hk:k<=199): ¬(Ad c.af\/ ¬vd c.aa.ae):=by
 obtain ⟨h1,h2,h3⟩:=h;have fl:=ok.yX.len;have hd:=ok.hd;have hl:=ok.kO.hl;have wl:=ok.kO.wl;have w2:=ok.Ei;rintro (h|h)
 · rcases h with h|h<;>omega
 refine h ⟨by omega,?_⟩
 have:=h3 _ (xu ok.kO.so (by omega)).1;omega
theorem Roomy.more {c c':aG} {k:Nat} (h:Roomy c k) {x:Int×Int} (hc:c'.af=m8 c.af x) (hs:c'.aa.ae=c.aa.ae\/c'.aa.ae=fF c.aa.ae):Roomy c' (k+1):=by
 obtain ⟨h1,h2,h3⟩:=h;refine ⟨?_,?_,fun j hj=>?_⟩
 · rw [hc]
   show (c.af.ce++[(c.af.ay,x)]).length<=_;rw [v6,NE];omega
 · rw [hc]
   show c.af.ay+1<=_;omega
 rcases hs with e|e
 · rw [e] at hj ⊢
   have:=h3 j hj;omega
 rw [e] at hj ⊢
 change j<(c.aa.ae.au.set _ _).length at hj;rw [ae7] at hj;show (c.aa.ae.au.set (cH c.aa.ae) (c.aa.ae.au[cH c.aa.ae]!+1))[j]!<=_;rw [bg];split
 · rename_i h;have:=h3 _ h.2;omega
 have:=h3 j hj;omega
structure rL (f:List Pt) (es:List (Int×Int)):Prop where
 len:(aex es)<=1000000
 cv: ∀x∈es,g8 x
 kn: ∀x∈es,iY f x
theorem Q7 {c0:aG} (ok0:aU c0) {f:List Pt} {es:List (Int×Int)} (BP:rL f es):
 ∀(d i:Nat) (c:aG),aex c0.af.ce-i<=d->i<=aex c0.af.ce->aU c->(∀x∈c0.af.ce.drop i,x∈c.af.ce)->(∀x∈c.af.ce,x∈c0.af.ce.drop i\/x.2∈es)->
  ∃c':aG,aE bG (kP c0 f es i c)=aE bG (kP c0 f es (aex c0.af.ce) c')/\aE cZ (kR c0 f es i c)=aE cZ (kR c0 f es (aex c0.af.ce) c')/\aU c'/\(∀x∈c'.af.ce,x.2∈es)/\c'.ii=c.ii/\c'.ci=c.ci/\jF c<=jF c':=by
 have bd:=ok0.bd;intro d
 induction d with
 |zero=>
  intro i c hd hi ok h1 h2;have:i=(aex c0.af.ce):=by omega
  subst this;refine ⟨c,rfl,rfl,ok,fun x hx=>?_,rfl,rfl,ae0 _⟩;rcases h2 x hx with h|h
  · rw [ae5] at h;cases h
  exact h
 |succ d ih=>
  intro i c hd hi ok h1 h2
  by_cases he:i=aex c0.af.ce
  · subst he
    refine ⟨c,rfl,rfl,ok,fun x hx=>?_,rfl,rfl,ae0 _⟩;rcases h2 x hx with h|h
    · rw [ae5] at h;cases h
    exact h
  have pE:i<(aex c0.af.ce):=by omega
  have e1:aeB ((i:Int)<((aex c0.af.ce):Int))=aez:=aM (by omega);have sc:=ba (show i<1000000000 by omega);have cg:=az c0.af.ce i pE;have dr:=lZ pE;have lE:(aG.mk (c.ci.1,c.ci.2) (Field.mk c.ii.am) (aX.mk c.af.ay c.af.ce) (aF.mk (aQ.mk c.aa.ae.au c.aa.ae.be c.aa.ae.bi) c.aa.bv c.aa.aj) c.io)=c:=rfl
  by_cases p9:(c0.af.ce[i]!).2∈es
  · have s1:bG (kP c0 f es i c)=aey (.next (kP c0 f es (i+1) c)):=by
     unfold bG kP;simp only [e1,pi,cg,ax,lb _ _ BP.len,aM p9,v4,pp,sc]
    have s2:cZ (kR c0 f es i c)=aey (.next (kR c0 f es (i+1) c)):=by unfold cZ kR;simp only [aB,e1,pi,cg,ax,BN _ _ BP.len,aM p9,v4,pp,sc]
    rw [aW s1,aW s2];refine ih (i+1) c (by omega) (by omega) ok (fun x hx=>h1 x (by rw [dr];exact Do _ hx)) (fun x hx=>?_);rcases h2 x hx with h|h
    · rw [dr] at h
      rcases aev.1 h with rfl|h
      · exact .inr p9
      exact .inl h
    exact .inr h
  have hm:=h1 (c0.af.ce[i]!) (by rw [dr];exact acl)
  obtain ⟨m,Ou,JT⟩:=aS.1 hm;obtain ⟨c',r1,r2,r3,r4,r5,r6⟩:=K8 ok Ou;have rt:=vf ok Ou r1;rw [JT] at r2 rt;have s1:bG (kP c0 f es i c)=aey (.next (kP c0 f es (i+1) c')):=by unfold bG kP;simp only [e1,pi,cg,ax,lb _ _ BP.len,aJ p9,AC,sc,lE,rt]
  have s2:cZ (kR c0 f es i c)=aey (.next (kR c0 f es (i+1) c')):=by unfold cZ kR;simp only [aB,e1,pi,cg,ax,BN _ _ BP.len,aJ p9,AC,sc,lE,r2]
  rw [aW s1,aW s2];have cl:c'.af.ce=c.af.ce.eraseIdx m:=by rw [r6];rfl
  have vJ:jF c<=jF c':=by unfold jF;rw [r6];show _<=c.af.ay- (((c.af.ce.eraseIdx m).length:Nat):Int);rw [List.length_eraseIdx_of_lt Ou];omega
  have hs:(∀x∈c0.af.ce.drop (i+1),x∈c'.af.ce)/\(∀x∈c'.af.ce,x∈c0.af.ce.drop (i+1)\/x.2∈es):=by
   refine ⟨fun x hx=>?_,fun x hx=>?_⟩
   · rw [cl]
     refine xA (h1 x (by rw [dr];exact Do _ hx)) ?_;rw [JT];exact uO ok0 hx pE
   rw [cl] at hx
   obtain ⟨a1,a2⟩:=p7 ok.nX Ou hx;rw [JT] at a2;rcases h2 x a1 with h|h
   · rw [dr] at h
     rcases aev.1 h with rfl|h
     · exact absurd rfl a2
     exact .inl h
   exact .inr h
  obtain ⟨d',q1,q2,q3,q4,q5,q6,q7⟩:=ih (i+1) c' (by omega) (by omega) r3 hs.1 hs.2;exact ⟨d',q1,q2,q3,q4,q5.trans r4,q6.trans r5,by omega⟩
theorem Ja {f:List Pt} (_fok:dQ f) {es:List (Int×Int)} (BP:rL f es):
 ∀(d i:Nat) (c:aG),aex es-i<=d->i<=aex es->aU c->c.ii.am=f->(∀x∈c.af.ce,x.2∈es)->(∀j,j<i->lD c.af.ce es[j]!)->
  ∃r:aG×Int,aE bL (eP es i c)=aey (.done r)/\aE dm (eR es i c)=aey (.done r)/\(r.2=0/\Q5 c f es r.1\/r=(cU,18))/\(∀k,Roomy c k->k+(aex es-i)<=199->r.2=0):=by
 have el:=BP.len;have fin: ∀c:aG,aU c->c.ii.am=f->(∀x∈c.af.ce,x.2∈es)->(∀j,j<aex es->lD c.af.ce es[j]!)-> ∃r:aG×Int,aE bL (eP es (aex es) c)=aey (.done r)/\aE dm (eR es (aex es) c)=aey (.done r)/\(r.2=0/\Q5 c f es r.1\/r=(cU,18))/\r.2=0:=by
  intro c ok hf hs hh;have e1:aeB (((aex es):Int)<((aex es):Int))=aeA:=aJ (by omega);refine ⟨(c,0),aI ?_,aI ?_,.inl ⟨rfl,fun e he=>by obtain ⟨j,hj,q⟩:=aS.1 he;rw [<- q];exact hh j hj,hs,ok,hf,rfl,ae0 _⟩,rfl⟩
  · unfold bL eP
    simp only [e1,pp]
  unfold dm eR
  simp only [aB,e1,pp]
 intro d
 induction d with
 |zero=>
  intro i c hd hi ok hf hs hh;have:i=(aex es):=by omega
  subst this;obtain ⟨r,q1,q2,q3,q4⟩:=fin c ok hf hs hh;exact ⟨r,q1,q2,q3,fun _ _ _=>q4⟩
 |succ d ih=>
  intro i c hd hi ok hf hs hh
  by_cases he:i=aex es
  · subst he
    obtain ⟨r,q1,q2,q3,q4⟩:=fin c ok hf hs hh;exact ⟨r,q1,q2,q3,fun _ _ _=>q4⟩
  have bd:=ok.bd;have pE:i<(aex es):=by omega
  have e1:aeB ((i:Int)<((aex es):Int))=aez:=aM (by omega);have sc:=ba (show i<1000000000 by omega);have cg:=az es i pE;have lE:(aG.mk (c.ci.1,c.ci.2) (Field.mk c.ii.am) (aX.mk c.af.ay c.af.ce) (aF.mk (aQ.mk c.aa.ae.au c.aa.ae.be c.aa.ae.bi) c.aa.bv c.aa.aj) c.io)=c:=rfl;have Jb:aX.mk c.af.ay c.af.ce=c.af:=rfl;have hc:=Ef c.af.ce es[i]! (by omega);have hr:=uN c.af es[i]! (by omega)
  by_cases p9:lD c.af.ce es[i]!
  · have s1:bL (eP es i c)=aey (.next (eP es (i+1) c)):=by
     unfold bL eP;simp only [e1,pi,cg,ax,qg,hc,aM p9,sc]
    have s2:dm (eR es i c)=aey (.next (eR es (i+1) c)):=by unfold dm eR;simp only [aB,e1,pi,cg,ax,Jb,hr,aM p9,sc]
    rw [aW s1,aW s2];obtain ⟨r,q1,q2,q3,q4⟩:=ih (i+1) c (by omega) (by omega) ok hf hs (fun j hj=>if q:j=i then by rw [q];exact p9 else hh j (by omega));exact ⟨r,q1,q2,q3,fun k hk hl=>q4 k hk (by omega)⟩
  have hb:iY c.ii.am es[i]!:=by rw [hf];exact BP.kn _ (bj pE)
  rcases MG ok (BP.cv _ (bj pE)) hb p9 with ⟨r1,r2,full⟩|⟨c',r1,r2,r3,r4,r5,r6,r7⟩
  · refine ⟨(cU,18),aI ?_,aI ?_,.inr rfl,fun k hk hl=>absurd full (hk.Q6 ok (by omega))⟩
    · unfold bL eP
      simp only [e1,pi,cg,ax,qg,hc,aJ p9,pp,lE,r1,show ((18:Int) !=0)=aez from rfl]
    unfold dm eR
    simp only [aB,e1,pi,cg,ax,Jb,hr,aJ p9,pp,lE,r2,show ((18:Int) !=0)=aez from rfl]
  have s1:bL (eP es i c)=aey (.next (eP es (i+1) c')):=by
   unfold bL eP;simp only [e1,pi,cg,ax,qg,hc,aJ p9,pp,lE,r1,show ((0:Int) !=0)=aeA from rfl,sc]
  have s2:dm (eR es i c)=aey (.next (eR es (i+1) c')):=by unfold dm eR;simp only [aB,e1,pi,cg,ax,Jb,hr,aJ p9,pp,lE,r2,show ((0:Int) !=0)=aeA from rfl,sc]
  rw [aW s1,aW s2];obtain ⟨r,q1,q2,q3,q6⟩:=ih (i+1) c' (by omega) (by omega) r3 (by rw [r4,hf]) (fun x hx=>by
   rw [r6] at hx;rcases UV.1 (show x∈c.af.ce++[(c.af.ay,es[i]!)] from hx) with h|h
   · exact hs x h
   · rw [List.mem_singleton.1 h];exact bj pE) (fun j hj=>by
   rw [r6];show lD (c.af.ce++[(c.af.ay,es[i]!)]) _
   by_cases q:j=i
   · rw [q];exact ⟨aex c.af.ce,by rw [v6,NE];omega,by rw [iR (aen _),Nat.sub_self];rfl⟩
   obtain ⟨w,w1,w2⟩:=hh j (by omega)
   exact ⟨w,by rw [v6];omega,by rw [gj w1];exact w2⟩)
  refine ⟨r,q1,q2,q3.imp (fun ⟨q4,q5⟩=>⟨q4,q5.has,q5.sub,q5.ok,q5.jT,q5.ci.trans r5,ae6 ?_ q5.room⟩) id,fun k hk hl=>q6 (k+1) (hk.more r6 r7) (by omega)⟩;unfold jF;rw [r6];show _<=(c.af.ay+1) - (((c.af.ce++[(c.af.ay,es[i]!)]).length:Nat):Int);rw [v6,NE];omega
theorem MH {c:aG} (ok:aU c) {f:List Pt} (pG:dQ f) {es:List (Int×Int)} (BP:rL f es):
 ∃r:aG×Int,gi c ⟨f⟩ es=aey r/\ss c ⟨f⟩ es=aey r/\(r.2=0/\Q5 c f es r.1\/r=(cU,18)):=by
 have f64:=pG.1;obtain ⟨c',g1,g2,g3,g4,g5,g6,g7⟩:=Q7 ok BP (aex c.af.ce) 0 c (by omega) (by omega) ok (fun x hx=>by rwa [adV] at hx) (fun x hx=> .inl (by rwa [adV]));have bd:=g3.bd;have e1:aeB (((aex c.af.ce):Int)<((aex c.af.ce):Int))=aeA:=aJ (by omega);have La:gi c ⟨f⟩ es=aE bG (kP c f es 0 c):=rfl;have adY:ss c ⟨f⟩ es=aE cZ (kR c f es 0 c):=by unfold ss;simp only [ie ok,ax];rfl
 rw [La,adY,g1,g2];have eq1:=Af c'.ii.am f (by omega);have eq2:=BO c'.ii.am f (by omega);have lE:(aG.mk (c'.ci.1,c'.ci.2) (Field.mk c'.ii.am) (aX.mk c'.af.ay c'.af.ce) (aF.mk (aQ.mk c'.aa.ae.au c'.aa.ae.be c'.aa.ae.bi) c'.aa.bv c'.aa.aj) c'.io)=c':=rfl
 by_cases hf:c'.ii.am=f
 · obtain ⟨r,i1,i2,i3,_⟩:=Ja pG BP (aex es) 0 c' (by omega) (by omega) g3 hf g4 (fun j hj=>absurd hj (aet j))
   refine ⟨r,aI ?_,aI ?_,i3.imp (fun ⟨q4,q5⟩=>⟨q4,q5.has,q5.sub,q5.ok,q5.jT,q5.ci.trans g6,ae6 g7 q5.room⟩) id⟩
   · unfold bG kP
     simp only [e1,pp,eq1,aM hf,ax,v4];exact i1
   unfold cZ kR
   simp only [aB,e1,pp,eq2,aM hf,ax,v4];exact i2
 have kn: ∀i,i<aex c'.af.ce->iY f (c'.af.ce[i]!).2:=fun i hi=>BP.kn _ (g4 _ (bj hi))
 rcases ahC g3 pG kn with ⟨a1,a2⟩|⟨c2,a1,a2,a3,a4,a5,a6⟩
 · refine ⟨(cU,18),aI ?_,aI ?_,.inr rfl⟩
   · unfold bG kP
     simp only [e1,pp,eq1,aJ hf,ax,AC,pi,lE,a1,show ((18:Int) !=0)=aez from rfl]
   unfold cZ kR
   simp only [aB,e1,pp,eq2,aJ hf,ax,AC,pi,lE,a2,show ((18:Int) !=0)=aez from rfl]
 obtain ⟨r,i1,i2,i3,_⟩:=Ja pG BP (aex es) 0 c2 (by omega) (by omega) a3 a4 (by rw [a6];exact g4) (fun j hj=>absurd hj (aet j))
 refine ⟨r,aI ?_,aI ?_,i3.imp (fun ⟨q4,q5⟩=>⟨q4,q5.has,q5.sub,q5.ok,q5.jT,(q5.ci.trans a5).trans g6,ae6 (ae6 g7 (by unfold jF;rw [a6];exact ae0 _)) q5.room⟩) id⟩
 · unfold bG kP
   simp only [e1,pp,eq1,aJ hf,ax,AC,pi,lE,a1,show ((0:Int) !=0)=aeA from rfl];exact i1
 unfold cZ kR
 simp only [aB,e1,pp,eq2,aJ hf,ax,AC,pi,lE,a2,show ((0:Int) !=0)=aeA from rfl];exact i2
theorem yY {σ ρ:Type} {body:σ->Option (Step σ ρ)} (st:Nat->σ) (n:Nat) (P:Nat->Prop) {r e:ρ} (h: ∀i,i<n->(¬P i->body (st i)=aey (.done r))/\(P i->body (st i)=aey (.next (st (i+1)))))
 (QC:body (st n)=aey (.done e)):aE body (st 0)=aey (if∀i,i<n->P i then e else r):=by
 have key:=c7 (body:=body) st n (fun i=> ¬P i) (r:=r) (e:=e) (fun i hi=>⟨(h i hi).1,fun hn=>(h i hi).2 (EQ.1 hn)⟩) QC
 by_cases hx: ∀i,i<n->P i
 · rw [rc hx];exact key.2 fun i hi=>EQ.2 (hx i hi)
 rw [ut hx]
 obtain ⟨i,h⟩:=aeo.1 hx;obtain ⟨hi,hx⟩:=aeq.1 h;exact key.1 ⟨i,hi,hx⟩
structure rM (c:aG):Prop where
 f:(aex c.ii.am)<=1000000
 l:(aex c.af.ce)<=1000000
 d:(aex c.io)<=1000000
 h:(aex c.aa.bv)<=1000000
 w:(aex c.aa.aj)<=1000000
 s1:(aex c.aa.ae.au)<=1000000
 s2:(aex c.aa.ae.be)<=1000000
 s3:(aex c.aa.ae.bi)<=1000000
theorem aU.short {c:aG} (ok:aU c):rM c:=by have bd:=ok.bd;have ab:=ok.kO.bd;have sl:=ok.kO.so.fl;have sn:=ok.kO.so.n2;have su:=ok.kO.so.ul;exact ⟨by omega,by omega,by omega,by omega,by omega,by omega,by omega,by omega⟩
theorem Bj (l:List Int) (hl:(aex l)<=1000000):eT l l=aey aez:=by
 unfold eT;rw [bz rfl];refine (eC (body:=jS) (fun i=>(l,l,(i:Int))) (aex l) fun i hi=>?_).trans (aI ?_)
 · have e1:aeB ((i:Int)<((aex l):Int))=aez:=aM (by omega)
   unfold jS;simp only [aB,e1,pi,az l i hi,ax,ba (show i<1000000000 by omega),bz rfl,pp]
 unfold jS
 have:aeB (((aex l):Int)<((aex l):Int))=aeA:=aJ (by omega);simp only [aB,this,pp]
theorem Lb (l:List Bool) (hl:(aex l)<=1000000):fR l l=aey aez:=by
 unfold fR;rw [bz rfl];refine (eC (body:=jj) (fun i=>(l,l,(i:Int))) (aex l) fun i hi=>?_).trans (aI ?_)
 · have e1:aeB ((i:Int)<((aex l):Int))=aez:=aM (by omega)
   unfold jj;simp only [aB,e1,pi,az l i hi,ax,ba (show i<1000000000 by omega),beq_self_eq_true,v4,pp]
 unfold jj
 have:aeB (((aex l):Int)<((aex l):Int))=aeA:=aJ (by omega);simp only [aB,this,pp]
theorem Lc (c:aX) (hl:(aex c.ce)<=1000000):ji c c=aey aez:=by
 unfold ji;rw [bz rfl,bz rfl];refine (eC (body:=oh) (fun i=>((i:Int),c.ay,c.ce,c.ay,c.ce)) (aex c.ce) fun i hi=>?_).trans (aI ?_)
 · have e1:aeB ((i:Int)<((aex c.ce):Int))=aez:=aM (by omega)
   unfold oh;simp only [aB,e1,pi,az c.ce i hi,ax,ba (show i<1000000000 by omega),beq_self_eq_true,ae1,v4,pp]
 unfold oh
 have:aeB (((aex c.ce):Int)<((aex c.ce):Int))=aeA:=aJ (by omega);simp only [aB,this,pp]
theorem Jc (a:aF) (h1:(aex a.bv)<=1000000) (h2:(aex a.aj)<=1000000) (h3:(aex a.ae.au)<=1000000) (h4:(aex a.ae.be)<=1000000) (h5:(aex a.ae.bi)<=1000000):jk a a=aey aez:=by
 unfold jk nC;simp only [Bj _ h3,Lb _ h4,Bj _ h5,Bj _ h2,ax,pi,v4,pp];rw [bz rfl];refine (eC (body:=oi) (fun i=>((i:Int),a.ae.au,a.ae.be,a.ae.bi,a.bv,a.aj,a.ae.au,a.ae.be,a.ae.bi,a.bv,a.aj)) (aex a.bv) fun i hi=>?_).trans (aI ?_)
 · have e1:aeB ((i:Int)<((aex a.bv):Int))=aez:=aM (by omega)
   unfold oi;simp only [aB,e1,pi,az a.bv i hi,ax,ba (show i<1000000000 by omega),beq_self_eq_true,ae1,v4,pp]
 unfold oi
 have:aeB (((aex a.bv):Int)<((aex a.bv):Int))=aeA:=aJ (by omega);simp only [aB,this,pp]
theorem uP {c:aG} (sh:rM c):hU c c=aey aez:=by
 have hd:=sh.d;unfold hU;simp only [beq_self_eq_true,ae1,v4,pp,BO c.ii.am c.ii.am sh.f,Lc _ sh.l,Jc _ sh.h sh.w sh.s1 sh.s2 sh.s3,ax,aM];rw [bz rfl];refine (eC (body:=oj) (fun i=>((i:Int),c.ci.1,c.ci.2,c.ii.am,c.af.ay,c.af.ce,c.aa.ae.au,c.aa.ae.be,c.aa.ae.bi,c.aa.bv,c.aa.aj,c.io,c.ci.1,c.ci.2,c.ii.am,c.af.ay,c.af.ce,c.aa.ae.au,c.aa.ae.be,c.aa.ae.bi,c.aa.bv,c.aa.aj,c.io)) (aex c.io) fun i hi=>?_).trans (aI ?_)
 · have e1:aeB ((i:Int)<((aex c.io):Int))=aez:=aM (by omega)
   unfold oj;simp only [aB,e1,pi,az c.io i hi,ax,ba (show i<1000000000 by omega),beq_self_eq_true,ae1,v4,pp]
 unfold oj
 have:aeB (((aex c.io):Int)<((aex c.io):Int))=aeA:=aJ (by omega);simp only [aB,this,pp]
structure B7 (c:aG):Prop where
 ci:jw c.ci
 D5: ∀w,w<aex c.aa.bv->jw ((c.aa.bv[w]!).1,(c.aa.bv[w]!).2.1)
theorem Jd (f:Field):oP f=aey aez\/(oP f=aey aeA/\aex f.am<=70):=by
 unfold oP
 simp only [aB]
 by_cases h1:16<aex f.am
 · rw [aM (show (16:Int)<((aex f.am):Int) by omega)]
   by_cases h2:(aex f.am)<64
   · rw [aM (show ((aex f.am):Int)<64 by omega)];exact .inl rfl
   rw [aJ (show¬((aex f.am):Int)<64 by omega)]
   by_cases h3:70<aex f.am
   · rw [aM (show (70:Int)<((aex f.am):Int) by omega)];exact .inl rfl
   rw [aJ (show¬(70:Int)<((aex f.am):Int) by omega)];exact .inr ⟨rfl,by omega⟩
 rw [aJ (show¬(16:Int)<((aex f.am):Int) by omega),aJ (show¬(70:Int)<((aex f.am):Int) by omega)]
 exact .inr ⟨rfl,by omega⟩
theorem rN (c:aG):jc c=aey aez\/(jc c=aey aeA/\rM c):=by
 unfold jc wz wq
 simp only [aB]
 by_cases h1:40<aex c.af.ce
 · rw [aM (show (40:Int)<((aex c.af.ce):Int) by omega)];exact .inl rfl
 rw [aJ (show¬(40:Int)<((aex c.af.ce):Int) by omega)]
 by_cases h2:40<aex c.io
 · rw [aM (show (40:Int)<((aex c.io):Int) by omega)];exact .inl rfl
 rw [aJ (show¬(40:Int)<((aex c.io):Int) by omega)];rcases Jd c.ii with e|⟨e,hf⟩
 · rw [e];exact .inl rfl
 rw [e];simp only [pp,ax]
 by_cases a1:210<aex c.aa.ae.au
 · rw [aM (show (210:Int)<((aex c.aa.ae.au):Int) by omega)];exact .inl rfl
 rw [aJ (show¬(210:Int)<((aex c.aa.ae.au):Int) by omega)]
 by_cases a2:210<aex c.aa.ae.be
 · rw [aM (show (210:Int)<((aex c.aa.ae.be):Int) by omega)];exact .inl rfl
 rw [aJ (show¬(210:Int)<((aex c.aa.ae.be):Int) by omega)]
 by_cases a3:210<aex c.aa.ae.bi
 · rw [aM (show (210:Int)<((aex c.aa.ae.bi):Int) by omega)];exact .inl rfl
 rw [aJ (show¬(210:Int)<((aex c.aa.ae.bi):Int) by omega)]
 by_cases a4:210<aex c.aa.bv
 · rw [aM (show (210:Int)<((aex c.aa.bv):Int) by omega)];exact .inl rfl
 rw [aJ (show¬(210:Int)<((aex c.aa.bv):Int) by omega)]
 by_cases a5:210<aex c.aa.aj
 · rw [aM (show (210:Int)<((aex c.aa.aj):Int) by omega)];exact .inl rfl
 rw [aJ (show¬(210:Int)<((aex c.aa.aj):Int) by omega)];exact .inr ⟨rfl,⟨by omega,by omega,by omega,by omega,by omega,by omega,by omega,by omega⟩⟩
theorem MI {a b:Int×Int} (ha:bm a) (hb:bm b) (h:a.1*b.2=b.1*a.2):a=b:=by
 obtain ⟨a1,_,a3⟩:=ha;obtain ⟨b1,_,b3⟩:=hb;have hn:a.1.natAbs*b.2.natAbs=b.1.natAbs*a.2.natAbs:=by rw [<- aeu,<- aeu,h]
 have d1:b.2.natAbs ∣ a.2.natAbs:=by
  have:b.2.natAbs ∣ b.1.natAbs*a.2.natAbs:=by rw [<- hn];exact aes _ _
  exact (Nat.Coprime.dvd_of_dvd_mul_left b3 this)
 have d2:a.2.natAbs ∣ b.2.natAbs:=by
  have:a.2.natAbs ∣ a.1.natAbs*b.2.natAbs:=by rw [hn];exact aes _ _
  exact (Nat.Coprime.dvd_of_dvd_mul_left a3 this)
 have e:a.2.natAbs=b.2.natAbs:=Nat.dvd_antisymm d2 d1;have e2:a.2=b.2:=by omega
 have e1:a.1=b.1:=by rw [e2] at h;exact Int.eq_of_mul_eq_mul_right (by omega) h
 exact aep e1 e2
theorem Cr (p q:Pt) (t:Int×Int):xH p q t=(p.2.1-q.2.1)*t.2+(p.2.2-q.2.2)*t.1:=rfl
theorem Je {l h:Pt} {t t':Int×Int} (d:1<=t.2) (d':1<=t'.2) (le:t.1*t'.2<=t'.1*t.2) (hB: ¬h.2.2<l.2.2) (hn: ¬leads l h t): ¬leads l h t':=by
 unfold leads at*;rw [Cr] at*;generalize l.2.1-h.2.1=A at*;have hs:l.2.2-h.2.2<=0:=by omega
 intro hl;have key:(A*t'.2+(l.2.2-h.2.2)*t'.1)*t.2<=(A*t.2+(l.2.2-h.2.2)*t.1)*t'.2:=by
  have h1:(l.2.2-h.2.2)*(t'.1*t.2)<=(l.2.2-h.2.2)*(t.1*t'.2):=Int.mul_le_mul_of_nonpos_left hs le;have e1:(A*t'.2+(l.2.2-h.2.2)*t'.1)*t.2=A*t'.2*t.2+(l.2.2-h.2.2)*(t'.1*t.2):=by rw [Int.add_mul,ae2 (l.2.2-h.2.2)]
  have e2:(A*t.2+(l.2.2-h.2.2)*t.1)*t'.2=A*t'.2*t.2+(l.2.2-h.2.2)*(t.1*t'.2):=by rw [Int.add_mul,ae2 (l.2.2-h.2.2),ae2 A,ae2 A,aer t.2]
  omega
 rcases hl with hl|⟨hl,h2|⟨h2,h3⟩⟩
 · refine hn (.inl ?_)
   have:0<(A*t'.2+(l.2.2-h.2.2)*t'.1)*t.2:=Int.mul_pos hl (by omega);have k:0<(A*t.2+(l.2.2-h.2.2)*t.1)*t'.2:=by omega
   exact Int.pos_of_mul_pos_left k (by omega)
 · omega
 have z:l.2.2-h.2.2=0:=by omega
 rw [z] at hl hn;have:A=0:=by
  have:A*t'.2=0:=by omega
  rcases Int.mul_eq_zero.1 this with h|h
  · exact h
  omega
 subst this;exact hn (.inr ⟨by omega,.inr ⟨h2,h3⟩⟩)
theorem yZ {h l:Pt} {t t':Int×Int} (hh:ff h) (hl:ff l) (r:bm t) (r':bm t') (le:t.1*t'.2<=t'.1*t.2) (up:(iT h l t).2=aez->t'.1*(iT h l t).1.2<=(iT h l t).1.1*t'.2):
 iT h l t'=iT h l t:=by
 unfold iT at*
 by_cases h1:leads l h t
 · rw [rc h1] at up ⊢
   have e:t=t':=MI r r' (by have:=up rfl;dsimp only at this;omega);subst e;rw [rc h1]
 rw [ut h1] at up ⊢
 by_cases h2:h.2.2<l.2.2
 · rw [rc h2] at up ⊢
   obtain ⟨_,m1,m2,m3⟩:=Bb hh hl (show h.2.2≠l.2.2 by omega);have up:=up rfl;dsimp only at up
   by_cases h3:leads l h t'
   · rw [rc h3]
     have:t'=met h l:=by
      refine MI r' m1 ?_;have g:0<=xH l h t':=by rcases h3 with k|k<;>omega
      rw [Cr] at g;generalize met h l=m at*;have d:=m1.1;have hB:0<l.2.2-h.2.2:=by omega
      generalize l.2.2-h.2.2=B at*;generalize hA:h.2.1-l.2.1=A at*;have g2:A*t'.2<=B*t'.1:=by
       have:(l.2.1-h.2.1)*t'.2= -(A*t'.2):=by rw [<- Int.neg_mul];congr 1;omega
       omega
      have g3:m.1*t'.2*B<=t'.1*m.2*B:=by
       have e1:m.1*t'.2*B=A*t'.2*m.2:=by rw [M2,m3,M2]
       have e2:t'.1*m.2*B=B*t'.1*m.2:=by rw [M2,aer t'.1 B]
       rw [e1,e2];exact adM g2 (by omega)
      have g4:m.1*t'.2<=t'.1*m.2:=adZ g3 hB;omega
     rw [this]
   rw [ut h3]
 rw [ut h2] at up ⊢
 rw [ut (Je r.1 r'.1 le h2 h1)]
theorem FK {a:aF} (ok:dT a): ∀k,k<aex a.bv-> ¬less a.bv[k]! a.bv[0]!:=by
 have d: ∀w,w<aex a.bv->1<=(a.bv[w]!).2.1:=fun w hw=>(ok.ev w hw).1.1
 intro k
 induction k using Nat.strongRecOn with
 |ind k ih=>
  intro hk
  by_cases h0:k=0
  · subst h0;exact fun h=>lC h h
  exact tf (d 0 (by omega)) (d ((k-1) / 2) (by omega)) (d k hk) (ih ((k-1) / 2) (by omega) (by omega)) (ok.ord k (by omega) hk)
theorem Q8 {h l:Pt} {t:Int×Int} (hh:ff h) (hl:ff l) (r:bm t) (is:(iT h l t).2=aez):t.1*(iT h l t).1.2<=(iT h l t).1.1*t.2:=by
 unfold iT at*
 by_cases h1:leads l h t
 · rw [rc h1];exact ae0 _
 rw [ut h1] at is ⊢
 by_cases h2:h.2.2<l.2.2
 · rw [rc h2]
   obtain ⟨_,m1,m2,m3⟩:=Bb hh hl (show h.2.2≠l.2.2 by omega);dsimp only;have g:xH l h t<=0:=Int.not_lt.1 fun k=>h1 (.inl k)
   rw [Cr] at g;generalize met h l=m at*;have d:=m1.1;have d2:=r.1;have hB:0<l.2.2-h.2.2:=by omega
   generalize l.2.2-h.2.2=B at*;generalize hA:h.2.1-l.2.1=A at*;have g2:B*t.1<=A*t.2:=by
    have:(l.2.1-h.2.1)*t.2= -(A*t.2):=by rw [<- Int.neg_mul];congr 1;omega
    omega
   have e1:t.1*m.2*B=B*t.1*m.2:=by rw [M2,aer t.1 B]
   have e2:m.1*t.2*B=A*t.2*m.2:=by rw [M2,m3,M2]
   have g3:t.1*m.2*B<=m.1*t.2*B:=by rw [e1,e2];exact adM g2 (by omega)
   exact adZ g3 hB
 rw [ut h2] at is;cases is
theorem aV.time {l:List Pt} {t t':Int×Int} {H:List Ev}: ∀{cs ds:List ng},(∀x∈cs,bk l x.2 t'=bk l x.2 t)->aV l t H cs ds->aV l t' H cs ds
 | [],_,_,h=>h
 |x::cs,ds,hw,h=>by
  have e:=hw x acl;have ih: ∀{ds},aV l t H cs ds->aV l t' H cs ds:=fun {ds}=>aV.time fun y hy=>hw y (Do _ hy)
  refine ⟨fun hy=>?_,fun hy=>?_⟩
  · rw [e] at hy
    obtain ⟨d,vT,h1,h2,h3,h4⟩:=h.1 hy;exact ⟨d,vT,h1,h2,by rw [e];exact h3,ih h4⟩
  rw [e] at hy
  exact ih (h.2 hy)
theorem y6 {c:aG} (ok:aU c) (dZ:0<aex c.aa.bv):
 ∃(i:Nat) (c':aG),i<aex c.af.ce/\(c.af.ce[i]!).1=Ev.num c.aa.bv[0]!/\ia c (Ev.num c.aa.bv[0]!)=aey (c',(c.af.ce[i]!).2,0)/\nP c (Ev.num c.aa.bv[0]!)=aey c'/\
  aU ⟨Ev.at c.aa.bv[0]!,c'.ii,c'.af,c'.aa,c'.io⟩/\c'.ii=c.ii/\c'.af=kN c.af i/\c.ci.1*(Ev.at c.aa.bv[0]!).2<=(Ev.at c.aa.bv[0]!).1*c.ci.2:=by
 have hm:=bj dZ;obtain ⟨d,hd,hn⟩:=ok.xI _ hm;obtain ⟨x,hx,h1,h2,h3⟩:=ok.yX.io d hd;obtain ⟨w,hw,he⟩:=aS.1 h3;have hw0:w=0:=ww fun hx=>by refine ok.kO.nd 0 w (by omega) hw ?_;rw [he,<- hn,h1]
 subst hw0;obtain ⟨i,hi,rfl⟩:=aS.1 hx;have num:(c.af.ce[i]!).1=Ev.num c.aa.bv[0]!:=by rw [<- hn,h1]
 have tm:Ev.at c.aa.bv[0]! =(bk c.ii.am (c.af.ce[i]!).2 c.ci).1:=by rw [he]
 obtain ⟨c',r1,r2,r3,r4,r5,r6⟩:=K8 ok hi;have hb:=ok.known i hi;have pt:=fun (x:Int×Int) (hb:iY c.ii.am x)=>And.intro (dL ok.jT hb.2).1 (dL ok.jT hb.1).1
 have rt:=z6 (pt _ hb).1 (pt _ hb).2 ok.iV ok.jE h2;have ge:=Q8 (pt _ hb).1 (pt _ hb).2 ok.jE h2;rw [num] at r1 r2;refine ⟨i,c',hi,num,r1,r2,?_,r4,r6,by rw [tm];exact ge⟩;have kn:=wS ok i hi;refine ⟨by rw [tm];exact rt.1,by rw [tm];exact rt.2,r3.jT,r3.oC,r3.kO,r3.Ei,r3.hd,r3.known,?_⟩;refine aV.time (t:=c'.ci) (fun y hy=>?_) r3.yX;have hy':y∈c.af.ce:=by rw [r6] at hy;exact (p7 ok.nX hi hy).1
 obtain ⟨j,hj,rfl⟩:=aS.1 hy';have hbj:=ok.known j hj;rw [r4,r5];refine yZ (pt _ hbj).1 (pt _ hbj).2 ok.jE (by rw [tm];exact rt.1) (by rw [tm];exact ge) (fun is=>?_);obtain ⟨d',hd',k1,k2⟩:=ok.yX.has _ hy' is;obtain ⟨w,hw,he⟩:=aS.1 k2;have:=FK ok.kO w hw;rw [he] at this;exact Int.not_lt.1 fun k=>this (.inl (uI.2 k))
theorem B8 {p q:Pt} {t:Int×Int} (hp:ff p) (hq:ff q) (ht:jw t) (hr:bm t):mS p q t=aey (aeB (leads p q t),if p.1=q.1 then 2 else 0)\/(p.1=q.1/\mS p q t=aey (aeA,2)):=by
 unfold mS;rw [sx ht,rc ⟨hp,hq,hr⟩]
 by_cases h:p.1=q.1
 · right;simp [h]
 left
 simp only [h,if_false,ax,rH hp hq ht];have:aeB (0<KS p q t)=aeB (leads p q t):=by simp only [DS]
 simp [this]
end Go.Proofs.YtclphlgnjkajbaaGreat
namespace Go.Proofs.YtclphlgnjkajbaaGreat
open Go.Vm
theorem nY {α:Type} [BEq α] [LawfulBEq α]: ∀{a b:List α},a.Nodup->(∀x∈a,x∈b)->aex b<=aex a->a.Perm b
 | [],b,_,_,hl=>by rw [List.eq_nil_of_length_eq_zero (show (aex b)=0 by simpa using hl)]
 |x::a,b,hd,h,hl=>by
  rw [ae8] at hd;have hx:=h x acl;have ih:=nY (a:=a) (b:=b.erase x) hd.2 (fun y hy=>by
   rw [List.mem_erase_of_ne (fun e=>hd.1 (by rw [<- e];exact hy))];exact h y (Do _ hy)) (by
   rw [List.length_erase_of_mem hx];rw [PP] at hl;omega)
  exact (List.Perm.cons x ih).trans (List.perm_cons_erase hx).symm
theorem uQ {α β:Type} {f:α->β}: ∀{l:List α},l.Nodup->(∀x∈l,∀y∈l,f x=f y->x=y)->(l.map f).Nodup
 | [],_,_=>List.nodup_nil
 |x::l,h,hi=>by rw [ae8] at h;rw [List.map_cons,ae8];refine ⟨fun hm=>?_,uQ h.2 fun y hy z hz=>hi y (Do _ hy) z (Do _ hz)⟩;obtain ⟨y,hy,e⟩:=adT.1 hm;have:=hi y (Do _ hy) x acl e;rw [this] at hy;exact h.1 hy
end Go.Proofs.YtclphlgnjkajbaaGreat
namespace Go.Proofs.YtclphlgnjkajbaaGreat
open Go.Vm Classical
def qL (l:List Int) (k:Nat):List (Int×Int):=(List.range k).map fun i=>(l[i+1]!,l[i / 2]!)
abbrev cC (l:List Int):List (Int×Int):=qL l (aex l-1)
theorem ju (l:List Int) (k:Nat):(qL l k).length=k:=by unfold qL;rw [If,List.length_range]
theorem Jf (l:List Int) (k:Nat):qL l (k+1)=qL l k++[(l[k+1]!,l[k / 2]!)]:=by unfold qL;rw [List.range_succ,List.map_append];rfl
theorem o7 (l:List Int) {k i:Nat} (h:i<k):(qL l k)[i]! =(l[i+1]!,l[i / 2]!):=by rw [getElem!_pos _ i (by rw [ju];exact h)];unfold qL;rw [List.getElem_map,List.getElem_range]
theorem Ag (l:List Int) (hl:(aex l)<=1000):kx l=aey (cC l):=by
 unfold kx;have key:=eC (body:=mQ) (fun i=>(l,((i+1:Nat):Int),qL l i)) (aex l-1) (fun i hi=>by
  have e:ai .i64 (Int.tdiv (ai .i64 (((i+1:Nat):Int) -1)) 2)=((i / 2:Nat):Int):=by rw [show ai .i64 (((i+1:Nat):Int) -1)=(i:Int) from by rw [u7 ⟨by omega,by omega⟩];omega,Int.tdiv_eq_ediv_of_nonneg (by omega),u7 ⟨by omega,by omega⟩];omega
  unfold mQ;simp only [aB,aM (show ((i+1:Nat):Int)<((aex l):Int) by omega),pi,az l (i+1) (by omega),e,az l (i / 2) (by omega),ax];rw [eZ (by rw [ju,NE];omega),ax,ba (show i+1<1000000000 by omega),<- Jf])
 rw [show (l,(1:Int),([]:List (Int×Int)))=(l,((0+1:Nat):Int),qL l 0) from rfl,key];refine aI ?_;unfold mQ;simp only [aB,aJ (show¬((aex l-1+1:Nat):Int)<((aex l):Int) by omega),pp]
theorem ahE (l:List Int) (hl:(aex l)<=1000):zZ l=aey (cC l):=by rw [<- Ag l hl];rfl
theorem Bk {l:List Int} {e:Int×Int} (h:e∈cC l):e.1∈l/\e.2∈l:=by obtain ⟨i,hi,rfl⟩:=aS.1 h;rw [ju] at hi;rw [o7 l hi];exact ⟨bj (by omega),bj (by omega)⟩
theorem Jg {l:List Int} (hd:l.Nodup) {e:Int×Int} (h:e∈cC l):e.1≠e.2:=by obtain ⟨i,hi,rfl⟩:=aS.1 h;rw [ju] at hi;rw [o7 l hi];exact fun h=>db.1 hd (i / 2) (i+1) (by omega) (by omega) h.symm
theorem rO {l:List Int} (hd:l.Nodup):(cC l).Nodup:=by
 unfold cC qL;refine uQ List.nodup_range fun i hi j hj h=>?_
 rw [List.mem_range] at hi hj;have h1:l[i+1]! =l[j+1]!:=congrArg aew h;have h2:=db.1 hd;rcases adc i j with k|k|k
 · exact absurd h1 (h2 (i+1) (j+1) (by omega) (by omega))
 · exact k
 exact absurd h1.symm (h2 (j+1) (i+1) (by omega) (by omega))
theorem Em (l:List Int) (x:Int) (hl:(aex l)<=1000000):
 (∀k,k<aex l->l[k]! =x->(∀j,j<k->l[j]!≠x)->fq l x=aey (k:Int))/\((∀k,k<aex l->l[k]!≠x)->fq l x=aey (-1)):=by
 have k1:=gZ (body:=iu) (fun i=>(l,x,((aex l):Int),(i:Int))) (aex l) (fun i=>l[i]! =x) (fun i=>(i:Int)) (e:= -1) (fun i hi=>by
  unfold iu;simp only [aM (show (i:Int)<((aex l):Int) by omega),pi,az l i hi,ax,ba (show i<1000000000 by omega)];refine ⟨fun h=>?_,fun h=>?_⟩
  · rw [fb h.symm];rfl
  · rw [eY (fun k=>h k.symm)];rfl) (by
  unfold iu;simp only [aJ (show¬((aex l):Int)<((aex l):Int) by omega),pp])
 exact ⟨fun k hk h1 h2=>k1.1 k hk h1 h2,fun h=>k1.2 h⟩
theorem GZ (l:List Int) (x:Int) (hl:(aex l)<=1000000):iv l x=aey (aeB (x∈l)):=by
 unfold iv
 by_cases hx:x∈l
 · obtain ⟨k,k1,k2,k3⟩:=least (c:=fun k=>l[k]! =x) (aS.1 hx)
   rw [(Em l x hl).1 k k1 k2 k3,ax,aM hx,aM (by omega)]
 rw [(Em l x hl).2 (fun k hk h=>hx (aS.2 ⟨k,hk,h⟩)),ax,aJ hx];rfl
theorem ye {f:List Pt} (pG:dQ f) {id:Int} (h:pB f id):qz ⟨f⟩ id=aey (bS f id,0):=by
 have h1:=pG.1;have hc:jd ⟨f⟩=aey 0:=by rw [qI];exact congrArg aey (o6.2 pG)
 have bs:=Cp f id (by omega) (fun i j=>qf pG.2.2);unfold qz wF yQ;rw [XL];simp only [hc,ax,show ((0:Int) !=0)=aeA from rfl,pp];obtain ⟨k,hk,he⟩:=h;rw [bs.1 k hk he];simp only [ax,v4,pp,show ((0:Int) !=0)=aeA from rfl,az f k hk,Cq pG.2.2 hk he]
theorem Q9 {f:List Pt} (pG:dQ f) {t:Int×Int} (r:bm t) (mb:jw t) {a b:Int} (ha:pB f a) (hb:pB f b) (dZ:a≠b):rC ⟨f⟩ t a b=aey (aeB (leads (bS f a) (bS f b) t)):=by
 unfold rC;rw [ye pG ha,ax,ye pG hb,ax];obtain ⟨p1,p2⟩:=dL pG ha;obtain ⟨q1,q2⟩:=dL pG hb;rcases B8 p1 q1 mb r with h|⟨h,_⟩
 · rw [h,ax]
 rw [p2,q2] at h;exact absurd h dZ
theorem XP {f:List Pt} (pG:dQ f) {t:Int×Int} (mb:jw t) {x:Int×Int} (hb:iY f x):uu x ⟨f⟩ t=aey (aeB (leads (bS f x.2) (bS f x.1) t)):=by obtain ⟨h1,h2⟩:=hb;obtain ⟨j,j1,j2,j3⟩:=yW pG h1;obtain ⟨k,k1,k2,k3⟩:=yW pG h2;unfold uu;simp only [j2,k2,ax,az f j j1,az f k k1,j3,k3,IK (dL pG h2).1 (dL pG h1).1 mb]
def vg (f:List Pt):List Int:=f.map fun p=>p.1
theorem qh {f:List Pt} (h:jr f):(vg f).Nodup:=by
 refine uQ ?_ ?_
 · exact db.2 fun i j mf hj e=>by have:=qf h mf hj;rw [e] at this;omega
 intro x hx y hy e
 obtain ⟨i,hi,rfl⟩:=aS.1 hx;obtain ⟨j,hj,rfl⟩:=aS.1 hy;rw [DU h hi hj e]
theorem oD {f:List Pt} {id:Int}:id∈vg f↔pB f id:=by
 unfold vg pB;rw [adT];constructor
 · rintro ⟨p,hp,rfl⟩
   obtain ⟨i,hi,rfl⟩:=aS.1 hp;exact ⟨i,hi,rfl⟩
 rintro ⟨i,hi,rfl⟩
 exact ⟨f[i]!,bj hi,rfl⟩
structure jv (k:bJ):Prop where
 BQ:aU k.jp
 perm:(vg k.jp.ii.am).Perm k.bv
 cert:(k.jp.af.ce.map fun x=>x.2).Perm (cC k.bv)
 lead: ∀e∈cC k.bv,leads (bS k.jp.ii.am e.2) (bS k.jp.ii.am e.1) k.jp.ci
theorem BS {c:aX} (ok:dR c):(c.ce.map fun x=>x.2).Nodup:=by
 refine uQ ?_ ?_
 · exact db.2 fun i j mf hj e=>ok.nd i j mf hj (by rw [e])
 intro x hx y hy e
 obtain ⟨i,hi,rfl⟩:=aS.1 hx;obtain ⟨j,hj,rfl⟩:=aS.1 hy;rcases adc i j with k|k|k
 · exact absurd e (ok.nd i j k hj)
 · rw [k]
 exact absurd e.symm (ok.nd j i k hi)
def Q' (k:bJ):Prop:=(∀i,i<aex k.jp.ii.am->(k.jp.ii.am[i]!).1∈k.bv)/\(cC k.bv).length=aex k.jp.af.ce/\
 ∀i,i<aex k.jp.af.ce->(k.jp.af.ce[i]!).2∈cC k.bv/\leads (bS k.jp.ii.am (k.jp.af.ce[i]!).2.2) (bS k.jp.ii.am (k.jp.af.ce[i]!).2.1) k.jp.ci
def Jh (k:bJ):Prop:=(∀i,i<aex k.bv->pB k.jp.ii.am k.bv[i]!/\ ∀j,j<i->k.bv[j]!≠k.bv[i]!)/\aex k.jp.af.ce=(cC k.bv).length/\
 ∀i,i<(cC k.bv).length->lD k.jp.af.ce (cC k.bv)[i]!/\leads (bS k.jp.ii.am ((cC k.bv)[i]!).2) (bS k.jp.ii.am ((cC k.bv)[i]!).1) k.jp.ci
theorem g9 {l:List ng} {x:Int×Int}:lD l x↔x∈l.map fun y=>y.2:=by
 unfold lD;rw [adT];constructor
 · rintro ⟨i,hi,rfl⟩;exact ⟨l[i]!,bj hi,rfl⟩
 rintro ⟨y,hy,rfl⟩
 obtain ⟨i,hi,rfl⟩:=aS.1 hy;exact ⟨i,hi,rfl⟩
theorem ahF {k:bJ} (ok:aU k.jp) (hl:(aex k.bv)=aex k.jp.ii.am):Q' k↔jv k:=by
 have nd:=qh ok.jT.2.2;have il:(vg k.jp.ii.am).length=(aex k.jp.ii.am):=If ..;have cl:(k.jp.af.ce.map fun x=>x.2).length=(aex k.jp.af.ce):=If ..;have cn:=BS ok.oC;constructor
 · rintro ⟨h1,h2,h3⟩
   have pm:(vg k.jp.ii.am).Perm k.bv:=nY nd (fun x hx=>by obtain ⟨i,hi,rfl⟩:=oD.1 hx;exact h1 i hi) (by omega);have pc:(k.jp.af.ce.map fun x=>x.2).Perm (cC k.bv):=nY cn (fun x hx=>by obtain ⟨i,hi,rfl⟩:=g9.2 hx;exact (h3 i hi).1) (by omega);refine ⟨ok,pm,pc,fun e he=>?_⟩;obtain ⟨i,hi,rfl⟩:=g9.2 (pc.mem_iff.2 he);exact (h3 i hi).2
 intro h
 refine ⟨fun i hi=>h.perm.mem_iff.1 (oD.2 ⟨i,hi,rfl⟩),by rw [<- h.cert.length_eq,cl],fun i hi=>?_⟩;have:=h.cert.mem_iff.1 (g9.1 ⟨i,hi,rfl⟩);exact ⟨this,h.lead _ this⟩
theorem ahG {k:bJ} (ok:aU k.jp) (hl:(aex k.bv)=aex k.jp.ii.am):Jh k↔jv k:=by
 have nd:=qh ok.jT.2.2;have il:(vg k.jp.ii.am).length=(aex k.jp.ii.am):=If ..;have cl:(k.jp.af.ce.map fun x=>x.2).length=(aex k.jp.af.ce):=If ..;constructor
 · rintro ⟨h1,h2,h3⟩
   have hn:k.bv.Nodup:=db.2 fun i j mf hj e=>(h1 j hj).2 i mf e
   have pm:k.bv.Perm (vg k.jp.ii.am):=nY hn (fun x hx=>by obtain ⟨i,hi,rfl⟩:=aS.1 hx;exact oD.2 (h1 i hi).1) (by omega);have pc:(cC k.bv).Perm (k.jp.af.ce.map fun x=>x.2):=nY (rO hn) (fun x hx=>by obtain ⟨i,hi,rfl⟩:=aS.1 hx;exact g9.1 (h3 i hi).1) (by omega);refine ⟨ok,pm.symm,pc.symm,fun e he=>?_⟩;obtain ⟨i,hi,rfl⟩:=aS.1 he;exact (h3 i hi).2
 intro h
 have hn:k.bv.Nodup:=h.perm.nodup_iff.1 nd;refine ⟨fun i hi=>⟨oD.1 (h.perm.mem_iff.2 (bj hi)),fun j hj e=>db.1 hn j i hj hi e⟩,by rw [<- h.cert.length_eq,cl],fun i hi=>?_⟩;exact ⟨g9.2 (h.cert.mem_iff.2 (bj hi)),h.lead _ (bj hi)⟩
theorem G0 {α:Type} {p q:Prop} [Decidable p] [Decidable q] {a b:α} (h:p↔q):(if p then a else b)=if q then a else b:=by
 by_cases hp:p
 · rw [rc hp,rc (h.1 hp)]
 rw [ut hp,ut (fun k=>hp (h.2 k))]
theorem qM {k:bJ} (fit:tq k.jp) (hl:(aex k.bv)<=1000):lT k=aey (if jv k then 0 else 8):=by
 unfold lT;rw [kB fit,ax]
 by_cases ok:aU k.jp
 case neg=>rw [ut ok,ut (fun h=>ok h.BQ)];rfl
 rw [rc ok,bz rfl,pp]
 by_cases hh:(aex k.bv)=aex k.jp.ii.am
 case neg=>rw [dK (by rw [aB,aB];omega),pi,ut (fun h=>hh ?_)];rw [<- h.perm.length_eq];exact If ..
 rw [bz (by rw [aB,aB];omega),pp,<- G0 (ahF ok hh)];have bd:=ok.bd;have wK:=yY (body:=mT) (fun i=>(cC k.bv,k.jp.af.ce,((aex k.jp.af.ce):Int),(i:Int),k.jp.ci.1,k.jp.ci.2,k.jp.ii.am,k.jp.af.ay,k.jp.af.ce,k.jp.aa.ae.au,k.jp.aa.ae.be,k.jp.aa.ae.bi,k.jp.aa.bv,k.jp.aa.aj,k.jp.io,k.bv)) (aex k.jp.af.ce)
  (fun i=>(k.jp.af.ce[i]!).2∈cC k.bv/\leads (bS k.jp.ii.am (k.jp.af.ce[i]!).2.2) (bS k.jp.ii.am (k.jp.af.ce[i]!).2.1) k.jp.ci) (r:= .done 8) (e:= .done 0) (fun i hi=>by
  have hb:=ok.known i hi;have hv:=ok.oC.cv i hi;unfold mT;simp only [aM (show (i:Int)<((aex k.jp.af.ce):Int) by omega),pi,az k.jp.af.ce i hi,ax,lb (cC k.bv) _ (by rw [ju];omega),Q9 ok.jT (t:=(k.jp.ci.1,k.jp.ci.2)) ok.jE ok.iV hb.2 hb.1 (fun h=>hv.2.2.2.2 h.symm),ba (show i<1000000000 by omega)]
  by_cases h1:(k.jp.af.ce[i]!).2∈cC k.bv
  · rw [aM h1]
    by_cases h2:leads (bS k.jp.ii.am (k.jp.af.ce[i]!).2.2) (bS k.jp.ii.am (k.jp.af.ce[i]!).2.1) k.jp.ci
    · rw [show aeB (leads (bS k.jp.ii.am (k.jp.af.ce[i]!).2.2) (bS k.jp.ii.am (k.jp.af.ce[i]!).2.1) (k.jp.ci.1,k.jp.ci.2))=aez from aM h2]
      exact ⟨fun h=>absurd ⟨h1,h2⟩ h,fun _=>rfl⟩
    rw [show aeB (leads (bS k.jp.ii.am (k.jp.af.ce[i]!).2.2) (bS k.jp.ii.am (k.jp.af.ce[i]!).2.1) (k.jp.ci.1,k.jp.ci.2))=aeA from aJ h2]
    exact ⟨fun _=>rfl,fun h=>absurd h.2 h2⟩
  · rw [aJ h1]
    exact ⟨fun _=>rfl,fun h=>absurd h.1 h1⟩) (by
  unfold mT;simp only [aJ (show¬((aex k.jp.af.ce):Int)<((aex k.jp.af.ce):Int) by omega),pp])
 have outer:=yY (body:=mU) (fun i=>(k.jp.ii.am,((aex k.jp.ii.am):Int),(i:Int),k.jp.ci.1,k.jp.ci.2,k.jp.ii.am,k.jp.af.ay,k.jp.af.ce,k.jp.aa.ae.au,k.jp.aa.ae.be,k.jp.aa.ae.bi,k.jp.aa.bv,k.jp.aa.aj,k.jp.io,k.bv)) (aex k.jp.ii.am)
  (fun i=>(k.jp.ii.am[i]!).1∈k.bv) (r:=8) (e:=if (cC k.bv).length=aex k.jp.af.ce/\ ∀i,i<aex k.jp.af.ce->(k.jp.af.ce[i]!).2∈cC k.bv/\leads (bS k.jp.ii.am (k.jp.af.ce[i]!).2.2) (bS k.jp.ii.am (k.jp.af.ce[i]!).2.1) k.jp.ci then 0 else 8) (fun i hi=>by
  unfold mU;simp only [aM (show (i:Int)<((aex k.jp.ii.am):Int) by omega),pi,az k.jp.ii.am i hi,ax,GZ k.bv _ (by omega),ba (show i<1000000000 by omega)]
  by_cases h1:(k.jp.ii.am[i]!).1∈k.bv
  · rw [aM h1];exact ⟨fun h=>absurd h1 h,fun _=>rfl⟩
  · rw [aJ h1];exact ⟨fun _=>rfl,fun h=>absurd h h1⟩) (by
  unfold mU;simp only [aB,aJ (show¬((aex k.jp.ii.am):Int)<((aex k.jp.ii.am):Int) by omega),pp,Ag k.bv hl,ax]
  by_cases h1:(cC k.bv).length=aex k.jp.af.ce
  · rw [bz (by omega),pp]
    refine (show _=_ from wK).trans ?_
    by_cases h2: ∀i,i<aex k.jp.af.ce->(k.jp.af.ce[i]!).2∈cC k.bv/\leads (bS k.jp.ii.am (k.jp.af.ce[i]!).2.2) (bS k.jp.ii.am (k.jp.af.ce[i]!).2.1) k.jp.ci
    · rw [rc h2,rc ⟨h1,h2⟩]
    rw [ut h2,ut (fun h=>h2 h.2)]
  rw [dK (by omega),pi,ut (fun h=>h1 h.1)])
 refine (show _=_ from outer).trans ?_
 by_cases h1: ∀i,i<aex k.jp.ii.am->(k.jp.ii.am[i]!).1∈k.bv
 · rw [rc h1]
   congr 1
   exact G0 (q:=Q' k) ⟨fun h=>⟨h1,h.1,h.2⟩,fun h=>⟨h.2.1,h.2.2⟩⟩
 rw [ut h1,ut (fun h:Q' k=>h1 h.1)]
theorem XQ {c:aG} (ok:aU c) (es:List (Int×Int)) (kn: ∀x∈es,iY c.ii.am x):
 uv c es=aey (aeB (aex c.af.ce=aex es/\ ∀i,i<aex es->lD c.af.ce es[i]!/\leads (bS c.ii.am (es[i]!).2) (bS c.ii.am (es[i]!).1) c.ci)):=by
 have bd:=ok.bd;unfold uv;simp only [aB]
 by_cases h0:(aex c.af.ce)=aex es
 case neg=>rw [dK (by omega),pi,aJ (fun h=>h0 h.1)]
 rw [bz (by omega),pp];have key:=yY (body:=ot) (fun i=>(es,(i:Int),c.ci.1,c.ci.2,c.ii.am,c.af.ay,c.af.ce,c.aa.ae.au,c.aa.ae.be,c.aa.ae.bi,c.aa.bv,c.aa.aj,c.io)) (aex es)
  (fun i=>lD c.af.ce es[i]!/\leads (bS c.ii.am (es[i]!).2) (bS c.ii.am (es[i]!).1) c.ci) (r:=aeA) (e:=aez) (fun i hi=>by
  have Jb:aX.mk c.af.ay c.af.ce=c.af:=rfl;unfold ot;simp only [aB,aM (show (i:Int)<((aex es):Int) by omega),pi,az es i hi,ax,Jb,uN c.af es[i]! (by omega),XP ok.jT (t:=(c.ci.1,c.ci.2)) ok.iV (kn _ (bj hi)),ba (show i<1000000000 by omega)]
  by_cases h1:lD c.af.ce es[i]!
  · rw [aM h1]
    by_cases h2:leads (bS c.ii.am (es[i]!).2) (bS c.ii.am (es[i]!).1) c.ci
    · rw [show aeB (leads (bS c.ii.am (es[i]!).2) (bS c.ii.am (es[i]!).1) (c.ci.1,c.ci.2))=aez from aM h2]
      exact ⟨fun h=>absurd ⟨h1,h2⟩ h,fun _=>rfl⟩
    rw [show aeB (leads (bS c.ii.am (es[i]!).2) (bS c.ii.am (es[i]!).1) (c.ci.1,c.ci.2))=aeA from aJ h2]
    exact ⟨fun _=>rfl,fun h=>absurd h.2 h2⟩
  · rw [aJ h1]
    exact ⟨fun _=>rfl,fun h=>absurd h.1 h1⟩) (by
  unfold ot;simp only [aB,aJ (show¬((aex es):Int)<((aex es):Int) by omega),pp])
 refine (show _=_ from key).trans ?_
 by_cases h2: ∀i,i<aex es->lD c.af.ce es[i]!/\leads (bS c.ii.am (es[i]!).2) (bS c.ii.am (es[i]!).1) c.ci
 · rw [rc h2,aM ⟨h0,h2⟩]
 rw [ut h2,aJ (fun h=>h2 h.2)]
theorem XS {σ ρ:Type} {body:σ->Option (Step σ ρ)} (st:Nat->σ) (n:Nat) (P:Nat->Prop) {r:ρ} (h: ∀i,i<n->(¬P i->body (st i)=aey (.done r))/\(P i->body (st i)=aey (.next (st (i+1)))))
 (hx: ¬ ∀i,i<n->P i):aE body (st 0)=aey r:=by
 obtain ⟨i,hi⟩:=aeo.1 hx;obtain ⟨hi,hx⟩:=aeq.1 hi;obtain ⟨m,m1,m2,m3⟩:=least (c:=fun i=> ¬P i) ⟨i,hi,hx⟩;rw [eC st m fun j hj=>(h j (by omega)).2 (EQ.1 (m3 j hj))];exact aI ((h m m1).1 m2)
def ckS (k:bJ) (i:Nat):=((i:Int),k.jp.ci.1,k.jp.ci.2,k.jp.ii.am,k.jp.af.ay,k.jp.af.ce,k.jp.aa.ae.au,k.jp.aa.ae.be,k.jp.aa.ae.bi,k.jp.aa.bv,k.jp.aa.aj,k.jp.io,k.bv)
theorem En {k:bJ} (fit:tq k.jp) (hl:(aex k.bv)<=1000):cJ k=aey (if jv k then 0 else 8):=by
 unfold cJ;rw [Ej fit,ax]
 by_cases ok:aU k.jp
 case neg=>rw [ut ok,ut (fun h=>ok h.BQ)];rfl
 rw [rc ok,bz rfl,pp]
 by_cases hh:(aex k.bv)=aex k.jp.ii.am
 case neg=>rw [dK (by rw [aB,aB];omega),pi,ut (fun h=>hh ?_)];rw [<- h.perm.length_eq];exact If ..
 rw [bz (by rw [aB,aB];omega),pp,<- G0 (ahG ok hh)];have bd:=ok.bd;have step: ∀i,i<aex k.bv->(¬(pB k.jp.ii.am k.bv[i]!/\ ∀j,j<i->k.bv[j]!≠k.bv[i]!)->gB (ckS k i)=aey (.done 8))/\((pB k.jp.ii.am k.bv[i]!/\ ∀j,j<i->k.bv[j]!≠k.bv[i]!)->gB (ckS k i)=aey (.next (ckS k (i+1)))):=by
  intro i hi;unfold ckS;unfold gB;simp only [aB,aM (show (i:Int)<((aex k.bv):Int) by omega),pi,az k.bv i hi,ax]
  by_cases h1:pB k.jp.ii.am k.bv[i]!
  case neg=>rw [K7 ok.jT h1];exact ⟨fun _=>rfl,fun h=>absurd h.1 h1⟩
  obtain ⟨m,m1,m2,m3⟩:=yW ok.jT h1;rw [m2];simp only [ax,aJ (show¬(m:Int)<0 by omega),pp];have wK:=yY (body:=mN) (fun j=>((i:Int),(j:Int),k.jp.ci.1,k.jp.ci.2,k.jp.ii.am,k.jp.af.ay,k.jp.af.ce,k.jp.aa.ae.au,k.jp.aa.ae.be,k.jp.aa.ae.bi,k.jp.aa.bv,k.jp.aa.aj,k.jp.io,k.bv)) i
   (fun j=>k.bv[j]!≠k.bv[i]!) (r:= .done 8) (e:= .next (((i+1:Nat):Int),k.jp.ci.1,k.jp.ci.2,k.jp.ii.am,k.jp.af.ay,k.jp.af.ce,k.jp.aa.ae.au,k.jp.aa.ae.be,k.jp.aa.ae.bi,k.jp.aa.bv,k.jp.aa.aj,k.jp.io,k.bv)) (fun j hj=>by
   unfold mN;simp only [aM (show (j:Int)<(i:Int) by omega),pi,az k.bv j (by omega),az k.bv i hi,ax,ba (show j<1000000000 by omega)]
   by_cases h:k.bv[j]! =k.bv[i]!
   · rw [fb h];exact ⟨fun _=>rfl,fun k=>absurd h k⟩
   · rw [eY h];exact ⟨fun k=>absurd h k,fun _=>rfl⟩) (by
   unfold mN;simp only [aJ (show¬(i:Int)<(i:Int) by omega),pp,ba (show i<1000000000 by omega)])
  have G1:=(show _=_ from wK)
  by_cases h2: ∀j,j<i->k.bv[j]!≠k.bv[i]!
  · rw [rc h2] at G1
    exact ⟨fun h=>absurd ⟨h1,h2⟩ h,fun _=>G1⟩
  rw [ut h2] at G1
  exact ⟨fun _=>G1,fun h=>absurd h.2 h2⟩
 by_cases hP: ∀i,i<aex k.bv->pB k.jp.ii.am k.bv[i]!/\ ∀j,j<i->k.bv[j]!≠k.bv[i]!
 · have jus:=XQ ok (cC k.bv) (fun x hx=>by
    obtain ⟨h1,h2⟩:=Bk hx;obtain ⟨i,hi,e1⟩:=aS.1 h1;obtain ⟨j,hj,e2⟩:=aS.1 h2;exact ⟨e1▸(hP i hi).1,e2▸(hP j hj).1⟩)
   have o:=yY (body:=gB) (ckS k) (aex k.bv) _ (r:=8) (e:=if Jh k then 0 else 8) step (by
    have lE:(aG.mk (k.jp.ci.1,k.jp.ci.2) (Field.mk k.jp.ii.am) (aX.mk k.jp.af.ay k.jp.af.ce) (aF.mk (aQ.mk k.jp.aa.ae.au k.jp.aa.ae.be k.jp.aa.ae.bi) k.jp.aa.bv k.jp.aa.aj) k.jp.io)=k.jp:=rfl;unfold gB ckS;simp only [aB,aJ (show¬((aex k.bv):Int)<((aex k.bv):Int) by omega),pp,ahE k.bv hl,ax,lE,jus]
    by_cases h2:(aex k.jp.af.ce)=(cC k.bv).length/\ ∀i,i<(cC k.bv).length->lD k.jp.af.ce (cC k.bv)[i]!/\leads (bS k.jp.ii.am ((cC k.bv)[i]!).2) (bS k.jp.ii.am ((cC k.bv)[i]!).1) k.jp.ci
    · rw [aM h2,rc (show Jh k from ⟨hP,h2.1,h2.2⟩)];rfl
    rw [aJ h2,ut (fun h:Jh k=>h2 ⟨h.2.1,h.2.2⟩)];rfl)
   refine (show _=_ from o).trans ?_;rw [rc hP]
 rw [ut (fun h:Jh k=>hP h.1)]
 exact XS (body:=gB) (ckS k) (aex k.bv) _ (r:=8) step hP
end Go.Proofs.YtclphlgnjkajbaaGreat
