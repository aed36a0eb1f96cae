/- Plain laws (3). -/
import Derived.Test.YthljmpcakagceaaGreatHQM2
import Derived.Test.YthljmpcakagceaaGreatHQTB
open Bool renaming not_true->v6,not_false->Do,and_self->aap,true->ab5,false->aba
open List renaming length_append->ww,mem_cons_of_mem->EQ,length_drop->If,length_cons->NE,mem_append->PP,mem_cons_self->UV,length_singleton->aa6,length_nil->aai,mem_map->aaj,drop_zero->aak,drop_length->aar,length_set->aat,nodup_cons->aau,length_map->aaE,mem_cons->aaV,length->ab0
open Classical renaming byContradiction->AC,not_not->M2
open Int renaming mul_right_comm->IR,mul_le_mul_of_nonneg_right->aa9,le_of_mul_le_mul_right->aal,le_refl->aam,mul_assoc->aaq,le_trans->aas,mul_comm->aay,natAbs_mul->aaS
open Nat renaming lt_trichotomy->aa2,le_refl->aav,dvd_mul_left->aaA,not_lt_zero->aaF
open Prod renaming ext->aaw,fst->aaX
open Option renaming some->ab1
open Decidable renaming decide->abe
namespace Go.Proofs.YthljmpcakagceaaGreat
open Go.Vm Classical
theorem KQ (c:aI) (n:Int) (hl:(ab0 c.io)<=1000000):(∀k,k<ab0 c.io->(c.io[k]!).1=n->(∀j,j<k->(c.io[j]!).1≠n)->qg c n=ab1 (k:Int))/\((∀k,k<ab0 c.io->(c.io[k]!).1≠n)->qg c n=ab1 (-1)):=by
 unfold qg;refine jS (body:=og) (fun i=>(n,(i:Int),c.ci.1,c.ci.2,c.ii.am,c.af.aL,c.af.ce,c.aa.ae.ar,c.aa.ae.be,c.aa.ae.bi,c.aa.bv,c.aa.aj,c.io)) (ab0 c.io) (fun i=>(c.io[i]!).1=n) (fun i=>(i:Int)) (fun i hi=>?_) ?_
 · have e1:abe ((i:Int)<((ab0 c.io):Int))=ab5:=aH (by omega)
   unfold og;simp only [ay,e1,lw,aq c.io i hi,ao,aV (show i<1000000000 by omega)];constructor
   · intro h;rw [ed h];rfl
   intro h;rw [eD h];rfl
 unfold og
 have:abe (((ab0 c.io):Int)<((ab0 c.io):Int))=aba:=aD (by omega);simp only [ay,this,pp]
theorem Ht {ds:List qi} (hu:Up ds) (hl:(ab0 ds)<=1000000) (n:Int):(∀k,k<ab0 ds->(ds[k]!).1=n->lx ds n=ab1 ((k:Int),ab5))/\((∀k,k<ab0 ds->(ds[k]!).1≠n)-> ∃m:Nat,lx ds n=ab1 ((m:Int),aba)):=by
 have bs:=DV ds n hl (ri.1 hu);unfold lx;rw [agC];constructor
 · intro k hk he;rw [bs.1 k hk he];rfl
 intro h
 obtain ⟨m,_,_,_,e⟩:=bs.2 h;exact ⟨m,by rw [e];rfl⟩
theorem aS.bd {c:aI} (ok:aS c):(ab0 c.io)<=200/\ab0 c.ii.am<=64/\ab0 c.af.ce<=200:=by have:=ok.hd;have:=ok.jU.bd;have:=ok.iD.1;have:=ok.rE.len;omega
theorem jh {c:aI} (ok:aS c):oV c=ab1 c:=by have bd:=ok.bd;unfold oV v7 v8;simp only [bj (show (ab0 c.ii.am)<=1048576 by omega),bj (show (ab0 c.af.ce)<=1048576 by omega),bj (show (ab0 c.io)<=1048576 by omega),ao,pI ok.jU]
theorem fT {c:aI} (ok:aS c):gD c=ab1 c:=by
 have bd:=ok.bd;have ab:=ok.jU.bd;have hl:=ok.jU.so.fl;have hn:=ok.jU.so.n2;have hu:=ok.jU.so.ul;unfold gD;simp only [bj (show (ab0 c.ii.am)<=1048576 by omega),bj (show (ab0 c.af.ce)<=1048576 by omega),bj (show (ab0 c.io)<=1048576 by omega),bj (show (ab0 c.aa.bv)<=1048576 by omega),bj (show (ab0 c.aa.aj)<=1048576 by omega),
  bj (show (ab0 c.aa.ae.ar)<=1048576 by omega),bj (show (ab0 c.aa.ae.be)<=1048576 by omega),bj (show (ab0 c.aa.ae.bi)<=1048576 by omega),ao]
theorem rj {cs:List qi} {i:Nat} (hu:Up cs) (hi:i<ab0 cs) {x:qi} (hx:x∈cs.eraseIdx i):x∈cs/\x.1≠(cs[i]!).1:=by
 rw [sj,PP] at hx;have ub:=ri.1 hu;rcases hx with hx|hx
 · obtain ⟨j,h1,h2,rfl⟩:=ck.1 hx
   have:=ub j i h1 hi;exact ⟨aN h2,by omega⟩
 obtain ⟨j,hj,rfl⟩:=aP.1 hx
 rw [If] at hj;rw [rC];have:=ub i (i+1+j) (by omega) (by omega);exact ⟨aN (by omega),by omega⟩
theorem yj {c:aI} (ok:aS c) (i:Nat) (hi:i<ab0 c.af.ce): ∀j,j<(lT c.af i).ce.length->iy c.ii.am ((lT c.af i).ce[j]!).2:=by intro j hj;have hm:(lT c.af i).ce[j]!∈c.af.ce:=(rj ok.sx hi (aN hj)).1;obtain ⟨m,hm1,QP⟩:=aP.1 hm;rw [<- QP];exact ok.known m hm1
theorem To {c:aI} (ok:aS c) {i:Nat} (hi:i<ab0 c.af.ce):
 ∃c':aI,fM c (c.af.ce[i]!).1=ab1 (c',(c.af.ce[i]!).2,0)/\oW c (c.af.ce[i]!).1=ab1 c'/\aS c'/\c'.ii=c.ii/\c'.ci=c.ci/\c'.af=lT c.af i:=by
 have bd:=ok.bd;have rm:=FY ok.rE hi (n:=(c.af.ce[i]!).1) rfl;have wo:=CE ok.rE hi (n:=(c.af.ce[i]!).1) rfl;have fe:=ok.y8.erase (i:=i) hi;have pd:=Ht ok.F0 (by omega) (c.af.ce[i]!).1;have da:=KQ c (c.af.ce[i]!).1 (by omega);cases hf:(bk c.ii.am (c.af.ce[i]!).2 c.ci).2 with
 |false=>
  have no: ∀k,k<ab0 c.io->(c.io[k]!).1≠(c.af.ce[i]!).1:=by
   intro k hk he;obtain ⟨x,hx,h1,h2,_⟩:=ok.y8.io _ (aN hk);obtain ⟨j,hj,rfl⟩:=aP.1 hx;have ub:=ri.1 ok.sx;have:j=i:=by
    rcases aa2 j i with h|h|h
    · have:=ub j i h hi;omega
    · exact h
    have:=ub i j h hj;omega
   rw [this,hf] at h2;cases h2
  refine ⟨⟨c.ci,c.ii,lT c.af i,c.aa,c.io⟩,?_,?_,?_,rfl,rfl,rfl⟩
  · unfold fM
    obtain ⟨m,e⟩:=pd.2 no;simp only [rm,ao,show ((0:Int) !=0)=aba from rfl,pp,fT ok,e]
  · unfold oW
    simp only [jh ok,ao,wo,da.2 no,aD (show¬(0:Int)<= -1 by omega),pp]
  exact ⟨ok.iL,ok.iz,ok.iD,FX ok.rE hi,ok.jU,ok.Dz,ok.hd,yj ok i hi,fe.1 hf⟩
 |true=>
  obtain ⟨k,hk,k1,k2,k3⟩:=fe.2 hf;obtain ⟨w,hw,gI⟩:=aP.1 k2;have hh:(c.aa.bv[w]!).2.2.2=(c.io[k]!).2:=by rw [gI]
  have ub:=ri.1 ok.F0;have before: ∀j,j<k->(c.io[j]!).1≠(c.af.ce[i]!).1:=fun j hj he=>by have:=ub j k hj hk;omega
  have dl:(c.io.eraseIdx k).length=ab0 c.io-1:=Om hk;obtain ⟨L,d1,d2⟩:=Da c.io k hk;refine ⟨⟨c.ci,c.ii,lT c.af i,dO c.aa w,c.io.eraseIdx k⟩,?_,?_,?_,rfl,rfl,rfl⟩
  · unfold fM
    simp only [rm,ao,show ((0:Int) !=0)=aba from rfl,pp,fT ok,pd.1 k hk k1,lw,aq c.io k hk,uU ok.jU hw ok.jU.fit hh,aV (show k<1000000000 by omega),MK,d1,d2]
  · unfold oW
    have s1:gO c.io 0 (k:Int)=ab1 (c.io.take k):=kF c.io k (by omega);have s2:gO c.io ((k+1:Nat):Int) ((ab0 c.io):Int)=ab1 (c.io.drop (k+1)):=by unfold gO;rw [rc ⟨by omega,by omega,by omega⟩];simp only [Int.toNat_natCast];rw [List.take_of_length_le (by rw [If];exact aav _)]
    have tl:(c.io.take k).length=k:=by rw [List.length_take];omega
    have dl2:(c.io.drop (k+1)).length=ab0 c.io- (k+1):=If;simp only [jh ok,ao,wo,da.1 k hk k1 before,aH (show (0:Int)<=(k:Int) by omega),lw,aq c.io k hk,uV ok.jU hw hh,s1,bj (show (c.io.take k).length<=1048576 by omega),aV (show k<1000000000 by omega),ay,s2,
     cM (show (c.io.take k).length+(c.io.drop (k+1)).length<=1048576 by omega),sj]
    cases hem:(c.io.drop (k+1)).isEmpty with
    |true=>rw [List.isEmpty_iff] at hem;rw [hem,List.append_nil];rfl
    |false=>rfl
  have rem:=CB ok.jU hw
  have P8:=FT ok.jU hw;have bY:(dO c.aa w).bv.length=ab0 c.aa.bv-1:=by
   have h1:=rem.hl;have h2:=ok.jU.hl;have h3:(dO c.aa w).ae=fc c.aa.ae (c.aa.bv[w]!).2.2.2:=by unfold dO;split<;>rfl
   rw [h3] at h1;change _+(c.aa.ae.bi++[_]).length=(ab0 c.aa.ae.ar) at h1;rw [ww] at h1;simp only [NE,aai] at h1;omega
  have agE:(dO c.aa w).aj.length=200:=by
   have h1:=rem.wl;have h3:(dO c.aa w).ae=fc c.aa.ae (c.aa.bv[w]!).2.2.2:=by unfold dO;split<;>rfl
   rw [h3] at h1;change _=(ab0 c.aa.ae.ar) at h1;rw [h1,<- ok.jU.wl,ok.Dz]
  refine ⟨ok.iL,ok.iz,ok.iD,FX ok.rE hi,rem,agE,?_,yj ok i hi,?_⟩
  · show (dO c.aa w).bv.length=(c.io.eraseIdx k).length
    rw [bY,dl,ok.hd]
  refine k3.mono fun x hx e he hm=>(P8 e).2 ⟨hm,fun h=>?_⟩
  have:=(rj ok.sx hi hx).2;rw [h,gI] at he;exact this he.symm
theorem DA {c:aI} (ok:aS c) {i:Nat} (_hi:i<ab0 c.af.ce) {c':aI} (h:fM c (c.af.ce[i]!).1=ab1 (c',(c.af.ce[i]!).2,0)):qX c (c.af.ce[i]!).1=ab1 (c',0):=by unfold qX;rw [jK ok.fit,rc ok];simp only [ao,show ((0:Int) !=0)=aba from rfl,pp,h]
abbrev dD:aI:=⟨(0,0),⟨[]⟩,⟨0,[]⟩,⟨⟨[],[],[]⟩,[],[]⟩,[]⟩
theorem IL {l:List Pt} (ok:bF l) {id:Int} (h:sq l id): ¬(cd l id).1<0:=by obtain ⟨h1,_⟩:=fu ok h;have:=h1.1;omega
theorem ZN {c:aI} (ok:aS c) {x:Int×Int} (hx:eW x) (hb:iy c.ii.am x) (hn: ¬rh c.af.ce x):
 (gU c x=ab1 (dD,0,18)/\lA c x=ab1 (dD,0,18)/\(zz c.af\/ ¬uP c.aa.ae))\/
 ∃c':aI,gU c x=ab1 (c',c.af.aL,0)/\lA c x=ab1 (c',c.af.aL,0)/\aS c'/\c'.ii=c.ii/\c'.ci=c.ci/\c'.af=mH c.af x/\(c'.aa.ae=c.aa.ae\/c'.aa.ae=fO c.aa.ae):=by
 have bd:=ok.bd;have n0:=ok.rE.n0;have n1:=ok.rE.n1;have fit:=ok.fit;have ad:=KL ok.rE hx;have rd:=IJ ok.rE hx;rw [ut hn] at ad rd;have hc:fF c=ab1 0:=by rw [jK fit,rc ok]
 have p1:=lG ok.iD x.1;have p2:=lG ok.iD x.2;have q1:=IL ok.iD hb.1;have q2:=IL ok.iD hb.2;have wh:=ua ok.iD hx ok.iL ok.iz;rw [rc hb] at wh;have rw':=ud ok.iD ok.iz hb
 by_cases hf:zz c.af
 · rw [rc hf] at ad rd
   left;refine ⟨?_,?_,.inl hf⟩
   · unfold gU cV
     simp only [hc,ao,show ((0:Int) !=0)=aba from rfl,pp,ad,show ((18:Int)==8)=aba from rfl,p1,p2,aD q1,aD q2,show ((18:Int) !=0)=ab5 from rfl,lw]
   unfold lA
   simp only [rd,ao,show ((18:Int) !=0)=ab5 from rfl,lw]
 rw [ut hf] at ad rd;have cok:=MM ok.rE hx hn hf;have Tp: ∀j,j<(mH c.af x).ce.length->iy c.ii.am ((mH c.af x).ce[j]!).2:=by
  intro j hj;rw [yV] at hj;rw [sm]
  by_cases h:j<ab0 c.af.ce
  · rw [rc h];exact ok.known j h
  rw [ut h,rc (by omega)];exact hb
 have fresh: ∀e∈c.aa.bv,Ev.num e≠c.af.aL:=by intro e he dE;obtain ⟨d,hd,h1⟩:=ok.yf e he;obtain ⟨y,hy,h2,_⟩:=ok.y8.io d hd;obtain ⟨j,hj,rfl⟩:=aP.1 hy;have:=(ok.rE.nr j hj).2;omega
 have sn:=ok.y8.snoc (x:=(c.af.aL,x));cases hw:(bk c.ii.am x c.ci).2 with
 |false=>
  right;refine ⟨⟨c.ci,c.ii,mH c.af x,c.aa,c.io⟩,?_,?_,⟨ok.iL,ok.iz,ok.iD,cok,ok.jU,ok.Dz,ok.hd,Tp,sn.1 hw⟩,rfl,rfl,rfl,.inl rfl⟩
  · unfold gU cV
    simp only [hc,ao,show ((0:Int) !=0)=aba from rfl,pp,ad,show ((0:Int)==8)=aba from rfl,p1,p2,aD q1,aD q2,fT ok,wh,hw]
  unfold lA
  simp only [rd,ao,show ((0:Int) !=0)=aba from rfl,pp,jh ok,rw',hw,Do,lw]
 |true=>
  obtain ⟨t1,t2⟩:=Bn (fu ok.iD hb.2).1 (fu ok.iD hb.1).1 ok.iz ok.iL hw
  by_cases op:uP c.aa.ae
  · right
    have pu:=uR ok.jU op ok.jU.fit (t:=(bk c.ii.am x c.ci).1) (n:=c.af.aL) t1 t2 n0 n1 fresh;have rp:=wS ok.jU op (t:=(bk c.ii.am x c.ci).1) (n:=c.af.aL) t1 t2 n0 n1;have pok:=Oj ok.jU op (t:=(bk c.ii.am x c.ci).1) (n:=c.af.aL) t1 t2 n0 n1 fresh;have P9:=KG ok.jU op (t:=(bk c.ii.am x c.ci).1) (n:=c.af.aL) t1;have agG:=Bs ok.jU op (t:=(bk c.ii.am x c.ci).1) (n:=c.af.aL) t1;have ap: ∀h:Int×Int,bm c.io [(c.af.aL,h)]=ab1 (c.io++[(c.af.aL,h)]):=fun h=>cM (by simp;omega)
    have agE:(j7 c.aa (bk c.ii.am x c.ci).1 c.af.aL).aj.length=200:=by have:=pok.wl;change _=(c.aa.ae.ar.set _ _).length at this;rw [aat] at this;rw [this,<- ok.jU.wl,ok.Dz]
    refine ⟨⟨c.ci,c.ii,mH c.af x,j7 c.aa (bk c.ii.am x c.ci).1 c.af.aL,c.io++[(c.af.aL,j0 c.aa.ae)]⟩,?_,?_,⟨ok.iL,ok.iz,ok.iD,cok,pok,agE,?_,Tp,?_⟩,rfl,rfl,rfl,.inr rfl⟩
    · unfold gU cV
      simp only [hc,ao,show ((0:Int) !=0)=aba from rfl,pp,ad,show ((0:Int)==8)=aba from rfl,p1,p2,aD q1,aD q2,fT ok,wh,hw,lw,pu,ap]
    · unfold lA
      simp only [rd,ao,show ((0:Int) !=0)=aba from rfl,pp,jh ok,rw',hw,v6,pH ok.jU.so,aH op,rp,ap]
    · show (j7 c.aa (bk c.ii.am x c.ci).1 c.af.aL).bv.length=(c.io++[_]).length
      rw [agG,ww,ok.hd];rfl
    have fm:aT c.ii.am c.ci (j7 c.aa (bk c.ii.am x c.ci).1 c.af.aL).bv c.af.ce c.io:=ok.y8.mono fun y hy e he hm=>(P9 e).2 (.inr hm)
    exact (fm.snoc (x:=(c.af.aL,x))).2 _ hw rfl ((P9 _).2 (.inl rfl))
  left
  have pu:=uS ok.jU op ok.jU.fit (t:=(bk c.ii.am x c.ci).1) (n:=c.af.aL) t1 t2 n0 n1 fresh;refine ⟨?_,?_,.inr op⟩
  · unfold gU cV
    simp only [hc,ao,show ((0:Int) !=0)=aba from rfl,pp,ad,show ((0:Int)==8)=aba from rfl,p1,p2,aD q1,aD q2,fT ok,wh,hw,lw,pu,show ((18:Int) !=0)=ab5 from rfl]
  unfold lA
  simp only [rd,ao,show ((0:Int) !=0)=aba from rfl,pp,jh ok,rw',hw,v6,pH ok.jU.so,aD op,Do,lw]
theorem Up.inj {cs:List qi} (h:Up cs) {x y:qi} (hx:x∈cs) (hy:y∈cs) (he:x.1=y.1):x=y:=by
 obtain ⟨i,hi,rfl⟩:=aP.1 hx;obtain ⟨j,hj,rfl⟩:=aP.1 hy;have ub:=ri.1 h;rcases aa2 i j with h1|h1|h1
 · have:=ub i j h1 hj;omega
 · rw [h1]
 have:=ub j i h1 hi;omega
structure F1 (c:aI) (f:List Pt) (i k:Nat) (a:aJ) (ds:List qi):Prop where
 ok:dW a
 w2:(ab0 a.aj)=200
 new:aT f c.ci a.bv (c.af.ce.take i) ds
 old:aT c.ii.am c.ci a.bv (c.af.ce.drop i) (c.io.drop k)
 kl:k<=ab0 c.io
 cnt:(ab0 a.bv)=ab0 ds+(ab0 c.io-k)
theorem agH {a:aJ} (ok:dW a) {w:Nat} (hw:w<ab0 a.bv):(dO a w).bv.length=ab0 a.bv-1/\(dO a w).aj.length=(ab0 a.aj):=by
 have rem:=CB ok hw;have h3:(dO a w).ae=fc a.ae (a.bv[w]!).2.2.2:=by unfold dO;split<;>rfl
 have h1:=rem.hl;have h2:=ok.hl;have h4:=rem.wl;rw [h3] at h1 h4;change _+(a.ae.bi++[_]).length=(ab0 a.ae.ar) at h1;change _=(ab0 a.ae.ar) at h4;rw [ww] at h1;simp only [NE,aai] at h1;exact ⟨by omega,by rw [h4,ok.wl]⟩
theorem ZO {a:aJ} {t:Int×Int} {n:Int} (ok:dW a) (pok:dW (j7 a t n)):(j7 a t n).aj.length=(ab0 a.aj):=by have:=pok.wl;change _=(a.ae.ar.set _ _).length at this;rw [aat] at this;rw [this,ok.wl]
section
variable {c : aI} (ok : aS c) {f : List Pt} (iI : bF f) (kn : ∀ i, i < (ab0 c.af.ce) -> iy f (c.af.ce[i]!).2)
include ok
theorem Bu {i:Nat} {x:qi} (hx:x∈c.af.ce.take i) (hi:i<ab0 c.af.ce):x.1≠(c.af.ce[i]!).1:=by obtain ⟨j,h1,h2,rfl⟩:=ck.1 hx;have:=ok.rE.up j i h1 hi;omega
theorem Bv {i:Nat} {x:qi} (hx:x∈c.af.ce.drop (i+1)) (hi:i<ab0 c.af.ce):x.1≠(c.af.ce[i]!).1:=by obtain ⟨j,h1,rfl⟩:=aP.1 hx;rw [If] at h1;rw [rC];have:=ok.rE.up i (i+1+j) (by omega) (by omega);omega
theorem P' {i k:Nat} {a:aJ} {ds:List qi} (inv:F1 c f i k a ds) (hi:i<ab0 c.af.ce) (was:(bk c.ii.am (c.af.ce[i]!).2 c.ci).2=aba): ∀e∈a.bv,Ev.num e≠(c.af.ce[i]!).1:=by
 have u1:Up (c.af.ce.take i):=ok.sx.sublist (List.take_sublist _ _);have u2:Up (c.af.ce.drop i):=ok.sx.sublist (List.drop_sublist _ _);have d1:=inv.new.up u1;have d2:=inv.old.up u2;have ake: ∀x∈ds,∀y∈c.io.drop k,x.1<y.1:=by intro x hx y hy;obtain ⟨p,hp,h1,_⟩:=inv.new.io x hx;obtain ⟨q,hq,h2,_⟩:=inv.old.io y hy;obtain ⟨m,m1,m2,rfl⟩:=ck.1 hp;obtain ⟨n,n1,rfl⟩:=aP.1 hq;rw [If] at n1;rw [rC] at h2;have:=ok.rE.up m (i+n) (by omega) (by omega);omega
 have nd:((ds++c.io.drop k).map fun x=>x.1).Nodup:=KP (by show List.Pairwise _ _;rw [List.pairwise_append];exact ⟨d1,d2,ake⟩);have only:=Db (H:=a.bv) nd (by rw [aaE,ww,If,inv.cnt];exact aav _) (fun n hn=>by
  obtain ⟨x,hx,rfl⟩:=aaj.1 hn;rcases PP.1 hx with hx|hx
  · obtain ⟨p,hp,h1,h2,h3⟩:=inv.new.io x hx
    exact ⟨_,h3,h1.symm⟩
  obtain ⟨p,hp,h1,h2,h3⟩:=inv.old.io x hx
  exact ⟨_,h3,h1.symm⟩)
 intro e he dE;obtain ⟨x,hx,h1⟩:=aaj.1 (only e he);rcases PP.1 hx with hx|hx
 · obtain ⟨p,hp,h2,_⟩:=inv.new.io x hx
   exact Bu ok hp hi (by rw [<- h2,h1,dE])
 obtain ⟨p,hp,h2,h3,_⟩:=inv.old.io x hx
 have hp':p∈c.af.ce:=List.mem_of_mem_drop hp;have:=ok.sx.inj hp' (aN hi) (by rw [<- h2,h1,dE]);rw [this,was] at h3;cases h3
def Qa (c:aI) (f:List Pt) (i:Nat) (a:aJ) (ds:List qi):=
 (c.af.ce,((ab0 c.af.ce):Int),(i:Int),c.ci.1,c.ci.2,c.ii.am,c.af.aL,c.af.ce,c.aa.ae.ar,c.aa.ae.be,c.aa.ae.bi,c.aa.bv,c.aa.aj,c.io,f,(0:Int),(0:Int),(0:Int),c.ci.1,c.ci.2,c.af.aL,c.af.ce,a.ae.ar,a.ae.be,a.ae.bi,a.bv,a.aj,f,ds)
def Qb (c:aI) (f:List Pt) (i:Nat) (a:aJ) (ds:List qi):=
 ((i:Int),c.ci.1,c.ci.2,c.ii.am,c.af.aL,c.af.ce,c.aa.ae.ar,c.aa.ae.be,c.aa.ae.bi,c.aa.bv,c.aa.aj,c.io,f,(0:Int),(0:Int),(0:Int),c.ci.1,c.ci.2,f,c.af.aL,c.af.ce,a.ae.ar,a.ae.be,a.ae.bi,a.bv,a.aj,ds)
include iI kn
theorem Tq {i k:Nat} {a:aJ} {ds:List qi} (inv:F1 c f i k a ds) (hi:i<ab0 c.af.ce) (Ud:(ab0 ds)<=i):
 (cX (Qa c f i a ds)=ab1 (.done (.done (dD,18)))/\cp (Qb c f i a ds)=ab1 (.done (dD,18)))\/
 ∃k' a' xF,cX (Qa c f i a ds)=ab1 (.next (Qa c f (i+1) a' xF))/\cp (Qb c f i a ds)=ab1 (.next (Qb c f (i+1) a' xF))/\F1 c f (i+1) k' a' xF/\ab0 xF<=i+1:=by
 have bd:=ok.bd;have e1:abe ((i:Int)<((ab0 c.af.ce):Int))=ab5:=aH (by omega);have sc:=aV (show i<1000000000 by omega);have cg:=aq c.af.ce i hi;have hb:=kn i hi;have wn:=ua iI (x:=(c.af.ce[i]!).2) (t:=(c.ci.1,c.ci.2)) (ok.rE.cv i hi) ok.iL ok.iz;rw [rc hb] at wn;have wr:=ud iI (x:=(c.af.ce[i]!).2) (t:=(c.ci.1,c.ci.2)) ok.iz hb;have pd:=Ht ok.F0 (by omega) (c.af.ce[i]!).1;have da:=KQ c (c.af.ce[i]!).1 (by omega);have dr:=rF hi;have tk:=iv hi;have old:=inv.old;rw [dr] at old;have KR:aJ.mk (aU.mk a.ae.ar a.ae.be a.ae.bi) a.bv a.aj=a:=rfl
 have sy:(aI.mk (c.ci.1,c.ci.2) (Field.mk c.ii.am) (bc.mk c.af.aL c.af.ce) (aJ.mk (aU.mk c.aa.ae.ar c.aa.ae.be c.aa.ae.bi) c.aa.bv c.aa.aj) c.io)=c:=rfl;have other: ∀x∈c.af.ce.take i,x.1≠(c.af.ce[i]!).1:=fun x hx=>Bu ok hx hi
 have Ts: ∀x∈c.af.ce.drop (i+1),x.1≠(c.af.ce[i]!).1:=fun x hx=>Bv ok hx hi
 cases ZP:(bk c.ii.am (c.af.ce[i]!).2 c.ci).2 with
 |true=>
  obtain ⟨d,xF,Uu,hd2,hd3,hd4⟩:=(aT.gY ZP).1 old;have hk:k<(ab0 c.io):=by
   refine AC fun h=>?_
   rw [List.drop_eq_nil_of_le (by omega)] at Uu;cases Uu
  have dk:=rF hk;rw [dk] at Uu;injection Uu with hd5 hd6;subst hd5 hd6;obtain ⟨w,hw,gI⟩:=aP.1 hd3;have hh:(a.bv[w]!).2.2.2=(c.io[k]!).2:=by rw [gI]
  have akf:Ev.num a.bv[w]! =(c.af.ce[i]!).1:=by rw [gI]
  have before: ∀j,j<k->(c.io[j]!).1≠(c.af.ce[i]!).1:=fun j hj he=>by have:=ri.1 ok.F0 j k hj hk;omega
  have pl:=pd.1 k hk hd2;have dq:=da.1 k hk hd2 before;have gk:=aq c.io k hk;have k0:abe ((0:Int)<=(k:Int))=ab5:=aH (by omega);have ap:bm ds [c.io[k]!]=ab1 (ds++[c.io[k]!]):=cM (by simp;omega);cases KS:(bk f (c.af.ce[i]!).2 c.ci).2 with
  |true=>
   right;have tt:aW (bk f (c.af.ce[i]!).2 c.ci).1/\iJ (bk f (c.af.ce[i]!).2 c.ci).1:=Bn (fu iI hb.2).1 (fu iI hb.1).1 ok.iz ok.iL KS;obtain ⟨t1,t2⟩:=tt;have re:=Dy inv.ok inv.ok.fit (t:=(bk f (c.af.ce[i]!).2 c.ci).1) hw hh t1 t2;have rr:=CA inv.ok (t:=(bk f (c.af.ce[i]!).2 c.ci).1) hw hh t1 t2;have rok:=Th inv.ok hw t1 t2;have P8:=P7 inv.ok hw t1;have Tt:=Cz inv.ok hw t1;have stay: ∀(cs:List qi),(∀x∈cs,x.1≠(c.af.ce[i]!).1)-> ∀x∈cs,∀e:Ev,e.num=x.1->e∈a.bv->e∈(jr a w (bk f (c.af.ce[i]!).2 c.ci).1).bv:=by
    intro cs qC x hx e he hm;refine (P8 e).2 (.inr ⟨hm,fun h=>qC x hx ?_⟩);rw [<- he,h,akf]
   refine ⟨k+1,jr a w (bk f (c.af.ce[i]!).2 c.ci).1,ds++[c.io[k]!],?_,?_,⟨rok,by rw [Tt.2];exact inv.w2,?_,?_,by omega,?_⟩,by simp;omega⟩
   · unfold cX Qa
     simp only [e1,lw,cg,ao,wn,pl,KS,gk,KR,re,ap,show ((0:Int) !=0)=aba from rfl,pp,sc]
   · unfold cp Qb
     simp only [ay,e1,lw,cg,ao,sy,dq,wr,KS,k0,gk,KR,rr,ap,v6,pp,sc]
   · rw [tk]
     exact ((inv.new.mono (stay _ other)).snoc (x:=c.af.ce[i]!)).2 _ KS hd2 ((P8 _).2 (.inl (by show _=((bk f (c.af.ce[i]!).2 c.ci).1.1,(bk f (c.af.ce[i]!).2 c.ci).1.2,(a.bv[w]!).2.2);rw [gI])))
   · exact hd4.mono (stay _ Ts)
   rw [Tt.1,inv.cnt,ww]
   simp only [NE,aai];omega
  |false=>
   right;have rv:=uU inv.ok hw inv.ok.fit hh;have rr:=uV inv.ok hw hh;have rok:=CB inv.ok hw;have P8:=FT inv.ok hw;have Tt:=agH inv.ok hw;have stay: ∀(cs:List qi),(∀x∈cs,x.1≠(c.af.ce[i]!).1)-> ∀x∈cs,∀e:Ev,e.num=x.1->e∈a.bv->e∈(dO a w).bv:=by intro cs qC x hx e he hm;refine (P8 e).2 ⟨hm,fun h=>qC x hx ?_⟩;rw [<- he,h,akf]
   refine ⟨k+1,dO a w,ds,?_,?_,⟨rok,by rw [Tt.2];exact inv.w2,?_,hd4.mono (stay _ Ts),by omega,?_⟩,by omega⟩
   · unfold cX Qa
     simp only [e1,lw,cg,ao,wn,pl,KS,gk,KR,rv,show ((0:Int) !=0)=aba from rfl,pp,sc]
   · unfold cp Qb
     simp only [ay,e1,lw,cg,ao,sy,dq,wr,KS,k0,gk,KR,rr,Do,pp,sc]
   · rw [tk]
     exact ((inv.new.mono (stay _ other)).snoc (x:=c.af.ce[i]!)).1 KS
   have:=inv.cnt
   rw [Tt.1];omega
 |false=>
  have y8:=(aT.fP ZP).1 old;have no: ∀j,j<ab0 c.io->(c.io[j]!).1≠(c.af.ce[i]!).1:=by intro j hj he;obtain ⟨x,hx,h1,h2,_⟩:=ok.y8.io _ (aN hj);have:=ok.sx.inj hx (aN hi) (by rw [<- h1,he]);rw [this,ZP] at h2;cases h2
  obtain ⟨m,pl⟩:=pd.2 no;have dq:=da.2 no;have k0:abe ((0:Int)<= -1)=aba:=aD (by omega);cases KS:(bk f (c.af.ce[i]!).2 c.ci).2 with
  |true=>
   have tt:aW (bk f (c.af.ce[i]!).2 c.ci).1/\iJ (bk f (c.af.ce[i]!).2 c.ci).1:=Bn (fu iI hb.2).1 (fu iI hb.1).1 ok.iz ok.iL KS;obtain ⟨t1,t2⟩:=tt;have n0:=(ok.rE.nr i hi).1;have n1:(c.af.ce[i]!).1<=1000000:=by have:=(ok.rE.nr i hi).2;have:=ok.rE.n1;omega
   have fresh:=P' ok inv hi ZP
   by_cases op:uP a.ae
   · right
     have pu:=uR inv.ok op inv.ok.fit (t:=(bk f (c.af.ce[i]!).2 c.ci).1) (n:=(c.af.ce[i]!).1) t1 t2 n0 n1 fresh;have rp:=wS inv.ok op (t:=(bk f (c.af.ce[i]!).2 c.ci).1) (n:=(c.af.ce[i]!).1) t1 t2 n0 n1;have pok:=Oj inv.ok op (t:=(bk f (c.af.ce[i]!).2 c.ci).1) (n:=(c.af.ce[i]!).1) t1 t2 n0 n1 fresh;have P9:=KG inv.ok op (t:=(bk f (c.af.ce[i]!).2 c.ci).1) (n:=(c.af.ce[i]!).1) t1;have agG:=Bs inv.ok op (t:=(bk f (c.af.ce[i]!).2 c.ci).1) (n:=(c.af.ce[i]!).1) t1;have ap: ∀h:Int×Int,bm ds [((c.af.ce[i]!).1,h)]=ab1 (ds++[((c.af.ce[i]!).1,h)]):=fun h=>cM (by simp;omega)
     have opn:=pH inv.ok.so;rw [aH op] at opn;refine ⟨k,j7 a (bk f (c.af.ce[i]!).2 c.ci).1 (c.af.ce[i]!).1,ds++[((c.af.ce[i]!).1,j0 a.ae)],?_,?_,⟨pok,by rw [ZO inv.ok pok];exact inv.w2,?_,?_,inv.kl,?_⟩,by simp;omega⟩
     · unfold cX Qa
       simp only [e1,lw,cg,ao,wn,pl,KS,KR,pu,ap,show ((0:Int) !=0)=aba from rfl,pp,sc]
     · unfold cp Qb
       simp only [ay,e1,lw,cg,ao,sy,dq,wr,KS,k0,KR,rp,ap,v6,pp,sc,opn]
     · rw [tk]
       exact ((inv.new.mono fun x hx e he hm=>(P9 e).2 (.inr hm)).snoc (x:=c.af.ce[i]!)).2 _ KS rfl ((P9 _).2 (.inl rfl))
     · exact y8.mono fun x hx e he hm=>(P9 e).2 (.inr hm)
     have:=inv.cnt
     rw [agG,ww];simp only [NE,aai];omega
   left
   have pu:=uS inv.ok op inv.ok.fit (t:=(bk f (c.af.ce[i]!).2 c.ci).1) (n:=(c.af.ce[i]!).1) t1 t2 n0 n1 fresh;have ap: ∀h:Int×Int,bm ds [((c.af.ce[i]!).1,h)]=ab1 (ds++[((c.af.ce[i]!).1,h)]):=fun h=>cM (by simp;omega)
   have opn:=pH inv.ok.so;rw [aD op] at opn;constructor
   · unfold cX Qa
     simp only [e1,lw,cg,ao,wn,pl,KS,KR,pu,ap,show ((18:Int) !=0)=ab5 from rfl,pp]
   unfold cp Qb
   simp only [ay,e1,lw,cg,ao,sy,dq,wr,KS,k0,KR,v6,Do,pp,opn]
  |false=>
   right;refine ⟨k,a,ds,?_,?_,⟨inv.ok,inv.w2,?_,y8,inv.kl,inv.cnt⟩,by omega⟩
   · unfold cX Qa
     simp only [e1,lw,cg,ao,wn,pl,KS,show ((0:Int) !=0)=aba from rfl,pp,sc]
   · unfold cp Qb
     simp only [ay,e1,lw,cg,ao,sy,dq,wr,KS,k0,Do,pp,sc]
   rw [tk]
   exact (inv.new.snoc (x:=c.af.ce[i]!)).1 KS
theorem akh:
 (nh c ⟨f⟩=ab1 (dD,18)/\mu c ⟨f⟩=ab1 (dD,18))\/
 ∃c':aI,nh c ⟨f⟩=ab1 (c',0)/\mu c ⟨f⟩=ab1 (c',0)/\aS c'/\c'.ii.am=f/\c'.ci=c.ci/\c'.af=c.af:=by
 have bd:=ok.bd;have f64:=iI.1;have run: ∀(d i k:Nat) (a:aJ) (ds:List qi),ab0 c.af.ce-i<=d->i<=ab0 c.af.ce->F1 c f i k a ds->ab0 ds<=i->
  (aB cX (Qa c f i a ds)=ab1 (.done (dD,18))/\aB cp (Qb c f i a ds)=ab1 (dD,18))\/
  ∃c':aI,aB cX (Qa c f i a ds)=ab1 (.done (c',0))/\aB cp (Qb c f i a ds)=ab1 (c',0)/\aS c'/\c'.ii.am=f/\c'.ci=c.ci/\c'.af=c.af:=by
  have fin: ∀(k:Nat) (a:aJ) (ds:List qi),F1 c f (ab0 c.af.ce) k a ds-> ∃c':aI,aB cX (Qa c f (ab0 c.af.ce) a ds)=ab1 (.done (c',0))/\aB cp (Qb c f (ab0 c.af.ce) a ds)=ab1 (c',0)/\aS c'/\c'.ii.am=f/\c'.ci=c.ci/\c'.af=c.af:=by
   intro k a ds inv;have e1:abe (((ab0 c.af.ce):Int)<((ab0 c.af.ce):Int))=aba:=aD (by omega);have hk:(ab0 c.io)-k=0:=by have:=inv.old;rw [aar] at this;have:c.io.drop k=[]:=this;rw [List.drop_eq_nil_iff] at this;omega
   have new:=inv.new;rw [List.take_length] at new;refine ⟨⟨c.ci,⟨f⟩,c.af,a,ds⟩,aC ?_,aC ?_,⟨ok.iL,ok.iz,iI,ok.rE,inv.ok,inv.w2,?_,kn,new⟩,rfl,rfl,rfl⟩
   · unfold cX Qa
     simp only [e1,pp]
   · unfold cp Qb
     simp only [ay,e1,pp]
   have:=inv.cnt
   show (ab0 a.bv)=ab0 ds;omega
  intro d
  induction d with
  |zero=>
   intro i k a ds hd hi inv Ud;have:i=(ab0 c.af.ce):=by omega
   subst this;exact .inr (fin k a ds inv)
  |succ d ih=>
   intro i k a ds hd hi inv Ud
   by_cases he:i=ab0 c.af.ce
   · subst he;exact .inr (fin k a ds inv)
   rcases Tq ok iI kn inv (by omega) Ud with ⟨h1,h2⟩|⟨k',a',xF,h1,h2,h3,h4⟩
   · exact .inl ⟨aC h1,aC h2⟩
   rw [aQ h1,aQ h2]
   exact ih (i+1) k' a' xF (by omega) (by omega) h3 h4
 have start:=run (ab0 c.af.ce) 0 0 c.aa [] (by omega) (by omega) ⟨ok.jU,ok.Dz,rfl,by rw [aak,aak];exact ok.y8,by omega,by have:=ok.hd;simp;omega⟩ (by simp);have hc:fF c=ab1 0:=by rw [jK ok.fit,rc ok]
 have hf:ec ⟨f⟩=ab1 0:=by rw [jJ];exact congrArg ab1 (jT.2 iI)
 have tw:=fT ok;have tw':gD (aI.mk (c.ci.1,c.ci.2) (Field.mk c.ii.am) (bc.mk c.af.aL c.af.ce) (aJ.mk (aU.mk c.aa.ae.ar c.aa.ae.be c.aa.ae.bi) c.aa.bv c.aa.aj) c.io)=ab1 c:=tw;have first:aB jB (c.af.ce,((ab0 c.af.ce):Int),0,c.ci.1,c.ci.2,c.ii.am,c.af.aL,c.af.ce,c.aa.ae.ar,c.aa.ae.be,c.aa.ae.bi,c.aa.bv,c.aa.aj,c.io,f,0,0,0)=
  aB jB (c.af.ce,((ab0 c.af.ce):Int),((ab0 c.af.ce):Int),c.ci.1,c.ci.2,c.ii.am,c.af.aL,c.af.ce,c.aa.ae.ar,c.aa.ae.be,c.aa.ae.bi,c.aa.bv,c.aa.aj,c.io,f,0,0,0):=by
  refine bL (body:=jB) (fun i=>(c.af.ce,((ab0 c.af.ce):Int),(i:Int),c.ci.1,c.ci.2,c.ii.am,c.af.aL,c.af.ce,c.aa.ae.ar,c.aa.ae.be,c.aa.ae.bi,c.aa.bv,c.aa.aj,c.io,f,0,0,0)) (ab0 c.af.ce) (fun i hi=>?_);have e1:abe ((i:Int)<((ab0 c.af.ce):Int))=ab5:=aH (by omega);unfold jB;simp only [e1,lw,aq c.af.ce i hi,ao,lG iI,aD (IL iI (kn i hi).1),aD (IL iI (kn i hi).2),pp,aV (show i<1000000000 by omega)]
 have Tu: ∀r,aB cX (Qa c f 0 c.aa [])=ab1 (.done r)->nh c ⟨f⟩=ab1 r:=by intro r hr;unfold nh;simp only [hc,ao,show ((0:Int) !=0)=aba from rfl,pp,hf,ay];rw [first];refine aC ?_;unfold jB;have e1:abe (((ab0 c.af.ce):Int)<((ab0 c.af.ce):Int))=aba:=aD (by omega);simp only [ay,e1,pp,tw',ao,bj (show (ab0 f)<=1048576 by omega)];exact hr
 have abd: ∀r,aB cp (Qb c f 0 c.aa [])=ab1 r->mu c ⟨f⟩=ab1 r:=by intro r hr;unfold mu v7;simp only [jh ok,ao,bj (show (ab0 f)<=1048576 by omega)];exact hr
 rcases start with ⟨h1,h2⟩|⟨c',h1,h2,h3⟩
 · exact .inl ⟨Tu _ h1,abd _ h2⟩
 exact .inr ⟨c',Tu _ h1,abd _ h2,h3⟩
end
theorem mz (l:List (Int×Int)) (x:Int×Int) (hl:(ab0 l)<=1000000):eU l x=ab1 (abe (x∈l)):=by
 unfold eU nT;have key:=jS (body:=iW) (fun i=>(l,((ab0 l):Int),(i:Int),x)) (ab0 l) (fun i=>l[i]! =x) (fun i=>(i:Int)) (e:= -1) (fun i hi=>by
  have e1:abe ((i:Int)<((ab0 l):Int))=ab5:=aH (by omega);unfold iW;simp only [e1,lw,aq l i hi,ao,aV (show i<1000000000 by omega)];generalize l[i]! =y;constructor
  · intro h;rw [ed (congrArg aaX h.symm),ed (congrArg Prod.snd h.symm)];rfl
  · intro h
    by_cases h1:x.1=y.1
    · rw [ed h1,eD (fun h2=>h (aaw h1.symm h2.symm))];rfl
    rw [eD h1];rfl) (by
  unfold iW;have:abe (((ab0 l):Int)<((ab0 l):Int))=aba:=aD (by omega);simp only [this,pp])
 rw [ay]
 by_cases hx:x∈l
 · obtain ⟨i,hi,he⟩:=aP.1 hx
   obtain ⟨k,h1,h2,h3⟩:=least (c:=fun i=>l[i]! =x) ⟨i,hi,he⟩;have:=key.1 k h1 h2 h3;rw [show ((0:Nat):Int)=0 from rfl] at this;rw [this,aH hx];simp only [ao,aH (show (0:Int)<=(k:Int) by omega)]
 have:=key.2 fun i hi he=>hx (aP.2 ⟨i,hi,he⟩)
 rw [show ((0:Nat):Int)=0 from rfl] at this;rw [this,aD hx];rfl
theorem yk (l:List (Int×Int)) (x:Int×Int) (hl:(ab0 l)<=1000000):x6 l x=ab1 (abe (x∈l)):=by
 unfold x6;have key:=cP (body:=tc) (fun i=>(l,(i:Int),x)) (ab0 l) (fun i=>l[i]! =x) (r:=ab5) (e:=aba) (fun i hi=>by
  have e1:abe ((i:Int)<((ab0 l):Int))=ab5:=aH (by omega);unfold tc;simp only [ay,e1,lw,aq l i hi,ao,aV (show i<1000000000 by omega)];generalize l[i]! =y;constructor
  · intro h;rw [ed (congrArg aaX h),ed (congrArg Prod.snd h)];rfl
  · intro h
    by_cases h1:y.1=x.1
    · rw [ed h1,eD (fun h2=>h (aaw h1 h2))];rfl
    rw [eD h1];rfl) (by
  unfold tc;have:abe (((ab0 l):Int)<((ab0 l):Int))=aba:=aD (by omega);simp only [ay,this,pp])
 by_cases hx:x∈l
 · rw [aH hx];exact key.1 (aP.1 hx)
 rw [aD hx];exact key.2 fun i hi he=>hx (aP.2 ⟨i,hi,he⟩)
theorem MN (x y:qi):((x.1==y.1)&&((x.2.1==y.2.1)&&(x.2.2==y.2.2)))=abe (x=y):=by
 rw [Bool.eq_iff_iff,decide_eq_true_iff];simp only [Bool.and_eq_true,beq_iff_eq];constructor
 · rintro ⟨h1,h2,h3⟩;exact aaw h1 (aaw h2 h3)
 rintro rfl;exact ⟨rfl,rfl,rfl⟩
theorem Dc (a b:List qi) (hl:(ab0 a)<=1000000):rY ⟨a⟩ ⟨b⟩=ab1 (abe (a=b)):=by
 unfold rY;simp only [ay]
 by_cases h:(ab0 a)=ab0 b
 case neg=>rw [dN (by omega),aD (fun k=>h (by rw [k]))];rfl
 rw [bV (by omega)];simp only [pp];have key:=cP (body:=pC) (fun i=>((i:Int),a,b)) (ab0 a) (fun i=> ¬a[i]! =b[i]!) (r:=aba) (e:=ab5) (fun i hi=>by
  have e1:abe ((i:Int)<((ab0 a):Int))=ab5:=aH (by omega);unfold pC;simp only [ay,e1,lw,aq a i hi,aq b i (by omega),ao,aV (show i<1000000000 by omega),MN];constructor
  · intro h;rw [aD h];rfl
  · intro h;rw [aH (M2.1 h)];rfl) (by
  unfold pC;have:abe (((ab0 a):Int)<((ab0 a):Int))=aba:=aD (by omega);simp only [ay,this,pp])
 by_cases he:a=b
 · rw [aH he]
   exact key.2 fun i hi=>M2.2 (by rw [he])
 rw [aD he]
 refine key.1 (AC fun hx=>he (ya h fun i hi=>?_));exact AC fun hn=>hx ⟨i,hi,hn⟩
theorem Bw (a b:List qi) (hl:(ab0 a)<=1000000):ik a b=ab1 (abe (a=b)):=by
 unfold ik;simp only [ay]
 by_cases h:(ab0 a)=ab0 b
 case neg=>rw [dN (by omega),aD (fun k=>h (by rw [k]))];rfl
 rw [bV (by omega)];simp only [pp];have key:=cP (body:=iB) (fun i=>(a,b,((ab0 a):Int),(i:Int))) (ab0 a) (fun i=> ¬a[i]! =b[i]!) (r:=aba) (e:=ab5) (fun i hi=>by
  have e1:abe ((i:Int)<((ab0 a):Int))=ab5:=aH (by omega);unfold iB;simp only [e1,lw,aq a i hi,aq b i (by omega),ao,aV (show i<1000000000 by omega),MN];constructor
  · intro h;rw [aD h];rfl
  · intro h;rw [aH (M2.1 h)];rfl) (by
  unfold iB;have:abe (((ab0 a):Int)<((ab0 a):Int))=aba:=aD (by omega);simp only [this,pp])
 by_cases he:a=b
 · rw [aH he]
   exact key.2 fun i hi=>M2.2 (by rw [he])
 rw [aD he]
 refine key.1 (AC fun hx=>he (ya h fun i hi=>?_));exact AC fun hn=>hx ⟨i,hi,hn⟩
theorem Qc {cs:List qi} {m:Nat} {x:qi} (hx:x∈cs) (dE:x.1≠(cs[m]!).1):x∈cs.eraseIdx m:=by
 obtain ⟨j,hj,rfl⟩:=aP.1 hx;have hjm:j≠m:=fun h=>dE (by rw [h])
 rw [sj,PP]
 by_cases h:j<m
 · exact .inl (ck.2 ⟨j,h,hj,rfl⟩)
 right
 rw [aP];refine ⟨j- (m+1),by rw [If];omega,?_⟩;rw [rC]
 congr 1;omega
def kP (c0:aI) (f:List Pt) (es:List (Int×Int)) (i:Nat) (c:aI):=
 (es,c0.af.ce,((ab0 c0.af.ce):Int),(i:Int),c.ci.1,c.ci.2,c.ii.am,c.af.aL,c.af.ce,c.aa.ae.ar,c.aa.ae.be,c.aa.ae.bi,c.aa.bv,c.aa.aj,c.io,f,(0:Int),(0:Int),(0:Int))
def kR (c0:aI) (f:List Pt) (es:List (Int×Int)) (i:Nat) (c:aI):=
 (es,(i:Int),c0.ci.1,c0.ci.2,c0.ii.am,c0.af.aL,c0.af.ce,c0.aa.ae.ar,c0.aa.ae.be,c0.aa.ae.bi,c0.aa.bv,c0.aa.aj,c0.io,f,(0:Int),(0:Int),(0:Int),c.ci.1,c.ci.2,c.ii.am,c.af.aL,c.af.ce,c.aa.ae.ar,c.aa.ae.be,c.aa.ae.bi,c.aa.bv,c.aa.aj,c.io)
def eP (es:List (Int×Int)) (i:Nat) (c:aI):=
 (es,((ab0 es):Int),(i:Int),c.ci.1,c.ci.2,c.ii.am,c.af.aL,c.af.ce,c.aa.ae.ar,c.aa.ae.be,c.aa.ae.bi,c.aa.bv,c.aa.aj,c.io,(0:Int),(0:Int),(0:Int))
def eR (es:List (Int×Int)) (i:Nat) (c:aI):=
 (es,(i:Int),(0:Int),(0:Int),(0:Int),c.ci.1,c.ci.2,c.ii.am,c.af.aL,c.af.ce,c.aa.ae.ar,c.aa.ae.be,c.aa.ae.bi,c.aa.bv,c.aa.aj,c.io)
def fG (c:aI):Int:=c.af.aL- ((ab0 c.af.ce):Int)
structure F2 (c:aI) (f:List Pt) (es:List (Int×Int)) (r:aI):Prop where
 has: ∀e∈es,rh r.af.ce e
 sub: ∀x∈r.af.ce,x.2∈es
 ok:aS r
 iD:r.ii.am=f
 ci:r.ci=c.ci
 room:fG c<=fG r
def Roomy (c:aI) (k:Nat):Prop:=ab0 c.af.ce<=k/\c.af.aL<=k/\ ∀j,j<ab0 c.aa.ae.ar->c.aa.ae.ar[j]!<=k
theorem aT.len {l:List Pt} {t:Int×Int} {H:List Ev}: ∀{cs ds:List qi},aT l t H cs ds->ab0 ds<=ab0 cs
 | [],ds,h=>by rw [show ds=[] from h];exact aav _
 |x::cs,ds,h=>by
  cases hy:(bk l x.2 t).2 with
  |true=>obtain ⟨d,xF,rfl,_,_,h4⟩:=h.1 hy;exact Nat.succ_le_succ h4.len
  |false=>exact Nat.le_succ_of_le (h.2 hy).len
theorem Roomy.KT {c:aI} (ok:aS c) {k:Nat} (h:Roomy c k) (hk:k<=199): ¬(zz c.af\/ ¬uP c.aa.ae):=by
 obtain ⟨h1,h2,h3⟩:=h;have fl:=ok.y8.len;have hd:=ok.hd;have hl:=ok.jU.hl;have wl:=ok.jU.wl;have w2:=ok.Dz;rintro (h|h)
 · rcases h with h|h<;>omega
 refine h ⟨by omega,?_⟩
 have:=h3 _ (wg ok.jU.so (by omega)).1;omega
theorem Roomy.more {c c':aI} {k:Nat} (h:Roomy c k) {x:Int×Int} (hc:c'.af=mH c.af x) (hs:c'.aa.ae=c.aa.ae\/c'.aa.ae=fO c.aa.ae):Roomy c' (k+1):=by
 obtain ⟨h1,h2,h3⟩:=h;refine ⟨?_,?_,fun j hj=>?_⟩
 · rw [hc]
   show (c.af.ce++[(c.af.aL,x)]).length<=_;rw [ww,aa6];omega
 · rw [hc]
   show c.af.aL+1<=_;omega
 rcases hs with e|e
 · rw [e] at hj ⊢
   have:=h3 j hj;omega
 rw [e] at hj ⊢
 change j<(c.aa.ae.ar.set _ _).length at hj;rw [aat] at hj;show (c.aa.ae.ar.set (cB c.aa.ae) (c.aa.ae.ar[cB c.aa.ae]!+1))[j]!<=_;rw [ba];split
 · rename_i h;have:=h3 _ h.2;omega
 have:=h3 j hj;omega
structure DW (f:List Pt) (es:List (Int×Int)):Prop where
 len:(ab0 es)<=1000000
 cv: ∀x∈es,eW x
 kn: ∀x∈es,iy f x
theorem Tv {c0:aI} (ok0:aS c0) {f:List Pt} {es:List (Int×Int)} (IM:DW f es):
 ∀(d i:Nat) (c:aI),ab0 c0.af.ce-i<=d->i<=ab0 c0.af.ce->aS c->(∀x∈c0.af.ce.drop i,x∈c.af.ce)->(∀x∈c.af.ce,x∈c0.af.ce.drop i\/x.2∈es)->
  ∃c':aI,aB dJ (kP c0 f es i c)=aB dJ (kP c0 f es (ab0 c0.af.ce) c')/\aB cZ (kR c0 f es i c)=aB cZ (kR c0 f es (ab0 c0.af.ce) c')/\aS c'/\(∀x∈c'.af.ce,x.2∈es)/\c'.ii=c.ii/\c'.ci=c.ci/\fG c<=fG c':=by
 have bd:=ok0.bd;intro d
 induction d with
 |zero=>
  intro i c hd hi ok h1 h2;have:i=(ab0 c0.af.ce):=by omega
  subst this;refine ⟨c,rfl,rfl,ok,fun x hx=>?_,rfl,rfl,aam _⟩;rcases h2 x hx with h|h
  · rw [aar] at h;cases h
  exact h
 |succ d ih=>
  intro i c hd hi ok h1 h2
  by_cases he:i=ab0 c0.af.ce
  · subst he
    refine ⟨c,rfl,rfl,ok,fun x hx=>?_,rfl,rfl,aam _⟩;rcases h2 x hx with h|h
    · rw [aar] at h;cases h
    exact h
  have qk:i<(ab0 c0.af.ce):=by omega
  have e1:abe ((i:Int)<((ab0 c0.af.ce):Int))=ab5:=aH (by omega);have sc:=aV (show i<1000000000 by omega);have cg:=aq c0.af.ce i qk;have dr:=rF qk;have sy:(aI.mk (c.ci.1,c.ci.2) (Field.mk c.ii.am) (bc.mk c.af.aL c.af.ce) (aJ.mk (aU.mk c.aa.ae.ar c.aa.ae.be c.aa.ae.bi) c.aa.bv c.aa.aj) c.io)=c:=rfl
  by_cases wX:(c0.af.ce[i]!).2∈es
  · have s1:dJ (kP c0 f es i c)=ab1 (.next (kP c0 f es (i+1) c)):=by
     unfold dJ kP;simp only [e1,lw,cg,ao,mz _ _ IM.len,aH wX,v6,pp,sc]
    have s2:cZ (kR c0 f es i c)=ab1 (.next (kR c0 f es (i+1) c)):=by unfold cZ kR;simp only [ay,e1,lw,cg,ao,yk _ _ IM.len,aH wX,v6,pp,sc]
    rw [aQ s1,aQ s2];refine ih (i+1) c (by omega) (by omega) ok (fun x hx=>h1 x (by rw [dr];exact EQ _ hx)) (fun x hx=>?_);rcases h2 x hx with h|h
    · rw [dr] at h
      rcases aaV.1 h with rfl|h
      · exact .inr wX
      exact .inl h
    exact .inr h
  have hm:=h1 (c0.af.ce[i]!) (by rw [dr];exact UV)
  obtain ⟨m,hm1,QP⟩:=aP.1 hm;obtain ⟨c',r1,r2,r3,r4,r5,r6⟩:=To ok hm1;have rt:=DA ok hm1 r1;rw [QP] at r2 rt;have s1:dJ (kP c0 f es i c)=ab1 (.next (kP c0 f es (i+1) c')):=by unfold dJ kP;simp only [e1,lw,cg,ao,mz _ _ IM.len,aD wX,Do,sc,sy,rt]
  have s2:cZ (kR c0 f es i c)=ab1 (.next (kR c0 f es (i+1) c')):=by unfold cZ kR;simp only [ay,e1,lw,cg,ao,yk _ _ IM.len,aD wX,Do,sc,sy,r2]
  rw [aQ s1,aQ s2];have cl:c'.af.ce=c.af.ce.eraseIdx m:=by rw [r6];rfl
  have xq:fG c<=fG c':=by unfold fG;rw [r6];show _<=c.af.aL- (((c.af.ce.eraseIdx m).length:Nat):Int);rw [List.length_eraseIdx_of_lt hm1];omega
  have hs:(∀x∈c0.af.ce.drop (i+1),x∈c'.af.ce)/\(∀x∈c'.af.ce,x∈c0.af.ce.drop (i+1)\/x.2∈es):=by
   refine ⟨fun x hx=>?_,fun x hx=>?_⟩
   · rw [cl]
     refine Qc (h1 x (by rw [dr];exact EQ _ hx)) ?_;rw [QP];exact Bv ok0 hx qk
   rw [cl] at hx
   obtain ⟨a1,a2⟩:=rj ok.sx hm1 hx;rw [QP] at a2;rcases h2 x a1 with h|h
   · rw [dr] at h
     rcases aaV.1 h with rfl|h
     · exact absurd rfl a2
     exact .inl h
   exact .inr h
  obtain ⟨d',q1,q2,q3,q4,q5,q6,q7⟩:=ih (i+1) c' (by omega) (by omega) r3 hs.1 hs.2;exact ⟨d',q1,q2,q3,q4,q5.trans r4,q6.trans r5,by omega⟩
theorem KU {f:List Pt} (_fok:bF f) {es:List (Int×Int)} (IM:DW f es):
 ∀(d i:Nat) (c:aI),ab0 es-i<=d->i<=ab0 es->aS c->c.ii.am=f->(∀x∈c.af.ce,x.2∈es)->(∀j,j<i->rh c.af.ce es[j]!)->
  ∃r:aI×Int,aB eA (eP es i c)=ab1 (.done r)/\aB dv (eR es i c)=ab1 (.done r)/\(r.2=0/\F2 c f es r.1\/r=(dD,18))/\(∀k,Roomy c k->k+(ab0 es-i)<=199->r.2=0):=by
 have el:=IM.len;have fin: ∀c:aI,aS c->c.ii.am=f->(∀x∈c.af.ce,x.2∈es)->(∀j,j<ab0 es->rh c.af.ce es[j]!)-> ∃r:aI×Int,aB eA (eP es (ab0 es) c)=ab1 (.done r)/\aB dv (eR es (ab0 es) c)=ab1 (.done r)/\(r.2=0/\F2 c f es r.1\/r=(dD,18))/\r.2=0:=by
  intro c ok hf hs hh;have e1:abe (((ab0 es):Int)<((ab0 es):Int))=aba:=aD (by omega);refine ⟨(c,0),aC ?_,aC ?_,.inl ⟨rfl,fun e he=>by obtain ⟨j,hj,q⟩:=aP.1 he;rw [<- q];exact hh j hj,hs,ok,hf,rfl,aam _⟩,rfl⟩
  · unfold eA eP
    simp only [e1,pp]
  unfold dv eR
  simp only [ay,e1,pp]
 intro d
 induction d with
 |zero=>
  intro i c hd hi ok hf hs hh;have:i=(ab0 es):=by omega
  subst this;obtain ⟨r,q1,q2,q3,q4⟩:=fin c ok hf hs hh;exact ⟨r,q1,q2,q3,fun _ _ _=>q4⟩
 |succ d ih=>
  intro i c hd hi ok hf hs hh
  by_cases he:i=ab0 es
  · subst he
    obtain ⟨r,q1,q2,q3,q4⟩:=fin c ok hf hs hh;exact ⟨r,q1,q2,q3,fun _ _ _=>q4⟩
  have bd:=ok.bd;have qk:i<(ab0 es):=by omega
  have e1:abe ((i:Int)<((ab0 es):Int))=ab5:=aH (by omega);have sc:=aV (show i<1000000000 by omega);have cg:=aq es i qk;have sy:(aI.mk (c.ci.1,c.ci.2) (Field.mk c.ii.am) (bc.mk c.af.aL c.af.ce) (aJ.mk (aU.mk c.aa.ae.ar c.aa.ae.be c.aa.ae.bi) c.aa.bv c.aa.aj) c.io)=c:=rfl;have KV:bc.mk c.af.aL c.af.ce=c.af:=rfl;have hc:=KK c.af.ce es[i]! (by omega);have hr:=wz c.af es[i]! (by omega)
  by_cases wX:rh c.af.ce es[i]!
  · have s1:eA (eP es i c)=ab1 (.next (eP es (i+1) c)):=by
     unfold eA eP;simp only [e1,lw,cg,ao,CD,hc,aH wX,sc]
    have s2:dv (eR es i c)=ab1 (.next (eR es (i+1) c)):=by unfold dv eR;simp only [ay,e1,lw,cg,ao,KV,hr,aH wX,sc]
    rw [aQ s1,aQ s2];obtain ⟨r,q1,q2,q3,q4⟩:=ih (i+1) c (by omega) (by omega) ok hf hs (fun j hj=>if q:j=i then by rw [q];exact wX else hh j (by omega));exact ⟨r,q1,q2,q3,fun k hk hl=>q4 k hk (by omega)⟩
  have hb:iy c.ii.am es[i]!:=by rw [hf];exact IM.kn _ (aN qk)
  rcases ZN ok (IM.cv _ (aN qk)) hb wX with ⟨r1,r2,full⟩|⟨c',r1,r2,r3,r4,r5,r6,r7⟩
  · refine ⟨(dD,18),aC ?_,aC ?_,.inr rfl,fun k hk hl=>absurd full (hk.KT ok (by omega))⟩
    · unfold eA eP
      simp only [e1,lw,cg,ao,CD,hc,aD wX,pp,sy,r1,show ((18:Int) !=0)=ab5 from rfl]
    unfold dv eR
    simp only [ay,e1,lw,cg,ao,KV,hr,aD wX,pp,sy,r2,show ((18:Int) !=0)=ab5 from rfl]
  have s1:eA (eP es i c)=ab1 (.next (eP es (i+1) c')):=by
   unfold eA eP;simp only [e1,lw,cg,ao,CD,hc,aD wX,pp,sy,r1,show ((0:Int) !=0)=aba from rfl,sc]
  have s2:dv (eR es i c)=ab1 (.next (eR es (i+1) c')):=by unfold dv eR;simp only [ay,e1,lw,cg,ao,KV,hr,aD wX,pp,sy,r2,show ((0:Int) !=0)=aba from rfl,sc]
  rw [aQ s1,aQ s2];obtain ⟨r,q1,q2,q3,q6⟩:=ih (i+1) c' (by omega) (by omega) r3 (by rw [r4,hf]) (fun x hx=>by
   rw [r6] at hx;rcases PP.1 (show x∈c.af.ce++[(c.af.aL,es[i]!)] from hx) with h|h
   · exact hs x h
   · rw [List.mem_singleton.1 h];exact aN qk) (fun j hj=>by
   rw [r6];show rh (c.af.ce++[(c.af.aL,es[i]!)]) _
   by_cases q:j=i
   · rw [q];exact ⟨ab0 c.af.ce,by rw [ww,aa6];omega,by rw [fA (aav _),Nat.sub_self];rfl⟩
   obtain ⟨w,w1,w2⟩:=hh j (by omega)
   exact ⟨w,by rw [ww];omega,by rw [dQ w1];exact w2⟩)
  refine ⟨r,q1,q2,q3.imp (fun ⟨q4,q5⟩=>⟨q4,q5.has,q5.sub,q5.ok,q5.iD,q5.ci.trans r5,aas ?_ q5.room⟩) id,fun k hk hl=>q6 (k+1) (hk.more r6 r7) (by omega)⟩;unfold fG;rw [r6];show _<=(c.af.aL+1) - (((c.af.ce++[(c.af.aL,es[i]!)]).length:Nat):Int);rw [ww,aa6];omega
theorem ZQ {c:aI} (ok:aS c) {f:List Pt} (iI:bF f) {es:List (Int×Int)} (IM:DW f es):
 ∃r:aI×Int,pV c ⟨f⟩ es=ab1 r/\mv c ⟨f⟩ es=ab1 r/\(r.2=0/\F2 c f es r.1\/r=(dD,18)):=by
 have f64:=iI.1;obtain ⟨c',g1,g2,g3,g4,g5,g6,g7⟩:=Tv ok IM (ab0 c.af.ce) 0 c (by omega) (by omega) ok (fun x hx=>by rwa [aak] at hx) (fun x hx=> .inl (by rwa [aak]));have bd:=g3.bd;have e1:abe (((ab0 c.af.ce):Int)<((ab0 c.af.ce):Int))=aba:=aD (by omega);have agI:pV c ⟨f⟩ es=aB dJ (kP c f es 0 c):=rfl;have agJ:mv c ⟨f⟩ es=aB cZ (kR c f es 0 c):=by unfold mv;simp only [jh ok,ao];rfl
 rw [agI,agJ,g1,g2];have eq1:=Bw c'.ii.am f (by omega);have eq2:=Dc c'.ii.am f (by omega);have sy:(aI.mk (c'.ci.1,c'.ci.2) (Field.mk c'.ii.am) (bc.mk c'.af.aL c'.af.ce) (aJ.mk (aU.mk c'.aa.ae.ar c'.aa.ae.be c'.aa.ae.bi) c'.aa.bv c'.aa.aj) c'.io)=c':=rfl
 by_cases hf:c'.ii.am=f
 · obtain ⟨r,i1,i2,i3,_⟩:=KU iI IM (ab0 es) 0 c' (by omega) (by omega) g3 hf g4 (fun j hj=>absurd hj (aaF j))
   refine ⟨r,aC ?_,aC ?_,i3.imp (fun ⟨q4,q5⟩=>⟨q4,q5.has,q5.sub,q5.ok,q5.iD,q5.ci.trans g6,aas g7 q5.room⟩) id⟩
   · unfold dJ kP
     simp only [e1,pp,eq1,aH hf,ao,v6];exact i1
   unfold cZ kR
   simp only [ay,e1,pp,eq2,aH hf,ao,v6];exact i2
 have kn: ∀i,i<ab0 c'.af.ce->iy f (c'.af.ce[i]!).2:=fun i hi=>IM.kn _ (g4 _ (aN hi))
 rcases akh g3 iI kn with ⟨a1,a2⟩|⟨c2,a1,a2,a3,a4,a5,a6⟩
 · refine ⟨(dD,18),aC ?_,aC ?_,.inr rfl⟩
   · unfold dJ kP
     simp only [e1,pp,eq1,aD hf,ao,Do,lw,sy,a1,show ((18:Int) !=0)=ab5 from rfl]
   unfold cZ kR
   simp only [ay,e1,pp,eq2,aD hf,ao,Do,lw,sy,a2,show ((18:Int) !=0)=ab5 from rfl]
 obtain ⟨r,i1,i2,i3,_⟩:=KU iI IM (ab0 es) 0 c2 (by omega) (by omega) a3 a4 (by rw [a6];exact g4) (fun j hj=>absurd hj (aaF j))
 refine ⟨r,aC ?_,aC ?_,i3.imp (fun ⟨q4,q5⟩=>⟨q4,q5.has,q5.sub,q5.ok,q5.iD,(q5.ci.trans a5).trans g6,aas (aas g7 (by unfold fG;rw [a6];exact aam _)) q5.room⟩) id⟩
 · unfold dJ kP
   simp only [e1,pp,eq1,aD hf,ao,Do,lw,sy,a1,show ((0:Int) !=0)=aba from rfl];exact i1
 unfold cZ kR
 simp only [ay,e1,pp,eq2,aD hf,ao,Do,lw,sy,a2,show ((0:Int) !=0)=aba from rfl];exact i2
theorem F3 {α:Type} [Inhabited α] {l:List α}:l.Nodup↔ ∀k,k<ab0 l->l[k]!∉l.take k:=by
 rw [eL];constructor
 · intro h k hk hm
   obtain ⟨i,h1,h2,h3⟩:=ck.1 hm;exact h i k h1 hk h3
 intro h i j k9 hj he
 exact h j hj (ck.2 ⟨i,k9,by omega,he⟩)
theorem Bx {α:Type} [Inhabited α] {l:List α} {P:α->Prop}:(∀x∈l,P x)↔ ∀i,i<ab0 l->P l[i]!:=by
 constructor
 · intro h i hi;exact h _ (aN hi)
 intro h x hx
 obtain ⟨i,hi,rfl⟩:=aP.1 hx;exact h i hi
theorem IN {σ ρ:Type} {body:σ->Option (Step σ ρ)} (st:Nat->σ) (n:Nat) (P:Nat->Prop) {r e:ρ} (h: ∀i,i<n->(¬P i->body (st i)=ab1 (.done r))/\(P i->body (st i)=ab1 (.next (st (i+1)))))
 (S1:body (st n)=ab1 (.done e)):aB body (st 0)=ab1 (if∀i,i<n->P i then e else r):=by
 have key:=cP (body:=body) st n (fun i=> ¬P i) (r:=r) (e:=e) (fun i hi=>⟨(h i hi).1,fun hn=>(h i hi).2 (M2.1 hn)⟩) S1
 by_cases hx: ∀i,i<n->P i
 · rw [rc hx];exact key.2 fun i hi=>M2.2 (hx i hi)
 rw [ut hx]
 obtain ⟨i,h⟩:=Classical.not_forall.1 hx;obtain ⟨hi,hx⟩:=Classical.not_imp.1 h;exact key.1 ⟨i,hi,hx⟩
theorem zA {f:List Pt} (iI:bF f) (id:Int): ∃p e,rS ⟨f⟩ id=ab1 (p,e)/\(e=0↔sq f id):=by
 have h1:=iI.1;have hc:ec ⟨f⟩=ab1 0:=by rw [jJ];exact congrArg ab1 (jT.2 iI)
 have bs:=DV f id (by omega) (fun i j=>rD iI.2.2);unfold rS xV Aj;rw [ZL];simp only [hc,ao,show ((0:Int) !=0)=aba from rfl,pp]
 by_cases h:sq f id
 · obtain ⟨k,hk,he⟩:=h
   rw [bs.1 k hk he];refine ⟨f[k]!,0,?_,fun _=>⟨k,hk,he⟩,fun _=>rfl⟩;simp only [ao,v6,pp,show ((0:Int) !=0)=aba from rfl,aq f k hk]
 obtain ⟨m,_,_,_,e⟩:=bs.2 (fun k hk he=>h ⟨k,hk,he⟩)
 rw [e];exact ⟨(0,0,0),6,rfl,fun h=>(by cases h),fun k=>absurd k h⟩
structure On (c:aI):Prop where
 f:(ab0 c.ii.am)<=1000000
 l:(ab0 c.af.ce)<=1000000
 d:(ab0 c.io)<=1000000
 h:(ab0 c.aa.bv)<=1000000
 w:(ab0 c.aa.aj)<=1000000
 s1:(ab0 c.aa.ae.ar)<=1000000
 s2:(ab0 c.aa.ae.be)<=1000000
 s3:(ab0 c.aa.ae.bi)<=1000000
theorem aS.short {c:aI} (ok:aS c):On c:=by have bd:=ok.bd;have ab:=ok.jU.bd;have sl:=ok.jU.so.fl;have sn:=ok.jU.so.n2;have su:=ok.jU.so.ul;exact ⟨by omega,by omega,by omega,by omega,by omega,by omega,by omega,by omega⟩
theorem CH (l:List Int) (hl:(ab0 l)<=1000000):jF l l=ab1 ab5:=by
 unfold jF;rw [bV rfl];refine (bL (body:=kT) (fun i=>(l,l,(i:Int))) (ab0 l) fun i hi=>?_).trans (aC ?_)
 · have e1:abe ((i:Int)<((ab0 l):Int))=ab5:=aH (by omega)
   unfold kT;simp only [ay,e1,lw,aq l i hi,ao,aV (show i<1000000000 by omega),bV rfl,pp]
 unfold kT
 have:abe (((ab0 l):Int)<((ab0 l):Int))=aba:=aD (by omega);simp only [ay,this,pp]
theorem MO (l:List Bool) (hl:(ab0 l)<=1000000):mF l l=ab1 ab5:=by
 unfold mF;rw [bV rfl];refine (bL (body:=jZ) (fun i=>(l,l,(i:Int))) (ab0 l) fun i hi=>?_).trans (aC ?_)
 · have e1:abe ((i:Int)<((ab0 l):Int))=ab5:=aH (by omega)
   unfold jZ;simp only [ay,e1,lw,aq l i hi,ao,aV (show i<1000000000 by omega),beq_self_eq_true,v6,pp]
 unfold jZ
 have:abe (((ab0 l):Int)<((ab0 l):Int))=aba:=aD (by omega);simp only [ay,this,pp]
theorem MP (c:bc) (hl:(ab0 c.ce)<=1000000):vW c c=ab1 ab5:=by
 unfold vW;rw [bV rfl,bV rfl];refine (bL (body:=pD) (fun i=>((i:Int),c.aL,c.ce,c.aL,c.ce)) (ab0 c.ce) fun i hi=>?_).trans (aC ?_)
 · have e1:abe ((i:Int)<((ab0 c.ce):Int))=ab5:=aH (by omega)
   unfold pD;simp only [ay,e1,lw,aq c.ce i hi,ao,aV (show i<1000000000 by omega),beq_self_eq_true,aap,v6,pp]
 unfold pD
 have:abe (((ab0 c.ce):Int)<((ab0 c.ce):Int))=aba:=aD (by omega);simp only [ay,this,pp]
theorem KW (a:aJ) (h1:(ab0 a.bv)<=1000000) (h2:(ab0 a.aj)<=1000000) (h3:(ab0 a.ae.ar)<=1000000) (h4:(ab0 a.ae.be)<=1000000) (h5:(ab0 a.ae.bi)<=1000000):vX a a=ab1 ab5:=by
 unfold vX Ao;simp only [CH _ h3,MO _ h4,CH _ h5,CH _ h2,ao,lw,v6,pp];rw [bV rfl];refine (bL (body:=pE) (fun i=>((i:Int),a.ae.ar,a.ae.be,a.ae.bi,a.bv,a.aj,a.ae.ar,a.ae.be,a.ae.bi,a.bv,a.aj)) (ab0 a.bv) fun i hi=>?_).trans (aC ?_)
 · have e1:abe ((i:Int)<((ab0 a.bv):Int))=ab5:=aH (by omega)
   unfold pE;simp only [ay,e1,lw,aq a.bv i hi,ao,aV (show i<1000000000 by omega),beq_self_eq_true,aap,v6,pp]
 unfold pE
 have:abe (((ab0 a.bv):Int)<((ab0 a.bv):Int))=aba:=aD (by omega);simp only [ay,this,pp]
theorem MQ {c:aI} (sh:On c):vY c c=ab1 ab5:=by
 have hd:=sh.d;unfold vY;simp only [beq_self_eq_true,aap,v6,pp,Dc c.ii.am c.ii.am sh.f,MP _ sh.l,KW _ sh.h sh.w sh.s1 sh.s2 sh.s3,ao,aH];rw [bV rfl];refine (bL (body:=pF) (fun i=>((i:Int),c.ci.1,c.ci.2,c.ii.am,c.af.aL,c.af.ce,c.aa.ae.ar,c.aa.ae.be,c.aa.ae.bi,c.aa.bv,c.aa.aj,c.io,c.ci.1,c.ci.2,c.ii.am,c.af.aL,c.af.ce,c.aa.ae.ar,c.aa.ae.be,c.aa.ae.bi,c.aa.bv,c.aa.aj,c.io)) (ab0 c.io) fun i hi=>?_).trans (aC ?_)
 · have e1:abe ((i:Int)<((ab0 c.io):Int))=ab5:=aH (by omega)
   unfold pF;simp only [ay,e1,lw,aq c.io i hi,ao,aV (show i<1000000000 by omega),beq_self_eq_true,aap,v6,pp]
 unfold pF
 have:abe (((ab0 c.io):Int)<((ab0 c.io):Int))=aba:=aD (by omega);simp only [ay,this,pp]
structure Tw (c:aI):Prop where
 ci:iJ c.ci
 MG: ∀w,w<ab0 c.aa.bv->iJ ((c.aa.bv[w]!).1,(c.aa.bv[w]!).2.1)
theorem KX (f:Field):pY f=ab1 ab5\/(pY f=ab1 aba/\ab0 f.am<=70):=by
 unfold pY
 simp only [ay]
 by_cases h1:16<ab0 f.am
 · rw [aH (show (16:Int)<((ab0 f.am):Int) by omega)]
   by_cases h2:(ab0 f.am)<64
   · rw [aH (show ((ab0 f.am):Int)<64 by omega)];exact .inl rfl
   rw [aD (show¬((ab0 f.am):Int)<64 by omega)]
   by_cases h3:70<ab0 f.am
   · rw [aH (show (70:Int)<((ab0 f.am):Int) by omega)];exact .inl rfl
   rw [aD (show¬(70:Int)<((ab0 f.am):Int) by omega)];exact .inr ⟨rfl,by omega⟩
 rw [aD (show¬(16:Int)<((ab0 f.am):Int) by omega),aD (show¬(70:Int)<((ab0 f.am):Int) by omega)]
 exact .inr ⟨rfl,by omega⟩
theorem KY (c:aI):pZ c=ab1 ab5\/(pZ c=ab1 aba/\On c):=by
 unfold pZ xZ xY
 simp only [ay]
 by_cases h1:40<ab0 c.af.ce
 · rw [aH (show (40:Int)<((ab0 c.af.ce):Int) by omega)];exact .inl rfl
 rw [aD (show¬(40:Int)<((ab0 c.af.ce):Int) by omega)]
 by_cases h2:40<ab0 c.io
 · rw [aH (show (40:Int)<((ab0 c.io):Int) by omega)];exact .inl rfl
 rw [aD (show¬(40:Int)<((ab0 c.io):Int) by omega)];rcases KX c.ii with e|⟨e,hf⟩
 · rw [e];exact .inl rfl
 rw [e];simp only [pp,ao]
 by_cases a1:210<ab0 c.aa.ae.ar
 · rw [aH (show (210:Int)<((ab0 c.aa.ae.ar):Int) by omega)];exact .inl rfl
 rw [aD (show¬(210:Int)<((ab0 c.aa.ae.ar):Int) by omega)]
 by_cases a2:210<ab0 c.aa.ae.be
 · rw [aH (show (210:Int)<((ab0 c.aa.ae.be):Int) by omega)];exact .inl rfl
 rw [aD (show¬(210:Int)<((ab0 c.aa.ae.be):Int) by omega)]
 by_cases a3:210<ab0 c.aa.ae.bi
 · rw [aH (show (210:Int)<((ab0 c.aa.ae.bi):Int) by omega)];exact .inl rfl
 rw [aD (show¬(210:Int)<((ab0 c.aa.ae.bi):Int) by omega)]
 by_cases a4:210<ab0 c.aa.bv
 · rw [aH (show (210:Int)<((ab0 c.aa.bv):Int) by omega)];exact .inl rfl
 rw [aD (show¬(210:Int)<((ab0 c.aa.bv):Int) by omega)]
 by_cases a5:210<ab0 c.aa.aj
 · rw [aH (show (210:Int)<((ab0 c.aa.aj):Int) by omega)];exact .inl rfl
 rw [aD (show¬(210:Int)<((ab0 c.aa.aj):Int) by omega)];exact .inr ⟨rfl,⟨by omega,by omega,by omega,by omega,by omega,by omega,by omega,by omega⟩⟩
theorem yW {a b:Int×Int} (ha:aW a) (hb:aW b) (h:a.1*b.2=b.1*a.2):a=b:=by
 obtain ⟨a1,_,a3⟩:=ha;obtain ⟨b1,_,b3⟩:=hb;have hn:a.1.natAbs*b.2.natAbs=b.1.natAbs*a.2.natAbs:=by rw [<- aaS,<- aaS,h]
 have d1:b.2.natAbs ∣ a.2.natAbs:=by
  have:b.2.natAbs ∣ b.1.natAbs*a.2.natAbs:=by rw [<- hn];exact aaA _ _
  exact (Nat.Coprime.dvd_of_dvd_mul_left b3 this)
 have d2:a.2.natAbs ∣ b.2.natAbs:=by
  have:a.2.natAbs ∣ a.1.natAbs*b.2.natAbs:=by rw [hn];exact aaA _ _
  exact (Nat.Coprime.dvd_of_dvd_mul_left a3 this)
 have e:a.2.natAbs=b.2.natAbs:=Nat.dvd_antisymm d2 d1;have e2:a.2=b.2:=by omega
 have e1:a.1=b.1:=by rw [e2] at h;exact Int.eq_of_mul_eq_mul_right (by omega) h
 exact aaw e1 e2
theorem By (p q:Pt) (t:Int×Int):wR p q t=(p.2.1-q.2.1)*t.2+(p.2.2-q.2.2)*t.1:=rfl
theorem Dd {l h:Pt} {t t':Int×Int} (d:1<=t.2) (d':1<=t'.2) (le:t.1*t'.2<=t'.1*t.2) (hB: ¬h.2.2<l.2.2) (hn: ¬leads l h t): ¬leads l h t':=by
 unfold leads at*;rw [By] at*;generalize l.2.1-h.2.1=A at*;have hs:l.2.2-h.2.2<=0:=by omega
 intro hl;have key:(A*t'.2+(l.2.2-h.2.2)*t'.1)*t.2<=(A*t.2+(l.2.2-h.2.2)*t.1)*t'.2:=by
  have h1:(l.2.2-h.2.2)*(t'.1*t.2)<=(l.2.2-h.2.2)*(t.1*t'.2):=Int.mul_le_mul_of_nonpos_left hs le;have e1:(A*t'.2+(l.2.2-h.2.2)*t'.1)*t.2=A*t'.2*t.2+(l.2.2-h.2.2)*(t'.1*t.2):=by rw [Int.add_mul,aaq (l.2.2-h.2.2)]
  have e2:(A*t.2+(l.2.2-h.2.2)*t.1)*t'.2=A*t'.2*t.2+(l.2.2-h.2.2)*(t.1*t'.2):=by rw [Int.add_mul,aaq (l.2.2-h.2.2),aaq A,aaq A,aay t.2]
  omega
 rcases hl with hl|⟨hl,h2|⟨h2,h3⟩⟩
 · refine hn (.inl ?_)
   have:0<(A*t'.2+(l.2.2-h.2.2)*t'.1)*t.2:=Int.mul_pos hl (by omega);have k:0<(A*t.2+(l.2.2-h.2.2)*t.1)*t'.2:=by omega
   exact Int.pos_of_mul_pos_left k (by omega)
 · omega
 have z:l.2.2-h.2.2=0:=by omega
 rw [z] at hl hn;have:A=0:=by
  have:A*t'.2=0:=by omega
  rcases Int.mul_eq_zero.1 this with h|h
  · exact h
  omega
 subst this;exact hn (.inr ⟨by omega,.inr ⟨h2,h3⟩⟩)
theorem F4 {h l:Pt} {t t':Int×Int} (hh:fh h) (hl:fh l) (r:aW t) (r':aW t') (le:t.1*t'.2<=t'.1*t.2) (up:(jI h l t).2=ab5->t'.1*(jI h l t).1.2<=(jI h l t).1.1*t'.2):
 jI h l t'=jI h l t:=by
 unfold jI at*
 by_cases h1:leads l h t
 · rw [rc h1] at up ⊢
   have e:t=t':=yW r r' (by have:=up rfl;dsimp only at this;omega);subst e;rw [rc h1]
 rw [ut h1] at up ⊢
 by_cases h2:h.2.2<l.2.2
 · rw [rc h2] at up ⊢
   obtain ⟨_,m1,m2,m3⟩:=tT hh hl (show h.2.2≠l.2.2 by omega);have up:=up rfl;dsimp only at up
   by_cases h3:leads l h t'
   · rw [rc h3]
     have:t'=met h l:=by
      refine yW r' m1 ?_;have g:0<=wR l h t':=by rcases h3 with k|k<;>omega
      rw [By] at g;generalize met h l=m at*;have d:=m1.1;have hB:0<l.2.2-h.2.2:=by omega
      generalize l.2.2-h.2.2=B at*;generalize hA:h.2.1-l.2.1=A at*;have g2:A*t'.2<=B*t'.1:=by
       have:(l.2.1-h.2.1)*t'.2= -(A*t'.2):=by rw [<- Int.neg_mul];congr 1;omega
       omega
      have g3:m.1*t'.2*B<=t'.1*m.2*B:=by
       have e1:m.1*t'.2*B=A*t'.2*m.2:=by rw [IR,m3,IR]
       have e2:t'.1*m.2*B=B*t'.1*m.2:=by rw [IR,aay t'.1 B]
       rw [e1,e2];exact aa9 g2 (by omega)
      have g4:m.1*t'.2<=t'.1*m.2:=aal g3 hB;omega
     rw [this]
   rw [ut h3]
 rw [ut h2] at up ⊢
 rw [ut (Dd r.1 r'.1 le h2 h1)]
theorem CI {a:aJ} (ok:dW a): ∀k,k<ab0 a.bv-> ¬less a.bv[k]! a.bv[0]!:=by
 have d: ∀w,w<ab0 a.bv->1<=(a.bv[w]!).2.1:=fun w hw=>(ok.ev w hw).1.1
 intro k
 induction k using Nat.strongRecOn with
 |ind k ih=>
  intro hk
  by_cases h0:k=0
  · subst h0;exact fun h=>mQ h h
  exact uQ (d 0 (by omega)) (d ((k-1) / 2) (by omega)) (d k hk) (ih ((k-1) / 2) (by omega) (by omega)) (ok.ord k (by omega) hk)
theorem Tx {h l:Pt} {t:Int×Int} (hh:fh h) (hl:fh l) (r:aW t) (is:(jI h l t).2=ab5):t.1*(jI h l t).1.2<=(jI h l t).1.1*t.2:=by
 unfold jI at*
 by_cases h1:leads l h t
 · rw [rc h1];exact aam _
 rw [ut h1] at is ⊢
 by_cases h2:h.2.2<l.2.2
 · rw [rc h2]
   obtain ⟨_,m1,m2,m3⟩:=tT hh hl (show h.2.2≠l.2.2 by omega);dsimp only;have g:wR l h t<=0:=Int.not_lt.1 fun k=>h1 (.inl k)
   rw [By] at g;generalize met h l=m at*;have d:=m1.1;have d2:=r.1;have hB:0<l.2.2-h.2.2:=by omega
   generalize l.2.2-h.2.2=B at*;generalize hA:h.2.1-l.2.1=A at*;have g2:B*t.1<=A*t.2:=by
    have:(l.2.1-h.2.1)*t.2= -(A*t.2):=by rw [<- Int.neg_mul];congr 1;omega
    omega
   have e1:t.1*m.2*B=B*t.1*m.2:=by rw [IR,aay t.1 B]
   have e2:m.1*t.2*B=A*t.2*m.2:=by rw [IR,m3,IR]
   have g3:t.1*m.2*B<=m.1*t.2*B:=by rw [e1,e2];exact aa9 g2 (by omega)
   exact aal g3 hB
 rw [ut h2] at is;cases is
theorem aT.time {l:List Pt} {t t':Int×Int} {H:List Ev}: ∀{cs ds:List qi},(∀x∈cs,bk l x.2 t'=bk l x.2 t)->aT l t H cs ds->aT l t' H cs ds
 | [],_,_,h=>h
 |x::cs,ds,hw,h=>by
  have e:=hw x UV;have ih: ∀{ds},aT l t H cs ds->aT l t' H cs ds:=fun {ds}=>aT.time fun y hy=>hw y (EQ _ hy)
  refine ⟨fun hy=>?_,fun hy=>?_⟩
  · rw [e] at hy
    obtain ⟨d,xF,h1,h2,h3,h4⟩:=h.1 hy;exact ⟨d,xF,h1,h2,by rw [e];exact h3,ih h4⟩
  rw [e] at hy
  exact ih (h.2 hy)
theorem wB {c:aI} (ok:aS c) (dE:0<ab0 c.aa.bv):
 ∃(i:Nat) (c':aI),i<ab0 c.af.ce/\(c.af.ce[i]!).1=Ev.num c.aa.bv[0]!/\fM c (Ev.num c.aa.bv[0]!)=ab1 (c',(c.af.ce[i]!).2,0)/\oW c (Ev.num c.aa.bv[0]!)=ab1 c'/\
  aS ⟨Ev.at c.aa.bv[0]!,c'.ii,c'.af,c'.aa,c'.io⟩/\c'.ii=c.ii/\c'.af=lT c.af i/\c.ci.1*(Ev.at c.aa.bv[0]!).2<=(Ev.at c.aa.bv[0]!).1*c.ci.2:=by
 have hm:=aN dE;obtain ⟨d,hd,hn⟩:=ok.yf _ hm;obtain ⟨x,hx,h1,h2,h3⟩:=ok.y8.io d hd;obtain ⟨w,hw,he⟩:=aP.1 h3;have hw0:w=0:=AC fun hx=>by refine ok.jU.nd 0 w (by omega) hw ?_;rw [he,<- hn,h1]
 subst hw0;obtain ⟨i,hi,rfl⟩:=aP.1 hx;have num:(c.af.ce[i]!).1=Ev.num c.aa.bv[0]!:=by rw [<- hn,h1]
 have tm:Ev.at c.aa.bv[0]! =(bk c.ii.am (c.af.ce[i]!).2 c.ci).1:=by rw [he]
 obtain ⟨c',r1,r2,r3,r4,r5,r6⟩:=To ok hi;have hb:=ok.known i hi;have pt:=fun (x:Int×Int) (hb:iy c.ii.am x)=>And.intro (fu ok.iD hb.2).1 (fu ok.iD hb.1).1
 have rt:=Bn (pt _ hb).1 (pt _ hb).2 ok.iz ok.iL h2;have ge:=Tx (pt _ hb).1 (pt _ hb).2 ok.iL h2;rw [num] at r1 r2;refine ⟨i,c',hi,num,r1,r2,?_,r4,r6,by rw [tm];exact ge⟩;have kn:=yj ok i hi;refine ⟨by rw [tm];exact rt.1,by rw [tm];exact rt.2,r3.iD,r3.rE,r3.jU,r3.Dz,r3.hd,r3.known,?_⟩;refine aT.time (t:=c'.ci) (fun y hy=>?_) r3.y8;have hy':y∈c.af.ce:=by rw [r6] at hy;exact (rj ok.sx hi hy).1
 obtain ⟨j,hj,rfl⟩:=aP.1 hy';have hbj:=ok.known j hj;rw [r4,r5];refine F4 (pt _ hbj).1 (pt _ hbj).2 ok.iL (by rw [tm];exact rt.1) (by rw [tm];exact ge) (fun is=>?_);obtain ⟨d',hd',k1,k2⟩:=ok.y8.has _ hy' is;obtain ⟨w,hw,he⟩:=aP.1 k2;have:=CI ok.jU w hw;rw [he] at this;exact Int.not_lt.1 fun k=>this (.inl (rf.2 k))
theorem DB {p q:Pt} {t:Int×Int} (hp:fh p) (hq:fh q) (ht:iJ t) (hr:aW t):lP p q t=ab1 (abe (leads p q t),if p.1=q.1 then 2 else 0)\/(p.1=q.1/\lP p q t=ab1 (aba,2)):=by
 unfold lP;rw [pG ht,rc ⟨hp,hq,hr⟩]
 by_cases h:p.1=q.1
 · right;simp [h]
 left
 simp only [h,if_false,ao,tg hp hq ht];have:abe (0<Mx p q t)=abe (leads p q t):=by simp only [Fy]
 simp [this]
end Go.Proofs.YthljmpcakagceaaGreat
namespace Go.Proofs.YthljmpcakagceaaGreat
open Go.Vm
theorem wC {α:Type} [BEq α] [LawfulBEq α]: ∀{a b:List α},a.Nodup->(∀x∈a,x∈b)->ab0 b<=ab0 a->a.Perm b
 | [],b,_,_,hl=>by rw [List.eq_nil_of_length_eq_zero (show (ab0 b)=0 by simpa using hl)]
 |x::a,b,hd,h,hl=>by
  rw [aau] at hd;have hx:=h x UV;have ih:=wC (a:=a) (b:=b.erase x) hd.2 (fun y hy=>by
   rw [List.mem_erase_of_ne (fun e=>hd.1 (by rw [<- e];exact hy))];exact h y (EQ _ hy)) (by
   rw [List.length_erase_of_mem hx];rw [NE] at hl;omega)
  exact (List.Perm.cons x ih).trans (List.perm_cons_erase hx).symm
theorem wD {α β:Type} {f:α->β}: ∀{l:List α},l.Nodup->(∀x∈l,∀y∈l,f x=f y->x=y)->(l.map f).Nodup
 | [],_,_=>List.nodup_nil
 |x::l,h,hi=>by rw [aau] at h;rw [List.map_cons,aau];refine ⟨fun hm=>?_,wD h.2 fun y hy z hz=>hi y (EQ _ hy) z (EQ _ hz)⟩;obtain ⟨y,hy,e⟩:=aaj.1 hm;have:=hi y (EQ _ hy) x UV e;rw [this] at hy;exact h.1 hy
end Go.Proofs.YthljmpcakagceaaGreat
namespace Go.Proofs.YthljmpcakagceaaGreat
open Go.Vm Classical
def CJ (l:List Int) (k:Nat):List (Int×Int):=(List.range k).map fun i=>(l[i+1]!,l[i / 2]!)
abbrev yl (l:List Int):List (Int×Int):=CJ l (ab0 l-1)
theorem Au (l:List Int) (k:Nat):(CJ l k).length=k:=by unfold CJ;rw [aaE,List.length_range]
theorem De (l:List Int) {k i:Nat} (h:i<k):(CJ l k)[i]! =(l[i+1]!,l[i / 2]!):=by rw [getElem!_pos _ i (by rw [Au];exact h)];unfold CJ;rw [List.getElem_map,List.getElem_range]
theorem KZ {l:List Int} (hd:l.Nodup):(yl l).Nodup:=by
 unfold yl CJ;refine wD List.nodup_range fun i hi j hj h=>?_
 rw [List.mem_range] at hi hj;have h1:l[i+1]! =l[j+1]!:=congrArg aaX h;have h2:=eL.1 hd;rcases aa2 i j with k|k|k
 · exact absurd h1 (h2 (i+1) (j+1) (by omega) (by omega))
 · exact k
 exact absurd h1.symm (h2 (j+1) (i+1) (by omega) (by omega))
theorem ZR {f:List Pt} (iI:bF f) {t:Int×Int} (lF:iJ t) {x:Int×Int} (hb:iy f x):vS x ⟨f⟩ t=ab1 (abe (leads (cd f x.2) (cd f x.1) t)):=by obtain ⟨h1,h2⟩:=hb;obtain ⟨j,j1,j2,j3⟩:=CG iI h1;obtain ⟨k,k1,k2,k3⟩:=CG iI h2;unfold vS;simp only [j2,k2,ao,aq f j j1,aq f k k1,j3,k3,Fz (fu iI h2).1 (fu iI h1).1 lF]
def Hu (f:List Pt):List Int:=f.map fun p=>p.1
theorem Hv {f:List Pt} (h:gR f):(Hu f).Nodup:=by
 refine wD ?_ ?_
 · exact eL.2 fun i j k9 hj e=>by have:=rD h k9 hj;rw [e] at this;omega
 intro x hx y hy e
 obtain ⟨i,hi,rfl⟩:=aP.1 hx;obtain ⟨j,hj,rfl⟩:=aP.1 hy;rw [mP h hi hj e]
theorem Oo {f:List Pt} {id:Int}:id∈Hu f↔sq f id:=by
 unfold Hu sq;rw [aaj];constructor
 · rintro ⟨p,hp,rfl⟩
   obtain ⟨i,hi,rfl⟩:=aP.1 hp;exact ⟨i,hi,rfl⟩
 rintro ⟨i,hi,rfl⟩
 exact ⟨f[i]!,aN hi,rfl⟩
structure sA (k:zq):Prop where
 Df:aS k.lc
 perm:(Hu k.lc.ii.am).Perm k.bv
 cert:(k.lc.af.ce.map fun x=>x.2).Perm (yl k.bv)
 lead: ∀e∈yl k.bv,leads (cd k.lc.ii.am e.2) (cd k.lc.ii.am e.1) k.lc.ci
theorem ym {c:bc} (ok:dU c):(c.ce.map fun x=>x.2).Nodup:=by
 refine wD ?_ ?_
 · exact eL.2 fun i j k9 hj e=>ok.nd i j k9 hj (by rw [e])
 intro x hx y hy e
 obtain ⟨i,hi,rfl⟩:=aP.1 hx;obtain ⟨j,hj,rfl⟩:=aP.1 hy;rcases aa2 i j with k|k|k
 · exact absurd e (ok.nd i j k hj)
 · rw [k]
 exact absurd e.symm (ok.nd j i k hi)
theorem qj {l:List qi} {x:Int×Int}:rh l x↔x∈l.map fun y=>y.2:=by
 unfold rh;rw [aaj];constructor
 · rintro ⟨i,hi,rfl⟩;exact ⟨l[i]!,aN hi,rfl⟩
 rintro ⟨y,hy,rfl⟩
 obtain ⟨i,hi,rfl⟩:=aP.1 hy;exact ⟨i,hi,rfl⟩
theorem ZS {c:aI} (ok:aS c) (es:List (Int×Int)) (kn: ∀x∈es,iy c.ii.am x):
 vT c es=ab1 (abe (ab0 c.af.ce=ab0 es/\ ∀i,i<ab0 es->rh c.af.ce es[i]!/\leads (cd c.ii.am (es[i]!).2) (cd c.ii.am (es[i]!).1) c.ci)):=by
 have bd:=ok.bd;unfold vT;simp only [ay]
 by_cases h0:(ab0 c.af.ce)=ab0 es
 case neg=>rw [dN (by omega),lw,aD (fun h=>h0 h.1)]
 rw [bV (by omega),pp];have key:=IN (body:=pB) (fun i=>(es,(i:Int),c.ci.1,c.ci.2,c.ii.am,c.af.aL,c.af.ce,c.aa.ae.ar,c.aa.ae.be,c.aa.ae.bi,c.aa.bv,c.aa.aj,c.io)) (ab0 es)
  (fun i=>rh c.af.ce es[i]!/\leads (cd c.ii.am (es[i]!).2) (cd c.ii.am (es[i]!).1) c.ci) (r:=aba) (e:=ab5) (fun i hi=>by
  have KV:bc.mk c.af.aL c.af.ce=c.af:=rfl;unfold pB;simp only [ay,aH (show (i:Int)<((ab0 es):Int) by omega),lw,aq es i hi,ao,KV,wz c.af es[i]! (by omega),ZR ok.iD (t:=(c.ci.1,c.ci.2)) ok.iz (kn _ (aN hi)),aV (show i<1000000000 by omega)]
  by_cases h1:rh c.af.ce es[i]!
  · rw [aH h1]
    by_cases h2:leads (cd c.ii.am (es[i]!).2) (cd c.ii.am (es[i]!).1) c.ci
    · rw [show abe (leads (cd c.ii.am (es[i]!).2) (cd c.ii.am (es[i]!).1) (c.ci.1,c.ci.2))=ab5 from aH h2]
      exact ⟨fun h=>absurd ⟨h1,h2⟩ h,fun _=>rfl⟩
    rw [show abe (leads (cd c.ii.am (es[i]!).2) (cd c.ii.am (es[i]!).1) (c.ci.1,c.ci.2))=aba from aD h2]
    exact ⟨fun _=>rfl,fun h=>absurd h.2 h2⟩
  · rw [aD h1]
    exact ⟨fun _=>rfl,fun h=>absurd h.1 h1⟩) (by
  unfold pB;simp only [ay,aD (show¬((ab0 es):Int)<((ab0 es):Int) by omega),pp])
 refine (show _=_ from key).trans ?_
 by_cases h2: ∀i,i<ab0 es->rh c.af.ce es[i]!/\leads (cd c.ii.am (es[i]!).2) (cd c.ii.am (es[i]!).1) c.ci
 · rw [rc h2,aH ⟨h0,h2⟩]
 rw [ut h2,aD (fun h=>h2 h.2)]
end Go.Proofs.YthljmpcakagceaaGreat
