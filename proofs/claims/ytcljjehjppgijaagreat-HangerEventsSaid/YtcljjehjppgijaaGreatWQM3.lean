/- Plain laws (3). -/
import Derived.Test.YtcljjehjppgijaaGreatWQM2
import Derived.Test.YtcljjehjppgijaaGreatWQTB
open Bool renaming not_true->lw,not_false->v6,and_self->aa9,true->abm,false->abn
open List renaming length_append->pp,mem_cons_of_mem->ww,length_drop->AC,length_cons->If,mem_append->IR,mem_cons_self->NE,length_singleton->PP,length_nil->aa1,mem_map->aa2,drop_zero->aa3,drop_length->aaH,length_set->ab2,nodup_cons->ab7,mem_cons->abe,length->abg
open Classical renaming byContradiction->ut,not_not->EQ
open Int renaming mul_right_comm->Do,mul_le_mul_of_nonneg_right->UV,le_of_mul_le_mul_right->aa4,le_refl->aa8,mul_assoc->aak,le_trans->aaI,mul_comm->aba,natAbs_mul->abd
open Nat renaming lt_trichotomy->aa5,le_refl->ab8,dvd_mul_left->abb,not_lt_zero->abc
open Prod renaming ext->ab9
open Option renaming some->abi
open Decidable renaming decide->abB
namespace Go.Proofs.YtcljjehjppgijaaGreat
open Go.Vm Classical
theorem Lk (c:aH) (n:Int) (hl:(abg c.io)<=1000000):(∀k,k<abg c.io->(c.io[k]!).1=n->(∀j,j<k->(c.io[j]!).1≠n)->qA c n=abi (k:Int))/\((∀k,k<abg c.io->(c.io[k]!).1≠n)->qA c n=abi (-1)):=by
 unfold qA;refine lL (body:=ou) (fun i=>(n,(i:Int),c.ci.1,c.ci.2,c.ii.am,c.af.aL,c.af.ce,c.aa.ae.ar,c.aa.ae.be,c.aa.ae.bi,c.aa.bv,c.aa.aj,c.io)) (abg c.io) (fun i=>(c.io[i]!).1=n) (fun i=>(i:Int)) (fun i hi=>?_) ?_
 · have e1:abB ((i:Int)<((abg c.io):Int))=abm:=aI (by omega)
   unfold ou;simp only [ay,e1,kw,aq c.io i hi,ao,aT (show i<1000000000 by omega)];constructor
   · intro h;rw [dL h];rfl
   intro h;rw [dB h];rfl
 unfold ou
 have:abB (((abg c.io):Int)<((abg c.io):Int))=abn:=aD (by omega);simp only [ay,this,lc]
theorem HT {ds:List pZ} (hu:Up ds) (hl:(abg ds)<=1000000) (n:Int):(∀k,k<abg ds->(ds[k]!).1=n->lH ds n=abi ((k:Int),abm))/\((∀k,k<abg ds->(ds[k]!).1≠n)-> ∃m:Nat,lH ds n=abi ((m:Int),abn)):=by
 have bs:=Ec ds n hl (rL.1 hu);unfold lH;rw [agZ];constructor
 · intro k hk he;rw [bs.1 k hk he];rfl
 intro h
 obtain ⟨m,_,_,_,e⟩:=bs.2 h;exact ⟨m,by rw [e];rfl⟩
theorem aU.bd {c:aH} (ok:aU c):(abg c.io)<=200/\abg c.ii.am<=64/\abg c.af.ce<=200:=by have:=ok.hd;have:=ok.kE.bd;have:=ok.lq.1;have:=ok.sN.len;omega
theorem jk {c:aH} (ok:aU c):o8 c=abi c:=by have bd:=ok.bd;unfold o8 wM wN;simp only [bj (show (abg c.ii.am)<=1048576 by omega),bj (show (abg c.af.ce)<=1048576 by omega),bj (show (abg c.io)<=1048576 by omega),ao,pY ok.kE]
theorem fS {c:aH} (ok:aU c):gD c=abi c:=by
 have bd:=ok.bd;have ab:=ok.kE.bd;have hl:=ok.kE.so.fl;have hn:=ok.kE.so.n2;have hu:=ok.kE.so.ul;unfold gD;simp only [bj (show (abg c.ii.am)<=1048576 by omega),bj (show (abg c.af.ce)<=1048576 by omega),bj (show (abg c.io)<=1048576 by omega),bj (show (abg c.aa.bv)<=1048576 by omega),bj (show (abg c.aa.aj)<=1048576 by omega),
  bj (show (abg c.aa.ae.ar)<=1048576 by omega),bj (show (abg c.aa.ae.be)<=1048576 by omega),bj (show (abg c.aa.ae.bi)<=1048576 by omega),ao]
theorem rM {cs:List pZ} {i:Nat} (hu:Up cs) (hi:i<abg cs) {x:pZ} (hx:x∈cs.eraseIdx i):x∈cs/\x.1≠(cs[i]!).1:=by
 rw [sL,IR] at hx;have ub:=rL.1 hu;rcases hx with hx|hx
 · obtain ⟨j,h1,h2,rfl⟩:=bY.1 hx
   have:=ub j i h1 hi;exact ⟨aQ h2,by omega⟩
 obtain ⟨j,hj,rfl⟩:=aO.1 hx
 rw [AC] at hj;rw [rR];have:=ub i (i+1+j) (by omega) (by omega);exact ⟨aQ (by omega),by omega⟩
theorem yF {c:aH} (ok:aU c) (i:Nat) (hi:i<abg c.af.ce): ∀j,j<(mg c.af i).ce.length->iz c.ii.am ((mg c.af i).ce[j]!).2:=by intro j hj;have hm:(mg c.af i).ce[j]!∈c.af.ce:=(rM ok.sO hi (aQ hj)).1;obtain ⟨m,hm1,Ro⟩:=aO.1 hm;rw [<- Ro];exact ok.known m hm1
theorem TZ {c:aH} (ok:aU c) {i:Nat} (hi:i<abg c.af.ce):
 ∃c':aH,fL c (c.af.ce[i]!).1=abi (c',(c.af.ce[i]!).2,0)/\o9 c (c.af.ce[i]!).1=abi c'/\aU c'/\c'.ii=c.ii/\c'.ci=c.ci/\c'.af=mg c.af i:=by
 have bd:=ok.bd;have rm:=Gj ok.sN hi (n:=(c.af.ce[i]!).1) rfl;have wo:=C2 ok.sN hi (n:=(c.af.ce[i]!).1) rfl;have fe:=ok.zX.erase (i:=i) hi;have pd:=HT ok.Gm (by omega) (c.af.ce[i]!).1;have da:=Lk c (c.af.ce[i]!).1 (by omega);cases hf:(bk c.ii.am (c.af.ce[i]!).2 c.ci).2 with
 |false=>
  have no: ∀k,k<abg c.io->(c.io[k]!).1≠(c.af.ce[i]!).1:=by
   intro k hk he;obtain ⟨x,hx,h1,h2,_⟩:=ok.zX.io _ (aQ hk);obtain ⟨j,hj,rfl⟩:=aO.1 hx;have ub:=rL.1 ok.sO;have:j=i:=by
    rcases aa5 j i with h|h|h
    · have:=ub j i h hi;omega
    · exact h
    have:=ub i j h hj;omega
   rw [this,hf] at h2;cases h2
  refine ⟨⟨c.ci,c.ii,mg c.af i,c.aa,c.io⟩,?_,?_,?_,rfl,rfl,rfl⟩
  · unfold fL
    obtain ⟨m,e⟩:=pd.2 no;simp only [rm,ao,show ((0:Int) !=0)=abn from rfl,lc,fS ok,e]
  · unfold o9
    simp only [jk ok,ao,wo,da.2 no,aD (show¬(0:Int)<= -1 by omega),lc]
  exact ⟨ok.iL,ok.iA,ok.lq,Gi ok.sN hi,ok.kE,ok.Gk,ok.hd,yF ok i hi,fe.1 hf⟩
 |true=>
  obtain ⟨k,hk,k1,k2,k3⟩:=fe.2 hf;obtain ⟨w,hw,gJ⟩:=aO.1 k2;have hh:(c.aa.bv[w]!).2.2.2=(c.io[k]!).2:=by rw [gJ]
  have ub:=rL.1 ok.Gm;have before: ∀j,j<k->(c.io[j]!).1≠(c.af.ce[i]!).1:=fun j hj he=>by have:=ub j k hj hk;omega
  have dl:(c.io.eraseIdx k).length=abg c.io-1:=OU hk;obtain ⟨L,d1,d2⟩:=Dx c.io k hk;refine ⟨⟨c.ci,c.ii,mg c.af i,dS c.aa w,c.io.eraseIdx k⟩,?_,?_,?_,rfl,rfl,rfl⟩
  · unfold fL
    simp only [rm,ao,show ((0:Int) !=0)=abn from rfl,lc,fS ok,pd.1 k hk k1,kw,aq c.io k hk,vp ok.kE hw ok.kE.fit hh,aT (show k<1000000000 by omega),Ni,d1,d2]
  · unfold o9
    have s1:fG c.io 0 (k:Int)=abi (c.io.take k):=kN c.io k (by omega);have s2:fG c.io ((k+1:Nat):Int) ((abg c.io):Int)=abi (c.io.drop (k+1)):=by unfold fG;rw [lm ⟨by omega,by omega,by omega⟩];simp only [Int.toNat_natCast];rw [List.take_of_length_le (by rw [AC];exact ab8 _)]
    have tl:(c.io.take k).length=k:=by rw [List.length_take];omega
    have dl2:(c.io.drop (k+1)).length=abg c.io- (k+1):=AC;simp only [jk ok,ao,wo,da.1 k hk k1 before,aI (show (0:Int)<=(k:Int) by omega),kw,aq c.io k hk,vq ok.kE hw hh,s1,bj (show (c.io.take k).length<=1048576 by omega),aT (show k<1000000000 by omega),ay,s2,
     cu (show (c.io.take k).length+(c.io.drop (k+1)).length<=1048576 by omega),sL]
    cases hem:(c.io.drop (k+1)).isEmpty with
    |true=>rw [List.isEmpty_iff] at hem;rw [hem,List.append_nil];rfl
    |false=>rfl
  have rem:=CZ ok.kE hw
  have Qw:=Ge ok.kE hw;have bU:(dS c.aa w).bv.length=abg c.aa.bv-1:=by
   have h1:=rem.hl;have h2:=ok.kE.hl;have h3:(dS c.aa w).ae=fb c.aa.ae (c.aa.bv[w]!).2.2.2:=by unfold dS;split<;>rfl
   rw [h3] at h1;change _+(c.aa.ae.bi++[_]).length=(abg c.aa.ae.ar) at h1;rw [pp] at h1;simp only [If,aa1] at h1;omega
  have ag1:(dS c.aa w).aj.length=200:=by
   have h1:=rem.wl;have h3:(dS c.aa w).ae=fb c.aa.ae (c.aa.bv[w]!).2.2.2:=by unfold dS;split<;>rfl
   rw [h3] at h1;change _=(abg c.aa.ae.ar) at h1;rw [h1,<- ok.kE.wl,ok.Gk]
  refine ⟨ok.iL,ok.iA,ok.lq,Gi ok.sN hi,rem,ag1,?_,yF ok i hi,?_⟩
  · show (dS c.aa w).bv.length=(c.io.eraseIdx k).length
    rw [bU,dl,ok.hd]
  refine k3.mono fun x hx e he hm=>(Qw e).2 ⟨hm,fun h=>?_⟩
  have:=(rM ok.sO hi hx).2;rw [h,gJ] at he;exact this he.symm
theorem DU {c:aH} (ok:aU c) {i:Nat} (_hi:i<abg c.af.ce) {c':aH} (h:fL c (c.af.ce[i]!).1=abi (c',(c.af.ce[i]!).2,0)):rC c (c.af.ce[i]!).1=abi (c',0):=by unfold rC;rw [jO ok.fit,lm ok];simp only [ao,show ((0:Int) !=0)=abn from rfl,lc,h]
abbrev dI:aH:=⟨(0,0),⟨[]⟩,⟨0,[]⟩,⟨⟨[],[],[]⟩,[],[]⟩,[]⟩
theorem I8 {l:List Pt} (ok:bo l) {id:Int} (h:nI l id): ¬(bF l id).1<0:=by obtain ⟨h1,_⟩:=dG ok h;have:=h1.1;omega
theorem aaw {c:aH} (ok:aU c) {x:Int×Int} (hx:eO x) (hb:iz c.ii.am x) (hn: ¬rI c.af.ce x):
 (gU c x=abi (dI,0,18)/\lK c x=abi (dI,0,18)/\(BP c.af\/ ¬xo c.aa.ae))\/
 ∃c':aH,gU c x=abi (c',c.af.aL,0)/\lK c x=abi (c',c.af.aL,0)/\aU c'/\c'.ii=c.ii/\c'.ci=c.ci/\c'.af=oz c.af x/\(c'.aa.ae=c.aa.ae\/c'.aa.ae=fY c.aa.ae):=by
 have bd:=ok.bd;have n0:=ok.sN.n0;have n1:=ok.sN.n1;have fit:=ok.fit;have ad:=Lf ok.sN hx;have rd:=I6 ok.sN hx;rw [ls hn] at ad rd;have hc:fE c=abi 0:=by rw [jO fit,lm ok]
 have p1:=lQ ok.lq x.1;have p2:=lQ ok.lq x.2;have q1:=I8 ok.lq hb.1;have q2:=I8 ok.lq hb.2;have wh:=uD ok.lq hx ok.iL ok.iA;rw [lm hb] at wh;have rw':=uE ok.lq ok.iA hb
 by_cases hf:BP c.af
 · rw [lm hf] at ad rd
   left;refine ⟨?_,?_,.inl hf⟩
   · unfold gU cS
     simp only [hc,ao,show ((0:Int) !=0)=abn from rfl,lc,ad,show ((18:Int)==8)=abn from rfl,p1,p2,aD q1,aD q2,show ((18:Int) !=0)=abm from rfl,kw]
   unfold lK
   simp only [rd,ao,show ((18:Int) !=0)=abm from rfl,kw]
 rw [ls hf] at ad rd;have cok:=Nk ok.sN hx hn hf;have T0: ∀j,j<(oz c.af x).ce.length->iz c.ii.am ((oz c.af x).ce[j]!).2:=by
  intro j hj;rw [zh] at hj;rw [sM]
  by_cases h:j<abg c.af.ce
  · rw [lm h];exact ok.known j h
  rw [ls h,lm (by omega)];exact hb
 have fresh: ∀e∈c.aa.bv,Ev.num e≠c.af.aL:=by intro e he dM;obtain ⟨d,hd,h1⟩:=ok.zu e he;obtain ⟨y,hy,h2,_⟩:=ok.zX.io d hd;obtain ⟨j,hj,rfl⟩:=aO.1 hy;have:=(ok.sN.nr j hj).2;omega
 have sn:=ok.zX.snoc (x:=(c.af.aL,x));cases hw:(bk c.ii.am x c.ci).2 with
 |false=>
  right;refine ⟨⟨c.ci,c.ii,oz c.af x,c.aa,c.io⟩,?_,?_,⟨ok.iL,ok.iA,ok.lq,cok,ok.kE,ok.Gk,ok.hd,T0,sn.1 hw⟩,rfl,rfl,rfl,.inl rfl⟩
  · unfold gU cS
    simp only [hc,ao,show ((0:Int) !=0)=abn from rfl,lc,ad,show ((0:Int)==8)=abn from rfl,p1,p2,aD q1,aD q2,fS ok,wh,hw]
  unfold lK
  simp only [rd,ao,show ((0:Int) !=0)=abn from rfl,lc,jk ok,rw',hw,v6,kw]
 |true=>
  obtain ⟨t1,t2⟩:=BI (dG ok.lq hb.2).1 (dG ok.lq hb.1).1 ok.iA ok.iL hw
  by_cases op:xo c.aa.ae
  · right
    have pu:=vj ok.kE op ok.kE.fit (t:=(bk c.ii.am x c.ci).1) (n:=c.af.aL) t1 t2 n0 n1 fresh;have rp:=xp ok.kE op (t:=(bk c.ii.am x c.ci).1) (n:=c.af.aL) t1 t2 n0 n1;have pok:=OS ok.kE op (t:=(bk c.ii.am x c.ci).1) (n:=c.af.aL) t1 t2 n0 n1 fresh;have Qx:=K9 ok.kE op (t:=(bk c.ii.am x c.ci).1) (n:=c.af.aL) t1;have ag3:=BN ok.kE op (t:=(bk c.ii.am x c.ci).1) (n:=c.af.aL) t1;have ap: ∀h:Int×Int,bm c.io [(c.af.aL,h)]=abi (c.io++[(c.af.aL,h)]):=fun h=>cu (by simp;omega)
    have ag1:(kf c.aa (bk c.ii.am x c.ci).1 c.af.aL).aj.length=200:=by have:=pok.wl;change _=(c.aa.ae.ar.set _ _).length at this;rw [ab2] at this;rw [this,<- ok.kE.wl,ok.Gk]
    refine ⟨⟨c.ci,c.ii,oz c.af x,kf c.aa (bk c.ii.am x c.ci).1 c.af.aL,c.io++[(c.af.aL,j9 c.aa.ae)]⟩,?_,?_,⟨ok.iL,ok.iA,ok.lq,cok,pok,ag1,?_,T0,?_⟩,rfl,rfl,rfl,.inr rfl⟩
    · unfold gU cS
      simp only [hc,ao,show ((0:Int) !=0)=abn from rfl,lc,ad,show ((0:Int)==8)=abn from rfl,p1,p2,aD q1,aD q2,fS ok,wh,hw,kw,pu,ap]
    · unfold lK
      simp only [rd,ao,show ((0:Int) !=0)=abn from rfl,lc,jk ok,rw',hw,lw,pW ok.kE.so,aI op,rp,ap]
    · show (kf c.aa (bk c.ii.am x c.ci).1 c.af.aL).bv.length=(c.io++[_]).length
      rw [ag3,pp,ok.hd];rfl
    have fm:aR c.ii.am c.ci (kf c.aa (bk c.ii.am x c.ci).1 c.af.aL).bv c.af.ce c.io:=ok.zX.mono fun y hy e he hm=>(Qx e).2 (.inr hm)
    exact (fm.snoc (x:=(c.af.aL,x))).2 _ hw rfl ((Qx _).2 (.inl rfl))
  left
  have pu:=vn ok.kE op ok.kE.fit (t:=(bk c.ii.am x c.ci).1) (n:=c.af.aL) t1 t2 n0 n1 fresh;refine ⟨?_,?_,.inr op⟩
  · unfold gU cS
    simp only [hc,ao,show ((0:Int) !=0)=abn from rfl,lc,ad,show ((0:Int)==8)=abn from rfl,p1,p2,aD q1,aD q2,fS ok,wh,hw,kw,pu,show ((18:Int) !=0)=abm from rfl]
  unfold lK
  simp only [rd,ao,show ((0:Int) !=0)=abn from rfl,lc,jk ok,rw',hw,lw,pW ok.kE.so,aD op,v6,kw]
theorem Up.inj {cs:List pZ} (h:Up cs) {x y:pZ} (hx:x∈cs) (hy:y∈cs) (he:x.1=y.1):x=y:=by
 obtain ⟨i,hi,rfl⟩:=aO.1 hx;obtain ⟨j,hj,rfl⟩:=aO.1 hy;have ub:=rL.1 h;rcases aa5 i j with h1|h1|h1
 · have:=ub i j h1 hj;omega
 · rw [h1]
 have:=ub j i h1 hi;omega
structure Gn (c:aH) (f:List Pt) (i k:Nat) (a:aJ) (ds:List pZ):Prop where
 ok:dZ a
 w2:(abg a.aj)=200
 new:aR f c.ci a.bv (c.af.ce.take i) ds
 old:aR c.ii.am c.ci a.bv (c.af.ce.drop i) (c.io.drop k)
 kl:k<=abg c.io
 cnt:(abg a.bv)=abg ds+(abg c.io-k)
theorem ag4 {a:aJ} (ok:dZ a) {w:Nat} (hw:w<abg a.bv):(dS a w).bv.length=abg a.bv-1/\(dS a w).aj.length=(abg a.aj):=by
 have rem:=CZ ok hw;have h3:(dS a w).ae=fb a.ae (a.bv[w]!).2.2.2:=by unfold dS;split<;>rfl
 have h1:=rem.hl;have h2:=ok.hl;have h4:=rem.wl;rw [h3] at h1 h4;change _+(a.ae.bi++[_]).length=(abg a.ae.ar) at h1;change _=(abg a.ae.ar) at h4;rw [pp] at h1;simp only [If,aa1] at h1;exact ⟨by omega,by rw [h4,ok.wl]⟩
theorem aax {a:aJ} {t:Int×Int} {n:Int} (ok:dZ a) (pok:dZ (kf a t n)):(kf a t n).aj.length=(abg a.aj):=by have:=pok.wl;change _=(a.ae.ar.set _ _).length at this;rw [ab2] at this;rw [this,ok.wl]
section
variable {c : aH} (ok : aU c) {f : List Pt} (dK : bo f) (kn : ∀ i, i < (abg c.af.ce) -> iz f (c.af.ce[i]!).2)
include ok
theorem BQ {i:Nat} {x:pZ} (hx:x∈c.af.ce.take i) (hi:i<abg c.af.ce):x.1≠(c.af.ce[i]!).1:=by obtain ⟨j,h1,h2,rfl⟩:=bY.1 hx;have:=ok.sN.up j i h1 hi;omega
theorem BS {i:Nat} {x:pZ} (hx:x∈c.af.ce.drop (i+1)) (hi:i<abg c.af.ce):x.1≠(c.af.ce[i]!).1:=by obtain ⟨j,h1,rfl⟩:=aO.1 hx;rw [AC] at h1;rw [rR];have:=ok.sN.up i (i+1+j) (by omega) (by omega);omega
theorem Qy {i k:Nat} {a:aJ} {ds:List pZ} (inv:Gn c f i k a ds) (hi:i<abg c.af.ce) (was:(bk c.ii.am (c.af.ce[i]!).2 c.ci).2=abn): ∀e∈a.bv,Ev.num e≠(c.af.ce[i]!).1:=by
 have u1:Up (c.af.ce.take i):=ok.sO.sublist (List.take_sublist _ _);have u2:Up (c.af.ce.drop i):=ok.sO.sublist (List.drop_sublist _ _);have d1:=inv.new.up u1;have d2:=inv.old.up u2;have akx: ∀x∈ds,∀y∈c.io.drop k,x.1<y.1:=by intro x hx y hy;obtain ⟨p,hp,h1,_⟩:=inv.new.io x hx;obtain ⟨q,hq,h2,_⟩:=inv.old.io y hy;obtain ⟨m,m1,m2,rfl⟩:=bY.1 hp;obtain ⟨n,n1,rfl⟩:=aO.1 hq;rw [AC] at n1;rw [rR] at h2;have:=ok.sN.up m (i+n) (by omega) (by omega);omega
 have nd:((ds++c.io.drop k).map fun x=>x.1).Nodup:=Lj (by show List.Pairwise _ _;rw [List.pairwise_append];exact ⟨d1,d2,akx⟩);have only:=Dy (H:=a.bv) nd (by rw [List.length_map,pp,AC,inv.cnt];exact ab8 _) (fun n hn=>by
  obtain ⟨x,hx,rfl⟩:=aa2.1 hn;rcases IR.1 hx with hx|hx
  · obtain ⟨p,hp,h1,h2,h3⟩:=inv.new.io x hx
    exact ⟨_,h3,h1.symm⟩
  obtain ⟨p,hp,h1,h2,h3⟩:=inv.old.io x hx
  exact ⟨_,h3,h1.symm⟩)
 intro e he dM;obtain ⟨x,hx,h1⟩:=aa2.1 (only e he);rcases IR.1 hx with hx|hx
 · obtain ⟨p,hp,h2,_⟩:=inv.new.io x hx
   exact BQ ok hp hi (by rw [<- h2,h1,dM])
 obtain ⟨p,hp,h2,h3,_⟩:=inv.old.io x hx
 have hp':p∈c.af.ce:=List.mem_of_mem_drop hp;have:=ok.sO.inj hp' (aQ hi) (by rw [<- h2,h1,dM]);rw [this,was] at h3;cases h3
def Qz (c:aH) (f:List Pt) (i:Nat) (a:aJ) (ds:List pZ):=
 (c.af.ce,((abg c.af.ce):Int),(i:Int),c.ci.1,c.ci.2,c.ii.am,c.af.aL,c.af.ce,c.aa.ae.ar,c.aa.ae.be,c.aa.ae.bi,c.aa.bv,c.aa.aj,c.io,f,(0:Int),(0:Int),(0:Int),c.ci.1,c.ci.2,c.af.aL,c.af.ce,a.ae.ar,a.ae.be,a.ae.bi,a.bv,a.aj,f,ds)
def QA (c:aH) (f:List Pt) (i:Nat) (a:aJ) (ds:List pZ):=
 ((i:Int),c.ci.1,c.ci.2,c.ii.am,c.af.aL,c.af.ce,c.aa.ae.ar,c.aa.ae.be,c.aa.ae.bi,c.aa.bv,c.aa.aj,c.io,f,(0:Int),(0:Int),(0:Int),c.ci.1,c.ci.2,f,c.af.aL,c.af.ce,a.ae.ar,a.ae.be,a.ae.bi,a.bv,a.aj,ds)
include dK kn
theorem T1 {i k:Nat} {a:aJ} {ds:List pZ} (inv:Gn c f i k a ds) (hi:i<abg c.af.ce) (UP:(abg ds)<=i):
 (cU (Qz c f i a ds)=abi (.done (.done (dI,18)))/\cd (QA c f i a ds)=abi (.done (dI,18)))\/
 ∃k' a' x6,cU (Qz c f i a ds)=abi (.next (Qz c f (i+1) a' x6))/\cd (QA c f i a ds)=abi (.next (QA c f (i+1) a' x6))/\Gn c f (i+1) k' a' x6/\abg x6<=i+1:=by
 have bd:=ok.bd;have e1:abB ((i:Int)<((abg c.af.ce):Int))=abm:=aI (by omega);have sc:=aT (show i<1000000000 by omega);have cg:=aq c.af.ce i hi;have hb:=kn i hi;have wn:=uD dK (x:=(c.af.ce[i]!).2) (t:=(c.ci.1,c.ci.2)) (ok.sN.cv i hi) ok.iL ok.iA;rw [lm hb] at wn;have wr:=uE dK (x:=(c.af.ce[i]!).2) (t:=(c.ci.1,c.ci.2)) ok.iA hb;have pd:=HT ok.Gm (by omega) (c.af.ce[i]!).1;have da:=Lk c (c.af.ce[i]!).1 (by omega);have dr:=rS hi;have tk:=dp hi;have old:=inv.old;rw [dr] at old;have Ll:aJ.mk (aS.mk a.ae.ar a.ae.be a.ae.bi) a.bv a.aj=a:=rfl
 have sP:(aH.mk (c.ci.1,c.ci.2) (Field.mk c.ii.am) (aZ.mk c.af.aL c.af.ce) (aJ.mk (aS.mk c.aa.ae.ar c.aa.ae.be c.aa.ae.bi) c.aa.bv c.aa.aj) c.io)=c:=rfl;have other: ∀x∈c.af.ce.take i,x.1≠(c.af.ce[i]!).1:=fun x hx=>BQ ok hx hi
 have T2: ∀x∈c.af.ce.drop (i+1),x.1≠(c.af.ce[i]!).1:=fun x hx=>BS ok hx hi
 cases aay:(bk c.ii.am (c.af.ce[i]!).2 c.ci).2 with
 |true=>
  obtain ⟨d,x6,U7,hd2,hd3,hd4⟩:=(aR.gZ aay).1 old;have hk:k<(abg c.io):=by
   refine ut fun h=>?_
   rw [List.drop_eq_nil_of_le (by omega)] at U7;cases U7
  have dk:=rS hk;rw [dk] at U7;injection U7 with hd5 hd6;subst hd5 hd6;obtain ⟨w,hw,gJ⟩:=aO.1 hd3;have hh:(a.bv[w]!).2.2.2=(c.io[k]!).2:=by rw [gJ]
  have aky:Ev.num a.bv[w]! =(c.af.ce[i]!).1:=by rw [gJ]
  have before: ∀j,j<k->(c.io[j]!).1≠(c.af.ce[i]!).1:=fun j hj he=>by have:=rL.1 ok.Gm j k hj hk;omega
  have pl:=pd.1 k hk hd2;have dq:=da.1 k hk hd2 before;have gk:=aq c.io k hk;have k0:abB ((0:Int)<=(k:Int))=abm:=aI (by omega);have ap:bm ds [c.io[k]!]=abi (ds++[c.io[k]!]):=cu (by simp;omega);cases Lm:(bk f (c.af.ce[i]!).2 c.ci).2 with
  |true=>
   right;have tt:aW (bk f (c.af.ce[i]!).2 c.ci).1/\iI (bk f (c.af.ce[i]!).2 c.ci).1:=BI (dG dK hb.2).1 (dG dK hb.1).1 ok.iA ok.iL Lm;obtain ⟨t1,t2⟩:=tt;have re:=DT inv.ok inv.ok.fit (t:=(bk f (c.af.ce[i]!).2 c.ci).1) hw hh t1 t2;have rr:=CY inv.ok (t:=(bk f (c.af.ce[i]!).2 c.ci).1) hw hh t1 t2;have rok:=TR inv.ok hw t1 t2;have Qw:=Qv inv.ok hw t1;have T3:=CX inv.ok hw t1;have stay: ∀(cs:List pZ),(∀x∈cs,x.1≠(c.af.ce[i]!).1)-> ∀x∈cs,∀e:Ev,e.num=x.1->e∈a.bv->e∈(jz a w (bk f (c.af.ce[i]!).2 c.ci).1).bv:=by
    intro cs qP x hx e he hm;refine (Qw e).2 (.inr ⟨hm,fun h=>qP x hx ?_⟩);rw [<- he,h,aky]
   refine ⟨k+1,jz a w (bk f (c.af.ce[i]!).2 c.ci).1,ds++[c.io[k]!],?_,?_,⟨rok,by rw [T3.2];exact inv.w2,?_,?_,by omega,?_⟩,by simp;omega⟩
   · unfold cU Qz
     simp only [e1,kw,cg,ao,wn,pl,Lm,gk,Ll,re,ap,show ((0:Int) !=0)=abn from rfl,lc,sc]
   · unfold cd QA
     simp only [ay,e1,kw,cg,ao,sP,dq,wr,Lm,k0,gk,Ll,rr,ap,lw,lc,sc]
   · rw [tk]
     exact ((inv.new.mono (stay _ other)).snoc (x:=c.af.ce[i]!)).2 _ Lm hd2 ((Qw _).2 (.inl (by show _=((bk f (c.af.ce[i]!).2 c.ci).1.1,(bk f (c.af.ce[i]!).2 c.ci).1.2,(a.bv[w]!).2.2);rw [gJ])))
   · exact hd4.mono (stay _ T2)
   rw [T3.1,inv.cnt,pp]
   simp only [If,aa1];omega
  |false=>
   right;have rv:=vp inv.ok hw inv.ok.fit hh;have rr:=vq inv.ok hw hh;have rok:=CZ inv.ok hw;have Qw:=Ge inv.ok hw;have T3:=ag4 inv.ok hw;have stay: ∀(cs:List pZ),(∀x∈cs,x.1≠(c.af.ce[i]!).1)-> ∀x∈cs,∀e:Ev,e.num=x.1->e∈a.bv->e∈(dS a w).bv:=by intro cs qP x hx e he hm;refine (Qw e).2 ⟨hm,fun h=>qP x hx ?_⟩;rw [<- he,h,aky]
   refine ⟨k+1,dS a w,ds,?_,?_,⟨rok,by rw [T3.2];exact inv.w2,?_,hd4.mono (stay _ T2),by omega,?_⟩,by omega⟩
   · unfold cU Qz
     simp only [e1,kw,cg,ao,wn,pl,Lm,gk,Ll,rv,show ((0:Int) !=0)=abn from rfl,lc,sc]
   · unfold cd QA
     simp only [ay,e1,kw,cg,ao,sP,dq,wr,Lm,k0,gk,Ll,rr,v6,lc,sc]
   · rw [tk]
     exact ((inv.new.mono (stay _ other)).snoc (x:=c.af.ce[i]!)).1 Lm
   have:=inv.cnt
   rw [T3.1];omega
 |false=>
  have zX:=(aR.fN aay).1 old;have no: ∀j,j<abg c.io->(c.io[j]!).1≠(c.af.ce[i]!).1:=by intro j hj he;obtain ⟨x,hx,h1,h2,_⟩:=ok.zX.io _ (aQ hj);have:=ok.sO.inj hx (aQ hi) (by rw [<- h1,he]);rw [this,aay] at h2;cases h2
  obtain ⟨m,pl⟩:=pd.2 no;have dq:=da.2 no;have k0:abB ((0:Int)<= -1)=abn:=aD (by omega);cases Lm:(bk f (c.af.ce[i]!).2 c.ci).2 with
  |true=>
   have tt:aW (bk f (c.af.ce[i]!).2 c.ci).1/\iI (bk f (c.af.ce[i]!).2 c.ci).1:=BI (dG dK hb.2).1 (dG dK hb.1).1 ok.iA ok.iL Lm;obtain ⟨t1,t2⟩:=tt;have n0:=(ok.sN.nr i hi).1;have n1:(c.af.ce[i]!).1<=1000000:=by have:=(ok.sN.nr i hi).2;have:=ok.sN.n1;omega
   have fresh:=Qy ok inv hi aay
   by_cases op:xo a.ae
   · right
     have pu:=vj inv.ok op inv.ok.fit (t:=(bk f (c.af.ce[i]!).2 c.ci).1) (n:=(c.af.ce[i]!).1) t1 t2 n0 n1 fresh;have rp:=xp inv.ok op (t:=(bk f (c.af.ce[i]!).2 c.ci).1) (n:=(c.af.ce[i]!).1) t1 t2 n0 n1;have pok:=OS inv.ok op (t:=(bk f (c.af.ce[i]!).2 c.ci).1) (n:=(c.af.ce[i]!).1) t1 t2 n0 n1 fresh;have Qx:=K9 inv.ok op (t:=(bk f (c.af.ce[i]!).2 c.ci).1) (n:=(c.af.ce[i]!).1) t1;have ag3:=BN inv.ok op (t:=(bk f (c.af.ce[i]!).2 c.ci).1) (n:=(c.af.ce[i]!).1) t1;have ap: ∀h:Int×Int,bm ds [((c.af.ce[i]!).1,h)]=abi (ds++[((c.af.ce[i]!).1,h)]):=fun h=>cu (by simp;omega)
     have opn:=pW inv.ok.so;rw [aI op] at opn;refine ⟨k,kf a (bk f (c.af.ce[i]!).2 c.ci).1 (c.af.ce[i]!).1,ds++[((c.af.ce[i]!).1,j9 a.ae)],?_,?_,⟨pok,by rw [aax inv.ok pok];exact inv.w2,?_,?_,inv.kl,?_⟩,by simp;omega⟩
     · unfold cU Qz
       simp only [e1,kw,cg,ao,wn,pl,Lm,Ll,pu,ap,show ((0:Int) !=0)=abn from rfl,lc,sc]
     · unfold cd QA
       simp only [ay,e1,kw,cg,ao,sP,dq,wr,Lm,k0,Ll,rp,ap,lw,lc,sc,opn]
     · rw [tk]
       exact ((inv.new.mono fun x hx e he hm=>(Qx e).2 (.inr hm)).snoc (x:=c.af.ce[i]!)).2 _ Lm rfl ((Qx _).2 (.inl rfl))
     · exact zX.mono fun x hx e he hm=>(Qx e).2 (.inr hm)
     have:=inv.cnt
     rw [ag3,pp];simp only [If,aa1];omega
   left
   have pu:=vn inv.ok op inv.ok.fit (t:=(bk f (c.af.ce[i]!).2 c.ci).1) (n:=(c.af.ce[i]!).1) t1 t2 n0 n1 fresh;have ap: ∀h:Int×Int,bm ds [((c.af.ce[i]!).1,h)]=abi (ds++[((c.af.ce[i]!).1,h)]):=fun h=>cu (by simp;omega)
   have opn:=pW inv.ok.so;rw [aD op] at opn;constructor
   · unfold cU Qz
     simp only [e1,kw,cg,ao,wn,pl,Lm,Ll,pu,ap,show ((18:Int) !=0)=abm from rfl,lc]
   unfold cd QA
   simp only [ay,e1,kw,cg,ao,sP,dq,wr,Lm,k0,Ll,lw,v6,lc,opn]
  |false=>
   right;refine ⟨k,a,ds,?_,?_,⟨inv.ok,inv.w2,?_,zX,inv.kl,inv.cnt⟩,by omega⟩
   · unfold cU Qz
     simp only [e1,kw,cg,ao,wn,pl,Lm,show ((0:Int) !=0)=abn from rfl,lc,sc]
   · unfold cd QA
     simp only [ay,e1,kw,cg,ao,sP,dq,wr,Lm,k0,v6,lc,sc]
   rw [tk]
   exact (inv.new.snoc (x:=c.af.ce[i]!)).1 Lm
theorem akA:
 (nB c ⟨f⟩=abi (dI,18)/\mH c ⟨f⟩=abi (dI,18))\/
 ∃c':aH,nB c ⟨f⟩=abi (c',0)/\mH c ⟨f⟩=abi (c',0)/\aU c'/\c'.ii.am=f/\c'.ci=c.ci/\c'.af=c.af:=by
 have bd:=ok.bd;have f64:=dK.1;have run: ∀(d i k:Nat) (a:aJ) (ds:List pZ),abg c.af.ce-i<=d->i<=abg c.af.ce->Gn c f i k a ds->abg ds<=i->
  (aB cU (Qz c f i a ds)=abi (.done (dI,18))/\aB cd (QA c f i a ds)=abi (dI,18))\/
  ∃c':aH,aB cU (Qz c f i a ds)=abi (.done (c',0))/\aB cd (QA c f i a ds)=abi (c',0)/\aU c'/\c'.ii.am=f/\c'.ci=c.ci/\c'.af=c.af:=by
  have fin: ∀(k:Nat) (a:aJ) (ds:List pZ),Gn c f (abg c.af.ce) k a ds-> ∃c':aH,aB cU (Qz c f (abg c.af.ce) a ds)=abi (.done (c',0))/\aB cd (QA c f (abg c.af.ce) a ds)=abi (c',0)/\aU c'/\c'.ii.am=f/\c'.ci=c.ci/\c'.af=c.af:=by
   intro k a ds inv;have e1:abB (((abg c.af.ce):Int)<((abg c.af.ce):Int))=abn:=aD (by omega);have hk:(abg c.io)-k=0:=by have:=inv.old;rw [aaH] at this;have:c.io.drop k=[]:=this;rw [List.drop_eq_nil_iff] at this;omega
   have new:=inv.new;rw [List.take_length] at new;refine ⟨⟨c.ci,⟨f⟩,c.af,a,ds⟩,aC ?_,aC ?_,⟨ok.iL,ok.iA,dK,ok.sN,inv.ok,inv.w2,?_,kn,new⟩,rfl,rfl,rfl⟩
   · unfold cU Qz
     simp only [e1,lc]
   · unfold cd QA
     simp only [ay,e1,lc]
   have:=inv.cnt
   show (abg a.bv)=abg ds;omega
  intro d
  induction d with
  |zero=>
   intro i k a ds hd hi inv UP;have:i=(abg c.af.ce):=by omega
   subst this;exact .inr (fin k a ds inv)
  |succ d ih=>
   intro i k a ds hd hi inv UP
   by_cases he:i=abg c.af.ce
   · subst he;exact .inr (fin k a ds inv)
   rcases T1 ok dK kn inv (by omega) UP with ⟨h1,h2⟩|⟨k',a',x6,h1,h2,h3,h4⟩
   · exact .inl ⟨aC h1,aC h2⟩
   rw [aV h1,aV h2]
   exact ih (i+1) k' a' x6 (by omega) (by omega) h3 h4
 have start:=run (abg c.af.ce) 0 0 c.aa [] (by omega) (by omega) ⟨ok.kE,ok.Gk,rfl,by rw [aa3,aa3];exact ok.zX,by omega,by have:=ok.hd;simp;omega⟩ (by simp);have hc:fE c=abi 0:=by rw [jO ok.fit,lm ok]
 have hf:fD ⟨f⟩=abi 0:=by rw [lO];exact congrArg abi (lN.2 dK)
 have tw:=fS ok;have tw':gD (aH.mk (c.ci.1,c.ci.2) (Field.mk c.ii.am) (aZ.mk c.af.aL c.af.ce) (aJ.mk (aS.mk c.aa.ae.ar c.aa.ae.be c.aa.ae.bi) c.aa.bv c.aa.aj) c.io)=abi c:=tw;have first:aB jF (c.af.ce,((abg c.af.ce):Int),0,c.ci.1,c.ci.2,c.ii.am,c.af.aL,c.af.ce,c.aa.ae.ar,c.aa.ae.be,c.aa.ae.bi,c.aa.bv,c.aa.aj,c.io,f,0,0,0)=
  aB jF (c.af.ce,((abg c.af.ce):Int),((abg c.af.ce):Int),c.ci.1,c.ci.2,c.ii.am,c.af.aL,c.af.ce,c.aa.ae.ar,c.aa.ae.be,c.aa.ae.bi,c.aa.bv,c.aa.aj,c.io,f,0,0,0):=by
  refine bD (body:=jF) (fun i=>(c.af.ce,((abg c.af.ce):Int),(i:Int),c.ci.1,c.ci.2,c.ii.am,c.af.aL,c.af.ce,c.aa.ae.ar,c.aa.ae.be,c.aa.ae.bi,c.aa.bv,c.aa.aj,c.io,f,0,0,0)) (abg c.af.ce) (fun i hi=>?_);have e1:abB ((i:Int)<((abg c.af.ce):Int))=abm:=aI (by omega);unfold jF;simp only [e1,kw,aq c.af.ce i hi,ao,lQ dK,aD (I8 dK (kn i hi).1),aD (I8 dK (kn i hi).2),lc,aT (show i<1000000000 by omega)]
 have T4: ∀r,aB cU (Qz c f 0 c.aa [])=abi (.done r)->nB c ⟨f⟩=abi r:=by intro r hr;unfold nB;simp only [hc,ao,show ((0:Int) !=0)=abn from rfl,lc,hf,ay];rw [first];refine aC ?_;unfold jF;have e1:abB (((abg c.af.ce):Int)<((abg c.af.ce):Int))=abn:=aD (by omega);simp only [ay,e1,lc,tw',ao,bj (show (abg f)<=1048576 by omega)];exact hr
 have abX: ∀r,aB cd (QA c f 0 c.aa [])=abi r->mH c ⟨f⟩=abi r:=by intro r hr;unfold mH wM;simp only [jk ok,ao,bj (show (abg f)<=1048576 by omega)];exact hr
 rcases start with ⟨h1,h2⟩|⟨c',h1,h2,h3⟩
 · exact .inl ⟨T4 _ h1,abX _ h2⟩
 exact .inr ⟨c',T4 _ h1,abX _ h2,h3⟩
end
theorem mL (l:List (Int×Int)) (x:Int×Int) (hl:(abg l)<=1000000):eM l x=abi (abB (x∈l)):=by
 unfold eM og;have key:=lL (body:=iY) (fun i=>(l,((abg l):Int),(i:Int),x)) (abg l) (fun i=>l[i]! =x) (fun i=>(i:Int)) (e:= -1) (fun i hi=>by
  have e1:abB ((i:Int)<((abg l):Int))=abm:=aI (by omega);unfold iY;simp only [e1,kw,aq l i hi,ao,aT (show i<1000000000 by omega)];generalize l[i]! =y;constructor
  · intro h;rw [dL (congrArg Prod.fst h.symm),dL (congrArg Prod.snd h.symm)];rfl
  · intro h
    by_cases h1:x.1=y.1
    · rw [dL h1,dB (fun h2=>h (ab9 h1.symm h2.symm))];rfl
    rw [dB h1];rfl) (by
  unfold iY;have:abB (((abg l):Int)<((abg l):Int))=abn:=aD (by omega);simp only [this,lc])
 rw [ay]
 by_cases hx:x∈l
 · obtain ⟨i,hi,he⟩:=aO.1 hx
   obtain ⟨k,h1,h2,h3⟩:=least (c:=fun i=>l[i]! =x) ⟨i,hi,he⟩;have:=key.1 k h1 h2 h3;rw [show ((0:Nat):Int)=0 from rfl] at this;rw [this,aI hx];simp only [ao,aI (show (0:Int)<=(k:Int) by omega)]
 have:=key.2 fun i hi he=>hx (aO.2 ⟨i,hi,he⟩)
 rw [show ((0:Nat):Int)=0 from rfl] at this;rw [this,aD hx];rfl
theorem yG (l:List (Int×Int)) (x:Int×Int) (hl:(abg l)<=1000000):ve l x=abi (abB (x∈l)):=by
 unfold ve;have key:=cN (body:=tM) (fun i=>(l,(i:Int),x)) (abg l) (fun i=>l[i]! =x) (r:=abm) (e:=abn) (fun i hi=>by
  have e1:abB ((i:Int)<((abg l):Int))=abm:=aI (by omega);unfold tM;simp only [ay,e1,kw,aq l i hi,ao,aT (show i<1000000000 by omega)];generalize l[i]! =y;constructor
  · intro h;rw [dL (congrArg Prod.fst h),dL (congrArg Prod.snd h)];rfl
  · intro h
    by_cases h1:y.1=x.1
    · rw [dL h1,dB (fun h2=>h (ab9 h1 h2))];rfl
    rw [dB h1];rfl) (by
  unfold tM;have:abB (((abg l):Int)<((abg l):Int))=abn:=aD (by omega);simp only [ay,this,lc])
 by_cases hx:x∈l
 · rw [aI hx];exact key.1 (aO.1 hx)
 rw [aD hx];exact key.2 fun i hi he=>hx (aO.2 ⟨i,hi,he⟩)
theorem T5 (x y:pZ):((x.1==y.1)&&((x.2.1==y.2.1)&&(x.2.2==y.2.2)))=abB (x=y):=by
 rw [Bool.eq_iff_iff,decide_eq_true_iff];simp only [Bool.and_eq_true,beq_iff_eq];constructor
 · rintro ⟨h1,h2,h3⟩;exact ab9 h1 (ab9 h2 h3)
 rintro rfl;exact ⟨rfl,rfl,rfl⟩
theorem Dz (a b:List pZ) (hl:(abg a)<=1000000):sE ⟨a⟩ ⟨b⟩=abi (abB (a=b)):=by
 unfold sE;simp only [ay]
 by_cases h:(abg a)=abg b
 case neg=>rw [dd (by omega),aD (fun k=>h (by rw [k]))];rfl
 rw [bL (by omega)];simp only [lc];have key:=cN (body:=pR) (fun i=>((i:Int),a,b)) (abg a) (fun i=> ¬a[i]! =b[i]!) (r:=abn) (e:=abm) (fun i hi=>by
  have e1:abB ((i:Int)<((abg a):Int))=abm:=aI (by omega);unfold pR;simp only [ay,e1,kw,aq a i hi,aq b i (by omega),ao,aT (show i<1000000000 by omega),T5];constructor
  · intro h;rw [aD h];rfl
  · intro h;rw [aI (EQ.1 h)];rfl) (by
  unfold pR;have:abB (((abg a):Int)<((abg a):Int))=abn:=aD (by omega);simp only [ay,this,lc])
 by_cases he:a=b
 · rw [aI he]
   exact key.2 fun i hi=>EQ.2 (by rw [he])
 rw [aD he]
 refine key.1 (ut fun hx=>he (qD h fun i hi=>?_));exact ut fun hn=>hx ⟨i,hi,hn⟩
theorem I9 (a b:List pZ) (hl:(abg a)<=1000000):jZ a b=abi (abB (a=b)):=by
 unfold jZ;simp only [ay]
 by_cases h:(abg a)=abg b
 case neg=>rw [dd (by omega),aD (fun k=>h (by rw [k]))];rfl
 rw [bL (by omega)];simp only [lc];have key:=cN (body:=iC) (fun i=>(a,b,((abg a):Int),(i:Int))) (abg a) (fun i=> ¬a[i]! =b[i]!) (r:=abn) (e:=abm) (fun i hi=>by
  have e1:abB ((i:Int)<((abg a):Int))=abm:=aI (by omega);unfold iC;simp only [e1,kw,aq a i hi,aq b i (by omega),ao,aT (show i<1000000000 by omega),T5];constructor
  · intro h;rw [aD h];rfl
  · intro h;rw [aI (EQ.1 h)];rfl) (by
  unfold iC;have:abB (((abg a):Int)<((abg a):Int))=abn:=aD (by omega);simp only [this,lc])
 by_cases he:a=b
 · rw [aI he]
   exact key.2 fun i hi=>EQ.2 (by rw [he])
 rw [aD he]
 refine key.1 (ut fun hx=>he (qD h fun i hi=>?_));exact ut fun hn=>hx ⟨i,hi,hn⟩
theorem QB {cs:List pZ} {m:Nat} {x:pZ} (hx:x∈cs) (dM:x.1≠(cs[m]!).1):x∈cs.eraseIdx m:=by
 obtain ⟨j,hj,rfl⟩:=aO.1 hx;have hjm:j≠m:=fun h=>dM (by rw [h])
 rw [sL,IR]
 by_cases h:j<m
 · exact .inl (bY.2 ⟨j,h,hj,rfl⟩)
 right
 rw [aO];refine ⟨j- (m+1),by rw [AC];omega,?_⟩;rw [rR]
 congr 1;omega
def kP (c0:aH) (f:List Pt) (es:List (Int×Int)) (i:Nat) (c:aH):=
 (es,c0.af.ce,((abg c0.af.ce):Int),(i:Int),c.ci.1,c.ci.2,c.ii.am,c.af.aL,c.af.ce,c.aa.ae.ar,c.aa.ae.be,c.aa.ae.bi,c.aa.bv,c.aa.aj,c.io,f,(0:Int),(0:Int),(0:Int))
def kR (c0:aH) (f:List Pt) (es:List (Int×Int)) (i:Nat) (c:aH):=
 (es,(i:Int),c0.ci.1,c0.ci.2,c0.ii.am,c0.af.aL,c0.af.ce,c0.aa.ae.ar,c0.aa.ae.be,c0.aa.ae.bi,c0.aa.bv,c0.aa.aj,c0.io,f,(0:Int),(0:Int),(0:Int),c.ci.1,c.ci.2,c.ii.am,c.af.aL,c.af.ce,c.aa.ae.ar,c.aa.ae.be,c.aa.ae.bi,c.aa.bv,c.aa.aj,c.io)
def eP (es:List (Int×Int)) (i:Nat) (c:aH):=
 (es,((abg es):Int),(i:Int),c.ci.1,c.ci.2,c.ii.am,c.af.aL,c.af.ce,c.aa.ae.ar,c.aa.ae.be,c.aa.ae.bi,c.aa.bv,c.aa.aj,c.io,(0:Int),(0:Int),(0:Int))
def eR (es:List (Int×Int)) (i:Nat) (c:aH):=
 (es,(i:Int),(0:Int),(0:Int),(0:Int),c.ci.1,c.ci.2,c.ii.am,c.af.aL,c.af.ce,c.aa.ae.ar,c.aa.ae.be,c.aa.ae.bi,c.aa.bv,c.aa.aj,c.io)
def fF (c:aH):Int:=c.af.aL- ((abg c.af.ce):Int)
structure Gp (c:aH) (f:List Pt) (es:List (Int×Int)) (r:aH):Prop where
 has: ∀e∈es,rI r.af.ce e
 sub: ∀x∈r.af.ce,x.2∈es
 ok:aU r
 lq:r.ii.am=f
 ci:r.ci=c.ci
 room:fF c<=fF r
def Roomy (c:aH) (k:Nat):Prop:=abg c.af.ce<=k/\c.af.aL<=k/\ ∀j,j<abg c.aa.ae.ar->c.aa.ae.ar[j]!<=k
theorem aR.len {l:List Pt} {t:Int×Int} {H:List Ev}: ∀{cs ds:List pZ},aR l t H cs ds->abg ds<=abg cs
 | [],ds,h=>by rw [show ds=[] from h];exact ab8 _
 |x::cs,ds,h=>by
  cases hy:(bk l x.2 t).2 with
  |true=>obtain ⟨d,x6,rfl,_,_,h4⟩:=h.1 hy;exact Nat.succ_le_succ h4.len
  |false=>exact Nat.le_succ_of_le (h.2 hy).len
theorem Roomy.T6 {c:aH} (ok:aU c) {k:Nat} (h:Roomy c k) (hk:k<=199): ¬(BP c.af\/ ¬xo c.aa.ae):=by
 obtain ⟨h1,h2,h3⟩:=h;have fl:=ok.zX.len;have hd:=ok.hd;have hl:=ok.kE.hl;have wl:=ok.kE.wl;have w2:=ok.Gk;rintro (h|h)
 · rcases h with h|h<;>omega
 refine h ⟨by omega,?_⟩
 have:=h3 _ (zd ok.kE.so (by omega)).1;omega
theorem Roomy.more {c c':aH} {k:Nat} (h:Roomy c k) {x:Int×Int} (hc:c'.af=oz c.af x) (hs:c'.aa.ae=c.aa.ae\/c'.aa.ae=fY c.aa.ae):Roomy c' (k+1):=by
 obtain ⟨h1,h2,h3⟩:=h;refine ⟨?_,?_,fun j hj=>?_⟩
 · rw [hc]
   show (c.af.ce++[(c.af.aL,x)]).length<=_;rw [pp,PP];omega
 · rw [hc]
   show c.af.aL+1<=_;omega
 rcases hs with e|e
 · rw [e] at hj ⊢
   have:=h3 j hj;omega
 rw [e] at hj ⊢
 change j<(c.aa.ae.ar.set _ _).length at hj;rw [ab2] at hj;show (c.aa.ae.ar.set (cH c.aa.ae) (c.aa.ae.ar[cH c.aa.ae]!+1))[j]!<=_;rw [bg];split
 · rename_i h;have:=h3 _ h.2;omega
 have:=h3 j hj;omega
structure Ed (f:List Pt) (es:List (Int×Int)):Prop where
 len:(abg es)<=1000000
 cv: ∀x∈es,eO x
 kn: ∀x∈es,iz f x
theorem T7 {c0:aH} (ok0:aU c0) {f:List Pt} {es:List (Int×Int)} (GX:Ed f es):
 ∀(d i:Nat) (c:aH),abg c0.af.ce-i<=d->i<=abg c0.af.ce->aU c->(∀x∈c0.af.ce.drop i,x∈c.af.ce)->(∀x∈c.af.ce,x∈c0.af.ce.drop i\/x.2∈es)->
  ∃c':aH,aB dO (kP c0 f es i c)=aB dO (kP c0 f es (abg c0.af.ce) c')/\aB cW (kR c0 f es i c)=aB cW (kR c0 f es (abg c0.af.ce) c')/\aU c'/\(∀x∈c'.af.ce,x.2∈es)/\c'.ii=c.ii/\c'.ci=c.ci/\fF c<=fF c':=by
 have bd:=ok0.bd;intro d
 induction d with
 |zero=>
  intro i c hd hi ok h1 h2;have:i=(abg c0.af.ce):=by omega
  subst this;refine ⟨c,rfl,rfl,ok,fun x hx=>?_,rfl,rfl,aa8 _⟩;rcases h2 x hx with h|h
  · rw [aaH] at h;cases h
  exact h
 |succ d ih=>
  intro i c hd hi ok h1 h2
  by_cases he:i=abg c0.af.ce
  · subst he
    refine ⟨c,rfl,rfl,ok,fun x hx=>?_,rfl,rfl,aa8 _⟩;rcases h2 x hx with h|h
    · rw [aaH] at h;cases h
    exact h
  have rZ:i<(abg c0.af.ce):=by omega
  have e1:abB ((i:Int)<((abg c0.af.ce):Int))=abm:=aI (by omega);have sc:=aT (show i<1000000000 by omega);have cg:=aq c0.af.ce i rZ;have dr:=rS rZ;have sP:(aH.mk (c.ci.1,c.ci.2) (Field.mk c.ii.am) (aZ.mk c.af.aL c.af.ce) (aJ.mk (aS.mk c.aa.ae.ar c.aa.ae.be c.aa.ae.bi) c.aa.bv c.aa.aj) c.io)=c:=rfl
  by_cases xw:(c0.af.ce[i]!).2∈es
  · have s1:dO (kP c0 f es i c)=abi (.next (kP c0 f es (i+1) c)):=by
     unfold dO kP;simp only [e1,kw,cg,ao,mL _ _ GX.len,aI xw,lw,lc,sc]
    have s2:cW (kR c0 f es i c)=abi (.next (kR c0 f es (i+1) c)):=by unfold cW kR;simp only [ay,e1,kw,cg,ao,yG _ _ GX.len,aI xw,lw,lc,sc]
    rw [aV s1,aV s2];refine ih (i+1) c (by omega) (by omega) ok (fun x hx=>h1 x (by rw [dr];exact ww _ hx)) (fun x hx=>?_);rcases h2 x hx with h|h
    · rw [dr] at h
      rcases abe.1 h with rfl|h
      · exact .inr xw
      exact .inl h
    exact .inr h
  have hm:=h1 (c0.af.ce[i]!) (by rw [dr];exact NE)
  obtain ⟨m,hm1,Ro⟩:=aO.1 hm;obtain ⟨c',r1,r2,r3,r4,r5,r6⟩:=TZ ok hm1;have rt:=DU ok hm1 r1;rw [Ro] at r2 rt;have s1:dO (kP c0 f es i c)=abi (.next (kP c0 f es (i+1) c')):=by unfold dO kP;simp only [e1,kw,cg,ao,mL _ _ GX.len,aD xw,v6,sc,sP,rt]
  have s2:cW (kR c0 f es i c)=abi (.next (kR c0 f es (i+1) c')):=by unfold cW kR;simp only [ay,e1,kw,cg,ao,yG _ _ GX.len,aD xw,v6,sc,sP,r2]
  rw [aV s1,aV s2];have cl:c'.af.ce=c.af.ce.eraseIdx m:=by rw [r6];rfl
  have xQ:fF c<=fF c':=by unfold fF;rw [r6];show _<=c.af.aL- (((c.af.ce.eraseIdx m).length:Nat):Int);rw [List.length_eraseIdx_of_lt hm1];omega
  have hs:(∀x∈c0.af.ce.drop (i+1),x∈c'.af.ce)/\(∀x∈c'.af.ce,x∈c0.af.ce.drop (i+1)\/x.2∈es):=by
   refine ⟨fun x hx=>?_,fun x hx=>?_⟩
   · rw [cl]
     refine QB (h1 x (by rw [dr];exact ww _ hx)) ?_;rw [Ro];exact BS ok0 hx rZ
   rw [cl] at hx
   obtain ⟨a1,a2⟩:=rM ok.sO hm1 hx;rw [Ro] at a2;rcases h2 x a1 with h|h
   · rw [dr] at h
     rcases abe.1 h with rfl|h
     · exact absurd rfl a2
     exact .inl h
   exact .inr h
  obtain ⟨d',q1,q2,q3,q4,q5,q6,q7⟩:=ih (i+1) c' (by omega) (by omega) r3 hs.1 hs.2;exact ⟨d',q1,q2,q3,q4,q5.trans r4,q6.trans r5,by omega⟩
theorem Ln {f:List Pt} (_fok:bo f) {es:List (Int×Int)} (GX:Ed f es):
 ∀(d i:Nat) (c:aH),abg es-i<=d->i<=abg es->aU c->c.ii.am=f->(∀x∈c.af.ce,x.2∈es)->(∀j,j<i->rI c.af.ce es[j]!)->
  ∃r:aH×Int,aB ew (eP es i c)=abi (.done r)/\aB dy (eR es i c)=abi (.done r)/\(r.2=0/\Gp c f es r.1\/r=(dI,18))/\(∀k,Roomy c k->k+(abg es-i)<=199->r.2=0):=by
 have el:=GX.len;have fin: ∀c:aH,aU c->c.ii.am=f->(∀x∈c.af.ce,x.2∈es)->(∀j,j<abg es->rI c.af.ce es[j]!)-> ∃r:aH×Int,aB ew (eP es (abg es) c)=abi (.done r)/\aB dy (eR es (abg es) c)=abi (.done r)/\(r.2=0/\Gp c f es r.1\/r=(dI,18))/\r.2=0:=by
  intro c ok hf hs hh;have e1:abB (((abg es):Int)<((abg es):Int))=abn:=aD (by omega);refine ⟨(c,0),aC ?_,aC ?_,.inl ⟨rfl,fun e he=>by obtain ⟨j,hj,q⟩:=aO.1 he;rw [<- q];exact hh j hj,hs,ok,hf,rfl,aa8 _⟩,rfl⟩
  · unfold ew eP
    simp only [e1,lc]
  unfold dy eR
  simp only [ay,e1,lc]
 intro d
 induction d with
 |zero=>
  intro i c hd hi ok hf hs hh;have:i=(abg es):=by omega
  subst this;obtain ⟨r,q1,q2,q3,q4⟩:=fin c ok hf hs hh;exact ⟨r,q1,q2,q3,fun _ _ _=>q4⟩
 |succ d ih=>
  intro i c hd hi ok hf hs hh
  by_cases he:i=abg es
  · subst he
    obtain ⟨r,q1,q2,q3,q4⟩:=fin c ok hf hs hh;exact ⟨r,q1,q2,q3,fun _ _ _=>q4⟩
  have bd:=ok.bd;have rZ:i<(abg es):=by omega
  have e1:abB ((i:Int)<((abg es):Int))=abm:=aI (by omega);have sc:=aT (show i<1000000000 by omega);have cg:=aq es i rZ;have sP:(aH.mk (c.ci.1,c.ci.2) (Field.mk c.ii.am) (aZ.mk c.af.aL c.af.ce) (aJ.mk (aS.mk c.aa.ae.ar c.aa.ae.be c.aa.ae.bi) c.aa.bv c.aa.aj) c.io)=c:=rfl;have Lo:aZ.mk c.af.aL c.af.ce=c.af:=rfl;have hc:=Ld c.af.ce es[i]! (by omega);have hr:=wW c.af es[i]! (by omega)
  by_cases xw:rI c.af.ce es[i]!
  · have s1:ew (eP es i c)=abi (.next (eP es (i+1) c)):=by
     unfold ew eP;simp only [e1,kw,cg,ao,C1,hc,aI xw,sc]
    have s2:dy (eR es i c)=abi (.next (eR es (i+1) c)):=by unfold dy eR;simp only [ay,e1,kw,cg,ao,Lo,hr,aI xw,sc]
    rw [aV s1,aV s2];obtain ⟨r,q1,q2,q3,q4⟩:=ih (i+1) c (by omega) (by omega) ok hf hs (fun j hj=>if q:j=i then by rw [q];exact xw else hh j (by omega));exact ⟨r,q1,q2,q3,fun k hk hl=>q4 k hk (by omega)⟩
  have hb:iz c.ii.am es[i]!:=by rw [hf];exact GX.kn _ (aQ rZ)
  rcases aaw ok (GX.cv _ (aQ rZ)) hb xw with ⟨r1,r2,full⟩|⟨c',r1,r2,r3,r4,r5,r6,r7⟩
  · refine ⟨(dI,18),aC ?_,aC ?_,.inr rfl,fun k hk hl=>absurd full (hk.T6 ok (by omega))⟩
    · unfold ew eP
      simp only [e1,kw,cg,ao,C1,hc,aD xw,lc,sP,r1,show ((18:Int) !=0)=abm from rfl]
    unfold dy eR
    simp only [ay,e1,kw,cg,ao,Lo,hr,aD xw,lc,sP,r2,show ((18:Int) !=0)=abm from rfl]
  have s1:ew (eP es i c)=abi (.next (eP es (i+1) c')):=by
   unfold ew eP;simp only [e1,kw,cg,ao,C1,hc,aD xw,lc,sP,r1,show ((0:Int) !=0)=abn from rfl,sc]
  have s2:dy (eR es i c)=abi (.next (eR es (i+1) c')):=by unfold dy eR;simp only [ay,e1,kw,cg,ao,Lo,hr,aD xw,lc,sP,r2,show ((0:Int) !=0)=abn from rfl,sc]
  rw [aV s1,aV s2];obtain ⟨r,q1,q2,q3,q6⟩:=ih (i+1) c' (by omega) (by omega) r3 (by rw [r4,hf]) (fun x hx=>by
   rw [r6] at hx;rcases IR.1 (show x∈c.af.ce++[(c.af.aL,es[i]!)] from hx) with h|h
   · exact hs x h
   · rw [List.mem_singleton.1 h];exact aQ rZ) (fun j hj=>by
   rw [r6];show rI (c.af.ce++[(c.af.aL,es[i]!)]) _
   by_cases q:j=i
   · rw [q];exact ⟨abg c.af.ce,by rw [pp,PP];omega,by rw [jM (ab8 _),Nat.sub_self];rfl⟩
   obtain ⟨w,w1,w2⟩:=hh j (by omega)
   exact ⟨w,by rw [pp];omega,by rw [ji w1];exact w2⟩)
  refine ⟨r,q1,q2,q3.imp (fun ⟨q4,q5⟩=>⟨q4,q5.has,q5.sub,q5.ok,q5.lq,q5.ci.trans r5,aaI ?_ q5.room⟩) id,fun k hk hl=>q6 (k+1) (hk.more r6 r7) (by omega)⟩;unfold fF;rw [r6];show _<=(c.af.aL+1) - (((c.af.ce++[(c.af.aL,es[i]!)]).length:Nat):Int);rw [pp,PP];omega
theorem aaz {c:aH} (ok:aU c) {f:List Pt} (dK:bo f) {es:List (Int×Int)} (GX:Ed f es):
 ∃r:aH×Int,qm c ⟨f⟩ es=abi r/\mI c ⟨f⟩ es=abi r/\(r.2=0/\Gp c f es r.1\/r=(dI,18)):=by
 have f64:=dK.1;obtain ⟨c',g1,g2,g3,g4,g5,g6,g7⟩:=T7 ok GX (abg c.af.ce) 0 c (by omega) (by omega) ok (fun x hx=>by rwa [aa3] at hx) (fun x hx=> .inl (by rwa [aa3]));have bd:=g3.bd;have e1:abB (((abg c.af.ce):Int)<((abg c.af.ce):Int))=abn:=aD (by omega);have ag5:qm c ⟨f⟩ es=aB dO (kP c f es 0 c):=rfl;have ag6:mI c ⟨f⟩ es=aB cW (kR c f es 0 c):=by unfold mI;simp only [jk ok,ao];rfl
 rw [ag5,ag6,g1,g2];have eq1:=I9 c'.ii.am f (by omega);have eq2:=Dz c'.ii.am f (by omega);have sP:(aH.mk (c'.ci.1,c'.ci.2) (Field.mk c'.ii.am) (aZ.mk c'.af.aL c'.af.ce) (aJ.mk (aS.mk c'.aa.ae.ar c'.aa.ae.be c'.aa.ae.bi) c'.aa.bv c'.aa.aj) c'.io)=c':=rfl
 by_cases hf:c'.ii.am=f
 · obtain ⟨r,i1,i2,i3,_⟩:=Ln dK GX (abg es) 0 c' (by omega) (by omega) g3 hf g4 (fun j hj=>absurd hj (abc j))
   refine ⟨r,aC ?_,aC ?_,i3.imp (fun ⟨q4,q5⟩=>⟨q4,q5.has,q5.sub,q5.ok,q5.lq,q5.ci.trans g6,aaI g7 q5.room⟩) id⟩
   · unfold dO kP
     simp only [e1,lc,eq1,aI hf,ao,lw];exact i1
   unfold cW kR
   simp only [ay,e1,lc,eq2,aI hf,ao,lw];exact i2
 have kn: ∀i,i<abg c'.af.ce->iz f (c'.af.ce[i]!).2:=fun i hi=>GX.kn _ (g4 _ (aQ hi))
 rcases akA g3 dK kn with ⟨a1,a2⟩|⟨c2,a1,a2,a3,a4,a5,a6⟩
 · refine ⟨(dI,18),aC ?_,aC ?_,.inr rfl⟩
   · unfold dO kP
     simp only [e1,lc,eq1,aD hf,ao,v6,kw,sP,a1,show ((18:Int) !=0)=abm from rfl]
   unfold cW kR
   simp only [ay,e1,lc,eq2,aD hf,ao,v6,kw,sP,a2,show ((18:Int) !=0)=abm from rfl]
 obtain ⟨r,i1,i2,i3,_⟩:=Ln dK GX (abg es) 0 c2 (by omega) (by omega) a3 a4 (by rw [a6];exact g4) (fun j hj=>absurd hj (abc j))
 refine ⟨r,aC ?_,aC ?_,i3.imp (fun ⟨q4,q5⟩=>⟨q4,q5.has,q5.sub,q5.ok,q5.lq,(q5.ci.trans a5).trans g6,aaI (aaI g7 (by unfold fF;rw [a6];exact aa8 _)) q5.room⟩) id⟩
 · unfold dO kP
   simp only [e1,lc,eq1,aD hf,ao,v6,kw,sP,a1,show ((0:Int) !=0)=abn from rfl];exact i1
 unfold cW kR
 simp only [ay,e1,lc,eq2,aD hf,ao,v6,kw,sP,a2,show ((0:Int) !=0)=abn from rfl];exact i2
theorem Gq {α:Type} [Inhabited α] {l:List α}:l.Nodup↔ ∀k,k<abg l->l[k]!∉l.take k:=by
 rw [ed];constructor
 · intro h k hk hm
   obtain ⟨i,h1,h2,h3⟩:=bY.1 hm;exact h i k h1 hk h3
 intro h i j lS hj he
 exact h j hj (bY.2 ⟨i,lS,by omega,he⟩)
theorem BT {α:Type} [Inhabited α] {l:List α} {P:α->Prop}:(∀x∈l,P x)↔ ∀i,i<abg l->P l[i]!:=by
 constructor
 · intro h i hi;exact h _ (aQ hi)
 intro h x hx
 obtain ⟨i,hi,rfl⟩:=aO.1 hx;exact h i hi
theorem C5 {σ ρ:Type} {body:σ->Option (Step σ ρ)} (st:Nat->σ) (n:Nat) (P:Nat->Prop) {r e:ρ} (h: ∀i,i<n->(¬P i->body (st i)=abi (.done r))/\(P i->body (st i)=abi (.next (st (i+1)))))
 (TA:body (st n)=abi (.done e)):aB body (st 0)=abi (if∀i,i<n->P i then e else r):=by
 have key:=cN (body:=body) st n (fun i=> ¬P i) (r:=r) (e:=e) (fun i hi=>⟨(h i hi).1,fun hn=>(h i hi).2 (EQ.1 hn)⟩) TA
 by_cases hx: ∀i,i<n->P i
 · rw [lm hx];exact key.2 fun i hi=>EQ.2 (hx i hi)
 rw [ls hx]
 obtain ⟨i,h⟩:=Classical.not_forall.1 hx;obtain ⟨hi,hx⟩:=Classical.not_imp.1 h;exact key.1 ⟨i,hi,hx⟩
theorem zY {f:List Pt} (dK:bo f) (id:Int): ∃p e,sx ⟨f⟩ id=abi (p,e)/\(e=0↔nI f id):=by
 have h1:=dK.1;have hc:fD ⟨f⟩=abi 0:=by rw [lO];exact congrArg abi (lN.2 dK)
 have bs:=Ec f id (by omega) (fun i j=>pj dK.2.2);unfold sx yp AH;rw [aau];simp only [hc,ao,show ((0:Int) !=0)=abn from rfl,lc]
 by_cases h:nI f id
 · obtain ⟨k,hk,he⟩:=h
   rw [bs.1 k hk he];refine ⟨f[k]!,0,?_,fun _=>⟨k,hk,he⟩,fun _=>rfl⟩;simp only [ao,lw,lc,show ((0:Int) !=0)=abn from rfl,aq f k hk]
 obtain ⟨m,_,_,_,e⟩:=bs.2 (fun k hk he=>h ⟨k,hk,he⟩)
 rw [e];exact ⟨(0,0,0),6,rfl,fun h=>(by cases h),fun k=>absurd k h⟩
structure OV (c:aH):Prop where
 f:(abg c.ii.am)<=1000000
 l:(abg c.af.ce)<=1000000
 d:(abg c.io)<=1000000
 h:(abg c.aa.bv)<=1000000
 w:(abg c.aa.aj)<=1000000
 s1:(abg c.aa.ae.ar)<=1000000
 s2:(abg c.aa.ae.be)<=1000000
 s3:(abg c.aa.ae.bi)<=1000000
theorem aU.short {c:aH} (ok:aU c):OV c:=by have bd:=ok.bd;have ab:=ok.kE.bd;have sl:=ok.kE.so.fl;have sn:=ok.kE.so.n2;have su:=ok.kE.so.ul;exact ⟨by omega,by omega,by omega,by omega,by omega,by omega,by omega,by omega⟩
theorem C6 (l:List Int) (hl:(abg l)<=1000000):jK l l=abi abm:=by
 unfold jK;rw [bL rfl];refine (bD (body:=lf) (fun i=>(l,l,(i:Int))) (abg l) fun i hi=>?_).trans (aC ?_)
 · have e1:abB ((i:Int)<((abg l):Int))=abm:=aI (by omega)
   unfold lf;simp only [ay,e1,kw,aq l i hi,ao,aT (show i<1000000000 by omega),bL rfl,lc]
 unfold lf
 have:abB (((abg l):Int)<((abg l):Int))=abn:=aD (by omega);simp only [ay,this,lc]
theorem Nl (l:List Bool) (hl:(abg l)<=1000000):mS l l=abi abm:=by
 unfold mS;rw [bL rfl];refine (bD (body:=j8) (fun i=>(l,l,(i:Int))) (abg l) fun i hi=>?_).trans (aC ?_)
 · have e1:abB ((i:Int)<((abg l):Int))=abm:=aI (by omega)
   unfold j8;simp only [ay,e1,kw,aq l i hi,ao,aT (show i<1000000000 by omega),beq_self_eq_true,lw,lc]
 unfold j8
 have:abB (((abg l):Int)<((abg l):Int))=abn:=aD (by omega);simp only [ay,this,lc]
theorem Nn (c:aZ) (hl:(abg c.ce)<=1000000):wI c c=abi abm:=by
 unfold wI;rw [bL rfl,bL rfl];refine (bD (body:=pS) (fun i=>((i:Int),c.aL,c.ce,c.aL,c.ce)) (abg c.ce) fun i hi=>?_).trans (aC ?_)
 · have e1:abB ((i:Int)<((abg c.ce):Int))=abm:=aI (by omega)
   unfold pS;simp only [ay,e1,kw,aq c.ce i hi,ao,aT (show i<1000000000 by omega),beq_self_eq_true,aa9,lw,lc]
 unfold pS
 have:abB (((abg c.ce):Int)<((abg c.ce):Int))=abn:=aD (by omega);simp only [ay,this,lc]
theorem Lp (a:aJ) (h1:(abg a.bv)<=1000000) (h2:(abg a.aj)<=1000000) (h3:(abg a.ae.ar)<=1000000) (h4:(abg a.ae.be)<=1000000) (h5:(abg a.ae.bi)<=1000000):wJ a a=abi abm:=by
 unfold wJ AN;simp only [C6 _ h3,Nl _ h4,C6 _ h5,C6 _ h2,ao,kw,lw,lc];rw [bL rfl];refine (bD (body:=pT) (fun i=>((i:Int),a.ae.ar,a.ae.be,a.ae.bi,a.bv,a.aj,a.ae.ar,a.ae.be,a.ae.bi,a.bv,a.aj)) (abg a.bv) fun i hi=>?_).trans (aC ?_)
 · have e1:abB ((i:Int)<((abg a.bv):Int))=abm:=aI (by omega)
   unfold pT;simp only [ay,e1,kw,aq a.bv i hi,ao,aT (show i<1000000000 by omega),beq_self_eq_true,aa9,lw,lc]
 unfold pT
 have:abB (((abg a.bv):Int)<((abg a.bv):Int))=abn:=aD (by omega);simp only [ay,this,lc]
theorem No {c:aH} (sh:OV c):wK c c=abi abm:=by
 have hd:=sh.d;unfold wK;simp only [beq_self_eq_true,aa9,lw,lc,Dz c.ii.am c.ii.am sh.f,Nn _ sh.l,Lp _ sh.h sh.w sh.s1 sh.s2 sh.s3,ao,aI];rw [bL rfl];refine (bD (body:=pU) (fun i=>((i:Int),c.ci.1,c.ci.2,c.ii.am,c.af.aL,c.af.ce,c.aa.ae.ar,c.aa.ae.be,c.aa.ae.bi,c.aa.bv,c.aa.aj,c.io,c.ci.1,c.ci.2,c.ii.am,c.af.aL,c.af.ce,c.aa.ae.ar,c.aa.ae.be,c.aa.ae.bi,c.aa.bv,c.aa.aj,c.io)) (abg c.io) fun i hi=>?_).trans (aC ?_)
 · have e1:abB ((i:Int)<((abg c.io):Int))=abm:=aI (by omega)
   unfold pU;simp only [ay,e1,kw,aq c.io i hi,ao,aT (show i<1000000000 by omega),beq_self_eq_true,aa9,lw,lc]
 unfold pU
 have:abB (((abg c.io):Int)<((abg c.io):Int))=abn:=aD (by omega);simp only [ay,this,lc]
structure T8 (c:aH):Prop where
 ci:iI c.ci
 Nf: ∀w,w<abg c.aa.bv->iI ((c.aa.bv[w]!).1,(c.aa.bv[w]!).2.1)
theorem Lq (f:Field):qo f=abi abm\/(qo f=abi abn/\abg f.am<=70):=by
 unfold qo
 simp only [ay]
 by_cases h1:16<abg f.am
 · rw [aI (show (16:Int)<((abg f.am):Int) by omega)]
   by_cases h2:(abg f.am)<64
   · rw [aI (show ((abg f.am):Int)<64 by omega)];exact .inl rfl
   rw [aD (show¬((abg f.am):Int)<64 by omega)]
   by_cases h3:70<abg f.am
   · rw [aI (show (70:Int)<((abg f.am):Int) by omega)];exact .inl rfl
   rw [aD (show¬(70:Int)<((abg f.am):Int) by omega)];exact .inr ⟨rfl,by omega⟩
 rw [aD (show¬(16:Int)<((abg f.am):Int) by omega),aD (show¬(70:Int)<((abg f.am):Int) by omega)]
 exact .inr ⟨rfl,by omega⟩
theorem Lr (c:aH):qp c=abi abm\/(qp c=abi abn/\OV c):=by
 unfold qp yt yr
 simp only [ay]
 by_cases h1:40<abg c.af.ce
 · rw [aI (show (40:Int)<((abg c.af.ce):Int) by omega)];exact .inl rfl
 rw [aD (show¬(40:Int)<((abg c.af.ce):Int) by omega)]
 by_cases h2:40<abg c.io
 · rw [aI (show (40:Int)<((abg c.io):Int) by omega)];exact .inl rfl
 rw [aD (show¬(40:Int)<((abg c.io):Int) by omega)];rcases Lq c.ii with e|⟨e,hf⟩
 · rw [e];exact .inl rfl
 rw [e];simp only [lc,ao]
 by_cases a1:210<abg c.aa.ae.ar
 · rw [aI (show (210:Int)<((abg c.aa.ae.ar):Int) by omega)];exact .inl rfl
 rw [aD (show¬(210:Int)<((abg c.aa.ae.ar):Int) by omega)]
 by_cases a2:210<abg c.aa.ae.be
 · rw [aI (show (210:Int)<((abg c.aa.ae.be):Int) by omega)];exact .inl rfl
 rw [aD (show¬(210:Int)<((abg c.aa.ae.be):Int) by omega)]
 by_cases a3:210<abg c.aa.ae.bi
 · rw [aI (show (210:Int)<((abg c.aa.ae.bi):Int) by omega)];exact .inl rfl
 rw [aD (show¬(210:Int)<((abg c.aa.ae.bi):Int) by omega)]
 by_cases a4:210<abg c.aa.bv
 · rw [aI (show (210:Int)<((abg c.aa.bv):Int) by omega)];exact .inl rfl
 rw [aD (show¬(210:Int)<((abg c.aa.bv):Int) by omega)]
 by_cases a5:210<abg c.aa.aj
 · rw [aI (show (210:Int)<((abg c.aa.aj):Int) by omega)];exact .inl rfl
 rw [aD (show¬(210:Int)<((abg c.aa.aj):Int) by omega)];exact .inr ⟨rfl,⟨by omega,by omega,by omega,by omega,by omega,by omega,by omega,by omega⟩⟩
theorem Ee {a b:Int×Int} (ha:aW a) (hb:aW b) (h:a.1*b.2=b.1*a.2):a=b:=by
 obtain ⟨a1,_,a3⟩:=ha;obtain ⟨b1,_,b3⟩:=hb;have hn:a.1.natAbs*b.2.natAbs=b.1.natAbs*a.2.natAbs:=by rw [<- abd,<- abd,h]
 have d1:b.2.natAbs ∣ a.2.natAbs:=by
  have:b.2.natAbs ∣ b.1.natAbs*a.2.natAbs:=by rw [<- hn];exact abb _ _
  exact (Nat.Coprime.dvd_of_dvd_mul_left b3 this)
 have d2:a.2.natAbs ∣ b.2.natAbs:=by
  have:a.2.natAbs ∣ a.1.natAbs*b.2.natAbs:=by rw [hn];exact abb _ _
  exact (Nat.Coprime.dvd_of_dvd_mul_left a3 this)
 have e:a.2.natAbs=b.2.natAbs:=Nat.dvd_antisymm d2 d1;have e2:a.2=b.2:=by omega
 have e1:a.1=b.1:=by rw [e2] at h;exact Int.eq_of_mul_eq_mul_right (by omega) h
 exact ab9 e1 e2
theorem BU (p q:Pt) (t:Int×Int):xn p q t=(p.2.1-q.2.1)*t.2+(p.2.2-q.2.2)*t.1:=rfl
theorem DA {l h:Pt} {t t':Int×Int} (d:1<=t.2) (d':1<=t'.2) (le:t.1*t'.2<=t'.1*t.2) (hB: ¬h.2.2<l.2.2) (hn: ¬leads l h t): ¬leads l h t':=by
 unfold leads at*;rw [BU] at*;generalize l.2.1-h.2.1=A at*;have hs:l.2.2-h.2.2<=0:=by omega
 intro hl;have key:(A*t'.2+(l.2.2-h.2.2)*t'.1)*t.2<=(A*t.2+(l.2.2-h.2.2)*t.1)*t'.2:=by
  have h1:(l.2.2-h.2.2)*(t'.1*t.2)<=(l.2.2-h.2.2)*(t.1*t'.2):=Int.mul_le_mul_of_nonpos_left hs le;have e1:(A*t'.2+(l.2.2-h.2.2)*t'.1)*t.2=A*t'.2*t.2+(l.2.2-h.2.2)*(t'.1*t.2):=by rw [Int.add_mul,aak (l.2.2-h.2.2)]
  have e2:(A*t.2+(l.2.2-h.2.2)*t.1)*t'.2=A*t'.2*t.2+(l.2.2-h.2.2)*(t.1*t'.2):=by rw [Int.add_mul,aak (l.2.2-h.2.2),aak A,aak A,aba t.2]
  omega
 rcases hl with hl|⟨hl,h2|⟨h2,h3⟩⟩
 · refine hn (.inl ?_)
   have:0<(A*t'.2+(l.2.2-h.2.2)*t'.1)*t.2:=Int.mul_pos hl (by omega);have k:0<(A*t.2+(l.2.2-h.2.2)*t.1)*t'.2:=by omega
   exact Int.pos_of_mul_pos_left k (by omega)
 · omega
 have z:l.2.2-h.2.2=0:=by omega
 rw [z] at hl hn;have:A=0:=by
  have:A*t'.2=0:=by omega
  rcases Int.mul_eq_zero.1 this with h|h
  · exact h
  omega
 subst this;exact hn (.inr ⟨by omega,.inr ⟨h2,h3⟩⟩)
theorem Gr {h l:Pt} {t t':Int×Int} (hh:eZ h) (hl:eZ l) (r:aW t) (r':aW t') (le:t.1*t'.2<=t'.1*t.2) (up:(jN h l t).2=abm->t'.1*(jN h l t).1.2<=(jN h l t).1.1*t'.2):
 jN h l t'=jN h l t:=by
 unfold jN at*
 by_cases h1:leads l h t
 · rw [lm h1] at up ⊢
   have e:t=t':=Ee r r' (by have:=up rfl;dsimp only at this;omega);subst e;rw [lm h1]
 rw [ls h1] at up ⊢
 by_cases h2:h.2.2<l.2.2
 · rw [lm h2] at up ⊢
   obtain ⟨_,m1,m2,m3⟩:=uw hh hl (show h.2.2≠l.2.2 by omega);have up:=up rfl;dsimp only at up
   by_cases h3:leads l h t'
   · rw [lm h3]
     have:t'=met h l:=by
      refine Ee r' m1 ?_;have g:0<=xn l h t':=by rcases h3 with k|k<;>omega
      rw [BU] at g;generalize met h l=m at*;have d:=m1.1;have hB:0<l.2.2-h.2.2:=by omega
      generalize l.2.2-h.2.2=B at*;generalize hA:h.2.1-l.2.1=A at*;have g2:A*t'.2<=B*t'.1:=by
       have:(l.2.1-h.2.1)*t'.2= -(A*t'.2):=by rw [<- Int.neg_mul];congr 1;omega
       omega
      have g3:m.1*t'.2*B<=t'.1*m.2*B:=by
       have e1:m.1*t'.2*B=A*t'.2*m.2:=by rw [Do,m3,Do]
       have e2:t'.1*m.2*B=B*t'.1*m.2:=by rw [Do,aba t'.1 B]
       rw [e1,e2];exact UV g2 (by omega)
      have g4:m.1*t'.2<=t'.1*m.2:=aa4 g3 hB;omega
     rw [this]
   rw [ls h3]
 rw [ls h2] at up ⊢
 rw [ls (DA r.1 r'.1 le h2 h1)]
theorem C7 {a:aJ} (ok:dZ a): ∀k,k<abg a.bv-> ¬less a.bv[k]! a.bv[0]!:=by
 have d: ∀w,w<abg a.bv->1<=(a.bv[w]!).2.1:=fun w hw=>(ok.ev w hw).1.1
 intro k
 induction k using Nat.strongRecOn with
 |ind k ih=>
  intro hk
  by_cases h0:k=0
  · subst h0;exact fun h=>nb h h
  exact vg (d 0 (by omega)) (d ((k-1) / 2) (by omega)) (d k hk) (ih ((k-1) / 2) (by omega) (by omega)) (ok.ord k (by omega) hk)
theorem T9 {h l:Pt} {t:Int×Int} (hh:eZ h) (hl:eZ l) (r:aW t) (is:(jN h l t).2=abm):t.1*(jN h l t).1.2<=(jN h l t).1.1*t.2:=by
 unfold jN at*
 by_cases h1:leads l h t
 · rw [lm h1];exact aa8 _
 rw [ls h1] at is ⊢
 by_cases h2:h.2.2<l.2.2
 · rw [lm h2]
   obtain ⟨_,m1,m2,m3⟩:=uw hh hl (show h.2.2≠l.2.2 by omega);dsimp only;have g:xn l h t<=0:=Int.not_lt.1 fun k=>h1 (.inl k)
   rw [BU] at g;generalize met h l=m at*;have d:=m1.1;have d2:=r.1;have hB:0<l.2.2-h.2.2:=by omega
   generalize l.2.2-h.2.2=B at*;generalize hA:h.2.1-l.2.1=A at*;have g2:B*t.1<=A*t.2:=by
    have:(l.2.1-h.2.1)*t.2= -(A*t.2):=by rw [<- Int.neg_mul];congr 1;omega
    omega
   have e1:t.1*m.2*B=B*t.1*m.2:=by rw [Do,aba t.1 B]
   have e2:m.1*t.2*B=A*t.2*m.2:=by rw [Do,m3,Do]
   have g3:t.1*m.2*B<=m.1*t.2*B:=by rw [e1,e2];exact UV g2 (by omega)
   exact aa4 g3 hB
 rw [ls h2] at is;cases is
theorem aR.time {l:List Pt} {t t':Int×Int} {H:List Ev}: ∀{cs ds:List pZ},(∀x∈cs,bk l x.2 t'=bk l x.2 t)->aR l t H cs ds->aR l t' H cs ds
 | [],_,_,h=>h
 |x::cs,ds,hw,h=>by
  have e:=hw x NE;have ih: ∀{ds},aR l t H cs ds->aR l t' H cs ds:=fun {ds}=>aR.time fun y hy=>hw y (ww _ hy)
  refine ⟨fun hy=>?_,fun hy=>?_⟩
  · rw [e] at hy
    obtain ⟨d,x6,h1,h2,h3,h4⟩:=h.1 hy;exact ⟨d,x6,h1,h2,by rw [e];exact h3,ih h4⟩
  rw [e] at hy
  exact ih (h.2 hy)
theorem wX {c:aH} (ok:aU c) (dM:0<abg c.aa.bv):
 ∃(i:Nat) (c':aH),i<abg c.af.ce/\(c.af.ce[i]!).1=Ev.num c.aa.bv[0]!/\fL c (Ev.num c.aa.bv[0]!)=abi (c',(c.af.ce[i]!).2,0)/\o9 c (Ev.num c.aa.bv[0]!)=abi c'/\
  aU ⟨Ev.at c.aa.bv[0]!,c'.ii,c'.af,c'.aa,c'.io⟩/\c'.ii=c.ii/\c'.af=mg c.af i/\c.ci.1*(Ev.at c.aa.bv[0]!).2<=(Ev.at c.aa.bv[0]!).1*c.ci.2:=by
 have hm:=aQ dM;obtain ⟨d,hd,hn⟩:=ok.zu _ hm;obtain ⟨x,hx,h1,h2,h3⟩:=ok.zX.io d hd;obtain ⟨w,hw,he⟩:=aO.1 h3;have hw0:w=0:=ut fun hx=>by refine ok.kE.nd 0 w (by omega) hw ?_;rw [he,<- hn,h1]
 subst hw0;obtain ⟨i,hi,rfl⟩:=aO.1 hx;have num:(c.af.ce[i]!).1=Ev.num c.aa.bv[0]!:=by rw [<- hn,h1]
 have tm:Ev.at c.aa.bv[0]! =(bk c.ii.am (c.af.ce[i]!).2 c.ci).1:=by rw [he]
 obtain ⟨c',r1,r2,r3,r4,r5,r6⟩:=TZ ok hi;have hb:=ok.known i hi;have pt:=fun (x:Int×Int) (hb:iz c.ii.am x)=>And.intro (dG ok.lq hb.2).1 (dG ok.lq hb.1).1
 have rt:=BI (pt _ hb).1 (pt _ hb).2 ok.iA ok.iL h2;have ge:=T9 (pt _ hb).1 (pt _ hb).2 ok.iL h2;rw [num] at r1 r2;refine ⟨i,c',hi,num,r1,r2,?_,r4,r6,by rw [tm];exact ge⟩;have kn:=yF ok i hi;refine ⟨by rw [tm];exact rt.1,by rw [tm];exact rt.2,r3.lq,r3.sN,r3.kE,r3.Gk,r3.hd,r3.known,?_⟩;refine aR.time (t:=c'.ci) (fun y hy=>?_) r3.zX;have hy':y∈c.af.ce:=by rw [r6] at hy;exact (rM ok.sO hi hy).1
 obtain ⟨j,hj,rfl⟩:=aO.1 hy';have hbj:=ok.known j hj;rw [r4,r5];refine Gr (pt _ hbj).1 (pt _ hbj).2 ok.iL (by rw [tm];exact rt.1) (by rw [tm];exact ge) (fun is=>?_);obtain ⟨d',hd',k1,k2⟩:=ok.zX.has _ hy' is;obtain ⟨w,hw,he⟩:=aO.1 k2;have:=C7 ok.kE w hw;rw [he] at this;exact Int.not_lt.1 fun k=>this (.inl (rH.2 k))
theorem DV {p q:Pt} {t:Int×Int} (hp:eZ p) (hq:eZ q) (ht:iI t) (hr:aW t):jY p q t=abi (abB (leads p q t),if p.1=q.1 then 2 else 0)\/(p.1=q.1/\jY p q t=abi (abn,2)):=by
 unfold jY;rw [pV ht,lm ⟨hp,hq,hr⟩]
 by_cases h:p.1=q.1
 · right;simp [h]
 left
 simp only [h,if_false,ao,tP hp hq ht];have:abB (0<M5 p q t)=abB (leads p q t):=by simp only [FW]
 simp [this]
end Go.Proofs.YtcljjehjppgijaaGreat
namespace Go.Proofs.YtcljjehjppgijaaGreat
open Go.Vm
theorem sQ {α:Type} [BEq α] [LawfulBEq α]: ∀{a b:List α},a.Nodup->(∀x∈a,x∈b)->abg b<=abg a->a.Perm b
 | [],b,_,_,hl=>by rw [List.eq_nil_of_length_eq_zero (show (abg b)=0 by simpa using hl)]
 |x::a,b,hd,h,hl=>by
  rw [ab7] at hd;have hx:=h x NE;have ih:=sQ (a:=a) (b:=b.erase x) hd.2 (fun y hy=>by
   rw [List.mem_erase_of_ne (fun e=>hd.1 (by rw [<- e];exact hy))];exact h y (ww _ hy)) (by
   rw [List.length_erase_of_mem hx];rw [If] at hl;omega)
  exact (List.Perm.cons x ih).trans (List.perm_cons_erase hx).symm
theorem AS {α β:Type} {f:α->β}: ∀{l:List α},l.Nodup->(∀x∈l,∀y∈l,f x=f y->x=y)->(l.map f).Nodup
 | [],_,_=>List.nodup_nil
 |x::l,h,hi=>by rw [ab7] at h;rw [List.map_cons,ab7];refine ⟨fun hm=>?_,AS h.2 fun y hy z hz=>hi y (ww _ hy) z (ww _ hz)⟩;obtain ⟨y,hy,e⟩:=aa2.1 hm;have:=hi y (ww _ hy) x NE e;rw [this] at hy;exact h.1 hy
end Go.Proofs.YtcljjehjppgijaaGreat
namespace Go.Proofs.YtcljjehjppgijaaGreat
open Go.Vm Classical
theorem aaA {f:List Pt} (dK:bo f) {t:Int×Int} (lg:iI t) {x:Int×Int} (hb:iz f x):wE x ⟨f⟩ t=abi (abB (leads (bF f x.2) (bF f x.1) t)):=by obtain ⟨h1,h2⟩:=hb;obtain ⟨j,j1,j2,j3⟩:=C4 dK h1;obtain ⟨k,k1,k2,k3⟩:=C4 dK h2;unfold wE;simp only [j2,k2,ao,aq f j j1,aq f k k1,j3,k3,FX (dG dK h2).1 (dG dK h1).1 lg]
def mu (f:List Pt):List Int:=f.map fun p=>p.1
theorem mh {f:List Pt} (h:fa f):(mu f).Nodup:=by
 refine AS ?_ ?_
 · exact ed.2 fun i j lS hj e=>by have:=pj h lS hj;rw [e] at this;omega
 intro x hx y hy e
 obtain ⟨i,hi,rfl⟩:=aO.1 hx;obtain ⟨j,hj,rfl⟩:=aO.1 hy;rw [sK h hi hj e]
theorem lh {f:List Pt} {id:Int}:id∈mu f↔nI f id:=by
 unfold mu nI;rw [aa2];constructor
 · rintro ⟨p,hp,rfl⟩
   obtain ⟨i,hi,rfl⟩:=aO.1 hp;exact ⟨i,hi,rfl⟩
 rintro ⟨i,hi,rfl⟩
 exact ⟨f[i]!,aQ hi,rfl⟩
theorem DB {c:aZ} (ok:dX c):(c.ce.map fun x=>x.2).Nodup:=by
 refine AS ?_ ?_
 · exact ed.2 fun i j lS hj e=>ok.nd i j lS hj (by rw [e])
 intro x hx y hy e
 obtain ⟨i,hi,rfl⟩:=aO.1 hx;obtain ⟨j,hj,rfl⟩:=aO.1 hy;rcases aa5 i j with k|k|k
 · exact absurd e (ok.nd i j k hj)
 · rw [k]
 exact absurd e.symm (ok.nd j i k hi)
theorem vu {l:List pZ} {x:Int×Int}:rI l x↔x∈l.map fun y=>y.2:=by
 unfold rI;rw [aa2];constructor
 · rintro ⟨i,hi,rfl⟩;exact ⟨l[i]!,aQ hi,rfl⟩
 rintro ⟨y,hy,rfl⟩
 obtain ⟨i,hi,rfl⟩:=aO.1 hy;exact ⟨i,hi,rfl⟩
theorem aaB {c:aH} (ok:aU c) (es:List (Int×Int)) (kn: ∀x∈es,iz c.ii.am x):
 wF c es=abi (abB (abg c.af.ce=abg es/\ ∀i,i<abg es->rI c.af.ce es[i]!/\leads (bF c.ii.am (es[i]!).2) (bF c.ii.am (es[i]!).1) c.ci)):=by
 have bd:=ok.bd;unfold wF;simp only [ay]
 by_cases h0:(abg c.af.ce)=abg es
 case neg=>rw [dd (by omega),kw,aD (fun h=>h0 h.1)]
 rw [bL (by omega),lc];have key:=C5 (body:=pQ) (fun i=>(es,(i:Int),c.ci.1,c.ci.2,c.ii.am,c.af.aL,c.af.ce,c.aa.ae.ar,c.aa.ae.be,c.aa.ae.bi,c.aa.bv,c.aa.aj,c.io)) (abg es)
  (fun i=>rI c.af.ce es[i]!/\leads (bF c.ii.am (es[i]!).2) (bF c.ii.am (es[i]!).1) c.ci) (r:=abn) (e:=abm) (fun i hi=>by
  have Lo:aZ.mk c.af.aL c.af.ce=c.af:=rfl;unfold pQ;simp only [ay,aI (show (i:Int)<((abg es):Int) by omega),kw,aq es i hi,ao,Lo,wW c.af es[i]! (by omega),aaA ok.lq (t:=(c.ci.1,c.ci.2)) ok.iA (kn _ (aQ hi)),aT (show i<1000000000 by omega)]
  by_cases h1:rI c.af.ce es[i]!
  · rw [aI h1]
    by_cases h2:leads (bF c.ii.am (es[i]!).2) (bF c.ii.am (es[i]!).1) c.ci
    · rw [show abB (leads (bF c.ii.am (es[i]!).2) (bF c.ii.am (es[i]!).1) (c.ci.1,c.ci.2))=abm from aI h2]
      exact ⟨fun h=>absurd ⟨h1,h2⟩ h,fun _=>rfl⟩
    rw [show abB (leads (bF c.ii.am (es[i]!).2) (bF c.ii.am (es[i]!).1) (c.ci.1,c.ci.2))=abn from aD h2]
    exact ⟨fun _=>rfl,fun h=>absurd h.2 h2⟩
  · rw [aD h1]
    exact ⟨fun _=>rfl,fun h=>absurd h.1 h1⟩) (by
  unfold pQ;simp only [ay,aD (show¬((abg es):Int)<((abg es):Int) by omega),lc])
 refine (show _=_ from key).trans ?_
 by_cases h2: ∀i,i<abg es->rI c.af.ce es[i]!/\leads (bF c.ii.am (es[i]!).2) (bF c.ii.am (es[i]!).1) c.ci
 · rw [lm h2,aI ⟨h0,h2⟩]
 rw [ls h2,aD (fun h=>h2 h.2)]
end Go.Proofs.YtcljjehjppgijaaGreat
