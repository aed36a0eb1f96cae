/- Plain laws (3). -/
import Derived.Test.YtbgoiokedpjgbaaGreatQQM2
import Derived.Test.YtbgoiokedpjgbaaGreatQQS2
open List renaming mem_cons_of_mem->ut,length_append->v6,length_drop->If,length_set->IR,length_cons->PP,mem_append->UV,nodup_cons->WF,mem_cons_self->acl,mem_range->adc,length_singleton->adm,length_replicate->ae1,length_nil->ae2,mem_map->ae3,drop_zero->ae4,drop_length->ae5,mem_filterMap->af3,length_range->af4,nodup_range->afb,length_map->afc,range->afj,replicate->afx,mem_cons->afy,length->afI
open Bool renaming not_false->ww,not_true->Do,true->afK,false->afM
open Classical renaming byContradiction->AC,not_not->M2
open Nat renaming le_refl->EQ,lt_trichotomy->F0s,div_div_eq_div_mul->NE,pow_succ->af5,le_of_lt->afa,not_lt_zero->afe
open Int renaming le_trans->ae8,le_refl->ae9
open Prod renaming ext->afg,fst->afB
open Option renaming some->afJ
open Decidable renaming decide->afN
namespace Go.Proofs.YtbgoiokedpjgbaaGreat
open Go.Vm Classical
theorem Ni (c:aM) (n:Int) (hl:(afI c.io)<=1000000):(∀k,k<afI c.io->(c.io[k]!).1=n->(∀j,j<k->(c.io[j]!).1≠n)->nJ c n=afJ (k:Int))/\((∀k,k<afI c.io->(c.io[k]!).1≠n)->nJ c n=afJ (-1)):=by
 unfold nJ;refine hO (body:=ov) (fun i=>(n,(i:Int),c.ci.1,c.ci.2,c.ii.am,c.af.aN,c.af.ce,c.ae.ai.aA,c.ae.ai.be,c.ae.ai.bi,c.ae.bv,c.ae.aq,c.io)) (afI c.io) (fun i=>(c.io[i]!).1=n) (fun i=>(i:Int)) (fun i hi=>?_) ?_
 · have e1:afN ((i:Int)<((afI c.io):Int))=afK:=aE (by omega)
   unfold ov;simp only [az,e1,lw,ar c.io i hi,aj,aT (show i<1000000000 by omega)]
   constructor
   · intro h;rw [eI h];rfl
   intro h;rw [dX h];rfl
 unfold ov
 have:afN (((afI c.io):Int)<((afI c.io):Int))=afM:=aC (by omega)
 simp only [az,this,ol]
theorem zI {ds:List ry} (hu:Up ds) (hl:(afI ds)<=1000000) (n:Int):(∀k,k<afI ds->(ds[k]!).1=n->nM ds n=afJ ((k:Int),afK))/\((∀k,k<afI ds->(ds[k]!).1≠n)-> ∃m:Nat,nM ds n=afJ ((m:Int),afM)):=by
 have bs:=qe ds n hl (qg.1 hu);unfold nM;rw [amn];constructor
 · intro k hk he;rw [bs.1 k hk he];rfl
 intro h
 obtain ⟨m,_,_,_,e⟩:=bs.2 h;exact ⟨m,by rw [e];rfl⟩
theorem aZ.bd {c:aM} (ok:aZ c):(afI c.io)<=200/\afI c.ii.am<=64/\afI c.af.ce<=200:=by
 have:=ok.hd;have:=ok.mb.bd;have:=ok.iK.1;have:=ok.tu.len
 omega
theorem jl {c:aM} (ok:aZ c):lK c=afJ c:=by
 have bd:=ok.bd;unfold lK lH pj;simp only [ba (show (afI c.ii.am)<=1048576 by omega),ba (show (afI c.af.ce)<=1048576 by omega),ba (show (afI c.io)<=1048576 by omega),aj,qd ok.mb]
theorem gj {c:aM} (ok:aZ c):kC c=afJ c:=by
 have bd:=ok.bd;have ab:=ok.mb.bd;have hl:=ok.mb.so.fl;have hn:=ok.mb.so.n2;have hu:=ok.mb.so.ul;unfold kC;simp only [ba (show (afI c.ii.am)<=1048576 by omega),ba (show (afI c.af.ce)<=1048576 by omega),ba (show (afI c.io)<=1048576 by omega),ba (show (afI c.ae.bv)<=1048576 by omega),ba (show (afI c.ae.aq)<=1048576 by omega),
  ba (show (afI c.ae.ai.aA)<=1048576 by omega),ba (show (afI c.ae.ai.be)<=1048576 by omega),ba (show (afI c.ae.ai.bi)<=1048576 by omega),aj]
theorem rY {cs:List ry} {i:Nat} (hu:Up cs) (hi:i<afI cs) {x:ry} (hx:x∈cs.eraseIdx i):x∈cs/\x.1≠(cs[i]!).1:=by
 rw [s9,UV] at hx;have ub:=qg.1 hu;rcases hx with hx|hx
 · obtain ⟨j,h1,h2,rfl⟩:=cm.1 hx
   have:=ub j i h1 hi
   exact ⟨aW h2,by omega⟩
 obtain ⟨j,hj,rfl⟩:=aS.1 hx
 rw [If] at hj;rw [kZ]
 have:=ub i (i+1+j) (by omega) (by omega)
 exact ⟨aW (by omega),by omega⟩
theorem D4 {c:aM} (ok:aZ c) (i:Nat) (hi:i<afI c.af.ce): ∀j,j<(mY c.af i).ce.length->iJ c.ii.am ((mY c.af i).ce[j]!).2:=by
 intro j hj;have hm:(mY c.af i).ce[j]!∈c.af.ce:=(rY ok.rz hi (aW hj)).1;obtain ⟨m,Qy,N7⟩:=aS.1 hm;rw [<- N7];exact ok.known m Qy
theorem Wl {c:aM} (ok:aZ c) {i:Nat} (hi:i<afI c.af.ce):
 ∃c':aM,kD c (c.af.ce[i]!).1=afJ (c',(c.af.ce[i]!).2,0)/\sO c (c.af.ce[i]!).1=afJ c'/\aZ c'/\c'.ii=c.ii/\c'.ci=c.ci/\c'.af=mY c.af i:=by
 have bd:=ok.bd;have rm:=yO ok.tu hi (n:=(c.af.ce[i]!).1) rfl;have wo:=Dr ok.tu hi (n:=(c.af.ce[i]!).1) rfl;have fe:=ok.Bi.erase (i:=i) hi;have pd:=zI ok.A8 (by omega) (c.af.ce[i]!).1
 have da:=Ni c (c.af.ce[i]!).1 (by omega)
 cases hf:(bw c.ii.am (c.af.ce[i]!).2 c.ci).2 with
 |false=>
  have no: ∀k,k<afI c.io->(c.io[k]!).1≠(c.af.ce[i]!).1:=by
   intro k hk he;obtain ⟨x,hx,h1,h2,_⟩:=ok.Bi.io _ (aW hk);obtain ⟨j,hj,rfl⟩:=aS.1 hx;have ub:=qg.1 ok.rz
   have:j=i:=by
    rcases F0s j i with h|h|h
    · have:=ub j i h hi;omega
    · exact h
    have:=ub i j h hj;omega
   rw [this,hf] at h2;cases h2
  refine ⟨⟨c.ci,c.ii,mY c.af i,c.ae,c.io⟩,?_,?_,?_,rfl,rfl,rfl⟩
  · unfold kD
    obtain ⟨m,e⟩:=pd.2 no;simp only [rm,aj,show ((0:Int) !=0)=afM from rfl,ol,gj ok,e]
  · unfold sO
    simp only [jl ok,aj,wo,da.2 no,aC (show¬(0:Int)<= -1 by omega),ol]
  exact ⟨ok.nT,ok.fP,ok.iK,GO ok.tu hi,ok.mb,ok.GP,ok.hd,D4 ok i hi,fe.1 hf⟩
 |true=>
  obtain ⟨k,hk,k1,k2,k3⟩:=fe.2 hf;obtain ⟨w,hw,gx⟩:=aS.1 k2;have hh:(c.ae.bv[w]!).2.2.2=(c.io[k]!).2:=by rw [gx]
  have ub:=qg.1 ok.A8;have before: ∀j,j<k->(c.io[j]!).1≠(c.af.ce[i]!).1:=fun j hj he=>by have:=ub j k hj hk;omega
  have dl:(c.io.eraseIdx k).length=afI c.io-1:=zH hk;obtain ⟨L,d1,d2⟩:=uF c.io k hk;refine ⟨⟨c.ci,c.ii,mY c.af i,dK c.ae w,c.io.eraseIdx k⟩,?_,?_,?_,rfl,rfl,rfl⟩
  · unfold kD
    simp only [rm,aj,show ((0:Int) !=0)=afM from rfl,ol,gj ok,pd.1 k hk k1,lw,ar c.io k hk,pF ok.mb hw ok.mb.fit hh,aT (show k<1000000000 by omega),GK,d1,d2]
  · unfold sO
    have s1:fW c.io 0 (k:Int)=afJ (c.io.take k):=jR c.io k (by omega)
    have s2:fW c.io ((k+1:Nat):Int) ((afI c.io):Int)=afJ (c.io.drop (k+1)):=by
     unfold fW;rw [pp ⟨by omega,by omega,by omega⟩]
     simp only [Int.toNat_natCast];rw [List.take_of_length_le (by rw [If];exact EQ _)]
    have tl:(c.io.take k).length=k:=by rw [List.length_take];omega
    have dl2:(c.io.drop (k+1)).length=afI c.io- (k+1):=If;simp only [jl ok,aj,wo,da.1 k hk k1 before,aE (show (0:Int)<=(k:Int) by omega),lw,ar c.io k hk,v7 ok.mb hw hh,s1,ba (show (c.io.take k).length<=1048576 by omega),aT (show k<1000000000 by omega),az,s2,
     bR (show (c.io.take k).length+(c.io.drop (k+1)).length<=1048576 by omega),s9]
    cases hem:(c.io.drop (k+1)).isEmpty with
    |true=>
     rw [List.isEmpty_iff] at hem;rw [hem,List.append_nil];rfl
    |false=>rfl
  have rem:=Dp ok.mb hw
  have S3:=GJ ok.mb hw;have cY:(dK c.ae w).bv.length=afI c.ae.bv-1:=by
   have h1:=rem.hl;have h2:=ok.mb.hl;have h3:(dK c.ae w).ai=fy c.ae.ai (c.ae.bv[w]!).2.2.2:=by unfold dK;split<;>rfl
   rw [h3] at h1;change _+(c.ae.ai.bi++[_]).length=(afI c.ae.ai.aA) at h1;rw [v6] at h1;simp only [PP,ae2] at h1;omega
  have amp:(dK c.ae w).aq.length=200:=by
   have h1:=rem.wl;have h3:(dK c.ae w).ai=fy c.ae.ai (c.ae.bv[w]!).2.2.2:=by unfold dK;split<;>rfl
   rw [h3] at h1;change _=(afI c.ae.ai.aA) at h1;rw [h1,<- ok.mb.wl,ok.GP]
  refine ⟨ok.nT,ok.fP,ok.iK,GO ok.tu hi,rem,amp,?_,D4 ok i hi,?_⟩
  · show (dK c.ae w).bv.length=(c.io.eraseIdx k).length
    rw [cY,dl,ok.hd]
  refine k3.mono fun x hx e he hm=>(S3 e).2 ⟨hm,fun h=>?_⟩
  have:=(rY ok.rz hi hx).2
  rw [h,gx] at he;exact this he.symm
theorem xM {c:aM} (ok:aZ c) {i:Nat} (_hi:i<afI c.af.ce) {c':aM} (h:kD c (c.af.ce[i]!).1=afJ (c',(c.af.ce[i]!).2,0)):rU c (c.af.ce[i]!).1=afJ (c',0):=by
 unfold rU;rw [jT ok.fit,pp ok];simp only [aj,show ((0:Int) !=0)=afM from rfl,ol,h]
abbrev dY:aM:=⟨(0,0),⟨[]⟩,⟨0,[]⟩,⟨⟨[],[],[]⟩,[],[]⟩,[]⟩
theorem Du {l:List Pt} (ok:bm l) {id:Int} (h:ft l id): ¬(fR l id).1<0:=by
 obtain ⟨h1,_⟩:=dW ok h
 have:=h1.1
 omega
theorem Rt {c:aM} (ok:aZ c) {x:Int×Int} (hx:fC x) (hb:iJ c.ii.am x) (hn: ¬tG c.af.ce x):
 (hM c x=afJ (dY,0,18)/\j7 c x=afJ (dY,0,18)/\(Ap c.af\/ ¬vW c.ae.ai))\/
 ∃c':aM,hM c x=afJ (c',c.af.aN,0)/\j7 c x=afJ (c',c.af.aN,0)/\aZ c'/\c'.ii=c.ii/\c'.ci=c.ci/\c'.af=mX c.af x/\(c'.ae.ai=c.ae.ai\/c'.ae.ai=ga c.ae.ai):=by
 have bd:=ok.bd;have n0:=ok.tu.n0;have n1:=ok.tu.n1;have fit:=ok.fit;have ad:=Nb ok.tu hx;have rd:=KD ok.tu hx;rw [rc hn] at ad rd;have hc:fT c=afJ 0:=by rw [jT fit,pp ok]
 have p1:=jS ok.iK x.1;have p2:=jS ok.iK x.2;have q1:=Du ok.iK hb.1;have q2:=Du ok.iK hb.2;have wh:=qf ok.iK hx ok.nT ok.fP;rw [pp hb] at wh;have rw':=vf ok.iK ok.fP hb
 by_cases hf:Ap c.af
 · rw [pp hf] at ad rd
   left;refine ⟨?_,?_,.inl hf⟩
   · unfold hM dw
     simp only [hc,aj,show ((0:Int) !=0)=afM from rfl,ol,ad,show ((18:Int)==8)=afM from rfl,p1,p2,aC q1,aC q2,show ((18:Int) !=0)=afK from rfl,lw]
   unfold j7
   simp only [rd,aj,show ((18:Int) !=0)=afK from rfl,lw]
 rw [rc hf] at ad rd;have cok:=PB ok.tu hx hn hf;have Wm: ∀j,j<(mX c.af x).ce.length->iJ c.ii.am ((mX c.af x).ce[j]!).2:=by
  intro j hj;rw [zG] at hj;rw [tc]
  by_cases h:j<afI c.af.ce
  · rw [pp h];exact ok.known j h
  rw [rc h,pp (by omega)];exact hb
 have fresh: ∀e∈c.ae.bv,Ev.num e≠c.af.aN:=by
  intro e he ec;obtain ⟨d,hd,h1⟩:=ok.A7 e he;obtain ⟨y,hy,h2,_⟩:=ok.Bi.io d hd;obtain ⟨j,hj,rfl⟩:=aS.1 hy
  have:=(ok.tu.nr j hj).2
  omega
 have sn:=ok.Bi.snoc (x:=(c.af.aN,x));cases hw:(bw c.ii.am x c.ci).2 with
 |false=>
  right;refine ⟨⟨c.ci,c.ii,mX c.af x,c.ae,c.io⟩,?_,?_,⟨ok.nT,ok.fP,ok.iK,cok,ok.mb,ok.GP,ok.hd,Wm,sn.1 hw⟩,rfl,rfl,rfl,.inl rfl⟩
  · unfold hM dw
    simp only [hc,aj,show ((0:Int) !=0)=afM from rfl,ol,ad,show ((0:Int)==8)=afM from rfl,p1,p2,aC q1,aC q2,gj ok,wh,hw]
  unfold j7
  simp only [rd,aj,show ((0:Int) !=0)=afM from rfl,ol,jl ok,rw',hw,ww,lw]
 |true=>
  obtain ⟨t1,t2⟩:=Gn (dW ok.iK hb.2).1 (dW ok.iK hb.1).1 ok.fP ok.nT hw
  by_cases op:vW c.ae.ai
  · right
    have pu:=vX ok.mb op ok.mb.fit (t:=(bw c.ii.am x c.ci).1) (n:=c.af.aN) t1 t2 n0 n1 fresh;have rp:=xL ok.mb op (t:=(bw c.ii.am x c.ci).1) (n:=c.af.aN) t1 t2 n0 n1;have pok:=Rr ok.mb op (t:=(bw c.ii.am x c.ci).1) (n:=c.af.aN) t1 t2 n0 n1 fresh
    have S4:=M8 ok.mb op (t:=(bw c.ii.am x c.ci).1) (n:=c.af.aN) t1;have amr:=Ce ok.mb op (t:=(bw c.ii.am x c.ci).1) (n:=c.af.aN) t1;have ap: ∀h:Int×Int,bo c.io [(c.af.aN,h)]=afJ (c.io++[(c.af.aN,h)]):=fun h=>bR (by simp;omega)
    have amp:(kH c.ae (bw c.ii.am x c.ci).1 c.af.aN).aq.length=200:=by
     have:=pok.wl
     change _=(c.ae.ai.aA.set _ _).length at this;rw [IR] at this;rw [this,<- ok.mb.wl,ok.GP]
    refine ⟨⟨c.ci,c.ii,mX c.af x,kH c.ae (bw c.ii.am x c.ci).1 c.af.aN,c.io++[(c.af.aN,kG c.ae.ai)]⟩,?_,?_,⟨ok.nT,ok.fP,ok.iK,cok,pok,amp,?_,Wm,?_⟩,rfl,rfl,rfl,.inr rfl⟩
    · unfold hM dw
      simp only [hc,aj,show ((0:Int) !=0)=afM from rfl,ol,ad,show ((0:Int)==8)=afM from rfl,p1,p2,aC q1,aC q2,gj ok,wh,hw,lw,pu,ap]
    · unfold j7
      simp only [rd,aj,show ((0:Int) !=0)=afM from rfl,ol,jl ok,rw',hw,Do,p9 ok.mb.so,aE op,rp,ap]
    · show (kH c.ae (bw c.ii.am x c.ci).1 c.af.aN).bv.length=(c.io++[_]).length
      rw [amr,v6,ok.hd];rfl
    have fm:bc c.ii.am c.ci (kH c.ae (bw c.ii.am x c.ci).1 c.af.aN).bv c.af.ce c.io:=ok.Bi.mono fun y hy e he hm=>(S4 e).2 (.inr hm)
    exact (fm.snoc (x:=(c.af.aN,x))).2 _ hw rfl ((S4 _).2 (.inl rfl))
  left
  have pu:=vY ok.mb op ok.mb.fit (t:=(bw c.ii.am x c.ci).1) (n:=c.af.aN) t1 t2 n0 n1 fresh;refine ⟨?_,?_,.inr op⟩
  · unfold hM dw
    simp only [hc,aj,show ((0:Int) !=0)=afM from rfl,ol,ad,show ((0:Int)==8)=afM from rfl,p1,p2,aC q1,aC q2,gj ok,wh,hw,lw,pu,show ((18:Int) !=0)=afK from rfl]
  unfold j7
  simp only [rd,aj,show ((0:Int) !=0)=afM from rfl,ol,jl ok,rw',hw,Do,p9 ok.mb.so,aC op,ww,lw]
theorem Up.inj {cs:List ry} (h:Up cs) {x y:ry} (hx:x∈cs) (hy:y∈cs) (he:x.1=y.1):x=y:=by
 obtain ⟨i,hi,rfl⟩:=aS.1 hx;obtain ⟨j,hj,rfl⟩:=aS.1 hy;have ub:=qg.1 h;rcases F0s i j with h1|h1|h1
 · have:=ub i j h1 hj;omega
 · rw [h1]
 have:=ub j i h1 hi;omega
structure GR (c:aM) (f:List Pt) (i k:Nat) (a:aL) (ds:List ry):Prop where
 ok:eT a
 w2:(afI a.aq)=200
 new:bc f c.ci a.bv (c.af.ce.take i) ds
 old:bc c.ii.am c.ci a.bv (c.af.ce.drop i) (c.io.drop k)
 kl:k<=afI c.io
 W3:(afI a.bv)=afI ds+(afI c.io-k)
theorem ams {a:aL} (ok:eT a) {w:Nat} (hw:w<afI a.bv):(dK a w).bv.length=afI a.bv-1/\(dK a w).aq.length=(afI a.aq):=by
 have rem:=Dp ok hw;have h3:(dK a w).ai=fy a.ai (a.bv[w]!).2.2.2:=by unfold dK;split<;>rfl
 have h1:=rem.hl;have h2:=ok.hl;have h4:=rem.wl;rw [h3] at h1 h4;change _+(a.ai.bi++[_]).length=(afI a.ai.aA) at h1;change _=(afI a.ai.aA) at h4;rw [v6] at h1;simp only [PP,ae2] at h1;exact ⟨by omega,by rw [h4,ok.wl]⟩
theorem aeE {a:aL} {t:Int×Int} {n:Int} (ok:eT a) (pok:eT (kH a t n)):(kH a t n).aq.length=(afI a.aq):=by
 have:=pok.wl
 change _=(a.ai.aA.set _ _).length at this;rw [IR] at this;rw [this,ok.wl]
section
variable {c : aM} (ok : aZ c) {f : List Pt} (bT : bm f) (kn : ∀ i, i < (afI c.af.ce) -> iJ f (c.af.ce[i]!).2)
include ok
theorem Cj {i:Nat} {x:ry} (hx:x∈c.af.ce.take i) (hi:i<afI c.af.ce):x.1≠(c.af.ce[i]!).1:=by
 obtain ⟨j,h1,h2,rfl⟩:=cm.1 hx
 have:=ok.tu.up j i h1 hi
 omega
theorem xq {i:Nat} {x:ry} (hx:x∈c.af.ce.drop (i+1)) (hi:i<afI c.af.ce):x.1≠(c.af.ce[i]!).1:=by
 obtain ⟨j,h1,rfl⟩:=aS.1 hx;rw [If] at h1;rw [kZ]
 have:=ok.tu.up i (i+1+j) (by omega) (by omega)
 omega
theorem S5 {i k:Nat} {a:aL} {ds:List ry} (inv:GR c f i k a ds) (hi:i<afI c.af.ce) (was:(bw c.ii.am (c.af.ce[i]!).2 c.ci).2=afM): ∀e∈a.bv,Ev.num e≠(c.af.ce[i]!).1:=by
 have u1:Up (c.af.ce.take i):=ok.rz.sublist (List.take_sublist _ _);have u2:Up (c.af.ce.drop i):=ok.rz.sublist (List.drop_sublist _ _);have d1:=inv.new.up u1;have d2:=inv.old.up u2;have aqN: ∀x∈ds,∀y∈c.io.drop k,x.1<y.1:=by
  intro x hx y hy;obtain ⟨p,hp,h1,_⟩:=inv.new.io x hx;obtain ⟨q,hq,h2,_⟩:=inv.old.io y hy;obtain ⟨m,m1,m2,rfl⟩:=cm.1 hp;obtain ⟨n,n1,rfl⟩:=aS.1 hq;rw [If] at n1;rw [kZ] at h2
  have:=ok.tu.up m (i+n) (by omega) (by omega)
  omega
 have nd:((ds++c.io.drop k).map fun x=>x.1).Nodup:=Nh (by
  show List.Pairwise _ _;rw [List.pairwise_append];exact ⟨d1,d2,aqN⟩)
 have only:=D3 (H:=a.bv) nd (by rw [afc,v6,If,inv.W3];exact EQ _) (fun n hn=>by
  obtain ⟨x,hx,rfl⟩:=ae3.1 hn;rcases UV.1 hx with hx|hx
  · obtain ⟨p,hp,h1,h2,h3⟩:=inv.new.io x hx
    exact ⟨_,h3,h1.symm⟩
  obtain ⟨p,hp,h1,h2,h3⟩:=inv.old.io x hx
  exact ⟨_,h3,h1.symm⟩)
 intro e he ec;obtain ⟨x,hx,h1⟩:=ae3.1 (only e he);rcases UV.1 hx with hx|hx
 · obtain ⟨p,hp,h2,_⟩:=inv.new.io x hx
   exact Cj ok hp hi (by rw [<- h2,h1,ec])
 obtain ⟨p,hp,h2,h3,_⟩:=inv.old.io x hx
 have hp':p∈c.af.ce:=List.mem_of_mem_drop hp
 have:=ok.rz.inj hp' (aW hi) (by rw [<- h2,h1,ec])
 rw [this,was] at h3;cases h3
def Nj (c:aM) (f:List Pt) (i:Nat) (a:aL) (ds:List ry):=
 (c.af.ce,((afI c.af.ce):Int),(i:Int),c.ci.1,c.ci.2,c.ii.am,c.af.aN,c.af.ce,c.ae.ai.aA,c.ae.ai.be,c.ae.ai.bi,c.ae.bv,c.ae.aq,c.io,f,(0:Int),(0:Int),(0:Int),c.ci.1,c.ci.2,c.af.aN,c.af.ce,a.ai.aA,a.ai.be,a.ai.bi,a.bv,a.aq,f,ds)
def S6 (c:aM) (f:List Pt) (i:Nat) (a:aL) (ds:List ry):=
 ((i:Int),c.ci.1,c.ci.2,c.ii.am,c.af.aN,c.af.ce,c.ae.ai.aA,c.ae.ai.be,c.ae.ai.bi,c.ae.bv,c.ae.aq,c.io,f,(0:Int),(0:Int),(0:Int),c.ci.1,c.ci.2,f,c.af.aN,c.af.ce,a.ai.aA,a.ai.be,a.ai.bi,a.bv,a.aq,ds)
include bT kn
theorem Wn {i k:Nat} {a:aL} {ds:List ry} (inv:GR c f i k a ds) (hi:i<afI c.af.ce) (Xf:(afI ds)<=i):
 (cp (Nj c f i a ds)=afJ (.done (.done (dY,18)))/\cP (S6 c f i a ds)=afJ (.done (dY,18)))\/
 ∃k' a' zO,cp (Nj c f i a ds)=afJ (.next (Nj c f (i+1) a' zO))/\cP (S6 c f i a ds)=afJ (.next (S6 c f (i+1) a' zO))/\GR c f (i+1) k' a' zO/\afI zO<=i+1:=by
 have bd:=ok.bd;have e1:afN ((i:Int)<((afI c.af.ce):Int))=afK:=aE (by omega)
 have sc:=aT (show i<1000000000 by omega)
 have cg:=ar c.af.ce i hi;have hb:=kn i hi;have wn:=qf bT (x:=(c.af.ce[i]!).2) (t:=(c.ci.1,c.ci.2)) (ok.tu.cv i hi) ok.nT ok.fP;rw [pp hb] at wn;have wr:=vf bT (x:=(c.af.ce[i]!).2) (t:=(c.ci.1,c.ci.2)) ok.fP hb;have pd:=zI ok.A8 (by omega) (c.af.ce[i]!).1
 have da:=Ni c (c.af.ce[i]!).1 (by omega)
 have dr:=pG hi;have tk:=dC hi;have old:=inv.old;rw [dr] at old;have Nk:aL.mk (bg.mk a.ai.aA a.ai.be a.ai.bi) a.bv a.aq=a:=rfl
 have rZ:(aM.mk (c.ci.1,c.ci.2) (Field.mk c.ii.am) (bF.mk c.af.aN c.af.ce) (aL.mk (bg.mk c.ae.ai.aA c.ae.ai.be c.ae.ai.bi) c.ae.bv c.ae.aq) c.io)=c:=rfl;have other: ∀x∈c.af.ce.take i,x.1≠(c.af.ce[i]!).1:=fun x hx=>Cj ok hx hi
 have Wo: ∀x∈c.af.ce.drop (i+1),x.1≠(c.af.ce[i]!).1:=fun x hx=>xq ok hx hi
 cases aeF:(bw c.ii.am (c.af.ce[i]!).2 c.ci).2 with
 |true=>
  obtain ⟨d,zO,hd1,hd2,hd3,hd4⟩:=(bc.ie aeF).1 old;have hk:k<(afI c.io):=by
   refine AC fun h=>?_
   rw [List.drop_eq_nil_of_le (by omega)] at hd1
   cases hd1
  have dk:=pG hk;rw [dk] at hd1;injection hd1 with hd5 hd6;subst hd5 hd6;obtain ⟨w,hw,gx⟩:=aS.1 hd3;have hh:(a.bv[w]!).2.2.2=(c.io[k]!).2:=by rw [gx]
  have aqO:Ev.num a.bv[w]! =(c.af.ce[i]!).1:=by rw [gx]
  have before: ∀j,j<k->(c.io[j]!).1≠(c.af.ce[i]!).1:=fun j hj he=>by
   have:=qg.1 ok.A8 j k hj hk
   omega
  have pl:=pd.1 k hk hd2;have dq:=da.1 k hk hd2 before;have gk:=ar c.io k hk;have k0:afN ((0:Int)<=(k:Int))=afK:=aE (by omega)
  have ap:bo ds [c.io[k]!]=afJ (ds++[c.io[k]!]):=bR (by simp;omega)
  cases Nl:(bw f (c.af.ce[i]!).2 c.ci).2 with
  |true=>
   right;have tt:bX (bw f (c.af.ce[i]!).2 c.ci).1/\nm (bw f (c.af.ce[i]!).2 c.ci).1:=Gn (dW bT hb.2).1 (dW bT hb.1).1 ok.fP ok.nT Nl;obtain ⟨t1,t2⟩:=tt;have re:=Ei inv.ok inv.ok.fit (t:=(bw f (c.af.ce[i]!).2 c.ci).1) hw hh t1 t2;have rr:=Dn inv.ok (t:=(bw f (c.af.ce[i]!).2 c.ci).1) hw hh t1 t2
   have rok:=Wf inv.ok hw t1 t2;have S3:=S2 inv.ok hw t1;have Wp:=Dm inv.ok hw t1;have stay: ∀(cs:List ry),(∀x∈cs,x.1≠(c.af.ce[i]!).1)-> ∀x∈cs,∀e:Ev,e.num=x.1->e∈a.bv->e∈(jz a w (bw f (c.af.ce[i]!).2 c.ci).1).bv:=by
    intro cs mE x hx e he hm;refine (S3 e).2 (.inr ⟨hm,fun h=>mE x hx ?_⟩)
    rw [<- he,h,aqO]
   refine ⟨k+1,jz a w (bw f (c.af.ce[i]!).2 c.ci).1,ds++[c.io[k]!],?_,?_,⟨rok,by rw [Wp.2];exact inv.w2,?_,?_,by omega,?_⟩,by simp;omega⟩
   · unfold cp Nj
     simp only [e1,lw,cg,aj,wn,pl,Nl,gk,Nk,re,ap,show ((0:Int) !=0)=afM from rfl,ol,sc]
   · unfold cP S6
     simp only [az,e1,lw,cg,aj,rZ,dq,wr,Nl,k0,gk,Nk,rr,ap,Do,ol,sc]
   · rw [tk]
     exact ((inv.new.mono (stay _ other)).snoc (x:=c.af.ce[i]!)).2 _ Nl hd2 ((S3 _).2 (.inl (by
      show _=((bw f (c.af.ce[i]!).2 c.ci).1.1,(bw f (c.af.ce[i]!).2 c.ci).1.2,(a.bv[w]!).2.2);rw [gx])))
   · exact hd4.mono (stay _ Wo)
   rw [Wp.1,inv.W3,v6]
   simp only [PP,ae2];omega
  |false=>
   right;have rv:=pF inv.ok hw inv.ok.fit hh;have rr:=v7 inv.ok hw hh;have rok:=Dp inv.ok hw;have S3:=GJ inv.ok hw;have Wp:=ams inv.ok hw;have stay: ∀(cs:List ry),(∀x∈cs,x.1≠(c.af.ce[i]!).1)-> ∀x∈cs,∀e:Ev,e.num=x.1->e∈a.bv->e∈(dK a w).bv:=by
    intro cs mE x hx e he hm;refine (S3 e).2 ⟨hm,fun h=>mE x hx ?_⟩
    rw [<- he,h,aqO]
   refine ⟨k+1,dK a w,ds,?_,?_,⟨rok,by rw [Wp.2];exact inv.w2,?_,hd4.mono (stay _ Wo),by omega,?_⟩,by omega⟩
   · unfold cp Nj
     simp only [e1,lw,cg,aj,wn,pl,Nl,gk,Nk,rv,show ((0:Int) !=0)=afM from rfl,ol,sc]
   · unfold cP S6
     simp only [az,e1,lw,cg,aj,rZ,dq,wr,Nl,k0,gk,Nk,rr,ww,ol,sc]
   · rw [tk]
     exact ((inv.new.mono (stay _ other)).snoc (x:=c.af.ce[i]!)).1 Nl
   have:=inv.W3
   rw [Wp.1];omega
 |false=>
  have Bi:=(bc.gb aeF).1 old;have no: ∀j,j<afI c.io->(c.io[j]!).1≠(c.af.ce[i]!).1:=by
   intro j hj he;obtain ⟨x,hx,h1,h2,_⟩:=ok.Bi.io _ (aW hj)
   have:=ok.rz.inj hx (aW hi) (by rw [<- h1,he])
   rw [this,aeF] at h2;cases h2
  obtain ⟨m,pl⟩:=pd.2 no;have dq:=da.2 no;have k0:afN ((0:Int)<= -1)=afM:=aC (by omega)
  cases Nl:(bw f (c.af.ce[i]!).2 c.ci).2 with
  |true=>
   have tt:bX (bw f (c.af.ce[i]!).2 c.ci).1/\nm (bw f (c.af.ce[i]!).2 c.ci).1:=Gn (dW bT hb.2).1 (dW bT hb.1).1 ok.fP ok.nT Nl;obtain ⟨t1,t2⟩:=tt;have n0:=(ok.tu.nr i hi).1;have n1:(c.af.ce[i]!).1<=1000000:=by have:=(ok.tu.nr i hi).2;have:=ok.tu.n1;omega
   have fresh:=S5 ok inv hi aeF
   by_cases op:vW a.ai
   · right
     have pu:=vX inv.ok op inv.ok.fit (t:=(bw f (c.af.ce[i]!).2 c.ci).1) (n:=(c.af.ce[i]!).1) t1 t2 n0 n1 fresh;have rp:=xL inv.ok op (t:=(bw f (c.af.ce[i]!).2 c.ci).1) (n:=(c.af.ce[i]!).1) t1 t2 n0 n1;have pok:=Rr inv.ok op (t:=(bw f (c.af.ce[i]!).2 c.ci).1) (n:=(c.af.ce[i]!).1) t1 t2 n0 n1 fresh
     have S4:=M8 inv.ok op (t:=(bw f (c.af.ce[i]!).2 c.ci).1) (n:=(c.af.ce[i]!).1) t1;have amr:=Ce inv.ok op (t:=(bw f (c.af.ce[i]!).2 c.ci).1) (n:=(c.af.ce[i]!).1) t1;have ap: ∀h:Int×Int,bo ds [((c.af.ce[i]!).1,h)]=afJ (ds++[((c.af.ce[i]!).1,h)]):=fun h=>bR (by simp;omega)
     have opn:=p9 inv.ok.so;rw [aE op] at opn;refine ⟨k,kH a (bw f (c.af.ce[i]!).2 c.ci).1 (c.af.ce[i]!).1,ds++[((c.af.ce[i]!).1,kG a.ai)],?_,?_,⟨pok,by rw [aeE inv.ok pok];exact inv.w2,?_,?_,inv.kl,?_⟩,by simp;omega⟩
     · unfold cp Nj
       simp only [e1,lw,cg,aj,wn,pl,Nl,Nk,pu,ap,show ((0:Int) !=0)=afM from rfl,ol,sc]
     · unfold cP S6
       simp only [az,e1,lw,cg,aj,rZ,dq,wr,Nl,k0,Nk,rp,ap,Do,ol,sc,opn]
     · rw [tk]
       exact ((inv.new.mono fun x hx e he hm=>(S4 e).2 (.inr hm)).snoc (x:=c.af.ce[i]!)).2 _ Nl rfl ((S4 _).2 (.inl rfl))
     · exact Bi.mono fun x hx e he hm=>(S4 e).2 (.inr hm)
     have:=inv.W3
     rw [amr,v6];simp only [PP,ae2];omega
   left
   have pu:=vY inv.ok op inv.ok.fit (t:=(bw f (c.af.ce[i]!).2 c.ci).1) (n:=(c.af.ce[i]!).1) t1 t2 n0 n1 fresh;have ap: ∀h:Int×Int,bo ds [((c.af.ce[i]!).1,h)]=afJ (ds++[((c.af.ce[i]!).1,h)]):=fun h=>bR (by simp;omega)
   have opn:=p9 inv.ok.so;rw [aC op] at opn;constructor
   · unfold cp Nj
     simp only [e1,lw,cg,aj,wn,pl,Nl,Nk,pu,ap,show ((18:Int) !=0)=afK from rfl,ol]
   unfold cP S6
   simp only [az,e1,lw,cg,aj,rZ,dq,wr,Nl,k0,Nk,Do,ww,ol,opn]
  |false=>
   right;refine ⟨k,a,ds,?_,?_,⟨inv.ok,inv.w2,?_,Bi,inv.kl,inv.W3⟩,by omega⟩
   · unfold cp Nj
     simp only [e1,lw,cg,aj,wn,pl,Nl,show ((0:Int) !=0)=afM from rfl,ol,sc]
   · unfold cP S6
     simp only [az,e1,lw,cg,aj,rZ,dq,wr,Nl,k0,ww,ol,sc]
   rw [tk]
   exact (inv.new.snoc (x:=c.af.ce[i]!)).1 Nl
theorem afU:
 (kf c ⟨f⟩=afJ (dY,18)/\kW c ⟨f⟩=afJ (dY,18))\/
 ∃c':aM,kf c ⟨f⟩=afJ (c',0)/\kW c ⟨f⟩=afJ (c',0)/\aZ c'/\c'.ii.am=f/\c'.ci=c.ci/\c'.af=c.af:=by
 have bd:=ok.bd;have f64:=bT.1;have run: ∀(d i k:Nat) (a:aL) (ds:List ry),afI c.af.ce-i<=d->i<=afI c.af.ce->GR c f i k a ds->afI ds<=i->
  (ay cp (Nj c f i a ds)=afJ (.done (dY,18))/\ay cP (S6 c f i a ds)=afJ (dY,18))\/
  ∃c':aM,ay cp (Nj c f i a ds)=afJ (.done (c',0))/\ay cP (S6 c f i a ds)=afJ (c',0)/\aZ c'/\c'.ii.am=f/\c'.ci=c.ci/\c'.af=c.af:=by
  have fin: ∀(k:Nat) (a:aL) (ds:List ry),GR c f (afI c.af.ce) k a ds-> ∃c':aM,ay cp (Nj c f (afI c.af.ce) a ds)=afJ (.done (c',0))/\ay cP (S6 c f (afI c.af.ce) a ds)=afJ (c',0)/\aZ c'/\c'.ii.am=f/\c'.ci=c.ci/\c'.af=c.af:=by
   intro k a ds inv;have e1:afN (((afI c.af.ce):Int)<((afI c.af.ce):Int))=afM:=aC (by omega)
   have hk:(afI c.io)-k=0:=by
    have:=inv.old
    rw [ae5] at this
    have:c.io.drop k=[]:=this
    rw [List.drop_eq_nil_iff] at this;omega
   have new:=inv.new;rw [List.take_length] at new;refine ⟨⟨c.ci,⟨f⟩,c.af,a,ds⟩,aH ?_,aH ?_,⟨ok.nT,ok.fP,bT,ok.tu,inv.ok,inv.w2,?_,kn,new⟩,rfl,rfl,rfl⟩
   · unfold cp Nj
     simp only [e1,ol]
   · unfold cP S6
     simp only [az,e1,ol]
   have:=inv.W3
   show (afI a.bv)=afI ds;omega
  intro d
  induction d with
  |zero=>
   intro i k a ds hd hi inv Xf
   have:i=(afI c.af.ce):=by omega
   subst this;exact .inr (fin k a ds inv)
  |succ d ih=>
   intro i k a ds hd hi inv Xf
   by_cases he:i=afI c.af.ce
   · subst he;exact .inr (fin k a ds inv)
   rcases Wn ok bT kn inv (by omega) Xf with ⟨h1,h2⟩|⟨k',a',zO,h1,h2,h3,h4⟩
   · exact .inl ⟨aH h1,aH h2⟩
   rw [aV h1,aV h2]
   exact ih (i+1) k' a' zO (by omega) (by omega) h3 h4
 have start:=run (afI c.af.ce) 0 0 c.ae [] (by omega) (by omega) ⟨ok.mb,ok.GP,rfl,by rw [ae4,ae4];exact ok.Bi,by omega,by have:=ok.hd;simp;omega⟩ (by simp)
 have hc:fT c=afJ 0:=by rw [jT ok.fit,pp ok]
 have hf:db ⟨f⟩=afJ 0:=by rw [eE];exact congrArg afJ (dp.2 bT)
 have tw:=gj ok;have tw':kC (aM.mk (c.ci.1,c.ci.2) (Field.mk c.ii.am) (bF.mk c.af.aN c.af.ce) (aL.mk (bg.mk c.ae.ai.aA c.ae.ai.be c.ae.ai.bi) c.ae.bv c.ae.aq) c.io)=afJ c:=tw
 have first:ay eB (c.af.ce,((afI c.af.ce):Int),0,c.ci.1,c.ci.2,c.ii.am,c.af.aN,c.af.ce,c.ae.ai.aA,c.ae.ai.be,c.ae.ai.bi,c.ae.bv,c.ae.aq,c.io,f,0,0,0)=
  ay eB (c.af.ce,((afI c.af.ce):Int),((afI c.af.ce):Int),c.ci.1,c.ci.2,c.ii.am,c.af.aN,c.af.ce,c.ae.ai.aA,c.ae.ai.be,c.ae.ai.bi,c.ae.bv,c.ae.aq,c.io,f,0,0,0):=by
  refine bS (body:=eB) (fun i=>(c.af.ce,((afI c.af.ce):Int),(i:Int),c.ci.1,c.ci.2,c.ii.am,c.af.aN,c.af.ce,c.ae.ai.aA,c.ae.ai.be,c.ae.ai.bi,c.ae.bv,c.ae.aq,c.io,f,0,0,0)) (afI c.af.ce) (fun i hi=>?_)
  have e1:afN ((i:Int)<((afI c.af.ce):Int))=afK:=aE (by omega)
  unfold eB;simp only [e1,lw,ar c.af.ce i hi,aj,jS bT,aC (Du bT (kn i hi).1),aC (Du bT (kn i hi).2),ol,aT (show i<1000000000 by omega)]
 have Wq: ∀r,ay cp (Nj c f 0 c.ae [])=afJ (.done r)->kf c ⟨f⟩=afJ r:=by
  intro r hr;unfold kf;simp only [hc,aj,show ((0:Int) !=0)=afM from rfl,ol,hf,az];rw [first]
  refine aH ?_;unfold eB;have e1:afN (((afI c.af.ce):Int)<((afI c.af.ce):Int))=afM:=aC (by omega)
  simp only [az,e1,ol,tw',aj,ba (show (afI f)<=1048576 by omega)]
  exact hr
 have afV: ∀r,ay cP (S6 c f 0 c.ae [])=afJ r->kW c ⟨f⟩=afJ r:=by
  intro r hr;unfold kW lH;simp only [jl ok,aj,ba (show (afI f)<=1048576 by omega)]
  exact hr
 rcases start with ⟨h1,h2⟩|⟨c',h1,h2,h3⟩
 · exact .inl ⟨Wq _ h1,afV _ h2⟩
 exact .inr ⟨c',Wq _ h1,afV _ h2,h3⟩
end
theorem jm (l:List (Int×Int)) (x:Int×Int) (hl:(afI l)<=1000000):eA l x=afJ (afN (x∈l)):=by
 unfold eA oD;have key:=hO (body:=iZ) (fun i=>(l,((afI l):Int),(i:Int),x)) (afI l) (fun i=>l[i]! =x) (fun i=>(i:Int)) (e:= -1) (fun i hi=>by
  have e1:afN ((i:Int)<((afI l):Int))=afK:=aE (by omega)
  unfold iZ;simp only [e1,lw,ar l i hi,aj,aT (show i<1000000000 by omega)]
  generalize l[i]! =y;constructor
  · intro h;rw [eI (congrArg afB h.symm),eI (congrArg Prod.snd h.symm)];rfl
  · intro h
    by_cases h1:x.1=y.1
    · rw [eI h1,dX (fun h2=>h (afg h1.symm h2.symm))];rfl
    rw [dX h1];rfl) (by
  unfold iZ
  have:afN (((afI l):Int)<((afI l):Int))=afM:=aC (by omega)
  simp only [this,ol])
 rw [az]
 by_cases hx:x∈l
 · obtain ⟨i,hi,he⟩:=aS.1 hx
   obtain ⟨k,h1,h2,h3⟩:=least (c:=fun i=>l[i]! =x) ⟨i,hi,he⟩
   have:=key.1 k h1 h2 h3
   rw [show ((0:Nat):Int)=0 from rfl] at this;rw [this,aE hx];simp only [aj,aE (show (0:Int)<=(k:Int) by omega)]
 have:=key.2 fun i hi he=>hx (aS.2 ⟨i,hi,he⟩)
 rw [show ((0:Nat):Int)=0 from rfl] at this;rw [this,aC hx];rfl
theorem D5 (l:List (Int×Int)) (x:Int×Int) (hl:(afI l)<=1000000):B6 l x=afJ (afN (x∈l)):=by
 unfold B6;have key:=di (body:=uj) (fun i=>(l,(i:Int),x)) (afI l) (fun i=>l[i]! =x) (r:=afK) (e:=afM) (fun i hi=>by
  have e1:afN ((i:Int)<((afI l):Int))=afK:=aE (by omega)
  unfold uj;simp only [az,e1,lw,ar l i hi,aj,aT (show i<1000000000 by omega)]
  generalize l[i]! =y;constructor
  · intro h;rw [eI (congrArg afB h),eI (congrArg Prod.snd h)];rfl
  · intro h
    by_cases h1:y.1=x.1
    · rw [eI h1,dX (fun h2=>h (afg h1 h2))];rfl
    rw [dX h1];rfl) (by
  unfold uj
  have:afN (((afI l):Int)<((afI l):Int))=afM:=aC (by omega)
  simp only [az,this,ol])
 by_cases hx:x∈l
 · rw [aE hx];exact key.1 (aS.1 hx)
 rw [aC hx];exact key.2 fun i hi he=>hx (aS.2 ⟨i,hi,he⟩)
theorem Wr (x y:ry):((x.1==y.1)&&((x.2.1==y.2.1)&&(x.2.2==y.2.2)))=afN (x=y):=by
 rw [Bool.eq_iff_iff,decide_eq_true_iff];simp only [Bool.and_eq_true,beq_iff_eq];constructor
 · rintro ⟨h1,h2,h3⟩;exact afg h1 (afg h2 h3)
 rintro rfl;exact ⟨rfl,rfl,rfl⟩
theorem Nn (a b:List ry) (hl:(afI a)<=1000000):wX ⟨a⟩ ⟨b⟩=afJ (afN (a=b)):=by
 unfold wX;simp only [az]
 by_cases h:(afI a)=afI b
 case neg=>rw [cz (by omega),aC (fun k=>h (by rw [k]))];rfl
 rw [bu (by omega)]
 simp only [ol];have key:=di (body:=pU) (fun i=>((i:Int),a,b)) (afI a) (fun i=> ¬a[i]! =b[i]!) (r:=afM) (e:=afK) (fun i hi=>by
  have e1:afN ((i:Int)<((afI a):Int))=afK:=aE (by omega)
  unfold pU;simp only [az,e1,lw,ar a i hi,ar b i (by omega),aj,aT (show i<1000000000 by omega),Wr]
  constructor
  · intro h;rw [aC h];rfl
  · intro h;rw [aE (M2.1 h)];rfl) (by
  unfold pU
  have:afN (((afI a):Int)<((afI a):Int))=afM:=aC (by omega)
  simp only [az,this,ol])
 by_cases he:a=b
 · rw [aE he]
   exact key.2 fun i hi=>M2.2 (by rw [he])
 rw [aC he]
 refine key.1 (AC fun hx=>he (qO h fun i hi=>?_))
 exact AC fun hn=>hx ⟨i,hi,hn⟩
theorem sd (a b:List ry) (hl:(afI a)<=1000000):kE a b=afJ (afN (a=b)):=by
 unfold kE;simp only [az]
 by_cases h:(afI a)=afI b
 case neg=>rw [cz (by omega),aC (fun k=>h (by rw [k]))];rfl
 rw [bu (by omega)]
 simp only [ol];have key:=di (body:=iG) (fun i=>(a,b,((afI a):Int),(i:Int))) (afI a) (fun i=> ¬a[i]! =b[i]!) (r:=afM) (e:=afK) (fun i hi=>by
  have e1:afN ((i:Int)<((afI a):Int))=afK:=aE (by omega)
  unfold iG;simp only [e1,lw,ar a i hi,ar b i (by omega),aj,aT (show i<1000000000 by omega),Wr]
  constructor
  · intro h;rw [aC h];rfl
  · intro h;rw [aE (M2.1 h)];rfl) (by
  unfold iG
  have:afN (((afI a):Int)<((afI a):Int))=afM:=aC (by omega)
  simp only [this,ol])
 by_cases he:a=b
 · rw [aE he]
   exact key.2 fun i hi=>M2.2 (by rw [he])
 rw [aC he]
 refine key.1 (AC fun hx=>he (qO h fun i hi=>?_))
 exact AC fun hn=>hx ⟨i,hi,hn⟩
theorem IV {cs:List ry} {m:Nat} {x:ry} (hx:x∈cs) (ec:x.1≠(cs[m]!).1):x∈cs.eraseIdx m:=by
 obtain ⟨j,hj,rfl⟩:=aS.1 hx;have hjm:j≠m:=fun h=>ec (by rw [h])
 rw [s9,UV]
 by_cases h:j<m
 · exact .inl (cm.2 ⟨j,h,hj,rfl⟩)
 right
 rw [aS];refine ⟨j- (m+1),by rw [If];omega,?_⟩
 rw [kZ]
 congr 1;omega
def kP (c0:aM) (f:List Pt) (es:List (Int×Int)) (i:Nat) (c:aM):=
 (es,c0.af.ce,((afI c0.af.ce):Int),(i:Int),c.ci.1,c.ci.2,c.ii.am,c.af.aN,c.af.ce,c.ae.ai.aA,c.ae.ai.be,c.ae.ai.bi,c.ae.bv,c.ae.aq,c.io,f,(0:Int),(0:Int),(0:Int))
def kR (c0:aM) (f:List Pt) (es:List (Int×Int)) (i:Nat) (c:aM):=
 (es,(i:Int),c0.ci.1,c0.ci.2,c0.ii.am,c0.af.aN,c0.af.ce,c0.ae.ai.aA,c0.ae.ai.be,c0.ae.ai.bi,c0.ae.bv,c0.ae.aq,c0.io,f,(0:Int),(0:Int),(0:Int),c.ci.1,c.ci.2,c.ii.am,c.af.aN,c.af.ce,c.ae.ai.aA,c.ae.ai.be,c.ae.ai.bi,c.ae.bv,c.ae.aq,c.io)
def eP (es:List (Int×Int)) (i:Nat) (c:aM):=
 (es,((afI es):Int),(i:Int),c.ci.1,c.ci.2,c.ii.am,c.af.aN,c.af.ce,c.ae.ai.aA,c.ae.ai.be,c.ae.ai.bi,c.ae.bv,c.ae.aq,c.io,(0:Int),(0:Int),(0:Int))
def eR (es:List (Int×Int)) (i:Nat) (c:aM):=
 (es,(i:Int),(0:Int),(0:Int),(0:Int),c.ci.1,c.ci.2,c.ii.am,c.af.aN,c.af.ce,c.ae.ai.aA,c.ae.ai.be,c.ae.ai.bi,c.ae.bv,c.ae.aq,c.io)
def Ck (c:aM):Int:=c.af.aN- ((afI c.af.ce):Int)
structure D6 (c:aM) (f:List Pt) (es:List (Int×Int)) (r:aM):Prop where
 has: ∀e∈es,tG r.af.ce e
 sub: ∀x∈r.af.ce,x.2∈es
 ok:aZ r
 iK:r.ii.am=f
 ci:r.ci=c.ci
 room:Ck c<=Ck r
def Roomy (c:aM) (k:Nat):Prop:=afI c.af.ce<=k/\c.af.aN<=k/\ ∀j,j<afI c.ae.ai.aA->c.ae.ai.aA[j]!<=k
theorem bc.len {l:List Pt} {t:Int×Int} {H:List Ev}: ∀{cs ds:List ry},bc l t H cs ds->afI ds<=afI cs
 | [],ds,h=>by rw [show ds=[] from h];exact EQ _
 |x::cs,ds,h=>by
  cases hy:(bw l x.2 t).2 with
  |true=>
   obtain ⟨d,zO,rfl,_,_,h4⟩:=h.1 hy;exact Nat.succ_le_succ h4.len
  |false=>exact Nat.le_succ_of_le (h.2 hy).len
theorem Roomy.GS {c:aM} (ok:aZ c) {k:Nat} (h:Roomy c k) (hk:k<=199): ¬(Ap c.af\/ ¬vW c.ae.ai):=by
 obtain ⟨h1,h2,h3⟩:=h;have fl:=ok.Bi.len;have hd:=ok.hd;have hl:=ok.mb.hl;have wl:=ok.mb.wl;have w2:=ok.GP;rintro (h|h)
 · rcases h with h|h<;>omega
 refine h ⟨by omega,?_⟩
 have:=h3 _ (xi ok.mb.so (by omega)).1
 omega
theorem Roomy.more {c c':aM} {k:Nat} (h:Roomy c k) {x:Int×Int} (hc:c'.af=mX c.af x) (hs:c'.ae.ai=c.ae.ai\/c'.ae.ai=ga c.ae.ai):Roomy c' (k+1):=by
 obtain ⟨h1,h2,h3⟩:=h;refine ⟨?_,?_,fun j hj=>?_⟩
 · rw [hc]
   show (c.af.ce++[(c.af.aN,x)]).length<=_;rw [v6,adm];omega
 · rw [hc]
   show c.af.aN+1<=_;omega
 rcases hs with e|e
 · rw [e] at hj ⊢
   have:=h3 j hj;omega
 rw [e] at hj ⊢
 change j<(c.ae.ai.aA.set _ _).length at hj;rw [IR] at hj;show (c.ae.ai.aA.set (cW c.ae.ai) (c.ae.ai.aA[cW c.ae.ai]!+1))[j]!<=_;rw [aX];split
 · rename_i h;have:=h3 _ h.2;omega
 have:=h3 j hj;omega
structure qh (f:List Pt) (es:List (Int×Int)):Prop where
 len:(afI es)<=1000000
 cv: ∀x∈es,fC x
 kn: ∀x∈es,iJ f x
theorem Ws {c0:aM} (ok0:aZ c0) {f:List Pt} {es:List (Int×Int)} (vo:qh f es):
 ∀(d i:Nat) (c:aM),afI c0.af.ce-i<=d->i<=afI c0.af.ce->aZ c->(∀x∈c0.af.ce.drop i,x∈c.af.ce)->(∀x∈c.af.ce,x∈c0.af.ce.drop i\/x.2∈es)->
  ∃c':aM,ay bI (kP c0 f es i c)=ay bI (kP c0 f es (afI c0.af.ce) c')/\ay dz (kR c0 f es i c)=ay dz (kR c0 f es (afI c0.af.ce) c')/\aZ c'/\(∀x∈c'.af.ce,x.2∈es)/\c'.ii=c.ii/\c'.ci=c.ci/\Ck c<=Ck c':=by
 have bd:=ok0.bd;intro d
 induction d with
 |zero=>
  intro i c hd hi ok h1 h2
  have:i=(afI c0.af.ce):=by omega
  subst this;refine ⟨c,rfl,rfl,ok,fun x hx=>?_,rfl,rfl,ae9 _⟩
  rcases h2 x hx with h|h
  · rw [ae5] at h;cases h
  exact h
 |succ d ih=>
  intro i c hd hi ok h1 h2
  by_cases he:i=afI c0.af.ce
  · subst he
    refine ⟨c,rfl,rfl,ok,fun x hx=>?_,rfl,rfl,ae9 _⟩
    rcases h2 x hx with h|h
    · rw [ae5] at h;cases h
    exact h
  have q8:i<(afI c0.af.ce):=by omega
  have e1:afN ((i:Int)<((afI c0.af.ce):Int))=afK:=aE (by omega)
  have sc:=aT (show i<1000000000 by omega)
  have cg:=ar c0.af.ce i q8;have dr:=pG q8;have rZ:(aM.mk (c.ci.1,c.ci.2) (Field.mk c.ii.am) (bF.mk c.af.aN c.af.ce) (aL.mk (bg.mk c.ae.ai.aA c.ae.ai.be c.ae.ai.bi) c.ae.bv c.ae.aq) c.io)=c:=rfl
  by_cases sE:(c0.af.ce[i]!).2∈es
  · have s1:bI (kP c0 f es i c)=afJ (.next (kP c0 f es (i+1) c)):=by
     unfold bI kP;simp only [e1,lw,cg,aj,jm _ _ vo.len,aE sE,Do,ol,sc]
    have s2:dz (kR c0 f es i c)=afJ (.next (kR c0 f es (i+1) c)):=by
     unfold dz kR;simp only [az,e1,lw,cg,aj,D5 _ _ vo.len,aE sE,Do,ol,sc]
    rw [aV s1,aV s2];refine ih (i+1) c (by omega) (by omega) ok (fun x hx=>h1 x (by rw [dr];exact ut _ hx)) (fun x hx=>?_)
    rcases h2 x hx with h|h
    · rw [dr] at h
      rcases afy.1 h with rfl|h
      · exact .inr sE
      exact .inl h
    exact .inr h
  have hm:=h1 (c0.af.ce[i]!) (by rw [dr];exact acl)
  obtain ⟨m,Qy,N7⟩:=aS.1 hm;obtain ⟨c',r1,r2,r3,r4,r5,r6⟩:=Wl ok Qy;have rt:=xM ok Qy r1;rw [N7] at r2 rt;have s1:bI (kP c0 f es i c)=afJ (.next (kP c0 f es (i+1) c')):=by
   unfold bI kP;simp only [e1,lw,cg,aj,jm _ _ vo.len,aC sE,ww,sc,rZ,rt]
  have s2:dz (kR c0 f es i c)=afJ (.next (kR c0 f es (i+1) c')):=by
   unfold dz kR;simp only [az,e1,lw,cg,aj,D5 _ _ vo.len,aC sE,ww,sc,rZ,r2]
  rw [aV s1,aV s2];have cl:c'.af.ce=c.af.ce.eraseIdx m:=by rw [r6];rfl
  have tN:Ck c<=Ck c':=by
   unfold Ck;rw [r6];show _<=c.af.aN- (((c.af.ce.eraseIdx m).length:Nat):Int);rw [List.length_eraseIdx_of_lt Qy];omega
  have hs:(∀x∈c0.af.ce.drop (i+1),x∈c'.af.ce)/\(∀x∈c'.af.ce,x∈c0.af.ce.drop (i+1)\/x.2∈es):=by
   refine ⟨fun x hx=>?_,fun x hx=>?_⟩
   · rw [cl]
     refine IV (h1 x (by rw [dr];exact ut _ hx)) ?_
     rw [N7];exact xq ok0 hx q8
   rw [cl] at hx
   obtain ⟨a1,a2⟩:=rY ok.rz Qy hx;rw [N7] at a2;rcases h2 x a1 with h|h
   · rw [dr] at h
     rcases afy.1 h with rfl|h
     · exact absurd rfl a2
     exact .inl h
   exact .inr h
  obtain ⟨d',q1,q2,q3,q4,q5,q6,q7⟩:=ih (i+1) c' (by omega) (by omega) r3 hs.1 hs.2
  exact ⟨d',q1,q2,q3,q4,q5.trans r4,q6.trans r5,by omega⟩
theorem No {f:List Pt} (_fok:bm f) {es:List (Int×Int)} (vo:qh f es):
 ∀(d i:Nat) (c:aM),afI es-i<=d->i<=afI es->aZ c->c.ii.am=f->(∀x∈c.af.ce,x.2∈es)->(∀j,j<i->tG c.af.ce es[j]!)->
  ∃r:aM×Int,ay cH (eP es i c)=afJ (.done r)/\ay dQ (eR es i c)=afJ (.done r)/\(r.2=0/\D6 c f es r.1\/r=(dY,18))/\(∀k,Roomy c k->k+(afI es-i)<=199->r.2=0):=by
 have el:=vo.len;have fin: ∀c:aM,aZ c->c.ii.am=f->(∀x∈c.af.ce,x.2∈es)->(∀j,j<afI es->tG c.af.ce es[j]!)-> ∃r:aM×Int,ay cH (eP es (afI es) c)=afJ (.done r)/\ay dQ (eR es (afI es) c)=afJ (.done r)/\(r.2=0/\D6 c f es r.1\/r=(dY,18))/\r.2=0:=by
  intro c ok hf hs hh;have e1:afN (((afI es):Int)<((afI es):Int))=afM:=aC (by omega)
  refine ⟨(c,0),aH ?_,aH ?_,.inl ⟨rfl,fun e he=>by obtain ⟨j,hj,q⟩:=aS.1 he;rw [<- q];exact hh j hj,hs,ok,hf,rfl,ae9 _⟩,rfl⟩
  · unfold cH eP
    simp only [e1,ol]
  unfold dQ eR
  simp only [az,e1,ol]
 intro d
 induction d with
 |zero=>
  intro i c hd hi ok hf hs hh
  have:i=(afI es):=by omega
  subst this;obtain ⟨r,q1,q2,q3,q4⟩:=fin c ok hf hs hh;exact ⟨r,q1,q2,q3,fun _ _ _=>q4⟩
 |succ d ih=>
  intro i c hd hi ok hf hs hh
  by_cases he:i=afI es
  · subst he
    obtain ⟨r,q1,q2,q3,q4⟩:=fin c ok hf hs hh;exact ⟨r,q1,q2,q3,fun _ _ _=>q4⟩
  have bd:=ok.bd;have q8:i<(afI es):=by omega
  have e1:afN ((i:Int)<((afI es):Int))=afK:=aE (by omega)
  have sc:=aT (show i<1000000000 by omega)
  have cg:=ar es i q8;have rZ:(aM.mk (c.ci.1,c.ci.2) (Field.mk c.ii.am) (bF.mk c.af.aN c.af.ce) (aL.mk (bg.mk c.ae.ai.aA c.ae.ai.be c.ae.ai.bi) c.ae.bv c.ae.aq) c.io)=c:=rfl;have Np:bF.mk c.af.aN c.af.ce=c.af:=rfl;have hc:=GN c.af.ce es[i]! (by omega)
  have hr:=xo c.af es[i]! (by omega)
  by_cases sE:tG c.af.ce es[i]!
  · have s1:cH (eP es i c)=afJ (.next (eP es (i+1) c)):=by
     unfold cH eP;simp only [e1,lw,cg,aj,v8,hc,aE sE,sc]
    have s2:dQ (eR es i c)=afJ (.next (eR es (i+1) c)):=by
     unfold dQ eR;simp only [az,e1,lw,cg,aj,Np,hr,aE sE,sc]
    rw [aV s1,aV s2];obtain ⟨r,q1,q2,q3,q4⟩:=ih (i+1) c (by omega) (by omega) ok hf hs (fun j hj=>if q:j=i then by rw [q];exact sE else hh j (by omega))
    exact ⟨r,q1,q2,q3,fun k hk hl=>q4 k hk (by omega)⟩
  have hb:iJ c.ii.am es[i]!:=by rw [hf];exact vo.kn _ (aW q8)
  rcases Rt ok (vo.cv _ (aW q8)) hb sE with ⟨r1,r2,full⟩|⟨c',r1,r2,r3,r4,r5,r6,r7⟩
  · refine ⟨(dY,18),aH ?_,aH ?_,.inr rfl,fun k hk hl=>absurd full (hk.GS ok (by omega))⟩
    · unfold cH eP
      simp only [e1,lw,cg,aj,v8,hc,aC sE,ol,rZ,r1,show ((18:Int) !=0)=afK from rfl]
    unfold dQ eR
    simp only [az,e1,lw,cg,aj,Np,hr,aC sE,ol,rZ,r2,show ((18:Int) !=0)=afK from rfl]
  have s1:cH (eP es i c)=afJ (.next (eP es (i+1) c')):=by
   unfold cH eP;simp only [e1,lw,cg,aj,v8,hc,aC sE,ol,rZ,r1,show ((0:Int) !=0)=afM from rfl,sc]
  have s2:dQ (eR es i c)=afJ (.next (eR es (i+1) c')):=by
   unfold dQ eR;simp only [az,e1,lw,cg,aj,Np,hr,aC sE,ol,rZ,r2,show ((0:Int) !=0)=afM from rfl,sc]
  rw [aV s1,aV s2];obtain ⟨r,q1,q2,q3,q6⟩:=ih (i+1) c' (by omega) (by omega) r3 (by rw [r4,hf]) (fun x hx=>by
   rw [r6] at hx;rcases UV.1 (show x∈c.af.ce++[(c.af.aN,es[i]!)] from hx) with h|h
   · exact hs x h
   · rw [List.mem_singleton.1 h];exact aW q8) (fun j hj=>by
   rw [r6];show tG (c.af.ce++[(c.af.aN,es[i]!)]) _
   by_cases q:j=i
   · rw [q];exact ⟨afI c.af.ce,by rw [v6,adm];omega,by rw [dB (EQ _),Nat.sub_self];rfl⟩
   obtain ⟨w,w1,w2⟩:=hh j (by omega)
   exact ⟨w,by rw [v6];omega,by rw [ck w1];exact w2⟩)
  refine ⟨r,q1,q2,q3.imp (fun ⟨q4,q5⟩=>⟨q4,q5.has,q5.sub,q5.ok,q5.iK,q5.ci.trans r5,ae8 ?_ q5.room⟩) id,fun k hk hl=>q6 (k+1) (hk.more r6 r7) (by omega)⟩
  unfold Ck;rw [r6];show _<=(c.af.aN+1) - (((c.af.ce++[(c.af.aN,es[i]!)]).length:Nat):Int);rw [v6,adm];omega
theorem Ru {c:aM} (ok:aZ c) {f:List Pt} (bT:bm f) {es:List (Int×Int)} (vo:qh f es):
 ∃r:aM×Int,ja c ⟨f⟩ es=afJ r/\jg c ⟨f⟩ es=afJ r/\(r.2=0/\D6 c f es r.1\/r=(dY,18)):=by
 have f64:=bT.1;obtain ⟨c',g1,g2,g3,g4,g5,g6,g7⟩:=Ws ok vo (afI c.af.ce) 0 c (by omega) (by omega) ok (fun x hx=>by rwa [ae4] at hx) (fun x hx=> .inl (by rwa [ae4]))
 have bd:=g3.bd;have e1:afN (((afI c.af.ce):Int)<((afI c.af.ce):Int))=afM:=aC (by omega)
 have amt:ja c ⟨f⟩ es=ay bI (kP c f es 0 c):=rfl;have amu:jg c ⟨f⟩ es=ay dz (kR c f es 0 c):=by
  unfold jg;simp only [jl ok,aj];rfl
 rw [amt,amu,g1,g2];have eq1:=sd c'.ii.am f (by omega)
 have eq2:=Nn c'.ii.am f (by omega)
 have rZ:(aM.mk (c'.ci.1,c'.ci.2) (Field.mk c'.ii.am) (bF.mk c'.af.aN c'.af.ce) (aL.mk (bg.mk c'.ae.ai.aA c'.ae.ai.be c'.ae.ai.bi) c'.ae.bv c'.ae.aq) c'.io)=c':=rfl
 by_cases hf:c'.ii.am=f
 · obtain ⟨r,i1,i2,i3,_⟩:=No bT vo (afI es) 0 c' (by omega) (by omega) g3 hf g4 (fun j hj=>absurd hj (afe j))
   refine ⟨r,aH ?_,aH ?_,i3.imp (fun ⟨q4,q5⟩=>⟨q4,q5.has,q5.sub,q5.ok,q5.iK,q5.ci.trans g6,ae8 g7 q5.room⟩) id⟩
   · unfold bI kP
     simp only [e1,ol,eq1,aE hf,aj,Do];exact i1
   unfold dz kR
   simp only [az,e1,ol,eq2,aE hf,aj,Do];exact i2
 have kn: ∀i,i<afI c'.af.ce->iJ f (c'.af.ce[i]!).2:=fun i hi=>vo.kn _ (g4 _ (aW hi))
 rcases afU g3 bT kn with ⟨a1,a2⟩|⟨c2,a1,a2,a3,a4,a5,a6⟩
 · refine ⟨(dY,18),aH ?_,aH ?_,.inr rfl⟩
   · unfold bI kP
     simp only [e1,ol,eq1,aC hf,aj,ww,lw,rZ,a1,show ((18:Int) !=0)=afK from rfl]
   unfold dz kR
   simp only [az,e1,ol,eq2,aC hf,aj,ww,lw,rZ,a2,show ((18:Int) !=0)=afK from rfl]
 obtain ⟨r,i1,i2,i3,_⟩:=No bT vo (afI es) 0 c2 (by omega) (by omega) a3 a4 (by rw [a6];exact g4) (fun j hj=>absurd hj (afe j))
 refine ⟨r,aH ?_,aH ?_,i3.imp (fun ⟨q4,q5⟩=>⟨q4,q5.has,q5.sub,q5.ok,q5.iK,(q5.ci.trans a5).trans g6,ae8 (ae8 g7 (by unfold Ck;rw [a6];exact ae9 _)) q5.room⟩) id⟩
 · unfold bI kP
   simp only [e1,ol,eq1,aC hf,aj,ww,lw,rZ,a1,show ((0:Int) !=0)=afM from rfl];exact i1
 unfold dz kR
 simp only [az,e1,ol,eq2,aC hf,aj,ww,lw,rZ,a2,show ((0:Int) !=0)=afM from rfl];exact i2
theorem GU {α:Type} [Inhabited α] {l:List α}:l.Nodup↔ ∀k,k<afI l->l[k]!∉l.take k:=by
 rw [gM];constructor
 · intro h k hk hm
   obtain ⟨i,h1,h2,h3⟩:=cm.1 hm;exact h i k h1 hk h3
 intro h i j lq hj he
 exact h j hj (cm.2 ⟨i,lq,by omega,he⟩)
theorem yP {α:Type} [Inhabited α] {l:List α} {P:α->Prop}:(∀x∈l,P x)↔ ∀i,i<afI l->P l[i]!:=by
 constructor
 · intro h i hi;exact h _ (aW hi)
 intro h x hx
 obtain ⟨i,hi,rfl⟩:=aS.1 hx;exact h i hi
theorem np {σ ρ:Type} {body:σ->Option (Step σ ρ)} (st:Nat->σ) (n:Nat) (P:Nat->Prop) {r e:ρ} (h: ∀i,i<n->(¬P i->body (st i)=afJ (.done r))/\(P i->body (st i)=afJ (.next (st (i+1)))))
 (VZ:body (st n)=afJ (.done e)):ay body (st 0)=afJ (if∀i,i<n->P i then e else r):=by
 have key:=di (body:=body) st n (fun i=> ¬P i) (r:=r) (e:=e) (fun i hi=>⟨(h i hi).1,fun hn=>(h i hi).2 (M2.1 hn)⟩) VZ
 by_cases hx: ∀i,i<n->P i
 · rw [pp hx];exact key.2 fun i hi=>M2.2 (hx i hi)
 rw [rc hx]
 obtain ⟨i,h⟩:=Classical.not_forall.1 hx;obtain ⟨hi,hx⟩:=Classical.not_imp.1 h;exact key.1 ⟨i,hi,hx⟩
theorem Aq {f:List Pt} (bT:bm f) (id:Int): ∃p e,sV ⟨f⟩ id=afJ (p,e)/\(e=0↔ft f id):=by
 have h1:=bT.1;have hc:db ⟨f⟩=afJ 0:=by rw [eE];exact congrArg afJ (dp.2 bT)
 have bs:=qe f id (by omega) (fun i j=>ej bT.2.2)
 unfold sV j9 jh;rw [Cg];simp only [hc,aj,show ((0:Int) !=0)=afM from rfl,ol]
 by_cases h:ft f id
 · obtain ⟨k,hk,he⟩:=h
   rw [bs.1 k hk he];refine ⟨f[k]!,0,?_,fun _=>⟨k,hk,he⟩,fun _=>rfl⟩
   simp only [aj,Do,ol,show ((0:Int) !=0)=afM from rfl,ar f k hk]
 obtain ⟨m,_,_,_,e⟩:=bs.2 (fun k hk he=>h ⟨k,hk,he⟩)
 rw [e];exact ⟨(0,0,0),6,rfl,fun h=>(by cases h),fun k=>absurd k h⟩
structure Rv (c:aM):Prop where
 f:(afI c.ii.am)<=1000000
 l:(afI c.af.ce)<=1000000
 d:(afI c.io)<=1000000
 h:(afI c.ae.bv)<=1000000
 w:(afI c.ae.aq)<=1000000
 s1:(afI c.ae.ai.aA)<=1000000
 s2:(afI c.ae.ai.be)<=1000000
 s3:(afI c.ae.ai.bi)<=1000000
theorem aZ.short {c:aM} (ok:aZ c):Rv c:=by
 have bd:=ok.bd;have ab:=ok.mb.bd;have sl:=ok.mb.so.fl;have sn:=ok.mb.so.n2;have su:=ok.mb.so.ul;exact ⟨by omega,by omega,by omega,by omega,by omega,by omega,by omega,by omega⟩
theorem HL:Rv dY:=⟨by decide,by decide,by decide,by decide,by decide,by decide,by decide,by decide⟩
structure Wt (c:aM):Prop where
 ci:nm c.ci
 Px: ∀w,w<afI c.ae.bv->nm ((c.ae.bv[w]!).1,(c.ae.bv[w]!).2.1)
theorem aeG (p q:Pt) (t:Int×Int):IH p q t=(p.2.1-q.2.1)*t.2+(p.2.2-q.2.2)*t.1:=rfl
theorem Ej {p q:Pt} {t:Int×Int} (hp:fq p) (hq:fq q) (ht:nm t) (hr:bX t):oC p q t=afJ (afN (leads p q t),if p.1=q.1 then 2 else 0)\/(p.1=q.1/\oC p q t=afJ (afM,2)):=by
 unfold oC;rw [u5 ht,pp ⟨hp,hq,hr⟩]
 by_cases h:p.1=q.1
 · right;simp [h]
 left
 simp only [h,if_false,aj,uC hp hq ht]
 have:afN (0<Pm p q t)=afN (leads p q t):=by simp only [Gl]
 simp [this]
end Go.Proofs.YtbgoiokedpjgbaaGreat
namespace Go.Proofs.YtbgoiokedpjgbaaGreat
theorem te {α:Type} [BEq α] [LawfulBEq α]: ∀{a b:List α},a.Nodup->(∀x∈a,x∈b)->afI b<=afI a->a.Perm b
 | [],b,_,_,hl=>by
  rw [List.eq_nil_of_length_eq_zero (show (afI b)=0 by simpa using hl)]
 |x::a,b,hd,h,hl=>by
  rw [WF] at hd;have hx:=h x acl;have ih:=te (a:=a) (b:=b.erase x) hd.2 (fun y hy=>by
   rw [List.mem_erase_of_ne (fun e=>hd.1 (by rw [<- e];exact hy))]
   exact h y (ut _ hy)) (by
   rw [List.length_erase_of_mem hx];rw [PP] at hl
   omega)
  exact (List.Perm.cons x ih).trans (List.perm_cons_erase hx).symm
theorem tf {α β:Type} {f:α->β}: ∀{l:List α},l.Nodup->(∀x∈l,∀y∈l,f x=f y->x=y)->(l.map f).Nodup
 | [],_,_=>List.nodup_nil
 |x::l,h,hi=>by
  rw [WF] at h;rw [List.map_cons,WF];refine ⟨fun hm=>?_,tf h.2 fun y hy z hz=>hi y (ut _ hy) z (ut _ hz)⟩
  obtain ⟨y,hy,e⟩:=ae3.1 hm
  have:=hi y (ut _ hy) x acl e
  rw [this] at hy;exact h.1 hy
end Go.Proofs.YtbgoiokedpjgbaaGreat
namespace Go.Proofs.YtbgoiokedpjgbaaGreat
open Go.Vm Classical
def Dv (l:List Int) (k:Nat):List (Int×Int):=(afj k).map fun i=>(l[i+1]!,l[i / 2]!)
abbrev yQ (l:List Int):List (Int×Int):=Dv l (afI l-1)
theorem A9 (l:List Int) (k:Nat):(Dv l k).length=k:=by unfold Dv;rw [afc,af4]
theorem D7 (l:List Int) {k i:Nat} (h:i<k):(Dv l k)[i]! =(l[i+1]!,l[i / 2]!):=by
 rw [getElem!_pos _ i (by rw [A9];exact h)]
 unfold Dv;rw [List.getElem_map,List.getElem_range]
theorem Nq {l:List Int} (hd:l.Nodup):(yQ l).Nodup:=by
 unfold yQ Dv;refine tf afb fun i hi j hj h=>?_
 rw [adc] at hi hj;have h1:l[i+1]! =l[j+1]!:=congrArg afB h;have h2:=gM.1 hd;rcases F0s i j with k|k|k
 · exact absurd h1 (h2 (i+1) (j+1) (by omega) (by omega))
 · exact k
 exact absurd h1.symm (h2 (j+1) (i+1) (by omega) (by omega))
theorem GV (l:List Int) (x:Int) (hl:(afI l)<=1000000):
 (∀k,k<afI l->l[k]! =x->(∀j,j<k->l[j]!≠x)->eK l x=afJ (k:Int))/\((∀k,k<afI l->l[k]!≠x)->eK l x=afJ (-1)):=by
 have k1:=hO (body:=jx) (fun i=>(l,x,((afI l):Int),(i:Int))) (afI l) (fun i=>l[i]! =x) (fun i=>(i:Int)) (e:= -1) (fun i hi=>by
  unfold jx;simp only [aE (show (i:Int)<((afI l):Int) by omega),lw,ar l i hi,aj,aT (show i<1000000000 by omega)]
  refine ⟨fun h=>?_,fun h=>?_⟩
  · rw [eI h.symm];rfl
  · rw [dX (fun k=>h k.symm)];rfl) (by
  unfold jx;simp only [aC (show¬((afI l):Int)<((afI l):Int) by omega),ol])
 exact ⟨fun k hk h1 h2=>k1.1 k hk h1 h2,fun h=>k1.2 h⟩
theorem aeH {f:List Pt} (bT:bm f) {t:Int×Int} (qc:nm t) {x:Int×Int} (hb:iJ f x):xb x ⟨f⟩ t=afJ (afN (leads (fR f x.2) (fR f x.1) t)):=by
 obtain ⟨h1,h2⟩:=hb;obtain ⟨j,j1,j2,j3⟩:=xp bT h1;obtain ⟨k,k1,k2,k3⟩:=xp bT h2;unfold xb;simp only [j2,k2,aj,ar f j j1,ar f k k1,j3,k3,Gm (dW bT h2).1 (dW bT h1).1 qc]
def jb (f:List Pt):List Int:=f.map fun p=>p.1
theorem Dw {f:List Pt} (h:fx f):(jb f).Nodup:=by
 refine tf ?_ ?_
 · exact gM.2 fun i j lq hj e=>by have:=ej h lq hj;rw [e] at this;omega
 intro x hx y hy e
 obtain ⟨i,hi,rfl⟩:=aS.1 hx;obtain ⟨j,hj,rfl⟩:=aS.1 hy;rw [xh h hi hj e]
theorem mZ {f:List Pt} {id:Int}:id∈jb f↔ft f id:=by
 unfold jb ft;rw [ae3];constructor
 · rintro ⟨p,hp,rfl⟩
   obtain ⟨i,hi,rfl⟩:=aS.1 hp;exact ⟨i,hi,rfl⟩
 rintro ⟨i,hi,rfl⟩
 exact ⟨f[i]!,aW hi,rfl⟩
structure tg (k:Ag):Prop where
 CA:aZ k.jp
 perm:(jb k.jp.ii.am).Perm k.bv
 cert:(k.jp.af.ce.map fun x=>x.2).Perm (yQ k.bv)
 lead: ∀e∈yQ k.bv,leads (fR k.jp.ii.am e.2) (fR k.jp.ii.am e.1) k.jp.ci
theorem uG {c:bF} (ok:eQ c):(c.ce.map fun x=>x.2).Nodup:=by
 refine tf ?_ ?_
 · exact gM.2 fun i j lq hj e=>ok.nd i j lq hj (by rw [e])
 intro x hx y hy e
 obtain ⟨i,hi,rfl⟩:=aS.1 hx;obtain ⟨j,hj,rfl⟩:=aS.1 hy;rcases F0s i j with k|k|k
 · exact absurd e (ok.nd i j k hj)
 · rw [k]
 exact absurd e.symm (ok.nd j i k hi)
theorem th {l:List ry} {x:Int×Int}:tG l x↔x∈l.map fun y=>y.2:=by
 unfold tG;rw [ae3];constructor
 · rintro ⟨i,hi,rfl⟩;exact ⟨l[i]!,aW hi,rfl⟩
 rintro ⟨y,hy,rfl⟩
 obtain ⟨i,hi,rfl⟩:=aS.1 hy;exact ⟨i,hi,rfl⟩
theorem Cl {α:Type} {p q:Prop} [Decidable p] [Decidable q] {a b:α} (h:p↔q):(if p then a else b)=if q then a else b:=by
 by_cases hp:p
 · rw [pp hp,pp (h.1 hp)]
 rw [rc hp,rc (fun k=>hp (h.2 k))]
theorem aeI {c:aM} (ok:aZ c) (es:List (Int×Int)) (kn: ∀x∈es,iJ c.ii.am x):
 xd c es=afJ (afN (afI c.af.ce=afI es/\ ∀i,i<afI es->tG c.af.ce es[i]!/\leads (fR c.ii.am (es[i]!).2) (fR c.ii.am (es[i]!).1) c.ci)):=by
 have bd:=ok.bd;unfold xd;simp only [az]
 by_cases h0:(afI c.af.ce)=afI es
 case neg=>rw [cz (by omega),lw,aC (fun h=>h0 h.1)]
 rw [bu (by omega),ol]
 have key:=np (body:=p7) (fun i=>(es,(i:Int),c.ci.1,c.ci.2,c.ii.am,c.af.aN,c.af.ce,c.ae.ai.aA,c.ae.ai.be,c.ae.ai.bi,c.ae.bv,c.ae.aq,c.io)) (afI es)
  (fun i=>tG c.af.ce es[i]!/\leads (fR c.ii.am (es[i]!).2) (fR c.ii.am (es[i]!).1) c.ci) (r:=afM) (e:=afK) (fun i hi=>by
  have Np:bF.mk c.af.aN c.af.ce=c.af:=rfl;unfold p7;simp only [az,aE (show (i:Int)<((afI es):Int) by omega),lw,ar es i hi,aj,Np,xo c.af es[i]! (by omega),aeH ok.iK (t:=(c.ci.1,c.ci.2)) ok.fP (kn _ (aW hi)),aT (show i<1000000000 by omega)]
  by_cases h1:tG c.af.ce es[i]!
  · rw [aE h1]
    by_cases h2:leads (fR c.ii.am (es[i]!).2) (fR c.ii.am (es[i]!).1) c.ci
    · rw [show afN (leads (fR c.ii.am (es[i]!).2) (fR c.ii.am (es[i]!).1) (c.ci.1,c.ci.2))=afK from aE h2]
      exact ⟨fun h=>absurd ⟨h1,h2⟩ h,fun _=>rfl⟩
    rw [show afN (leads (fR c.ii.am (es[i]!).2) (fR c.ii.am (es[i]!).1) (c.ci.1,c.ci.2))=afM from aC h2]
    exact ⟨fun _=>rfl,fun h=>absurd h.2 h2⟩
  · rw [aC h1]
    exact ⟨fun _=>rfl,fun h=>absurd h.1 h1⟩) (by
  unfold p7;simp only [az,aC (show¬((afI es):Int)<((afI es):Int) by omega),ol])
 refine (show _=_ from key).trans ?_
 by_cases h2: ∀i,i<afI es->tG c.af.ce es[i]!/\leads (fR c.ii.am (es[i]!).2) (fR c.ii.am (es[i]!).1) c.ci
 · rw [pp h2,aE ⟨h0,h2⟩]
 rw [rc h2,aC (fun h=>h2 h.2)]
def bC (p w:List Int) (i:Nat):Int:=if i<(afI w) then w[i]! else p[i-(afI w)]!
def jU (i j:Nat):Prop:= ∃d,(j+1) / 2^d=i+1
theorem jU.refl (i:Nat):jU i i:=⟨0,by simp⟩
theorem nP {i k j:Nat} (hk:k=2*i+1\/k=2*i+2) (h:jU k j):jU i j:=by
 obtain ⟨d,hd⟩:=h;refine ⟨d+1,?_⟩;rw [af5,<- NE,hd];omega
theorem EL {a b c d:Nat} (h:a<=b) (hc:(c+1) / 2^a=d):(c+1) / 2^b=d / 2^(b-a):=by
 have:2^b=2^a*2^(b-a):=by rw [<- Nat.pow_add];congr 1;omega
 rw [this,<- NE,hc]
theorem Nr {x e:Nat} (he:0<e):x / 2^e<=x / 2:=by
 obtain ⟨k,rfl⟩: ∃k,e=k+1:=⟨e-1,by omega⟩
 rw [show 2^(k+1)=2*2^k by rw [af5];omega,<- NE]
 exact Nat.div_le_self _ _
theorem qQ {i j:Nat} (h1:jU (2*i+1) j) (h2:jU (2*i+2) j):False:=by
 obtain ⟨a,ha⟩:=h1;obtain ⟨b,hb⟩:=h2;rcases F0s a b with h|h|h
 · have:=EL (afa h) ha
   have:=Nr (x:=2*i+1+1) (e:=b-a) (by omega)
   omega
 · subst h;omega
 have:=EL (afa h) hb
 have:=Nr (x:=2*i+2+1) (e:=a-b) (by omega)
 omega
theorem Wu {i k j1 j2:Nat} (h1:jU (2*i+1) j1) (h2:jU (2*i+2) j2) (g:(jU (2*k+1) j1/\jU (2*k+2) j2)\/(jU (2*k+1) j2/\jU (2*k+2) j1)):i=k:=by
 have main: ∀{i k j1 j2:Nat},jU (2*i+1) j1\/jU (2*i+2) j1->jU i j2->(jU (2*k+1) j1/\jU (2*k+2) j2)\/(jU (2*k+1) j2/\jU (2*k+2) j1)-> ∀a a':Nat,(j1+1) / 2^a=i+1->(j1+1) / 2^a'=k+1->a<a'->False:=by
  intro i k j1 j2 _ u2 g a a' ha Fv dM;have e:=EL (afa dM) ha;rw [Fv] at e;obtain ⟨c,hc⟩: ∃c,a'-a=c+1:=⟨a'-a-1,by omega⟩
  rw [hc,af5,<- NE] at e;have q: ∃m,(i+1) / 2^c=m+1/\(m=2*k+1\/m=2*k+2):=⟨(i+1) / 2^c-1,by omega,by omega⟩
  obtain ⟨m,hm,hmk⟩:=q;have um: ∀j,jU i j->jU m j:=fun j ⟨d,hd⟩=>⟨d+c,by
   rw [EL (Nat.le_add_right d c) hd,show d+c-d=c by omega,hm]⟩
  have u1:jU i j1:=⟨a,ha⟩;have v1:=um _ u1;have v2:=um _ u2;rcases hmk with rfl|rfl
  · rcases g with g|g
    · exact qQ v2 g.2
    exact qQ v1 g.2
  rcases g with g|g
  · exact qQ g.1 v1
  exact qQ g.1 v2
 have i1:jU i j1:=nP (.inl rfl) h1;have i2:jU i j2:=nP (.inr rfl) h2;have k1:jU k j1:=by rcases g with g|g;exact nP (.inl rfl) g.1;exact nP (.inr rfl) g.2
 have k2:jU k j2:=by rcases g with g|g;exact nP (.inr rfl) g.2;exact nP (.inl rfl) g.1
 obtain ⟨a,ha⟩:=i1;obtain ⟨a',Fv⟩:=k1;rcases F0s a a' with h|h|h
 · exact (main (.inl h1) i2 g a a' ha Fv h).elim
 · subst h;omega
 exact (main (i:=k) (k:=i) (j1:=j1) (j2:=j2) (by rcases g with g|g;exact .inl g.1;exact .inr g.2) k2 (.inl ⟨h1,h2⟩) a' a Fv ha h).elim
def xt (p w:List Int):Prop:= ∀i,i<afI w->w[i]! =bC p w (2*i+1)\/w[i]! =bC p w (2*i+2)
theorem xu {p w:List Int} (hl:(afI w)+1=afI p) (hc:xt p w): ∀(d i:Nat),afI w+afI p-i<=d->i<afI w+afI p-> ∃j,afI w<=j/\j<afI w+afI p/\jU i j/\p[j-(afI w)]! =bC p w i:=by
 intro d
 induction d with
 |zero=>intro i h1 h2;omega
 |succ d ih=>
  intro i h1 h2
  by_cases hi:i<afI w
  · rcases hc i hi with e|e
    · obtain ⟨j,j1,j2,j3,j4⟩:=ih (2*i+1) (by omega) (by omega)
      refine ⟨j,j1,j2,nP (.inl rfl) j3,?_⟩;rw [j4,<- e];unfold bC;rw [pp hi]
    obtain ⟨j,j1,j2,j3,j4⟩:=ih (2*i+2) (by omega) (by omega)
    refine ⟨j,j1,j2,nP (.inr rfl) j3,?_⟩;rw [j4,<- e];unfold bC;rw [pp hi]
  refine ⟨i,by omega,h2,.refl i,?_⟩
  unfold bC;rw [rc hi]
def zP (p:List Int):Prop:= ∀i j,i<j->j<afI p->p[i]! =p[j]!->p[i]!<0
theorem zP.inj {p:List Int} (h:zP p) {i j:Nat} (hi:i<afI p) (hj:j<afI p) (e:p[i]! =p[j]!) (h0:0<=p[i]!):i=j:=by
 rcases F0s i j with k|k|k
 · have:=h i j k hj e;omega
 · exact k
 have:=h j i k hi e.symm;rw [<- e] at this;omega
section
variable {p w : List Int} (hl : (afI w) + 1 = (afI p)) (hc : xt p w) (ho : zP p)
include hl hc
theorem jV {i:Nat} (hi:i<afI w+afI p):bC p w i∈p:=by
 obtain ⟨j,j1,j2,_,e⟩:=xu hl hc _ i (EQ _) hi;rw [<- e];exact aW (by omega)
include ho
theorem EM {i:Nat} (hi:i<afI w) (h0:0<=bC p w (2*i+1)):bC p w (2*i+1)≠bC p w (2*i+2):=by
 intro e;obtain ⟨j,j1,j2,j3,j4⟩:=xu hl hc _ (2*i+1) (EQ _) (by omega)
 obtain ⟨k,k1,k2,k3,k4⟩:=xu hl hc _ (2*i+2) (EQ _) (by omega)
 have:=ho.inj (i:=j-(afI w)) (j:=k-(afI w)) (by omega) (by omega) (by rw [j4,k4,e]) (by rw [j4];exact h0)
 obtain rfl:j=k:=by omega
 exact qQ j3 k3
theorem Wv {i k:Nat} (hi:i<afI w) (hk:k<afI w) (h1:0<=bC p w (2*i+1)) (h2:0<=bC p w (2*i+2))
 (g:(bC p w (2*k+1)=bC p w (2*i+1)/\bC p w (2*k+2)=bC p w (2*i+2))\/(bC p w (2*k+1)=bC p w (2*i+2)/\bC p w (2*k+2)=bC p w (2*i+1))):i=k:=by
 obtain ⟨j1,a1,a2,a3,a4⟩:=xu hl hc _ (2*i+1) (EQ _) (by omega)
 obtain ⟨j2,b1,b2,b3,b4⟩:=xu hl hc _ (2*i+2) (EQ _) (by omega)
 obtain ⟨l1,c1,c2,c3,c4⟩:=xu hl hc _ (2*k+1) (EQ _) (by omega)
 obtain ⟨l2,d1,d2,d3,d4⟩:=xu hl hc _ (2*k+2) (EQ _) (by omega)
 have same: ∀{x y:Nat},afI w<=x->x<afI w+afI p->afI w<=y->y<afI w+afI p->p[x-(afI w)]! =p[y-(afI w)]!->0<=p[x-(afI w)]!->x=y:=fun {x y} hx hx' hy hy' e h0=>by
  have:=ho.inj (i:=x-(afI w)) (j:=y-(afI w)) (by omega) (by omega) e h0
  omega
 refine Wu a3 b3 ?_;rcases g with ⟨g1,g2⟩|⟨g1,g2⟩
 · have e1:j1=l1:=same a1 a2 c1 c2 (by rw [a4,c4,g1]) (by rw [a4];exact h1)
   have e2:j2=l2:=same b1 b2 d1 d2 (by rw [b4,d4,g2]) (by rw [b4];exact h2)
   subst e1 e2;exact .inl ⟨c3,d3⟩
 have e1:j2=l1:=same b1 b2 c1 c2 (by rw [b4,c4,g1]) (by rw [b4];exact h2)
 have e2:j1=l2:=same a1 a2 d1 d2 (by rw [a4,d4,g2]) (by rw [a4];exact h1)
 subst e1 e2;exact .inr ⟨c3,d3⟩
end
noncomputable def wa (f:List Pt) (t:Int×Int) (x y:Int):Int:=if x<0 then y else if y<0 then x else if leads (fR f x) (fR f y) t then x else y
theorem Rw (f:List Pt) (t:Int×Int) (x y:Int):wa f t x y=x\/wa f t x y=y:=by
 unfold wa;split
 · exact .inr rfl
 split
 · exact .inl rfl
 split
 · exact .inl rfl
 exact .inr rfl
def GW (f:List Pt) (t:Int×Int) (p w:List Int):Prop:=afI w+1=afI p/\ ∀i,i<afI w->w[i]! =wa f t (bC p w (2*i+1)) (bC p w (2*i+2))
theorem GW.vg {f:List Pt} {t:Int×Int} {p w:List Int} (h:GW f t p w):xt p w:=fun i hi=>by
 rw [h.2 i hi];exact Rw ..
noncomputable def IW (f:List Pt) (t:Int×Int) (p:List Int):Nat->List Int->List Int
 |0,w=>w
 |i+1,w=>IW f t p i (w.set i (wa f t (bC p w (2*i+1)) (bC p w (2*i+2))))
noncomputable def bB (f:List Pt) (t:Int×Int) (p:List Int):List Int:=IW f t p (afI p-1) (afx (afI p-1) 0)
theorem IX {p w:List Int} {i k:Nat} {v:Int} (h:i≠k):bC p (w.set i v) k=bC p w k:=by
 unfold bC;rw [IR];split
 · rw [aX,rc (fun x=>h x.1.symm)]
 rfl
theorem IY {f:List Pt} {t:Int×Int} {p:List Int}: ∀(n:Nat) (w:List Int),n<=afI w->(∀i,n<=i->i<afI w->w[i]! =wa f t (bC p w (2*i+1)) (bC p w (2*i+2)))->
 (IW f t p n w).length=afI w/\ ∀i,i<afI w->(IW f t p n w)[i]! =wa f t (bC p (IW f t p n w) (2*i+1)) (bC p (IW f t p n w) (2*i+2))
 |0,w,_,h=>⟨rfl,fun i hi=>h i (Nat.zero_le _) hi⟩
 |n+1,w,hn,h=>by
  have ih:=IY n (w.set n (wa f t (bC p w (2*n+1)) (bC p w (2*n+2)))) (by rw [IR];omega) (fun i h1 h2=>by
   rw [IR] at h2;rw [IX (by omega),IX (by omega),aX]
   split
   · rename_i e;rw [e.1]
   exact h i (by omega) h2)
  rw [IR] at ih;exact ih
theorem dL {f:List Pt} {t:Int×Int} {p:List Int} (hp:1<=afI p):GW f t p (bB f t p):=by
 have:=IY (f:=f) (t:=t) (p:=p) (afI p-1) (afx (afI p-1) 0) (by rw [ae1];omega) (fun i h1 h2=>by rw [ae1] at h2;omega)
 rw [ae1] at this;have hl:(bB f t p).length=afI p-1:=this.1;exact ⟨by omega,fun i hi=>this.2 i (by omega)⟩
theorem S7 {f:List Pt} {t:Int×Int} {p w v:List Int} (h:GW f t p w) (g:GW f t p v):w=v:=by
 have hl:(afI w)=(afI v):=by have:=h.1;have:=g.1;omega
 have key: ∀(d i:Nat),afI w-i<=d->i<afI w->w[i]! =v[i]!:=by
  intro d
  induction d with
  |zero=>intro i h1 h2;omega
  |succ d ih=>
   intro i _ hi;have nd: ∀k,i<k->bC p w k=bC p v k:=fun k hk=>by
    unfold bC;rw [hl];split
    · rename_i h';exact ih k (by omega) (by omega)
    rfl
   rw [h.2 i hi,g.2 i (by omega),nd _ (by omega),nd _ (by omega)]
 exact qO hl fun i hi=>key _ i (EQ _) hi
noncomputable def xN (p w:List Int) (i:Nat):Option (Int×Int):=
 if bC p w (2*i+1)<0\/bC p w (2*i+2)<0 then none
 else if w[i]! =bC p w (2*i+1) then afJ (bC p w (2*i+2),bC p w (2*i+1)) else afJ (bC p w (2*i+1),bC p w (2*i+2))
noncomputable def fg (p w:List Int):List (Int×Int):=(afj (afI w)).filterMap (xN p w)
theorem A' (p w:List Int):(fg p w).length<=(afI w):=by
 have:=List.length_filterMap_le (xN p w) (afj (afI w))
 rwa [af4] at this
theorem GX {p w:List Int} {e:Int×Int}:e∈fg p w↔ ∃i,i<afI w/\xN p w i=afJ e:=by
 unfold fg;rw [af3];constructor
 · rintro ⟨i,hi,h⟩;exact ⟨i,adc.1 hi,h⟩
 rintro ⟨i,hi,h⟩;exact ⟨i,adc.2 hi,h⟩
theorem xw {p w:List Int} {i:Nat} {e:Int×Int} (h:xN p w i=afJ e):0<=bC p w (2*i+1)/\0<=bC p w (2*i+2)/\
 ((e=(bC p w (2*i+2),bC p w (2*i+1))/\w[i]! =bC p w (2*i+1))\/(e=(bC p w (2*i+1),bC p w (2*i+2))/\w[i]!≠bC p w (2*i+1))):=by
 unfold xN at h;split at h
 · cases h
 rename_i hn
 refine ⟨by omega,by omega,?_⟩
 split at h
 · rename_i h1;injection h with h;exact .inl ⟨h.symm,h1⟩
 rename_i h1;injection h with h;exact .inr ⟨h.symm,h1⟩
theorem xO {α β:Type} {g:α->Option β}: ∀{l:List α},l.Nodup->(∀x∈l,∀y∈l,∀b,g x=afJ b->g y=afJ b->x=y)->(l.filterMap g).Nodup
 | [],_,_=> .nil
 |a::r,h,hi=>by
  obtain ⟨h1,h2⟩:=WF.1 h;have ih:=xO (g:=g) h2 (fun x hx y hy b e1 e2=>hi x (ut _ hx) y (ut _ hy) b e1 e2)
  cases hg:g a with
  |none=>rw [List.filterMap_cons_none hg];exact ih
  |some b=>
   rw [List.filterMap_cons_some hg];refine WF.2 ⟨fun hb=>?_,ih⟩
   obtain ⟨y,hy,e⟩:=af3.1 hb
   have:=hi a (acl ..) y (ut _ hy) b hg e
   subst this;exact h1 hy
theorem KE {p w:List Int} (hl:(afI w)+1=afI p) (hc:xt p w) (ho:zP p):(fg p w).Nodup:=by
 refine xO afb fun i hi k hk b e1 e2=>?_
 have hi:=adc.1 hi;have hk:=adc.1 hk;obtain ⟨a1,a2,a3⟩:=xw e1;obtain ⟨b1,b2,b3⟩:=xw e2;refine Wv hl hc ho hi hk a1 a2 ?_;rcases a3 with ⟨rfl,_⟩|⟨rfl,_⟩<;>rcases b3 with ⟨h,_⟩|⟨h,_⟩<;>(injection h with h1 h2)
 · exact .inl ⟨h2.symm,h1.symm⟩
 · exact .inr ⟨h1.symm,h2.symm⟩
 · exact .inr ⟨h2.symm,h1.symm⟩
 exact .inl ⟨h1.symm,h2.symm⟩
theorem S8 {f:List Pt} (bT:bm f) {p w:List Int} (hl:(afI w)+1=afI p) (hn:(afI p)<=64) (hc:xt p w) (ho:zP p) (hk: ∀x∈p,0<=x->ft f x):qh f (fg p w):=by
 have hp: ∀e∈fg p w,iJ f e/\e.1≠e.2:=fun e he=>by
  obtain ⟨i,hi,h⟩:=GX.1 he;obtain ⟨a1,a2,a3⟩:=xw h;have m1:=jV hl hc (i:=2*i+1) (by omega)
  have m2:=jV hl hc (i:=2*i+2) (by omega)
  have ne:=EM hl hc ho hi a1;rcases a3 with ⟨rfl,_⟩|⟨rfl,_⟩
  · exact ⟨⟨hk _ m2 a2,hk _ m1 a1⟩,fun h=>ne h.symm⟩
  exact ⟨⟨hk _ m1 a1,hk _ m2 a2⟩,ne⟩
 refine ⟨by have:=A' p w;omega,fun e he=>?_,fun e he=>(hp e he).1⟩
 obtain ⟨⟨h1,h2⟩,ne⟩:=hp e he;obtain ⟨⟨p1,p2⟩,q1,q2⟩:=And.intro (dW bT h1) (dW bT h2);unfold fq at p1 q1;unfold fC;omega
end Go.Proofs.YtbgoiokedpjgbaaGreat
