/- Plain laws (3). -/
import Derived.Test.YtbgoiokedpjgbaaGreatBQM2
import Derived.Test.YtbgoiokedpjgbaaGreatBQS2
open Bool renaming not_true->ut,not_false->AC,and_self->afb,true->aga,false->agb
open List renaming mem_cons_of_mem->v6,length_append->ww,length_drop->IR,length_set->M2,length_singleton->PP,length_cons->UV,mem_append->acl,length_map->adc,nodup_cons->ae9,mem_cons_self->af2,mem_range->af4,length_replicate->af5,length_nil->af6,mem_map->af7,drop_zero->afa,drop_length->afc,mem_filterMap->afi,length_range->afk,nodup_range->afE,range->afK,replicate->afQ,mem_cons->afR,length->afU
open Classical renaming byContradiction->Do,not_not->If,not_forall->afh,not_imp->afj
open Nat renaming le_refl->EQ,lt_trichotomy->F0s,div_div_eq_div_mul->NE,pow_succ->afm,le_of_lt->afo,not_lt_zero->afF
open Int renaming le_trans->aff,le_refl->afg
open Prod renaming ext->afI,fst->afS
open Option renaming some->afV
open Decidable renaming decide->agc
namespace Go.Proofs.YtbgoiokedpjgbaaGreat
open Go.Vm Classical
theorem M0 (c:aP) (n:Int) (hl:(afU c.io)<=1000000):(∀k,k<afU c.io->(c.io[k]!).1=n->(∀j,j<k->(c.io[j]!).1≠n)->nH c n=afV (k:Int))/\((∀k,k<afU c.io->(c.io[k]!).1≠n)->nH c n=afV (-1)):=by
 unfold nH;refine hO (body:=om) (fun i=>(n,(i:Int),c.ci.1,c.ci.2,c.ii.am,c.ai.aM,c.ai.ce,c.ae.af.aA,c.ae.af.be,c.ae.af.bi,c.ae.bv,c.ae.aq,c.io)) (afU c.io) (fun i=>(c.io[i]!).1=n) (fun i=>(i:Int)) (fun i hi=>?_) ?_
 · have e1:agc ((i:Int)<((afU c.io):Int))=aga:=aD (by omega)
   unfold om;simp only [ay,e1,lw,ar c.io i hi,aj,aR (show i<1000000000 by omega)]
   constructor
   · intro h;rw [ei h];rfl
   intro h;rw [dO h];rfl
 unfold om
 have:agc (((afU c.io):Int)<((afU c.io):Int))=agb:=aC (by omega)
 simp only [ay,this,ol]
theorem IA {ds:List rl} (hu:Up ds) (hl:(afU ds)<=1000000) (n:Int):(∀k,k<afU ds->(ds[k]!).1=n->nK ds n=afV ((k:Int),aga))/\((∀k,k<afU ds->(ds[k]!).1≠n)-> ∃m:Nat,nK ds n=afV ((m:Int),agb)):=by
 have bs:=qi ds n hl (rV.1 hu);unfold nK;rw [amX];constructor
 · intro k hk he;rw [bs.1 k hk he];rfl
 intro h
 obtain ⟨m,_,_,_,e⟩:=bs.2 h;exact ⟨m,by rw [e];rfl⟩
theorem bk.bd {c:aP} (ok:bk c):(afU c.io)<=200/\afU c.ii.am<=64/\afU c.ai.ce<=200:=by
 have:=ok.hd;have:=ok.ng.bd;have:=ok.ie.1;have:=ok.uO.len
 omega
theorem jn {c:aP} (ok:bk c):lJ c=afV c:=by
 have bd:=ok.bd;unfold lJ je pj;simp only [aZ (show (afU c.ii.am)<=1048576 by omega),aZ (show (afU c.ai.ce)<=1048576 by omega),aZ (show (afU c.io)<=1048576 by omega),aj,qh ok.ng]
theorem kY {c:aP} (ok:bk c):lP c=afV c:=by
 have bd:=ok.bd;have ab:=ok.ng.bd;have hl:=ok.ng.so.fl;have hn:=ok.ng.so.n2;have hu:=ok.ng.so.ul;unfold lP;simp only [aZ (show (afU c.ii.am)<=1048576 by omega),aZ (show (afU c.ai.ce)<=1048576 by omega),aZ (show (afU c.io)<=1048576 by omega),aZ (show (afU c.ae.bv)<=1048576 by omega),aZ (show (afU c.ae.aq)<=1048576 by omega),
  aZ (show (afU c.ae.af.aA)<=1048576 by omega),aZ (show (afU c.ae.af.be)<=1048576 by omega),aZ (show (afU c.ae.af.bi)<=1048576 by omega),aj]
theorem wV {cs:List rl} {i:Nat} (hu:Up cs) (hi:i<afU cs) {x:rl} (hx:x∈cs.eraseIdx i):x∈cs/\x.1≠(cs[i]!).1:=by
 rw [sX,acl] at hx;have ub:=rV.1 hu;rcases hx with hx|hx
 · obtain ⟨j,h1,h2,rfl⟩:=cf.1 hx
   have:=ub j i h1 hi
   exact ⟨aX h2,by omega⟩
 obtain ⟨j,hj,rfl⟩:=aS.1 hx
 rw [IR] at hj;rw [kX]
 have:=ub i (i+1+j) (by omega) (by omega)
 exact ⟨aX (by omega),by omega⟩
theorem DQ {c:aP} (ok:bk c) (i:Nat) (hi:i<afU c.ai.ce): ∀j,j<(mV c.ai i).ce.length->jm c.ii.am ((mV c.ai i).ce[j]!).2:=by
 intro j hj;have hm:(mV c.ai i).ce[j]!∈c.ai.ce:=(wV ok.wU hi (aX hj)).1;obtain ⟨m,hm1,TK⟩:=aS.1 hm;rw [<- TK];exact ok.known m hm1
theorem amZ {c:aP} (ok:bk c) {i:Nat} (hi:i<afU c.ai.ce):
 ∃c':aP,pA c (c.ai.ce[i]!).1=afV (c',(c.ai.ce[i]!).2,0)/\sH c (c.ai.ce[i]!).1=afV c'/\bk c'/\c'.ii=c.ii/\c'.ci=c.ci/\c'.ai=mV c.ai i:=by
 have bd:=ok.bd;have rm:=GF ok.uO hi (n:=(c.ai.ce[i]!).1) rfl;have wo:=Db ok.uO hi (n:=(c.ai.ce[i]!).1) rfl;have fe:=ok.D9.erase (i:=i) hi;have pd:=IA ok.GG (by omega) (c.ai.ce[i]!).1
 have da:=M0 c (c.ai.ce[i]!).1 (by omega)
 cases hf:(bD c.ii.am (c.ai.ce[i]!).2 c.ci).2 with
 |false=>
  have no: ∀k,k<afU c.io->(c.io[k]!).1≠(c.ai.ce[i]!).1:=by
   intro k hk he;obtain ⟨x,hx,h1,h2,_⟩:=ok.D9.io _ (aX hk);obtain ⟨j,hj,rfl⟩:=aS.1 hx;have ub:=rV.1 ok.wU
   have:j=i:=by
    rcases F0s j i with h|h|h
    · have:=ub j i h hi;omega
    · exact h
    have:=ub i j h hj;omega
   rw [this,hf] at h2;cases h2
  refine ⟨⟨c.ci,c.ii,mV c.ai i,c.ae,c.io⟩,?_,?_,?_,rfl,rfl,rfl⟩
  · unfold pA
    obtain ⟨m,e⟩:=pd.2 no;simp only [rm,aj,show ((0:Int) !=0)=agb from rfl,ol,kY ok,e]
  · unfold sH
    simp only [jn ok,aj,wo,da.2 no,aC (show¬(0:Int)<= -1 by omega),ol]
  exact ⟨ok.pG,ok.gF,ok.ie,GD ok.uO hi,ok.ng,ok.Kg,ok.hd,DQ ok i hi,fe.1 hf⟩
 |true=>
  obtain ⟨k,hk,k1,k2,k3⟩:=fe.2 hf;obtain ⟨w,hw,gL⟩:=aS.1 k2;have hh:(c.ae.bv[w]!).2.2.2=(c.io[k]!).2:=by rw [gL]
  have ub:=rV.1 ok.GG;have before: ∀j,j<k->(c.io[j]!).1≠(c.ai.ce[i]!).1:=fun j hj he=>by have:=ub j k hj hk;omega
  have dl:(c.io.eraseIdx k).length=afU c.io-1:=B7 hk;obtain ⟨L,d1,d2⟩:=yx c.io k hk;refine ⟨⟨c.ci,c.ii,mV c.ai i,eu c.ae w,c.io.eraseIdx k⟩,?_,?_,?_,rfl,rfl,rfl⟩
  · unfold pA
    simp only [rm,aj,show ((0:Int) !=0)=agb from rfl,ol,kY ok,pd.1 k hk k1,lw,ar c.io k hk,vD ok.ng hw ok.ng.fit hh,aR (show k<1000000000 by omega),Pm,d1,d2]
  · unfold sH
    have s1:fW c.io 0 (k:Int)=afV (c.io.take k):=jT c.io k (by omega)
    have s2:fW c.io ((k+1:Nat):Int) ((afU c.io):Int)=afV (c.io.drop (k+1)):=by
     unfold fW;rw [pp ⟨by omega,by omega,by omega⟩]
     simp only [Int.toNat_natCast];rw [List.take_of_length_le (by rw [IR];exact EQ _)]
    have tl:(c.io.take k).length=k:=by rw [List.length_take];omega
    have dl2:(c.io.drop (k+1)).length=afU c.io- (k+1):=IR;simp only [jn ok,aj,wo,da.1 k hk k1 before,aD (show (0:Int)<=(k:Int) by omega),lw,ar c.io k hk,vE ok.ng hw hh,s1,aZ (show (c.io.take k).length<=1048576 by omega),aR (show k<1000000000 by omega),ay,s2,
     bT (show (c.io.take k).length+(c.io.drop (k+1)).length<=1048576 by omega),sX]
    cases hem:(c.io.drop (k+1)).isEmpty with
    |true=>
     rw [List.isEmpty_iff] at hem;rw [hem,List.append_nil];rfl
    |false=>rfl
  have rem:=C' ok.ng hw
  have SY:=Gz ok.ng hw;have cT:(eu c.ae w).bv.length=afU c.ae.bv-1:=by
   have h1:=rem.hl;have h2:=ok.ng.hl;have h3:(eu c.ae w).af=fD c.ae.af (c.ae.bv[w]!).2.2.2:=by unfold eu;split<;>rfl
   rw [h3] at h1;change _+(c.ae.af.bi++[_]).length=(afU c.ae.af.aA) at h1;rw [ww] at h1;simp only [UV,af6] at h1;omega
  have am0:(eu c.ae w).aq.length=200:=by
   have h1:=rem.wl;have h3:(eu c.ae w).af=fD c.ae.af (c.ae.bv[w]!).2.2.2:=by unfold eu;split<;>rfl
   rw [h3] at h1;change _=(afU c.ae.af.aA) at h1;rw [h1,<- ok.ng.wl,ok.Kg]
  refine ⟨ok.pG,ok.gF,ok.ie,GD ok.uO hi,rem,am0,?_,DQ ok i hi,?_⟩
  · show (eu c.ae w).bv.length=(c.io.eraseIdx k).length
    rw [cT,dl,ok.hd]
  refine k3.mono fun x hx e he hm=>(SY e).2 ⟨hm,fun h=>?_⟩
  have:=(wV ok.wU hi hx).2
  rw [h,gL] at he;exact this he.symm
theorem D' {c:aP} (ok:bk c) {i:Nat} (_hi:i<afU c.ai.ce) {c':aP} (h:pA c (c.ai.ce[i]!).1=afV (c',(c.ai.ce[i]!).2,0)):rQ c (c.ai.ce[i]!).1=afV (c',0):=by
 unfold rQ;rw [lW ok.fit,pp ok];simp only [aj,show ((0:Int) !=0)=agb from rfl,ol,h]
abbrev eM:aP:=⟨(0,0),⟨[]⟩,⟨0,[]⟩,⟨⟨[],[],[]⟩,[],[]⟩,[]⟩
theorem Kh {l:List Pt} (ok:bw l) {id:Int} (h:fh l id): ¬(fX l id).1<0:=by
 obtain ⟨h1,_⟩:=eY ok h
 have:=h1.1
 omega
theorem aeI {c:aP} (ok:bk c) {x:Int×Int} (hx:fx x) (hb:jm c.ii.am x) (hn: ¬rU c.ai.ce x):
 (hM c x=afV (eM,0,18)/\j8 c x=afV (eM,0,18)/\(B6 c.ai\/ ¬xn c.ae.af))\/
 ∃c':aP,hM c x=afV (c',c.ai.aM,0)/\j8 c x=afV (c',c.ai.aM,0)/\bk c'/\c'.ii=c.ii/\c'.ci=c.ci/\c'.ai=oN c.ai x/\(c'.ae.af=c.ae.af\/c'.ae.af=gr c.ae.af):=by
 have bd:=ok.bd;have n0:=ok.uO.n0;have n1:=ok.uO.n1;have fit:=ok.fit;have ad:=MV ok.uO hx;have rd:=Kf ok.uO hx;rw [rc hn] at ad rd;have hc:gq c=afV 0:=by rw [lW fit,pp ok]
 have p1:=lV ok.ie x.1;have p2:=lV ok.ie x.2;have q1:=Kh ok.ie hb.1;have q2:=Kh ok.ie hb.2;have wh:=uL ok.ie hx ok.pG ok.gF;rw [pp hb] at wh;have rw':=uM ok.ie ok.gF hb
 by_cases hf:B6 c.ai
 · rw [pp hf] at ad rd
   left;refine ⟨?_,?_,.inl hf⟩
   · unfold hM dv
     simp only [hc,aj,show ((0:Int) !=0)=agb from rfl,ol,ad,show ((18:Int)==8)=agb from rfl,p1,p2,aC q1,aC q2,show ((18:Int) !=0)=aga from rfl,lw]
   unfold j8
   simp only [rd,aj,show ((18:Int) !=0)=aga from rfl,lw]
 rw [rc hf] at ad rd;have cok:=Po ok.uO hx hn hf;have Wi: ∀j,j<(oN c.ai x).ce.length->jm c.ii.am ((oN c.ai x).ce[j]!).2:=by
  intro j hj;rw [zt] at hj;rw [sY]
  by_cases h:j<afU c.ai.ce
  · rw [pp h];exact ok.known j h
  rw [rc h,pp (by omega)];exact hb
 have fresh: ∀e∈c.ae.bv,Ev.num e≠c.ai.aM:=by
  intro e he dW;obtain ⟨d,hd,h1⟩:=ok.A2 e he;obtain ⟨y,hy,h2,_⟩:=ok.D9.io d hd;obtain ⟨j,hj,rfl⟩:=aS.1 hy
  have:=(ok.uO.nr j hj).2
  omega
 have sn:=ok.D9.snoc (x:=(c.ai.aM,x));cases hw:(bD c.ii.am x c.ci).2 with
 |false=>
  right;refine ⟨⟨c.ci,c.ii,oN c.ai x,c.ae,c.io⟩,?_,?_,⟨ok.pG,ok.gF,ok.ie,cok,ok.ng,ok.Kg,ok.hd,Wi,sn.1 hw⟩,rfl,rfl,rfl,.inl rfl⟩
  · unfold hM dv
    simp only [hc,aj,show ((0:Int) !=0)=agb from rfl,ol,ad,show ((0:Int)==8)=agb from rfl,p1,p2,aC q1,aC q2,kY ok,wh,hw]
  unfold j8
  simp only [rd,aj,show ((0:Int) !=0)=agb from rfl,ol,jn ok,rw',hw,AC,lw]
 |true=>
  obtain ⟨t1,t2⟩:=Gg (eY ok.ie hb.2).1 (eY ok.ie hb.1).1 ok.gF ok.pG hw
  by_cases op:xn c.ae.af
  · right
    have pu:=vA ok.ng op ok.ng.fit (t:=(bD c.ii.am x c.ci).1) (n:=c.ai.aM) t1 t2 n0 n1 fresh;have rp:=xo ok.ng op (t:=(bD c.ii.am x c.ci).1) (n:=c.ai.aM) t1 t2 n0 n1;have pok:=Rh ok.ng op (t:=(bD c.ii.am x c.ci).1) (n:=c.ai.aM) t1 t2 n0 n1 fresh
    have SZ:=MR ok.ng op (t:=(bD c.ii.am x c.ci).1) (n:=c.ai.aM) t1;have am2:=B3 ok.ng op (t:=(bD c.ii.am x c.ci).1) (n:=c.ai.aM) t1;have ap: ∀h:Int×Int,bq c.io [(c.ai.aM,h)]=afV (c.io++[(c.ai.aM,h)]):=fun h=>bT (by simp;omega)
    have am0:(kD c.ae (bD c.ii.am x c.ci).1 c.ai.aM).aq.length=200:=by
     have:=pok.wl
     change _=(c.ae.af.aA.set _ _).length at this;rw [M2] at this;rw [this,<- ok.ng.wl,ok.Kg]
    refine ⟨⟨c.ci,c.ii,oN c.ai x,kD c.ae (bD c.ii.am x c.ci).1 c.ai.aM,c.io++[(c.ai.aM,kC c.ae.af)]⟩,?_,?_,⟨ok.pG,ok.gF,ok.ie,cok,pok,am0,?_,Wi,?_⟩,rfl,rfl,rfl,.inr rfl⟩
    · unfold hM dv
      simp only [hc,aj,show ((0:Int) !=0)=agb from rfl,ol,ad,show ((0:Int)==8)=agb from rfl,p1,p2,aC q1,aC q2,kY ok,wh,hw,lw,pu,ap]
    · unfold j8
      simp only [rd,aj,show ((0:Int) !=0)=agb from rfl,ol,jn ok,rw',hw,ut,qg ok.ng.so,aD op,rp,ap]
    · show (kD c.ae (bD c.ii.am x c.ci).1 c.ai.aM).bv.length=(c.io++[_]).length
      rw [am2,ww,ok.hd];rfl
    have fm:aW c.ii.am c.ci (kD c.ae (bD c.ii.am x c.ci).1 c.ai.aM).bv c.ai.ce c.io:=ok.D9.mono fun y hy e he hm=>(SZ e).2 (.inr hm)
    exact (fm.snoc (x:=(c.ai.aM,x))).2 _ hw rfl ((SZ _).2 (.inl rfl))
  left
  have pu:=vB ok.ng op ok.ng.fit (t:=(bD c.ii.am x c.ci).1) (n:=c.ai.aM) t1 t2 n0 n1 fresh;refine ⟨?_,?_,.inr op⟩
  · unfold hM dv
    simp only [hc,aj,show ((0:Int) !=0)=agb from rfl,ol,ad,show ((0:Int)==8)=agb from rfl,p1,p2,aC q1,aC q2,kY ok,wh,hw,lw,pu,show ((18:Int) !=0)=aga from rfl]
  unfold j8
  simp only [rd,aj,show ((0:Int) !=0)=agb from rfl,ol,jn ok,rw',hw,ut,qg ok.ng.so,aC op,AC,lw]
theorem Up.inj {cs:List rl} (h:Up cs) {x y:rl} (hx:x∈cs) (hy:y∈cs) (he:x.1=y.1):x=y:=by
 obtain ⟨i,hi,rfl⟩:=aS.1 hx;obtain ⟨j,hj,rfl⟩:=aS.1 hy;have ub:=rV.1 h;rcases F0s i j with h1|h1|h1
 · have:=ub i j h1 hj;omega
 · rw [h1]
 have:=ub j i h1 hi;omega
structure GH (c:aP) (f:List Pt) (i k:Nat) (a:aK) (ds:List rl):Prop where
 ok:eH a
 w2:(afU a.aq)=200
 new:aW f c.ci a.bv (c.ai.ce.take i) ds
 old:aW c.ii.am c.ci a.bv (c.ai.ce.drop i) (c.io.drop k)
 kl:k<=afU c.io
 cnt:(afU a.bv)=afU ds+(afU c.io-k)
theorem am3 {a:aK} (ok:eH a) {w:Nat} (hw:w<afU a.bv):(eu a w).bv.length=afU a.bv-1/\(eu a w).aq.length=(afU a.aq):=by
 have rem:=C' ok hw;have h3:(eu a w).af=fD a.af (a.bv[w]!).2.2.2:=by unfold eu;split<;>rfl
 have h1:=rem.hl;have h2:=ok.hl;have h4:=rem.wl;rw [h3] at h1 h4;change _+(a.af.bi++[_]).length=(afU a.af.aA) at h1;change _=(afU a.af.aA) at h4;rw [ww] at h1;simp only [UV,af6] at h1;exact ⟨by omega,by rw [h4,ok.wl]⟩
theorem aeJ {a:aK} {t:Int×Int} {n:Int} (ok:eH a) (pok:eH (kD a t n)):(kD a t n).aq.length=(afU a.aq):=by
 have:=pok.wl
 change _=(a.af.aA.set _ _).length at this;rw [M2] at this;rw [this,ok.wl]
section
variable {c : aP} (ok : bk c) {f : List Pt} (cS : bw f) (kn : ∀ i, i < (afU c.ai.ce) -> jm f (c.ai.ce[i]!).2)
include ok
theorem B' {i:Nat} {x:rl} (hx:x∈c.ai.ce.take i) (hi:i<afU c.ai.ce):x.1≠(c.ai.ce[i]!).1:=by
 obtain ⟨j,h1,h2,rfl⟩:=cf.1 hx
 have:=ok.uO.up j i h1 hi
 omega
theorem Ca {i:Nat} {x:rl} (hx:x∈c.ai.ce.drop (i+1)) (hi:i<afU c.ai.ce):x.1≠(c.ai.ce[i]!).1:=by
 obtain ⟨j,h1,rfl⟩:=aS.1 hx;rw [IR] at h1;rw [kX]
 have:=ok.uO.up i (i+1+j) (by omega) (by omega)
 omega
theorem S0 {i k:Nat} {a:aK} {ds:List rl} (inv:GH c f i k a ds) (hi:i<afU c.ai.ce) (was:(bD c.ii.am (c.ai.ce[i]!).2 c.ci).2=agb): ∀e∈a.bv,Ev.num e≠(c.ai.ce[i]!).1:=by
 have u1:Up (c.ai.ce.take i):=ok.wU.sublist (List.take_sublist _ _);have u2:Up (c.ai.ce.drop i):=ok.wU.sublist (List.drop_sublist _ _);have d1:=inv.new.up u1;have d2:=inv.old.up u2;have arM: ∀x∈ds,∀y∈c.io.drop k,x.1<y.1:=by
  intro x hx y hy;obtain ⟨p,hp,h1,_⟩:=inv.new.io x hx;obtain ⟨q,hq,h2,_⟩:=inv.old.io y hy;obtain ⟨m,m1,m2,rfl⟩:=cf.1 hp;obtain ⟨n,n1,rfl⟩:=aS.1 hq;rw [IR] at n1;rw [kX] at h2
  have:=ok.uO.up m (i+n) (by omega) (by omega)
  omega
 have nd:((ds++c.io.drop k).map fun x=>x.1).Nodup:=MZ (by
  show List.Pairwise _ _;rw [List.pairwise_append];exact ⟨d1,d2,arM⟩)
 have only:=DP (H:=a.bv) nd (by rw [adc,ww,IR,inv.cnt];exact EQ _) (fun n hn=>by
  obtain ⟨x,hx,rfl⟩:=af7.1 hn;rcases acl.1 hx with hx|hx
  · obtain ⟨p,hp,h1,h2,h3⟩:=inv.new.io x hx
    exact ⟨_,h3,h1.symm⟩
  obtain ⟨p,hp,h1,h2,h3⟩:=inv.old.io x hx
  exact ⟨_,h3,h1.symm⟩)
 intro e he dW;obtain ⟨x,hx,h1⟩:=af7.1 (only e he);rcases acl.1 hx with hx|hx
 · obtain ⟨p,hp,h2,_⟩:=inv.new.io x hx
   exact B' ok hp hi (by rw [<- h2,h1,dW])
 obtain ⟨p,hp,h2,h3,_⟩:=inv.old.io x hx
 have hp':p∈c.ai.ce:=List.mem_of_mem_drop hp
 have:=ok.wU.inj hp' (aX hi) (by rw [<- h2,h1,dW])
 rw [this,was] at h3;cases h3
def S1 (c:aP) (f:List Pt) (i:Nat) (a:aK) (ds:List rl):=
 (c.ai.ce,((afU c.ai.ce):Int),(i:Int),c.ci.1,c.ci.2,c.ii.am,c.ai.aM,c.ai.ce,c.ae.af.aA,c.ae.af.be,c.ae.af.bi,c.ae.bv,c.ae.aq,c.io,f,(0:Int),(0:Int),(0:Int),c.ci.1,c.ci.2,c.ai.aM,c.ai.ce,a.af.aA,a.af.be,a.af.bi,a.bv,a.aq,f,ds)
def S2 (c:aP) (f:List Pt) (i:Nat) (a:aK) (ds:List rl):=
 ((i:Int),c.ci.1,c.ci.2,c.ii.am,c.ai.aM,c.ai.ce,c.ae.af.aA,c.ae.af.be,c.ae.af.bi,c.ae.bv,c.ae.aq,c.io,f,(0:Int),(0:Int),(0:Int),c.ci.1,c.ci.2,f,c.ai.aM,c.ai.ce,a.af.aA,a.af.be,a.af.bi,a.bv,a.aq,ds)
include cS kn
theorem Wj {i k:Nat} {a:aK} {ds:List rl} (inv:GH c f i k a ds) (hi:i<afU c.ai.ce) (Xf:(afU ds)<=i):
 (dz (S1 c f i a ds)=afV (.done (.done (eM,18)))/\cM (S2 c f i a ds)=afV (.done (eM,18)))\/
 ∃k' a' zD,dz (S1 c f i a ds)=afV (.next (S1 c f (i+1) a' zD))/\cM (S2 c f i a ds)=afV (.next (S2 c f (i+1) a' zD))/\GH c f (i+1) k' a' zD/\afU zD<=i+1:=by
 have bd:=ok.bd;have e1:agc ((i:Int)<((afU c.ai.ce):Int))=aga:=aD (by omega)
 have sc:=aR (show i<1000000000 by omega)
 have cg:=ar c.ai.ce i hi;have hb:=kn i hi;have wn:=uL cS (x:=(c.ai.ce[i]!).2) (t:=(c.ci.1,c.ci.2)) (ok.uO.cv i hi) ok.pG ok.gF;rw [pp hb] at wn;have wr:=uM cS (x:=(c.ai.ce[i]!).2) (t:=(c.ci.1,c.ci.2)) ok.gF hb;have pd:=IA ok.GG (by omega) (c.ai.ce[i]!).1
 have da:=M0 c (c.ai.ce[i]!).1 (by omega)
 have dr:=sj hi;have tk:=ek hi;have old:=inv.old;rw [dr] at old;have M1:aK.mk (bc.mk a.af.aA a.af.be a.af.bi) a.bv a.aq=a:=rfl
 have vF:(aP.mk (c.ci.1,c.ci.2) (Field.mk c.ii.am) (bC.mk c.ai.aM c.ai.ce) (aK.mk (bc.mk c.ae.af.aA c.ae.af.be c.ae.af.bi) c.ae.bv c.ae.aq) c.io)=c:=rfl;have other: ∀x∈c.ai.ce.take i,x.1≠(c.ai.ce[i]!).1:=fun x hx=>B' ok hx hi
 have Wk: ∀x∈c.ai.ce.drop (i+1),x.1≠(c.ai.ce[i]!).1:=fun x hx=>Ca ok hx hi
 cases aeK:(bD c.ii.am (c.ai.ce[i]!).2 c.ci).2 with
 |true=>
  obtain ⟨d,zD,hd1,hd2,hd3,hd4⟩:=(aW.ic aeK).1 old;have hk:k<(afU c.io):=by
   refine Do fun h=>?_
   rw [List.drop_eq_nil_of_le (by omega)] at hd1
   cases hd1
  have dk:=sj hk;rw [dk] at hd1;injection hd1 with hd5 hd6;subst hd5 hd6;obtain ⟨w,hw,gL⟩:=aS.1 hd3;have hh:(a.bv[w]!).2.2.2=(c.io[k]!).2:=by rw [gL]
  have arN:Ev.num a.bv[w]! =(c.ai.ce[i]!).1:=by rw [gL]
  have before: ∀j,j<k->(c.io[j]!).1≠(c.ai.ce[i]!).1:=fun j hj he=>by
   have:=rV.1 ok.GG j k hj hk
   omega
  have pl:=pd.1 k hk hd2;have dq:=da.1 k hk hd2 before;have gk:=ar c.io k hk;have k0:agc ((0:Int)<=(k:Int))=aga:=aD (by omega)
  have ap:bq ds [c.io[k]!]=afV (ds++[c.io[k]!]):=bT (by simp;omega)
  cases M3:(bD f (c.ai.ce[i]!).2 c.ci).2 with
  |true=>
   right;have tt:cC (bD f (c.ai.ce[i]!).2 c.ci).1/\o4 (bD f (c.ai.ce[i]!).2 c.ci).1:=Gg (eY cS hb.2).1 (eY cS hb.1).1 ok.gF ok.pG M3;obtain ⟨t1,t2⟩:=tt;have re:=D8 inv.ok inv.ok.fit (t:=(bD f (c.ai.ce[i]!).2 c.ci).1) hw hh t1 t2;have rr:=C9 inv.ok (t:=(bD f (c.ai.ce[i]!).2 c.ci).1) hw hh t1 t2
   have rok:=Wc inv.ok hw t1 t2;have SY:=SX inv.ok hw t1;have Wl:=C8 inv.ok hw t1;have stay: ∀(cs:List rl),(∀x∈cs,x.1≠(c.ai.ce[i]!).1)-> ∀x∈cs,∀e:Ev,e.num=x.1->e∈a.bv->e∈(jA a w (bD f (c.ai.ce[i]!).2 c.ci).1).bv:=by
    intro cs mZ x hx e he hm;refine (SY e).2 (.inr ⟨hm,fun h=>mZ x hx ?_⟩)
    rw [<- he,h,arN]
   refine ⟨k+1,jA a w (bD f (c.ai.ce[i]!).2 c.ci).1,ds++[c.io[k]!],?_,?_,⟨rok,by rw [Wl.2];exact inv.w2,?_,?_,by omega,?_⟩,by simp;omega⟩
   · unfold dz S1
     simp only [e1,lw,cg,aj,wn,pl,M3,gk,M1,re,ap,show ((0:Int) !=0)=agb from rfl,ol,sc]
   · unfold cM S2
     simp only [ay,e1,lw,cg,aj,vF,dq,wr,M3,k0,gk,M1,rr,ap,ut,ol,sc]
   · rw [tk]
     exact ((inv.new.mono (stay _ other)).snoc (x:=c.ai.ce[i]!)).2 _ M3 hd2 ((SY _).2 (.inl (by
      show _=((bD f (c.ai.ce[i]!).2 c.ci).1.1,(bD f (c.ai.ce[i]!).2 c.ci).1.2,(a.bv[w]!).2.2);rw [gL])))
   · exact hd4.mono (stay _ Wk)
   rw [Wl.1,inv.cnt,ww]
   simp only [UV,af6];omega
  |false=>
   right;have rv:=vD inv.ok hw inv.ok.fit hh;have rr:=vE inv.ok hw hh;have rok:=C' inv.ok hw;have SY:=Gz inv.ok hw;have Wl:=am3 inv.ok hw;have stay: ∀(cs:List rl),(∀x∈cs,x.1≠(c.ai.ce[i]!).1)-> ∀x∈cs,∀e:Ev,e.num=x.1->e∈a.bv->e∈(eu a w).bv:=by
    intro cs mZ x hx e he hm;refine (SY e).2 ⟨hm,fun h=>mZ x hx ?_⟩
    rw [<- he,h,arN]
   refine ⟨k+1,eu a w,ds,?_,?_,⟨rok,by rw [Wl.2];exact inv.w2,?_,hd4.mono (stay _ Wk),by omega,?_⟩,by omega⟩
   · unfold dz S1
     simp only [e1,lw,cg,aj,wn,pl,M3,gk,M1,rv,show ((0:Int) !=0)=agb from rfl,ol,sc]
   · unfold cM S2
     simp only [ay,e1,lw,cg,aj,vF,dq,wr,M3,k0,gk,M1,rr,AC,ol,sc]
   · rw [tk]
     exact ((inv.new.mono (stay _ other)).snoc (x:=c.ai.ce[i]!)).1 M3
   have:=inv.cnt
   rw [Wl.1];omega
 |false=>
  have D9:=(aW.gb aeK).1 old;have no: ∀j,j<afU c.io->(c.io[j]!).1≠(c.ai.ce[i]!).1:=by
   intro j hj he;obtain ⟨x,hx,h1,h2,_⟩:=ok.D9.io _ (aX hj)
   have:=ok.wU.inj hx (aX hi) (by rw [<- h1,he])
   rw [this,aeK] at h2;cases h2
  obtain ⟨m,pl⟩:=pd.2 no;have dq:=da.2 no;have k0:agc ((0:Int)<= -1)=agb:=aC (by omega)
  cases M3:(bD f (c.ai.ce[i]!).2 c.ci).2 with
  |true=>
   have tt:cC (bD f (c.ai.ce[i]!).2 c.ci).1/\o4 (bD f (c.ai.ce[i]!).2 c.ci).1:=Gg (eY cS hb.2).1 (eY cS hb.1).1 ok.gF ok.pG M3;obtain ⟨t1,t2⟩:=tt;have n0:=(ok.uO.nr i hi).1;have n1:(c.ai.ce[i]!).1<=1000000:=by have:=(ok.uO.nr i hi).2;have:=ok.uO.n1;omega
   have fresh:=S0 ok inv hi aeK
   by_cases op:xn a.af
   · right
     have pu:=vA inv.ok op inv.ok.fit (t:=(bD f (c.ai.ce[i]!).2 c.ci).1) (n:=(c.ai.ce[i]!).1) t1 t2 n0 n1 fresh;have rp:=xo inv.ok op (t:=(bD f (c.ai.ce[i]!).2 c.ci).1) (n:=(c.ai.ce[i]!).1) t1 t2 n0 n1;have pok:=Rh inv.ok op (t:=(bD f (c.ai.ce[i]!).2 c.ci).1) (n:=(c.ai.ce[i]!).1) t1 t2 n0 n1 fresh
     have SZ:=MR inv.ok op (t:=(bD f (c.ai.ce[i]!).2 c.ci).1) (n:=(c.ai.ce[i]!).1) t1;have am2:=B3 inv.ok op (t:=(bD f (c.ai.ce[i]!).2 c.ci).1) (n:=(c.ai.ce[i]!).1) t1;have ap: ∀h:Int×Int,bq ds [((c.ai.ce[i]!).1,h)]=afV (ds++[((c.ai.ce[i]!).1,h)]):=fun h=>bT (by simp;omega)
     have opn:=qg inv.ok.so;rw [aD op] at opn;refine ⟨k,kD a (bD f (c.ai.ce[i]!).2 c.ci).1 (c.ai.ce[i]!).1,ds++[((c.ai.ce[i]!).1,kC a.af)],?_,?_,⟨pok,by rw [aeJ inv.ok pok];exact inv.w2,?_,?_,inv.kl,?_⟩,by simp;omega⟩
     · unfold dz S1
       simp only [e1,lw,cg,aj,wn,pl,M3,M1,pu,ap,show ((0:Int) !=0)=agb from rfl,ol,sc]
     · unfold cM S2
       simp only [ay,e1,lw,cg,aj,vF,dq,wr,M3,k0,M1,rp,ap,ut,ol,sc,opn]
     · rw [tk]
       exact ((inv.new.mono fun x hx e he hm=>(SZ e).2 (.inr hm)).snoc (x:=c.ai.ce[i]!)).2 _ M3 rfl ((SZ _).2 (.inl rfl))
     · exact D9.mono fun x hx e he hm=>(SZ e).2 (.inr hm)
     have:=inv.cnt
     rw [am2,ww];simp only [UV,af6];omega
   left
   have pu:=vB inv.ok op inv.ok.fit (t:=(bD f (c.ai.ce[i]!).2 c.ci).1) (n:=(c.ai.ce[i]!).1) t1 t2 n0 n1 fresh;have ap: ∀h:Int×Int,bq ds [((c.ai.ce[i]!).1,h)]=afV (ds++[((c.ai.ce[i]!).1,h)]):=fun h=>bT (by simp;omega)
   have opn:=qg inv.ok.so;rw [aC op] at opn;constructor
   · unfold dz S1
     simp only [e1,lw,cg,aj,wn,pl,M3,M1,pu,ap,show ((18:Int) !=0)=aga from rfl,ol]
   unfold cM S2
   simp only [ay,e1,lw,cg,aj,vF,dq,wr,M3,k0,M1,ut,AC,ol,opn]
  |false=>
   right;refine ⟨k,a,ds,?_,?_,⟨inv.ok,inv.w2,?_,D9,inv.kl,inv.cnt⟩,by omega⟩
   · unfold dz S1
     simp only [e1,lw,cg,aj,wn,pl,M3,show ((0:Int) !=0)=agb from rfl,ol,sc]
   · unfold cM S2
     simp only [ay,e1,lw,cg,aj,vF,dq,wr,M3,k0,AC,ol,sc]
   rw [tk]
   exact (inv.new.snoc (x:=c.ai.ce[i]!)).1 M3
theorem arP:
 (nL c ⟨f⟩=afV (eM,18)/\kS c ⟨f⟩=afV (eM,18))\/
 ∃c':aP,nL c ⟨f⟩=afV (c',0)/\kS c ⟨f⟩=afV (c',0)/\bk c'/\c'.ii.am=f/\c'.ci=c.ci/\c'.ai=c.ai:=by
 have bd:=ok.bd;have f64:=cS.1;have run: ∀(d i k:Nat) (a:aK) (ds:List rl),afU c.ai.ce-i<=d->i<=afU c.ai.ce->GH c f i k a ds->afU ds<=i->
  (az dz (S1 c f i a ds)=afV (.done (eM,18))/\az cM (S2 c f i a ds)=afV (eM,18))\/
  ∃c':aP,az dz (S1 c f i a ds)=afV (.done (c',0))/\az cM (S2 c f i a ds)=afV (c',0)/\bk c'/\c'.ii.am=f/\c'.ci=c.ci/\c'.ai=c.ai:=by
  have fin: ∀(k:Nat) (a:aK) (ds:List rl),GH c f (afU c.ai.ce) k a ds-> ∃c':aP,az dz (S1 c f (afU c.ai.ce) a ds)=afV (.done (c',0))/\az cM (S2 c f (afU c.ai.ce) a ds)=afV (c',0)/\bk c'/\c'.ii.am=f/\c'.ci=c.ci/\c'.ai=c.ai:=by
   intro k a ds inv;have e1:agc (((afU c.ai.ce):Int)<((afU c.ai.ce):Int))=agb:=aC (by omega)
   have hk:(afU c.io)-k=0:=by
    have:=inv.old
    rw [afc] at this
    have:c.io.drop k=[]:=this
    rw [List.drop_eq_nil_iff] at this;omega
   have new:=inv.new;rw [List.take_length] at new;refine ⟨⟨c.ci,⟨f⟩,c.ai,a,ds⟩,aH ?_,aH ?_,⟨ok.pG,ok.gF,cS,ok.uO,inv.ok,inv.w2,?_,kn,new⟩,rfl,rfl,rfl⟩
   · unfold dz S1
     simp only [e1,ol]
   · unfold cM S2
     simp only [ay,e1,ol]
   have:=inv.cnt
   show (afU a.bv)=afU ds;omega
  intro d
  induction d with
  |zero=>
   intro i k a ds hd hi inv Xf
   have:i=(afU c.ai.ce):=by omega
   subst this;exact .inr (fin k a ds inv)
  |succ d ih=>
   intro i k a ds hd hi inv Xf
   by_cases he:i=afU c.ai.ce
   · subst he;exact .inr (fin k a ds inv)
   rcases Wj ok cS kn inv (by omega) Xf with ⟨h1,h2⟩|⟨k',a',zD,h1,h2,h3,h4⟩
   · exact .inl ⟨aH h1,aH h2⟩
   rw [ba h1,ba h2]
   exact ih (i+1) k' a' zD (by omega) (by omega) h3 h4
 have start:=run (afU c.ai.ce) 0 0 c.ae [] (by omega) (by omega) ⟨ok.ng,ok.Kg,rfl,by rw [afa,afa];exact ok.D9,by omega,by have:=ok.hd;simp;omega⟩ (by simp)
 have hc:gq c=afV 0:=by rw [lW ok.fit,pp ok]
 have hf:dm ⟨f⟩=afV 0:=by rw [fQ];exact congrArg afV (dP.2 cS)
 have tw:=kY ok;have tw':lP (aP.mk (c.ci.1,c.ci.2) (Field.mk c.ii.am) (bC.mk c.ai.aM c.ai.ce) (aK.mk (bc.mk c.ae.af.aA c.ae.af.be c.ae.af.bi) c.ae.bv c.ae.aq) c.io)=afV c:=tw
 have first:az jK (c.ai.ce,((afU c.ai.ce):Int),0,c.ci.1,c.ci.2,c.ii.am,c.ai.aM,c.ai.ce,c.ae.af.aA,c.ae.af.be,c.ae.af.bi,c.ae.bv,c.ae.aq,c.io,f,0,0,0)=
  az jK (c.ai.ce,((afU c.ai.ce):Int),((afU c.ai.ce):Int),c.ci.1,c.ci.2,c.ii.am,c.ai.aM,c.ai.ce,c.ae.af.aA,c.ae.af.be,c.ae.af.bi,c.ae.bv,c.ae.aq,c.io,f,0,0,0):=by
  refine bF (body:=jK) (fun i=>(c.ai.ce,((afU c.ai.ce):Int),(i:Int),c.ci.1,c.ci.2,c.ii.am,c.ai.aM,c.ai.ce,c.ae.af.aA,c.ae.af.be,c.ae.af.bi,c.ae.bv,c.ae.aq,c.io,f,0,0,0)) (afU c.ai.ce) (fun i hi=>?_)
  have e1:agc ((i:Int)<((afU c.ai.ce):Int))=aga:=aD (by omega)
  unfold jK;simp only [e1,lw,ar c.ai.ce i hi,aj,lV cS,aC (Kh cS (kn i hi).1),aC (Kh cS (kn i hi).2),ol,aR (show i<1000000000 by omega)]
 have Wm: ∀r,az dz (S1 c f 0 c.ae [])=afV (.done r)->nL c ⟨f⟩=afV r:=by
  intro r hr;unfold nL;simp only [hc,aj,show ((0:Int) !=0)=agb from rfl,ol,hf,ay];rw [first]
  refine aH ?_;unfold jK;have e1:agc (((afU c.ai.ce):Int)<((afU c.ai.ce):Int))=agb:=aC (by omega)
  simp only [ay,e1,ol,tw',aj,aZ (show (afU f)<=1048576 by omega)]
  exact hr
 have af3: ∀r,az cM (S2 c f 0 c.ae [])=afV r->kS c ⟨f⟩=afV r:=by
  intro r hr;unfold kS je;simp only [jn ok,aj,aZ (show (afU f)<=1048576 by omega)]
  exact hr
 rcases start with ⟨h1,h2⟩|⟨c',h1,h2,h3⟩
 · exact .inl ⟨Wm _ h1,af3 _ h2⟩
 exact .inr ⟨c',Wm _ h1,af3 _ h2,h3⟩
end
theorem kZ (l:List (Int×Int)) (x:Int×Int) (hl:(afU l)<=1000000):ec l x=afV (agc (x∈l)):=by
 unfold ec oy;have key:=hO (body:=iZ) (fun i=>(l,((afU l):Int),(i:Int),x)) (afU l) (fun i=>l[i]! =x) (fun i=>(i:Int)) (e:= -1) (fun i hi=>by
  have e1:agc ((i:Int)<((afU l):Int))=aga:=aD (by omega)
  unfold iZ;simp only [e1,lw,ar l i hi,aj,aR (show i<1000000000 by omega)]
  generalize l[i]! =y;constructor
  · intro h;rw [ei (congrArg afS h.symm),ei (congrArg Prod.snd h.symm)];rfl
  · intro h
    by_cases h1:x.1=y.1
    · rw [ei h1,dO (fun h2=>h (afI h1.symm h2.symm))];rfl
    rw [dO h1];rfl) (by
  unfold iZ
  have:agc (((afU l):Int)<((afU l):Int))=agb:=aC (by omega)
  simp only [this,ol])
 rw [ay]
 by_cases hx:x∈l
 · obtain ⟨i,hi,he⟩:=aS.1 hx
   obtain ⟨k,h1,h2,h3⟩:=least (c:=fun i=>l[i]! =x) ⟨i,hi,he⟩
   have:=key.1 k h1 h2 h3
   rw [show ((0:Nat):Int)=0 from rfl] at this;rw [this,aD hx];simp only [aj,aD (show (0:Int)<=(k:Int) by omega)]
 have:=key.2 fun i hi he=>hx (aS.2 ⟨i,hi,he⟩)
 rw [show ((0:Nat):Int)=0 from rfl] at this;rw [this,aC hx];rfl
theorem DR (l:List (Int×Int)) (x:Int×Int) (hl:(afU l)<=1000000):BV l x=afV (agc (x∈l)):=by
 unfold BV;have key:=dh (body:=tI) (fun i=>(l,(i:Int),x)) (afU l) (fun i=>l[i]! =x) (r:=aga) (e:=agb) (fun i hi=>by
  have e1:agc ((i:Int)<((afU l):Int))=aga:=aD (by omega)
  unfold tI;simp only [ay,e1,lw,ar l i hi,aj,aR (show i<1000000000 by omega)]
  generalize l[i]! =y;constructor
  · intro h;rw [ei (congrArg afS h),ei (congrArg Prod.snd h)];rfl
  · intro h
    by_cases h1:y.1=x.1
    · rw [ei h1,dO (fun h2=>h (afI h1 h2))];rfl
    rw [dO h1];rfl) (by
  unfold tI
  have:agc (((afU l):Int)<((afU l):Int))=agb:=aC (by omega)
  simp only [ay,this,ol])
 by_cases hx:x∈l
 · rw [aD hx];exact key.1 (aS.1 hx)
 rw [aC hx];exact key.2 fun i hi he=>hx (aS.2 ⟨i,hi,he⟩)
theorem Wn (x y:rl):((x.1==y.1)&&((x.2.1==y.2.1)&&(x.2.2==y.2.2)))=agc (x=y):=by
 rw [Bool.eq_iff_iff,decide_eq_true_iff];simp only [Bool.and_eq_true,beq_iff_eq];constructor
 · rintro ⟨h1,h2,h3⟩;exact afI h1 (afI h2 h3)
 rintro rfl;exact ⟨rfl,rfl,rfl⟩
theorem tX (a b:List rl) (hl:(afU a)<=1000000):iw ⟨a⟩ ⟨b⟩=afV (agc (a=b)):=by
 unfold iw;simp only [ay]
 by_cases h:(afU a)=afU b
 case neg=>rw [cK (by omega),aC (fun k=>h (by rw [k]))];rfl
 rw [bn (by omega)]
 simp only [ol];have key:=dh (body:=pW) (fun i=>((i:Int),a,b)) (afU a) (fun i=> ¬a[i]! =b[i]!) (r:=agb) (e:=aga) (fun i hi=>by
  have e1:agc ((i:Int)<((afU a):Int))=aga:=aD (by omega)
  unfold pW;simp only [ay,e1,lw,ar a i hi,ar b i (by omega),aj,aR (show i<1000000000 by omega),Wn]
  constructor
  · intro h;rw [aC h];rfl
  · intro h;rw [aD (If.1 h)];rfl) (by
  unfold pW
  have:agc (((afU a):Int)<((afU a):Int))=agb:=aC (by omega)
  simp only [ay,this,ol])
 by_cases he:a=b
 · rw [aD he]
   exact key.2 fun i hi=>If.2 (by rw [he])
 rw [aC he]
 refine key.1 (Do fun hx=>he (qP h fun i hi=>?_))
 exact Do fun hn=>hx ⟨i,hi,hn⟩
theorem Cb (a b:List rl) (hl:(afU a)<=1000000):kz a b=afV (agc (a=b)):=by
 unfold kz;simp only [ay]
 by_cases h:(afU a)=afU b
 case neg=>rw [cK (by omega),aC (fun k=>h (by rw [k]))];rfl
 rw [bn (by omega)]
 simp only [ol];have key:=dh (body:=iG) (fun i=>(a,b,((afU a):Int),(i:Int))) (afU a) (fun i=> ¬a[i]! =b[i]!) (r:=agb) (e:=aga) (fun i hi=>by
  have e1:agc ((i:Int)<((afU a):Int))=aga:=aD (by omega)
  unfold iG;simp only [e1,lw,ar a i hi,ar b i (by omega),aj,aR (show i<1000000000 by omega),Wn]
  constructor
  · intro h;rw [aC h];rfl
  · intro h;rw [aD (If.1 h)];rfl) (by
  unfold iG
  have:agc (((afU a):Int)<((afU a):Int))=agb:=aC (by omega)
  simp only [this,ol])
 by_cases he:a=b
 · rw [aD he]
   exact key.2 fun i hi=>If.2 (by rw [he])
 rw [aC he]
 refine key.1 (Do fun hx=>he (qP h fun i hi=>?_))
 exact Do fun hn=>hx ⟨i,hi,hn⟩
theorem S3 {cs:List rl} {m:Nat} {x:rl} (hx:x∈cs) (dW:x.1≠(cs[m]!).1):x∈cs.eraseIdx m:=by
 obtain ⟨j,hj,rfl⟩:=aS.1 hx;have hjm:j≠m:=fun h=>dW (by rw [h])
 rw [sX,acl]
 by_cases h:j<m
 · exact .inl (cf.2 ⟨j,h,hj,rfl⟩)
 right
 rw [aS];refine ⟨j- (m+1),by rw [IR];omega,?_⟩
 rw [kX]
 congr 1;omega
def kP (c0:aP) (f:List Pt) (es:List (Int×Int)) (i:Nat) (c:aP):=
 (es,c0.ai.ce,((afU c0.ai.ce):Int),(i:Int),c.ci.1,c.ci.2,c.ii.am,c.ai.aM,c.ai.ce,c.ae.af.aA,c.ae.af.be,c.ae.af.bi,c.ae.bv,c.ae.aq,c.io,f,(0:Int),(0:Int),(0:Int))
def kR (c0:aP) (f:List Pt) (es:List (Int×Int)) (i:Nat) (c:aP):=
 (es,(i:Int),c0.ci.1,c0.ci.2,c0.ii.am,c0.ai.aM,c0.ai.ce,c0.ae.af.aA,c0.ae.af.be,c0.ae.af.bi,c0.ae.bv,c0.ae.aq,c0.io,f,(0:Int),(0:Int),(0:Int),c.ci.1,c.ci.2,c.ii.am,c.ai.aM,c.ai.ce,c.ae.af.aA,c.ae.af.be,c.ae.af.bi,c.ae.bv,c.ae.aq,c.io)
def eP (es:List (Int×Int)) (i:Nat) (c:aP):=
 (es,((afU es):Int),(i:Int),c.ci.1,c.ci.2,c.ii.am,c.ai.aM,c.ai.ce,c.ae.af.aA,c.ae.af.be,c.ae.af.bi,c.ae.bv,c.ae.aq,c.io,(0:Int),(0:Int),(0:Int))
def eR (es:List (Int×Int)) (i:Nat) (c:aP):=
 (es,(i:Int),(0:Int),(0:Int),(0:Int),c.ci.1,c.ci.2,c.ii.am,c.ai.aM,c.ai.ce,c.ae.af.aA,c.ae.af.be,c.ae.af.bi,c.ae.bv,c.ae.aq,c.io)
def Cc (c:aP):Int:=c.ai.aM- ((afU c.ai.ce):Int)
structure GI (c:aP) (f:List Pt) (es:List (Int×Int)) (r:aP):Prop where
 has: ∀e∈es,rU r.ai.ce e
 sub: ∀x∈r.ai.ce,x.2∈es
 ok:bk r
 ie:r.ii.am=f
 ci:r.ci=c.ci
 room:Cc c<=Cc r
def Roomy (c:aP) (k:Nat):Prop:=afU c.ai.ce<=k/\c.ai.aM<=k/\ ∀j,j<afU c.ae.af.aA->c.ae.af.aA[j]!<=k
theorem aW.len {l:List Pt} {t:Int×Int} {H:List Ev}: ∀{cs ds:List rl},aW l t H cs ds->afU ds<=afU cs
 | [],ds,h=>by rw [show ds=[] from h];exact EQ _
 |x::cs,ds,h=>by
  cases hy:(bD l x.2 t).2 with
  |true=>
   obtain ⟨d,zD,rfl,_,_,h4⟩:=h.1 hy;exact Nat.succ_le_succ h4.len
  |false=>exact Nat.le_succ_of_le (h.2 hy).len
theorem Roomy.Wo {c:aP} (ok:bk c) {k:Nat} (h:Roomy c k) (hk:k<=199): ¬(B6 c.ai\/ ¬xn c.ae.af):=by
 obtain ⟨h1,h2,h3⟩:=h;have fl:=ok.D9.len;have hd:=ok.hd;have hl:=ok.ng.hl;have wl:=ok.ng.wl;have w2:=ok.Kg;rintro (h|h)
 · rcases h with h|h<;>omega
 refine h ⟨by omega,?_⟩
 have:=h3 _ (zl ok.ng.so (by omega)).1
 omega
theorem Roomy.more {c c':aP} {k:Nat} (h:Roomy c k) {x:Int×Int} (hc:c'.ai=oN c.ai x) (hs:c'.ae.af=c.ae.af\/c'.ae.af=gr c.ae.af):Roomy c' (k+1):=by
 obtain ⟨h1,h2,h3⟩:=h;refine ⟨?_,?_,fun j hj=>?_⟩
 · rw [hc]
   show (c.ai.ce++[(c.ai.aM,x)]).length<=_;rw [ww,PP];omega
 · rw [hc]
   show c.ai.aM+1<=_;omega
 rcases hs with e|e
 · rw [e] at hj ⊢
   have:=h3 j hj;omega
 rw [e] at hj ⊢
 change j<(c.ae.af.aA.set _ _).length at hj;rw [M2] at hj;show (c.ae.af.aA.set (cY c.ae.af) (c.ae.af.aA[cY c.ae.af]!+1))[j]!<=_;rw [aU];split
 · rename_i h;have:=h3 _ h.2;omega
 have:=h3 j hj;omega
structure zu (f:List Pt) (es:List (Int×Int)):Prop where
 len:(afU es)<=1000000
 cv: ∀x∈es,fx x
 kn: ∀x∈es,jm f x
theorem Wp {c0:aP} (ok0:bk c0) {f:List Pt} {es:List (Int×Int)} (DS:zu f es):
 ∀(d i:Nat) (c:aP),afU c0.ai.ce-i<=d->i<=afU c0.ai.ce->bk c->(∀x∈c0.ai.ce.drop i,x∈c.ai.ce)->(∀x∈c.ai.ce,x∈c0.ai.ce.drop i\/x.2∈es)->
  ∃c':aP,az c7 (kP c0 f es i c)=az c7 (kP c0 f es (afU c0.ai.ce) c')/\az dy (kR c0 f es i c)=az dy (kR c0 f es (afU c0.ai.ce) c')/\bk c'/\(∀x∈c'.ai.ce,x.2∈es)/\c'.ii=c.ii/\c'.ci=c.ci/\Cc c<=Cc c':=by
 have bd:=ok0.bd;intro d
 induction d with
 |zero=>
  intro i c hd hi ok h1 h2
  have:i=(afU c0.ai.ce):=by omega
  subst this;refine ⟨c,rfl,rfl,ok,fun x hx=>?_,rfl,rfl,afg _⟩
  rcases h2 x hx with h|h
  · rw [afc] at h;cases h
  exact h
 |succ d ih=>
  intro i c hd hi ok h1 h2
  by_cases he:i=afU c0.ai.ce
  · subst he
    refine ⟨c,rfl,rfl,ok,fun x hx=>?_,rfl,rfl,afg _⟩
    rcases h2 x hx with h|h
    · rw [afc] at h;cases h
    exact h
  have uq:i<(afU c0.ai.ce):=by omega
  have e1:agc ((i:Int)<((afU c0.ai.ce):Int))=aga:=aD (by omega)
  have sc:=aR (show i<1000000000 by omega)
  have cg:=ar c0.ai.ce i uq;have dr:=sj uq;have vF:(aP.mk (c.ci.1,c.ci.2) (Field.mk c.ii.am) (bC.mk c.ai.aM c.ai.ce) (aK.mk (bc.mk c.ae.af.aA c.ae.af.be c.ae.af.bi) c.ae.bv c.ae.aq) c.io)=c:=rfl
  by_cases uu:(c0.ai.ce[i]!).2∈es
  · have s1:c7 (kP c0 f es i c)=afV (.next (kP c0 f es (i+1) c)):=by
     unfold c7 kP;simp only [e1,lw,cg,aj,kZ _ _ DS.len,aD uu,ut,ol,sc]
    have s2:dy (kR c0 f es i c)=afV (.next (kR c0 f es (i+1) c)):=by
     unfold dy kR;simp only [ay,e1,lw,cg,aj,DR _ _ DS.len,aD uu,ut,ol,sc]
    rw [ba s1,ba s2];refine ih (i+1) c (by omega) (by omega) ok (fun x hx=>h1 x (by rw [dr];exact v6 _ hx)) (fun x hx=>?_)
    rcases h2 x hx with h|h
    · rw [dr] at h
      rcases afR.1 h with rfl|h
      · exact .inr uu
      exact .inl h
    exact .inr h
  have hm:=h1 (c0.ai.ce[i]!) (by rw [dr];exact af2)
  obtain ⟨m,hm1,TK⟩:=aS.1 hm;obtain ⟨c',r1,r2,r3,r4,r5,r6⟩:=amZ ok hm1;have rt:=D' ok hm1 r1;rw [TK] at r2 rt;have s1:c7 (kP c0 f es i c)=afV (.next (kP c0 f es (i+1) c')):=by
   unfold c7 kP;simp only [e1,lw,cg,aj,kZ _ _ DS.len,aC uu,AC,sc,vF,rt]
  have s2:dy (kR c0 f es i c)=afV (.next (kR c0 f es (i+1) c')):=by
   unfold dy kR;simp only [ay,e1,lw,cg,aj,DR _ _ DS.len,aC uu,AC,sc,vF,r2]
  rw [ba s1,ba s2];have cl:c'.ai.ce=c.ai.ce.eraseIdx m:=by rw [r6];rfl
  have tj:Cc c<=Cc c':=by
   unfold Cc;rw [r6];show _<=c.ai.aM- (((c.ai.ce.eraseIdx m).length:Nat):Int);rw [List.length_eraseIdx_of_lt hm1];omega
  have hs:(∀x∈c0.ai.ce.drop (i+1),x∈c'.ai.ce)/\(∀x∈c'.ai.ce,x∈c0.ai.ce.drop (i+1)\/x.2∈es):=by
   refine ⟨fun x hx=>?_,fun x hx=>?_⟩
   · rw [cl]
     refine S3 (h1 x (by rw [dr];exact v6 _ hx)) ?_
     rw [TK];exact Ca ok0 hx uq
   rw [cl] at hx
   obtain ⟨a1,a2⟩:=wV ok.wU hm1 hx;rw [TK] at a2;rcases h2 x a1 with h|h
   · rw [dr] at h
     rcases afR.1 h with rfl|h
     · exact absurd rfl a2
     exact .inl h
   exact .inr h
  obtain ⟨d',q1,q2,q3,q4,q5,q6,q7⟩:=ih (i+1) c' (by omega) (by omega) r3 hs.1 hs.2
  exact ⟨d',q1,q2,q3,q4,q5.trans r4,q6.trans r5,by omega⟩
theorem M4 {f:List Pt} (_fok:bw f) {es:List (Int×Int)} (DS:zu f es):
 ∀(d i:Nat) (c:aP),afU es-i<=d->i<=afU es->bk c->c.ii.am=f->(∀x∈c.ai.ce,x.2∈es)->(∀j,j<i->rU c.ai.ce es[j]!)->
  ∃r:aP×Int,az dA (eP es i c)=afV (.done r)/\az dM (eR es i c)=afV (.done r)/\(r.2=0/\GI c f es r.1\/r=(eM,18))/\(∀k,Roomy c k->k+(afU es-i)<=199->r.2=0):=by
 have el:=DS.len;have fin: ∀c:aP,bk c->c.ii.am=f->(∀x∈c.ai.ce,x.2∈es)->(∀j,j<afU es->rU c.ai.ce es[j]!)-> ∃r:aP×Int,az dA (eP es (afU es) c)=afV (.done r)/\az dM (eR es (afU es) c)=afV (.done r)/\(r.2=0/\GI c f es r.1\/r=(eM,18))/\r.2=0:=by
  intro c ok hf hs hh;have e1:agc (((afU es):Int)<((afU es):Int))=agb:=aC (by omega)
  refine ⟨(c,0),aH ?_,aH ?_,.inl ⟨rfl,fun e he=>by obtain ⟨j,hj,q⟩:=aS.1 he;rw [<- q];exact hh j hj,hs,ok,hf,rfl,afg _⟩,rfl⟩
  · unfold dA eP
    simp only [e1,ol]
  unfold dM eR
  simp only [ay,e1,ol]
 intro d
 induction d with
 |zero=>
  intro i c hd hi ok hf hs hh
  have:i=(afU es):=by omega
  subst this;obtain ⟨r,q1,q2,q3,q4⟩:=fin c ok hf hs hh;exact ⟨r,q1,q2,q3,fun _ _ _=>q4⟩
 |succ d ih=>
  intro i c hd hi ok hf hs hh
  by_cases he:i=afU es
  · subst he
    obtain ⟨r,q1,q2,q3,q4⟩:=fin c ok hf hs hh;exact ⟨r,q1,q2,q3,fun _ _ _=>q4⟩
  have bd:=ok.bd;have uq:i<(afU es):=by omega
  have e1:agc ((i:Int)<((afU es):Int))=aga:=aD (by omega)
  have sc:=aR (show i<1000000000 by omega)
  have cg:=ar es i uq;have vF:(aP.mk (c.ci.1,c.ci.2) (Field.mk c.ii.am) (bC.mk c.ai.aM c.ai.ce) (aK.mk (bc.mk c.ae.af.aA c.ae.af.be c.ae.af.bi) c.ae.bv c.ae.aq) c.io)=c:=rfl;have M5:bC.mk c.ai.aM c.ai.ce=c.ai:=rfl;have hc:=GC c.ai.ce es[i]! (by omega)
  have hr:=wT c.ai es[i]! (by omega)
  by_cases uu:rU c.ai.ce es[i]!
  · have s1:dA (eP es i c)=afV (.next (eP es (i+1) c)):=by
     unfold dA eP;simp only [e1,lw,cg,aj,zq,hc,aD uu,sc]
    have s2:dM (eR es i c)=afV (.next (eR es (i+1) c)):=by
     unfold dM eR;simp only [ay,e1,lw,cg,aj,M5,hr,aD uu,sc]
    rw [ba s1,ba s2];obtain ⟨r,q1,q2,q3,q4⟩:=ih (i+1) c (by omega) (by omega) ok hf hs (fun j hj=>if q:j=i then by rw [q];exact uu else hh j (by omega))
    exact ⟨r,q1,q2,q3,fun k hk hl=>q4 k hk (by omega)⟩
  have hb:jm c.ii.am es[i]!:=by rw [hf];exact DS.kn _ (aX uq)
  rcases aeI ok (DS.cv _ (aX uq)) hb uu with ⟨r1,r2,full⟩|⟨c',r1,r2,r3,r4,r5,r6,r7⟩
  · refine ⟨(eM,18),aH ?_,aH ?_,.inr rfl,fun k hk hl=>absurd full (hk.Wo ok (by omega))⟩
    · unfold dA eP
      simp only [e1,lw,cg,aj,zq,hc,aC uu,ol,vF,r1,show ((18:Int) !=0)=aga from rfl]
    unfold dM eR
    simp only [ay,e1,lw,cg,aj,M5,hr,aC uu,ol,vF,r2,show ((18:Int) !=0)=aga from rfl]
  have s1:dA (eP es i c)=afV (.next (eP es (i+1) c')):=by
   unfold dA eP;simp only [e1,lw,cg,aj,zq,hc,aC uu,ol,vF,r1,show ((0:Int) !=0)=agb from rfl,sc]
  have s2:dM (eR es i c)=afV (.next (eR es (i+1) c')):=by
   unfold dM eR;simp only [ay,e1,lw,cg,aj,M5,hr,aC uu,ol,vF,r2,show ((0:Int) !=0)=agb from rfl,sc]
  rw [ba s1,ba s2];obtain ⟨r,q1,q2,q3,q6⟩:=ih (i+1) c' (by omega) (by omega) r3 (by rw [r4,hf]) (fun x hx=>by
   rw [r6] at hx;rcases acl.1 (show x∈c.ai.ce++[(c.ai.aM,es[i]!)] from hx) with h|h
   · exact hs x h
   · rw [List.mem_singleton.1 h];exact aX uq) (fun j hj=>by
   rw [r6];show rU (c.ai.ce++[(c.ai.aM,es[i]!)]) _
   by_cases q:j=i
   · rw [q];exact ⟨afU c.ai.ce,by rw [ww,PP];omega,by rw [ej (EQ _),Nat.sub_self];rfl⟩
   obtain ⟨w,w1,w2⟩:=hh j (by omega)
   exact ⟨w,by rw [ww];omega,by rw [de w1];exact w2⟩)
  refine ⟨r,q1,q2,q3.imp (fun ⟨q4,q5⟩=>⟨q4,q5.has,q5.sub,q5.ok,q5.ie,q5.ci.trans r5,aff ?_ q5.room⟩) id,fun k hk hl=>q6 (k+1) (hk.more r6 r7) (by omega)⟩
  unfold Cc;rw [r6];show _<=(c.ai.aM+1) - (((c.ai.ce++[(c.ai.aM,es[i]!)]).length:Nat):Int);rw [ww,PP];omega
theorem aeL {c:aP} (ok:bk c) {f:List Pt} (cS:bw f) {es:List (Int×Int)} (DS:zu f es):
 ∃r:aP×Int,lQ c ⟨f⟩ es=afV r/\kT c ⟨f⟩ es=afV r/\(r.2=0/\GI c f es r.1\/r=(eM,18)):=by
 have f64:=cS.1;obtain ⟨c',g1,g2,g3,g4,g5,g6,g7⟩:=Wp ok DS (afU c.ai.ce) 0 c (by omega) (by omega) ok (fun x hx=>by rwa [afa] at hx) (fun x hx=> .inl (by rwa [afa]))
 have bd:=g3.bd;have e1:agc (((afU c.ai.ce):Int)<((afU c.ai.ce):Int))=agb:=aC (by omega)
 have am4:lQ c ⟨f⟩ es=az c7 (kP c f es 0 c):=rfl;have am5:kT c ⟨f⟩ es=az dy (kR c f es 0 c):=by
  unfold kT;simp only [jn ok,aj];rfl
 rw [am4,am5,g1,g2];have eq1:=Cb c'.ii.am f (by omega)
 have eq2:=tX c'.ii.am f (by omega)
 have vF:(aP.mk (c'.ci.1,c'.ci.2) (Field.mk c'.ii.am) (bC.mk c'.ai.aM c'.ai.ce) (aK.mk (bc.mk c'.ae.af.aA c'.ae.af.be c'.ae.af.bi) c'.ae.bv c'.ae.aq) c'.io)=c':=rfl
 by_cases hf:c'.ii.am=f
 · obtain ⟨r,i1,i2,i3,_⟩:=M4 cS DS (afU es) 0 c' (by omega) (by omega) g3 hf g4 (fun j hj=>absurd hj (afF j))
   refine ⟨r,aH ?_,aH ?_,i3.imp (fun ⟨q4,q5⟩=>⟨q4,q5.has,q5.sub,q5.ok,q5.ie,q5.ci.trans g6,aff g7 q5.room⟩) id⟩
   · unfold c7 kP
     simp only [e1,ol,eq1,aD hf,aj,ut];exact i1
   unfold dy kR
   simp only [ay,e1,ol,eq2,aD hf,aj,ut];exact i2
 have kn: ∀i,i<afU c'.ai.ce->jm f (c'.ai.ce[i]!).2:=fun i hi=>DS.kn _ (g4 _ (aX hi))
 rcases arP g3 cS kn with ⟨a1,a2⟩|⟨c2,a1,a2,a3,a4,a5,a6⟩
 · refine ⟨(eM,18),aH ?_,aH ?_,.inr rfl⟩
   · unfold c7 kP
     simp only [e1,ol,eq1,aC hf,aj,AC,lw,vF,a1,show ((18:Int) !=0)=aga from rfl]
   unfold dy kR
   simp only [ay,e1,ol,eq2,aC hf,aj,AC,lw,vF,a2,show ((18:Int) !=0)=aga from rfl]
 obtain ⟨r,i1,i2,i3,_⟩:=M4 cS DS (afU es) 0 c2 (by omega) (by omega) a3 a4 (by rw [a6];exact g4) (fun j hj=>absurd hj (afF j))
 refine ⟨r,aH ?_,aH ?_,i3.imp (fun ⟨q4,q5⟩=>⟨q4,q5.has,q5.sub,q5.ok,q5.ie,(q5.ci.trans a5).trans g6,aff (aff g7 (by unfold Cc;rw [a6];exact afg _)) q5.room⟩) id⟩
 · unfold c7 kP
   simp only [e1,ol,eq1,aC hf,aj,AC,lw,vF,a1,show ((0:Int) !=0)=agb from rfl];exact i1
 unfold dy kR
 simp only [ay,e1,ol,eq2,aC hf,aj,AC,lw,vF,a2,show ((0:Int) !=0)=agb from rfl];exact i2
theorem GJ {α:Type} [Inhabited α] {l:List α}:l.Nodup↔ ∀k,k<afU l->l[k]!∉l.take k:=by
 rw [fR];constructor
 · intro h k hk hm
   obtain ⟨i,h1,h2,h3⟩:=cf.1 hm;exact h i k h1 hk h3
 intro h i j lg hj he
 exact h j hj (cf.2 ⟨i,lg,by omega,he⟩)
theorem yD {α:Type} [Inhabited α] {l:List α} {P:α->Prop}:(∀x∈l,P x)↔ ∀i,i<afU l->P l[i]!:=by
 constructor
 · intro h i hi;exact h _ (aX hi)
 intro h x hx
 obtain ⟨i,hi,rfl⟩:=aS.1 hx;exact h i hi
theorem lX {σ ρ:Type} {body:σ->Option (Step σ ρ)} (st:Nat->σ) (n:Nat) (P:Nat->Prop) {r e:ρ} (h: ∀i,i<n->(¬P i->body (st i)=afV (.done r))/\(P i->body (st i)=afV (.next (st (i+1)))))
 (VW:body (st n)=afV (.done e)):az body (st 0)=afV (if∀i,i<n->P i then e else r):=by
 have key:=dh (body:=body) st n (fun i=> ¬P i) (r:=r) (e:=e) (fun i hi=>⟨(h i hi).1,fun hn=>(h i hi).2 (If.1 hn)⟩) VW
 by_cases hx: ∀i,i<n->P i
 · rw [pp hx];exact key.2 fun i hi=>If.2 (hx i hi)
 rw [rc hx]
 obtain ⟨i,h⟩:=afh.1 hx;obtain ⟨hi,hx⟩:=afj.1 h;exact key.1 ⟨i,hi,hx⟩
theorem Ae {f:List Pt} (cS:bw f) (id:Int): ∃p e,sN ⟨f⟩ id=afV (p,e)/\(e=0↔fh f id):=by
 have h1:=cS.1;have hc:dm ⟨f⟩=afV 0:=by rw [fQ];exact congrArg afV (dP.2 cS)
 have bs:=qi f id (by omega) (fun i j=>dH cS.2.2)
 unfold sN ja jh;rw [B5];simp only [hc,aj,show ((0:Int) !=0)=agb from rfl,ol]
 by_cases h:fh f id
 · obtain ⟨k,hk,he⟩:=h
   rw [bs.1 k hk he];refine ⟨f[k]!,0,?_,fun _=>⟨k,hk,he⟩,fun _=>rfl⟩
   simp only [aj,ut,ol,show ((0:Int) !=0)=agb from rfl,ar f k hk]
 obtain ⟨m,_,_,_,e⟩:=bs.2 (fun k hk he=>h ⟨k,hk,he⟩)
 rw [e];exact ⟨(0,0,0),6,rfl,fun h=>(by cases h),fun k=>absurd k h⟩
structure M6 (c:aP):Prop where
 f:(afU c.ii.am)<=1000000
 l:(afU c.ai.ce)<=1000000
 d:(afU c.io)<=1000000
 h:(afU c.ae.bv)<=1000000
 w:(afU c.ae.aq)<=1000000
 s1:(afU c.ae.af.aA)<=1000000
 s2:(afU c.ae.af.be)<=1000000
 s3:(afU c.ae.af.bi)<=1000000
theorem bk.short {c:aP} (ok:bk c):M6 c:=by
 have bd:=ok.bd;have ab:=ok.ng.bd;have sl:=ok.ng.so.fl;have sn:=ok.ng.so.n2;have su:=ok.ng.so.ul;exact ⟨by omega,by omega,by omega,by omega,by omega,by omega,by omega,by omega⟩
theorem Dd (l:List Int) (hl:(afU l)<=1000000):jQ l l=afV aga:=by
 unfold jQ;rw [bn rfl];refine (bF (body:=lq) (fun i=>(l,l,(i:Int))) (afU l) fun i hi=>?_).trans (aH ?_)
 · have e1:agc ((i:Int)<((afU l):Int))=aga:=aD (by omega)
   unfold lq;simp only [ay,e1,lw,ar l i hi,aj,aR (show i<1000000000 by omega),bn rfl,ol]
 unfold lq
 have:agc (((afU l):Int)<((afU l):Int))=agb:=aC (by omega)
 simp only [ay,this,ol]
theorem Pp (l:List Bool) (hl:(afU l)<=1000000):mS l l=afV aga:=by
 unfold mS;rw [bn rfl];refine (bF (body:=kA) (fun i=>(l,l,(i:Int))) (afU l) fun i hi=>?_).trans (aH ?_)
 · have e1:agc ((i:Int)<((afU l):Int))=aga:=aD (by omega)
   unfold kA;simp only [ay,e1,lw,ar l i hi,aj,aR (show i<1000000000 by omega),beq_self_eq_true,ut,ol]
 unfold kA
 have:agc (((afU l):Int)<((afU l):Int))=agb:=aC (by omega)
 simp only [ay,this,ol]
theorem Pq (c:bC) (hl:(afU c.ce)<=1000000):wI c c=afV aga:=by
 unfold wI;rw [bn rfl,bn rfl];refine (bF (body:=qc) (fun i=>((i:Int),c.aM,c.ce,c.aM,c.ce)) (afU c.ce) fun i hi=>?_).trans (aH ?_)
 · have e1:agc ((i:Int)<((afU c.ce):Int))=aga:=aD (by omega)
   unfold qc;simp only [ay,e1,lw,ar c.ce i hi,aj,aR (show i<1000000000 by omega),beq_self_eq_true,afb,ut,ol]
 unfold qc
 have:agc (((afU c.ce):Int)<((afU c.ce):Int))=agb:=aC (by omega)
 simp only [ay,this,ol]
theorem M7 (a:aK) (h1:(afU a.bv)<=1000000) (h2:(afU a.aq)<=1000000) (h3:(afU a.af.aA)<=1000000) (h4:(afU a.af.be)<=1000000) (h5:(afU a.af.bi)<=1000000):wJ a a=afV aga:=by
 unfold wJ AV;simp only [Dd _ h3,Pp _ h4,Dd _ h5,Dd _ h2,aj,lw,ut,ol];rw [bn rfl];refine (bF (body:=qd) (fun i=>((i:Int),a.af.aA,a.af.be,a.af.bi,a.bv,a.aq,a.af.aA,a.af.be,a.af.bi,a.bv,a.aq)) (afU a.bv) fun i hi=>?_).trans (aH ?_)
 · have e1:agc ((i:Int)<((afU a.bv):Int))=aga:=aD (by omega)
   unfold qd;simp only [ay,e1,lw,ar a.bv i hi,aj,aR (show i<1000000000 by omega),beq_self_eq_true,afb,ut,ol]
 unfold qd
 have:agc (((afU a.bv):Int)<((afU a.bv):Int))=agb:=aC (by omega)
 simp only [ay,this,ol]
theorem Pr {c:aP} (sh:M6 c):wK c c=afV aga:=by
 have hd:=sh.d;unfold wK;simp only [beq_self_eq_true,afb,ut,ol,tX c.ii.am c.ii.am sh.f,Pq _ sh.l,M7 _ sh.h sh.w sh.s1 sh.s2 sh.s3,aj,aD];rw [bn rfl]
 refine (bF (body:=qe) (fun i=>((i:Int),c.ci.1,c.ci.2,c.ii.am,c.ai.aM,c.ai.ce,c.ae.af.aA,c.ae.af.be,c.ae.af.bi,c.ae.bv,c.ae.aq,c.io,c.ci.1,c.ci.2,c.ii.am,c.ai.aM,c.ai.ce,c.ae.af.aA,c.ae.af.be,c.ae.af.bi,c.ae.bv,c.ae.aq,c.io)) (afU c.io) fun i hi=>?_).trans (aH ?_)
 · have e1:agc ((i:Int)<((afU c.io):Int))=aga:=aD (by omega)
   unfold qe;simp only [ay,e1,lw,ar c.io i hi,aj,aR (show i<1000000000 by omega),beq_self_eq_true,afb,ut,ol]
 unfold qe
 have:agc (((afU c.io):Int)<((afU c.io):Int))=agb:=aC (by omega)
 simp only [ay,this,ol]
structure M8 (c:aP):Prop where
 ci:o4 c.ci
 Ph: ∀w,w<afU c.ae.bv->o4 ((c.ae.bv[w]!).1,(c.ae.bv[w]!).2.1)
theorem M9 (f:Field):qI f=afV aga\/(qI f=afV agb/\afU f.am<=70):=by
 unfold qI
 simp only [ay]
 by_cases h1:16<afU f.am
 · rw [aD (show (16:Int)<((afU f.am):Int) by omega)]
   by_cases h2:(afU f.am)<64
   · rw [aD (show ((afU f.am):Int)<64 by omega)];exact .inl rfl
   rw [aC (show¬((afU f.am):Int)<64 by omega)]
   by_cases h3:70<afU f.am
   · rw [aD (show (70:Int)<((afU f.am):Int) by omega)];exact .inl rfl
   rw [aC (show¬(70:Int)<((afU f.am):Int) by omega)];exact .inr ⟨rfl,by omega⟩
 rw [aC (show¬(16:Int)<((afU f.am):Int) by omega),aC (show¬(70:Int)<((afU f.am):Int) by omega)]
 exact .inr ⟨rfl,by omega⟩
theorem M' (c:aP):qJ c=afV aga\/(qJ c=afV agb/\M6 c):=by
 unfold qJ yj yi
 simp only [ay]
 by_cases h1:40<afU c.ai.ce
 · rw [aD (show (40:Int)<((afU c.ai.ce):Int) by omega)];exact .inl rfl
 rw [aC (show¬(40:Int)<((afU c.ai.ce):Int) by omega)]
 by_cases h2:40<afU c.io
 · rw [aD (show (40:Int)<((afU c.io):Int) by omega)];exact .inl rfl
 rw [aC (show¬(40:Int)<((afU c.io):Int) by omega)]
 rcases M9 c.ii with e|⟨e,hf⟩
 · rw [e];exact .inl rfl
 rw [e];simp only [ol,aj]
 by_cases a1:210<afU c.ae.af.aA
 · rw [aD (show (210:Int)<((afU c.ae.af.aA):Int) by omega)];exact .inl rfl
 rw [aC (show¬(210:Int)<((afU c.ae.af.aA):Int) by omega)]
 by_cases a2:210<afU c.ae.af.be
 · rw [aD (show (210:Int)<((afU c.ae.af.be):Int) by omega)];exact .inl rfl
 rw [aC (show¬(210:Int)<((afU c.ae.af.be):Int) by omega)]
 by_cases a3:210<afU c.ae.af.bi
 · rw [aD (show (210:Int)<((afU c.ae.af.bi):Int) by omega)];exact .inl rfl
 rw [aC (show¬(210:Int)<((afU c.ae.af.bi):Int) by omega)]
 by_cases a4:210<afU c.ae.bv
 · rw [aD (show (210:Int)<((afU c.ae.bv):Int) by omega)];exact .inl rfl
 rw [aC (show¬(210:Int)<((afU c.ae.bv):Int) by omega)]
 by_cases a5:210<afU c.ae.aq
 · rw [aD (show (210:Int)<((afU c.ae.aq):Int) by omega)];exact .inl rfl
 rw [aC (show¬(210:Int)<((afU c.ae.aq):Int) by omega)]
 exact .inr ⟨rfl,⟨by omega,by omega,by omega,by omega,by omega,by omega,by omega,by omega⟩⟩
theorem aeM (p q:Pt) (t:Int×Int):Io p q t=(p.2.1-q.2.1)*t.2+(p.2.2-q.2.2)*t.1:=rfl
theorem Ea {p q:Pt} {t:Int×Int} (hp:fw p) (hq:fw q) (ht:o4 t) (hr:cC t):ox p q t=afV (agc (leads p q t),if p.1=q.1 then 2 else 0)\/(p.1=q.1/\ox p q t=afV (agb,2)):=by
 unfold ox;rw [uE ht,pp ⟨hp,hq,hr⟩]
 by_cases h:p.1=q.1
 · right;simp [h]
 left
 simp only [h,if_false,aj,tT hp hq ht]
 have:agc (0<O6 p q t)=agc (leads p q t):=by simp only [Ge]
 simp [this]
end Go.Proofs.YtbgoiokedpjgbaaGreat
namespace Go.Proofs.YtbgoiokedpjgbaaGreat
theorem ni {α:Type} [BEq α] [LawfulBEq α]: ∀{a b:List α},a.Nodup->(∀x∈a,x∈b)->afU b<=afU a->a.Perm b
 | [],b,_,_,hl=>by
  rw [List.eq_nil_of_length_eq_zero (show (afU b)=0 by simpa using hl)]
 |x::a,b,hd,h,hl=>by
  rw [ae9] at hd;have hx:=h x af2;have ih:=ni (a:=a) (b:=b.erase x) hd.2 (fun y hy=>by
   rw [List.mem_erase_of_ne (fun e=>hd.1 (by rw [<- e];exact hy))]
   exact h y (v6 _ hy)) (by
   rw [List.length_erase_of_mem hx];rw [UV] at hl
   omega)
  exact (List.Perm.cons x ih).trans (List.perm_cons_erase hx).symm
theorem wW {α β:Type} {f:α->β}: ∀{l:List α},l.Nodup->(∀x∈l,∀y∈l,f x=f y->x=y)->(l.map f).Nodup
 | [],_,_=>List.nodup_nil
 |x::l,h,hi=>by
  rw [ae9] at h;rw [List.map_cons,ae9];refine ⟨fun hm=>?_,wW h.2 fun y hy z hz=>hi y (v6 _ hy) z (v6 _ hz)⟩
  obtain ⟨y,hy,e⟩:=af7.1 hm
  have:=hi y (v6 _ hy) x af2 e
  rw [this] at hy;exact h.1 hy
end Go.Proofs.YtbgoiokedpjgbaaGreat
namespace Go.Proofs.YtbgoiokedpjgbaaGreat
open Go.Vm Classical
def sZ (l:List Int) (k:Nat):List (Int×Int):=(afK k).map fun i=>(l[i+1]!,l[i / 2]!)
abbrev iE (l:List Int):List (Int×Int):=sZ l (afU l-1)
theorem s4 (l:List Int) (k:Nat):(sZ l k).length=k:=by unfold sZ;rw [adc,afk]
theorem Na (l:List Int) (k:Nat):sZ l (k+1)=sZ l k++[(l[k+1]!,l[k / 2]!)]:=by
 unfold sZ;rw [List.range_succ,List.map_append];rfl
theorem yE (l:List Int) {k i:Nat} (h:i<k):(sZ l k)[i]! =(l[i+1]!,l[i / 2]!):=by
 rw [getElem!_pos _ i (by rw [s4];exact h)]
 unfold sZ;rw [List.getElem_map,List.getElem_range]
theorem Wq (l:List Int) (hl:(afU l)<=1000):DJ l=afV (iE l):=by
 unfold DJ;have key:=bF (body:=oJ) (fun i=>(l,((i+1:Nat):Int),sZ l i)) (afU l-1) (fun i hi=>by
  have e:aa .i64 (Int.tdiv (aa .i64 (((i+1:Nat):Int) -1)) 2)=((i / 2:Nat):Int):=by
   rw [show aa .i64 (((i+1:Nat):Int) -1)=(i:Int) from by rw [jb ⟨by omega,by omega⟩];omega,Int.tdiv_eq_ediv_of_nonneg (by omega),jb ⟨by omega,by omega⟩];omega
  unfold oJ;simp only [ay,aD (show ((i+1:Nat):Int)<((afU l):Int) by omega),lw,ar l (i+1) (by omega),e,ar l (i / 2) (by omega),aj]
  rw [bT (by rw [s4,PP];omega),aj,aR (show i+1<1000000000 by omega),<- Na])
 rw [show (l,(1:Int),([]:List (Int×Int)))=(l,((0+1:Nat):Int),sZ l 0) from rfl,key];refine aH ?_;unfold oJ;simp only [ay,aC (show¬((afU l-1+1:Nat):Int)<((afU l):Int) by omega),ol]
theorem arQ (l:List Int) (hl:(afU l)<=1000):MA l=afV (iE l):=by rw [<- Wq l hl];rfl
theorem S4 {l:List Int} {e:Int×Int} (h:e∈iE l):e.1∈l/\e.2∈l:=by
 obtain ⟨i,hi,rfl⟩:=aS.1 h;rw [s4] at hi;rw [yE l hi];exact ⟨aX (by omega),aX (by omega)⟩
theorem DT {l:List Int} (hd:l.Nodup):(iE l).Nodup:=by
 unfold iE sZ;refine wW afE fun i hi j hj h=>?_
 rw [af4] at hi hj;have h1:l[i+1]! =l[j+1]!:=congrArg afS h;have h2:=fR.1 hd;rcases F0s i j with k|k|k
 · exact absurd h1 (h2 (i+1) (j+1) (by omega) (by omega))
 · exact k
 exact absurd h1.symm (h2 (j+1) (i+1) (by omega) (by omega))
theorem Nb (l:List Int) (x:Int) (hl:(afU l)<=1000000):
 (∀k,k<afU l->l[k]! =x->(∀j,j<k->l[j]!≠x)->fv l x=afV (k:Int))/\((∀k,k<afU l->l[k]!≠x)->fv l x=afV (-1)):=by
 have k1:=hO (body:=jy) (fun i=>(l,x,((afU l):Int),(i:Int))) (afU l) (fun i=>l[i]! =x) (fun i=>(i:Int)) (e:= -1) (fun i hi=>by
  unfold jy;simp only [aD (show (i:Int)<((afU l):Int) by omega),lw,ar l i hi,aj,aR (show i<1000000000 by omega)]
  refine ⟨fun h=>?_,fun h=>?_⟩
  · rw [ei h.symm];rfl
  · rw [dO (fun k=>h k.symm)];rfl) (by
  unfold jy;simp only [aC (show¬((afU l):Int)<((afU l):Int) by omega),ol])
 exact ⟨fun k hk h1 h2=>k1.1 k hk h1 h2,fun h=>k1.2 h⟩
theorem aeN {f:List Pt} (cS:bw f) {t:Int×Int} (yu:o4 t) {x:Int×Int} (hb:jm f x):wH x ⟨f⟩ t=afV (agc (leads (fX f x.2) (fX f x.1) t)):=by
 obtain ⟨h1,h2⟩:=hb;obtain ⟨j,j1,j2,j3⟩:=uK cS h1;obtain ⟨k,k1,k2,k3⟩:=uK cS h2;unfold wH;simp only [j2,k2,aj,ar f j j1,ar f k k1,j3,k3,Gf (eY cS h2).1 (eY cS h1).1 yu]
def iF (f:List Pt):List Int:=f.map fun p=>p.1
theorem zw {f:List Pt} (h:fT f):(iF f).Nodup:=by
 refine wW ?_ ?_
 · exact fR.2 fun i j lg hj e=>by have:=dH h lg hj;rw [e] at this;omega
 intro x hx y hy e
 obtain ⟨i,hi,rfl⟩:=aS.1 hx;obtain ⟨j,hj,rfl⟩:=aS.1 hy;rw [AX h hi hj e]
theorem oP {f:List Pt} {id:Int}:id∈iF f↔fh f id:=by
 unfold iF fh;rw [af7];constructor
 · rintro ⟨p,hp,rfl⟩
   obtain ⟨i,hi,rfl⟩:=aS.1 hp;exact ⟨i,hi,rfl⟩
 rintro ⟨i,hi,rfl⟩
 exact ⟨f[i]!,aX hi,rfl⟩
structure pH (k:qO):Prop where
 A9:bk k.jp
 perm:(iF k.jp.ii.am).Perm k.bv
 cert:(k.jp.ai.ce.map fun x=>x.2).Perm (iE k.bv)
 lead: ∀e∈iE k.bv,leads (fX k.jp.ii.am e.2) (fX k.jp.ii.am e.1) k.jp.ci
theorem yF {c:bC} (ok:eL c):(c.ce.map fun x=>x.2).Nodup:=by
 refine wW ?_ ?_
 · exact fR.2 fun i j lg hj e=>ok.nd i j lg hj (by rw [e])
 intro x hx y hy e
 obtain ⟨i,hi,rfl⟩:=aS.1 hx;obtain ⟨j,hj,rfl⟩:=aS.1 hy;rcases F0s i j with k|k|k
 · exact absurd e (ok.nd i j k hj)
 · rw [k]
 exact absurd e.symm (ok.nd j i k hi)
def Nc (k:qO):Prop:=(∀i,i<afU k.bv->fh k.jp.ii.am k.bv[i]!/\ ∀j,j<i->k.bv[j]!≠k.bv[i]!)/\afU k.jp.ai.ce=(iE k.bv).length/\
 ∀i,i<(iE k.bv).length->rU k.jp.ai.ce (iE k.bv)[i]!/\leads (fX k.jp.ii.am ((iE k.bv)[i]!).2) (fX k.jp.ii.am ((iE k.bv)[i]!).1) k.jp.ci
theorem mJ {l:List rl} {x:Int×Int}:rU l x↔x∈l.map fun y=>y.2:=by
 unfold rU;rw [af7];constructor
 · rintro ⟨i,hi,rfl⟩;exact ⟨l[i]!,aX hi,rfl⟩
 rintro ⟨y,hy,rfl⟩
 obtain ⟨i,hi,rfl⟩:=aS.1 hy;exact ⟨i,hi,rfl⟩
theorem arR {k:qO} (ok:bk k.jp) (hl:(afU k.bv)=afU k.jp.ii.am):Nc k↔pH k:=by
 have nd:=zw ok.ie.2.2;have il:(iF k.jp.ii.am).length=(afU k.jp.ii.am):=adc ..;have cl:(k.jp.ai.ce.map fun x=>x.2).length=(afU k.jp.ai.ce):=adc ..
 constructor
 · rintro ⟨h1,h2,h3⟩
   have hn:k.bv.Nodup:=fR.2 fun i j lg hj e=>(h1 j hj).2 i lg e
   have pm:k.bv.Perm (iF k.jp.ii.am):=ni hn (fun x hx=>by
    obtain ⟨i,hi,rfl⟩:=aS.1 hx;exact oP.2 (h1 i hi).1) (by omega)
   have pc:(iE k.bv).Perm (k.jp.ai.ce.map fun x=>x.2):=ni (DT hn) (fun x hx=>by
    obtain ⟨i,hi,rfl⟩:=aS.1 hx;exact mJ.1 (h3 i hi).1) (by omega)
   refine ⟨ok,pm.symm,pc.symm,fun e he=>?_⟩
   obtain ⟨i,hi,rfl⟩:=aS.1 he;exact (h3 i hi).2
 intro h
 have hn:k.bv.Nodup:=h.perm.nodup_iff.1 nd;refine ⟨fun i hi=>⟨oP.1 (h.perm.mem_iff.2 (aX hi)),fun j hj e=>fR.1 hn j i hj hi e⟩,by rw [<- h.cert.length_eq,cl],fun i hi=>?_⟩
 exact ⟨mJ.2 (h.cert.mem_iff.2 (aX hi)),h.lead _ (aX hi)⟩
theorem zx {α:Type} {p q:Prop} [Decidable p] [Decidable q] {a b:α} (h:p↔q):(if p then a else b)=if q then a else b:=by
 by_cases hp:p
 · rw [pp hp,pp (h.1 hp)]
 rw [rc hp,rc (fun k=>hp (h.2 k))]
theorem Rj {c:aP} (ok:bk c) (es:List (Int×Int)) (kn: ∀x∈es,jm c.ii.am x):
 sU c es=afV (agc (afU c.ai.ce=afU es/\ ∀i,i<afU es->rU c.ai.ce es[i]!/\leads (fX c.ii.am (es[i]!).2) (fX c.ii.am (es[i]!).1) c.ci)):=by
 have bd:=ok.bd;unfold sU;simp only [ay]
 by_cases h0:(afU c.ai.ce)=afU es
 case neg=>rw [cK (by omega),lw,aC (fun h=>h0 h.1)]
 rw [bn (by omega),ol]
 have key:=lX (body:=p9) (fun i=>(es,(i:Int),c.ci.1,c.ci.2,c.ii.am,c.ai.aM,c.ai.ce,c.ae.af.aA,c.ae.af.be,c.ae.af.bi,c.ae.bv,c.ae.aq,c.io)) (afU es)
  (fun i=>rU c.ai.ce es[i]!/\leads (fX c.ii.am (es[i]!).2) (fX c.ii.am (es[i]!).1) c.ci) (r:=agb) (e:=aga) (fun i hi=>by
  have M5:bC.mk c.ai.aM c.ai.ce=c.ai:=rfl;unfold p9;simp only [ay,aD (show (i:Int)<((afU es):Int) by omega),lw,ar es i hi,aj,M5,wT c.ai es[i]! (by omega),aeN ok.ie (t:=(c.ci.1,c.ci.2)) ok.gF (kn _ (aX hi)),aR (show i<1000000000 by omega)]
  by_cases h1:rU c.ai.ce es[i]!
  · rw [aD h1]
    by_cases h2:leads (fX c.ii.am (es[i]!).2) (fX c.ii.am (es[i]!).1) c.ci
    · rw [show agc (leads (fX c.ii.am (es[i]!).2) (fX c.ii.am (es[i]!).1) (c.ci.1,c.ci.2))=aga from aD h2]
      exact ⟨fun h=>absurd ⟨h1,h2⟩ h,fun _=>rfl⟩
    rw [show agc (leads (fX c.ii.am (es[i]!).2) (fX c.ii.am (es[i]!).1) (c.ci.1,c.ci.2))=agb from aC h2]
    exact ⟨fun _=>rfl,fun h=>absurd h.2 h2⟩
  · rw [aC h1]
    exact ⟨fun _=>rfl,fun h=>absurd h.1 h1⟩) (by
  unfold p9;simp only [ay,aC (show¬((afU es):Int)<((afU es):Int) by omega),ol])
 refine (show _=_ from key).trans ?_
 by_cases h2: ∀i,i<afU es->rU c.ai.ce es[i]!/\leads (fX c.ii.am (es[i]!).2) (fX c.ii.am (es[i]!).1) c.ci
 · rw [pp h2,aD ⟨h0,h2⟩]
 rw [rc h2,aC (fun h=>h2 h.2)]
theorem aeO {σ ρ:Type} {body:σ->Option (Step σ ρ)} (st:Nat->σ) (n:Nat) (P:Nat->Prop) {r:ρ} (h: ∀i,i<n->(¬P i->body (st i)=afV (.done r))/\(P i->body (st i)=afV (.next (st (i+1)))))
 (hx: ¬ ∀i,i<n->P i):az body (st 0)=afV r:=by
 obtain ⟨i,hi⟩:=afh.1 hx;obtain ⟨hi,hx⟩:=afj.1 hi;obtain ⟨m,m1,m2,m3⟩:=least (c:=fun i=> ¬P i) ⟨i,hi,hx⟩
 rw [bF st m fun j hj=>(h j (by omega)).2 (If.1 (m3 j hj))]
 exact aH ((h m m1).1 m2)
def ckS (k:qO) (i:Nat):=((i:Int),k.jp.ci.1,k.jp.ci.2,k.jp.ii.am,k.jp.ai.aM,k.jp.ai.ce,k.jp.ae.af.aA,k.jp.ae.af.be,k.jp.ae.af.bi,k.jp.ae.bv,k.jp.ae.aq,k.jp.io,k.bv)
theorem GK {k:qO} (fit:oO k.jp) (hl:(afU k.bv)<=1000):ym k=afV (if pH k then 0 else 8):=by
 unfold ym;rw [yC fit,aj]
 by_cases ok:bk k.jp
 case neg=>rw [rc ok,rc (fun h=>ok h.A9)];rfl
 rw [pp ok,bn rfl,ol]
 by_cases hh:(afU k.bv)=afU k.jp.ii.am
 case neg=>
  rw [cK (by rw [ay,ay];omega),lw,rc (fun h=>hh ?_)]
  rw [<- h.perm.length_eq];exact adc ..
 rw [bn (by rw [ay,ay];omega),ol,<- zx (arR ok hh)]
 have bd:=ok.bd;have step: ∀i,i<afU k.bv->(¬(fh k.jp.ii.am k.bv[i]!/\ ∀j,j<i->k.bv[j]!≠k.bv[i]!)->iC (ckS k i)=afV (.done 8))/\((fh k.jp.ii.am k.bv[i]!/\ ∀j,j<i->k.bv[j]!≠k.bv[i]!)->iC (ckS k i)=afV (.next (ckS k (i+1)))):=by
  intro i hi;unfold ckS;unfold iC;simp only [ay,aD (show (i:Int)<((afU k.bv):Int) by omega),lw,ar k.bv i hi,aj]
  by_cases h1:fh k.jp.ii.am k.bv[i]!
  case neg=>
   rw [yB ok.ie h1];exact ⟨fun _=>rfl,fun h=>absurd h.1 h1⟩
  obtain ⟨m,m1,m2,m3⟩:=uK ok.ie h1;rw [m2];simp only [aj,aC (show¬(m:Int)<0 by omega),ol]
  have BY:=lX (body:=oK) (fun j=>((i:Int),(j:Int),k.jp.ci.1,k.jp.ci.2,k.jp.ii.am,k.jp.ai.aM,k.jp.ai.ce,k.jp.ae.af.aA,k.jp.ae.af.be,k.jp.ae.af.bi,k.jp.ae.bv,k.jp.ae.aq,k.jp.io,k.bv)) i
   (fun j=>k.bv[j]!≠k.bv[i]!) (r:= .done 8) (e:= .next (((i+1:Nat):Int),k.jp.ci.1,k.jp.ci.2,k.jp.ii.am,k.jp.ai.aM,k.jp.ai.ce,k.jp.ae.af.aA,k.jp.ae.af.be,k.jp.ae.af.bi,k.jp.ae.bv,k.jp.ae.aq,k.jp.io,k.bv)) (fun j hj=>by
   unfold oK;simp only [aD (show (j:Int)<(i:Int) by omega),lw,ar k.bv j (by omega),ar k.bv i hi,aj,aR (show j<1000000000 by omega)]
   by_cases h:k.bv[j]! =k.bv[i]!
   · rw [ei h];exact ⟨fun _=>rfl,fun k=>absurd h k⟩
   · rw [dO h];exact ⟨fun k=>absurd h k,fun _=>rfl⟩) (by
   unfold oK;simp only [aC (show¬(i:Int)<(i:Int) by omega),ol,aR (show i<1000000000 by omega)])
  have Ki:=(show _=_ from BY)
  by_cases h2: ∀j,j<i->k.bv[j]!≠k.bv[i]!
  · rw [pp h2] at Ki
    exact ⟨fun h=>absurd ⟨h1,h2⟩ h,fun _=>Ki⟩
  rw [rc h2] at Ki
  exact ⟨fun _=>Ki,fun h=>absurd h.2 h2⟩
 by_cases hP: ∀i,i<afU k.bv->fh k.jp.ii.am k.bv[i]!/\ ∀j,j<i->k.bv[j]!≠k.bv[i]!
 · have jus:=Rj ok (iE k.bv) (fun x hx=>by
    obtain ⟨h1,h2⟩:=S4 hx;obtain ⟨i,hi,e1⟩:=aS.1 h1;obtain ⟨j,hj,e2⟩:=aS.1 h2;exact ⟨e1▸(hP i hi).1,e2▸(hP j hj).1⟩)
   have o:=lX (body:=iC) (ckS k) (afU k.bv) _ (r:=8) (e:=if Nc k then 0 else 8) step (by
    have vF:(aP.mk (k.jp.ci.1,k.jp.ci.2) (Field.mk k.jp.ii.am) (bC.mk k.jp.ai.aM k.jp.ai.ce) (aK.mk (bc.mk k.jp.ae.af.aA k.jp.ae.af.be k.jp.ae.af.bi) k.jp.ae.bv k.jp.ae.aq) k.jp.io)=k.jp:=rfl;unfold iC ckS
    simp only [ay,aC (show¬((afU k.bv):Int)<((afU k.bv):Int) by omega),ol,arQ k.bv hl,aj,vF,jus]
    by_cases h2:(afU k.jp.ai.ce)=(iE k.bv).length/\ ∀i,i<(iE k.bv).length->rU k.jp.ai.ce (iE k.bv)[i]!/\leads (fX k.jp.ii.am ((iE k.bv)[i]!).2) (fX k.jp.ii.am ((iE k.bv)[i]!).1) k.jp.ci
    · rw [aD h2,pp (show Nc k from ⟨hP,h2.1,h2.2⟩)];rfl
    rw [aC h2,rc (fun h:Nc k=>h2 ⟨h.2.1,h.2.2⟩)];rfl)
   refine (show _=_ from o).trans ?_;rw [pp hP]
 rw [rc (fun h:Nc k=>hP h.1)]
 exact aeO (body:=iC) (ckS k) (afU k.bv) _ (r:=8) step hP
def bA (p w:List Int) (i:Nat):Int:=if i<(afU w) then w[i]! else p[i-(afU w)]!
def jU (i j:Nat):Prop:= ∃d,(j+1) / 2^d=i+1
theorem jU.refl (i:Nat):jU i i:=⟨0,by simp⟩
theorem nO {i k j:Nat} (hk:k=2*i+1\/k=2*i+2) (h:jU k j):jU i j:=by
 obtain ⟨d,hd⟩:=h;refine ⟨d+1,?_⟩;rw [afm,<- NE,hd];omega
theorem EB {a b c d:Nat} (h:a<=b) (hc:(c+1) / 2^a=d):(c+1) / 2^b=d / 2^(b-a):=by
 have:2^b=2^a*2^(b-a):=by rw [<- Nat.pow_add];congr 1;omega
 rw [this,<- NE,hc]
theorem Nf {x e:Nat} (he:0<e):x / 2^e<=x / 2:=by
 obtain ⟨k,rfl⟩: ∃k,e=k+1:=⟨e-1,by omega⟩
 rw [show 2^(k+1)=2*2^k by rw [afm];omega,<- NE]
 exact Nat.div_le_self _ _
theorem qQ {i j:Nat} (h1:jU (2*i+1) j) (h2:jU (2*i+2) j):False:=by
 obtain ⟨a,ha⟩:=h1;obtain ⟨b,hb⟩:=h2;rcases F0s a b with h|h|h
 · have:=EB (afo h) ha
   have:=Nf (x:=2*i+1+1) (e:=b-a) (by omega)
   omega
 · subst h;omega
 have:=EB (afo h) hb
 have:=Nf (x:=2*i+2+1) (e:=a-b) (by omega)
 omega
theorem Wr {i k j1 j2:Nat} (h1:jU (2*i+1) j1) (h2:jU (2*i+2) j2) (g:(jU (2*k+1) j1/\jU (2*k+2) j2)\/(jU (2*k+1) j2/\jU (2*k+2) j1)):i=k:=by
 have main: ∀{i k j1 j2:Nat},jU (2*i+1) j1\/jU (2*i+2) j1->jU i j2->(jU (2*k+1) j1/\jU (2*k+2) j2)\/(jU (2*k+1) j2/\jU (2*k+2) j1)-> ∀a a':Nat,(j1+1) / 2^a=i+1->(j1+1) / 2^a'=k+1->a<a'->False:=by
  intro i k j1 j2 _ u2 g a a' ha Fi dI;have e:=EB (afo dI) ha;rw [Fi] at e;obtain ⟨c,hc⟩: ∃c,a'-a=c+1:=⟨a'-a-1,by omega⟩
  rw [hc,afm,<- NE] at e;have q: ∃m,(i+1) / 2^c=m+1/\(m=2*k+1\/m=2*k+2):=⟨(i+1) / 2^c-1,by omega,by omega⟩
  obtain ⟨m,hm,hmk⟩:=q;have um: ∀j,jU i j->jU m j:=fun j ⟨d,hd⟩=>⟨d+c,by
   rw [EB (Nat.le_add_right d c) hd,show d+c-d=c by omega,hm]⟩
  have u1:jU i j1:=⟨a,ha⟩;have v1:=um _ u1;have v2:=um _ u2;rcases hmk with rfl|rfl
  · rcases g with g|g
    · exact qQ v2 g.2
    exact qQ v1 g.2
  rcases g with g|g
  · exact qQ g.1 v1
  exact qQ g.1 v2
 have i1:jU i j1:=nO (.inl rfl) h1;have i2:jU i j2:=nO (.inr rfl) h2;have k1:jU k j1:=by rcases g with g|g;exact nO (.inl rfl) g.1;exact nO (.inr rfl) g.2
 have k2:jU k j2:=by rcases g with g|g;exact nO (.inr rfl) g.2;exact nO (.inl rfl) g.1
 obtain ⟨a,ha⟩:=i1;obtain ⟨a',Fi⟩:=k1;rcases F0s a a' with h|h|h
 · exact (main (.inl h1) i2 g a a' ha Fi h).elim
 · subst h;omega
 exact (main (i:=k) (k:=i) (j1:=j1) (j2:=j2) (by rcases g with g|g;exact .inl g.1;exact .inr g.2) k2 (.inl ⟨h1,h2⟩) a' a Fi ha h).elim
def wX (p w:List Int):Prop:= ∀i,i<afU w->w[i]! =bA p w (2*i+1)\/w[i]! =bA p w (2*i+2)
theorem wY {p w:List Int} (hl:(afU w)+1=afU p) (hc:wX p w): ∀(d i:Nat),afU w+afU p-i<=d->i<afU w+afU p-> ∃j,afU w<=j/\j<afU w+afU p/\jU i j/\p[j-(afU w)]! =bA p w i:=by
 intro d
 induction d with
 |zero=>intro i h1 h2;omega
 |succ d ih=>
  intro i h1 h2
  by_cases hi:i<afU w
  · rcases hc i hi with e|e
    · obtain ⟨j,j1,j2,j3,j4⟩:=ih (2*i+1) (by omega) (by omega)
      refine ⟨j,j1,j2,nO (.inl rfl) j3,?_⟩;rw [j4,<- e];unfold bA;rw [pp hi]
    obtain ⟨j,j1,j2,j3,j4⟩:=ih (2*i+2) (by omega) (by omega)
    refine ⟨j,j1,j2,nO (.inr rfl) j3,?_⟩;rw [j4,<- e];unfold bA;rw [pp hi]
  refine ⟨i,by omega,h2,.refl i,?_⟩
  unfold bA;rw [rc hi]
def zF (p:List Int):Prop:= ∀i j,i<j->j<afU p->p[i]! =p[j]!->p[i]!<0
theorem zF.inj {p:List Int} (h:zF p) {i j:Nat} (hi:i<afU p) (hj:j<afU p) (e:p[i]! =p[j]!) (h0:0<=p[i]!):i=j:=by
 rcases F0s i j with k|k|k
 · have:=h i j k hj e;omega
 · exact k
 have:=h j i k hi e.symm;rw [<- e] at this;omega
section
variable {p w : List Int} (hl : (afU w) + 1 = (afU p)) (hc : wX p w) (ho : zF p)
include hl hc
theorem jV {i:Nat} (hi:i<afU w+afU p):bA p w i∈p:=by
 obtain ⟨j,j1,j2,_,e⟩:=wY hl hc _ i (EQ _) hi;rw [<- e];exact aX (by omega)
include ho
theorem EC {i:Nat} (hi:i<afU w) (h0:0<=bA p w (2*i+1)):bA p w (2*i+1)≠bA p w (2*i+2):=by
 intro e;obtain ⟨j,j1,j2,j3,j4⟩:=wY hl hc _ (2*i+1) (EQ _) (by omega)
 obtain ⟨k,k1,k2,k3,k4⟩:=wY hl hc _ (2*i+2) (EQ _) (by omega)
 have:=ho.inj (i:=j-(afU w)) (j:=k-(afU w)) (by omega) (by omega) (by rw [j4,k4,e]) (by rw [j4];exact h0)
 obtain rfl:j=k:=by omega
 exact qQ j3 k3
theorem Ws {i k:Nat} (hi:i<afU w) (hk:k<afU w) (h1:0<=bA p w (2*i+1)) (h2:0<=bA p w (2*i+2))
 (g:(bA p w (2*k+1)=bA p w (2*i+1)/\bA p w (2*k+2)=bA p w (2*i+2))\/(bA p w (2*k+1)=bA p w (2*i+2)/\bA p w (2*k+2)=bA p w (2*i+1))):i=k:=by
 obtain ⟨j1,a1,a2,a3,a4⟩:=wY hl hc _ (2*i+1) (EQ _) (by omega)
 obtain ⟨j2,b1,b2,b3,b4⟩:=wY hl hc _ (2*i+2) (EQ _) (by omega)
 obtain ⟨l1,c1,c2,c3,c4⟩:=wY hl hc _ (2*k+1) (EQ _) (by omega)
 obtain ⟨l2,d1,d2,d3,d4⟩:=wY hl hc _ (2*k+2) (EQ _) (by omega)
 have same: ∀{x y:Nat},afU w<=x->x<afU w+afU p->afU w<=y->y<afU w+afU p->p[x-(afU w)]! =p[y-(afU w)]!->0<=p[x-(afU w)]!->x=y:=fun {x y} hx hx' hy hy' e h0=>by
  have:=ho.inj (i:=x-(afU w)) (j:=y-(afU w)) (by omega) (by omega) e h0
  omega
 refine Wr a3 b3 ?_;rcases g with ⟨g1,g2⟩|⟨g1,g2⟩
 · have e1:j1=l1:=same a1 a2 c1 c2 (by rw [a4,c4,g1]) (by rw [a4];exact h1)
   have e2:j2=l2:=same b1 b2 d1 d2 (by rw [b4,d4,g2]) (by rw [b4];exact h2)
   subst e1 e2;exact .inl ⟨c3,d3⟩
 have e1:j2=l1:=same b1 b2 c1 c2 (by rw [b4,c4,g1]) (by rw [b4];exact h2)
 have e2:j1=l2:=same a1 a2 d1 d2 (by rw [a4,d4,g2]) (by rw [a4];exact h1)
 subst e1 e2;exact .inr ⟨c3,d3⟩
end
noncomputable def vG (f:List Pt) (t:Int×Int) (x y:Int):Int:=if x<0 then y else if y<0 then x else if leads (fX f x) (fX f y) t then x else y
theorem Rk (f:List Pt) (t:Int×Int) (x y:Int):vG f t x y=x\/vG f t x y=y:=by
 unfold vG;split
 · exact .inr rfl
 split
 · exact .inl rfl
 split
 · exact .inl rfl
 exact .inr rfl
def GL (f:List Pt) (t:Int×Int) (p w:List Int):Prop:=afU w+1=afU p/\ ∀i,i<afU w->w[i]! =vG f t (bA p w (2*i+1)) (bA p w (2*i+2))
theorem GL.uN {f:List Pt} {t:Int×Int} {p w:List Int} (h:GL f t p w):wX p w:=fun i hi=>by
 rw [h.2 i hi];exact Rk ..
noncomputable def IB (f:List Pt) (t:Int×Int) (p:List Int):Nat->List Int->List Int
 |0,w=>w
 |i+1,w=>IB f t p i (w.set i (vG f t (bA p w (2*i+1)) (bA p w (2*i+2))))
noncomputable def bR (f:List Pt) (t:Int×Int) (p:List Int):List Int:=IB f t p (afU p-1) (afQ (afU p-1) 0)
theorem IC {p w:List Int} {i k:Nat} {v:Int} (h:i≠k):bA p (w.set i v) k=bA p w k:=by
 unfold bA;rw [M2];split
 · rw [aU,rc (fun x=>h x.1.symm)]
 rfl
theorem ID {f:List Pt} {t:Int×Int} {p:List Int}: ∀(n:Nat) (w:List Int),n<=afU w->(∀i,n<=i->i<afU w->w[i]! =vG f t (bA p w (2*i+1)) (bA p w (2*i+2)))->
 (IB f t p n w).length=afU w/\ ∀i,i<afU w->(IB f t p n w)[i]! =vG f t (bA p (IB f t p n w) (2*i+1)) (bA p (IB f t p n w) (2*i+2))
 |0,w,_,h=>⟨rfl,fun i hi=>h i (Nat.zero_le _) hi⟩
 |n+1,w,hn,h=>by
  have ih:=ID n (w.set n (vG f t (bA p w (2*n+1)) (bA p w (2*n+2)))) (by rw [M2];omega) (fun i h1 h2=>by
   rw [M2] at h2;rw [IC (by omega),IC (by omega),aU]
   split
   · rename_i e;rw [e.1]
   exact h i (by omega) h2)
  rw [M2] at ih;exact ih
theorem ew {f:List Pt} {t:Int×Int} {p:List Int} (hp:1<=afU p):GL f t p (bR f t p):=by
 have:=ID (f:=f) (t:=t) (p:=p) (afU p-1) (afQ (afU p-1) 0) (by rw [af5];omega) (fun i h1 h2=>by rw [af5] at h2;omega)
 rw [af5] at this;have hl:(bR f t p).length=afU p-1:=this.1;exact ⟨by omega,fun i hi=>this.2 i (by omega)⟩
theorem S5 {f:List Pt} {t:Int×Int} {p w v:List Int} (h:GL f t p w) (g:GL f t p v):w=v:=by
 have hl:(afU w)=(afU v):=by have:=h.1;have:=g.1;omega
 have key: ∀(d i:Nat),afU w-i<=d->i<afU w->w[i]! =v[i]!:=by
  intro d
  induction d with
  |zero=>intro i h1 h2;omega
  |succ d ih=>
   intro i _ hi;have nd: ∀k,i<k->bA p w k=bA p v k:=fun k hk=>by
    unfold bA;rw [hl];split
    · rename_i h';exact ih k (by omega) (by omega)
    rfl
   rw [h.2 i hi,g.2 i (by omega),nd _ (by omega),nd _ (by omega)]
 exact qP hl fun i hi=>key _ i (EQ _) hi
noncomputable def xp (p w:List Int) (i:Nat):Option (Int×Int):=
 if bA p w (2*i+1)<0\/bA p w (2*i+2)<0 then none
 else if w[i]! =bA p w (2*i+1) then afV (bA p w (2*i+2),bA p w (2*i+1)) else afV (bA p w (2*i+1),bA p w (2*i+2))
noncomputable def gd (p w:List Int):List (Int×Int):=(afK (afU w)).filterMap (xp p w)
theorem GM (p w:List Int):(gd p w).length<=(afU w):=by
 have:=List.length_filterMap_le (xp p w) (afK (afU w))
 rwa [afk] at this
theorem GN {p w:List Int} {e:Int×Int}:e∈gd p w↔ ∃i,i<afU w/\xp p w i=afV e:=by
 unfold gd;rw [afi];constructor
 · rintro ⟨i,hi,h⟩;exact ⟨i,af4.1 hi,h⟩
 rintro ⟨i,hi,h⟩;exact ⟨i,af4.2 hi,h⟩
theorem wZ {p w:List Int} {i:Nat} {e:Int×Int} (h:xp p w i=afV e):0<=bA p w (2*i+1)/\0<=bA p w (2*i+2)/\
 ((e=(bA p w (2*i+2),bA p w (2*i+1))/\w[i]! =bA p w (2*i+1))\/(e=(bA p w (2*i+1),bA p w (2*i+2))/\w[i]!≠bA p w (2*i+1))):=by
 unfold xp at h;split at h
 · cases h
 rename_i hn
 refine ⟨by omega,by omega,?_⟩
 split at h
 · rename_i h1;injection h with h;exact .inl ⟨h.symm,h1⟩
 rename_i h1;injection h with h;exact .inr ⟨h.symm,h1⟩
theorem xq {α β:Type} {g:α->Option β}: ∀{l:List α},l.Nodup->(∀x∈l,∀y∈l,∀b,g x=afV b->g y=afV b->x=y)->(l.filterMap g).Nodup
 | [],_,_=> .nil
 |a::r,h,hi=>by
  obtain ⟨h1,h2⟩:=ae9.1 h;have ih:=xq (g:=g) h2 (fun x hx y hy b e1 e2=>hi x (v6 _ hx) y (v6 _ hy) b e1 e2)
  cases hg:g a with
  |none=>rw [List.filterMap_cons_none hg];exact ih
  |some b=>
   rw [List.filterMap_cons_some hg];refine ae9.2 ⟨fun hb=>?_,ih⟩
   obtain ⟨y,hy,e⟩:=afi.1 hb
   have:=hi a (af2 ..) y (v6 _ hy) b hg e
   subst this;exact h1 hy
theorem Kj {p w:List Int} (hl:(afU w)+1=afU p) (hc:wX p w) (ho:zF p):(gd p w).Nodup:=by
 refine xq afE fun i hi k hk b e1 e2=>?_
 have hi:=af4.1 hi;have hk:=af4.1 hk;obtain ⟨a1,a2,a3⟩:=wZ e1;obtain ⟨b1,b2,b3⟩:=wZ e2;refine Ws hl hc ho hi hk a1 a2 ?_;rcases a3 with ⟨rfl,_⟩|⟨rfl,_⟩<;>rcases b3 with ⟨h,_⟩|⟨h,_⟩<;>(injection h with h1 h2)
 · exact .inl ⟨h2.symm,h1.symm⟩
 · exact .inr ⟨h1.symm,h2.symm⟩
 · exact .inr ⟨h2.symm,h1.symm⟩
 exact .inl ⟨h1.symm,h2.symm⟩
theorem S6 {f:List Pt} (cS:bw f) {p w:List Int} (hl:(afU w)+1=afU p) (hn:(afU p)<=64) (hc:wX p w) (ho:zF p) (hk: ∀x∈p,0<=x->fh f x):zu f (gd p w):=by
 have hp: ∀e∈gd p w,jm f e/\e.1≠e.2:=fun e he=>by
  obtain ⟨i,hi,h⟩:=GN.1 he;obtain ⟨a1,a2,a3⟩:=wZ h;have m1:=jV hl hc (i:=2*i+1) (by omega)
  have m2:=jV hl hc (i:=2*i+2) (by omega)
  have ne:=EC hl hc ho hi a1;rcases a3 with ⟨rfl,_⟩|⟨rfl,_⟩
  · exact ⟨⟨hk _ m2 a2,hk _ m1 a1⟩,fun h=>ne h.symm⟩
  exact ⟨⟨hk _ m1 a1,hk _ m2 a2⟩,ne⟩
 refine ⟨by have:=GM p w;omega,fun e he=>?_,fun e he=>(hp e he).1⟩
 obtain ⟨⟨h1,h2⟩,ne⟩:=hp e he;obtain ⟨⟨p1,p2⟩,q1,q2⟩:=And.intro (eY cS h1) (eY cS h2);unfold fw at p1 q1;unfold fx;omega
end Go.Proofs.YtbgoiokedpjgbaaGreat
