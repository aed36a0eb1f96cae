/- Plain laws (3). -/
import Derived.Test.YtbgoiokedpjgbaaGreatLQM2
import Derived.Test.YtbgoiokedpjgbaaGreatLQS2
open List renaming mem_cons_of_mem->ut,length_append->v6,length_drop->If,length_set->IR,length_cons->PP,mem_append->UV,nodup_cons->acl,mem_cons_self->acK,mem_range->adc,length_singleton->ae0,length_replicate->ae3,length_nil->ae5,mem_map->aem,drop_zero->aet,drop_length->aeu,mem_filterMap->aex,length_range->aeA,nodup_range->aeD,length_map->aeE,range->aeJ,replicate->aeZ,mem_cons->af0,length->af5
open Bool renaming not_false->ww,not_true->Do,true->afa,false->afb
open Classical renaming byContradiction->AC,not_not->M2
open Nat renaming le_refl->EQ,lt_trichotomy->F0s,div_div_eq_div_mul->NE,pow_succ->aeB,le_of_lt->aeC,not_lt_zero->aeF
open Int renaming le_trans->aev,le_refl->aew
open Prod renaming ext->aeH,fst->af3
open Option renaming some->af9
open Decidable renaming decide->afc
namespace Go.Proofs.YtbgoiokedpjgbaaGreat
open Go.Vm Classical
theorem MD (c:aP) (n:Int) (hl:(af5 c.io)<=1000000):(∀k,k<af5 c.io->(c.io[k]!).1=n->(∀j,j<k->(c.io[j]!).1≠n)->nm c n=af9 (k:Int))/\((∀k,k<af5 c.io->(c.io[k]!).1≠n)->nm c n=af9 (-1)):=by
 unfold nm;refine hO (body:=nX) (fun i=>(n,(i:Int),c.ci.1,c.ci.2,c.ii.am,c.ai.aL,c.ai.ce,c.aa.af.aB,c.aa.af.be,c.aa.af.bi,c.aa.bv,c.aa.aj,c.io)) (af5 c.io) (fun i=>(c.io[i]!).1=n) (fun i=>(i:Int)) (fun i hi=>?_) ?_
 · have e1:afc ((i:Int)<((af5 c.io):Int))=afa:=aF (by omega)
   unfold nX;simp only [aA,e1,lw,au c.io i hi,ar,aT (show i<1000000000 by omega)]
   constructor
   · intro h;rw [eu h];rfl
   intro h;rw [dR h];rfl
 unfold nX
 have:afc (((af5 c.io):Int)<((af5 c.io):Int))=afb:=aC (by omega)
 simp only [aA,this,ol]
theorem Ia {ds:List qN} (hu:Up ds) (hl:(af5 ds)<=1000000) (n:Int):(∀k,k<af5 ds->(ds[k]!).1=n->nu ds n=af9 ((k:Int),afa))/\((∀k,k<af5 ds->(ds[k]!).1≠n)-> ∃m:Nat,nu ds n=af9 ((m:Int),afb)):=by
 have bs:=pQ ds n hl (rB.1 hu);unfold nu;rw [alY];constructor
 · intro k hk he;rw [bs.1 k hk he];rfl
 intro h
 obtain ⟨m,_,_,_,e⟩:=bs.2 h;exact ⟨m,by rw [e];rfl⟩
theorem bn.bd {c:aP} (ok:bn c):(af5 c.io)<=200/\af5 c.ii.am<=64/\af5 c.ai.ce<=200:=by
 have:=ok.hd;have:=ok.mS.bd;have:=ok.jS.1;have:=ok.uu.len
 omega
theorem jk {c:aP} (ok:bn c):lA c=af9 c:=by
 have bd:=ok.bd;unfold lA mQ oV;simp only [ba (show (af5 c.ii.am)<=1048576 by omega),ba (show (af5 c.ai.ce)<=1048576 by omega),ba (show (af5 c.io)<=1048576 by omega),ar,pP ok.mS]
theorem kO {c:aP} (ok:bn c):lG c=af9 c:=by
 have bd:=ok.bd;have ab:=ok.mS.bd;have hl:=ok.mS.so.fl;have hn:=ok.mS.so.n2;have hu:=ok.mS.so.ul;unfold lG;simp only [ba (show (af5 c.ii.am)<=1048576 by omega),ba (show (af5 c.ai.ce)<=1048576 by omega),ba (show (af5 c.io)<=1048576 by omega),ba (show (af5 c.aa.bv)<=1048576 by omega),ba (show (af5 c.aa.aj)<=1048576 by omega),
  ba (show (af5 c.aa.af.aB)<=1048576 by omega),ba (show (af5 c.aa.af.be)<=1048576 by omega),ba (show (af5 c.aa.af.bi)<=1048576 by omega),ar]
theorem wE {cs:List qN} {i:Nat} (hu:Up cs) (hi:i<af5 cs) {x:qN} (hx:x∈cs.eraseIdx i):x∈cs/\x.1≠(cs[i]!).1:=by
 rw [sD,UV] at hx;have ub:=rB.1 hu;rcases hx with hx|hx
 · obtain ⟨j,h1,h2,rfl⟩:=cf.1 hx
   have:=ub j i h1 hi
   exact ⟨aY h2,by omega⟩
 obtain ⟨j,hj,rfl⟩:=aS.1 hx
 rw [If] at hj;rw [kN]
 have:=ub i (i+1+j) (by omega) (by omega)
 exact ⟨aY (by omega),by omega⟩
theorem Dp {c:aP} (ok:bn c) (i:Nat) (hi:i<af5 c.ai.ce): ∀j,j<(mH c.ai i).ce.length->jj c.ii.am ((mH c.ai i).ce[j]!).2:=by
 intro j hj;have hm:(mH c.ai i).ce[j]!∈c.ai.ce:=(wE ok.wD hi (aY hj)).1;obtain ⟨m,hm1,Tb⟩:=aS.1 hm;rw [<- Tb];exact ok.known m hm1
theorem al0 {c:aP} (ok:bn c) {i:Nat} (hi:i<af5 c.ai.ce):
 ∃c':aP,o5 c (c.ai.ce[i]!).1=af9 (c',(c.ai.ce[i]!).2,0)/\rZ c (c.ai.ce[i]!).1=af9 c'/\bn c'/\c'.ii=c.ii/\c'.ci=c.ci/\c'.ai=mH c.ai i:=by
 have bd:=ok.bd;have rm:=Gc ok.uu hi (n:=(c.ai.ce[i]!).1) rfl;have wo:=CJ ok.uu hi (n:=(c.ai.ce[i]!).1) rfl;have fe:=ok.DG.erase (i:=i) hi;have pd:=Ia ok.Ge (by omega) (c.ai.ce[i]!).1
 have da:=MD c (c.ai.ce[i]!).1 (by omega)
 cases hf:(bE c.ii.am (c.ai.ce[i]!).2 c.ci).2 with
 |false=>
  have no: ∀k,k<af5 c.io->(c.io[k]!).1≠(c.ai.ce[i]!).1:=by
   intro k hk he;obtain ⟨x,hx,h1,h2,_⟩:=ok.DG.io _ (aY hk);obtain ⟨j,hj,rfl⟩:=aS.1 hx;have ub:=rB.1 ok.wD
   have:j=i:=by
    rcases F0s j i with h|h|h
    · have:=ub j i h hi;omega
    · exact h
    have:=ub i j h hj;omega
   rw [this,hf] at h2;cases h2
  refine ⟨⟨c.ci,c.ii,mH c.ai i,c.aa,c.io⟩,?_,?_,?_,rfl,rfl,rfl⟩
  · unfold o5
    obtain ⟨m,e⟩:=pd.2 no;simp only [rm,ar,show ((0:Int) !=0)=afb from rfl,ol,kO ok,e]
  · unfold rZ
    simp only [jk ok,ar,wo,da.2 no,aC (show¬(0:Int)<= -1 by omega),ol]
  exact ⟨ok.qv,ok.hU,ok.jS,Gb ok.uu hi,ok.mS,ok.JS,ok.hd,Dp ok i hi,fe.1 hf⟩
 |true=>
  obtain ⟨k,hk,k1,k2,k3⟩:=fe.2 hf;obtain ⟨w,hw,gK⟩:=aS.1 k2;have hh:(c.aa.bv[w]!).2.2.2=(c.io[k]!).2:=by rw [gK]
  have ub:=rB.1 ok.Ge;have before: ∀j,j<k->(c.io[j]!).1≠(c.ai.ce[i]!).1:=fun j hj he=>by have:=ub j k hj hk;omega
  have dl:(c.io.eraseIdx k).length=af5 c.io-1:=BA hk;obtain ⟨L,d1,d2⟩:=yd c.io k hk;refine ⟨⟨c.ci,c.ii,mH c.ai i,ez c.aa w,c.io.eraseIdx k⟩,?_,?_,?_,rfl,rfl,rfl⟩
  · unfold o5
    simp only [rm,ar,show ((0:Int) !=0)=afb from rfl,ol,kO ok,pd.1 k hk k1,lw,au c.io k hk,u6 ok.mS hw ok.mS.fit hh,aT (show k<1000000000 by omega),OW,d1,d2]
  · unfold rZ
    have s1:fP c.io 0 (k:Int)=af9 (c.io.take k):=jO c.io k (by omega)
    have s2:fP c.io ((k+1:Nat):Int) ((af5 c.io):Int)=af9 (c.io.drop (k+1)):=by
     unfold fP;rw [pp ⟨by omega,by omega,by omega⟩]
     simp only [Int.toNat_natCast];rw [List.take_of_length_le (by rw [If];exact EQ _)]
    have tl:(c.io.take k).length=k:=by rw [List.length_take];omega
    have dl2:(c.io.drop (k+1)).length=af5 c.io- (k+1):=If;simp only [jk ok,ar,wo,da.1 k hk k1 before,aF (show (0:Int)<=(k:Int) by omega),lw,au c.io k hk,u7 ok.mS hw hh,s1,ba (show (c.io.take k).length<=1048576 by omega),aT (show k<1000000000 by omega),aA,s2,
     bY (show (c.io.take k).length+(c.io.drop (k+1)).length<=1048576 by omega),sD]
    cases hem:(c.io.drop (k+1)).isEmpty with
    |true=>
     rw [List.isEmpty_iff] at hem;rw [hem,List.append_nil];rfl
    |false=>rfl
  have rem:=CG ok.mS hw
  have Sn:=F9 ok.mS hw;have cW:(ez c.aa w).bv.length=af5 c.aa.bv-1:=by
   have h1:=rem.hl;have h2:=ok.mS.hl;have h3:(ez c.aa w).af=fx c.aa.af (c.aa.bv[w]!).2.2.2:=by unfold ez;split<;>rfl
   rw [h3] at h1;change _+(c.aa.af.bi++[_]).length=(af5 c.aa.af.aB) at h1;rw [v6] at h1;simp only [PP,ae5] at h1;omega
  have al1:(ez c.aa w).aj.length=200:=by
   have h1:=rem.wl;have h3:(ez c.aa w).af=fx c.aa.af (c.aa.bv[w]!).2.2.2:=by unfold ez;split<;>rfl
   rw [h3] at h1;change _=(af5 c.aa.af.aB) at h1;rw [h1,<- ok.mS.wl,ok.JS]
  refine ⟨ok.qv,ok.hU,ok.jS,Gb ok.uu hi,rem,al1,?_,Dp ok i hi,?_⟩
  · show (ez c.aa w).bv.length=(c.io.eraseIdx k).length
    rw [cW,dl,ok.hd]
  refine k3.mono fun x hx e he hm=>(Sn e).2 ⟨hm,fun h=>?_⟩
  have:=(wE ok.wD hi hx).2
  rw [h,gK] at he;exact this he.symm
theorem DH {c:aP} (ok:bn c) {i:Nat} (_hi:i<af5 c.ai.ce) {c':aP} (h:o5 c (c.ai.ce[i]!).1=af9 (c',(c.ai.ce[i]!).2,0)):ru c (c.ai.ce[i]!).1=af9 (c',0):=by
 unfold ru;rw [lL ok.fit,pp ok];simp only [ar,show ((0:Int) !=0)=afb from rfl,ol,h]
abbrev eO:aP:=⟨(0,0),⟨[]⟩,⟨0,[]⟩,⟨⟨[],[],[]⟩,[],[]⟩,[]⟩
theorem JT {l:List Pt} (ok:bC l) {id:Int} (h:fU l id): ¬(gF l id).1<0:=by
 obtain ⟨h1,_⟩:=fa ok h
 have:=h1.1
 omega
theorem ad2 {c:aP} (ok:bn c) {x:Int×Int} (hx:fq x) (hb:jj c.ii.am x) (hn: ¬uj c.ai.ce x):
 (hM c x=af9 (eO,0,18)/\jX c x=af9 (eO,0,18)/\(Bz c.ai\/ ¬wY c.aa.af))\/
 ∃c':aP,hM c x=af9 (c',c.ai.aL,0)/\jX c x=af9 (c',c.ai.aL,0)/\bn c'/\c'.ii=c.ii/\c'.ci=c.ci/\c'.ai=oB c.ai x/\(c'.aa.af=c.aa.af\/c'.aa.af=gn c.aa.af):=by
 have bd:=ok.bd;have n0:=ok.uu.n0;have n1:=ok.uu.n1;have fit:=ok.fit;have ad:=My ok.uu hx;have rd:=JR ok.uu hx;rw [rc hn] at ad rd;have hc:gj c=af9 0:=by rw [lL fit,pp ok]
 have p1:=lK ok.jS x.1;have p2:=lK ok.jS x.2;have q1:=JT ok.jS hb.1;have q2:=JT ok.jS hb.2;have wh:=uo ok.jS hx ok.qv ok.hU;rw [pp hb] at wh;have rw':=uq ok.jS ok.hU hb
 by_cases hf:Bz c.ai
 · rw [pp hf] at ad rd
   left;refine ⟨?_,?_,.inl hf⟩
   · unfold hM dt
     simp only [hc,ar,show ((0:Int) !=0)=afb from rfl,ol,ad,show ((18:Int)==8)=afb from rfl,p1,p2,aC q1,aC q2,show ((18:Int) !=0)=afa from rfl,lw]
   unfold jX
   simp only [rd,ar,show ((18:Int) !=0)=afa from rfl,lw]
 rw [rc hf] at ad rd;have cok:=OY ok.uu hx hn hf;have VJ: ∀j,j<(oB c.ai x).ce.length->jj c.ii.am ((oB c.ai x).ce[j]!).2:=by
  intro j hj;rw [yY] at hj;rw [sE]
  by_cases h:j<af5 c.ai.ce
  · rw [pp h];exact ok.known j h
  rw [rc h,pp (by omega)];exact hb
 have fresh: ∀e∈c.aa.bv,Ev.num e≠c.ai.aL:=by
  intro e he dS;obtain ⟨d,hd,h1⟩:=ok.Au e he;obtain ⟨y,hy,h2,_⟩:=ok.DG.io d hd;obtain ⟨j,hj,rfl⟩:=aS.1 hy
  have:=(ok.uu.nr j hj).2
  omega
 have sn:=ok.DG.snoc (x:=(c.ai.aL,x));cases hw:(bE c.ii.am x c.ci).2 with
 |false=>
  right;refine ⟨⟨c.ci,c.ii,oB c.ai x,c.aa,c.io⟩,?_,?_,⟨ok.qv,ok.hU,ok.jS,cok,ok.mS,ok.JS,ok.hd,VJ,sn.1 hw⟩,rfl,rfl,rfl,.inl rfl⟩
  · unfold hM dt
    simp only [hc,ar,show ((0:Int) !=0)=afb from rfl,ol,ad,show ((0:Int)==8)=afb from rfl,p1,p2,aC q1,aC q2,kO ok,wh,hw]
  unfold jX
  simp only [rd,ar,show ((0:Int) !=0)=afb from rfl,ol,jk ok,rw',hw,ww,lw]
 |true=>
  obtain ⟨t1,t2⟩:=FN (fa ok.jS hb.2).1 (fa ok.jS hb.1).1 ok.hU ok.qv hw
  by_cases op:wY c.aa.af
  · right
    have pu:=uZ ok.mS op ok.mS.fit (t:=(bE c.ii.am x c.ci).1) (n:=c.ai.aL) t1 t2 n0 n1 fresh;have rp:=wZ ok.mS op (t:=(bE c.ii.am x c.ci).1) (n:=c.ai.aL) t1 t2 n0 n1;have pok:=QO ok.mS op (t:=(bE c.ii.am x c.ci).1) (n:=c.ai.aL) t1 t2 n0 n1 fresh
    have Sp:=Mt ok.mS op (t:=(bE c.ii.am x c.ci).1) (n:=c.ai.aL) t1;have al3:=Bw ok.mS op (t:=(bE c.ii.am x c.ci).1) (n:=c.ai.aL) t1;have ap: ∀h:Int×Int,bq c.io [(c.ai.aL,h)]=af9 (c.io++[(c.ai.aL,h)]):=fun h=>bY (by simp;omega)
    have al1:(kx c.aa (bE c.ii.am x c.ci).1 c.ai.aL).aj.length=200:=by
     have:=pok.wl
     change _=(c.aa.af.aB.set _ _).length at this;rw [IR] at this;rw [this,<- ok.mS.wl,ok.JS]
    refine ⟨⟨c.ci,c.ii,oB c.ai x,kx c.aa (bE c.ii.am x c.ci).1 c.ai.aL,c.io++[(c.ai.aL,kv c.aa.af)]⟩,?_,?_,⟨ok.qv,ok.hU,ok.jS,cok,pok,al1,?_,VJ,?_⟩,rfl,rfl,rfl,.inr rfl⟩
    · unfold hM dt
      simp only [hc,ar,show ((0:Int) !=0)=afb from rfl,ol,ad,show ((0:Int)==8)=afb from rfl,p1,p2,aC q1,aC q2,kO ok,wh,hw,lw,pu,ap]
    · unfold jX
      simp only [rd,ar,show ((0:Int) !=0)=afb from rfl,ol,jk ok,rw',hw,Do,pO ok.mS.so,aF op,rp,ap]
    · show (kx c.aa (bE c.ii.am x c.ci).1 c.ai.aL).bv.length=(c.io++[_]).length
      rw [al3,v6,ok.hd];rfl
    have fm:aW c.ii.am c.ci (kx c.aa (bE c.ii.am x c.ci).1 c.ai.aL).bv c.ai.ce c.io:=ok.DG.mono fun y hy e he hm=>(Sp e).2 (.inr hm)
    exact (fm.snoc (x:=(c.ai.aL,x))).2 _ hw rfl ((Sp _).2 (.inl rfl))
  left
  have pu:=u4 ok.mS op ok.mS.fit (t:=(bE c.ii.am x c.ci).1) (n:=c.ai.aL) t1 t2 n0 n1 fresh;refine ⟨?_,?_,.inr op⟩
  · unfold hM dt
    simp only [hc,ar,show ((0:Int) !=0)=afb from rfl,ol,ad,show ((0:Int)==8)=afb from rfl,p1,p2,aC q1,aC q2,kO ok,wh,hw,lw,pu,show ((18:Int) !=0)=afa from rfl]
  unfold jX
  simp only [rd,ar,show ((0:Int) !=0)=afb from rfl,ol,jk ok,rw',hw,Do,pO ok.mS.so,aC op,ww,lw]
theorem Up.inj {cs:List qN} (h:Up cs) {x y:qN} (hx:x∈cs) (hy:y∈cs) (he:x.1=y.1):x=y:=by
 obtain ⟨i,hi,rfl⟩:=aS.1 hx;obtain ⟨j,hj,rfl⟩:=aS.1 hy;have ub:=rB.1 h;rcases F0s i j with h1|h1|h1
 · have:=ub i j h1 hj;omega
 · rw [h1]
 have:=ub j i h1 hi;omega
structure Gf (c:aP) (f:List Pt) (i k:Nat) (a:aM) (ds:List qN):Prop where
 ok:eK a
 w2:(af5 a.aj)=200
 new:aW f c.ci a.bv (c.ai.ce.take i) ds
 old:aW c.ii.am c.ci a.bv (c.ai.ce.drop i) (c.io.drop k)
 kl:k<=af5 c.io
 VK:(af5 a.bv)=af5 ds+(af5 c.io-k)
theorem al4 {a:aM} (ok:eK a) {w:Nat} (hw:w<af5 a.bv):(ez a w).bv.length=af5 a.bv-1/\(ez a w).aj.length=(af5 a.aj):=by
 have rem:=CG ok hw;have h3:(ez a w).af=fx a.af (a.bv[w]!).2.2.2:=by unfold ez;split<;>rfl
 have h1:=rem.hl;have h2:=ok.hl;have h4:=rem.wl;rw [h3] at h1 h4;change _+(a.af.bi++[_]).length=(af5 a.af.aB) at h1;change _=(af5 a.af.aB) at h4;rw [v6] at h1;simp only [PP,ae5] at h1;exact ⟨by omega,by rw [h4,ok.wl]⟩
theorem ad3 {a:aM} {t:Int×Int} {n:Int} (ok:eK a) (pok:eK (kx a t n)):(kx a t n).aj.length=(af5 a.aj):=by
 have:=pok.wl
 change _=(a.af.aB.set _ _).length at this;rw [IR] at this;rw [this,ok.wl]
section
variable {c : aP} (ok : bn c) {f : List Pt} (dE : bC f) (kn : ∀ i, i < (af5 c.ai.ce) -> jj f (c.ai.ce[i]!).2)
include ok
theorem BD {i:Nat} {x:qN} (hx:x∈c.ai.ce.take i) (hi:i<af5 c.ai.ce):x.1≠(c.ai.ce[i]!).1:=by
 obtain ⟨j,h1,h2,rfl⟩:=cf.1 hx
 have:=ok.uu.up j i h1 hi
 omega
theorem BE {i:Nat} {x:qN} (hx:x∈c.ai.ce.drop (i+1)) (hi:i<af5 c.ai.ce):x.1≠(c.ai.ce[i]!).1:=by
 obtain ⟨j,h1,rfl⟩:=aS.1 hx;rw [If] at h1;rw [kN]
 have:=ok.uu.up i (i+1+j) (by omega) (by omega)
 omega
theorem Sq {i k:Nat} {a:aM} {ds:List qN} (inv:Gf c f i k a ds) (hi:i<af5 c.ai.ce) (was:(bE c.ii.am (c.ai.ce[i]!).2 c.ci).2=afb): ∀e∈a.bv,Ev.num e≠(c.ai.ce[i]!).1:=by
 have u1:Up (c.ai.ce.take i):=ok.wD.sublist (List.take_sublist _ _);have u2:Up (c.ai.ce.drop i):=ok.wD.sublist (List.drop_sublist _ _);have d1:=inv.new.up u1;have d2:=inv.old.up u2;have aqG: ∀x∈ds,∀y∈c.io.drop k,x.1<y.1:=by
  intro x hx y hy;obtain ⟨p,hp,h1,_⟩:=inv.new.io x hx;obtain ⟨q,hq,h2,_⟩:=inv.old.io y hy;obtain ⟨m,m1,m2,rfl⟩:=cf.1 hp;obtain ⟨n,n1,rfl⟩:=aS.1 hq;rw [If] at n1;rw [kN] at h2
  have:=ok.uu.up m (i+n) (by omega) (by omega)
  omega
 have nd:((ds++c.io.drop k).map fun x=>x.1).Nodup:=MC (by
  show List.Pairwise _ _;rw [List.pairwise_append];exact ⟨d1,d2,aqG⟩)
 have only:=Dn (H:=a.bv) nd (by rw [aeE,v6,If,inv.VK];exact EQ _) (fun n hn=>by
  obtain ⟨x,hx,rfl⟩:=aem.1 hn;rcases UV.1 hx with hx|hx
  · obtain ⟨p,hp,h1,h2,h3⟩:=inv.new.io x hx
    exact ⟨_,h3,h1.symm⟩
  obtain ⟨p,hp,h1,h2,h3⟩:=inv.old.io x hx
  exact ⟨_,h3,h1.symm⟩)
 intro e he dS;obtain ⟨x,hx,h1⟩:=aem.1 (only e he);rcases UV.1 hx with hx|hx
 · obtain ⟨p,hp,h2,_⟩:=inv.new.io x hx
   exact BD ok hp hi (by rw [<- h2,h1,dS])
 obtain ⟨p,hp,h2,h3,_⟩:=inv.old.io x hx
 have hp':p∈c.ai.ce:=List.mem_of_mem_drop hp
 have:=ok.wD.inj hp' (aY hi) (by rw [<- h2,h1,dS])
 rw [this,was] at h3;cases h3
def Sr (c:aP) (f:List Pt) (i:Nat) (a:aM) (ds:List qN):=
 (c.ai.ce,((af5 c.ai.ce):Int),(i:Int),c.ci.1,c.ci.2,c.ii.am,c.ai.aL,c.ai.ce,c.aa.af.aB,c.aa.af.be,c.aa.af.bi,c.aa.bv,c.aa.aj,c.io,f,(0:Int),(0:Int),(0:Int),c.ci.1,c.ci.2,c.ai.aL,c.ai.ce,a.af.aB,a.af.be,a.af.bi,a.bv,a.aj,f,ds)
def Ss (c:aP) (f:List Pt) (i:Nat) (a:aM) (ds:List qN):=
 ((i:Int),c.ci.1,c.ci.2,c.ii.am,c.ai.aL,c.ai.ce,c.aa.af.aB,c.aa.af.be,c.aa.af.bi,c.aa.bv,c.aa.aj,c.io,f,(0:Int),(0:Int),(0:Int),c.ci.1,c.ci.2,f,c.ai.aL,c.ai.ce,a.af.aB,a.af.be,a.af.bi,a.bv,a.aj,ds)
include dE kn
theorem VL {i k:Nat} {a:aM} {ds:List qN} (inv:Gf c f i k a ds) (hi:i<af5 c.ai.ce) (WB:(af5 ds)<=i):
 (dz (Sr c f i a ds)=af9 (.done (.done (eO,18)))/\cP (Ss c f i a ds)=af9 (.done (eO,18)))\/
 ∃k' a' y8,dz (Sr c f i a ds)=af9 (.next (Sr c f (i+1) a' y8))/\cP (Ss c f i a ds)=af9 (.next (Ss c f (i+1) a' y8))/\Gf c f (i+1) k' a' y8/\af5 y8<=i+1:=by
 have bd:=ok.bd;have e1:afc ((i:Int)<((af5 c.ai.ce):Int))=afa:=aF (by omega)
 have sc:=aT (show i<1000000000 by omega)
 have cg:=au c.ai.ce i hi;have hb:=kn i hi;have wn:=uo dE (x:=(c.ai.ce[i]!).2) (t:=(c.ci.1,c.ci.2)) (ok.uu.cv i hi) ok.qv ok.hU;rw [pp hb] at wn;have wr:=uq dE (x:=(c.ai.ce[i]!).2) (t:=(c.ci.1,c.ci.2)) ok.hU hb;have pd:=Ia ok.Ge (by omega) (c.ai.ce[i]!).1
 have da:=MD c (c.ai.ce[i]!).1 (by omega)
 have dr:=rL hi;have tk:=ew hi;have old:=inv.old;rw [dr] at old;have ME:aM.mk (bc.mk a.af.aB a.af.be a.af.bi) a.bv a.aj=a:=rfl
 have xe:(aP.mk (c.ci.1,c.ci.2) (Field.mk c.ii.am) (bG.mk c.ai.aL c.ai.ce) (aM.mk (bc.mk c.aa.af.aB c.aa.af.be c.aa.af.bi) c.aa.bv c.aa.aj) c.io)=c:=rfl;have other: ∀x∈c.ai.ce.take i,x.1≠(c.ai.ce[i]!).1:=fun x hx=>BD ok hx hi
 have VM: ∀x∈c.ai.ce.drop (i+1),x.1≠(c.ai.ce[i]!).1:=fun x hx=>BE ok hx hi
 cases ad4:(bE c.ii.am (c.ai.ce[i]!).2 c.ci).2 with
 |true=>
  obtain ⟨d,y8,hd1,hd2,hd3,hd4⟩:=(aW.ig ad4).1 old;have hk:k<(af5 c.io):=by
   refine AC fun h=>?_
   rw [List.drop_eq_nil_of_le (by omega)] at hd1
   cases hd1
  have dk:=rL hk;rw [dk] at hd1;injection hd1 with hd5 hd6;subst hd5 hd6;obtain ⟨w,hw,gK⟩:=aS.1 hd3;have hh:(a.bv[w]!).2.2.2=(c.io[k]!).2:=by rw [gK]
  have aqH:Ev.num a.bv[w]! =(c.ai.ce[i]!).1:=by rw [gK]
  have before: ∀j,j<k->(c.io[j]!).1≠(c.ai.ce[i]!).1:=fun j hj he=>by
   have:=rB.1 ok.Ge j k hj hk
   omega
  have pl:=pd.1 k hk hd2;have dq:=da.1 k hk hd2 before;have gk:=au c.io k hk;have k0:afc ((0:Int)<=(k:Int))=afa:=aF (by omega)
  have ap:bq ds [c.io[k]!]=af9 (ds++[c.io[k]!]):=bY (by simp;omega)
  cases MF:(bE f (c.ai.ce[i]!).2 c.ci).2 with
  |true=>
   right;have tt:cE (bE f (c.ai.ce[i]!).2 c.ci).1/\oM (bE f (c.ai.ce[i]!).2 c.ci).1:=FN (fa dE hb.2).1 (fa dE hb.1).1 ok.hU ok.qv MF;obtain ⟨t1,t2⟩:=tt;have re:=DF inv.ok inv.ok.fit (t:=(bE f (c.ai.ce[i]!).2 c.ci).1) hw hh t1 t2;have rr:=CF inv.ok (t:=(bE f (c.ai.ce[i]!).2 c.ci).1) hw hh t1 t2
   have rok:=VD inv.ok hw t1 t2;have Sn:=Sm inv.ok hw t1;have VN:=CE inv.ok hw t1;have stay: ∀(cs:List qN),(∀x∈cs,x.1≠(c.ai.ce[i]!).1)-> ∀x∈cs,∀e:Ev,e.num=x.1->e∈a.bv->e∈(jx a w (bE f (c.ai.ce[i]!).2 c.ci).1).bv:=by
    intro cs mL x hx e he hm;refine (Sn e).2 (.inr ⟨hm,fun h=>mL x hx ?_⟩)
    rw [<- he,h,aqH]
   refine ⟨k+1,jx a w (bE f (c.ai.ce[i]!).2 c.ci).1,ds++[c.io[k]!],?_,?_,⟨rok,by rw [VN.2];exact inv.w2,?_,?_,by omega,?_⟩,by simp;omega⟩
   · unfold dz Sr
     simp only [e1,lw,cg,ar,wn,pl,MF,gk,ME,re,ap,show ((0:Int) !=0)=afb from rfl,ol,sc]
   · unfold cP Ss
     simp only [aA,e1,lw,cg,ar,xe,dq,wr,MF,k0,gk,ME,rr,ap,Do,ol,sc]
   · rw [tk]
     exact ((inv.new.mono (stay _ other)).snoc (x:=c.ai.ce[i]!)).2 _ MF hd2 ((Sn _).2 (.inl (by
      show _=((bE f (c.ai.ce[i]!).2 c.ci).1.1,(bE f (c.ai.ce[i]!).2 c.ci).1.2,(a.bv[w]!).2.2);rw [gK])))
   · exact hd4.mono (stay _ VM)
   rw [VN.1,inv.VK,v6]
   simp only [PP,ae5];omega
  |false=>
   right;have rv:=u6 inv.ok hw inv.ok.fit hh;have rr:=u7 inv.ok hw hh;have rok:=CG inv.ok hw;have Sn:=F9 inv.ok hw;have VN:=al4 inv.ok hw;have stay: ∀(cs:List qN),(∀x∈cs,x.1≠(c.ai.ce[i]!).1)-> ∀x∈cs,∀e:Ev,e.num=x.1->e∈a.bv->e∈(ez a w).bv:=by
    intro cs mL x hx e he hm;refine (Sn e).2 ⟨hm,fun h=>mL x hx ?_⟩
    rw [<- he,h,aqH]
   refine ⟨k+1,ez a w,ds,?_,?_,⟨rok,by rw [VN.2];exact inv.w2,?_,hd4.mono (stay _ VM),by omega,?_⟩,by omega⟩
   · unfold dz Sr
     simp only [e1,lw,cg,ar,wn,pl,MF,gk,ME,rv,show ((0:Int) !=0)=afb from rfl,ol,sc]
   · unfold cP Ss
     simp only [aA,e1,lw,cg,ar,xe,dq,wr,MF,k0,gk,ME,rr,ww,ol,sc]
   · rw [tk]
     exact ((inv.new.mono (stay _ other)).snoc (x:=c.ai.ce[i]!)).1 MF
   have:=inv.VK
   rw [VN.1];omega
 |false=>
  have DG:=(aW.fV ad4).1 old;have no: ∀j,j<af5 c.io->(c.io[j]!).1≠(c.ai.ce[i]!).1:=by
   intro j hj he;obtain ⟨x,hx,h1,h2,_⟩:=ok.DG.io _ (aY hj)
   have:=ok.wD.inj hx (aY hi) (by rw [<- h1,he])
   rw [this,ad4] at h2;cases h2
  obtain ⟨m,pl⟩:=pd.2 no;have dq:=da.2 no;have k0:afc ((0:Int)<= -1)=afb:=aC (by omega)
  cases MF:(bE f (c.ai.ce[i]!).2 c.ci).2 with
  |true=>
   have tt:cE (bE f (c.ai.ce[i]!).2 c.ci).1/\oM (bE f (c.ai.ce[i]!).2 c.ci).1:=FN (fa dE hb.2).1 (fa dE hb.1).1 ok.hU ok.qv MF;obtain ⟨t1,t2⟩:=tt;have n0:=(ok.uu.nr i hi).1;have n1:(c.ai.ce[i]!).1<=1000000:=by have:=(ok.uu.nr i hi).2;have:=ok.uu.n1;omega
   have fresh:=Sq ok inv hi ad4
   by_cases op:wY a.af
   · right
     have pu:=uZ inv.ok op inv.ok.fit (t:=(bE f (c.ai.ce[i]!).2 c.ci).1) (n:=(c.ai.ce[i]!).1) t1 t2 n0 n1 fresh;have rp:=wZ inv.ok op (t:=(bE f (c.ai.ce[i]!).2 c.ci).1) (n:=(c.ai.ce[i]!).1) t1 t2 n0 n1;have pok:=QO inv.ok op (t:=(bE f (c.ai.ce[i]!).2 c.ci).1) (n:=(c.ai.ce[i]!).1) t1 t2 n0 n1 fresh
     have Sp:=Mt inv.ok op (t:=(bE f (c.ai.ce[i]!).2 c.ci).1) (n:=(c.ai.ce[i]!).1) t1;have al3:=Bw inv.ok op (t:=(bE f (c.ai.ce[i]!).2 c.ci).1) (n:=(c.ai.ce[i]!).1) t1;have ap: ∀h:Int×Int,bq ds [((c.ai.ce[i]!).1,h)]=af9 (ds++[((c.ai.ce[i]!).1,h)]):=fun h=>bY (by simp;omega)
     have opn:=pO inv.ok.so;rw [aF op] at opn;refine ⟨k,kx a (bE f (c.ai.ce[i]!).2 c.ci).1 (c.ai.ce[i]!).1,ds++[((c.ai.ce[i]!).1,kv a.af)],?_,?_,⟨pok,by rw [ad3 inv.ok pok];exact inv.w2,?_,?_,inv.kl,?_⟩,by simp;omega⟩
     · unfold dz Sr
       simp only [e1,lw,cg,ar,wn,pl,MF,ME,pu,ap,show ((0:Int) !=0)=afb from rfl,ol,sc]
     · unfold cP Ss
       simp only [aA,e1,lw,cg,ar,xe,dq,wr,MF,k0,ME,rp,ap,Do,ol,sc,opn]
     · rw [tk]
       exact ((inv.new.mono fun x hx e he hm=>(Sp e).2 (.inr hm)).snoc (x:=c.ai.ce[i]!)).2 _ MF rfl ((Sp _).2 (.inl rfl))
     · exact DG.mono fun x hx e he hm=>(Sp e).2 (.inr hm)
     have:=inv.VK
     rw [al3,v6];simp only [PP,ae5];omega
   left
   have pu:=u4 inv.ok op inv.ok.fit (t:=(bE f (c.ai.ce[i]!).2 c.ci).1) (n:=(c.ai.ce[i]!).1) t1 t2 n0 n1 fresh;have ap: ∀h:Int×Int,bq ds [((c.ai.ce[i]!).1,h)]=af9 (ds++[((c.ai.ce[i]!).1,h)]):=fun h=>bY (by simp;omega)
   have opn:=pO inv.ok.so;rw [aC op] at opn;constructor
   · unfold dz Sr
     simp only [e1,lw,cg,ar,wn,pl,MF,ME,pu,ap,show ((18:Int) !=0)=afa from rfl,ol]
   unfold cP Ss
   simp only [aA,e1,lw,cg,ar,xe,dq,wr,MF,k0,ME,Do,ww,ol,opn]
  |false=>
   right;refine ⟨k,a,ds,?_,?_,⟨inv.ok,inv.w2,?_,DG,inv.kl,inv.VK⟩,by omega⟩
   · unfold dz Sr
     simp only [e1,lw,cg,ar,wn,pl,MF,show ((0:Int) !=0)=afb from rfl,ol,sc]
   · unfold cP Ss
     simp only [aA,e1,lw,cg,ar,xe,dq,wr,MF,k0,ww,ol,sc]
   rw [tk]
   exact (inv.new.snoc (x:=c.ai.ce[i]!)).1 MF
theorem aqJ:
 (nv c ⟨f⟩=af9 (eO,18)/\kJ c ⟨f⟩=af9 (eO,18))\/
 ∃c':aP,nv c ⟨f⟩=af9 (c',0)/\kJ c ⟨f⟩=af9 (c',0)/\bn c'/\c'.ii.am=f/\c'.ci=c.ci/\c'.ai=c.ai:=by
 have bd:=ok.bd;have f64:=dE.1;have run: ∀(d i k:Nat) (a:aM) (ds:List qN),af5 c.ai.ce-i<=d->i<=af5 c.ai.ce->Gf c f i k a ds->af5 ds<=i->
  (ax dz (Sr c f i a ds)=af9 (.done (eO,18))/\ax cP (Ss c f i a ds)=af9 (eO,18))\/
  ∃c':aP,ax dz (Sr c f i a ds)=af9 (.done (c',0))/\ax cP (Ss c f i a ds)=af9 (c',0)/\bn c'/\c'.ii.am=f/\c'.ci=c.ci/\c'.ai=c.ai:=by
  have fin: ∀(k:Nat) (a:aM) (ds:List qN),Gf c f (af5 c.ai.ce) k a ds-> ∃c':aP,ax dz (Sr c f (af5 c.ai.ce) a ds)=af9 (.done (c',0))/\ax cP (Ss c f (af5 c.ai.ce) a ds)=af9 (c',0)/\bn c'/\c'.ii.am=f/\c'.ci=c.ci/\c'.ai=c.ai:=by
   intro k a ds inv;have e1:afc (((af5 c.ai.ce):Int)<((af5 c.ai.ce):Int))=afb:=aC (by omega)
   have hk:(af5 c.io)-k=0:=by
    have:=inv.old
    rw [aeu] at this
    have:c.io.drop k=[]:=this
    rw [List.drop_eq_nil_iff] at this;omega
   have new:=inv.new;rw [List.take_length] at new;refine ⟨⟨c.ci,⟨f⟩,c.ai,a,ds⟩,aJ ?_,aJ ?_,⟨ok.qv,ok.hU,dE,ok.uu,inv.ok,inv.w2,?_,kn,new⟩,rfl,rfl,rfl⟩
   · unfold dz Sr
     simp only [e1,ol]
   · unfold cP Ss
     simp only [aA,e1,ol]
   have:=inv.VK
   show (af5 a.bv)=af5 ds;omega
  intro d
  induction d with
  |zero=>
   intro i k a ds hd hi inv WB
   have:i=(af5 c.ai.ce):=by omega
   subst this;exact .inr (fin k a ds inv)
  |succ d ih=>
   intro i k a ds hd hi inv WB
   by_cases he:i=af5 c.ai.ce
   · subst he;exact .inr (fin k a ds inv)
   rcases VL ok dE kn inv (by omega) WB with ⟨h1,h2⟩|⟨k',a',y8,h1,h2,h3,h4⟩
   · exact .inl ⟨aJ h1,aJ h2⟩
   rw [aZ h1,aZ h2]
   exact ih (i+1) k' a' y8 (by omega) (by omega) h3 h4
 have start:=run (af5 c.ai.ce) 0 0 c.aa [] (by omega) (by omega) ⟨ok.mS,ok.JS,rfl,by rw [aet,aet];exact ok.DG,by omega,by have:=ok.hd;simp;omega⟩ (by simp)
 have hc:gj c=af9 0:=by rw [lL ok.fit,pp ok]
 have hf:dQ ⟨f⟩=af9 0:=by rw [gm];exact congrArg af9 (fo.2 dE)
 have tw:=kO ok;have tw':lG (aP.mk (c.ci.1,c.ci.2) (Field.mk c.ii.am) (bG.mk c.ai.aL c.ai.ce) (aM.mk (bc.mk c.aa.af.aB c.aa.af.be c.aa.af.bi) c.aa.bv c.aa.aj) c.io)=af9 c:=tw
 have first:ax jH (c.ai.ce,((af5 c.ai.ce):Int),0,c.ci.1,c.ci.2,c.ii.am,c.ai.aL,c.ai.ce,c.aa.af.aB,c.aa.af.be,c.aa.af.bi,c.aa.bv,c.aa.aj,c.io,f,0,0,0)=
  ax jH (c.ai.ce,((af5 c.ai.ce):Int),((af5 c.ai.ce):Int),c.ci.1,c.ci.2,c.ii.am,c.ai.aL,c.ai.ce,c.aa.af.aB,c.aa.af.be,c.aa.af.bi,c.aa.bv,c.aa.aj,c.io,f,0,0,0):=by
  refine cz (body:=jH) (fun i=>(c.ai.ce,((af5 c.ai.ce):Int),(i:Int),c.ci.1,c.ci.2,c.ii.am,c.ai.aL,c.ai.ce,c.aa.af.aB,c.aa.af.be,c.aa.af.bi,c.aa.bv,c.aa.aj,c.io,f,0,0,0)) (af5 c.ai.ce) (fun i hi=>?_)
  have e1:afc ((i:Int)<((af5 c.ai.ce):Int))=afa:=aF (by omega)
  unfold jH;simp only [e1,lw,au c.ai.ce i hi,ar,lK dE,aC (JT dE (kn i hi).1),aC (JT dE (kn i hi).2),ol,aT (show i<1000000000 by omega)]
 have VO: ∀r,ax dz (Sr c f 0 c.aa [])=af9 (.done r)->nv c ⟨f⟩=af9 r:=by
  intro r hr;unfold nv;simp only [hc,ar,show ((0:Int) !=0)=afb from rfl,ol,hf,aA];rw [first]
  refine aJ ?_;unfold jH;have e1:afc (((af5 c.ai.ce):Int)<((af5 c.ai.ce):Int))=afb:=aC (by omega)
  simp only [aA,e1,ol,tw',ar,ba (show (af5 f)<=1048576 by omega)]
  exact hr
 have afl: ∀r,ax cP (Ss c f 0 c.aa [])=af9 r->kJ c ⟨f⟩=af9 r:=by
  intro r hr;unfold kJ mQ;simp only [jk ok,ar,ba (show (af5 f)<=1048576 by omega)]
  exact hr
 rcases start with ⟨h1,h2⟩|⟨c',h1,h2,h3⟩
 · exact .inl ⟨VO _ h1,afl _ h2⟩
 exact .inr ⟨c',VO _ h1,afl _ h2,h3⟩
end
theorem mw (l:List (Int×Int)) (x:Int×Int) (hl:(af5 l)<=1000000):eh l x=af9 (afc (x∈l)):=by
 unfold eh oe;have key:=hO (body:=iX) (fun i=>(l,((af5 l):Int),(i:Int),x)) (af5 l) (fun i=>l[i]! =x) (fun i=>(i:Int)) (e:= -1) (fun i hi=>by
  have e1:afc ((i:Int)<((af5 l):Int))=afa:=aF (by omega)
  unfold iX;simp only [e1,lw,au l i hi,ar,aT (show i<1000000000 by omega)]
  generalize l[i]! =y;constructor
  · intro h;rw [eu (congrArg af3 h.symm),eu (congrArg Prod.snd h.symm)];rfl
  · intro h
    by_cases h1:x.1=y.1
    · rw [eu h1,dR (fun h2=>h (aeH h1.symm h2.symm))];rfl
    rw [dR h1];rfl) (by
  unfold iX
  have:afc (((af5 l):Int)<((af5 l):Int))=afb:=aC (by omega)
  simp only [this,ol])
 rw [aA]
 by_cases hx:x∈l
 · obtain ⟨i,hi,he⟩:=aS.1 hx
   obtain ⟨k,h1,h2,h3⟩:=least (c:=fun i=>l[i]! =x) ⟨i,hi,he⟩
   have:=key.1 k h1 h2 h3
   rw [show ((0:Nat):Int)=0 from rfl] at this;rw [this,aF hx];simp only [ar,aF (show (0:Int)<=(k:Int) by omega)]
 have:=key.2 fun i hi he=>hx (aS.2 ⟨i,hi,he⟩)
 rw [show ((0:Nat):Int)=0 from rfl] at this;rw [this,aC hx];rfl
theorem Dq (l:List (Int×Int)) (x:Int×Int) (hl:(af5 l)<=1000000):Bp l x=af9 (afc (x∈l)):=by
 unfold Bp;have key:=dh (body:=tc) (fun i=>(l,(i:Int),x)) (af5 l) (fun i=>l[i]! =x) (r:=afa) (e:=afb) (fun i hi=>by
  have e1:afc ((i:Int)<((af5 l):Int))=afa:=aF (by omega)
  unfold tc;simp only [aA,e1,lw,au l i hi,ar,aT (show i<1000000000 by omega)]
  generalize l[i]! =y;constructor
  · intro h;rw [eu (congrArg af3 h),eu (congrArg Prod.snd h)];rfl
  · intro h
    by_cases h1:y.1=x.1
    · rw [eu h1,dR (fun h2=>h (aeH h1 h2))];rfl
    rw [dR h1];rfl) (by
  unfold tc
  have:afc (((af5 l):Int)<((af5 l):Int))=afb:=aC (by omega)
  simp only [aA,this,ol])
 by_cases hx:x∈l
 · rw [aF hx];exact key.1 (aS.1 hx)
 rw [aC hx];exact key.2 fun i hi he=>hx (aS.2 ⟨i,hi,he⟩)
theorem VP (x y:qN):((x.1==y.1)&&((x.2.1==y.2.1)&&(x.2.2==y.2.2)))=afc (x=y):=by
 rw [Bool.eq_iff_iff,decide_eq_true_iff];simp only [Bool.and_eq_true,beq_iff_eq];constructor
 · rintro ⟨h1,h2,h3⟩;exact aeH h1 (aeH h2 h3)
 rintro rfl;exact ⟨rfl,rfl,rfl⟩
theorem MG (a b:List qN) (hl:(af5 a)<=1000000):vU ⟨a⟩ ⟨b⟩=af9 (afc (a=b)):=by
 unfold vU;simp only [aA]
 by_cases h:(af5 a)=af5 b
 case neg=>rw [cC (by omega),aC (fun k=>h (by rw [k]))];rfl
 rw [bo (by omega)]
 simp only [ol];have key:=dh (body:=pD) (fun i=>((i:Int),a,b)) (af5 a) (fun i=> ¬a[i]! =b[i]!) (r:=afb) (e:=afa) (fun i hi=>by
  have e1:afc ((i:Int)<((af5 a):Int))=afa:=aF (by omega)
  unfold pD;simp only [aA,e1,lw,au a i hi,au b i (by omega),ar,aT (show i<1000000000 by omega),VP]
  constructor
  · intro h;rw [aC h];rfl
  · intro h;rw [aF (M2.1 h)];rfl) (by
  unfold pD
  have:afc (((af5 a):Int)<((af5 a):Int))=afb:=aC (by omega)
  simp only [aA,this,ol])
 by_cases he:a=b
 · rw [aF he]
   exact key.2 fun i hi=>M2.2 (by rw [he])
 rw [aC he]
 refine key.1 (AC fun hx=>he (qu h fun i hi=>?_))
 exact AC fun hn=>hx ⟨i,hi,hn⟩
theorem JU (a b:List qN) (hl:(af5 a)<=1000000):kr a b=af9 (afc (a=b)):=by
 unfold kr;simp only [aA]
 by_cases h:(af5 a)=af5 b
 case neg=>rw [cC (by omega),aC (fun k=>h (by rw [k]))];rfl
 rw [bo (by omega)]
 simp only [ol];have key:=dh (body:=iE) (fun i=>(a,b,((af5 a):Int),(i:Int))) (af5 a) (fun i=> ¬a[i]! =b[i]!) (r:=afb) (e:=afa) (fun i hi=>by
  have e1:afc ((i:Int)<((af5 a):Int))=afa:=aF (by omega)
  unfold iE;simp only [e1,lw,au a i hi,au b i (by omega),ar,aT (show i<1000000000 by omega),VP]
  constructor
  · intro h;rw [aC h];rfl
  · intro h;rw [aF (M2.1 h)];rfl) (by
  unfold iE
  have:afc (((af5 a):Int)<((af5 a):Int))=afb:=aC (by omega)
  simp only [this,ol])
 by_cases he:a=b
 · rw [aF he]
   exact key.2 fun i hi=>M2.2 (by rw [he])
 rw [aC he]
 refine key.1 (AC fun hx=>he (qu h fun i hi=>?_))
 exact AC fun hn=>hx ⟨i,hi,hn⟩
theorem Su {cs:List qN} {m:Nat} {x:qN} (hx:x∈cs) (dS:x.1≠(cs[m]!).1):x∈cs.eraseIdx m:=by
 obtain ⟨j,hj,rfl⟩:=aS.1 hx;have hjm:j≠m:=fun h=>dS (by rw [h])
 rw [sD,UV]
 by_cases h:j<m
 · exact .inl (cf.2 ⟨j,h,hj,rfl⟩)
 right
 rw [aS];refine ⟨j- (m+1),by rw [If];omega,?_⟩
 rw [kN]
 congr 1;omega
def kP (c0:aP) (f:List Pt) (es:List (Int×Int)) (i:Nat) (c:aP):=
 (es,c0.ai.ce,((af5 c0.ai.ce):Int),(i:Int),c.ci.1,c.ci.2,c.ii.am,c.ai.aL,c.ai.ce,c.aa.af.aB,c.aa.af.be,c.aa.af.bi,c.aa.bv,c.aa.aj,c.io,f,(0:Int),(0:Int),(0:Int))
def kR (c0:aP) (f:List Pt) (es:List (Int×Int)) (i:Nat) (c:aP):=
 (es,(i:Int),c0.ci.1,c0.ci.2,c0.ii.am,c0.ai.aL,c0.ai.ce,c0.aa.af.aB,c0.aa.af.be,c0.aa.af.bi,c0.aa.bv,c0.aa.aj,c0.io,f,(0:Int),(0:Int),(0:Int),c.ci.1,c.ci.2,c.ii.am,c.ai.aL,c.ai.ce,c.aa.af.aB,c.aa.af.be,c.aa.af.bi,c.aa.bv,c.aa.aj,c.io)
def eP (es:List (Int×Int)) (i:Nat) (c:aP):=
 (es,((af5 es):Int),(i:Int),c.ci.1,c.ci.2,c.ii.am,c.ai.aL,c.ai.ce,c.aa.af.aB,c.aa.af.be,c.aa.af.bi,c.aa.bv,c.aa.aj,c.io,(0:Int),(0:Int),(0:Int))
def eR (es:List (Int×Int)) (i:Nat) (c:aP):=
 (es,(i:Int),(0:Int),(0:Int),(0:Int),c.ci.1,c.ci.2,c.ii.am,c.ai.aL,c.ai.ce,c.aa.af.aB,c.aa.af.be,c.aa.af.bi,c.aa.bv,c.aa.aj,c.io)
def BF (c:aP):Int:=c.ai.aL- ((af5 c.ai.ce):Int)
structure Gg (c:aP) (f:List Pt) (es:List (Int×Int)) (r:aP):Prop where
 has: ∀e∈es,uj r.ai.ce e
 sub: ∀x∈r.ai.ce,x.2∈es
 ok:bn r
 jS:r.ii.am=f
 ci:r.ci=c.ci
 room:BF c<=BF r
def Roomy (c:aP) (k:Nat):Prop:=af5 c.ai.ce<=k/\c.ai.aL<=k/\ ∀j,j<af5 c.aa.af.aB->c.aa.af.aB[j]!<=k
theorem aW.len {l:List Pt} {t:Int×Int} {H:List Ev}: ∀{cs ds:List qN},aW l t H cs ds->af5 ds<=af5 cs
 | [],ds,h=>by rw [show ds=[] from h];exact EQ _
 |x::cs,ds,h=>by
  cases hy:(bE l x.2 t).2 with
  |true=>
   obtain ⟨d,y8,rfl,_,_,h4⟩:=h.1 hy;exact Nat.succ_le_succ h4.len
  |false=>exact Nat.le_succ_of_le (h.2 hy).len
theorem Roomy.VQ {c:aP} (ok:bn c) {k:Nat} (h:Roomy c k) (hk:k<=199): ¬(Bz c.ai\/ ¬wY c.aa.af):=by
 obtain ⟨h1,h2,h3⟩:=h;have fl:=ok.DG.len;have hd:=ok.hd;have hl:=ok.mS.hl;have wl:=ok.mS.wl;have w2:=ok.JS;rintro (h|h)
 · rcases h with h|h<;>omega
 refine h ⟨by omega,?_⟩
 have:=h3 _ (yT ok.mS.so (by omega)).1
 omega
theorem Roomy.more {c c':aP} {k:Nat} (h:Roomy c k) {x:Int×Int} (hc:c'.ai=oB c.ai x) (hs:c'.aa.af=c.aa.af\/c'.aa.af=gn c.aa.af):Roomy c' (k+1):=by
 obtain ⟨h1,h2,h3⟩:=h;refine ⟨?_,?_,fun j hj=>?_⟩
 · rw [hc]
   show (c.ai.ce++[(c.ai.aL,x)]).length<=_;rw [v6,ae0];omega
 · rw [hc]
   show c.ai.aL+1<=_;omega
 rcases hs with e|e
 · rw [e] at hj ⊢
   have:=h3 j hj;omega
 rw [e] at hj ⊢
 change j<(c.aa.af.aB.set _ _).length at hj;rw [IR] at hj;show (c.aa.af.aB.set (c7 c.aa.af) (c.aa.af.aB[c7 c.aa.af]!+1))[j]!<=_;rw [aU];split
 · rename_i h;have:=h3 _ h.2;omega
 have:=h3 j hj;omega
structure BG (f:List Pt) (es:List (Int×Int)):Prop where
 len:(af5 es)<=1000000
 cv: ∀x∈es,fq x
 kn: ∀x∈es,jj f x
theorem VS {c0:aP} (ok0:bn c0) {f:List Pt} {es:List (Int×Int)} (JV:BG f es):
 ∀(d i:Nat) (c:aP),af5 c0.ai.ce-i<=d->i<=af5 c0.ai.ce->bn c->(∀x∈c0.ai.ce.drop i,x∈c.ai.ce)->(∀x∈c.ai.ce,x∈c0.ai.ce.drop i\/x.2∈es)->
  ∃c':aP,ax ei (kP c0 f es i c)=ax ei (kP c0 f es (af5 c0.ai.ce) c')/\ax dy (kR c0 f es i c)=ax dy (kR c0 f es (af5 c0.ai.ce) c')/\bn c'/\(∀x∈c'.ai.ce,x.2∈es)/\c'.ii=c.ii/\c'.ci=c.ci/\BF c<=BF c':=by
 have bd:=ok0.bd;intro d
 induction d with
 |zero=>
  intro i c hd hi ok h1 h2
  have:i=(af5 c0.ai.ce):=by omega
  subst this;refine ⟨c,rfl,rfl,ok,fun x hx=>?_,rfl,rfl,aew _⟩
  rcases h2 x hx with h|h
  · rw [aeu] at h;cases h
  exact h
 |succ d ih=>
  intro i c hd hi ok h1 h2
  by_cases he:i=af5 c0.ai.ce
  · subst he
    refine ⟨c,rfl,rfl,ok,fun x hx=>?_,rfl,rfl,aew _⟩
    rcases h2 x hx with h|h
    · rw [aeu] at h;cases h
    exact h
  have sJ:i<(af5 c0.ai.ce):=by omega
  have e1:afc ((i:Int)<((af5 c0.ai.ce):Int))=afa:=aF (by omega)
  have sc:=aT (show i<1000000000 by omega)
  have cg:=au c0.ai.ce i sJ;have dr:=rL sJ;have xe:(aP.mk (c.ci.1,c.ci.2) (Field.mk c.ii.am) (bG.mk c.ai.aL c.ai.ce) (aM.mk (bc.mk c.aa.af.aB c.aa.af.be c.aa.af.bi) c.aa.bv c.aa.aj) c.io)=c:=rfl
  by_cases vv:(c0.ai.ce[i]!).2∈es
  · have s1:ei (kP c0 f es i c)=af9 (.next (kP c0 f es (i+1) c)):=by
     unfold ei kP;simp only [e1,lw,cg,ar,mw _ _ JV.len,aF vv,Do,ol,sc]
    have s2:dy (kR c0 f es i c)=af9 (.next (kR c0 f es (i+1) c)):=by
     unfold dy kR;simp only [aA,e1,lw,cg,ar,Dq _ _ JV.len,aF vv,Do,ol,sc]
    rw [aZ s1,aZ s2];refine ih (i+1) c (by omega) (by omega) ok (fun x hx=>h1 x (by rw [dr];exact ut _ hx)) (fun x hx=>?_)
    rcases h2 x hx with h|h
    · rw [dr] at h
      rcases af0.1 h with rfl|h
      · exact .inr vv
      exact .inl h
    exact .inr h
  have hm:=h1 (c0.ai.ce[i]!) (by rw [dr];exact acK)
  obtain ⟨m,hm1,Tb⟩:=aS.1 hm;obtain ⟨c',r1,r2,r3,r4,r5,r6⟩:=al0 ok hm1;have rt:=DH ok hm1 r1;rw [Tb] at r2 rt;have s1:ei (kP c0 f es i c)=af9 (.next (kP c0 f es (i+1) c')):=by
   unfold ei kP;simp only [e1,lw,cg,ar,mw _ _ JV.len,aC vv,ww,sc,xe,rt]
  have s2:dy (kR c0 f es i c)=af9 (.next (kR c0 f es (i+1) c')):=by
   unfold dy kR;simp only [aA,e1,lw,cg,ar,Dq _ _ JV.len,aC vv,ww,sc,xe,r2]
  rw [aZ s1,aZ s2];have cl:c'.ai.ce=c.ai.ce.eraseIdx m:=by rw [r6];rfl
  have sV:BF c<=BF c':=by
   unfold BF;rw [r6];show _<=c.ai.aL- (((c.ai.ce.eraseIdx m).length:Nat):Int);rw [List.length_eraseIdx_of_lt hm1];omega
  have hs:(∀x∈c0.ai.ce.drop (i+1),x∈c'.ai.ce)/\(∀x∈c'.ai.ce,x∈c0.ai.ce.drop (i+1)\/x.2∈es):=by
   refine ⟨fun x hx=>?_,fun x hx=>?_⟩
   · rw [cl]
     refine Su (h1 x (by rw [dr];exact ut _ hx)) ?_
     rw [Tb];exact BE ok0 hx sJ
   rw [cl] at hx
   obtain ⟨a1,a2⟩:=wE ok.wD hm1 hx;rw [Tb] at a2;rcases h2 x a1 with h|h
   · rw [dr] at h
     rcases af0.1 h with rfl|h
     · exact absurd rfl a2
     exact .inl h
   exact .inr h
  obtain ⟨d',q1,q2,q3,q4,q5,q6,q7⟩:=ih (i+1) c' (by omega) (by omega) r3 hs.1 hs.2
  exact ⟨d',q1,q2,q3,q4,q5.trans r4,q6.trans r5,by omega⟩
theorem MH {f:List Pt} (_fok:bC f) {es:List (Int×Int)} (JV:BG f es):
 ∀(d i:Nat) (c:aP),af5 es-i<=d->i<=af5 es->bn c->c.ii.am=f->(∀x∈c.ai.ce,x.2∈es)->(∀j,j<i->uj c.ai.ce es[j]!)->
  ∃r:aP×Int,ax eV (eP es i c)=af9 (.done r)/\ax dO (eR es i c)=af9 (.done r)/\(r.2=0/\Gg c f es r.1\/r=(eO,18))/\(∀k,Roomy c k->k+(af5 es-i)<=199->r.2=0):=by
 have el:=JV.len;have fin: ∀c:aP,bn c->c.ii.am=f->(∀x∈c.ai.ce,x.2∈es)->(∀j,j<af5 es->uj c.ai.ce es[j]!)-> ∃r:aP×Int,ax eV (eP es (af5 es) c)=af9 (.done r)/\ax dO (eR es (af5 es) c)=af9 (.done r)/\(r.2=0/\Gg c f es r.1\/r=(eO,18))/\r.2=0:=by
  intro c ok hf hs hh;have e1:afc (((af5 es):Int)<((af5 es):Int))=afb:=aC (by omega)
  refine ⟨(c,0),aJ ?_,aJ ?_,.inl ⟨rfl,fun e he=>by obtain ⟨j,hj,q⟩:=aS.1 he;rw [<- q];exact hh j hj,hs,ok,hf,rfl,aew _⟩,rfl⟩
  · unfold eV eP
    simp only [e1,ol]
  unfold dO eR
  simp only [aA,e1,ol]
 intro d
 induction d with
 |zero=>
  intro i c hd hi ok hf hs hh
  have:i=(af5 es):=by omega
  subst this;obtain ⟨r,q1,q2,q3,q4⟩:=fin c ok hf hs hh;exact ⟨r,q1,q2,q3,fun _ _ _=>q4⟩
 |succ d ih=>
  intro i c hd hi ok hf hs hh
  by_cases he:i=af5 es
  · subst he
    obtain ⟨r,q1,q2,q3,q4⟩:=fin c ok hf hs hh;exact ⟨r,q1,q2,q3,fun _ _ _=>q4⟩
  have bd:=ok.bd;have sJ:i<(af5 es):=by omega
  have e1:afc ((i:Int)<((af5 es):Int))=afa:=aF (by omega)
  have sc:=aT (show i<1000000000 by omega)
  have cg:=au es i sJ;have xe:(aP.mk (c.ci.1,c.ci.2) (Field.mk c.ii.am) (bG.mk c.ai.aL c.ai.ce) (aM.mk (bc.mk c.aa.af.aB c.aa.af.be c.aa.af.bi) c.aa.bv c.aa.aj) c.io)=c:=rfl;have MI:bG.mk c.ai.aL c.ai.ce=c.ai:=rfl;have hc:=Mx c.ai.ce es[i]! (by omega)
  have hr:=wB c.ai es[i]! (by omega)
  by_cases vv:uj c.ai.ce es[i]!
  · have s1:eV (eP es i c)=af9 (.next (eP es (i+1) c)):=by
     unfold eV eP;simp only [e1,lw,cg,ar,CI,hc,aF vv,sc]
    have s2:dO (eR es i c)=af9 (.next (eR es (i+1) c)):=by
     unfold dO eR;simp only [aA,e1,lw,cg,ar,MI,hr,aF vv,sc]
    rw [aZ s1,aZ s2];obtain ⟨r,q1,q2,q3,q4⟩:=ih (i+1) c (by omega) (by omega) ok hf hs (fun j hj=>if q:j=i then by rw [q];exact vv else hh j (by omega))
    exact ⟨r,q1,q2,q3,fun k hk hl=>q4 k hk (by omega)⟩
  have hb:jj c.ii.am es[i]!:=by rw [hf];exact JV.kn _ (aY sJ)
  rcases ad2 ok (JV.cv _ (aY sJ)) hb vv with ⟨r1,r2,full⟩|⟨c',r1,r2,r3,r4,r5,r6,r7⟩
  · refine ⟨(eO,18),aJ ?_,aJ ?_,.inr rfl,fun k hk hl=>absurd full (hk.VQ ok (by omega))⟩
    · unfold eV eP
      simp only [e1,lw,cg,ar,CI,hc,aC vv,ol,xe,r1,show ((18:Int) !=0)=afa from rfl]
    unfold dO eR
    simp only [aA,e1,lw,cg,ar,MI,hr,aC vv,ol,xe,r2,show ((18:Int) !=0)=afa from rfl]
  have s1:eV (eP es i c)=af9 (.next (eP es (i+1) c')):=by
   unfold eV eP;simp only [e1,lw,cg,ar,CI,hc,aC vv,ol,xe,r1,show ((0:Int) !=0)=afb from rfl,sc]
  have s2:dO (eR es i c)=af9 (.next (eR es (i+1) c')):=by
   unfold dO eR;simp only [aA,e1,lw,cg,ar,MI,hr,aC vv,ol,xe,r2,show ((0:Int) !=0)=afb from rfl,sc]
  rw [aZ s1,aZ s2];obtain ⟨r,q1,q2,q3,q6⟩:=ih (i+1) c' (by omega) (by omega) r3 (by rw [r4,hf]) (fun x hx=>by
   rw [r6] at hx;rcases UV.1 (show x∈c.ai.ce++[(c.ai.aL,es[i]!)] from hx) with h|h
   · exact hs x h
   · rw [List.mem_singleton.1 h];exact aY sJ) (fun j hj=>by
   rw [r6];show uj (c.ai.ce++[(c.ai.aL,es[i]!)]) _
   by_cases q:j=i
   · rw [q];exact ⟨af5 c.ai.ce,by rw [v6,ae0];omega,by rw [dM (EQ _),Nat.sub_self];rfl⟩
   obtain ⟨w,w1,w2⟩:=hh j (by omega)
   exact ⟨w,by rw [v6];omega,by rw [cw w1];exact w2⟩)
  refine ⟨r,q1,q2,q3.imp (fun ⟨q4,q5⟩=>⟨q4,q5.has,q5.sub,q5.ok,q5.jS,q5.ci.trans r5,aev ?_ q5.room⟩) id,fun k hk hl=>q6 (k+1) (hk.more r6 r7) (by omega)⟩
  unfold BF;rw [r6];show _<=(c.ai.aL+1) - (((c.ai.ce++[(c.ai.aL,es[i]!)]).length:Nat):Int);rw [v6,ae0];omega
theorem ad5 {c:aP} (ok:bn c) {f:List Pt} (dE:bC f) {es:List (Int×Int)} (JV:BG f es):
 ∃r:aP×Int,qj c ⟨f⟩ es=af9 r/\kK c ⟨f⟩ es=af9 r/\(r.2=0/\Gg c f es r.1\/r=(eO,18)):=by
 have f64:=dE.1;obtain ⟨c',g1,g2,g3,g4,g5,g6,g7⟩:=VS ok JV (af5 c.ai.ce) 0 c (by omega) (by omega) ok (fun x hx=>by rwa [aet] at hx) (fun x hx=> .inl (by rwa [aet]))
 have bd:=g3.bd;have e1:afc (((af5 c.ai.ce):Int)<((af5 c.ai.ce):Int))=afb:=aC (by omega)
 have al5:qj c ⟨f⟩ es=ax ei (kP c f es 0 c):=rfl;have al6:kK c ⟨f⟩ es=ax dy (kR c f es 0 c):=by
  unfold kK;simp only [jk ok,ar];rfl
 rw [al5,al6,g1,g2];have eq1:=JU c'.ii.am f (by omega)
 have eq2:=MG c'.ii.am f (by omega)
 have xe:(aP.mk (c'.ci.1,c'.ci.2) (Field.mk c'.ii.am) (bG.mk c'.ai.aL c'.ai.ce) (aM.mk (bc.mk c'.aa.af.aB c'.aa.af.be c'.aa.af.bi) c'.aa.bv c'.aa.aj) c'.io)=c':=rfl
 by_cases hf:c'.ii.am=f
 · obtain ⟨r,i1,i2,i3,_⟩:=MH dE JV (af5 es) 0 c' (by omega) (by omega) g3 hf g4 (fun j hj=>absurd hj (aeF j))
   refine ⟨r,aJ ?_,aJ ?_,i3.imp (fun ⟨q4,q5⟩=>⟨q4,q5.has,q5.sub,q5.ok,q5.jS,q5.ci.trans g6,aev g7 q5.room⟩) id⟩
   · unfold ei kP
     simp only [e1,ol,eq1,aF hf,ar,Do];exact i1
   unfold dy kR
   simp only [aA,e1,ol,eq2,aF hf,ar,Do];exact i2
 have kn: ∀i,i<af5 c'.ai.ce->jj f (c'.ai.ce[i]!).2:=fun i hi=>JV.kn _ (g4 _ (aY hi))
 rcases aqJ g3 dE kn with ⟨a1,a2⟩|⟨c2,a1,a2,a3,a4,a5,a6⟩
 · refine ⟨(eO,18),aJ ?_,aJ ?_,.inr rfl⟩
   · unfold ei kP
     simp only [e1,ol,eq1,aC hf,ar,ww,lw,xe,a1,show ((18:Int) !=0)=afa from rfl]
   unfold dy kR
   simp only [aA,e1,ol,eq2,aC hf,ar,ww,lw,xe,a2,show ((18:Int) !=0)=afa from rfl]
 obtain ⟨r,i1,i2,i3,_⟩:=MH dE JV (af5 es) 0 c2 (by omega) (by omega) a3 a4 (by rw [a6];exact g4) (fun j hj=>absurd hj (aeF j))
 refine ⟨r,aJ ?_,aJ ?_,i3.imp (fun ⟨q4,q5⟩=>⟨q4,q5.has,q5.sub,q5.ok,q5.jS,(q5.ci.trans a5).trans g6,aev (aev g7 (by unfold BF;rw [a6];exact aew _)) q5.room⟩) id⟩
 · unfold ei kP
   simp only [e1,ol,eq1,aC hf,ar,ww,lw,xe,a1,show ((0:Int) !=0)=afb from rfl];exact i1
 unfold dy kR
 simp only [aA,e1,ol,eq2,aC hf,ar,ww,lw,xe,a2,show ((0:Int) !=0)=afb from rfl];exact i2
theorem Gh {α:Type} [Inhabited α] {l:List α}:l.Nodup↔ ∀k,k<af5 l->l[k]!∉l.take k:=by
 rw [gI];constructor
 · intro h k hk hm
   obtain ⟨i,h1,h2,h3⟩:=cf.1 hm;exact h i k h1 hk h3
 intro h i j k8 hj he
 exact h j hj (cf.2 ⟨i,k8,by omega,he⟩)
theorem yg {α:Type} [Inhabited α] {l:List α} {P:α->Prop}:(∀x∈l,P x)↔ ∀i,i<af5 l->P l[i]!:=by
 constructor
 · intro h i hi;exact h _ (aY hi)
 intro h x hx
 obtain ⟨i,hi,rfl⟩:=aS.1 hx;exact h i hi
theorem mT {σ ρ:Type} {body:σ->Option (Step σ ρ)} (st:Nat->σ) (n:Nat) (P:Nat->Prop) {r e:ρ} (h: ∀i,i<n->(¬P i->body (st i)=af9 (.done r))/\(P i->body (st i)=af9 (.next (st (i+1)))))
 (Vl:body (st n)=af9 (.done e)):ax body (st 0)=af9 (if∀i,i<n->P i then e else r):=by
 have key:=dh (body:=body) st n (fun i=> ¬P i) (r:=r) (e:=e) (fun i hi=>⟨(h i hi).1,fun hn=>(h i hi).2 (M2.1 hn)⟩) Vl
 by_cases hx: ∀i,i<n->P i
 · rw [pp hx];exact key.2 fun i hi=>M2.2 (hx i hi)
 rw [rc hx]
 obtain ⟨i,h⟩:=Classical.not_forall.1 hx;obtain ⟨hi,hx⟩:=Classical.not_imp.1 h;exact key.1 ⟨i,hi,hx⟩
theorem zG {f:List Pt} (dE:bC f) (id:Int): ∃p e,sm ⟨f⟩ id=af9 (p,e)/\(e=0↔fU f id):=by
 have h1:=dE.1;have hc:dQ ⟨f⟩=af9 0:=by rw [gm];exact congrArg af9 (fo.2 dE)
 have bs:=pQ f id (by omega) (fun i j=>eH dE.2.2)
 unfold sm jY jd;rw [By];simp only [hc,ar,show ((0:Int) !=0)=afb from rfl,ol]
 by_cases h:fU f id
 · obtain ⟨k,hk,he⟩:=h
   rw [bs.1 k hk he];refine ⟨f[k]!,0,?_,fun _=>⟨k,hk,he⟩,fun _=>rfl⟩
   simp only [ar,Do,ol,show ((0:Int) !=0)=afb from rfl,au f k hk]
 obtain ⟨m,_,_,_,e⟩:=bs.2 (fun k hk he=>h ⟨k,hk,he⟩)
 rw [e];exact ⟨(0,0,0),6,rfl,fun h=>(by cases h),fun k=>absurd k h⟩
structure QQ (c:aP):Prop where
 f:(af5 c.ii.am)<=1000000
 l:(af5 c.ai.ce)<=1000000
 d:(af5 c.io)<=1000000
 h:(af5 c.aa.bv)<=1000000
 w:(af5 c.aa.aj)<=1000000
 s1:(af5 c.aa.af.aB)<=1000000
 s2:(af5 c.aa.af.be)<=1000000
 s3:(af5 c.aa.af.bi)<=1000000
theorem bn.short {c:aP} (ok:bn c):QQ c:=by
 have bd:=ok.bd;have ab:=ok.mS.bd;have sl:=ok.mS.so.fl;have sn:=ok.mS.so.n2;have su:=ok.mS.so.ul;exact ⟨by omega,by omega,by omega,by omega,by omega,by omega,by omega,by omega⟩
structure MJ (c:aP):Prop where
 ci:oM c.ci
 OT: ∀w,w<af5 c.aa.bv->oM ((c.aa.bv[w]!).1,(c.aa.bv[w]!).2.1)
theorem MK (f:Field):qk f=af9 afa\/(qk f=af9 afb/\af5 f.am<=70):=by
 unfold qk
 simp only [aA]
 by_cases h1:16<af5 f.am
 · rw [aF (show (16:Int)<((af5 f.am):Int) by omega)]
   by_cases h2:(af5 f.am)<64
   · rw [aF (show ((af5 f.am):Int)<64 by omega)];exact .inl rfl
   rw [aC (show¬((af5 f.am):Int)<64 by omega)]
   by_cases h3:70<af5 f.am
   · rw [aF (show (70:Int)<((af5 f.am):Int) by omega)];exact .inl rfl
   rw [aC (show¬(70:Int)<((af5 f.am):Int) by omega)];exact .inr ⟨rfl,by omega⟩
 rw [aC (show¬(16:Int)<((af5 f.am):Int) by omega),aC (show¬(70:Int)<((af5 f.am):Int) by omega)]
 exact .inr ⟨rfl,by omega⟩
theorem ML (c:aP):qn c=af9 afa\/(qn c=af9 afb/\QQ c):=by
 unfold qn xW xV
 simp only [aA]
 by_cases h1:40<af5 c.ai.ce
 · rw [aF (show (40:Int)<((af5 c.ai.ce):Int) by omega)];exact .inl rfl
 rw [aC (show¬(40:Int)<((af5 c.ai.ce):Int) by omega)]
 by_cases h2:40<af5 c.io
 · rw [aF (show (40:Int)<((af5 c.io):Int) by omega)];exact .inl rfl
 rw [aC (show¬(40:Int)<((af5 c.io):Int) by omega)]
 rcases MK c.ii with e|⟨e,hf⟩
 · rw [e];exact .inl rfl
 rw [e];simp only [ol,ar]
 by_cases a1:210<af5 c.aa.af.aB
 · rw [aF (show (210:Int)<((af5 c.aa.af.aB):Int) by omega)];exact .inl rfl
 rw [aC (show¬(210:Int)<((af5 c.aa.af.aB):Int) by omega)]
 by_cases a2:210<af5 c.aa.af.be
 · rw [aF (show (210:Int)<((af5 c.aa.af.be):Int) by omega)];exact .inl rfl
 rw [aC (show¬(210:Int)<((af5 c.aa.af.be):Int) by omega)]
 by_cases a3:210<af5 c.aa.af.bi
 · rw [aF (show (210:Int)<((af5 c.aa.af.bi):Int) by omega)];exact .inl rfl
 rw [aC (show¬(210:Int)<((af5 c.aa.af.bi):Int) by omega)]
 by_cases a4:210<af5 c.aa.bv
 · rw [aF (show (210:Int)<((af5 c.aa.bv):Int) by omega)];exact .inl rfl
 rw [aC (show¬(210:Int)<((af5 c.aa.bv):Int) by omega)]
 by_cases a5:210<af5 c.aa.aj
 · rw [aF (show (210:Int)<((af5 c.aa.aj):Int) by omega)];exact .inl rfl
 rw [aC (show¬(210:Int)<((af5 c.aa.aj):Int) by omega)]
 exact .inr ⟨rfl,⟨by omega,by omega,by omega,by omega,by omega,by omega,by omega,by omega⟩⟩
theorem ad6 (p q:Pt) (t:Int×Int):HV p q t=(p.2.1-q.2.1)*t.2+(p.2.2-q.2.2)*t.1:=rfl
theorem DI {p q:Pt} {t:Int×Int} (hp:fK p) (hq:fK q) (ht:oM t) (hr:cE t):od p q t=af9 (afc (leads p q t),if p.1=q.1 then 2 else 0)\/(p.1=q.1/\od p q t=af9 (afb,2)):=by
 unfold od;rw [tZ ht,pp ⟨hp,hq,hr⟩]
 by_cases h:p.1=q.1
 · right;simp [h]
 left
 simp only [h,if_false,ar,tC hp hq ht]
 have:afc (0<OI p q t)=afc (leads p q t):=by simp only [FL]
 simp [this]
end Go.Proofs.YtbgoiokedpjgbaaGreat
namespace Go.Proofs.YtbgoiokedpjgbaaGreat
theorem sF {α:Type} [BEq α] [LawfulBEq α]: ∀{a b:List α},a.Nodup->(∀x∈a,x∈b)->af5 b<=af5 a->a.Perm b
 | [],b,_,_,hl=>by
  rw [List.eq_nil_of_length_eq_zero (show (af5 b)=0 by simpa using hl)]
 |x::a,b,hd,h,hl=>by
  rw [acl] at hd;have hx:=h x acK;have ih:=sF (a:=a) (b:=b.erase x) hd.2 (fun y hy=>by
   rw [List.mem_erase_of_ne (fun e=>hd.1 (by rw [<- e];exact hy))]
   exact h y (ut _ hy)) (by
   rw [List.length_erase_of_mem hx];rw [PP] at hl
   omega)
  exact (List.Perm.cons x ih).trans (List.perm_cons_erase hx).symm
theorem wF {α β:Type} {f:α->β}: ∀{l:List α},l.Nodup->(∀x∈l,∀y∈l,f x=f y->x=y)->(l.map f).Nodup
 | [],_,_=>List.nodup_nil
 |x::l,h,hi=>by
  rw [acl] at h;rw [List.map_cons,acl];refine ⟨fun hm=>?_,wF h.2 fun y hy z hz=>hi y (ut _ hy) z (ut _ hz)⟩
  obtain ⟨y,hy,e⟩:=aem.1 hm
  have:=hi y (ut _ hy) x acK e
  rw [this] at hy;exact h.1 hy
end Go.Proofs.YtbgoiokedpjgbaaGreat
namespace Go.Proofs.YtbgoiokedpjgbaaGreat
open Go.Vm Classical
def CN (l:List Int) (k:Nat):List (Int×Int):=(aeJ k).map fun i=>(l[i+1]!,l[i / 2]!)
abbrev yh (l:List Int):List (Int×Int):=CN l (af5 l-1)
theorem Av (l:List Int) (k:Nat):(CN l k).length=k:=by unfold CN;rw [aeE,aeA]
theorem Dr (l:List Int) {k i:Nat} (h:i<k):(CN l k)[i]! =(l[i+1]!,l[i / 2]!):=by
 rw [getElem!_pos _ i (by rw [Av];exact h)]
 unfold CN;rw [List.getElem_map,List.getElem_range]
theorem MM {l:List Int} (hd:l.Nodup):(yh l).Nodup:=by
 unfold yh CN;refine wF aeD fun i hi j hj h=>?_
 rw [adc] at hi hj;have h1:l[i+1]! =l[j+1]!:=congrArg af3 h;have h2:=gI.1 hd;rcases F0s i j with k|k|k
 · exact absurd h1 (h2 (i+1) (j+1) (by omega) (by omega))
 · exact k
 exact absurd h1.symm (h2 (j+1) (i+1) (by omega) (by omega))
theorem Gi (l:List Int) (x:Int) (hl:(af5 l)<=1000000):
 (∀k,k<af5 l->l[k]! =x->(∀j,j<k->l[j]!≠x)->eD l x=af9 (k:Int))/\((∀k,k<af5 l->l[k]!≠x)->eD l x=af9 (-1)):=by
 have k1:=hO (body:=jv) (fun i=>(l,x,((af5 l):Int),(i:Int))) (af5 l) (fun i=>l[i]! =x) (fun i=>(i:Int)) (e:= -1) (fun i hi=>by
  unfold jv;simp only [aF (show (i:Int)<((af5 l):Int) by omega),lw,au l i hi,ar,aT (show i<1000000000 by omega)]
  refine ⟨fun h=>?_,fun h=>?_⟩
  · rw [eu h.symm];rfl
  · rw [dR (fun k=>h k.symm)];rfl) (by
  unfold jv;simp only [aC (show¬((af5 l):Int)<((af5 l):Int) by omega),ol])
 exact ⟨fun k hk h1 h2=>k1.1 k hk h1 h2,fun h=>k1.2 h⟩
theorem ad7 {f:List Pt} (dE:bC f) {t:Int×Int} (ya:oM t) {x:Int×Int} (hb:jj f x):wa x ⟨f⟩ t=af9 (afc (leads (gF f x.2) (gF f x.1) t)):=by
 obtain ⟨h1,h2⟩:=hb;obtain ⟨j,j1,j2,j3⟩:=wC dE h1;obtain ⟨k,k1,k2,k3⟩:=wC dE h2;unfold wa;simp only [j2,k2,ar,au f j j1,au f k k1,j3,k3,FM (fa dE h2).1 (fa dE h1).1 ya]
def kG (f:List Pt):List Int:=f.map fun p=>p.1
theorem CO {f:List Pt} (h:fM f):(kG f).Nodup:=by
 refine wF ?_ ?_
 · exact gI.2 fun i j k8 hj e=>by have:=eH h k8 hj;rw [e] at this;omega
 intro x hx y hy e
 obtain ⟨i,hi,rfl⟩:=aS.1 hx;obtain ⟨j,hj,rfl⟩:=aS.1 hy;rw [Ap h hi hj e]
theorem pR {f:List Pt} {id:Int}:id∈kG f↔fU f id:=by
 unfold kG fU;rw [aem];constructor
 · rintro ⟨p,hp,rfl⟩
   obtain ⟨i,hi,rfl⟩:=aS.1 hp;exact ⟨i,hi,rfl⟩
 rintro ⟨i,hi,rfl⟩
 exact ⟨f[i]!,aY hi,rfl⟩
structure sG (k:zx):Prop where
 D6:bn k.jp
 perm:(kG k.jp.ii.am).Perm k.bv
 cert:(k.jp.ai.ce.map fun x=>x.2).Perm (yh k.bv)
 lead: ∀e∈yh k.bv,leads (gF k.jp.ii.am e.2) (gF k.jp.ii.am e.1) k.jp.ci
theorem yi {c:bG} (ok:eN c):(c.ce.map fun x=>x.2).Nodup:=by
 refine wF ?_ ?_
 · exact gI.2 fun i j k8 hj e=>ok.nd i j k8 hj (by rw [e])
 intro x hx y hy e
 obtain ⟨i,hi,rfl⟩:=aS.1 hx;obtain ⟨j,hj,rfl⟩:=aS.1 hy;rcases F0s i j with k|k|k
 · exact absurd e (ok.nd i j k hj)
 · rw [k]
 exact absurd e.symm (ok.nd j i k hi)
theorem u9 {l:List qN} {x:Int×Int}:uj l x↔x∈l.map fun y=>y.2:=by
 unfold uj;rw [aem];constructor
 · rintro ⟨i,hi,rfl⟩;exact ⟨l[i]!,aY hi,rfl⟩
 rintro ⟨y,hy,rfl⟩
 obtain ⟨i,hi,rfl⟩:=aS.1 hy;exact ⟨i,hi,rfl⟩
theorem BH {α:Type} {p q:Prop} [Decidable p] [Decidable q] {a b:α} (h:p↔q):(if p then a else b)=if q then a else b:=by
 by_cases hp:p
 · rw [pp hp,pp (h.1 hp)]
 rw [rc hp,rc (fun k=>hp (h.2 k))]
theorem ad8 {c:aP} (ok:bn c) (es:List (Int×Int)) (kn: ∀x∈es,jj c.ii.am x):
 wb c es=af9 (afc (af5 c.ai.ce=af5 es/\ ∀i,i<af5 es->uj c.ai.ce es[i]!/\leads (gF c.ii.am (es[i]!).2) (gF c.ii.am (es[i]!).1) c.ci)):=by
 have bd:=ok.bd;unfold wb;simp only [aA]
 by_cases h0:(af5 c.ai.ce)=af5 es
 case neg=>rw [cC (by omega),lw,aC (fun h=>h0 h.1)]
 rw [bo (by omega),ol]
 have key:=mT (body:=pM) (fun i=>(es,(i:Int),c.ci.1,c.ci.2,c.ii.am,c.ai.aL,c.ai.ce,c.aa.af.aB,c.aa.af.be,c.aa.af.bi,c.aa.bv,c.aa.aj,c.io)) (af5 es)
  (fun i=>uj c.ai.ce es[i]!/\leads (gF c.ii.am (es[i]!).2) (gF c.ii.am (es[i]!).1) c.ci) (r:=afb) (e:=afa) (fun i hi=>by
  have MI:bG.mk c.ai.aL c.ai.ce=c.ai:=rfl;unfold pM;simp only [aA,aF (show (i:Int)<((af5 es):Int) by omega),lw,au es i hi,ar,MI,wB c.ai es[i]! (by omega),ad7 ok.jS (t:=(c.ci.1,c.ci.2)) ok.hU (kn _ (aY hi)),aT (show i<1000000000 by omega)]
  by_cases h1:uj c.ai.ce es[i]!
  · rw [aF h1]
    by_cases h2:leads (gF c.ii.am (es[i]!).2) (gF c.ii.am (es[i]!).1) c.ci
    · rw [show afc (leads (gF c.ii.am (es[i]!).2) (gF c.ii.am (es[i]!).1) (c.ci.1,c.ci.2))=afa from aF h2]
      exact ⟨fun h=>absurd ⟨h1,h2⟩ h,fun _=>rfl⟩
    rw [show afc (leads (gF c.ii.am (es[i]!).2) (gF c.ii.am (es[i]!).1) (c.ci.1,c.ci.2))=afb from aC h2]
    exact ⟨fun _=>rfl,fun h=>absurd h.2 h2⟩
  · rw [aC h1]
    exact ⟨fun _=>rfl,fun h=>absurd h.1 h1⟩) (by
  unfold pM;simp only [aA,aC (show¬((af5 es):Int)<((af5 es):Int) by omega),ol])
 refine (show _=_ from key).trans ?_
 by_cases h2: ∀i,i<af5 es->uj c.ai.ce es[i]!/\leads (gF c.ii.am (es[i]!).2) (gF c.ii.am (es[i]!).1) c.ci
 · rw [pp h2,aF ⟨h0,h2⟩]
 rw [rc h2,aC (fun h=>h2 h.2)]
def bz (p w:List Int) (i:Nat):Int:=if i<(af5 w) then w[i]! else p[i-(af5 w)]!
def jP (i j:Nat):Prop:= ∃d,(j+1) / 2^d=i+1
theorem jP.refl (i:Nat):jP i i:=⟨0,by simp⟩
theorem nC {i k j:Nat} (hk:k=2*i+1\/k=2*i+2) (h:jP k j):jP i j:=by
 obtain ⟨d,hd⟩:=h;refine ⟨d+1,?_⟩;rw [aeB,<- NE,hd];omega
theorem D7 {a b c d:Nat} (h:a<=b) (hc:(c+1) / 2^a=d):(c+1) / 2^b=d / 2^(b-a):=by
 have:2^b=2^a*2^(b-a):=by rw [<- Nat.pow_add];congr 1;omega
 rw [this,<- NE,hc]
theorem MN {x e:Nat} (he:0<e):x / 2^e<=x / 2:=by
 obtain ⟨k,rfl⟩: ∃k,e=k+1:=⟨e-1,by omega⟩
 rw [show 2^(k+1)=2*2^k by rw [aeB];omega,<- NE]
 exact Nat.div_le_self _ _
theorem qx {i j:Nat} (h1:jP (2*i+1) j) (h2:jP (2*i+2) j):False:=by
 obtain ⟨a,ha⟩:=h1;obtain ⟨b,hb⟩:=h2;rcases F0s a b with h|h|h
 · have:=D7 (aeC h) ha
   have:=MN (x:=2*i+1+1) (e:=b-a) (by omega)
   omega
 · subst h;omega
 have:=D7 (aeC h) hb
 have:=MN (x:=2*i+2+1) (e:=a-b) (by omega)
 omega
theorem VT {i k j1 j2:Nat} (h1:jP (2*i+1) j1) (h2:jP (2*i+2) j2) (g:(jP (2*k+1) j1/\jP (2*k+2) j2)\/(jP (2*k+1) j2/\jP (2*k+2) j1)):i=k:=by
 have main: ∀{i k j1 j2:Nat},jP (2*i+1) j1\/jP (2*i+2) j1->jP i j2->(jP (2*k+1) j1/\jP (2*k+2) j2)\/(jP (2*k+1) j2/\jP (2*k+2) j1)-> ∀a a':Nat,(j1+1) / 2^a=i+1->(j1+1) / 2^a'=k+1->a<a'->False:=by
  intro i k j1 j2 _ u2 g a a' ha EN dI;have e:=D7 (aeC dI) ha;rw [EN] at e;obtain ⟨c,hc⟩: ∃c,a'-a=c+1:=⟨a'-a-1,by omega⟩
  rw [hc,aeB,<- NE] at e;have q: ∃m,(i+1) / 2^c=m+1/\(m=2*k+1\/m=2*k+2):=⟨(i+1) / 2^c-1,by omega,by omega⟩
  obtain ⟨m,hm,hmk⟩:=q;have um: ∀j,jP i j->jP m j:=fun j ⟨d,hd⟩=>⟨d+c,by
   rw [D7 (Nat.le_add_right d c) hd,show d+c-d=c by omega,hm]⟩
  have u1:jP i j1:=⟨a,ha⟩;have v1:=um _ u1;have v2:=um _ u2;rcases hmk with rfl|rfl
  · rcases g with g|g
    · exact qx v2 g.2
    exact qx v1 g.2
  rcases g with g|g
  · exact qx g.1 v1
  exact qx g.1 v2
 have i1:jP i j1:=nC (.inl rfl) h1;have i2:jP i j2:=nC (.inr rfl) h2;have k1:jP k j1:=by rcases g with g|g;exact nC (.inl rfl) g.1;exact nC (.inr rfl) g.2
 have k2:jP k j2:=by rcases g with g|g;exact nC (.inr rfl) g.2;exact nC (.inl rfl) g.1
 obtain ⟨a,ha⟩:=i1;obtain ⟨a',EN⟩:=k1;rcases F0s a a' with h|h|h
 · exact (main (.inl h1) i2 g a a' ha EN h).elim
 · subst h;omega
 exact (main (i:=k) (k:=i) (j1:=j1) (j2:=j2) (by rcases g with g|g;exact .inl g.1;exact .inr g.2) k2 (.inl ⟨h1,h2⟩) a' a EN ha h).elim
def wG (p w:List Int):Prop:= ∀i,i<af5 w->w[i]! =bz p w (2*i+1)\/w[i]! =bz p w (2*i+2)
theorem wH {p w:List Int} (hl:(af5 w)+1=af5 p) (hc:wG p w): ∀(d i:Nat),af5 w+af5 p-i<=d->i<af5 w+af5 p-> ∃j,af5 w<=j/\j<af5 w+af5 p/\jP i j/\p[j-(af5 w)]! =bz p w i:=by
 intro d
 induction d with
 |zero=>intro i h1 h2;omega
 |succ d ih=>
  intro i h1 h2
  by_cases hi:i<af5 w
  · rcases hc i hi with e|e
    · obtain ⟨j,j1,j2,j3,j4⟩:=ih (2*i+1) (by omega) (by omega)
      refine ⟨j,j1,j2,nC (.inl rfl) j3,?_⟩;rw [j4,<- e];unfold bz;rw [pp hi]
    obtain ⟨j,j1,j2,j3,j4⟩:=ih (2*i+2) (by omega) (by omega)
    refine ⟨j,j1,j2,nC (.inr rfl) j3,?_⟩;rw [j4,<- e];unfold bz;rw [pp hi]
  refine ⟨i,by omega,h2,.refl i,?_⟩
  unfold bz;rw [rc hi]
def za (p:List Int):Prop:= ∀i j,i<j->j<af5 p->p[i]! =p[j]!->p[i]!<0
theorem za.inj {p:List Int} (h:za p) {i j:Nat} (hi:i<af5 p) (hj:j<af5 p) (e:p[i]! =p[j]!) (h0:0<=p[i]!):i=j:=by
 rcases F0s i j with k|k|k
 · have:=h i j k hj e;omega
 · exact k
 have:=h j i k hi e.symm;rw [<- e] at this;omega
section
variable {p w : List Int} (hl : (af5 w) + 1 = (af5 p)) (hc : wG p w) (ho : za p)
include hl hc
theorem jQ {i:Nat} (hi:i<af5 w+af5 p):bz p w i∈p:=by
 obtain ⟨j,j1,j2,_,e⟩:=wH hl hc _ i (EQ _) hi;rw [<- e];exact aY (by omega)
include ho
theorem D8 {i:Nat} (hi:i<af5 w) (h0:0<=bz p w (2*i+1)):bz p w (2*i+1)≠bz p w (2*i+2):=by
 intro e;obtain ⟨j,j1,j2,j3,j4⟩:=wH hl hc _ (2*i+1) (EQ _) (by omega)
 obtain ⟨k,k1,k2,k3,k4⟩:=wH hl hc _ (2*i+2) (EQ _) (by omega)
 have:=ho.inj (i:=j-(af5 w)) (j:=k-(af5 w)) (by omega) (by omega) (by rw [j4,k4,e]) (by rw [j4];exact h0)
 obtain rfl:j=k:=by omega
 exact qx j3 k3
theorem VU {i k:Nat} (hi:i<af5 w) (hk:k<af5 w) (h1:0<=bz p w (2*i+1)) (h2:0<=bz p w (2*i+2))
 (g:(bz p w (2*k+1)=bz p w (2*i+1)/\bz p w (2*k+2)=bz p w (2*i+2))\/(bz p w (2*k+1)=bz p w (2*i+2)/\bz p w (2*k+2)=bz p w (2*i+1))):i=k:=by
 obtain ⟨j1,a1,a2,a3,a4⟩:=wH hl hc _ (2*i+1) (EQ _) (by omega)
 obtain ⟨j2,b1,b2,b3,b4⟩:=wH hl hc _ (2*i+2) (EQ _) (by omega)
 obtain ⟨l1,c1,c2,c3,c4⟩:=wH hl hc _ (2*k+1) (EQ _) (by omega)
 obtain ⟨l2,d1,d2,d3,d4⟩:=wH hl hc _ (2*k+2) (EQ _) (by omega)
 have same: ∀{x y:Nat},af5 w<=x->x<af5 w+af5 p->af5 w<=y->y<af5 w+af5 p->p[x-(af5 w)]! =p[y-(af5 w)]!->0<=p[x-(af5 w)]!->x=y:=fun {x y} hx hx' hy hy' e h0=>by
  have:=ho.inj (i:=x-(af5 w)) (j:=y-(af5 w)) (by omega) (by omega) e h0
  omega
 refine VT a3 b3 ?_;rcases g with ⟨g1,g2⟩|⟨g1,g2⟩
 · have e1:j1=l1:=same a1 a2 c1 c2 (by rw [a4,c4,g1]) (by rw [a4];exact h1)
   have e2:j2=l2:=same b1 b2 d1 d2 (by rw [b4,d4,g2]) (by rw [b4];exact h2)
   subst e1 e2;exact .inl ⟨c3,d3⟩
 have e1:j2=l1:=same b1 b2 c1 c2 (by rw [b4,c4,g1]) (by rw [b4];exact h2)
 have e2:j1=l2:=same a1 a2 d1 d2 (by rw [a4,d4,g2]) (by rw [a4];exact h1)
 subst e1 e2;exact .inr ⟨c3,d3⟩
end
noncomputable def vd (f:List Pt) (t:Int×Int) (x y:Int):Int:=if x<0 then y else if y<0 then x else if leads (gF f x) (gF f y) t then x else y
theorem QR (f:List Pt) (t:Int×Int) (x y:Int):vd f t x y=x\/vd f t x y=y:=by
 unfold vd;split
 · exact .inr rfl
 split
 · exact .inl rfl
 split
 · exact .inl rfl
 exact .inr rfl
def Gj (f:List Pt) (t:Int×Int) (p w:List Int):Prop:=af5 w+1=af5 p/\ ∀i,i<af5 w->w[i]! =vd f t (bz p w (2*i+1)) (bz p w (2*i+2))
theorem Gj.ur {f:List Pt} {t:Int×Int} {p w:List Int} (h:Gj f t p w):wG p w:=fun i hi=>by
 rw [h.2 i hi];exact QR ..
noncomputable def Ib (f:List Pt) (t:Int×Int) (p:List Int):Nat->List Int->List Int
 |0,w=>w
 |i+1,w=>Ib f t p i (w.set i (vd f t (bz p w (2*i+1)) (bz p w (2*i+2))))
noncomputable def bZ (f:List Pt) (t:Int×Int) (p:List Int):List Int:=Ib f t p (af5 p-1) (aeZ (af5 p-1) 0)
theorem Ic {p w:List Int} {i k:Nat} {v:Int} (h:i≠k):bz p (w.set i v) k=bz p w k:=by
 unfold bz;rw [IR];split
 · rw [aU,rc (fun x=>h x.1.symm)]
 rfl
theorem Ie {f:List Pt} {t:Int×Int} {p:List Int}: ∀(n:Nat) (w:List Int),n<=af5 w->(∀i,n<=i->i<af5 w->w[i]! =vd f t (bz p w (2*i+1)) (bz p w (2*i+2)))->
 (Ib f t p n w).length=af5 w/\ ∀i,i<af5 w->(Ib f t p n w)[i]! =vd f t (bz p (Ib f t p n w) (2*i+1)) (bz p (Ib f t p n w) (2*i+2))
 |0,w,_,h=>⟨rfl,fun i hi=>h i (Nat.zero_le _) hi⟩
 |n+1,w,hn,h=>by
  have ih:=Ie n (w.set n (vd f t (bz p w (2*n+1)) (bz p w (2*n+2)))) (by rw [IR];omega) (fun i h1 h2=>by
   rw [IR] at h2;rw [Ic (by omega),Ic (by omega),aU]
   split
   · rename_i e;rw [e.1]
   exact h i (by omega) h2)
  rw [IR] at ih;exact ih
theorem eQ {f:List Pt} {t:Int×Int} {p:List Int} (hp:1<=af5 p):Gj f t p (bZ f t p):=by
 have:=Ie (f:=f) (t:=t) (p:=p) (af5 p-1) (aeZ (af5 p-1) 0) (by rw [ae3];omega) (fun i h1 h2=>by rw [ae3] at h2;omega)
 rw [ae3] at this;have hl:(bZ f t p).length=af5 p-1:=this.1;exact ⟨by omega,fun i hi=>this.2 i (by omega)⟩
theorem Sv {f:List Pt} {t:Int×Int} {p w v:List Int} (h:Gj f t p w) (g:Gj f t p v):w=v:=by
 have hl:(af5 w)=(af5 v):=by have:=h.1;have:=g.1;omega
 have key: ∀(d i:Nat),af5 w-i<=d->i<af5 w->w[i]! =v[i]!:=by
  intro d
  induction d with
  |zero=>intro i h1 h2;omega
  |succ d ih=>
   intro i _ hi;have nd: ∀k,i<k->bz p w k=bz p v k:=fun k hk=>by
    unfold bz;rw [hl];split
    · rename_i h';exact ih k (by omega) (by omega)
    rfl
   rw [h.2 i hi,g.2 i (by omega),nd _ (by omega),nd _ (by omega)]
 exact qu hl fun i hi=>key _ i (EQ _) hi
noncomputable def w5 (p w:List Int) (i:Nat):Option (Int×Int):=
 if bz p w (2*i+1)<0\/bz p w (2*i+2)<0 then none
 else if w[i]! =bz p w (2*i+1) then af9 (bz p w (2*i+2),bz p w (2*i+1)) else af9 (bz p w (2*i+1),bz p w (2*i+2))
noncomputable def gZ (p w:List Int):List (Int×Int):=(aeJ (af5 w)).filterMap (w5 p w)
theorem Gk (p w:List Int):(gZ p w).length<=(af5 w):=by
 have:=List.length_filterMap_le (w5 p w) (aeJ (af5 w))
 rwa [aeA] at this
theorem Gl {p w:List Int} {e:Int×Int}:e∈gZ p w↔ ∃i,i<af5 w/\w5 p w i=af9 e:=by
 unfold gZ;rw [aex];constructor
 · rintro ⟨i,hi,h⟩;exact ⟨i,adc.1 hi,h⟩
 rintro ⟨i,hi,h⟩;exact ⟨i,adc.2 hi,h⟩
theorem wI {p w:List Int} {i:Nat} {e:Int×Int} (h:w5 p w i=af9 e):0<=bz p w (2*i+1)/\0<=bz p w (2*i+2)/\
 ((e=(bz p w (2*i+2),bz p w (2*i+1))/\w[i]! =bz p w (2*i+1))\/(e=(bz p w (2*i+1),bz p w (2*i+2))/\w[i]!≠bz p w (2*i+1))):=by
 unfold w5 at h;split at h
 · cases h
 rename_i hn
 refine ⟨by omega,by omega,?_⟩
 split at h
 · rename_i h1;injection h with h;exact .inl ⟨h.symm,h1⟩
 rename_i h1;injection h with h;exact .inr ⟨h.symm,h1⟩
theorem w8 {α β:Type} {g:α->Option β}: ∀{l:List α},l.Nodup->(∀x∈l,∀y∈l,∀b,g x=af9 b->g y=af9 b->x=y)->(l.filterMap g).Nodup
 | [],_,_=> .nil
 |a::r,h,hi=>by
  obtain ⟨h1,h2⟩:=acl.1 h;have ih:=w8 (g:=g) h2 (fun x hx y hy b e1 e2=>hi x (ut _ hx) y (ut _ hy) b e1 e2)
  cases hg:g a with
  |none=>rw [List.filterMap_cons_none hg];exact ih
  |some b=>
   rw [List.filterMap_cons_some hg];refine acl.2 ⟨fun hb=>?_,ih⟩
   obtain ⟨y,hy,e⟩:=aex.1 hb
   have:=hi a (acK ..) y (ut _ hy) b hg e
   subst this;exact h1 hy
theorem JW {p w:List Int} (hl:(af5 w)+1=af5 p) (hc:wG p w) (ho:za p):(gZ p w).Nodup:=by
 refine w8 aeD fun i hi k hk b e1 e2=>?_
 have hi:=adc.1 hi;have hk:=adc.1 hk;obtain ⟨a1,a2,a3⟩:=wI e1;obtain ⟨b1,b2,b3⟩:=wI e2;refine VU hl hc ho hi hk a1 a2 ?_;rcases a3 with ⟨rfl,_⟩|⟨rfl,_⟩<;>rcases b3 with ⟨h,_⟩|⟨h,_⟩<;>(injection h with h1 h2)
 · exact .inl ⟨h2.symm,h1.symm⟩
 · exact .inr ⟨h1.symm,h2.symm⟩
 · exact .inr ⟨h2.symm,h1.symm⟩
 exact .inl ⟨h1.symm,h2.symm⟩
theorem Sw {f:List Pt} (dE:bC f) {p w:List Int} (hl:(af5 w)+1=af5 p) (hn:(af5 p)<=64) (hc:wG p w) (ho:za p) (hk: ∀x∈p,0<=x->fU f x):BG f (gZ p w):=by
 have hp: ∀e∈gZ p w,jj f e/\e.1≠e.2:=fun e he=>by
  obtain ⟨i,hi,h⟩:=Gl.1 he;obtain ⟨a1,a2,a3⟩:=wI h;have m1:=jQ hl hc (i:=2*i+1) (by omega)
  have m2:=jQ hl hc (i:=2*i+2) (by omega)
  have ne:=D8 hl hc ho hi a1;rcases a3 with ⟨rfl,_⟩|⟨rfl,_⟩
  · exact ⟨⟨hk _ m2 a2,hk _ m1 a1⟩,fun h=>ne h.symm⟩
  exact ⟨⟨hk _ m1 a1,hk _ m2 a2⟩,ne⟩
 refine ⟨by have:=Gk p w;omega,fun e he=>?_,fun e he=>(hp e he).1⟩
 obtain ⟨⟨h1,h2⟩,ne⟩:=hp e he;obtain ⟨⟨p1,p2⟩,q1,q2⟩:=And.intro (fa dE h1) (fa dE h2);unfold fK at p1 q1;unfold fq;omega
end Go.Proofs.YtbgoiokedpjgbaaGreat
