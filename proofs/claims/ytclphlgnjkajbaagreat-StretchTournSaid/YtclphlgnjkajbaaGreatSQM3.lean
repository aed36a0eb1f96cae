/- Plain laws (3). -/
import Derived.Test.YtclphlgnjkajbaaGreatSQM2
import Derived.Test.YtclphlgnjkajbaaGreatSQS1
open List renaming length_append->v6,mem_cons_of_mem->EQ,length_drop->If,length_cons->M2,mem_append->NE,length_singleton->UV,length_nil->WF,mem_map->aah,drop_zero->aal,mem_cons_self->aau,drop_length->aav,length_set->aaz,nodup_cons->aaB,length_map->aaS,mem_cons->ac2,length->acZ
open Bool renaming not_false->ww,not_true->Do,true->ad8,false->adc
open Classical renaming byContradiction->AC,not_not->IR
open Nat renaming lt_trichotomy->PP,le_refl->aaC,not_lt_zero->ac0
open Int renaming le_trans->aax,le_refl->aaG
open Prod renaming ext->ac1,fst->acl
open Option renaming some->ad2
open Decidable renaming decide->ae1
namespace Go.Proofs.YtclphlgnjkajbaaGreat
open Go.Vm Classical
theorem KY (c:aI) (n:Int) (hl:(acZ c.io)<=1000000):(∀k,k<acZ c.io->(c.io[k]!).1=n->(∀j,j<k->(c.io[j]!).1≠n)->pG c n=ad2 (k:Int))/\((∀k,k<acZ c.io->(c.io[k]!).1≠n)->pG c n=ad2 (-1)):=by
 unfold pG;refine iG (body:=nC) (fun i=>(n,(i:Int),c.ci.1,c.ci.2,c.ii.am,c.af.aM,c.af.ce,c.ae.ai.aD,c.ae.ai.be,c.ae.ai.bi,c.ae.bv,c.ae.aq,c.io)) (acZ c.io) (fun i=>(c.io[i]!).1=n) (fun i=>(i:Int)) (fun i hi=>?_) ?_
 · have e1:ae1 ((i:Int)<((acZ c.io):Int))=ad8:=aG (by omega)
   unfold nC;simp only [aA,e1,lw,au c.io i hi,aj,ba (show i<1000000000 by omega)];constructor
   · intro h;rw [eT h];rfl
   intro h;rw [eu h];rfl
 unfold nC
 have:ae1 (((acZ c.io):Int)<((acZ c.io):Int))=adc:=aE (by omega);simp only [aA,this,pp]
theorem yI {ds:List pX} (hu:Up ds) (hl:(acZ ds)<=1000000) (n:Int):(∀k,k<acZ ds->(ds[k]!).1=n->mK ds n=ad2 ((k:Int),ad8))/\((∀k,k<acZ ds->(ds[k]!).1≠n)-> ∃m:Nat,mK ds n=ad2 ((m:Int),adc)):=by
 have bs:=oX ds n hl (oZ.1 hu);unfold mK;rw [ad9];constructor
 · intro k hk he;rw [bs.1 k hk he];rfl
 intro h
 obtain ⟨m,_,_,_,e⟩:=bs.2 h;exact ⟨m,by rw [e];rfl⟩
theorem bg.bd {c:aI} (ok:bg c):(acZ c.io)<=200/\acZ c.ii.am<=64/\acZ c.af.ce<=200:=by have:=ok.hd;have:=ok.nR.bd;have:=ok.j0.1;have:=ok.wM.len;omega
theorem iO {c:aI} (ok:bg c):ou c=ad2 c:=by have bd:=ok.bd;unfold ou oq vE;simp only [aW (show (acZ c.ii.am)<=1048576 by omega),aW (show (acZ c.af.ce)<=1048576 by omega),aW (show (acZ c.io)<=1048576 by omega),aj,oW ok.nR]
theorem fW {c:aI} (ok:bg c):jI c=ad2 c:=by
 have bd:=ok.bd;have ab:=ok.nR.bd;have hl:=ok.nR.so.fl;have hn:=ok.nR.so.n2;have hu:=ok.nR.so.ul;unfold jI;simp only [aW (show (acZ c.ii.am)<=1048576 by omega),aW (show (acZ c.af.ce)<=1048576 by omega),aW (show (acZ c.io)<=1048576 by omega),aW (show (acZ c.ae.bv)<=1048576 by omega),aW (show (acZ c.ae.aq)<=1048576 by omega),
  aW (show (acZ c.ae.ai.aD)<=1048576 by omega),aW (show (acZ c.ae.ai.be)<=1048576 by omega),aW (show (acZ c.ae.ai.bi)<=1048576 by omega),aj]
theorem qx {cs:List pX} {i:Nat} (hu:Up cs) (hi:i<acZ cs) {x:pX} (hx:x∈cs.eraseIdx i):x∈cs/\x.1≠(cs[i]!).1:=by
 rw [ry,NE] at hx;have ub:=oZ.1 hu;rcases hx with hx|hx
 · obtain ⟨j,h1,h2,rfl⟩:=cC.1 hx
   have:=ub j i h1 hi;exact ⟨aX h2,by omega⟩
 obtain ⟨j,hj,rfl⟩:=aQ.1 hx
 rw [If] at hj;rw [lG];have:=ub i (i+1+j) (by omega) (by omega);exact ⟨aX (by omega),by omega⟩
theorem C1 {c:aI} (ok:bg c) (i:Nat) (hi:i<acZ c.af.ce): ∀j,j<(mh c.af i).ce.length->jZ c.ii.am ((mh c.af i).ce[j]!).2:=by intro j hj;have hm:(mh c.af i).ce[j]!∈c.af.ce:=(qx ok.pY hi (aX hj)).1;obtain ⟨m,N4,LQ⟩:=aQ.1 hm;rw [<- LQ];exact ok.known m N4
theorem Tk {c:aI} (ok:bg c) {i:Nat} (hi:i<acZ c.af.ce):
 ∃c':aI,jJ c (c.af.ce[i]!).1=ad2 (c',(c.af.ce[i]!).2,0)/\vH c (c.af.ce[i]!).1=ad2 c'/\bg c'/\c'.ii=c.ii/\c'.ci=c.ci/\c'.af=mh c.af i:=by
 have bd:=ok.bd;have rm:=xN ok.wM hi (n:=(c.af.ce[i]!).1) rfl;have wo:=Cn ok.wM hi (n:=(c.af.ce[i]!).1) rfl;have fe:=ok.Df.erase (i:=i) hi;have pd:=yI ok.z7 (by omega) (c.af.ce[i]!).1;have da:=KY c (c.af.ce[i]!).1 (by omega);cases hf:(bw c.ii.am (c.af.ce[i]!).2 c.ci).2 with
 |false=>
  have no: ∀k,k<acZ c.io->(c.io[k]!).1≠(c.af.ce[i]!).1:=by
   intro k hk he;obtain ⟨x,hx,h1,h2,_⟩:=ok.Df.io _ (aX hk);obtain ⟨j,hj,rfl⟩:=aQ.1 hx;have ub:=oZ.1 ok.pY;have:j=i:=by
    rcases PP j i with h|h|h
    · have:=ub j i h hi;omega
    · exact h
    have:=ub i j h hj;omega
   rw [this,hf] at h2;cases h2
  refine ⟨⟨c.ci,c.ii,mh c.af i,c.ae,c.io⟩,?_,?_,?_,rfl,rfl,rfl⟩
  · unfold jJ
    obtain ⟨m,e⟩:=pd.2 no;simp only [rm,aj,show ((0:Int) !=0)=adc from rfl,pp,fW ok,e]
  · unfold vH
    simp only [iO ok,aj,wo,da.2 no,aE (show¬(0:Int)<= -1 by omega),pp]
  exact ⟨ok.qw,ok.gO,ok.j0,FA ok.wM hi,ok.nR,ok.Gk,ok.hd,C1 ok i hi,fe.1 hf⟩
 |true=>
  obtain ⟨k,hk,k1,k2,k3⟩:=fe.2 hf;obtain ⟨w,hw,gx⟩:=aQ.1 k2;have hh:(c.ae.bv[w]!).2.2.2=(c.io[k]!).2:=by rw [gx]
  have ub:=oZ.1 ok.z7;have before: ∀j,j<k->(c.io[j]!).1≠(c.af.ce[i]!).1:=fun j hj he=>by have:=ub j k hj hk;omega
  have dl:(c.io.eraseIdx k).length=acZ c.io-1:=yH hk;obtain ⟨L,d1,d2⟩:=sJ c.io k hk;refine ⟨⟨c.ci,c.ii,mh c.af i,dw c.ae w,c.io.eraseIdx k⟩,?_,?_,?_,rfl,rfl,rfl⟩
  · unfold jJ
    simp only [rm,aj,show ((0:Int) !=0)=adc from rfl,pp,fW ok,pd.1 k hk k1,lw,au c.io k hk,oE ok.nR hw ok.nR.fit hh,ba (show k<1000000000 by omega),Fv,d1,d2]
  · unfold vH
    have s1:fL c.io 0 (k:Int)=ad2 (c.io.take k):=js c.io k (by omega);have s2:fL c.io ((k+1:Nat):Int) ((acZ c.io):Int)=ad2 (c.io.drop (k+1)):=by unfold fL;rw [rc ⟨by omega,by omega,by omega⟩];simp only [Int.toNat_natCast];rw [List.take_of_length_le (by rw [If];exact aaC _)]
    have tl:(c.io.take k).length=k:=by rw [List.length_take];omega
    have dl2:(c.io.drop (k+1)).length=acZ c.io- (k+1):=If;simp only [iO ok,aj,wo,da.1 k hk k1 before,aG (show (0:Int)<=(k:Int) by omega),lw,au c.io k hk,uE ok.nR hw hh,s1,aW (show (c.io.take k).length<=1048576 by omega),ba (show k<1000000000 by omega),aA,s2,
     cZ (show (c.io.take k).length+(c.io.drop (k+1)).length<=1048576 by omega),ry]
    cases hem:(c.io.drop (k+1)).isEmpty with
    |true=>rw [List.isEmpty_iff] at hem;rw [hem,List.append_nil];rfl
    |false=>rfl
  have rem:=Cl ok.nR hw
  have P4:=Fu ok.nR hw;have cO:(dw c.ae w).bv.length=acZ c.ae.bv-1:=by
   have h1:=rem.hl;have h2:=ok.nR.hl;have h3:(dw c.ae w).ai=eY c.ae.ai (c.ae.bv[w]!).2.2.2:=by unfold dw;split<;>rfl
   rw [h3] at h1;change _+(c.ae.ai.bi++[_]).length=(acZ c.ae.ai.aD) at h1;rw [v6] at h1;simp only [M2,WF] at h1;omega
  have aea:(dw c.ae w).aq.length=200:=by
   have h1:=rem.wl;have h3:(dw c.ae w).ai=eY c.ae.ai (c.ae.bv[w]!).2.2.2:=by unfold dw;split<;>rfl
   rw [h3] at h1;change _=(acZ c.ae.ai.aD) at h1;rw [h1,<- ok.nR.wl,ok.Gk]
  refine ⟨ok.qw,ok.gO,ok.j0,FA ok.wM hi,rem,aea,?_,C1 ok i hi,?_⟩
  · show (dw c.ae w).bv.length=(c.io.eraseIdx k).length
    rw [cO,dl,ok.hd]
  refine k3.mono fun x hx e he hm=>(P4 e).2 ⟨hm,fun h=>?_⟩
  have:=(qx ok.pY hi hx).2;rw [h,gx] at he;exact this he.symm
theorem wm {c:aI} (ok:bg c) {i:Nat} (_hi:i<acZ c.af.ce) {c':aI} (h:jJ c (c.af.ce[i]!).1=ad2 (c',(c.af.ce[i]!).2,0)):qp c (c.af.ce[i]!).1=ad2 (c',0):=by unfold qp;rw [ju ok.fit,rc ok];simp only [aj,show ((0:Int) !=0)=adc from rfl,pp,h]
abbrev dJ:aI:=⟨(0,0),⟨[]⟩,⟨0,[]⟩,⟨⟨[],[],[]⟩,[],[]⟩,[]⟩
theorem Cp {l:List Pt} (ok:bn l) {id:Int} (h:fJ l id): ¬(iA l id).1<0:=by obtain ⟨h1,_⟩:=eb ok h;have:=h1.1;omega
theorem OD {c:aI} (ok:bg c) {x:Int×Int} (hx:fi x) (hb:jZ c.ii.am x) (hn: ¬wG c.af.ce x):
 (gN c x=ad2 (dJ,0,18)/\k9 c x=ad2 (dJ,0,18)/\(zj c.af\/ ¬uA c.ae.ai))\/
 ∃c':aI,gN c x=ad2 (c',c.af.aM,0)/\k9 c x=ad2 (c',c.af.aM,0)/\bg c'/\c'.ii=c.ii/\c'.ci=c.ci/\c'.af=mg c.af x/\(c'.ae.ai=c.ae.ai\/c'.ae.ai=fP c.ae.ai):=by
 have bd:=ok.bd;have n0:=ok.wM.n0;have n1:=ok.wM.n1;have fit:=ok.fit;have ad:=KU ok.wM hx;have rd:=IT ok.wM hx;rw [ut hn] at ad rd;have hc:fI c=ad2 0:=by rw [ju fit,rc ok]
 have p1:=jt ok.j0 x.1;have p2:=jt ok.j0 x.2;have q1:=Cp ok.j0 hb.1;have q2:=Cp ok.j0 hb.2;have wh:=oY ok.j0 hx ok.qw ok.gO;rw [rc hb] at wh;have rw':=zk ok.j0 ok.gO hb
 by_cases hf:zj c.af
 · rw [rc hf] at ad rd
   left;refine ⟨?_,?_,.inl hf⟩
   · unfold gN df
     simp only [hc,aj,show ((0:Int) !=0)=adc from rfl,pp,ad,show ((18:Int)==8)=adc from rfl,p1,p2,aE q1,aE q2,show ((18:Int) !=0)=ad8 from rfl,lw]
   unfold k9
   simp only [rd,aj,show ((18:Int) !=0)=ad8 from rfl,lw]
 rw [ut hf] at ad rd;have cok:=M4 ok.wM hx hn hf;have Tl: ∀j,j<(mg c.af x).ce.length->jZ c.ii.am ((mg c.af x).ce[j]!).2:=by
  intro j hj;rw [yG] at hj;rw [rz]
  by_cases h:j<acZ c.af.ce
  · rw [rc h];exact ok.known j h
  rw [ut h,rc (by omega)];exact hb
 have fresh: ∀e∈c.ae.bv,Ev.num e≠c.af.aM:=by intro e he dK;obtain ⟨d,hd,h1⟩:=ok.xK e he;obtain ⟨y,hy,h2,_⟩:=ok.Df.io d hd;obtain ⟨j,hj,rfl⟩:=aQ.1 hy;have:=(ok.wM.nr j hj).2;omega
 have sn:=ok.Df.snoc (x:=(c.af.aM,x));cases hw:(bw c.ii.am x c.ci).2 with
 |false=>
  right;refine ⟨⟨c.ci,c.ii,mg c.af x,c.ae,c.io⟩,?_,?_,⟨ok.qw,ok.gO,ok.j0,cok,ok.nR,ok.Gk,ok.hd,Tl,sn.1 hw⟩,rfl,rfl,rfl,.inl rfl⟩
  · unfold gN df
    simp only [hc,aj,show ((0:Int) !=0)=adc from rfl,pp,ad,show ((0:Int)==8)=adc from rfl,p1,p2,aE q1,aE q2,fW ok,wh,hw]
  unfold k9
  simp only [rd,aj,show ((0:Int) !=0)=adc from rfl,pp,iO ok,rw',hw,ww,lw]
 |true=>
  obtain ⟨t1,t2⟩:=Fa (eb ok.j0 hb.2).1 (eb ok.j0 hb.1).1 ok.gO ok.qw hw
  by_cases op:uA c.ae.ai
  · right
    have pu:=uB ok.nR op ok.nR.fit (t:=(bw c.ii.am x c.ci).1) (n:=c.af.aM) t1 t2 n0 n1 fresh;have rp:=wk ok.nR op (t:=(bw c.ii.am x c.ci).1) (n:=c.af.aM) t1 t2 n0 n1;have pok:=OB ok.nR op (t:=(bw c.ii.am x c.ci).1) (n:=c.af.aM) t1 t2 n0 n1 fresh;have P5:=KQ ok.nR op (t:=(bw c.ii.am x c.ci).1) (n:=c.af.aM) t1;have aec:=Be ok.nR op (t:=(bw c.ii.am x c.ci).1) (n:=c.af.aM) t1;have ap: ∀h:Int×Int,bk c.io [(c.af.aM,h)]=ad2 (c.io++[(c.af.aM,h)]):=fun h=>cZ (by simp;omega)
    have aea:(jN c.ae (bw c.ii.am x c.ci).1 c.af.aM).aq.length=200:=by have:=pok.wl;change _=(c.ae.ai.aD.set _ _).length at this;rw [aaz] at this;rw [this,<- ok.nR.wl,ok.Gk]
    refine ⟨⟨c.ci,c.ii,mg c.af x,jN c.ae (bw c.ii.am x c.ci).1 c.af.aM,c.io++[(c.af.aM,jM c.ae.ai)]⟩,?_,?_,⟨ok.qw,ok.gO,ok.j0,cok,pok,aea,?_,Tl,?_⟩,rfl,rfl,rfl,.inr rfl⟩
    · unfold gN df
      simp only [hc,aj,show ((0:Int) !=0)=adc from rfl,pp,ad,show ((0:Int)==8)=adc from rfl,p1,p2,aE q1,aE q2,fW ok,wh,hw,lw,pu,ap]
    · unfold k9
      simp only [rd,aj,show ((0:Int) !=0)=adc from rfl,pp,iO ok,rw',hw,Do,oV ok.nR.so,aG op,rp,ap]
    · show (jN c.ae (bw c.ii.am x c.ci).1 c.af.aM).bv.length=(c.io++[_]).length
      rw [aec,v6,ok.hd];rfl
    have fm:bc c.ii.am c.ci (jN c.ae (bw c.ii.am x c.ci).1 c.af.aM).bv c.af.ce c.io:=ok.Df.mono fun y hy e he hm=>(P5 e).2 (.inr hm)
    exact (fm.snoc (x:=(c.af.aM,x))).2 _ hw rfl ((P5 _).2 (.inl rfl))
  left
  have pu:=uC ok.nR op ok.nR.fit (t:=(bw c.ii.am x c.ci).1) (n:=c.af.aM) t1 t2 n0 n1 fresh;refine ⟨?_,?_,.inr op⟩
  · unfold gN df
    simp only [hc,aj,show ((0:Int) !=0)=adc from rfl,pp,ad,show ((0:Int)==8)=adc from rfl,p1,p2,aE q1,aE q2,fW ok,wh,hw,lw,pu,show ((18:Int) !=0)=ad8 from rfl]
  unfold k9
  simp only [rd,aj,show ((0:Int) !=0)=adc from rfl,pp,iO ok,rw',hw,Do,oV ok.nR.so,aE op,ww,lw]
theorem Up.inj {cs:List pX} (h:Up cs) {x y:pX} (hx:x∈cs) (hy:y∈cs) (he:x.1=y.1):x=y:=by
 obtain ⟨i,hi,rfl⟩:=aQ.1 hx;obtain ⟨j,hj,rfl⟩:=aQ.1 hy;have ub:=oZ.1 h;rcases PP i j with h1|h1|h1
 · have:=ub i j h1 hj;omega
 · rw [h1]
 have:=ub j i h1 hi;omega
structure FB (c:aI) (f:List Pt) (i k:Nat) (a:aF) (ds:List pX):Prop where
 ok:fu a
 w2:(acZ a.aq)=200
 new:bc f c.ci a.bv (c.af.ce.take i) ds
 old:bc c.ii.am c.ci a.bv (c.af.ce.drop i) (c.io.drop k)
 kl:k<=acZ c.io
 T4:(acZ a.bv)=acZ ds+(acZ c.io-k)
theorem aed {a:aF} (ok:fu a) {w:Nat} (hw:w<acZ a.bv):(dw a w).bv.length=acZ a.bv-1/\(dw a w).aq.length=(acZ a.aq):=by
 have rem:=Cl ok hw;have h3:(dw a w).ai=eY a.ai (a.bv[w]!).2.2.2:=by unfold dw;split<;>rfl
 have h1:=rem.hl;have h2:=ok.hl;have h4:=rem.wl;rw [h3] at h1 h4;change _+(a.ai.bi++[_]).length=(acZ a.ai.aD) at h1;change _=(acZ a.ai.aD) at h4;rw [v6] at h1;simp only [M2,WF] at h1;exact ⟨by omega,by rw [h4,ok.wl]⟩
theorem YH {a:aF} {t:Int×Int} {n:Int} (ok:fu a) (pok:fu (jN a t n)):(jN a t n).aq.length=(acZ a.aq):=by have:=pok.wl;change _=(a.ai.aD.set _ _).length at this;rw [aaz] at this;rw [this,ok.wl]
section
variable {c : aI} (ok : bg c) {f : List Pt} (bY : bn f) (kn : ∀ i, i < (acZ c.af.ce) -> jZ f (c.af.ce[i]!).2)
include ok
theorem Bj {i:Nat} {x:pX} (hx:x∈c.af.ce.take i) (hi:i<acZ c.af.ce):x.1≠(c.af.ce[i]!).1:=by obtain ⟨j,h1,h2,rfl⟩:=cC.1 hx;have:=ok.wM.up j i h1 hi;omega
theorem vS {i:Nat} {x:pX} (hx:x∈c.af.ce.drop (i+1)) (hi:i<acZ c.af.ce):x.1≠(c.af.ce[i]!).1:=by obtain ⟨j,h1,rfl⟩:=aQ.1 hx;rw [If] at h1;rw [lG];have:=ok.wM.up i (i+1+j) (by omega) (by omega);omega
theorem P6 {i k:Nat} {a:aF} {ds:List pX} (inv:FB c f i k a ds) (hi:i<acZ c.af.ce) (was:(bw c.ii.am (c.af.ce[i]!).2 c.ci).2=adc): ∀e∈a.bv,Ev.num e≠(c.af.ce[i]!).1:=by
 have u1:Up (c.af.ce.take i):=ok.pY.sublist (List.take_sublist _ _);have u2:Up (c.af.ce.drop i):=ok.pY.sublist (List.drop_sublist _ _);have d1:=inv.new.up u1;have d2:=inv.old.up u2;have ahs: ∀x∈ds,∀y∈c.io.drop k,x.1<y.1:=by intro x hx y hy;obtain ⟨p,hp,h1,_⟩:=inv.new.io x hx;obtain ⟨q,hq,h2,_⟩:=inv.old.io y hy;obtain ⟨m,m1,m2,rfl⟩:=cC.1 hp;obtain ⟨n,n1,rfl⟩:=aQ.1 hq;rw [If] at n1;rw [lG] at h2;have:=ok.wM.up m (i+n) (by omega) (by omega);omega
 have nd:((ds++c.io.drop k).map fun x=>x.1).Nodup:=KX (by show List.Pairwise _ _;rw [List.pairwise_append];exact ⟨d1,d2,ahs⟩);have only:=C0 (H:=a.bv) nd (by rw [aaS,v6,If,inv.T4];exact aaC _) (fun n hn=>by
  obtain ⟨x,hx,rfl⟩:=aah.1 hn;rcases NE.1 hx with hx|hx
  · obtain ⟨p,hp,h1,h2,h3⟩:=inv.new.io x hx
    exact ⟨_,h3,h1.symm⟩
  obtain ⟨p,hp,h1,h2,h3⟩:=inv.old.io x hx
  exact ⟨_,h3,h1.symm⟩)
 intro e he dK;obtain ⟨x,hx,h1⟩:=aah.1 (only e he);rcases NE.1 hx with hx|hx
 · obtain ⟨p,hp,h2,_⟩:=inv.new.io x hx
   exact Bj ok hp hi (by rw [<- h2,h1,dK])
 obtain ⟨p,hp,h2,h3,_⟩:=inv.old.io x hx
 have hp':p∈c.af.ce:=List.mem_of_mem_drop hp;have:=ok.pY.inj hp' (aX hi) (by rw [<- h2,h1,dK]);rw [this,was] at h3;cases h3
def KZ (c:aI) (f:List Pt) (i:Nat) (a:aF) (ds:List pX):=
 (c.af.ce,((acZ c.af.ce):Int),(i:Int),c.ci.1,c.ci.2,c.ii.am,c.af.aM,c.af.ce,c.ae.ai.aD,c.ae.ai.be,c.ae.ai.bi,c.ae.bv,c.ae.aq,c.io,f,(0:Int),(0:Int),(0:Int),c.ci.1,c.ci.2,c.af.aM,c.af.ce,a.ai.aD,a.ai.be,a.ai.bi,a.bv,a.aq,f,ds)
def P7 (c:aI) (f:List Pt) (i:Nat) (a:aF) (ds:List pX):=
 ((i:Int),c.ci.1,c.ci.2,c.ii.am,c.af.aM,c.af.ce,c.ae.ai.aD,c.ae.ai.be,c.ae.ai.bi,c.ae.bv,c.ae.aq,c.io,f,(0:Int),(0:Int),(0:Int),c.ci.1,c.ci.2,f,c.af.aM,c.af.ce,a.ai.aD,a.ai.be,a.ai.bi,a.bv,a.aq,ds)
include bY kn
theorem Tm {i k:Nat} {a:aF} {ds:List pX} (inv:FB c f i k a ds) (hi:i<acZ c.af.ce) (Ug:(acZ ds)<=i):
 (bV (KZ c f i a ds)=ad2 (.done (.done (dJ,18)))/\cE (P7 c f i a ds)=ad2 (.done (dJ,18)))\/
 ∃k' a' Al,bV (KZ c f i a ds)=ad2 (.next (KZ c f (i+1) a' Al))/\cE (P7 c f i a ds)=ad2 (.next (P7 c f (i+1) a' Al))/\FB c f (i+1) k' a' Al/\acZ Al<=i+1:=by
 have bd:=ok.bd;have e1:ae1 ((i:Int)<((acZ c.af.ce):Int))=ad8:=aG (by omega);have sc:=ba (show i<1000000000 by omega);have cg:=au c.af.ce i hi;have hb:=kn i hi;have wn:=oY bY (x:=(c.af.ce[i]!).2) (t:=(c.ci.1,c.ci.2)) (ok.wM.cv i hi) ok.qw ok.gO;rw [rc hb] at wn;have wr:=zk bY (x:=(c.af.ce[i]!).2) (t:=(c.ci.1,c.ci.2)) ok.gO hb;have pd:=yI ok.z7 (by omega) (c.af.ce[i]!).1;have da:=KY c (c.af.ce[i]!).1 (by omega);have dr:=uH hi;have tk:=fE hi;have old:=inv.old;rw [dr] at old;have K0:aF.mk (aS.mk a.ai.aD a.ai.be a.ai.bi) a.bv a.aq=a:=rfl
 have qy:(aI.mk (c.ci.1,c.ci.2) (Field.mk c.ii.am) (bm.mk c.af.aM c.af.ce) (aF.mk (aS.mk c.ae.ai.aD c.ae.ai.be c.ae.ai.bi) c.ae.bv c.ae.aq) c.io)=c:=rfl;have other: ∀x∈c.af.ce.take i,x.1≠(c.af.ce[i]!).1:=fun x hx=>Bj ok hx hi
 have Tn: ∀x∈c.af.ce.drop (i+1),x.1≠(c.af.ce[i]!).1:=fun x hx=>vS ok hx hi
 cases YI:(bw c.ii.am (c.af.ce[i]!).2 c.ci).2 with
 |true=>
  obtain ⟨d,Al,hd1,hd2,hd3,hd4⟩:=(bc.gV YI).1 old;have hk:k<(acZ c.io):=by
   refine AC fun h=>?_
   rw [List.drop_eq_nil_of_le (by omega)] at hd1;cases hd1
  have dk:=uH hk;rw [dk] at hd1;injection hd1 with hd5 hd6;subst hd5 hd6;obtain ⟨w,hw,gx⟩:=aQ.1 hd3;have hh:(a.bv[w]!).2.2.2=(c.io[k]!).2:=by rw [gx]
  have aht:Ev.num a.bv[w]! =(c.af.ce[i]!).1:=by rw [gx]
  have before: ∀j,j<k->(c.io[j]!).1≠(c.af.ce[i]!).1:=fun j hj he=>by have:=oZ.1 ok.z7 j k hj hk;omega
  have pl:=pd.1 k hk hd2;have dq:=da.1 k hk hd2 before;have gk:=au c.io k hk;have k0:ae1 ((0:Int)<=(k:Int))=ad8:=aG (by omega);have ap:bk ds [c.io[k]!]=ad2 (ds++[c.io[k]!]):=cZ (by simp;omega);cases K1:(bw f (c.af.ce[i]!).2 c.ci).2 with
  |true=>
   right;have tt:bS (bw f (c.af.ce[i]!).2 c.ci).1/\nQ (bw f (c.af.ce[i]!).2 c.ci).1:=Fa (eb bY hb.2).1 (eb bY hb.1).1 ok.gO ok.qw K1;obtain ⟨t1,t2⟩:=tt;have re:=De inv.ok inv.ok.fit (t:=(bw f (c.af.ce[i]!).2 c.ci).1) hw hh t1 t2;have rr:=Ck inv.ok (t:=(bw f (c.af.ce[i]!).2 c.ci).1) hw hh t1 t2;have rok:=Tf inv.ok hw t1 t2;have P4:=P3 inv.ok hw t1;have To:=Cj inv.ok hw t1;have stay: ∀(cs:List pX),(∀x∈cs,x.1≠(c.af.ce[i]!).1)-> ∀x∈cs,∀e:Ev,e.num=x.1->e∈a.bv->e∈(jc a w (bw f (c.af.ce[i]!).2 c.ci).1).bv:=by
    intro cs lO x hx e he hm;refine (P4 e).2 (.inr ⟨hm,fun h=>lO x hx ?_⟩);rw [<- he,h,aht]
   refine ⟨k+1,jc a w (bw f (c.af.ce[i]!).2 c.ci).1,ds++[c.io[k]!],?_,?_,⟨rok,by rw [To.2];exact inv.w2,?_,?_,by omega,?_⟩,by simp;omega⟩
   · unfold bV KZ
     simp only [e1,lw,cg,aj,wn,pl,K1,gk,K0,re,ap,show ((0:Int) !=0)=adc from rfl,pp,sc]
   · unfold cE P7
     simp only [aA,e1,lw,cg,aj,qy,dq,wr,K1,k0,gk,K0,rr,ap,Do,pp,sc]
   · rw [tk]
     exact ((inv.new.mono (stay _ other)).snoc (x:=c.af.ce[i]!)).2 _ K1 hd2 ((P4 _).2 (.inl (by show _=((bw f (c.af.ce[i]!).2 c.ci).1.1,(bw f (c.af.ce[i]!).2 c.ci).1.2,(a.bv[w]!).2.2);rw [gx])))
   · exact hd4.mono (stay _ Tn)
   rw [To.1,inv.T4,v6]
   simp only [M2,WF];omega
  |false=>
   right;have rv:=oE inv.ok hw inv.ok.fit hh;have rr:=uE inv.ok hw hh;have rok:=Cl inv.ok hw;have P4:=Fu inv.ok hw;have To:=aed inv.ok hw;have stay: ∀(cs:List pX),(∀x∈cs,x.1≠(c.af.ce[i]!).1)-> ∀x∈cs,∀e:Ev,e.num=x.1->e∈a.bv->e∈(dw a w).bv:=by intro cs lO x hx e he hm;refine (P4 e).2 ⟨hm,fun h=>lO x hx ?_⟩;rw [<- he,h,aht]
   refine ⟨k+1,dw a w,ds,?_,?_,⟨rok,by rw [To.2];exact inv.w2,?_,hd4.mono (stay _ Tn),by omega,?_⟩,by omega⟩
   · unfold bV KZ
     simp only [e1,lw,cg,aj,wn,pl,K1,gk,K0,rv,show ((0:Int) !=0)=adc from rfl,pp,sc]
   · unfold cE P7
     simp only [aA,e1,lw,cg,aj,qy,dq,wr,K1,k0,gk,K0,rr,ww,pp,sc]
   · rw [tk]
     exact ((inv.new.mono (stay _ other)).snoc (x:=c.af.ce[i]!)).1 K1
   have:=inv.T4
   rw [To.1];omega
 |false=>
  have Df:=(bc.fQ YI).1 old;have no: ∀j,j<acZ c.io->(c.io[j]!).1≠(c.af.ce[i]!).1:=by intro j hj he;obtain ⟨x,hx,h1,h2,_⟩:=ok.Df.io _ (aX hj);have:=ok.pY.inj hx (aX hi) (by rw [<- h1,he]);rw [this,YI] at h2;cases h2
  obtain ⟨m,pl⟩:=pd.2 no;have dq:=da.2 no;have k0:ae1 ((0:Int)<= -1)=adc:=aE (by omega);cases K1:(bw f (c.af.ce[i]!).2 c.ci).2 with
  |true=>
   have tt:bS (bw f (c.af.ce[i]!).2 c.ci).1/\nQ (bw f (c.af.ce[i]!).2 c.ci).1:=Fa (eb bY hb.2).1 (eb bY hb.1).1 ok.gO ok.qw K1;obtain ⟨t1,t2⟩:=tt;have n0:=(ok.wM.nr i hi).1;have n1:(c.af.ce[i]!).1<=1000000:=by have:=(ok.wM.nr i hi).2;have:=ok.wM.n1;omega
   have fresh:=P6 ok inv hi YI
   by_cases op:uA a.ai
   · right
     have pu:=uB inv.ok op inv.ok.fit (t:=(bw f (c.af.ce[i]!).2 c.ci).1) (n:=(c.af.ce[i]!).1) t1 t2 n0 n1 fresh;have rp:=wk inv.ok op (t:=(bw f (c.af.ce[i]!).2 c.ci).1) (n:=(c.af.ce[i]!).1) t1 t2 n0 n1;have pok:=OB inv.ok op (t:=(bw f (c.af.ce[i]!).2 c.ci).1) (n:=(c.af.ce[i]!).1) t1 t2 n0 n1 fresh;have P5:=KQ inv.ok op (t:=(bw f (c.af.ce[i]!).2 c.ci).1) (n:=(c.af.ce[i]!).1) t1;have aec:=Be inv.ok op (t:=(bw f (c.af.ce[i]!).2 c.ci).1) (n:=(c.af.ce[i]!).1) t1;have ap: ∀h:Int×Int,bk ds [((c.af.ce[i]!).1,h)]=ad2 (ds++[((c.af.ce[i]!).1,h)]):=fun h=>cZ (by simp;omega)
     have opn:=oV inv.ok.so;rw [aG op] at opn;refine ⟨k,jN a (bw f (c.af.ce[i]!).2 c.ci).1 (c.af.ce[i]!).1,ds++[((c.af.ce[i]!).1,jM a.ai)],?_,?_,⟨pok,by rw [YH inv.ok pok];exact inv.w2,?_,?_,inv.kl,?_⟩,by simp;omega⟩
     · unfold bV KZ
       simp only [e1,lw,cg,aj,wn,pl,K1,K0,pu,ap,show ((0:Int) !=0)=adc from rfl,pp,sc]
     · unfold cE P7
       simp only [aA,e1,lw,cg,aj,qy,dq,wr,K1,k0,K0,rp,ap,Do,pp,sc,opn]
     · rw [tk]
       exact ((inv.new.mono fun x hx e he hm=>(P5 e).2 (.inr hm)).snoc (x:=c.af.ce[i]!)).2 _ K1 rfl ((P5 _).2 (.inl rfl))
     · exact Df.mono fun x hx e he hm=>(P5 e).2 (.inr hm)
     have:=inv.T4
     rw [aec,v6];simp only [M2,WF];omega
   left
   have pu:=uC inv.ok op inv.ok.fit (t:=(bw f (c.af.ce[i]!).2 c.ci).1) (n:=(c.af.ce[i]!).1) t1 t2 n0 n1 fresh;have ap: ∀h:Int×Int,bk ds [((c.af.ce[i]!).1,h)]=ad2 (ds++[((c.af.ce[i]!).1,h)]):=fun h=>cZ (by simp;omega)
   have opn:=oV inv.ok.so;rw [aE op] at opn;constructor
   · unfold bV KZ
     simp only [e1,lw,cg,aj,wn,pl,K1,K0,pu,ap,show ((18:Int) !=0)=ad8 from rfl,pp]
   unfold cE P7
   simp only [aA,e1,lw,cg,aj,qy,dq,wr,K1,k0,K0,Do,ww,pp,opn]
  |false=>
   right;refine ⟨k,a,ds,?_,?_,⟨inv.ok,inv.w2,?_,Df,inv.kl,inv.T4⟩,by omega⟩
   · unfold bV KZ
     simp only [e1,lw,cg,aj,wn,pl,K1,show ((0:Int) !=0)=adc from rfl,pp,sc]
   · unfold cE P7
     simp only [aA,e1,lw,cg,aj,qy,dq,wr,K1,k0,ww,pp,sc]
   rw [tk]
   exact (inv.new.snoc (x:=c.af.ce[i]!)).1 K1
theorem ZV:
 (jC c ⟨f⟩=ad2 (dJ,18)/\lV c ⟨f⟩=ad2 (dJ,18))\/
 ∃c':aI,jC c ⟨f⟩=ad2 (c',0)/\lV c ⟨f⟩=ad2 (c',0)/\bg c'/\c'.ii.am=f/\c'.ci=c.ci/\c'.af=c.af:=by
 have bd:=ok.bd;have f64:=bY.1;have run: ∀(d i k:Nat) (a:aF) (ds:List pX),acZ c.af.ce-i<=d->i<=acZ c.af.ce->FB c f i k a ds->acZ ds<=i->
  (ar bV (KZ c f i a ds)=ad2 (.done (dJ,18))/\ar cE (P7 c f i a ds)=ad2 (dJ,18))\/
  ∃c':aI,ar bV (KZ c f i a ds)=ad2 (.done (c',0))/\ar cE (P7 c f i a ds)=ad2 (c',0)/\bg c'/\c'.ii.am=f/\c'.ci=c.ci/\c'.af=c.af:=by
  have fin: ∀(k:Nat) (a:aF) (ds:List pX),FB c f (acZ c.af.ce) k a ds-> ∃c':aI,ar bV (KZ c f (acZ c.af.ce) a ds)=ad2 (.done (c',0))/\ar cE (P7 c f (acZ c.af.ce) a ds)=ad2 (c',0)/\bg c'/\c'.ii.am=f/\c'.ci=c.ci/\c'.af=c.af:=by
   intro k a ds inv;have e1:ae1 (((acZ c.af.ce):Int)<((acZ c.af.ce):Int))=adc:=aE (by omega);have hk:(acZ c.io)-k=0:=by have:=inv.old;rw [aav] at this;have:c.io.drop k=[]:=this;rw [List.drop_eq_nil_iff] at this;omega
   have new:=inv.new;rw [List.take_length] at new;refine ⟨⟨c.ci,⟨f⟩,c.af,a,ds⟩,aC ?_,aC ?_,⟨ok.qw,ok.gO,bY,ok.wM,inv.ok,inv.w2,?_,kn,new⟩,rfl,rfl,rfl⟩
   · unfold bV KZ
     simp only [e1,pp]
   · unfold cE P7
     simp only [aA,e1,pp]
   have:=inv.T4
   show (acZ a.bv)=acZ ds;omega
  intro d
  induction d with
  |zero=>
   intro i k a ds hd hi inv Ug;have:i=(acZ c.af.ce):=by omega
   subst this;exact .inr (fin k a ds inv)
  |succ d ih=>
   intro i k a ds hd hi inv Ug
   by_cases he:i=acZ c.af.ce
   · subst he;exact .inr (fin k a ds inv)
   rcases Tm ok bY kn inv (by omega) Ug with ⟨h1,h2⟩|⟨k',a',Al,h1,h2,h3,h4⟩
   · exact .inl ⟨aC h1,aC h2⟩
   rw [aV h1,aV h2]
   exact ih (i+1) k' a' Al (by omega) (by omega) h3 h4
 have start:=run (acZ c.af.ce) 0 0 c.ae [] (by omega) (by omega) ⟨ok.nR,ok.Gk,rfl,by rw [aal,aal];exact ok.Df,by omega,by have:=ok.hd;simp;omega⟩ (by simp);have hc:fI c=ad2 0:=by rw [ju ok.fit,rc ok]
 have hf:cT ⟨f⟩=ad2 0:=by rw [dU];exact congrArg ad2 (fh.2 bY)
 have tw:=fW ok;have tw':jI (aI.mk (c.ci.1,c.ci.2) (Field.mk c.ii.am) (bm.mk c.af.aM c.af.ce) (aF.mk (aS.mk c.ae.ai.aD c.ae.ai.be c.ae.ai.bi) c.ae.bv c.ae.aq) c.io)=ad2 c:=tw;have first:ar dQ (c.af.ce,((acZ c.af.ce):Int),0,c.ci.1,c.ci.2,c.ii.am,c.af.aM,c.af.ce,c.ae.ai.aD,c.ae.ai.be,c.ae.ai.bi,c.ae.bv,c.ae.aq,c.io,f,0,0,0)=
  ar dQ (c.af.ce,((acZ c.af.ce):Int),((acZ c.af.ce):Int),c.ci.1,c.ci.2,c.ii.am,c.af.aM,c.af.ce,c.ae.ai.aD,c.ae.ai.be,c.ae.ai.bi,c.ae.bv,c.ae.aq,c.io,f,0,0,0):=by
  refine cB (body:=dQ) (fun i=>(c.af.ce,((acZ c.af.ce):Int),(i:Int),c.ci.1,c.ci.2,c.ii.am,c.af.aM,c.af.ce,c.ae.ai.aD,c.ae.ai.be,c.ae.ai.bi,c.ae.bv,c.ae.aq,c.io,f,0,0,0)) (acZ c.af.ce) (fun i hi=>?_);have e1:ae1 ((i:Int)<((acZ c.af.ce):Int))=ad8:=aG (by omega);unfold dQ;simp only [e1,lw,au c.af.ce i hi,aj,jt bY,aE (Cp bY (kn i hi).1),aE (Cp bY (kn i hi).2),pp,ba (show i<1000000000 by omega)]
 have Tp: ∀r,ar bV (KZ c f 0 c.ae [])=ad2 (.done r)->jC c ⟨f⟩=ad2 r:=by intro r hr;unfold jC;simp only [hc,aj,show ((0:Int) !=0)=adc from rfl,pp,hf,aA];rw [first];refine aC ?_;unfold dQ;have e1:ae1 (((acZ c.af.ce):Int)<((acZ c.af.ce):Int))=adc:=aE (by omega);simp only [aA,e1,pp,tw',aj,aW (show (acZ f)<=1048576 by omega)];exact hr
 have ZW: ∀r,ar cE (P7 c f 0 c.ae [])=ad2 r->lV c ⟨f⟩=ad2 r:=by intro r hr;unfold lV oq;simp only [iO ok,aj,aW (show (acZ f)<=1048576 by omega)];exact hr
 rcases start with ⟨h1,h2⟩|⟨c',h1,h2,h3⟩
 · exact .inl ⟨Tp _ h1,ZW _ h2⟩
 exact .inr ⟨c',Tp _ h1,ZW _ h2,h3⟩
end
theorem iP (l:List (Int×Int)) (x:Int×Int) (hl:(acZ l)<=1000000):dP l x=ad2 (ae1 (x∈l)):=by
 unfold dP nu;have key:=iG (body:=iE) (fun i=>(l,((acZ l):Int),(i:Int),x)) (acZ l) (fun i=>l[i]! =x) (fun i=>(i:Int)) (e:= -1) (fun i hi=>by
  have e1:ae1 ((i:Int)<((acZ l):Int))=ad8:=aG (by omega);unfold iE;simp only [e1,lw,au l i hi,aj,ba (show i<1000000000 by omega)];generalize l[i]! =y;constructor
  · intro h;rw [eT (congrArg acl h.symm),eT (congrArg Prod.snd h.symm)];rfl
  · intro h
    by_cases h1:x.1=y.1
    · rw [eT h1,eu (fun h2=>h (ac1 h1.symm h2.symm))];rfl
    rw [eu h1];rfl) (by
  unfold iE;have:ae1 (((acZ l):Int)<((acZ l):Int))=adc:=aE (by omega);simp only [this,pp])
 rw [aA]
 by_cases hx:x∈l
 · obtain ⟨i,hi,he⟩:=aQ.1 hx
   obtain ⟨k,h1,h2,h3⟩:=least (c:=fun i=>l[i]! =x) ⟨i,hi,he⟩;have:=key.1 k h1 h2 h3;rw [show ((0:Nat):Int)=0 from rfl] at this;rw [this,aG hx];simp only [aj,aG (show (0:Int)<=(k:Int) by omega)]
 have:=key.2 fun i hi he=>hx (aQ.2 ⟨i,hi,he⟩)
 rw [show ((0:Nat):Int)=0 from rfl] at this;rw [this,aE hx];rfl
theorem C2 (l:List (Int×Int)) (x:Int×Int) (hl:(acZ l)<=1000000):E6 l x=ad2 (ae1 (x∈l)):=by
 unfold E6;have key:=ff (body:=sD) (fun i=>(l,(i:Int),x)) (acZ l) (fun i=>l[i]! =x) (r:=ad8) (e:=adc) (fun i hi=>by
  have e1:ae1 ((i:Int)<((acZ l):Int))=ad8:=aG (by omega);unfold sD;simp only [aA,e1,lw,au l i hi,aj,ba (show i<1000000000 by omega)];generalize l[i]! =y;constructor
  · intro h;rw [eT (congrArg acl h),eT (congrArg Prod.snd h)];rfl
  · intro h
    by_cases h1:y.1=x.1
    · rw [eT h1,eu (fun h2=>h (ac1 h1 h2))];rfl
    rw [eu h1];rfl) (by
  unfold sD;have:ae1 (((acZ l):Int)<((acZ l):Int))=adc:=aE (by omega);simp only [aA,this,pp])
 by_cases hx:x∈l
 · rw [aG hx];exact key.1 (aQ.1 hx)
 rw [aE hx];exact key.2 fun i hi he=>hx (aQ.2 ⟨i,hi,he⟩)
theorem Tq (x y:pX):((x.1==y.1)&&((x.2.1==y.2.1)&&(x.2.2==y.2.2)))=ae1 (x=y):=by
 rw [Bool.eq_iff_iff,decide_eq_true_iff];simp only [Bool.and_eq_true,beq_iff_eq];constructor
 · rintro ⟨h1,h2,h3⟩;exact ac1 h1 (ac1 h2 h3)
 rintro rfl;exact ⟨rfl,rfl,rfl⟩
theorem K2 (a b:List pX) (hl:(acZ a)<=1000000):zX ⟨a⟩ ⟨b⟩=ad2 (ae1 (a=b)):=by
 unfold zX;simp only [aA]
 by_cases h:(acZ a)=acZ b
 case neg=>rw [dZ (by omega),aE (fun k=>h (by rw [k]))];rfl
 rw [cS (by omega)];simp only [pp];have key:=ff (body:=oU) (fun i=>((i:Int),a,b)) (acZ a) (fun i=> ¬a[i]! =b[i]!) (r:=adc) (e:=ad8) (fun i hi=>by
  have e1:ae1 ((i:Int)<((acZ a):Int))=ad8:=aG (by omega);unfold oU;simp only [aA,e1,lw,au a i hi,au b i (by omega),aj,ba (show i<1000000000 by omega),Tq];constructor
  · intro h;rw [aE h];rfl
  · intro h;rw [aG (IR.1 h)];rfl) (by
  unfold oU;have:ae1 (((acZ a):Int)<((acZ a):Int))=adc:=aE (by omega);simp only [aA,this,pp])
 by_cases he:a=b
 · rw [aG he]
   exact key.2 fun i hi=>IR.2 (by rw [he])
 rw [aE he]
 refine key.1 (AC fun hx=>he (rh h fun i hi=>?_));exact AC fun hn=>hx ⟨i,hi,hn⟩
theorem qz (a b:List pX) (hl:(acZ a)<=1000000):jK a b=ad2 (ae1 (a=b)):=by
 unfold jK;simp only [aA]
 by_cases h:(acZ a)=acZ b
 case neg=>rw [dZ (by omega),aE (fun k=>h (by rw [k]))];rfl
 rw [cS (by omega)];simp only [pp];have key:=ff (body:=ig) (fun i=>(a,b,((acZ a):Int),(i:Int))) (acZ a) (fun i=> ¬a[i]! =b[i]!) (r:=adc) (e:=ad8) (fun i hi=>by
  have e1:ae1 ((i:Int)<((acZ a):Int))=ad8:=aG (by omega);unfold ig;simp only [e1,lw,au a i hi,au b i (by omega),aj,ba (show i<1000000000 by omega),Tq];constructor
  · intro h;rw [aE h];rfl
  · intro h;rw [aG (IR.1 h)];rfl) (by
  unfold ig;have:ae1 (((acZ a):Int)<((acZ a):Int))=adc:=aE (by omega);simp only [this,pp])
 by_cases he:a=b
 · rw [aG he]
   exact key.2 fun i hi=>IR.2 (by rw [he])
 rw [aE he]
 refine key.1 (AC fun hx=>he (rh h fun i hi=>?_));exact AC fun hn=>hx ⟨i,hi,hn⟩
theorem Hl {cs:List pX} {m:Nat} {x:pX} (hx:x∈cs) (dK:x.1≠(cs[m]!).1):x∈cs.eraseIdx m:=by
 obtain ⟨j,hj,rfl⟩:=aQ.1 hx;have hjm:j≠m:=fun h=>dK (by rw [h])
 rw [ry,NE]
 by_cases h:j<m
 · exact .inl (cC.2 ⟨j,h,hj,rfl⟩)
 right
 rw [aQ];refine ⟨j- (m+1),by rw [If];omega,?_⟩;rw [lG]
 congr 1;omega
def kP (c0:aI) (f:List Pt) (es:List (Int×Int)) (i:Nat) (c:aI):=
 (es,c0.af.ce,((acZ c0.af.ce):Int),(i:Int),c.ci.1,c.ci.2,c.ii.am,c.af.aM,c.af.ce,c.ae.ai.aD,c.ae.ai.be,c.ae.ai.bi,c.ae.bv,c.ae.aq,c.io,f,(0:Int),(0:Int),(0:Int))
def kR (c0:aI) (f:List Pt) (es:List (Int×Int)) (i:Nat) (c:aI):=
 (es,(i:Int),c0.ci.1,c0.ci.2,c0.ii.am,c0.af.aM,c0.af.ce,c0.ae.ai.aD,c0.ae.ai.be,c0.ae.ai.bi,c0.ae.bv,c0.ae.aq,c0.io,f,(0:Int),(0:Int),(0:Int),c.ci.1,c.ci.2,c.ii.am,c.af.aM,c.af.ce,c.ae.ai.aD,c.ae.ai.be,c.ae.ai.bi,c.ae.bv,c.ae.aq,c.io)
def eP (es:List (Int×Int)) (i:Nat) (c:aI):=
 (es,((acZ es):Int),(i:Int),c.ci.1,c.ci.2,c.ii.am,c.af.aM,c.af.ce,c.ae.ai.aD,c.ae.ai.be,c.ae.ai.bi,c.ae.bv,c.ae.aq,c.io,(0:Int),(0:Int),(0:Int))
def eR (es:List (Int×Int)) (i:Nat) (c:aI):=
 (es,(i:Int),(0:Int),(0:Int),(0:Int),c.ci.1,c.ci.2,c.ii.am,c.af.aM,c.af.ce,c.ae.ai.aD,c.ae.ai.be,c.ae.ai.bi,c.ae.bv,c.ae.aq,c.io)
def Bk (c:aI):Int:=c.af.aM- ((acZ c.af.ce):Int)
structure C3 (c:aI) (f:List Pt) (es:List (Int×Int)) (r:aI):Prop where
 has: ∀e∈es,wG r.af.ce e
 sub: ∀x∈r.af.ce,x.2∈es
 ok:bg r
 j0:r.ii.am=f
 ci:r.ci=c.ci
 room:Bk c<=Bk r
def Roomy (c:aI) (k:Nat):Prop:=acZ c.af.ce<=k/\c.af.aM<=k/\ ∀j,j<acZ c.ae.ai.aD->c.ae.ai.aD[j]!<=k
theorem bc.len {l:List Pt} {t:Int×Int} {H:List Ev}: ∀{cs ds:List pX},bc l t H cs ds->acZ ds<=acZ cs
 | [],ds,h=>by rw [show ds=[] from h];exact aaC _
 |x::cs,ds,h=>by
  cases hy:(bw l x.2 t).2 with
  |true=>obtain ⟨d,Al,rfl,_,_,h4⟩:=h.1 hy;exact Nat.succ_le_succ h4.len
  |false=>exact Nat.le_succ_of_le (h.2 hy).len
theorem Roomy.FC {c:aI} (ok:bg c) {k:Nat} (h:Roomy c k) (hk:k<=199): ¬(zj c.af\/ ¬uA c.ae.ai):=by
 obtain ⟨h1,h2,h3⟩:=h;have fl:=ok.Df.len;have hd:=ok.hd;have hl:=ok.nR.hl;have wl:=ok.nR.wl;have w2:=ok.Gk;rintro (h|h)
 · rcases h with h|h<;>omega
 refine h ⟨by omega,?_⟩
 have:=h3 _ (vM ok.nR.so (by omega)).1;omega
theorem Roomy.more {c c':aI} {k:Nat} (h:Roomy c k) {x:Int×Int} (hc:c'.af=mg c.af x) (hs:c'.ae.ai=c.ae.ai\/c'.ae.ai=fP c.ae.ai):Roomy c' (k+1):=by
 obtain ⟨h1,h2,h3⟩:=h;refine ⟨?_,?_,fun j hj=>?_⟩
 · rw [hc]
   show (c.af.ce++[(c.af.aM,x)]).length<=_;rw [v6,UV];omega
 · rw [hc]
   show c.af.aM+1<=_;omega
 rcases hs with e|e
 · rw [e] at hj ⊢
   have:=h3 j hj;omega
 rw [e] at hj ⊢
 change j<(c.ae.ai.aD.set _ _).length at hj;rw [aaz] at hj;show (c.ae.ai.aD.set (cM c.ae.ai) (c.ae.ai.aD[cM c.ae.ai]!+1))[j]!<=_;rw [aT];split
 · rename_i h;have:=h3 _ h.2;omega
 have:=h3 j hj;omega
structure o3 (f:List Pt) (es:List (Int×Int)):Prop where
 len:(acZ es)<=1000000
 cv: ∀x∈es,fi x
 kn: ∀x∈es,jZ f x
theorem Ts {c0:aI} (ok0:bg c0) {f:List Pt} {es:List (Int×Int)} (uK:o3 f es):
 ∀(d i:Nat) (c:aI),acZ c0.af.ce-i<=d->i<=acZ c0.af.ce->bg c->(∀x∈c0.af.ce.drop i,x∈c.af.ce)->(∀x∈c.af.ce,x∈c0.af.ce.drop i\/x.2∈es)->
  ∃c':aI,ar bC (kP c0 f es i c)=ar bC (kP c0 f es (acZ c0.af.ce) c')/\ar di (kR c0 f es i c)=ar di (kR c0 f es (acZ c0.af.ce) c')/\bg c'/\(∀x∈c'.af.ce,x.2∈es)/\c'.ii=c.ii/\c'.ci=c.ci/\Bk c<=Bk c':=by
 have bd:=ok0.bd;intro d
 induction d with
 |zero=>
  intro i c hd hi ok h1 h2;have:i=(acZ c0.af.ce):=by omega
  subst this;refine ⟨c,rfl,rfl,ok,fun x hx=>?_,rfl,rfl,aaG _⟩;rcases h2 x hx with h|h
  · rw [aav] at h;cases h
  exact h
 |succ d ih=>
  intro i c hd hi ok h1 h2
  by_cases he:i=acZ c0.af.ce
  · subst he
    refine ⟨c,rfl,rfl,ok,fun x hx=>?_,rfl,rfl,aaG _⟩;rcases h2 x hx with h|h
    · rw [aav] at h;cases h
    exact h
  have tY:i<(acZ c0.af.ce):=by omega
  have e1:ae1 ((i:Int)<((acZ c0.af.ce):Int))=ad8:=aG (by omega);have sc:=ba (show i<1000000000 by omega);have cg:=au c0.af.ce i tY;have dr:=uH tY;have qy:(aI.mk (c.ci.1,c.ci.2) (Field.mk c.ii.am) (bm.mk c.af.aM c.af.ce) (aF.mk (aS.mk c.ae.ai.aD c.ae.ai.be c.ae.ai.bi) c.ae.bv c.ae.aq) c.io)=c:=rfl
  by_cases qI:(c0.af.ce[i]!).2∈es
  · have s1:bC (kP c0 f es i c)=ad2 (.next (kP c0 f es (i+1) c)):=by
     unfold bC kP;simp only [e1,lw,cg,aj,iP _ _ uK.len,aG qI,Do,pp,sc]
    have s2:di (kR c0 f es i c)=ad2 (.next (kR c0 f es (i+1) c)):=by unfold di kR;simp only [aA,e1,lw,cg,aj,C2 _ _ uK.len,aG qI,Do,pp,sc]
    rw [aV s1,aV s2];refine ih (i+1) c (by omega) (by omega) ok (fun x hx=>h1 x (by rw [dr];exact EQ _ hx)) (fun x hx=>?_);rcases h2 x hx with h|h
    · rw [dr] at h
      rcases ac2.1 h with rfl|h
      · exact .inr qI
      exact .inl h
    exact .inr h
  have hm:=h1 (c0.af.ce[i]!) (by rw [dr];exact aau)
  obtain ⟨m,N4,LQ⟩:=aQ.1 hm;obtain ⟨c',r1,r2,r3,r4,r5,r6⟩:=Tk ok N4;have rt:=wm ok N4 r1;rw [LQ] at r2 rt;have s1:bC (kP c0 f es i c)=ad2 (.next (kP c0 f es (i+1) c')):=by unfold bC kP;simp only [e1,lw,cg,aj,iP _ _ uK.len,aE qI,ww,sc,qy,rt]
  have s2:di (kR c0 f es i c)=ad2 (.next (kR c0 f es (i+1) c')):=by unfold di kR;simp only [aA,e1,lw,cg,aj,C2 _ _ uK.len,aE qI,ww,sc,qy,r2]
  rw [aV s1,aV s2];have cl:c'.af.ce=c.af.ce.eraseIdx m:=by rw [r6];rfl
  have rW:Bk c<=Bk c':=by unfold Bk;rw [r6];show _<=c.af.aM- (((c.af.ce.eraseIdx m).length:Nat):Int);rw [List.length_eraseIdx_of_lt N4];omega
  have hs:(∀x∈c0.af.ce.drop (i+1),x∈c'.af.ce)/\(∀x∈c'.af.ce,x∈c0.af.ce.drop (i+1)\/x.2∈es):=by
   refine ⟨fun x hx=>?_,fun x hx=>?_⟩
   · rw [cl]
     refine Hl (h1 x (by rw [dr];exact EQ _ hx)) ?_;rw [LQ];exact vS ok0 hx tY
   rw [cl] at hx
   obtain ⟨a1,a2⟩:=qx ok.pY N4 hx;rw [LQ] at a2;rcases h2 x a1 with h|h
   · rw [dr] at h
     rcases ac2.1 h with rfl|h
     · exact absurd rfl a2
     exact .inl h
   exact .inr h
  obtain ⟨d',q1,q2,q3,q4,q5,q6,q7⟩:=ih (i+1) c' (by omega) (by omega) r3 hs.1 hs.2;exact ⟨d',q1,q2,q3,q4,q5.trans r4,q6.trans r5,by omega⟩
theorem K3 {f:List Pt} (_fok:bn f) {es:List (Int×Int)} (uK:o3 f es):
 ∀(d i:Nat) (c:aI),acZ es-i<=d->i<=acZ es->bg c->c.ii.am=f->(∀x∈c.af.ce,x.2∈es)->(∀j,j<i->wG c.af.ce es[j]!)->
  ∃r:aI×Int,ar cp (eP es i c)=ad2 (.done r)/\ar dD (eR es i c)=ad2 (.done r)/\(r.2=0/\C3 c f es r.1\/r=(dJ,18))/\(∀k,Roomy c k->k+(acZ es-i)<=199->r.2=0):=by
 have el:=uK.len;have fin: ∀c:aI,bg c->c.ii.am=f->(∀x∈c.af.ce,x.2∈es)->(∀j,j<acZ es->wG c.af.ce es[j]!)-> ∃r:aI×Int,ar cp (eP es (acZ es) c)=ad2 (.done r)/\ar dD (eR es (acZ es) c)=ad2 (.done r)/\(r.2=0/\C3 c f es r.1\/r=(dJ,18))/\r.2=0:=by
  intro c ok hf hs hh;have e1:ae1 (((acZ es):Int)<((acZ es):Int))=adc:=aE (by omega);refine ⟨(c,0),aC ?_,aC ?_,.inl ⟨rfl,fun e he=>by obtain ⟨j,hj,q⟩:=aQ.1 he;rw [<- q];exact hh j hj,hs,ok,hf,rfl,aaG _⟩,rfl⟩
  · unfold cp eP
    simp only [e1,pp]
  unfold dD eR
  simp only [aA,e1,pp]
 intro d
 induction d with
 |zero=>
  intro i c hd hi ok hf hs hh;have:i=(acZ es):=by omega
  subst this;obtain ⟨r,q1,q2,q3,q4⟩:=fin c ok hf hs hh;exact ⟨r,q1,q2,q3,fun _ _ _=>q4⟩
 |succ d ih=>
  intro i c hd hi ok hf hs hh
  by_cases he:i=acZ es
  · subst he
    obtain ⟨r,q1,q2,q3,q4⟩:=fin c ok hf hs hh;exact ⟨r,q1,q2,q3,fun _ _ _=>q4⟩
  have bd:=ok.bd;have tY:i<(acZ es):=by omega
  have e1:ae1 ((i:Int)<((acZ es):Int))=ad8:=aG (by omega);have sc:=ba (show i<1000000000 by omega);have cg:=au es i tY;have qy:(aI.mk (c.ci.1,c.ci.2) (Field.mk c.ii.am) (bm.mk c.af.aM c.af.ce) (aF.mk (aS.mk c.ae.ai.aD c.ae.ai.be c.ae.ai.bi) c.ae.bv c.ae.aq) c.io)=c:=rfl;have Tt:bm.mk c.af.aM c.af.ce=c.af:=rfl;have hc:=Fz c.af.ce es[i]! (by omega);have hr:=Bh c.af es[i]! (by omega)
  by_cases qI:wG c.af.ce es[i]!
  · have s1:cp (eP es i c)=ad2 (.next (eP es (i+1) c)):=by
     unfold cp eP;simp only [e1,lw,cg,aj,uF,hc,aG qI,sc]
    have s2:dD (eR es i c)=ad2 (.next (eR es (i+1) c)):=by unfold dD eR;simp only [aA,e1,lw,cg,aj,Tt,hr,aG qI,sc]
    rw [aV s1,aV s2];obtain ⟨r,q1,q2,q3,q4⟩:=ih (i+1) c (by omega) (by omega) ok hf hs (fun j hj=>if q:j=i then by rw [q];exact qI else hh j (by omega));exact ⟨r,q1,q2,q3,fun k hk hl=>q4 k hk (by omega)⟩
  have hb:jZ c.ii.am es[i]!:=by rw [hf];exact uK.kn _ (aX tY)
  rcases OD ok (uK.cv _ (aX tY)) hb qI with ⟨r1,r2,full⟩|⟨c',r1,r2,r3,r4,r5,r6,r7⟩
  · refine ⟨(dJ,18),aC ?_,aC ?_,.inr rfl,fun k hk hl=>absurd full (hk.FC ok (by omega))⟩
    · unfold cp eP
      simp only [e1,lw,cg,aj,uF,hc,aE qI,pp,qy,r1,show ((18:Int) !=0)=ad8 from rfl]
    unfold dD eR
    simp only [aA,e1,lw,cg,aj,Tt,hr,aE qI,pp,qy,r2,show ((18:Int) !=0)=ad8 from rfl]
  have s1:cp (eP es i c)=ad2 (.next (eP es (i+1) c')):=by
   unfold cp eP;simp only [e1,lw,cg,aj,uF,hc,aE qI,pp,qy,r1,show ((0:Int) !=0)=adc from rfl,sc]
  have s2:dD (eR es i c)=ad2 (.next (eR es (i+1) c')):=by unfold dD eR;simp only [aA,e1,lw,cg,aj,Tt,hr,aE qI,pp,qy,r2,show ((0:Int) !=0)=adc from rfl,sc]
  rw [aV s1,aV s2];obtain ⟨r,q1,q2,q3,q6⟩:=ih (i+1) c' (by omega) (by omega) r3 (by rw [r4,hf]) (fun x hx=>by
   rw [r6] at hx;rcases NE.1 (show x∈c.af.ce++[(c.af.aM,es[i]!)] from hx) with h|h
   · exact hs x h
   · rw [List.mem_singleton.1 h];exact aX tY) (fun j hj=>by
   rw [r6];show wG (c.af.ce++[(c.af.aM,es[i]!)]) _
   by_cases q:j=i
   · rw [q];exact ⟨acZ c.af.ce,by rw [v6,UV];omega,by rw [cV (aaC _),Nat.sub_self];rfl⟩
   obtain ⟨w,w1,w2⟩:=hh j (by omega)
   exact ⟨w,by rw [v6];omega,by rw [bN w1];exact w2⟩)
  refine ⟨r,q1,q2,q3.imp (fun ⟨q4,q5⟩=>⟨q4,q5.has,q5.sub,q5.ok,q5.j0,q5.ci.trans r5,aax ?_ q5.room⟩) id,fun k hk hl=>q6 (k+1) (hk.more r6 r7) (by omega)⟩;unfold Bk;rw [r6];show _<=(c.af.aM+1) - (((c.af.ce++[(c.af.aM,es[i]!)]).length:Nat):Int);rw [v6,UV];omega
theorem OE {c:aI} (ok:bg c) {f:List Pt} (bY:bn f) {es:List (Int×Int)} (uK:o3 f es):
 ∃r:aI×Int,iF c ⟨f⟩ es=ad2 r/\kq c ⟨f⟩ es=ad2 r/\(r.2=0/\C3 c f es r.1\/r=(dJ,18)):=by
 have f64:=bY.1;obtain ⟨c',g1,g2,g3,g4,g5,g6,g7⟩:=Ts ok uK (acZ c.af.ce) 0 c (by omega) (by omega) ok (fun x hx=>by rwa [aal] at hx) (fun x hx=> .inl (by rwa [aal]));have bd:=g3.bd;have e1:ae1 (((acZ c.af.ce):Int)<((acZ c.af.ce):Int))=adc:=aE (by omega);have aee:iF c ⟨f⟩ es=ar bC (kP c f es 0 c):=rfl;have aef:kq c ⟨f⟩ es=ar di (kR c f es 0 c):=by unfold kq;simp only [iO ok,aj];rfl
 rw [aee,aef,g1,g2];have eq1:=qz c'.ii.am f (by omega);have eq2:=K2 c'.ii.am f (by omega);have qy:(aI.mk (c'.ci.1,c'.ci.2) (Field.mk c'.ii.am) (bm.mk c'.af.aM c'.af.ce) (aF.mk (aS.mk c'.ae.ai.aD c'.ae.ai.be c'.ae.ai.bi) c'.ae.bv c'.ae.aq) c'.io)=c':=rfl
 by_cases hf:c'.ii.am=f
 · obtain ⟨r,i1,i2,i3,_⟩:=K3 bY uK (acZ es) 0 c' (by omega) (by omega) g3 hf g4 (fun j hj=>absurd hj (ac0 j))
   refine ⟨r,aC ?_,aC ?_,i3.imp (fun ⟨q4,q5⟩=>⟨q4,q5.has,q5.sub,q5.ok,q5.j0,q5.ci.trans g6,aax g7 q5.room⟩) id⟩
   · unfold bC kP
     simp only [e1,pp,eq1,aG hf,aj,Do];exact i1
   unfold di kR
   simp only [aA,e1,pp,eq2,aG hf,aj,Do];exact i2
 have kn: ∀i,i<acZ c'.af.ce->jZ f (c'.af.ce[i]!).2:=fun i hi=>uK.kn _ (g4 _ (aX hi))
 rcases ZV g3 bY kn with ⟨a1,a2⟩|⟨c2,a1,a2,a3,a4,a5,a6⟩
 · refine ⟨(dJ,18),aC ?_,aC ?_,.inr rfl⟩
   · unfold bC kP
     simp only [e1,pp,eq1,aE hf,aj,ww,lw,qy,a1,show ((18:Int) !=0)=ad8 from rfl]
   unfold di kR
   simp only [aA,e1,pp,eq2,aE hf,aj,ww,lw,qy,a2,show ((18:Int) !=0)=ad8 from rfl]
 obtain ⟨r,i1,i2,i3,_⟩:=K3 bY uK (acZ es) 0 c2 (by omega) (by omega) a3 a4 (by rw [a6];exact g4) (fun j hj=>absurd hj (ac0 j))
 refine ⟨r,aC ?_,aC ?_,i3.imp (fun ⟨q4,q5⟩=>⟨q4,q5.has,q5.sub,q5.ok,q5.j0,(q5.ci.trans a5).trans g6,aax (aax g7 (by unfold Bk;rw [a6];exact aaG _)) q5.room⟩) id⟩
 · unfold bC kP
   simp only [e1,pp,eq1,aE hf,aj,ww,lw,qy,a1,show ((0:Int) !=0)=adc from rfl];exact i1
 unfold di kR
 simp only [aA,e1,pp,eq2,aE hf,aj,ww,lw,qy,a2,show ((0:Int) !=0)=adc from rfl];exact i2
theorem FD {α:Type} [Inhabited α] {l:List α}:l.Nodup↔ ∀k,k<acZ l->l[k]!∉l.take k:=by
 rw [iN];constructor
 · intro h k hk hm
   obtain ⟨i,h1,h2,h3⟩:=cC.1 hm;exact h i k h1 hk h3
 intro h i j kL hj he
 exact h j hj (cC.2 ⟨i,kL,by omega,he⟩)
theorem xO {α:Type} [Inhabited α] {l:List α} {P:α->Prop}:(∀x∈l,P x)↔ ∀i,i<acZ l->P l[i]!:=by
 constructor
 · intro h i hi;exact h _ (aX hi)
 intro h x hx
 obtain ⟨i,hi,rfl⟩:=aQ.1 hx;exact h i hi
theorem z8 {σ ρ:Type} {body:σ->Option (Step σ ρ)} (st:Nat->σ) (n:Nat) (P:Nat->Prop) {r e:ρ} (h: ∀i,i<n->(¬P i->body (st i)=ad2 (.done r))/\(P i->body (st i)=ad2 (.next (st (i+1)))))
 (SX:body (st n)=ad2 (.done e)):ar body (st 0)=ad2 (if∀i,i<n->P i then e else r):=by
 have key:=ff (body:=body) st n (fun i=> ¬P i) (r:=r) (e:=e) (fun i hi=>⟨(h i hi).1,fun hn=>(h i hi).2 (IR.1 hn)⟩) SX
 by_cases hx: ∀i,i<n->P i
 · rw [rc hx];exact key.2 fun i hi=>IR.2 (hx i hi)
 rw [ut hx]
 obtain ⟨i,h⟩:=Classical.not_forall.1 hx;obtain ⟨hi,hx⟩:=Classical.not_imp.1 h;exact key.1 ⟨i,hi,hx⟩
theorem zl {f:List Pt} (bY:bn f) (id:Int): ∃p e,qT ⟨f⟩ id=ad2 (p,e)/\(e=0↔fJ f id):=by
 have h1:=bY.1;have hc:cT ⟨f⟩=ad2 0:=by rw [dU];exact congrArg ad2 (fh.2 bY)
 have bs:=oX f id (by omega) (fun i j=>eh bY.2.2);unfold qT jA iJ;rw [Bg];simp only [hc,aj,show ((0:Int) !=0)=adc from rfl,pp]
 by_cases h:fJ f id
 · obtain ⟨k,hk,he⟩:=h
   rw [bs.1 k hk he];refine ⟨f[k]!,0,?_,fun _=>⟨k,hk,he⟩,fun _=>rfl⟩;simp only [aj,Do,pp,show ((0:Int) !=0)=adc from rfl,au f k hk]
 obtain ⟨m,_,_,_,e⟩:=bs.2 (fun k hk he=>h ⟨k,hk,he⟩)
 rw [e];exact ⟨(0,0,0),6,rfl,fun h=>(by cases h),fun k=>absurd k h⟩
structure OF (c:aI):Prop where
 f:(acZ c.ii.am)<=1000000
 l:(acZ c.af.ce)<=1000000
 d:(acZ c.io)<=1000000
 h:(acZ c.ae.bv)<=1000000
 w:(acZ c.ae.aq)<=1000000
 s1:(acZ c.ae.ai.aD)<=1000000
 s2:(acZ c.ae.ai.be)<=1000000
 s3:(acZ c.ae.ai.bi)<=1000000
theorem bg.short {c:aI} (ok:bg c):OF c:=by have bd:=ok.bd;have ab:=ok.nR.bd;have sl:=ok.nR.so.fl;have sn:=ok.nR.so.n2;have su:=ok.nR.so.ul;exact ⟨by omega,by omega,by omega,by omega,by omega,by omega,by omega,by omega⟩
theorem Gl:OF dJ:=⟨by decide,by decide,by decide,by decide,by decide,by decide,by decide,by decide⟩
structure Tu (c:aI):Prop where
 ci:nQ c.ci
 Te: ∀w,w<acZ c.ae.bv->nQ ((c.ae.bv[w]!).1,(c.ae.bv[w]!).2.1)
theorem YJ (p q:Pt) (t:Int×Int):G9 p q t=(p.2.1-q.2.1)*t.2+(p.2.2-q.2.2)*t.1:=rfl
theorem Dg {p q:Pt} {t:Int×Int} (hp:eO p) (hq:eO q) (ht:nQ t) (hr:bS t):np p q t=ad2 (ae1 (leads p q t),if p.1=q.1 then 2 else 0)\/(p.1=q.1/\np p q t=ad2 (adc,2)):=by
 unfold np;rw [tq ht,rc ⟨hp,hq,hr⟩]
 by_cases h:p.1=q.1
 · right;simp [h]
 left
 simp only [h,if_false,aj,sH hp hq ht];have:ae1 (0<MS p q t)=ae1 (leads p q t):=by simp only [E']
 simp [this]
end Go.Proofs.YtclphlgnjkajbaaGreat
namespace Go.Proofs.YtclphlgnjkajbaaGreat
open Go.Vm
theorem Aa {α:Type} [BEq α] [LawfulBEq α]: ∀{a b:List α},a.Nodup->(∀x∈a,x∈b)->acZ b<=acZ a->a.Perm b
 | [],b,_,_,hl=>by rw [List.eq_nil_of_length_eq_zero (show (acZ b)=0 by simpa using hl)]
 |x::a,b,hd,h,hl=>by
  rw [aaB] at hd;have hx:=h x aau;have ih:=Aa (a:=a) (b:=b.erase x) hd.2 (fun y hy=>by
   rw [List.mem_erase_of_ne (fun e=>hd.1 (by rw [<- e];exact hy))];exact h y (EQ _ hy)) (by
   rw [List.length_erase_of_mem hx];rw [M2] at hl;omega)
  exact (List.Perm.cons x ih).trans (List.perm_cons_erase hx).symm
theorem rA {α β:Type} {f:α->β}: ∀{l:List α},l.Nodup->(∀x∈l,∀y∈l,f x=f y->x=y)->(l.map f).Nodup
 | [],_,_=>List.nodup_nil
 |x::l,h,hi=>by rw [aaB] at h;rw [List.map_cons,aaB];refine ⟨fun hm=>?_,rA h.2 fun y hy z hz=>hi y (EQ _ hy) z (EQ _ hz)⟩;obtain ⟨y,hy,e⟩:=aah.1 hm;have:=hi y (EQ _ hy) x aau e;rw [this] at hy;exact h.1 hy
end Go.Proofs.YtclphlgnjkajbaaGreat
namespace Go.Proofs.YtclphlgnjkajbaaGreat
open Go.Vm Classical
def Cq (l:List Int) (k:Nat):List (Int×Int):=(List.range k).map fun i=>(l[i+1]!,l[i / 2]!)
abbrev xP (l:List Int):List (Int×Int):=Cq l (acZ l-1)
theorem Ab (l:List Int) (k:Nat):(Cq l k).length=k:=by unfold Cq;rw [aaS,List.length_range]
theorem C4 (l:List Int) {k i:Nat} (h:i<k):(Cq l k)[i]! =(l[i+1]!,l[i / 2]!):=by rw [getElem!_pos _ i (by rw [Ab];exact h)];unfold Cq;rw [List.getElem_map,List.getElem_range]
theorem K4 {l:List Int} (hd:l.Nodup):(xP l).Nodup:=by
 unfold xP Cq;refine rA List.nodup_range fun i hi j hj h=>?_
 rw [List.mem_range] at hi hj;have h1:l[i+1]! =l[j+1]!:=congrArg acl h;have h2:=iN.1 hd;rcases PP i j with k|k|k
 · exact absurd h1 (h2 (i+1) (j+1) (by omega) (by omega))
 · exact k
 exact absurd h1.symm (h2 (j+1) (i+1) (by omega) (by omega))
theorem K5 (l:List Int) (x:Int) (hl:(acZ l)<=1000000):
 (∀k,k<acZ l->l[k]! =x->(∀j,j<k->l[j]!≠x)->fb l x=ad2 (k:Int))/\((∀k,k<acZ l->l[k]!≠x)->fb l x=ad2 (-1)):=by
 have k1:=iG (body:=iZ) (fun i=>(l,x,((acZ l):Int),(i:Int))) (acZ l) (fun i=>l[i]! =x) (fun i=>(i:Int)) (e:= -1) (fun i hi=>by
  unfold iZ;simp only [aG (show (i:Int)<((acZ l):Int) by omega),lw,au l i hi,aj,ba (show i<1000000000 by omega)];refine ⟨fun h=>?_,fun h=>?_⟩
  · rw [eT h.symm];rfl
  · rw [eu (fun k=>h k.symm)];rfl) (by
  unfold iZ;simp only [aE (show¬((acZ l):Int)<((acZ l):Int) by omega),pp])
 exact ⟨fun k hk h1 h2=>k1.1 k hk h1 h2,fun h=>k1.2 h⟩
def iT (f:List Pt):List Int:=f.map fun p=>p.1
theorem Cr {f:List Pt} (h:eX f):(iT f).Nodup:=by
 refine rA ?_ ?_
 · exact iN.2 fun i j kL hj e=>by have:=eh h kL hj;rw [e] at this;omega
 intro x hx y hy e
 obtain ⟨i,hi,rfl⟩:=aQ.1 hx;obtain ⟨j,hj,rfl⟩:=aQ.1 hy;rw [vL h hi hj e]
theorem o4 {f:List Pt} {id:Int}:id∈iT f↔fJ f id:=by
 unfold iT fJ;rw [aah];constructor
 · rintro ⟨p,hp,rfl⟩
   obtain ⟨i,hi,rfl⟩:=aQ.1 hp;exact ⟨i,hi,rfl⟩
 rintro ⟨i,hi,rfl⟩
 exact ⟨f[i]!,aX hi,rfl⟩
structure rB (k:zb):Prop where
 DD:bg k.jp
 perm:(iT k.jp.ii.am).Perm k.bv
 cert:(k.jp.af.ce.map fun x=>x.2).Perm (xP k.bv)
 lead: ∀e∈xP k.bv,leads (iA k.jp.ii.am e.2) (iA k.jp.ii.am e.1) k.jp.ci
theorem sK {c:bm} (ok:eQ c):(c.ce.map fun x=>x.2).Nodup:=by
 refine rA ?_ ?_
 · exact iN.2 fun i j kL hj e=>ok.nd i j kL hj (by rw [e])
 intro x hx y hy e
 obtain ⟨i,hi,rfl⟩:=aQ.1 hx;obtain ⟨j,hj,rfl⟩:=aQ.1 hy;rcases PP i j with k|k|k
 · exact absurd e (ok.nd i j k hj)
 · rw [k]
 exact absurd e.symm (ok.nd j i k hi)
theorem xQ {l:List pX} {x:Int×Int}:wG l x↔x∈l.map fun y=>y.2:=by
 unfold wG;rw [aah];constructor
 · rintro ⟨i,hi,rfl⟩;exact ⟨l[i]!,aX hi,rfl⟩
 rintro ⟨y,hy,rfl⟩
 obtain ⟨i,hi,rfl⟩:=aQ.1 hy;exact ⟨i,hi,rfl⟩
theorem IW {α:Type} {p q:Prop} [Decidable p] [Decidable q] {a b:α} (h:p↔q):(if p then a else b)=if q then a else b:=by
 by_cases hp:p
 · rw [rc hp,rc (h.1 hp)]
 rw [ut hp,ut (fun k=>hp (h.2 k))]
end Go.Proofs.YtclphlgnjkajbaaGreat
