/- Plain laws (3). -/
import Derived.Test.YtmikolhhnhndkaaGreatEQM2
import Derived.Test.YtmikolhhnhndkaaGreatEQTB
open List renaming length_append->ut,mem_cons_of_mem->AC,length_map->If,length_drop->IR,length_singleton->NE,length_cons->PP,mem_append->UV,mem_cons_self->ac6,length_nil->ad1,mem_map->ad2,drop_zero->ad3,drop_length->ad7,length_set->ad9,nodup_cons->adc,mem_cons->adV,length->adX
open Classical renaming byContradiction->v6,not_not->EQ,not_forall->adu,not_imp->adA
open Bool renaming not_false->ww,not_true->Do,true->adZ,false->ae6
open Int renaming mul_right_comm->M2,mul_le_mul_of_nonneg_right->ad0,le_of_mul_le_mul_right->ad4,le_refl->ad5,mul_assoc->ad6,le_trans->ad8,mul_comm->adB,natAbs_mul->adU
open Nat renaming lt_trichotomy->acl,le_refl->ads,dvd_mul_left->adD,not_lt_zero->adG
open Prod renaming ext->adz,fst->adW
open Option renaming some->adY
open Decidable renaming decide->ae9
namespace Go.Proofs.YtmikolhhnhndkaaGreat
open Go.Vm Classical
theorem JO (c:aI) (n:Int) (hl:(adX c.jp)<=1000000):(∀k,k<adX c.jp->(c.jp[k]!).1=n->(∀j,j<k->(c.jp[j]!).1≠n)->px c n=adY (k:Int))/\((∀k,k<adX c.jp->(c.jp[k]!).1≠n)->px c n=adY (-1)):=by
 unfold px;refine ik (body:=nm) (fun i=>(n,(i:Int),c.ii.1,c.ii.2,c.io.be,c.af.aM,c.af.ci,c.aa.ai.aq,c.aa.ai.bi,c.aa.ai.bv,c.aa.ce,c.aa.ao,c.jp)) (adX c.jp) (fun i=>(c.jp[i]!).1=n) (fun i=>(i:Int)) (fun i hi=>?_) ?_
 · have e1:ae9 ((i:Int)<((adX c.jp):Int))=adZ:=aK (by omega)
   unfold nm;simp only [aB,e1,lw,au c.jp i hi,ar,bk (show i<1000000000 by omega)];constructor
   · intro h;rw [dB h];rfl
   intro h;rw [dL h];rfl
 unfold nm
 have:ae9 (((adX c.jp):Int)<((adX c.jp):Int))=ae6:=aG (by omega);simp only [aB,this,pp]
theorem Gm {ds:List pz} (hu:Up ds) (hl:(adX ds)<=1000000) (n:Int):(∀k,k<adX ds->(ds[k]!).1=n->mg ds n=adY ((k:Int),adZ))/\((∀k,k<adX ds->(ds[k]!).1≠n)-> ∃m:Nat,mg ds n=adY ((m:Int),ae6)):=by
 have bs:=CW ds n hl (qp.1 hu);unfold mg;rw [adr];constructor
 · intro k hk he;rw [bs.1 k hk he];rfl
 intro h
 obtain ⟨m,_,_,_,e⟩:=bs.2 h;exact ⟨m,by rw [e];rfl⟩
theorem aV.bd {c:aI} (ok:aV c):(adX c.jp)<=200/\adX c.io.be<=64/\adX c.af.ci<=200:=by have:=ok.hd;have:=ok.kF.bd;have:=ok.iq.1;have:=ok.pT.len;omega
theorem iD {c:aI} (ok:aV c):oe c=adY c:=by have bd:=ok.bd;unfold oe uO uP;simp only [bo (show (adX c.io.be)<=1048576 by omega),bo (show (adX c.af.ci)<=1048576 by omega),bo (show (adX c.jp)<=1048576 by omega),ar,oO ok.kF]
theorem iE {c:aI} (ok:aV c):iy c=adY c:=by
 have bd:=ok.bd;have ab:=ok.kF.bd;have hl:=ok.kF.so.fl;have hn:=ok.kF.so.n2;have hu:=ok.kF.so.ul;unfold iy;simp only [bo (show (adX c.io.be)<=1048576 by omega),bo (show (adX c.af.ci)<=1048576 by omega),bo (show (adX c.jp)<=1048576 by omega),bo (show (adX c.aa.ce)<=1048576 by omega),bo (show (adX c.aa.ao)<=1048576 by omega),
  bo (show (adX c.aa.ai.aq)<=1048576 by omega),bo (show (adX c.aa.ai.bi)<=1048576 by omega),bo (show (adX c.aa.ai.bv)<=1048576 by omega),ar]
theorem qq {cs:List pz} {i:Nat} (hu:Up cs) (hi:i<adX cs) {x:pz} (hx:x∈cs.eraseIdx i):x∈cs/\x.1≠(cs[i]!).1:=by
 rw [qV,UV] at hx;have ub:=qp.1 hu;rcases hx with hx|hx
 · obtain ⟨j,h1,h2,rfl⟩:=cI.1 hx
   have:=ub j i h1 hi;exact ⟨aR h2,by omega⟩
 obtain ⟨j,hj,rfl⟩:=aN.1 hx
 rw [IR] at hj;rw [qy];have:=ub i (i+1+j) (by omega) (by omega);exact ⟨aR (by omega),by omega⟩
theorem wZ {c:aI} (ok:aV c) (i:Nat) (hi:i<adX c.af.ci): ∀j,j<(kS c.af i).ci.length->js c.io.be ((kS c.af i).ci[j]!).2:=by intro j hj;have hm:(kS c.af i).ci[j]!∈c.af.ci:=(qq ok.qZ hi (aR hj)).1;obtain ⟨m,XS,Ps⟩:=aN.1 hm;rw [<- Ps];exact ok.known m XS
theorem RU {c:aI} (ok:aV c) {i:Nat} (hi:i<adX c.af.ci):
 ∃c':aI,jl c (c.af.ci[i]!).1=adY (c',(c.af.ci[i]!).2,0)/\og c (c.af.ci[i]!).1=adY c'/\aV c'/\c'.io=c.io/\c'.ii=c.ii/\c'.af=kS c.af i:=by
 have bd:=ok.bd;have rm:=EP ok.pT hi (n:=(c.af.ci[i]!).1) rfl;have wo:=BG ok.pT hi (n:=(c.af.ci[i]!).1) rfl;have fe:=ok.xV.erase (i:=i) hi;have pd:=Gm ok.ET (by omega) (c.af.ci[i]!).1;have da:=JO c (c.af.ci[i]!).1 (by omega);cases hf:(bm c.io.be (c.af.ci[i]!).2 c.ii).2 with
 |false=>
  have no: ∀k,k<adX c.jp->(c.jp[k]!).1≠(c.af.ci[i]!).1:=by
   intro k hk he;obtain ⟨x,hx,h1,h2,_⟩:=ok.xV.jp _ (aR hk);obtain ⟨j,hj,rfl⟩:=aN.1 hx;have ub:=qp.1 ok.qZ;have:j=i:=by
    rcases acl j i with h|h|h
    · have:=ub j i h hi;omega
    · exact h
    have:=ub i j h hj;omega
   rw [this,hf] at h2;cases h2
  refine ⟨⟨c.ii,c.io,kS c.af i,c.aa,c.jp⟩,?_,?_,?_,rfl,rfl,rfl⟩
  · unfold jl
    obtain ⟨m,e⟩:=pd.2 no;simp only [rm,ar,show ((0:Int) !=0)=ae6 from rfl,pp,iE ok,e]
  · unfold og
    simp only [iD ok,ar,wo,da.2 no,aG (show¬(0:Int)<= -1 by omega),pp]
  exact ⟨ok.jQ,ok.jb,ok.iq,EO ok.pT hi,ok.kF,ok.CB,ok.hd,wZ ok i hi,fe.1 hf⟩
 |true=>
  obtain ⟨k,hk,k1,k2,k3⟩:=fe.2 hf;obtain ⟨w,hw,fT⟩:=aN.1 k2;have hh:(c.aa.ce[w]!).2.2.2=(c.jp[k]!).2:=by rw [fT]
  have ub:=qp.1 ok.ET;have before: ∀j,j<k->(c.jp[j]!).1≠(c.af.ci[i]!).1:=fun j hj he=>by have:=ub j k hj hk;omega
  have dl:(c.jp.eraseIdx k).length=adX c.jp-1:=M7 hk;obtain ⟨L,d1,d2⟩:=Cg c.jp k hk;refine ⟨⟨c.ii,c.io,kS c.af i,dJ c.aa w,c.jp.eraseIdx k⟩,?_,?_,?_,rfl,rfl,rfl⟩
  · unfold jl
    simp only [rm,ar,show ((0:Int) !=0)=ae6 from rfl,pp,iE ok,pd.1 k hk k1,lw,au c.jp k hk,tI ok.kF hw ok.kF.fit hh,bk (show k<1000000000 by omega),LM,d1,d2]
  · unfold og
    have s1:gD c.jp 0 (k:Int)=adY (c.jp.take k):=mq c.jp k (by omega);have s2:gD c.jp ((k+1:Nat):Int) ((adX c.jp):Int)=adY (c.jp.drop (k+1)):=by unfold gD;rw [rc ⟨by omega,by omega,by omega⟩];simp only [Int.toNat_natCast];rw [List.take_of_length_le (by rw [IR];exact ads _)]
    have tl:(c.jp.take k).length=k:=by rw [List.length_take];omega
    have dl2:(c.jp.drop (k+1)).length=adX c.jp- (k+1):=IR;simp only [iD ok,ar,wo,da.1 k hk k1 before,aK (show (0:Int)<=(k:Int) by omega),lw,au c.jp k hk,tJ ok.kF hw hh,s1,bo (show (c.jp.take k).length<=1048576 by omega),bk (show k<1000000000 by omega),aB,s2,
     eW (show (c.jp.take k).length+(c.jp.drop (k+1)).length<=1048576 by omega),qV]
    cases hem:(c.jp.drop (k+1)).isEmpty with
    |true=>rw [List.isEmpty_iff] at hem;rw [hem,List.append_nil];rfl
    |false=>rfl
  have rem:=BD ok.kF hw
  have OJ:=EK ok.kF hw;have bU:(dJ c.aa w).ce.length=adX c.aa.ce-1:=by
   have h1:=rem.hl;have h2:=ok.kF.hl;have h3:(dJ c.aa w).ai=eI c.aa.ai (c.aa.ce[w]!).2.2.2:=by unfold dJ;split<;>rfl
   rw [h3] at h1;change _+(c.aa.ai.bv++[_]).length=(adX c.aa.ai.aq) at h1;rw [ut] at h1;simp only [PP,ad1] at h1;omega
  have adt:(dJ c.aa w).ao.length=200:=by
   have h1:=rem.wl;have h3:(dJ c.aa w).ai=eI c.aa.ai (c.aa.ce[w]!).2.2.2:=by unfold dJ;split<;>rfl
   rw [h3] at h1;change _=(adX c.aa.ai.aq) at h1;rw [h1,<- ok.kF.wl,ok.CB]
  refine ⟨ok.jQ,ok.jb,ok.iq,EO ok.pT hi,rem,adt,?_,wZ ok i hi,?_⟩
  · show (dJ c.aa w).ce.length=(c.jp.eraseIdx k).length
    rw [bU,dl,ok.hd]
  refine k3.mono fun x hx e he hm=>(OJ e).2 ⟨hm,fun h=>?_⟩
  have:=(qq ok.qZ hi hx).2;rw [h,fT] at he;exact this he.symm
theorem CC {c:aI} (ok:aV c) {i:Nat} (_hi:i<adX c.af.ci) {c':aI} (h:jl c (c.af.ci[i]!).1=adY (c',(c.af.ci[i]!).2,0)):qi c (c.af.ci[i]!).1=adY (c',0):=by unfold qi;rw [kG ok.fit,rc ok];simp only [ar,show ((0:Int) !=0)=ae6 from rfl,pp,h]
abbrev gd:aI:=⟨(0,0),⟨[]⟩,⟨0,[]⟩,⟨⟨[],[],[]⟩,[],[]⟩,[]⟩
theorem Hx {l:List Pt} (ok:cV l) {id:Int} (h:oq l id): ¬(bJ l id).1<0:=by obtain ⟨h1,_⟩:=dz ok h;have:=h1.1;omega
theorem WJ {c:aI} (ok:aV c) {x:Int×Int} (hx:gV x) (hb:js c.io.be x) (hn: ¬qW c.af.ci x):
 (gp c x=adY (gd,0,18)/\kC c x=adY (gd,0,18)/\(yr c.af\/ ¬tC c.aa.ai))\/
 ∃c':aI,gp c x=adY (c',c.af.aM,0)/\kC c x=adY (c',c.af.aM,0)/\aV c'/\c'.io=c.io/\c'.ii=c.ii/\c'.af=lE c.af x/\(c'.aa.ai=c.aa.ai\/c'.aa.ai=fq c.aa.ai):=by
 have bd:=ok.bd;have n0:=ok.pT.n0;have n1:=ok.pT.n1;have fit:=ok.fit;have ad:=JJ ok.pT hx;have rd:=Hv ok.pT hx;rw [sp hn] at ad rd;have hc:gm c=adY 0:=by rw [kG fit,rc ok]
 have p1:=kE ok.iq x.1;have p2:=kE ok.iq x.2;have q1:=Hx ok.iq hb.1;have q2:=Hx ok.iq hb.2;have wh:=sT ok.iq hx ok.jQ ok.jb;rw [rc hb] at wh;have rw':=sU ok.iq ok.jb hb
 by_cases hf:yr c.af
 · rw [rc hf] at ad rd
   left;refine ⟨?_,?_,.inl hf⟩
   · unfold gp cP
     simp only [hc,ar,show ((0:Int) !=0)=ae6 from rfl,pp,ad,show ((18:Int)==8)=ae6 from rfl,p1,p2,aG q1,aG q2,show ((18:Int) !=0)=adZ from rfl,lw]
   unfold kC
   simp only [rd,ar,show ((18:Int) !=0)=adZ from rfl,lw]
 rw [sp hf] at ad rd;have cok:=LO ok.pT hx hn hf;have RW: ∀j,j<(lE c.af x).ci.length->js c.io.be ((lE c.af x).ci[j]!).2:=by
  intro j hj;rw [xJ] at hj;rw [qX]
  by_cases h:j<adX c.af.ci
  · rw [rc h];exact ok.known j h
  rw [sp h,rc (by omega)];exact hb
 have fresh: ∀e∈c.aa.ce,Ev.num e≠c.af.aM:=by intro e he dC;obtain ⟨d,hd,h1⟩:=ok.wV e he;obtain ⟨y,hy,h2,_⟩:=ok.xV.jp d hd;obtain ⟨j,hj,rfl⟩:=aN.1 hy;have:=(ok.pT.nr j hj).2;omega
 have sn:=ok.xV.snoc (x:=(c.af.aM,x));cases hw:(bm c.io.be x c.ii).2 with
 |false=>
  right;refine ⟨⟨c.ii,c.io,lE c.af x,c.aa,c.jp⟩,?_,?_,⟨ok.jQ,ok.jb,ok.iq,cok,ok.kF,ok.CB,ok.hd,RW,sn.1 hw⟩,rfl,rfl,rfl,.inl rfl⟩
  · unfold gp cP
    simp only [hc,ar,show ((0:Int) !=0)=ae6 from rfl,pp,ad,show ((0:Int)==8)=ae6 from rfl,p1,p2,aG q1,aG q2,iE ok,wh,hw]
  unfold kC
  simp only [rd,ar,show ((0:Int) !=0)=ae6 from rfl,pp,iD ok,rw',hw,ww,lw]
 |true=>
  obtain ⟨t1,t2⟩:=As (dz ok.iq hb.2).1 (dz ok.iq hb.1).1 ok.jb ok.jQ hw
  by_cases op:tC c.aa.ai
  · right
    have pu:=tF ok.kF op ok.kF.fit (t:=(bm c.io.be x c.ii).1) (n:=c.af.aM) t1 t2 n0 n1 fresh;have rp:=vp ok.kF op (t:=(bm c.io.be x c.ii).1) (n:=c.af.aM) t1 t2 n0 n1;have pok:=M5 ok.kF op (t:=(bm c.io.be x c.ii).1) (n:=c.af.aM) t1 t2 n0 n1 fresh;have OK:=JE ok.kF op (t:=(bm c.io.be x c.ii).1) (n:=c.af.aM) t1;have adv:=Az ok.kF op (t:=(bm c.io.be x c.ii).1) (n:=c.af.aM) t1;have ap: ∀h:Int×Int,bL c.jp [(c.af.aM,h)]=adY (c.jp++[(c.af.aM,h)]):=fun h=>eW (by simp;omega)
    have adt:(jr c.aa (bm c.io.be x c.ii).1 c.af.aM).ao.length=200:=by have:=pok.wl;change _=(c.aa.ai.aq.set _ _).length at this;rw [ad9] at this;rw [this,<- ok.kF.wl,ok.CB]
    refine ⟨⟨c.ii,c.io,lE c.af x,jr c.aa (bm c.io.be x c.ii).1 c.af.aM,c.jp++[(c.af.aM,jq c.aa.ai)]⟩,?_,?_,⟨ok.jQ,ok.jb,ok.iq,cok,pok,adt,?_,RW,?_⟩,rfl,rfl,rfl,.inr rfl⟩
    · unfold gp cP
      simp only [hc,ar,show ((0:Int) !=0)=ae6 from rfl,pp,ad,show ((0:Int)==8)=ae6 from rfl,p1,p2,aG q1,aG q2,iE ok,wh,hw,lw,pu,ap]
    · unfold kC
      simp only [rd,ar,show ((0:Int) !=0)=ae6 from rfl,pp,iD ok,rw',hw,Do,oM ok.kF.so,aK op,rp,ap]
    · show (jr c.aa (bm c.io.be x c.ii).1 c.af.aM).ce.length=(c.jp++[_]).length
      rw [adv,ut,ok.hd];rfl
    have fm:aT c.io.be c.ii (jr c.aa (bm c.io.be x c.ii).1 c.af.aM).ce c.af.ci c.jp:=ok.xV.mono fun y hy e he hm=>(OK e).2 (.inr hm)
    exact (fm.snoc (x:=(c.af.aM,x))).2 _ hw rfl ((OK _).2 (.inl rfl))
  left
  have pu:=tG ok.kF op ok.kF.fit (t:=(bm c.io.be x c.ii).1) (n:=c.af.aM) t1 t2 n0 n1 fresh;refine ⟨?_,?_,.inr op⟩
  · unfold gp cP
    simp only [hc,ar,show ((0:Int) !=0)=ae6 from rfl,pp,ad,show ((0:Int)==8)=ae6 from rfl,p1,p2,aG q1,aG q2,iE ok,wh,hw,lw,pu,show ((18:Int) !=0)=adZ from rfl]
  unfold kC
  simp only [rd,ar,show ((0:Int) !=0)=ae6 from rfl,pp,iD ok,rw',hw,Do,oM ok.kF.so,aG op,ww,lw]
theorem Up.inj {cs:List pz} (h:Up cs) {x y:pz} (hx:x∈cs) (hy:y∈cs) (he:x.1=y.1):x=y:=by
 obtain ⟨i,hi,rfl⟩:=aN.1 hx;obtain ⟨j,hj,rfl⟩:=aN.1 hy;have ub:=qp.1 h;rcases acl i j with h1|h1|h1
 · have:=ub i j h1 hj;omega
 · rw [h1]
 have:=ub j i h1 hi;omega
structure EU (c:aI) (f:List Pt) (i k:Nat) (a:aH) (ds:List pz):Prop where
 ok:dT a
 w2:(adX a.ao)=200
 new:aT f c.ii a.ce (c.af.ci.take i) ds
 old:aT c.io.be c.ii a.ce (c.af.ci.drop i) (c.jp.drop k)
 kl:k<=adX c.jp
 cnt:(adX a.ce)=adX ds+(adX c.jp-k)
theorem adw {a:aH} (ok:dT a) {w:Nat} (hw:w<adX a.ce):(dJ a w).ce.length=adX a.ce-1/\(dJ a w).ao.length=(adX a.ao):=by
 have rem:=BD ok hw;have h3:(dJ a w).ai=eI a.ai (a.ce[w]!).2.2.2:=by unfold dJ;split<;>rfl
 have h1:=rem.hl;have h2:=ok.hl;have h4:=rem.wl;rw [h3] at h1 h4;change _+(a.ai.bv++[_]).length=(adX a.ai.aq) at h1;change _=(adX a.ai.aq) at h4;rw [ut] at h1;simp only [PP,ad1] at h1;exact ⟨by omega,by rw [h4,ok.wl]⟩
theorem WK {a:aH} {t:Int×Int} {n:Int} (ok:dT a) (pok:dT (jr a t n)):(jr a t n).ao.length=(adX a.ao):=by have:=pok.wl;change _=(a.ai.aq.set _ _).length at this;rw [ad9] at this;rw [this,ok.wl]
section
variable {c : aI} (ok : aV c) {f : List Pt} (pC : cV f) (kn : ∀ i, i < (adX c.af.ci) -> js f (c.af.ci[i]!).2)
include ok
theorem AD {i:Nat} {x:pz} (hx:x∈c.af.ci.take i) (hi:i<adX c.af.ci):x.1≠(c.af.ci[i]!).1:=by obtain ⟨j,h1,h2,rfl⟩:=cI.1 hx;have:=ok.pT.up j i h1 hi;omega
theorem AE {i:Nat} {x:pz} (hx:x∈c.af.ci.drop (i+1)) (hi:i<adX c.af.ci):x.1≠(c.af.ci[i]!).1:=by obtain ⟨j,h1,rfl⟩:=aN.1 hx;rw [IR] at h1;rw [qy];have:=ok.pT.up i (i+1+j) (by omega) (by omega);omega
theorem OL {i k:Nat} {a:aH} {ds:List pz} (inv:EU c f i k a ds) (hi:i<adX c.af.ci) (was:(bm c.io.be (c.af.ci[i]!).2 c.ii).2=ae6): ∀e∈a.ce,Ev.num e≠(c.af.ci[i]!).1:=by
 have u1:Up (c.af.ci.take i):=ok.qZ.sublist (List.take_sublist _ _);have u2:Up (c.af.ci.drop i):=ok.qZ.sublist (List.drop_sublist _ _);have d1:=inv.new.up u1;have d2:=inv.old.up u2;have agW: ∀x∈ds,∀y∈c.jp.drop k,x.1<y.1:=by intro x hx y hy;obtain ⟨p,hp,h1,_⟩:=inv.new.jp x hx;obtain ⟨q,hq,h2,_⟩:=inv.old.jp y hy;obtain ⟨m,m1,m2,rfl⟩:=cI.1 hp;obtain ⟨n,n1,rfl⟩:=aN.1 hq;rw [IR] at n1;rw [qy] at h2;have:=ok.pT.up m (i+n) (by omega) (by omega);omega
 have nd:((ds++c.jp.drop k).map fun x=>x.1).Nodup:=JN (by show List.Pairwise _ _;rw [List.pairwise_append];exact ⟨d1,d2,agW⟩);have only:=Ch (H:=a.ce) nd (by rw [If,ut,IR,inv.cnt];exact ads _) (fun n hn=>by
  obtain ⟨x,hx,rfl⟩:=ad2.1 hn;rcases UV.1 hx with hx|hx
  · obtain ⟨p,hp,h1,h2,h3⟩:=inv.new.jp x hx
    exact ⟨_,h3,h1.symm⟩
  obtain ⟨p,hp,h1,h2,h3⟩:=inv.old.jp x hx
  exact ⟨_,h3,h1.symm⟩)
 intro e he dC;obtain ⟨x,hx,h1⟩:=ad2.1 (only e he);rcases UV.1 hx with hx|hx
 · obtain ⟨p,hp,h2,_⟩:=inv.new.jp x hx
   exact AD ok hp hi (by rw [<- h2,h1,dC])
 obtain ⟨p,hp,h2,h3,_⟩:=inv.old.jp x hx
 have hp':p∈c.af.ci:=List.mem_of_mem_drop hp;have:=ok.qZ.inj hp' (aR hi) (by rw [<- h2,h1,dC]);rw [this,was] at h3;cases h3
def OM (c:aI) (f:List Pt) (i:Nat) (a:aH) (ds:List pz):=
 (c.af.ci,((adX c.af.ci):Int),(i:Int),c.ii.1,c.ii.2,c.io.be,c.af.aM,c.af.ci,c.aa.ai.aq,c.aa.ai.bi,c.aa.ai.bv,c.aa.ce,c.aa.ao,c.jp,f,(0:Int),(0:Int),(0:Int),c.ii.1,c.ii.2,c.af.aM,c.af.ci,a.ai.aq,a.ai.bi,a.ai.bv,a.ce,a.ao,f,ds)
def ON (c:aI) (f:List Pt) (i:Nat) (a:aH) (ds:List pz):=
 ((i:Int),c.ii.1,c.ii.2,c.io.be,c.af.aM,c.af.ci,c.aa.ai.aq,c.aa.ai.bi,c.aa.ai.bv,c.aa.ce,c.aa.ao,c.jp,f,(0:Int),(0:Int),(0:Int),c.ii.1,c.ii.2,f,c.af.aM,c.af.ci,a.ai.aq,a.ai.bi,a.ai.bv,a.ce,a.ao,ds)
include pC kn
theorem RX {i k:Nat} {a:aH} {ds:List pz} (inv:EU c f i k a ds) (hi:i<adX c.af.ci) (SU:(adX ds)<=i):
 (cR (OM c f i a ds)=adY (.done (.done (gd,18)))/\bZ (ON c f i a ds)=adY (.done (gd,18)))\/
 ∃k' a' wb,cR (OM c f i a ds)=adY (.next (OM c f (i+1) a' wb))/\bZ (ON c f i a ds)=adY (.next (ON c f (i+1) a' wb))/\EU c f (i+1) k' a' wb/\adX wb<=i+1:=by
 have bd:=ok.bd;have e1:ae9 ((i:Int)<((adX c.af.ci):Int))=adZ:=aK (by omega);have sc:=bk (show i<1000000000 by omega);have cg:=au c.af.ci i hi;have hb:=kn i hi;have wn:=sT pC (x:=(c.af.ci[i]!).2) (t:=(c.ii.1,c.ii.2)) (ok.pT.cv i hi) ok.jQ ok.jb;rw [rc hb] at wn;have wr:=sU pC (x:=(c.af.ci[i]!).2) (t:=(c.ii.1,c.ii.2)) ok.jb hb;have pd:=Gm ok.ET (by omega) (c.af.ci[i]!).1;have da:=JO c (c.af.ci[i]!).1 (by omega);have dr:=qA hi;have tk:=ja hi;have old:=inv.old;rw [dr] at old;have JP:aH.mk (aU.mk a.ai.aq a.ai.bi a.ai.bv) a.ce a.ao=a:=rfl
 have pA:(aI.mk (c.ii.1,c.ii.2) (Field.mk c.io.be) (bj.mk c.af.aM c.af.ci) (aH.mk (aU.mk c.aa.ai.aq c.aa.ai.bi c.aa.ai.bv) c.aa.ce c.aa.ao) c.jp)=c:=rfl;have other: ∀x∈c.af.ci.take i,x.1≠(c.af.ci[i]!).1:=fun x hx=>AD ok hx hi
 have RY: ∀x∈c.af.ci.drop (i+1),x.1≠(c.af.ci[i]!).1:=fun x hx=>AE ok hx hi
 cases WL:(bm c.io.be (c.af.ci[i]!).2 c.ii).2 with
 |true=>
  obtain ⟨d,wb,Tb,hd2,hd3,hd4⟩:=(aT.gy WL).1 old;have hk:k<(adX c.jp):=by
   refine v6 fun h=>?_
   rw [List.drop_eq_nil_of_le (by omega)] at Tb;cases Tb
  have dk:=qA hk;rw [dk] at Tb;injection Tb with hd5 hd6;subst hd5 hd6;obtain ⟨w,hw,fT⟩:=aN.1 hd3;have hh:(a.ce[w]!).2.2.2=(c.jp[k]!).2:=by rw [fT]
  have agX:Ev.num a.ce[w]! =(c.af.ci[i]!).1:=by rw [fT]
  have before: ∀j,j<k->(c.jp[j]!).1≠(c.af.ci[i]!).1:=fun j hj he=>by have:=qp.1 ok.ET j k hj hk;omega
  have pl:=pd.1 k hk hd2;have dq:=da.1 k hk hd2 before;have gk:=au c.jp k hk;have k0:ae9 ((0:Int)<=(k:Int))=adZ:=aK (by omega);have ap:bL ds [c.jp[k]!]=adY (ds++[c.jp[k]!]):=eW (by simp;omega);cases JQ:(bm f (c.af.ci[i]!).2 c.ii).2 with
  |true=>
   right;have tt:aZ (bm f (c.af.ci[i]!).2 c.ii).1/\jP (bm f (c.af.ci[i]!).2 c.ii).1:=As (dz pC hb.2).1 (dz pC hb.1).1 ok.jb ok.jQ JQ;obtain ⟨t1,t2⟩:=tt;have re:=CA inv.ok inv.ok.fit (t:=(bm f (c.af.ci[i]!).2 c.ii).1) hw hh t1 t2;have rr:=BC inv.ok (t:=(bm f (c.af.ci[i]!).2 c.ii).1) hw hh t1 t2;have rok:=RN inv.ok hw t1 t2;have OJ:=OI inv.ok hw t1;have RZ:=BB inv.ok hw t1;have stay: ∀(cs:List pz),(∀x∈cs,x.1≠(c.af.ci[i]!).1)-> ∀x∈cs,∀e:Ev,e.num=x.1->e∈a.ce->e∈(iO a w (bm f (c.af.ci[i]!).2 c.ii).1).ce:=by
    intro cs pO x hx e he hm;refine (OJ e).2 (.inr ⟨hm,fun h=>pO x hx ?_⟩);rw [<- he,h,agX]
   refine ⟨k+1,iO a w (bm f (c.af.ci[i]!).2 c.ii).1,ds++[c.jp[k]!],?_,?_,⟨rok,by rw [RZ.2];exact inv.w2,?_,?_,by omega,?_⟩,by simp;omega⟩
   · unfold cR OM
     simp only [e1,lw,cg,ar,wn,pl,JQ,gk,JP,re,ap,show ((0:Int) !=0)=ae6 from rfl,pp,sc]
   · unfold bZ ON
     simp only [aB,e1,lw,cg,ar,pA,dq,wr,JQ,k0,gk,JP,rr,ap,Do,pp,sc]
   · rw [tk]
     exact ((inv.new.mono (stay _ other)).snoc (x:=c.af.ci[i]!)).2 _ JQ hd2 ((OJ _).2 (.inl (by show _=((bm f (c.af.ci[i]!).2 c.ii).1.1,(bm f (c.af.ci[i]!).2 c.ii).1.2,(a.ce[w]!).2.2);rw [fT])))
   · exact hd4.mono (stay _ RY)
   rw [RZ.1,inv.cnt,ut]
   simp only [PP,ad1];omega
  |false=>
   right;have rv:=tI inv.ok hw inv.ok.fit hh;have rr:=tJ inv.ok hw hh;have rok:=BD inv.ok hw;have OJ:=EK inv.ok hw;have RZ:=adw inv.ok hw;have stay: ∀(cs:List pz),(∀x∈cs,x.1≠(c.af.ci[i]!).1)-> ∀x∈cs,∀e:Ev,e.num=x.1->e∈a.ce->e∈(dJ a w).ce:=by intro cs pO x hx e he hm;refine (OJ e).2 ⟨hm,fun h=>pO x hx ?_⟩;rw [<- he,h,agX]
   refine ⟨k+1,dJ a w,ds,?_,?_,⟨rok,by rw [RZ.2];exact inv.w2,?_,hd4.mono (stay _ RY),by omega,?_⟩,by omega⟩
   · unfold cR OM
     simp only [e1,lw,cg,ar,wn,pl,JQ,gk,JP,rv,show ((0:Int) !=0)=ae6 from rfl,pp,sc]
   · unfold bZ ON
     simp only [aB,e1,lw,cg,ar,pA,dq,wr,JQ,k0,gk,JP,rr,ww,pp,sc]
   · rw [tk]
     exact ((inv.new.mono (stay _ other)).snoc (x:=c.af.ci[i]!)).1 JQ
   have:=inv.cnt
   rw [RZ.1];omega
 |false=>
  have xV:=(aT.ft WL).1 old;have no: ∀j,j<adX c.jp->(c.jp[j]!).1≠(c.af.ci[i]!).1:=by intro j hj he;obtain ⟨x,hx,h1,h2,_⟩:=ok.xV.jp _ (aR hj);have:=ok.qZ.inj hx (aR hi) (by rw [<- h1,he]);rw [this,WL] at h2;cases h2
  obtain ⟨m,pl⟩:=pd.2 no;have dq:=da.2 no;have k0:ae9 ((0:Int)<= -1)=ae6:=aG (by omega);cases JQ:(bm f (c.af.ci[i]!).2 c.ii).2 with
  |true=>
   have tt:aZ (bm f (c.af.ci[i]!).2 c.ii).1/\jP (bm f (c.af.ci[i]!).2 c.ii).1:=As (dz pC hb.2).1 (dz pC hb.1).1 ok.jb ok.jQ JQ;obtain ⟨t1,t2⟩:=tt;have n0:=(ok.pT.nr i hi).1;have n1:(c.af.ci[i]!).1<=1000000:=by have:=(ok.pT.nr i hi).2;have:=ok.pT.n1;omega
   have fresh:=OL ok inv hi WL
   by_cases op:tC a.ai
   · right
     have pu:=tF inv.ok op inv.ok.fit (t:=(bm f (c.af.ci[i]!).2 c.ii).1) (n:=(c.af.ci[i]!).1) t1 t2 n0 n1 fresh;have rp:=vp inv.ok op (t:=(bm f (c.af.ci[i]!).2 c.ii).1) (n:=(c.af.ci[i]!).1) t1 t2 n0 n1;have pok:=M5 inv.ok op (t:=(bm f (c.af.ci[i]!).2 c.ii).1) (n:=(c.af.ci[i]!).1) t1 t2 n0 n1 fresh;have OK:=JE inv.ok op (t:=(bm f (c.af.ci[i]!).2 c.ii).1) (n:=(c.af.ci[i]!).1) t1;have adv:=Az inv.ok op (t:=(bm f (c.af.ci[i]!).2 c.ii).1) (n:=(c.af.ci[i]!).1) t1;have ap: ∀h:Int×Int,bL ds [((c.af.ci[i]!).1,h)]=adY (ds++[((c.af.ci[i]!).1,h)]):=fun h=>eW (by simp;omega)
     have opn:=oM inv.ok.so;rw [aK op] at opn;refine ⟨k,jr a (bm f (c.af.ci[i]!).2 c.ii).1 (c.af.ci[i]!).1,ds++[((c.af.ci[i]!).1,jq a.ai)],?_,?_,⟨pok,by rw [WK inv.ok pok];exact inv.w2,?_,?_,inv.kl,?_⟩,by simp;omega⟩
     · unfold cR OM
       simp only [e1,lw,cg,ar,wn,pl,JQ,JP,pu,ap,show ((0:Int) !=0)=ae6 from rfl,pp,sc]
     · unfold bZ ON
       simp only [aB,e1,lw,cg,ar,pA,dq,wr,JQ,k0,JP,rp,ap,Do,pp,sc,opn]
     · rw [tk]
       exact ((inv.new.mono fun x hx e he hm=>(OK e).2 (.inr hm)).snoc (x:=c.af.ci[i]!)).2 _ JQ rfl ((OK _).2 (.inl rfl))
     · exact xV.mono fun x hx e he hm=>(OK e).2 (.inr hm)
     have:=inv.cnt
     rw [adv,ut];simp only [PP,ad1];omega
   left
   have pu:=tG inv.ok op inv.ok.fit (t:=(bm f (c.af.ci[i]!).2 c.ii).1) (n:=(c.af.ci[i]!).1) t1 t2 n0 n1 fresh;have ap: ∀h:Int×Int,bL ds [((c.af.ci[i]!).1,h)]=adY (ds++[((c.af.ci[i]!).1,h)]):=fun h=>eW (by simp;omega)
   have opn:=oM inv.ok.so;rw [aG op] at opn;constructor
   · unfold cR OM
     simp only [e1,lw,cg,ar,wn,pl,JQ,JP,pu,ap,show ((18:Int) !=0)=adZ from rfl,pp]
   unfold bZ ON
   simp only [aB,e1,lw,cg,ar,pA,dq,wr,JQ,k0,JP,Do,ww,pp,opn]
  |false=>
   right;refine ⟨k,a,ds,?_,?_,⟨inv.ok,inv.w2,?_,xV,inv.kl,inv.cnt⟩,by omega⟩
   · unfold cR OM
     simp only [e1,lw,cg,ar,wn,pl,JQ,show ((0:Int) !=0)=ae6 from rfl,pp,sc]
   · unfold bZ ON
     simp only [aB,e1,lw,cg,ar,pA,dq,wr,JQ,k0,ww,pp,sc]
   rw [tk]
   exact (inv.new.snoc (x:=c.af.ci[i]!)).1 JQ
theorem agZ:
 (mh c ⟨f⟩=adY (gd,18)/\lh c ⟨f⟩=adY (gd,18))\/
 ∃c':aI,mh c ⟨f⟩=adY (c',0)/\lh c ⟨f⟩=adY (c',0)/\aV c'/\c'.io.be=f/\c'.ii=c.ii/\c'.af=c.af:=by
 have bd:=ok.bd;have f64:=pC.1;have run: ∀(d i k:Nat) (a:aH) (ds:List pz),adX c.af.ci-i<=d->i<=adX c.af.ci->EU c f i k a ds->adX ds<=i->
  (aD cR (OM c f i a ds)=adY (.done (gd,18))/\aD bZ (ON c f i a ds)=adY (gd,18))\/
  ∃c':aI,aD cR (OM c f i a ds)=adY (.done (c',0))/\aD bZ (ON c f i a ds)=adY (c',0)/\aV c'/\c'.io.be=f/\c'.ii=c.ii/\c'.af=c.af:=by
  have fin: ∀(k:Nat) (a:aH) (ds:List pz),EU c f (adX c.af.ci) k a ds-> ∃c':aI,aD cR (OM c f (adX c.af.ci) a ds)=adY (.done (c',0))/\aD bZ (ON c f (adX c.af.ci) a ds)=adY (c',0)/\aV c'/\c'.io.be=f/\c'.ii=c.ii/\c'.af=c.af:=by
   intro k a ds inv;have e1:ae9 (((adX c.af.ci):Int)<((adX c.af.ci):Int))=ae6:=aG (by omega);have hk:(adX c.jp)-k=0:=by have:=inv.old;rw [ad7] at this;have:c.jp.drop k=[]:=this;rw [List.drop_eq_nil_iff] at this;omega
   have new:=inv.new;rw [List.take_length] at new;refine ⟨⟨c.ii,⟨f⟩,c.af,a,ds⟩,aJ ?_,aJ ?_,⟨ok.jQ,ok.jb,pC,ok.pT,inv.ok,inv.w2,?_,kn,new⟩,rfl,rfl,rfl⟩
   · unfold cR OM
     simp only [e1,pp]
   · unfold bZ ON
     simp only [aB,e1,pp]
   have:=inv.cnt
   show (adX a.ce)=adX ds;omega
  intro d
  induction d with
  |zero=>
   intro i k a ds hd hi inv SU;have:i=(adX c.af.ci):=by omega
   subst this;exact .inr (fin k a ds inv)
  |succ d ih=>
   intro i k a ds hd hi inv SU
   by_cases he:i=adX c.af.ci
   · subst he;exact .inr (fin k a ds inv)
   rcases RX ok pC kn inv (by omega) SU with ⟨h1,h2⟩|⟨k',a',wb,h1,h2,h3,h4⟩
   · exact .inl ⟨aJ h1,aJ h2⟩
   rw [aX h1,aX h2]
   exact ih (i+1) k' a' wb (by omega) (by omega) h3 h4
 have start:=run (adX c.af.ci) 0 0 c.aa [] (by omega) (by omega) ⟨ok.kF,ok.CB,rfl,by rw [ad3,ad3];exact ok.xV,by omega,by have:=ok.hd;simp;omega⟩ (by simp);have hc:gm c=adY 0:=by rw [kG ok.fit,rc ok]
 have hf:gl ⟨f⟩=adY 0:=by rw [nv];exact congrArg adY (mj.2 pC)
 have tw:=iE ok;have tw':iy (aI.mk (c.ii.1,c.ii.2) (Field.mk c.io.be) (bj.mk c.af.aM c.af.ci) (aH.mk (aU.mk c.aa.ai.aq c.aa.ai.bi c.aa.ai.bv) c.aa.ce c.aa.ao) c.jp)=adY c:=tw;have first:aD iU (c.af.ci,((adX c.af.ci):Int),0,c.ii.1,c.ii.2,c.io.be,c.af.aM,c.af.ci,c.aa.ai.aq,c.aa.ai.bi,c.aa.ai.bv,c.aa.ce,c.aa.ao,c.jp,f,0,0,0)=
  aD iU (c.af.ci,((adX c.af.ci):Int),((adX c.af.ci):Int),c.ii.1,c.ii.2,c.io.be,c.af.aM,c.af.ci,c.aa.ai.aq,c.aa.ai.bi,c.aa.ai.bv,c.aa.ce,c.aa.ao,c.jp,f,0,0,0):=by
  refine gr (body:=iU) (fun i=>(c.af.ci,((adX c.af.ci):Int),(i:Int),c.ii.1,c.ii.2,c.io.be,c.af.aM,c.af.ci,c.aa.ai.aq,c.aa.ai.bi,c.aa.ai.bv,c.aa.ce,c.aa.ao,c.jp,f,0,0,0)) (adX c.af.ci) (fun i hi=>?_);have e1:ae9 ((i:Int)<((adX c.af.ci):Int))=adZ:=aK (by omega);unfold iU;simp only [e1,lw,au c.af.ci i hi,ar,kE pC,aG (Hx pC (kn i hi).1),aG (Hx pC (kn i hi).2),pp,bk (show i<1000000000 by omega)]
 have R0: ∀r,aD cR (OM c f 0 c.aa [])=adY (.done r)->mh c ⟨f⟩=adY r:=by intro r hr;unfold mh;simp only [hc,ar,show ((0:Int) !=0)=ae6 from rfl,pp,hf,aB];rw [first];refine aJ ?_;unfold iU;have e1:ae9 (((adX c.af.ci):Int)<((adX c.af.ci):Int))=ae6:=aG (by omega);simp only [aB,e1,pp,tw',ar,bo (show (adX f)<=1048576 by omega)];exact hr
 have X': ∀r,aD bZ (ON c f 0 c.aa [])=adY r->lh c ⟨f⟩=adY r:=by intro r hr;unfold lh uO;simp only [iD ok,ar,bo (show (adX f)<=1048576 by omega)];exact hr
 rcases start with ⟨h1,h2⟩|⟨c',h1,h2,h3⟩
 · exact .inl ⟨R0 _ h1,X' _ h2⟩
 exact .inr ⟨c',R0 _ h1,X' _ h2,h3⟩
end
theorem sV (l:List (Int×Int)) (x:Int×Int) (hl:(adX l)<=1000000):fA l x=adY (ae9 (x∈l)):=by
 unfold fA mS;have key:=ik (body:=ic) (fun i=>(l,((adX l):Int),(i:Int),x)) (adX l) (fun i=>l[i]! =x) (fun i=>(i:Int)) (e:= -1) (fun i hi=>by
  have e1:ae9 ((i:Int)<((adX l):Int))=adZ:=aK (by omega);unfold ic;simp only [e1,lw,au l i hi,ar,bk (show i<1000000000 by omega)];generalize l[i]! =y;constructor
  · intro h;rw [dB (congrArg adW h.symm),dB (congrArg Prod.snd h.symm)];rfl
  · intro h
    by_cases h1:x.1=y.1
    · rw [dB h1,dL (fun h2=>h (adz h1.symm h2.symm))];rfl
    rw [dL h1];rfl) (by
  unfold ic;have:ae9 (((adX l):Int)<((adX l):Int))=ae6:=aG (by omega);simp only [this,pp])
 rw [aB]
 by_cases hx:x∈l
 · obtain ⟨i,hi,he⟩:=aN.1 hx
   obtain ⟨k,h1,h2,h3⟩:=least (c:=fun i=>l[i]! =x) ⟨i,hi,he⟩;have:=key.1 k h1 h2 h3;rw [show ((0:Nat):Int)=0 from rfl] at this;rw [this,aK hx];simp only [ar,aK (show (0:Int)<=(k:Int) by omega)]
 have:=key.2 fun i hi he=>hx (aN.2 ⟨i,hi,he⟩)
 rw [show ((0:Nat):Int)=0 from rfl] at this;rw [this,aG hx];rfl
theorem Ci (l:List (Int×Int)) (x:Int×Int) (hl:(adX l)<=1000000):nj l x=adY (ae9 (x∈l)):=by
 unfold nj;have key:=cJ (body:=kB) (fun i=>(l,(i:Int),x)) (adX l) (fun i=>l[i]! =x) (r:=adZ) (e:=ae6) (fun i hi=>by
  have e1:ae9 ((i:Int)<((adX l):Int))=adZ:=aK (by omega);unfold kB;simp only [aB,e1,lw,au l i hi,ar,bk (show i<1000000000 by omega)];generalize l[i]! =y;constructor
  · intro h;rw [dB (congrArg adW h),dB (congrArg Prod.snd h)];rfl
  · intro h
    by_cases h1:y.1=x.1
    · rw [dB h1,dL (fun h2=>h (adz h1 h2))];rfl
    rw [dL h1];rfl) (by
  unfold kB;have:ae9 (((adX l):Int)<((adX l):Int))=ae6:=aG (by omega);simp only [aB,this,pp])
 by_cases hx:x∈l
 · rw [aK hx];exact key.1 (aN.1 hx)
 rw [aG hx];exact key.2 fun i hi he=>hx (aN.2 ⟨i,hi,he⟩)
theorem R1 (x y:pz):((x.1==y.1)&&((x.2.1==y.2.1)&&(x.2.2==y.2.2)))=ae9 (x=y):=by
 rw [Bool.eq_iff_iff,decide_eq_true_iff];simp only [Bool.and_eq_true,beq_iff_eq];constructor
 · rintro ⟨h1,h2,h3⟩;exact adz h1 (adz h2 h3)
 rintro rfl;exact ⟨rfl,rfl,rfl⟩
theorem Cj (a b:List pz) (hl:(adX a)<=1000000):lO ⟨a⟩ ⟨b⟩=adY (ae9 (a=b)):=by
 unfold lO;simp only [aB]
 by_cases h:(adX a)=adX b
 case neg=>rw [dS (by omega),aG (fun k=>h (by rw [k]))];rfl
 rw [cK (by omega)];simp only [pp];have key:=cJ (body:=oK) (fun i=>((i:Int),a,b)) (adX a) (fun i=> ¬a[i]! =b[i]!) (r:=ae6) (e:=adZ) (fun i hi=>by
  have e1:ae9 ((i:Int)<((adX a):Int))=adZ:=aK (by omega);unfold oK;simp only [aB,e1,lw,au a i hi,au b i (by omega),ar,bk (show i<1000000000 by omega),R1];constructor
  · intro h;rw [aG h];rfl
  · intro h;rw [aK (EQ.1 h)];rfl) (by
  unfold oK;have:ae9 (((adX a):Int)<((adX a):Int))=ae6:=aG (by omega);simp only [aB,this,pp])
 by_cases he:a=b
 · rw [aK he]
   exact key.2 fun i hi=>EQ.2 (by rw [he])
 rw [aG he]
 refine key.1 (v6 fun hx=>he (Aq h fun i hi=>?_));exact v6 fun hn=>hx ⟨i,hi,hn⟩
theorem Hy (a b:List pz) (hl:(adX a)<=1000000):jm a b=adY (ae9 (a=b)):=by
 unfold jm;simp only [aB]
 by_cases h:(adX a)=adX b
 case neg=>rw [dS (by omega),aG (fun k=>h (by rw [k]))];rfl
 rw [cK (by omega)];simp only [pp];have key:=cJ (body:=gP) (fun i=>(a,b,((adX a):Int),(i:Int))) (adX a) (fun i=> ¬a[i]! =b[i]!) (r:=ae6) (e:=adZ) (fun i hi=>by
  have e1:ae9 ((i:Int)<((adX a):Int))=adZ:=aK (by omega);unfold gP;simp only [e1,lw,au a i hi,au b i (by omega),ar,bk (show i<1000000000 by omega),R1];constructor
  · intro h;rw [aG h];rfl
  · intro h;rw [aK (EQ.1 h)];rfl) (by
  unfold gP;have:ae9 (((adX a):Int)<((adX a):Int))=ae6:=aG (by omega);simp only [this,pp])
 by_cases he:a=b
 · rw [aK he]
   exact key.2 fun i hi=>EQ.2 (by rw [he])
 rw [aG he]
 refine key.1 (v6 fun hx=>he (Aq h fun i hi=>?_));exact v6 fun hn=>hx ⟨i,hi,hn⟩
theorem OO {cs:List pz} {m:Nat} {x:pz} (hx:x∈cs) (dC:x.1≠(cs[m]!).1):x∈cs.eraseIdx m:=by
 obtain ⟨j,hj,rfl⟩:=aN.1 hx;have hjm:j≠m:=fun h=>dC (by rw [h])
 rw [qV,UV]
 by_cases h:j<m
 · exact .inl (cI.2 ⟨j,h,hj,rfl⟩)
 right
 rw [aN];refine ⟨j- (m+1),by rw [IR];omega,?_⟩;rw [qy]
 congr 1;omega
def kP (c0:aI) (f:List Pt) (es:List (Int×Int)) (i:Nat) (c:aI):=
 (es,c0.af.ci,((adX c0.af.ci):Int),(i:Int),c.ii.1,c.ii.2,c.io.be,c.af.aM,c.af.ci,c.aa.ai.aq,c.aa.ai.bi,c.aa.ai.bv,c.aa.ce,c.aa.ao,c.jp,f,(0:Int),(0:Int),(0:Int))
def kR (c0:aI) (f:List Pt) (es:List (Int×Int)) (i:Nat) (c:aI):=
 (es,(i:Int),c0.ii.1,c0.ii.2,c0.io.be,c0.af.aM,c0.af.ci,c0.aa.ai.aq,c0.aa.ai.bi,c0.aa.ai.bv,c0.aa.ce,c0.aa.ao,c0.jp,f,(0:Int),(0:Int),(0:Int),c.ii.1,c.ii.2,c.io.be,c.af.aM,c.af.ci,c.aa.ai.aq,c.aa.ai.bi,c.aa.ai.bv,c.aa.ce,c.aa.ao,c.jp)
def eP (es:List (Int×Int)) (i:Nat) (c:aI):=
 (es,((adX es):Int),(i:Int),c.ii.1,c.ii.2,c.io.be,c.af.aM,c.af.ci,c.aa.ai.aq,c.aa.ai.bi,c.aa.ai.bv,c.aa.ce,c.aa.ao,c.jp,(0:Int),(0:Int),(0:Int))
def eR (es:List (Int×Int)) (i:Nat) (c:aI):=
 (es,(i:Int),(0:Int),(0:Int),(0:Int),c.ii.1,c.ii.2,c.io.be,c.af.aM,c.af.ci,c.aa.ai.aq,c.aa.ai.bi,c.aa.ai.bv,c.aa.ce,c.aa.ao,c.jp)
def jC (c:aI):Int:=c.af.aM- ((adX c.af.ci):Int)
structure JR (c:aI) (f:List Pt) (es:List (Int×Int)) (r:aI):Prop where
 has: ∀e∈es,qW r.af.ci e
 sub: ∀x∈r.af.ci,x.2∈es
 ok:aV r
 iq:r.io.be=f
 ii:r.ii=c.ii
 room:jC c<=jC r
def Roomy (c:aI) (k:Nat):Prop:=adX c.af.ci<=k/\c.af.aM<=k/\ ∀j,j<adX c.aa.ai.aq->c.aa.ai.aq[j]!<=k
theorem aT.len {l:List Pt} {t:Int×Int} {H:List Ev}: ∀{cs ds:List pz},aT l t H cs ds->adX ds<=adX cs
 | [],ds,h=>by rw [show ds=[] from h];exact ads _
 |x::cs,ds,h=>by
  cases hy:(bm l x.2 t).2 with
  |true=>obtain ⟨d,wb,rfl,_,_,h4⟩:=h.1 hy;exact Nat.succ_le_succ h4.len
  |false=>exact Nat.le_succ_of_le (h.2 hy).len
theorem Roomy.JS {c:aI} (ok:aV c) {k:Nat} (h:Roomy c k) (hk:k<=199): ¬(yr c.af\/ ¬tC c.aa.ai):=by
 obtain ⟨h1,h2,h3⟩:=h;have fl:=ok.xV.len;have hd:=ok.hd;have hl:=ok.kF.hl;have wl:=ok.kF.wl;have w2:=ok.CB;rintro (h|h)
 · rcases h with h|h<;>omega
 refine h ⟨by omega,?_⟩
 have:=h3 _ (uS ok.kF.so (by omega)).1;omega
theorem Roomy.more {c c':aI} {k:Nat} (h:Roomy c k) {x:Int×Int} (hc:c'.af=lE c.af x) (hs:c'.aa.ai=c.aa.ai\/c'.aa.ai=fq c.aa.ai):Roomy c' (k+1):=by
 obtain ⟨h1,h2,h3⟩:=h;refine ⟨?_,?_,fun j hj=>?_⟩
 · rw [hc]
   show (c.af.ci++[(c.af.aM,x)]).length<=_;rw [ut,NE];omega
 · rw [hc]
   show c.af.aM+1<=_;omega
 rcases hs with e|e
 · rw [e] at hj ⊢
   have:=h3 j hj;omega
 rw [e] at hj ⊢
 change j<(c.aa.ai.aq.set _ _).length at hj;rw [ad9] at hj;show (c.aa.ai.aq.set (cq c.aa.ai) (c.aa.ai.aq[cq c.aa.ai]!+1))[j]!<=_;rw [bc];split
 · rename_i h;have:=h3 _ h.2;omega
 have:=h3 j hj;omega
structure CX (f:List Pt) (es:List (Int×Int)):Prop where
 len:(adX es)<=1000000
 cv: ∀x∈es,gV x
 kn: ∀x∈es,js f x
theorem R2 {c0:aI} (ok0:aV c0) {f:List Pt} {es:List (Int×Int)} (OP:CX f es):
 ∀(d i:Nat) (c:aI),adX c0.af.ci-i<=d->i<=adX c0.af.ci->aV c->(∀x∈c0.af.ci.drop i,x∈c.af.ci)->(∀x∈c.af.ci,x∈c0.af.ci.drop i\/x.2∈es)->
  ∃c':aI,aD dG (kP c0 f es i c)=aD dG (kP c0 f es (adX c0.af.ci) c')/\aD cT (kR c0 f es i c)=aD cT (kR c0 f es (adX c0.af.ci) c')/\aV c'/\(∀x∈c'.af.ci,x.2∈es)/\c'.io=c.io/\c'.ii=c.ii/\jC c<=jC c':=by
 have bd:=ok0.bd;intro d
 induction d with
 |zero=>
  intro i c hd hi ok h1 h2;have:i=(adX c0.af.ci):=by omega
  subst this;refine ⟨c,rfl,rfl,ok,fun x hx=>?_,rfl,rfl,ad5 _⟩;rcases h2 x hx with h|h
  · rw [ad7] at h;cases h
  exact h
 |succ d ih=>
  intro i c hd hi ok h1 h2
  by_cases he:i=adX c0.af.ci
  · subst he
    refine ⟨c,rfl,rfl,ok,fun x hx=>?_,rfl,rfl,ad5 _⟩;rcases h2 x hx with h|h
    · rw [ad7] at h;cases h
    exact h
  have qG:i<(adX c0.af.ci):=by omega
  have e1:ae9 ((i:Int)<((adX c0.af.ci):Int))=adZ:=aK (by omega);have sc:=bk (show i<1000000000 by omega);have cg:=au c0.af.ci i qG;have dr:=qA qG;have pA:(aI.mk (c.ii.1,c.ii.2) (Field.mk c.io.be) (bj.mk c.af.aM c.af.ci) (aH.mk (aU.mk c.aa.ai.aq c.aa.ai.bi c.aa.ai.bv) c.aa.ce c.aa.ao) c.jp)=c:=rfl
  by_cases vw:(c0.af.ci[i]!).2∈es
  · have s1:dG (kP c0 f es i c)=adY (.next (kP c0 f es (i+1) c)):=by
     unfold dG kP;simp only [e1,lw,cg,ar,sV _ _ OP.len,aK vw,Do,pp,sc]
    have s2:cT (kR c0 f es i c)=adY (.next (kR c0 f es (i+1) c)):=by unfold cT kR;simp only [aB,e1,lw,cg,ar,Ci _ _ OP.len,aK vw,Do,pp,sc]
    rw [aX s1,aX s2];refine ih (i+1) c (by omega) (by omega) ok (fun x hx=>h1 x (by rw [dr];exact AC _ hx)) (fun x hx=>?_);rcases h2 x hx with h|h
    · rw [dr] at h
      rcases adV.1 h with rfl|h
      · exact .inr vw
      exact .inl h
    exact .inr h
  have hm:=h1 (c0.af.ci[i]!) (by rw [dr];exact ac6)
  obtain ⟨m,XS,Ps⟩:=aN.1 hm;obtain ⟨c',r1,r2,r3,r4,r5,r6⟩:=RU ok XS;have rt:=CC ok XS r1;rw [Ps] at r2 rt;have s1:dG (kP c0 f es i c)=adY (.next (kP c0 f es (i+1) c')):=by unfold dG kP;simp only [e1,lw,cg,ar,sV _ _ OP.len,aG vw,ww,sc,pA,rt]
  have s2:cT (kR c0 f es i c)=adY (.next (kR c0 f es (i+1) c')):=by unfold cT kR;simp only [aB,e1,lw,cg,ar,Ci _ _ OP.len,aG vw,ww,sc,pA,r2]
  rw [aX s1,aX s2];have cl:c'.af.ci=c.af.ci.eraseIdx m:=by rw [r6];rfl
  have vR:jC c<=jC c':=by unfold jC;rw [r6];show _<=c.af.aM- (((c.af.ci.eraseIdx m).length:Nat):Int);rw [List.length_eraseIdx_of_lt XS];omega
  have hs:(∀x∈c0.af.ci.drop (i+1),x∈c'.af.ci)/\(∀x∈c'.af.ci,x∈c0.af.ci.drop (i+1)\/x.2∈es):=by
   refine ⟨fun x hx=>?_,fun x hx=>?_⟩
   · rw [cl]
     refine OO (h1 x (by rw [dr];exact AC _ hx)) ?_;rw [Ps];exact AE ok0 hx qG
   rw [cl] at hx
   obtain ⟨a1,a2⟩:=qq ok.qZ XS hx;rw [Ps] at a2;rcases h2 x a1 with h|h
   · rw [dr] at h
     rcases adV.1 h with rfl|h
     · exact absurd rfl a2
     exact .inl h
   exact .inr h
  obtain ⟨d',q1,q2,q3,q4,q5,q6,q7⟩:=ih (i+1) c' (by omega) (by omega) r3 hs.1 hs.2;exact ⟨d',q1,q2,q3,q4,q5.trans r4,q6.trans r5,by omega⟩
theorem JT {f:List Pt} (_fok:cV f) {es:List (Int×Int)} (OP:CX f es):
 ∀(d i:Nat) (c:aI),adX es-i<=d->i<=adX es->aV c->c.io.be=f->(∀x∈c.af.ci,x.2∈es)->(∀j,j<i->qW c.af.ci es[j]!)->
  ∃r:aI×Int,aD ec (eP es i c)=adY (.done r)/\aD dm (eR es i c)=adY (.done r)/\(r.2=0/\JR c f es r.1\/r=(gd,18))/\(∀k,Roomy c k->k+(adX es-i)<=199->r.2=0):=by
 have el:=OP.len;have fin: ∀c:aI,aV c->c.io.be=f->(∀x∈c.af.ci,x.2∈es)->(∀j,j<adX es->qW c.af.ci es[j]!)-> ∃r:aI×Int,aD ec (eP es (adX es) c)=adY (.done r)/\aD dm (eR es (adX es) c)=adY (.done r)/\(r.2=0/\JR c f es r.1\/r=(gd,18))/\r.2=0:=by
  intro c ok hf hs hh;have e1:ae9 (((adX es):Int)<((adX es):Int))=ae6:=aG (by omega);refine ⟨(c,0),aJ ?_,aJ ?_,.inl ⟨rfl,fun e he=>by obtain ⟨j,hj,q⟩:=aN.1 he;rw [<- q];exact hh j hj,hs,ok,hf,rfl,ad5 _⟩,rfl⟩
  · unfold ec eP
    simp only [e1,pp]
  unfold dm eR
  simp only [aB,e1,pp]
 intro d
 induction d with
 |zero=>
  intro i c hd hi ok hf hs hh;have:i=(adX es):=by omega
  subst this;obtain ⟨r,q1,q2,q3,q4⟩:=fin c ok hf hs hh;exact ⟨r,q1,q2,q3,fun _ _ _=>q4⟩
 |succ d ih=>
  intro i c hd hi ok hf hs hh
  by_cases he:i=adX es
  · subst he
    obtain ⟨r,q1,q2,q3,q4⟩:=fin c ok hf hs hh;exact ⟨r,q1,q2,q3,fun _ _ _=>q4⟩
  have bd:=ok.bd;have qG:i<(adX es):=by omega
  have e1:ae9 ((i:Int)<((adX es):Int))=adZ:=aK (by omega);have sc:=bk (show i<1000000000 by omega);have cg:=au es i qG;have pA:(aI.mk (c.ii.1,c.ii.2) (Field.mk c.io.be) (bj.mk c.af.aM c.af.ci) (aH.mk (aU.mk c.aa.ai.aq c.aa.ai.bi c.aa.ai.bv) c.aa.ce c.aa.ao) c.jp)=c:=rfl;have JU:bj.mk c.af.aM c.af.ci=c.af:=rfl;have hc:=JI c.af.ci es[i]! (by omega);have hr:=uX c.af es[i]! (by omega)
  by_cases vw:qW c.af.ci es[i]!
  · have s1:ec (eP es i c)=adY (.next (eP es (i+1) c)):=by
     unfold ec eP;simp only [e1,lw,cg,ar,BF,hc,aK vw,sc]
    have s2:dm (eR es i c)=adY (.next (eR es (i+1) c)):=by unfold dm eR;simp only [aB,e1,lw,cg,ar,JU,hr,aK vw,sc]
    rw [aX s1,aX s2];obtain ⟨r,q1,q2,q3,q4⟩:=ih (i+1) c (by omega) (by omega) ok hf hs (fun j hj=>if q:j=i then by rw [q];exact vw else hh j (by omega));exact ⟨r,q1,q2,q3,fun k hk hl=>q4 k hk (by omega)⟩
  have hb:js c.io.be es[i]!:=by rw [hf];exact OP.kn _ (aR qG)
  rcases WJ ok (OP.cv _ (aR qG)) hb vw with ⟨r1,r2,full⟩|⟨c',r1,r2,r3,r4,r5,r6,r7⟩
  · refine ⟨(gd,18),aJ ?_,aJ ?_,.inr rfl,fun k hk hl=>absurd full (hk.JS ok (by omega))⟩
    · unfold ec eP
      simp only [e1,lw,cg,ar,BF,hc,aG vw,pp,pA,r1,show ((18:Int) !=0)=adZ from rfl]
    unfold dm eR
    simp only [aB,e1,lw,cg,ar,JU,hr,aG vw,pp,pA,r2,show ((18:Int) !=0)=adZ from rfl]
  have s1:ec (eP es i c)=adY (.next (eP es (i+1) c')):=by
   unfold ec eP;simp only [e1,lw,cg,ar,BF,hc,aG vw,pp,pA,r1,show ((0:Int) !=0)=ae6 from rfl,sc]
  have s2:dm (eR es i c)=adY (.next (eR es (i+1) c')):=by unfold dm eR;simp only [aB,e1,lw,cg,ar,JU,hr,aG vw,pp,pA,r2,show ((0:Int) !=0)=ae6 from rfl,sc]
  rw [aX s1,aX s2];obtain ⟨r,q1,q2,q3,q6⟩:=ih (i+1) c' (by omega) (by omega) r3 (by rw [r4,hf]) (fun x hx=>by
   rw [r6] at hx;rcases UV.1 (show x∈c.af.ci++[(c.af.aM,es[i]!)] from hx) with h|h
   · exact hs x h
   · rw [List.mem_singleton.1 h];exact aR qG) (fun j hj=>by
   rw [r6];show qW (c.af.ci++[(c.af.aM,es[i]!)]) _
   by_cases q:j=i
   · rw [q];exact ⟨adX c.af.ci,by rw [ut,NE];omega,by rw [fC (ads _),Nat.sub_self];rfl⟩
   obtain ⟨w,w1,w2⟩:=hh j (by omega)
   exact ⟨w,by rw [ut];omega,by rw [eM w1];exact w2⟩)
  refine ⟨r,q1,q2,q3.imp (fun ⟨q4,q5⟩=>⟨q4,q5.has,q5.sub,q5.ok,q5.iq,q5.ii.trans r5,ad8 ?_ q5.room⟩) id,fun k hk hl=>q6 (k+1) (hk.more r6 r7) (by omega)⟩;unfold jC;rw [r6];show _<=(c.af.aM+1) - (((c.af.ci++[(c.af.aM,es[i]!)]).length:Nat):Int);rw [ut,NE];omega
theorem M8 {c:aI} (ok:aV c) {f:List Pt} (pC:cV f) {es:List (Int×Int)} (OP:CX f es):
 ∃r:aI×Int,kv c ⟨f⟩ es=adY r/\sM c ⟨f⟩ es=adY r/\(r.2=0/\JR c f es r.1\/r=(gd,18)):=by
 have f64:=pC.1;obtain ⟨c',g1,g2,g3,g4,g5,g6,g7⟩:=R2 ok OP (adX c.af.ci) 0 c (by omega) (by omega) ok (fun x hx=>by rwa [ad3] at hx) (fun x hx=> .inl (by rwa [ad3]));have bd:=g3.bd;have e1:ae9 (((adX c.af.ci):Int)<((adX c.af.ci):Int))=ae6:=aG (by omega);have adx:kv c ⟨f⟩ es=aD dG (kP c f es 0 c):=rfl;have ady:sM c ⟨f⟩ es=aD cT (kR c f es 0 c):=by unfold sM;simp only [iD ok,ar];rfl
 rw [adx,ady,g1,g2];have eq1:=Hy c'.io.be f (by omega);have eq2:=Cj c'.io.be f (by omega);have pA:(aI.mk (c'.ii.1,c'.ii.2) (Field.mk c'.io.be) (bj.mk c'.af.aM c'.af.ci) (aH.mk (aU.mk c'.aa.ai.aq c'.aa.ai.bi c'.aa.ai.bv) c'.aa.ce c'.aa.ao) c'.jp)=c':=rfl
 by_cases hf:c'.io.be=f
 · obtain ⟨r,i1,i2,i3,_⟩:=JT pC OP (adX es) 0 c' (by omega) (by omega) g3 hf g4 (fun j hj=>absurd hj (adG j))
   refine ⟨r,aJ ?_,aJ ?_,i3.imp (fun ⟨q4,q5⟩=>⟨q4,q5.has,q5.sub,q5.ok,q5.iq,q5.ii.trans g6,ad8 g7 q5.room⟩) id⟩
   · unfold dG kP
     simp only [e1,pp,eq1,aK hf,ar,Do];exact i1
   unfold cT kR
   simp only [aB,e1,pp,eq2,aK hf,ar,Do];exact i2
 have kn: ∀i,i<adX c'.af.ci->js f (c'.af.ci[i]!).2:=fun i hi=>OP.kn _ (g4 _ (aR hi))
 rcases agZ g3 pC kn with ⟨a1,a2⟩|⟨c2,a1,a2,a3,a4,a5,a6⟩
 · refine ⟨(gd,18),aJ ?_,aJ ?_,.inr rfl⟩
   · unfold dG kP
     simp only [e1,pp,eq1,aG hf,ar,ww,lw,pA,a1,show ((18:Int) !=0)=adZ from rfl]
   unfold cT kR
   simp only [aB,e1,pp,eq2,aG hf,ar,ww,lw,pA,a2,show ((18:Int) !=0)=adZ from rfl]
 obtain ⟨r,i1,i2,i3,_⟩:=JT pC OP (adX es) 0 c2 (by omega) (by omega) a3 a4 (by rw [a6];exact g4) (fun j hj=>absurd hj (adG j))
 refine ⟨r,aJ ?_,aJ ?_,i3.imp (fun ⟨q4,q5⟩=>⟨q4,q5.has,q5.sub,q5.ok,q5.iq,(q5.ii.trans a5).trans g6,ad8 (ad8 g7 (by unfold jC;rw [a6];exact ad5 _)) q5.room⟩) id⟩
 · unfold dG kP
   simp only [e1,pp,eq1,aG hf,ar,ww,lw,pA,a1,show ((0:Int) !=0)=ae6 from rfl];exact i1
 unfold cT kR
 simp only [aB,e1,pp,eq2,aG hf,ar,ww,lw,pA,a2,show ((0:Int) !=0)=ae6 from rfl];exact i2
theorem zk {σ ρ:Type} {body:σ->Option (Step σ ρ)} (st:Nat->σ) (n:Nat) (P:Nat->Prop) {r e:ρ} (h: ∀i,i<n->(¬P i->body (st i)=adY (.done r))/\(P i->body (st i)=adY (.next (st (i+1)))))
 (Ru:body (st n)=adY (.done e)):aD body (st 0)=adY (if∀i,i<n->P i then e else r):=by
 have key:=cJ (body:=body) st n (fun i=> ¬P i) (r:=r) (e:=e) (fun i hi=>⟨(h i hi).1,fun hn=>(h i hi).2 (EQ.1 hn)⟩) Ru
 by_cases hx: ∀i,i<n->P i
 · rw [rc hx];exact key.2 fun i hi=>EQ.2 (hx i hi)
 rw [sp hx]
 obtain ⟨i,h⟩:=adu.1 hx;obtain ⟨hi,hx⟩:=adA.1 h;exact key.1 ⟨i,hi,hx⟩
structure R3 (c:aI):Prop where
 f:(adX c.io.be)<=1000000
 l:(adX c.af.ci)<=1000000
 d:(adX c.jp)<=1000000
 h:(adX c.aa.ce)<=1000000
 w:(adX c.aa.ao)<=1000000
 s1:(adX c.aa.ai.aq)<=1000000
 s2:(adX c.aa.ai.bi)<=1000000
 s3:(adX c.aa.ai.bv)<=1000000
structure R4 (c:aI):Prop where
 ii:jP c.ii
 Jz: ∀w,w<adX c.aa.ce->jP ((c.aa.ce[w]!).1,(c.aa.ce[w]!).2.1)
theorem JV (f:Field):o7 f=adY adZ\/(o7 f=adY ae6/\adX f.be<=70):=by
 unfold o7
 simp only [aB]
 by_cases h1:16<adX f.be
 · rw [aK (show (16:Int)<((adX f.be):Int) by omega)]
   by_cases h2:(adX f.be)<64
   · rw [aK (show ((adX f.be):Int)<64 by omega)];exact .inl rfl
   rw [aG (show¬((adX f.be):Int)<64 by omega)]
   by_cases h3:70<adX f.be
   · rw [aK (show (70:Int)<((adX f.be):Int) by omega)];exact .inl rfl
   rw [aG (show¬(70:Int)<((adX f.be):Int) by omega)];exact .inr ⟨rfl,by omega⟩
 rw [aG (show¬(16:Int)<((adX f.be):Int) by omega),aG (show¬(70:Int)<((adX f.be):Int) by omega)]
 exact .inr ⟨rfl,by omega⟩
theorem JW (c:aI):o8 c=adY adZ\/(o8 c=adY ae6/\R3 c):=by
 unfold o8 wN wM
 simp only [aB]
 by_cases h1:40<adX c.af.ci
 · rw [aK (show (40:Int)<((adX c.af.ci):Int) by omega)];exact .inl rfl
 rw [aG (show¬(40:Int)<((adX c.af.ci):Int) by omega)]
 by_cases h2:40<adX c.jp
 · rw [aK (show (40:Int)<((adX c.jp):Int) by omega)];exact .inl rfl
 rw [aG (show¬(40:Int)<((adX c.jp):Int) by omega)];rcases JV c.io with e|⟨e,hf⟩
 · rw [e];exact .inl rfl
 rw [e];simp only [pp,ar]
 by_cases a1:210<adX c.aa.ai.aq
 · rw [aK (show (210:Int)<((adX c.aa.ai.aq):Int) by omega)];exact .inl rfl
 rw [aG (show¬(210:Int)<((adX c.aa.ai.aq):Int) by omega)]
 by_cases a2:210<adX c.aa.ai.bi
 · rw [aK (show (210:Int)<((adX c.aa.ai.bi):Int) by omega)];exact .inl rfl
 rw [aG (show¬(210:Int)<((adX c.aa.ai.bi):Int) by omega)]
 by_cases a3:210<adX c.aa.ai.bv
 · rw [aK (show (210:Int)<((adX c.aa.ai.bv):Int) by omega)];exact .inl rfl
 rw [aG (show¬(210:Int)<((adX c.aa.ai.bv):Int) by omega)]
 by_cases a4:210<adX c.aa.ce
 · rw [aK (show (210:Int)<((adX c.aa.ce):Int) by omega)];exact .inl rfl
 rw [aG (show¬(210:Int)<((adX c.aa.ce):Int) by omega)]
 by_cases a5:210<adX c.aa.ao
 · rw [aK (show (210:Int)<((adX c.aa.ao):Int) by omega)];exact .inl rfl
 rw [aG (show¬(210:Int)<((adX c.aa.ao):Int) by omega)];exact .inr ⟨rfl,⟨by omega,by omega,by omega,by omega,by omega,by omega,by omega,by omega⟩⟩
theorem xK {a b:Int×Int} (ha:aZ a) (hb:aZ b) (h:a.1*b.2=b.1*a.2):a=b:=by
 obtain ⟨a1,_,a3⟩:=ha;obtain ⟨b1,_,b3⟩:=hb;have hn:a.1.natAbs*b.2.natAbs=b.1.natAbs*a.2.natAbs:=by rw [<- adU,<- adU,h]
 have d1:b.2.natAbs ∣ a.2.natAbs:=by
  have:b.2.natAbs ∣ b.1.natAbs*a.2.natAbs:=by rw [<- hn];exact adD _ _
  exact (Nat.Coprime.dvd_of_dvd_mul_left b3 this)
 have d2:a.2.natAbs ∣ b.2.natAbs:=by
  have:a.2.natAbs ∣ a.1.natAbs*b.2.natAbs:=by rw [hn];exact adD _ _
  exact (Nat.Coprime.dvd_of_dvd_mul_left a3 this)
 have e:a.2.natAbs=b.2.natAbs:=Nat.dvd_antisymm d2 d1;have e2:a.2=b.2:=by omega
 have e1:a.1=b.1:=by rw [e2] at h;exact Int.eq_of_mul_eq_mul_right (by omega) h
 exact adz e1 e2
theorem xL (p q:Pt) (t:Int×Int):rf p q t=(p.2.1-q.2.1)*t.2+(p.2.2-q.2.2)*t.1:=rfl
theorem JX {l h:Pt} {t t':Int×Int} (d:1<=t.2) (d':1<=t'.2) (le:t.1*t'.2<=t'.1*t.2) (hB: ¬h.2.2<l.2.2) (hn: ¬leads l h t): ¬leads l h t':=by
 unfold leads at*;rw [xL] at*;generalize l.2.1-h.2.1=A at*;have hs:l.2.2-h.2.2<=0:=by omega
 intro hl;have key:(A*t'.2+(l.2.2-h.2.2)*t'.1)*t.2<=(A*t.2+(l.2.2-h.2.2)*t.1)*t'.2:=by
  have h1:(l.2.2-h.2.2)*(t'.1*t.2)<=(l.2.2-h.2.2)*(t.1*t'.2):=Int.mul_le_mul_of_nonpos_left hs le;have e1:(A*t'.2+(l.2.2-h.2.2)*t'.1)*t.2=A*t'.2*t.2+(l.2.2-h.2.2)*(t'.1*t.2):=by rw [Int.add_mul,ad6 (l.2.2-h.2.2)]
  have e2:(A*t.2+(l.2.2-h.2.2)*t.1)*t'.2=A*t'.2*t.2+(l.2.2-h.2.2)*(t.1*t'.2):=by rw [Int.add_mul,ad6 (l.2.2-h.2.2),ad6 A,ad6 A,adB t.2]
  omega
 rcases hl with hl|⟨hl,h2|⟨h2,h3⟩⟩
 · refine hn (.inl ?_)
   have:0<(A*t'.2+(l.2.2-h.2.2)*t'.1)*t.2:=Int.mul_pos hl (by omega);have k:0<(A*t.2+(l.2.2-h.2.2)*t.1)*t'.2:=by omega
   exact Int.pos_of_mul_pos_left k (by omega)
 · omega
 have z:l.2.2-h.2.2=0:=by omega
 rw [z] at hl hn;have:A=0:=by
  have:A*t'.2=0:=by omega
  rcases Int.mul_eq_zero.1 this with h|h
  · exact h
  omega
 subst this;exact hn (.inr ⟨by omega,.inr ⟨h2,h3⟩⟩)
theorem zl {h l:Pt} {t t':Int×Int} (hh:ek h) (hl:ek l) (r:aZ t) (r':aZ t') (le:t.1*t'.2<=t'.1*t.2) (up:(fu h l t).2=adZ->t'.1*(fu h l t).1.2<=(fu h l t).1.1*t'.2):
 fu h l t'=fu h l t:=by
 unfold fu at*
 by_cases h1:leads l h t
 · rw [rc h1] at up ⊢
   have e:t=t':=xK r r' (by have:=up rfl;dsimp only at this;omega);subst e;rw [rc h1]
 rw [sp h1] at up ⊢
 by_cases h2:h.2.2<l.2.2
 · rw [rc h2] at up ⊢
   obtain ⟨_,m1,m2,m3⟩:=sN hh hl (show h.2.2≠l.2.2 by omega);have up:=up rfl;dsimp only at up
   by_cases h3:leads l h t'
   · rw [rc h3]
     have:t'=met h l:=by
      refine xK r' m1 ?_;have g:0<=rf l h t':=by rcases h3 with k|k<;>omega
      rw [xL] at g;generalize met h l=m at*;have d:=m1.1;have hB:0<l.2.2-h.2.2:=by omega
      generalize l.2.2-h.2.2=B at*;generalize hA:h.2.1-l.2.1=A at*;have g2:A*t'.2<=B*t'.1:=by
       have:(l.2.1-h.2.1)*t'.2= -(A*t'.2):=by rw [<- Int.neg_mul];congr 1;omega
       omega
      have g3:m.1*t'.2*B<=t'.1*m.2*B:=by
       have e1:m.1*t'.2*B=A*t'.2*m.2:=by rw [M2,m3,M2]
       have e2:t'.1*m.2*B=B*t'.1*m.2:=by rw [M2,adB t'.1 B]
       rw [e1,e2];exact ad0 g2 (by omega)
      have g4:m.1*t'.2<=t'.1*m.2:=ad4 g3 hB;omega
     rw [this]
   rw [sp h3]
 rw [sp h2] at up ⊢
 rw [sp (JX r.1 r'.1 le h2 h1)]
theorem BI {a:aH} (ok:dT a): ∀k,k<adX a.ce-> ¬less a.ce[k]! a.ce[0]!:=by
 have d: ∀w,w<adX a.ce->1<=(a.ce[w]!).2.1:=fun w hw=>(ok.ev w hw).1.1
 intro k
 induction k using Nat.strongRecOn with
 |ind k ih=>
  intro hk
  by_cases h0:k=0
  · subst h0;exact fun h=>lP h h
  exact tD (d 0 (by omega)) (d ((k-1) / 2) (by omega)) (d k hk) (ih ((k-1) / 2) (by omega) (by omega)) (ok.ord k (by omega) hk)
theorem R5 {h l:Pt} {t:Int×Int} (hh:ek h) (hl:ek l) (r:aZ t) (is:(fu h l t).2=adZ):t.1*(fu h l t).1.2<=(fu h l t).1.1*t.2:=by
 unfold fu at*
 by_cases h1:leads l h t
 · rw [rc h1];exact ad5 _
 rw [sp h1] at is ⊢
 by_cases h2:h.2.2<l.2.2
 · rw [rc h2]
   obtain ⟨_,m1,m2,m3⟩:=sN hh hl (show h.2.2≠l.2.2 by omega);dsimp only;have g:rf l h t<=0:=Int.not_lt.1 fun k=>h1 (.inl k)
   rw [xL] at g;generalize met h l=m at*;have d:=m1.1;have d2:=r.1;have hB:0<l.2.2-h.2.2:=by omega
   generalize l.2.2-h.2.2=B at*;generalize hA:h.2.1-l.2.1=A at*;have g2:B*t.1<=A*t.2:=by
    have:(l.2.1-h.2.1)*t.2= -(A*t.2):=by rw [<- Int.neg_mul];congr 1;omega
    omega
   have e1:t.1*m.2*B=B*t.1*m.2:=by rw [M2,adB t.1 B]
   have e2:m.1*t.2*B=A*t.2*m.2:=by rw [M2,m3,M2]
   have g3:t.1*m.2*B<=m.1*t.2*B:=by rw [e1,e2];exact ad0 g2 (by omega)
   exact ad4 g3 hB
 rw [sp h2] at is;cases is
theorem aT.time {l:List Pt} {t t':Int×Int} {H:List Ev}: ∀{cs ds:List pz},(∀x∈cs,bm l x.2 t'=bm l x.2 t)->aT l t H cs ds->aT l t' H cs ds
 | [],_,_,h=>h
 |x::cs,ds,hw,h=>by
  have e:=hw x ac6;have ih: ∀{ds},aT l t H cs ds->aT l t' H cs ds:=fun {ds}=>aT.time fun y hy=>hw y (AC _ hy)
  refine ⟨fun hy=>?_,fun hy=>?_⟩
  · rw [e] at hy
    obtain ⟨d,wb,h1,h2,h3,h4⟩:=h.1 hy;exact ⟨d,wb,h1,h2,by rw [e];exact h3,ih h4⟩
  rw [e] at hy
  exact ih (h.2 hy)
theorem EV {c:aI} (ok:aV c) (dC:0<adX c.aa.ce):
 ∃(i:Nat) (c':aI),i<adX c.af.ci/\(c.af.ci[i]!).1=Ev.num c.aa.ce[0]!/\jl c (Ev.num c.aa.ce[0]!)=adY (c',(c.af.ci[i]!).2,0)/\og c (Ev.num c.aa.ce[0]!)=adY c'/\
  aV ⟨Ev.at c.aa.ce[0]!,c'.io,c'.af,c'.aa,c'.jp⟩/\c'.io=c.io/\c'.af=kS c.af i/\c.ii.1*(Ev.at c.aa.ce[0]!).2<=(Ev.at c.aa.ce[0]!).1*c.ii.2:=by
 have hm:=aR dC;obtain ⟨d,hd,hn⟩:=ok.wV _ hm;obtain ⟨x,hx,h1,h2,h3⟩:=ok.xV.jp d hd;obtain ⟨w,hw,he⟩:=aN.1 h3;have hw0:w=0:=v6 fun hx=>by refine ok.kF.nd 0 w (by omega) hw ?_;rw [he,<- hn,h1]
 subst hw0;obtain ⟨i,hi,rfl⟩:=aN.1 hx;have num:(c.af.ci[i]!).1=Ev.num c.aa.ce[0]!:=by rw [<- hn,h1]
 have tm:Ev.at c.aa.ce[0]! =(bm c.io.be (c.af.ci[i]!).2 c.ii).1:=by rw [he]
 obtain ⟨c',r1,r2,r3,r4,r5,r6⟩:=RU ok hi;have hb:=ok.known i hi;have pt:=fun (x:Int×Int) (hb:js c.io.be x)=>And.intro (dz ok.iq hb.2).1 (dz ok.iq hb.1).1
 have rt:=As (pt _ hb).1 (pt _ hb).2 ok.jb ok.jQ h2;have ge:=R5 (pt _ hb).1 (pt _ hb).2 ok.jQ h2;rw [num] at r1 r2;refine ⟨i,c',hi,num,r1,r2,?_,r4,r6,by rw [tm];exact ge⟩;have kn:=wZ ok i hi;refine ⟨by rw [tm];exact rt.1,by rw [tm];exact rt.2,r3.iq,r3.pT,r3.kF,r3.CB,r3.hd,r3.known,?_⟩;refine aT.time (t:=c'.ii) (fun y hy=>?_) r3.xV;have hy':y∈c.af.ci:=by rw [r6] at hy;exact (qq ok.qZ hi hy).1
 obtain ⟨j,hj,rfl⟩:=aN.1 hy';have hbj:=ok.known j hj;rw [r4,r5];refine zl (pt _ hbj).1 (pt _ hbj).2 ok.jQ (by rw [tm];exact rt.1) (by rw [tm];exact ge) (fun is=>?_);obtain ⟨d',hd',k1,k2⟩:=ok.xV.has _ hy' is;obtain ⟨w,hw,he⟩:=aN.1 k2;have:=BI ok.kF w hw;rw [he] at this;exact Int.not_lt.1 fun k=>this (.inl (qo.2 k))
theorem CD {p q:Pt} {t:Int×Int} (hp:ek p) (hq:ek q) (ht:jP t) (hr:aZ t):mV p q t=adY (ae9 (leads p q t),if p.1=q.1 then 2 else 0)\/(p.1=q.1/\mV p q t=adY (ae6,2)):=by
 unfold mV;rw [oL ht,rc ⟨hp,hq,hr⟩]
 by_cases h:p.1=q.1
 · right;simp [h]
 left
 simp only [h,if_false,ar,sg hp hq ht];have:ae9 (0<Lz p q t)=ae9 (leads p q t):=by simp only [Es]
 simp [this]
end Go.Proofs.YtmikolhhnhndkaaGreat
namespace Go.Proofs.YtmikolhhnhndkaaGreat
theorem lQ {α:Type} [BEq α] [LawfulBEq α]: ∀{a b:List α},a.Nodup->(∀x∈a,x∈b)->adX b<=adX a->a.Perm b
 | [],b,_,_,hl=>by rw [List.eq_nil_of_length_eq_zero (show (adX b)=0 by simpa using hl)]
 |x::a,b,hd,h,hl=>by
  rw [adc] at hd;have hx:=h x ac6;have ih:=lQ (a:=a) (b:=b.erase x) hd.2 (fun y hy=>by
   rw [List.mem_erase_of_ne (fun e=>hd.1 (by rw [<- e];exact hy))];exact h y (AC _ hy)) (by
   rw [List.length_erase_of_mem hx];rw [PP] at hl;omega)
  exact (List.Perm.cons x ih).trans (List.perm_cons_erase hx).symm
theorem uY {α β:Type} {f:α->β}: ∀{l:List α},l.Nodup->(∀x∈l,∀y∈l,f x=f y->x=y)->(l.map f).Nodup
 | [],_,_=>List.nodup_nil
 |x::l,h,hi=>by rw [adc] at h;rw [List.map_cons,adc];refine ⟨fun hm=>?_,uY h.2 fun y hy z hz=>hi y (AC _ hy) z (AC _ hz)⟩;obtain ⟨y,hy,e⟩:=ad2.1 hm;have:=hi y (AC _ hy) x ac6 e;rw [this] at hy;exact h.1 hy
end Go.Proofs.YtmikolhhnhndkaaGreat
namespace Go.Proofs.YtmikolhhnhndkaaGreat
open Go.Vm Classical
def q9 (l:List Int) (k:Nat):List (Int×Int):=(List.range k).map fun i=>(l[i+1]!,l[i / 2]!)
abbrev bO (l:List Int):List (Int×Int):=q9 l (adX l-1)
theorem fS (l:List Int) (k:Nat):(q9 l k).length=k:=by unfold q9;rw [If,List.length_range]
theorem JY (l:List Int) (k:Nat):q9 l (k+1)=q9 l k++[(l[k+1]!,l[k / 2]!)]:=by unfold q9;rw [List.range_succ,List.map_append];rfl
theorem jh (l:List Int) {k i:Nat} (h:i<k):(q9 l k)[i]! =(l[i+1]!,l[i / 2]!):=by rw [getElem!_pos _ i (by rw [fS];exact h)];unfold q9;rw [List.getElem_map,List.getElem_range]
theorem AF (l:List Int) (hl:(adX l)<=1000):jf l=adY (bO l):=by
 unfold jf;have key:=gr (body:=mR) (fun i=>(l,((i+1:Nat):Int),q9 l i)) (adX l-1) (fun i hi=>by
  have e:aj .i64 (Int.tdiv (aj .i64 (((i+1:Nat):Int) -1)) 2)=((i / 2:Nat):Int):=by rw [show aj .i64 (((i+1:Nat):Int) -1)=(i:Int) from by rw [B' ⟨by omega,by omega⟩];omega,Int.tdiv_eq_ediv_of_nonneg (by omega),B' ⟨by omega,by omega⟩];omega
  unfold mR;simp only [aB,aK (show ((i+1:Nat):Int)<((adX l):Int) by omega),lw,au l (i+1) (by omega),e,au l (i / 2) (by omega),ar];rw [eW (by rw [fS,NE];omega),ar,bk (show i+1<1000000000 by omega),<- JY])
 rw [show (l,(1:Int),([]:List (Int×Int)))=(l,((0+1:Nat):Int),q9 l 0) from rfl,key];refine aJ ?_;unfold mR;simp only [aB,aG (show¬((adX l-1+1:Nat):Int)<((adX l):Int) by omega),pp]
theorem ag0 (l:List Int) (hl:(adX l)<=1000):Ao l=adY (bO l):=by rw [<- AF l hl];rfl
theorem BJ {l:List Int} {e:Int×Int} (h:e∈bO l):e.1∈l/\e.2∈l:=by obtain ⟨i,hi,rfl⟩:=aN.1 h;rw [fS] at hi;rw [jh l hi];exact ⟨aR (by omega),aR (by omega)⟩
theorem JZ {l:List Int} (hd:l.Nodup) {e:Int×Int} (h:e∈bO l):e.1≠e.2:=by obtain ⟨i,hi,rfl⟩:=aN.1 h;rw [fS] at hi;rw [jh l hi];exact fun h=>bN.1 hd (i / 2) (i+1) (by omega) (by omega) h.symm
theorem w5 {l:List Int} (hd:l.Nodup):(bO l).Nodup:=by
 unfold bO q9;refine uY List.nodup_range fun i hi j hj h=>?_
 rw [List.mem_range] at hi hj;have h1:l[i+1]! =l[j+1]!:=congrArg adW h;have h2:=bN.1 hd;rcases acl i j with k|k|k
 · exact absurd h1 (h2 (i+1) (j+1) (by omega) (by omega))
 · exact k
 exact absurd h1.symm (h2 (j+1) (i+1) (by omega) (by omega))
theorem EW (l:List Int) (x:Int) (hl:(adX l)<=1000000):
 (∀k,k<adX l->l[k]! =x->(∀j,j<k->l[j]!≠x)->fk l x=adY (k:Int))/\((∀k,k<adX l->l[k]!≠x)->fk l x=adY (-1)):=by
 have k1:=ik (body:=iK) (fun i=>(l,x,((adX l):Int),(i:Int))) (adX l) (fun i=>l[i]! =x) (fun i=>(i:Int)) (e:= -1) (fun i hi=>by
  unfold iK;simp only [aK (show (i:Int)<((adX l):Int) by omega),lw,au l i hi,ar,bk (show i<1000000000 by omega)];refine ⟨fun h=>?_,fun h=>?_⟩
  · rw [dB h.symm];rfl
  · rw [dL (fun k=>h k.symm)];rfl) (by
  unfold iK;simp only [aG (show¬((adX l):Int)<((adX l):Int) by omega),pp])
 exact ⟨fun k hk h1 h2=>k1.1 k hk h1 h2,fun h=>k1.2 h⟩
theorem Hz (l:List Int) (x:Int) (hl:(adX l)<=1000000):iL l x=adY (ae9 (x∈l)):=by
 unfold iL
 by_cases hx:x∈l
 · obtain ⟨k,k1,k2,k3⟩:=least (c:=fun k=>l[k]! =x) (aN.1 hx)
   rw [(EW l x hl).1 k k1 k2 k3,ar,aK hx,aK (by omega)]
 rw [(EW l x hl).2 (fun k hk h=>hx (aN.2 ⟨k,hk,h⟩)),ar,aG hx];rfl
theorem yt {f:List Pt} (pC:cV f) {id:Int} (h:oq f id):qL ⟨f⟩ id=adY (bJ f id,0):=by
 have h1:=pC.1;have hc:gl ⟨f⟩=adY 0:=by rw [nv];exact congrArg adY (mj.2 pC)
 have bs:=CW f id (by omega) (fun i j=>qz pC.2.2);unfold qL wL y9;rw [WH];simp only [hc,ar,show ((0:Int) !=0)=ae6 from rfl,pp];obtain ⟨k,hk,he⟩:=h;rw [bs.1 k hk he];simp only [ar,Do,pp,show ((0:Int) !=0)=ae6 from rfl,au f k hk,AB pC.2.2 hk he]
theorem R6 {f:List Pt} (pC:cV f) {t:Int×Int} (r:aZ t) (pN:jP t) {a b:Int} (ha:oq f a) (hb:oq f b) (dC:a≠b):o4 ⟨f⟩ t a b=adY (ae9 (leads (bJ f a) (bJ f b) t)):=by
 unfold o4;rw [yt pC ha,ar,yt pC hb,ar];obtain ⟨p1,p2⟩:=dz pC ha;obtain ⟨q1,q2⟩:=dz pC hb;rcases CD p1 q1 pN r with h|⟨h,_⟩
 · rw [h,ar]
 rw [p2,q2] at h;exact absurd h dC
theorem M9 {f:List Pt} (pC:cV f) {t:Int×Int} (pN:jP t) {x:Int×Int} (hb:js f x):iB x ⟨f⟩ t=adY (ae9 (leads (bJ f x.2) (bJ f x.1) t)):=by obtain ⟨h1,h2⟩:=hb;obtain ⟨j,j1,j2,j3⟩:=zj pC h1;obtain ⟨k,k1,k2,k3⟩:=zj pC h2;unfold iB;simp only [j2,k2,ar,au f j j1,au f k k1,j3,k3,Jp (dz pC h2).1 (dz pC h1).1 pN]
def vq (f:List Pt):List Int:=f.map fun p=>p.1
theorem mw {f:List Pt} (h:gb f):(vq f).Nodup:=by
 refine uY ?_ ?_
 · exact bN.2 fun i j kH hj e=>by have:=qz h kH hj;rw [e] at this;omega
 intro x hx y hy e
 obtain ⟨i,hi,rfl⟩:=aN.1 hx;obtain ⟨j,hj,rfl⟩:=aN.1 hy;rw [zf h hi hj e]
theorem lF {f:List Pt} {id:Int}:id∈vq f↔oq f id:=by
 unfold vq oq;rw [ad2];constructor
 · rintro ⟨p,hp,rfl⟩
   obtain ⟨i,hi,rfl⟩:=aN.1 hp;exact ⟨i,hi,rfl⟩
 rintro ⟨i,hi,rfl⟩
 exact ⟨f[i]!,aR hi,rfl⟩
structure jR (k:dA):Prop where
 M':aV k.kw
 perm:(vq k.kw.io.be).Perm k.ce
 cert:(k.kw.af.ci.map fun x=>x.2).Perm (bO k.ce)
 lead: ∀e∈bO k.ce,leads (bJ k.kw.io.be e.2) (bJ k.kw.io.be e.1) k.kw.ii
theorem w8 {c:bj} (ok:dQ c):(c.ci.map fun x=>x.2).Nodup:=by
 refine uY ?_ ?_
 · exact bN.2 fun i j kH hj e=>ok.nd i j kH hj (by rw [e])
 intro x hx y hy e
 obtain ⟨i,hi,rfl⟩:=aN.1 hx;obtain ⟨j,hj,rfl⟩:=aN.1 hy;rcases acl i j with k|k|k
 · exact absurd e (ok.nd i j k hj)
 · rw [k]
 exact absurd e.symm (ok.nd j i k hi)
def R7 (k:dA):Prop:=(∀i,i<adX k.kw.io.be->(k.kw.io.be[i]!).1∈k.ce)/\(bO k.ce).length=adX k.kw.af.ci/\
 ∀i,i<adX k.kw.af.ci->(k.kw.af.ci[i]!).2∈bO k.ce/\leads (bJ k.kw.io.be (k.kw.af.ci[i]!).2.2) (bJ k.kw.io.be (k.kw.af.ci[i]!).2.1) k.kw.ii
def J0 (k:dA):Prop:=(∀i,i<adX k.ce->oq k.kw.io.be k.ce[i]!/\ ∀j,j<i->k.ce[j]!≠k.ce[i]!)/\adX k.kw.af.ci=(bO k.ce).length/\
 ∀i,i<(bO k.ce).length->qW k.kw.af.ci (bO k.ce)[i]!/\leads (bJ k.kw.io.be ((bO k.ce)[i]!).2) (bJ k.kw.io.be ((bO k.ce)[i]!).1) k.kw.ii
theorem pB {l:List pz} {x:Int×Int}:qW l x↔x∈l.map fun y=>y.2:=by
 unfold qW;rw [ad2];constructor
 · rintro ⟨i,hi,rfl⟩;exact ⟨l[i]!,aR hi,rfl⟩
 rintro ⟨y,hy,rfl⟩
 obtain ⟨i,hi,rfl⟩:=aN.1 hy;exact ⟨i,hi,rfl⟩
theorem ag1 {k:dA} (ok:aV k.kw) (hl:(adX k.ce)=adX k.kw.io.be):R7 k↔jR k:=by
 have nd:=mw ok.iq.2.2;have il:(vq k.kw.io.be).length=(adX k.kw.io.be):=If ..;have cl:(k.kw.af.ci.map fun x=>x.2).length=(adX k.kw.af.ci):=If ..;have cn:=w8 ok.pT;constructor
 · rintro ⟨h1,h2,h3⟩
   have pm:(vq k.kw.io.be).Perm k.ce:=lQ nd (fun x hx=>by obtain ⟨i,hi,rfl⟩:=lF.1 hx;exact h1 i hi) (by omega);have pc:(k.kw.af.ci.map fun x=>x.2).Perm (bO k.ce):=lQ cn (fun x hx=>by obtain ⟨i,hi,rfl⟩:=pB.2 hx;exact (h3 i hi).1) (by omega);refine ⟨ok,pm,pc,fun e he=>?_⟩;obtain ⟨i,hi,rfl⟩:=pB.2 (pc.mem_iff.2 he);exact (h3 i hi).2
 intro h
 refine ⟨fun i hi=>h.perm.mem_iff.1 (lF.2 ⟨i,hi,rfl⟩),by rw [<- h.cert.length_eq,cl],fun i hi=>?_⟩;have:=h.cert.mem_iff.1 (pB.1 ⟨i,hi,rfl⟩);exact ⟨this,h.lead _ this⟩
theorem ag2 {k:dA} (ok:aV k.kw) (hl:(adX k.ce)=adX k.kw.io.be):J0 k↔jR k:=by
 have nd:=mw ok.iq.2.2;have il:(vq k.kw.io.be).length=(adX k.kw.io.be):=If ..;have cl:(k.kw.af.ci.map fun x=>x.2).length=(adX k.kw.af.ci):=If ..;constructor
 · rintro ⟨h1,h2,h3⟩
   have hn:k.ce.Nodup:=bN.2 fun i j kH hj e=>(h1 j hj).2 i kH e
   have pm:k.ce.Perm (vq k.kw.io.be):=lQ hn (fun x hx=>by obtain ⟨i,hi,rfl⟩:=aN.1 hx;exact lF.2 (h1 i hi).1) (by omega);have pc:(bO k.ce).Perm (k.kw.af.ci.map fun x=>x.2):=lQ (w5 hn) (fun x hx=>by obtain ⟨i,hi,rfl⟩:=aN.1 hx;exact pB.1 (h3 i hi).1) (by omega);refine ⟨ok,pm.symm,pc.symm,fun e he=>?_⟩;obtain ⟨i,hi,rfl⟩:=aN.1 he;exact (h3 i hi).2
 intro h
 have hn:k.ce.Nodup:=h.perm.nodup_iff.1 nd;refine ⟨fun i hi=>⟨lF.1 (h.perm.mem_iff.2 (aR hi)),fun j hj e=>bN.1 hn j i hj hi e⟩,by rw [<- h.cert.length_eq,cl],fun i hi=>?_⟩;exact ⟨pB.2 (h.cert.mem_iff.2 (aR hi)),h.lead _ (aR hi)⟩
theorem HA {α:Type} {p q:Prop} [Decidable p] [Decidable q] {a b:α} (h:p↔q):(if p then a else b)=if q then a else b:=by
 by_cases hp:p
 · rw [rc hp,rc (h.1 hp)]
 rw [sp hp,sp (fun k=>hp (h.2 k))]
theorem EX {k:dA} (fit:qY k.kw) (hl:(adX k.ce)<=1000):o5 k=adY (if jR k then 0 else 8):=by
 unfold o5;rw [kG fit,ar]
 by_cases ok:aV k.kw
 case neg=>rw [sp ok,sp (fun h=>ok h.M')];rfl
 rw [rc ok,cK rfl,pp]
 by_cases hh:(adX k.ce)=adX k.kw.io.be
 case neg=>rw [dS (by rw [aB,aB];omega),lw,sp (fun h=>hh ?_)];rw [<- h.perm.length_eq];exact If ..
 rw [cK (by rw [aB,aB];omega),pp,<- HA (ag1 ok hh)];have bd:=ok.bd;have tB:=zk (body:=mW) (fun i=>(bO k.ce,k.kw.af.ci,((adX k.kw.af.ci):Int),(i:Int),k.kw.ii.1,k.kw.ii.2,k.kw.io.be,k.kw.af.aM,k.kw.af.ci,k.kw.aa.ai.aq,k.kw.aa.ai.bi,k.kw.aa.ai.bv,k.kw.aa.ce,k.kw.aa.ao,k.kw.jp,k.ce)) (adX k.kw.af.ci)
  (fun i=>(k.kw.af.ci[i]!).2∈bO k.ce/\leads (bJ k.kw.io.be (k.kw.af.ci[i]!).2.2) (bJ k.kw.io.be (k.kw.af.ci[i]!).2.1) k.kw.ii) (r:= .done 8) (e:= .done 0) (fun i hi=>by
  have hb:=ok.known i hi;have hv:=ok.pT.cv i hi;unfold mW;simp only [aK (show (i:Int)<((adX k.kw.af.ci):Int) by omega),lw,au k.kw.af.ci i hi,ar,sV (bO k.ce) _ (by rw [fS];omega),R6 ok.iq (t:=(k.kw.ii.1,k.kw.ii.2)) ok.jQ ok.jb hb.2 hb.1 (fun h=>hv.2.2.2.2 h.symm),bk (show i<1000000000 by omega)]
  by_cases h1:(k.kw.af.ci[i]!).2∈bO k.ce
  · rw [aK h1]
    by_cases h2:leads (bJ k.kw.io.be (k.kw.af.ci[i]!).2.2) (bJ k.kw.io.be (k.kw.af.ci[i]!).2.1) k.kw.ii
    · rw [show ae9 (leads (bJ k.kw.io.be (k.kw.af.ci[i]!).2.2) (bJ k.kw.io.be (k.kw.af.ci[i]!).2.1) (k.kw.ii.1,k.kw.ii.2))=adZ from aK h2]
      exact ⟨fun h=>absurd ⟨h1,h2⟩ h,fun _=>rfl⟩
    rw [show ae9 (leads (bJ k.kw.io.be (k.kw.af.ci[i]!).2.2) (bJ k.kw.io.be (k.kw.af.ci[i]!).2.1) (k.kw.ii.1,k.kw.ii.2))=ae6 from aG h2]
    exact ⟨fun _=>rfl,fun h=>absurd h.2 h2⟩
  · rw [aG h1]
    exact ⟨fun _=>rfl,fun h=>absurd h.1 h1⟩) (by
  unfold mW;simp only [aG (show¬((adX k.kw.af.ci):Int)<((adX k.kw.af.ci):Int) by omega),pp])
 have outer:=zk (body:=mX) (fun i=>(k.kw.io.be,((adX k.kw.io.be):Int),(i:Int),k.kw.ii.1,k.kw.ii.2,k.kw.io.be,k.kw.af.aM,k.kw.af.ci,k.kw.aa.ai.aq,k.kw.aa.ai.bi,k.kw.aa.ai.bv,k.kw.aa.ce,k.kw.aa.ao,k.kw.jp,k.ce)) (adX k.kw.io.be)
  (fun i=>(k.kw.io.be[i]!).1∈k.ce) (r:=8) (e:=if (bO k.ce).length=adX k.kw.af.ci/\ ∀i,i<adX k.kw.af.ci->(k.kw.af.ci[i]!).2∈bO k.ce/\leads (bJ k.kw.io.be (k.kw.af.ci[i]!).2.2) (bJ k.kw.io.be (k.kw.af.ci[i]!).2.1) k.kw.ii then 0 else 8) (fun i hi=>by
  unfold mX;simp only [aK (show (i:Int)<((adX k.kw.io.be):Int) by omega),lw,au k.kw.io.be i hi,ar,Hz k.ce _ (by omega),bk (show i<1000000000 by omega)]
  by_cases h1:(k.kw.io.be[i]!).1∈k.ce
  · rw [aK h1];exact ⟨fun h=>absurd h1 h,fun _=>rfl⟩
  · rw [aG h1];exact ⟨fun _=>rfl,fun h=>absurd h h1⟩) (by
  unfold mX;simp only [aB,aG (show¬((adX k.kw.io.be):Int)<((adX k.kw.io.be):Int) by omega),pp,AF k.ce hl,ar]
  by_cases h1:(bO k.ce).length=adX k.kw.af.ci
  · rw [cK (by omega),pp]
    refine (show _=_ from tB).trans ?_
    by_cases h2: ∀i,i<adX k.kw.af.ci->(k.kw.af.ci[i]!).2∈bO k.ce/\leads (bJ k.kw.io.be (k.kw.af.ci[i]!).2.2) (bJ k.kw.io.be (k.kw.af.ci[i]!).2.1) k.kw.ii
    · rw [rc h2,rc ⟨h1,h2⟩]
    rw [sp h2,sp (fun h=>h2 h.2)]
  rw [dS (by omega),lw,sp (fun h=>h1 h.1)])
 refine (show _=_ from outer).trans ?_
 by_cases h1: ∀i,i<adX k.kw.io.be->(k.kw.io.be[i]!).1∈k.ce
 · rw [rc h1]
   congr 1
   exact HA (q:=R7 k) ⟨fun h=>⟨h1,h.1,h.2⟩,fun h=>⟨h.2.1,h.2.2⟩⟩
 rw [sp h1,sp (fun h:R7 k=>h1 h.1)]
theorem WM {c:aI} (ok:aV c) (es:List (Int×Int)) (kn: ∀x∈es,js c.io.be x):
 uM c es=adY (ae9 (adX c.af.ci=adX es/\ ∀i,i<adX es->qW c.af.ci es[i]!/\leads (bJ c.io.be (es[i]!).2) (bJ c.io.be (es[i]!).1) c.ii)):=by
 have bd:=ok.bd;unfold uM;simp only [aB]
 by_cases h0:(adX c.af.ci)=adX es
 case neg=>rw [dS (by omega),lw,aG (fun h=>h0 h.1)]
 rw [cK (by omega),pp];have key:=zk (body:=oJ) (fun i=>(es,(i:Int),c.ii.1,c.ii.2,c.io.be,c.af.aM,c.af.ci,c.aa.ai.aq,c.aa.ai.bi,c.aa.ai.bv,c.aa.ce,c.aa.ao,c.jp)) (adX es)
  (fun i=>qW c.af.ci es[i]!/\leads (bJ c.io.be (es[i]!).2) (bJ c.io.be (es[i]!).1) c.ii) (r:=ae6) (e:=adZ) (fun i hi=>by
  have JU:bj.mk c.af.aM c.af.ci=c.af:=rfl;unfold oJ;simp only [aB,aK (show (i:Int)<((adX es):Int) by omega),lw,au es i hi,ar,JU,uX c.af es[i]! (by omega),M9 ok.iq (t:=(c.ii.1,c.ii.2)) ok.jb (kn _ (aR hi)),bk (show i<1000000000 by omega)]
  by_cases h1:qW c.af.ci es[i]!
  · rw [aK h1]
    by_cases h2:leads (bJ c.io.be (es[i]!).2) (bJ c.io.be (es[i]!).1) c.ii
    · rw [show ae9 (leads (bJ c.io.be (es[i]!).2) (bJ c.io.be (es[i]!).1) (c.ii.1,c.ii.2))=adZ from aK h2]
      exact ⟨fun h=>absurd ⟨h1,h2⟩ h,fun _=>rfl⟩
    rw [show ae9 (leads (bJ c.io.be (es[i]!).2) (bJ c.io.be (es[i]!).1) (c.ii.1,c.ii.2))=ae6 from aG h2]
    exact ⟨fun _=>rfl,fun h=>absurd h.2 h2⟩
  · rw [aG h1]
    exact ⟨fun _=>rfl,fun h=>absurd h.1 h1⟩) (by
  unfold oJ;simp only [aB,aG (show¬((adX es):Int)<((adX es):Int) by omega),pp])
 refine (show _=_ from key).trans ?_
 by_cases h2: ∀i,i<adX es->qW c.af.ci es[i]!/\leads (bJ c.io.be (es[i]!).2) (bJ c.io.be (es[i]!).1) c.ii
 · rw [rc h2,aK ⟨h0,h2⟩]
 rw [sp h2,aG (fun h=>h2 h.2)]
theorem WN {σ ρ:Type} {body:σ->Option (Step σ ρ)} (st:Nat->σ) (n:Nat) (P:Nat->Prop) {r:ρ} (h: ∀i,i<n->(¬P i->body (st i)=adY (.done r))/\(P i->body (st i)=adY (.next (st (i+1)))))
 (hx: ¬ ∀i,i<n->P i):aD body (st 0)=adY r:=by
 obtain ⟨i,hi⟩:=adu.1 hx;obtain ⟨hi,hx⟩:=adA.1 hi;obtain ⟨m,m1,m2,m3⟩:=least (c:=fun i=> ¬P i) ⟨i,hi,hx⟩;rw [gr st m fun j hj=>(h j (by omega)).2 (EQ.1 (m3 j hj))];exact aJ ((h m m1).1 m2)
def ckS (k:dA) (i:Nat):=((i:Int),k.kw.ii.1,k.kw.ii.2,k.kw.io.be,k.kw.af.aM,k.kw.af.ci,k.kw.aa.ai.aq,k.kw.aa.ai.bi,k.kw.aa.ai.bv,k.kw.aa.ce,k.kw.aa.ao,k.kw.jp,k.ce)
theorem EY {k:dA} (fit:qY k.kw) (hl:(adX k.ce)<=1000):rZ k=adY (if jR k then 0 else 8):=by
 unfold rZ;rw [ES fit,ar]
 by_cases ok:aV k.kw
 case neg=>rw [sp ok,sp (fun h=>ok h.M')];rfl
 rw [rc ok,cK rfl,pp]
 by_cases hh:(adX k.ce)=adX k.kw.io.be
 case neg=>rw [dS (by rw [aB,aB];omega),lw,sp (fun h=>hh ?_)];rw [<- h.perm.length_eq];exact If ..
 rw [cK (by rw [aB,aB];omega),pp,<- HA (ag2 ok hh)];have bd:=ok.bd;have step: ∀i,i<adX k.ce->(¬(oq k.kw.io.be k.ce[i]!/\ ∀j,j<i->k.ce[j]!≠k.ce[i]!)->gK (ckS k i)=adY (.done 8))/\((oq k.kw.io.be k.ce[i]!/\ ∀j,j<i->k.ce[j]!≠k.ce[i]!)->gK (ckS k i)=adY (.next (ckS k (i+1)))):=by
  intro i hi;unfold ckS;unfold gK;simp only [aB,aK (show (i:Int)<((adX k.ce):Int) by omega),lw,au k.ce i hi,ar]
  by_cases h1:oq k.kw.io.be k.ce[i]!
  case neg=>rw [LQ ok.iq h1];exact ⟨fun _=>rfl,fun h=>absurd h.1 h1⟩
  obtain ⟨m,m1,m2,m3⟩:=zj ok.iq h1;rw [m2];simp only [ar,aG (show¬(m:Int)<0 by omega),pp];have tB:=zk (body:=nh) (fun j=>((i:Int),(j:Int),k.kw.ii.1,k.kw.ii.2,k.kw.io.be,k.kw.af.aM,k.kw.af.ci,k.kw.aa.ai.aq,k.kw.aa.ai.bi,k.kw.aa.ai.bv,k.kw.aa.ce,k.kw.aa.ao,k.kw.jp,k.ce)) i
   (fun j=>k.ce[j]!≠k.ce[i]!) (r:= .done 8) (e:= .next (((i+1:Nat):Int),k.kw.ii.1,k.kw.ii.2,k.kw.io.be,k.kw.af.aM,k.kw.af.ci,k.kw.aa.ai.aq,k.kw.aa.ai.bi,k.kw.aa.ai.bv,k.kw.aa.ce,k.kw.aa.ao,k.kw.jp,k.ce)) (fun j hj=>by
   unfold nh;simp only [aK (show (j:Int)<(i:Int) by omega),lw,au k.ce j (by omega),au k.ce i hi,ar,bk (show j<1000000000 by omega)]
   by_cases h:k.ce[j]! =k.ce[i]!
   · rw [dB h];exact ⟨fun _=>rfl,fun k=>absurd h k⟩
   · rw [dL h];exact ⟨fun k=>absurd h k,fun _=>rfl⟩) (by
   unfold nh;simp only [aG (show¬(i:Int)<(i:Int) by omega),pp,bk (show i<1000000000 by omega)])
  have HB:=(show _=_ from tB)
  by_cases h2: ∀j,j<i->k.ce[j]!≠k.ce[i]!
  · rw [rc h2] at HB
    exact ⟨fun h=>absurd ⟨h1,h2⟩ h,fun _=>HB⟩
  rw [sp h2] at HB
  exact ⟨fun _=>HB,fun h=>absurd h.2 h2⟩
 by_cases hP: ∀i,i<adX k.ce->oq k.kw.io.be k.ce[i]!/\ ∀j,j<i->k.ce[j]!≠k.ce[i]!
 · have jus:=WM ok (bO k.ce) (fun x hx=>by
    obtain ⟨h1,h2⟩:=BJ hx;obtain ⟨i,hi,e1⟩:=aN.1 h1;obtain ⟨j,hj,e2⟩:=aN.1 h2;exact ⟨e1▸(hP i hi).1,e2▸(hP j hj).1⟩)
   have o:=zk (body:=gK) (ckS k) (adX k.ce) _ (r:=8) (e:=if J0 k then 0 else 8) step (by
    have pA:(aI.mk (k.kw.ii.1,k.kw.ii.2) (Field.mk k.kw.io.be) (bj.mk k.kw.af.aM k.kw.af.ci) (aH.mk (aU.mk k.kw.aa.ai.aq k.kw.aa.ai.bi k.kw.aa.ai.bv) k.kw.aa.ce k.kw.aa.ao) k.kw.jp)=k.kw:=rfl;unfold gK ckS;simp only [aB,aG (show¬((adX k.ce):Int)<((adX k.ce):Int) by omega),pp,ag0 k.ce hl,ar,pA,jus]
    by_cases h2:(adX k.kw.af.ci)=(bO k.ce).length/\ ∀i,i<(bO k.ce).length->qW k.kw.af.ci (bO k.ce)[i]!/\leads (bJ k.kw.io.be ((bO k.ce)[i]!).2) (bJ k.kw.io.be ((bO k.ce)[i]!).1) k.kw.ii
    · rw [aK h2,rc (show J0 k from ⟨hP,h2.1,h2.2⟩)];rfl
    rw [aG h2,sp (fun h:J0 k=>h2 ⟨h.2.1,h.2.2⟩)];rfl)
   refine (show _=_ from o).trans ?_;rw [rc hP]
 rw [sp (fun h:J0 k=>hP h.1)]
 exact WN (body:=gK) (ckS k) (adX k.ce) _ (r:=8) step hP
end Go.Proofs.YtmikolhhnhndkaaGreat
