/- Plain laws (3). -/
import Derived.Test.YtbgoiokedpjgbaaGreatAQM2
import Derived.Test.YtbgoiokedpjgbaaGreatAQS2
open List renaming length_append->pp,mem_cons_of_mem->v6,length_drop->AC,length_cons->If,mem_append->IR,mem_cons_self->M2,length_singleton->NE,length_nil->UV,mem_map->acl,drop_zero->ad5,drop_length->adz,length_set->adB,nodup_cons->adC,mem_cons->adL,length->adN
open Classical renaming byContradiction->rc,not_not->EQ
open Bool renaming not_false->ut,not_true->ww,true->adQ,false->ae7
open Int renaming mul_right_comm->Do,mul_le_mul_of_nonneg_right->PP,le_of_mul_le_mul_right->ad6,le_refl->adc,mul_assoc->ady,le_trans->adA,mul_comm->adH,natAbs_mul->adK
open Nat renaming lt_trichotomy->ad9,le_refl->adF,dvd_mul_left->adI,not_lt_zero->adJ
open Prod renaming ext->adG
open Option renaming some->adP
open Decidable renaming decide->ae8
namespace Go.Proofs.YtbgoiokedpjgbaaGreat
open Go.Vm Classical
theorem Mz (c:aK) (n:Int) (hl:(adN c.io)<=1000000):(∀k,k<adN c.io->(c.io[k]!).1=n->(∀j,j<k->(c.io[j]!).1≠n)->oa c n=adP (k:Int))/\((∀k,k<adN c.io->(c.io[k]!).1≠n)->oa c n=adP (-1)):=by
 unfold oa;refine iD (body:=oK) (fun i=>(n,(i:Int),c.ci.1,c.ci.2,c.ii.am,c.ai.aN,c.ai.ce,c.ae.af.aB,c.ae.af.be,c.ae.af.bi,c.ae.bv,c.ae.ar,c.io)) (adN c.io) (fun i=>(c.io[i]!).1=n) (fun i=>(i:Int)) (fun i hi=>?_) ?_
 · have e1:ae8 ((i:Int)<((adN c.io):Int))=adQ:=aE (by omega)
   unfold oK;simp only [aA,e1,lc,ax c.io i hi,aj,aV (show i<1000000000 by omega)];constructor
   · intro h;rw [dp h];rfl
   intro h;rw [dR h];rfl
 unfold oK
 have:ae8 (((adN c.io):Int)<((adN c.io):Int))=ae7:=aC (by omega);simp only [aA,this,lm]
theorem IQ {ds:List qX} (hu:Up ds) (hl:(adN ds)<=1000000) (n:Int):(∀k,k<adN ds->(ds[k]!).1=n->od ds n=adP ((k:Int),adQ))/\((∀k,k<adN ds->(ds[k]!).1≠n)-> ∃m:Nat,od ds n=adP ((m:Int),ae7)):=by
 have bs:=qp ds n hl (sC.1 hu);unfold od;rw [ak1];constructor
 · intro k hk he;rw [bs.1 k hk he];rfl
 intro h
 obtain ⟨m,_,_,_,e⟩:=bs.2 h;exact ⟨m,by rw [e];rfl⟩
theorem aY.bd {c:aK} (ok:aY c):(adN c.io)<=200/\adN c.ii.am<=64/\adN c.ai.ce<=200:=by have:=ok.hd;have:=ok.lD.bd;have:=ok.ju.1;have:=ok.sM.len;omega
theorem jE {c:aK} (ok:aY c):ma c=adP c:=by have bd:=ok.bd;unfold ma nG pF;simp only [bm (show (adN c.ii.am)<=1048576 by omega),bm (show (adN c.ai.ce)<=1048576 by omega),bm (show (adN c.io)<=1048576 by omega),aj,qo ok.lD]
theorem jF {c:aK} (ok:aY c):jB c=adP c:=by
 have bd:=ok.bd;have ab:=ok.lD.bd;have hl:=ok.lD.so.fl;have hn:=ok.lD.so.n2;have hu:=ok.lD.so.ul;unfold jB;simp only [bm (show (adN c.ii.am)<=1048576 by omega),bm (show (adN c.ai.ce)<=1048576 by omega),bm (show (adN c.io)<=1048576 by omega),bm (show (adN c.ae.bv)<=1048576 by omega),bm (show (adN c.ae.ar)<=1048576 by omega),
  bm (show (adN c.ae.af.aB)<=1048576 by omega),bm (show (adN c.ae.af.be)<=1048576 by omega),bm (show (adN c.ae.af.bi)<=1048576 by omega),aj]
theorem sD {cs:List qX} {i:Nat} (hu:Up cs) (hi:i<adN cs) {x:qX} (hx:x∈cs.eraseIdx i):x∈cs/\x.1≠(cs[i]!).1:=by
 rw [tB,IR] at hx;have ub:=sC.1 hu;rcases hx with hx|hx
 · obtain ⟨j,h1,h2,rfl⟩:=cw.1 hx
   have:=ub j i h1 hi;exact ⟨bn h2,by omega⟩
 obtain ⟨j,hj,rfl⟩:=aO.1 hx
 rw [AC] at hj;rw [mJ];have:=ub i (i+1+j) (by omega) (by omega);exact ⟨bn (by omega),by omega⟩
theorem yZ {c:aK} (ok:aY c) (i:Nat) (hi:i<adN c.ai.ce): ∀j,j<(mL c.ai i).ce.length->iX c.ii.am ((mL c.ai i).ce[j]!).2:=by intro j hj;have hm:(mL c.ai i).ce[j]!∈c.ai.ce:=(sD ok.vz hi (bn hj)).1;obtain ⟨m,hm1,SQ⟩:=aO.1 hm;rw [<- SQ];exact ok.known m hm1
theorem Vu {c:aK} (ok:aY c) {i:Nat} (hi:i<adN c.ai.ce):
 ∃c':aK,kL c (c.ai.ce[i]!).1=adP (c',(c.ai.ce[i]!).2,0)/\nI c (c.ai.ce[i]!).1=adP c'/\aY c'/\c'.ii=c.ii/\c'.ci=c.ci/\c'.ai=mL c.ai i:=by
 have bd:=ok.bd;have rm:=GK ok.sM hi (n:=(c.ai.ce[i]!).1) rfl;have wo:=Du ok.sM hi (n:=(c.ai.ce[i]!).1) rfl;have fe:=ok.Bd.erase (i:=i) hi;have pd:=IQ ok.GN (by omega) (c.ai.ce[i]!).1;have da:=Mz c (c.ai.ce[i]!).1 (by omega);cases hf:(bE c.ii.am (c.ai.ce[i]!).2 c.ci).2 with
 |false=>
  have no: ∀k,k<adN c.io->(c.io[k]!).1≠(c.ai.ce[i]!).1:=by
   intro k hk he;obtain ⟨x,hx,h1,h2,_⟩:=ok.Bd.io _ (bn hk);obtain ⟨j,hj,rfl⟩:=aO.1 hx;have ub:=sC.1 ok.vz;have:j=i:=by
    rcases ad9 j i with h|h|h
    · have:=ub j i h hi;omega
    · exact h
    have:=ub i j h hj;omega
   rw [this,hf] at h2;cases h2
  refine ⟨⟨c.ci,c.ii,mL c.ai i,c.ae,c.io⟩,?_,?_,?_,rfl,rfl,rfl⟩
  · unfold kL
    obtain ⟨m,e⟩:=pd.2 no;simp only [rm,aj,show ((0:Int) !=0)=ae7 from rfl,lm,jF ok,e]
  · unfold nI
    simp only [jE ok,aj,wo,da.2 no,aC (show¬(0:Int)<= -1 by omega),lm]
  exact ⟨ok.lK,ok.fM,ok.ju,GJ ok.sM hi,ok.lD,ok.GL,ok.hd,yZ ok i hi,fe.1 hf⟩
 |true=>
  obtain ⟨k,hk,k1,k2,k3⟩:=fe.2 hf;obtain ⟨w,hw,hU⟩:=aO.1 k2;have hh:(c.ae.bv[w]!).2.2.2=(c.io[k]!).2:=by rw [hU]
  have ub:=sC.1 ok.GN;have before: ∀j,j<k->(c.io[j]!).1≠(c.ai.ce[i]!).1:=fun j hj he=>by have:=ub j k hj hk;omega
  have dl:(c.io.eraseIdx k).length=adN c.io-1:=zM hk;obtain ⟨L,d1,d2⟩:=yW c.io k hk;refine ⟨⟨c.ci,c.ii,mL c.ai i,eL c.ae w,c.io.eraseIdx k⟩,?_,?_,?_,rfl,rfl,rfl⟩
  · unfold kL
    simp only [rm,aj,show ((0:Int) !=0)=ae7 from rfl,lm,jF ok,pd.1 k hk k1,lc,ax c.io k hk,wk ok.lD hw ok.lD.fit hh,aV (show k<1000000000 by omega),ON,d1,d2]
  · unfold nI
    have s1:gn c.io 0 (k:Int)=adP (c.io.take k):=kr c.io k (by omega);have s2:gn c.io ((k+1:Nat):Int) ((adN c.io):Int)=adP (c.io.drop (k+1)):=by unfold gn;rw [ls ⟨by omega,by omega,by omega⟩];simp only [Int.toNat_natCast];rw [List.take_of_length_le (by rw [AC];exact adF _)]
    have tl:(c.io.take k).length=k:=by rw [List.length_take];omega
    have dl2:(c.io.drop (k+1)).length=adN c.io- (k+1):=AC;simp only [jE ok,aj,wo,da.1 k hk k1 before,aE (show (0:Int)<=(k:Int) by omega),lc,ax c.io k hk,wm ok.lD hw hh,s1,bm (show (c.io.take k).length<=1048576 by omega),aV (show k<1000000000 by omega),aA,s2,
     dJ (show (c.io.take k).length+(c.io.drop (k+1)).length<=1048576 by omega),tB]
    cases hem:(c.io.drop (k+1)).isEmpty with
    |true=>rw [List.isEmpty_iff] at hem;rw [hem,List.append_nil];rfl
    |false=>rfl
  have rem:=Dr ok.lD hw
  have RU:=GG ok.lD hw;have c9:(eL c.ae w).bv.length=adN c.ae.bv-1:=by
   have h1:=rem.hl;have h2:=ok.lD.hl;have h3:(eL c.ae w).af=fR c.ae.af (c.ae.bv[w]!).2.2.2:=by unfold eL;split<;>rfl
   rw [h3] at h1;change _+(c.ae.af.bi++[_]).length=(adN c.ae.af.aB) at h1;rw [pp] at h1;simp only [If,UV] at h1;omega
  have ak3:(eL c.ae w).ar.length=200:=by
   have h1:=rem.wl;have h3:(eL c.ae w).af=fR c.ae.af (c.ae.bv[w]!).2.2.2:=by unfold eL;split<;>rfl
   rw [h3] at h1;change _=(adN c.ae.af.aB) at h1;rw [h1,<- ok.lD.wl,ok.GL]
  refine ⟨ok.lK,ok.fM,ok.ju,GJ ok.sM hi,rem,ak3,?_,yZ ok i hi,?_⟩
  · show (eL c.ae w).bv.length=(c.io.eraseIdx k).length
    rw [c9,dl,ok.hd]
  refine k3.mono fun x hx e he hm=>(RU e).2 ⟨hm,fun h=>?_⟩
  have:=(sD ok.vz hi hx).2;rw [h,hU] at he;exact this he.symm
theorem En {c:aK} (ok:aY c) {i:Nat} (_hi:i<adN c.ai.ce) {c':aK} (h:kL c (c.ai.ce[i]!).1=adP (c',(c.ai.ce[i]!).2,0)):sq c (c.ai.ce[i]!).1=adP (c',0):=by unfold sq;rw [kv ok.fit,ls ok];simp only [aj,show ((0:Int) !=0)=ae7 from rfl,lm,h]
abbrev eA:aK:=⟨(0,0),⟨[]⟩,⟨0,[]⟩,⟨⟨[],[],[]⟩,[],[]⟩,[]⟩
theorem Kj {l:List Pt} (ok:bC l) {id:Int} (h:gx l id): ¬(gl l id).1<0:=by obtain ⟨h1,_⟩:=di ok h;have:=h1.1;omega
theorem ac3 {c:aK} (ok:aY c) {x:Int×Int} (hx:fL x) (hb:iX c.ii.am x) (hn: ¬rG c.ai.ce x):
 (iC c x=adP (eA,0,18)/\kD c x=adP (eA,0,18)/\(Cl c.ai\/ ¬xQ c.ae.af))\/
 ∃c':aK,iC c x=adP (c',c.ai.aN,0)/\kD c x=adP (c',c.ai.aN,0)/\aY c'/\c'.ii=c.ii/\c'.ci=c.ci/\c'.ai=o7 c.ai x/\(c'.ae.af=c.ae.af\/c'.ae.af=gJ c.ae.af):=by
 have bd:=ok.bd;have n0:=ok.sM.n0;have n1:=ok.sM.n1;have fit:=ok.fit;have ad:=Mu ok.sM hx;have rd:=Kh ok.sM hx;rw [lw hn] at ad rd;have hc:gf c=adP 0:=by rw [kv fit,ls ok]
 have p1:=mu ok.ju x.1;have p2:=mu ok.ju x.2;have q1:=Kj ok.ju hb.1;have q2:=Kj ok.ju hb.2;have wh:=vv ok.ju hx ok.lK ok.fM;rw [ls hb] at wh;have rw':=vw ok.ju ok.fM hb
 by_cases hf:Cl c.ai
 · rw [ls hf] at ad rd
   left;refine ⟨?_,?_,.inl hf⟩
   · unfold iC dE
     simp only [hc,aj,show ((0:Int) !=0)=ae7 from rfl,lm,ad,show ((18:Int)==8)=ae7 from rfl,p1,p2,aC q1,aC q2,show ((18:Int) !=0)=adQ from rfl,lc]
   unfold kD
   simp only [rd,aj,show ((18:Int) !=0)=adQ from rfl,lc]
 rw [lw hf] at ad rd;have cok:=OP ok.sM hx hn hf;have Vv: ∀j,j<(o7 c.ai x).ce.length->iX c.ii.am ((o7 c.ai x).ce[j]!).2:=by
  intro j hj;rw [zL] at hj;rw [tC]
  by_cases h:j<adN c.ai.ce
  · rw [ls h];exact ok.known j h
  rw [lw h,ls (by omega)];exact hb
 have fresh: ∀e∈c.ae.bv,Ev.num e≠c.ai.aN:=by intro e he dW;obtain ⟨d,hd,h1⟩:=ok.Bc e he;obtain ⟨y,hy,h2,_⟩:=ok.Bd.io d hd;obtain ⟨j,hj,rfl⟩:=aO.1 hy;have:=(ok.sM.nr j hj).2;omega
 have sn:=ok.Bd.snoc (x:=(c.ai.aN,x));cases hw:(bE c.ii.am x c.ci).2 with
 |false=>
  right;refine ⟨⟨c.ci,c.ii,o7 c.ai x,c.ae,c.io⟩,?_,?_,⟨ok.lK,ok.fM,ok.ju,cok,ok.lD,ok.GL,ok.hd,Vv,sn.1 hw⟩,rfl,rfl,rfl,.inl rfl⟩
  · unfold iC dE
    simp only [hc,aj,show ((0:Int) !=0)=ae7 from rfl,lm,ad,show ((0:Int)==8)=ae7 from rfl,p1,p2,aC q1,aC q2,jF ok,wh,hw]
  unfold kD
  simp only [rd,aj,show ((0:Int) !=0)=ae7 from rfl,lm,jE ok,rw',hw,ut,lc]
 |true=>
  obtain ⟨t1,t2⟩:=Cb (di ok.ju hb.2).1 (di ok.ju hb.1).1 ok.fM ok.lK hw
  by_cases op:xQ c.ae.af
  · right
    have pu:=we ok.lD op ok.lD.fit (t:=(bE c.ii.am x c.ci).1) (n:=c.ai.aN) t1 t2 n0 n1 fresh;have rp:=xR ok.lD op (t:=(bE c.ii.am x c.ci).1) (n:=c.ai.aN) t1 t2 n0 n1;have pok:=Qk ok.lD op (t:=(bE c.ii.am x c.ci).1) (n:=c.ai.aN) t1 t2 n0 n1 fresh;have RW:=Mp ok.lD op (t:=(bE c.ii.am x c.ci).1) (n:=c.ai.aN) t1;have ak5:=Ci ok.lD op (t:=(bE c.ii.am x c.ci).1) (n:=c.ai.aN) t1;have ap: ∀h:Int×Int,bJ c.io [(c.ai.aN,h)]=adP (c.io++[(c.ai.aN,h)]):=fun h=>dJ (by simp;omega)
    have ak3:(kT c.ae (bE c.ii.am x c.ci).1 c.ai.aN).ar.length=200:=by have:=pok.wl;change _=(c.ae.af.aB.set _ _).length at this;rw [adB] at this;rw [this,<- ok.lD.wl,ok.GL]
    refine ⟨⟨c.ci,c.ii,o7 c.ai x,kT c.ae (bE c.ii.am x c.ci).1 c.ai.aN,c.io++[(c.ai.aN,kQ c.ae.af)]⟩,?_,?_,⟨ok.lK,ok.fM,ok.ju,cok,pok,ak3,?_,Vv,?_⟩,rfl,rfl,rfl,.inr rfl⟩
    · unfold iC dE
      simp only [hc,aj,show ((0:Int) !=0)=ae7 from rfl,lm,ad,show ((0:Int)==8)=ae7 from rfl,p1,p2,aC q1,aC q2,jF ok,wh,hw,lc,pu,ap]
    · unfold kD
      simp only [rd,aj,show ((0:Int) !=0)=ae7 from rfl,lm,jE ok,rw',hw,ww,qn ok.lD.so,aE op,rp,ap]
    · show (kT c.ae (bE c.ii.am x c.ci).1 c.ai.aN).bv.length=(c.io++[_]).length
      rw [ak5,pp,ok.hd];rfl
    have fm:aR c.ii.am c.ci (kT c.ae (bE c.ii.am x c.ci).1 c.ai.aN).bv c.ai.ce c.io:=ok.Bd.mono fun y hy e he hm=>(RW e).2 (.inr hm)
    exact (fm.snoc (x:=(c.ai.aN,x))).2 _ hw rfl ((RW _).2 (.inl rfl))
  left
  have pu:=wg ok.lD op ok.lD.fit (t:=(bE c.ii.am x c.ci).1) (n:=c.ai.aN) t1 t2 n0 n1 fresh;refine ⟨?_,?_,.inr op⟩
  · unfold iC dE
    simp only [hc,aj,show ((0:Int) !=0)=ae7 from rfl,lm,ad,show ((0:Int)==8)=ae7 from rfl,p1,p2,aC q1,aC q2,jF ok,wh,hw,lc,pu,show ((18:Int) !=0)=adQ from rfl]
  unfold kD
  simp only [rd,aj,show ((0:Int) !=0)=ae7 from rfl,lm,jE ok,rw',hw,ww,qn ok.lD.so,aC op,ut,lc]
theorem Up.inj {cs:List qX} (h:Up cs) {x y:qX} (hx:x∈cs) (hy:y∈cs) (he:x.1=y.1):x=y:=by
 obtain ⟨i,hi,rfl⟩:=aO.1 hx;obtain ⟨j,hj,rfl⟩:=aO.1 hy;have ub:=sC.1 h;rcases ad9 i j with h1|h1|h1
 · have:=ub i j h1 hj;omega
 · rw [h1]
 have:=ub j i h1 hi;omega
structure GO (c:aK) (f:List Pt) (i k:Nat) (a:aJ) (ds:List qX):Prop where
 ok:eZ a
 w2:(adN a.ar)=200
 new:aR f c.ci a.bv (c.ai.ce.take i) ds
 old:aR c.ii.am c.ci a.bv (c.ai.ce.drop i) (c.io.drop k)
 kl:k<=adN c.io
 cnt:(adN a.bv)=adN ds+(adN c.io-k)
theorem ak6 {a:aJ} (ok:eZ a) {w:Nat} (hw:w<adN a.bv):(eL a w).bv.length=adN a.bv-1/\(eL a w).ar.length=(adN a.ar):=by
 have rem:=Dr ok hw;have h3:(eL a w).af=fR a.af (a.bv[w]!).2.2.2:=by unfold eL;split<;>rfl
 have h1:=rem.hl;have h2:=ok.hl;have h4:=rem.wl;rw [h3] at h1 h4;change _+(a.af.bi++[_]).length=(adN a.af.aB) at h1;change _=(adN a.af.aB) at h4;rw [pp] at h1;simp only [If,UV] at h1;exact ⟨by omega,by rw [h4,ok.wl]⟩
theorem ac4 {a:aJ} {t:Int×Int} {n:Int} (ok:eZ a) (pok:eZ (kT a t n)):(kT a t n).ar.length=(adN a.ar):=by have:=pok.wl;change _=(a.af.aB.set _ _).length at this;rw [adB] at this;rw [this,ok.wl]
section
variable {c : aK} (ok : aY c) {f : List Pt} (cL : bC f) (kn : ∀ i, i < (adN c.ai.ce) -> iX f (c.ai.ce[i]!).2)
include ok
theorem Cm {i:Nat} {x:qX} (hx:x∈c.ai.ce.take i) (hi:i<adN c.ai.ce):x.1≠(c.ai.ce[i]!).1:=by obtain ⟨j,h1,h2,rfl⟩:=cw.1 hx;have:=ok.sM.up j i h1 hi;omega
theorem Cn {i:Nat} {x:qX} (hx:x∈c.ai.ce.drop (i+1)) (hi:i<adN c.ai.ce):x.1≠(c.ai.ce[i]!).1:=by obtain ⟨j,h1,rfl⟩:=aO.1 hx;rw [AC] at h1;rw [mJ];have:=ok.sM.up i (i+1+j) (by omega) (by omega);omega
theorem RX {i k:Nat} {a:aJ} {ds:List qX} (inv:GO c f i k a ds) (hi:i<adN c.ai.ce) (was:(bE c.ii.am (c.ai.ce[i]!).2 c.ci).2=ae7): ∀e∈a.bv,Ev.num e≠(c.ai.ce[i]!).1:=by
 have u1:Up (c.ai.ce.take i):=ok.vz.sublist (List.take_sublist _ _);have u2:Up (c.ai.ce.drop i):=ok.vz.sublist (List.drop_sublist _ _);have d1:=inv.new.up u1;have d2:=inv.old.up u2;have ao8: ∀x∈ds,∀y∈c.io.drop k,x.1<y.1:=by intro x hx y hy;obtain ⟨p,hp,h1,_⟩:=inv.new.io x hx;obtain ⟨q,hq,h2,_⟩:=inv.old.io y hy;obtain ⟨m,m1,m2,rfl⟩:=cw.1 hp;obtain ⟨n,n1,rfl⟩:=aO.1 hq;rw [AC] at n1;rw [mJ] at h2;have:=ok.sM.up m (i+n) (by omega) (by omega);omega
 have nd:((ds++c.io.drop k).map fun x=>x.1).Nodup:=My (by show List.Pairwise _ _;rw [List.pairwise_append];exact ⟨d1,d2,ao8⟩);have only:=D7 (H:=a.bv) nd (by rw [List.length_map,pp,AC,inv.cnt];exact adF _) (fun n hn=>by
  obtain ⟨x,hx,rfl⟩:=acl.1 hn;rcases IR.1 hx with hx|hx
  · obtain ⟨p,hp,h1,h2,h3⟩:=inv.new.io x hx
    exact ⟨_,h3,h1.symm⟩
  obtain ⟨p,hp,h1,h2,h3⟩:=inv.old.io x hx
  exact ⟨_,h3,h1.symm⟩)
 intro e he dW;obtain ⟨x,hx,h1⟩:=acl.1 (only e he);rcases IR.1 hx with hx|hx
 · obtain ⟨p,hp,h2,_⟩:=inv.new.io x hx
   exact Cm ok hp hi (by rw [<- h2,h1,dW])
 obtain ⟨p,hp,h2,h3,_⟩:=inv.old.io x hx
 have hp':p∈c.ai.ce:=List.mem_of_mem_drop hp;have:=ok.vz.inj hp' (bn hi) (by rw [<- h2,h1,dW]);rw [this,was] at h3;cases h3
def RY (c:aK) (f:List Pt) (i:Nat) (a:aJ) (ds:List qX):=
 (c.ai.ce,((adN c.ai.ce):Int),(i:Int),c.ci.1,c.ci.2,c.ii.am,c.ai.aN,c.ai.ce,c.ae.af.aB,c.ae.af.be,c.ae.af.bi,c.ae.bv,c.ae.ar,c.io,f,(0:Int),(0:Int),(0:Int),c.ci.1,c.ci.2,c.ai.aN,c.ai.ce,a.af.aB,a.af.be,a.af.bi,a.bv,a.ar,f,ds)
def RZ (c:aK) (f:List Pt) (i:Nat) (a:aJ) (ds:List qX):=
 ((i:Int),c.ci.1,c.ci.2,c.ii.am,c.ai.aN,c.ai.ce,c.ae.af.aB,c.ae.af.be,c.ae.af.bi,c.ae.bv,c.ae.ar,c.io,f,(0:Int),(0:Int),(0:Int),c.ci.1,c.ci.2,f,c.ai.aN,c.ai.ce,a.af.aB,a.af.be,a.af.bi,a.bv,a.ar,ds)
include cL kn
theorem Vw {i k:Nat} {a:aJ} {ds:List qX} (inv:GO c f i k a ds) (hi:i<adN c.ai.ce) (Wt:(adN ds)<=i):
 (dH (RY c f i a ds)=adP (.done (.done (eA,18)))/\cQ (RZ c f i a ds)=adP (.done (eA,18)))\/
 ∃k' a' yt,dH (RY c f i a ds)=adP (.next (RY c f (i+1) a' yt))/\cQ (RZ c f i a ds)=adP (.next (RZ c f (i+1) a' yt))/\GO c f (i+1) k' a' yt/\adN yt<=i+1:=by
 have bd:=ok.bd;have e1:ae8 ((i:Int)<((adN c.ai.ce):Int))=adQ:=aE (by omega);have sc:=aV (show i<1000000000 by omega);have cg:=ax c.ai.ce i hi;have hb:=kn i hi;have wn:=vv cL (x:=(c.ai.ce[i]!).2) (t:=(c.ci.1,c.ci.2)) (ok.sM.cv i hi) ok.lK ok.fM;rw [ls hb] at wn;have wr:=vw cL (x:=(c.ai.ce[i]!).2) (t:=(c.ci.1,c.ci.2)) ok.fM hb;have pd:=IQ ok.GN (by omega) (c.ai.ce[i]!).1;have da:=Mz c (c.ai.ce[i]!).1 (by omega);have dr:=sN hi;have tk:=gI hi;have old:=inv.old;rw [dr] at old;have MA:aJ.mk (bj.mk a.af.aB a.af.be a.af.bi) a.bv a.ar=a:=rfl
 have tU:(aK.mk (c.ci.1,c.ci.2) (Field.mk c.ii.am) (bF.mk c.ai.aN c.ai.ce) (aJ.mk (bj.mk c.ae.af.aB c.ae.af.be c.ae.af.bi) c.ae.bv c.ae.ar) c.io)=c:=rfl;have other: ∀x∈c.ai.ce.take i,x.1≠(c.ai.ce[i]!).1:=fun x hx=>Cm ok hx hi
 have Vx: ∀x∈c.ai.ce.drop (i+1),x.1≠(c.ai.ce[i]!).1:=fun x hx=>Cn ok hx hi
 cases ac5:(bE c.ii.am (c.ai.ce[i]!).2 c.ci).2 with
 |true=>
  obtain ⟨d,yt,hd1,hd2,hd3,hd4⟩:=(aR.iJ ac5).1 old;have hk:k<(adN c.io):=by
   refine rc fun h=>?_
   rw [List.drop_eq_nil_of_le (by omega)] at hd1;cases hd1
  have dk:=sN hk;rw [dk] at hd1;injection hd1 with hd5 hd6;subst hd5 hd6;obtain ⟨w,hw,hU⟩:=aO.1 hd3;have hh:(a.bv[w]!).2.2.2=(c.io[k]!).2:=by rw [hU]
  have ao9:Ev.num a.bv[w]! =(c.ai.ce[i]!).1:=by rw [hU]
  have before: ∀j,j<k->(c.io[j]!).1≠(c.ai.ce[i]!).1:=fun j hj he=>by have:=sC.1 ok.GN j k hj hk;omega
  have pl:=pd.1 k hk hd2;have dq:=da.1 k hk hd2 before;have gk:=ax c.io k hk;have k0:ae8 ((0:Int)<=(k:Int))=adQ:=aE (by omega);have ap:bJ ds [c.io[k]!]=adP (ds++[c.io[k]!]):=dJ (by simp;omega);cases MB:(bE f (c.ai.ce[i]!).2 c.ci).2 with
  |true=>
   right;have tt:bK (bE f (c.ai.ce[i]!).2 c.ci).1/\lM (bE f (c.ai.ce[i]!).2 c.ci).1:=Cb (di cL hb.2).1 (di cL hb.1).1 ok.fM ok.lK MB;obtain ⟨t1,t2⟩:=tt;have re:=Em inv.ok inv.ok.fit (t:=(bE f (c.ai.ce[i]!).2 c.ci).1) hw hh t1 t2;have rr:=Dq inv.ok (t:=(bE f (c.ai.ce[i]!).2 c.ci).1) hw hh t1 t2;have rok:=Vo inv.ok hw t1 t2;have RU:=RS inv.ok hw t1;have Vy:=Dp inv.ok hw t1;have stay: ∀(cs:List qX),(∀x∈cs,x.1≠(c.ai.ce[i]!).1)-> ∀x∈cs,∀e:Ev,e.num=x.1->e∈a.bv->e∈(jQ a w (bE f (c.ai.ce[i]!).2 c.ci).1).bv:=by
    intro cs nA x hx e he hm;refine (RU e).2 (.inr ⟨hm,fun h=>nA x hx ?_⟩);rw [<- he,h,ao9]
   refine ⟨k+1,jQ a w (bE f (c.ai.ce[i]!).2 c.ci).1,ds++[c.io[k]!],?_,?_,⟨rok,by rw [Vy.2];exact inv.w2,?_,?_,by omega,?_⟩,by simp;omega⟩
   · unfold dH RY
     simp only [e1,lc,cg,aj,wn,pl,MB,gk,MA,re,ap,show ((0:Int) !=0)=ae7 from rfl,lm,sc]
   · unfold cQ RZ
     simp only [aA,e1,lc,cg,aj,tU,dq,wr,MB,k0,gk,MA,rr,ap,ww,lm,sc]
   · rw [tk]
     exact ((inv.new.mono (stay _ other)).snoc (x:=c.ai.ce[i]!)).2 _ MB hd2 ((RU _).2 (.inl (by show _=((bE f (c.ai.ce[i]!).2 c.ci).1.1,(bE f (c.ai.ce[i]!).2 c.ci).1.2,(a.bv[w]!).2.2);rw [hU])))
   · exact hd4.mono (stay _ Vx)
   rw [Vy.1,inv.cnt,pp]
   simp only [If,UV];omega
  |false=>
   right;have rv:=wk inv.ok hw inv.ok.fit hh;have rr:=wm inv.ok hw hh;have rok:=Dr inv.ok hw;have RU:=GG inv.ok hw;have Vy:=ak6 inv.ok hw;have stay: ∀(cs:List qX),(∀x∈cs,x.1≠(c.ai.ce[i]!).1)-> ∀x∈cs,∀e:Ev,e.num=x.1->e∈a.bv->e∈(eL a w).bv:=by intro cs nA x hx e he hm;refine (RU e).2 ⟨hm,fun h=>nA x hx ?_⟩;rw [<- he,h,ao9]
   refine ⟨k+1,eL a w,ds,?_,?_,⟨rok,by rw [Vy.2];exact inv.w2,?_,hd4.mono (stay _ Vx),by omega,?_⟩,by omega⟩
   · unfold dH RY
     simp only [e1,lc,cg,aj,wn,pl,MB,gk,MA,rv,show ((0:Int) !=0)=ae7 from rfl,lm,sc]
   · unfold cQ RZ
     simp only [aA,e1,lc,cg,aj,tU,dq,wr,MB,k0,gk,MA,rr,ut,lm,sc]
   · rw [tk]
     exact ((inv.new.mono (stay _ other)).snoc (x:=c.ai.ce[i]!)).1 MB
   have:=inv.cnt
   rw [Vy.1];omega
 |false=>
  have Bd:=(aR.gy ac5).1 old;have no: ∀j,j<adN c.io->(c.io[j]!).1≠(c.ai.ce[i]!).1:=by intro j hj he;obtain ⟨x,hx,h1,h2,_⟩:=ok.Bd.io _ (bn hj);have:=ok.vz.inj hx (bn hi) (by rw [<- h1,he]);rw [this,ac5] at h2;cases h2
  obtain ⟨m,pl⟩:=pd.2 no;have dq:=da.2 no;have k0:ae8 ((0:Int)<= -1)=ae7:=aC (by omega);cases MB:(bE f (c.ai.ce[i]!).2 c.ci).2 with
  |true=>
   have tt:bK (bE f (c.ai.ce[i]!).2 c.ci).1/\lM (bE f (c.ai.ce[i]!).2 c.ci).1:=Cb (di cL hb.2).1 (di cL hb.1).1 ok.fM ok.lK MB;obtain ⟨t1,t2⟩:=tt;have n0:=(ok.sM.nr i hi).1;have n1:(c.ai.ce[i]!).1<=1000000:=by have:=(ok.sM.nr i hi).2;have:=ok.sM.n1;omega
   have fresh:=RX ok inv hi ac5
   by_cases op:xQ a.af
   · right
     have pu:=we inv.ok op inv.ok.fit (t:=(bE f (c.ai.ce[i]!).2 c.ci).1) (n:=(c.ai.ce[i]!).1) t1 t2 n0 n1 fresh;have rp:=xR inv.ok op (t:=(bE f (c.ai.ce[i]!).2 c.ci).1) (n:=(c.ai.ce[i]!).1) t1 t2 n0 n1;have pok:=Qk inv.ok op (t:=(bE f (c.ai.ce[i]!).2 c.ci).1) (n:=(c.ai.ce[i]!).1) t1 t2 n0 n1 fresh;have RW:=Mp inv.ok op (t:=(bE f (c.ai.ce[i]!).2 c.ci).1) (n:=(c.ai.ce[i]!).1) t1;have ak5:=Ci inv.ok op (t:=(bE f (c.ai.ce[i]!).2 c.ci).1) (n:=(c.ai.ce[i]!).1) t1;have ap: ∀h:Int×Int,bJ ds [((c.ai.ce[i]!).1,h)]=adP (ds++[((c.ai.ce[i]!).1,h)]):=fun h=>dJ (by simp;omega)
     have opn:=qn inv.ok.so;rw [aE op] at opn;refine ⟨k,kT a (bE f (c.ai.ce[i]!).2 c.ci).1 (c.ai.ce[i]!).1,ds++[((c.ai.ce[i]!).1,kQ a.af)],?_,?_,⟨pok,by rw [ac4 inv.ok pok];exact inv.w2,?_,?_,inv.kl,?_⟩,by simp;omega⟩
     · unfold dH RY
       simp only [e1,lc,cg,aj,wn,pl,MB,MA,pu,ap,show ((0:Int) !=0)=ae7 from rfl,lm,sc]
     · unfold cQ RZ
       simp only [aA,e1,lc,cg,aj,tU,dq,wr,MB,k0,MA,rp,ap,ww,lm,sc,opn]
     · rw [tk]
       exact ((inv.new.mono fun x hx e he hm=>(RW e).2 (.inr hm)).snoc (x:=c.ai.ce[i]!)).2 _ MB rfl ((RW _).2 (.inl rfl))
     · exact Bd.mono fun x hx e he hm=>(RW e).2 (.inr hm)
     have:=inv.cnt
     rw [ak5,pp];simp only [If,UV];omega
   left
   have pu:=wg inv.ok op inv.ok.fit (t:=(bE f (c.ai.ce[i]!).2 c.ci).1) (n:=(c.ai.ce[i]!).1) t1 t2 n0 n1 fresh;have ap: ∀h:Int×Int,bJ ds [((c.ai.ce[i]!).1,h)]=adP (ds++[((c.ai.ce[i]!).1,h)]):=fun h=>dJ (by simp;omega)
   have opn:=qn inv.ok.so;rw [aC op] at opn;constructor
   · unfold dH RY
     simp only [e1,lc,cg,aj,wn,pl,MB,MA,pu,ap,show ((18:Int) !=0)=adQ from rfl,lm]
   unfold cQ RZ
   simp only [aA,e1,lc,cg,aj,tU,dq,wr,MB,k0,MA,ww,ut,lm,opn]
  |false=>
   right;refine ⟨k,a,ds,?_,?_,⟨inv.ok,inv.w2,?_,Bd,inv.kl,inv.cnt⟩,by omega⟩
   · unfold dH RY
     simp only [e1,lc,cg,aj,wn,pl,MB,show ((0:Int) !=0)=ae7 from rfl,lm,sc]
   · unfold cQ RZ
     simp only [aA,e1,lc,cg,aj,tU,dq,wr,MB,k0,ut,lm,sc]
   rw [tk]
   exact (inv.new.snoc (x:=c.ai.ce[i]!)).1 MB
theorem apa:
 (oe c ⟨f⟩=adP (eA,18)/\lg c ⟨f⟩=adP (eA,18))\/
 ∃c':aK,oe c ⟨f⟩=adP (c',0)/\lg c ⟨f⟩=adP (c',0)/\aY c'/\c'.ii.am=f/\c'.ci=c.ci/\c'.ai=c.ai:=by
 have bd:=ok.bd;have f64:=cL.1;have run: ∀(d i k:Nat) (a:aJ) (ds:List qX),adN c.ai.ce-i<=d->i<=adN c.ai.ce->GO c f i k a ds->adN ds<=i->
  (ay dH (RY c f i a ds)=adP (.done (eA,18))/\ay cQ (RZ c f i a ds)=adP (eA,18))\/
  ∃c':aK,ay dH (RY c f i a ds)=adP (.done (c',0))/\ay cQ (RZ c f i a ds)=adP (c',0)/\aY c'/\c'.ii.am=f/\c'.ci=c.ci/\c'.ai=c.ai:=by
  have fin: ∀(k:Nat) (a:aJ) (ds:List qX),GO c f (adN c.ai.ce) k a ds-> ∃c':aK,ay dH (RY c f (adN c.ai.ce) a ds)=adP (.done (c',0))/\ay cQ (RZ c f (adN c.ai.ce) a ds)=adP (c',0)/\aY c'/\c'.ii.am=f/\c'.ci=c.ci/\c'.ai=c.ai:=by
   intro k a ds inv;have e1:ae8 (((adN c.ai.ce):Int)<((adN c.ai.ce):Int))=ae7:=aC (by omega);have hk:(adN c.io)-k=0:=by have:=inv.old;rw [adz] at this;have:c.io.drop k=[]:=this;rw [List.drop_eq_nil_iff] at this;omega
   have new:=inv.new;rw [List.take_length] at new;refine ⟨⟨c.ci,⟨f⟩,c.ai,a,ds⟩,aI ?_,aI ?_,⟨ok.lK,ok.fM,cL,ok.sM,inv.ok,inv.w2,?_,kn,new⟩,rfl,rfl,rfl⟩
   · unfold dH RY
     simp only [e1,lm]
   · unfold cQ RZ
     simp only [aA,e1,lm]
   have:=inv.cnt
   show (adN a.bv)=adN ds;omega
  intro d
  induction d with
  |zero=>
   intro i k a ds hd hi inv Wt;have:i=(adN c.ai.ce):=by omega
   subst this;exact .inr (fin k a ds inv)
  |succ d ih=>
   intro i k a ds hd hi inv Wt
   by_cases he:i=adN c.ai.ce
   · subst he;exact .inr (fin k a ds inv)
   rcases Vw ok cL kn inv (by omega) Wt with ⟨h1,h2⟩|⟨k',a',yt,h1,h2,h3,h4⟩
   · exact .inl ⟨aI h1,aI h2⟩
   rw [aT h1,aT h2]
   exact ih (i+1) k' a' yt (by omega) (by omega) h3 h4
 have start:=run (adN c.ai.ce) 0 0 c.ae [] (by omega) (by omega) ⟨ok.lD,ok.GL,rfl,by rw [ad5,ad5];exact ok.Bd,by omega,by have:=ok.hd;simp;omega⟩ (by simp);have hc:gf c=adP 0:=by rw [kv ok.fit,ls ok]
 have hf:cY ⟨f⟩=adP 0:=by rw [fv];exact congrArg adP (gg.2 cL)
 have tw:=jF ok;have tw':jB (aK.mk (c.ci.1,c.ci.2) (Field.mk c.ii.am) (bF.mk c.ai.aN c.ai.ce) (aJ.mk (bj.mk c.ae.af.aB c.ae.af.be c.ae.af.bi) c.ae.bv c.ae.ar) c.io)=adP c:=tw;have first:ay j0 (c.ai.ce,((adN c.ai.ce):Int),0,c.ci.1,c.ci.2,c.ii.am,c.ai.aN,c.ai.ce,c.ae.af.aB,c.ae.af.be,c.ae.af.bi,c.ae.bv,c.ae.ar,c.io,f,0,0,0)=
  ay j0 (c.ai.ce,((adN c.ai.ce):Int),((adN c.ai.ce):Int),c.ci.1,c.ci.2,c.ii.am,c.ai.aN,c.ai.ce,c.ae.af.aB,c.ae.af.be,c.ae.af.bi,c.ae.bv,c.ae.ar,c.io,f,0,0,0):=by
  refine eJ (body:=j0) (fun i=>(c.ai.ce,((adN c.ai.ce):Int),(i:Int),c.ci.1,c.ci.2,c.ii.am,c.ai.aN,c.ai.ce,c.ae.af.aB,c.ae.af.be,c.ae.af.bi,c.ae.bv,c.ae.ar,c.io,f,0,0,0)) (adN c.ai.ce) (fun i hi=>?_);have e1:ae8 ((i:Int)<((adN c.ai.ce):Int))=adQ:=aE (by omega);unfold j0;simp only [e1,lc,ax c.ai.ce i hi,aj,mu cL,aC (Kj cL (kn i hi).1),aC (Kj cL (kn i hi).2),lm,aV (show i<1000000000 by omega)]
 have Vz: ∀r,ay dH (RY c f 0 c.ae [])=adP (.done r)->oe c ⟨f⟩=adP r:=by intro r hr;unfold oe;simp only [hc,aj,show ((0:Int) !=0)=ae7 from rfl,lm,hf,aA];rw [first];refine aI ?_;unfold j0;have e1:ae8 (((adN c.ai.ce):Int)<((adN c.ai.ce):Int))=ae7:=aC (by omega);simp only [aA,e1,lm,tw',aj,bm (show (adN f)<=1048576 by omega)];exact hr
 have aeu: ∀r,ay cQ (RZ c f 0 c.ae [])=adP r->lg c ⟨f⟩=adP r:=by intro r hr;unfold lg nG;simp only [jE ok,aj,bm (show (adN f)<=1048576 by omega)];exact hr
 rcases start with ⟨h1,h2⟩|⟨c',h1,h2,h3⟩
 · exact .inl ⟨Vz _ h1,aeu _ h2⟩
 exact .inr ⟨c',Vz _ h1,aeu _ h2,h3⟩
end
theorem m9 (l:List (Int×Int)) (x:Int×Int) (hl:(adN l)<=1000000):eF l x=adP (ae8 (x∈l)):=by
 unfold eF oQ;have key:=iD (body:=jr) (fun i=>(l,((adN l):Int),(i:Int),x)) (adN l) (fun i=>l[i]! =x) (fun i=>(i:Int)) (e:= -1) (fun i hi=>by
  have e1:ae8 ((i:Int)<((adN l):Int))=adQ:=aE (by omega);unfold jr;simp only [e1,lc,ax l i hi,aj,aV (show i<1000000000 by omega)];generalize l[i]! =y;constructor
  · intro h;rw [dp (congrArg Prod.fst h.symm),dp (congrArg Prod.snd h.symm)];rfl
  · intro h
    by_cases h1:x.1=y.1
    · rw [dp h1,dR (fun h2=>h (adG h1.symm h2.symm))];rfl
    rw [dR h1];rfl) (by
  unfold jr;have:ae8 (((adN l):Int)<((adN l):Int))=ae7:=aC (by omega);simp only [this,lm])
 rw [aA]
 by_cases hx:x∈l
 · obtain ⟨i,hi,he⟩:=aO.1 hx
   obtain ⟨k,h1,h2,h3⟩:=least (c:=fun i=>l[i]! =x) ⟨i,hi,he⟩;have:=key.1 k h1 h2 h3;rw [show ((0:Nat):Int)=0 from rfl] at this;rw [this,aE hx];simp only [aj,aE (show (0:Int)<=(k:Int) by omega)]
 have:=key.2 fun i hi he=>hx (aO.2 ⟨i,hi,he⟩)
 rw [show ((0:Nat):Int)=0 from rfl] at this;rw [this,aC hx];rfl
theorem D8 (l:List (Int×Int)) (x:Int×Int) (hl:(adN l)<=1000000):B8 l x=adP (ae8 (x∈l)):=by
 unfold B8;have key:=dy (body:=uz) (fun i=>(l,(i:Int),x)) (adN l) (fun i=>l[i]! =x) (r:=adQ) (e:=ae7) (fun i hi=>by
  have e1:ae8 ((i:Int)<((adN l):Int))=adQ:=aE (by omega);unfold uz;simp only [aA,e1,lc,ax l i hi,aj,aV (show i<1000000000 by omega)];generalize l[i]! =y;constructor
  · intro h;rw [dp (congrArg Prod.fst h),dp (congrArg Prod.snd h)];rfl
  · intro h
    by_cases h1:y.1=x.1
    · rw [dp h1,dR (fun h2=>h (adG h1 h2))];rfl
    rw [dR h1];rfl) (by
  unfold uz;have:ae8 (((adN l):Int)<((adN l):Int))=ae7:=aC (by omega);simp only [aA,this,lm])
 by_cases hx:x∈l
 · rw [aE hx];exact key.1 (aO.1 hx)
 rw [aC hx];exact key.2 fun i hi he=>hx (aO.2 ⟨i,hi,he⟩)
theorem VA (x y:qX):((x.1==y.1)&&((x.2.1==y.2.1)&&(x.2.2==y.2.2)))=ae8 (x=y):=by
 rw [Bool.eq_iff_iff,decide_eq_true_iff];simp only [Bool.and_eq_true,beq_iff_eq];constructor
 · rintro ⟨h1,h2,h3⟩;exact adG h1 (adG h2 h3)
 rintro rfl;exact ⟨rfl,rfl,rfl⟩
theorem D9 (a b:List qX) (hl:(adN a)<=1000000):pG ⟨a⟩ ⟨b⟩=adP (ae8 (a=b)):=by
 unfold pG;simp only [aA]
 by_cases h:(adN a)=adN b
 case neg=>rw [cS (by omega),aC (fun k=>h (by rw [k]))];rfl
 rw [bB (by omega)];simp only [lm];have key:=dy (body:=p8) (fun i=>((i:Int),a,b)) (adN a) (fun i=> ¬a[i]! =b[i]!) (r:=ae7) (e:=adQ) (fun i hi=>by
  have e1:ae8 ((i:Int)<((adN a):Int))=adQ:=aE (by omega);unfold p8;simp only [aA,e1,lc,ax a i hi,ax b i (by omega),aj,aV (show i<1000000000 by omega),VA];constructor
  · intro h;rw [aC h];rfl
  · intro h;rw [aE (EQ.1 h)];rfl) (by
  unfold p8;have:ae8 (((adN a):Int)<((adN a):Int))=ae7:=aC (by omega);simp only [aA,this,lm])
 by_cases he:a=b
 · rw [aE he]
   exact key.2 fun i hi=>EQ.2 (by rw [he])
 rw [aC he]
 refine key.1 (rc fun hx=>he (qW h fun i hi=>?_));exact rc fun hn=>hx ⟨i,hi,hn⟩
theorem Kk (a b:List qX) (hl:(adN a)<=1000000):kM a b=adP (ae8 (a=b)):=by
 unfold kM;simp only [aA]
 by_cases h:(adN a)=adN b
 case neg=>rw [cS (by omega),aC (fun k=>h (by rw [k]))];rfl
 rw [bB (by omega)];simp only [lm];have key:=dy (body:=iZ) (fun i=>(a,b,((adN a):Int),(i:Int))) (adN a) (fun i=> ¬a[i]! =b[i]!) (r:=ae7) (e:=adQ) (fun i hi=>by
  have e1:ae8 ((i:Int)<((adN a):Int))=adQ:=aE (by omega);unfold iZ;simp only [e1,lc,ax a i hi,ax b i (by omega),aj,aV (show i<1000000000 by omega),VA];constructor
  · intro h;rw [aC h];rfl
  · intro h;rw [aE (EQ.1 h)];rfl) (by
  unfold iZ;have:ae8 (((adN a):Int)<((adN a):Int))=ae7:=aC (by omega);simp only [this,lm])
 by_cases he:a=b
 · rw [aE he]
   exact key.2 fun i hi=>EQ.2 (by rw [he])
 rw [aC he]
 refine key.1 (rc fun hx=>he (qW h fun i hi=>?_));exact rc fun hn=>hx ⟨i,hi,hn⟩
theorem R3 {cs:List qX} {m:Nat} {x:qX} (hx:x∈cs) (dW:x.1≠(cs[m]!).1):x∈cs.eraseIdx m:=by
 obtain ⟨j,hj,rfl⟩:=aO.1 hx;have hjm:j≠m:=fun h=>dW (by rw [h])
 rw [tB,IR]
 by_cases h:j<m
 · exact .inl (cw.2 ⟨j,h,hj,rfl⟩)
 right
 rw [aO];refine ⟨j- (m+1),by rw [AC];omega,?_⟩;rw [mJ]
 congr 1;omega
def kP (c0:aK) (f:List Pt) (es:List (Int×Int)) (i:Nat) (c:aK):=
 (es,c0.ai.ce,((adN c0.ai.ce):Int),(i:Int),c.ci.1,c.ci.2,c.ii.am,c.ai.aN,c.ai.ce,c.ae.af.aB,c.ae.af.be,c.ae.af.bi,c.ae.bv,c.ae.ar,c.io,f,(0:Int),(0:Int),(0:Int))
def kR (c0:aK) (f:List Pt) (es:List (Int×Int)) (i:Nat) (c:aK):=
 (es,(i:Int),c0.ci.1,c0.ci.2,c0.ii.am,c0.ai.aN,c0.ai.ce,c0.ae.af.aB,c0.ae.af.be,c0.ae.af.bi,c0.ae.bv,c0.ae.ar,c0.io,f,(0:Int),(0:Int),(0:Int),c.ci.1,c.ci.2,c.ii.am,c.ai.aN,c.ai.ce,c.ae.af.aB,c.ae.af.be,c.ae.af.bi,c.ae.bv,c.ae.ar,c.io)
def eP (es:List (Int×Int)) (i:Nat) (c:aK):=
 (es,((adN es):Int),(i:Int),c.ci.1,c.ci.2,c.ii.am,c.ai.aN,c.ai.ce,c.ae.af.aB,c.ae.af.be,c.ae.af.bi,c.ae.bv,c.ae.ar,c.io,(0:Int),(0:Int),(0:Int))
def eR (es:List (Int×Int)) (i:Nat) (c:aK):=
 (es,(i:Int),(0:Int),(0:Int),(0:Int),c.ci.1,c.ci.2,c.ii.am,c.ai.aN,c.ai.ce,c.ae.af.aB,c.ae.af.be,c.ae.af.bi,c.ae.bv,c.ae.ar,c.io)
def mP (c:aK):Int:=c.ai.aN- ((adN c.ai.ce):Int)
structure MC (c:aK) (f:List Pt) (es:List (Int×Int)) (r:aK):Prop where
 has: ∀e∈es,rG r.ai.ce e
 sub: ∀x∈r.ai.ce,x.2∈es
 ok:aY r
 ju:r.ii.am=f
 ci:r.ci=c.ci
 room:mP c<=mP r
def Roomy (c:aK) (k:Nat):Prop:=adN c.ai.ce<=k/\c.ai.aN<=k/\ ∀j,j<adN c.ae.af.aB->c.ae.af.aB[j]!<=k
theorem aR.len {l:List Pt} {t:Int×Int} {H:List Ev}: ∀{cs ds:List qX},aR l t H cs ds->adN ds<=adN cs
 | [],ds,h=>by rw [show ds=[] from h];exact adF _
 |x::cs,ds,h=>by
  cases hy:(bE l x.2 t).2 with
  |true=>obtain ⟨d,yt,rfl,_,_,h4⟩:=h.1 hy;exact Nat.succ_le_succ h4.len
  |false=>exact Nat.le_succ_of_le (h.2 hy).len
theorem Roomy.VB {c:aK} (ok:aY c) {k:Nat} (h:Roomy c k) (hk:k<=199): ¬(Cl c.ai\/ ¬xQ c.ae.af):=by
 obtain ⟨h1,h2,h3⟩:=h;have fl:=ok.Bd.len;have hd:=ok.hd;have hl:=ok.lD.hl;have wl:=ok.lD.wl;have w2:=ok.GL;rintro (h|h)
 · rcases h with h|h<;>omega
 refine h ⟨by omega,?_⟩
 have:=h3 _ (zH ok.lD.so (by omega)).1;omega
theorem Roomy.more {c c':aK} {k:Nat} (h:Roomy c k) {x:Int×Int} (hc:c'.ai=o7 c.ai x) (hs:c'.ae.af=c.ae.af\/c'.ae.af=gJ c.ae.af):Roomy c' (k+1):=by
 obtain ⟨h1,h2,h3⟩:=h;refine ⟨?_,?_,fun j hj=>?_⟩
 · rw [hc]
   show (c.ai.ce++[(c.ai.aN,x)]).length<=_;rw [pp,NE];omega
 · rw [hc]
   show c.ai.aN+1<=_;omega
 rcases hs with e|e
 · rw [e] at hj ⊢
   have:=h3 j hj;omega
 rw [e] at hj ⊢
 change j<(c.ae.af.aB.set _ _).length at hj;rw [adB] at hj;show (c.ae.af.aB.set (dh c.ae.af) (c.ae.af.aB[dh c.ae.af]!+1))[j]!<=_;rw [aU];split
 · rename_i h;have:=h3 _ h.2;omega
 have:=h3 j hj;omega
structure Co (f:List Pt) (es:List (Int×Int)):Prop where
 len:(adN es)<=1000000
 cv: ∀x∈es,fL x
 kn: ∀x∈es,iX f x
theorem VC {c0:aK} (ok0:aY c0) {f:List Pt} {es:List (Int×Int)} (Kl:Co f es):
 ∀(d i:Nat) (c:aK),adN c0.ai.ce-i<=d->i<=adN c0.ai.ce->aY c->(∀x∈c0.ai.ce.drop i,x∈c.ai.ce)->(∀x∈c.ai.ce,x∈c0.ai.ce.drop i\/x.2∈es)->
  ∃c':aK,ay eG (kP c0 f es i c)=ay eG (kP c0 f es (adN c0.ai.ce) c')/\ay dG (kR c0 f es i c)=ay dG (kR c0 f es (adN c0.ai.ce) c')/\aY c'/\(∀x∈c'.ai.ce,x.2∈es)/\c'.ii=c.ii/\c'.ci=c.ci/\mP c<=mP c':=by
 have bd:=ok0.bd;intro d
 induction d with
 |zero=>
  intro i c hd hi ok h1 h2;have:i=(adN c0.ai.ce):=by omega
  subst this;refine ⟨c,rfl,rfl,ok,fun x hx=>?_,rfl,rfl,adc _⟩;rcases h2 x hx with h|h
  · rw [adz] at h;cases h
  exact h
 |succ d ih=>
  intro i c hd hi ok h1 h2
  by_cases he:i=adN c0.ai.ce
  · subst he
    refine ⟨c,rfl,rfl,ok,fun x hx=>?_,rfl,rfl,adc _⟩;rcases h2 x hx with h|h
    · rw [adz] at h;cases h
    exact h
  have uY:i<(adN c0.ai.ce):=by omega
  have e1:ae8 ((i:Int)<((adN c0.ai.ce):Int))=adQ:=aE (by omega);have sc:=aV (show i<1000000000 by omega);have cg:=ax c0.ai.ce i uY;have dr:=sN uY;have tU:(aK.mk (c.ci.1,c.ci.2) (Field.mk c.ii.am) (bF.mk c.ai.aN c.ai.ce) (aJ.mk (bj.mk c.ae.af.aB c.ae.af.be c.ae.af.bi) c.ae.bv c.ae.ar) c.io)=c:=rfl
  by_cases wK:(c0.ai.ce[i]!).2∈es
  · have s1:eG (kP c0 f es i c)=adP (.next (kP c0 f es (i+1) c)):=by
     unfold eG kP;simp only [e1,lc,cg,aj,m9 _ _ Kl.len,aE wK,ww,lm,sc]
    have s2:dG (kR c0 f es i c)=adP (.next (kR c0 f es (i+1) c)):=by unfold dG kR;simp only [aA,e1,lc,cg,aj,D8 _ _ Kl.len,aE wK,ww,lm,sc]
    rw [aT s1,aT s2];refine ih (i+1) c (by omega) (by omega) ok (fun x hx=>h1 x (by rw [dr];exact v6 _ hx)) (fun x hx=>?_);rcases h2 x hx with h|h
    · rw [dr] at h
      rcases adL.1 h with rfl|h
      · exact .inr wK
      exact .inl h
    exact .inr h
  have hm:=h1 (c0.ai.ce[i]!) (by rw [dr];exact M2)
  obtain ⟨m,hm1,SQ⟩:=aO.1 hm;obtain ⟨c',r1,r2,r3,r4,r5,r6⟩:=Vu ok hm1;have rt:=En ok hm1 r1;rw [SQ] at r2 rt;have s1:eG (kP c0 f es i c)=adP (.next (kP c0 f es (i+1) c')):=by unfold eG kP;simp only [e1,lc,cg,aj,m9 _ _ Kl.len,aC wK,ut,sc,tU,rt]
  have s2:dG (kR c0 f es i c)=adP (.next (kR c0 f es (i+1) c')):=by unfold dG kR;simp only [aA,e1,lc,cg,aj,D8 _ _ Kl.len,aC wK,ut,sc,tU,r2]
  rw [aT s1,aT s2];have cl:c'.ai.ce=c.ai.ce.eraseIdx m:=by rw [r6];rfl
  have ud:mP c<=mP c':=by unfold mP;rw [r6];show _<=c.ai.aN- (((c.ai.ce.eraseIdx m).length:Nat):Int);rw [List.length_eraseIdx_of_lt hm1];omega
  have hs:(∀x∈c0.ai.ce.drop (i+1),x∈c'.ai.ce)/\(∀x∈c'.ai.ce,x∈c0.ai.ce.drop (i+1)\/x.2∈es):=by
   refine ⟨fun x hx=>?_,fun x hx=>?_⟩
   · rw [cl]
     refine R3 (h1 x (by rw [dr];exact v6 _ hx)) ?_;rw [SQ];exact Cn ok0 hx uY
   rw [cl] at hx
   obtain ⟨a1,a2⟩:=sD ok.vz hm1 hx;rw [SQ] at a2;rcases h2 x a1 with h|h
   · rw [dr] at h
     rcases adL.1 h with rfl|h
     · exact absurd rfl a2
     exact .inl h
   exact .inr h
  obtain ⟨d',q1,q2,q3,q4,q5,q6,q7⟩:=ih (i+1) c' (by omega) (by omega) r3 hs.1 hs.2;exact ⟨d',q1,q2,q3,q4,q5.trans r4,q6.trans r5,by omega⟩
theorem MD {f:List Pt} (_fok:bC f) {es:List (Int×Int)} (Kl:Co f es):
 ∀(d i:Nat) (c:aK),adN es-i<=d->i<=adN es->aY c->c.ii.am=f->(∀x∈c.ai.ce,x.2∈es)->(∀j,j<i->rG c.ai.ce es[j]!)->
  ∃r:aK×Int,ay ft (eP es i c)=adP (.done r)/\ay ed (eR es i c)=adP (.done r)/\(r.2=0/\MC c f es r.1\/r=(eA,18))/\(∀k,Roomy c k->k+(adN es-i)<=199->r.2=0):=by
 have el:=Kl.len;have fin: ∀c:aK,aY c->c.ii.am=f->(∀x∈c.ai.ce,x.2∈es)->(∀j,j<adN es->rG c.ai.ce es[j]!)-> ∃r:aK×Int,ay ft (eP es (adN es) c)=adP (.done r)/\ay ed (eR es (adN es) c)=adP (.done r)/\(r.2=0/\MC c f es r.1\/r=(eA,18))/\r.2=0:=by
  intro c ok hf hs hh;have e1:ae8 (((adN es):Int)<((adN es):Int))=ae7:=aC (by omega);refine ⟨(c,0),aI ?_,aI ?_,.inl ⟨rfl,fun e he=>by obtain ⟨j,hj,q⟩:=aO.1 he;rw [<- q];exact hh j hj,hs,ok,hf,rfl,adc _⟩,rfl⟩
  · unfold ft eP
    simp only [e1,lm]
  unfold ed eR
  simp only [aA,e1,lm]
 intro d
 induction d with
 |zero=>
  intro i c hd hi ok hf hs hh;have:i=(adN es):=by omega
  subst this;obtain ⟨r,q1,q2,q3,q4⟩:=fin c ok hf hs hh;exact ⟨r,q1,q2,q3,fun _ _ _=>q4⟩
 |succ d ih=>
  intro i c hd hi ok hf hs hh
  by_cases he:i=adN es
  · subst he
    obtain ⟨r,q1,q2,q3,q4⟩:=fin c ok hf hs hh;exact ⟨r,q1,q2,q3,fun _ _ _=>q4⟩
  have bd:=ok.bd;have uY:i<(adN es):=by omega
  have e1:ae8 ((i:Int)<((adN es):Int))=adQ:=aE (by omega);have sc:=aV (show i<1000000000 by omega);have cg:=ax es i uY;have tU:(aK.mk (c.ci.1,c.ci.2) (Field.mk c.ii.am) (bF.mk c.ai.aN c.ai.ce) (aJ.mk (bj.mk c.ae.af.aB c.ae.af.be c.ae.af.bi) c.ae.bv c.ae.ar) c.io)=c:=rfl;have ME:bF.mk c.ai.aN c.ai.ce=c.ai:=rfl;have hc:=Mt c.ai.ce es[i]! (by omega);have hr:=xy c.ai es[i]! (by omega)
  by_cases wK:rG c.ai.ce es[i]!
  · have s1:ft (eP es i c)=adP (.next (eP es (i+1) c)):=by
     unfold ft eP;simp only [e1,lc,cg,aj,Dt,hc,aE wK,sc]
    have s2:ed (eR es i c)=adP (.next (eR es (i+1) c)):=by unfold ed eR;simp only [aA,e1,lc,cg,aj,ME,hr,aE wK,sc]
    rw [aT s1,aT s2];obtain ⟨r,q1,q2,q3,q4⟩:=ih (i+1) c (by omega) (by omega) ok hf hs (fun j hj=>if q:j=i then by rw [q];exact wK else hh j (by omega));exact ⟨r,q1,q2,q3,fun k hk hl=>q4 k hk (by omega)⟩
  have hb:iX c.ii.am es[i]!:=by rw [hf];exact Kl.kn _ (bn uY)
  rcases ac3 ok (Kl.cv _ (bn uY)) hb wK with ⟨r1,r2,full⟩|⟨c',r1,r2,r3,r4,r5,r6,r7⟩
  · refine ⟨(eA,18),aI ?_,aI ?_,.inr rfl,fun k hk hl=>absurd full (hk.VB ok (by omega))⟩
    · unfold ft eP
      simp only [e1,lc,cg,aj,Dt,hc,aC wK,lm,tU,r1,show ((18:Int) !=0)=adQ from rfl]
    unfold ed eR
    simp only [aA,e1,lc,cg,aj,ME,hr,aC wK,lm,tU,r2,show ((18:Int) !=0)=adQ from rfl]
  have s1:ft (eP es i c)=adP (.next (eP es (i+1) c')):=by
   unfold ft eP;simp only [e1,lc,cg,aj,Dt,hc,aC wK,lm,tU,r1,show ((0:Int) !=0)=ae7 from rfl,sc]
  have s2:ed (eR es i c)=adP (.next (eR es (i+1) c')):=by unfold ed eR;simp only [aA,e1,lc,cg,aj,ME,hr,aC wK,lm,tU,r2,show ((0:Int) !=0)=ae7 from rfl,sc]
  rw [aT s1,aT s2];obtain ⟨r,q1,q2,q3,q6⟩:=ih (i+1) c' (by omega) (by omega) r3 (by rw [r4,hf]) (fun x hx=>by
   rw [r6] at hx;rcases IR.1 (show x∈c.ai.ce++[(c.ai.aN,es[i]!)] from hx) with h|h
   · exact hs x h
   · rw [List.mem_singleton.1 h];exact bn uY) (fun j hj=>by
   rw [r6];show rG (c.ai.ce++[(c.ai.aN,es[i]!)]) _
   by_cases q:j=i
   · rw [q];exact ⟨adN c.ai.ce,by rw [pp,NE];omega,by rw [eK (adF _),Nat.sub_self];rfl⟩
   obtain ⟨w,w1,w2⟩:=hh j (by omega)
   exact ⟨w,by rw [pp];omega,by rw [dv w1];exact w2⟩)
  refine ⟨r,q1,q2,q3.imp (fun ⟨q4,q5⟩=>⟨q4,q5.has,q5.sub,q5.ok,q5.ju,q5.ci.trans r5,adA ?_ q5.room⟩) id,fun k hk hl=>q6 (k+1) (hk.more r6 r7) (by omega)⟩;unfold mP;rw [r6];show _<=(c.ai.aN+1) - (((c.ai.ce++[(c.ai.aN,es[i]!)]).length:Nat):Int);rw [pp,NE];omega
theorem ac6 {c:aK} (ok:aY c) {f:List Pt} (cL:bC f) {es:List (Int×Int)} (Kl:Co f es):
 ∃r:aK×Int,qP c ⟨f⟩ es=adP r/\lh c ⟨f⟩ es=adP r/\(r.2=0/\MC c f es r.1\/r=(eA,18)):=by
 have f64:=cL.1;obtain ⟨c',g1,g2,g3,g4,g5,g6,g7⟩:=VC ok Kl (adN c.ai.ce) 0 c (by omega) (by omega) ok (fun x hx=>by rwa [ad5] at hx) (fun x hx=> .inl (by rwa [ad5]));have bd:=g3.bd;have e1:ae8 (((adN c.ai.ce):Int)<((adN c.ai.ce):Int))=ae7:=aC (by omega);have ak7:qP c ⟨f⟩ es=ay eG (kP c f es 0 c):=rfl;have ak8:lh c ⟨f⟩ es=ay dG (kR c f es 0 c):=by unfold lh;simp only [jE ok,aj];rfl
 rw [ak7,ak8,g1,g2];have eq1:=Kk c'.ii.am f (by omega);have eq2:=D9 c'.ii.am f (by omega);have tU:(aK.mk (c'.ci.1,c'.ci.2) (Field.mk c'.ii.am) (bF.mk c'.ai.aN c'.ai.ce) (aJ.mk (bj.mk c'.ae.af.aB c'.ae.af.be c'.ae.af.bi) c'.ae.bv c'.ae.ar) c'.io)=c':=rfl
 by_cases hf:c'.ii.am=f
 · obtain ⟨r,i1,i2,i3,_⟩:=MD cL Kl (adN es) 0 c' (by omega) (by omega) g3 hf g4 (fun j hj=>absurd hj (adJ j))
   refine ⟨r,aI ?_,aI ?_,i3.imp (fun ⟨q4,q5⟩=>⟨q4,q5.has,q5.sub,q5.ok,q5.ju,q5.ci.trans g6,adA g7 q5.room⟩) id⟩
   · unfold eG kP
     simp only [e1,lm,eq1,aE hf,aj,ww];exact i1
   unfold dG kR
   simp only [aA,e1,lm,eq2,aE hf,aj,ww];exact i2
 have kn: ∀i,i<adN c'.ai.ce->iX f (c'.ai.ce[i]!).2:=fun i hi=>Kl.kn _ (g4 _ (bn hi))
 rcases apa g3 cL kn with ⟨a1,a2⟩|⟨c2,a1,a2,a3,a4,a5,a6⟩
 · refine ⟨(eA,18),aI ?_,aI ?_,.inr rfl⟩
   · unfold eG kP
     simp only [e1,lm,eq1,aC hf,aj,ut,lc,tU,a1,show ((18:Int) !=0)=adQ from rfl]
   unfold dG kR
   simp only [aA,e1,lm,eq2,aC hf,aj,ut,lc,tU,a2,show ((18:Int) !=0)=adQ from rfl]
 obtain ⟨r,i1,i2,i3,_⟩:=MD cL Kl (adN es) 0 c2 (by omega) (by omega) a3 a4 (by rw [a6];exact g4) (fun j hj=>absurd hj (adJ j))
 refine ⟨r,aI ?_,aI ?_,i3.imp (fun ⟨q4,q5⟩=>⟨q4,q5.has,q5.sub,q5.ok,q5.ju,(q5.ci.trans a5).trans g6,adA (adA g7 (by unfold mP;rw [a6];exact adc _)) q5.room⟩) id⟩
 · unfold eG kP
   simp only [e1,lm,eq1,aC hf,aj,ut,lc,tU,a1,show ((0:Int) !=0)=ae7 from rfl];exact i1
 unfold dG kR
 simp only [aA,e1,lm,eq2,aC hf,aj,ut,lc,tU,a2,show ((0:Int) !=0)=ae7 from rfl];exact i2
theorem GP {α:Type} [Inhabited α] {l:List α}:l.Nodup↔ ∀k,k<adN l->l[k]!∉l.take k:=by
 rw [hM];constructor
 · intro h k hk hm
   obtain ⟨i,h1,h2,h3⟩:=cw.1 hm;exact h i k h1 hk h3
 intro h i j lL hj he
 exact h j hj (cw.2 ⟨i,lL,by omega,he⟩)
theorem y4 {α:Type} [Inhabited α] {l:List α} {P:α->Prop}:(∀x∈l,P x)↔ ∀i,i<adN l->P l[i]!:=by
 constructor
 · intro h i hi;exact h _ (bn hi)
 intro h x hx
 obtain ⟨i,hi,rfl⟩:=aO.1 hx;exact h i hi
theorem nK {σ ρ:Type} {body:σ->Option (Step σ ρ)} (st:Nat->σ) (n:Nat) (P:Nat->Prop) {r e:ρ} (h: ∀i,i<n->(¬P i->body (st i)=adP (.done r))/\(P i->body (st i)=adP (.next (st (i+1)))))
 (U7:body (st n)=adP (.done e)):ay body (st 0)=adP (if∀i,i<n->P i then e else r):=by
 have key:=dy (body:=body) st n (fun i=> ¬P i) (r:=r) (e:=e) (fun i hi=>⟨(h i hi).1,fun hn=>(h i hi).2 (EQ.1 hn)⟩) U7
 by_cases hx: ∀i,i<n->P i
 · rw [ls hx];exact key.2 fun i hi=>EQ.2 (hx i hi)
 rw [lw hx]
 obtain ⟨i,h⟩:=Classical.not_forall.1 hx;obtain ⟨hi,hx⟩:=Classical.not_imp.1 h;exact key.1 ⟨i,hi,hx⟩
theorem Aq {f:List Pt} (cL:bC f) (id:Int): ∃p e,tc ⟨f⟩ id=adP (p,e)/\(e=0↔gx f id):=by
 have h1:=cL.1;have hc:cY ⟨f⟩=adP 0:=by rw [fv];exact congrArg adP (gg.2 cL)
 have bs:=qp f id (by omega) (fun i j=>eV cL.2.2);unfold tc js jA;rw [Ck];simp only [hc,aj,show ((0:Int) !=0)=ae7 from rfl,lm]
 by_cases h:gx f id
 · obtain ⟨k,hk,he⟩:=h
   rw [bs.1 k hk he];refine ⟨f[k]!,0,?_,fun _=>⟨k,hk,he⟩,fun _=>rfl⟩;simp only [aj,ww,lm,show ((0:Int) !=0)=ae7 from rfl,ax f k hk]
 obtain ⟨m,_,_,_,e⟩:=bs.2 (fun k hk he=>h ⟨k,hk,he⟩)
 rw [e];exact ⟨(0,0,0),6,rfl,fun h=>(by cases h),fun k=>absurd k h⟩
structure Qm (c:aK):Prop where
 f:(adN c.ii.am)<=1000000
 l:(adN c.ai.ce)<=1000000
 d:(adN c.io)<=1000000
 h:(adN c.ae.bv)<=1000000
 w:(adN c.ae.ar)<=1000000
 s1:(adN c.ae.af.aB)<=1000000
 s2:(adN c.ae.af.be)<=1000000
 s3:(adN c.ae.af.bi)<=1000000
theorem aY.short {c:aK} (ok:aY c):Qm c:=by have bd:=ok.bd;have ab:=ok.lD.bd;have sl:=ok.lD.so.fl;have sn:=ok.lD.so.n2;have su:=ok.lD.so.ul;exact ⟨by omega,by omega,by omega,by omega,by omega,by omega,by omega,by omega⟩
theorem HH:Qm eA:=⟨by decide,by decide,by decide,by decide,by decide,by decide,by decide,by decide⟩
structure MF (c:aK):Prop where
 ci:lM c.ci
 OK: ∀w,w<adN c.ae.bv->lM ((c.ae.bv[w]!).1,(c.ae.bv[w]!).2.1)
theorem MG (f:Field):qQ f=adP adQ\/(qQ f=adP ae7/\adN f.am<=70):=by
 unfold qQ
 simp only [aA]
 by_cases h1:16<adN f.am
 · rw [aE (show (16:Int)<((adN f.am):Int) by omega)]
   by_cases h2:(adN f.am)<64
   · rw [aE (show ((adN f.am):Int)<64 by omega)];exact .inl rfl
   rw [aC (show¬((adN f.am):Int)<64 by omega)]
   by_cases h3:70<adN f.am
   · rw [aE (show (70:Int)<((adN f.am):Int) by omega)];exact .inl rfl
   rw [aC (show¬(70:Int)<((adN f.am):Int) by omega)];exact .inr ⟨rfl,by omega⟩
 rw [aC (show¬(16:Int)<((adN f.am):Int) by omega),aC (show¬(70:Int)<((adN f.am):Int) by omega)]
 exact .inr ⟨rfl,by omega⟩
theorem MH (c:aK):qR c=adP adQ\/(qR c=adP ae7/\Qm c):=by
 unfold qR yM yL
 simp only [aA]
 by_cases h1:40<adN c.ai.ce
 · rw [aE (show (40:Int)<((adN c.ai.ce):Int) by omega)];exact .inl rfl
 rw [aC (show¬(40:Int)<((adN c.ai.ce):Int) by omega)]
 by_cases h2:40<adN c.io
 · rw [aE (show (40:Int)<((adN c.io):Int) by omega)];exact .inl rfl
 rw [aC (show¬(40:Int)<((adN c.io):Int) by omega)];rcases MG c.ii with e|⟨e,hf⟩
 · rw [e];exact .inl rfl
 rw [e];simp only [lm,aj]
 by_cases a1:210<adN c.ae.af.aB
 · rw [aE (show (210:Int)<((adN c.ae.af.aB):Int) by omega)];exact .inl rfl
 rw [aC (show¬(210:Int)<((adN c.ae.af.aB):Int) by omega)]
 by_cases a2:210<adN c.ae.af.be
 · rw [aE (show (210:Int)<((adN c.ae.af.be):Int) by omega)];exact .inl rfl
 rw [aC (show¬(210:Int)<((adN c.ae.af.be):Int) by omega)]
 by_cases a3:210<adN c.ae.af.bi
 · rw [aE (show (210:Int)<((adN c.ae.af.bi):Int) by omega)];exact .inl rfl
 rw [aC (show¬(210:Int)<((adN c.ae.af.bi):Int) by omega)]
 by_cases a4:210<adN c.ae.bv
 · rw [aE (show (210:Int)<((adN c.ae.bv):Int) by omega)];exact .inl rfl
 rw [aC (show¬(210:Int)<((adN c.ae.bv):Int) by omega)]
 by_cases a5:210<adN c.ae.ar
 · rw [aE (show (210:Int)<((adN c.ae.ar):Int) by omega)];exact .inl rfl
 rw [aC (show¬(210:Int)<((adN c.ae.ar):Int) by omega)];exact .inr ⟨rfl,⟨by omega,by omega,by omega,by omega,by omega,by omega,by omega,by omega⟩⟩
theorem Qn {a b:Int×Int} (ha:bK a) (hb:bK b) (h:a.1*b.2=b.1*a.2):a=b:=by
 obtain ⟨a1,_,a3⟩:=ha;obtain ⟨b1,_,b3⟩:=hb;have hn:a.1.natAbs*b.2.natAbs=b.1.natAbs*a.2.natAbs:=by rw [<- adK,<- adK,h]
 have d1:b.2.natAbs ∣ a.2.natAbs:=by
  have:b.2.natAbs ∣ b.1.natAbs*a.2.natAbs:=by rw [<- hn];exact adI _ _
  exact (Nat.Coprime.dvd_of_dvd_mul_left b3 this)
 have d2:a.2.natAbs ∣ b.2.natAbs:=by
  have:a.2.natAbs ∣ a.1.natAbs*b.2.natAbs:=by rw [hn];exact adI _ _
  exact (Nat.Coprime.dvd_of_dvd_mul_left a3 this)
 have e:a.2.natAbs=b.2.natAbs:=Nat.dvd_antisymm d2 d1;have e2:a.2=b.2:=by omega
 have e1:a.1=b.1:=by rw [e2] at h;exact Int.eq_of_mul_eq_mul_right (by omega) h
 exact adG e1 e2
theorem Cp (p q:Pt) (t:Int×Int):Gi p q t=(p.2.1-q.2.1)*t.2+(p.2.2-q.2.2)*t.1:=rfl
theorem D' {l h:Pt} {t t':Int×Int} (d:1<=t.2) (d':1<=t'.2) (le:t.1*t'.2<=t'.1*t.2) (hB: ¬h.2.2<l.2.2) (hn: ¬leads l h t): ¬leads l h t':=by
 unfold leads at*;rw [Cp] at*;generalize l.2.1-h.2.1=A at*;have hs:l.2.2-h.2.2<=0:=by omega
 intro hl;have key:(A*t'.2+(l.2.2-h.2.2)*t'.1)*t.2<=(A*t.2+(l.2.2-h.2.2)*t.1)*t'.2:=by
  have h1:(l.2.2-h.2.2)*(t'.1*t.2)<=(l.2.2-h.2.2)*(t.1*t'.2):=Int.mul_le_mul_of_nonpos_left hs le;have e1:(A*t'.2+(l.2.2-h.2.2)*t'.1)*t.2=A*t'.2*t.2+(l.2.2-h.2.2)*(t'.1*t.2):=by rw [Int.add_mul,ady (l.2.2-h.2.2)]
  have e2:(A*t.2+(l.2.2-h.2.2)*t.1)*t'.2=A*t'.2*t.2+(l.2.2-h.2.2)*(t.1*t'.2):=by rw [Int.add_mul,ady (l.2.2-h.2.2),ady A,ady A,adH t.2]
  omega
 rcases hl with hl|⟨hl,h2|⟨h2,h3⟩⟩
 · refine hn (.inl ?_)
   have:0<(A*t'.2+(l.2.2-h.2.2)*t'.1)*t.2:=Int.mul_pos hl (by omega);have k:0<(A*t.2+(l.2.2-h.2.2)*t.1)*t'.2:=by omega
   exact Int.pos_of_mul_pos_left k (by omega)
 · omega
 have z:l.2.2-h.2.2=0:=by omega
 rw [z] at hl hn;have:A=0:=by
  have:A*t'.2=0:=by omega
  rcases Int.mul_eq_zero.1 this with h|h
  · exact h
  omega
 subst this;exact hn (.inr ⟨by omega,.inr ⟨h2,h3⟩⟩)
theorem GQ {h l:Pt} {t t':Int×Int} (hh:eY h) (hl:eY l) (r:bK t) (r':bK t') (le:t.1*t'.2<=t'.1*t.2) (up:(k8 h l t).2=adQ->t'.1*(k8 h l t).1.2<=(k8 h l t).1.1*t'.2):
 k8 h l t'=k8 h l t:=by
 unfold k8 at*
 by_cases h1:leads l h t
 · rw [ls h1] at up ⊢
   have e:t=t':=Qn r r' (by have:=up rfl;dsimp only at this;omega);subst e;rw [ls h1]
 rw [lw h1] at up ⊢
 by_cases h2:h.2.2<l.2.2
 · rw [ls h2] at up ⊢
   obtain ⟨_,m1,m2,m3⟩:=Dm hh hl (show h.2.2≠l.2.2 by omega);have up:=up rfl;dsimp only at up
   by_cases h3:leads l h t'
   · rw [ls h3]
     have:t'=met h l:=by
      refine Qn r' m1 ?_;have g:0<=Gi l h t':=by rcases h3 with k|k<;>omega
      rw [Cp] at g;generalize met h l=m at*;have d:=m1.1;have hB:0<l.2.2-h.2.2:=by omega
      generalize l.2.2-h.2.2=B at*;generalize hA:h.2.1-l.2.1=A at*;have g2:A*t'.2<=B*t'.1:=by
       have:(l.2.1-h.2.1)*t'.2= -(A*t'.2):=by rw [<- Int.neg_mul];congr 1;omega
       omega
      have g3:m.1*t'.2*B<=t'.1*m.2*B:=by
       have e1:m.1*t'.2*B=A*t'.2*m.2:=by rw [Do,m3,Do]
       have e2:t'.1*m.2*B=B*t'.1*m.2:=by rw [Do,adH t'.1 B]
       rw [e1,e2];exact PP g2 (by omega)
      have g4:m.1*t'.2<=t'.1*m.2:=ad6 g3 hB;omega
     rw [this]
   rw [lw h3]
 rw [lw h2] at up ⊢
 rw [lw (D' r.1 r'.1 le h2 h1)]
theorem Dw {a:aJ} (ok:eZ a): ∀k,k<adN a.bv-> ¬less a.bv[k]! a.bv[0]!:=by
 have d: ∀w,w<adN a.bv->1<=(a.bv[w]!).2.1:=fun w hw=>(ok.ev w hw).1.1
 intro k
 induction k using Nat.strongRecOn with
 |ind k ih=>
  intro hk
  by_cases h0:k=0
  · subst h0;exact fun h=>nJ h h
  exact wc (d 0 (by omega)) (d ((k-1) / 2) (by omega)) (d k hk) (ih ((k-1) / 2) (by omega) (by omega)) (ok.ord k (by omega) hk)
theorem VD {h l:Pt} {t:Int×Int} (hh:eY h) (hl:eY l) (r:bK t) (is:(k8 h l t).2=adQ):t.1*(k8 h l t).1.2<=(k8 h l t).1.1*t.2:=by
 unfold k8 at*
 by_cases h1:leads l h t
 · rw [ls h1];exact adc _
 rw [lw h1] at is ⊢
 by_cases h2:h.2.2<l.2.2
 · rw [ls h2]
   obtain ⟨_,m1,m2,m3⟩:=Dm hh hl (show h.2.2≠l.2.2 by omega);dsimp only;have g:Gi l h t<=0:=Int.not_lt.1 fun k=>h1 (.inl k)
   rw [Cp] at g;generalize met h l=m at*;have d:=m1.1;have d2:=r.1;have hB:0<l.2.2-h.2.2:=by omega
   generalize l.2.2-h.2.2=B at*;generalize hA:h.2.1-l.2.1=A at*;have g2:B*t.1<=A*t.2:=by
    have:(l.2.1-h.2.1)*t.2= -(A*t.2):=by rw [<- Int.neg_mul];congr 1;omega
    omega
   have e1:t.1*m.2*B=B*t.1*m.2:=by rw [Do,adH t.1 B]
   have e2:m.1*t.2*B=A*t.2*m.2:=by rw [Do,m3,Do]
   have g3:t.1*m.2*B<=m.1*t.2*B:=by rw [e1,e2];exact PP g2 (by omega)
   exact ad6 g3 hB
 rw [lw h2] at is;cases is
theorem aR.time {l:List Pt} {t t':Int×Int} {H:List Ev}: ∀{cs ds:List qX},(∀x∈cs,bE l x.2 t'=bE l x.2 t)->aR l t H cs ds->aR l t' H cs ds
 | [],_,_,h=>h
 |x::cs,ds,hw,h=>by
  have e:=hw x M2;have ih: ∀{ds},aR l t H cs ds->aR l t' H cs ds:=fun {ds}=>aR.time fun y hy=>hw y (v6 _ hy)
  refine ⟨fun hy=>?_,fun hy=>?_⟩
  · rw [e] at hy
    obtain ⟨d,yt,h1,h2,h3,h4⟩:=h.1 hy;exact ⟨d,yt,h1,h2,by rw [e];exact h3,ih h4⟩
  rw [e] at hy
  exact ih (h.2 hy)
theorem OR {c:aK} (ok:aY c) (dW:0<adN c.ae.bv):
 ∃(i:Nat) (c':aK),i<adN c.ai.ce/\(c.ai.ce[i]!).1=Ev.num c.ae.bv[0]!/\kL c (Ev.num c.ae.bv[0]!)=adP (c',(c.ai.ce[i]!).2,0)/\nI c (Ev.num c.ae.bv[0]!)=adP c'/\
  aY ⟨Ev.at c.ae.bv[0]!,c'.ii,c'.ai,c'.ae,c'.io⟩/\c'.ii=c.ii/\c'.ai=mL c.ai i/\c.ci.1*(Ev.at c.ae.bv[0]!).2<=(Ev.at c.ae.bv[0]!).1*c.ci.2:=by
 have hm:=bn dW;obtain ⟨d,hd,hn⟩:=ok.Bc _ hm;obtain ⟨x,hx,h1,h2,h3⟩:=ok.Bd.io d hd;obtain ⟨w,hw,he⟩:=aO.1 h3;have hw0:w=0:=rc fun hx=>by refine ok.lD.nd 0 w (by omega) hw ?_;rw [he,<- hn,h1]
 subst hw0;obtain ⟨i,hi,rfl⟩:=aO.1 hx;have num:(c.ai.ce[i]!).1=Ev.num c.ae.bv[0]!:=by rw [<- hn,h1]
 have tm:Ev.at c.ae.bv[0]! =(bE c.ii.am (c.ai.ce[i]!).2 c.ci).1:=by rw [he]
 obtain ⟨c',r1,r2,r3,r4,r5,r6⟩:=Vu ok hi;have hb:=ok.known i hi;have pt:=fun (x:Int×Int) (hb:iX c.ii.am x)=>And.intro (di ok.ju hb.2).1 (di ok.ju hb.1).1
 have rt:=Cb (pt _ hb).1 (pt _ hb).2 ok.fM ok.lK h2;have ge:=VD (pt _ hb).1 (pt _ hb).2 ok.lK h2;rw [num] at r1 r2;refine ⟨i,c',hi,num,r1,r2,?_,r4,r6,by rw [tm];exact ge⟩;have kn:=yZ ok i hi;refine ⟨by rw [tm];exact rt.1,by rw [tm];exact rt.2,r3.ju,r3.sM,r3.lD,r3.GL,r3.hd,r3.known,?_⟩;refine aR.time (t:=c'.ci) (fun y hy=>?_) r3.Bd;have hy':y∈c.ai.ce:=by rw [r6] at hy;exact (sD ok.vz hi hy).1
 obtain ⟨j,hj,rfl⟩:=aO.1 hy';have hbj:=ok.known j hj;rw [r4,r5];refine GQ (pt _ hbj).1 (pt _ hbj).2 ok.lK (by rw [tm];exact rt.1) (by rw [tm];exact ge) (fun is=>?_);obtain ⟨d',hd',k1,k2⟩:=ok.Bd.has _ hy' is;obtain ⟨w,hw,he⟩:=aO.1 k2;have:=Dw ok.lD w hw;rw [he] at this;exact Int.not_lt.1 fun k=>this (.inl (sB.2 k))
theorem xS {p q:Pt} {t:Int×Int} (hp:eY p) (hq:eY q) (ht:lM t) (hr:bK t):kK p q t=adP (ae8 (leads p q t),if p.1=q.1 then 2 else 0)\/(p.1=q.1/\kK p q t=adP (ae7,2)):=by
 unfold kK;rw [vj ht,ls ⟨hp,hq,hr⟩]
 by_cases h:p.1=q.1
 · right;simp [h]
 left
 simp only [h,if_false,aj,uK hp hq ht];have:ae8 (0<OA p q t)=ae8 (leads p q t):=by simp only [Gj]
 simp [this]
end Go.Proofs.YtbgoiokedpjgbaaGreat
namespace Go.Proofs.YtbgoiokedpjgbaaGreat
theorem tF {α:Type} [BEq α] [LawfulBEq α]: ∀{a b:List α},a.Nodup->(∀x∈a,x∈b)->adN b<=adN a->a.Perm b
 | [],b,_,_,hl=>by rw [List.eq_nil_of_length_eq_zero (show (adN b)=0 by simpa using hl)]
 |x::a,b,hd,h,hl=>by
  rw [adC] at hd;have hx:=h x M2;have ih:=tF (a:=a) (b:=b.erase x) hd.2 (fun y hy=>by
   rw [List.mem_erase_of_ne (fun e=>hd.1 (by rw [<- e];exact hy))];exact h y (v6 _ hy)) (by
   rw [List.length_erase_of_mem hx];rw [If] at hl;omega)
  exact (List.Perm.cons x ih).trans (List.perm_cons_erase hx).symm
theorem Be {α β:Type} {f:α->β}: ∀{l:List α},l.Nodup->(∀x∈l,∀y∈l,f x=f y->x=y)->(l.map f).Nodup
 | [],_,_=>List.nodup_nil
 |x::l,h,hi=>by rw [adC] at h;rw [List.map_cons,adC];refine ⟨fun hm=>?_,Be h.2 fun y hy z hz=>hi y (v6 _ hy) z (v6 _ hz)⟩;obtain ⟨y,hy,e⟩:=acl.1 hm;have:=hi y (v6 _ hy) x M2 e;rw [this] at hy;exact h.1 hy
end Go.Proofs.YtbgoiokedpjgbaaGreat
namespace Go.Proofs.YtbgoiokedpjgbaaGreat
open Go.Vm Classical
theorem MI (l:List Int) (x:Int) (hl:(adN l)<=1000000):
 (∀k,k<adN l->l[k]! =x->(∀j,j<k->l[j]!≠x)->fK l x=adP (k:Int))/\((∀k,k<adN l->l[k]!≠x)->fK l x=adP (-1)):=by
 have k1:=iD (body:=jO) (fun i=>(l,x,((adN l):Int),(i:Int))) (adN l) (fun i=>l[i]! =x) (fun i=>(i:Int)) (e:= -1) (fun i hi=>by
  unfold jO;simp only [aE (show (i:Int)<((adN l):Int) by omega),lc,ax l i hi,aj,aV (show i<1000000000 by omega)];refine ⟨fun h=>?_,fun h=>?_⟩
  · rw [dp h.symm];rfl
  · rw [dR (fun k=>h k.symm)];rfl) (by
  unfold jO;simp only [aC (show¬((adN l):Int)<((adN l):Int) by omega),lm])
 exact ⟨fun k hk h1 h2=>k1.1 k hk h1 h2,fun h=>k1.2 h⟩
theorem ac7 {f:List Pt} (cL:bC f) {t:Int×Int} (kS:lM t) {x:Int×Int} (hb:iX f x):xk x ⟨f⟩ t=adP (ae8 (leads (gl f x.2) (gl f x.1) t)):=by obtain ⟨h1,h2⟩:=hb;obtain ⟨j,j1,j2,j3⟩:=xA cL h1;obtain ⟨k,k1,k2,k3⟩:=xA cL h2;unfold xk;simp only [j2,k2,aj,ax f j j1,ax f k k1,j3,k3,Gk (di cL h2).1 (di cL h1).1 kS]
def iY (f:List Pt):List Int:=f.map fun p=>p.1
theorem IS {f:List Pt} (h:gi f):(iY f).Nodup:=by
 refine Be ?_ ?_
 · exact hM.2 fun i j lL hj e=>by have:=eV h lL hj;rw [e] at this;omega
 intro x hx y hy e
 obtain ⟨i,hi,rfl⟩:=aO.1 hx;obtain ⟨j,hj,rfl⟩:=aO.1 hy;rw [xp h hi hj e]
theorem sE {f:List Pt} {id:Int}:id∈iY f↔gx f id:=by
 unfold iY gx;rw [acl];constructor
 · rintro ⟨p,hp,rfl⟩
   obtain ⟨i,hi,rfl⟩:=aO.1 hp;exact ⟨i,hi,rfl⟩
 rintro ⟨i,hi,rfl⟩
 exact ⟨f[i]!,bn hi,rfl⟩
theorem y5 {c:bF} (ok:eW c):(c.ce.map fun x=>x.2).Nodup:=by
 refine Be ?_ ?_
 · exact hM.2 fun i j lL hj e=>ok.nd i j lL hj (by rw [e])
 intro x hx y hy e
 obtain ⟨i,hi,rfl⟩:=aO.1 hx;obtain ⟨j,hj,rfl⟩:=aO.1 hy;rcases ad9 i j with k|k|k
 · exact absurd e (ok.nd i j k hj)
 · rw [k]
 exact absurd e.symm (ok.nd j i k hi)
theorem tG {l:List qX} {x:Int×Int}:rG l x↔x∈l.map fun y=>y.2:=by
 unfold rG;rw [acl];constructor
 · rintro ⟨i,hi,rfl⟩;exact ⟨l[i]!,bn hi,rfl⟩
 rintro ⟨y,hy,rfl⟩
 obtain ⟨i,hi,rfl⟩:=aO.1 hy;exact ⟨i,hi,rfl⟩
theorem Cq {α:Type} {p q:Prop} [Decidable p] [Decidable q] {a b:α} (h:p↔q):(if p then a else b)=if q then a else b:=by
 by_cases hp:p
 · rw [ls hp,ls (h.1 hp)]
 rw [lw hp,lw (fun k=>hp (h.2 k))]
theorem ac8 {c:aK} (ok:aY c) (es:List (Int×Int)) (kn: ∀x∈es,iX c.ii.am x):
 xl c es=adP (ae8 (adN c.ai.ce=adN es/\ ∀i,i<adN es->rG c.ai.ce es[i]!/\leads (gl c.ii.am (es[i]!).2) (gl c.ii.am (es[i]!).1) c.ci)):=by
 have bd:=ok.bd;unfold xl;simp only [aA]
 by_cases h0:(adN c.ai.ce)=adN es
 case neg=>rw [cS (by omega),lc,aC (fun h=>h0 h.1)]
 rw [bB (by omega),lm];have key:=nK (body:=qj) (fun i=>(es,(i:Int),c.ci.1,c.ci.2,c.ii.am,c.ai.aN,c.ai.ce,c.ae.af.aB,c.ae.af.be,c.ae.af.bi,c.ae.bv,c.ae.ar,c.io)) (adN es)
  (fun i=>rG c.ai.ce es[i]!/\leads (gl c.ii.am (es[i]!).2) (gl c.ii.am (es[i]!).1) c.ci) (r:=ae7) (e:=adQ) (fun i hi=>by
  have ME:bF.mk c.ai.aN c.ai.ce=c.ai:=rfl;unfold qj;simp only [aA,aE (show (i:Int)<((adN es):Int) by omega),lc,ax es i hi,aj,ME,xy c.ai es[i]! (by omega),ac7 ok.ju (t:=(c.ci.1,c.ci.2)) ok.fM (kn _ (bn hi)),aV (show i<1000000000 by omega)]
  by_cases h1:rG c.ai.ce es[i]!
  · rw [aE h1]
    by_cases h2:leads (gl c.ii.am (es[i]!).2) (gl c.ii.am (es[i]!).1) c.ci
    · rw [show ae8 (leads (gl c.ii.am (es[i]!).2) (gl c.ii.am (es[i]!).1) (c.ci.1,c.ci.2))=adQ from aE h2]
      exact ⟨fun h=>absurd ⟨h1,h2⟩ h,fun _=>rfl⟩
    rw [show ae8 (leads (gl c.ii.am (es[i]!).2) (gl c.ii.am (es[i]!).1) (c.ci.1,c.ci.2))=ae7 from aC h2]
    exact ⟨fun _=>rfl,fun h=>absurd h.2 h2⟩
  · rw [aC h1]
    exact ⟨fun _=>rfl,fun h=>absurd h.1 h1⟩) (by
  unfold qj;simp only [aA,aC (show¬((adN es):Int)<((adN es):Int) by omega),lm])
 refine (show _=_ from key).trans ?_
 by_cases h2: ∀i,i<adN es->rG c.ai.ce es[i]!/\leads (gl c.ii.am (es[i]!).2) (gl c.ii.am (es[i]!).1) c.ci
 · rw [ls h2,aE ⟨h0,h2⟩]
 rw [lw h2,aC (fun h=>h2 h.2)]
end Go.Proofs.YtbgoiokedpjgbaaGreat
