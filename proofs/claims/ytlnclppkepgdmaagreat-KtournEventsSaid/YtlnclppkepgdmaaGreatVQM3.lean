/- Plain laws (3). -/
import Derived.Test.YtlnclppkepgdmaaGreatVQM2
import Derived.Test.YtlnclppkepgdmaaGreatVQTB
open Bool renaming not_true->pp,not_false->ut,and_self->ac6,true->acw,false->acy
open List renaming length_append->rc,mem_cons_of_mem->v6,length_drop->ww,length_cons->EQ,mem_append->If,mem_cons_self->IR,length_singleton->M2,length_nil->PP,mem_map->UV,drop_zero->ab0,drop_length->acg,length_set->aci,nodup_cons->acj,mem_cons->acs,length->acu
open Classical renaming byContradiction->sp,not_not->Do
open Int renaming mul_right_comm->AC,mul_le_mul_of_nonneg_right->NE,le_of_mul_le_mul_right->abA,le_refl->ac2,mul_assoc->acf,le_trans->ach,mul_comm->aco,natAbs_mul->acr
open Nat renaming lt_trichotomy->abZ,le_refl->acl,dvd_mul_left->acp,not_lt_zero->acq
open Prod renaming ext->acn
open Option renaming some->acv
open Decidable renaming decide->acA
namespace Go.Proofs.YtlnclppkepgdmaaGreat
open Go.Vm Classical
theorem Mt (c:aI) (n:Int) (hl:(acu c.io)<=1000000):(∀k,k<acu c.io->(c.io[k]!).1=n->(∀j,j<k->(c.io[j]!).1≠n)->qM c n=acv (k:Int))/\((∀k,k<acu c.io->(c.io[k]!).1≠n)->qM c n=acv (-1)):=by
 unfold qM;refine jZ (body:=oH) (fun i=>(n,(i:Int),c.ci.1,c.ci.2,c.ii.am,c.ai.aL,c.ai.ce,c.ae.af.az,c.ae.af.be,c.ae.af.bi,c.ae.bv,c.ae.aj,c.io)) (acu c.io) (fun i=>(c.io[i]!).1=n) (fun i=>(i:Int)) (fun i hi=>?_) ?_
 · have e1:acA ((i:Int)<((acu c.io):Int))=acw:=aF (by omega)
   unfold oH;simp only [ay,e1,lc,aq c.io i hi,ao,aQ (show i<1000000000 by omega)];constructor
   · intro h;rw [dy h];rfl
   intro h;rw [dE h];rfl
 unfold oH
 have:acA (((acu c.io):Int)<((acu c.io):Int))=acy:=aA (by omega);simp only [ay,this,lm]
theorem IV {ds:List qP} (hu:Up ds) (hl:(acu ds)<=1000000) (n:Int):(∀k,k<acu ds->(ds[k]!).1=n->lJ ds n=acv ((k:Int),acw))/\((∀k,k<acu ds->(ds[k]!).1≠n)-> ∃m:Nat,lJ ds n=acv ((m:Int),acy)):=by
 have bs:=zJ ds n hl (sd.1 hu);unfold lJ;rw [ai2];constructor
 · intro k hk he;rw [bs.1 k hk he];rfl
 intro h
 obtain ⟨m,_,_,_,e⟩:=bs.2 h;exact ⟨m,by rw [e];rfl⟩
theorem aU.bd {c:aI} (ok:aU c):(acu c.io)<=200/\acu c.ii.am<=64/\acu c.ai.ce<=200:=by have:=ok.hd;have:=ok.ky.bd;have:=ok.kQ.1;have:=ok.s8.len;omega
theorem jq {c:aI} (ok:aU c):pB c=acv c:=by have bd:=ok.bd;unfold pB w5 w8;simp only [bk (show (acu c.ii.am)<=1048576 by omega),bk (show (acu c.ai.ce)<=1048576 by omega),bk (show (acu c.io)<=1048576 by omega),ao,qi ok.ky]
theorem fV {c:aI} (ok:aU c):gE c=acv c:=by
 have bd:=ok.bd;have ab:=ok.ky.bd;have hl:=ok.ky.so.fl;have hn:=ok.ky.so.n2;have hu:=ok.ky.so.ul;unfold gE;simp only [bk (show (acu c.ii.am)<=1048576 by omega),bk (show (acu c.ai.ce)<=1048576 by omega),bk (show (acu c.io)<=1048576 by omega),bk (show (acu c.ae.bv)<=1048576 by omega),bk (show (acu c.ae.aj)<=1048576 by omega),
  bk (show (acu c.ae.af.az)<=1048576 by omega),bk (show (acu c.ae.af.be)<=1048576 by omega),bk (show (acu c.ae.af.bi)<=1048576 by omega),ao]
theorem sf {cs:List qP} {i:Nat} (hu:Up cs) (hi:i<acu cs) {x:qP} (hx:x∈cs.eraseIdx i):x∈cs/\x.1≠(cs[i]!).1:=by
 rw [s6,If] at hx;have ub:=sd.1 hu;rcases hx with hx|hx
 · obtain ⟨j,h1,h2,rfl⟩:=bS.1 hx
   have:=ub j i h1 hi;exact ⟨aV h2,by omega⟩
 obtain ⟨j,hj,rfl⟩:=aP.1 hx
 rw [ww] at hj;rw [pF];have:=ub i (i+1+j) (by omega) (by omega);exact ⟨aV (by omega),by omega⟩
theorem y5 {c:aI} (ok:aU c) (i:Nat) (hi:i<acu c.ai.ce): ∀j,j<(mi c.ai i).ce.length->ig c.ii.am ((mi c.ai i).ce[j]!).2:=by intro j hj;have hm:(mi c.ai i).ce[j]!∈c.ai.ce:=(sf ok.tc hi (aV hj)).1;obtain ⟨m,hm1,SD⟩:=aP.1 hm;rw [<- SD];exact ok.known m hm1
theorem Vb {c:aI} (ok:aU c) {i:Nat} (hi:i<acu c.ai.ce):
 ∃c':aI,fK c (c.ai.ce[i]!).1=acv (c',(c.ai.ce[i]!).2,0)/\pC c (c.ai.ce[i]!).1=acv c'/\aU c'/\c'.ii=c.ii/\c'.ci=c.ci/\c'.ai=mi c.ai i:=by
 have bd:=ok.bd;have rm:=G0 ok.s8 hi (n:=(c.ai.ce[i]!).1) rfl;have wo:=DB ok.s8 hi (n:=(c.ai.ce[i]!).1) rfl;have fe:=ok.Ar.erase (i:=i) hi;have pd:=IV ok.G3 (by omega) (c.ai.ce[i]!).1;have da:=Mt c (c.ai.ce[i]!).1 (by omega);cases hf:(bo c.ii.am (c.ai.ce[i]!).2 c.ci).2 with
 |false=>
  have no: ∀k,k<acu c.io->(c.io[k]!).1≠(c.ai.ce[i]!).1:=by
   intro k hk he;obtain ⟨x,hx,h1,h2,_⟩:=ok.Ar.io _ (aV hk);obtain ⟨j,hj,rfl⟩:=aP.1 hx;have ub:=sd.1 ok.tc;have:j=i:=by
    rcases abZ j i with h|h|h
    · have:=ub j i h hi;omega
    · exact h
    have:=ub i j h hj;omega
   rw [this,hf] at h2;cases h2
  refine ⟨⟨c.ci,c.ii,mi c.ai i,c.ae,c.io⟩,?_,?_,?_,rfl,rfl,rfl⟩
  · unfold fK
    obtain ⟨m,e⟩:=pd.2 no;simp only [rm,ao,show ((0:Int) !=0)=acy from rfl,lm,fV ok,e]
  · unfold pC
    simp only [jq ok,ao,wo,da.2 no,aA (show¬(0:Int)<= -1 by omega),lm]
  exact ⟨ok.iR,ok.fQ,ok.kQ,GZ ok.s8 hi,ok.ky,ok.G1,ok.hd,y5 ok i hi,fe.1 hf⟩
 |true=>
  obtain ⟨k,hk,k1,k2,k3⟩:=fe.2 hf;obtain ⟨w,hw,gL⟩:=aP.1 k2;have hh:(c.ae.bv[w]!).2.2.2=(c.io[k]!).2:=by rw [gL]
  have ub:=sd.1 ok.G3;have before: ∀j,j<k->(c.io[j]!).1≠(c.ai.ce[i]!).1:=fun j hj he=>by have:=ub j k hj hk;omega
  have dl:(c.io.eraseIdx k).length=acu c.io-1:=P' hk;obtain ⟨L,d1,d2⟩:=Ed c.io k hk;refine ⟨⟨c.ci,c.ii,mi c.ai i,dZ c.ae w,c.io.eraseIdx k⟩,?_,?_,?_,rfl,rfl,rfl⟩
  · unfold fK
    simp only [rm,ao,show ((0:Int) !=0)=acy from rfl,lm,fV ok,pd.1 k hk k1,lc,aq c.io k hk,vM ok.ky hw ok.ky.fit hh,aQ (show k<1000000000 by omega),Oy,d1,d2]
  · unfold pC
    have s1:fG c.io 0 (k:Int)=acv (c.io.take k):=iU c.io k (by omega);have s2:fG c.io ((k+1:Nat):Int) ((acu c.io):Int)=acv (c.io.drop (k+1)):=by unfold fG;rw [ls ⟨by omega,by omega,by omega⟩];simp only [Int.toNat_natCast];rw [List.take_of_length_le (by rw [ww];exact acl _)]
    have tl:(c.io.take k).length=k:=by rw [List.length_take];omega
    have dl2:(c.io.drop (k+1)).length=acu c.io- (k+1):=ww;simp only [jq ok,ao,wo,da.1 k hk k1 before,aF (show (0:Int)<=(k:Int) by omega),lc,aq c.io k hk,vN ok.ky hw hh,s1,bk (show (c.io.take k).length<=1048576 by omega),aQ (show k<1000000000 by omega),ay,s2,
     dO (show (c.io.take k).length+(c.io.drop (k+1)).length<=1048576 by omega),s6]
    cases hem:(c.io.drop (k+1)).isEmpty with
    |true=>rw [List.isEmpty_iff] at hem;rw [hem,List.append_nil];rfl
    |false=>rfl
  have rem:=Dy ok.ky hw
  have RJ:=GV ok.ky hw;have cm:(dZ c.ae w).bv.length=acu c.ae.bv-1:=by
   have h1:=rem.hl;have h2:=ok.ky.hl;have h3:(dZ c.ae w).af=fh c.ae.af (c.ae.bv[w]!).2.2.2:=by unfold dZ;split<;>rfl
   rw [h3] at h1;change _+(c.ae.af.bi++[_]).length=(acu c.ae.af.az) at h1;rw [rc] at h1;simp only [EQ,PP] at h1;omega
  have ai4:(dZ c.ae w).aj.length=200:=by
   have h1:=rem.wl;have h3:(dZ c.ae w).af=fh c.ae.af (c.ae.bv[w]!).2.2.2:=by unfold dZ;split<;>rfl
   rw [h3] at h1;change _=(acu c.ae.af.az) at h1;rw [h1,<- ok.ky.wl,ok.G1]
  refine ⟨ok.iR,ok.fQ,ok.kQ,GZ ok.s8 hi,rem,ai4,?_,y5 ok i hi,?_⟩
  · show (dZ c.ae w).bv.length=(c.io.eraseIdx k).length
    rw [cm,dl,ok.hd]
  refine k3.mono fun x hx e he hm=>(RJ e).2 ⟨hm,fun h=>?_⟩
  have:=(sf ok.tc hi hx).2;rw [h,gL] at he;exact this he.symm
theorem ED {c:aI} (ok:aU c) {i:Nat} (_hi:i<acu c.ai.ce) {c':aI} (h:fK c (c.ai.ce[i]!).1=acv (c',(c.ai.ce[i]!).2,0)):rT c (c.ai.ce[i]!).1=acv (c',0):=by unfold rT;rw [jQ ok.fit,ls ok];simp only [ao,show ((0:Int) !=0)=acy from rfl,lm,h]
abbrev eu:aI:=⟨(0,0),⟨[]⟩,⟨0,[]⟩,⟨⟨[],[],[]⟩,[],[]⟩,[]⟩
theorem Kb {l:List Pt} (ok:bM l) {id:Int} (h:mA l id): ¬(bW l id).1<0:=by obtain ⟨h1,_⟩:=cU ok h;have:=h1.1;omega
theorem abM {c:aI} (ok:aU c) {x:Int×Int} (hx:eX x) (hb:ig c.ii.am x) (hn: ¬rZ c.ai.ce x):
 (hG c x=acv (eu,0,18)/\lN c x=acv (eu,0,18)/\(Cq c.ai\/ ¬xI c.ae.af))\/
 ∃c':aI,hG c x=acv (c',c.ai.aL,0)/\lN c x=acv (c',c.ai.aL,0)/\aU c'/\c'.ii=c.ii/\c'.ci=c.ci/\c'.ai=oL c.ai x/\(c'.ae.af=c.ae.af\/c'.ae.af=gd c.ae.af):=by
 have bd:=ok.bd;have n0:=ok.s8.n0;have n1:=ok.s8.n1;have fit:=ok.fit;have ad:=Mo ok.s8 hx;have rd:=J' ok.s8 hx;rw [lw hn] at ad rd;have hc:fB c=acv 0:=by rw [jQ fit,ls ok]
 have p1:=lR ok.kQ x.1;have p2:=lR ok.kQ x.2;have q1:=Kb ok.kQ hb.1;have q2:=Kb ok.kQ hb.2;have wh:=uV ok.kQ hx ok.iR ok.fQ;rw [ls hb] at wh;have rw':=uW ok.kQ ok.fQ hb
 by_cases hf:Cq c.ai
 · rw [ls hf] at ad rd
   left;refine ⟨?_,?_,.inl hf⟩
   · unfold hG dh
     simp only [hc,ao,show ((0:Int) !=0)=acy from rfl,lm,ad,show ((18:Int)==8)=acy from rfl,p1,p2,aA q1,aA q2,show ((18:Int) !=0)=acw from rfl,lc]
   unfold lN
   simp only [rd,ao,show ((18:Int) !=0)=acw from rfl,lc]
 rw [lw hf] at ad rd;have cok:=OA ok.s8 hx hn hf;have Vc: ∀j,j<(oL c.ai x).ce.length->ig c.ii.am ((oL c.ai x).ce[j]!).2:=by
  intro j hj;rw [zK] at hj;rw [s7]
  by_cases h:j<acu c.ai.ce
  · rw [ls h];exact ok.known j h
  rw [lw h,ls (by omega)];exact hb
 have fresh: ∀e∈c.ae.bv,Ev.num e≠c.ai.aL:=by intro e he ec;obtain ⟨d,hd,h1⟩:=ok.zU e he;obtain ⟨y,hy,h2,_⟩:=ok.Ar.io d hd;obtain ⟨j,hj,rfl⟩:=aP.1 hy;have:=(ok.s8.nr j hj).2;omega
 have sn:=ok.Ar.snoc (x:=(c.ai.aL,x));cases hw:(bo c.ii.am x c.ci).2 with
 |false=>
  right;refine ⟨⟨c.ci,c.ii,oL c.ai x,c.ae,c.io⟩,?_,?_,⟨ok.iR,ok.fQ,ok.kQ,cok,ok.ky,ok.G1,ok.hd,Vc,sn.1 hw⟩,rfl,rfl,rfl,.inl rfl⟩
  · unfold hG dh
    simp only [hc,ao,show ((0:Int) !=0)=acy from rfl,lm,ad,show ((0:Int)==8)=acy from rfl,p1,p2,aA q1,aA q2,fV ok,wh,hw]
  unfold lN
  simp only [rd,ao,show ((0:Int) !=0)=acy from rfl,lm,jq ok,rw',hw,ut,lc]
 |true=>
  obtain ⟨t1,t2⟩:=Cj (cU ok.kQ hb.2).1 (cU ok.kQ hb.1).1 ok.fQ ok.iR hw
  by_cases op:xI c.ae.af
  · right
    have pu:=vJ ok.ky op ok.ky.fit (t:=(bo c.ii.am x c.ci).1) (n:=c.ai.aL) t1 t2 n0 n1 fresh;have rp:=xJ ok.ky op (t:=(bo c.ii.am x c.ci).1) (n:=c.ai.aL) t1 t2 n0 n1;have pok:=P8 ok.ky op (t:=(bo c.ii.am x c.ci).1) (n:=c.ai.aL) t1 t2 n0 n1 fresh;have RK:=Mj ok.ky op (t:=(bo c.ii.am x c.ci).1) (n:=c.ai.aL) t1;have ai6:=Co ok.ky op (t:=(bo c.ii.am x c.ci).1) (n:=c.ai.aL) t1;have ap: ∀h:Int×Int,bK c.io [(c.ai.aL,h)]=acv (c.io++[(c.ai.aL,h)]):=fun h=>dO (by simp;omega)
    have ai4:(kv c.ae (bo c.ii.am x c.ci).1 c.ai.aL).aj.length=200:=by have:=pok.wl;change _=(c.ae.af.az.set _ _).length at this;rw [aci] at this;rw [this,<- ok.ky.wl,ok.G1]
    refine ⟨⟨c.ci,c.ii,oL c.ai x,kv c.ae (bo c.ii.am x c.ci).1 c.ai.aL,c.io++[(c.ai.aL,kq c.ae.af)]⟩,?_,?_,⟨ok.iR,ok.fQ,ok.kQ,cok,pok,ai4,?_,Vc,?_⟩,rfl,rfl,rfl,.inr rfl⟩
    · unfold hG dh
      simp only [hc,ao,show ((0:Int) !=0)=acy from rfl,lm,ad,show ((0:Int)==8)=acy from rfl,p1,p2,aA q1,aA q2,fV ok,wh,hw,lc,pu,ap]
    · unfold lN
      simp only [rd,ao,show ((0:Int) !=0)=acy from rfl,lm,jq ok,rw',hw,pp,qh ok.ky.so,aF op,rp,ap]
    · show (kv c.ae (bo c.ii.am x c.ci).1 c.ai.aL).bv.length=(c.io++[_]).length
      rw [ai6,rc,ok.hd];rfl
    have fm:aR c.ii.am c.ci (kv c.ae (bo c.ii.am x c.ci).1 c.ai.aL).bv c.ai.ce c.io:=ok.Ar.mono fun y hy e he hm=>(RK e).2 (.inr hm)
    exact (fm.snoc (x:=(c.ai.aL,x))).2 _ hw rfl ((RK _).2 (.inl rfl))
  left
  have pu:=vK ok.ky op ok.ky.fit (t:=(bo c.ii.am x c.ci).1) (n:=c.ai.aL) t1 t2 n0 n1 fresh;refine ⟨?_,?_,.inr op⟩
  · unfold hG dh
    simp only [hc,ao,show ((0:Int) !=0)=acy from rfl,lm,ad,show ((0:Int)==8)=acy from rfl,p1,p2,aA q1,aA q2,fV ok,wh,hw,lc,pu,show ((18:Int) !=0)=acw from rfl]
  unfold lN
  simp only [rd,ao,show ((0:Int) !=0)=acy from rfl,lm,jq ok,rw',hw,pp,qh ok.ky.so,aA op,ut,lc]
theorem Up.inj {cs:List qP} (h:Up cs) {x y:qP} (hx:x∈cs) (hy:y∈cs) (he:x.1=y.1):x=y:=by
 obtain ⟨i,hi,rfl⟩:=aP.1 hx;obtain ⟨j,hj,rfl⟩:=aP.1 hy;have ub:=sd.1 h;rcases abZ i j with h1|h1|h1
 · have:=ub i j h1 hj;omega
 · rw [h1]
 have:=ub j i h1 hi;omega
structure G4 (c:aI) (f:List Pt) (i k:Nat) (a:aK) (ds:List qP):Prop where
 ok:ez a
 w2:(acu a.aj)=200
 new:aR f c.ci a.bv (c.ai.ce.take i) ds
 old:aR c.ii.am c.ci a.bv (c.ai.ce.drop i) (c.io.drop k)
 kl:k<=acu c.io
 cnt:(acu a.bv)=acu ds+(acu c.io-k)
theorem ai7 {a:aK} (ok:ez a) {w:Nat} (hw:w<acu a.bv):(dZ a w).bv.length=acu a.bv-1/\(dZ a w).aj.length=(acu a.aj):=by
 have rem:=Dy ok hw;have h3:(dZ a w).af=fh a.af (a.bv[w]!).2.2.2:=by unfold dZ;split<;>rfl
 have h1:=rem.hl;have h2:=ok.hl;have h4:=rem.wl;rw [h3] at h1 h4;change _+(a.af.bi++[_]).length=(acu a.af.az) at h1;change _=(acu a.af.az) at h4;rw [rc] at h1;simp only [EQ,PP] at h1;exact ⟨by omega,by rw [h4,ok.wl]⟩
theorem abN {a:aK} {t:Int×Int} {n:Int} (ok:ez a) (pok:ez (kv a t n)):(kv a t n).aj.length=(acu a.aj):=by have:=pok.wl;change _=(a.af.az.set _ _).length at this;rw [aci] at this;rw [this,ok.wl]
section
variable {c : aI} (ok : aU c) {f : List Pt} (gx : bM f) (kn : ∀ i, i < (acu c.ai.ce) -> ig f (c.ai.ce[i]!).2)
include ok
theorem Cs {i:Nat} {x:qP} (hx:x∈c.ai.ce.take i) (hi:i<acu c.ai.ce):x.1≠(c.ai.ce[i]!).1:=by obtain ⟨j,h1,h2,rfl⟩:=bS.1 hx;have:=ok.s8.up j i h1 hi;omega
theorem Ct {i:Nat} {x:qP} (hx:x∈c.ai.ce.drop (i+1)) (hi:i<acu c.ai.ce):x.1≠(c.ai.ce[i]!).1:=by obtain ⟨j,h1,rfl⟩:=aP.1 hx;rw [ww] at h1;rw [pF];have:=ok.s8.up i (i+1+j) (by omega) (by omega);omega
theorem RM {i k:Nat} {a:aK} {ds:List qP} (inv:G4 c f i k a ds) (hi:i<acu c.ai.ce) (was:(bo c.ii.am (c.ai.ce[i]!).2 c.ci).2=acy): ∀e∈a.bv,Ev.num e≠(c.ai.ce[i]!).1:=by
 have u1:Up (c.ai.ce.take i):=ok.tc.sublist (List.take_sublist _ _);have u2:Up (c.ai.ce.drop i):=ok.tc.sublist (List.drop_sublist _ _);have d1:=inv.new.up u1;have d2:=inv.old.up u2;have amA: ∀x∈ds,∀y∈c.io.drop k,x.1<y.1:=by intro x hx y hy;obtain ⟨p,hp,h1,_⟩:=inv.new.io x hx;obtain ⟨q,hq,h2,_⟩:=inv.old.io y hy;obtain ⟨m,m1,m2,rfl⟩:=bS.1 hp;obtain ⟨n,n1,rfl⟩:=aP.1 hq;rw [ww] at n1;rw [pF] at h2;have:=ok.s8.up m (i+n) (by omega) (by omega);omega
 have nd:((ds++c.io.drop k).map fun x=>x.1).Nodup:=Ms (by show List.Pairwise _ _;rw [List.pairwise_append];exact ⟨d1,d2,amA⟩);have only:=Ee (H:=a.bv) nd (by rw [List.length_map,rc,ww,inv.cnt];exact acl _) (fun n hn=>by
  obtain ⟨x,hx,rfl⟩:=UV.1 hn;rcases If.1 hx with hx|hx
  · obtain ⟨p,hp,h1,h2,h3⟩:=inv.new.io x hx
    exact ⟨_,h3,h1.symm⟩
  obtain ⟨p,hp,h1,h2,h3⟩:=inv.old.io x hx
  exact ⟨_,h3,h1.symm⟩)
 intro e he ec;obtain ⟨x,hx,h1⟩:=UV.1 (only e he);rcases If.1 hx with hx|hx
 · obtain ⟨p,hp,h2,_⟩:=inv.new.io x hx
   exact Cs ok hp hi (by rw [<- h2,h1,ec])
 obtain ⟨p,hp,h2,h3,_⟩:=inv.old.io x hx
 have hp':p∈c.ai.ce:=List.mem_of_mem_drop hp;have:=ok.tc.inj hp' (aV hi) (by rw [<- h2,h1,ec]);rw [this,was] at h3;cases h3
def RN (c:aI) (f:List Pt) (i:Nat) (a:aK) (ds:List qP):=
 (c.ai.ce,((acu c.ai.ce):Int),(i:Int),c.ci.1,c.ci.2,c.ii.am,c.ai.aL,c.ai.ce,c.ae.af.az,c.ae.af.be,c.ae.af.bi,c.ae.bv,c.ae.aj,c.io,f,(0:Int),(0:Int),(0:Int),c.ci.1,c.ci.2,c.ai.aL,c.ai.ce,a.af.az,a.af.be,a.af.bi,a.bv,a.aj,f,ds)
def RO (c:aI) (f:List Pt) (i:Nat) (a:aK) (ds:List qP):=
 ((i:Int),c.ci.1,c.ci.2,c.ii.am,c.ai.aL,c.ai.ce,c.ae.af.az,c.ae.af.be,c.ae.af.bi,c.ae.bv,c.ae.aj,c.io,f,(0:Int),(0:Int),(0:Int),c.ci.1,c.ci.2,f,c.ai.aL,c.ai.ce,a.af.az,a.af.be,a.af.bi,a.bv,a.aj,ds)
include gx kn
theorem Vd {i k:Nat} {a:aK} {ds:List qP} (inv:G4 c f i k a ds) (hi:i<acu c.ai.ce) (VY:(acu ds)<=i):
 (dp (RN c f i a ds)=acv (.done (.done (eu,18)))/\cB (RO c f i a ds)=acv (.done (eu,18)))\/
 ∃k' a' yq,dp (RN c f i a ds)=acv (.next (RN c f (i+1) a' yq))/\cB (RO c f i a ds)=acv (.next (RO c f (i+1) a' yq))/\G4 c f (i+1) k' a' yq/\acu yq<=i+1:=by
 have bd:=ok.bd;have e1:acA ((i:Int)<((acu c.ai.ce):Int))=acw:=aF (by omega);have sc:=aQ (show i<1000000000 by omega);have cg:=aq c.ai.ce i hi;have hb:=kn i hi;have wn:=uV gx (x:=(c.ai.ce[i]!).2) (t:=(c.ci.1,c.ci.2)) (ok.s8.cv i hi) ok.iR ok.fQ;rw [ls hb] at wn;have wr:=uW gx (x:=(c.ai.ce[i]!).2) (t:=(c.ci.1,c.ci.2)) ok.fQ hb;have pd:=IV ok.G3 (by omega) (c.ai.ce[i]!).1;have da:=Mt c (c.ai.ce[i]!).1 (by omega);have dr:=ss hi;have tk:=gb hi;have old:=inv.old;rw [dr] at old;have Mu:aK.mk (aS.mk a.af.az a.af.be a.af.bi) a.bv a.aj=a:=rfl
 have te:(aI.mk (c.ci.1,c.ci.2) (Field.mk c.ii.am) (bm.mk c.ai.aL c.ai.ce) (aK.mk (aS.mk c.ae.af.az c.ae.af.be c.ae.af.bi) c.ae.bv c.ae.aj) c.io)=c:=rfl;have other: ∀x∈c.ai.ce.take i,x.1≠(c.ai.ce[i]!).1:=fun x hx=>Cs ok hx hi
 have Ve: ∀x∈c.ai.ce.drop (i+1),x.1≠(c.ai.ce[i]!).1:=fun x hx=>Ct ok hx hi
 cases abO:(bo c.ii.am (c.ai.ce[i]!).2 c.ci).2 with
 |true=>
  obtain ⟨d,yq,We,hd2,hd3,hd4⟩:=(aR.ij abO).1 old;have hk:k<(acu c.io):=by
   refine sp fun h=>?_
   rw [List.drop_eq_nil_of_le (by omega)] at We;cases We
  have dk:=ss hk;rw [dk] at We;injection We with hd5 hd6;subst hd5 hd6;obtain ⟨w,hw,gL⟩:=aP.1 hd3;have hh:(a.bv[w]!).2.2.2=(c.io[k]!).2:=by rw [gL]
  have amB:Ev.num a.bv[w]! =(c.ai.ce[i]!).1:=by rw [gL]
  have before: ∀j,j<k->(c.io[j]!).1≠(c.ai.ce[i]!).1:=fun j hj he=>by have:=sd.1 ok.G3 j k hj hk;omega
  have pl:=pd.1 k hk hd2;have dq:=da.1 k hk hd2 before;have gk:=aq c.io k hk;have k0:acA ((0:Int)<=(k:Int))=acw:=aF (by omega);have ap:bK ds [c.io[k]!]=acv (ds++[c.io[k]!]):=dO (by simp;omega);cases Mv:(bo f (c.ai.ce[i]!).2 c.ci).2 with
  |true=>
   right;have tt:aX (bo f (c.ai.ce[i]!).2 c.ci).1/\jf (bo f (c.ai.ce[i]!).2 c.ci).1:=Cj (cU gx hb.2).1 (cU gx hb.1).1 ok.fQ ok.iR Mv;obtain ⟨t1,t2⟩:=tt;have re:=EC inv.ok inv.ok.fit (t:=(bo f (c.ai.ce[i]!).2 c.ci).1) hw hh t1 t2;have rr:=Dx inv.ok (t:=(bo f (c.ai.ce[i]!).2 c.ci).1) hw hh t1 t2;have rok:=U6 inv.ok hw t1 t2;have RJ:=RI inv.ok hw t1;have Vf:=Dw inv.ok hw t1;have stay: ∀(cs:List qP),(∀x∈cs,x.1≠(c.ai.ce[i]!).1)-> ∀x∈cs,∀e:Ev,e.num=x.1->e∈a.bv->e∈(jA a w (bo f (c.ai.ce[i]!).2 c.ci).1).bv:=by
    intro cs rj x hx e he hm;refine (RJ e).2 (.inr ⟨hm,fun h=>rj x hx ?_⟩);rw [<- he,h,amB]
   refine ⟨k+1,jA a w (bo f (c.ai.ce[i]!).2 c.ci).1,ds++[c.io[k]!],?_,?_,⟨rok,by rw [Vf.2];exact inv.w2,?_,?_,by omega,?_⟩,by simp;omega⟩
   · unfold dp RN
     simp only [e1,lc,cg,ao,wn,pl,Mv,gk,Mu,re,ap,show ((0:Int) !=0)=acy from rfl,lm,sc]
   · unfold cB RO
     simp only [ay,e1,lc,cg,ao,te,dq,wr,Mv,k0,gk,Mu,rr,ap,pp,lm,sc]
   · rw [tk]
     exact ((inv.new.mono (stay _ other)).snoc (x:=c.ai.ce[i]!)).2 _ Mv hd2 ((RJ _).2 (.inl (by show _=((bo f (c.ai.ce[i]!).2 c.ci).1.1,(bo f (c.ai.ce[i]!).2 c.ci).1.2,(a.bv[w]!).2.2);rw [gL])))
   · exact hd4.mono (stay _ Ve)
   rw [Vf.1,inv.cnt,rc]
   simp only [EQ,PP];omega
  |false=>
   right;have rv:=vM inv.ok hw inv.ok.fit hh;have rr:=vN inv.ok hw hh;have rok:=Dy inv.ok hw;have RJ:=GV inv.ok hw;have Vf:=ai7 inv.ok hw;have stay: ∀(cs:List qP),(∀x∈cs,x.1≠(c.ai.ce[i]!).1)-> ∀x∈cs,∀e:Ev,e.num=x.1->e∈a.bv->e∈(dZ a w).bv:=by intro cs rj x hx e he hm;refine (RJ e).2 ⟨hm,fun h=>rj x hx ?_⟩;rw [<- he,h,amB]
   refine ⟨k+1,dZ a w,ds,?_,?_,⟨rok,by rw [Vf.2];exact inv.w2,?_,hd4.mono (stay _ Ve),by omega,?_⟩,by omega⟩
   · unfold dp RN
     simp only [e1,lc,cg,ao,wn,pl,Mv,gk,Mu,rv,show ((0:Int) !=0)=acy from rfl,lm,sc]
   · unfold cB RO
     simp only [ay,e1,lc,cg,ao,te,dq,wr,Mv,k0,gk,Mu,rr,ut,lm,sc]
   · rw [tk]
     exact ((inv.new.mono (stay _ other)).snoc (x:=c.ai.ce[i]!)).1 Mv
   have:=inv.cnt
   rw [Vf.1];omega
 |false=>
  have Ar:=(aR.fM abO).1 old;have no: ∀j,j<acu c.io->(c.io[j]!).1≠(c.ai.ce[i]!).1:=by intro j hj he;obtain ⟨x,hx,h1,h2,_⟩:=ok.Ar.io _ (aV hj);have:=ok.tc.inj hx (aV hi) (by rw [<- h1,he]);rw [this,abO] at h2;cases h2
  obtain ⟨m,pl⟩:=pd.2 no;have dq:=da.2 no;have k0:acA ((0:Int)<= -1)=acy:=aA (by omega);cases Mv:(bo f (c.ai.ce[i]!).2 c.ci).2 with
  |true=>
   have tt:aX (bo f (c.ai.ce[i]!).2 c.ci).1/\jf (bo f (c.ai.ce[i]!).2 c.ci).1:=Cj (cU gx hb.2).1 (cU gx hb.1).1 ok.fQ ok.iR Mv;obtain ⟨t1,t2⟩:=tt;have n0:=(ok.s8.nr i hi).1;have n1:(c.ai.ce[i]!).1<=1000000:=by have:=(ok.s8.nr i hi).2;have:=ok.s8.n1;omega
   have fresh:=RM ok inv hi abO
   by_cases op:xI a.af
   · right
     have pu:=vJ inv.ok op inv.ok.fit (t:=(bo f (c.ai.ce[i]!).2 c.ci).1) (n:=(c.ai.ce[i]!).1) t1 t2 n0 n1 fresh;have rp:=xJ inv.ok op (t:=(bo f (c.ai.ce[i]!).2 c.ci).1) (n:=(c.ai.ce[i]!).1) t1 t2 n0 n1;have pok:=P8 inv.ok op (t:=(bo f (c.ai.ce[i]!).2 c.ci).1) (n:=(c.ai.ce[i]!).1) t1 t2 n0 n1 fresh;have RK:=Mj inv.ok op (t:=(bo f (c.ai.ce[i]!).2 c.ci).1) (n:=(c.ai.ce[i]!).1) t1;have ai6:=Co inv.ok op (t:=(bo f (c.ai.ce[i]!).2 c.ci).1) (n:=(c.ai.ce[i]!).1) t1;have ap: ∀h:Int×Int,bK ds [((c.ai.ce[i]!).1,h)]=acv (ds++[((c.ai.ce[i]!).1,h)]):=fun h=>dO (by simp;omega)
     have opn:=qh inv.ok.so;rw [aF op] at opn;refine ⟨k,kv a (bo f (c.ai.ce[i]!).2 c.ci).1 (c.ai.ce[i]!).1,ds++[((c.ai.ce[i]!).1,kq a.af)],?_,?_,⟨pok,by rw [abN inv.ok pok];exact inv.w2,?_,?_,inv.kl,?_⟩,by simp;omega⟩
     · unfold dp RN
       simp only [e1,lc,cg,ao,wn,pl,Mv,Mu,pu,ap,show ((0:Int) !=0)=acy from rfl,lm,sc]
     · unfold cB RO
       simp only [ay,e1,lc,cg,ao,te,dq,wr,Mv,k0,Mu,rp,ap,pp,lm,sc,opn]
     · rw [tk]
       exact ((inv.new.mono fun x hx e he hm=>(RK e).2 (.inr hm)).snoc (x:=c.ai.ce[i]!)).2 _ Mv rfl ((RK _).2 (.inl rfl))
     · exact Ar.mono fun x hx e he hm=>(RK e).2 (.inr hm)
     have:=inv.cnt
     rw [ai6,rc];simp only [EQ,PP];omega
   left
   have pu:=vK inv.ok op inv.ok.fit (t:=(bo f (c.ai.ce[i]!).2 c.ci).1) (n:=(c.ai.ce[i]!).1) t1 t2 n0 n1 fresh;have ap: ∀h:Int×Int,bK ds [((c.ai.ce[i]!).1,h)]=acv (ds++[((c.ai.ce[i]!).1,h)]):=fun h=>dO (by simp;omega)
   have opn:=qh inv.ok.so;rw [aA op] at opn;constructor
   · unfold dp RN
     simp only [e1,lc,cg,ao,wn,pl,Mv,Mu,pu,ap,show ((18:Int) !=0)=acw from rfl,lm]
   unfold cB RO
   simp only [ay,e1,lc,cg,ao,te,dq,wr,Mv,k0,Mu,pp,ut,lm,opn]
  |false=>
   right;refine ⟨k,a,ds,?_,?_,⟨inv.ok,inv.w2,?_,Ar,inv.kl,inv.cnt⟩,by omega⟩
   · unfold dp RN
     simp only [e1,lc,cg,ao,wn,pl,Mv,show ((0:Int) !=0)=acy from rfl,lm,sc]
   · unfold cB RO
     simp only [ay,e1,lc,cg,ao,te,dq,wr,Mv,k0,ut,lm,sc]
   rw [tk]
   exact (inv.new.snoc (x:=c.ai.ce[i]!)).1 Mv
theorem amD:
 (nG c ⟨f⟩=acv (eu,18)/\mI c ⟨f⟩=acv (eu,18))\/
 ∃c':aI,nG c ⟨f⟩=acv (c',0)/\mI c ⟨f⟩=acv (c',0)/\aU c'/\c'.ii.am=f/\c'.ci=c.ci/\c'.ai=c.ai:=by
 have bd:=ok.bd;have f64:=gx.1;have run: ∀(d i k:Nat) (a:aK) (ds:List qP),acu c.ai.ce-i<=d->i<=acu c.ai.ce->G4 c f i k a ds->acu ds<=i->
  (aB dp (RN c f i a ds)=acv (.done (eu,18))/\aB cB (RO c f i a ds)=acv (eu,18))\/
  ∃c':aI,aB dp (RN c f i a ds)=acv (.done (c',0))/\aB cB (RO c f i a ds)=acv (c',0)/\aU c'/\c'.ii.am=f/\c'.ci=c.ci/\c'.ai=c.ai:=by
  have fin: ∀(k:Nat) (a:aK) (ds:List qP),G4 c f (acu c.ai.ce) k a ds-> ∃c':aI,aB dp (RN c f (acu c.ai.ce) a ds)=acv (.done (c',0))/\aB cB (RO c f (acu c.ai.ce) a ds)=acv (c',0)/\aU c'/\c'.ii.am=f/\c'.ci=c.ci/\c'.ai=c.ai:=by
   intro k a ds inv;have e1:acA (((acu c.ai.ce):Int)<((acu c.ai.ce):Int))=acy:=aA (by omega);have hk:(acu c.io)-k=0:=by have:=inv.old;rw [acg] at this;have:c.io.drop k=[]:=this;rw [List.drop_eq_nil_iff] at this;omega
   have new:=inv.new;rw [List.take_length] at new;refine ⟨⟨c.ci,⟨f⟩,c.ai,a,ds⟩,aG ?_,aG ?_,⟨ok.iR,ok.fQ,gx,ok.s8,inv.ok,inv.w2,?_,kn,new⟩,rfl,rfl,rfl⟩
   · unfold dp RN
     simp only [e1,lm]
   · unfold cB RO
     simp only [ay,e1,lm]
   have:=inv.cnt
   show (acu a.bv)=acu ds;omega
  intro d
  induction d with
  |zero=>
   intro i k a ds hd hi inv VY;have:i=(acu c.ai.ce):=by omega
   subst this;exact .inr (fin k a ds inv)
  |succ d ih=>
   intro i k a ds hd hi inv VY
   by_cases he:i=acu c.ai.ce
   · subst he;exact .inr (fin k a ds inv)
   rcases Vd ok gx kn inv (by omega) VY with ⟨h1,h2⟩|⟨k',a',yq,h1,h2,h3,h4⟩
   · exact .inl ⟨aG h1,aG h2⟩
   rw [aT h1,aT h2]
   exact ih (i+1) k' a' yq (by omega) (by omega) h3 h4
 have start:=run (acu c.ai.ce) 0 0 c.ae [] (by omega) (by omega) ⟨ok.ky,ok.G1,rfl,by rw [ab0,ab0];exact ok.Ar,by omega,by have:=ok.hd;simp;omega⟩ (by simp);have hc:fB c=acv 0:=by rw [jQ ok.fit,ls ok]
 have hf:eD ⟨f⟩=acv 0:=by rw [jP];exact congrArg acv (j0.2 gx)
 have tw:=fV ok;have tw':gE (aI.mk (c.ci.1,c.ci.2) (Field.mk c.ii.am) (bm.mk c.ai.aL c.ai.ce) (aK.mk (aS.mk c.ae.af.az c.ae.af.be c.ae.af.bi) c.ae.bv c.ae.aj) c.io)=acv c:=tw;have first:aB jH (c.ai.ce,((acu c.ai.ce):Int),0,c.ci.1,c.ci.2,c.ii.am,c.ai.aL,c.ai.ce,c.ae.af.az,c.ae.af.be,c.ae.af.bi,c.ae.bv,c.ae.aj,c.io,f,0,0,0)=
  aB jH (c.ai.ce,((acu c.ai.ce):Int),((acu c.ai.ce):Int),c.ci.1,c.ci.2,c.ii.am,c.ai.aL,c.ai.ce,c.ae.af.az,c.ae.af.be,c.ae.af.bi,c.ae.bv,c.ae.aj,c.io,f,0,0,0):=by
  refine bT (body:=jH) (fun i=>(c.ai.ce,((acu c.ai.ce):Int),(i:Int),c.ci.1,c.ci.2,c.ii.am,c.ai.aL,c.ai.ce,c.ae.af.az,c.ae.af.be,c.ae.af.bi,c.ae.bv,c.ae.aj,c.io,f,0,0,0)) (acu c.ai.ce) (fun i hi=>?_);have e1:acA ((i:Int)<((acu c.ai.ce):Int))=acw:=aF (by omega);unfold jH;simp only [e1,lc,aq c.ai.ce i hi,ao,lR gx,aA (Kb gx (kn i hi).1),aA (Kb gx (kn i hi).2),lm,aQ (show i<1000000000 by omega)]
 have Vg: ∀r,aB dp (RN c f 0 c.ae [])=acv (.done r)->nG c ⟨f⟩=acv r:=by intro r hr;unfold nG;simp only [hc,ao,show ((0:Int) !=0)=acy from rfl,lm,hf,ay];rw [first];refine aG ?_;unfold jH;have e1:acA (((acu c.ai.ce):Int)<((acu c.ai.ce):Int))=acy:=aA (by omega);simp only [ay,e1,lm,tw',ao,bk (show (acu f)<=1048576 by omega)];exact hr
 have adi: ∀r,aB cB (RO c f 0 c.ae [])=acv r->mI c ⟨f⟩=acv r:=by intro r hr;unfold mI w5;simp only [jq ok,ao,bk (show (acu f)<=1048576 by omega)];exact hr
 rcases start with ⟨h1,h2⟩|⟨c',h1,h2,h3⟩
 · exact .inl ⟨Vg _ h1,adi _ h2⟩
 exact .inr ⟨c',Vg _ h1,adi _ h2,h3⟩
end
theorem mM (l:List (Int×Int)) (x:Int×Int) (hl:(acu l)<=1000000):dU l x=acv (acA (x∈l)):=by
 unfold dU ot;have key:=jZ (body:=je) (fun i=>(l,((acu l):Int),(i:Int),x)) (acu l) (fun i=>l[i]! =x) (fun i=>(i:Int)) (e:= -1) (fun i hi=>by
  have e1:acA ((i:Int)<((acu l):Int))=acw:=aF (by omega);unfold je;simp only [e1,lc,aq l i hi,ao,aQ (show i<1000000000 by omega)];generalize l[i]! =y;constructor
  · intro h;rw [dy (congrArg Prod.fst h.symm),dy (congrArg Prod.snd h.symm)];rfl
  · intro h
    by_cases h1:x.1=y.1
    · rw [dy h1,dE (fun h2=>h (acn h1.symm h2.symm))];rfl
    rw [dE h1];rfl) (by
  unfold je;have:acA (((acu l):Int)<((acu l):Int))=acy:=aA (by omega);simp only [this,lm])
 rw [ay]
 by_cases hx:x∈l
 · obtain ⟨i,hi,he⟩:=aP.1 hx
   obtain ⟨k,h1,h2,h3⟩:=least (c:=fun i=>l[i]! =x) ⟨i,hi,he⟩;have:=key.1 k h1 h2 h3;rw [show ((0:Nat):Int)=0 from rfl] at this;rw [this,aF hx];simp only [ao,aF (show (0:Int)<=(k:Int) by omega)]
 have:=key.2 fun i hi he=>hx (aP.2 ⟨i,hi,he⟩)
 rw [show ((0:Nat):Int)=0 from rfl] at this;rw [this,aA hx];rfl
theorem y6 (l:List (Int×Int)) (x:Int×Int) (hl:(acu l)<=1000000):vF l x=acv (acA (x∈l)):=by
 unfold vF;have key:=c7 (body:=uj) (fun i=>(l,(i:Int),x)) (acu l) (fun i=>l[i]! =x) (r:=acw) (e:=acy) (fun i hi=>by
  have e1:acA ((i:Int)<((acu l):Int))=acw:=aF (by omega);unfold uj;simp only [ay,e1,lc,aq l i hi,ao,aQ (show i<1000000000 by omega)];generalize l[i]! =y;constructor
  · intro h;rw [dy (congrArg Prod.fst h),dy (congrArg Prod.snd h)];rfl
  · intro h
    by_cases h1:y.1=x.1
    · rw [dy h1,dE (fun h2=>h (acn h1 h2))];rfl
    rw [dE h1];rfl) (by
  unfold uj;have:acA (((acu l):Int)<((acu l):Int))=acy:=aA (by omega);simp only [ay,this,lm])
 by_cases hx:x∈l
 · rw [aF hx];exact key.1 (aP.1 hx)
 rw [aA hx];exact key.2 fun i hi he=>hx (aP.2 ⟨i,hi,he⟩)
theorem Vh (x y:qP):((x.1==y.1)&&((x.2.1==y.2.1)&&(x.2.2==y.2.2)))=acA (x=y):=by
 rw [Bool.eq_iff_iff,decide_eq_true_iff];simp only [Bool.and_eq_true,beq_iff_eq];constructor
 · rintro ⟨h1,h2,h3⟩;exact acn h1 (acn h2 h3)
 rintro rfl;exact ⟨rfl,rfl,rfl⟩
theorem Ef (a b:List qP) (hl:(acu a)<=1000000):sV ⟨a⟩ ⟨b⟩=acv (acA (a=b)):=by
 unfold sV;simp only [ay]
 by_cases h:(acu a)=acu b
 case neg=>rw [cO (by omega),aA (fun k=>h (by rw [k]))];rfl
 rw [bF (by omega)];simp only [lm];have key:=c7 (body:=qc) (fun i=>((i:Int),a,b)) (acu a) (fun i=> ¬a[i]! =b[i]!) (r:=acy) (e:=acw) (fun i hi=>by
  have e1:acA ((i:Int)<((acu a):Int))=acw:=aF (by omega);unfold qc;simp only [ay,e1,lc,aq a i hi,aq b i (by omega),ao,aQ (show i<1000000000 by omega),Vh];constructor
  · intro h;rw [aA h];rfl
  · intro h;rw [aF (Do.1 h)];rfl) (by
  unfold qc;have:acA (((acu a):Int)<((acu a):Int))=acy:=aA (by omega);simp only [ay,this,lm])
 by_cases he:a=b
 · rw [aF he]
   exact key.2 fun i hi=>Do.2 (by rw [he])
 rw [aA he]
 refine key.1 (sp fun hx=>he (sZ h fun i hi=>?_));exact sp fun hn=>hx ⟨i,hi,hn⟩
theorem Kc (a b:List qP) (hl:(acu a)<=1000000):j9 a b=acv (acA (a=b)):=by
 unfold j9;simp only [ay]
 by_cases h:(acu a)=acu b
 case neg=>rw [cO (by omega),aA (fun k=>h (by rw [k]))];rfl
 rw [bF (by omega)];simp only [lm];have key:=c7 (body:=iJ) (fun i=>(a,b,((acu a):Int),(i:Int))) (acu a) (fun i=> ¬a[i]! =b[i]!) (r:=acy) (e:=acw) (fun i hi=>by
  have e1:acA ((i:Int)<((acu a):Int))=acw:=aF (by omega);unfold iJ;simp only [e1,lc,aq a i hi,aq b i (by omega),ao,aQ (show i<1000000000 by omega),Vh];constructor
  · intro h;rw [aA h];rfl
  · intro h;rw [aF (Do.1 h)];rfl) (by
  unfold iJ;have:acA (((acu a):Int)<((acu a):Int))=acy:=aA (by omega);simp only [this,lm])
 by_cases he:a=b
 · rw [aF he]
   exact key.2 fun i hi=>Do.2 (by rw [he])
 rw [aA he]
 refine key.1 (sp fun hx=>he (sZ h fun i hi=>?_));exact sp fun hn=>hx ⟨i,hi,hn⟩
theorem RP {cs:List qP} {m:Nat} {x:qP} (hx:x∈cs) (ec:x.1≠(cs[m]!).1):x∈cs.eraseIdx m:=by
 obtain ⟨j,hj,rfl⟩:=aP.1 hx;have hjm:j≠m:=fun h=>ec (by rw [h])
 rw [s6,If]
 by_cases h:j<m
 · exact .inl (bS.2 ⟨j,h,hj,rfl⟩)
 right
 rw [aP];refine ⟨j- (m+1),by rw [ww];omega,?_⟩;rw [pF]
 congr 1;omega
def kP (c0:aI) (f:List Pt) (es:List (Int×Int)) (i:Nat) (c:aI):=
 (es,c0.ai.ce,((acu c0.ai.ce):Int),(i:Int),c.ci.1,c.ci.2,c.ii.am,c.ai.aL,c.ai.ce,c.ae.af.az,c.ae.af.be,c.ae.af.bi,c.ae.bv,c.ae.aj,c.io,f,(0:Int),(0:Int),(0:Int))
def kR (c0:aI) (f:List Pt) (es:List (Int×Int)) (i:Nat) (c:aI):=
 (es,(i:Int),c0.ci.1,c0.ci.2,c0.ii.am,c0.ai.aL,c0.ai.ce,c0.ae.af.az,c0.ae.af.be,c0.ae.af.bi,c0.ae.bv,c0.ae.aj,c0.io,f,(0:Int),(0:Int),(0:Int),c.ci.1,c.ci.2,c.ii.am,c.ai.aL,c.ai.ce,c.ae.af.az,c.ae.af.be,c.ae.af.bi,c.ae.bv,c.ae.aj,c.io)
def eP (es:List (Int×Int)) (i:Nat) (c:aI):=
 (es,((acu es):Int),(i:Int),c.ci.1,c.ci.2,c.ii.am,c.ai.aL,c.ai.ce,c.ae.af.az,c.ae.af.be,c.ae.af.bi,c.ae.bv,c.ae.aj,c.io,(0:Int),(0:Int),(0:Int))
def eR (es:List (Int×Int)) (i:Nat) (c:aI):=
 (es,(i:Int),(0:Int),(0:Int),(0:Int),c.ci.1,c.ci.2,c.ii.am,c.ai.aL,c.ai.ce,c.ae.af.az,c.ae.af.be,c.ae.af.bi,c.ae.bv,c.ae.aj,c.io)
def fC (c:aI):Int:=c.ai.aL- ((acu c.ai.ce):Int)
structure Mw (c:aI) (f:List Pt) (es:List (Int×Int)) (r:aI):Prop where
 has: ∀e∈es,rZ r.ai.ce e
 sub: ∀x∈r.ai.ce,x.2∈es
 ok:aU r
 kQ:r.ii.am=f
 ci:r.ci=c.ci
 room:fC c<=fC r
def Roomy (c:aI) (k:Nat):Prop:=acu c.ai.ce<=k/\c.ai.aL<=k/\ ∀j,j<acu c.ae.af.az->c.ae.af.az[j]!<=k
theorem aR.len {l:List Pt} {t:Int×Int} {H:List Ev}: ∀{cs ds:List qP},aR l t H cs ds->acu ds<=acu cs
 | [],ds,h=>by rw [show ds=[] from h];exact acl _
 |x::cs,ds,h=>by
  cases hy:(bo l x.2 t).2 with
  |true=>obtain ⟨d,yq,rfl,_,_,h4⟩:=h.1 hy;exact Nat.succ_le_succ h4.len
  |false=>exact Nat.le_succ_of_le (h.2 hy).len
theorem Roomy.Vi {c:aI} (ok:aU c) {k:Nat} (h:Roomy c k) (hk:k<=199): ¬(Cq c.ai\/ ¬xI c.ae.af):=by
 obtain ⟨h1,h2,h3⟩:=h;have fl:=ok.Ar.len;have hd:=ok.hd;have hl:=ok.ky.hl;have wl:=ok.ky.wl;have w2:=ok.G1;rintro (h|h)
 · rcases h with h|h<;>omega
 refine h ⟨by omega,?_⟩
 have:=h3 _ (zF ok.ky.so (by omega)).1;omega
theorem Roomy.more {c c':aI} {k:Nat} (h:Roomy c k) {x:Int×Int} (hc:c'.ai=oL c.ai x) (hs:c'.ae.af=c.ae.af\/c'.ae.af=gd c.ae.af):Roomy c' (k+1):=by
 obtain ⟨h1,h2,h3⟩:=h;refine ⟨?_,?_,fun j hj=>?_⟩
 · rw [hc]
   show (c.ai.ce++[(c.ai.aL,x)]).length<=_;rw [rc,M2];omega
 · rw [hc]
   show c.ai.aL+1<=_;omega
 rcases hs with e|e
 · rw [e] at hj ⊢
   have:=h3 j hj;omega
 rw [e] at hj ⊢
 change j<(c.ae.af.az.set _ _).length at hj;rw [aci] at hj;show (c.ae.af.az.set (cS c.ae.af) (c.ae.af.az[cS c.ae.af]!+1))[j]!<=_;rw [bj];split
 · rename_i h;have:=h3 _ h.2;omega
 have:=h3 j hj;omega
structure Cu (f:List Pt) (es:List (Int×Int)):Prop where
 len:(acu es)<=1000000
 cv: ∀x∈es,eX x
 kn: ∀x∈es,ig f x
theorem Vj {c0:aI} (ok0:aU c0) {f:List Pt} {es:List (Int×Int)} (Ke:Cu f es):
 ∀(d i:Nat) (c:aI),acu c0.ai.ce-i<=d->i<=acu c0.ai.ce->aU c->(∀x∈c0.ai.ce.drop i,x∈c.ai.ce)->(∀x∈c.ai.ce,x∈c0.ai.ce.drop i\/x.2∈es)->
  ∃c':aI,aB dV (kP c0 f es i c)=aB dV (kP c0 f es (acu c0.ai.ce) c')/\aB dw (kR c0 f es i c)=aB dw (kR c0 f es (acu c0.ai.ce) c')/\aU c'/\(∀x∈c'.ai.ce,x.2∈es)/\c'.ii=c.ii/\c'.ci=c.ci/\fC c<=fC c':=by
 have bd:=ok0.bd;intro d
 induction d with
 |zero=>
  intro i c hd hi ok h1 h2;have:i=(acu c0.ai.ce):=by omega
  subst this;refine ⟨c,rfl,rfl,ok,fun x hx=>?_,rfl,rfl,ac2 _⟩;rcases h2 x hx with h|h
  · rw [acg] at h;cases h
  exact h
 |succ d ih=>
  intro i c hd hi ok h1 h2
  by_cases he:i=acu c0.ai.ce
  · subst he
    refine ⟨c,rfl,rfl,ok,fun x hx=>?_,rfl,rfl,ac2 _⟩;rcases h2 x hx with h|h
    · rw [acg] at h;cases h
    exact h
  have sE:i<(acu c0.ai.ce):=by omega
  have e1:acA ((i:Int)<((acu c0.ai.ce):Int))=acw:=aF (by omega);have sc:=aQ (show i<1000000000 by omega);have cg:=aq c0.ai.ce i sE;have dr:=ss sE;have te:(aI.mk (c.ci.1,c.ci.2) (Field.mk c.ii.am) (bm.mk c.ai.aL c.ai.ce) (aK.mk (aS.mk c.ae.af.az c.ae.af.be c.ae.af.bi) c.ae.bv c.ae.aj) c.io)=c:=rfl
  by_cases xP:(c0.ai.ce[i]!).2∈es
  · have s1:dV (kP c0 f es i c)=acv (.next (kP c0 f es (i+1) c)):=by
     unfold dV kP;simp only [e1,lc,cg,ao,mM _ _ Ke.len,aF xP,pp,lm,sc]
    have s2:dw (kR c0 f es i c)=acv (.next (kR c0 f es (i+1) c)):=by unfold dw kR;simp only [ay,e1,lc,cg,ao,y6 _ _ Ke.len,aF xP,pp,lm,sc]
    rw [aT s1,aT s2];refine ih (i+1) c (by omega) (by omega) ok (fun x hx=>h1 x (by rw [dr];exact v6 _ hx)) (fun x hx=>?_);rcases h2 x hx with h|h
    · rw [dr] at h
      rcases acs.1 h with rfl|h
      · exact .inr xP
      exact .inl h
    exact .inr h
  have hm:=h1 (c0.ai.ce[i]!) (by rw [dr];exact IR)
  obtain ⟨m,hm1,SD⟩:=aP.1 hm;obtain ⟨c',r1,r2,r3,r4,r5,r6⟩:=Vb ok hm1;have rt:=ED ok hm1 r1;rw [SD] at r2 rt;have s1:dV (kP c0 f es i c)=acv (.next (kP c0 f es (i+1) c')):=by unfold dV kP;simp only [e1,lc,cg,ao,mM _ _ Ke.len,aA xP,ut,sc,te,rt]
  have s2:dw (kR c0 f es i c)=acv (.next (kR c0 f es (i+1) c')):=by unfold dw kR;simp only [ay,e1,lc,cg,ao,y6 _ _ Ke.len,aA xP,ut,sc,te,r2]
  rw [aT s1,aT s2];have cl:c'.ai.ce=c.ai.ce.eraseIdx m:=by rw [r6];rfl
  have ye:fC c<=fC c':=by unfold fC;rw [r6];show _<=c.ai.aL- (((c.ai.ce.eraseIdx m).length:Nat):Int);rw [List.length_eraseIdx_of_lt hm1];omega
  have hs:(∀x∈c0.ai.ce.drop (i+1),x∈c'.ai.ce)/\(∀x∈c'.ai.ce,x∈c0.ai.ce.drop (i+1)\/x.2∈es):=by
   refine ⟨fun x hx=>?_,fun x hx=>?_⟩
   · rw [cl]
     refine RP (h1 x (by rw [dr];exact v6 _ hx)) ?_;rw [SD];exact Ct ok0 hx sE
   rw [cl] at hx
   obtain ⟨a1,a2⟩:=sf ok.tc hm1 hx;rw [SD] at a2;rcases h2 x a1 with h|h
   · rw [dr] at h
     rcases acs.1 h with rfl|h
     · exact absurd rfl a2
     exact .inl h
   exact .inr h
  obtain ⟨d',q1,q2,q3,q4,q5,q6,q7⟩:=ih (i+1) c' (by omega) (by omega) r3 hs.1 hs.2;exact ⟨d',q1,q2,q3,q4,q5.trans r4,q6.trans r5,by omega⟩
theorem Mx {f:List Pt} (_fok:bM f) {es:List (Int×Int)} (Ke:Cu f es):
 ∀(d i:Nat) (c:aI),acu es-i<=d->i<=acu es->aU c->c.ii.am=f->(∀x∈c.ai.ce,x.2∈es)->(∀j,j<i->rZ c.ai.ce es[j]!)->
  ∃r:aI×Int,aB eH (eP es i c)=acv (.done r)/\aB dH (eR es i c)=acv (.done r)/\(r.2=0/\Mw c f es r.1\/r=(eu,18))/\(∀k,Roomy c k->k+(acu es-i)<=199->r.2=0):=by
 have el:=Ke.len;have fin: ∀c:aI,aU c->c.ii.am=f->(∀x∈c.ai.ce,x.2∈es)->(∀j,j<acu es->rZ c.ai.ce es[j]!)-> ∃r:aI×Int,aB eH (eP es (acu es) c)=acv (.done r)/\aB dH (eR es (acu es) c)=acv (.done r)/\(r.2=0/\Mw c f es r.1\/r=(eu,18))/\r.2=0:=by
  intro c ok hf hs hh;have e1:acA (((acu es):Int)<((acu es):Int))=acy:=aA (by omega);refine ⟨(c,0),aG ?_,aG ?_,.inl ⟨rfl,fun e he=>by obtain ⟨j,hj,q⟩:=aP.1 he;rw [<- q];exact hh j hj,hs,ok,hf,rfl,ac2 _⟩,rfl⟩
  · unfold eH eP
    simp only [e1,lm]
  unfold dH eR
  simp only [ay,e1,lm]
 intro d
 induction d with
 |zero=>
  intro i c hd hi ok hf hs hh;have:i=(acu es):=by omega
  subst this;obtain ⟨r,q1,q2,q3,q4⟩:=fin c ok hf hs hh;exact ⟨r,q1,q2,q3,fun _ _ _=>q4⟩
 |succ d ih=>
  intro i c hd hi ok hf hs hh
  by_cases he:i=acu es
  · subst he
    obtain ⟨r,q1,q2,q3,q4⟩:=fin c ok hf hs hh;exact ⟨r,q1,q2,q3,fun _ _ _=>q4⟩
  have bd:=ok.bd;have sE:i<(acu es):=by omega
  have e1:acA ((i:Int)<((acu es):Int))=acw:=aF (by omega);have sc:=aQ (show i<1000000000 by omega);have cg:=aq es i sE;have te:(aI.mk (c.ci.1,c.ci.2) (Field.mk c.ii.am) (bm.mk c.ai.aL c.ai.ce) (aK.mk (aS.mk c.ae.af.az c.ae.af.be c.ae.af.bi) c.ae.bv c.ae.aj) c.io)=c:=rfl;have My:bm.mk c.ai.aL c.ai.ce=c.ai:=rfl;have hc:=Mn c.ai.ce es[i]! (by omega);have hr:=xi c.ai es[i]! (by omega)
  by_cases xP:rZ c.ai.ce es[i]!
  · have s1:eH (eP es i c)=acv (.next (eP es (i+1) c)):=by
     unfold eH eP;simp only [e1,lc,cg,ao,DA,hc,aF xP,sc]
    have s2:dH (eR es i c)=acv (.next (eR es (i+1) c)):=by unfold dH eR;simp only [ay,e1,lc,cg,ao,My,hr,aF xP,sc]
    rw [aT s1,aT s2];obtain ⟨r,q1,q2,q3,q4⟩:=ih (i+1) c (by omega) (by omega) ok hf hs (fun j hj=>if q:j=i then by rw [q];exact xP else hh j (by omega));exact ⟨r,q1,q2,q3,fun k hk hl=>q4 k hk (by omega)⟩
  have hb:ig c.ii.am es[i]!:=by rw [hf];exact Ke.kn _ (aV sE)
  rcases abM ok (Ke.cv _ (aV sE)) hb xP with ⟨r1,r2,full⟩|⟨c',r1,r2,r3,r4,r5,r6,r7⟩
  · refine ⟨(eu,18),aG ?_,aG ?_,.inr rfl,fun k hk hl=>absurd full (hk.Vi ok (by omega))⟩
    · unfold eH eP
      simp only [e1,lc,cg,ao,DA,hc,aA xP,lm,te,r1,show ((18:Int) !=0)=acw from rfl]
    unfold dH eR
    simp only [ay,e1,lc,cg,ao,My,hr,aA xP,lm,te,r2,show ((18:Int) !=0)=acw from rfl]
  have s1:eH (eP es i c)=acv (.next (eP es (i+1) c')):=by
   unfold eH eP;simp only [e1,lc,cg,ao,DA,hc,aA xP,lm,te,r1,show ((0:Int) !=0)=acy from rfl,sc]
  have s2:dH (eR es i c)=acv (.next (eR es (i+1) c')):=by unfold dH eR;simp only [ay,e1,lc,cg,ao,My,hr,aA xP,lm,te,r2,show ((0:Int) !=0)=acy from rfl,sc]
  rw [aT s1,aT s2];obtain ⟨r,q1,q2,q3,q6⟩:=ih (i+1) c' (by omega) (by omega) r3 (by rw [r4,hf]) (fun x hx=>by
   rw [r6] at hx;rcases If.1 (show x∈c.ai.ce++[(c.ai.aL,es[i]!)] from hx) with h|h
   · exact hs x h
   · rw [List.mem_singleton.1 h];exact aV sE) (fun j hj=>by
   rw [r6];show rZ (c.ai.ce++[(c.ai.aL,es[i]!)]) _
   by_cases q:j=i
   · rw [q];exact ⟨acu c.ai.ce,by rw [rc,M2];omega,by rw [iD (acl _),Nat.sub_self];rfl⟩
   obtain ⟨w,w1,w2⟩:=hh j (by omega)
   exact ⟨w,by rw [rc];omega,by rw [fU w1];exact w2⟩)
  refine ⟨r,q1,q2,q3.imp (fun ⟨q4,q5⟩=>⟨q4,q5.has,q5.sub,q5.ok,q5.kQ,q5.ci.trans r5,ach ?_ q5.room⟩) id,fun k hk hl=>q6 (k+1) (hk.more r6 r7) (by omega)⟩;unfold fC;rw [r6];show _<=(c.ai.aL+1) - (((c.ai.ce++[(c.ai.aL,es[i]!)]).length:Nat):Int);rw [rc,M2];omega
theorem abP {c:aI} (ok:aU c) {f:List Pt} (gx:bM f) {es:List (Int×Int)} (Ke:Cu f es):
 ∃r:aI×Int,qB c ⟨f⟩ es=acv r/\mJ c ⟨f⟩ es=acv r/\(r.2=0/\Mw c f es r.1\/r=(eu,18)):=by
 have f64:=gx.1;obtain ⟨c',g1,g2,g3,g4,g5,g6,g7⟩:=Vj ok Ke (acu c.ai.ce) 0 c (by omega) (by omega) ok (fun x hx=>by rwa [ab0] at hx) (fun x hx=> .inl (by rwa [ab0]));have bd:=g3.bd;have e1:acA (((acu c.ai.ce):Int)<((acu c.ai.ce):Int))=acy:=aA (by omega);have ai8:qB c ⟨f⟩ es=aB dV (kP c f es 0 c):=rfl;have ai9:mJ c ⟨f⟩ es=aB dw (kR c f es 0 c):=by unfold mJ;simp only [jq ok,ao];rfl
 rw [ai8,ai9,g1,g2];have eq1:=Kc c'.ii.am f (by omega);have eq2:=Ef c'.ii.am f (by omega);have te:(aI.mk (c'.ci.1,c'.ci.2) (Field.mk c'.ii.am) (bm.mk c'.ai.aL c'.ai.ce) (aK.mk (aS.mk c'.ae.af.az c'.ae.af.be c'.ae.af.bi) c'.ae.bv c'.ae.aj) c'.io)=c':=rfl
 by_cases hf:c'.ii.am=f
 · obtain ⟨r,i1,i2,i3,_⟩:=Mx gx Ke (acu es) 0 c' (by omega) (by omega) g3 hf g4 (fun j hj=>absurd hj (acq j))
   refine ⟨r,aG ?_,aG ?_,i3.imp (fun ⟨q4,q5⟩=>⟨q4,q5.has,q5.sub,q5.ok,q5.kQ,q5.ci.trans g6,ach g7 q5.room⟩) id⟩
   · unfold dV kP
     simp only [e1,lm,eq1,aF hf,ao,pp];exact i1
   unfold dw kR
   simp only [ay,e1,lm,eq2,aF hf,ao,pp];exact i2
 have kn: ∀i,i<acu c'.ai.ce->ig f (c'.ai.ce[i]!).2:=fun i hi=>Ke.kn _ (g4 _ (aV hi))
 rcases amD g3 gx kn with ⟨a1,a2⟩|⟨c2,a1,a2,a3,a4,a5,a6⟩
 · refine ⟨(eu,18),aG ?_,aG ?_,.inr rfl⟩
   · unfold dV kP
     simp only [e1,lm,eq1,aA hf,ao,ut,lc,te,a1,show ((18:Int) !=0)=acw from rfl]
   unfold dw kR
   simp only [ay,e1,lm,eq2,aA hf,ao,ut,lc,te,a2,show ((18:Int) !=0)=acw from rfl]
 obtain ⟨r,i1,i2,i3,_⟩:=Mx gx Ke (acu es) 0 c2 (by omega) (by omega) a3 a4 (by rw [a6];exact g4) (fun j hj=>absurd hj (acq j))
 refine ⟨r,aG ?_,aG ?_,i3.imp (fun ⟨q4,q5⟩=>⟨q4,q5.has,q5.sub,q5.ok,q5.kQ,(q5.ci.trans a5).trans g6,ach (ach g7 (by unfold fC;rw [a6];exact ac2 _)) q5.room⟩) id⟩
 · unfold dV kP
   simp only [e1,lm,eq1,aA hf,ao,ut,lc,te,a1,show ((0:Int) !=0)=acy from rfl];exact i1
 unfold dw kR
 simp only [ay,e1,lm,eq2,aA hf,ao,ut,lc,te,a2,show ((0:Int) !=0)=acy from rfl];exact i2
theorem G5 {α:Type} [Inhabited α] {l:List α}:l.Nodup↔ ∀k,k<acu l->l[k]!∉l.take k:=by
 rw [iF];constructor
 · intro h k hk hm
   obtain ⟨i,h1,h2,h3⟩:=bS.1 hm;exact h i k h1 hk h3
 intro h i j lS hj he
 exact h j hj (bS.2 ⟨i,lS,by omega,he⟩)
theorem y7 {α:Type} [Inhabited α] {l:List α} {P:α->Prop}:(∀x∈l,P x)↔ ∀i,i<acu l->P l[i]!:=by
 constructor
 · intro h i hi;exact h _ (aV hi)
 intro h x hx
 obtain ⟨i,hi,rfl⟩:=aP.1 hx;exact h i hi
theorem nj {σ ρ:Type} {body:σ->Option (Step σ ρ)} (st:Nat->σ) (n:Nat) (P:Nat->Prop) {r e:ρ} (h: ∀i,i<n->(¬P i->body (st i)=acv (.done r))/\(P i->body (st i)=acv (.next (st (i+1)))))
 (UQ:body (st n)=acv (.done e)):aB body (st 0)=acv (if∀i,i<n->P i then e else r):=by
 have key:=c7 (body:=body) st n (fun i=> ¬P i) (r:=r) (e:=e) (fun i hi=>⟨(h i hi).1,fun hn=>(h i hi).2 (Do.1 hn)⟩) UQ
 by_cases hx: ∀i,i<n->P i
 · rw [ls hx];exact key.2 fun i hi=>Do.2 (hx i hi)
 rw [lw hx]
 obtain ⟨i,h⟩:=Classical.not_forall.1 hx;obtain ⟨hi,hx⟩:=Classical.not_imp.1 h;exact key.1 ⟨i,hi,hx⟩
theorem As {f:List Pt} (gx:bM f) (id:Int): ∃p e,sM ⟨f⟩ id=acv (p,e)/\(e=0↔mA f id):=by
 have h1:=gx.1;have hc:eD ⟨f⟩=acv 0:=by rw [jP];exact congrArg acv (j0.2 gx)
 have bs:=zJ f id (by omega) (fun i j=>nK gx.2.2);unfold sM yH A';rw [abK];simp only [hc,ao,show ((0:Int) !=0)=acy from rfl,lm]
 by_cases h:mA f id
 · obtain ⟨k,hk,he⟩:=h
   rw [bs.1 k hk he];refine ⟨f[k]!,0,?_,fun _=>⟨k,hk,he⟩,fun _=>rfl⟩;simp only [ao,pp,lm,show ((0:Int) !=0)=acy from rfl,aq f k hk]
 obtain ⟨m,_,_,_,e⟩:=bs.2 (fun k hk he=>h ⟨k,hk,he⟩)
 rw [e];exact ⟨(0,0,0),6,rfl,fun h=>(by cases h),fun k=>absurd k h⟩
structure Qa (c:aI):Prop where
 f:(acu c.ii.am)<=1000000
 l:(acu c.ai.ce)<=1000000
 d:(acu c.io)<=1000000
 h:(acu c.ae.bv)<=1000000
 w:(acu c.ae.aj)<=1000000
 s1:(acu c.ae.af.az)<=1000000
 s2:(acu c.ae.af.be)<=1000000
 s3:(acu c.ae.af.bi)<=1000000
theorem aU.short {c:aI} (ok:aU c):Qa c:=by have bd:=ok.bd;have ab:=ok.ky.bd;have sl:=ok.ky.so.fl;have sn:=ok.ky.so.n2;have su:=ok.ky.so.ul;exact ⟨by omega,by omega,by omega,by omega,by omega,by omega,by omega,by omega⟩
theorem DD (l:List Int) (hl:(acu l)<=1000000):jM l l=acv acw:=by
 unfold jM;rw [bF rfl];refine (bT (body:=lg) (fun i=>(l,l,(i:Int))) (acu l) fun i hi=>?_).trans (aG ?_)
 · have e1:acA ((i:Int)<((acu l):Int))=acw:=aF (by omega)
   unfold lg;simp only [ay,e1,lc,aq l i hi,ao,aQ (show i<1000000000 by omega),bF rfl,lm]
 unfold lg
 have:acA (((acu l):Int)<((acu l):Int))=acy:=aA (by omega);simp only [ay,this,lm]
theorem OC (l:List Bool) (hl:(acu l)<=1000000):mT l l=acv acw:=by
 unfold mT;rw [bF rfl];refine (bT (body:=kg) (fun i=>(l,l,(i:Int))) (acu l) fun i hi=>?_).trans (aG ?_)
 · have e1:acA ((i:Int)<((acu l):Int))=acw:=aF (by omega)
   unfold kg;simp only [ay,e1,lc,aq l i hi,ao,aQ (show i<1000000000 by omega),beq_self_eq_true,pp,lm]
 unfold kg
 have:acA (((acu l):Int)<((acu l):Int))=acy:=aA (by omega);simp only [ay,this,lm]
theorem OD (c:bm) (hl:(acu c.ce)<=1000000):wW c c=acv acw:=by
 unfold wW;rw [bF rfl,bF rfl];refine (bT (body:=qd) (fun i=>((i:Int),c.aL,c.ce,c.aL,c.ce)) (acu c.ce) fun i hi=>?_).trans (aG ?_)
 · have e1:acA ((i:Int)<((acu c.ce):Int))=acw:=aF (by omega)
   unfold qd;simp only [ay,e1,lc,aq c.ce i hi,ao,aQ (show i<1000000000 by omega),beq_self_eq_true,ac6,pp,lm]
 unfold qd
 have:acA (((acu c.ce):Int)<((acu c.ce):Int))=acy:=aA (by omega);simp only [ay,this,lm]
theorem Mz (a:aK) (h1:(acu a.bv)<=1000000) (h2:(acu a.aj)<=1000000) (h3:(acu a.af.az)<=1000000) (h4:(acu a.af.be)<=1000000) (h5:(acu a.af.bi)<=1000000):wX a a=acv acw:=by
 unfold wX Bd;simp only [DD _ h3,OC _ h4,DD _ h5,DD _ h2,ao,lc,pp,lm];rw [bF rfl];refine (bT (body:=qe) (fun i=>((i:Int),a.af.az,a.af.be,a.af.bi,a.bv,a.aj,a.af.az,a.af.be,a.af.bi,a.bv,a.aj)) (acu a.bv) fun i hi=>?_).trans (aG ?_)
 · have e1:acA ((i:Int)<((acu a.bv):Int))=acw:=aF (by omega)
   unfold qe;simp only [ay,e1,lc,aq a.bv i hi,ao,aQ (show i<1000000000 by omega),beq_self_eq_true,ac6,pp,lm]
 unfold qe
 have:acA (((acu a.bv):Int)<((acu a.bv):Int))=acy:=aA (by omega);simp only [ay,this,lm]
theorem OE {c:aI} (sh:Qa c):wY c c=acv acw:=by
 have hd:=sh.d;unfold wY;simp only [beq_self_eq_true,ac6,pp,lm,Ef c.ii.am c.ii.am sh.f,OD _ sh.l,Mz _ sh.h sh.w sh.s1 sh.s2 sh.s3,ao,aF];rw [bF rfl];refine (bT (body:=qf) (fun i=>((i:Int),c.ci.1,c.ci.2,c.ii.am,c.ai.aL,c.ai.ce,c.ae.af.az,c.ae.af.be,c.ae.af.bi,c.ae.bv,c.ae.aj,c.io,c.ci.1,c.ci.2,c.ii.am,c.ai.aL,c.ai.ce,c.ae.af.az,c.ae.af.be,c.ae.af.bi,c.ae.bv,c.ae.aj,c.io)) (acu c.io) fun i hi=>?_).trans (aG ?_)
 · have e1:acA ((i:Int)<((acu c.io):Int))=acw:=aF (by omega)
   unfold qf;simp only [ay,e1,lc,aq c.io i hi,ao,aQ (show i<1000000000 by omega),beq_self_eq_true,ac6,pp,lm]
 unfold qf
 have:acA (((acu c.io):Int)<((acu c.io):Int))=acy:=aA (by omega);simp only [ay,this,lm]
structure OF (c:aI):Prop where
 ci:jf c.ci
 Ov: ∀w,w<acu c.ae.bv->jf ((c.ae.bv[w]!).1,(c.ae.bv[w]!).2.1)
theorem MA (f:Field):qD f=acv acw\/(qD f=acv acy/\acu f.am<=70):=by
 unfold qD
 simp only [ay]
 by_cases h1:16<acu f.am
 · rw [aF (show (16:Int)<((acu f.am):Int) by omega)]
   by_cases h2:(acu f.am)<64
   · rw [aF (show ((acu f.am):Int)<64 by omega)];exact .inl rfl
   rw [aA (show¬((acu f.am):Int)<64 by omega)]
   by_cases h3:70<acu f.am
   · rw [aF (show (70:Int)<((acu f.am):Int) by omega)];exact .inl rfl
   rw [aA (show¬(70:Int)<((acu f.am):Int) by omega)];exact .inr ⟨rfl,by omega⟩
 rw [aA (show¬(16:Int)<((acu f.am):Int) by omega),aA (show¬(70:Int)<((acu f.am):Int) by omega)]
 exact .inr ⟨rfl,by omega⟩
theorem MB (c:aI):qE c=acv acw\/(qE c=acv acy/\Qa c):=by
 unfold qE yM yL
 simp only [ay]
 by_cases h1:40<acu c.ai.ce
 · rw [aF (show (40:Int)<((acu c.ai.ce):Int) by omega)];exact .inl rfl
 rw [aA (show¬(40:Int)<((acu c.ai.ce):Int) by omega)]
 by_cases h2:40<acu c.io
 · rw [aF (show (40:Int)<((acu c.io):Int) by omega)];exact .inl rfl
 rw [aA (show¬(40:Int)<((acu c.io):Int) by omega)];rcases MA c.ii with e|⟨e,hf⟩
 · rw [e];exact .inl rfl
 rw [e];simp only [lm,ao]
 by_cases a1:210<acu c.ae.af.az
 · rw [aF (show (210:Int)<((acu c.ae.af.az):Int) by omega)];exact .inl rfl
 rw [aA (show¬(210:Int)<((acu c.ae.af.az):Int) by omega)]
 by_cases a2:210<acu c.ae.af.be
 · rw [aF (show (210:Int)<((acu c.ae.af.be):Int) by omega)];exact .inl rfl
 rw [aA (show¬(210:Int)<((acu c.ae.af.be):Int) by omega)]
 by_cases a3:210<acu c.ae.af.bi
 · rw [aF (show (210:Int)<((acu c.ae.af.bi):Int) by omega)];exact .inl rfl
 rw [aA (show¬(210:Int)<((acu c.ae.af.bi):Int) by omega)]
 by_cases a4:210<acu c.ae.bv
 · rw [aF (show (210:Int)<((acu c.ae.bv):Int) by omega)];exact .inl rfl
 rw [aA (show¬(210:Int)<((acu c.ae.bv):Int) by omega)]
 by_cases a5:210<acu c.ae.aj
 · rw [aF (show (210:Int)<((acu c.ae.aj):Int) by omega)];exact .inl rfl
 rw [aA (show¬(210:Int)<((acu c.ae.aj):Int) by omega)];exact .inr ⟨rfl,⟨by omega,by omega,by omega,by omega,by omega,by omega,by omega,by omega⟩⟩
theorem EY {a b:Int×Int} (ha:aX a) (hb:aX b) (h:a.1*b.2=b.1*a.2):a=b:=by
 obtain ⟨a1,_,a3⟩:=ha;obtain ⟨b1,_,b3⟩:=hb;have hn:a.1.natAbs*b.2.natAbs=b.1.natAbs*a.2.natAbs:=by rw [<- acr,<- acr,h]
 have d1:b.2.natAbs ∣ a.2.natAbs:=by
  have:b.2.natAbs ∣ b.1.natAbs*a.2.natAbs:=by rw [<- hn];exact acp _ _
  exact (Nat.Coprime.dvd_of_dvd_mul_left b3 this)
 have d2:a.2.natAbs ∣ b.2.natAbs:=by
  have:a.2.natAbs ∣ a.1.natAbs*b.2.natAbs:=by rw [hn];exact acp _ _
  exact (Nat.Coprime.dvd_of_dvd_mul_left a3 this)
 have e:a.2.natAbs=b.2.natAbs:=Nat.dvd_antisymm d2 d1;have e2:a.2=b.2:=by omega
 have e1:a.1=b.1:=by rw [e2] at h;exact Int.eq_of_mul_eq_mul_right (by omega) h
 exact acn e1 e2
theorem Cv (p q:Pt) (t:Int×Int):xH p q t=(p.2.1-q.2.1)*t.2+(p.2.2-q.2.2)*t.1:=rfl
theorem Eg {l h:Pt} {t t':Int×Int} (d:1<=t.2) (d':1<=t'.2) (le:t.1*t'.2<=t'.1*t.2) (hB: ¬h.2.2<l.2.2) (hn: ¬leads l h t): ¬leads l h t':=by
 unfold leads at*;rw [Cv] at*;generalize l.2.1-h.2.1=A at*;have hs:l.2.2-h.2.2<=0:=by omega
 intro hl;have key:(A*t'.2+(l.2.2-h.2.2)*t'.1)*t.2<=(A*t.2+(l.2.2-h.2.2)*t.1)*t'.2:=by
  have h1:(l.2.2-h.2.2)*(t'.1*t.2)<=(l.2.2-h.2.2)*(t.1*t'.2):=Int.mul_le_mul_of_nonpos_left hs le;have e1:(A*t'.2+(l.2.2-h.2.2)*t'.1)*t.2=A*t'.2*t.2+(l.2.2-h.2.2)*(t'.1*t.2):=by rw [Int.add_mul,acf (l.2.2-h.2.2)]
  have e2:(A*t.2+(l.2.2-h.2.2)*t.1)*t'.2=A*t'.2*t.2+(l.2.2-h.2.2)*(t.1*t'.2):=by rw [Int.add_mul,acf (l.2.2-h.2.2),acf A,acf A,aco t.2]
  omega
 rcases hl with hl|⟨hl,h2|⟨h2,h3⟩⟩
 · refine hn (.inl ?_)
   have:0<(A*t'.2+(l.2.2-h.2.2)*t'.1)*t.2:=Int.mul_pos hl (by omega);have k:0<(A*t.2+(l.2.2-h.2.2)*t.1)*t'.2:=by omega
   exact Int.pos_of_mul_pos_left k (by omega)
 · omega
 have z:l.2.2-h.2.2=0:=by omega
 rw [z] at hl hn;have:A=0:=by
  have:A*t'.2=0:=by omega
  rcases Int.mul_eq_zero.1 this with h|h
  · exact h
  omega
 subst this;exact hn (.inr ⟨by omega,.inr ⟨h2,h3⟩⟩)
theorem G6 {h l:Pt} {t t':Int×Int} (hh:ff h) (hl:ff l) (r:aX t) (r':aX t') (le:t.1*t'.2<=t'.1*t.2) (up:(jO h l t).2=acw->t'.1*(jO h l t).1.2<=(jO h l t).1.1*t'.2):
 jO h l t'=jO h l t:=by
 unfold jO at*
 by_cases h1:leads l h t
 · rw [ls h1] at up ⊢
   have e:t=t':=EY r r' (by have:=up rfl;dsimp only at this;omega);subst e;rw [ls h1]
 rw [lw h1] at up ⊢
 by_cases h2:h.2.2<l.2.2
 · rw [ls h2] at up ⊢
   obtain ⟨_,m1,m2,m3⟩:=uP hh hl (show h.2.2≠l.2.2 by omega);have up:=up rfl;dsimp only at up
   by_cases h3:leads l h t'
   · rw [ls h3]
     have:t'=met h l:=by
      refine EY r' m1 ?_;have g:0<=xH l h t':=by rcases h3 with k|k<;>omega
      rw [Cv] at g;generalize met h l=m at*;have d:=m1.1;have hB:0<l.2.2-h.2.2:=by omega
      generalize l.2.2-h.2.2=B at*;generalize hA:h.2.1-l.2.1=A at*;have g2:A*t'.2<=B*t'.1:=by
       have:(l.2.1-h.2.1)*t'.2= -(A*t'.2):=by rw [<- Int.neg_mul];congr 1;omega
       omega
      have g3:m.1*t'.2*B<=t'.1*m.2*B:=by
       have e1:m.1*t'.2*B=A*t'.2*m.2:=by rw [AC,m3,AC]
       have e2:t'.1*m.2*B=B*t'.1*m.2:=by rw [AC,aco t'.1 B]
       rw [e1,e2];exact NE g2 (by omega)
      have g4:m.1*t'.2<=t'.1*m.2:=abA g3 hB;omega
     rw [this]
   rw [lw h3]
 rw [lw h2] at up ⊢
 rw [lw (Eg r.1 r'.1 le h2 h1)]
theorem DE {a:aK} (ok:ez a): ∀k,k<acu a.bv-> ¬less a.bv[k]! a.bv[0]!:=by
 have d: ∀w,w<acu a.bv->1<=(a.bv[w]!).2.1:=fun w hw=>(ok.ev w hw).1.1
 intro k
 induction k using Nat.strongRecOn with
 |ind k ih=>
  intro hk
  by_cases h0:k=0
  · subst h0;exact fun h=>ni h h
  exact vI (d 0 (by omega)) (d ((k-1) / 2) (by omega)) (d k hk) (ih ((k-1) / 2) (by omega) (by omega)) (ok.ord k (by omega) hk)
theorem Vk {h l:Pt} {t:Int×Int} (hh:ff h) (hl:ff l) (r:aX t) (is:(jO h l t).2=acw):t.1*(jO h l t).1.2<=(jO h l t).1.1*t.2:=by
 unfold jO at*
 by_cases h1:leads l h t
 · rw [ls h1];exact ac2 _
 rw [lw h1] at is ⊢
 by_cases h2:h.2.2<l.2.2
 · rw [ls h2]
   obtain ⟨_,m1,m2,m3⟩:=uP hh hl (show h.2.2≠l.2.2 by omega);dsimp only;have g:xH l h t<=0:=Int.not_lt.1 fun k=>h1 (.inl k)
   rw [Cv] at g;generalize met h l=m at*;have d:=m1.1;have d2:=r.1;have hB:0<l.2.2-h.2.2:=by omega
   generalize l.2.2-h.2.2=B at*;generalize hA:h.2.1-l.2.1=A at*;have g2:B*t.1<=A*t.2:=by
    have:(l.2.1-h.2.1)*t.2= -(A*t.2):=by rw [<- Int.neg_mul];congr 1;omega
    omega
   have e1:t.1*m.2*B=B*t.1*m.2:=by rw [AC,aco t.1 B]
   have e2:m.1*t.2*B=A*t.2*m.2:=by rw [AC,m3,AC]
   have g3:t.1*m.2*B<=m.1*t.2*B:=by rw [e1,e2];exact NE g2 (by omega)
   exact abA g3 hB
 rw [lw h2] at is;cases is
theorem aR.time {l:List Pt} {t t':Int×Int} {H:List Ev}: ∀{cs ds:List qP},(∀x∈cs,bo l x.2 t'=bo l x.2 t)->aR l t H cs ds->aR l t' H cs ds
 | [],_,_,h=>h
 |x::cs,ds,hw,h=>by
  have e:=hw x IR;have ih: ∀{ds},aR l t H cs ds->aR l t' H cs ds:=fun {ds}=>aR.time fun y hy=>hw y (v6 _ hy)
  refine ⟨fun hy=>?_,fun hy=>?_⟩
  · rw [e] at hy
    obtain ⟨d,yq,h1,h2,h3,h4⟩:=h.1 hy;exact ⟨d,yq,h1,h2,by rw [e];exact h3,ih h4⟩
  rw [e] at hy
  exact ih (h.2 hy)
theorem xk {c:aI} (ok:aU c) (ec:0<acu c.ae.bv):
 ∃(i:Nat) (c':aI),i<acu c.ai.ce/\(c.ai.ce[i]!).1=Ev.num c.ae.bv[0]!/\fK c (Ev.num c.ae.bv[0]!)=acv (c',(c.ai.ce[i]!).2,0)/\pC c (Ev.num c.ae.bv[0]!)=acv c'/\
  aU ⟨Ev.at c.ae.bv[0]!,c'.ii,c'.ai,c'.ae,c'.io⟩/\c'.ii=c.ii/\c'.ai=mi c.ai i/\c.ci.1*(Ev.at c.ae.bv[0]!).2<=(Ev.at c.ae.bv[0]!).1*c.ci.2:=by
 have hm:=aV ec;obtain ⟨d,hd,hn⟩:=ok.zU _ hm;obtain ⟨x,hx,h1,h2,h3⟩:=ok.Ar.io d hd;obtain ⟨w,hw,he⟩:=aP.1 h3;have hw0:w=0:=sp fun hx=>by refine ok.ky.nd 0 w (by omega) hw ?_;rw [he,<- hn,h1]
 subst hw0;obtain ⟨i,hi,rfl⟩:=aP.1 hx;have num:(c.ai.ce[i]!).1=Ev.num c.ae.bv[0]!:=by rw [<- hn,h1]
 have tm:Ev.at c.ae.bv[0]! =(bo c.ii.am (c.ai.ce[i]!).2 c.ci).1:=by rw [he]
 obtain ⟨c',r1,r2,r3,r4,r5,r6⟩:=Vb ok hi;have hb:=ok.known i hi;have pt:=fun (x:Int×Int) (hb:ig c.ii.am x)=>And.intro (cU ok.kQ hb.2).1 (cU ok.kQ hb.1).1
 have rt:=Cj (pt _ hb).1 (pt _ hb).2 ok.fQ ok.iR h2;have ge:=Vk (pt _ hb).1 (pt _ hb).2 ok.iR h2;rw [num] at r1 r2;refine ⟨i,c',hi,num,r1,r2,?_,r4,r6,by rw [tm];exact ge⟩;have kn:=y5 ok i hi;refine ⟨by rw [tm];exact rt.1,by rw [tm];exact rt.2,r3.kQ,r3.s8,r3.ky,r3.G1,r3.hd,r3.known,?_⟩;refine aR.time (t:=c'.ci) (fun y hy=>?_) r3.Ar;have hy':y∈c.ai.ce:=by rw [r6] at hy;exact (sf ok.tc hi hy).1
 obtain ⟨j,hj,rfl⟩:=aP.1 hy';have hbj:=ok.known j hj;rw [r4,r5];refine G6 (pt _ hbj).1 (pt _ hbj).2 ok.iR (by rw [tm];exact rt.1) (by rw [tm];exact ge) (fun is=>?_);obtain ⟨d',hd',k1,k2⟩:=ok.Ar.has _ hy' is;obtain ⟨w,hw,he⟩:=aP.1 k2;have:=DE ok.ky w hw;rw [he] at this;exact Int.not_lt.1 fun k=>this (.inl (rY.2 k))
theorem EE {p q:Pt} {t:Int×Int} (hp:ff p) (hq:ff q) (ht:jf t) (hr:aX t):oo p q t=acv (acA (leads p q t),if p.1=q.1 then 2 else 0)\/(p.1=q.1/\oo p q t=acv (acy,2)):=by
 unfold oo;rw [qg ht,ls ⟨hp,hq,hr⟩]
 by_cases h:p.1=q.1
 · right;simp [h]
 left
 simp only [h,if_false,ao,ur hp hq ht];have:acA (0<Oh p q t)=acA (leads p q t):=by simp only [Gz]
 simp [this]
end Go.Proofs.YtlnclppkepgdmaaGreat
namespace Go.Proofs.YtlnclppkepgdmaaGreat
open Go.Vm
theorem xl {α:Type} [BEq α] [LawfulBEq α]: ∀{a b:List α},a.Nodup->(∀x∈a,x∈b)->acu b<=acu a->a.Perm b
 | [],b,_,_,hl=>by rw [List.eq_nil_of_length_eq_zero (show (acu b)=0 by simpa using hl)]
 |x::a,b,hd,h,hl=>by
  rw [acj] at hd;have hx:=h x IR;have ih:=xl (a:=a) (b:=b.erase x) hd.2 (fun y hy=>by
   rw [List.mem_erase_of_ne (fun e=>hd.1 (by rw [<- e];exact hy))];exact h y (v6 _ hy)) (by
   rw [List.length_erase_of_mem hx];rw [EQ] at hl;omega)
  exact (List.Perm.cons x ih).trans (List.perm_cons_erase hx).symm
theorem G7 {α β:Type} {f:α->β}: ∀{l:List α},l.Nodup->(∀x∈l,∀y∈l,f x=f y->x=y)->(l.map f).Nodup
 | [],_,_=>List.nodup_nil
 |x::l,h,hi=>by rw [acj] at h;rw [List.map_cons,acj];refine ⟨fun hm=>?_,G7 h.2 fun y hy z hz=>hi y (v6 _ hy) z (v6 _ hz)⟩;obtain ⟨y,hy,e⟩:=UV.1 hm;have:=hi y (v6 _ hy) x IR e;rw [this] at hy;exact h.1 hy
end Go.Proofs.YtlnclppkepgdmaaGreat
namespace Go.Proofs.YtlnclppkepgdmaaGreat
open Go.Vm Classical
theorem abQ {f:List Pt} (gx:bM f) {t:Int×Int} (kr:jf t) {x:Int×Int} (hb:ig f x):wS x ⟨f⟩ t=acv (acA (leads (bW f x.2) (bW f x.1) t)):=by obtain ⟨h1,h2⟩:=hb;obtain ⟨j,j1,j2,j3⟩:=xj gx h1;obtain ⟨k,k1,k2,k3⟩:=xj gx h2;unfold wS;simp only [j2,k2,ao,aq f j j1,aq f k k1,j3,k3,GA (cU gx h2).1 (cU gx h1).1 kr]
def qQ (f:List Pt):List Int:=f.map fun p=>p.1
theorem Qb {f:List Pt} {id:Int}:id∈qQ f↔mA f id:=by
 unfold qQ mA;rw [UV];constructor
 · rintro ⟨p,hp,rfl⟩
   obtain ⟨i,hi,rfl⟩:=aP.1 hp;exact ⟨i,hi,rfl⟩
 rintro ⟨i,hi,rfl⟩
 exact ⟨f[i]!,aV hi,rfl⟩
theorem Eh {c:bm} (ok:ek c):(c.ce.map fun x=>x.2).Nodup:=by
 refine G7 ?_ ?_
 · exact iF.2 fun i j lS hj e=>ok.nd i j lS hj (by rw [e])
 intro x hx y hy e
 obtain ⟨i,hi,rfl⟩:=aP.1 hx;obtain ⟨j,hj,rfl⟩:=aP.1 hy;rcases abZ i j with k|k|k
 · exact absurd e (ok.nd i j k hj)
 · rw [k]
 exact absurd e.symm (ok.nd j i k hi)
theorem vO {l:List qP} {x:Int×Int}:rZ l x↔x∈l.map fun y=>y.2:=by
 unfold rZ;rw [UV];constructor
 · rintro ⟨i,hi,rfl⟩;exact ⟨l[i]!,aV hi,rfl⟩
 rintro ⟨y,hy,rfl⟩
 obtain ⟨i,hi,rfl⟩:=aP.1 hy;exact ⟨i,hi,rfl⟩
theorem Cw {α:Type} {p q:Prop} [Decidable p] [Decidable q] {a b:α} (h:p↔q):(if p then a else b)=if q then a else b:=by
 by_cases hp:p
 · rw [ls hp,ls (h.1 hp)]
 rw [lw hp,lw (fun k=>hp (h.2 k))]
theorem abR {c:aI} (ok:aU c) (es:List (Int×Int)) (kn: ∀x∈es,ig c.ii.am x):
 wT c es=acv (acA (acu c.ai.ce=acu es/\ ∀i,i<acu es->rZ c.ai.ce es[i]!/\leads (bW c.ii.am (es[i]!).2) (bW c.ii.am (es[i]!).1) c.ci)):=by
 have bd:=ok.bd;unfold wT;simp only [ay]
 by_cases h0:(acu c.ai.ce)=acu es
 case neg=>rw [cO (by omega),lc,aA (fun h=>h0 h.1)]
 rw [bF (by omega),lm];have key:=nj (body:=p9) (fun i=>(es,(i:Int),c.ci.1,c.ci.2,c.ii.am,c.ai.aL,c.ai.ce,c.ae.af.az,c.ae.af.be,c.ae.af.bi,c.ae.bv,c.ae.aj,c.io)) (acu es)
  (fun i=>rZ c.ai.ce es[i]!/\leads (bW c.ii.am (es[i]!).2) (bW c.ii.am (es[i]!).1) c.ci) (r:=acy) (e:=acw) (fun i hi=>by
  have My:bm.mk c.ai.aL c.ai.ce=c.ai:=rfl;unfold p9;simp only [ay,aF (show (i:Int)<((acu es):Int) by omega),lc,aq es i hi,ao,My,xi c.ai es[i]! (by omega),abQ ok.kQ (t:=(c.ci.1,c.ci.2)) ok.fQ (kn _ (aV hi)),aQ (show i<1000000000 by omega)]
  by_cases h1:rZ c.ai.ce es[i]!
  · rw [aF h1]
    by_cases h2:leads (bW c.ii.am (es[i]!).2) (bW c.ii.am (es[i]!).1) c.ci
    · rw [show acA (leads (bW c.ii.am (es[i]!).2) (bW c.ii.am (es[i]!).1) (c.ci.1,c.ci.2))=acw from aF h2]
      exact ⟨fun h=>absurd ⟨h1,h2⟩ h,fun _=>rfl⟩
    rw [show acA (leads (bW c.ii.am (es[i]!).2) (bW c.ii.am (es[i]!).1) (c.ci.1,c.ci.2))=acy from aA h2]
    exact ⟨fun _=>rfl,fun h=>absurd h.2 h2⟩
  · rw [aA h1]
    exact ⟨fun _=>rfl,fun h=>absurd h.1 h1⟩) (by
  unfold p9;simp only [ay,aA (show¬((acu es):Int)<((acu es):Int) by omega),lm])
 refine (show _=_ from key).trans ?_
 by_cases h2: ∀i,i<acu es->rZ c.ai.ce es[i]!/\leads (bW c.ii.am (es[i]!).2) (bW c.ii.am (es[i]!).1) c.ci
 · rw [ls h2,aF ⟨h0,h2⟩]
 rw [lw h2,aA (fun h=>h2 h.2)]
end Go.Proofs.YtlnclppkepgdmaaGreat
