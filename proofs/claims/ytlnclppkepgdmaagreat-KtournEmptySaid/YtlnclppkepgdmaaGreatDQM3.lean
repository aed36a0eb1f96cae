/- Plain laws (3). -/
import Derived.Test.YtlnclppkepgdmaaGreatDQM2
import Derived.Test.YtlnclppkepgdmaaGreatDQS2
open List renaming mem_cons_of_mem->bn,length_append->bo,length_drop->cb,length_set->ce,mem_cons_self->cj,length_cons->cq,mem_append->cu,nodup_cons->cw,mem_range->cy,length_singleton->cz,length_replicate->c7,length_nil->c9,mem_map->db,drop_zero->dc,drop_length->dh,mem_filterMap->dj,length_range->dt,nodup_range->dz,length_map->d5,range->d8,replicate->d9,mem_cons->ec
open Classical renaming byContradiction->bq,not_not->ci
open Bool renaming not_false->bu,not_true->bv
open Nat renaming le_refl->bw,lt_trichotomy->bz,div_div_eq_div_mul->cm,pow_succ->dv,le_of_lt->dw,dvd_mul_left->dy,not_lt_zero->d6
open Int renaming mul_right_comm->cd,mul_le_mul_of_nonneg_right->c8,le_of_mul_le_mul_right->dd,le_refl->de,mul_assoc->df,le_trans->di,mul_comm->dp,natAbs_mul->d7
open Prod renaming ext->dm,fst->ed
namespace Go.Proofs.YtlnclppkepgdmaaGreat
open Go.Vm Classical
theorem aAd (c:aO) (n:Int) (hl:c.az.length<=1000000):(∀k,k<c.az.length->(c.az[k]!).1=n->(∀j,j<k->(c.az[j]!).1≠n)->rQ c n=some (k:Int))/\((∀k,k<c.az.length->(c.az[k]!).1≠n)->rQ c n=some (-1)):=by
 unfold rQ;refine nC (body:=sM) (fun i=>(n,(i:Int),c.ar.1,c.ar.2,c.au.aa,c.ax.ao,c.ax.aq,c.ay.ai.ac,c.ay.ai.ae,c.ay.ai.af,c.ay.aj,c.ay.am,c.az)) c.az.length (fun i=>(c.az[i]!).1=n) (fun i=>(i:Int)) (fun i hi=>?_) ?_
 · have e1:decide ((i:Int)<(c.az.length:Int))=true:=aK (by omega)
   unfold sM;simp only [aF,e1,cond_true,aE c.az i hi,aB,aV (show i<1000000000 by omega)]
   constructor
   · intro h;rw [dW h];rfl
   intro h;rw [eT h];rfl
 unfold sM
 have:decide ((c.az.length:Int)<(c.az.length:Int))=false:=dec_f (by omega)
 simp only [aF,this,cond_false]
theorem MN {ds:List wO} (hu:Up ds) (hl:ds.length<=1000000) (n:Int):(∀k,k<ds.length->(ds[k]!).1=n->rN ds n=some ((k:Int),true))/\((∀k,k<ds.length->(ds[k]!).1≠n)-> ∃m:Nat,rN ds n=some ((m:Int),false)):=by
 have bs:=G5 ds n hl (vM.1 hu);unfold rN;rw [aVn];constructor
 · intro k hk he;rw [bs.1 k hk he];rfl
 intro h
 obtain ⟨m,_,_,_,e⟩:=bs.2 h;exact ⟨m,by rw [e];rfl⟩
theorem aR.bd {c:aO} (ok:aR c):c.az.length<=200/\c.au.aa.length<=64/\c.ax.aq.length<=200:=by
 have:=ok.hd;have:=ok.agd.bd;have:=ok.fld.1;have:=ok.crt.len
 omega
theorem jX {c:aO} (ok:aR c):jI c=some c:=by
 have bd:=ok.bd;unfold jI nN qX;simp only [aZ (show c.au.aa.length<=1048576 by omega),aZ (show c.ax.aq.length<=1048576 by omega),aZ (show c.az.length<=1048576 by omega),aB,vL ok.agd]
theorem iI {c:aO} (ok:aR c):lK c=some c:=by
 have bd:=ok.bd;have ab:=ok.agd.bd;have hl:=ok.agd.so.fl;have hn:=ok.agd.so.n2;have hu:=ok.agd.so.ul;unfold lK;simp only [aZ (show c.au.aa.length<=1048576 by omega),aZ (show c.ax.aq.length<=1048576 by omega),aZ (show c.az.length<=1048576 by omega),aZ (show c.ay.aj.length<=1048576 by omega),aZ (show c.ay.am.length<=1048576 by omega),
  aZ (show c.ay.ai.ac.length<=1048576 by omega),aZ (show c.ay.ai.ae.length<=1048576 by omega),aZ (show c.ay.ai.af.length<=1048576 by omega),aB]
theorem tC {cs:List wO} {i:Nat} (hu:Up cs) (hi:i<cs.length) {x:wO} (hx:x∈cs.eraseIdx i):x∈cs/\x.1≠(cs[i]!).1:=by
 rw [zG,cu] at hx;have ub:=vM.1 hu;rcases hx with hx|hx
 · obtain ⟨j,h1,h2,rfl⟩:=cL.1 hx
   have:=ub j i h1 hi
   exact ⟨bE h2,by omega⟩
 obtain ⟨j,hj,rfl⟩:=aU.1 hx
 rw [cb] at hj;rw [uF]
 have:=ub i (i+1+j) (by omega) (by omega)
 exact ⟨bE (by omega),by omega⟩
theorem F7 {c:aO} (ok:aR c) (i:Nat) (hi:i<c.ax.aq.length): ∀j,j<(pW c.ax i).aq.length->kE c.au.aa ((pW c.ax i).aq[j]!).2:=by
 intro j hj;have hm:(pW c.ax i).aq[j]!∈c.ax.aq:=(tC ok.crt_up hi (bE hj)).1;obtain ⟨m,hm1,hm2⟩:=aU.1 hm;rw [<- hm2];exact ok.known m hm1
theorem aBJ {c:aO} (ok:aR c) {i:Nat} (hi:i<c.ax.aq.length):
 ∃c':aO,jG c (c.ax.aq[i]!).1=some (c',(c.ax.aq[i]!).2,0)/\qY c (c.ax.aq[i]!).1=some c'/\aR c'/\c'.au=c.au/\c'.ar=c.ar/\c'.ax=pW c.ax i:=by
 have bd:=ok.bd;have rm:=F6 ok.crt hi (n:=(c.ax.aq[i]!).1) rfl;have wo:=ML ok.crt hi (n:=(c.ax.aq[i]!).1) rfl;have fe:=ok.fol.erase (i:=i) hi;have pd:=MN ok.due_up (by omega) (c.ax.aq[i]!).1
 have da:=aAd c (c.ax.aq[i]!).1 (by omega)
 cases hf:(bL c.au.aa (c.ax.aq[i]!).2 c.ar).2 with
 |false=>
  have no: ∀k,k<c.az.length->(c.az[k]!).1≠(c.ax.aq[i]!).1:=by
   intro k hk he;obtain ⟨x,hx,h1,h2,_⟩:=ok.fol.az _ (bE hk);obtain ⟨j,hj,rfl⟩:=aU.1 hx;have ub:=vM.1 ok.crt_up
   have:j=i:=by
    rcases bz j i with h|h|h
    · have:=ub j i h hi;omega
    · exact h
    have:=ub i j h hj;omega
   rw [this,hf] at h2;cases h2
  refine ⟨⟨c.ar,c.au,pW c.ax i,c.ay,c.az⟩,?_,?_,?_,rfl,rfl,rfl⟩
  · unfold jG
    obtain ⟨m,e⟩:=pd.2 no;simp only [rm,aB,show ((0:Int) !=0)=false from rfl,cond_false,iI ok,e]
  · unfold qY
    simp only [jX ok,aB,wo,da.2 no,dec_f (show¬(0:Int)<= -1 by omega),cond_false]
  exact ⟨ok.nowv,ok.now64,ok.fld,Q9 ok.crt hi,ok.agd,ok.w200,ok.hd,F7 ok i hi,fe.1 hf⟩
 |true=>
  obtain ⟨k,hk,k1,k2,k3⟩:=fe.2 hf;obtain ⟨w,hw,hev⟩:=aU.1 k2;have hh:(c.ay.aj[w]!).2.2.2=(c.az[k]!).2:=by rw [hev]
  have ub:=vM.1 ok.due_up;have before: ∀j,j<k->(c.az[j]!).1≠(c.ax.aq[i]!).1:=fun j hj he=>by have:=ub j k hj hk;omega
  have dl:(c.az.eraseIdx k).length=c.az.length-1:=aDh hk;obtain ⟨L,d1,d2⟩:=F3 c.az k hk;refine ⟨⟨c.ar,c.au,pW c.ax i,eL c.ay w,c.az.eraseIdx k⟩,?_,?_,?_,rfl,rfl,rfl⟩
  · unfold jG
    simp only [rm,aB,show ((0:Int) !=0)=false from rfl,cond_false,iI ok,pd.1 k hk k1,cond_true,aE c.az k hk,uK ok.agd hw ok.agd.fit hh,aV (show k<1000000000 by omega),Q4,d1,d2]
  · unfold qY
    have s1:jS c.az 0 (k:Int)=some (c.az.take k):=mQ c.az k (by omega)
    have s2:jS c.az ((k+1:Nat):Int) (c.az.length:Int)=some (c.az.drop (k+1)):=by
     unfold jS;rw [if_pos ⟨by omega,by omega,by omega⟩]
     simp only [Int.toNat_natCast];rw [List.take_of_length_le (by rw [cb];exact bw _)]
    have tl:(c.az.take k).length=k:=by rw [List.length_take];omega
    have dl2:(c.az.drop (k+1)).length=c.az.length- (k+1):=cb;simp only [jX ok,aB,wo,da.1 k hk k1 before,aK (show (0:Int)<=(k:Int) by omega),cond_true,aE c.az k hk,CL ok.agd hw hh,s1,aZ (show (c.az.take k).length<=1048576 by omega),aV (show k<1000000000 by omega),aF,s2,
     eU (show (c.az.take k).length+(c.az.drop (k+1)).length<=1048576 by omega),zG]
    cases hem:(c.az.drop (k+1)).isEmpty with
    |true=>
     rw [List.isEmpty_iff] at hem;rw [hem,List.append_nil];rfl
    |false=>rfl
  have rem:=MJ ok.agd hw
  have rmem:=Q3 ok.agd hw;have hlen:(eL c.ay w).aj.length=c.ay.aj.length-1:=by
   have h1:=rem.hl;have h2:=ok.agd.hl;have h3:(eL c.ay w).ai=gC c.ay.ai (c.ay.aj[w]!).2.2.2:=by unfold eL;split<;>rfl
   rw [h3] at h1;change _+(c.ay.ai.af++[_]).length=c.ay.ai.ac.length at h1;rw [bo] at h1;simp only [cq,c9] at h1;omega
  have wlen:(eL c.ay w).am.length=200:=by
   have h1:=rem.wl;have h3:(eL c.ay w).ai=gC c.ay.ai (c.ay.aj[w]!).2.2.2:=by unfold eL;split<;>rfl
   rw [h3] at h1;change _=c.ay.ai.ac.length at h1;rw [h1,<- ok.agd.wl,ok.w200]
  refine ⟨ok.nowv,ok.now64,ok.fld,Q9 ok.crt hi,rem,wlen,?_,F7 ok i hi,?_⟩
  · show (eL c.ay w).aj.length=(c.az.eraseIdx k).length
    rw [hlen,dl,ok.hd]
  refine k3.mono fun x hx e he hm=>(rmem e).2 ⟨hm,fun h=>?_⟩
  have:=(tC ok.crt_up hi hx).2
  rw [h,hev] at he;exact this he.symm
theorem EQ {c:aO} (ok:aR c) {i:Nat} (_hi:i<c.ax.aq.length) {c':aO} (h:jG c (c.ax.aq[i]!).1=some (c',(c.ax.aq[i]!).2,0)):xT c (c.ax.aq[i]!).1=some (c',0):=by
 unfold xT;rw [mR ok.fit,if_pos ok];simp only [aB,show ((0:Int) !=0)=false from rfl,cond_false,h]
abbrev fB:aO:=⟨(0,0),⟨[]⟩,⟨0,[]⟩,⟨⟨[],[],[]⟩,[],[]⟩,[]⟩
theorem WL {l:List Pt} (ok:bZ l) {id:Int} (h:pF l id): ¬(fU l id).1<0:=by
 obtain ⟨h1,_⟩:=dG ok h
 have:=h1.1
 omega
theorem aDi {c:aO} (ok:aR c) {x:Int×Int} (hx:gF x) (hb:kE c.au.aa x) (hn: ¬wP c.ax.aq x):
 (jW c x=some (fB,0,18)/\nA c x=some (fB,0,18)/\(HX c.ax\/ ¬CG c.ay.ai))\/
 ∃c':aO,jW c x=some (c',c.ax.ao,0)/\nA c x=some (c',c.ax.ao,0)/\aR c'/\c'.au=c.au/\c'.ar=c.ar/\c'.ax=qR c.ax x/\(c'.ay.ai=c.ay.ai\/c'.ay.ai=hY c.ay.ai):=by
 have bd:=ok.bd;have n0:=ok.crt.n0;have n1:=ok.crt.n1;have fit:=ok.fit;have ad:=Z8 ok.crt hx;have rd:=WJ ok.crt hx;rw [if_neg hn] at ad rd;have hc:gZ c=some 0:=by rw [mR fit,if_pos ok]
 have p1:=pG ok.fld x.1;have p2:=pG ok.fld x.2;have q1:=WL ok.fld hb.1;have q2:=WL ok.fld hb.2;have wh:=BO ok.fld hx ok.nowv ok.now64;rw [if_pos hb] at wh;have rw':=BP ok.fld ok.now64 hb
 by_cases hf:HX c.ax
 · rw [if_pos hf] at ad rd
   left;refine ⟨?_,?_,.inl hf⟩
   · unfold jW eA
     simp only [hc,aB,show ((0:Int) !=0)=false from rfl,cond_false,ad,show ((18:Int)==8)=false from rfl,p1,p2,dec_f q1,dec_f q2,show ((18:Int) !=0)=true from rfl,cond_true]
   unfold nA
   simp only [rd,aB,show ((18:Int) !=0)=true from rfl,cond_true]
 rw [if_neg hf] at ad rd;have cok:=aBH ok.crt hx hn hf;have known': ∀j,j<(qR c.ax x).aq.length->kE c.au.aa ((qR c.ax x).aq[j]!).2:=by
  intro j hj;rw [G6] at hj;rw [zH]
  by_cases h:j<c.ax.aq.length
  · rw [if_pos h];exact ok.known j h
  rw [if_neg h,if_pos (by omega)];exact hb
 have fresh: ∀e∈c.ay.aj,Ev.num e≠c.ax.ao:=by
  intro e he hne;obtain ⟨d,hd,h1⟩:=ok.nums e he;obtain ⟨y,hy,h2,_⟩:=ok.fol.az d hd;obtain ⟨j,hj,rfl⟩:=aU.1 hy
  have:=(ok.crt.nr j hj).2
  omega
 have sn:=ok.fol.snoc (x:=(c.ax.ao,x));cases hw:(bL c.au.aa x c.ar).2 with
 |false=>
  right;refine ⟨⟨c.ar,c.au,qR c.ax x,c.ay,c.az⟩,?_,?_,⟨ok.nowv,ok.now64,ok.fld,cok,ok.agd,ok.w200,ok.hd,known',sn.1 hw⟩,rfl,rfl,rfl,.inl rfl⟩
  · unfold jW eA
    simp only [hc,aB,show ((0:Int) !=0)=false from rfl,cond_false,ad,show ((0:Int)==8)=false from rfl,p1,p2,dec_f q1,dec_f q2,iI ok,wh,hw]
  unfold nA
  simp only [rd,aB,show ((0:Int) !=0)=false from rfl,cond_false,jX ok,rw',hw,bu,cond_true]
 |true=>
  obtain ⟨t1,t2⟩:=KS (dG ok.fld hb.2).1 (dG ok.fld hb.1).1 ok.now64 ok.nowv hw
  by_cases op:CG c.ay.ai
  · right
    have pu:=CI ok.agd op ok.agd.fit (t:=(bL c.au.aa x c.ar).1) (n:=c.ax.ao) t1 t2 n0 n1 fresh;have rp:=EP ok.agd op (t:=(bL c.au.aa x c.ar).1) (n:=c.ax.ao) t1 t2 n0 n1;have pok:=aDf ok.agd op (t:=(bL c.au.aa x c.ar).1) (n:=c.ax.ao) t1 t2 n0 n1 fresh
    have pmem:=Z4 ok.agd op (t:=(bL c.au.aa x c.ar).1) (n:=c.ax.ao) t1;have plen:=KY ok.agd op (t:=(bL c.au.aa x c.ar).1) (n:=c.ax.ao) t1;have ap: ∀h:Int×Int,bV c.az [(c.ax.ao,h)]=some (c.az++[(c.ax.ao,h)]):=fun h=>eU (by simp;omega)
    have wlen:(nQ c.ay (bL c.au.aa x c.ar).1 c.ax.ao).am.length=200:=by
     have:=pok.wl
     change _=(c.ay.ai.ac.set _ _).length at this;rw [ce] at this;rw [this,<- ok.agd.wl,ok.w200]
    refine ⟨⟨c.ar,c.au,qR c.ax x,nQ c.ay (bL c.au.aa x c.ar).1 c.ax.ao,c.az++[(c.ax.ao,nP c.ay.ai)]⟩,?_,?_,⟨ok.nowv,ok.now64,ok.fld,cok,pok,wlen,?_,known',?_⟩,rfl,rfl,rfl,.inr rfl⟩
    · unfold jW eA
      simp only [hc,aB,show ((0:Int) !=0)=false from rfl,cond_false,ad,show ((0:Int)==8)=false from rfl,p1,p2,dec_f q1,dec_f q2,iI ok,wh,hw,cond_true,pu,ap]
    · unfold nA
      simp only [rd,aB,show ((0:Int) !=0)=false from rfl,cond_false,jX ok,rw',hw,bv,vK ok.agd.so,aK op,rp,ap]
    · show (nQ c.ay (bL c.au.aa x c.ar).1 c.ax.ao).aj.length=(c.az++[_]).length
      rw [plen,bo,ok.hd];rfl
    have fm:aX c.au.aa c.ar (nQ c.ay (bL c.au.aa x c.ar).1 c.ax.ao).aj c.ax.aq c.az:=ok.fol.mono fun y hy e he hm=>(pmem e).2 (.inr hm)
    exact (fm.snoc (x:=(c.ax.ao,x))).2 _ hw rfl ((pmem _).2 (.inl rfl))
  left
  have pu:=CJ ok.agd op ok.agd.fit (t:=(bL c.au.aa x c.ar).1) (n:=c.ax.ao) t1 t2 n0 n1 fresh;refine ⟨?_,?_,.inr op⟩
  · unfold jW eA
    simp only [hc,aB,show ((0:Int) !=0)=false from rfl,cond_false,ad,show ((0:Int)==8)=false from rfl,p1,p2,dec_f q1,dec_f q2,iI ok,wh,hw,cond_true,pu,show ((18:Int) !=0)=true from rfl]
  unfold nA
  simp only [rd,aB,show ((0:Int) !=0)=false from rfl,cond_false,jX ok,rw',hw,bv,vK ok.agd.so,dec_f op,bu,cond_true]
theorem Up.inj {cs:List wO} (h:Up cs) {x y:wO} (hx:x∈cs) (hy:y∈cs) (he:x.1=y.1):x=y:=by
 obtain ⟨i,hi,rfl⟩:=aU.1 hx;obtain ⟨j,hj,rfl⟩:=aU.1 hy;have ub:=vM.1 h;rcases bz i j with h1|h1|h1
 · have:=ub i j h1 hj;omega
 · rw [h1]
 have:=ub j i h1 hi;omega
structure RC (c:aO) (f:List Pt) (i k:Nat) (a:aP) (ds:List wO):Prop where
 ok:fQ a
 w2:a.am.length=200
 new:aX f c.ar a.aj (c.ax.aq.take i) ds
 old:aX c.au.aa c.ar a.aj (c.ax.aq.drop i) (c.az.drop k)
 kl:k<=c.az.length
 cnt:a.aj.length=ds.length+(c.az.length-k)
theorem aVo {a:aP} (ok:fQ a) {w:Nat} (hw:w<a.aj.length):(eL a w).aj.length=a.aj.length-1/\(eL a w).am.length=a.am.length:=by
 have rem:=MJ ok hw;have h3:(eL a w).ai=gC a.ai (a.aj[w]!).2.2.2:=by unfold eL;split<;>rfl
 have h1:=rem.hl;have h2:=ok.hl;have h4:=rem.wl;rw [h3] at h1 h4;change _+(a.ai.af++[_]).length=a.ai.ac.length at h1;change _=a.ai.ac.length at h4;rw [bo] at h1;simp only [cq,c9] at h1;exact ⟨by omega,by rw [h4,ok.wl]⟩
theorem aOy {a:aP} {t:Int×Int} {n:Int} (ok:fQ a) (pok:fQ (nQ a t n)):(nQ a t n).am.length=a.am.length:=by
 have:=pok.wl
 change _=(a.ai.ac.set _ _).length at this;rw [ce] at this;rw [this,ok.wl]
section
variable {c : aO} (ok : aR c) {f : List Pt} (fok : bZ f) (kn : ∀ i, i < c.ax.aq.length -> kE f (c.ax.aq[i]!).2)
include ok
theorem K0 {i:Nat} {x:wO} (hx:x∈c.ax.aq.take i) (hi:i<c.ax.aq.length):x.1≠(c.ax.aq[i]!).1:=by
 obtain ⟨j,h1,h2,rfl⟩:=cL.1 hx
 have:=ok.crt.up j i h1 hi
 omega
theorem D2 {i:Nat} {x:wO} (hx:x∈c.ax.aq.drop (i+1)) (hi:i<c.ax.aq.length):x.1≠(c.ax.aq[i]!).1:=by
 obtain ⟨j,h1,rfl⟩:=aU.1 hx;rw [cb] at h1;rw [uF]
 have:=ok.crt.up i (i+1+j) (by omega) (by omega)
 omega
theorem aEp {i k:Nat} {a:aP} {ds:List wO} (inv:RC c f i k a ds) (hi:i<c.ax.aq.length) (was:(bL c.au.aa (c.ax.aq[i]!).2 c.ar).2=false): ∀e∈a.aj,Ev.num e≠(c.ax.aq[i]!).1:=by
 have u1:Up (c.ax.aq.take i):=ok.crt_up.sublist (List.take_sublist _ _);have u2:Up (c.ax.aq.drop i):=ok.crt_up.sublist (List.drop_sublist _ _);have d1:=inv.new.up u1;have d2:=inv.old.up u2;have cross: ∀x∈ds,∀y∈c.az.drop k,x.1<y.1:=by
  intro x hx y hy;obtain ⟨p,hp,h1,_⟩:=inv.new.az x hx;obtain ⟨q,hq,h2,_⟩:=inv.old.az y hy;obtain ⟨m,m1,m2,rfl⟩:=cL.1 hp;obtain ⟨n,n1,rfl⟩:=aU.1 hq;rw [cb] at n1;rw [uF] at h2
  have:=ok.crt.up m (i+n) (by omega) (by omega)
  omega
 have nd:((ds++c.az.drop k).map fun x=>x.1).Nodup:=aAc (by
  show List.Pairwise _ _;rw [List.pairwise_append];exact ⟨d1,d2,cross⟩)
 have only:=NG (H:=a.aj) nd (by rw [d5,bo,cb,inv.cnt];exact bw _) (fun n hn=>by
  obtain ⟨x,hx,rfl⟩:=db.1 hn;rcases cu.1 hx with hx|hx
  · obtain ⟨p,hp,h1,h2,h3⟩:=inv.new.az x hx
    exact ⟨_,h3,h1.symm⟩
  obtain ⟨p,hp,h1,h2,h3⟩:=inv.old.az x hx
  exact ⟨_,h3,h1.symm⟩)
 intro e he hne;obtain ⟨x,hx,h1⟩:=db.1 (only e he);rcases cu.1 hx with hx|hx
 · obtain ⟨p,hp,h2,_⟩:=inv.new.az x hx
   exact K0 ok hp hi (by rw [<- h2,h1,hne])
 obtain ⟨p,hp,h2,h3,_⟩:=inv.old.az x hx
 have hp':p∈c.ax.aq:=List.mem_of_mem_drop hp
 have:=ok.crt_up.inj hp' (bE hi) (by rw [<- h2,h1,hne])
 rw [this,was] at h3;cases h3
def stP (c:aO) (f:List Pt) (i:Nat) (a:aP) (ds:List wO):=
 (c.ax.aq,(c.ax.aq.length:Int),(i:Int),c.ar.1,c.ar.2,c.au.aa,c.ax.ao,c.ax.aq,c.ay.ai.ac,c.ay.ai.ae,c.ay.ai.af,c.ay.aj,c.ay.am,c.az,f,(0:Int),(0:Int),(0:Int),c.ar.1,c.ar.2,c.ax.ao,c.ax.aq,a.ai.ac,a.ai.ae,a.ai.af,a.aj,a.am,f,ds)
def stR (c:aO) (f:List Pt) (i:Nat) (a:aP) (ds:List wO):=
 ((i:Int),c.ar.1,c.ar.2,c.au.aa,c.ax.ao,c.ax.aq,c.ay.ai.ac,c.ay.ai.ae,c.ay.ai.af,c.ay.aj,c.ay.am,c.az,f,(0:Int),(0:Int),(0:Int),c.ar.1,c.ar.2,f,c.ax.ao,c.ax.aq,a.ai.ac,a.ai.ae,a.ai.af,a.aj,a.am,ds)
include fok kn
theorem aGP {i k:Nat} {a:aP} {ds:List wO} (inv:RC c f i k a ds) (hi:i<c.ax.aq.length) (hds:ds.length<=i):
 (eC (stP c f i a ds)=some (.done (.done (fB,18)))/\dA (stR c f i a ds)=some (.done (fB,18)))\/
 ∃k' a' ds',eC (stP c f i a ds)=some (.next (stP c f (i+1) a' ds'))/\dA (stR c f i a ds)=some (.next (stR c f (i+1) a' ds'))/\RC c f (i+1) k' a' ds'/\ds'.length<=i+1:=by
 have bd:=ok.bd;have e1:decide ((i:Int)<(c.ax.aq.length:Int))=true:=aK (by omega)
 have sc:=aV (show i<1000000000 by omega)
 have cg:=aE c.ax.aq i hi;have hb:=kn i hi;have wn:=BO fok (x:=(c.ax.aq[i]!).2) (t:=(c.ar.1,c.ar.2)) (ok.crt.cv i hi) ok.nowv ok.now64;rw [if_pos hb] at wn;have wr:=BP fok (x:=(c.ax.aq[i]!).2) (t:=(c.ar.1,c.ar.2)) ok.now64 hb;have pd:=MN ok.due_up (by omega) (c.ax.aq[i]!).1
 have da:=aAd c (c.ax.aq[i]!).1 (by omega)
 have dr:=uL hi;have tk:=iR hi;have old:=inv.old;rw [dr] at old;have aeta:aP.mk (bA.mk a.ai.ac a.ai.ae a.ai.af) a.aj a.am=a:=rfl
 have ceta:(aO.mk (c.ar.1,c.ar.2) (Field.mk c.au.aa) (bM.mk c.ax.ao c.ax.aq) (aP.mk (bA.mk c.ay.ai.ac c.ay.ai.ae c.ay.ai.af) c.ay.aj c.ay.am) c.az)=c:=rfl;have other: ∀x∈c.ax.aq.take i,x.1≠(c.ax.aq[i]!).1:=fun x hx=>K0 ok hx hi
 have other': ∀x∈c.ax.aq.drop (i+1),x.1≠(c.ax.aq[i]!).1:=fun x hx=>D2 ok hx hi
 cases hwas:(bL c.au.aa (c.ax.aq[i]!).2 c.ar).2 with
 |true=>
  obtain ⟨d,ds',hd1,hd2,hd3,hd4⟩:=(aX.cons_true hwas).1 old;have hk:k<c.az.length:=by
   refine bq fun h=>?_
   rw [List.drop_eq_nil_of_le (by omega)] at hd1
   cases hd1
  have dk:=uL hk;rw [dk] at hd1;injection hd1 with hd5 hd6;subst hd5 hd6;obtain ⟨w,hw,hev⟩:=aU.1 hd3;have hh:(a.aj[w]!).2.2.2=(c.az[k]!).2:=by rw [hev]
  have hnum:Ev.num a.aj[w]! =(c.ax.aq[i]!).1:=by rw [hev]
  have before: ∀j,j<k->(c.az[j]!).1≠(c.ax.aq[i]!).1:=fun j hj he=>by
   have:=vM.1 ok.due_up j k hj hk
   omega
  have pl:=pd.1 k hk hd2;have dq:=da.1 k hk hd2 before;have gk:=aE c.az k hk;have k0:decide ((0:Int)<=(k:Int))=true:=aK (by omega)
  have ap:bV ds [c.az[k]!]=some (ds++[c.az[k]!]):=eU (by simp;omega)
  cases his:(bL f (c.ax.aq[i]!).2 c.ar).2 with
  |true=>
   right;have tt:bK (bL f (c.ax.aq[i]!).2 c.ar).1/\nD (bL f (c.ax.aq[i]!).2 c.ar).1:=KS (dG fok hb.2).1 (dG fok hb.1).1 ok.now64 ok.nowv his;obtain ⟨t1,t2⟩:=tt;have re:=NU inv.ok inv.ok.fit (t:=(bL f (c.ax.aq[i]!).2 c.ar).1) hw hh t1 t2;have rr:=MI inv.ok (t:=(bL f (c.ax.aq[i]!).2 c.ar).1) hw hh t1 t2
   have rok:=aGJ inv.ok hw t1 t2;have rmem:=aEo inv.ok hw t1;have rlen:=MH inv.ok hw t1;have stay: ∀(cs:List wO),(∀x∈cs,x.1≠(c.ax.aq[i]!).1)-> ∀x∈cs,∀e:Ev,e.num=x.1->e∈a.aj->e∈(lZ a w (bL f (c.ax.aq[i]!).2 c.ar).1).aj:=by
    intro cs hcs x hx e he hm;refine (rmem e).2 (.inr ⟨hm,fun h=>hcs x hx ?_⟩)
    rw [<- he,h,hnum]
   refine ⟨k+1,lZ a w (bL f (c.ax.aq[i]!).2 c.ar).1,ds++[c.az[k]!],?_,?_,⟨rok,by rw [rlen.2];exact inv.w2,?_,?_,by omega,?_⟩,by simp;omega⟩
   · unfold eC stP
     simp only [e1,cond_true,cg,aB,wn,pl,his,gk,aeta,re,ap,show ((0:Int) !=0)=false from rfl,cond_false,sc]
   · unfold dA stR
     simp only [aF,e1,cond_true,cg,aB,ceta,dq,wr,his,k0,gk,aeta,rr,ap,bv,cond_false,sc]
   · rw [tk]
     exact ((inv.new.mono (stay _ other)).snoc (x:=c.ax.aq[i]!)).2 _ his hd2 ((rmem _).2 (.inl (by
      show _=((bL f (c.ax.aq[i]!).2 c.ar).1.1,(bL f (c.ax.aq[i]!).2 c.ar).1.2,(a.aj[w]!).2.2);rw [hev])))
   · exact hd4.mono (stay _ other')
   rw [rlen.1,inv.cnt,bo]
   simp only [cq,c9];omega
  |false=>
   right;have rv:=uK inv.ok hw inv.ok.fit hh;have rr:=CL inv.ok hw hh;have rok:=MJ inv.ok hw;have rmem:=Q3 inv.ok hw;have rlen:=aVo inv.ok hw;have stay: ∀(cs:List wO),(∀x∈cs,x.1≠(c.ax.aq[i]!).1)-> ∀x∈cs,∀e:Ev,e.num=x.1->e∈a.aj->e∈(eL a w).aj:=by
    intro cs hcs x hx e he hm;refine (rmem e).2 ⟨hm,fun h=>hcs x hx ?_⟩
    rw [<- he,h,hnum]
   refine ⟨k+1,eL a w,ds,?_,?_,⟨rok,by rw [rlen.2];exact inv.w2,?_,hd4.mono (stay _ other'),by omega,?_⟩,by omega⟩
   · unfold eC stP
     simp only [e1,cond_true,cg,aB,wn,pl,his,gk,aeta,rv,show ((0:Int) !=0)=false from rfl,cond_false,sc]
   · unfold dA stR
     simp only [aF,e1,cond_true,cg,aB,ceta,dq,wr,his,k0,gk,aeta,rr,bu,cond_false,sc]
   · rw [tk]
     exact ((inv.new.mono (stay _ other)).snoc (x:=c.ax.aq[i]!)).1 his
   have:=inv.cnt
   rw [rlen.1];omega
 |false=>
  have fol:=(aX.cons_false hwas).1 old;have no: ∀j,j<c.az.length->(c.az[j]!).1≠(c.ax.aq[i]!).1:=by
   intro j hj he;obtain ⟨x,hx,h1,h2,_⟩:=ok.fol.az _ (bE hj)
   have:=ok.crt_up.inj hx (bE hi) (by rw [<- h1,he])
   rw [this,hwas] at h2;cases h2
  obtain ⟨m,pl⟩:=pd.2 no;have dq:=da.2 no;have k0:decide ((0:Int)<= -1)=false:=dec_f (by omega)
  cases his:(bL f (c.ax.aq[i]!).2 c.ar).2 with
  |true=>
   have tt:bK (bL f (c.ax.aq[i]!).2 c.ar).1/\nD (bL f (c.ax.aq[i]!).2 c.ar).1:=KS (dG fok hb.2).1 (dG fok hb.1).1 ok.now64 ok.nowv his;obtain ⟨t1,t2⟩:=tt;have n0:=(ok.crt.nr i hi).1;have n1:(c.ax.aq[i]!).1<=1000000:=by have:=(ok.crt.nr i hi).2;have:=ok.crt.n1;omega
   have fresh:=aEp ok inv hi hwas
   by_cases op:CG a.ai
   · right
     have pu:=CI inv.ok op inv.ok.fit (t:=(bL f (c.ax.aq[i]!).2 c.ar).1) (n:=(c.ax.aq[i]!).1) t1 t2 n0 n1 fresh;have rp:=EP inv.ok op (t:=(bL f (c.ax.aq[i]!).2 c.ar).1) (n:=(c.ax.aq[i]!).1) t1 t2 n0 n1;have pok:=aDf inv.ok op (t:=(bL f (c.ax.aq[i]!).2 c.ar).1) (n:=(c.ax.aq[i]!).1) t1 t2 n0 n1 fresh
     have pmem:=Z4 inv.ok op (t:=(bL f (c.ax.aq[i]!).2 c.ar).1) (n:=(c.ax.aq[i]!).1) t1;have plen:=KY inv.ok op (t:=(bL f (c.ax.aq[i]!).2 c.ar).1) (n:=(c.ax.aq[i]!).1) t1;have ap: ∀h:Int×Int,bV ds [((c.ax.aq[i]!).1,h)]=some (ds++[((c.ax.aq[i]!).1,h)]):=fun h=>eU (by simp;omega)
     have opn:=vK inv.ok.so;rw [aK op] at opn;refine ⟨k,nQ a (bL f (c.ax.aq[i]!).2 c.ar).1 (c.ax.aq[i]!).1,ds++[((c.ax.aq[i]!).1,nP a.ai)],?_,?_,⟨pok,by rw [aOy inv.ok pok];exact inv.w2,?_,?_,inv.kl,?_⟩,by simp;omega⟩
     · unfold eC stP
       simp only [e1,cond_true,cg,aB,wn,pl,his,aeta,pu,ap,show ((0:Int) !=0)=false from rfl,cond_false,sc]
     · unfold dA stR
       simp only [aF,e1,cond_true,cg,aB,ceta,dq,wr,his,k0,aeta,rp,ap,bv,cond_false,sc,opn]
     · rw [tk]
       exact ((inv.new.mono fun x hx e he hm=>(pmem e).2 (.inr hm)).snoc (x:=c.ax.aq[i]!)).2 _ his rfl ((pmem _).2 (.inl rfl))
     · exact fol.mono fun x hx e he hm=>(pmem e).2 (.inr hm)
     have:=inv.cnt
     rw [plen,bo];simp only [cq,c9];omega
   left
   have pu:=CJ inv.ok op inv.ok.fit (t:=(bL f (c.ax.aq[i]!).2 c.ar).1) (n:=(c.ax.aq[i]!).1) t1 t2 n0 n1 fresh;have ap: ∀h:Int×Int,bV ds [((c.ax.aq[i]!).1,h)]=some (ds++[((c.ax.aq[i]!).1,h)]):=fun h=>eU (by simp;omega)
   have opn:=vK inv.ok.so;rw [dec_f op] at opn;constructor
   · unfold eC stP
     simp only [e1,cond_true,cg,aB,wn,pl,his,aeta,pu,ap,show ((18:Int) !=0)=true from rfl,cond_false]
   unfold dA stR
   simp only [aF,e1,cond_true,cg,aB,ceta,dq,wr,his,k0,aeta,bv,bu,cond_false,opn]
  |false=>
   right;refine ⟨k,a,ds,?_,?_,⟨inv.ok,inv.w2,?_,fol,inv.kl,inv.cnt⟩,by omega⟩
   · unfold eC stP
     simp only [e1,cond_true,cg,aB,wn,pl,his,show ((0:Int) !=0)=false from rfl,cond_false,sc]
   · unfold dA stR
     simp only [aF,e1,cond_true,cg,aB,ceta,dq,wr,his,k0,bu,cond_false,sc]
   rw [tk]
   exact (inv.new.snoc (x:=c.ax.aq[i]!)).1 his
theorem aXR:
 (rO c ⟨f⟩=some (fB,18)/\oC c ⟨f⟩=some (fB,18))\/
 ∃c':aO,rO c ⟨f⟩=some (c',0)/\oC c ⟨f⟩=some (c',0)/\aR c'/\c'.au.aa=f/\c'.ar=c.ar/\c'.ax=c.ax:=by
 have bd:=ok.bd;have f64:=fok.1;have run: ∀(d i k:Nat) (a:aP) (ds:List wO),c.ax.aq.length-i<=d->i<=c.ax.aq.length->RC c f i k a ds->ds.length<=i->
  (aH eC (stP c f i a ds)=some (.done (fB,18))/\aH dA (stR c f i a ds)=some (fB,18))\/
  ∃c':aO,aH eC (stP c f i a ds)=some (.done (c',0))/\aH dA (stR c f i a ds)=some (c',0)/\aR c'/\c'.au.aa=f/\c'.ar=c.ar/\c'.ax=c.ax:=by
  have fin: ∀(k:Nat) (a:aP) (ds:List wO),RC c f c.ax.aq.length k a ds-> ∃c':aO,aH eC (stP c f c.ax.aq.length a ds)=some (.done (c',0))/\aH dA (stR c f c.ax.aq.length a ds)=some (c',0)/\aR c'/\c'.au.aa=f/\c'.ar=c.ar/\c'.ax=c.ax:=by
   intro k a ds inv;have e1:decide ((c.ax.aq.length:Int)<(c.ax.aq.length:Int))=false:=dec_f (by omega)
   have hk:c.az.length-k=0:=by
    have:=inv.old
    rw [dh] at this
    have:c.az.drop k=[]:=this
    rw [List.drop_eq_nil_iff] at this;omega
   have new:=inv.new;rw [List.take_length] at new;refine ⟨⟨c.ar,⟨f⟩,c.ax,a,ds⟩,aL ?_,aL ?_,⟨ok.nowv,ok.now64,fok,ok.crt,inv.ok,inv.w2,?_,kn,new⟩,rfl,rfl,rfl⟩
   · unfold eC stP
     simp only [e1,cond_false]
   · unfold dA stR
     simp only [aF,e1,cond_false]
   have:=inv.cnt
   show a.aj.length=ds.length;omega
  intro d
  induction d with
  |zero=>
   intro i k a ds hd hi inv hds
   have:i=c.ax.aq.length:=by omega
   subst this;exact .inr (fin k a ds inv)
  |succ d ih=>
   intro i k a ds hd hi inv hds
   by_cases he:i=c.ax.aq.length
   · subst he;exact .inr (fin k a ds inv)
   rcases aGP ok fok kn inv (by omega) hds with ⟨h1,h2⟩|⟨k',a',ds',h1,h2,h3,h4⟩
   · exact .inl ⟨aL h1,aL h2⟩
   rw [aW h1,aW h2]
   exact ih (i+1) k' a' ds' (by omega) (by omega) h3 h4
 have start:=run c.ax.aq.length 0 0 c.ay [] (by omega) (by omega) ⟨ok.agd,ok.w200,rfl,by rw [dc,dc];exact ok.fol,by omega,by have:=ok.hd;simp;omega⟩ (by simp)
 have hc:gZ c=some 0:=by rw [mR ok.fit,if_pos ok]
 have hf:fC ⟨f⟩=some 0:=by rw [mP];exact congrArg some (lH.2 fok)
 have tw:=iI ok;have tw':lK (aO.mk (c.ar.1,c.ar.2) (Field.mk c.au.aa) (bM.mk c.ax.ao c.ax.aq) (aP.mk (bA.mk c.ay.ai.ac c.ay.ai.ae c.ay.ai.af) c.ay.aj c.ay.am) c.az)=some c:=tw
 have first:aH mG (c.ax.aq,(c.ax.aq.length:Int),0,c.ar.1,c.ar.2,c.au.aa,c.ax.ao,c.ax.aq,c.ay.ai.ac,c.ay.ai.ae,c.ay.ai.af,c.ay.aj,c.ay.am,c.az,f,0,0,0)=
  aH mG (c.ax.aq,(c.ax.aq.length:Int),(c.ax.aq.length:Int),c.ar.1,c.ar.2,c.au.aa,c.ax.ao,c.ax.aq,c.ay.ai.ac,c.ay.ai.ae,c.ay.ai.af,c.ay.aj,c.ay.am,c.az,f,0,0,0):=by
  refine dX (body:=mG) (fun i=>(c.ax.aq,(c.ax.aq.length:Int),(i:Int),c.ar.1,c.ar.2,c.au.aa,c.ax.ao,c.ax.aq,c.ay.ai.ac,c.ay.ai.ae,c.ay.ai.af,c.ay.aj,c.ay.am,c.az,f,0,0,0)) c.ax.aq.length (fun i hi=>?_)
  have e1:decide ((i:Int)<(c.ax.aq.length:Int))=true:=aK (by omega)
  unfold mG;simp only [e1,cond_true,aE c.ax.aq i hi,aB,pG fok,dec_f (WL fok (kn i hi).1),dec_f (WL fok (kn i hi).2),cond_false,aV (show i<1000000000 by omega)]
 have second: ∀r,aH eC (stP c f 0 c.ay [])=some (.done r)->rO c ⟨f⟩=some r:=by
  intro r hr;unfold rO;simp only [hc,aB,show ((0:Int) !=0)=false from rfl,cond_false,hf,aF];rw [first]
  refine aL ?_;unfold mG;have e1:decide ((c.ax.aq.length:Int)<(c.ax.aq.length:Int))=false:=dec_f (by omega)
  simp only [aF,e1,cond_false,tw',aB,aZ (show f.length<=1048576 by omega)]
  exact hr
 have third: ∀r,aH dA (stR c f 0 c.ay [])=some r->oC c ⟨f⟩=some r:=by
  intro r hr;unfold oC nN;simp only [jX ok,aB,aZ (show f.length<=1048576 by omega)]
  exact hr
 rcases start with ⟨h1,h2⟩|⟨c',h1,h2,h3⟩
 · exact .inl ⟨second _ h1,third _ h2⟩
 exact .inr ⟨c',second _ h1,third _ h2,h3⟩
end
theorem lR (l:List (Int×Int)) (x:Int×Int) (hl:l.length<=1000000):fE l x=some (decide (x∈l)):=by
 unfold fE sJ;have key:=nC (body:=lE) (fun i=>(l,(l.length:Int),(i:Int),x)) l.length (fun i=>l[i]! =x) (fun i=>(i:Int)) (e:= -1) (fun i hi=>by
  have e1:decide ((i:Int)<(l.length:Int))=true:=aK (by omega)
  unfold lE;simp only [e1,cond_true,aE l i hi,aB,aV (show i<1000000000 by omega)]
  generalize l[i]! =y;constructor
  · intro h;rw [dW (congrArg ed h.symm),dW (congrArg Prod.snd h.symm)];rfl
  · intro h
    by_cases h1:x.1=y.1
    · rw [dW h1,eT (fun h2=>h (dm h1.symm h2.symm))];rfl
    rw [eT h1];rfl) (by
  unfold lE
  have:decide ((l.length:Int)<(l.length:Int))=false:=dec_f (by omega)
  simp only [this,cond_false])
 rw [aF]
 by_cases hx:x∈l
 · obtain ⟨i,hi,he⟩:=aU.1 hx
   obtain ⟨k,h1,h2,h3⟩:=KP (c:=fun i=>l[i]! =x) ⟨i,hi,he⟩
   have:=key.1 k h1 h2 h3
   rw [show ((0:Nat):Int)=0 from rfl] at this;rw [this,aK hx];simp only [aB,aK (show (0:Int)<=(k:Int) by omega)]
 have:=key.2 fun i hi he=>hx (aU.2 ⟨i,hi,he⟩)
 rw [show ((0:Nat):Int)=0 from rfl] at this;rw [this,dec_f hx];rfl
theorem NH (l:List (Int×Int)) (x:Int×Int) (hl:l.length<=1000000):KM l x=some (decide (x∈l)):=by
 unfold KM;have key:=dT (body:=AP) (fun i=>(l,(i:Int),x)) l.length (fun i=>l[i]! =x) (r:=true) (e:=false) (fun i hi=>by
  have e1:decide ((i:Int)<(l.length:Int))=true:=aK (by omega)
  unfold AP;simp only [aF,e1,cond_true,aE l i hi,aB,aV (show i<1000000000 by omega)]
  generalize l[i]! =y;constructor
  · intro h;rw [dW (congrArg ed h),dW (congrArg Prod.snd h)];rfl
  · intro h
    by_cases h1:y.1=x.1
    · rw [dW h1,eT (fun h2=>h (dm h1 h2))];rfl
    rw [eT h1];rfl) (by
  unfold AP
  have:decide ((l.length:Int)<(l.length:Int))=false:=dec_f (by omega)
  simp only [aF,this,cond_false])
 by_cases hx:x∈l
 · rw [aK hx];exact key.1 (aU.1 hx)
 rw [dec_f hx];exact key.2 fun i hi he=>hx (aU.2 ⟨i,hi,he⟩)
theorem aGQ (x y:wO):((x.1==y.1)&&((x.2.1==y.2.1)&&(x.2.2==y.2.2)))=decide (x=y):=by
 rw [Bool.eq_iff_iff,decide_eq_true_iff];simp only [Bool.and_eq_true,beq_iff_eq];constructor
 · rintro ⟨h1,h2,h3⟩;exact dm h1 (dm h2 h3)
 rintro rfl;exact ⟨rfl,rfl,rfl⟩
theorem aAe (a b:List wO) (hl:a.length<=1000000):DP ⟨a⟩ ⟨b⟩=some (decide (a=b)):=by
 unfold DP;simp only [aF]
 by_cases h:a.length=b.length
 case neg=>rw [dM (by omega),dec_f (fun k=>h (by rw [k]))];rfl
 rw [bP (by omega)]
 simp only [cond_false];have key:=dT (body:=vD) (fun i=>((i:Int),a,b)) a.length (fun i=> ¬a[i]! =b[i]!) (r:=false) (e:=true) (fun i hi=>by
  have e1:decide ((i:Int)<(a.length:Int))=true:=aK (by omega)
  unfold vD;simp only [aF,e1,cond_true,aE a i hi,aE b i (by omega),aB,aV (show i<1000000000 by omega),aGQ]
  constructor
  · intro h;rw [dec_f h];rfl
  · intro h;rw [aK (ci.1 h)];rfl) (by
  unfold vD
  have:decide ((a.length:Int)<(a.length:Int))=false:=dec_f (by omega)
  simp only [aF,this,cond_false])
 by_cases he:a=b
 · rw [aK he]
   exact key.2 fun i hi=>ci.2 (by rw [he])
 rw [dec_f he]
 refine key.1 (bq fun hx=>he (wM h fun i hi=>?_))
 exact bq fun hn=>hx ⟨i,hi,hn⟩
theorem K1 (a b:List wO) (hl:a.length<=1000000):nK a b=some (decide (a=b)):=by
 unfold nK;simp only [aF]
 by_cases h:a.length=b.length
 case neg=>rw [dM (by omega),dec_f (fun k=>h (by rw [k]))];rfl
 rw [bP (by omega)]
 simp only [cond_false];have key:=dT (body:=kQ) (fun i=>(a,b,(a.length:Int),(i:Int))) a.length (fun i=> ¬a[i]! =b[i]!) (r:=false) (e:=true) (fun i hi=>by
  have e1:decide ((i:Int)<(a.length:Int))=true:=aK (by omega)
  unfold kQ;simp only [e1,cond_true,aE a i hi,aE b i (by omega),aB,aV (show i<1000000000 by omega),aGQ]
  constructor
  · intro h;rw [dec_f h];rfl
  · intro h;rw [aK (ci.1 h)];rfl) (by
  unfold kQ
  have:decide ((a.length:Int)<(a.length:Int))=false:=dec_f (by omega)
  simp only [this,cond_false])
 by_cases he:a=b
 · rw [aK he]
   exact key.2 fun i hi=>ci.2 (by rw [he])
 rw [dec_f he]
 refine key.1 (bq fun hx=>he (wM h fun i hi=>?_))
 exact bq fun hn=>hx ⟨i,hi,hn⟩
theorem T9 {cs:List wO} {m:Nat} {x:wO} (hx:x∈cs) (hne:x.1≠(cs[m]!).1):x∈cs.eraseIdx m:=by
 obtain ⟨j,hj,rfl⟩:=aU.1 hx;have hjm:j≠m:=fun h=>hne (by rw [h])
 rw [zG,cu]
 by_cases h:j<m
 · exact .inl (cL.2 ⟨j,h,hj,rfl⟩)
 right
 rw [aU];refine ⟨j- (m+1),by rw [cb];omega,?_⟩
 rw [uF]
 congr 1;omega
def kP (c0:aO) (f:List Pt) (es:List (Int×Int)) (i:Nat) (c:aO):=
 (es,c0.ax.aq,(c0.ax.aq.length:Int),(i:Int),c.ar.1,c.ar.2,c.au.aa,c.ax.ao,c.ax.aq,c.ay.ai.ac,c.ay.ai.ae,c.ay.ai.af,c.ay.aj,c.ay.am,c.az,f,(0:Int),(0:Int),(0:Int))
def kR (c0:aO) (f:List Pt) (es:List (Int×Int)) (i:Nat) (c:aO):=
 (es,(i:Int),c0.ar.1,c0.ar.2,c0.au.aa,c0.ax.ao,c0.ax.aq,c0.ay.ai.ac,c0.ay.ai.ae,c0.ay.ai.af,c0.ay.aj,c0.ay.am,c0.az,f,(0:Int),(0:Int),(0:Int),c.ar.1,c.ar.2,c.au.aa,c.ax.ao,c.ax.aq,c.ay.ai.ac,c.ay.ai.ae,c.ay.ai.af,c.ay.aj,c.ay.am,c.az)
def eP (es:List (Int×Int)) (i:Nat) (c:aO):=
 (es,(es.length:Int),(i:Int),c.ar.1,c.ar.2,c.au.aa,c.ax.ao,c.ax.aq,c.ay.ai.ac,c.ay.ai.ae,c.ay.ai.af,c.ay.aj,c.ay.am,c.az,(0:Int),(0:Int),(0:Int))
def eR (es:List (Int×Int)) (i:Nat) (c:aO):=
 (es,(i:Int),(0:Int),(0:Int),(0:Int),c.ar.1,c.ar.2,c.au.aa,c.ax.ao,c.ax.aq,c.ay.ai.ac,c.ay.ai.ae,c.ay.ai.af,c.ay.aj,c.ay.am,c.az)
def pY (c:aO):Int:=c.ax.ao- (c.ax.aq.length:Int)
structure K2 (c:aO) (f:List Pt) (es:List (Int×Int)) (r:aO):Prop where
 has: ∀e∈es,wP r.ax.aq e
 sub: ∀x∈r.ax.aq,x.2∈es
 ok:aR r
 fld:r.au.aa=f
 ar:r.ar=c.ar
 room:pY c<=pY r
def RD (c:aO) (k:Nat):Prop:=c.ax.aq.length<=k/\c.ax.ao<=k/\ ∀j,j<c.ay.ai.ac.length->c.ay.ai.ac[j]!<=k
theorem aX.len {l:List Pt} {t:Int×Int} {H:List Ev}: ∀{cs ds:List wO},aX l t H cs ds->ds.length<=cs.length
 | [],ds,h=>by rw [show ds=[] from h];exact bw _
 |x::cs,ds,h=>by
  cases hy:(bL l x.2 t).2 with
  |true=>
   obtain ⟨d,ds',rfl,_,_,h4⟩:=h.1 hy;exact Nat.succ_le_succ h4.len
  |false=>exact Nat.le_succ_of_le (h.2 hy).len
theorem RD.not_full {c:aO} (ok:aR c) {k:Nat} (h:RD c k) (hk:k<=199): ¬(HX c.ax\/ ¬CG c.ay.ai):=by
 obtain ⟨h1,h2,h3⟩:=h;have fl:=ok.fol.len;have hd:=ok.hd;have hl:=ok.agd.hl;have wl:=ok.agd.wl;have w2:=ok.w200;rintro (h|h)
 · rcases h with h|h<;>omega
 refine h ⟨by omega,?_⟩
 have:=h3 _ (DV ok.agd.so (by omega)).1
 omega
theorem RD.more {c c':aO} {k:Nat} (h:RD c k) {x:Int×Int} (hc:c'.ax=qR c.ax x) (hs:c'.ay.ai=c.ay.ai\/c'.ay.ai=hY c.ay.ai):RD c' (k+1):=by
 obtain ⟨h1,h2,h3⟩:=h;refine ⟨?_,?_,fun j hj=>?_⟩
 · rw [hc]
   show (c.ax.aq++[(c.ax.ao,x)]).length<=_;rw [bo,cz];omega
 · rw [hc]
   show c.ax.ao+1<=_;omega
 rcases hs with e|e
 · rw [e] at hj ⊢
   have:=h3 j hj;omega
 rw [e] at hj ⊢
 change j<(c.ay.ai.ac.set _ _).length at hj;rw [ce] at hj;show (c.ay.ai.ac.set (dJ c.ay.ai) (c.ay.ai.ac[dJ c.ay.ai]!+1))[j]!<=_;rw [bD];split
 · rename_i h;have:=h3 _ h.2;omega
 have:=h3 j hj;omega
structure yA (f:List Pt) (es:List (Int×Int)):Prop where
 len:es.length<=1000000
 cv: ∀x∈es,gF x
 kn: ∀x∈es,kE f x
theorem aGR {c0:aO} (ok0:aR c0) {f:List Pt} {es:List (Int×Int)} (eok:yA f es):
 ∀(d i:Nat) (c:aO),c0.ax.aq.length-i<=d->i<=c0.ax.aq.length->aR c->(∀x∈c0.ax.aq.drop i,x∈c.ax.aq)->(∀x∈c.ax.aq,x∈c0.ax.aq.drop i\/x.2∈es)->
  ∃c':aO,aH cH (kP c0 f es i c)=aH cH (kP c0 f es c0.ax.aq.length c')/\aH eD (kR c0 f es i c)=aH eD (kR c0 f es c0.ax.aq.length c')/\aR c'/\(∀x∈c'.ax.aq,x.2∈es)/\c'.au=c.au/\c'.ar=c.ar/\pY c<=pY c':=by
 have bd:=ok0.bd;intro d
 induction d with
 |zero=>
  intro i c hd hi ok h1 h2
  have:i=c0.ax.aq.length:=by omega
  subst this;refine ⟨c,rfl,rfl,ok,fun x hx=>?_,rfl,rfl,de _⟩
  rcases h2 x hx with h|h
  · rw [dh] at h;cases h
  exact h
 |succ d ih=>
  intro i c hd hi ok h1 h2
  by_cases he:i=c0.ax.aq.length
  · subst he
    refine ⟨c,rfl,rfl,ok,fun x hx=>?_,rfl,rfl,de _⟩
    rcases h2 x hx with h|h
    · rw [dh] at h;cases h
    exact h
  have hi':i<c0.ax.aq.length:=by omega
  have e1:decide ((i:Int)<(c0.ax.aq.length:Int))=true:=aK (by omega)
  have sc:=aV (show i<1000000000 by omega)
  have cg:=aE c0.ax.aq i hi';have dr:=uL hi';have ceta:(aO.mk (c.ar.1,c.ar.2) (Field.mk c.au.aa) (bM.mk c.ax.ao c.ax.aq) (aP.mk (bA.mk c.ay.ai.ac c.ay.ai.ae c.ay.ai.af) c.ay.aj c.ay.am) c.az)=c:=rfl
  by_cases hin:(c0.ax.aq[i]!).2∈es
  · have s1:cH (kP c0 f es i c)=some (.next (kP c0 f es (i+1) c)):=by
     unfold cH kP;simp only [e1,cond_true,cg,aB,lR _ _ eok.len,aK hin,bv,cond_false,sc]
    have s2:eD (kR c0 f es i c)=some (.next (kR c0 f es (i+1) c)):=by
     unfold eD kR;simp only [aF,e1,cond_true,cg,aB,NH _ _ eok.len,aK hin,bv,cond_false,sc]
    rw [aW s1,aW s2];refine ih (i+1) c (by omega) (by omega) ok (fun x hx=>h1 x (by rw [dr];exact bn _ hx)) (fun x hx=>?_)
    rcases h2 x hx with h|h
    · rw [dr] at h
      rcases ec.1 h with rfl|h
      · exact .inr hin
      exact .inl h
    exact .inr h
  have hm:=h1 (c0.ax.aq[i]!) (by rw [dr];exact cj)
  obtain ⟨m,hm1,hm2⟩:=aU.1 hm;obtain ⟨c',r1,r2,r3,r4,r5,r6⟩:=aBJ ok hm1;have rt:=EQ ok hm1 r1;rw [hm2] at r2 rt;have s1:cH (kP c0 f es i c)=some (.next (kP c0 f es (i+1) c')):=by
   unfold cH kP;simp only [e1,cond_true,cg,aB,lR _ _ eok.len,dec_f hin,bu,sc,ceta,rt]
  have s2:eD (kR c0 f es i c)=some (.next (kR c0 f es (i+1) c')):=by
   unfold eD kR;simp only [aF,e1,cond_true,cg,aB,NH _ _ eok.len,dec_f hin,bu,sc,ceta,r2]
  rw [aW s1,aW s2];have cl:c'.ax.aq=c.ax.aq.eraseIdx m:=by rw [r6];rfl
  have hroom:pY c<=pY c':=by
   unfold pY;rw [r6];show _<=c.ax.ao- (((c.ax.aq.eraseIdx m).length:Nat):Int);rw [List.length_eraseIdx_of_lt hm1];omega
  have hs:(∀x∈c0.ax.aq.drop (i+1),x∈c'.ax.aq)/\(∀x∈c'.ax.aq,x∈c0.ax.aq.drop (i+1)\/x.2∈es):=by
   refine ⟨fun x hx=>?_,fun x hx=>?_⟩
   · rw [cl]
     refine T9 (h1 x (by rw [dr];exact bn _ hx)) ?_
     rw [hm2];exact D2 ok0 hx hi'
   rw [cl] at hx
   obtain ⟨a1,a2⟩:=tC ok.crt_up hm1 hx;rw [hm2] at a2;rcases h2 x a1 with h|h
   · rw [dr] at h
     rcases ec.1 h with rfl|h
     · exact absurd rfl a2
     exact .inl h
   exact .inr h
  obtain ⟨d',q1,q2,q3,q4,q5,q6,q7⟩:=ih (i+1) c' (by omega) (by omega) r3 hs.1 hs.2
  exact ⟨d',q1,q2,q3,q4,q5.trans r4,q6.trans r5,by omega⟩
theorem aAf {f:List Pt} (_fok:bZ f) {es:List (Int×Int)} (eok:yA f es):
 ∀(d i:Nat) (c:aO),es.length-i<=d->i<=es.length->aR c->c.au.aa=f->(∀x∈c.ax.aq,x.2∈es)->(∀j,j<i->wP c.ax.aq es[j]!)->
  ∃r:aO×Int,aH cW (eP es i c)=some (.done r)/\aH eO (eR es i c)=some (.done r)/\(r.2=0/\K2 c f es r.1\/r=(fB,18))/\(∀k,RD c k->k+(es.length-i)<=199->r.2=0):=by
 have el:=eok.len;have fin: ∀c:aO,aR c->c.au.aa=f->(∀x∈c.ax.aq,x.2∈es)->(∀j,j<es.length->wP c.ax.aq es[j]!)-> ∃r:aO×Int,aH cW (eP es es.length c)=some (.done r)/\aH eO (eR es es.length c)=some (.done r)/\(r.2=0/\K2 c f es r.1\/r=(fB,18))/\r.2=0:=by
  intro c ok hf hs hh;have e1:decide ((es.length:Int)<(es.length:Int))=false:=dec_f (by omega)
  refine ⟨(c,0),aL ?_,aL ?_,.inl ⟨rfl,fun e he=>by obtain ⟨j,hj,q⟩:=aU.1 he;rw [<- q];exact hh j hj,hs,ok,hf,rfl,de _⟩,rfl⟩
  · unfold cW eP
    simp only [e1,cond_false]
  unfold eO eR
  simp only [aF,e1,cond_false]
 intro d
 induction d with
 |zero=>
  intro i c hd hi ok hf hs hh
  have:i=es.length:=by omega
  subst this;obtain ⟨r,q1,q2,q3,q4⟩:=fin c ok hf hs hh;exact ⟨r,q1,q2,q3,fun _ _ _=>q4⟩
 |succ d ih=>
  intro i c hd hi ok hf hs hh
  by_cases he:i=es.length
  · subst he
    obtain ⟨r,q1,q2,q3,q4⟩:=fin c ok hf hs hh;exact ⟨r,q1,q2,q3,fun _ _ _=>q4⟩
  have bd:=ok.bd;have hi':i<es.length:=by omega
  have e1:decide ((i:Int)<(es.length:Int))=true:=aK (by omega)
  have sc:=aV (show i<1000000000 by omega)
  have cg:=aE es i hi';have ceta:(aO.mk (c.ar.1,c.ar.2) (Field.mk c.au.aa) (bM.mk c.ax.ao c.ax.aq) (aP.mk (bA.mk c.ay.ai.ac c.ay.ai.ae c.ay.ai.af) c.ay.aj c.ay.am) c.az)=c:=rfl;have ceta2:bM.mk c.ax.ao c.ax.aq=c.ax:=rfl;have hc:=Q8 c.ax.aq es[i]! (by omega)
  have hr:=D0 c.ax es[i]! (by omega)
  by_cases hin:wP c.ax.aq es[i]!
  · have s1:cW (eP es i c)=some (.next (eP es (i+1) c)):=by
     unfold cW eP;simp only [e1,cond_true,cg,aB,CN,hc,aK hin,sc]
    have s2:eO (eR es i c)=some (.next (eR es (i+1) c)):=by
     unfold eO eR;simp only [aF,e1,cond_true,cg,aB,ceta2,hr,aK hin,sc]
    rw [aW s1,aW s2];obtain ⟨r,q1,q2,q3,q4⟩:=ih (i+1) c (by omega) (by omega) ok hf hs (fun j hj=>if q:j=i then by rw [q];exact hin else hh j (by omega))
    exact ⟨r,q1,q2,q3,fun k hk hl=>q4 k hk (by omega)⟩
  have hb:kE c.au.aa es[i]!:=by rw [hf];exact eok.kn _ (bE hi')
  rcases aDi ok (eok.cv _ (bE hi')) hb hin with ⟨r1,r2,full⟩|⟨c',r1,r2,r3,r4,r5,r6,r7⟩
  · refine ⟨(fB,18),aL ?_,aL ?_,.inr rfl,fun k hk hl=>absurd full (hk.not_full ok (by omega))⟩
    · unfold cW eP
      simp only [e1,cond_true,cg,aB,CN,hc,dec_f hin,cond_false,ceta,r1,show ((18:Int) !=0)=true from rfl]
    unfold eO eR
    simp only [aF,e1,cond_true,cg,aB,ceta2,hr,dec_f hin,cond_false,ceta,r2,show ((18:Int) !=0)=true from rfl]
  have s1:cW (eP es i c)=some (.next (eP es (i+1) c')):=by
   unfold cW eP;simp only [e1,cond_true,cg,aB,CN,hc,dec_f hin,cond_false,ceta,r1,show ((0:Int) !=0)=false from rfl,sc]
  have s2:eO (eR es i c)=some (.next (eR es (i+1) c')):=by
   unfold eO eR;simp only [aF,e1,cond_true,cg,aB,ceta2,hr,dec_f hin,cond_false,ceta,r2,show ((0:Int) !=0)=false from rfl,sc]
  rw [aW s1,aW s2];obtain ⟨r,q1,q2,q3,q6⟩:=ih (i+1) c' (by omega) (by omega) r3 (by rw [r4,hf]) (fun x hx=>by
   rw [r6] at hx;rcases cu.1 (show x∈c.ax.aq++[(c.ax.ao,es[i]!)] from hx) with h|h
   · exact hs x h
   · rw [List.mem_singleton.1 h];exact bE hi') (fun j hj=>by
   rw [r6];show wP (c.ax.aq++[(c.ax.ao,es[i]!)]) _
   by_cases q:j=i
   · rw [q];exact ⟨c.ax.aq.length,by rw [bo,cz];omega,by rw [kM (bw _),Nat.sub_self];rfl⟩
   obtain ⟨w,w1,w2⟩:=hh j (by omega)
   exact ⟨w,by rw [bo];omega,by rw [iG w1];exact w2⟩)
  refine ⟨r,q1,q2,q3.imp (fun ⟨q4,q5⟩=>⟨q4,q5.has,q5.sub,q5.ok,q5.fld,q5.ar.trans r5,di ?_ q5.room⟩) id,fun k hk hl=>q6 (k+1) (hk.more r6 r7) (by omega)⟩
  unfold pY;rw [r6];show _<=(c.ax.ao+1) - (((c.ax.aq++[(c.ax.ao,es[i]!)]).length:Nat):Int);rw [bo,cz];omega
theorem WM {c:aO} (ok:aR c) {f:List Pt} (fok:bZ f) {es:List (Int×Int)} (eok:yA f es):
 ∃r:aO×Int,oU c ⟨f⟩ es=some r/\lP c ⟨f⟩ es=some r/\(r.2=0/\K2 c f es r.1\/r=(fB,18)):=by
 have f64:=fok.1;obtain ⟨c',g1,g2,g3,g4,g5,g6,g7⟩:=aGR ok eok c.ax.aq.length 0 c (by omega) (by omega) ok (fun x hx=>by rwa [dc] at hx) (fun x hx=> .inl (by rwa [dc]))
 have bd:=g3.bd;have e1:decide ((c.ax.aq.length:Int)<(c.ax.aq.length:Int))=false:=dec_f (by omega)
 have start1:oU c ⟨f⟩ es=aH cH (kP c f es 0 c):=rfl;have start2:lP c ⟨f⟩ es=aH eD (kR c f es 0 c):=by
  unfold lP;simp only [jX ok,aB];rfl
 rw [start1,start2,g1,g2];have eq1:=K1 c'.au.aa f (by omega)
 have eq2:=aAe c'.au.aa f (by omega)
 have ceta:(aO.mk (c'.ar.1,c'.ar.2) (Field.mk c'.au.aa) (bM.mk c'.ax.ao c'.ax.aq) (aP.mk (bA.mk c'.ay.ai.ac c'.ay.ai.ae c'.ay.ai.af) c'.ay.aj c'.ay.am) c'.az)=c':=rfl
 by_cases hf:c'.au.aa=f
 · obtain ⟨r,i1,i2,i3,_⟩:=aAf fok eok es.length 0 c' (by omega) (by omega) g3 hf g4 (fun j hj=>absurd hj (d6 j))
   refine ⟨r,aL ?_,aL ?_,i3.imp (fun ⟨q4,q5⟩=>⟨q4,q5.has,q5.sub,q5.ok,q5.fld,q5.ar.trans g6,di g7 q5.room⟩) id⟩
   · unfold cH kP
     simp only [e1,cond_false,eq1,aK hf,aB,bv];exact i1
   unfold eD kR
   simp only [aF,e1,cond_false,eq2,aK hf,aB,bv];exact i2
 have kn: ∀i,i<c'.ax.aq.length->kE f (c'.ax.aq[i]!).2:=fun i hi=>eok.kn _ (g4 _ (bE hi))
 rcases aXR g3 fok kn with ⟨a1,a2⟩|⟨c2,a1,a2,a3,a4,a5,a6⟩
 · refine ⟨(fB,18),aL ?_,aL ?_,.inr rfl⟩
   · unfold cH kP
     simp only [e1,cond_false,eq1,dec_f hf,aB,bu,cond_true,ceta,a1,show ((18:Int) !=0)=true from rfl]
   unfold eD kR
   simp only [aF,e1,cond_false,eq2,dec_f hf,aB,bu,cond_true,ceta,a2,show ((18:Int) !=0)=true from rfl]
 obtain ⟨r,i1,i2,i3,_⟩:=aAf fok eok es.length 0 c2 (by omega) (by omega) a3 a4 (by rw [a6];exact g4) (fun j hj=>absurd hj (d6 j))
 refine ⟨r,aL ?_,aL ?_,i3.imp (fun ⟨q4,q5⟩=>⟨q4,q5.has,q5.sub,q5.ok,q5.fld,(q5.ar.trans a5).trans g6,di (di g7 (by unfold pY;rw [a6];exact de _)) q5.room⟩) id⟩
 · unfold cH kP
   simp only [e1,cond_false,eq1,dec_f hf,aB,bu,cond_true,ceta,a1,show ((0:Int) !=0)=false from rfl];exact i1
 unfold eD kR
 simp only [aF,e1,cond_false,eq2,dec_f hf,aB,bu,cond_true,ceta,a2,show ((0:Int) !=0)=false from rfl];exact i2
theorem RE {α:Type} [Inhabited α] {l:List α}:l.Nodup↔ ∀k,k<l.length->l[k]!∉l.take k:=by
 rw [gW];constructor
 · intro h k hk hm
   obtain ⟨i,h1,h2,h3⟩:=cL.1 hm;exact h i k h1 hk h3
 intro h i j hij hj he
 exact h j hj (cL.2 ⟨i,hij,by omega,he⟩)
theorem F8 {α:Type} [Inhabited α] {l:List α} {P:α->Prop}:(∀x∈l,P x)↔ ∀i,i<l.length->P l[i]!:=by
 constructor
 · intro h i hi;exact h _ (bE hi)
 intro h x hx
 obtain ⟨i,hi,rfl⟩:=aU.1 hx;exact h i hi
theorem rB {σ ρ:Type} {body:σ->Option (bT σ ρ)} (st:Nat->σ) (n:Nat) (P:Nat->Prop) {r e:ρ} (h: ∀i,i<n->(¬P i->body (st i)=some (.done r))/\(P i->body (st i)=some (.next (st (i+1)))))
 (hend:body (st n)=some (.done e)):aH body (st 0)=some (if∀i,i<n->P i then e else r):=by
 have key:=dT (body:=body) st n (fun i=> ¬P i) (r:=r) (e:=e) (fun i hi=>⟨(h i hi).1,fun hn=>(h i hi).2 (ci.1 hn)⟩) hend
 by_cases hx: ∀i,i<n->P i
 · rw [if_pos hx];exact key.2 fun i hi=>ci.2 (hx i hi)
 rw [if_neg hx]
 obtain ⟨i,h⟩:=Classical.not_forall.1 hx;obtain ⟨hi,hx⟩:=Classical.not_imp.1 h;exact key.1 ⟨i,hi,hx⟩
theorem HY {f:List Pt} (fok:bZ f) (id:Int): ∃p e,yW ⟨f⟩ id=some (p,e)/\(e=0↔pF f id):=by
 have h1:=fok.1;have hc:fC ⟨f⟩=some 0:=by rw [mP];exact congrArg some (lH.2 fok)
 have bs:=G5 f id (by omega) (fun i j=>pU fok.2.2)
 unfold yW FN IX;rw [aOw];simp only [hc,aB,show ((0:Int) !=0)=false from rfl,cond_false]
 by_cases h:pF f id
 · obtain ⟨k,hk,he⟩:=h
   rw [bs.1 k hk he];refine ⟨f[k]!,0,?_,fun _=>⟨k,hk,he⟩,fun _=>rfl⟩
   simp only [aB,bv,cond_false,show ((0:Int) !=0)=false from rfl,aE f k hk]
 obtain ⟨m,_,_,_,e⟩:=bs.2 (fun k hk he=>h ⟨k,hk,he⟩)
 rw [e];exact ⟨(0,0,0),6,rfl,fun h=>(by cases h),fun k=>absurd k h⟩
structure aAg (c:aO):Prop where
 f:c.au.aa.length<=1000000
 l:c.ax.aq.length<=1000000
 d:c.az.length<=1000000
 h:c.ay.aj.length<=1000000
 w:c.ay.am.length<=1000000
 s1:c.ay.ai.ac.length<=1000000
 s2:c.ay.ai.ae.length<=1000000
 s3:c.ay.ai.af.length<=1000000
theorem aR.short {c:aO} (ok:aR c):aAg c:=by
 have bd:=ok.bd;have ab:=ok.agd.bd;have sl:=ok.agd.so.fl;have sn:=ok.agd.so.n2;have su:=ok.agd.so.ul;exact ⟨by omega,by omega,by omega,by omega,by omega,by omega,by omega,by omega⟩
theorem SP:aAg fB:=⟨by decide,by decide,by decide,by decide,by decide,by decide,by decide,by decide⟩
structure aEs (c:aO):Prop where
 ar:nD c.ar
 at64: ∀w,w<c.ay.aj.length->nD ((c.ay.aj[w]!).1,(c.ay.aj[w]!).2.1)
theorem aBK {c:aO} (sh:aAg c):jI c=some c:=by
 obtain ⟨h1,h2,h3,h4,h5,h6,h7,h8⟩:=sh;unfold jI nN qX nO oZ;simp only [aZ (show c.au.aa.length<=1048576 by omega),aZ (show c.ax.aq.length<=1048576 by omega),aZ (show c.az.length<=1048576 by omega),aZ (show c.ay.aj.length<=1048576 by omega),aZ (show c.ay.am.length<=1048576 by omega),
  aZ (show c.ay.ai.ac.length<=1048576 by omega),aZ (show c.ay.ai.ae.length<=1048576 by omega),aZ (show c.ay.ai.af.length<=1048576 by omega),aB]
theorem aDj {a b:Int×Int} (ha:bK a) (hb:bK b) (h:a.1*b.2=b.1*a.2):a=b:=by
 obtain ⟨a1,_,a3⟩:=ha;obtain ⟨b1,_,b3⟩:=hb;have hn:a.1.natAbs*b.2.natAbs=b.1.natAbs*a.2.natAbs:=by rw [<- d7,<- d7,h]
 have d1:b.2.natAbs ∣ a.2.natAbs:=by
  have:b.2.natAbs ∣ b.1.natAbs*a.2.natAbs:=by rw [<- hn];exact dy _ _
  exact (Nat.Coprime.dvd_of_dvd_mul_left b3 this)
 have d2:a.2.natAbs ∣ b.2.natAbs:=by
  have:a.2.natAbs ∣ a.1.natAbs*b.2.natAbs:=by rw [hn];exact dy _ _
  exact (Nat.Coprime.dvd_of_dvd_mul_left a3 this)
 have e:a.2.natAbs=b.2.natAbs:=Nat.dvd_antisymm d2 d1;have e2:a.2=b.2:=by omega
 have e1:a.1=b.1:=by
  rw [e2] at h;exact Int.eq_of_mul_eq_mul_right (by omega) h
 exact dm e1 e2
theorem G7 (p q:Pt) (t:Int×Int):OA p q t=(p.2.1-q.2.1)*t.2+(p.2.2-q.2.2)*t.1:=rfl
theorem A1 {l h:Pt} {t t':Int×Int} (d:1<=t.2) (d':1<=t'.2) (le:t.1*t'.2<=t'.1*t.2) (hB: ¬h.2.2<l.2.2) (hn: ¬cR l h t): ¬cR l h t':=by
 unfold cR at*;rw [G7] at*;generalize l.2.1-h.2.1=A at*;have hs:l.2.2-h.2.2<=0:=by omega
 intro hl;have key:(A*t'.2+(l.2.2-h.2.2)*t'.1)*t.2<=(A*t.2+(l.2.2-h.2.2)*t.1)*t'.2:=by
  have h1:(l.2.2-h.2.2)*(t'.1*t.2)<=(l.2.2-h.2.2)*(t.1*t'.2):=Int.mul_le_mul_of_nonpos_left hs le;have e1:(A*t'.2+(l.2.2-h.2.2)*t'.1)*t.2=A*t'.2*t.2+(l.2.2-h.2.2)*(t'.1*t.2):=by rw [Int.add_mul,df (l.2.2-h.2.2)]
  have e2:(A*t.2+(l.2.2-h.2.2)*t.1)*t'.2=A*t'.2*t.2+(l.2.2-h.2.2)*(t.1*t'.2):=by
   rw [Int.add_mul,df (l.2.2-h.2.2),df A,df A,dp t.2]
  omega
 rcases hl with hl|⟨hl,h2|⟨h2,h3⟩⟩
 · refine hn (.inl ?_)
   have:0<(A*t'.2+(l.2.2-h.2.2)*t'.1)*t.2:=Int.mul_pos hl (by omega)
   have k:0<(A*t.2+(l.2.2-h.2.2)*t.1)*t'.2:=by omega
   exact Int.pos_of_mul_pos_left k (by omega)
 · omega
 have z:l.2.2-h.2.2=0:=by omega
 rw [z] at hl hn
 have:A=0:=by
  have:A*t'.2=0:=by omega
  rcases Int.mul_eq_zero.1 this with h|h
  · exact h
  omega
 subst this;exact hn (.inr ⟨by omega,.inr ⟨h2,h3⟩⟩)
theorem RF {h l:Pt} {t t':Int×Int} (hh:gJ h) (hl:gJ l) (r:bK t) (r':bK t') (le:t.1*t'.2<=t'.1*t.2) (up:(lS h l t).2=true->t'.1*(lS h l t).1.2<=(lS h l t).1.1*t'.2):
 lS h l t'=lS h l t:=by
 unfold lS at*
 by_cases h1:cR l h t
 · rw [if_pos h1] at up ⊢
   have e:t=t':=aDj r r' (by have:=up rfl;dsimp only at this;omega)
   subst e;rw [if_pos h1]
 rw [if_neg h1] at up ⊢
 by_cases h2:h.2.2<l.2.2
 · rw [if_pos h2] at up ⊢
   obtain ⟨_,m1,m2,m3⟩:=I6 hh hl (show h.2.2≠l.2.2 by omega)
   have up:=up rfl;dsimp only at up
   by_cases h3:cR l h t'
   · rw [if_pos h3]
     have:t'=met h l:=by
      refine aDj r' m1 ?_;have g:0<=OA l h t':=by rcases h3 with k|k<;>omega
      rw [G7] at g;generalize met h l=m at*;have d:=m1.1;have hB:0<l.2.2-h.2.2:=by omega
      generalize l.2.2-h.2.2=B at*;generalize hA:h.2.1-l.2.1=A at*;have g2:A*t'.2<=B*t'.1:=by
       have:(l.2.1-h.2.1)*t'.2= -(A*t'.2):=by rw [<- Int.neg_mul];congr 1;omega
       omega
      have g3:m.1*t'.2*B<=t'.1*m.2*B:=by
       have e1:m.1*t'.2*B=A*t'.2*m.2:=by
        rw [cd,m3,cd]
       have e2:t'.1*m.2*B=B*t'.1*m.2:=by
        rw [cd,dp t'.1 B]
       rw [e1,e2];exact c8 g2 (by omega)
      have g4:m.1*t'.2<=t'.1*m.2:=dd g3 hB;omega
     rw [this]
   rw [if_neg h3]
 rw [if_neg h2] at up ⊢
 rw [if_neg (A1 r.1 r'.1 le h2 h1)]
theorem MO {a:aP} (ok:fQ a): ∀k,k<a.aj.length-> ¬eG a.aj[k]! a.aj[0]!:=by
 have d: ∀w,w<a.aj.length->1<=(a.aj[w]!).2.1:=fun w hw=>(ok.ev w hw).1.1
 intro k
 induction k using Nat.strongRecOn with
 |ind k ih=>
  intro hk
  by_cases h0:k=0
  · subst h0;exact fun h=>rA h h
  exact CH (d 0 (by omega)) (d ((k-1) / 2) (by omega)) (d k hk) (ih ((k-1) / 2) (by omega) (by omega)) (ok.ord k (by omega) hk)
theorem aGS {h l:Pt} {t:Int×Int} (hh:gJ h) (hl:gJ l) (r:bK t) (is:(lS h l t).2=true):t.1*(lS h l t).1.2<=(lS h l t).1.1*t.2:=by
 unfold lS at*
 by_cases h1:cR l h t
 · rw [if_pos h1];exact de _
 rw [if_neg h1] at is ⊢
 by_cases h2:h.2.2<l.2.2
 · rw [if_pos h2]
   obtain ⟨_,m1,m2,m3⟩:=I6 hh hl (show h.2.2≠l.2.2 by omega)
   dsimp only;have g:OA l h t<=0:=Int.not_lt.1 fun k=>h1 (.inl k)
   rw [G7] at g;generalize met h l=m at*;have d:=m1.1;have d2:=r.1;have hB:0<l.2.2-h.2.2:=by omega
   generalize l.2.2-h.2.2=B at*;generalize hA:h.2.1-l.2.1=A at*;have g2:B*t.1<=A*t.2:=by
    have:(l.2.1-h.2.1)*t.2= -(A*t.2):=by rw [<- Int.neg_mul];congr 1;omega
    omega
   have e1:t.1*m.2*B=B*t.1*m.2:=by rw [cd,dp t.1 B]
   have e2:m.1*t.2*B=A*t.2*m.2:=by rw [cd,m3,cd]
   have g3:t.1*m.2*B<=m.1*t.2*B:=by
    rw [e1,e2];exact c8 g2 (by omega)
   exact dd g3 hB
 rw [if_neg h2] at is;cases is
theorem aX.time {l:List Pt} {t t':Int×Int} {H:List Ev}: ∀{cs ds:List wO},(∀x∈cs,bL l x.2 t'=bL l x.2 t)->aX l t H cs ds->aX l t' H cs ds
 | [],_,_,h=>h
 |x::cs,ds,hw,h=>by
  have e:=hw x cj;have ih: ∀{ds},aX l t H cs ds->aX l t' H cs ds:=fun {ds}=>aX.time fun y hy=>hw y (bn _ hy)
  refine ⟨fun hy=>?_,fun hy=>?_⟩
  · rw [e] at hy
    obtain ⟨d,ds',h1,h2,h3,h4⟩:=h.1 hy;exact ⟨d,ds',h1,h2,by rw [e];exact h3,ih h4⟩
  rw [e] at hy
  exact ih (h.2 hy)
theorem RG {c:aO} (ok:aR c) (hne:0<c.ay.aj.length):
 ∃(i:Nat) (c':aO),i<c.ax.aq.length/\(c.ax.aq[i]!).1=Ev.num c.ay.aj[0]!/\jG c (Ev.num c.ay.aj[0]!)=some (c',(c.ax.aq[i]!).2,0)/\qY c (Ev.num c.ay.aj[0]!)=some c'/\
  aR ⟨Ev.at c.ay.aj[0]!,c'.au,c'.ax,c'.ay,c'.az⟩/\c'.au=c.au/\c'.ax=pW c.ax i/\c.ar.1*(Ev.at c.ay.aj[0]!).2<=(Ev.at c.ay.aj[0]!).1*c.ar.2:=by
 have hm:=bE hne;obtain ⟨d,hd,hn⟩:=ok.nums _ hm;obtain ⟨x,hx,h1,h2,h3⟩:=ok.fol.az d hd;obtain ⟨w,hw,he⟩:=aU.1 h3;have hw0:w=0:=bq fun hx=>by
  refine ok.agd.nd 0 w (by omega) hw ?_
  rw [he,<- hn,h1]
 subst hw0;obtain ⟨i,hi,rfl⟩:=aU.1 hx;have num:(c.ax.aq[i]!).1=Ev.num c.ay.aj[0]!:=by rw [<- hn,h1]
 have tm:Ev.at c.ay.aj[0]! =(bL c.au.aa (c.ax.aq[i]!).2 c.ar).1:=by rw [he]
 obtain ⟨c',r1,r2,r3,r4,r5,r6⟩:=aBJ ok hi;have hb:=ok.known i hi;have pt:=fun (x:Int×Int) (hb:kE c.au.aa x)=>And.intro (dG ok.fld hb.2).1 (dG ok.fld hb.1).1
 have rt:=KS (pt _ hb).1 (pt _ hb).2 ok.now64 ok.nowv h2;have ge:=aGS (pt _ hb).1 (pt _ hb).2 ok.nowv h2;rw [num] at r1 r2;refine ⟨i,c',hi,num,r1,r2,?_,r4,r6,by rw [tm];exact ge⟩
 have kn:=F7 ok i hi;refine ⟨by rw [tm];exact rt.1,by rw [tm];exact rt.2,r3.fld,r3.crt,r3.agd,r3.w200,r3.hd,r3.known,?_⟩
 refine aX.time (t:=c'.ar) (fun y hy=>?_) r3.fol
 have hy':y∈c.ax.aq:=by
  rw [r6] at hy;exact (tC ok.crt_up hi hy).1
 obtain ⟨j,hj,rfl⟩:=aU.1 hy';have hbj:=ok.known j hj;rw [r4,r5];refine RF (pt _ hbj).1 (pt _ hbj).2 ok.nowv (by rw [tm];exact rt.1) (by rw [tm];exact ge) (fun is=>?_)
 obtain ⟨d',hd',k1,k2⟩:=ok.fol.has _ hy' is;obtain ⟨w,hw,he⟩:=aU.1 k2
 have:=MO ok.agd w hw
 rw [he] at this;exact Int.not_lt.1 fun k=>this (.inl (tB.2 k))
theorem ES {p q:Pt} {t:Int×Int} (hp:gJ p) (hq:gJ q) (ht:nD t) (hr:bK t):nI p q t=some (decide (cR p q t),if p.1=q.1 then 2 else 0)\/(p.1=q.1/\nI p q t=some (false,2)):=by
 unfold nI;rw [BH ht,if_pos ⟨hp,hq,hr⟩]
 by_cases h:p.1=q.1
 · right;simp [h]
 left
 simp only [h,if_false,aB,AY hp hq ht]
 have:decide (0<aBx p q t)=decide (cR p q t):=by simp only [QL]
 simp [this]
end Go.Proofs.YtlnclppkepgdmaaGreat
namespace Go.Proofs.YtlnclppkepgdmaaGreat
theorem zI {α:Type} [BEq α] [LawfulBEq α]: ∀{a b:List α},a.Nodup->(∀x∈a,x∈b)->b.length<=a.length->a.Perm b
 | [],b,_,_,hl=>by
  rw [List.eq_nil_of_length_eq_zero (show b.length=0 by simpa using hl)]
 |x::a,b,hd,h,hl=>by
  rw [cw] at hd;have hx:=h x cj;have ih:=zI (a:=a) (b:=b.erase x) hd.2 (fun y hy=>by
   rw [List.mem_erase_of_ne (fun e=>hd.1 (by rw [<- e];exact hy))]
   exact h y (bn _ hy)) (by
   rw [List.length_erase_of_mem hx];rw [cq] at hl
   omega)
  exact (List.Perm.cons x ih).trans (List.perm_cons_erase hx).symm
theorem zJ {α β:Type} {f:α->β}: ∀{l:List α},l.Nodup->(∀x∈l,∀y∈l,f x=f y->x=y)->(l.map f).Nodup
 | [],_,_=>List.nodup_nil
 |x::l,h,hi=>by
  rw [cw] at h;rw [List.map_cons,cw];refine ⟨fun hm=>?_,zJ h.2 fun y hy z hz=>hi y (bn _ hy) z (bn _ hz)⟩
  obtain ⟨y,hy,e⟩:=db.1 hm
  have:=hi y (bn _ hy) x cj e
  rw [this] at hy;exact h.1 hy
end Go.Proofs.YtlnclppkepgdmaaGreat
namespace Go.Proofs.YtlnclppkepgdmaaGreat
open Go.Vm Classical
def MP (l:List Int) (k:Nat):List (Int×Int):=(d8 k).map fun i=>(l[i+1]!,l[i / 2]!)
abbrev F9 (l:List Int):List (Int×Int):=MP l (l.length-1)
theorem JA (l:List Int) (k:Nat):(MP l k).length=k:=by unfold MP;rw [d5,dt]
theorem NI (l:List Int) {k i:Nat} (h:i<k):(MP l k)[i]! =(l[i+1]!,l[i / 2]!):=by
 rw [getElem!_pos _ i (by rw [JA];exact h)]
 unfold MP;rw [List.getElem_map,List.getElem_range]
theorem aAh {l:List Int} (hd:l.Nodup):(F9 l).Nodup:=by
 unfold F9 MP;refine zJ dz fun i hi j hj h=>?_
 rw [cy] at hi hj;have h1:l[i+1]! =l[j+1]!:=congrArg ed h;have h2:=gW.1 hd;rcases bz i j with k|k|k
 · exact absurd h1 (h2 (i+1) (j+1) (by omega) (by omega))
 · exact k
 exact absurd h1.symm (h2 (j+1) (i+1) (by omega) (by omega))
theorem aOz {f:List Pt} (fok:bZ f) {t:Int×Int} (r64:nD t) {x:Int×Int} (hb:kE f x):DQ x ⟨f⟩ t=some (decide (cR (fU f x.2) (fU f x.1) t)):=by
 obtain ⟨h1,h2⟩:=hb;obtain ⟨j,j1,j2,j3⟩:=D1 fok h1;obtain ⟨k,k1,k2,k3⟩:=D1 fok h2;unfold DQ;simp only [j2,k2,aB,aE f j j1,aE f k k1,j3,k3,KR (dG fok h2).1 (dG fok h1).1 r64]
def nE (f:List Pt):List Int:=f.map fun p=>p.1
theorem G8 {f:List Pt} (h:fY f):(nE f).Nodup:=by
 refine zJ ?_ ?_
 · exact gW.2 fun i j hij hj e=>by have:=pU h hij hj;rw [e] at this;omega
 intro x hx y hy e
 obtain ⟨i,hi,rfl⟩:=aU.1 hx;obtain ⟨j,hj,rfl⟩:=aU.1 hy;rw [qZ h hi hj e]
theorem A2 {f:List Pt} {id:Int}:id∈nE f↔pF f id:=by
 unfold nE pF;rw [db];constructor
 · rintro ⟨p,hp,rfl⟩
   obtain ⟨i,hi,rfl⟩:=aU.1 hp;exact ⟨i,hi,rfl⟩
 rintro ⟨i,hi,rfl⟩
 exact ⟨f[i]!,bE hi,rfl⟩
structure zK (k:HQ):Prop where
 clk:aR k.bg
 perm:(nE k.bg.au.aa).Perm k.aj
 cert:(k.bg.ax.aq.map fun x=>x.2).Perm (F9 k.aj)
 lead: ∀e∈F9 k.aj,cR (fU k.bg.au.aa e.2) (fU k.bg.au.aa e.1) k.bg.ar
theorem wR {c:bM} (ok:fA c):(c.aq.map fun x=>x.2).Nodup:=by
 refine zJ ?_ ?_
 · exact gW.2 fun i j hij hj e=>ok.nd i j hij hj (by rw [e])
 intro x hx y hy e
 obtain ⟨i,hi,rfl⟩:=aU.1 hx;obtain ⟨j,hj,rfl⟩:=aU.1 hy;rcases bz i j with k|k|k
 · exact absurd e (ok.nd i j k hj)
 · rw [k]
 exact absurd e.symm (ok.nd j i k hi)
theorem tD {l:List wO} {x:Int×Int}:wP l x↔x∈l.map fun y=>y.2:=by
 unfold wP;rw [db];constructor
 · rintro ⟨i,hi,rfl⟩;exact ⟨l[i]!,bE hi,rfl⟩
 rintro ⟨y,hy,rfl⟩
 obtain ⟨i,hi,rfl⟩:=aU.1 hy;exact ⟨i,hi,rfl⟩
theorem K3 {α:Type} {p q:Prop} [Decidable p] [Decidable q] {a b:α} (h:p↔q):(if p then a else b)=if q then a else b:=by
 by_cases hp:p
 · rw [if_pos hp,if_pos (h.1 hp)]
 rw [if_neg hp,if_neg (fun k=>hp (h.2 k))]
theorem aOA {c:aO} (ok:aR c) (es:List (Int×Int)) (kn: ∀x∈es,kE c.au.aa x):
 DR c es=some (decide (c.ax.aq.length=es.length/\ ∀i,i<es.length->wP c.ax.aq es[i]!/\cR (fU c.au.aa (es[i]!).2) (fU c.au.aa (es[i]!).1) c.ar)):=by
 have bd:=ok.bd;unfold DR;simp only [aF]
 by_cases h0:c.ax.aq.length=es.length
 case neg=>rw [dM (by omega),cond_true,dec_f (fun h=>h0 h.1)]
 rw [bP (by omega),cond_false]
 have key:=rB (body:=vI) (fun i=>(es,(i:Int),c.ar.1,c.ar.2,c.au.aa,c.ax.ao,c.ax.aq,c.ay.ai.ac,c.ay.ai.ae,c.ay.ai.af,c.ay.aj,c.ay.am,c.az)) es.length
  (fun i=>wP c.ax.aq es[i]!/\cR (fU c.au.aa (es[i]!).2) (fU c.au.aa (es[i]!).1) c.ar) (r:=false) (e:=true) (fun i hi=>by
  have ceta2:bM.mk c.ax.ao c.ax.aq=c.ax:=rfl;unfold vI;simp only [aF,aK (show (i:Int)<(es.length:Int) by omega),cond_true,aE es i hi,aB,ceta2,D0 c.ax es[i]! (by omega),aOz ok.fld (t:=(c.ar.1,c.ar.2)) ok.now64 (kn _ (bE hi)),aV (show i<1000000000 by omega)]
  by_cases h1:wP c.ax.aq es[i]!
  · rw [aK h1]
    by_cases h2:cR (fU c.au.aa (es[i]!).2) (fU c.au.aa (es[i]!).1) c.ar
    · rw [show decide (cR (fU c.au.aa (es[i]!).2) (fU c.au.aa (es[i]!).1) (c.ar.1,c.ar.2))=true from aK h2]
      exact ⟨fun h=>absurd ⟨h1,h2⟩ h,fun _=>rfl⟩
    rw [show decide (cR (fU c.au.aa (es[i]!).2) (fU c.au.aa (es[i]!).1) (c.ar.1,c.ar.2))=false from dec_f h2]
    exact ⟨fun _=>rfl,fun h=>absurd h.2 h2⟩
  · rw [dec_f h1]
    exact ⟨fun _=>rfl,fun h=>absurd h.1 h1⟩) (by
  unfold vI;simp only [aF,dec_f (show¬(es.length:Int)<(es.length:Int) by omega),cond_false])
 refine (show _=_ from key).trans ?_
 by_cases h2: ∀i,i<es.length->wP c.ax.aq es[i]!/\cR (fU c.au.aa (es[i]!).2) (fU c.au.aa (es[i]!).1) c.ar
 · rw [if_pos h2,aK ⟨h0,h2⟩]
 rw [if_neg h2,dec_f (fun h=>h2 h.2)]
def bI (p w:List Int) (i:Nat):Int:=if i<w.length then w[i]! else p[i-w.length]!
def jQ (i j:Nat):Prop:= ∃d,(j+1) / 2^d=i+1
theorem jQ.refl (i:Nat):jQ i i:=⟨0,by simp⟩
theorem rU {i k j:Nat} (hk:k=2*i+1\/k=2*i+2) (h:jQ k j):jQ i j:=by
 obtain ⟨d,hd⟩:=h;refine ⟨d+1,?_⟩;rw [dv,<- cm,hd];omega
theorem OE {a b c d:Nat} (h:a<=b) (hc:(c+1) / 2^a=d):(c+1) / 2^b=d / 2^(b-a):=by
 have:2^b=2^a*2^(b-a):=by rw [<- Nat.pow_add];congr 1;omega
 rw [this,<- cm,hc]
theorem aAi {x e:Nat} (he:0<e):x / 2^e<=x / 2:=by
 obtain ⟨k,rfl⟩: ∃k,e=k+1:=⟨e-1,by omega⟩
 rw [show 2^(k+1)=2*2^k by rw [dv];omega,<- cm]
 exact Nat.div_le_self _ _
theorem wS {i j:Nat} (h1:jQ (2*i+1) j) (h2:jQ (2*i+2) j):False:=by
 obtain ⟨a,ha⟩:=h1;obtain ⟨b,hb⟩:=h2;rcases bz a b with h|h|h
 · have:=OE (dw h) ha
   have:=aAi (x:=2*i+1+1) (e:=b-a) (by omega)
   omega
 · subst h;omega
 have:=OE (dw h) hb
 have:=aAi (x:=2*i+2+1) (e:=a-b) (by omega)
 omega
theorem aGT {i k j1 j2:Nat} (h1:jQ (2*i+1) j1) (h2:jQ (2*i+2) j2) (g:(jQ (2*k+1) j1/\jQ (2*k+2) j2)\/(jQ (2*k+1) j2/\jQ (2*k+2) j1)):i=k:=by
 have main: ∀{i k j1 j2:Nat},jQ (2*i+1) j1\/jQ (2*i+2) j1->jQ i j2->(jQ (2*k+1) j1/\jQ (2*k+2) j2)\/(jQ (2*k+1) j2/\jQ (2*k+2) j1)-> ∀a a':Nat,(j1+1) / 2^a=i+1->(j1+1) / 2^a'=k+1->a<a'->False:=by
  intro i k j1 j2 _ u2 g a a' ha ha' hlt;have e:=OE (dw hlt) ha;rw [ha'] at e;obtain ⟨c,hc⟩: ∃c,a'-a=c+1:=⟨a'-a-1,by omega⟩
  rw [hc,dv,<- cm] at e;have q: ∃m,(i+1) / 2^c=m+1/\(m=2*k+1\/m=2*k+2):=⟨(i+1) / 2^c-1,by omega,by omega⟩
  obtain ⟨m,hm,hmk⟩:=q;have um: ∀j,jQ i j->jQ m j:=fun j ⟨d,hd⟩=>⟨d+c,by
   rw [OE (Nat.le_add_right d c) hd,show d+c-d=c by omega,hm]⟩
  have u1:jQ i j1:=⟨a,ha⟩;have v1:=um _ u1;have v2:=um _ u2;rcases hmk with rfl|rfl
  · rcases g with g|g
    · exact wS v2 g.2
    exact wS v1 g.2
  rcases g with g|g
  · exact wS g.1 v1
  exact wS g.1 v2
 have i1:jQ i j1:=rU (.inl rfl) h1;have i2:jQ i j2:=rU (.inr rfl) h2;have k1:jQ k j1:=by rcases g with g|g;exact rU (.inl rfl) g.1;exact rU (.inr rfl) g.2
 have k2:jQ k j2:=by rcases g with g|g;exact rU (.inr rfl) g.2;exact rU (.inl rfl) g.1
 obtain ⟨a,ha⟩:=i1;obtain ⟨a',ha'⟩:=k1;rcases bz a a' with h|h|h
 · exact (main (.inl h1) i2 g a a' ha ha' h).elim
 · subst h;omega
 exact (main (i:=k) (k:=i) (j1:=j1) (j2:=j2) (by rcases g with g|g;exact .inl g.1;exact .inr g.2) k2 (.inl ⟨h1,h2⟩) a' a ha' ha h).elim
def D3 (p w:List Int):Prop:= ∀i,i<w.length->w[i]! =bI p w (2*i+1)\/w[i]! =bI p w (2*i+2)
theorem D4 {p w:List Int} (hl:w.length+1=p.length) (hc:D3 p w): ∀(d i:Nat),w.length+p.length-i<=d->i<w.length+p.length-> ∃j,w.length<=j/\j<w.length+p.length/\jQ i j/\p[j-w.length]! =bI p w i:=by
 intro d
 induction d with
 |zero=>intro i h1 h2;omega
 |succ d ih=>
  intro i h1 h2
  by_cases hi:i<w.length
  · rcases hc i hi with e|e
    · obtain ⟨j,j1,j2,j3,j4⟩:=ih (2*i+1) (by omega) (by omega)
      refine ⟨j,j1,j2,rU (.inl rfl) j3,?_⟩;rw [j4,<- e];unfold bI;rw [if_pos hi]
    obtain ⟨j,j1,j2,j3,j4⟩:=ih (2*i+2) (by omega) (by omega)
    refine ⟨j,j1,j2,rU (.inr rfl) j3,?_⟩;rw [j4,<- e];unfold bI;rw [if_pos hi]
  refine ⟨i,by omega,h2,.refl i,?_⟩
  unfold bI;rw [if_neg hi]
def JB (p:List Int):Prop:= ∀i j,i<j->j<p.length->p[i]! =p[j]!->p[i]!<0
theorem JB.inj {p:List Int} (h:JB p) {i j:Nat} (hi:i<p.length) (hj:j<p.length) (e:p[i]! =p[j]!) (h0:0<=p[i]!):i=j:=by
 rcases bz i j with k|k|k
 · have:=h i j k hj e;omega
 · exact k
 have:=h j i k hi e.symm;rw [<- e] at this;omega
section
variable {p w : List Int} (hl : w.length + 1 = p.length) (hc : D3 p w) (ho : JB p)
include hl hc
theorem iS {i:Nat} (hi:i<w.length+p.length):bI p w i∈p:=by
 obtain ⟨j,j1,j2,_,e⟩:=D4 hl hc _ i (bw _) hi;rw [<- e];exact bE (by omega)
include ho
theorem K4 {i:Nat} (hi:i<w.length) (h0:0<=bI p w (2*i+1)):bI p w (2*i+1)≠bI p w (2*i+2):=by
 intro e;obtain ⟨j,j1,j2,j3,j4⟩:=D4 hl hc _ (2*i+1) (bw _) (by omega)
 obtain ⟨k,k1,k2,k3,k4⟩:=D4 hl hc _ (2*i+2) (bw _) (by omega)
 have:=ho.inj (i:=j-w.length) (j:=k-w.length) (by omega) (by omega) (by rw [j4,k4,e]) (by rw [j4];exact h0)
 obtain rfl:j=k:=by omega
 exact wS j3 k3
theorem aGU {i k:Nat} (hi:i<w.length) (hk:k<w.length) (h1:0<=bI p w (2*i+1)) (h2:0<=bI p w (2*i+2))
 (g:(bI p w (2*k+1)=bI p w (2*i+1)/\bI p w (2*k+2)=bI p w (2*i+2))\/(bI p w (2*k+1)=bI p w (2*i+2)/\bI p w (2*k+2)=bI p w (2*i+1))):i=k:=by
 obtain ⟨j1,a1,a2,a3,a4⟩:=D4 hl hc _ (2*i+1) (bw _) (by omega)
 obtain ⟨j2,b1,b2,b3,b4⟩:=D4 hl hc _ (2*i+2) (bw _) (by omega)
 obtain ⟨l1,c1,c2,c3,c4⟩:=D4 hl hc _ (2*k+1) (bw _) (by omega)
 obtain ⟨l2,d1,d2,d3,d4⟩:=D4 hl hc _ (2*k+2) (bw _) (by omega)
 have same: ∀{x y:Nat},w.length<=x->x<w.length+p.length->w.length<=y->y<w.length+p.length->p[x-w.length]! =p[y-w.length]!->0<=p[x-w.length]!->x=y:=fun {x y} hx hx' hy hy' e h0=>by
  have:=ho.inj (i:=x-w.length) (j:=y-w.length) (by omega) (by omega) e h0
  omega
 refine aGT a3 b3 ?_;rcases g with ⟨g1,g2⟩|⟨g1,g2⟩
 · have e1:j1=l1:=same a1 a2 c1 c2 (by rw [a4,c4,g1]) (by rw [a4];exact h1)
   have e2:j2=l2:=same b1 b2 d1 d2 (by rw [b4,d4,g2]) (by rw [b4];exact h2)
   subst e1 e2;exact .inl ⟨c3,d3⟩
 have e1:j2=l1:=same b1 b2 c1 c2 (by rw [b4,c4,g1]) (by rw [b4];exact h2)
 have e2:j1=l2:=same a1 a2 d1 d2 (by rw [a4,d4,g2]) (by rw [a4];exact h1)
 subst e1 e2;exact .inr ⟨c3,d3⟩
end
noncomputable def D5 (f:List Pt) (t:Int×Int) (x y:Int):Int:=if x<0 then y else if y<0 then x else if cR (fU f x) (fU f y) t then x else y
theorem aOB (f:List Pt) (t:Int×Int) (x y:Int):D5 f t x y=x\/D5 f t x y=y:=by
 unfold D5;split
 · exact .inr rfl
 split
 · exact .inl rfl
 split
 · exact .inl rfl
 exact .inr rfl
def RH (f:List Pt) (t:Int×Int) (p w:List Int):Prop:=w.length+1=p.length/\ ∀i,i<w.length->w[i]! =D5 f t (bI p w (2*i+1)) (bI p w (2*i+2))
theorem RH.chosen {f:List Pt} {t:Int×Int} {p w:List Int} (h:RH f t p w):D3 p w:=fun i hi=>by
 rw [h.2 i hi];exact aOB ..
noncomputable def UA (f:List Pt) (t:Int×Int) (p:List Int):Nat->List Int->List Int
 |0,w=>w
 |i+1,w=>UA f t p i (w.set i (D5 f t (bI p w (2*i+1)) (bI p w (2*i+2))))
noncomputable def aY (f:List Pt) (t:Int×Int) (p:List Int):List Int:=UA f t p (p.length-1) (d9 (p.length-1) 0)
theorem UB {p w:List Int} {i k:Nat} {v:Int} (h:i≠k):bI p (w.set i v) k=bI p w k:=by
 unfold bI;rw [ce];split
 · rw [bD,if_neg (fun x=>h x.1.symm)]
 rfl
theorem UC {f:List Pt} {t:Int×Int} {p:List Int}: ∀(n:Nat) (w:List Int),n<=w.length->(∀i,n<=i->i<w.length->w[i]! =D5 f t (bI p w (2*i+1)) (bI p w (2*i+2)))->
 (UA f t p n w).length=w.length/\ ∀i,i<w.length->(UA f t p n w)[i]! =D5 f t (bI p (UA f t p n w) (2*i+1)) (bI p (UA f t p n w) (2*i+2))
 |0,w,_,h=>⟨rfl,fun i hi=>h i (Nat.zero_le _) hi⟩
 |n+1,w,hn,h=>by
  have ih:=UC n (w.set n (D5 f t (bI p w (2*n+1)) (bI p w (2*n+2)))) (by rw [ce];omega) (fun i h1 h2=>by
   rw [ce] at h2;rw [UB (by omega),UB (by omega),bD]
   split
   · rename_i e;rw [e.1]
   exact h i (by omega) h2)
  rw [ce] at ih;exact ih
theorem dQ {f:List Pt} {t:Int×Int} {p:List Int} (hp:1<=p.length):RH f t p (aY f t p):=by
 have:=UC (f:=f) (t:=t) (p:=p) (p.length-1) (d9 (p.length-1) 0) (by rw [c7];omega) (fun i h1 h2=>by rw [c7] at h2;omega)
 rw [c7] at this;have hl:(aY f t p).length=p.length-1:=this.1;exact ⟨by omega,fun i hi=>this.2 i (by omega)⟩
theorem UD {f:List Pt} {t:Int×Int} {p w v:List Int} (h:RH f t p w) (g:RH f t p v):w=v:=by
 have hl:w.length=v.length:=by have:=h.1;have:=g.1;omega
 have key: ∀(d i:Nat),w.length-i<=d->i<w.length->w[i]! =v[i]!:=by
  intro d
  induction d with
  |zero=>intro i h1 h2;omega
  |succ d ih=>
   intro i _ hi;have nd: ∀k,i<k->bI p w k=bI p v k:=fun k hk=>by
    unfold bI;rw [hl];split
    · rename_i h';exact ih k (by omega) (by omega)
    rfl
   rw [h.2 i hi,g.2 i (by omega),nd _ (by omega),nd _ (by omega)]
 exact wM hl fun i hi=>key _ i (bw _) hi
noncomputable def ET (p w:List Int) (i:Nat):Option (Int×Int):=
 if bI p w (2*i+1)<0\/bI p w (2*i+2)<0 then none
 else if w[i]! =bI p w (2*i+1) then some (bI p w (2*i+2),bI p w (2*i+1)) else some (bI p w (2*i+1),bI p w (2*i+2))
noncomputable def dR (p w:List Int):List (Int×Int):=(d8 w.length).filterMap (ET p w)
theorem RI (p w:List Int):(dR p w).length<=w.length:=by
 have:=List.length_filterMap_le (ET p w) (d8 w.length)
 rwa [dt] at this
theorem JC {p w:List Int} {e:Int×Int}:e∈dR p w↔ ∃i,i<w.length/\ET p w i=some e:=by
 unfold dR;rw [dj];constructor
 · rintro ⟨i,hi,h⟩;exact ⟨i,cy.1 hi,h⟩
 rintro ⟨i,hi,h⟩;exact ⟨i,cy.2 hi,h⟩
theorem D6 {p w:List Int} {i:Nat} {e:Int×Int} (h:ET p w i=some e):0<=bI p w (2*i+1)/\0<=bI p w (2*i+2)/\
 ((e=(bI p w (2*i+2),bI p w (2*i+1))/\w[i]! =bI p w (2*i+1))\/(e=(bI p w (2*i+1),bI p w (2*i+2))/\w[i]!≠bI p w (2*i+1))):=by
 unfold ET at h;split at h
 · cases h
 rename_i hn
 refine ⟨by omega,by omega,?_⟩
 split at h
 · rename_i h1;injection h with h;exact .inl ⟨h.symm,h1⟩
 rename_i h1;injection h with h;exact .inr ⟨h.symm,h1⟩
theorem EU {α β:Type} {g:α->Option β}: ∀{l:List α},l.Nodup->(∀x∈l,∀y∈l,∀b,g x=some b->g y=some b->x=y)->(l.filterMap g).Nodup
 | [],_,_=> .nil
 |a::r,h,hi=>by
  obtain ⟨h1,h2⟩:=cw.1 h;have ih:=EU (g:=g) h2 (fun x hx y hy b e1 e2=>hi x (bn _ hx) y (bn _ hy) b e1 e2)
  cases hg:g a with
  |none=>rw [List.filterMap_cons_none hg];exact ih
  |some b=>
   rw [List.filterMap_cons_some hg];refine cw.2 ⟨fun hb=>?_,ih⟩
   obtain ⟨y,hy,e⟩:=dj.1 hb
   have:=hi a (cj ..) y (bn _ hy) b hg e
   subst this;exact h1 hy
theorem WN {p w:List Int} (hl:w.length+1=p.length) (hc:D3 p w) (ho:JB p):(dR p w).Nodup:=by
 refine EU dz fun i hi k hk b e1 e2=>?_
 have hi:=cy.1 hi;have hk:=cy.1 hk;obtain ⟨a1,a2,a3⟩:=D6 e1;obtain ⟨b1,b2,b3⟩:=D6 e2;refine aGU hl hc ho hi hk a1 a2 ?_;rcases a3 with ⟨rfl,_⟩|⟨rfl,_⟩<;>rcases b3 with ⟨h,_⟩|⟨h,_⟩<;>(injection h with h1 h2)
 · exact .inl ⟨h2.symm,h1.symm⟩
 · exact .inr ⟨h1.symm,h2.symm⟩
 · exact .inr ⟨h2.symm,h1.symm⟩
 exact .inl ⟨h1.symm,h2.symm⟩
theorem aEt {f:List Pt} (fok:bZ f) {p w:List Int} (hl:w.length+1=p.length) (hn:p.length<=64) (hc:D3 p w) (ho:JB p) (hk: ∀x∈p,0<=x->pF f x):yA f (dR p w):=by
 have hp: ∀e∈dR p w,kE f e/\e.1≠e.2:=fun e he=>by
  obtain ⟨i,hi,h⟩:=JC.1 he;obtain ⟨a1,a2,a3⟩:=D6 h;have m1:=iS hl hc (i:=2*i+1) (by omega)
  have m2:=iS hl hc (i:=2*i+2) (by omega)
  have ne:=K4 hl hc ho hi a1;rcases a3 with ⟨rfl,_⟩|⟨rfl,_⟩
  · exact ⟨⟨hk _ m2 a2,hk _ m1 a1⟩,fun h=>ne h.symm⟩
  exact ⟨⟨hk _ m1 a1,hk _ m2 a2⟩,ne⟩
 refine ⟨by have:=RI p w;omega,fun e he=>?_,fun e he=>(hp e he).1⟩
 obtain ⟨⟨h1,h2⟩,ne⟩:=hp e he;obtain ⟨⟨p1,p2⟩,q1,q2⟩:=And.intro (dG fok h1) (dG fok h2);unfold gJ at p1 q1;unfold gF;omega
end Go.Proofs.YtlnclppkepgdmaaGreat
