/- Plain laws (3). -/
import Derived.Test.YtfejhjllooomlaaGreatAQM2
import Derived.Test.YtfejhjllooomlaaGreatAQS2
open List renaming length_append->lw,mem_cons_of_mem->v6,length_map->AC,length_drop->Do,length_singleton->If,length_cons->IR,mem_append->M2,mem_cons_self->NE,length_nil->aa4,mem_map->ab0,drop_zero->ab1,drop_length->abK,length_set->abM,nodup_cons->abQ,mem_cons->ac5,length->acg
open Bool renaming not_true->rc,not_false->v4,true->acl,false->acr
open Classical renaming byContradiction->ut,not_not->ww,not_forall->abS,not_imp->abU
open Int renaming mul_right_comm->EQ,mul_le_mul_of_nonneg_right->UV,le_of_mul_le_mul_right->abH,le_refl->abI,mul_assoc->abJ,le_trans->abL,mul_comm->abV,natAbs_mul->abZ
open Nat renaming lt_trichotomy->PP,not_lt_zero->abP,le_refl->abR,dvd_mul_left->abX
open Prod renaming ext->abT,fst->ac9
open Option renaming some->ack
open Decidable renaming decide->acx
namespace Go.Proofs.YtfejhjllooomlaaGreat
open Go.Vm Classical
theorem Ly (c:aH) (n:Int) (hl:(acg c.io)<=1000000):(∀k,k<acg c.io->(c.io[k]!).1=n->(∀j,j<k->(c.io[j]!).1≠n)->nQ c n=ack (k:Int))/\((∀k,k<acg c.io->(c.io[k]!).1≠n)->nQ c n=ack (-1)):=by
 unfold nQ;refine jE (body:=oz) (fun i=>(n,(i:Int),c.ci.1,c.ci.2,c.ii.am,c.ai.aK,c.ai.ce,c.aa.af.ay,c.aa.af.be,c.aa.af.bi,c.aa.bv,c.aa.aj,c.io)) (acg c.io) (fun i=>(c.io[i]!).1=n) (fun i=>(i:Int)) (fun i hi=>?_) ?_
 · have e1:acx ((i:Int)<((acg c.io):Int))=acl:=aJ (by omega)
   unfold oz;simp only [az,e1,kw,ar c.io i hi,aq,aY (show i<1000000000 by omega)];constructor
   · intro h;rw [cV h];rfl
   intro h;rw [dM h];rfl
 unfold oz
 have:acx (((acg c.io):Int)<((acg c.io):Int))=acr:=aF (by omega);simp only [az,this,lc]
theorem C2 {ds:List qT} (hu:Up ds) (hl:(acg ds)<=1000000) (n:Int):(∀k,k<acg ds->(ds[k]!).1=n->nS ds n=ack ((k:Int),acl))/\((∀k,k<acg ds->(ds[k]!).1≠n)-> ∃m:Nat,nS ds n=ack ((m:Int),acr)):=by
 have bs:=sE ds n hl (qp.1 hu);unfold nS;rw [aiM];constructor
 · intro k hk he;rw [bs.1 k hk he];rfl
 intro h
 obtain ⟨m,_,_,_,e⟩:=bs.2 h;exact ⟨m,by rw [e];rfl⟩
theorem aU.bd {c:aH} (ok:aU c):(acg c.io)<=200/\acg c.ii.am<=64/\acg c.ai.ce<=200:=by have:=ok.hd;have:=ok.lI.bd;have:=ok.iE.1;have:=ok.qZ.len;omega
theorem iK {c:aH} (ok:aU c):kX c=ack c:=by have bd:=ok.bd;unfold kX kW pC;simp only [bc (show (acg c.ii.am)<=1048576 by omega),bc (show (acg c.ai.ce)<=1048576 by omega),bc (show (acg c.io)<=1048576 by omega),aq,qo ok.lI]
theorem gM {c:aH} (ok:aU c):jM c=ack c:=by
 have bd:=ok.bd;have ab:=ok.lI.bd;have hl:=ok.lI.so.fl;have hn:=ok.lI.so.n2;have hu:=ok.lI.so.ul;unfold jM;simp only [bc (show (acg c.ii.am)<=1048576 by omega),bc (show (acg c.ai.ce)<=1048576 by omega),bc (show (acg c.io)<=1048576 by omega),bc (show (acg c.aa.bv)<=1048576 by omega),bc (show (acg c.aa.aj)<=1048576 by omega),
  bc (show (acg c.aa.af.ay)<=1048576 by omega),bc (show (acg c.aa.af.be)<=1048576 by omega),bc (show (acg c.aa.af.bi)<=1048576 by omega),aq]
theorem oT {cs:List qT} {i:Nat} (hu:Up cs) (hi:i<acg cs) {x:qT} (hx:x∈cs.eraseIdx i):x∈cs/\x.1≠(cs[i]!).1:=by
 rw [tj,M2] at hx;have ub:=qp.1 hu;rcases hx with hx|hx
 · obtain ⟨j,h1,h2,rfl⟩:=cH.1 hx
   have:=ub j i h1 hi;exact ⟨aL h2,by omega⟩
 obtain ⟨j,hj,rfl⟩:=aO.1 hx
 rw [Do] at hj;rw [pL];have:=ub i (i+1+j) (by omega) (by omega);exact ⟨aL (by omega),by omega⟩
theorem yQ {c:aH} (ok:aU c) (i:Nat) (hi:i<acg c.ai.ce): ∀j,j<(mL c.ai i).ce.length->jd c.ii.am ((mL c.ai i).ce[j]!).2:=by intro j hj;have hm:(mL c.ai i).ce[j]!∈c.ai.ce:=(oT ok.pS hi (aL hj)).1;obtain ⟨m,OC,Mj⟩:=aO.1 hm;rw [<- Mj];exact ok.known m OC
theorem NC {c:aH} (ok:aU c) {i:Nat} (hi:i<acg c.ai.ce):
 ∃c':aH,hZ c (c.ai.ce[i]!).1=ack (c',(c.ai.ce[i]!).2,0)/\nA c (c.ai.ce[i]!).1=ack c'/\aU c'/\c'.ii=c.ii/\c'.ci=c.ci/\c'.ai=mL c.ai i:=by
 have bd:=ok.bd;have rm:=yO ok.qZ hi (n:=(c.ai.ce[i]!).1) rfl;have wo:=CY ok.qZ hi (n:=(c.ai.ce[i]!).1) rfl;have fe:=ok.yP.erase (i:=i) hi;have pd:=C2 ok.C1 (by omega) (c.ai.ce[i]!).1;have da:=Ly c (c.ai.ce[i]!).1 (by omega);cases hf:(bB c.ii.am (c.ai.ce[i]!).2 c.ci).2 with
 |false=>
  have no: ∀k,k<acg c.io->(c.io[k]!).1≠(c.ai.ce[i]!).1:=by
   intro k hk he;obtain ⟨x,hx,h1,h2,_⟩:=ok.yP.io _ (aL hk);obtain ⟨j,hj,rfl⟩:=aO.1 hx;have ub:=qp.1 ok.pS;have:j=i:=by
    rcases PP j i with h|h|h
    · have:=ub j i h hi;omega
    · exact h
    have:=ub i j h hj;omega
   rw [this,hf] at h2;cases h2
  refine ⟨⟨c.ci,c.ii,mL c.ai i,c.aa,c.io⟩,?_,?_,?_,rfl,rfl,rfl⟩
  · unfold hZ
    obtain ⟨m,e⟩:=pd.2 no;simp only [rm,aq,show ((0:Int) !=0)=acr from rfl,lc,gM ok,e]
  · unfold nA
    simp only [iK ok,aq,wo,da.2 no,aF (show¬(0:Int)<= -1 by omega),lc]
  exact ⟨ok.jk,ok.fT,ok.iE,Gl ok.qZ hi,ok.lI,ok.C0,ok.hd,yQ ok i hi,fe.1 hf⟩
 |true=>
  obtain ⟨k,hk,k1,k2,k3⟩:=fe.2 hf;obtain ⟨w,hw,gW⟩:=aO.1 k2;have hh:(c.aa.bv[w]!).2.2.2=(c.io[k]!).2:=by rw [gW]
  have ub:=qp.1 ok.C1;have before: ∀j,j<k->(c.io[j]!).1≠(c.ai.ce[i]!).1:=fun j hj he=>by have:=ub j k hj hk;omega
  have dl:(c.io.eraseIdx k).length=acg c.io-1:=Eb hk;obtain ⟨L,d1,d2⟩:=uz c.io k hk;refine ⟨⟨c.ci,c.ii,mL c.ai i,dP c.aa w,c.io.eraseIdx k⟩,?_,?_,?_,rfl,rfl,rfl⟩
  · unfold hZ
    simp only [rm,aq,show ((0:Int) !=0)=acr from rfl,lc,gM ok,pd.1 k hk k1,kw,ar c.io k hk,pQ ok.lI hw ok.lI.fit hh,aY (show k<1000000000 by omega),Gi,d1,d2]
  · unfold nA
    have s1:hU c.io 0 (k:Int)=ack (c.io.take k):=lH c.io k (by omega);have s2:hU c.io ((k+1:Nat):Int) ((acg c.io):Int)=ack (c.io.drop (k+1)):=by unfold hU;rw [lm ⟨by omega,by omega,by omega⟩];simp only [Int.toNat_natCast];rw [List.take_of_length_le (by rw [Do];exact abR _)]
    have tl:(c.io.take k).length=k:=by rw [List.length_take];omega
    have dl2:(c.io.drop (k+1)).length=acg c.io- (k+1):=Do;simp only [iK ok,aq,wo,da.1 k hk k1 before,aJ (show (0:Int)<=(k:Int) by omega),kw,ar c.io k hk,vV ok.lI hw hh,s1,bc (show (c.io.take k).length<=1048576 by omega),aY (show k<1000000000 by omega),az,s2,
     cR (show (c.io.take k).length+(c.io.drop (k+1)).length<=1048576 by omega),tj]
    cases hem:(c.io.drop (k+1)).isEmpty with
    |true=>rw [List.isEmpty_iff] at hem;rw [hem,List.append_nil];rfl
    |false=>rfl
  have rem:=CW ok.lI hw
  have QQ:=Gh ok.lI hw;have dd:(dP c.aa w).bv.length=acg c.aa.bv-1:=by
   have h1:=rem.hl;have h2:=ok.lI.hl;have h3:(dP c.aa w).af=fE c.aa.af (c.aa.bv[w]!).2.2.2:=by unfold dP;split<;>rfl
   rw [h3] at h1;change _+(c.aa.af.bi++[_]).length=(acg c.aa.af.ay) at h1;rw [lw] at h1;simp only [IR,aa4] at h1;omega
  have aiO:(dP c.aa w).aj.length=200:=by
   have h1:=rem.wl;have h3:(dP c.aa w).af=fE c.aa.af (c.aa.bv[w]!).2.2.2:=by unfold dP;split<;>rfl
   rw [h3] at h1;change _=(acg c.aa.af.ay) at h1;rw [h1,<- ok.lI.wl,ok.C0]
  refine ⟨ok.jk,ok.fT,ok.iE,Gl ok.qZ hi,rem,aiO,?_,yQ ok i hi,?_⟩
  · show (dP c.aa w).bv.length=(c.io.eraseIdx k).length
    rw [dd,dl,ok.hd]
  refine k3.mono fun x hx e he hm=>(QQ e).2 ⟨hm,fun h=>?_⟩
  have:=(oT ok.pS hi hx).2;rw [h,gW] at he;exact this he.symm
theorem xF {c:aH} (ok:aU c) {i:Nat} (_hi:i<acg c.ai.ce) {c':aH} (h:hZ c (c.ai.ce[i]!).1=ack (c',(c.ai.ce[i]!).2,0)):sx c (c.ai.ce[i]!).1=ack (c',0):=by unfold sx;rw [kI ok.fit,lm ok];simp only [aq,show ((0:Int) !=0)=acr from rfl,lc,h]
abbrev dI:aH:=⟨(0,0),⟨[]⟩,⟨0,[]⟩,⟨⟨[],[],[]⟩,[],[]⟩,[]⟩
theorem Jo {l:List Pt} (ok:bG l) {id:Int} (h:gU l id): ¬(aW l id).1<0:=by obtain ⟨h1,_⟩:=eu ok h;have:=h1.1;omega
theorem Pb {c:aH} (ok:aU c) {x:Int×Int} (hx:fN x) (hb:jd c.ii.am x) (hn: ¬rF c.ai.ce x):
 (iI c x=ack (dI,0,18)/\kM c x=ack (dI,0,18)/\(z7 c.ai\/ ¬vP c.aa.af))\/
 ∃c':aH,iI c x=ack (c',c.ai.aK,0)/\kM c x=ack (c',c.ai.aK,0)/\aU c'/\c'.ii=c.ii/\c'.ci=c.ci/\c'.ai=nj c.ai x/\(c'.aa.af=c.aa.af\/c'.aa.af=gD c.aa.af):=by
 have bd:=ok.bd;have n0:=ok.qZ.n0;have n1:=ok.qZ.n1;have fit:=ok.fit;have ad:=Lt ok.qZ hx;have rd:=Jn ok.qZ hx;rw [ls hn] at ad rd;have hc:gm c=ack 0:=by rw [kI fit,lm ok]
 have p1:=mu ok.iE x.1;have p2:=mu ok.iE x.2;have q1:=Jo ok.iE hb.1;have q2:=Jo ok.iE hb.2;have wh:=u9 ok.iE hx ok.jk ok.fT;rw [lm hb] at wh;have rw':=vd ok.iE ok.fT hb
 by_cases hf:z7 c.ai
 · rw [lm hf] at ad rd
   left;refine ⟨?_,?_,.inl hf⟩
   · unfold iI dy
     simp only [hc,aq,show ((0:Int) !=0)=acr from rfl,lc,ad,show ((18:Int)==8)=acr from rfl,p1,p2,aF q1,aF q2,show ((18:Int) !=0)=acl from rfl,kw]
   unfold kM
   simp only [rd,aq,show ((18:Int) !=0)=acl from rfl,kw]
 rw [ls hf] at ad rd;have cok:=NB ok.qZ hx hn hf;have T7: ∀j,j<(nj c.ai x).ce.length->jd c.ii.am ((nj c.ai x).ce[j]!).2:=by
  intro j hj;rw [zC] at hj;rw [tp]
  by_cases h:j<acg c.ai.ce
  · rw [lm h];exact ok.known j h
  rw [ls h,lm (by omega)];exact hb
 have fresh: ∀e∈c.aa.bv,Ev.num e≠c.ai.aK:=by intro e he dK;obtain ⟨d,hd,h1⟩:=ok.zH e he;obtain ⟨y,hy,h2,_⟩:=ok.yP.io d hd;obtain ⟨j,hj,rfl⟩:=aO.1 hy;have:=(ok.qZ.nr j hj).2;omega
 have sn:=ok.yP.snoc (x:=(c.ai.aK,x));cases hw:(bB c.ii.am x c.ci).2 with
 |false=>
  right;refine ⟨⟨c.ci,c.ii,nj c.ai x,c.aa,c.io⟩,?_,?_,⟨ok.jk,ok.fT,ok.iE,cok,ok.lI,ok.C0,ok.hd,T7,sn.1 hw⟩,rfl,rfl,rfl,.inl rfl⟩
  · unfold iI dy
    simp only [hc,aq,show ((0:Int) !=0)=acr from rfl,lc,ad,show ((0:Int)==8)=acr from rfl,p1,p2,aF q1,aF q2,gM ok,wh,hw]
  unfold kM
  simp only [rd,aq,show ((0:Int) !=0)=acr from rfl,lc,iK ok,rw',hw,v4,kw]
 |true=>
  obtain ⟨t1,t2⟩:=BJ (eu ok.iE hb.2).1 (eu ok.iE hb.1).1 ok.fT ok.jk hw
  by_cases op:vP c.aa.af
  · right
    have pu:=vR ok.lI op ok.lI.fit (t:=(bB c.ii.am x c.ci).1) (n:=c.ai.aK) t1 t2 n0 n1 fresh;have rp:=xE ok.lI op (t:=(bB c.ii.am x c.ci).1) (n:=c.ai.aK) t1 t2 n0 n1;have pok:=O' ok.lI op (t:=(bB c.ii.am x c.ci).1) (n:=c.ai.aK) t1 t2 n0 n1 fresh;have QR:=Lp ok.lI op (t:=(bB c.ii.am x c.ci).1) (n:=c.ai.aK) t1;have aiQ:=BO ok.lI op (t:=(bB c.ii.am x c.ci).1) (n:=c.ai.aK) t1;have ap: ∀h:Int×Int,bI c.io [(c.ai.aK,h)]=ack (c.io++[(c.ai.aK,h)]):=fun h=>cR (by simp;omega)
    have aiO:(k9 c.aa (bB c.ii.am x c.ci).1 c.ai.aK).aj.length=200:=by have:=pok.wl;change _=(c.aa.af.ay.set _ _).length at this;rw [abM] at this;rw [this,<- ok.lI.wl,ok.C0]
    refine ⟨⟨c.ci,c.ii,nj c.ai x,k9 c.aa (bB c.ii.am x c.ci).1 c.ai.aK,c.io++[(c.ai.aK,k8 c.aa.af)]⟩,?_,?_,⟨ok.jk,ok.fT,ok.iE,cok,pok,aiO,?_,T7,?_⟩,rfl,rfl,rfl,.inr rfl⟩
    · unfold iI dy
      simp only [hc,aq,show ((0:Int) !=0)=acr from rfl,lc,ad,show ((0:Int)==8)=acr from rfl,p1,p2,aF q1,aF q2,gM ok,wh,hw,kw,pu,ap]
    · unfold kM
      simp only [rd,aq,show ((0:Int) !=0)=acr from rfl,lc,iK ok,rw',hw,rc,qn ok.lI.so,aJ op,rp,ap]
    · show (k9 c.aa (bB c.ii.am x c.ci).1 c.ai.aK).bv.length=(c.io++[_]).length
      rw [aiQ,lw,ok.hd];rfl
    have fm:aV c.ii.am c.ci (k9 c.aa (bB c.ii.am x c.ci).1 c.ai.aK).bv c.ai.ce c.io:=ok.yP.mono fun y hy e he hm=>(QR e).2 (.inr hm)
    exact (fm.snoc (x:=(c.ai.aK,x))).2 _ hw rfl ((QR _).2 (.inl rfl))
  left
  have pu:=vT ok.lI op ok.lI.fit (t:=(bB c.ii.am x c.ci).1) (n:=c.ai.aK) t1 t2 n0 n1 fresh;refine ⟨?_,?_,.inr op⟩
  · unfold iI dy
    simp only [hc,aq,show ((0:Int) !=0)=acr from rfl,lc,ad,show ((0:Int)==8)=acr from rfl,p1,p2,aF q1,aF q2,gM ok,wh,hw,kw,pu,show ((18:Int) !=0)=acl from rfl]
  unfold kM
  simp only [rd,aq,show ((0:Int) !=0)=acr from rfl,lc,iK ok,rw',hw,rc,qn ok.lI.so,aF op,v4,kw]
theorem Up.inj {cs:List qT} (h:Up cs) {x y:qT} (hx:x∈cs) (hy:y∈cs) (he:x.1=y.1):x=y:=by
 obtain ⟨i,hi,rfl⟩:=aO.1 hx;obtain ⟨j,hj,rfl⟩:=aO.1 hy;have ub:=qp.1 h;rcases PP i j with h1|h1|h1
 · have:=ub i j h1 hj;omega
 · rw [h1]
 have:=ub j i h1 hi;omega
structure Gn (c:aH) (f:List Pt) (i k:Nat) (a:aI) (ds:List qT):Prop where
 ok:eY a
 w2:(acg a.aj)=200
 new:aV f c.ci a.bv (c.ai.ce.take i) ds
 old:aV c.ii.am c.ci a.bv (c.ai.ce.drop i) (c.io.drop k)
 kl:k<=acg c.io
 cnt:(acg a.bv)=acg ds+(acg c.io-k)
theorem aiR {a:aI} (ok:eY a) {w:Nat} (hw:w<acg a.bv):(dP a w).bv.length=acg a.bv-1/\(dP a w).aj.length=(acg a.aj):=by
 have rem:=CW ok hw;have h3:(dP a w).af=fE a.af (a.bv[w]!).2.2.2:=by unfold dP;split<;>rfl
 have h1:=rem.hl;have h2:=ok.hl;have h4:=rem.wl;rw [h3] at h1 h4;change _+(a.af.bi++[_]).length=(acg a.af.ay) at h1;change _=(acg a.af.ay) at h4;rw [lw] at h1;simp only [IR,aa4] at h1;exact ⟨by omega,by rw [h4,ok.wl]⟩
theorem abe {a:aI} {t:Int×Int} {n:Int} (ok:eY a) (pok:eY (k9 a t n)):(k9 a t n).aj.length=(acg a.aj):=by have:=pok.wl;change _=(a.af.ay.set _ _).length at this;rw [abM] at this;rw [this,ok.wl]
section
variable {c : aH} (ok : aU c) {f : List Pt} (cj : bG f) (kn : ∀ i, i < (acg c.ai.ce) -> jd f (c.ai.ce[i]!).2)
include ok
theorem BT {i:Nat} {x:qT} (hx:x∈c.ai.ce.take i) (hi:i<acg c.ai.ce):x.1≠(c.ai.ce[i]!).1:=by obtain ⟨j,h1,h2,rfl⟩:=cH.1 hx;have:=ok.qZ.up j i h1 hi;omega
theorem xl {i:Nat} {x:qT} (hx:x∈c.ai.ce.drop (i+1)) (hi:i<acg c.ai.ce):x.1≠(c.ai.ce[i]!).1:=by obtain ⟨j,h1,rfl⟩:=aO.1 hx;rw [Do] at h1;rw [pL];have:=ok.qZ.up i (i+1+j) (by omega) (by omega);omega
theorem QS {i k:Nat} {a:aI} {ds:List qT} (inv:Gn c f i k a ds) (hi:i<acg c.ai.ce) (was:(bB c.ii.am (c.ai.ce[i]!).2 c.ci).2=acr): ∀e∈a.bv,Ev.num e≠(c.ai.ce[i]!).1:=by
 have u1:Up (c.ai.ce.take i):=ok.pS.sublist (List.take_sublist _ _);have u2:Up (c.ai.ce.drop i):=ok.pS.sublist (List.drop_sublist _ _);have d1:=inv.new.up u1;have d2:=inv.old.up u2;have amS: ∀x∈ds,∀y∈c.io.drop k,x.1<y.1:=by intro x hx y hy;obtain ⟨p,hp,h1,_⟩:=inv.new.io x hx;obtain ⟨q,hq,h2,_⟩:=inv.old.io y hy;obtain ⟨m,m1,m2,rfl⟩:=cH.1 hp;obtain ⟨n,n1,rfl⟩:=aO.1 hq;rw [Do] at n1;rw [pL] at h2;have:=ok.qZ.up m (i+n) (by omega) (by omega);omega
 have nd:((ds++c.io.drop k).map fun x=>x.1).Nodup:=Lx (by show List.Pairwise _ _;rw [List.pairwise_append];exact ⟨d1,d2,amS⟩);have only:=DD (H:=a.bv) nd (by rw [AC,lw,Do,inv.cnt];exact abR _) (fun n hn=>by
  obtain ⟨x,hx,rfl⟩:=ab0.1 hn;rcases M2.1 hx with hx|hx
  · obtain ⟨p,hp,h1,h2,h3⟩:=inv.new.io x hx
    exact ⟨_,h3,h1.symm⟩
  obtain ⟨p,hp,h1,h2,h3⟩:=inv.old.io x hx
  exact ⟨_,h3,h1.symm⟩)
 intro e he dK;obtain ⟨x,hx,h1⟩:=ab0.1 (only e he);rcases M2.1 hx with hx|hx
 · obtain ⟨p,hp,h2,_⟩:=inv.new.io x hx
   exact BT ok hp hi (by rw [<- h2,h1,dK])
 obtain ⟨p,hp,h2,h3,_⟩:=inv.old.io x hx
 have hp':p∈c.ai.ce:=List.mem_of_mem_drop hp;have:=ok.pS.inj hp' (aL hi) (by rw [<- h2,h1,dK]);rw [this,was] at h3;cases h3
def QT (c:aH) (f:List Pt) (i:Nat) (a:aI) (ds:List qT):=
 (c.ai.ce,((acg c.ai.ce):Int),(i:Int),c.ci.1,c.ci.2,c.ii.am,c.ai.aK,c.ai.ce,c.aa.af.ay,c.aa.af.be,c.aa.af.bi,c.aa.bv,c.aa.aj,c.io,f,(0:Int),(0:Int),(0:Int),c.ci.1,c.ci.2,c.ai.aK,c.ai.ce,a.af.ay,a.af.be,a.af.bi,a.bv,a.aj,f,ds)
def QU (c:aH) (f:List Pt) (i:Nat) (a:aI) (ds:List qT):=
 ((i:Int),c.ci.1,c.ci.2,c.ii.am,c.ai.aK,c.ai.ce,c.aa.af.ay,c.aa.af.be,c.aa.af.bi,c.aa.bv,c.aa.aj,c.io,f,(0:Int),(0:Int),(0:Int),c.ci.1,c.ci.2,f,c.ai.aK,c.ai.ce,a.af.ay,a.af.be,a.af.bi,a.bv,a.aj,ds)
include cj kn
theorem T8 {i k:Nat} {a:aI} {ds:List qT} (inv:Gn c f i k a ds) (hi:i<acg c.ai.ce) (U4:(acg ds)<=i):
 (dB (QT c f i a ds)=ack (.done (.done (dI,18)))/\cK (QU c f i a ds)=ack (.done (dI,18)))\/
 ∃k' a' yi,dB (QT c f i a ds)=ack (.next (QT c f (i+1) a' yi))/\cK (QU c f i a ds)=ack (.next (QU c f (i+1) a' yi))/\Gn c f (i+1) k' a' yi/\acg yi<=i+1:=by
 have bd:=ok.bd;have e1:acx ((i:Int)<((acg c.ai.ce):Int))=acl:=aJ (by omega);have sc:=aY (show i<1000000000 by omega);have cg:=ar c.ai.ce i hi;have hb:=kn i hi;have wn:=u9 cj (x:=(c.ai.ce[i]!).2) (t:=(c.ci.1,c.ci.2)) (ok.qZ.cv i hi) ok.jk ok.fT;rw [lm hb] at wn;have wr:=vd cj (x:=(c.ai.ce[i]!).2) (t:=(c.ci.1,c.ci.2)) ok.fT hb;have pd:=C2 ok.C1 (by omega) (c.ai.ce[i]!).1;have da:=Ly c (c.ai.ce[i]!).1 (by omega);have dr:=pR hi;have tk:=fv hi;have old:=inv.old;rw [dr] at old;have Lz:aI.mk (aQ.mk a.af.ay a.af.be a.af.bi) a.bv a.aj=a:=rfl
 have je:(aH.mk (c.ci.1,c.ci.2) (Field.mk c.ii.am) (bj.mk c.ai.aK c.ai.ce) (aI.mk (aQ.mk c.aa.af.ay c.aa.af.be c.aa.af.bi) c.aa.bv c.aa.aj) c.io)=c:=rfl;have other: ∀x∈c.ai.ce.take i,x.1≠(c.ai.ce[i]!).1:=fun x hx=>BT ok hx hi
 have T9: ∀x∈c.ai.ce.drop (i+1),x.1≠(c.ai.ce[i]!).1:=fun x hx=>xl ok hx hi
 cases abf:(bB c.ii.am (c.ai.ce[i]!).2 c.ci).2 with
 |true=>
  obtain ⟨d,yi,hd1,hd2,hd3,hd4⟩:=(aV.iP abf).1 old;have hk:k<(acg c.io):=by
   refine ut fun h=>?_
   rw [List.drop_eq_nil_of_le (by omega)] at hd1;cases hd1
  have dk:=pR hk;rw [dk] at hd1;injection hd1 with hd5 hd6;subst hd5 hd6;obtain ⟨w,hw,gW⟩:=aO.1 hd3;have hh:(a.bv[w]!).2.2.2=(c.io[k]!).2:=by rw [gW]
  have amT:Ev.num a.bv[w]! =(c.ai.ce[i]!).1:=by rw [gW]
  have before: ∀j,j<k->(c.io[j]!).1≠(c.ai.ce[i]!).1:=fun j hj he=>by have:=qp.1 ok.C1 j k hj hk;omega
  have pl:=pd.1 k hk hd2;have dq:=da.1 k hk hd2 before;have gk:=ar c.io k hk;have k0:acx ((0:Int)<=(k:Int))=acl:=aJ (by omega);have ap:bI ds [c.io[k]!]=ack (ds++[c.io[k]!]):=cR (by simp;omega);cases LA:(bB f (c.ai.ce[i]!).2 c.ci).2 with
  |true=>
   right;have tt:bA (bB f (c.ai.ce[i]!).2 c.ci).1/\jW (bB f (c.ai.ce[i]!).2 c.ci).1:=BJ (eu cj hb.2).1 (eu cj hb.1).1 ok.fT ok.jk LA;obtain ⟨t1,t2⟩:=tt;have re:=DW inv.ok inv.ok.fit (t:=(bB f (c.ai.ce[i]!).2 c.ci).1) hw hh t1 t2;have rr:=CV inv.ok (t:=(bB f (c.ai.ce[i]!).2 c.ci).1) hw hh t1 t2;have rok:=T1 inv.ok hw t1 t2;have QQ:=QP inv.ok hw t1;have T':=CU inv.ok hw t1;have stay: ∀(cs:List qT),(∀x∈cs,x.1≠(c.ai.ce[i]!).1)-> ∀x∈cs,∀e:Ev,e.num=x.1->e∈a.bv->e∈(j9 a w (bB f (c.ai.ce[i]!).2 c.ci).1).bv:=by
    intro cs np x hx e he hm;refine (QQ e).2 (.inr ⟨hm,fun h=>np x hx ?_⟩);rw [<- he,h,amT]
   refine ⟨k+1,j9 a w (bB f (c.ai.ce[i]!).2 c.ci).1,ds++[c.io[k]!],?_,?_,⟨rok,by rw [T'.2];exact inv.w2,?_,?_,by omega,?_⟩,by simp;omega⟩
   · unfold dB QT
     simp only [e1,kw,cg,aq,wn,pl,LA,gk,Lz,re,ap,show ((0:Int) !=0)=acr from rfl,lc,sc]
   · unfold cK QU
     simp only [az,e1,kw,cg,aq,je,dq,wr,LA,k0,gk,Lz,rr,ap,rc,lc,sc]
   · rw [tk]
     exact ((inv.new.mono (stay _ other)).snoc (x:=c.ai.ce[i]!)).2 _ LA hd2 ((QQ _).2 (.inl (by show _=((bB f (c.ai.ce[i]!).2 c.ci).1.1,(bB f (c.ai.ce[i]!).2 c.ci).1.2,(a.bv[w]!).2.2);rw [gW])))
   · exact hd4.mono (stay _ T9)
   rw [T'.1,inv.cnt,lw]
   simp only [IR,aa4];omega
  |false=>
   right;have rv:=pQ inv.ok hw inv.ok.fit hh;have rr:=vV inv.ok hw hh;have rok:=CW inv.ok hw;have QQ:=Gh inv.ok hw;have T':=aiR inv.ok hw;have stay: ∀(cs:List qT),(∀x∈cs,x.1≠(c.ai.ce[i]!).1)-> ∀x∈cs,∀e:Ev,e.num=x.1->e∈a.bv->e∈(dP a w).bv:=by intro cs np x hx e he hm;refine (QQ e).2 ⟨hm,fun h=>np x hx ?_⟩;rw [<- he,h,amT]
   refine ⟨k+1,dP a w,ds,?_,?_,⟨rok,by rw [T'.2];exact inv.w2,?_,hd4.mono (stay _ T9),by omega,?_⟩,by omega⟩
   · unfold dB QT
     simp only [e1,kw,cg,aq,wn,pl,LA,gk,Lz,rv,show ((0:Int) !=0)=acr from rfl,lc,sc]
   · unfold cK QU
     simp only [az,e1,kw,cg,aq,je,dq,wr,LA,k0,gk,Lz,rr,v4,lc,sc]
   · rw [tk]
     exact ((inv.new.mono (stay _ other)).snoc (x:=c.ai.ce[i]!)).1 LA
   have:=inv.cnt
   rw [T'.1];omega
 |false=>
  have yP:=(aV.gE abf).1 old;have no: ∀j,j<acg c.io->(c.io[j]!).1≠(c.ai.ce[i]!).1:=by intro j hj he;obtain ⟨x,hx,h1,h2,_⟩:=ok.yP.io _ (aL hj);have:=ok.pS.inj hx (aL hi) (by rw [<- h1,he]);rw [this,abf] at h2;cases h2
  obtain ⟨m,pl⟩:=pd.2 no;have dq:=da.2 no;have k0:acx ((0:Int)<= -1)=acr:=aF (by omega);cases LA:(bB f (c.ai.ce[i]!).2 c.ci).2 with
  |true=>
   have tt:bA (bB f (c.ai.ce[i]!).2 c.ci).1/\jW (bB f (c.ai.ce[i]!).2 c.ci).1:=BJ (eu cj hb.2).1 (eu cj hb.1).1 ok.fT ok.jk LA;obtain ⟨t1,t2⟩:=tt;have n0:=(ok.qZ.nr i hi).1;have n1:(c.ai.ce[i]!).1<=1000000:=by have:=(ok.qZ.nr i hi).2;have:=ok.qZ.n1;omega
   have fresh:=QS ok inv hi abf
   by_cases op:vP a.af
   · right
     have pu:=vR inv.ok op inv.ok.fit (t:=(bB f (c.ai.ce[i]!).2 c.ci).1) (n:=(c.ai.ce[i]!).1) t1 t2 n0 n1 fresh;have rp:=xE inv.ok op (t:=(bB f (c.ai.ce[i]!).2 c.ci).1) (n:=(c.ai.ce[i]!).1) t1 t2 n0 n1;have pok:=O' inv.ok op (t:=(bB f (c.ai.ce[i]!).2 c.ci).1) (n:=(c.ai.ce[i]!).1) t1 t2 n0 n1 fresh;have QR:=Lp inv.ok op (t:=(bB f (c.ai.ce[i]!).2 c.ci).1) (n:=(c.ai.ce[i]!).1) t1;have aiQ:=BO inv.ok op (t:=(bB f (c.ai.ce[i]!).2 c.ci).1) (n:=(c.ai.ce[i]!).1) t1;have ap: ∀h:Int×Int,bI ds [((c.ai.ce[i]!).1,h)]=ack (ds++[((c.ai.ce[i]!).1,h)]):=fun h=>cR (by simp;omega)
     have opn:=qn inv.ok.so;rw [aJ op] at opn;refine ⟨k,k9 a (bB f (c.ai.ce[i]!).2 c.ci).1 (c.ai.ce[i]!).1,ds++[((c.ai.ce[i]!).1,k8 a.af)],?_,?_,⟨pok,by rw [abe inv.ok pok];exact inv.w2,?_,?_,inv.kl,?_⟩,by simp;omega⟩
     · unfold dB QT
       simp only [e1,kw,cg,aq,wn,pl,LA,Lz,pu,ap,show ((0:Int) !=0)=acr from rfl,lc,sc]
     · unfold cK QU
       simp only [az,e1,kw,cg,aq,je,dq,wr,LA,k0,Lz,rp,ap,rc,lc,sc,opn]
     · rw [tk]
       exact ((inv.new.mono fun x hx e he hm=>(QR e).2 (.inr hm)).snoc (x:=c.ai.ce[i]!)).2 _ LA rfl ((QR _).2 (.inl rfl))
     · exact yP.mono fun x hx e he hm=>(QR e).2 (.inr hm)
     have:=inv.cnt
     rw [aiQ,lw];simp only [IR,aa4];omega
   left
   have pu:=vT inv.ok op inv.ok.fit (t:=(bB f (c.ai.ce[i]!).2 c.ci).1) (n:=(c.ai.ce[i]!).1) t1 t2 n0 n1 fresh;have ap: ∀h:Int×Int,bI ds [((c.ai.ce[i]!).1,h)]=ack (ds++[((c.ai.ce[i]!).1,h)]):=fun h=>cR (by simp;omega)
   have opn:=qn inv.ok.so;rw [aF op] at opn;constructor
   · unfold dB QT
     simp only [e1,kw,cg,aq,wn,pl,LA,Lz,pu,ap,show ((18:Int) !=0)=acl from rfl,lc]
   unfold cK QU
   simp only [az,e1,kw,cg,aq,je,dq,wr,LA,k0,Lz,rc,v4,lc,opn]
  |false=>
   right;refine ⟨k,a,ds,?_,?_,⟨inv.ok,inv.w2,?_,yP,inv.kl,inv.cnt⟩,by omega⟩
   · unfold dB QT
     simp only [e1,kw,cg,aq,wn,pl,LA,show ((0:Int) !=0)=acr from rfl,lc,sc]
   · unfold cK QU
     simp only [az,e1,kw,cg,aq,je,dq,wr,LA,k0,v4,lc,sc]
   rw [tk]
   exact (inv.new.snoc (x:=c.ai.ce[i]!)).1 LA
theorem amV:
 (nT c ⟨f⟩=ack (dI,18)/\lD c ⟨f⟩=ack (dI,18))\/
 ∃c':aH,nT c ⟨f⟩=ack (c',0)/\lD c ⟨f⟩=ack (c',0)/\aU c'/\c'.ii.am=f/\c'.ci=c.ci/\c'.ai=c.ai:=by
 have bd:=ok.bd;have f64:=cj.1;have run: ∀(d i k:Nat) (a:aI) (ds:List qT),acg c.ai.ce-i<=d->i<=acg c.ai.ce->Gn c f i k a ds->acg ds<=i->
  (aB dB (QT c f i a ds)=ack (.done (dI,18))/\aB cK (QU c f i a ds)=ack (dI,18))\/
  ∃c':aH,aB dB (QT c f i a ds)=ack (.done (c',0))/\aB cK (QU c f i a ds)=ack (c',0)/\aU c'/\c'.ii.am=f/\c'.ci=c.ci/\c'.ai=c.ai:=by
  have fin: ∀(k:Nat) (a:aI) (ds:List qT),Gn c f (acg c.ai.ce) k a ds-> ∃c':aH,aB dB (QT c f (acg c.ai.ce) a ds)=ack (.done (c',0))/\aB cK (QU c f (acg c.ai.ce) a ds)=ack (c',0)/\aU c'/\c'.ii.am=f/\c'.ci=c.ci/\c'.ai=c.ai:=by
   intro k a ds inv;have e1:acx (((acg c.ai.ce):Int)<((acg c.ai.ce):Int))=acr:=aF (by omega);have hk:(acg c.io)-k=0:=by have:=inv.old;rw [abK] at this;have:c.io.drop k=[]:=this;rw [List.drop_eq_nil_iff] at this;omega
   have new:=inv.new;rw [List.take_length] at new;refine ⟨⟨c.ci,⟨f⟩,c.ai,a,ds⟩,aA ?_,aA ?_,⟨ok.jk,ok.fT,cj,ok.qZ,inv.ok,inv.w2,?_,kn,new⟩,rfl,rfl,rfl⟩
   · unfold dB QT
     simp only [e1,lc]
   · unfold cK QU
     simp only [az,e1,lc]
   have:=inv.cnt
   show (acg a.bv)=acg ds;omega
  intro d
  induction d with
  |zero=>
   intro i k a ds hd hi inv U4;have:i=(acg c.ai.ce):=by omega
   subst this;exact .inr (fin k a ds inv)
  |succ d ih=>
   intro i k a ds hd hi inv U4
   by_cases he:i=acg c.ai.ce
   · subst he;exact .inr (fin k a ds inv)
   rcases T8 ok cj kn inv (by omega) U4 with ⟨h1,h2⟩|⟨k',a',yi,h1,h2,h3,h4⟩
   · exact .inl ⟨aA h1,aA h2⟩
   rw [aM h1,aM h2]
   exact ih (i+1) k' a' yi (by omega) (by omega) h3 h4
 have start:=run (acg c.ai.ce) 0 0 c.aa [] (by omega) (by omega) ⟨ok.lI,ok.C0,rfl,by rw [ab1,ab1];exact ok.yP,by omega,by have:=ok.hd;simp;omega⟩ (by simp);have hc:gm c=ack 0:=by rw [kI ok.fit,lm ok]
 have hf:cU ⟨f⟩=ack 0:=by rw [eN];exact congrArg ack (dj.2 cj)
 have tw:=gM ok;have tw':jM (aH.mk (c.ci.1,c.ci.2) (Field.mk c.ii.am) (bj.mk c.ai.aK c.ai.ce) (aI.mk (aQ.mk c.aa.af.ay c.aa.af.be c.aa.af.bi) c.aa.bv c.aa.aj) c.io)=ack c:=tw;have first:aB kz (c.ai.ce,((acg c.ai.ce):Int),0,c.ci.1,c.ci.2,c.ii.am,c.ai.aK,c.ai.ce,c.aa.af.ay,c.aa.af.be,c.aa.af.bi,c.aa.bv,c.aa.aj,c.io,f,0,0,0)=
  aB kz (c.ai.ce,((acg c.ai.ce):Int),((acg c.ai.ce):Int),c.ci.1,c.ci.2,c.ii.am,c.ai.aK,c.ai.ce,c.aa.af.ay,c.aa.af.be,c.aa.af.bi,c.aa.bv,c.aa.aj,c.io,f,0,0,0):=by
  refine dN (body:=kz) (fun i=>(c.ai.ce,((acg c.ai.ce):Int),(i:Int),c.ci.1,c.ci.2,c.ii.am,c.ai.aK,c.ai.ce,c.aa.af.ay,c.aa.af.be,c.aa.af.bi,c.aa.bv,c.aa.aj,c.io,f,0,0,0)) (acg c.ai.ce) (fun i hi=>?_);have e1:acx ((i:Int)<((acg c.ai.ce):Int))=acl:=aJ (by omega);unfold kz;simp only [e1,kw,ar c.ai.ce i hi,aq,mu cj,aF (Jo cj (kn i hi).1),aF (Jo cj (kn i hi).2),lc,aY (show i<1000000000 by omega)]
 have Ua: ∀r,aB dB (QT c f 0 c.aa [])=ack (.done r)->nT c ⟨f⟩=ack r:=by intro r hr;unfold nT;simp only [hc,aq,show ((0:Int) !=0)=acr from rfl,lc,hf,az];rw [first];refine aA ?_;unfold kz;have e1:acx (((acg c.ai.ce):Int)<((acg c.ai.ce):Int))=acr:=aF (by omega);simp only [az,e1,lc,tw',aq,bc (show (acg f)<=1048576 by omega)];exact hr
 have acG: ∀r,aB cK (QU c f 0 c.aa [])=ack r->lD c ⟨f⟩=ack r:=by intro r hr;unfold lD kW;simp only [iK ok,aq,bc (show (acg f)<=1048576 by omega)];exact hr
 rcases start with ⟨h1,h2⟩|⟨c',h1,h2,h3⟩
 · exact .inl ⟨Ua _ h1,acG _ h2⟩
 exact .inr ⟨c',Ua _ h1,acG _ h2,h3⟩
end
theorem iL (l:List (Int×Int)) (x:Int×Int) (hl:(acg l)<=1000000):fL l x=ack (acx (x∈l)):=by
 unfold fL oI;have key:=jE (body:=jC) (fun i=>(l,((acg l):Int),(i:Int),x)) (acg l) (fun i=>l[i]! =x) (fun i=>(i:Int)) (e:= -1) (fun i hi=>by
  have e1:acx ((i:Int)<((acg l):Int))=acl:=aJ (by omega);unfold jC;simp only [e1,kw,ar l i hi,aq,aY (show i<1000000000 by omega)];generalize l[i]! =y;constructor
  · intro h;rw [cV (congrArg ac9 h.symm),cV (congrArg Prod.snd h.symm)];rfl
  · intro h
    by_cases h1:x.1=y.1
    · rw [cV h1,dM (fun h2=>h (abT h1.symm h2.symm))];rfl
    rw [dM h1];rfl) (by
  unfold jC;have:acx (((acg l):Int)<((acg l):Int))=acr:=aF (by omega);simp only [this,lc])
 rw [az]
 by_cases hx:x∈l
 · obtain ⟨i,hi,he⟩:=aO.1 hx
   obtain ⟨k,h1,h2,h3⟩:=least (c:=fun i=>l[i]! =x) ⟨i,hi,he⟩;have:=key.1 k h1 h2 h3;rw [show ((0:Nat):Int)=0 from rfl] at this;rw [this,aJ hx];simp only [aq,aJ (show (0:Int)<=(k:Int) by omega)]
 have:=key.2 fun i hi he=>hx (aO.2 ⟨i,hi,he⟩)
 rw [show ((0:Nat):Int)=0 from rfl] at this;rw [this,aF hx];rfl
theorem DE (l:List (Int×Int)) (x:Int×Int) (hl:(acg l)<=1000000):BB l x=ack (acx (x∈l)):=by
 unfold BB;have key:=db (body:=ua) (fun i=>(l,(i:Int),x)) (acg l) (fun i=>l[i]! =x) (r:=acl) (e:=acr) (fun i hi=>by
  have e1:acx ((i:Int)<((acg l):Int))=acl:=aJ (by omega);unfold ua;simp only [az,e1,kw,ar l i hi,aq,aY (show i<1000000000 by omega)];generalize l[i]! =y;constructor
  · intro h;rw [cV (congrArg ac9 h),cV (congrArg Prod.snd h)];rfl
  · intro h
    by_cases h1:y.1=x.1
    · rw [cV h1,dM (fun h2=>h (abT h1 h2))];rfl
    rw [dM h1];rfl) (by
  unfold ua;have:acx (((acg l):Int)<((acg l):Int))=acr:=aF (by omega);simp only [az,this,lc])
 by_cases hx:x∈l
 · rw [aJ hx];exact key.1 (aO.1 hx)
 rw [aF hx];exact key.2 fun i hi he=>hx (aO.2 ⟨i,hi,he⟩)
theorem Ub (x y:qT):((x.1==y.1)&&((x.2.1==y.2.1)&&(x.2.2==y.2.2)))=acx (x=y):=by
 rw [Bool.eq_iff_iff,decide_eq_true_iff];simp only [Bool.and_eq_true,beq_iff_eq];constructor
 · rintro ⟨h1,h2,h3⟩;exact abT h1 (abT h2 h3)
 rintro rfl;exact ⟨rfl,rfl,rfl⟩
theorem yR (a b:List qT) (hl:(acg a)<=1000000):pD ⟨a⟩ ⟨b⟩=ack (acx (a=b)):=by
 unfold pD;simp only [az]
 by_cases h:(acg a)=acg b
 case neg=>rw [dL (by omega),aF (fun k=>h (by rw [k]))];rfl
 rw [bo (by omega)];simp only [lc];have key:=db (body:=p7) (fun i=>((i:Int),a,b)) (acg a) (fun i=> ¬a[i]! =b[i]!) (r:=acr) (e:=acl) (fun i hi=>by
  have e1:acx ((i:Int)<((acg a):Int))=acl:=aJ (by omega);unfold p7;simp only [az,e1,kw,ar a i hi,ar b i (by omega),aq,aY (show i<1000000000 by omega),Ub];constructor
  · intro h;rw [aF h];rfl
  · intro h;rw [aJ (ww.1 h)];rfl) (by
  unfold p7;have:acx (((acg a):Int)<((acg a):Int))=acr:=aF (by omega);simp only [az,this,lc])
 by_cases he:a=b
 · rw [aJ he]
   exact key.2 fun i hi=>ww.2 (by rw [he])
 rw [aF he]
 refine key.1 (ut fun hx=>he (BF h fun i hi=>?_));exact ut fun hn=>hx ⟨i,hi,hn⟩
theorem sF (a b:List qT) (hl:(acg a)<=1000000):kY a b=ack (acx (a=b)):=by
 unfold kY;simp only [az]
 by_cases h:(acg a)=acg b
 case neg=>rw [dL (by omega),aF (fun k=>h (by rw [k]))];rfl
 rw [bo (by omega)];simp only [lc];have key:=db (body:=ji) (fun i=>(a,b,((acg a):Int),(i:Int))) (acg a) (fun i=> ¬a[i]! =b[i]!) (r:=acr) (e:=acl) (fun i hi=>by
  have e1:acx ((i:Int)<((acg a):Int))=acl:=aJ (by omega);unfold ji;simp only [e1,kw,ar a i hi,ar b i (by omega),aq,aY (show i<1000000000 by omega),Ub];constructor
  · intro h;rw [aF h];rfl
  · intro h;rw [aJ (ww.1 h)];rfl) (by
  unfold ji;have:acx (((acg a):Int)<((acg a):Int))=acr:=aF (by omega);simp only [this,lc])
 by_cases he:a=b
 · rw [aJ he]
   exact key.2 fun i hi=>ww.2 (by rw [he])
 rw [aF he]
 refine key.1 (ut fun hx=>he (BF h fun i hi=>?_));exact ut fun hn=>hx ⟨i,hi,hn⟩
theorem HX {cs:List qT} {m:Nat} {x:qT} (hx:x∈cs) (dK:x.1≠(cs[m]!).1):x∈cs.eraseIdx m:=by
 obtain ⟨j,hj,rfl⟩:=aO.1 hx;have hjm:j≠m:=fun h=>dK (by rw [h])
 rw [tj,M2]
 by_cases h:j<m
 · exact .inl (cH.2 ⟨j,h,hj,rfl⟩)
 right
 rw [aO];refine ⟨j- (m+1),by rw [Do];omega,?_⟩;rw [pL]
 congr 1;omega
def kP (c0:aH) (f:List Pt) (es:List (Int×Int)) (i:Nat) (c:aH):=
 (es,c0.ai.ce,((acg c0.ai.ce):Int),(i:Int),c.ci.1,c.ci.2,c.ii.am,c.ai.aK,c.ai.ce,c.aa.af.ay,c.aa.af.be,c.aa.af.bi,c.aa.bv,c.aa.aj,c.io,f,(0:Int),(0:Int),(0:Int))
def kR (c0:aH) (f:List Pt) (es:List (Int×Int)) (i:Nat) (c:aH):=
 (es,(i:Int),c0.ci.1,c0.ci.2,c0.ii.am,c0.ai.aK,c0.ai.ce,c0.aa.af.ay,c0.aa.af.be,c0.aa.af.bi,c0.aa.bv,c0.aa.aj,c0.io,f,(0:Int),(0:Int),(0:Int),c.ci.1,c.ci.2,c.ii.am,c.ai.aK,c.ai.ce,c.aa.af.ay,c.aa.af.be,c.aa.af.bi,c.aa.bv,c.aa.aj,c.io)
def eP (es:List (Int×Int)) (i:Nat) (c:aH):=
 (es,((acg es):Int),(i:Int),c.ci.1,c.ci.2,c.ii.am,c.ai.aK,c.ai.ce,c.aa.af.ay,c.aa.af.be,c.aa.af.bi,c.aa.bv,c.aa.aj,c.io,(0:Int),(0:Int),(0:Int))
def eR (es:List (Int×Int)) (i:Nat) (c:aH):=
 (es,(i:Int),(0:Int),(0:Int),(0:Int),c.ci.1,c.ci.2,c.ii.am,c.ai.aK,c.ai.ce,c.aa.af.ay,c.aa.af.be,c.aa.af.bi,c.aa.bv,c.aa.aj,c.io)
def oa (c:aH):Int:=c.ai.aK- ((acg c.ai.ce):Int)
structure BU (c:aH) (f:List Pt) (es:List (Int×Int)) (r:aH):Prop where
 has: ∀e∈es,rF r.ai.ce e
 sub: ∀x∈r.ai.ce,x.2∈es
 ok:aU r
 iE:r.ii.am=f
 ci:r.ci=c.ci
 room:oa c<=oa r
def Roomy (c:aH) (k:Nat):Prop:=acg c.ai.ce<=k/\c.ai.aK<=k/\ ∀j,j<acg c.aa.af.ay->c.aa.af.ay[j]!<=k
theorem aV.len {l:List Pt} {t:Int×Int} {H:List Ev}: ∀{cs ds:List qT},aV l t H cs ds->acg ds<=acg cs
 | [],ds,h=>by rw [show ds=[] from h];exact abR _
 |x::cs,ds,h=>by
  cases hy:(bB l x.2 t).2 with
  |true=>obtain ⟨d,yi,rfl,_,_,h4⟩:=h.1 hy;exact Nat.succ_le_succ h4.len
  |false=>exact Nat.le_succ_of_le (h.2 hy).len
theorem Roomy.Gp {c:aH} (ok:aU c) {k:Nat} (h:Roomy c k) (hk:k<=199): ¬(z7 c.ai\/ ¬vP c.aa.af):=by
 obtain ⟨h1,h2,h3⟩:=h;have fl:=ok.yP.len;have hd:=ok.hd;have hl:=ok.lI.hl;have wl:=ok.lI.wl;have w2:=ok.C0;rintro (h|h)
 · rcases h with h|h<;>omega
 refine h ⟨by omega,?_⟩
 have:=h3 _ (xd ok.lI.so (by omega)).1;omega
theorem Roomy.more {c c':aH} {k:Nat} (h:Roomy c k) {x:Int×Int} (hc:c'.ai=nj c.ai x) (hs:c'.aa.af=c.aa.af\/c'.aa.af=gD c.aa.af):Roomy c' (k+1):=by
 obtain ⟨h1,h2,h3⟩:=h;refine ⟨?_,?_,fun j hj=>?_⟩
 · rw [hc]
   show (c.ai.ce++[(c.ai.aK,x)]).length<=_;rw [lw,If];omega
 · rw [hc]
   show c.ai.aK+1<=_;omega
 rcases hs with e|e
 · rw [e] at hj ⊢
   have:=h3 j hj;omega
 rw [e] at hj ⊢
 change j<(c.aa.af.ay.set _ _).length at hj;rw [abM] at hj;show (c.aa.af.ay.set (cW c.aa.af) (c.aa.af.ay[cW c.aa.af]!+1))[j]!<=_;rw [bn];split
 · rename_i h;have:=h3 _ h.2;omega
 have:=h3 j hj;omega
structure qq (f:List Pt) (es:List (Int×Int)):Prop where
 len:(acg es)<=1000000
 cv: ∀x∈es,fN x
 kn: ∀x∈es,jd f x
theorem Uc {c0:aH} (ok0:aU c0) {f:List Pt} {es:List (Int×Int)} (v7:qq f es):
 ∀(d i:Nat) (c:aH),acg c0.ai.ce-i<=d->i<=acg c0.ai.ce->aU c->(∀x∈c0.ai.ce.drop i,x∈c.ai.ce)->(∀x∈c.ai.ce,x∈c0.ai.ce.drop i\/x.2∈es)->
  ∃c':aH,aB bE (kP c0 f es i c)=aB bE (kP c0 f es (acg c0.ai.ce) c')/\aB cL (kR c0 f es i c)=aB cL (kR c0 f es (acg c0.ai.ce) c')/\aU c'/\(∀x∈c'.ai.ce,x.2∈es)/\c'.ii=c.ii/\c'.ci=c.ci/\oa c<=oa c':=by
 have bd:=ok0.bd;intro d
 induction d with
 |zero=>
  intro i c hd hi ok h1 h2;have:i=(acg c0.ai.ce):=by omega
  subst this;refine ⟨c,rfl,rfl,ok,fun x hx=>?_,rfl,rfl,abI _⟩;rcases h2 x hx with h|h
  · rw [abK] at h;cases h
  exact h
 |succ d ih=>
  intro i c hd hi ok h1 h2
  by_cases he:i=acg c0.ai.ce
  · subst he
    refine ⟨c,rfl,rfl,ok,fun x hx=>?_,rfl,rfl,abI _⟩;rcases h2 x hx with h|h
    · rw [abK] at h;cases h
    exact h
  have qY:i<(acg c0.ai.ce):=by omega
  have e1:acx ((i:Int)<((acg c0.ai.ce):Int))=acl:=aJ (by omega);have sc:=aY (show i<1000000000 by omega);have cg:=ar c0.ai.ce i qY;have dr:=pR qY;have je:(aH.mk (c.ci.1,c.ci.2) (Field.mk c.ii.am) (bj.mk c.ai.aK c.ai.ce) (aI.mk (aQ.mk c.aa.af.ay c.aa.af.be c.aa.af.bi) c.aa.bv c.aa.aj) c.io)=c:=rfl
  by_cases rq:(c0.ai.ce[i]!).2∈es
  · have s1:bE (kP c0 f es i c)=ack (.next (kP c0 f es (i+1) c)):=by
     unfold bE kP;simp only [e1,kw,cg,aq,iL _ _ v7.len,aJ rq,rc,lc,sc]
    have s2:cL (kR c0 f es i c)=ack (.next (kR c0 f es (i+1) c)):=by unfold cL kR;simp only [az,e1,kw,cg,aq,DE _ _ v7.len,aJ rq,rc,lc,sc]
    rw [aM s1,aM s2];refine ih (i+1) c (by omega) (by omega) ok (fun x hx=>h1 x (by rw [dr];exact v6 _ hx)) (fun x hx=>?_);rcases h2 x hx with h|h
    · rw [dr] at h
      rcases ac5.1 h with rfl|h
      · exact .inr rq
      exact .inl h
    exact .inr h
  have hm:=h1 (c0.ai.ce[i]!) (by rw [dr];exact NE)
  obtain ⟨m,OC,Mj⟩:=aO.1 hm;obtain ⟨c',r1,r2,r3,r4,r5,r6⟩:=NC ok OC;have rt:=xF ok OC r1;rw [Mj] at r2 rt;have s1:bE (kP c0 f es i c)=ack (.next (kP c0 f es (i+1) c')):=by unfold bE kP;simp only [e1,kw,cg,aq,iL _ _ v7.len,aF rq,v4,sc,je,rt]
  have s2:cL (kR c0 f es i c)=ack (.next (kR c0 f es (i+1) c')):=by unfold cL kR;simp only [az,e1,kw,cg,aq,DE _ _ v7.len,aF rq,v4,sc,je,r2]
  rw [aM s1,aM s2];have cl:c'.ai.ce=c.ai.ce.eraseIdx m:=by rw [r6];rfl
  have tQ:oa c<=oa c':=by unfold oa;rw [r6];show _<=c.ai.aK- (((c.ai.ce.eraseIdx m).length:Nat):Int);rw [List.length_eraseIdx_of_lt OC];omega
  have hs:(∀x∈c0.ai.ce.drop (i+1),x∈c'.ai.ce)/\(∀x∈c'.ai.ce,x∈c0.ai.ce.drop (i+1)\/x.2∈es):=by
   refine ⟨fun x hx=>?_,fun x hx=>?_⟩
   · rw [cl]
     refine HX (h1 x (by rw [dr];exact v6 _ hx)) ?_;rw [Mj];exact xl ok0 hx qY
   rw [cl] at hx
   obtain ⟨a1,a2⟩:=oT ok.pS OC hx;rw [Mj] at a2;rcases h2 x a1 with h|h
   · rw [dr] at h
     rcases ac5.1 h with rfl|h
     · exact absurd rfl a2
     exact .inl h
   exact .inr h
  obtain ⟨d',q1,q2,q3,q4,q5,q6,q7⟩:=ih (i+1) c' (by omega) (by omega) r3 hs.1 hs.2;exact ⟨d',q1,q2,q3,q4,q5.trans r4,q6.trans r5,by omega⟩
theorem Gq {f:List Pt} (_fok:bG f) {es:List (Int×Int)} (v7:qq f es):
 ∀(d i:Nat) (c:aH),acg es-i<=d->i<=acg es->aU c->c.ii.am=f->(∀x∈c.ai.ce,x.2∈es)->(∀j,j<i->rF c.ai.ce es[j]!)->
  ∃r:aH×Int,aB bR (eP es i c)=ack (.done r)/\aB dX (eR es i c)=ack (.done r)/\(r.2=0/\BU c f es r.1\/r=(dI,18))/\(∀k,Roomy c k->k+(acg es-i)<=199->r.2=0):=by
 have el:=v7.len;have fin: ∀c:aH,aU c->c.ii.am=f->(∀x∈c.ai.ce,x.2∈es)->(∀j,j<acg es->rF c.ai.ce es[j]!)-> ∃r:aH×Int,aB bR (eP es (acg es) c)=ack (.done r)/\aB dX (eR es (acg es) c)=ack (.done r)/\(r.2=0/\BU c f es r.1\/r=(dI,18))/\r.2=0:=by
  intro c ok hf hs hh;have e1:acx (((acg es):Int)<((acg es):Int))=acr:=aF (by omega);refine ⟨(c,0),aA ?_,aA ?_,.inl ⟨rfl,fun e he=>by obtain ⟨j,hj,q⟩:=aO.1 he;rw [<- q];exact hh j hj,hs,ok,hf,rfl,abI _⟩,rfl⟩
  · unfold bR eP
    simp only [e1,lc]
  unfold dX eR
  simp only [az,e1,lc]
 intro d
 induction d with
 |zero=>
  intro i c hd hi ok hf hs hh;have:i=(acg es):=by omega
  subst this;obtain ⟨r,q1,q2,q3,q4⟩:=fin c ok hf hs hh;exact ⟨r,q1,q2,q3,fun _ _ _=>q4⟩
 |succ d ih=>
  intro i c hd hi ok hf hs hh
  by_cases he:i=acg es
  · subst he
    obtain ⟨r,q1,q2,q3,q4⟩:=fin c ok hf hs hh;exact ⟨r,q1,q2,q3,fun _ _ _=>q4⟩
  have bd:=ok.bd;have qY:i<(acg es):=by omega
  have e1:acx ((i:Int)<((acg es):Int))=acl:=aJ (by omega);have sc:=aY (show i<1000000000 by omega);have cg:=ar es i qY;have je:(aH.mk (c.ci.1,c.ci.2) (Field.mk c.ii.am) (bj.mk c.ai.aK c.ai.ce) (aI.mk (aQ.mk c.aa.af.ay c.aa.af.be c.aa.af.bi) c.aa.bv c.aa.aj) c.io)=c:=rfl;have LB:bj.mk c.ai.aK c.ai.ce=c.ai:=rfl;have hc:=BQ c.ai.ce es[i]! (by omega);have hr:=xk c.ai es[i]! (by omega)
  by_cases rq:rF c.ai.ce es[i]!
  · have s1:bR (eP es i c)=ack (.next (eP es (i+1) c)):=by
     unfold bR eP;simp only [e1,kw,cg,aq,sO,hc,aJ rq,sc]
    have s2:dX (eR es i c)=ack (.next (eR es (i+1) c)):=by unfold dX eR;simp only [az,e1,kw,cg,aq,LB,hr,aJ rq,sc]
    rw [aM s1,aM s2];obtain ⟨r,q1,q2,q3,q4⟩:=ih (i+1) c (by omega) (by omega) ok hf hs (fun j hj=>if q:j=i then by rw [q];exact rq else hh j (by omega));exact ⟨r,q1,q2,q3,fun k hk hl=>q4 k hk (by omega)⟩
  have hb:jd c.ii.am es[i]!:=by rw [hf];exact v7.kn _ (aL qY)
  rcases Pb ok (v7.cv _ (aL qY)) hb rq with ⟨r1,r2,full⟩|⟨c',r1,r2,r3,r4,r5,r6,r7⟩
  · refine ⟨(dI,18),aA ?_,aA ?_,.inr rfl,fun k hk hl=>absurd full (hk.Gp ok (by omega))⟩
    · unfold bR eP
      simp only [e1,kw,cg,aq,sO,hc,aF rq,lc,je,r1,show ((18:Int) !=0)=acl from rfl]
    unfold dX eR
    simp only [az,e1,kw,cg,aq,LB,hr,aF rq,lc,je,r2,show ((18:Int) !=0)=acl from rfl]
  have s1:bR (eP es i c)=ack (.next (eP es (i+1) c')):=by
   unfold bR eP;simp only [e1,kw,cg,aq,sO,hc,aF rq,lc,je,r1,show ((0:Int) !=0)=acr from rfl,sc]
  have s2:dX (eR es i c)=ack (.next (eR es (i+1) c')):=by unfold dX eR;simp only [az,e1,kw,cg,aq,LB,hr,aF rq,lc,je,r2,show ((0:Int) !=0)=acr from rfl,sc]
  rw [aM s1,aM s2];obtain ⟨r,q1,q2,q3,q6⟩:=ih (i+1) c' (by omega) (by omega) r3 (by rw [r4,hf]) (fun x hx=>by
   rw [r6] at hx;rcases M2.1 (show x∈c.ai.ce++[(c.ai.aK,es[i]!)] from hx) with h|h
   · exact hs x h
   · rw [List.mem_singleton.1 h];exact aL qY) (fun j hj=>by
   rw [r6];show rF (c.ai.ce++[(c.ai.aK,es[i]!)]) _
   by_cases q:j=i
   · rw [q];exact ⟨acg c.ai.ce,by rw [lw,If];omega,by rw [kG (abR _),Nat.sub_self];rfl⟩
   obtain ⟨w,w1,w2⟩:=hh j (by omega)
   exact ⟨w,by rw [lw];omega,by rw [gL w1];exact w2⟩)
  refine ⟨r,q1,q2,q3.imp (fun ⟨q4,q5⟩=>⟨q4,q5.has,q5.sub,q5.ok,q5.iE,q5.ci.trans r5,abL ?_ q5.room⟩) id,fun k hk hl=>q6 (k+1) (hk.more r6 r7) (by omega)⟩;unfold oa;rw [r6];show _<=(c.ai.aK+1) - (((c.ai.ce++[(c.ai.aK,es[i]!)]).length:Nat):Int);rw [lw,If];omega
theorem Jp {c:aH} (ok:aU c) {f:List Pt} (cj:bG f) {es:List (Int×Int)} (v7:qq f es):
 ∃r:aH×Int,dZ c ⟨f⟩ es=ack r/\gI c ⟨f⟩ es=ack r/\(r.2=0/\BU c f es r.1\/r=(dI,18)):=by
 have f64:=cj.1;obtain ⟨c',g1,g2,g3,g4,g5,g6,g7⟩:=Uc ok v7 (acg c.ai.ce) 0 c (by omega) (by omega) ok (fun x hx=>by rwa [ab1] at hx) (fun x hx=> .inl (by rwa [ab1]));have bd:=g3.bd;have e1:acx (((acg c.ai.ce):Int)<((acg c.ai.ce):Int))=acr:=aF (by omega);have ND:dZ c ⟨f⟩ es=aB bE (kP c f es 0 c):=rfl;have NF:gI c ⟨f⟩ es=aB cL (kR c f es 0 c):=by unfold gI;simp only [iK ok,aq];rfl
 rw [ND,NF,g1,g2];have eq1:=sF c'.ii.am f (by omega);have eq2:=yR c'.ii.am f (by omega);have je:(aH.mk (c'.ci.1,c'.ci.2) (Field.mk c'.ii.am) (bj.mk c'.ai.aK c'.ai.ce) (aI.mk (aQ.mk c'.aa.af.ay c'.aa.af.be c'.aa.af.bi) c'.aa.bv c'.aa.aj) c'.io)=c':=rfl
 by_cases hf:c'.ii.am=f
 · obtain ⟨r,i1,i2,i3,_⟩:=Gq cj v7 (acg es) 0 c' (by omega) (by omega) g3 hf g4 (fun j hj=>absurd hj (abP j))
   refine ⟨r,aA ?_,aA ?_,i3.imp (fun ⟨q4,q5⟩=>⟨q4,q5.has,q5.sub,q5.ok,q5.iE,q5.ci.trans g6,abL g7 q5.room⟩) id⟩
   · unfold bE kP
     simp only [e1,lc,eq1,aJ hf,aq,rc];exact i1
   unfold cL kR
   simp only [az,e1,lc,eq2,aJ hf,aq,rc];exact i2
 have kn: ∀i,i<acg c'.ai.ce->jd f (c'.ai.ce[i]!).2:=fun i hi=>v7.kn _ (g4 _ (aL hi))
 rcases amV g3 cj kn with ⟨a1,a2⟩|⟨c2,a1,a2,a3,a4,a5,a6⟩
 · refine ⟨(dI,18),aA ?_,aA ?_,.inr rfl⟩
   · unfold bE kP
     simp only [e1,lc,eq1,aF hf,aq,v4,kw,je,a1,show ((18:Int) !=0)=acl from rfl]
   unfold cL kR
   simp only [az,e1,lc,eq2,aF hf,aq,v4,kw,je,a2,show ((18:Int) !=0)=acl from rfl]
 obtain ⟨r,i1,i2,i3,_⟩:=Gq cj v7 (acg es) 0 c2 (by omega) (by omega) a3 a4 (by rw [a6];exact g4) (fun j hj=>absurd hj (abP j))
 refine ⟨r,aA ?_,aA ?_,i3.imp (fun ⟨q4,q5⟩=>⟨q4,q5.has,q5.sub,q5.ok,q5.iE,(q5.ci.trans a5).trans g6,abL (abL g7 (by unfold oa;rw [a6];exact abI _)) q5.room⟩) id⟩
 · unfold bE kP
   simp only [e1,lc,eq1,aF hf,aq,v4,kw,je,a1,show ((0:Int) !=0)=acr from rfl];exact i1
 unfold cL kR
 simp only [az,e1,lc,eq2,aF hf,aq,v4,kw,je,a2,show ((0:Int) !=0)=acr from rfl];exact i2
theorem LC {c:aH} (ok:aU c) (h0:c.ai.ce=[]) {es:List (Int×Int)} (v7:qq c.ii.am es) (hr:Roomy c 0) (hl:(acg es)<=199):
 ∃r:aH,dZ c c.ii es=ack (r,0)/\gI c c.ii es=ack (r,0)/\BU c c.ii.am es r:=by
 have bd:=ok.bd;have l0:(acg c.ai.ce)=0:=by rw [h0];rfl
 have e1:acx (((0:Nat):Int)<((acg c.ai.ce):Int))=acr:=aF (by omega);have ND:dZ c c.ii es=aB bE (kP c c.ii.am es 0 c):=rfl;have NF:gI c c.ii es=aB cL (kR c c.ii.am es 0 c):=by unfold gI;simp only [iK ok,aq];rfl
 obtain ⟨r,i1,i2,i3,i4⟩:=Gq ok.iE v7 (acg es) 0 c (by omega) (by omega) ok rfl (fun x hx=>by rw [h0] at hx;cases hx) (fun j hj=>absurd hj (abP j));have r0:=i4 0 hr (by omega);have e:r=(r.1,0):=by rw [<- r0]
 rw [e] at i1 i2;refine ⟨r.1,?_,?_,?_⟩
 · rw [ND]
   refine aA ?_;unfold bE kP;simp only [e1,lc,sF c.ii.am c.ii.am (by omega),aq,rc];exact i1
 · rw [NF]
   refine aA ?_;unfold cL kR;simp only [az,e1,lc,yR c.ii.am c.ii.am (by omega),aq,rc];exact i2
 rcases i3 with ⟨_,h⟩|h
 · exact h
 rw [h] at r0;cases r0
theorem Gr {α:Type} [Inhabited α] {l:List α}:l.Nodup↔ ∀k,k<acg l->l[k]!∉l.take k:=by
 rw [bq];constructor
 · intro h k hk hm
   obtain ⟨i,h1,h2,h3⟩:=cH.1 hm;exact h i k h1 hk h3
 intro h i j nJ hj he
 exact h j hj (cH.2 ⟨i,nJ,by omega,he⟩)
theorem BV {α:Type} [Inhabited α] {l:List α} {P:α->Prop}:(∀x∈l,P x)↔ ∀i,i<acg l->P l[i]!:=by
 constructor
 · intro h i hi;exact h _ (aL hi)
 intro h x hx
 obtain ⟨i,hi,rfl⟩:=aO.1 hx;exact h i hi
theorem AR {σ ρ:Type} {body:σ->Option (Step σ ρ)} (st:Nat->σ) (n:Nat) (P:Nat->Prop) {r e:ρ} (h: ∀i,i<n->(¬P i->body (st i)=ack (.done r))/\(P i->body (st i)=ack (.next (st (i+1)))))
 (TH:body (st n)=ack (.done e)):aB body (st 0)=ack (if∀i,i<n->P i then e else r):=by
 have key:=db (body:=body) st n (fun i=> ¬P i) (r:=r) (e:=e) (fun i hi=>⟨(h i hi).1,fun hn=>(h i hi).2 (ww.1 hn)⟩) TH
 by_cases hx: ∀i,i<n->P i
 · rw [lm hx];exact key.2 fun i hi=>ww.2 (hx i hi)
 rw [ls hx]
 obtain ⟨i,h⟩:=abS.1 hx;obtain ⟨hi,hx⟩:=abU.1 h;exact key.1 ⟨i,hi,hx⟩
theorem z8 {f:List Pt} (cj:bG f) (id:Int): ∃p e,cQ ⟨f⟩ id=ack (p,e)/\(e=0↔gU f id):=by
 have h1:=cj.1;have hc:cU ⟨f⟩=ack 0:=by rw [eN];exact congrArg ack (dj.2 cj)
 have bs:=sE f id (by omega) (fun i j=>fk cj.2.2);unfold cQ iH iW;rw [zB];simp only [hc,aq,show ((0:Int) !=0)=acr from rfl,lc]
 by_cases h:gU f id
 · obtain ⟨k,hk,he⟩:=h
   rw [bs.1 k hk he];refine ⟨f[k]!,0,?_,fun _=>⟨k,hk,he⟩,fun _=>rfl⟩;simp only [aq,rc,lc,show ((0:Int) !=0)=acr from rfl,ar f k hk]
 obtain ⟨m,_,_,_,e⟩:=bs.2 (fun k hk he=>h ⟨k,hk,he⟩)
 rw [e];exact ⟨(0,0,0),6,rfl,fun h=>(by cases h),fun k=>absurd k h⟩
structure acI (c:aH):Prop where
 f:(acg c.ii.am)<=1000000
 l:(acg c.ai.ce)<=1000000
 d:(acg c.io)<=1000000
 h:(acg c.aa.bv)<=1000000
 w:(acg c.aa.aj)<=1000000
 s1:(acg c.aa.af.ay)<=1000000
 s2:(acg c.aa.af.be)<=1000000
 s3:(acg c.aa.af.bi)<=1000000
structure Ud (c:aH):Prop where
 ci:jW c.ci
 Nx: ∀w,w<acg c.aa.bv->jW ((c.aa.bv[w]!).1,(c.aa.bv[w]!).2.1)
theorem LD (f:Field):qM f=ack acl\/(qM f=ack acr/\acg f.am<=70):=by
 unfold qM
 simp only [az]
 by_cases h1:16<acg f.am
 · rw [aJ (show (16:Int)<((acg f.am):Int) by omega)]
   by_cases h2:(acg f.am)<64
   · rw [aJ (show ((acg f.am):Int)<64 by omega)];exact .inl rfl
   rw [aF (show¬((acg f.am):Int)<64 by omega)]
   by_cases h3:70<acg f.am
   · rw [aJ (show (70:Int)<((acg f.am):Int) by omega)];exact .inl rfl
   rw [aF (show¬(70:Int)<((acg f.am):Int) by omega)];exact .inr ⟨rfl,by omega⟩
 rw [aF (show¬(16:Int)<((acg f.am):Int) by omega),aF (show¬(70:Int)<((acg f.am):Int) by omega)]
 exact .inr ⟨rfl,by omega⟩
theorem LF (c:aH):qN c=ack acl\/(qN c=ack acr/\acI c):=by
 unfold qN yE yD
 simp only [az]
 by_cases h1:40<acg c.ai.ce
 · rw [aJ (show (40:Int)<((acg c.ai.ce):Int) by omega)];exact .inl rfl
 rw [aF (show¬(40:Int)<((acg c.ai.ce):Int) by omega)]
 by_cases h2:40<acg c.io
 · rw [aJ (show (40:Int)<((acg c.io):Int) by omega)];exact .inl rfl
 rw [aF (show¬(40:Int)<((acg c.io):Int) by omega)];rcases LD c.ii with e|⟨e,hf⟩
 · rw [e];exact .inl rfl
 rw [e];simp only [lc,aq]
 by_cases a1:210<acg c.aa.af.ay
 · rw [aJ (show (210:Int)<((acg c.aa.af.ay):Int) by omega)];exact .inl rfl
 rw [aF (show¬(210:Int)<((acg c.aa.af.ay):Int) by omega)]
 by_cases a2:210<acg c.aa.af.be
 · rw [aJ (show (210:Int)<((acg c.aa.af.be):Int) by omega)];exact .inl rfl
 rw [aF (show¬(210:Int)<((acg c.aa.af.be):Int) by omega)]
 by_cases a3:210<acg c.aa.af.bi
 · rw [aJ (show (210:Int)<((acg c.aa.af.bi):Int) by omega)];exact .inl rfl
 rw [aF (show¬(210:Int)<((acg c.aa.af.bi):Int) by omega)]
 by_cases a4:210<acg c.aa.bv
 · rw [aJ (show (210:Int)<((acg c.aa.bv):Int) by omega)];exact .inl rfl
 rw [aF (show¬(210:Int)<((acg c.aa.bv):Int) by omega)]
 by_cases a5:210<acg c.aa.aj
 · rw [aJ (show (210:Int)<((acg c.aa.aj):Int) by omega)];exact .inl rfl
 rw [aF (show¬(210:Int)<((acg c.aa.aj):Int) by omega)];exact .inr ⟨rfl,⟨by omega,by omega,by omega,by omega,by omega,by omega,by omega,by omega⟩⟩
theorem Pc {a b:Int×Int} (ha:bA a) (hb:bA b) (h:a.1*b.2=b.1*a.2):a=b:=by
 obtain ⟨a1,_,a3⟩:=ha;obtain ⟨b1,_,b3⟩:=hb;have hn:a.1.natAbs*b.2.natAbs=b.1.natAbs*a.2.natAbs:=by rw [<- abZ,<- abZ,h]
 have d1:b.2.natAbs ∣ a.2.natAbs:=by
  have:b.2.natAbs ∣ b.1.natAbs*a.2.natAbs:=by rw [<- hn];exact abX _ _
  exact (Nat.Coprime.dvd_of_dvd_mul_left b3 this)
 have d2:a.2.natAbs ∣ b.2.natAbs:=by
  have:a.2.natAbs ∣ a.1.natAbs*b.2.natAbs:=by rw [hn];exact abX _ _
  exact (Nat.Coprime.dvd_of_dvd_mul_left a3 this)
 have e:a.2.natAbs=b.2.natAbs:=Nat.dvd_antisymm d2 d1;have e2:a.2=b.2:=by omega
 have e1:a.1=b.1:=by rw [e2] at h;exact Int.eq_of_mul_eq_mul_right (by omega) h
 exact abT e1 e2
theorem zD (p q:Pt) (t:Int×Int):FW p q t=(p.2.1-q.2.1)*t.2+(p.2.2-q.2.2)*t.1:=rfl
theorem DF {l h:Pt} {t t':Int×Int} (d:1<=t.2) (d':1<=t'.2) (le:t.1*t'.2<=t'.1*t.2) (hB: ¬h.2.2<l.2.2) (hn: ¬leads l h t): ¬leads l h t':=by
 unfold leads at*;rw [zD] at*;generalize l.2.1-h.2.1=A at*;have hs:l.2.2-h.2.2<=0:=by omega
 intro hl;have key:(A*t'.2+(l.2.2-h.2.2)*t'.1)*t.2<=(A*t.2+(l.2.2-h.2.2)*t.1)*t'.2:=by
  have h1:(l.2.2-h.2.2)*(t'.1*t.2)<=(l.2.2-h.2.2)*(t.1*t'.2):=Int.mul_le_mul_of_nonpos_left hs le;have e1:(A*t'.2+(l.2.2-h.2.2)*t'.1)*t.2=A*t'.2*t.2+(l.2.2-h.2.2)*(t'.1*t.2):=by rw [Int.add_mul,abJ (l.2.2-h.2.2)]
  have e2:(A*t.2+(l.2.2-h.2.2)*t.1)*t'.2=A*t'.2*t.2+(l.2.2-h.2.2)*(t.1*t'.2):=by rw [Int.add_mul,abJ (l.2.2-h.2.2),abJ A,abJ A,abV t.2]
  omega
 rcases hl with hl|⟨hl,h2|⟨h2,h3⟩⟩
 · refine hn (.inl ?_)
   have:0<(A*t'.2+(l.2.2-h.2.2)*t'.1)*t.2:=Int.mul_pos hl (by omega);have k:0<(A*t.2+(l.2.2-h.2.2)*t.1)*t'.2:=by omega
   exact Int.pos_of_mul_pos_left k (by omega)
 · omega
 have z:l.2.2-h.2.2=0:=by omega
 rw [z] at hl hn;have:A=0:=by
  have:A*t'.2=0:=by omega
  rcases Int.mul_eq_zero.1 this with h|h
  · exact h
  omega
 subst this;exact hn (.inr ⟨by omega,.inr ⟨h2,h3⟩⟩)
theorem AS {h l:Pt} {t t':Int×Int} (hh:ff h) (hl:ff l) (r:bA t) (r':bA t') (le:t.1*t'.2<=t'.1*t.2) (up:(jU h l t).2=acl->t'.1*(jU h l t).1.2<=(jU h l t).1.1*t'.2):
 jU h l t'=jU h l t:=by
 unfold jU at*
 by_cases h1:leads l h t
 · rw [lm h1] at up ⊢
   have e:t=t':=Pc r r' (by have:=up rfl;dsimp only at this;omega);subst e;rw [lm h1]
 rw [ls h1] at up ⊢
 by_cases h2:h.2.2<l.2.2
 · rw [lm h2] at up ⊢
   obtain ⟨_,m1,m2,m3⟩:=CS hh hl (show h.2.2≠l.2.2 by omega);have up:=up rfl;dsimp only at up
   by_cases h3:leads l h t'
   · rw [lm h3]
     have:t'=met h l:=by
      refine Pc r' m1 ?_;have g:0<=FW l h t':=by rcases h3 with k|k<;>omega
      rw [zD] at g;generalize met h l=m at*;have d:=m1.1;have hB:0<l.2.2-h.2.2:=by omega
      generalize l.2.2-h.2.2=B at*;generalize hA:h.2.1-l.2.1=A at*;have g2:A*t'.2<=B*t'.1:=by
       have:(l.2.1-h.2.1)*t'.2= -(A*t'.2):=by rw [<- Int.neg_mul];congr 1;omega
       omega
      have g3:m.1*t'.2*B<=t'.1*m.2*B:=by
       have e1:m.1*t'.2*B=A*t'.2*m.2:=by rw [EQ,m3,EQ]
       have e2:t'.1*m.2*B=B*t'.1*m.2:=by rw [EQ,abV t'.1 B]
       rw [e1,e2];exact UV g2 (by omega)
      have g4:m.1*t'.2<=t'.1*m.2:=abH g3 hB;omega
     rw [this]
   rw [ls h3]
 rw [ls h2] at up ⊢
 rw [ls (DF r.1 r'.1 le h2 h1)]
theorem HY {a:aI} (ok:eY a): ∀k,k<acg a.bv-> ¬less a.bv[k]! a.bv[0]!:=by
 have d: ∀w,w<acg a.bv->1<=(a.bv[w]!).2.1:=fun w hw=>(ok.ev w hw).1.1
 intro k
 induction k using Nat.strongRecOn with
 |ind k ih=>
  intro hk
  by_cases h0:k=0
  · subst h0;exact fun h=>nB h h
  exact vQ (d 0 (by omega)) (d ((k-1) / 2) (by omega)) (d k hk) (ih ((k-1) / 2) (by omega) (by omega)) (ok.ord k (by omega) hk)
theorem Ue {h l:Pt} {t:Int×Int} (hh:ff h) (hl:ff l) (r:bA t) (is:(jU h l t).2=acl):t.1*(jU h l t).1.2<=(jU h l t).1.1*t.2:=by
 unfold jU at*
 by_cases h1:leads l h t
 · rw [lm h1];exact abI _
 rw [ls h1] at is ⊢
 by_cases h2:h.2.2<l.2.2
 · rw [lm h2]
   obtain ⟨_,m1,m2,m3⟩:=CS hh hl (show h.2.2≠l.2.2 by omega);dsimp only;have g:FW l h t<=0:=Int.not_lt.1 fun k=>h1 (.inl k)
   rw [zD] at g;generalize met h l=m at*;have d:=m1.1;have d2:=r.1;have hB:0<l.2.2-h.2.2:=by omega
   generalize l.2.2-h.2.2=B at*;generalize hA:h.2.1-l.2.1=A at*;have g2:B*t.1<=A*t.2:=by
    have:(l.2.1-h.2.1)*t.2= -(A*t.2):=by rw [<- Int.neg_mul];congr 1;omega
    omega
   have e1:t.1*m.2*B=B*t.1*m.2:=by rw [EQ,abV t.1 B]
   have e2:m.1*t.2*B=A*t.2*m.2:=by rw [EQ,m3,EQ]
   have g3:t.1*m.2*B<=m.1*t.2*B:=by rw [e1,e2];exact UV g2 (by omega)
   exact abH g3 hB
 rw [ls h2] at is;cases is
theorem aV.time {l:List Pt} {t t':Int×Int} {H:List Ev}: ∀{cs ds:List qT},(∀x∈cs,bB l x.2 t'=bB l x.2 t)->aV l t H cs ds->aV l t' H cs ds
 | [],_,_,h=>h
 |x::cs,ds,hw,h=>by
  have e:=hw x NE;have ih: ∀{ds},aV l t H cs ds->aV l t' H cs ds:=fun {ds}=>aV.time fun y hy=>hw y (v6 _ hy)
  refine ⟨fun hy=>?_,fun hy=>?_⟩
  · rw [e] at hy
    obtain ⟨d,yi,h1,h2,h3,h4⟩:=h.1 hy;exact ⟨d,yi,h1,h2,by rw [e];exact h3,ih h4⟩
  rw [e] at hy
  exact ih (h.2 hy)
theorem Gs {c:aH} (ok:aU c) (dK:0<acg c.aa.bv):
 ∃(i:Nat) (c':aH),i<acg c.ai.ce/\(c.ai.ce[i]!).1=Ev.num c.aa.bv[0]!/\hZ c (Ev.num c.aa.bv[0]!)=ack (c',(c.ai.ce[i]!).2,0)/\nA c (Ev.num c.aa.bv[0]!)=ack c'/\
  aU ⟨Ev.at c.aa.bv[0]!,c'.ii,c'.ai,c'.aa,c'.io⟩/\c'.ii=c.ii/\c'.ai=mL c.ai i/\c.ci.1*(Ev.at c.aa.bv[0]!).2<=(Ev.at c.aa.bv[0]!).1*c.ci.2:=by
 have hm:=aL dK;obtain ⟨d,hd,hn⟩:=ok.zH _ hm;obtain ⟨x,hx,h1,h2,h3⟩:=ok.yP.io d hd;obtain ⟨w,hw,he⟩:=aO.1 h3;have hw0:w=0:=ut fun hx=>by refine ok.lI.nd 0 w (by omega) hw ?_;rw [he,<- hn,h1]
 subst hw0;obtain ⟨i,hi,rfl⟩:=aO.1 hx;have num:(c.ai.ce[i]!).1=Ev.num c.aa.bv[0]!:=by rw [<- hn,h1]
 have tm:Ev.at c.aa.bv[0]! =(bB c.ii.am (c.ai.ce[i]!).2 c.ci).1:=by rw [he]
 obtain ⟨c',r1,r2,r3,r4,r5,r6⟩:=NC ok hi;have hb:=ok.known i hi;have pt:=fun (x:Int×Int) (hb:jd c.ii.am x)=>And.intro (eu ok.iE hb.2).1 (eu ok.iE hb.1).1
 have rt:=BJ (pt _ hb).1 (pt _ hb).2 ok.fT ok.jk h2;have ge:=Ue (pt _ hb).1 (pt _ hb).2 ok.jk h2;rw [num] at r1 r2;refine ⟨i,c',hi,num,r1,r2,?_,r4,r6,by rw [tm];exact ge⟩;have kn:=yQ ok i hi;refine ⟨by rw [tm];exact rt.1,by rw [tm];exact rt.2,r3.iE,r3.qZ,r3.lI,r3.C0,r3.hd,r3.known,?_⟩;refine aV.time (t:=c'.ci) (fun y hy=>?_) r3.yP;have hy':y∈c.ai.ce:=by rw [r6] at hy;exact (oT ok.pS hi hy).1
 obtain ⟨j,hj,rfl⟩:=aO.1 hy';have hbj:=ok.known j hj;rw [r4,r5];refine AS (pt _ hbj).1 (pt _ hbj).2 ok.jk (by rw [tm];exact rt.1) (by rw [tm];exact ge) (fun is=>?_);obtain ⟨d',hd',k1,k2⟩:=ok.yP.has _ hy' is;obtain ⟨w,hw,he⟩:=aO.1 k2;have:=HY ok.lI w hw;rw [he] at this;exact Int.not_lt.1 fun k=>this (.inl (sD.2 k))
theorem rG {p q:Pt} {t:Int×Int} (hp:ff p) (hq:ff q) (ht:jW t) (hr:bA t):dQ p q t=ack (acx (leads p q t),if p.1=q.1 then 2 else 0)\/(p.1=q.1/\dQ p q t=ack (acr,2)):=by
 unfold dQ;rw [uY ht,lm ⟨hp,hq,hr⟩]
 by_cases h:p.1=q.1
 · right;simp [h]
 left
 simp only [h,if_false,aq,uv hp hq ht];have:acx (0<No p q t)=acx (leads p q t):=by simp only [FX]
 simp [this]
end Go.Proofs.YtfejhjllooomlaaGreat
namespace Go.Proofs.YtfejhjllooomlaaGreat
theorem mw {α:Type} [BEq α] [LawfulBEq α]: ∀{a b:List α},a.Nodup->(∀x∈a,x∈b)->acg b<=acg a->a.Perm b
 | [],b,_,_,hl=>by rw [List.eq_nil_of_length_eq_zero (show (acg b)=0 by simpa using hl)]
 |x::a,b,hd,h,hl=>by
  rw [abQ] at hd;have hx:=h x NE;have ih:=mw (a:=a) (b:=b.erase x) hd.2 (fun y hy=>by
   rw [List.mem_erase_of_ne (fun e=>hd.1 (by rw [<- e];exact hy))];exact h y (v6 _ hy)) (by
   rw [List.length_erase_of_mem hx];rw [IR] at hl;omega)
  exact (List.Perm.cons x ih).trans (List.perm_cons_erase hx).symm
theorem tq {α β:Type} {f:α->β}: ∀{l:List α},l.Nodup->(∀x∈l,∀y∈l,f x=f y->x=y)->(l.map f).Nodup
 | [],_,_=>List.nodup_nil
 |x::l,h,hi=>by rw [abQ] at h;rw [List.map_cons,abQ];refine ⟨fun hm=>?_,tq h.2 fun y hy z hz=>hi y (v6 _ hy) z (v6 _ hz)⟩;obtain ⟨y,hy,e⟩:=ab0.1 hm;have:=hi y (v6 _ hy) x NE e;rw [this] at hy;exact h.1 hy
end Go.Proofs.YtfejhjllooomlaaGreat
namespace Go.Proofs.YtfejhjllooomlaaGreat
open Go.Vm Classical
def rH (l:List Int) (k:Nat):List (Int×Int):=(List.range k).map fun i=>(l[i+1]!,l[i / 2]!)
abbrev bU (l:List Int):List (Int×Int):=rH l (acg l-1)
theorem gf (l:List Int) (k:Nat):(rH l k).length=k:=by unfold rH;rw [AC,List.length_range]
theorem DG (l:List Int) (k:Nat):rH l (k+1)=rH l k++[(l[k+1]!,l[k / 2]!)]:=by unfold rH;rw [List.range_succ,List.map_append];rfl
theorem qU (l:List Int) {k i:Nat} (h:i<k):(rH l k)[i]! =(l[i+1]!,l[i / 2]!):=by rw [getElem!_pos _ i (by rw [gf];exact h)];unfold rH;rw [List.getElem_map,List.getElem_range]
theorem yS (l:List Int) (hl:(acg l)<=1000):kN l=ack (bU l):=by
 unfold kN;have key:=dN (body:=oH) (fun i=>(l,((i+1:Nat):Int),rH l i)) (acg l-1) (fun i hi=>by
  have e:ae .i64 (Int.tdiv (ae .i64 (((i+1:Nat):Int) -1)) 2)=((i / 2:Nat):Int):=by rw [show ae .i64 (((i+1:Nat):Int) -1)=(i:Int) from by rw [fC ⟨by omega,by omega⟩];omega,Int.tdiv_eq_ediv_of_nonneg (by omega),fC ⟨by omega,by omega⟩];omega
  unfold oH;simp only [az,aJ (show ((i+1:Nat):Int)<((acg l):Int) by omega),kw,ar l (i+1) (by omega),e,ar l (i / 2) (by omega),aq];rw [cR (by rw [gf,If];omega),aq,aY (show i+1<1000000000 by omega),<- DG])
 rw [show (l,(1:Int),([]:List (Int×Int)))=(l,((0+1:Nat):Int),rH l 0) from rfl,key];refine aA ?_;unfold oH;simp only [az,aF (show¬((acg l-1+1:Nat):Int)<((acg l):Int) by omega),lc]
theorem amW (l:List Int) (hl:(acg l)<=1000):vL l=ack (bU l):=by rw [<- yS l hl];rfl
theorem C3 {l:List Int} {e:Int×Int} (h:e∈bU l):e.1∈l/\e.2∈l:=by obtain ⟨i,hi,rfl⟩:=aO.1 h;rw [gf] at hi;rw [qU l hi];exact ⟨aL (by omega),aL (by omega)⟩
theorem LG {l:List Int} (hd:l.Nodup) {e:Int×Int} (h:e∈bU l):e.1≠e.2:=by obtain ⟨i,hi,rfl⟩:=aO.1 h;rw [gf] at hi;rw [qU l hi];exact fun h=>bq.1 hd (i / 2) (i+1) (by omega) (by omega) h.symm
theorem qV {l:List Int} (hd:l.Nodup):(bU l).Nodup:=by
 unfold bU rH;refine tq List.nodup_range fun i hi j hj h=>?_
 rw [List.mem_range] at hi hj;have h1:l[i+1]! =l[j+1]!:=congrArg ac9 h;have h2:=bq.1 hd;rcases PP i j with k|k|k
 · exact absurd h1 (h2 (i+1) (j+1) (by omega) (by omega))
 · exact k
 exact absurd h1.symm (h2 (j+1) (i+1) (by omega) (by omega))
theorem Gt (l:List Int) (x:Int) (hl:(acg l)<=1000000):
 (∀k,k<acg l->l[k]! =x->(∀j,j<k->l[j]!≠x)->eT l x=ack (k:Int))/\((∀k,k<acg l->l[k]!≠x)->eT l x=ack (-1)):=by
 have k1:=jE (body:=j0) (fun i=>(l,x,((acg l):Int),(i:Int))) (acg l) (fun i=>l[i]! =x) (fun i=>(i:Int)) (e:= -1) (fun i hi=>by
  unfold j0;simp only [aJ (show (i:Int)<((acg l):Int) by omega),kw,ar l i hi,aq,aY (show i<1000000000 by omega)];refine ⟨fun h=>?_,fun h=>?_⟩
  · rw [cV h.symm];rfl
  · rw [dM (fun k=>h k.symm)];rfl) (by
  unfold j0;simp only [aF (show¬((acg l):Int)<((acg l):Int) by omega),lc])
 exact ⟨fun k hk h1 h2=>k1.1 k hk h1 h2,fun h=>k1.2 h⟩
theorem Jq (l:List Int) (x:Int) (hl:(acg l)<=1000000):j7 l x=ack (acx (x∈l)):=by
 unfold j7
 by_cases hx:x∈l
 · obtain ⟨k,k1,k2,k3⟩:=least (c:=fun k=>l[k]! =x) (aO.1 hx)
   rw [(Gt l x hl).1 k k1 k2 k3,aq,aJ hx,aJ (by omega)]
 rw [(Gt l x hl).2 (fun k hk h=>hx (aO.2 ⟨k,hk,h⟩)),aq,aF hx];rfl
theorem bO {f:List Pt} (cj:bG f) {id:Int} (h:gU f id):cQ ⟨f⟩ id=ack (aW f id,0):=by
 have h1:=cj.1;have hc:cU ⟨f⟩=ack 0:=by rw [eN];exact congrArg ack (dj.2 cj)
 have bs:=sE f id (by omega) (fun i j=>fk cj.2.2);unfold cQ iH iW;rw [zB];simp only [hc,aq,show ((0:Int) !=0)=acr from rfl,lc];obtain ⟨k,hk,he⟩:=h;rw [bs.1 k hk he];simp only [aq,rc,lc,show ((0:Int) !=0)=acr from rfl,ar f k hk,uA cj.2.2 hk he]
theorem LH {f:List Pt} (cj:bG f) {t:Int×Int} (r:bA t) (jl:jW t) {a b:Int} (ha:gU f a) (hb:gU f b) (dK:a≠b):qJ ⟨f⟩ t a b=ack (acx (leads (aW f a) (aW f b) t)):=by
 unfold qJ;rw [bO cj ha,aq,bO cj hb,aq];obtain ⟨p1,p2⟩:=eu cj ha;obtain ⟨q1,q2⟩:=eu cj hb;rcases rG p1 q1 jl r with h|⟨h,_⟩
 · rw [h,aq]
 rw [p2,q2] at h;exact absurd h dK
theorem abg {f:List Pt} (cj:bG f) {t:Int×Int} (jl:jW t) {x:Int×Int} (hb:jd f x):wW x ⟨f⟩ t=ack (acx (leads (aW f x.2) (aW f x.1) t)):=by obtain ⟨h1,h2⟩:=hb;obtain ⟨j,j1,j2,j3⟩:=AP cj h1;obtain ⟨k,k1,k2,k3⟩:=AP cj h2;unfold wW;simp only [j2,k2,aq,ar f j j1,ar f k k1,j3,k3,La (eu cj h2).1 (eu cj h1).1 jl]
def gx (f:List Pt):List Int:=f.map fun p=>p.1
theorem fO {f:List Pt} (h:fu f):(gx f).Nodup:=by
 refine tq ?_ ?_
 · exact bq.2 fun i j nJ hj e=>by have:=fk h nJ hj;rw [e] at this;omega
 intro x hx y hy e
 obtain ⟨i,hi,rfl⟩:=aO.1 hx;obtain ⟨j,hj,rfl⟩:=aO.1 hy;rw [pN h hi hj e]
theorem gN {f:List Pt} {id:Int}:id∈gx f↔gU f id:=by
 unfold gx gU;rw [ab0];constructor
 · rintro ⟨p,hp,rfl⟩
   obtain ⟨i,hi,rfl⟩:=aO.1 hp;exact ⟨i,hi,rfl⟩
 rintro ⟨i,hi,rfl⟩
 exact ⟨f[i]!,aL hi,rfl⟩
structure iC (k:bg):Prop where
 o8:aU k.jp
 perm:(gx k.jp.ii.am).Perm k.bv
 cert:(k.jp.ai.ce.map fun x=>x.2).Perm (bU k.bv)
 lead: ∀e∈bU k.bv,leads (aW k.jp.ii.am e.2) (aW k.jp.ii.am e.1) k.jp.ci
theorem uB {c:bj} (ok:eE c):(c.ce.map fun x=>x.2).Nodup:=by
 refine tq ?_ ?_
 · exact bq.2 fun i j nJ hj e=>ok.nd i j nJ hj (by rw [e])
 intro x hx y hy e
 obtain ⟨i,hi,rfl⟩:=aO.1 hx;obtain ⟨j,hj,rfl⟩:=aO.1 hy;rcases PP i j with k|k|k
 · exact absurd e (ok.nd i j k hj)
 · rw [k]
 exact absurd e.symm (ok.nd j i k hi)
def Uf (k:bg):Prop:=(∀i,i<acg k.jp.ii.am->(k.jp.ii.am[i]!).1∈k.bv)/\(bU k.bv).length=acg k.jp.ai.ce/\
 ∀i,i<acg k.jp.ai.ce->(k.jp.ai.ce[i]!).2∈bU k.bv/\leads (aW k.jp.ii.am (k.jp.ai.ce[i]!).2.2) (aW k.jp.ii.am (k.jp.ai.ce[i]!).2.1) k.jp.ci
def LJ (k:bg):Prop:=(∀i,i<acg k.bv->gU k.jp.ii.am k.bv[i]!/\ ∀j,j<i->k.bv[j]!≠k.bv[i]!)/\acg k.jp.ai.ce=(bU k.bv).length/\
 ∀i,i<(bU k.bv).length->rF k.jp.ai.ce (bU k.bv)[i]!/\leads (aW k.jp.ii.am ((bU k.bv)[i]!).2) (aW k.jp.ii.am ((bU k.bv)[i]!).1) k.jp.ci
theorem my {l:List qT} {x:Int×Int}:rF l x↔x∈l.map fun y=>y.2:=by
 unfold rF;rw [ab0];constructor
 · rintro ⟨i,hi,rfl⟩;exact ⟨l[i]!,aL hi,rfl⟩
 rintro ⟨y,hy,rfl⟩
 obtain ⟨i,hi,rfl⟩:=aO.1 hy;exact ⟨i,hi,rfl⟩
theorem amX {k:bg} (ok:aU k.jp) (hl:(acg k.bv)=acg k.jp.ii.am):Uf k↔iC k:=by
 have nd:=fO ok.iE.2.2;have il:(gx k.jp.ii.am).length=(acg k.jp.ii.am):=AC ..;have cl:(k.jp.ai.ce.map fun x=>x.2).length=(acg k.jp.ai.ce):=AC ..;have cn:=uB ok.qZ;constructor
 · rintro ⟨h1,h2,h3⟩
   have pm:(gx k.jp.ii.am).Perm k.bv:=mw nd (fun x hx=>by obtain ⟨i,hi,rfl⟩:=gN.1 hx;exact h1 i hi) (by omega);have pc:(k.jp.ai.ce.map fun x=>x.2).Perm (bU k.bv):=mw cn (fun x hx=>by obtain ⟨i,hi,rfl⟩:=my.2 hx;exact (h3 i hi).1) (by omega);refine ⟨ok,pm,pc,fun e he=>?_⟩;obtain ⟨i,hi,rfl⟩:=my.2 (pc.mem_iff.2 he);exact (h3 i hi).2
 intro h
 refine ⟨fun i hi=>h.perm.mem_iff.1 (gN.2 ⟨i,hi,rfl⟩),by rw [<- h.cert.length_eq,cl],fun i hi=>?_⟩;have:=h.cert.mem_iff.1 (my.1 ⟨i,hi,rfl⟩);exact ⟨this,h.lead _ this⟩
theorem amY {k:bg} (ok:aU k.jp) (hl:(acg k.bv)=acg k.jp.ii.am):LJ k↔iC k:=by
 have nd:=fO ok.iE.2.2;have il:(gx k.jp.ii.am).length=(acg k.jp.ii.am):=AC ..;have cl:(k.jp.ai.ce.map fun x=>x.2).length=(acg k.jp.ai.ce):=AC ..;constructor
 · rintro ⟨h1,h2,h3⟩
   have hn:k.bv.Nodup:=bq.2 fun i j nJ hj e=>(h1 j hj).2 i nJ e
   have pm:k.bv.Perm (gx k.jp.ii.am):=mw hn (fun x hx=>by obtain ⟨i,hi,rfl⟩:=aO.1 hx;exact gN.2 (h1 i hi).1) (by omega);have pc:(bU k.bv).Perm (k.jp.ai.ce.map fun x=>x.2):=mw (qV hn) (fun x hx=>by obtain ⟨i,hi,rfl⟩:=aO.1 hx;exact my.1 (h3 i hi).1) (by omega);refine ⟨ok,pm.symm,pc.symm,fun e he=>?_⟩;obtain ⟨i,hi,rfl⟩:=aO.1 he;exact (h3 i hi).2
 intro h
 have hn:k.bv.Nodup:=h.perm.nodup_iff.1 nd;refine ⟨fun i hi=>⟨gN.1 (h.perm.mem_iff.2 (aL hi)),fun j hj e=>bq.1 hn j i hj hi e⟩,by rw [<- h.cert.length_eq,cl],fun i hi=>?_⟩;exact ⟨my.2 (h.cert.mem_iff.2 (aL hi)),h.lead _ (aL hi)⟩
theorem Jr {α:Type} {p q:Prop} [Decidable p] [Decidable q] {a b:α} (h:p↔q):(if p then a else b)=if q then a else b:=by
 by_cases hp:p
 · rw [lm hp,lm (h.1 hp)]
 rw [ls hp,ls (fun k=>hp (h.2 k))]
theorem kJ {k:bg} (fit:vW k.jp) (hl:(acg k.bv)<=1000):kO k=ack (if iC k then 0 else 8):=by
 unfold kO;rw [kI fit,aq]
 by_cases ok:aU k.jp
 case neg=>rw [ls ok,ls (fun h=>ok h.o8)];rfl
 rw [lm ok,bo rfl,lc]
 by_cases hh:(acg k.bv)=acg k.jp.ii.am
 case neg=>rw [dL (by rw [az,az];omega),kw,ls (fun h=>hh ?_)];rw [<- h.perm.length_eq];exact AC ..
 rw [bo (by rw [az,az];omega),lc,<- Jr (amX ok hh)];have bd:=ok.bd;have yG:=AR (body:=oJ) (fun i=>(bU k.bv,k.jp.ai.ce,((acg k.jp.ai.ce):Int),(i:Int),k.jp.ci.1,k.jp.ci.2,k.jp.ii.am,k.jp.ai.aK,k.jp.ai.ce,k.jp.aa.af.ay,k.jp.aa.af.be,k.jp.aa.af.bi,k.jp.aa.bv,k.jp.aa.aj,k.jp.io,k.bv)) (acg k.jp.ai.ce)
  (fun i=>(k.jp.ai.ce[i]!).2∈bU k.bv/\leads (aW k.jp.ii.am (k.jp.ai.ce[i]!).2.2) (aW k.jp.ii.am (k.jp.ai.ce[i]!).2.1) k.jp.ci) (r:= .done 8) (e:= .done 0) (fun i hi=>by
  have hb:=ok.known i hi;have hv:=ok.qZ.cv i hi;unfold oJ;simp only [aJ (show (i:Int)<((acg k.jp.ai.ce):Int) by omega),kw,ar k.jp.ai.ce i hi,aq,iL (bU k.bv) _ (by rw [gf];omega),LH ok.iE (t:=(k.jp.ci.1,k.jp.ci.2)) ok.jk ok.fT hb.2 hb.1 (fun h=>hv.2.2.2.2 h.symm),aY (show i<1000000000 by omega)]
  by_cases h1:(k.jp.ai.ce[i]!).2∈bU k.bv
  · rw [aJ h1]
    by_cases h2:leads (aW k.jp.ii.am (k.jp.ai.ce[i]!).2.2) (aW k.jp.ii.am (k.jp.ai.ce[i]!).2.1) k.jp.ci
    · rw [show acx (leads (aW k.jp.ii.am (k.jp.ai.ce[i]!).2.2) (aW k.jp.ii.am (k.jp.ai.ce[i]!).2.1) (k.jp.ci.1,k.jp.ci.2))=acl from aJ h2]
      exact ⟨fun h=>absurd ⟨h1,h2⟩ h,fun _=>rfl⟩
    rw [show acx (leads (aW k.jp.ii.am (k.jp.ai.ce[i]!).2.2) (aW k.jp.ii.am (k.jp.ai.ce[i]!).2.1) (k.jp.ci.1,k.jp.ci.2))=acr from aF h2]
    exact ⟨fun _=>rfl,fun h=>absurd h.2 h2⟩
  · rw [aF h1]
    exact ⟨fun _=>rfl,fun h=>absurd h.1 h1⟩) (by
  unfold oJ;simp only [aF (show¬((acg k.jp.ai.ce):Int)<((acg k.jp.ai.ce):Int) by omega),lc])
 have outer:=AR (body:=oK) (fun i=>(k.jp.ii.am,((acg k.jp.ii.am):Int),(i:Int),k.jp.ci.1,k.jp.ci.2,k.jp.ii.am,k.jp.ai.aK,k.jp.ai.ce,k.jp.aa.af.ay,k.jp.aa.af.be,k.jp.aa.af.bi,k.jp.aa.bv,k.jp.aa.aj,k.jp.io,k.bv)) (acg k.jp.ii.am)
  (fun i=>(k.jp.ii.am[i]!).1∈k.bv) (r:=8) (e:=if (bU k.bv).length=acg k.jp.ai.ce/\ ∀i,i<acg k.jp.ai.ce->(k.jp.ai.ce[i]!).2∈bU k.bv/\leads (aW k.jp.ii.am (k.jp.ai.ce[i]!).2.2) (aW k.jp.ii.am (k.jp.ai.ce[i]!).2.1) k.jp.ci then 0 else 8) (fun i hi=>by
  unfold oK;simp only [aJ (show (i:Int)<((acg k.jp.ii.am):Int) by omega),kw,ar k.jp.ii.am i hi,aq,Jq k.bv _ (by omega),aY (show i<1000000000 by omega)]
  by_cases h1:(k.jp.ii.am[i]!).1∈k.bv
  · rw [aJ h1];exact ⟨fun h=>absurd h1 h,fun _=>rfl⟩
  · rw [aF h1];exact ⟨fun _=>rfl,fun h=>absurd h h1⟩) (by
  unfold oK;simp only [az,aF (show¬((acg k.jp.ii.am):Int)<((acg k.jp.ii.am):Int) by omega),lc,yS k.bv hl,aq]
  by_cases h1:(bU k.bv).length=acg k.jp.ai.ce
  · rw [bo (by omega),lc]
    refine (show _=_ from yG).trans ?_
    by_cases h2: ∀i,i<acg k.jp.ai.ce->(k.jp.ai.ce[i]!).2∈bU k.bv/\leads (aW k.jp.ii.am (k.jp.ai.ce[i]!).2.2) (aW k.jp.ii.am (k.jp.ai.ce[i]!).2.1) k.jp.ci
    · rw [lm h2,lm ⟨h1,h2⟩]
    rw [ls h2,ls (fun h=>h2 h.2)]
  rw [dL (by omega),kw,ls (fun h=>h1 h.1)])
 refine (show _=_ from outer).trans ?_
 by_cases h1: ∀i,i<acg k.jp.ii.am->(k.jp.ii.am[i]!).1∈k.bv
 · rw [lm h1]
   congr 1
   exact Jr (q:=Uf k) ⟨fun h=>⟨h1,h.1,h.2⟩,fun h=>⟨h.2.1,h.2.2⟩⟩
 rw [ls h1,ls (fun h:Uf k=>h1 h.1)]
theorem abh {c:aH} (ok:aU c) (es:List (Int×Int)) (kn: ∀x∈es,jd c.ii.am x):
 wX c es=ack (acx (acg c.ai.ce=acg es/\ ∀i,i<acg es->rF c.ai.ce es[i]!/\leads (aW c.ii.am (es[i]!).2) (aW c.ii.am (es[i]!).1) c.ci)):=by
 have bd:=ok.bd;unfold wX;simp only [az]
 by_cases h0:(acg c.ai.ce)=acg es
 case neg=>rw [dL (by omega),kw,aF (fun h=>h0 h.1)]
 rw [bo (by omega),lc];have key:=AR (body:=qj) (fun i=>(es,(i:Int),c.ci.1,c.ci.2,c.ii.am,c.ai.aK,c.ai.ce,c.aa.af.ay,c.aa.af.be,c.aa.af.bi,c.aa.bv,c.aa.aj,c.io)) (acg es)
  (fun i=>rF c.ai.ce es[i]!/\leads (aW c.ii.am (es[i]!).2) (aW c.ii.am (es[i]!).1) c.ci) (r:=acr) (e:=acl) (fun i hi=>by
  have LB:bj.mk c.ai.aK c.ai.ce=c.ai:=rfl;unfold qj;simp only [az,aJ (show (i:Int)<((acg es):Int) by omega),kw,ar es i hi,aq,LB,xk c.ai es[i]! (by omega),abg ok.iE (t:=(c.ci.1,c.ci.2)) ok.fT (kn _ (aL hi)),aY (show i<1000000000 by omega)]
  by_cases h1:rF c.ai.ce es[i]!
  · rw [aJ h1]
    by_cases h2:leads (aW c.ii.am (es[i]!).2) (aW c.ii.am (es[i]!).1) c.ci
    · rw [show acx (leads (aW c.ii.am (es[i]!).2) (aW c.ii.am (es[i]!).1) (c.ci.1,c.ci.2))=acl from aJ h2]
      exact ⟨fun h=>absurd ⟨h1,h2⟩ h,fun _=>rfl⟩
    rw [show acx (leads (aW c.ii.am (es[i]!).2) (aW c.ii.am (es[i]!).1) (c.ci.1,c.ci.2))=acr from aF h2]
    exact ⟨fun _=>rfl,fun h=>absurd h.2 h2⟩
  · rw [aF h1]
    exact ⟨fun _=>rfl,fun h=>absurd h.1 h1⟩) (by
  unfold qj;simp only [az,aF (show¬((acg es):Int)<((acg es):Int) by omega),lc])
 refine (show _=_ from key).trans ?_
 by_cases h2: ∀i,i<acg es->rF c.ai.ce es[i]!/\leads (aW c.ii.am (es[i]!).2) (aW c.ii.am (es[i]!).1) c.ci
 · rw [lm h2,aJ ⟨h0,h2⟩]
 rw [ls h2,aF (fun h=>h2 h.2)]
theorem abi {σ ρ:Type} {body:σ->Option (Step σ ρ)} (st:Nat->σ) (n:Nat) (P:Nat->Prop) {r:ρ} (h: ∀i,i<n->(¬P i->body (st i)=ack (.done r))/\(P i->body (st i)=ack (.next (st (i+1)))))
 (hx: ¬ ∀i,i<n->P i):aB body (st 0)=ack r:=by
 obtain ⟨i,hi⟩:=abS.1 hx;obtain ⟨hi,hx⟩:=abU.1 hi;obtain ⟨m,m1,m2,m3⟩:=least (c:=fun i=> ¬P i) ⟨i,hi,hx⟩;rw [dN st m fun j hj=>(h j (by omega)).2 (ww.1 (m3 j hj))];exact aA ((h m m1).1 m2)
def ckS (k:bg) (i:Nat):=((i:Int),k.jp.ci.1,k.jp.ci.2,k.jp.ii.am,k.jp.ai.aK,k.jp.ai.ce,k.jp.aa.af.ay,k.jp.aa.af.be,k.jp.aa.af.bi,k.jp.aa.bv,k.jp.aa.aj,k.jp.io,k.bv)
theorem yT {k:bg} (fit:vW k.jp) (hl:(acg k.bv)<=1000):nX k=ack (if iC k then 0 else 8):=by
 unfold nX;rw [Gm fit,aq]
 by_cases ok:aU k.jp
 case neg=>rw [ls ok,ls (fun h=>ok h.o8)];rfl
 rw [lm ok,bo rfl,lc]
 by_cases hh:(acg k.bv)=acg k.jp.ii.am
 case neg=>rw [dL (by rw [az,az];omega),kw,ls (fun h=>hh ?_)];rw [<- h.perm.length_eq];exact AC ..
 rw [bo (by rw [az,az];omega),lc,<- Jr (amY ok hh)];have bd:=ok.bd;have step: ∀i,i<acg k.bv->(¬(gU k.jp.ii.am k.bv[i]!/\ ∀j,j<i->k.bv[j]!≠k.bv[i]!)->iZ (ckS k i)=ack (.done 8))/\((gU k.jp.ii.am k.bv[i]!/\ ∀j,j<i->k.bv[j]!≠k.bv[i]!)->iZ (ckS k i)=ack (.next (ckS k (i+1)))):=by
  intro i hi;unfold ckS;unfold iZ;simp only [az,aJ (show (i:Int)<((acg k.bv):Int) by omega),kw,ar k.bv i hi,aq]
  by_cases h1:gU k.jp.ii.am k.bv[i]!
  case neg=>rw [AQ ok.iE h1];exact ⟨fun _=>rfl,fun h=>absurd h.1 h1⟩
  obtain ⟨m,m1,m2,m3⟩:=AP ok.iE h1;rw [m2];simp only [aq,aF (show¬(m:Int)<0 by omega),lc];have yG:=AR (body:=oQ) (fun j=>((i:Int),(j:Int),k.jp.ci.1,k.jp.ci.2,k.jp.ii.am,k.jp.ai.aK,k.jp.ai.ce,k.jp.aa.af.ay,k.jp.aa.af.be,k.jp.aa.af.bi,k.jp.aa.bv,k.jp.aa.aj,k.jp.io,k.bv)) i
   (fun j=>k.bv[j]!≠k.bv[i]!) (r:= .done 8) (e:= .next (((i+1:Nat):Int),k.jp.ci.1,k.jp.ci.2,k.jp.ii.am,k.jp.ai.aK,k.jp.ai.ce,k.jp.aa.af.ay,k.jp.aa.af.be,k.jp.aa.af.bi,k.jp.aa.bv,k.jp.aa.aj,k.jp.io,k.bv)) (fun j hj=>by
   unfold oQ;simp only [aJ (show (j:Int)<(i:Int) by omega),kw,ar k.bv j (by omega),ar k.bv i hi,aq,aY (show j<1000000000 by omega)]
   by_cases h:k.bv[j]! =k.bv[i]!
   · rw [cV h];exact ⟨fun _=>rfl,fun k=>absurd h k⟩
   · rw [dM h];exact ⟨fun k=>absurd h k,fun _=>rfl⟩) (by
   unfold oQ;simp only [aF (show¬(i:Int)<(i:Int) by omega),lc,aY (show i<1000000000 by omega)])
  have Js:=(show _=_ from yG)
  by_cases h2: ∀j,j<i->k.bv[j]!≠k.bv[i]!
  · rw [lm h2] at Js
    exact ⟨fun h=>absurd ⟨h1,h2⟩ h,fun _=>Js⟩
  rw [ls h2] at Js
  exact ⟨fun _=>Js,fun h=>absurd h.2 h2⟩
 by_cases hP: ∀i,i<acg k.bv->gU k.jp.ii.am k.bv[i]!/\ ∀j,j<i->k.bv[j]!≠k.bv[i]!
 · have jus:=abh ok (bU k.bv) (fun x hx=>by
    obtain ⟨h1,h2⟩:=C3 hx;obtain ⟨i,hi,e1⟩:=aO.1 h1;obtain ⟨j,hj,e2⟩:=aO.1 h2;exact ⟨e1▸(hP i hi).1,e2▸(hP j hj).1⟩)
   have o:=AR (body:=iZ) (ckS k) (acg k.bv) _ (r:=8) (e:=if LJ k then 0 else 8) step (by
    have je:(aH.mk (k.jp.ci.1,k.jp.ci.2) (Field.mk k.jp.ii.am) (bj.mk k.jp.ai.aK k.jp.ai.ce) (aI.mk (aQ.mk k.jp.aa.af.ay k.jp.aa.af.be k.jp.aa.af.bi) k.jp.aa.bv k.jp.aa.aj) k.jp.io)=k.jp:=rfl;unfold iZ ckS;simp only [az,aF (show¬((acg k.bv):Int)<((acg k.bv):Int) by omega),lc,amW k.bv hl,aq,je,jus]
    by_cases h2:(acg k.jp.ai.ce)=(bU k.bv).length/\ ∀i,i<(bU k.bv).length->rF k.jp.ai.ce (bU k.bv)[i]!/\leads (aW k.jp.ii.am ((bU k.bv)[i]!).2) (aW k.jp.ii.am ((bU k.bv)[i]!).1) k.jp.ci
    · rw [aJ h2,lm (show LJ k from ⟨hP,h2.1,h2.2⟩)];rfl
    rw [aF h2,ls (fun h:LJ k=>h2 ⟨h.2.1,h.2.2⟩)];rfl)
   refine (show _=_ from o).trans ?_;rw [lm hP]
 rw [ls (fun h:LJ k=>hP h.1)]
 exact abi (body:=iZ) (ckS k) (acg k.bv) _ (r:=8) step hP
end Go.Proofs.YtfejhjllooomlaaGreat
