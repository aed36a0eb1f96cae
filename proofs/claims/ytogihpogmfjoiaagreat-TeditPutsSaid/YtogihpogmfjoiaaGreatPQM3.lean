/- Plain laws (3). -/
import Derived.Test.YtogihpogmfjoiaaGreatPQM2
import Derived.Test.YtogihpogmfjoiaaGreatPQS2
open Bool renaming not_true->bn,not_false->bu,and_self->c7
open List renaming mem_cons_of_mem->bo,length_append->bq,length_drop->cd,length_set->ce,length_cons->cj,mem_append->ck,nodup_cons->cm,mem_cons_self->cp,mem_range->cq,length_singleton->cu,length_replicate->cw,length_nil->cy,mem_map->cz,drop_zero->c6,drop_length->c8,mem_filterMap->dd,length_range->de,nodup_range->di,length_map->dj,range->dt,replicate->dv,mem_cons->dw
open Classical renaming byContradiction->bv,not_not->cf
open Nat renaming le_refl->bw,lt_trichotomy->bz,div_div_eq_div_mul->ci,pow_succ->df,le_of_lt->dh,not_lt_zero->dm
open Int renaming le_trans->c9,le_refl->db
open Prod renaming ext->dp,fst->dy
namespace Go.Proofs.YtogihpogmfjoiaaGreat
open Go.Vm Classical
theorem YY (c:aQ) (n:Int) (hl:c.ba.length<=1000000):(∀k,k<c.ba.length->(c.ba[k]!).1=n->(∀j,j<k->(c.ba[j]!).1≠n)->rG c n=some (k:Int))/\((∀k,k<c.ba.length->(c.ba[k]!).1≠n)->rG c n=some (-1)):=by
 unfold rG;refine lA (body:=sR) (fun i=>(n,(i:Int),c.au.1,c.au.2,c.ax.aa,c.ay.aq,c.ay.ar,c.az.ai.ac,c.az.ai.ae,c.az.ai.af,c.az.aj,c.az.am,c.ba)) c.ba.length (fun i=>(c.ba[i]!).1=n) (fun i=>(i:Int)) (fun i hi=>?_) ?_
 · have e1:decide ((i:Int)<(c.ba.length:Int))=true:=aJ (by omega)
   unfold sR;simp only [aF,e1,cond_true,aD c.ba i hi,aB,aU (show i<1000000000 by omega)]
   constructor
   · intro h;rw [eY h];rfl
   intro h;rw [eO h];rfl
 unfold sR
 have:decide ((c.ba.length:Int)<(c.ba.length:Int))=false:=dec_f (by omega)
 simp only [aF,this,cond_false]
theorem SX {ds:List wU} (hu:Up ds) (hl:ds.length<=1000000) (n:Int):(∀k,k<ds.length->(ds[k]!).1=n->rB ds n=some ((k:Int),true))/\((∀k,k<ds.length->(ds[k]!).1≠n)-> ∃m:Nat,rB ds n=some ((m:Int),false)):=by
 have bs:=vH ds n hl (xN.1 hu);unfold rB;rw [aUe];constructor
 · intro k hk he;rw [bs.1 k hk he];rfl
 intro h
 obtain ⟨m,_,_,_,e⟩:=bs.2 h;exact ⟨m,by rw [e];rfl⟩
theorem bG.bd {c:aQ} (ok:bG c):c.ba.length<=200/\c.ax.aa.length<=64/\c.ay.ar.length<=200:=by
 have:=ok.hd;have:=ok.agd.bd;have:=ok.fld.1;have:=ok.crt.len
 omega
theorem lH {c:aQ} (ok:bG c):kA c=some c:=by
 have bd:=ok.bd;unfold kA mW qO;simp only [aT (show c.ax.aa.length<=1048576 by omega),aT (show c.ay.ar.length<=1048576 by omega),aT (show c.ba.length<=1048576 by omega),aB,vG ok.agd]
theorem nV {c:aQ} (ok:bG c):oO c=some c:=by
 have bd:=ok.bd;have ab:=ok.agd.bd;have hl:=ok.agd.so.fl;have hn:=ok.agd.so.n2;have hu:=ok.agd.so.ul;unfold oO;simp only [aT (show c.ax.aa.length<=1048576 by omega),aT (show c.ay.ar.length<=1048576 by omega),aT (show c.ba.length<=1048576 by omega),aT (show c.az.aj.length<=1048576 by omega),aT (show c.az.am.length<=1048576 by omega),
  aT (show c.az.ai.ac.length<=1048576 by omega),aT (show c.az.ai.ae.length<=1048576 by omega),aT (show c.az.ai.af.length<=1048576 by omega),aB]
theorem DD {cs:List wU} {i:Nat} (hu:Up cs) (hi:i<cs.length) {x:wU} (hx:x∈cs.eraseIdx i):x∈cs/\x.1≠(cs[i]!).1:=by
 rw [yW,ck] at hx;have ub:=xN.1 hu;rcases hx with hx|hx
 · obtain ⟨j,h1,h2,rfl⟩:=cD.1 hx
   have:=ub j i h1 hi
   exact ⟨bH h2,by omega⟩
 obtain ⟨j,hj,rfl⟩:=aY.1 hx
 rw [cd] at hj;rw [nU]
 have:=ub i (i+1+j) (by omega) (by omega)
 exact ⟨bH (by omega),by omega⟩
theorem MD {c:aQ} (ok:bG c) (i:Nat) (hi:i<c.ay.ar.length): ∀j,j<(qH c.ay i).ar.length->lG c.ax.aa ((qH c.ay i).ar[j]!).2:=by
 intro j hj;have hm:(qH c.ay i).ar[j]!∈c.ay.ar:=(DD ok.crt_up hi (bH hj)).1;obtain ⟨m,hm1,hm2⟩:=aY.1 hm;rw [<- hm2];exact ok.known m hm1
theorem aUf {c:aQ} (ok:bG c) {i:Nat} (hi:i<c.ay.ar.length):
 ∃c':aQ,tU c (c.ay.ar[i]!).1=some (c',(c.ay.ar[i]!).2,0)/\yR c (c.ay.ar[i]!).1=some c'/\bG c'/\c'.ax=c.ax/\c'.au=c.au/\c'.ay=qH c.ay i:=by
 have bd:=ok.bd;have rm:=P0 ok.crt hi (n:=(c.ay.ar[i]!).1) rfl;have wo:=LH ok.crt hi (n:=(c.ay.ar[i]!).1) rfl;have fe:=ok.fol.erase (i:=i) hi;have pd:=SX ok.due_up (by omega) (c.ay.ar[i]!).1
 have da:=YY c (c.ay.ar[i]!).1 (by omega)
 cases hf:(bL c.ax.aa (c.ay.ar[i]!).2 c.au).2 with
 |false=>
  have no: ∀k,k<c.ba.length->(c.ba[k]!).1≠(c.ay.ar[i]!).1:=by
   intro k hk he;obtain ⟨x,hx,h1,h2,_⟩:=ok.fol.ba _ (bH hk);obtain ⟨j,hj,rfl⟩:=aY.1 hx;have ub:=xN.1 ok.crt_up
   have:j=i:=by
    rcases bz j i with h|h|h
    · have:=ub j i h hi;omega
    · exact h
    have:=ub i j h hj;omega
   rw [this,hf] at h2;cases h2
  refine ⟨⟨c.au,c.ax,qH c.ay i,c.az,c.ba⟩,?_,?_,?_,rfl,rfl,rfl⟩
  · unfold tU
    obtain ⟨m,e⟩:=pd.2 no;simp only [rm,aB,show ((0:Int) !=0)=false from rfl,cond_false,nV ok,e]
  · unfold yR
    simp only [lH ok,aB,wo,da.2 no,dec_f (show¬(0:Int)<= -1 by omega),cond_false]
  exact ⟨ok.nowv,ok.now64,ok.fld,PZ ok.crt hi,ok.agd,ok.w200,ok.hd,MD ok i hi,fe.1 hf⟩
 |true=>
  obtain ⟨k,hk,k1,k2,k3⟩:=fe.2 hf;obtain ⟨w,hw,hev⟩:=aY.1 k2;have hh:(c.az.aj[w]!).2.2.2=(c.ba[k]!).2:=by rw [hev]
  have ub:=xN.1 ok.due_up;have before: ∀j,j<k->(c.ba[j]!).1≠(c.ay.ar[i]!).1:=fun j hj he=>by have:=ub j k hj hk;omega
  have dl:(c.ba.eraseIdx k).length=c.ba.length-1:=aCr hk;obtain ⟨L,d1,d2⟩:=MB c.ba k hk;refine ⟨⟨c.au,c.ax,qH c.ay i,eZ c.az w,c.ba.eraseIdx k⟩,?_,?_,?_,rfl,rfl,rfl⟩
  · unfold tU
    simp only [rm,aB,show ((0:Int) !=0)=false from rfl,cond_false,nV ok,pd.1 k hk k1,cond_true,aD c.ba k hk,BW ok.agd hw ok.agd.fit hh,aU (show k<1000000000 by omega),aAS,d1,d2]
  · unfold yR
    have s1:jH c.ba 0 (k:Int)=some (c.ba.take k):=mF c.ba k (by omega)
    have s2:jH c.ba ((k+1:Nat):Int) (c.ba.length:Int)=some (c.ba.drop (k+1)):=by
     unfold jH;rw [if_pos ⟨by omega,by omega,by omega⟩]
     simp only [Int.toNat_natCast];rw [List.take_of_length_le (by rw [cd];exact bw _)]
    have tl:(c.ba.take k).length=k:=by rw [List.length_take];omega
    have dl2:(c.ba.drop (k+1)).length=c.ba.length- (k+1):=cd;simp only [lH ok,aB,wo,da.1 k hk k1 before,aJ (show (0:Int)<=(k:Int) by omega),cond_true,aD c.ba k hk,BX ok.agd hw hh,s1,aT (show (c.ba.take k).length<=1048576 by omega),aU (show k<1000000000 by omega),aF,s2,
     cI (show (c.ba.take k).length+(c.ba.drop (k+1)).length<=1048576 by omega),yW]
    cases hem:(c.ba.drop (k+1)).isEmpty with
    |true=>
     rw [List.isEmpty_iff] at hem;rw [hem,List.append_nil];rfl
    |false=>rfl
  have rem:=LE ok.agd hw
  have rmem:=PU ok.agd hw;have hlen:(eZ c.az w).aj.length=c.az.aj.length-1:=by
   have h1:=rem.hl;have h2:=ok.agd.hl;have h3:(eZ c.az w).ai=gG c.az.ai (c.az.aj[w]!).2.2.2:=by unfold eZ;split<;>rfl
   rw [h3] at h1;change _+(c.az.ai.af++[_]).length=c.az.ai.ac.length at h1;rw [bq] at h1;simp only [cj,cy] at h1;omega
  have wlen:(eZ c.az w).am.length=200:=by
   have h1:=rem.wl;have h3:(eZ c.az w).ai=gG c.az.ai (c.az.aj[w]!).2.2.2:=by unfold eZ;split<;>rfl
   rw [h3] at h1;change _=c.az.ai.ac.length at h1;rw [h1,<- ok.agd.wl,ok.w200]
  refine ⟨ok.nowv,ok.now64,ok.fld,PZ ok.crt hi,rem,wlen,?_,MD ok i hi,?_⟩
  · show (eZ c.az w).aj.length=(c.ba.eraseIdx k).length
    rw [hlen,dl,ok.hd]
  refine k3.mono fun x hx e he hm=>(rmem e).2 ⟨hm,fun h=>?_⟩
  have:=(DD ok.crt_up hi hx).2
  rw [h,hev] at he;exact this he.symm
theorem MQ {c:aQ} (ok:bG c) {i:Nat} (_hi:i<c.ay.ar.length) {c':aQ} (h:tU c (c.ay.ar[i]!).1=some (c',(c.ay.ar[i]!).2,0)):xI c (c.ay.ar[i]!).1=some (c',0):=by
 unfold xI;rw [oY ok.fit,if_pos ok];simp only [aB,show ((0:Int) !=0)=false from rfl,cond_false,h]
abbrev fF:aQ:=⟨(0,0),⟨[]⟩,⟨0,[]⟩,⟨⟨[],[],[]⟩,[],[]⟩,[]⟩
theorem VB {l:List Pt} (ok:bS l) {id:Int} (h:kI l id): ¬(iU l id).1<0:=by
 obtain ⟨h1,_⟩:=fT ok h
 have:=h1.1
 omega
theorem aNy {c:aQ} (ok:bG c) {x:Int×Int} (hx:gB x) (hb:lG c.ax.aa x) (hn: ¬A3 c.ay.ar x):
 (jN c x=some (fF,0,18)/\mS c x=some (fF,0,18)/\(JX c.ay\/ ¬DW c.az.ai))\/
 ∃c':aQ,jN c x=some (c',c.ay.aq,0)/\mS c x=some (c',c.ay.aq,0)/\bG c'/\c'.ax=c.ax/\c'.au=c.au/\c'.ay=sY c.ay x/\(c'.az.ai=c.az.ai\/c'.az.ai=iJ c.az.ai):=by
 have bd:=ok.bd;have n0:=ok.crt.n0;have n1:=ok.crt.n1;have fit:=ok.fit;have ad:=YT ok.crt hx;have rd:=U9 ok.crt hx;rw [if_neg hn] at ad rd;have hc:iG c=some 0:=by rw [oY fit,if_pos ok]
 have p1:=oX ok.fld x.1;have p2:=oX ok.fld x.2;have q1:=VB ok.fld hb.1;have q2:=VB ok.fld hb.2;have wh:=A4 ok.fld hx ok.nowv ok.now64;rw [if_pos hb] at wh;have rw':=A5 ok.fld ok.now64 hb
 by_cases hf:JX c.ay
 · rw [if_pos hf] at ad rd
   left;refine ⟨?_,?_,.inl hf⟩
   · unfold jN dV
     simp only [hc,aB,show ((0:Int) !=0)=false from rfl,cond_false,ad,show ((18:Int)==8)=false from rfl,p1,p2,dec_f q1,dec_f q2,show ((18:Int) !=0)=true from rfl,cond_true]
   unfold mS
   simp only [rd,aB,show ((18:Int) !=0)=true from rfl,cond_true]
 rw [if_neg hf] at ad rd;have cok:=aAU ok.crt hx hn hf;have known': ∀j,j<(sY c.ay x).ar.length->lG c.ax.aa ((sY c.ay x).ar[j]!).2:=by
  intro j hj;rw [GF] at hj;rw [yX]
  by_cases h:j<c.ay.ar.length
  · rw [if_pos h];exact ok.known j h
  rw [if_neg h,if_pos (by omega)];exact hb
 have fresh: ∀e∈c.az.aj,Ev.num e≠c.ay.aq:=by
  intro e he hne;obtain ⟨d,hd,h1⟩:=ok.nums e he;obtain ⟨y,hy,h2,_⟩:=ok.fol.ba d hd;obtain ⟨j,hj,rfl⟩:=aY.1 hy
  have:=(ok.crt.nr j hj).2
  omega
 have sn:=ok.fol.snoc (x:=(c.ay.aq,x));cases hw:(bL c.ax.aa x c.au).2 with
 |false=>
  right;refine ⟨⟨c.au,c.ax,sY c.ay x,c.az,c.ba⟩,?_,?_,⟨ok.nowv,ok.now64,ok.fld,cok,ok.agd,ok.w200,ok.hd,known',sn.1 hw⟩,rfl,rfl,rfl,.inl rfl⟩
  · unfold jN dV
    simp only [hc,aB,show ((0:Int) !=0)=false from rfl,cond_false,ad,show ((0:Int)==8)=false from rfl,p1,p2,dec_f q1,dec_f q2,nV ok,wh,hw]
  unfold mS
  simp only [rd,aB,show ((0:Int) !=0)=false from rfl,cond_false,lH ok,rw',hw,bu,cond_true]
 |true=>
  obtain ⟨t1,t2⟩:=PB (fT ok.fld hb.2).1 (fT ok.fld hb.1).1 ok.now64 ok.nowv hw
  by_cases op:DW c.az.ai
  · right
    have pu:=BT ok.agd op ok.agd.fit (t:=(bL c.ax.aa x c.au).1) (n:=c.ay.aq) t1 t2 n0 n1 fresh;have rp:=DX ok.agd op (t:=(bL c.ax.aa x c.au).1) (n:=c.ay.aq) t1 t2 n0 n1;have pok:=aCp ok.agd op (t:=(bL c.ax.aa x c.au).1) (n:=c.ay.aq) t1 t2 n0 n1 fresh
    have pmem:=YO ok.agd op (t:=(bL c.ax.aa x c.au).1) (n:=c.ay.aq) t1;have plen:=JU ok.agd op (t:=(bL c.ax.aa x c.au).1) (n:=c.ay.aq) t1;have ap: ∀h:Int×Int,bN c.ba [(c.ay.aq,h)]=some (c.ba++[(c.ay.aq,h)]):=fun h=>cI (by simp;omega)
    have wlen:(nE c.az (bL c.ax.aa x c.au).1 c.ay.aq).am.length=200:=by
     have:=pok.wl
     change _=(c.az.ai.ac.set _ _).length at this;rw [ce] at this;rw [this,<- ok.agd.wl,ok.w200]
    refine ⟨⟨c.au,c.ax,sY c.ay x,nE c.az (bL c.ax.aa x c.au).1 c.ay.aq,c.ba++[(c.ay.aq,nD c.az.ai)]⟩,?_,?_,⟨ok.nowv,ok.now64,ok.fld,cok,pok,wlen,?_,known',?_⟩,rfl,rfl,rfl,.inr rfl⟩
    · unfold jN dV
      simp only [hc,aB,show ((0:Int) !=0)=false from rfl,cond_false,ad,show ((0:Int)==8)=false from rfl,p1,p2,dec_f q1,dec_f q2,nV ok,wh,hw,cond_true,pu,ap]
    · unfold mS
      simp only [rd,aB,show ((0:Int) !=0)=false from rfl,cond_false,lH ok,rw',hw,bn,vF ok.agd.so,aJ op,rp,ap]
    · show (nE c.az (bL c.ax.aa x c.au).1 c.ay.aq).aj.length=(c.ba++[_]).length
      rw [plen,bq,ok.hd];rfl
    have fm:aW c.ax.aa c.au (nE c.az (bL c.ax.aa x c.au).1 c.ay.aq).aj c.ay.ar c.ba:=ok.fol.mono fun y hy e he hm=>(pmem e).2 (.inr hm)
    exact (fm.snoc (x:=(c.ay.aq,x))).2 _ hw rfl ((pmem _).2 (.inl rfl))
  left
  have pu:=BU ok.agd op ok.agd.fit (t:=(bL c.ax.aa x c.au).1) (n:=c.ay.aq) t1 t2 n0 n1 fresh;refine ⟨?_,?_,.inr op⟩
  · unfold jN dV
    simp only [hc,aB,show ((0:Int) !=0)=false from rfl,cond_false,ad,show ((0:Int)==8)=false from rfl,p1,p2,dec_f q1,dec_f q2,nV ok,wh,hw,cond_true,pu,show ((18:Int) !=0)=true from rfl]
  unfold mS
  simp only [rd,aB,show ((0:Int) !=0)=false from rfl,cond_false,lH ok,rw',hw,bn,vF ok.agd.so,dec_f op,bu,cond_true]
theorem Up.inj {cs:List wU} (h:Up cs) {x y:wU} (hx:x∈cs) (hy:y∈cs) (he:x.1=y.1):x=y:=by
 obtain ⟨i,hi,rfl⟩:=aY.1 hx;obtain ⟨j,hj,rfl⟩:=aY.1 hy;have ub:=xN.1 h;rcases bz i j with h1|h1|h1
 · have:=ub i j h1 hj;omega
 · rw [h1]
 have:=ub j i h1 hi;omega
structure P2 (c:aQ) (f:List Pt) (i k:Nat) (a:aO) (ds:List wU):Prop where
 ok:fJ a
 w2:a.am.length=200
 new:aW f c.au a.aj (c.ay.ar.take i) ds
 old:aW c.ax.aa c.au a.aj (c.ay.ar.drop i) (c.ba.drop k)
 kl:k<=c.ba.length
 cnt:a.aj.length=ds.length+(c.ba.length-k)
theorem aUg {a:aO} (ok:fJ a) {w:Nat} (hw:w<a.aj.length):(eZ a w).aj.length=a.aj.length-1/\(eZ a w).am.length=a.am.length:=by
 have rem:=LE ok hw;have h3:(eZ a w).ai=gG a.ai (a.aj[w]!).2.2.2:=by unfold eZ;split<;>rfl
 have h1:=rem.hl;have h2:=ok.hl;have h4:=rem.wl;rw [h3] at h1 h4;change _+(a.ai.af++[_]).length=a.ai.ac.length at h1;change _=a.ai.ac.length at h4;rw [bq] at h1;simp only [cj,cy] at h1;exact ⟨by omega,by rw [h4,ok.wl]⟩
theorem aNz {a:aO} {t:Int×Int} {n:Int} (ok:fJ a) (pok:fJ (nE a t n)):(nE a t n).am.length=a.am.length:=by
 have:=pok.wl
 change _=(a.ai.ac.set _ _).length at this;rw [ce] at this;rw [this,ok.wl]
section
variable {c : aQ} (ok : bG c) {f : List Pt} (fok : bS f) (kn : ∀ i, i < c.ay.ar.length -> lG f (c.ay.ar[i]!).2)
include ok
theorem JZ {i:Nat} {x:wU} (hx:x∈c.ay.ar.take i) (hi:i<c.ay.ar.length):x.1≠(c.ay.ar[i]!).1:=by
 obtain ⟨j,h1,h2,rfl⟩:=cD.1 hx
 have:=ok.crt.up j i h1 hi
 omega
theorem J0 {i:Nat} {x:wU} (hx:x∈c.ay.ar.drop (i+1)) (hi:i<c.ay.ar.length):x.1≠(c.ay.ar[i]!).1:=by
 obtain ⟨j,h1,rfl⟩:=aY.1 hx;rw [cd] at h1;rw [nU]
 have:=ok.crt.up i (i+1+j) (by omega) (by omega)
 omega
theorem aDz {i k:Nat} {a:aO} {ds:List wU} (inv:P2 c f i k a ds) (hi:i<c.ay.ar.length) (was:(bL c.ax.aa (c.ay.ar[i]!).2 c.au).2=false): ∀e∈a.aj,Ev.num e≠(c.ay.ar[i]!).1:=by
 have u1:Up (c.ay.ar.take i):=ok.crt_up.sublist (List.take_sublist _ _);have u2:Up (c.ay.ar.drop i):=ok.crt_up.sublist (List.drop_sublist _ _);have d1:=inv.new.up u1;have d2:=inv.old.up u2;have cross: ∀x∈ds,∀y∈c.ba.drop k,x.1<y.1:=by
  intro x hx y hy;obtain ⟨p,hp,h1,_⟩:=inv.new.ba x hx;obtain ⟨q,hq,h2,_⟩:=inv.old.ba y hy;obtain ⟨m,m1,m2,rfl⟩:=cD.1 hp;obtain ⟨n,n1,rfl⟩:=aY.1 hq;rw [cd] at n1;rw [nU] at h2
  have:=ok.crt.up m (i+n) (by omega) (by omega)
  omega
 have nd:((ds++c.ba.drop k).map fun x=>x.1).Nodup:=YX (by
  show List.Pairwise _ _;rw [List.pairwise_append];exact ⟨d1,d2,cross⟩)
 have only:=MC (H:=a.aj) nd (by rw [dj,bq,cd,inv.cnt];exact bw _) (fun n hn=>by
  obtain ⟨x,hx,rfl⟩:=cz.1 hn;rcases ck.1 hx with hx|hx
  · obtain ⟨p,hp,h1,h2,h3⟩:=inv.new.ba x hx
    exact ⟨_,h3,h1.symm⟩
  obtain ⟨p,hp,h1,h2,h3⟩:=inv.old.ba x hx
  exact ⟨_,h3,h1.symm⟩)
 intro e he hne;obtain ⟨x,hx,h1⟩:=cz.1 (only e he);rcases ck.1 hx with hx|hx
 · obtain ⟨p,hp,h2,_⟩:=inv.new.ba x hx
   exact JZ ok hp hi (by rw [<- h2,h1,hne])
 obtain ⟨p,hp,h2,h3,_⟩:=inv.old.ba x hx
 have hp':p∈c.ay.ar:=List.mem_of_mem_drop hp
 have:=ok.crt_up.inj hp' (bH hi) (by rw [<- h2,h1,hne])
 rw [this,was] at h3;cases h3
def stP (c:aQ) (f:List Pt) (i:Nat) (a:aO) (ds:List wU):=
 (c.ay.ar,(c.ay.ar.length:Int),(i:Int),c.au.1,c.au.2,c.ax.aa,c.ay.aq,c.ay.ar,c.az.ai.ac,c.az.ai.ae,c.az.ai.af,c.az.aj,c.az.am,c.ba,f,(0:Int),(0:Int),(0:Int),c.au.1,c.au.2,c.ay.aq,c.ay.ar,a.ai.ac,a.ai.ae,a.ai.af,a.aj,a.am,f,ds)
def stR (c:aQ) (f:List Pt) (i:Nat) (a:aO) (ds:List wU):=
 ((i:Int),c.au.1,c.au.2,c.ax.aa,c.ay.aq,c.ay.ar,c.az.ai.ac,c.az.ai.ae,c.az.ai.af,c.az.aj,c.az.am,c.ba,f,(0:Int),(0:Int),(0:Int),c.au.1,c.au.2,f,c.ay.aq,c.ay.ar,a.ai.ac,a.ai.ae,a.ai.af,a.aj,a.am,ds)
include fok kn
theorem aFX {i k:Nat} {a:aO} {ds:List wU} (inv:P2 c f i k a ds) (hi:i<c.ay.ar.length) (hds:ds.length<=i):
 (dW (stP c f i a ds)=some (.done (.done (fF,18)))/\cZ (stR c f i a ds)=some (.done (fF,18)))\/
 ∃k' a' ds',dW (stP c f i a ds)=some (.next (stP c f (i+1) a' ds'))/\cZ (stR c f i a ds)=some (.next (stR c f (i+1) a' ds'))/\P2 c f (i+1) k' a' ds'/\ds'.length<=i+1:=by
 have bd:=ok.bd;have e1:decide ((i:Int)<(c.ay.ar.length:Int))=true:=aJ (by omega)
 have sc:=aU (show i<1000000000 by omega)
 have cg:=aD c.ay.ar i hi;have hb:=kn i hi;have wn:=A4 fok (x:=(c.ay.ar[i]!).2) (t:=(c.au.1,c.au.2)) (ok.crt.cv i hi) ok.nowv ok.now64;rw [if_pos hb] at wn;have wr:=A5 fok (x:=(c.ay.ar[i]!).2) (t:=(c.au.1,c.au.2)) ok.now64 hb;have pd:=SX ok.due_up (by omega) (c.ay.ar[i]!).1
 have da:=YY c (c.ay.ar[i]!).1 (by omega)
 have dr:=xU hi;have tk:=fR hi;have old:=inv.old;rw [dr] at old;have aeta:aO.mk (bC.mk a.ai.ac a.ai.ae a.ai.af) a.aj a.am=a:=rfl
 have ceta:(aQ.mk (c.au.1,c.au.2) (Field.mk c.ax.aa) (bO.mk c.ay.aq c.ay.ar) (aO.mk (bC.mk c.az.ai.ac c.az.ai.ae c.az.ai.af) c.az.aj c.az.am) c.ba)=c:=rfl;have other: ∀x∈c.ay.ar.take i,x.1≠(c.ay.ar[i]!).1:=fun x hx=>JZ ok hx hi
 have other': ∀x∈c.ay.ar.drop (i+1),x.1≠(c.ay.ar[i]!).1:=fun x hx=>J0 ok hx hi
 cases hwas:(bL c.ax.aa (c.ay.ar[i]!).2 c.au).2 with
 |true=>
  obtain ⟨d,ds',hd1,hd2,hd3,hd4⟩:=(aW.cons_true hwas).1 old;have hk:k<c.ba.length:=by
   refine bv fun h=>?_
   rw [List.drop_eq_nil_of_le (by omega)] at hd1
   cases hd1
  have dk:=xU hk;rw [dk] at hd1;injection hd1 with hd5 hd6;subst hd5 hd6;obtain ⟨w,hw,hev⟩:=aY.1 hd3;have hh:(a.aj[w]!).2.2.2=(c.ba[k]!).2:=by rw [hev]
  have hnum:Ev.num a.aj[w]! =(c.ay.ar[i]!).1:=by rw [hev]
  have before: ∀j,j<k->(c.ba[j]!).1≠(c.ay.ar[i]!).1:=fun j hj he=>by
   have:=xN.1 ok.due_up j k hj hk
   omega
  have pl:=pd.1 k hk hd2;have dq:=da.1 k hk hd2 before;have gk:=aD c.ba k hk;have k0:decide ((0:Int)<=(k:Int))=true:=aJ (by omega)
  have ap:bN ds [c.ba[k]!]=some (ds++[c.ba[k]!]):=cI (by simp;omega)
  cases his:(bL f (c.ay.ar[i]!).2 c.au).2 with
  |true=>
   right;have tt:cS (bL f (c.ay.ar[i]!).2 c.au).1/\tH (bL f (c.ay.ar[i]!).2 c.au).1:=PB (fT fok hb.2).1 (fT fok hb.1).1 ok.now64 ok.nowv his;obtain ⟨t1,t2⟩:=tt;have re:=MP inv.ok inv.ok.fit (t:=(bL f (c.ay.ar[i]!).2 c.au).1) hw hh t1 t2;have rr:=LD inv.ok (t:=(bL f (c.ay.ar[i]!).2 c.au).1) hw hh t1 t2
   have rok:=aFR inv.ok hw t1 t2;have rmem:=aDy inv.ok hw t1;have rlen:=LC inv.ok hw t1;have stay: ∀(cs:List wU),(∀x∈cs,x.1≠(c.ay.ar[i]!).1)-> ∀x∈cs,∀e:Ev,e.num=x.1->e∈a.aj->e∈(lR a w (bL f (c.ay.ar[i]!).2 c.au).1).aj:=by
    intro cs hcs x hx e he hm;refine (rmem e).2 (.inr ⟨hm,fun h=>hcs x hx ?_⟩)
    rw [<- he,h,hnum]
   refine ⟨k+1,lR a w (bL f (c.ay.ar[i]!).2 c.au).1,ds++[c.ba[k]!],?_,?_,⟨rok,by rw [rlen.2];exact inv.w2,?_,?_,by omega,?_⟩,by simp;omega⟩
   · unfold dW stP
     simp only [e1,cond_true,cg,aB,wn,pl,his,gk,aeta,re,ap,show ((0:Int) !=0)=false from rfl,cond_false,sc]
   · unfold cZ stR
     simp only [aF,e1,cond_true,cg,aB,ceta,dq,wr,his,k0,gk,aeta,rr,ap,bn,cond_false,sc]
   · rw [tk]
     exact ((inv.new.mono (stay _ other)).snoc (x:=c.ay.ar[i]!)).2 _ his hd2 ((rmem _).2 (.inl (by
      show _=((bL f (c.ay.ar[i]!).2 c.au).1.1,(bL f (c.ay.ar[i]!).2 c.au).1.2,(a.aj[w]!).2.2);rw [hev])))
   · exact hd4.mono (stay _ other')
   rw [rlen.1,inv.cnt,bq]
   simp only [cj,cy];omega
  |false=>
   right;have rv:=BW inv.ok hw inv.ok.fit hh;have rr:=BX inv.ok hw hh;have rok:=LE inv.ok hw;have rmem:=PU inv.ok hw;have rlen:=aUg inv.ok hw;have stay: ∀(cs:List wU),(∀x∈cs,x.1≠(c.ay.ar[i]!).1)-> ∀x∈cs,∀e:Ev,e.num=x.1->e∈a.aj->e∈(eZ a w).aj:=by
    intro cs hcs x hx e he hm;refine (rmem e).2 ⟨hm,fun h=>hcs x hx ?_⟩
    rw [<- he,h,hnum]
   refine ⟨k+1,eZ a w,ds,?_,?_,⟨rok,by rw [rlen.2];exact inv.w2,?_,hd4.mono (stay _ other'),by omega,?_⟩,by omega⟩
   · unfold dW stP
     simp only [e1,cond_true,cg,aB,wn,pl,his,gk,aeta,rv,show ((0:Int) !=0)=false from rfl,cond_false,sc]
   · unfold cZ stR
     simp only [aF,e1,cond_true,cg,aB,ceta,dq,wr,his,k0,gk,aeta,rr,bu,cond_false,sc]
   · rw [tk]
     exact ((inv.new.mono (stay _ other)).snoc (x:=c.ay.ar[i]!)).1 his
   have:=inv.cnt
   rw [rlen.1];omega
 |false=>
  have fol:=(aW.cons_false hwas).1 old;have no: ∀j,j<c.ba.length->(c.ba[j]!).1≠(c.ay.ar[i]!).1:=by
   intro j hj he;obtain ⟨x,hx,h1,h2,_⟩:=ok.fol.ba _ (bH hj)
   have:=ok.crt_up.inj hx (bH hi) (by rw [<- h1,he])
   rw [this,hwas] at h2;cases h2
  obtain ⟨m,pl⟩:=pd.2 no;have dq:=da.2 no;have k0:decide ((0:Int)<= -1)=false:=dec_f (by omega)
  cases his:(bL f (c.ay.ar[i]!).2 c.au).2 with
  |true=>
   have tt:cS (bL f (c.ay.ar[i]!).2 c.au).1/\tH (bL f (c.ay.ar[i]!).2 c.au).1:=PB (fT fok hb.2).1 (fT fok hb.1).1 ok.now64 ok.nowv his;obtain ⟨t1,t2⟩:=tt;have n0:=(ok.crt.nr i hi).1;have n1:(c.ay.ar[i]!).1<=1000000:=by have:=(ok.crt.nr i hi).2;have:=ok.crt.n1;omega
   have fresh:=aDz ok inv hi hwas
   by_cases op:DW a.ai
   · right
     have pu:=BT inv.ok op inv.ok.fit (t:=(bL f (c.ay.ar[i]!).2 c.au).1) (n:=(c.ay.ar[i]!).1) t1 t2 n0 n1 fresh;have rp:=DX inv.ok op (t:=(bL f (c.ay.ar[i]!).2 c.au).1) (n:=(c.ay.ar[i]!).1) t1 t2 n0 n1;have pok:=aCp inv.ok op (t:=(bL f (c.ay.ar[i]!).2 c.au).1) (n:=(c.ay.ar[i]!).1) t1 t2 n0 n1 fresh
     have pmem:=YO inv.ok op (t:=(bL f (c.ay.ar[i]!).2 c.au).1) (n:=(c.ay.ar[i]!).1) t1;have plen:=JU inv.ok op (t:=(bL f (c.ay.ar[i]!).2 c.au).1) (n:=(c.ay.ar[i]!).1) t1;have ap: ∀h:Int×Int,bN ds [((c.ay.ar[i]!).1,h)]=some (ds++[((c.ay.ar[i]!).1,h)]):=fun h=>cI (by simp;omega)
     have opn:=vF inv.ok.so;rw [aJ op] at opn;refine ⟨k,nE a (bL f (c.ay.ar[i]!).2 c.au).1 (c.ay.ar[i]!).1,ds++[((c.ay.ar[i]!).1,nD a.ai)],?_,?_,⟨pok,by rw [aNz inv.ok pok];exact inv.w2,?_,?_,inv.kl,?_⟩,by simp;omega⟩
     · unfold dW stP
       simp only [e1,cond_true,cg,aB,wn,pl,his,aeta,pu,ap,show ((0:Int) !=0)=false from rfl,cond_false,sc]
     · unfold cZ stR
       simp only [aF,e1,cond_true,cg,aB,ceta,dq,wr,his,k0,aeta,rp,ap,bn,cond_false,sc,opn]
     · rw [tk]
       exact ((inv.new.mono fun x hx e he hm=>(pmem e).2 (.inr hm)).snoc (x:=c.ay.ar[i]!)).2 _ his rfl ((pmem _).2 (.inl rfl))
     · exact fol.mono fun x hx e he hm=>(pmem e).2 (.inr hm)
     have:=inv.cnt
     rw [plen,bq];simp only [cj,cy];omega
   left
   have pu:=BU inv.ok op inv.ok.fit (t:=(bL f (c.ay.ar[i]!).2 c.au).1) (n:=(c.ay.ar[i]!).1) t1 t2 n0 n1 fresh;have ap: ∀h:Int×Int,bN ds [((c.ay.ar[i]!).1,h)]=some (ds++[((c.ay.ar[i]!).1,h)]):=fun h=>cI (by simp;omega)
   have opn:=vF inv.ok.so;rw [dec_f op] at opn;constructor
   · unfold dW stP
     simp only [e1,cond_true,cg,aB,wn,pl,his,aeta,pu,ap,show ((18:Int) !=0)=true from rfl,cond_false]
   unfold cZ stR
   simp only [aF,e1,cond_true,cg,aB,ceta,dq,wr,his,k0,aeta,bn,bu,cond_false,opn]
  |false=>
   right;refine ⟨k,a,ds,?_,?_,⟨inv.ok,inv.w2,?_,fol,inv.kl,inv.cnt⟩,by omega⟩
   · unfold dW stP
     simp only [e1,cond_true,cg,aB,wn,pl,his,show ((0:Int) !=0)=false from rfl,cond_false,sc]
   · unfold cZ stR
     simp only [aF,e1,cond_true,cg,aB,ceta,dq,wr,his,k0,bu,cond_false,sc]
   rw [tk]
   exact (inv.new.snoc (x:=c.ay.ar[i]!)).1 his
theorem aWT:
 (rC c ⟨f⟩=some (fF,18)/\nR c ⟨f⟩=some (fF,18))\/
 ∃c':aQ,rC c ⟨f⟩=some (c',0)/\nR c ⟨f⟩=some (c',0)/\bG c'/\c'.ax.aa=f/\c'.au=c.au/\c'.ay=c.ay:=by
 have bd:=ok.bd;have f64:=fok.1;have run: ∀(d i k:Nat) (a:aO) (ds:List wU),c.ay.ar.length-i<=d->i<=c.ay.ar.length->P2 c f i k a ds->ds.length<=i->
  (aH dW (stP c f i a ds)=some (.done (fF,18))/\aH cZ (stR c f i a ds)=some (fF,18))\/
  ∃c':aQ,aH dW (stP c f i a ds)=some (.done (c',0))/\aH cZ (stR c f i a ds)=some (c',0)/\bG c'/\c'.ax.aa=f/\c'.au=c.au/\c'.ay=c.ay:=by
  have fin: ∀(k:Nat) (a:aO) (ds:List wU),P2 c f c.ay.ar.length k a ds-> ∃c':aQ,aH dW (stP c f c.ay.ar.length a ds)=some (.done (c',0))/\aH cZ (stR c f c.ay.ar.length a ds)=some (c',0)/\bG c'/\c'.ax.aa=f/\c'.au=c.au/\c'.ay=c.ay:=by
   intro k a ds inv;have e1:decide ((c.ay.ar.length:Int)<(c.ay.ar.length:Int))=false:=dec_f (by omega)
   have hk:c.ba.length-k=0:=by
    have:=inv.old
    rw [c8] at this
    have:c.ba.drop k=[]:=this
    rw [List.drop_eq_nil_iff] at this;omega
   have new:=inv.new;rw [List.take_length] at new;refine ⟨⟨c.au,⟨f⟩,c.ay,a,ds⟩,aL ?_,aL ?_,⟨ok.nowv,ok.now64,fok,ok.crt,inv.ok,inv.w2,?_,kn,new⟩,rfl,rfl,rfl⟩
   · unfold dW stP
     simp only [e1,cond_false]
   · unfold cZ stR
     simp only [aF,e1,cond_false]
   have:=inv.cnt
   show a.aj.length=ds.length;omega
  intro d
  induction d with
  |zero=>
   intro i k a ds hd hi inv hds
   have:i=c.ay.ar.length:=by omega
   subst this;exact .inr (fin k a ds inv)
  |succ d ih=>
   intro i k a ds hd hi inv hds
   by_cases he:i=c.ay.ar.length
   · subst he;exact .inr (fin k a ds inv)
   rcases aFX ok fok kn inv (by omega) hds with ⟨h1,h2⟩|⟨k',a',ds',h1,h2,h3,h4⟩
   · exact .inl ⟨aL h1,aL h2⟩
   rw [aX h1,aX h2]
   exact ih (i+1) k' a' ds' (by omega) (by omega) h3 h4
 have start:=run c.ay.ar.length 0 0 c.az [] (by omega) (by omega) ⟨ok.agd,ok.w200,rfl,by rw [c6,c6];exact ok.fol,by omega,by have:=ok.hd;simp;omega⟩ (by simp)
 have hc:iG c=some 0:=by rw [oY ok.fit,if_pos ok]
 have hf:dR ⟨f⟩=some 0:=by rw [gS];exact congrArg some (fZ.2 fok)
 have tw:=nV ok;have tw':oO (aQ.mk (c.au.1,c.au.2) (Field.mk c.ax.aa) (bO.mk c.ay.aq c.ay.ar) (aO.mk (bC.mk c.az.ai.ac c.az.ai.ae c.az.ai.af) c.az.aj c.az.am) c.ba)=some c:=tw
 have first:aH lX (c.ay.ar,(c.ay.ar.length:Int),0,c.au.1,c.au.2,c.ax.aa,c.ay.aq,c.ay.ar,c.az.ai.ac,c.az.ai.ae,c.az.ai.af,c.az.aj,c.az.am,c.ba,f,0,0,0)=
  aH lX (c.ay.ar,(c.ay.ar.length:Int),(c.ay.ar.length:Int),c.au.1,c.au.2,c.ax.aa,c.ay.aq,c.ay.ar,c.az.ai.ac,c.az.ai.ae,c.az.ai.af,c.az.aj,c.az.am,c.ba,f,0,0,0):=by
  refine cA (body:=lX) (fun i=>(c.ay.ar,(c.ay.ar.length:Int),(i:Int),c.au.1,c.au.2,c.ax.aa,c.ay.aq,c.ay.ar,c.az.ai.ac,c.az.ai.ae,c.az.ai.af,c.az.aj,c.az.am,c.ba,f,0,0,0)) c.ay.ar.length (fun i hi=>?_)
  have e1:decide ((i:Int)<(c.ay.ar.length:Int))=true:=aJ (by omega)
  unfold lX;simp only [e1,cond_true,aD c.ay.ar i hi,aB,oX fok,dec_f (VB fok (kn i hi).1),dec_f (VB fok (kn i hi).2),cond_false,aU (show i<1000000000 by omega)]
 have second: ∀r,aH dW (stP c f 0 c.az [])=some (.done r)->rC c ⟨f⟩=some r:=by
  intro r hr;unfold rC;simp only [hc,aB,show ((0:Int) !=0)=false from rfl,cond_false,hf,aF];rw [first]
  refine aL ?_;unfold lX;have e1:decide ((c.ay.ar.length:Int)<(c.ay.ar.length:Int))=false:=dec_f (by omega)
  simp only [aF,e1,cond_false,tw',aB,aT (show f.length<=1048576 by omega)]
  exact hr
 have third: ∀r,aH cZ (stR c f 0 c.az [])=some r->nR c ⟨f⟩=some r:=by
  intro r hr;unfold nR mW;simp only [lH ok,aB,aT (show f.length<=1048576 by omega)]
  exact hr
 rcases start with ⟨h1,h2⟩|⟨c',h1,h2,h3⟩
 · exact .inl ⟨second _ h1,third _ h2⟩
 exact .inr ⟨c',second _ h1,third _ h2,h3⟩
end
theorem pW (l:List (Int×Int)) (x:Int×Int) (hl:l.length<=1000000):eT l x=some (decide (x∈l)):=by
 unfold eT sD;have key:=lA (body:=kZ) (fun i=>(l,(l.length:Int),(i:Int),x)) l.length (fun i=>l[i]! =x) (fun i=>(i:Int)) (e:= -1) (fun i hi=>by
  have e1:decide ((i:Int)<(l.length:Int))=true:=aJ (by omega)
  unfold kZ;simp only [e1,cond_true,aD l i hi,aB,aU (show i<1000000000 by omega)]
  generalize l[i]! =y;constructor
  · intro h;rw [eY (congrArg dy h.symm),eY (congrArg Prod.snd h.symm)];rfl
  · intro h
    by_cases h1:x.1=y.1
    · rw [eY h1,eO (fun h2=>h (dp h1.symm h2.symm))];rfl
    rw [eO h1];rfl) (by
  unfold kZ
  have:decide ((l.length:Int)<(l.length:Int))=false:=dec_f (by omega)
  simp only [this,cond_false])
 rw [aF]
 by_cases hx:x∈l
 · obtain ⟨i,hi,he⟩:=aY.1 hx
   obtain ⟨k,h1,h2,h3⟩:=G1 (c:=fun i=>l[i]! =x) ⟨i,hi,he⟩
   have:=key.1 k h1 h2 h3
   rw [show ((0:Nat):Int)=0 from rfl] at this;rw [this,aJ hx];simp only [aB,aJ (show (0:Int)<=(k:Int) by omega)]
 have:=key.2 fun i hi he=>hx (aY.2 ⟨i,hi,he⟩)
 rw [show ((0:Nat):Int)=0 from rfl] at this;rw [this,dec_f hx];rfl
theorem ME (l:List (Int×Int)) (x:Int×Int) (hl:l.length<=1000000):JN l x=some (decide (x∈l)):=by
 unfold JN;have key:=dO (body:=AD) (fun i=>(l,(i:Int),x)) l.length (fun i=>l[i]! =x) (r:=true) (e:=false) (fun i hi=>by
  have e1:decide ((i:Int)<(l.length:Int))=true:=aJ (by omega)
  unfold AD;simp only [aF,e1,cond_true,aD l i hi,aB,aU (show i<1000000000 by omega)]
  generalize l[i]! =y;constructor
  · intro h;rw [eY (congrArg dy h),eY (congrArg Prod.snd h)];rfl
  · intro h
    by_cases h1:y.1=x.1
    · rw [eY h1,eO (fun h2=>h (dp h1 h2))];rfl
    rw [eO h1];rfl) (by
  unfold AD
  have:decide ((l.length:Int)<(l.length:Int))=false:=dec_f (by omega)
  simp only [aF,this,cond_false])
 by_cases hx:x∈l
 · rw [aJ hx];exact key.1 (aY.1 hx)
 rw [dec_f hx];exact key.2 fun i hi he=>hx (aY.2 ⟨i,hi,he⟩)
theorem aFY (x y:wU):((x.1==y.1)&&((x.2.1==y.2.1)&&(x.2.2==y.2.2)))=decide (x=y):=by
 rw [Bool.eq_iff_iff,decide_eq_true_iff];simp only [Bool.and_eq_true,beq_iff_eq];constructor
 · rintro ⟨h1,h2,h3⟩;exact dp h1 (dp h2 h3)
 rintro rfl;exact ⟨rfl,rfl,rfl⟩
theorem MF (a b:List wU) (hl:a.length<=1000000):yS ⟨a⟩ ⟨b⟩=some (decide (a=b)):=by
 unfold yS;simp only [aF]
 by_cases h:a.length=b.length
 case neg=>rw [cN (by omega),dec_f (fun k=>h (by rw [k]))];rfl
 rw [bF (by omega)]
 simp only [cond_false];have key:=dO (body:=vA) (fun i=>((i:Int),a,b)) a.length (fun i=> ¬a[i]! =b[i]!) (r:=false) (e:=true) (fun i hi=>by
  have e1:decide ((i:Int)<(a.length:Int))=true:=aJ (by omega)
  unfold vA;simp only [aF,e1,cond_true,aD a i hi,aD b i (by omega),aB,aU (show i<1000000000 by omega),aFY]
  constructor
  · intro h;rw [dec_f h];rfl
  · intro h;rw [aJ (cf.1 h)];rfl) (by
  unfold vA
  have:decide ((a.length:Int)<(a.length:Int))=false:=dec_f (by omega)
  simp only [aF,this,cond_false])
 by_cases he:a=b
 · rw [aJ he]
   exact key.2 fun i hi=>cf.2 (by rw [he])
 rw [dec_f he]
 refine key.1 (bv fun hx=>he (wH h fun i hi=>?_))
 exact bv fun hn=>hx ⟨i,hi,hn⟩
theorem VC (a b:List wU) (hl:a.length<=1000000):nA a b=some (decide (a=b)):=by
 unfold nA;simp only [aF]
 by_cases h:a.length=b.length
 case neg=>rw [cN (by omega),dec_f (fun k=>h (by rw [k]))];rfl
 rw [bF (by omega)]
 simp only [cond_false];have key:=dO (body:=kK) (fun i=>(a,b,(a.length:Int),(i:Int))) a.length (fun i=> ¬a[i]! =b[i]!) (r:=false) (e:=true) (fun i hi=>by
  have e1:decide ((i:Int)<(a.length:Int))=true:=aJ (by omega)
  unfold kK;simp only [e1,cond_true,aD a i hi,aD b i (by omega),aB,aU (show i<1000000000 by omega),aFY]
  constructor
  · intro h;rw [dec_f h];rfl
  · intro h;rw [aJ (cf.1 h)];rfl) (by
  unfold kK
  have:decide ((a.length:Int)<(a.length:Int))=false:=dec_f (by omega)
  simp only [this,cond_false])
 by_cases he:a=b
 · rw [aJ he]
   exact key.2 fun i hi=>cf.2 (by rw [he])
 rw [dec_f he]
 refine key.1 (bv fun hx=>he (wH h fun i hi=>?_))
 exact bv fun hn=>hx ⟨i,hi,hn⟩
theorem aDC {cs:List wU} {m:Nat} {x:wU} (hx:x∈cs) (hne:x.1≠(cs[m]!).1):x∈cs.eraseIdx m:=by
 obtain ⟨j,hj,rfl⟩:=aY.1 hx;have hjm:j≠m:=fun h=>hne (by rw [h])
 rw [yW,ck]
 by_cases h:j<m
 · exact .inl (cD.2 ⟨j,h,hj,rfl⟩)
 right
 rw [aY];refine ⟨j- (m+1),by rw [cd];omega,?_⟩
 rw [nU]
 congr 1;omega
def kP (c0:aQ) (f:List Pt) (es:List (Int×Int)) (i:Nat) (c:aQ):=
 (es,c0.ay.ar,(c0.ay.ar.length:Int),(i:Int),c.au.1,c.au.2,c.ax.aa,c.ay.aq,c.ay.ar,c.az.ai.ac,c.az.ai.ae,c.az.ai.af,c.az.aj,c.az.am,c.ba,f,(0:Int),(0:Int),(0:Int))
def kR (c0:aQ) (f:List Pt) (es:List (Int×Int)) (i:Nat) (c:aQ):=
 (es,(i:Int),c0.au.1,c0.au.2,c0.ax.aa,c0.ay.aq,c0.ay.ar,c0.az.ai.ac,c0.az.ai.ae,c0.az.ai.af,c0.az.aj,c0.az.am,c0.ba,f,(0:Int),(0:Int),(0:Int),c.au.1,c.au.2,c.ax.aa,c.ay.aq,c.ay.ar,c.az.ai.ac,c.az.ai.ae,c.az.ai.af,c.az.aj,c.az.am,c.ba)
def eP (es:List (Int×Int)) (i:Nat) (c:aQ):=
 (es,(es.length:Int),(i:Int),c.au.1,c.au.2,c.ax.aa,c.ay.aq,c.ay.ar,c.az.ai.ac,c.az.ai.ae,c.az.ai.af,c.az.aj,c.az.am,c.ba,(0:Int),(0:Int),(0:Int))
def eR (es:List (Int×Int)) (i:Nat) (c:aQ):=
 (es,(i:Int),(0:Int),(0:Int),(0:Int),c.au.1,c.au.2,c.ax.aa,c.ay.aq,c.ay.ar,c.az.ai.ac,c.az.ai.ae,c.az.ai.af,c.az.aj,c.az.am,c.ba)
def J1 (c:aQ):Int:=c.ay.aq- (c.ay.ar.length:Int)
structure P3 (c:aQ) (f:List Pt) (es:List (Int×Int)) (r:aQ):Prop where
 has: ∀e∈es,A3 r.ay.ar e
 sub: ∀x∈r.ay.ar,x.2∈es
 ok:bG r
 fld:r.ax.aa=f
 au:r.au=c.au
 room:J1 c<=J1 r
def SY (c:aQ) (k:Nat):Prop:=c.ay.ar.length<=k/\c.ay.aq<=k/\ ∀j,j<c.az.ai.ac.length->c.az.ai.ac[j]!<=k
theorem aW.len {l:List Pt} {t:Int×Int} {H:List Ev}: ∀{cs ds:List wU},aW l t H cs ds->ds.length<=cs.length
 | [],ds,h=>by rw [show ds=[] from h];exact bw _
 |x::cs,ds,h=>by
  cases hy:(bL l x.2 t).2 with
  |true=>
   obtain ⟨d,ds',rfl,_,_,h4⟩:=h.1 hy;exact Nat.succ_le_succ h4.len
  |false=>exact Nat.le_succ_of_le (h.2 hy).len
theorem SY.not_full {c:aQ} (ok:bG c) {k:Nat} (h:SY c k) (hk:k<=199): ¬(JX c.ay\/ ¬DW c.az.ai):=by
 obtain ⟨h1,h2,h3⟩:=h;have fl:=ok.fol.len;have hd:=ok.hd;have hl:=ok.agd.hl;have wl:=ok.agd.wl;have w2:=ok.w200;rintro (h|h)
 · rcases h with h|h<;>omega
 refine h ⟨by omega,?_⟩
 have:=h3 _ (GA ok.agd.so (by omega)).1
 omega
theorem SY.more {c c':aQ} {k:Nat} (h:SY c k) {x:Int×Int} (hc:c'.ay=sY c.ay x) (hs:c'.az.ai=c.az.ai\/c'.az.ai=iJ c.az.ai):SY c' (k+1):=by
 obtain ⟨h1,h2,h3⟩:=h;refine ⟨?_,?_,fun j hj=>?_⟩
 · rw [hc]
   show (c.ay.ar++[(c.ay.aq,x)]).length<=_;rw [bq,cu];omega
 · rw [hc]
   show c.ay.aq+1<=_;omega
 rcases hs with e|e
 · rw [e] at hj ⊢
   have:=h3 j hj;omega
 rw [e] at hj ⊢
 change j<(c.az.ai.ac.set _ _).length at hj;rw [ce] at hj;show (c.az.ai.ac.set (dI c.az.ai) (c.az.ai.ac[dI c.az.ai]!+1))[j]!<=_;rw [aZ];split
 · rename_i h;have:=h3 _ h.2;omega
 have:=h3 j hj;omega
structure J2 (f:List Pt) (es:List (Int×Int)):Prop where
 len:es.length<=1000000
 cv: ∀x∈es,gB x
 kn: ∀x∈es,lG f x
theorem aFZ {c0:aQ} (ok0:bG c0) {f:List Pt} {es:List (Int×Int)} (eok:J2 f es):
 ∀(d i:Nat) (c:aQ),c0.ay.ar.length-i<=d->i<=c0.ay.ar.length->bG c->(∀x∈c0.ay.ar.drop i,x∈c.ay.ar)->(∀x∈c.ay.ar,x∈c0.ay.ar.drop i\/x.2∈es)->
  ∃c':aQ,aH eU (kP c0 f es i c)=aH eU (kP c0 f es c0.ay.ar.length c')/\aH dY (kR c0 f es i c)=aH dY (kR c0 f es c0.ay.ar.length c')/\bG c'/\(∀x∈c'.ay.ar,x.2∈es)/\c'.ax=c.ax/\c'.au=c.au/\J1 c<=J1 c':=by
 have bd:=ok0.bd;intro d
 induction d with
 |zero=>
  intro i c hd hi ok h1 h2
  have:i=c0.ay.ar.length:=by omega
  subst this;refine ⟨c,rfl,rfl,ok,fun x hx=>?_,rfl,rfl,db _⟩
  rcases h2 x hx with h|h
  · rw [c8] at h;cases h
  exact h
 |succ d ih=>
  intro i c hd hi ok h1 h2
  by_cases he:i=c0.ay.ar.length
  · subst he
    refine ⟨c,rfl,rfl,ok,fun x hx=>?_,rfl,rfl,db _⟩
    rcases h2 x hx with h|h
    · rw [c8] at h;cases h
    exact h
  have hi':i<c0.ay.ar.length:=by omega
  have e1:decide ((i:Int)<(c0.ay.ar.length:Int))=true:=aJ (by omega)
  have sc:=aU (show i<1000000000 by omega)
  have cg:=aD c0.ay.ar i hi';have dr:=xU hi';have ceta:(aQ.mk (c.au.1,c.au.2) (Field.mk c.ax.aa) (bO.mk c.ay.aq c.ay.ar) (aO.mk (bC.mk c.az.ai.ac c.az.ai.ae c.az.ai.af) c.az.aj c.az.am) c.ba)=c:=rfl
  by_cases hin:(c0.ay.ar[i]!).2∈es
  · have s1:eU (kP c0 f es i c)=some (.next (kP c0 f es (i+1) c)):=by
     unfold eU kP;simp only [e1,cond_true,cg,aB,pW _ _ eok.len,aJ hin,bn,cond_false,sc]
    have s2:dY (kR c0 f es i c)=some (.next (kR c0 f es (i+1) c)):=by
     unfold dY kR;simp only [aF,e1,cond_true,cg,aB,ME _ _ eok.len,aJ hin,bn,cond_false,sc]
    rw [aX s1,aX s2];refine ih (i+1) c (by omega) (by omega) ok (fun x hx=>h1 x (by rw [dr];exact bo _ hx)) (fun x hx=>?_)
    rcases h2 x hx with h|h
    · rw [dr] at h
      rcases dw.1 h with rfl|h
      · exact .inr hin
      exact .inl h
    exact .inr h
  have hm:=h1 (c0.ay.ar[i]!) (by rw [dr];exact cp)
  obtain ⟨m,hm1,hm2⟩:=aY.1 hm;obtain ⟨c',r1,r2,r3,r4,r5,r6⟩:=aUf ok hm1;have rt:=MQ ok hm1 r1;rw [hm2] at r2 rt;have s1:eU (kP c0 f es i c)=some (.next (kP c0 f es (i+1) c')):=by
   unfold eU kP;simp only [e1,cond_true,cg,aB,pW _ _ eok.len,dec_f hin,bu,sc,ceta,rt]
  have s2:dY (kR c0 f es i c)=some (.next (kR c0 f es (i+1) c')):=by
   unfold dY kR;simp only [aF,e1,cond_true,cg,aB,ME _ _ eok.len,dec_f hin,bu,sc,ceta,r2]
  rw [aX s1,aX s2];have cl:c'.ay.ar=c.ay.ar.eraseIdx m:=by rw [r6];rfl
  have hroom:J1 c<=J1 c':=by
   unfold J1;rw [r6];show _<=c.ay.aq- (((c.ay.ar.eraseIdx m).length:Nat):Int);rw [List.length_eraseIdx_of_lt hm1];omega
  have hs:(∀x∈c0.ay.ar.drop (i+1),x∈c'.ay.ar)/\(∀x∈c'.ay.ar,x∈c0.ay.ar.drop (i+1)\/x.2∈es):=by
   refine ⟨fun x hx=>?_,fun x hx=>?_⟩
   · rw [cl]
     refine aDC (h1 x (by rw [dr];exact bo _ hx)) ?_
     rw [hm2];exact J0 ok0 hx hi'
   rw [cl] at hx
   obtain ⟨a1,a2⟩:=DD ok.crt_up hm1 hx;rw [hm2] at a2;rcases h2 x a1 with h|h
   · rw [dr] at h
     rcases dw.1 h with rfl|h
     · exact absurd rfl a2
     exact .inl h
   exact .inr h
  obtain ⟨d',q1,q2,q3,q4,q5,q6,q7⟩:=ih (i+1) c' (by omega) (by omega) r3 hs.1 hs.2
  exact ⟨d',q1,q2,q3,q4,q5.trans r4,q6.trans r5,by omega⟩
theorem YZ {f:List Pt} (_fok:bS f) {es:List (Int×Int)} (eok:J2 f es):
 ∀(d i:Nat) (c:aQ),es.length-i<=d->i<=es.length->bG c->c.ax.aa=f->(∀x∈c.ay.ar,x.2∈es)->(∀j,j<i->A3 c.ay.ar es[j]!)->
  ∃r:aQ×Int,aH fO (eP es i c)=some (.done r)/\aH eI (eR es i c)=some (.done r)/\(r.2=0/\P3 c f es r.1\/r=(fF,18))/\(∀k,SY c k->k+(es.length-i)<=199->r.2=0):=by
 have el:=eok.len;have fin: ∀c:aQ,bG c->c.ax.aa=f->(∀x∈c.ay.ar,x.2∈es)->(∀j,j<es.length->A3 c.ay.ar es[j]!)-> ∃r:aQ×Int,aH fO (eP es es.length c)=some (.done r)/\aH eI (eR es es.length c)=some (.done r)/\(r.2=0/\P3 c f es r.1\/r=(fF,18))/\r.2=0:=by
  intro c ok hf hs hh;have e1:decide ((es.length:Int)<(es.length:Int))=false:=dec_f (by omega)
  refine ⟨(c,0),aL ?_,aL ?_,.inl ⟨rfl,fun e he=>by obtain ⟨j,hj,q⟩:=aY.1 he;rw [<- q];exact hh j hj,hs,ok,hf,rfl,db _⟩,rfl⟩
  · unfold fO eP
    simp only [e1,cond_false]
  unfold eI eR
  simp only [aF,e1,cond_false]
 intro d
 induction d with
 |zero=>
  intro i c hd hi ok hf hs hh
  have:i=es.length:=by omega
  subst this;obtain ⟨r,q1,q2,q3,q4⟩:=fin c ok hf hs hh;exact ⟨r,q1,q2,q3,fun _ _ _=>q4⟩
 |succ d ih=>
  intro i c hd hi ok hf hs hh
  by_cases he:i=es.length
  · subst he
    obtain ⟨r,q1,q2,q3,q4⟩:=fin c ok hf hs hh;exact ⟨r,q1,q2,q3,fun _ _ _=>q4⟩
  have bd:=ok.bd;have hi':i<es.length:=by omega
  have e1:decide ((i:Int)<(es.length:Int))=true:=aJ (by omega)
  have sc:=aU (show i<1000000000 by omega)
  have cg:=aD es i hi';have ceta:(aQ.mk (c.au.1,c.au.2) (Field.mk c.ax.aa) (bO.mk c.ay.aq c.ay.ar) (aO.mk (bC.mk c.az.ai.ac c.az.ai.ae c.az.ai.af) c.az.aj c.az.am) c.ba)=c:=rfl;have ceta2:bO.mk c.ay.aq c.ay.ar=c.ay:=rfl;have hc:=YS c.ay.ar es[i]! (by omega)
  have hr:=DB c.ay es[i]! (by omega)
  by_cases hin:A3 c.ay.ar es[i]!
  · have s1:fO (eP es i c)=some (.next (eP es (i+1) c)):=by
     unfold fO eP;simp only [e1,cond_true,cg,aB,LG,hc,aJ hin,sc]
    have s2:eI (eR es i c)=some (.next (eR es (i+1) c)):=by
     unfold eI eR;simp only [aF,e1,cond_true,cg,aB,ceta2,hr,aJ hin,sc]
    rw [aX s1,aX s2];obtain ⟨r,q1,q2,q3,q4⟩:=ih (i+1) c (by omega) (by omega) ok hf hs (fun j hj=>if q:j=i then by rw [q];exact hin else hh j (by omega))
    exact ⟨r,q1,q2,q3,fun k hk hl=>q4 k hk (by omega)⟩
  have hb:lG c.ax.aa es[i]!:=by rw [hf];exact eok.kn _ (bH hi')
  rcases aNy ok (eok.cv _ (bH hi')) hb hin with ⟨r1,r2,full⟩|⟨c',r1,r2,r3,r4,r5,r6,r7⟩
  · refine ⟨(fF,18),aL ?_,aL ?_,.inr rfl,fun k hk hl=>absurd full (hk.not_full ok (by omega))⟩
    · unfold fO eP
      simp only [e1,cond_true,cg,aB,LG,hc,dec_f hin,cond_false,ceta,r1,show ((18:Int) !=0)=true from rfl]
    unfold eI eR
    simp only [aF,e1,cond_true,cg,aB,ceta2,hr,dec_f hin,cond_false,ceta,r2,show ((18:Int) !=0)=true from rfl]
  have s1:fO (eP es i c)=some (.next (eP es (i+1) c')):=by
   unfold fO eP;simp only [e1,cond_true,cg,aB,LG,hc,dec_f hin,cond_false,ceta,r1,show ((0:Int) !=0)=false from rfl,sc]
  have s2:eI (eR es i c)=some (.next (eR es (i+1) c')):=by
   unfold eI eR;simp only [aF,e1,cond_true,cg,aB,ceta2,hr,dec_f hin,cond_false,ceta,r2,show ((0:Int) !=0)=false from rfl,sc]
  rw [aX s1,aX s2];obtain ⟨r,q1,q2,q3,q6⟩:=ih (i+1) c' (by omega) (by omega) r3 (by rw [r4,hf]) (fun x hx=>by
   rw [r6] at hx;rcases ck.1 (show x∈c.ay.ar++[(c.ay.aq,es[i]!)] from hx) with h|h
   · exact hs x h
   · rw [List.mem_singleton.1 h];exact bH hi') (fun j hj=>by
   rw [r6];show A3 (c.ay.ar++[(c.ay.aq,es[i]!)]) _
   by_cases q:j=i
   · rw [q];exact ⟨c.ay.ar.length,by rw [bq,cu];omega,by rw [fQ (bw _),Nat.sub_self];rfl⟩
   obtain ⟨w,w1,w2⟩:=hh j (by omega)
   exact ⟨w,by rw [bq];omega,by rw [eJ w1];exact w2⟩)
  refine ⟨r,q1,q2,q3.imp (fun ⟨q4,q5⟩=>⟨q4,q5.has,q5.sub,q5.ok,q5.fld,q5.au.trans r5,c9 ?_ q5.room⟩) id,fun k hk hl=>q6 (k+1) (hk.more r6 r7) (by omega)⟩
  unfold J1;rw [r6];show _<=(c.ay.aq+1) - (((c.ay.ar++[(c.ay.aq,es[i]!)]).length:Nat):Int);rw [bq,cu];omega
theorem aNA {c:aQ} (ok:bG c) {f:List Pt} (fok:bS f) {es:List (Int×Int)} (eok:J2 f es):
 ∃r:aQ×Int,vZ c ⟨f⟩ es=some r/\nS c ⟨f⟩ es=some r/\(r.2=0/\P3 c f es r.1\/r=(fF,18)):=by
 have f64:=fok.1;obtain ⟨c',g1,g2,g3,g4,g5,g6,g7⟩:=aFZ ok eok c.ay.ar.length 0 c (by omega) (by omega) ok (fun x hx=>by rwa [c6] at hx) (fun x hx=> .inl (by rwa [c6]))
 have bd:=g3.bd;have e1:decide ((c.ay.ar.length:Int)<(c.ay.ar.length:Int))=false:=dec_f (by omega)
 have start1:vZ c ⟨f⟩ es=aH eU (kP c f es 0 c):=rfl;have start2:nS c ⟨f⟩ es=aH dY (kR c f es 0 c):=by
  unfold nS;simp only [lH ok,aB];rfl
 rw [start1,start2,g1,g2];have eq1:=VC c'.ax.aa f (by omega)
 have eq2:=MF c'.ax.aa f (by omega)
 have ceta:(aQ.mk (c'.au.1,c'.au.2) (Field.mk c'.ax.aa) (bO.mk c'.ay.aq c'.ay.ar) (aO.mk (bC.mk c'.az.ai.ac c'.az.ai.ae c'.az.ai.af) c'.az.aj c'.az.am) c'.ba)=c':=rfl
 by_cases hf:c'.ax.aa=f
 · obtain ⟨r,i1,i2,i3,_⟩:=YZ fok eok es.length 0 c' (by omega) (by omega) g3 hf g4 (fun j hj=>absurd hj (dm j))
   refine ⟨r,aL ?_,aL ?_,i3.imp (fun ⟨q4,q5⟩=>⟨q4,q5.has,q5.sub,q5.ok,q5.fld,q5.au.trans g6,c9 g7 q5.room⟩) id⟩
   · unfold eU kP
     simp only [e1,cond_false,eq1,aJ hf,aB,bn];exact i1
   unfold dY kR
   simp only [aF,e1,cond_false,eq2,aJ hf,aB,bn];exact i2
 have kn: ∀i,i<c'.ay.ar.length->lG f (c'.ay.ar[i]!).2:=fun i hi=>eok.kn _ (g4 _ (bH hi))
 rcases aWT g3 fok kn with ⟨a1,a2⟩|⟨c2,a1,a2,a3,a4,a5,a6⟩
 · refine ⟨(fF,18),aL ?_,aL ?_,.inr rfl⟩
   · unfold eU kP
     simp only [e1,cond_false,eq1,dec_f hf,aB,bu,cond_true,ceta,a1,show ((18:Int) !=0)=true from rfl]
   unfold dY kR
   simp only [aF,e1,cond_false,eq2,dec_f hf,aB,bu,cond_true,ceta,a2,show ((18:Int) !=0)=true from rfl]
 obtain ⟨r,i1,i2,i3,_⟩:=YZ fok eok es.length 0 c2 (by omega) (by omega) a3 a4 (by rw [a6];exact g4) (fun j hj=>absurd hj (dm j))
 refine ⟨r,aL ?_,aL ?_,i3.imp (fun ⟨q4,q5⟩=>⟨q4,q5.has,q5.sub,q5.ok,q5.fld,(q5.au.trans a5).trans g6,c9 (c9 g7 (by unfold J1;rw [a6];exact db _)) q5.room⟩) id⟩
 · unfold eU kP
   simp only [e1,cond_false,eq1,dec_f hf,aB,bu,cond_true,ceta,a1,show ((0:Int) !=0)=false from rfl];exact i1
 unfold dY kR
 simp only [aF,e1,cond_false,eq2,dec_f hf,aB,bu,cond_true,ceta,a2,show ((0:Int) !=0)=false from rfl];exact i2
theorem P4 {α:Type} [Inhabited α] {l:List α}:l.Nodup↔ ∀k,k<l.length->l[k]!∉l.take k:=by
 rw [iW];constructor
 · intro h k hk hm
   obtain ⟨i,h1,h2,h3⟩:=cD.1 hm;exact h i k h1 hk h3
 intro h i j hij hj he
 exact h j hj (cD.2 ⟨i,hij,by omega,he⟩)
theorem FB {α:Type} [Inhabited α] {l:List α} {P:α->Prop}:(∀x∈l,P x)↔ ∀i,i<l.length->P l[i]!:=by
 constructor
 · intro h i hi;exact h _ (bH hi)
 intro h x hx
 obtain ⟨i,hi,rfl⟩:=aY.1 hx;exact h i hi
theorem qP {σ ρ:Type} {body:σ->Option (bQ σ ρ)} (st:Nat->σ) (n:Nat) (P:Nat->Prop) {r e:ρ} (h: ∀i,i<n->(¬P i->body (st i)=some (.done r))/\(P i->body (st i)=some (.next (st (i+1)))))
 (hend:body (st n)=some (.done e)):aH body (st 0)=some (if∀i,i<n->P i then e else r):=by
 have key:=dO (body:=body) st n (fun i=> ¬P i) (r:=r) (e:=e) (fun i hi=>⟨(h i hi).1,fun hn=>(h i hi).2 (cf.1 hn)⟩) hend
 by_cases hx: ∀i,i<n->P i
 · rw [if_pos hx];exact key.2 fun i hi=>cf.2 (hx i hi)
 rw [if_neg hx]
 obtain ⟨i,h⟩:=Classical.not_forall.1 hx;obtain ⟨hi,hx⟩:=Classical.not_imp.1 h;exact key.1 ⟨i,hi,hx⟩
theorem G8 {f:List Pt} (fok:bS f) (id:Int): ∃p e,yJ ⟨f⟩ id=some (p,e)/\(e=0↔kI f id):=by
 have h1:=fok.1;have hc:dR ⟨f⟩=some 0:=by rw [gS];exact congrArg some (fZ.2 fok)
 have bs:=vH f id (by omega) (fun i j=>gU fok.2.2)
 unfold yJ mP lC;rw [JW];simp only [hc,aB,show ((0:Int) !=0)=false from rfl,cond_false]
 by_cases h:kI f id
 · obtain ⟨k,hk,he⟩:=h
   rw [bs.1 k hk he];refine ⟨f[k]!,0,?_,fun _=>⟨k,hk,he⟩,fun _=>rfl⟩
   simp only [aB,bn,cond_false,show ((0:Int) !=0)=false from rfl,aD f k hk]
 obtain ⟨m,_,_,_,e⟩:=bs.2 (fun k hk he=>h ⟨k,hk,he⟩)
 rw [e];exact ⟨(0,0,0),6,rfl,fun h=>(by cases h),fun k=>absurd k h⟩
structure P5 (c:aQ):Prop where
 f:c.ax.aa.length<=1000000
 l:c.ay.ar.length<=1000000
 d:c.ba.length<=1000000
 h:c.az.aj.length<=1000000
 w:c.az.am.length<=1000000
 s1:c.az.ai.ac.length<=1000000
 s2:c.az.ai.ae.length<=1000000
 s3:c.az.ai.af.length<=1000000
theorem bG.short {c:aQ} (ok:bG c):P5 c:=by
 have bd:=ok.bd;have ab:=ok.agd.bd;have sl:=ok.agd.so.fl;have sn:=ok.agd.so.n2;have su:=ok.agd.so.ul;exact ⟨by omega,by omega,by omega,by omega,by omega,by omega,by omega,by omega⟩
theorem Q6:P5 fF:=⟨by decide,by decide,by decide,by decide,by decide,by decide,by decide,by decide⟩
theorem LL (l:List Int) (hl:l.length<=1000000):mD l l=some true:=by
 unfold mD;rw [bF rfl];refine (cA (body:=oA) (fun i=>(l,l,(i:Int))) l.length fun i hi=>?_).trans (aL ?_)
 · have e1:decide ((i:Int)<(l.length:Int))=true:=aJ (by omega)
   unfold oA;simp only [aF,e1,cond_true,aD l i hi,aB,aU (show i<1000000000 by omega),bF rfl,cond_false]
 unfold oA
 have:decide ((l.length:Int)<(l.length:Int))=false:=dec_f (by omega)
 simp only [aF,this,cond_false]
theorem aAV (l:List Bool) (hl:l.length<=1000000):qE l l=some true:=by
 unfold qE;rw [bF rfl];refine (cA (body:=nC) (fun i=>(l,l,(i:Int))) l.length fun i hi=>?_).trans (aL ?_)
 · have e1:decide ((i:Int)<(l.length:Int))=true:=aJ (by omega)
   unfold nC;simp only [aF,e1,cond_true,aD l i hi,aB,aU (show i<1000000000 by omega),beq_self_eq_true,bn,cond_false]
 unfold nC
 have:decide ((l.length:Int)<(l.length:Int))=false:=dec_f (by omega)
 simp only [aF,this,cond_false]
theorem aAW (c:bO) (hl:c.ar.length<=1000000):C2 c c=some true:=by
 unfold C2;rw [bF rfl,bF rfl];refine (cA (body:=vC) (fun i=>((i:Int),c.aq,c.ar,c.aq,c.ar)) c.ar.length fun i hi=>?_).trans (aL ?_)
 · have e1:decide ((i:Int)<(c.ar.length:Int))=true:=aJ (by omega)
   unfold vC;simp only [aF,e1,cond_true,aD c.ar i hi,aB,aU (show i<1000000000 by omega),beq_self_eq_true,c7,bn,cond_false]
 unfold vC
 have:decide ((c.ar.length:Int)<(c.ar.length:Int))=false:=dec_f (by omega)
 simp only [aF,this,cond_false]
theorem Y0 (a:aO) (h1:a.aj.length<=1000000) (h2:a.am.length<=1000000) (h3:a.ai.ac.length<=1000000) (h4:a.ai.ae.length<=1000000) (h5:a.ai.af.length<=1000000):C3 a a=some true:=by
 unfold C3 HZ;simp only [LL _ h3,aAV _ h4,LL _ h5,LL _ h2,aB,cond_true,bn,cond_false];rw [bF rfl];refine (cA (body:=vD) (fun i=>((i:Int),a.ai.ac,a.ai.ae,a.ai.af,a.aj,a.am,a.ai.ac,a.ai.ae,a.ai.af,a.aj,a.am)) a.aj.length fun i hi=>?_).trans (aL ?_)
 · have e1:decide ((i:Int)<(a.aj.length:Int))=true:=aJ (by omega)
   unfold vD;simp only [aF,e1,cond_true,aD a.aj i hi,aB,aU (show i<1000000000 by omega),beq_self_eq_true,c7,bn,cond_false]
 unfold vD
 have:decide ((a.aj.length:Int)<(a.aj.length:Int))=false:=dec_f (by omega)
 simp only [aF,this,cond_false]
theorem aAX {c:aQ} (sh:P5 c):C4 c c=some true:=by
 have hd:=sh.d;unfold C4;simp only [beq_self_eq_true,c7,bn,cond_false,MF c.ax.aa c.ax.aa sh.f,aAW _ sh.l,Y0 _ sh.h sh.w sh.s1 sh.s2 sh.s3,aB,aJ];rw [bF rfl]
 refine (cA (body:=vE) (fun i=>((i:Int),c.au.1,c.au.2,c.ax.aa,c.ay.aq,c.ay.ar,c.az.ai.ac,c.az.ai.ae,c.az.ai.af,c.az.aj,c.az.am,c.ba,c.au.1,c.au.2,c.ax.aa,c.ay.aq,c.ay.ar,c.az.ai.ac,c.az.ai.ae,c.az.ai.af,c.az.aj,c.az.am,c.ba)) c.ba.length fun i hi=>?_).trans (aL ?_)
 · have e1:decide ((i:Int)<(c.ba.length:Int))=true:=aJ (by omega)
   unfold vE;simp only [aF,e1,cond_true,aD c.ba i hi,aB,aU (show i<1000000000 by omega),beq_self_eq_true,c7,bn,cond_false]
 unfold vE
 have:decide ((c.ba.length:Int)<(c.ba.length:Int))=false:=dec_f (by omega)
 simp only [aF,this,cond_false]
structure aDD (c:aQ):Prop where
 au:tH c.au
 at64: ∀w,w<c.az.aj.length->tH ((c.az.aj[w]!).1,(c.az.aj[w]!).2.1)
theorem Y1 (f:Field):vU f=some true\/(vU f=some false/\f.aa.length<=70):=by
 unfold vU
 simp only [aF]
 by_cases h1:16<f.aa.length
 · rw [aJ (show (16:Int)<(f.aa.length:Int) by omega)]
   by_cases h2:f.aa.length<64
   · rw [aJ (show (f.aa.length:Int)<64 by omega)];exact .inl rfl
   rw [dec_f (show¬(f.aa.length:Int)<64 by omega)]
   by_cases h3:70<f.aa.length
   · rw [aJ (show (70:Int)<(f.aa.length:Int) by omega)];exact .inl rfl
   rw [dec_f (show¬(70:Int)<(f.aa.length:Int) by omega)];exact .inr ⟨rfl,by omega⟩
 rw [dec_f (show¬(16:Int)<(f.aa.length:Int) by omega),dec_f (show¬(70:Int)<(f.aa.length:Int) by omega)]
 exact .inr ⟨rfl,by omega⟩
theorem Y2 (c:aQ):vV c=some true\/(vV c=some false/\P5 c):=by
 unfold vV EU ET
 simp only [aF]
 by_cases h1:40<c.ay.ar.length
 · rw [aJ (show (40:Int)<(c.ay.ar.length:Int) by omega)];exact .inl rfl
 rw [dec_f (show¬(40:Int)<(c.ay.ar.length:Int) by omega)]
 by_cases h2:40<c.ba.length
 · rw [aJ (show (40:Int)<(c.ba.length:Int) by omega)];exact .inl rfl
 rw [dec_f (show¬(40:Int)<(c.ba.length:Int) by omega)]
 rcases Y1 c.ax with e|⟨e,hf⟩
 · rw [e];exact .inl rfl
 rw [e];simp only [cond_false,aB]
 by_cases a1:210<c.az.ai.ac.length
 · rw [aJ (show (210:Int)<(c.az.ai.ac.length:Int) by omega)];exact .inl rfl
 rw [dec_f (show¬(210:Int)<(c.az.ai.ac.length:Int) by omega)]
 by_cases a2:210<c.az.ai.ae.length
 · rw [aJ (show (210:Int)<(c.az.ai.ae.length:Int) by omega)];exact .inl rfl
 rw [dec_f (show¬(210:Int)<(c.az.ai.ae.length:Int) by omega)]
 by_cases a3:210<c.az.ai.af.length
 · rw [aJ (show (210:Int)<(c.az.ai.af.length:Int) by omega)];exact .inl rfl
 rw [dec_f (show¬(210:Int)<(c.az.ai.af.length:Int) by omega)]
 by_cases a4:210<c.az.aj.length
 · rw [aJ (show (210:Int)<(c.az.aj.length:Int) by omega)];exact .inl rfl
 rw [dec_f (show¬(210:Int)<(c.az.aj.length:Int) by omega)]
 by_cases a5:210<c.az.am.length
 · rw [aJ (show (210:Int)<(c.az.am.length:Int) by omega)];exact .inl rfl
 rw [dec_f (show¬(210:Int)<(c.az.am.length:Int) by omega)]
 exact .inr ⟨rfl,⟨by omega,by omega,by omega,by omega,by omega,by omega,by omega,by omega⟩⟩
theorem aAY {c:aQ} (sh:P5 c):kA c=some c:=by
 obtain ⟨h1,h2,h3,h4,h5,h6,h7,h8⟩:=sh;unfold kA mW qO mX oK;simp only [aT (show c.ax.aa.length<=1048576 by omega),aT (show c.ay.ar.length<=1048576 by omega),aT (show c.ba.length<=1048576 by omega),aT (show c.az.aj.length<=1048576 by omega),aT (show c.az.am.length<=1048576 by omega),
  aT (show c.az.ai.ac.length<=1048576 by omega),aT (show c.az.ai.ae.length<=1048576 by omega),aT (show c.az.ai.af.length<=1048576 by omega),aB]
theorem aNB (p q:Pt) (t:Int×Int):SJ p q t=(p.2.1-q.2.1)*t.2+(p.2.2-q.2.2)*t.1:=rfl
theorem MR {p q:Pt} {t:Int×Int} (hp:gV p) (hq:gV q) (ht:tH t) (hr:cS t):sC p q t=some (decide (hY p q t),if p.1=q.1 then 2 else 0)\/(p.1=q.1/\sC p q t=some (false,2)):=by
 unfold sC;rw [AW ht,if_pos ⟨hp,hq,hr⟩]
 by_cases h:p.1=q.1
 · right;simp [h]
 left
 simp only [h,if_false,aB,AG hp hq ht]
 have:decide (0<aAH p q t)=decide (hY p q t):=by simp only [O9]
 simp [this]
end Go.Proofs.YtogihpogmfjoiaaGreat
namespace Go.Proofs.YtogihpogmfjoiaaGreat
theorem yY {α:Type} [BEq α] [LawfulBEq α]: ∀{a b:List α},a.Nodup->(∀x∈a,x∈b)->b.length<=a.length->a.Perm b
 | [],b,_,_,hl=>by
  rw [List.eq_nil_of_length_eq_zero (show b.length=0 by simpa using hl)]
 |x::a,b,hd,h,hl=>by
  rw [cm] at hd;have hx:=h x cp;have ih:=yY (a:=a) (b:=b.erase x) hd.2 (fun y hy=>by
   rw [List.mem_erase_of_ne (fun e=>hd.1 (by rw [<- e];exact hy))]
   exact h y (bo _ hy)) (by
   rw [List.length_erase_of_mem hx];rw [cj] at hl
   omega)
  exact (List.Perm.cons x ih).trans (List.perm_cons_erase hx).symm
theorem DE {α β:Type} {f:α->β}: ∀{l:List α},l.Nodup->(∀x∈l,∀y∈l,f x=f y->x=y)->(l.map f).Nodup
 | [],_,_=>List.nodup_nil
 |x::l,h,hi=>by
  rw [cm] at h;rw [List.map_cons,cm];refine ⟨fun hm=>?_,DE h.2 fun y hy z hz=>hi y (bo _ hy) z (bo _ hz)⟩
  obtain ⟨y,hy,e⟩:=cz.1 hm
  have:=hi y (bo _ hy) x cp e
  rw [this] at hy;exact h.1 hy
end Go.Proofs.YtogihpogmfjoiaaGreat
namespace Go.Proofs.YtogihpogmfjoiaaGreat
open Go.Vm Classical
def LM (l:List Int) (k:Nat):List (Int×Int):=(dt k).map fun i=>(l[i+1]!,l[i / 2]!)
abbrev FC (l:List Int):List (Int×Int):=LM l (l.length-1)
theorem IG (l:List Int) (k:Nat):(LM l k).length=k:=by unfold LM;rw [dj,de]
theorem MG (l:List Int) {k i:Nat} (h:i<k):(LM l k)[i]! =(l[i+1]!,l[i / 2]!):=by
 rw [getElem!_pos _ i (by rw [IG];exact h)]
 unfold LM;rw [List.getElem_map,List.getElem_range]
theorem Y3 {l:List Int} (hd:l.Nodup):(FC l).Nodup:=by
 unfold FC LM;refine DE di fun i hi j hj h=>?_
 rw [cq] at hi hj;have h1:l[i+1]! =l[j+1]!:=congrArg dy h;have h2:=iW.1 hd;rcases bz i j with k|k|k
 · exact absurd h1 (h2 (i+1) (j+1) (by omega) (by omega))
 · exact k
 exact absurd h1.symm (h2 (j+1) (i+1) (by omega) (by omega))
theorem aF0 (l:List Int) (x:Int) (hl:l.length<=1000000):
 (∀k,k<l.length->l[k]! =x->(∀j,j<k->l[j]!≠x)->jV l x=some (k:Int))/\((∀k,k<l.length->l[k]!≠x)->jV l x=some (-1)):=by
 have k1:=lA (body:=lN) (fun i=>(l,x,(l.length:Int),(i:Int))) l.length (fun i=>l[i]! =x) (fun i=>(i:Int)) (e:= -1) (fun i hi=>by
  unfold lN;simp only [aJ (show (i:Int)<(l.length:Int) by omega),cond_true,aD l i hi,aB,aU (show i<1000000000 by omega)]
  refine ⟨fun h=>?_,fun h=>?_⟩
  · rw [eY h.symm];rfl
  · rw [eO (fun k=>h k.symm)];rfl) (by
  unfold lN;simp only [dec_f (show¬(l.length:Int)<(l.length:Int) by omega),cond_false])
 exact ⟨fun k hk h1 h2=>k1.1 k hk h1 h2,fun h=>k1.2 h⟩
theorem aNC {f:List Pt} (fok:bS f) {t:Int×Int} (r64:tH t) {x:Int×Int} (hb:lG f x):CZ x ⟨f⟩ t=some (decide (hY (iU f x.2) (iU f x.1) t)):=by
 obtain ⟨h1,h2⟩:=hb;obtain ⟨j,j1,j2,j3⟩:=DC fok h1;obtain ⟨k,k1,k2,k3⟩:=DC fok h2;unfold CZ;simp only [j2,k2,aB,aD f j j1,aD f k k1,j3,k3,PA (fT fok h2).1 (fT fok h1).1 r64]
def rL (f:List Pt):List Int:=f.map fun p=>p.1
theorem SZ {f:List Pt} (h:iI f):(rL f).Nodup:=by
 refine DE ?_ ?_
 · exact iW.2 fun i j hij hj e=>by have:=gU h hij hj;rw [e] at this;omega
 intro x hx y hy e
 obtain ⟨i,hi,rfl⟩:=aY.1 hx;obtain ⟨j,hj,rfl⟩:=aY.1 hy;rw [IC h hi hj e]
theorem M9 {f:List Pt} {id:Int}:id∈rL f↔kI f id:=by
 unfold rL kI;rw [cz];constructor
 · rintro ⟨p,hp,rfl⟩
   obtain ⟨i,hi,rfl⟩:=aY.1 hp;exact ⟨i,hi,rfl⟩
 rintro ⟨i,hi,rfl⟩
 exact ⟨f[i]!,bH hi,rfl⟩
structure yZ (k:GZ):Prop where
 clk:bG k.bg
 perm:(rL k.bg.ax.aa).Perm k.aj
 cert:(k.bg.ay.ar.map fun x=>x.2).Perm (FC k.aj)
 lead: ∀e∈FC k.aj,hY (iU k.bg.ax.aa e.2) (iU k.bg.ax.aa e.1) k.bg.au
theorem MH {c:bO} (ok:fL c):(c.ar.map fun x=>x.2).Nodup:=by
 refine DE ?_ ?_
 · exact iW.2 fun i j hij hj e=>ok.nd i j hij hj (by rw [e])
 intro x hx y hy e
 obtain ⟨i,hi,rfl⟩:=aY.1 hx;obtain ⟨j,hj,rfl⟩:=aY.1 hy;rcases bz i j with k|k|k
 · exact absurd e (ok.nd i j k hj)
 · rw [k]
 exact absurd e.symm (ok.nd j i k hi)
theorem FD {l:List wU} {x:Int×Int}:A3 l x↔x∈l.map fun y=>y.2:=by
 unfold A3;rw [cz];constructor
 · rintro ⟨i,hi,rfl⟩;exact ⟨l[i]!,bH hi,rfl⟩
 rintro ⟨y,hy,rfl⟩
 obtain ⟨i,hi,rfl⟩:=aY.1 hy;exact ⟨i,hi,rfl⟩
theorem J3 {α:Type} {p q:Prop} [Decidable p] [Decidable q] {a b:α} (h:p↔q):(if p then a else b)=if q then a else b:=by
 by_cases hp:p
 · rw [if_pos hp,if_pos (h.1 hp)]
 rw [if_neg hp,if_neg (fun k=>hp (h.2 k))]
theorem aND {c:aQ} (ok:bG c) (es:List (Int×Int)) (kn: ∀x∈es,lG c.ax.aa x):
 C0 c es=some (decide (c.ay.ar.length=es.length/\ ∀i,i<es.length->A3 c.ay.ar es[i]!/\hY (iU c.ax.aa (es[i]!).2) (iU c.ax.aa (es[i]!).1) c.au)):=by
 have bd:=ok.bd;unfold C0;simp only [aF]
 by_cases h0:c.ay.ar.length=es.length
 case neg=>rw [cN (by omega),cond_true,dec_f (fun h=>h0 h.1)]
 rw [bF (by omega),cond_false]
 have key:=qP (body:=uX) (fun i=>(es,(i:Int),c.au.1,c.au.2,c.ax.aa,c.ay.aq,c.ay.ar,c.az.ai.ac,c.az.ai.ae,c.az.ai.af,c.az.aj,c.az.am,c.ba)) es.length
  (fun i=>A3 c.ay.ar es[i]!/\hY (iU c.ax.aa (es[i]!).2) (iU c.ax.aa (es[i]!).1) c.au) (r:=false) (e:=true) (fun i hi=>by
  have ceta2:bO.mk c.ay.aq c.ay.ar=c.ay:=rfl;unfold uX;simp only [aF,aJ (show (i:Int)<(es.length:Int) by omega),cond_true,aD es i hi,aB,ceta2,DB c.ay es[i]! (by omega),aNC ok.fld (t:=(c.au.1,c.au.2)) ok.now64 (kn _ (bH hi)),aU (show i<1000000000 by omega)]
  by_cases h1:A3 c.ay.ar es[i]!
  · rw [aJ h1]
    by_cases h2:hY (iU c.ax.aa (es[i]!).2) (iU c.ax.aa (es[i]!).1) c.au
    · rw [show decide (hY (iU c.ax.aa (es[i]!).2) (iU c.ax.aa (es[i]!).1) (c.au.1,c.au.2))=true from aJ h2]
      exact ⟨fun h=>absurd ⟨h1,h2⟩ h,fun _=>rfl⟩
    rw [show decide (hY (iU c.ax.aa (es[i]!).2) (iU c.ax.aa (es[i]!).1) (c.au.1,c.au.2))=false from dec_f h2]
    exact ⟨fun _=>rfl,fun h=>absurd h.2 h2⟩
  · rw [dec_f h1]
    exact ⟨fun _=>rfl,fun h=>absurd h.1 h1⟩) (by
  unfold uX;simp only [aF,dec_f (show¬(es.length:Int)<(es.length:Int) by omega),cond_false])
 refine (show _=_ from key).trans ?_
 by_cases h2: ∀i,i<es.length->A3 c.ay.ar es[i]!/\hY (iU c.ax.aa (es[i]!).2) (iU c.ax.aa (es[i]!).1) c.au
 · rw [if_pos h2,aJ ⟨h0,h2⟩]
 rw [if_neg h2,dec_f (fun h=>h2 h.2)]
def bJ (p w:List Int) (i:Nat):Int:=if i<w.length then w[i]! else p[i-w.length]!
def mG (i j:Nat):Prop:= ∃d,(j+1) / 2^d=i+1
theorem mG.refl (i:Nat):mG i i:=⟨0,by simp⟩
theorem rM {i k j:Nat} (hk:k=2*i+1\/k=2*i+2) (h:mG k j):mG i j:=by
 obtain ⟨d,hd⟩:=h;refine ⟨d+1,?_⟩;rw [df,<- ci,hd];omega
theorem NA {a b c d:Nat} (h:a<=b) (hc:(c+1) / 2^a=d):(c+1) / 2^b=d / 2^(b-a):=by
 have:2^b=2^a*2^(b-a):=by rw [<- Nat.pow_add];congr 1;omega
 rw [this,<- ci,hc]
theorem Y4 {x e:Nat} (he:0<e):x / 2^e<=x / 2:=by
 obtain ⟨k,rfl⟩: ∃k,e=k+1:=⟨e-1,by omega⟩
 rw [show 2^(k+1)=2*2^k by rw [df];omega,<- ci]
 exact Nat.div_le_self _ _
theorem wJ {i j:Nat} (h1:mG (2*i+1) j) (h2:mG (2*i+2) j):False:=by
 obtain ⟨a,ha⟩:=h1;obtain ⟨b,hb⟩:=h2;rcases bz a b with h|h|h
 · have:=NA (dh h) ha
   have:=Y4 (x:=2*i+1+1) (e:=b-a) (by omega)
   omega
 · subst h;omega
 have:=NA (dh h) hb
 have:=Y4 (x:=2*i+2+1) (e:=a-b) (by omega)
 omega
theorem aF1 {i k j1 j2:Nat} (h1:mG (2*i+1) j1) (h2:mG (2*i+2) j2) (g:(mG (2*k+1) j1/\mG (2*k+2) j2)\/(mG (2*k+1) j2/\mG (2*k+2) j1)):i=k:=by
 have main: ∀{i k j1 j2:Nat},mG (2*i+1) j1\/mG (2*i+2) j1->mG i j2->(mG (2*k+1) j1/\mG (2*k+2) j2)\/(mG (2*k+1) j2/\mG (2*k+2) j1)-> ∀a a':Nat,(j1+1) / 2^a=i+1->(j1+1) / 2^a'=k+1->a<a'->False:=by
  intro i k j1 j2 _ u2 g a a' ha ha' hlt;have e:=NA (dh hlt) ha;rw [ha'] at e;obtain ⟨c,hc⟩: ∃c,a'-a=c+1:=⟨a'-a-1,by omega⟩
  rw [hc,df,<- ci] at e;have q: ∃m,(i+1) / 2^c=m+1/\(m=2*k+1\/m=2*k+2):=⟨(i+1) / 2^c-1,by omega,by omega⟩
  obtain ⟨m,hm,hmk⟩:=q;have um: ∀j,mG i j->mG m j:=fun j ⟨d,hd⟩=>⟨d+c,by
   rw [NA (Nat.le_add_right d c) hd,show d+c-d=c by omega,hm]⟩
  have u1:mG i j1:=⟨a,ha⟩;have v1:=um _ u1;have v2:=um _ u2;rcases hmk with rfl|rfl
  · rcases g with g|g
    · exact wJ v2 g.2
    exact wJ v1 g.2
  rcases g with g|g
  · exact wJ g.1 v1
  exact wJ g.1 v2
 have i1:mG i j1:=rM (.inl rfl) h1;have i2:mG i j2:=rM (.inr rfl) h2;have k1:mG k j1:=by rcases g with g|g;exact rM (.inl rfl) g.1;exact rM (.inr rfl) g.2
 have k2:mG k j2:=by rcases g with g|g;exact rM (.inr rfl) g.2;exact rM (.inl rfl) g.1
 obtain ⟨a,ha⟩:=i1;obtain ⟨a',ha'⟩:=k1;rcases bz a a' with h|h|h
 · exact (main (.inl h1) i2 g a a' ha ha' h).elim
 · subst h;omega
 exact (main (i:=k) (k:=i) (j1:=j1) (j2:=j2) (by rcases g with g|g;exact .inl g.1;exact .inr g.2) k2 (.inl ⟨h1,h2⟩) a' a ha' ha h).elim
def DF (p w:List Int):Prop:= ∀i,i<w.length->w[i]! =bJ p w (2*i+1)\/w[i]! =bJ p w (2*i+2)
theorem DG {p w:List Int} (hl:w.length+1=p.length) (hc:DF p w): ∀(d i:Nat),w.length+p.length-i<=d->i<w.length+p.length-> ∃j,w.length<=j/\j<w.length+p.length/\mG i j/\p[j-w.length]! =bJ p w i:=by
 intro d
 induction d with
 |zero=>intro i h1 h2;omega
 |succ d ih=>
  intro i h1 h2
  by_cases hi:i<w.length
  · rcases hc i hi with e|e
    · obtain ⟨j,j1,j2,j3,j4⟩:=ih (2*i+1) (by omega) (by omega)
      refine ⟨j,j1,j2,rM (.inl rfl) j3,?_⟩;rw [j4,<- e];unfold bJ;rw [if_pos hi]
    obtain ⟨j,j1,j2,j3,j4⟩:=ih (2*i+2) (by omega) (by omega)
    refine ⟨j,j1,j2,rM (.inr rfl) j3,?_⟩;rw [j4,<- e];unfold bJ;rw [if_pos hi]
  refine ⟨i,by omega,h2,.refl i,?_⟩
  unfold bJ;rw [if_neg hi]
def GI (p:List Int):Prop:= ∀i j,i<j->j<p.length->p[i]! =p[j]!->p[i]!<0
theorem GI.inj {p:List Int} (h:GI p) {i j:Nat} (hi:i<p.length) (hj:j<p.length) (e:p[i]! =p[j]!) (h0:0<=p[i]!):i=j:=by
 rcases bz i j with k|k|k
 · have:=h i j k hj e;omega
 · exact k
 have:=h j i k hi e.symm;rw [<- e] at this;omega
section
variable {p w : List Int} (hl : w.length + 1 = p.length) (hc : DF p w) (ho : GI p)
include hl hc
theorem mH {i:Nat} (hi:i<w.length+p.length):bJ p w i∈p:=by
 obtain ⟨j,j1,j2,_,e⟩:=DG hl hc _ i (bw _) hi;rw [<- e];exact bH (by omega)
include ho
theorem NB {i:Nat} (hi:i<w.length) (h0:0<=bJ p w (2*i+1)):bJ p w (2*i+1)≠bJ p w (2*i+2):=by
 intro e;obtain ⟨j,j1,j2,j3,j4⟩:=DG hl hc _ (2*i+1) (bw _) (by omega)
 obtain ⟨k,k1,k2,k3,k4⟩:=DG hl hc _ (2*i+2) (bw _) (by omega)
 have:=ho.inj (i:=j-w.length) (j:=k-w.length) (by omega) (by omega) (by rw [j4,k4,e]) (by rw [j4];exact h0)
 obtain rfl:j=k:=by omega
 exact wJ j3 k3
theorem aF2 {i k:Nat} (hi:i<w.length) (hk:k<w.length) (h1:0<=bJ p w (2*i+1)) (h2:0<=bJ p w (2*i+2))
 (g:(bJ p w (2*k+1)=bJ p w (2*i+1)/\bJ p w (2*k+2)=bJ p w (2*i+2))\/(bJ p w (2*k+1)=bJ p w (2*i+2)/\bJ p w (2*k+2)=bJ p w (2*i+1))):i=k:=by
 obtain ⟨j1,a1,a2,a3,a4⟩:=DG hl hc _ (2*i+1) (bw _) (by omega)
 obtain ⟨j2,b1,b2,b3,b4⟩:=DG hl hc _ (2*i+2) (bw _) (by omega)
 obtain ⟨l1,c1,c2,c3,c4⟩:=DG hl hc _ (2*k+1) (bw _) (by omega)
 obtain ⟨l2,d1,d2,d3,d4⟩:=DG hl hc _ (2*k+2) (bw _) (by omega)
 have same: ∀{x y:Nat},w.length<=x->x<w.length+p.length->w.length<=y->y<w.length+p.length->p[x-w.length]! =p[y-w.length]!->0<=p[x-w.length]!->x=y:=fun {x y} hx hx' hy hy' e h0=>by
  have:=ho.inj (i:=x-w.length) (j:=y-w.length) (by omega) (by omega) e h0
  omega
 refine aF1 a3 b3 ?_;rcases g with ⟨g1,g2⟩|⟨g1,g2⟩
 · have e1:j1=l1:=same a1 a2 c1 c2 (by rw [a4,c4,g1]) (by rw [a4];exact h1)
   have e2:j2=l2:=same b1 b2 d1 d2 (by rw [b4,d4,g2]) (by rw [b4];exact h2)
   subst e1 e2;exact .inl ⟨c3,d3⟩
 have e1:j2=l1:=same b1 b2 c1 c2 (by rw [b4,c4,g1]) (by rw [b4];exact h2)
 have e2:j1=l2:=same a1 a2 d1 d2 (by rw [a4,d4,g2]) (by rw [a4];exact h1)
 subst e1 e2;exact .inr ⟨c3,d3⟩
end
noncomputable def DH (f:List Pt) (t:Int×Int) (x y:Int):Int:=if x<0 then y else if y<0 then x else if hY (iU f x) (iU f y) t then x else y
theorem aCs (f:List Pt) (t:Int×Int) (x y:Int):DH f t x y=x\/DH f t x y=y:=by
 unfold DH;split
 · exact .inr rfl
 split
 · exact .inl rfl
 split
 · exact .inl rfl
 exact .inr rfl
def P6 (f:List Pt) (t:Int×Int) (p w:List Int):Prop:=w.length+1=p.length/\ ∀i,i<w.length->w[i]! =DH f t (bJ p w (2*i+1)) (bJ p w (2*i+2))
theorem P6.chosen {f:List Pt} {t:Int×Int} {p w:List Int} (h:P6 f t p w):DF p w:=fun i hi=>by
 rw [h.2 i hi];exact aCs ..
noncomputable def S0 (f:List Pt) (t:Int×Int) (p:List Int):Nat->List Int->List Int
 |0,w=>w
 |i+1,w=>S0 f t p i (w.set i (DH f t (bJ p w (2*i+1)) (bJ p w (2*i+2))))
noncomputable def cK (f:List Pt) (t:Int×Int) (p:List Int):List Int:=S0 f t p (p.length-1) (dv (p.length-1) 0)
theorem S1 {p w:List Int} {i k:Nat} {v:Int} (h:i≠k):bJ p (w.set i v) k=bJ p w k:=by
 unfold bJ;rw [ce];split
 · rw [aZ,if_neg (fun x=>h x.1.symm)]
 rfl
theorem S2 {f:List Pt} {t:Int×Int} {p:List Int}: ∀(n:Nat) (w:List Int),n<=w.length->(∀i,n<=i->i<w.length->w[i]! =DH f t (bJ p w (2*i+1)) (bJ p w (2*i+2)))->
 (S0 f t p n w).length=w.length/\ ∀i,i<w.length->(S0 f t p n w)[i]! =DH f t (bJ p (S0 f t p n w) (2*i+1)) (bJ p (S0 f t p n w) (2*i+2))
 |0,w,_,h=>⟨rfl,fun i hi=>h i (Nat.zero_le _) hi⟩
 |n+1,w,hn,h=>by
  have ih:=S2 n (w.set n (DH f t (bJ p w (2*n+1)) (bJ p w (2*n+2)))) (by rw [ce];omega) (fun i h1 h2=>by
   rw [ce] at h2;rw [S1 (by omega),S1 (by omega),aZ]
   split
   · rename_i e;rw [e.1]
   exact h i (by omega) h2)
  rw [ce] at ih;exact ih
theorem gC {f:List Pt} {t:Int×Int} {p:List Int} (hp:1<=p.length):P6 f t p (cK f t p):=by
 have:=S2 (f:=f) (t:=t) (p:=p) (p.length-1) (dv (p.length-1) 0) (by rw [cw];omega) (fun i h1 h2=>by rw [cw] at h2;omega)
 rw [cw] at this;have hl:(cK f t p).length=p.length-1:=this.1;exact ⟨by omega,fun i hi=>this.2 i (by omega)⟩
theorem aDE {f:List Pt} {t:Int×Int} {p w v:List Int} (h:P6 f t p w) (g:P6 f t p v):w=v:=by
 have hl:w.length=v.length:=by have:=h.1;have:=g.1;omega
 have key: ∀(d i:Nat),w.length-i<=d->i<w.length->w[i]! =v[i]!:=by
  intro d
  induction d with
  |zero=>intro i h1 h2;omega
  |succ d ih=>
   intro i _ hi;have nd: ∀k,i<k->bJ p w k=bJ p v k:=fun k hk=>by
    unfold bJ;rw [hl];split
    · rename_i h';exact ih k (by omega) (by omega)
    rfl
   rw [h.2 i hi,g.2 i (by omega),nd _ (by omega),nd _ (by omega)]
 exact wH hl fun i hi=>key _ i (bw _) hi
noncomputable def DY (p w:List Int) (i:Nat):Option (Int×Int):=
 if bJ p w (2*i+1)<0\/bJ p w (2*i+2)<0 then none
 else if w[i]! =bJ p w (2*i+1) then some (bJ p w (2*i+2),bJ p w (2*i+1)) else some (bJ p w (2*i+1),bJ p w (2*i+2))
noncomputable def kJ (p w:List Int):List (Int×Int):=(dt w.length).filterMap (DY p w)
theorem P7 (p w:List Int):(kJ p w).length<=w.length:=by
 have:=List.length_filterMap_le (DY p w) (dt w.length)
 rwa [de] at this
theorem P8 {p w:List Int} {e:Int×Int}:e∈kJ p w↔ ∃i,i<w.length/\DY p w i=some e:=by
 unfold kJ;rw [dd];constructor
 · rintro ⟨i,hi,h⟩;exact ⟨i,cq.1 hi,h⟩
 rintro ⟨i,hi,h⟩;exact ⟨i,cq.2 hi,h⟩
theorem DI {p w:List Int} {i:Nat} {e:Int×Int} (h:DY p w i=some e):0<=bJ p w (2*i+1)/\0<=bJ p w (2*i+2)/\
 ((e=(bJ p w (2*i+2),bJ p w (2*i+1))/\w[i]! =bJ p w (2*i+1))\/(e=(bJ p w (2*i+1),bJ p w (2*i+2))/\w[i]!≠bJ p w (2*i+1))):=by
 unfold DY at h;split at h
 · cases h
 rename_i hn
 refine ⟨by omega,by omega,?_⟩
 split at h
 · rename_i h1;injection h with h;exact .inl ⟨h.symm,h1⟩
 rename_i h1;injection h with h;exact .inr ⟨h.symm,h1⟩
theorem DZ {α β:Type} {g:α->Option β}: ∀{l:List α},l.Nodup->(∀x∈l,∀y∈l,∀b,g x=some b->g y=some b->x=y)->(l.filterMap g).Nodup
 | [],_,_=> .nil
 |a::r,h,hi=>by
  obtain ⟨h1,h2⟩:=cm.1 h;have ih:=DZ (g:=g) h2 (fun x hx y hy b e1 e2=>hi x (bo _ hx) y (bo _ hy) b e1 e2)
  cases hg:g a with
  |none=>rw [List.filterMap_cons_none hg];exact ih
  |some b=>
   rw [List.filterMap_cons_some hg];refine cm.2 ⟨fun hb=>?_,ih⟩
   obtain ⟨y,hy,e⟩:=dd.1 hb
   have:=hi a (cp ..) y (bo _ hy) b hg e
   subst this;exact h1 hy
theorem VD {p w:List Int} (hl:w.length+1=p.length) (hc:DF p w) (ho:GI p):(kJ p w).Nodup:=by
 refine DZ di fun i hi k hk b e1 e2=>?_
 have hi:=cq.1 hi;have hk:=cq.1 hk;obtain ⟨a1,a2,a3⟩:=DI e1;obtain ⟨b1,b2,b3⟩:=DI e2;refine aF2 hl hc ho hi hk a1 a2 ?_;rcases a3 with ⟨rfl,_⟩|⟨rfl,_⟩<;>rcases b3 with ⟨h,_⟩|⟨h,_⟩<;>(injection h with h1 h2)
 · exact .inl ⟨h2.symm,h1.symm⟩
 · exact .inr ⟨h1.symm,h2.symm⟩
 · exact .inr ⟨h2.symm,h1.symm⟩
 exact .inl ⟨h1.symm,h2.symm⟩
theorem aDF {f:List Pt} (fok:bS f) {p w:List Int} (hl:w.length+1=p.length) (hn:p.length<=64) (hc:DF p w) (ho:GI p) (hk: ∀x∈p,0<=x->kI f x):J2 f (kJ p w):=by
 have hp: ∀e∈kJ p w,lG f e/\e.1≠e.2:=fun e he=>by
  obtain ⟨i,hi,h⟩:=P8.1 he;obtain ⟨a1,a2,a3⟩:=DI h;have m1:=mH hl hc (i:=2*i+1) (by omega)
  have m2:=mH hl hc (i:=2*i+2) (by omega)
  have ne:=NB hl hc ho hi a1;rcases a3 with ⟨rfl,_⟩|⟨rfl,_⟩
  · exact ⟨⟨hk _ m2 a2,hk _ m1 a1⟩,fun h=>ne h.symm⟩
  exact ⟨⟨hk _ m1 a1,hk _ m2 a2⟩,ne⟩
 refine ⟨by have:=P7 p w;omega,fun e he=>?_,fun e he=>(hp e he).1⟩
 obtain ⟨⟨h1,h2⟩,ne⟩:=hp e he;obtain ⟨⟨p1,p2⟩,q1,q2⟩:=And.intro (fT fok h1) (fT fok h2);unfold gV at p1 q1;unfold gB;omega
end Go.Proofs.YtogihpogmfjoiaaGreat
