/- Plain laws (3). -/
import Derived.Test.YtbgoiokedpjgbaaGreatTQM2
import Derived.Test.YtbgoiokedpjgbaaGreatTQS2
open Bool renaming not_true->bm,not_false->bq,and_self->cz
open List renaming mem_cons_of_mem->bn,length_append->bo,length_drop->bz,length_set->cb,length_cons->cf,mem_append->ci,nodup_cons->cj,mem_cons_self->ck,mem_range->cm,length_singleton->cp,length_replicate->cq,length_nil->cu,mem_map->cw,drop_zero->cy,drop_length->c6,mem_filterMap->dc,length_range->dd,nodup_range->dh,length_map->di,range->dp,replicate->dt,mem_cons->dv
open Classical renaming byContradiction->bu,not_not->cd
open Nat renaming le_refl->bv,lt_trichotomy->bw,div_div_eq_div_mul->ce,pow_succ->de,le_of_lt->df,not_lt_zero->dj
open Int renaming le_trans->c7,le_refl->db
open Prod renaming ext->dm,fst->dw
namespace Go.Proofs.YtbgoiokedpjgbaaGreat
open Go.Vm Classical
theorem YR (c:aR) (n:Int) (hl:c.az.length<=1000000):(∀k,k<c.az.length->(c.az[k]!).1=n->(∀j,j<k->(c.az[j]!).1≠n)->rC c n=some (k:Int))/\((∀k,k<c.az.length->(c.az[k]!).1≠n)->rC c n=some (-1)):=by
 unfold rC;refine jK (body:=sN) (fun i=>(n,(i:Int),c.ar.1,c.ar.2,c.au.aa,c.ax.ao,c.ax.aq,c.ay.ai.ac,c.ay.ai.ae,c.ay.ai.af,c.ay.aj,c.ay.am,c.az)) c.az.length (fun i=>(c.az[i]!).1=n) (fun i=>(i:Int)) (fun i hi=>?_) ?_
 · have e1:decide ((i:Int)<(c.az.length:Int))=true:=aJ (by omega)
   unfold sN;simp only [aF,e1,cond_true,aE c.az i hi,aB,aU (show i<1000000000 by omega)]
   constructor
   · intro h;rw [eI h];rfl
   intro h;rw [eB h];rfl
 unfold sN
 have:decide ((c.az.length:Int)<(c.az.length:Int))=false:=dec_f (by omega)
 simp only [aF,this,cond_false]
theorem SQ {ds:List wN} (hu:Up ds) (hl:ds.length<=1000000) (n:Int):(∀k,k<ds.length->(ds[k]!).1=n->qY ds n=some ((k:Int),true))/\((∀k,k<ds.length->(ds[k]!).1≠n)-> ∃m:Nat,qY ds n=some ((m:Int),false)):=by
 have bs:=AF ds n hl (xF.1 hu);unfold qY;rw [aTS];constructor
 · intro k hk he;rw [bs.1 k hk he];rfl
 intro h
 obtain ⟨m,_,_,_,e⟩:=bs.2 h;exact ⟨m,by rw [e];rfl⟩
theorem bG.bd {c:aR} (ok:bG c):c.az.length<=200/\c.au.aa.length<=64/\c.ax.aq.length<=200:=by
 have:=ok.hd;have:=ok.agd.bd;have:=ok.fld.1;have:=ok.crt.len
 omega
theorem lE {c:aR} (ok:bG c):jW c=some c:=by
 have bd:=ok.bd;unfold jW qK qL;simp only [aV (show c.au.aa.length<=1048576 by omega),aV (show c.ax.aq.length<=1048576 by omega),aV (show c.az.length<=1048576 by omega),aB,uZ ok.agd]
theorem nN {c:aR} (ok:bG c):oG c=some c:=by
 have bd:=ok.bd;have ab:=ok.agd.bd;have hl:=ok.agd.so.fl;have hn:=ok.agd.so.n2;have hu:=ok.agd.so.ul;unfold oG;simp only [aV (show c.au.aa.length<=1048576 by omega),aV (show c.ax.aq.length<=1048576 by omega),aV (show c.az.length<=1048576 by omega),aV (show c.ay.aj.length<=1048576 by omega),aV (show c.ay.am.length<=1048576 by omega),
  aV (show c.ay.ai.ac.length<=1048576 by omega),aV (show c.ay.ai.ae.length<=1048576 by omega),aV (show c.ay.ai.af.length<=1048576 by omega),aB]
theorem DB {cs:List wN} {i:Nat} (hu:Up cs) (hi:i<cs.length) {x:wN} (hx:x∈cs.eraseIdx i):x∈cs/\x.1≠(cs[i]!).1:=by
 rw [yT,ci] at hx;have ub:=xF.1 hu;rcases hx with hx|hx
 · obtain ⟨j,h1,h2,rfl⟩:=cH.1 hx
   have:=ub j i h1 hi
   exact ⟨bI h2,by omega⟩
 obtain ⟨j,hj,rfl⟩:=aY.1 hx
 rw [bz] at hj;rw [pD]
 have:=ub i (i+1+j) (by omega) (by omega)
 exact ⟨bI (by omega),by omega⟩
theorem L8 {c:aR} (ok:bG c) (i:Nat) (hi:i<c.ax.aq.length): ∀j,j<(qD c.ax i).aq.length->lD c.au.aa ((qD c.ax i).aq[j]!).2:=by
 intro j hj;have hm:(qD c.ax i).aq[j]!∈c.ax.aq:=(DB ok.crt_up hi (bI hj)).1;obtain ⟨m,hm1,hm2⟩:=aY.1 hm;rw [<- hm2];exact ok.known m hm1
theorem aTT {c:aR} (ok:bG c) {i:Nat} (hi:i<c.ax.aq.length):
 ∃c':aR,tO c (c.ax.aq[i]!).1=some (c',(c.ax.aq[i]!).2,0)/\yL c (c.ax.aq[i]!).1=some c'/\bG c'/\c'.au=c.au/\c'.ar=c.ar/\c'.ax=qD c.ax i:=by
 have bd:=ok.bd;have rm:=PX ok.crt hi (n:=(c.ax.aq[i]!).1) rfl;have wo:=LD ok.crt hi (n:=(c.ax.aq[i]!).1) rfl;have fe:=ok.fol.erase (i:=i) hi;have pd:=SQ ok.due_up (by omega) (c.ax.aq[i]!).1
 have da:=YR c (c.ax.aq[i]!).1 (by omega)
 cases hf:(bM c.au.aa (c.ax.aq[i]!).2 c.ar).2 with
 |false=>
  have no: ∀k,k<c.az.length->(c.az[k]!).1≠(c.ax.aq[i]!).1:=by
   intro k hk he;obtain ⟨x,hx,h1,h2,_⟩:=ok.fol.az _ (bI hk);obtain ⟨j,hj,rfl⟩:=aY.1 hx;have ub:=xF.1 ok.crt_up
   have:j=i:=by
    rcases bw j i with h|h|h
    · have:=ub j i h hi;omega
    · exact h
    have:=ub i j h hj;omega
   rw [this,hf] at h2;cases h2
  refine ⟨⟨c.ar,c.au,qD c.ax i,c.ay,c.az⟩,?_,?_,?_,rfl,rfl,rfl⟩
  · unfold tO
    obtain ⟨m,e⟩:=pd.2 no;simp only [rm,aB,show ((0:Int) !=0)=false from rfl,cond_false,nN ok,e]
  · unfold yL
    simp only [lE ok,aB,wo,da.2 no,dec_f (show¬(0:Int)<= -1 by omega),cond_false]
  exact ⟨ok.nowv,ok.now64,ok.fld,PW ok.crt hi,ok.agd,ok.w200,ok.hd,L8 ok i hi,fe.1 hf⟩
 |true=>
  obtain ⟨k,hk,k1,k2,k3⟩:=fe.2 hf;obtain ⟨w,hw,hev⟩:=aY.1 k2;have hh:(c.ay.aj[w]!).2.2.2=(c.az[k]!).2:=by rw [hev]
  have ub:=xF.1 ok.due_up;have before: ∀j,j<k->(c.az[j]!).1≠(c.ax.aq[i]!).1:=fun j hj he=>by have:=ub j k hj hk;omega
  have dl:(c.az.eraseIdx k).length=c.az.length-1:=M5 hk;obtain ⟨L,d1,d2⟩:=E9 c.az k hk;refine ⟨⟨c.ar,c.au,qD c.ax i,eV c.ay w,c.az.eraseIdx k⟩,?_,?_,?_,rfl,rfl,rfl⟩
  · unfold tO
    simp only [rm,aB,show ((0:Int) !=0)=false from rfl,cond_false,nN ok,pd.1 k hk k1,cond_true,aE c.az k hk,BU ok.agd hw ok.agd.fit hh,aU (show k<1000000000 by omega),aAR,d1,d2]
  · unfold yL
    have s1:gW c.az 0 (k:Int)=some (c.az.take k):=mF c.az k (by omega)
    have s2:gW c.az ((k+1:Nat):Int) (c.az.length:Int)=some (c.az.drop (k+1)):=by
     unfold gW;rw [if_pos ⟨by omega,by omega,by omega⟩]
     simp only [Int.toNat_natCast];rw [List.take_of_length_le (by rw [bz];exact bv _)]
    have tl:(c.az.take k).length=k:=by rw [List.length_take];omega
    have dl2:(c.az.drop (k+1)).length=c.az.length- (k+1):=bz;simp only [lE ok,aB,wo,da.1 k hk k1 before,aJ (show (0:Int)<=(k:Int) by omega),cond_true,aE c.az k hk,BV ok.agd hw hh,s1,aV (show (c.az.take k).length<=1048576 by omega),aU (show k<1000000000 by omega),aF,s2,
     dB (show (c.az.take k).length+(c.az.drop (k+1)).length<=1048576 by omega),yT]
    cases hem:(c.az.drop (k+1)).isEmpty with
    |true=>
     rw [List.isEmpty_iff] at hem;rw [hem,List.append_nil];rfl
    |false=>rfl
  have rem:=LA ok.agd hw
  have rmem:=PR ok.agd hw;have hlen:(eV c.ay w).aj.length=c.ay.aj.length-1:=by
   have h1:=rem.hl;have h2:=ok.agd.hl;have h3:(eV c.ay w).ai=gD c.ay.ai (c.ay.aj[w]!).2.2.2:=by unfold eV;split<;>rfl
   rw [h3] at h1;change _+(c.ay.ai.af++[_]).length=c.ay.ai.ac.length at h1;rw [bo] at h1;simp only [cf,cu] at h1;omega
  have wlen:(eV c.ay w).am.length=200:=by
   have h1:=rem.wl;have h3:(eV c.ay w).ai=gD c.ay.ai (c.ay.aj[w]!).2.2.2:=by unfold eV;split<;>rfl
   rw [h3] at h1;change _=c.ay.ai.ac.length at h1;rw [h1,<- ok.agd.wl,ok.w200]
  refine ⟨ok.nowv,ok.now64,ok.fld,PW ok.crt hi,rem,wlen,?_,L8 ok i hi,?_⟩
  · show (eV c.ay w).aj.length=(c.az.eraseIdx k).length
    rw [hlen,dl,ok.hd]
  refine k3.mono fun x hx e he hm=>(rmem e).2 ⟨hm,fun h=>?_⟩
  have:=(DB ok.crt_up hi hx).2
  rw [h,hev] at he;exact this he.symm
theorem MM {c:aR} (ok:bG c) {i:Nat} (_hi:i<c.ax.aq.length) {c':aR} (h:tO c (c.ax.aq[i]!).1=some (c',(c.ax.aq[i]!).2,0)):xA c (c.ax.aq[i]!).1=some (c',0):=by
 unfold xA;rw [oR ok.fit,if_pos ok];simp only [aB,show ((0:Int) !=0)=false from rfl,cond_false,h]
abbrev fC:aR:=⟨(0,0),⟨[]⟩,⟨0,[]⟩,⟨⟨[],[],[]⟩,[],[]⟩,[]⟩
theorem U4 {l:List Pt} (ok:cE l) {id:Int} (h:kJ l id): ¬(iT l id).1<0:=by
 obtain ⟨h1,_⟩:=fT ok h
 have:=h1.1
 omega
theorem aM5 {c:aR} (ok:bG c) {x:Int×Int} (hx:fY x) (hb:lD c.au.aa x) (hn: ¬A1 c.ax.aq x):
 (jJ c x=some (fC,0,18)/\mQ c x=some (fC,0,18)/\(JU c.ax\/ ¬DV c.ay.ai))\/
 ∃c':aR,jJ c x=some (c',c.ax.ao,0)/\mQ c x=some (c',c.ax.ao,0)/\bG c'/\c'.au=c.au/\c'.ar=c.ar/\c'.ax=sT c.ax x/\(c'.ay.ai=c.ay.ai\/c'.ay.ai=iI c.ay.ai):=by
 have bd:=ok.bd;have n0:=ok.crt.n0;have n1:=ok.crt.n1;have fit:=ok.fit;have ad:=YM ok.crt hx;have rd:=U2 ok.crt hx;rw [if_neg hn] at ad rd;have hc:iG c=some 0:=by rw [oR fit,if_pos ok]
 have p1:=oQ ok.fld x.1;have p2:=oQ ok.fld x.2;have q1:=U4 ok.fld hb.1;have q2:=U4 ok.fld hb.2;have wh:=A2 ok.fld hx ok.nowv ok.now64;rw [if_pos hb] at wh;have rw':=A3 ok.fld ok.now64 hb
 by_cases hf:JU c.ax
 · rw [if_pos hf] at ad rd
   left;refine ⟨?_,?_,.inl hf⟩
   · unfold jJ dS
     simp only [hc,aB,show ((0:Int) !=0)=false from rfl,cond_false,ad,show ((18:Int)==8)=false from rfl,p1,p2,dec_f q1,dec_f q2,show ((18:Int) !=0)=true from rfl,cond_true]
   unfold mQ
   simp only [rd,aB,show ((18:Int) !=0)=true from rfl,cond_true]
 rw [if_neg hf] at ad rd;have cok:=aAT ok.crt hx hn hf;have known': ∀j,j<(sT c.ax x).aq.length->lD c.au.aa ((sT c.ax x).aq[j]!).2:=by
  intro j hj;rw [GG] at hj;rw [yU]
  by_cases h:j<c.ax.aq.length
  · rw [if_pos h];exact ok.known j h
  rw [if_neg h,if_pos (by omega)];exact hb
 have fresh: ∀e∈c.ay.aj,Ev.num e≠c.ax.ao:=by
  intro e he hne;obtain ⟨d,hd,h1⟩:=ok.nums e he;obtain ⟨y,hy,h2,_⟩:=ok.fol.az d hd;obtain ⟨j,hj,rfl⟩:=aY.1 hy
  have:=(ok.crt.nr j hj).2
  omega
 have sn:=ok.fol.snoc (x:=(c.ax.ao,x));cases hw:(bM c.au.aa x c.ar).2 with
 |false=>
  right;refine ⟨⟨c.ar,c.au,sT c.ax x,c.ay,c.az⟩,?_,?_,⟨ok.nowv,ok.now64,ok.fld,cok,ok.agd,ok.w200,ok.hd,known',sn.1 hw⟩,rfl,rfl,rfl,.inl rfl⟩
  · unfold jJ dS
    simp only [hc,aB,show ((0:Int) !=0)=false from rfl,cond_false,ad,show ((0:Int)==8)=false from rfl,p1,p2,dec_f q1,dec_f q2,nN ok,wh,hw]
  unfold mQ
  simp only [rd,aB,show ((0:Int) !=0)=false from rfl,cond_false,lE ok,rw',hw,bq,cond_true]
 |true=>
  obtain ⟨t1,t2⟩:=O9 (fT ok.fld hb.2).1 (fT ok.fld hb.1).1 ok.now64 ok.nowv hw
  by_cases op:DV c.ay.ai
  · right
    have pu:=BQ ok.agd op ok.agd.fit (t:=(bM c.au.aa x c.ar).1) (n:=c.ax.ao) t1 t2 n0 n1 fresh;have rp:=DW ok.agd op (t:=(bM c.au.aa x c.ar).1) (n:=c.ax.ao) t1 t2 n0 n1;have pok:=aCk ok.agd op (t:=(bM c.au.aa x c.ar).1) (n:=c.ax.ao) t1 t2 n0 n1 fresh
    have pmem:=YH ok.agd op (t:=(bM c.au.aa x c.ar).1) (n:=c.ax.ao) t1;have plen:=JS ok.agd op (t:=(bM c.au.aa x c.ar).1) (n:=c.ax.ao) t1;have ap: ∀h:Int×Int,bP c.az [(c.ax.ao,h)]=some (c.az++[(c.ax.ao,h)]):=fun h=>dB (by simp;omega)
    have wlen:(nB c.ay (bM c.au.aa x c.ar).1 c.ax.ao).am.length=200:=by
     have:=pok.wl
     change _=(c.ay.ai.ac.set _ _).length at this;rw [cb] at this;rw [this,<- ok.agd.wl,ok.w200]
    refine ⟨⟨c.ar,c.au,sT c.ax x,nB c.ay (bM c.au.aa x c.ar).1 c.ax.ao,c.az++[(c.ax.ao,nA c.ay.ai)]⟩,?_,?_,⟨ok.nowv,ok.now64,ok.fld,cok,pok,wlen,?_,known',?_⟩,rfl,rfl,rfl,.inr rfl⟩
    · unfold jJ dS
      simp only [hc,aB,show ((0:Int) !=0)=false from rfl,cond_false,ad,show ((0:Int)==8)=false from rfl,p1,p2,dec_f q1,dec_f q2,nN ok,wh,hw,cond_true,pu,ap]
    · unfold mQ
      simp only [rd,aB,show ((0:Int) !=0)=false from rfl,cond_false,lE ok,rw',hw,bm,uY ok.agd.so,aJ op,rp,ap]
    · show (nB c.ay (bM c.au.aa x c.ar).1 c.ax.ao).aj.length=(c.az++[_]).length
      rw [plen,bo,ok.hd];rfl
    have fm:aX c.au.aa c.ar (nB c.ay (bM c.au.aa x c.ar).1 c.ax.ao).aj c.ax.aq c.az:=ok.fol.mono fun y hy e he hm=>(pmem e).2 (.inr hm)
    exact (fm.snoc (x:=(c.ax.ao,x))).2 _ hw rfl ((pmem _).2 (.inl rfl))
  left
  have pu:=BS ok.agd op ok.agd.fit (t:=(bM c.au.aa x c.ar).1) (n:=c.ax.ao) t1 t2 n0 n1 fresh;refine ⟨?_,?_,.inr op⟩
  · unfold jJ dS
    simp only [hc,aB,show ((0:Int) !=0)=false from rfl,cond_false,ad,show ((0:Int)==8)=false from rfl,p1,p2,dec_f q1,dec_f q2,nN ok,wh,hw,cond_true,pu,show ((18:Int) !=0)=true from rfl]
  unfold mQ
  simp only [rd,aB,show ((0:Int) !=0)=false from rfl,cond_false,lE ok,rw',hw,bm,uY ok.agd.so,dec_f op,bq,cond_true]
theorem Up.inj {cs:List wN} (h:Up cs) {x y:wN} (hx:x∈cs) (hy:y∈cs) (he:x.1=y.1):x=y:=by
 obtain ⟨i,hi,rfl⟩:=aY.1 hx;obtain ⟨j,hj,rfl⟩:=aY.1 hy;have ub:=xF.1 h;rcases bw i j with h1|h1|h1
 · have:=ub i j h1 hj;omega
 · rw [h1]
 have:=ub j i h1 hi;omega
structure PZ (c:aR) (f:List Pt) (i k:Nat) (a:aP) (ds:List wN):Prop where
 ok:fH a
 w2:a.am.length=200
 new:aX f c.ar a.aj (c.ax.aq.take i) ds
 old:aX c.au.aa c.ar a.aj (c.ax.aq.drop i) (c.az.drop k)
 kl:k<=c.az.length
 cnt:a.aj.length=ds.length+(c.az.length-k)
theorem aTU {a:aP} (ok:fH a) {w:Nat} (hw:w<a.aj.length):(eV a w).aj.length=a.aj.length-1/\(eV a w).am.length=a.am.length:=by
 have rem:=LA ok hw;have h3:(eV a w).ai=gD a.ai (a.aj[w]!).2.2.2:=by unfold eV;split<;>rfl
 have h1:=rem.hl;have h2:=ok.hl;have h4:=rem.wl;rw [h3] at h1 h4;change _+(a.ai.af++[_]).length=a.ai.ac.length at h1;change _=a.ai.ac.length at h4;rw [bo] at h1;simp only [cf,cu] at h1;exact ⟨by omega,by rw [h4,ok.wl]⟩
theorem aM6 {a:aP} {t:Int×Int} {n:Int} (ok:fH a) (pok:fH (nB a t n)):(nB a t n).am.length=a.am.length:=by
 have:=pok.wl
 change _=(a.ai.ac.set _ _).length at this;rw [cb] at this;rw [this,ok.wl]
section
variable {c : aR} (ok : bG c) {f : List Pt} (fok : cE f) (kn : ∀ i, i < c.ax.aq.length -> lD f (c.ax.aq[i]!).2)
include ok
theorem JX {i:Nat} {x:wN} (hx:x∈c.ax.aq.take i) (hi:i<c.ax.aq.length):x.1≠(c.ax.aq[i]!).1:=by
 obtain ⟨j,h1,h2,rfl⟩:=cH.1 hx
 have:=ok.crt.up j i h1 hi
 omega
theorem JY {i:Nat} {x:wN} (hx:x∈c.ax.aq.drop (i+1)) (hi:i<c.ax.aq.length):x.1≠(c.ax.aq[i]!).1:=by
 obtain ⟨j,h1,rfl⟩:=aY.1 hx;rw [bz] at h1;rw [pD]
 have:=ok.crt.up i (i+1+j) (by omega) (by omega)
 omega
theorem aDq {i k:Nat} {a:aP} {ds:List wN} (inv:PZ c f i k a ds) (hi:i<c.ax.aq.length) (was:(bM c.au.aa (c.ax.aq[i]!).2 c.ar).2=false): ∀e∈a.aj,Ev.num e≠(c.ax.aq[i]!).1:=by
 have u1:Up (c.ax.aq.take i):=ok.crt_up.sublist (List.take_sublist _ _);have u2:Up (c.ax.aq.drop i):=ok.crt_up.sublist (List.drop_sublist _ _);have d1:=inv.new.up u1;have d2:=inv.old.up u2;have cross: ∀x∈ds,∀y∈c.az.drop k,x.1<y.1:=by
  intro x hx y hy;obtain ⟨p,hp,h1,_⟩:=inv.new.az x hx;obtain ⟨q,hq,h2,_⟩:=inv.old.az y hy;obtain ⟨m,m1,m2,rfl⟩:=cH.1 hp;obtain ⟨n,n1,rfl⟩:=aY.1 hq;rw [bz] at n1;rw [pD] at h2
  have:=ok.crt.up m (i+n) (by omega) (by omega)
  omega
 have nd:((ds++c.az.drop k).map fun x=>x.1).Nodup:=YQ (by
  show List.Pairwise _ _;rw [List.pairwise_append];exact ⟨d1,d2,cross⟩)
 have only:=L7 (H:=a.aj) nd (by rw [di,bo,bz,inv.cnt];exact bv _) (fun n hn=>by
  obtain ⟨x,hx,rfl⟩:=cw.1 hn;rcases ci.1 hx with hx|hx
  · obtain ⟨p,hp,h1,h2,h3⟩:=inv.new.az x hx
    exact ⟨_,h3,h1.symm⟩
  obtain ⟨p,hp,h1,h2,h3⟩:=inv.old.az x hx
  exact ⟨_,h3,h1.symm⟩)
 intro e he hne;obtain ⟨x,hx,h1⟩:=cw.1 (only e he);rcases ci.1 hx with hx|hx
 · obtain ⟨p,hp,h2,_⟩:=inv.new.az x hx
   exact JX ok hp hi (by rw [<- h2,h1,hne])
 obtain ⟨p,hp,h2,h3,_⟩:=inv.old.az x hx
 have hp':p∈c.ax.aq:=List.mem_of_mem_drop hp
 have:=ok.crt_up.inj hp' (bI hi) (by rw [<- h2,h1,hne])
 rw [this,was] at h3;cases h3
def stP (c:aR) (f:List Pt) (i:Nat) (a:aP) (ds:List wN):=
 (c.ax.aq,(c.ax.aq.length:Int),(i:Int),c.ar.1,c.ar.2,c.au.aa,c.ax.ao,c.ax.aq,c.ay.ai.ac,c.ay.ai.ae,c.ay.ai.af,c.ay.aj,c.ay.am,c.az,f,(0:Int),(0:Int),(0:Int),c.ar.1,c.ar.2,c.ax.ao,c.ax.aq,a.ai.ac,a.ai.ae,a.ai.af,a.aj,a.am,f,ds)
def stR (c:aR) (f:List Pt) (i:Nat) (a:aP) (ds:List wN):=
 ((i:Int),c.ar.1,c.ar.2,c.au.aa,c.ax.ao,c.ax.aq,c.ay.ai.ac,c.ay.ai.ae,c.ay.ai.af,c.ay.aj,c.ay.am,c.az,f,(0:Int),(0:Int),(0:Int),c.ar.1,c.ar.2,f,c.ax.ao,c.ax.aq,a.ai.ac,a.ai.ae,a.ai.af,a.aj,a.am,ds)
include fok kn
theorem aFU {i k:Nat} {a:aP} {ds:List wN} (inv:PZ c f i k a ds) (hi:i<c.ax.aq.length) (hds:ds.length<=i):
 (dT (stP c f i a ds)=some (.done (.done (fC,18)))/\cX (stR c f i a ds)=some (.done (fC,18)))\/
 ∃k' a' ds',dT (stP c f i a ds)=some (.next (stP c f (i+1) a' ds'))/\cX (stR c f i a ds)=some (.next (stR c f (i+1) a' ds'))/\PZ c f (i+1) k' a' ds'/\ds'.length<=i+1:=by
 have bd:=ok.bd;have e1:decide ((i:Int)<(c.ax.aq.length:Int))=true:=aJ (by omega)
 have sc:=aU (show i<1000000000 by omega)
 have cg:=aE c.ax.aq i hi;have hb:=kn i hi;have wn:=A2 fok (x:=(c.ax.aq[i]!).2) (t:=(c.ar.1,c.ar.2)) (ok.crt.cv i hi) ok.nowv ok.now64;rw [if_pos hb] at wn;have wr:=A3 fok (x:=(c.ax.aq[i]!).2) (t:=(c.ar.1,c.ar.2)) ok.now64 hb;have pd:=SQ ok.due_up (by omega) (c.ax.aq[i]!).1
 have da:=YR c (c.ax.aq[i]!).1 (by omega)
 have dr:=xM hi;have tk:=fQ hi;have old:=inv.old;rw [dr] at old;have aeta:aP.mk (bD.mk a.ai.ac a.ai.ae a.ai.af) a.aj a.am=a:=rfl
 have ceta:(aR.mk (c.ar.1,c.ar.2) (Field.mk c.au.aa) (bO.mk c.ax.ao c.ax.aq) (aP.mk (bD.mk c.ay.ai.ac c.ay.ai.ae c.ay.ai.af) c.ay.aj c.ay.am) c.az)=c:=rfl;have other: ∀x∈c.ax.aq.take i,x.1≠(c.ax.aq[i]!).1:=fun x hx=>JX ok hx hi
 have other': ∀x∈c.ax.aq.drop (i+1),x.1≠(c.ax.aq[i]!).1:=fun x hx=>JY ok hx hi
 cases hwas:(bM c.au.aa (c.ax.aq[i]!).2 c.ar).2 with
 |true=>
  obtain ⟨d,ds',hd1,hd2,hd3,hd4⟩:=(aX.cons_true hwas).1 old;have hk:k<c.az.length:=by
   refine bu fun h=>?_
   rw [List.drop_eq_nil_of_le (by omega)] at hd1
   cases hd1
  have dk:=xM hk;rw [dk] at hd1;injection hd1 with hd5 hd6;subst hd5 hd6;obtain ⟨w,hw,hev⟩:=aY.1 hd3;have hh:(a.aj[w]!).2.2.2=(c.az[k]!).2:=by rw [hev]
  have hnum:Ev.num a.aj[w]! =(c.ax.aq[i]!).1:=by rw [hev]
  have before: ∀j,j<k->(c.az[j]!).1≠(c.ax.aq[i]!).1:=fun j hj he=>by
   have:=xF.1 ok.due_up j k hj hk
   omega
  have pl:=pd.1 k hk hd2;have dq:=da.1 k hk hd2 before;have gk:=aE c.az k hk;have k0:decide ((0:Int)<=(k:Int))=true:=aJ (by omega)
  have ap:bP ds [c.az[k]!]=some (ds++[c.az[k]!]):=dB (by simp;omega)
  cases his:(bM f (c.ax.aq[i]!).2 c.ar).2 with
  |true=>
   right;have tt:cQ (bM f (c.ax.aq[i]!).2 c.ar).1/\tB (bM f (c.ax.aq[i]!).2 c.ar).1:=O9 (fT fok hb.2).1 (fT fok hb.1).1 ok.now64 ok.nowv his;obtain ⟨t1,t2⟩:=tt;have re:=ML inv.ok inv.ok.fit (t:=(bM f (c.ax.aq[i]!).2 c.ar).1) hw hh t1 t2;have rr:=K9 inv.ok (t:=(bM f (c.ax.aq[i]!).2 c.ar).1) hw hh t1 t2
   have rok:=aFO inv.ok hw t1 t2;have rmem:=aDp inv.ok hw t1;have rlen:=K8 inv.ok hw t1;have stay: ∀(cs:List wN),(∀x∈cs,x.1≠(c.ax.aq[i]!).1)-> ∀x∈cs,∀e:Ev,e.num=x.1->e∈a.aj->e∈(lO a w (bM f (c.ax.aq[i]!).2 c.ar).1).aj:=by
    intro cs hcs x hx e he hm;refine (rmem e).2 (.inr ⟨hm,fun h=>hcs x hx ?_⟩)
    rw [<- he,h,hnum]
   refine ⟨k+1,lO a w (bM f (c.ax.aq[i]!).2 c.ar).1,ds++[c.az[k]!],?_,?_,⟨rok,by rw [rlen.2];exact inv.w2,?_,?_,by omega,?_⟩,by simp;omega⟩
   · unfold dT stP
     simp only [e1,cond_true,cg,aB,wn,pl,his,gk,aeta,re,ap,show ((0:Int) !=0)=false from rfl,cond_false,sc]
   · unfold cX stR
     simp only [aF,e1,cond_true,cg,aB,ceta,dq,wr,his,k0,gk,aeta,rr,ap,bm,cond_false,sc]
   · rw [tk]
     exact ((inv.new.mono (stay _ other)).snoc (x:=c.ax.aq[i]!)).2 _ his hd2 ((rmem _).2 (.inl (by
      show _=((bM f (c.ax.aq[i]!).2 c.ar).1.1,(bM f (c.ax.aq[i]!).2 c.ar).1.2,(a.aj[w]!).2.2);rw [hev])))
   · exact hd4.mono (stay _ other')
   rw [rlen.1,inv.cnt,bo]
   simp only [cf,cu];omega
  |false=>
   right;have rv:=BU inv.ok hw inv.ok.fit hh;have rr:=BV inv.ok hw hh;have rok:=LA inv.ok hw;have rmem:=PR inv.ok hw;have rlen:=aTU inv.ok hw;have stay: ∀(cs:List wN),(∀x∈cs,x.1≠(c.ax.aq[i]!).1)-> ∀x∈cs,∀e:Ev,e.num=x.1->e∈a.aj->e∈(eV a w).aj:=by
    intro cs hcs x hx e he hm;refine (rmem e).2 ⟨hm,fun h=>hcs x hx ?_⟩
    rw [<- he,h,hnum]
   refine ⟨k+1,eV a w,ds,?_,?_,⟨rok,by rw [rlen.2];exact inv.w2,?_,hd4.mono (stay _ other'),by omega,?_⟩,by omega⟩
   · unfold dT stP
     simp only [e1,cond_true,cg,aB,wn,pl,his,gk,aeta,rv,show ((0:Int) !=0)=false from rfl,cond_false,sc]
   · unfold cX stR
     simp only [aF,e1,cond_true,cg,aB,ceta,dq,wr,his,k0,gk,aeta,rr,bq,cond_false,sc]
   · rw [tk]
     exact ((inv.new.mono (stay _ other)).snoc (x:=c.ax.aq[i]!)).1 his
   have:=inv.cnt
   rw [rlen.1];omega
 |false=>
  have fol:=(aX.cons_false hwas).1 old;have no: ∀j,j<c.az.length->(c.az[j]!).1≠(c.ax.aq[i]!).1:=by
   intro j hj he;obtain ⟨x,hx,h1,h2,_⟩:=ok.fol.az _ (bI hj)
   have:=ok.crt_up.inj hx (bI hi) (by rw [<- h1,he])
   rw [this,hwas] at h2;cases h2
  obtain ⟨m,pl⟩:=pd.2 no;have dq:=da.2 no;have k0:decide ((0:Int)<= -1)=false:=dec_f (by omega)
  cases his:(bM f (c.ax.aq[i]!).2 c.ar).2 with
  |true=>
   have tt:cQ (bM f (c.ax.aq[i]!).2 c.ar).1/\tB (bM f (c.ax.aq[i]!).2 c.ar).1:=O9 (fT fok hb.2).1 (fT fok hb.1).1 ok.now64 ok.nowv his;obtain ⟨t1,t2⟩:=tt;have n0:=(ok.crt.nr i hi).1;have n1:(c.ax.aq[i]!).1<=1000000:=by have:=(ok.crt.nr i hi).2;have:=ok.crt.n1;omega
   have fresh:=aDq ok inv hi hwas
   by_cases op:DV a.ai
   · right
     have pu:=BQ inv.ok op inv.ok.fit (t:=(bM f (c.ax.aq[i]!).2 c.ar).1) (n:=(c.ax.aq[i]!).1) t1 t2 n0 n1 fresh;have rp:=DW inv.ok op (t:=(bM f (c.ax.aq[i]!).2 c.ar).1) (n:=(c.ax.aq[i]!).1) t1 t2 n0 n1;have pok:=aCk inv.ok op (t:=(bM f (c.ax.aq[i]!).2 c.ar).1) (n:=(c.ax.aq[i]!).1) t1 t2 n0 n1 fresh
     have pmem:=YH inv.ok op (t:=(bM f (c.ax.aq[i]!).2 c.ar).1) (n:=(c.ax.aq[i]!).1) t1;have plen:=JS inv.ok op (t:=(bM f (c.ax.aq[i]!).2 c.ar).1) (n:=(c.ax.aq[i]!).1) t1;have ap: ∀h:Int×Int,bP ds [((c.ax.aq[i]!).1,h)]=some (ds++[((c.ax.aq[i]!).1,h)]):=fun h=>dB (by simp;omega)
     have opn:=uY inv.ok.so;rw [aJ op] at opn;refine ⟨k,nB a (bM f (c.ax.aq[i]!).2 c.ar).1 (c.ax.aq[i]!).1,ds++[((c.ax.aq[i]!).1,nA a.ai)],?_,?_,⟨pok,by rw [aM6 inv.ok pok];exact inv.w2,?_,?_,inv.kl,?_⟩,by simp;omega⟩
     · unfold dT stP
       simp only [e1,cond_true,cg,aB,wn,pl,his,aeta,pu,ap,show ((0:Int) !=0)=false from rfl,cond_false,sc]
     · unfold cX stR
       simp only [aF,e1,cond_true,cg,aB,ceta,dq,wr,his,k0,aeta,rp,ap,bm,cond_false,sc,opn]
     · rw [tk]
       exact ((inv.new.mono fun x hx e he hm=>(pmem e).2 (.inr hm)).snoc (x:=c.ax.aq[i]!)).2 _ his rfl ((pmem _).2 (.inl rfl))
     · exact fol.mono fun x hx e he hm=>(pmem e).2 (.inr hm)
     have:=inv.cnt
     rw [plen,bo];simp only [cf,cu];omega
   left
   have pu:=BS inv.ok op inv.ok.fit (t:=(bM f (c.ax.aq[i]!).2 c.ar).1) (n:=(c.ax.aq[i]!).1) t1 t2 n0 n1 fresh;have ap: ∀h:Int×Int,bP ds [((c.ax.aq[i]!).1,h)]=some (ds++[((c.ax.aq[i]!).1,h)]):=fun h=>dB (by simp;omega)
   have opn:=uY inv.ok.so;rw [dec_f op] at opn;constructor
   · unfold dT stP
     simp only [e1,cond_true,cg,aB,wn,pl,his,aeta,pu,ap,show ((18:Int) !=0)=true from rfl,cond_false]
   unfold cX stR
   simp only [aF,e1,cond_true,cg,aB,ceta,dq,wr,his,k0,aeta,bm,bq,cond_false,opn]
  |false=>
   right;refine ⟨k,a,ds,?_,?_,⟨inv.ok,inv.w2,?_,fol,inv.kl,inv.cnt⟩,by omega⟩
   · unfold dT stP
     simp only [e1,cond_true,cg,aB,wn,pl,his,show ((0:Int) !=0)=false from rfl,cond_false,sc]
   · unfold cX stR
     simp only [aF,e1,cond_true,cg,aB,ceta,dq,wr,his,k0,bq,cond_false,sc]
   rw [tk]
   exact (inv.new.snoc (x:=c.ax.aq[i]!)).1 his
theorem aWx:
 (qZ c ⟨f⟩=some (fC,18)/\nL c ⟨f⟩=some (fC,18))\/
 ∃c':aR,qZ c ⟨f⟩=some (c',0)/\nL c ⟨f⟩=some (c',0)/\bG c'/\c'.au.aa=f/\c'.ar=c.ar/\c'.ax=c.ax:=by
 have bd:=ok.bd;have f64:=fok.1;have run: ∀(d i k:Nat) (a:aP) (ds:List wN),c.ax.aq.length-i<=d->i<=c.ax.aq.length->PZ c f i k a ds->ds.length<=i->
  (aG dT (stP c f i a ds)=some (.done (fC,18))/\aG cX (stR c f i a ds)=some (fC,18))\/
  ∃c':aR,aG dT (stP c f i a ds)=some (.done (c',0))/\aG cX (stR c f i a ds)=some (c',0)/\bG c'/\c'.au.aa=f/\c'.ar=c.ar/\c'.ax=c.ax:=by
  have fin: ∀(k:Nat) (a:aP) (ds:List wN),PZ c f c.ax.aq.length k a ds-> ∃c':aR,aG dT (stP c f c.ax.aq.length a ds)=some (.done (c',0))/\aG cX (stR c f c.ax.aq.length a ds)=some (c',0)/\bG c'/\c'.au.aa=f/\c'.ar=c.ar/\c'.ax=c.ax:=by
   intro k a ds inv;have e1:decide ((c.ax.aq.length:Int)<(c.ax.aq.length:Int))=false:=dec_f (by omega)
   have hk:c.az.length-k=0:=by
    have:=inv.old
    rw [c6] at this
    have:c.az.drop k=[]:=this
    rw [List.drop_eq_nil_iff] at this;omega
   have new:=inv.new;rw [List.take_length] at new;refine ⟨⟨c.ar,⟨f⟩,c.ax,a,ds⟩,aL ?_,aL ?_,⟨ok.nowv,ok.now64,fok,ok.crt,inv.ok,inv.w2,?_,kn,new⟩,rfl,rfl,rfl⟩
   · unfold dT stP
     simp only [e1,cond_false]
   · unfold cX stR
     simp only [aF,e1,cond_false]
   have:=inv.cnt
   show a.aj.length=ds.length;omega
  intro d
  induction d with
  |zero=>
   intro i k a ds hd hi inv hds
   have:i=c.ax.aq.length:=by omega
   subst this;exact .inr (fin k a ds inv)
  |succ d ih=>
   intro i k a ds hd hi inv hds
   by_cases he:i=c.ax.aq.length
   · subst he;exact .inr (fin k a ds inv)
   rcases aFU ok fok kn inv (by omega) hds with ⟨h1,h2⟩|⟨k',a',ds',h1,h2,h3,h4⟩
   · exact .inl ⟨aL h1,aL h2⟩
   rw [bA h1,bA h2]
   exact ih (i+1) k' a' ds' (by omega) (by omega) h3 h4
 have start:=run c.ax.aq.length 0 0 c.ay [] (by omega) (by omega) ⟨ok.agd,ok.w200,rfl,by rw [cy,cy];exact ok.fol,by omega,by have:=ok.hd;simp;omega⟩ (by simp)
 have hc:iG c=some 0:=by rw [oR ok.fit,if_pos ok]
 have hf:fI ⟨f⟩=some 0:=by rw [kD];exact congrArg some (iH.2 fok)
 have tw:=nN ok;have tw':oG (aR.mk (c.ar.1,c.ar.2) (Field.mk c.au.aa) (bO.mk c.ax.ao c.ax.aq) (aP.mk (bD.mk c.ay.ai.ac c.ay.ai.ae c.ay.ai.af) c.ay.aj c.ay.am) c.az)=some c:=tw
 have first:aG lU (c.ax.aq,(c.ax.aq.length:Int),0,c.ar.1,c.ar.2,c.au.aa,c.ax.ao,c.ax.aq,c.ay.ai.ac,c.ay.ai.ae,c.ay.ai.af,c.ay.aj,c.ay.am,c.az,f,0,0,0)=
  aG lU (c.ax.aq,(c.ax.aq.length:Int),(c.ax.aq.length:Int),c.ar.1,c.ar.2,c.au.aa,c.ax.ao,c.ax.aq,c.ay.ai.ac,c.ay.ai.ae,c.ay.ai.af,c.ay.aj,c.ay.am,c.az,f,0,0,0):=by
  refine cB (body:=lU) (fun i=>(c.ax.aq,(c.ax.aq.length:Int),(i:Int),c.ar.1,c.ar.2,c.au.aa,c.ax.ao,c.ax.aq,c.ay.ai.ac,c.ay.ai.ae,c.ay.ai.af,c.ay.aj,c.ay.am,c.az,f,0,0,0)) c.ax.aq.length (fun i hi=>?_)
  have e1:decide ((i:Int)<(c.ax.aq.length:Int))=true:=aJ (by omega)
  unfold lU;simp only [e1,cond_true,aE c.ax.aq i hi,aB,oQ fok,dec_f (U4 fok (kn i hi).1),dec_f (U4 fok (kn i hi).2),cond_false,aU (show i<1000000000 by omega)]
 have second: ∀r,aG dT (stP c f 0 c.ay [])=some (.done r)->qZ c ⟨f⟩=some r:=by
  intro r hr;unfold qZ;simp only [hc,aB,show ((0:Int) !=0)=false from rfl,cond_false,hf,aF];rw [first]
  refine aL ?_;unfold lU;have e1:decide ((c.ax.aq.length:Int)<(c.ax.aq.length:Int))=false:=dec_f (by omega)
  simp only [aF,e1,cond_false,tw',aB,aV (show f.length<=1048576 by omega)]
  exact hr
 have third: ∀r,aG cX (stR c f 0 c.ay [])=some r->nL c ⟨f⟩=some r:=by
  intro r hr;unfold nL qK;simp only [lE ok,aB,aV (show f.length<=1048576 by omega)]
  exact hr
 rcases start with ⟨h1,h2⟩|⟨c',h1,h2,h3⟩
 · exact .inl ⟨second _ h1,third _ h2⟩
 exact .inr ⟨c',second _ h1,third _ h2,h3⟩
end
theorem pT (l:List (Int×Int)) (x:Int×Int) (hl:l.length<=1000000):eO l x=some (decide (x∈l)):=by
 unfold eO rZ;have key:=jK (body:=kW) (fun i=>(l,(l.length:Int),(i:Int),x)) l.length (fun i=>l[i]! =x) (fun i=>(i:Int)) (e:= -1) (fun i hi=>by
  have e1:decide ((i:Int)<(l.length:Int))=true:=aJ (by omega)
  unfold kW;simp only [e1,cond_true,aE l i hi,aB,aU (show i<1000000000 by omega)]
  generalize l[i]! =y;constructor
  · intro h;rw [eI (congrArg dw h.symm),eI (congrArg Prod.snd h.symm)];rfl
  · intro h
    by_cases h1:x.1=y.1
    · rw [eI h1,eB (fun h2=>h (dm h1.symm h2.symm))];rfl
    rw [eB h1];rfl) (by
  unfold kW
  have:decide ((l.length:Int)<(l.length:Int))=false:=dec_f (by omega)
  simp only [this,cond_false])
 rw [aF]
 by_cases hx:x∈l
 · obtain ⟨i,hi,he⟩:=aY.1 hx
   obtain ⟨k,h1,h2,h3⟩:=E2 (c:=fun i=>l[i]! =x) ⟨i,hi,he⟩
   have:=key.1 k h1 h2 h3
   rw [show ((0:Nat):Int)=0 from rfl] at this;rw [this,aJ hx];simp only [aB,aJ (show (0:Int)<=(k:Int) by omega)]
 have:=key.2 fun i hi he=>hx (aY.2 ⟨i,hi,he⟩)
 rw [show ((0:Nat):Int)=0 from rfl] at this;rw [this,dec_f hx];rfl
theorem L9 (l:List (Int×Int)) (x:Int×Int) (hl:l.length<=1000000):JL l x=some (decide (x∈l)):=by
 unfold JL;have key:=dM (body:=zZ) (fun i=>(l,(i:Int),x)) l.length (fun i=>l[i]! =x) (r:=true) (e:=false) (fun i hi=>by
  have e1:decide ((i:Int)<(l.length:Int))=true:=aJ (by omega)
  unfold zZ;simp only [aF,e1,cond_true,aE l i hi,aB,aU (show i<1000000000 by omega)]
  generalize l[i]! =y;constructor
  · intro h;rw [eI (congrArg dw h),eI (congrArg Prod.snd h)];rfl
  · intro h
    by_cases h1:y.1=x.1
    · rw [eI h1,eB (fun h2=>h (dm h1 h2))];rfl
    rw [eB h1];rfl) (by
  unfold zZ
  have:decide ((l.length:Int)<(l.length:Int))=false:=dec_f (by omega)
  simp only [aF,this,cond_false])
 by_cases hx:x∈l
 · rw [aJ hx];exact key.1 (aY.1 hx)
 rw [dec_f hx];exact key.2 fun i hi he=>hx (aY.2 ⟨i,hi,he⟩)
theorem aFV (x y:wN):((x.1==y.1)&&((x.2.1==y.2.1)&&(x.2.2==y.2.2)))=decide (x=y):=by
 rw [Bool.eq_iff_iff,decide_eq_true_iff];simp only [Bool.and_eq_true,beq_iff_eq];constructor
 · rintro ⟨h1,h2,h3⟩;exact dm h1 (dm h2 h3)
 rintro rfl;exact ⟨rfl,rfl,rfl⟩
theorem MA (a b:List wN) (hl:a.length<=1000000):yM ⟨a⟩ ⟨b⟩=some (decide (a=b)):=by
 unfold yM;simp only [aF]
 by_cases h:a.length=b.length
 case neg=>rw [cP (by omega),dec_f (fun k=>h (by rw [k]))];rfl
 rw [bT (by omega)]
 simp only [cond_false];have key:=dM (body:=uR) (fun i=>((i:Int),a,b)) a.length (fun i=> ¬a[i]! =b[i]!) (r:=false) (e:=true) (fun i hi=>by
  have e1:decide ((i:Int)<(a.length:Int))=true:=aJ (by omega)
  unfold uR;simp only [aF,e1,cond_true,aE a i hi,aE b i (by omega),aB,aU (show i<1000000000 by omega),aFV]
  constructor
  · intro h;rw [dec_f h];rfl
  · intro h;rw [aJ (cd.1 h)];rfl) (by
  unfold uR
  have:decide ((a.length:Int)<(a.length:Int))=false:=dec_f (by omega)
  simp only [aF,this,cond_false])
 by_cases he:a=b
 · rw [aJ he]
   exact key.2 fun i hi=>cd.2 (by rw [he])
 rw [dec_f he]
 refine key.1 (bu fun hx=>he (wB h fun i hi=>?_))
 exact bu fun hn=>hx ⟨i,hi,hn⟩
theorem U5 (a b:List wN) (hl:a.length<=1000000):mX a b=some (decide (a=b)):=by
 unfold mX;simp only [aF]
 by_cases h:a.length=b.length
 case neg=>rw [cP (by omega),dec_f (fun k=>h (by rw [k]))];rfl
 rw [bT (by omega)]
 simp only [cond_false];have key:=dM (body:=kG) (fun i=>(a,b,(a.length:Int),(i:Int))) a.length (fun i=> ¬a[i]! =b[i]!) (r:=false) (e:=true) (fun i hi=>by
  have e1:decide ((i:Int)<(a.length:Int))=true:=aJ (by omega)
  unfold kG;simp only [e1,cond_true,aE a i hi,aE b i (by omega),aB,aU (show i<1000000000 by omega),aFV]
  constructor
  · intro h;rw [dec_f h];rfl
  · intro h;rw [aJ (cd.1 h)];rfl) (by
  unfold kG
  have:decide ((a.length:Int)<(a.length:Int))=false:=dec_f (by omega)
  simp only [this,cond_false])
 by_cases he:a=b
 · rw [aJ he]
   exact key.2 fun i hi=>cd.2 (by rw [he])
 rw [dec_f he]
 refine key.1 (bu fun hx=>he (wB h fun i hi=>?_))
 exact bu fun hn=>hx ⟨i,hi,hn⟩
theorem aDt {cs:List wN} {m:Nat} {x:wN} (hx:x∈cs) (hne:x.1≠(cs[m]!).1):x∈cs.eraseIdx m:=by
 obtain ⟨j,hj,rfl⟩:=aY.1 hx;have hjm:j≠m:=fun h=>hne (by rw [h])
 rw [yT,ci]
 by_cases h:j<m
 · exact .inl (cH.2 ⟨j,h,hj,rfl⟩)
 right
 rw [aY];refine ⟨j- (m+1),by rw [bz];omega,?_⟩
 rw [pD]
 congr 1;omega
def kP (c0:aR) (f:List Pt) (es:List (Int×Int)) (i:Nat) (c:aR):=
 (es,c0.ax.aq,(c0.ax.aq.length:Int),(i:Int),c.ar.1,c.ar.2,c.au.aa,c.ax.ao,c.ax.aq,c.ay.ai.ac,c.ay.ai.ae,c.ay.ai.af,c.ay.aj,c.ay.am,c.az,f,(0:Int),(0:Int),(0:Int))
def kR (c0:aR) (f:List Pt) (es:List (Int×Int)) (i:Nat) (c:aR):=
 (es,(i:Int),c0.ar.1,c0.ar.2,c0.au.aa,c0.ax.ao,c0.ax.aq,c0.ay.ai.ac,c0.ay.ai.ae,c0.ay.ai.af,c0.ay.aj,c0.ay.am,c0.az,f,(0:Int),(0:Int),(0:Int),c.ar.1,c.ar.2,c.au.aa,c.ax.ao,c.ax.aq,c.ay.ai.ac,c.ay.ai.ae,c.ay.ai.af,c.ay.aj,c.ay.am,c.az)
def eP (es:List (Int×Int)) (i:Nat) (c:aR):=
 (es,(es.length:Int),(i:Int),c.ar.1,c.ar.2,c.au.aa,c.ax.ao,c.ax.aq,c.ay.ai.ac,c.ay.ai.ae,c.ay.ai.af,c.ay.aj,c.ay.am,c.az,(0:Int),(0:Int),(0:Int))
def eR (es:List (Int×Int)) (i:Nat) (c:aR):=
 (es,(i:Int),(0:Int),(0:Int),(0:Int),c.ar.1,c.ar.2,c.au.aa,c.ax.ao,c.ax.aq,c.ay.ai.ac,c.ay.ai.ae,c.ay.ai.af,c.ay.aj,c.ay.am,c.az)
def JZ (c:aR):Int:=c.ax.ao- (c.ax.aq.length:Int)
structure P0 (c:aR) (f:List Pt) (es:List (Int×Int)) (r:aR):Prop where
 has: ∀e∈es,A1 r.ax.aq e
 sub: ∀x∈r.ax.aq,x.2∈es
 ok:bG r
 fld:r.au.aa=f
 ar:r.ar=c.ar
 room:JZ c<=JZ r
def SS (c:aR) (k:Nat):Prop:=c.ax.aq.length<=k/\c.ax.ao<=k/\ ∀j,j<c.ay.ai.ac.length->c.ay.ai.ac[j]!<=k
theorem aX.len {l:List Pt} {t:Int×Int} {H:List Ev}: ∀{cs ds:List wN},aX l t H cs ds->ds.length<=cs.length
 | [],ds,h=>by rw [show ds=[] from h];exact bv _
 |x::cs,ds,h=>by
  cases hy:(bM l x.2 t).2 with
  |true=>
   obtain ⟨d,ds',rfl,_,_,h4⟩:=h.1 hy;exact Nat.succ_le_succ h4.len
  |false=>exact Nat.le_succ_of_le (h.2 hy).len
theorem SS.not_full {c:aR} (ok:bG c) {k:Nat} (h:SS c k) (hk:k<=199): ¬(JU c.ax\/ ¬DV c.ay.ai):=by
 obtain ⟨h1,h2,h3⟩:=h;have fl:=ok.fol.len;have hd:=ok.hd;have hl:=ok.agd.hl;have wl:=ok.agd.wl;have w2:=ok.w200;rintro (h|h)
 · rcases h with h|h<;>omega
 refine h ⟨by omega,?_⟩
 have:=h3 _ (GB ok.agd.so (by omega)).1
 omega
theorem SS.more {c c':aR} {k:Nat} (h:SS c k) {x:Int×Int} (hc:c'.ax=sT c.ax x) (hs:c'.ay.ai=c.ay.ai\/c'.ay.ai=iI c.ay.ai):SS c' (k+1):=by
 obtain ⟨h1,h2,h3⟩:=h;refine ⟨?_,?_,fun j hj=>?_⟩
 · rw [hc]
   show (c.ax.aq++[(c.ax.ao,x)]).length<=_;rw [bo,cp];omega
 · rw [hc]
   show c.ax.ao+1<=_;omega
 rcases hs with e|e
 · rw [e] at hj ⊢
   have:=h3 j hj;omega
 rw [e] at hj ⊢
 change j<(c.ay.ai.ac.set _ _).length at hj;rw [cb] at hj;show (c.ay.ai.ac.set (dI c.ay.ai) (c.ay.ai.ac[dI c.ay.ai]!+1))[j]!<=_;rw [aZ];split
 · rename_i h;have:=h3 _ h.2;omega
 have:=h3 j hj;omega
structure J0 (f:List Pt) (es:List (Int×Int)):Prop where
 len:es.length<=1000000
 cv: ∀x∈es,fY x
 kn: ∀x∈es,lD f x
theorem aFW {c0:aR} (ok0:bG c0) {f:List Pt} {es:List (Int×Int)} (eok:J0 f es):
 ∀(d i:Nat) (c:aR),c0.ax.aq.length-i<=d->i<=c0.ax.aq.length->bG c->(∀x∈c0.ax.aq.drop i,x∈c.ax.aq)->(∀x∈c.ax.aq,x∈c0.ax.aq.drop i\/x.2∈es)->
  ∃c':aR,aG eQ (kP c0 f es i c)=aG eQ (kP c0 f es c0.ax.aq.length c')/\aG dV (kR c0 f es i c)=aG dV (kR c0 f es c0.ax.aq.length c')/\bG c'/\(∀x∈c'.ax.aq,x.2∈es)/\c'.au=c.au/\c'.ar=c.ar/\JZ c<=JZ c':=by
 have bd:=ok0.bd;intro d
 induction d with
 |zero=>
  intro i c hd hi ok h1 h2
  have:i=c0.ax.aq.length:=by omega
  subst this;refine ⟨c,rfl,rfl,ok,fun x hx=>?_,rfl,rfl,db _⟩
  rcases h2 x hx with h|h
  · rw [c6] at h;cases h
  exact h
 |succ d ih=>
  intro i c hd hi ok h1 h2
  by_cases he:i=c0.ax.aq.length
  · subst he
    refine ⟨c,rfl,rfl,ok,fun x hx=>?_,rfl,rfl,db _⟩
    rcases h2 x hx with h|h
    · rw [c6] at h;cases h
    exact h
  have hi':i<c0.ax.aq.length:=by omega
  have e1:decide ((i:Int)<(c0.ax.aq.length:Int))=true:=aJ (by omega)
  have sc:=aU (show i<1000000000 by omega)
  have cg:=aE c0.ax.aq i hi';have dr:=xM hi';have ceta:(aR.mk (c.ar.1,c.ar.2) (Field.mk c.au.aa) (bO.mk c.ax.ao c.ax.aq) (aP.mk (bD.mk c.ay.ai.ac c.ay.ai.ae c.ay.ai.af) c.ay.aj c.ay.am) c.az)=c:=rfl
  by_cases hin:(c0.ax.aq[i]!).2∈es
  · have s1:eQ (kP c0 f es i c)=some (.next (kP c0 f es (i+1) c)):=by
     unfold eQ kP;simp only [e1,cond_true,cg,aB,pT _ _ eok.len,aJ hin,bm,cond_false,sc]
    have s2:dV (kR c0 f es i c)=some (.next (kR c0 f es (i+1) c)):=by
     unfold dV kR;simp only [aF,e1,cond_true,cg,aB,L9 _ _ eok.len,aJ hin,bm,cond_false,sc]
    rw [bA s1,bA s2];refine ih (i+1) c (by omega) (by omega) ok (fun x hx=>h1 x (by rw [dr];exact bn _ hx)) (fun x hx=>?_)
    rcases h2 x hx with h|h
    · rw [dr] at h
      rcases dv.1 h with rfl|h
      · exact .inr hin
      exact .inl h
    exact .inr h
  have hm:=h1 (c0.ax.aq[i]!) (by rw [dr];exact ck)
  obtain ⟨m,hm1,hm2⟩:=aY.1 hm;obtain ⟨c',r1,r2,r3,r4,r5,r6⟩:=aTT ok hm1;have rt:=MM ok hm1 r1;rw [hm2] at r2 rt;have s1:eQ (kP c0 f es i c)=some (.next (kP c0 f es (i+1) c')):=by
   unfold eQ kP;simp only [e1,cond_true,cg,aB,pT _ _ eok.len,dec_f hin,bq,sc,ceta,rt]
  have s2:dV (kR c0 f es i c)=some (.next (kR c0 f es (i+1) c')):=by
   unfold dV kR;simp only [aF,e1,cond_true,cg,aB,L9 _ _ eok.len,dec_f hin,bq,sc,ceta,r2]
  rw [bA s1,bA s2];have cl:c'.ax.aq=c.ax.aq.eraseIdx m:=by rw [r6];rfl
  have hroom:JZ c<=JZ c':=by
   unfold JZ;rw [r6];show _<=c.ax.ao- (((c.ax.aq.eraseIdx m).length:Nat):Int);rw [List.length_eraseIdx_of_lt hm1];omega
  have hs:(∀x∈c0.ax.aq.drop (i+1),x∈c'.ax.aq)/\(∀x∈c'.ax.aq,x∈c0.ax.aq.drop (i+1)\/x.2∈es):=by
   refine ⟨fun x hx=>?_,fun x hx=>?_⟩
   · rw [cl]
     refine aDt (h1 x (by rw [dr];exact bn _ hx)) ?_
     rw [hm2];exact JY ok0 hx hi'
   rw [cl] at hx
   obtain ⟨a1,a2⟩:=DB ok.crt_up hm1 hx;rw [hm2] at a2;rcases h2 x a1 with h|h
   · rw [dr] at h
     rcases dv.1 h with rfl|h
     · exact absurd rfl a2
     exact .inl h
   exact .inr h
  obtain ⟨d',q1,q2,q3,q4,q5,q6,q7⟩:=ih (i+1) c' (by omega) (by omega) r3 hs.1 hs.2
  exact ⟨d',q1,q2,q3,q4,q5.trans r4,q6.trans r5,by omega⟩
theorem YS {f:List Pt} (_fok:cE f) {es:List (Int×Int)} (eok:J0 f es):
 ∀(d i:Nat) (c:aR),es.length-i<=d->i<=es.length->bG c->c.au.aa=f->(∀x∈c.ax.aq,x.2∈es)->(∀j,j<i->A1 c.ax.aq es[j]!)->
  ∃r:aR×Int,aG fO (eP es i c)=some (.done r)/\aG eG (eR es i c)=some (.done r)/\(r.2=0/\P0 c f es r.1\/r=(fC,18))/\(∀k,SS c k->k+(es.length-i)<=199->r.2=0):=by
 have el:=eok.len;have fin: ∀c:aR,bG c->c.au.aa=f->(∀x∈c.ax.aq,x.2∈es)->(∀j,j<es.length->A1 c.ax.aq es[j]!)-> ∃r:aR×Int,aG fO (eP es es.length c)=some (.done r)/\aG eG (eR es es.length c)=some (.done r)/\(r.2=0/\P0 c f es r.1\/r=(fC,18))/\r.2=0:=by
  intro c ok hf hs hh;have e1:decide ((es.length:Int)<(es.length:Int))=false:=dec_f (by omega)
  refine ⟨(c,0),aL ?_,aL ?_,.inl ⟨rfl,fun e he=>by obtain ⟨j,hj,q⟩:=aY.1 he;rw [<- q];exact hh j hj,hs,ok,hf,rfl,db _⟩,rfl⟩
  · unfold fO eP
    simp only [e1,cond_false]
  unfold eG eR
  simp only [aF,e1,cond_false]
 intro d
 induction d with
 |zero=>
  intro i c hd hi ok hf hs hh
  have:i=es.length:=by omega
  subst this;obtain ⟨r,q1,q2,q3,q4⟩:=fin c ok hf hs hh;exact ⟨r,q1,q2,q3,fun _ _ _=>q4⟩
 |succ d ih=>
  intro i c hd hi ok hf hs hh
  by_cases he:i=es.length
  · subst he
    obtain ⟨r,q1,q2,q3,q4⟩:=fin c ok hf hs hh;exact ⟨r,q1,q2,q3,fun _ _ _=>q4⟩
  have bd:=ok.bd;have hi':i<es.length:=by omega
  have e1:decide ((i:Int)<(es.length:Int))=true:=aJ (by omega)
  have sc:=aU (show i<1000000000 by omega)
  have cg:=aE es i hi';have ceta:(aR.mk (c.ar.1,c.ar.2) (Field.mk c.au.aa) (bO.mk c.ax.ao c.ax.aq) (aP.mk (bD.mk c.ay.ai.ac c.ay.ai.ae c.ay.ai.af) c.ay.aj c.ay.am) c.az)=c:=rfl;have ceta2:bO.mk c.ax.ao c.ax.aq=c.ax:=rfl;have hc:=YL c.ax.aq es[i]! (by omega)
  have hr:=C9 c.ax es[i]! (by omega)
  by_cases hin:A1 c.ax.aq es[i]!
  · have s1:fO (eP es i c)=some (.next (eP es (i+1) c)):=by
     unfold fO eP;simp only [e1,cond_true,cg,aB,LC,hc,aJ hin,sc]
    have s2:eG (eR es i c)=some (.next (eR es (i+1) c)):=by
     unfold eG eR;simp only [aF,e1,cond_true,cg,aB,ceta2,hr,aJ hin,sc]
    rw [bA s1,bA s2];obtain ⟨r,q1,q2,q3,q4⟩:=ih (i+1) c (by omega) (by omega) ok hf hs (fun j hj=>if q:j=i then by rw [q];exact hin else hh j (by omega))
    exact ⟨r,q1,q2,q3,fun k hk hl=>q4 k hk (by omega)⟩
  have hb:lD c.au.aa es[i]!:=by rw [hf];exact eok.kn _ (bI hi')
  rcases aM5 ok (eok.cv _ (bI hi')) hb hin with ⟨r1,r2,full⟩|⟨c',r1,r2,r3,r4,r5,r6,r7⟩
  · refine ⟨(fC,18),aL ?_,aL ?_,.inr rfl,fun k hk hl=>absurd full (hk.not_full ok (by omega))⟩
    · unfold fO eP
      simp only [e1,cond_true,cg,aB,LC,hc,dec_f hin,cond_false,ceta,r1,show ((18:Int) !=0)=true from rfl]
    unfold eG eR
    simp only [aF,e1,cond_true,cg,aB,ceta2,hr,dec_f hin,cond_false,ceta,r2,show ((18:Int) !=0)=true from rfl]
  have s1:fO (eP es i c)=some (.next (eP es (i+1) c')):=by
   unfold fO eP;simp only [e1,cond_true,cg,aB,LC,hc,dec_f hin,cond_false,ceta,r1,show ((0:Int) !=0)=false from rfl,sc]
  have s2:eG (eR es i c)=some (.next (eR es (i+1) c')):=by
   unfold eG eR;simp only [aF,e1,cond_true,cg,aB,ceta2,hr,dec_f hin,cond_false,ceta,r2,show ((0:Int) !=0)=false from rfl,sc]
  rw [bA s1,bA s2];obtain ⟨r,q1,q2,q3,q6⟩:=ih (i+1) c' (by omega) (by omega) r3 (by rw [r4,hf]) (fun x hx=>by
   rw [r6] at hx;rcases ci.1 (show x∈c.ax.aq++[(c.ax.ao,es[i]!)] from hx) with h|h
   · exact hs x h
   · rw [List.mem_singleton.1 h];exact bI hi') (fun j hj=>by
   rw [r6];show A1 (c.ax.aq++[(c.ax.ao,es[i]!)]) _
   by_cases q:j=i
   · rw [q];exact ⟨c.ax.aq.length,by rw [bo,cp];omega,by rw [gN (bv _),Nat.sub_self];rfl⟩
   obtain ⟨w,w1,w2⟩:=hh j (by omega)
   exact ⟨w,by rw [bo];omega,by rw [eX w1];exact w2⟩)
  refine ⟨r,q1,q2,q3.imp (fun ⟨q4,q5⟩=>⟨q4,q5.has,q5.sub,q5.ok,q5.fld,q5.ar.trans r5,c7 ?_ q5.room⟩) id,fun k hk hl=>q6 (k+1) (hk.more r6 r7) (by omega)⟩
  unfold JZ;rw [r6];show _<=(c.ax.ao+1) - (((c.ax.aq++[(c.ax.ao,es[i]!)]).length:Nat):Int);rw [bo,cp];omega
theorem aM7 {c:aR} (ok:bG c) {f:List Pt} (fok:cE f) {es:List (Int×Int)} (eok:J0 f es):
 ∃r:aR×Int,vR c ⟨f⟩ es=some r/\nM c ⟨f⟩ es=some r/\(r.2=0/\P0 c f es r.1\/r=(fC,18)):=by
 have f64:=fok.1;obtain ⟨c',g1,g2,g3,g4,g5,g6,g7⟩:=aFW ok eok c.ax.aq.length 0 c (by omega) (by omega) ok (fun x hx=>by rwa [cy] at hx) (fun x hx=> .inl (by rwa [cy]))
 have bd:=g3.bd;have e1:decide ((c.ax.aq.length:Int)<(c.ax.aq.length:Int))=false:=dec_f (by omega)
 have start1:vR c ⟨f⟩ es=aG eQ (kP c f es 0 c):=rfl;have start2:nM c ⟨f⟩ es=aG dV (kR c f es 0 c):=by
  unfold nM;simp only [lE ok,aB];rfl
 rw [start1,start2,g1,g2];have eq1:=U5 c'.au.aa f (by omega)
 have eq2:=MA c'.au.aa f (by omega)
 have ceta:(aR.mk (c'.ar.1,c'.ar.2) (Field.mk c'.au.aa) (bO.mk c'.ax.ao c'.ax.aq) (aP.mk (bD.mk c'.ay.ai.ac c'.ay.ai.ae c'.ay.ai.af) c'.ay.aj c'.ay.am) c'.az)=c':=rfl
 by_cases hf:c'.au.aa=f
 · obtain ⟨r,i1,i2,i3,_⟩:=YS fok eok es.length 0 c' (by omega) (by omega) g3 hf g4 (fun j hj=>absurd hj (dj j))
   refine ⟨r,aL ?_,aL ?_,i3.imp (fun ⟨q4,q5⟩=>⟨q4,q5.has,q5.sub,q5.ok,q5.fld,q5.ar.trans g6,c7 g7 q5.room⟩) id⟩
   · unfold eQ kP
     simp only [e1,cond_false,eq1,aJ hf,aB,bm];exact i1
   unfold dV kR
   simp only [aF,e1,cond_false,eq2,aJ hf,aB,bm];exact i2
 have kn: ∀i,i<c'.ax.aq.length->lD f (c'.ax.aq[i]!).2:=fun i hi=>eok.kn _ (g4 _ (bI hi))
 rcases aWx g3 fok kn with ⟨a1,a2⟩|⟨c2,a1,a2,a3,a4,a5,a6⟩
 · refine ⟨(fC,18),aL ?_,aL ?_,.inr rfl⟩
   · unfold eQ kP
     simp only [e1,cond_false,eq1,dec_f hf,aB,bq,cond_true,ceta,a1,show ((18:Int) !=0)=true from rfl]
   unfold dV kR
   simp only [aF,e1,cond_false,eq2,dec_f hf,aB,bq,cond_true,ceta,a2,show ((18:Int) !=0)=true from rfl]
 obtain ⟨r,i1,i2,i3,_⟩:=YS fok eok es.length 0 c2 (by omega) (by omega) a3 a4 (by rw [a6];exact g4) (fun j hj=>absurd hj (dj j))
 refine ⟨r,aL ?_,aL ?_,i3.imp (fun ⟨q4,q5⟩=>⟨q4,q5.has,q5.sub,q5.ok,q5.fld,(q5.ar.trans a5).trans g6,c7 (c7 g7 (by unfold JZ;rw [a6];exact db _)) q5.room⟩) id⟩
 · unfold eQ kP
   simp only [e1,cond_false,eq1,dec_f hf,aB,bq,cond_true,ceta,a1,show ((0:Int) !=0)=false from rfl];exact i1
 unfold dV kR
 simp only [aF,e1,cond_false,eq2,dec_f hf,aB,bq,cond_true,ceta,a2,show ((0:Int) !=0)=false from rfl];exact i2
theorem P1 {α:Type} [Inhabited α] {l:List α}:l.Nodup↔ ∀k,k<l.length->l[k]!∉l.take k:=by
 rw [iW];constructor
 · intro h k hk hm
   obtain ⟨i,h1,h2,h3⟩:=cH.1 hm;exact h i k h1 hk h3
 intro h i j hij hj he
 exact h j hj (cH.2 ⟨i,hij,by omega,he⟩)
theorem FC {α:Type} [Inhabited α] {l:List α} {P:α->Prop}:(∀x∈l,P x)↔ ∀i,i<l.length->P l[i]!:=by
 constructor
 · intro h i hi;exact h _ (bI hi)
 intro h x hx
 obtain ⟨i,hi,rfl⟩:=aY.1 hx;exact h i hi
theorem qM {σ ρ:Type} {body:σ->Option (bR σ ρ)} (st:Nat->σ) (n:Nat) (P:Nat->Prop) {r e:ρ} (h: ∀i,i<n->(¬P i->body (st i)=some (.done r))/\(P i->body (st i)=some (.next (st (i+1)))))
 (hend:body (st n)=some (.done e)):aG body (st 0)=some (if∀i,i<n->P i then e else r):=by
 have key:=dM (body:=body) st n (fun i=> ¬P i) (r:=r) (e:=e) (fun i hi=>⟨(h i hi).1,fun hn=>(h i hi).2 (cd.1 hn)⟩) hend
 by_cases hx: ∀i,i<n->P i
 · rw [if_pos hx];exact key.2 fun i hi=>cd.2 (hx i hi)
 rw [if_neg hx]
 obtain ⟨i,h⟩:=Classical.not_forall.1 hx;obtain ⟨hi,hx⟩:=Classical.not_imp.1 h;exact key.1 ⟨i,hi,hx⟩
theorem G8 {f:List Pt} (fok:cE f) (id:Int): ∃p e,yD ⟨f⟩ id=some (p,e)/\(e=0↔kJ f id):=by
 have h1:=fok.1;have hc:fI ⟨f⟩=some 0:=by rw [kD];exact congrArg some (iH.2 fok)
 have bs:=AF f id (by omega) (fun i j=>hJ fok.2.2)
 unfold yD mO yC;rw [U1];simp only [hc,aB,show ((0:Int) !=0)=false from rfl,cond_false]
 by_cases h:kJ f id
 · obtain ⟨k,hk,he⟩:=h
   rw [bs.1 k hk he];refine ⟨f[k]!,0,?_,fun _=>⟨k,hk,he⟩,fun _=>rfl⟩
   simp only [aB,bm,cond_false,show ((0:Int) !=0)=false from rfl,aE f k hk]
 obtain ⟨m,_,_,_,e⟩:=bs.2 (fun k hk he=>h ⟨k,hk,he⟩)
 rw [e];exact ⟨(0,0,0),6,rfl,fun h=>(by cases h),fun k=>absurd k h⟩
structure P2 (c:aR):Prop where
 f:c.au.aa.length<=1000000
 l:c.ax.aq.length<=1000000
 d:c.az.length<=1000000
 h:c.ay.aj.length<=1000000
 w:c.ay.am.length<=1000000
 s1:c.ay.ai.ac.length<=1000000
 s2:c.ay.ai.ae.length<=1000000
 s3:c.ay.ai.af.length<=1000000
theorem bG.short {c:aR} (ok:bG c):P2 c:=by
 have bd:=ok.bd;have ab:=ok.agd.bd;have sl:=ok.agd.so.fl;have sn:=ok.agd.so.n2;have su:=ok.agd.so.ul;exact ⟨by omega,by omega,by omega,by omega,by omega,by omega,by omega,by omega⟩
theorem Q1:P2 fC:=⟨by decide,by decide,by decide,by decide,by decide,by decide,by decide,by decide⟩
theorem LF (l:List Int) (hl:l.length<=1000000):mC l l=some true:=by
 unfold mC;rw [bT rfl];refine (cB (body:=nS) (fun i=>(l,l,(i:Int))) l.length fun i hi=>?_).trans (aL ?_)
 · have e1:decide ((i:Int)<(l.length:Int))=true:=aJ (by omega)
   unfold nS;simp only [aF,e1,cond_true,aE l i hi,aB,aU (show i<1000000000 by omega),bT rfl,cond_false]
 unfold nS
 have:decide ((l.length:Int)<(l.length:Int))=false:=dec_f (by omega)
 simp only [aF,this,cond_false]
theorem aAU (l:List Bool) (hl:l.length<=1000000):qA l l=some true:=by
 unfold qA;rw [bT rfl];refine (cB (body:=mZ) (fun i=>(l,l,(i:Int))) l.length fun i hi=>?_).trans (aL ?_)
 · have e1:decide ((i:Int)<(l.length:Int))=true:=aJ (by omega)
   unfold mZ;simp only [aF,e1,cond_true,aE l i hi,aB,aU (show i<1000000000 by omega),beq_self_eq_true,bm,cond_false]
 unfold mZ
 have:decide ((l.length:Int)<(l.length:Int))=false:=dec_f (by omega)
 simp only [aF,this,cond_false]
theorem aAV (c:bO) (hl:c.aq.length<=1000000):CZ c c=some true:=by
 unfold CZ;rw [bT rfl,bT rfl];refine (cB (body:=uU) (fun i=>((i:Int),c.ao,c.aq,c.ao,c.aq)) c.aq.length fun i hi=>?_).trans (aL ?_)
 · have e1:decide ((i:Int)<(c.aq.length:Int))=true:=aJ (by omega)
   unfold uU;simp only [aF,e1,cond_true,aE c.aq i hi,aB,aU (show i<1000000000 by omega),beq_self_eq_true,cz,bm,cond_false]
 unfold uU
 have:decide ((c.aq.length:Int)<(c.aq.length:Int))=false:=dec_f (by omega)
 simp only [aF,this,cond_false]
theorem YT (a:aP) (h1:a.aj.length<=1000000) (h2:a.am.length<=1000000) (h3:a.ai.ac.length<=1000000) (h4:a.ai.ae.length<=1000000) (h5:a.ai.af.length<=1000000):C0 a a=some true:=by
 unfold C0 HZ;simp only [LF _ h3,aAU _ h4,LF _ h5,LF _ h2,aB,cond_true,bm,cond_false];rw [bT rfl];refine (cB (body:=uW) (fun i=>((i:Int),a.ai.ac,a.ai.ae,a.ai.af,a.aj,a.am,a.ai.ac,a.ai.ae,a.ai.af,a.aj,a.am)) a.aj.length fun i hi=>?_).trans (aL ?_)
 · have e1:decide ((i:Int)<(a.aj.length:Int))=true:=aJ (by omega)
   unfold uW;simp only [aF,e1,cond_true,aE a.aj i hi,aB,aU (show i<1000000000 by omega),beq_self_eq_true,cz,bm,cond_false]
 unfold uW
 have:decide ((a.aj.length:Int)<(a.aj.length:Int))=false:=dec_f (by omega)
 simp only [aF,this,cond_false]
theorem aAW {c:aR} (sh:P2 c):C1 c c=some true:=by
 have hd:=sh.d;unfold C1;simp only [beq_self_eq_true,cz,bm,cond_false,MA c.au.aa c.au.aa sh.f,aAV _ sh.l,YT _ sh.h sh.w sh.s1 sh.s2 sh.s3,aB,aJ];rw [bT rfl]
 refine (cB (body:=uX) (fun i=>((i:Int),c.ar.1,c.ar.2,c.au.aa,c.ax.ao,c.ax.aq,c.ay.ai.ac,c.ay.ai.ae,c.ay.ai.af,c.ay.aj,c.ay.am,c.az,c.ar.1,c.ar.2,c.au.aa,c.ax.ao,c.ax.aq,c.ay.ai.ac,c.ay.ai.ae,c.ay.ai.af,c.ay.aj,c.ay.am,c.az)) c.az.length fun i hi=>?_).trans (aL ?_)
 · have e1:decide ((i:Int)<(c.az.length:Int))=true:=aJ (by omega)
   unfold uX;simp only [aF,e1,cond_true,aE c.az i hi,aB,aU (show i<1000000000 by omega),beq_self_eq_true,cz,bm,cond_false]
 unfold uX
 have:decide ((c.az.length:Int)<(c.az.length:Int))=false:=dec_f (by omega)
 simp only [aF,this,cond_false]
structure aAX (c:aR):Prop where
 ar:tB c.ar
 at64: ∀w,w<c.ay.aj.length->tB ((c.ay.aj[w]!).1,(c.ay.aj[w]!).2.1)
theorem YU (f:Field):vM f=some true\/(vM f=some false/\f.aa.length<=70):=by
 unfold vM
 simp only [aF]
 by_cases h1:16<f.aa.length
 · rw [aJ (show (16:Int)<(f.aa.length:Int) by omega)]
   by_cases h2:f.aa.length<64
   · rw [aJ (show (f.aa.length:Int)<64 by omega)];exact .inl rfl
   rw [dec_f (show¬(f.aa.length:Int)<64 by omega)]
   by_cases h3:70<f.aa.length
   · rw [aJ (show (70:Int)<(f.aa.length:Int) by omega)];exact .inl rfl
   rw [dec_f (show¬(70:Int)<(f.aa.length:Int) by omega)];exact .inr ⟨rfl,by omega⟩
 rw [dec_f (show¬(16:Int)<(f.aa.length:Int) by omega),dec_f (show¬(70:Int)<(f.aa.length:Int) by omega)]
 exact .inr ⟨rfl,by omega⟩
theorem YV (c:aR):vN c=some true\/(vN c=some false/\P2 c):=by
 unfold vN ET ES
 simp only [aF]
 by_cases h1:40<c.ax.aq.length
 · rw [aJ (show (40:Int)<(c.ax.aq.length:Int) by omega)];exact .inl rfl
 rw [dec_f (show¬(40:Int)<(c.ax.aq.length:Int) by omega)]
 by_cases h2:40<c.az.length
 · rw [aJ (show (40:Int)<(c.az.length:Int) by omega)];exact .inl rfl
 rw [dec_f (show¬(40:Int)<(c.az.length:Int) by omega)]
 rcases YU c.au with e|⟨e,hf⟩
 · rw [e];exact .inl rfl
 rw [e];simp only [cond_false,aB]
 by_cases a1:210<c.ay.ai.ac.length
 · rw [aJ (show (210:Int)<(c.ay.ai.ac.length:Int) by omega)];exact .inl rfl
 rw [dec_f (show¬(210:Int)<(c.ay.ai.ac.length:Int) by omega)]
 by_cases a2:210<c.ay.ai.ae.length
 · rw [aJ (show (210:Int)<(c.ay.ai.ae.length:Int) by omega)];exact .inl rfl
 rw [dec_f (show¬(210:Int)<(c.ay.ai.ae.length:Int) by omega)]
 by_cases a3:210<c.ay.ai.af.length
 · rw [aJ (show (210:Int)<(c.ay.ai.af.length:Int) by omega)];exact .inl rfl
 rw [dec_f (show¬(210:Int)<(c.ay.ai.af.length:Int) by omega)]
 by_cases a4:210<c.ay.aj.length
 · rw [aJ (show (210:Int)<(c.ay.aj.length:Int) by omega)];exact .inl rfl
 rw [dec_f (show¬(210:Int)<(c.ay.aj.length:Int) by omega)]
 by_cases a5:210<c.ay.am.length
 · rw [aJ (show (210:Int)<(c.ay.am.length:Int) by omega)];exact .inl rfl
 rw [dec_f (show¬(210:Int)<(c.ay.am.length:Int) by omega)]
 exact .inr ⟨rfl,⟨by omega,by omega,by omega,by omega,by omega,by omega,by omega,by omega⟩⟩
theorem aAY {c:aR} (sh:P2 c):jW c=some c:=by
 obtain ⟨h1,h2,h3,h4,h5,h6,h7,h8⟩:=sh;unfold jW qK qL mU oB;simp only [aV (show c.au.aa.length<=1048576 by omega),aV (show c.ax.aq.length<=1048576 by omega),aV (show c.az.length<=1048576 by omega),aV (show c.ay.aj.length<=1048576 by omega),aV (show c.ay.am.length<=1048576 by omega),
  aV (show c.ay.ai.ac.length<=1048576 by omega),aV (show c.ay.ai.ae.length<=1048576 by omega),aV (show c.ay.ai.af.length<=1048576 by omega),aB]
theorem aM8 (p q:Pt) (t:Int×Int):SC p q t=(p.2.1-q.2.1)*t.2+(p.2.2-q.2.2)*t.1:=rfl
theorem MN {p q:Pt} {t:Int×Int} (hp:iV p) (hq:iV q) (ht:tB t) (hr:cQ t):rY p q t=some (decide (hY p q t),if p.1=q.1 then 2 else 0)\/(p.1=q.1/\rY p q t=some (false,2)):=by
 unfold rY;rw [AV ht,if_pos ⟨hp,hq,hr⟩]
 by_cases h:p.1=q.1
 · right;simp [h]
 left
 simp only [h,if_false,aB,AC hp hq ht]
 have:decide (0<aAG p q t)=decide (hY p q t):=by simp only [O7]
 simp [this]
end Go.Proofs.YtbgoiokedpjgbaaGreat
namespace Go.Proofs.YtbgoiokedpjgbaaGreat
theorem yV {α:Type} [BEq α] [LawfulBEq α]: ∀{a b:List α},a.Nodup->(∀x∈a,x∈b)->b.length<=a.length->a.Perm b
 | [],b,_,_,hl=>by
  rw [List.eq_nil_of_length_eq_zero (show b.length=0 by simpa using hl)]
 |x::a,b,hd,h,hl=>by
  rw [cj] at hd;have hx:=h x ck;have ih:=yV (a:=a) (b:=b.erase x) hd.2 (fun y hy=>by
   rw [List.mem_erase_of_ne (fun e=>hd.1 (by rw [<- e];exact hy))]
   exact h y (bn _ hy)) (by
   rw [List.length_erase_of_mem hx];rw [cf] at hl
   omega)
  exact (List.Perm.cons x ih).trans (List.perm_cons_erase hx).symm
theorem DC {α β:Type} {f:α->β}: ∀{l:List α},l.Nodup->(∀x∈l,∀y∈l,f x=f y->x=y)->(l.map f).Nodup
 | [],_,_=>List.nodup_nil
 |x::l,h,hi=>by
  rw [cj] at h;rw [List.map_cons,cj];refine ⟨fun hm=>?_,DC h.2 fun y hy z hz=>hi y (bn _ hy) z (bn _ hz)⟩
  obtain ⟨y,hy,e⟩:=cw.1 hm
  have:=hi y (bn _ hy) x ck e
  rw [this] at hy;exact h.1 hy
end Go.Proofs.YtbgoiokedpjgbaaGreat
namespace Go.Proofs.YtbgoiokedpjgbaaGreat
open Go.Vm Classical
def LG (l:List Int) (k:Nat):List (Int×Int):=(dp k).map fun i=>(l[i+1]!,l[i / 2]!)
abbrev FD (l:List Int):List (Int×Int):=LG l (l.length-1)
theorem IG (l:List Int) (k:Nat):(LG l k).length=k:=by unfold LG;rw [di,dd]
theorem MB (l:List Int) {k i:Nat} (h:i<k):(LG l k)[i]! =(l[i+1]!,l[i / 2]!):=by
 rw [getElem!_pos _ i (by rw [IG];exact h)]
 unfold LG;rw [List.getElem_map,List.getElem_range]
theorem YW {l:List Int} (hd:l.Nodup):(FD l).Nodup:=by
 unfold FD LG;refine DC dh fun i hi j hj h=>?_
 rw [cm] at hi hj;have h1:l[i+1]! =l[j+1]!:=congrArg dw h;have h2:=iW.1 hd;rcases bw i j with k|k|k
 · exact absurd h1 (h2 (i+1) (j+1) (by omega) (by omega))
 · exact k
 exact absurd h1.symm (h2 (j+1) (i+1) (by omega) (by omega))
theorem YX (l:List Int) (x:Int) (hl:l.length<=1000000):
 (∀k,k<l.length->l[k]! =x->(∀j,j<k->l[j]!≠x)->jP l x=some (k:Int))/\((∀k,k<l.length->l[k]!≠x)->jP l x=some (-1)):=by
 have k1:=jK (body:=lK) (fun i=>(l,x,(l.length:Int),(i:Int))) l.length (fun i=>l[i]! =x) (fun i=>(i:Int)) (e:= -1) (fun i hi=>by
  unfold lK;simp only [aJ (show (i:Int)<(l.length:Int) by omega),cond_true,aE l i hi,aB,aU (show i<1000000000 by omega)]
  refine ⟨fun h=>?_,fun h=>?_⟩
  · rw [eI h.symm];rfl
  · rw [eB (fun k=>h k.symm)];rfl) (by
  unfold lK;simp only [dec_f (show¬(l.length:Int)<(l.length:Int) by omega),cond_false])
 exact ⟨fun k hk h1 h2=>k1.1 k hk h1 h2,fun h=>k1.2 h⟩
theorem aM9 {f:List Pt} (fok:cE f) {t:Int×Int} (r64:tB t) {x:Int×Int} (hb:lD f x):CW x ⟨f⟩ t=some (decide (hY (iT f x.2) (iT f x.1) t)):=by
 obtain ⟨h1,h2⟩:=hb;obtain ⟨j,j1,j2,j3⟩:=DA fok h1;obtain ⟨k,k1,k2,k3⟩:=DA fok h2;unfold CW;simp only [j2,k2,aB,aE f j j1,aE f k k1,j3,k3,O8 (fT fok h2).1 (fT fok h1).1 r64]
def rG (f:List Pt):List Int:=f.map fun p=>p.1
theorem ST {f:List Pt} (h:gS f):(rG f).Nodup:=by
 refine DC ?_ ?_
 · exact iW.2 fun i j hij hj e=>by have:=hJ h hij hj;rw [e] at this;omega
 intro x hx y hy e
 obtain ⟨i,hi,rfl⟩:=aY.1 hx;obtain ⟨j,hj,rfl⟩:=aY.1 hy;rw [IC h hi hj e]
theorem J1 {f:List Pt} {id:Int}:id∈rG f↔kJ f id:=by
 unfold rG kJ;rw [cw];constructor
 · rintro ⟨p,hp,rfl⟩
   obtain ⟨i,hi,rfl⟩:=aY.1 hp;exact ⟨i,hi,rfl⟩
 rintro ⟨i,hi,rfl⟩
 exact ⟨f[i]!,bI hi,rfl⟩
structure yW (k:G0):Prop where
 clk:bG k.be
 perm:(rG k.be.au.aa).Perm k.aj
 cert:(k.be.ax.aq.map fun x=>x.2).Perm (FD k.aj)
 lead: ∀e∈FD k.aj,hY (iT k.be.au.aa e.2) (iT k.be.au.aa e.1) k.be.ar
theorem MC {c:bO} (ok:fK c):(c.aq.map fun x=>x.2).Nodup:=by
 refine DC ?_ ?_
 · exact iW.2 fun i j hij hj e=>ok.nd i j hij hj (by rw [e])
 intro x hx y hy e
 obtain ⟨i,hi,rfl⟩:=aY.1 hx;obtain ⟨j,hj,rfl⟩:=aY.1 hy;rcases bw i j with k|k|k
 · exact absurd e (ok.nd i j k hj)
 · rw [k]
 exact absurd e.symm (ok.nd j i k hi)
theorem FE {l:List wN} {x:Int×Int}:A1 l x↔x∈l.map fun y=>y.2:=by
 unfold A1;rw [cw];constructor
 · rintro ⟨i,hi,rfl⟩;exact ⟨l[i]!,bI hi,rfl⟩
 rintro ⟨y,hy,rfl⟩
 obtain ⟨i,hi,rfl⟩:=aY.1 hy;exact ⟨i,hi,rfl⟩
theorem J2 {α:Type} {p q:Prop} [Decidable p] [Decidable q] {a b:α} (h:p↔q):(if p then a else b)=if q then a else b:=by
 by_cases hp:p
 · rw [if_pos hp,if_pos (h.1 hp)]
 rw [if_neg hp,if_neg (fun k=>hp (h.2 k))]
theorem aNa {c:aR} (ok:bG c) (es:List (Int×Int)) (kn: ∀x∈es,lD c.au.aa x):
 CX c es=some (decide (c.ax.aq.length=es.length/\ ∀i,i<es.length->A1 c.ax.aq es[i]!/\hY (iT c.au.aa (es[i]!).2) (iT c.au.aa (es[i]!).1) c.ar)):=by
 have bd:=ok.bd;unfold CX;simp only [aF]
 by_cases h0:c.ax.aq.length=es.length
 case neg=>rw [cP (by omega),cond_true,dec_f (fun h=>h0 h.1)]
 rw [bT (by omega),cond_false]
 have key:=qM (body:=uP) (fun i=>(es,(i:Int),c.ar.1,c.ar.2,c.au.aa,c.ax.ao,c.ax.aq,c.ay.ai.ac,c.ay.ai.ae,c.ay.ai.af,c.ay.aj,c.ay.am,c.az)) es.length
  (fun i=>A1 c.ax.aq es[i]!/\hY (iT c.au.aa (es[i]!).2) (iT c.au.aa (es[i]!).1) c.ar) (r:=false) (e:=true) (fun i hi=>by
  have ceta2:bO.mk c.ax.ao c.ax.aq=c.ax:=rfl;unfold uP;simp only [aF,aJ (show (i:Int)<(es.length:Int) by omega),cond_true,aE es i hi,aB,ceta2,C9 c.ax es[i]! (by omega),aM9 ok.fld (t:=(c.ar.1,c.ar.2)) ok.now64 (kn _ (bI hi)),aU (show i<1000000000 by omega)]
  by_cases h1:A1 c.ax.aq es[i]!
  · rw [aJ h1]
    by_cases h2:hY (iT c.au.aa (es[i]!).2) (iT c.au.aa (es[i]!).1) c.ar
    · rw [show decide (hY (iT c.au.aa (es[i]!).2) (iT c.au.aa (es[i]!).1) (c.ar.1,c.ar.2))=true from aJ h2]
      exact ⟨fun h=>absurd ⟨h1,h2⟩ h,fun _=>rfl⟩
    rw [show decide (hY (iT c.au.aa (es[i]!).2) (iT c.au.aa (es[i]!).1) (c.ar.1,c.ar.2))=false from dec_f h2]
    exact ⟨fun _=>rfl,fun h=>absurd h.2 h2⟩
  · rw [dec_f h1]
    exact ⟨fun _=>rfl,fun h=>absurd h.1 h1⟩) (by
  unfold uP;simp only [aF,dec_f (show¬(es.length:Int)<(es.length:Int) by omega),cond_false])
 refine (show _=_ from key).trans ?_
 by_cases h2: ∀i,i<es.length->A1 c.ax.aq es[i]!/\hY (iT c.au.aa (es[i]!).2) (iT c.au.aa (es[i]!).1) c.ar
 · rw [if_pos h2,aJ ⟨h0,h2⟩]
 rw [if_neg h2,dec_f (fun h=>h2 h.2)]
def bK (p w:List Int) (i:Nat):Int:=if i<w.length then w[i]! else p[i-w.length]!
def mG (i j:Nat):Prop:= ∃d,(j+1) / 2^d=i+1
theorem mG.refl (i:Nat):mG i i:=⟨0,by simp⟩
theorem rH {i k j:Nat} (hk:k=2*i+1\/k=2*i+2) (h:mG k j):mG i j:=by
 obtain ⟨d,hd⟩:=h;refine ⟨d+1,?_⟩;rw [de,<- ce,hd];omega
theorem M6 {a b c d:Nat} (h:a<=b) (hc:(c+1) / 2^a=d):(c+1) / 2^b=d / 2^(b-a):=by
 have:2^b=2^a*2^(b-a):=by rw [<- Nat.pow_add];congr 1;omega
 rw [this,<- ce,hc]
theorem YY {x e:Nat} (he:0<e):x / 2^e<=x / 2:=by
 obtain ⟨k,rfl⟩: ∃k,e=k+1:=⟨e-1,by omega⟩
 rw [show 2^(k+1)=2*2^k by rw [de];omega,<- ce]
 exact Nat.div_le_self _ _
theorem wD {i j:Nat} (h1:mG (2*i+1) j) (h2:mG (2*i+2) j):False:=by
 obtain ⟨a,ha⟩:=h1;obtain ⟨b,hb⟩:=h2;rcases bw a b with h|h|h
 · have:=M6 (df h) ha
   have:=YY (x:=2*i+1+1) (e:=b-a) (by omega)
   omega
 · subst h;omega
 have:=M6 (df h) hb
 have:=YY (x:=2*i+2+1) (e:=a-b) (by omega)
 omega
theorem aFX {i k j1 j2:Nat} (h1:mG (2*i+1) j1) (h2:mG (2*i+2) j2) (g:(mG (2*k+1) j1/\mG (2*k+2) j2)\/(mG (2*k+1) j2/\mG (2*k+2) j1)):i=k:=by
 have main: ∀{i k j1 j2:Nat},mG (2*i+1) j1\/mG (2*i+2) j1->mG i j2->(mG (2*k+1) j1/\mG (2*k+2) j2)\/(mG (2*k+1) j2/\mG (2*k+2) j1)-> ∀a a':Nat,(j1+1) / 2^a=i+1->(j1+1) / 2^a'=k+1->a<a'->False:=by
  intro i k j1 j2 _ u2 g a a' ha ha' hlt;have e:=M6 (df hlt) ha;rw [ha'] at e;obtain ⟨c,hc⟩: ∃c,a'-a=c+1:=⟨a'-a-1,by omega⟩
  rw [hc,de,<- ce] at e;have q: ∃m,(i+1) / 2^c=m+1/\(m=2*k+1\/m=2*k+2):=⟨(i+1) / 2^c-1,by omega,by omega⟩
  obtain ⟨m,hm,hmk⟩:=q;have um: ∀j,mG i j->mG m j:=fun j ⟨d,hd⟩=>⟨d+c,by
   rw [M6 (Nat.le_add_right d c) hd,show d+c-d=c by omega,hm]⟩
  have u1:mG i j1:=⟨a,ha⟩;have v1:=um _ u1;have v2:=um _ u2;rcases hmk with rfl|rfl
  · rcases g with g|g
    · exact wD v2 g.2
    exact wD v1 g.2
  rcases g with g|g
  · exact wD g.1 v1
  exact wD g.1 v2
 have i1:mG i j1:=rH (.inl rfl) h1;have i2:mG i j2:=rH (.inr rfl) h2;have k1:mG k j1:=by rcases g with g|g;exact rH (.inl rfl) g.1;exact rH (.inr rfl) g.2
 have k2:mG k j2:=by rcases g with g|g;exact rH (.inr rfl) g.2;exact rH (.inl rfl) g.1
 obtain ⟨a,ha⟩:=i1;obtain ⟨a',ha'⟩:=k1;rcases bw a a' with h|h|h
 · exact (main (.inl h1) i2 g a a' ha ha' h).elim
 · subst h;omega
 exact (main (i:=k) (k:=i) (j1:=j1) (j2:=j2) (by rcases g with g|g;exact .inl g.1;exact .inr g.2) k2 (.inl ⟨h1,h2⟩) a' a ha' ha h).elim
def DD (p w:List Int):Prop:= ∀i,i<w.length->w[i]! =bK p w (2*i+1)\/w[i]! =bK p w (2*i+2)
theorem DE {p w:List Int} (hl:w.length+1=p.length) (hc:DD p w): ∀(d i:Nat),w.length+p.length-i<=d->i<w.length+p.length-> ∃j,w.length<=j/\j<w.length+p.length/\mG i j/\p[j-w.length]! =bK p w i:=by
 intro d
 induction d with
 |zero=>intro i h1 h2;omega
 |succ d ih=>
  intro i h1 h2
  by_cases hi:i<w.length
  · rcases hc i hi with e|e
    · obtain ⟨j,j1,j2,j3,j4⟩:=ih (2*i+1) (by omega) (by omega)
      refine ⟨j,j1,j2,rH (.inl rfl) j3,?_⟩;rw [j4,<- e];unfold bK;rw [if_pos hi]
    obtain ⟨j,j1,j2,j3,j4⟩:=ih (2*i+2) (by omega) (by omega)
    refine ⟨j,j1,j2,rH (.inr rfl) j3,?_⟩;rw [j4,<- e];unfold bK;rw [if_pos hi]
  refine ⟨i,by omega,h2,.refl i,?_⟩
  unfold bK;rw [if_neg hi]
def FF (p:List Int):Prop:= ∀i j,i<j->j<p.length->p[i]! =p[j]!->p[i]!<0
theorem FF.inj {p:List Int} (h:FF p) {i j:Nat} (hi:i<p.length) (hj:j<p.length) (e:p[i]! =p[j]!) (h0:0<=p[i]!):i=j:=by
 rcases bw i j with k|k|k
 · have:=h i j k hj e;omega
 · exact k
 have:=h j i k hi e.symm;rw [<- e] at this;omega
section
variable {p w : List Int} (hl : w.length + 1 = p.length) (hc : DD p w) (ho : FF p)
include hl hc
theorem mH {i:Nat} (hi:i<w.length+p.length):bK p w i∈p:=by
 obtain ⟨j,j1,j2,_,e⟩:=DE hl hc _ i (bv _) hi;rw [<- e];exact bI (by omega)
include ho
theorem M7 {i:Nat} (hi:i<w.length) (h0:0<=bK p w (2*i+1)):bK p w (2*i+1)≠bK p w (2*i+2):=by
 intro e;obtain ⟨j,j1,j2,j3,j4⟩:=DE hl hc _ (2*i+1) (bv _) (by omega)
 obtain ⟨k,k1,k2,k3,k4⟩:=DE hl hc _ (2*i+2) (bv _) (by omega)
 have:=ho.inj (i:=j-w.length) (j:=k-w.length) (by omega) (by omega) (by rw [j4,k4,e]) (by rw [j4];exact h0)
 obtain rfl:j=k:=by omega
 exact wD j3 k3
theorem aFY {i k:Nat} (hi:i<w.length) (hk:k<w.length) (h1:0<=bK p w (2*i+1)) (h2:0<=bK p w (2*i+2))
 (g:(bK p w (2*k+1)=bK p w (2*i+1)/\bK p w (2*k+2)=bK p w (2*i+2))\/(bK p w (2*k+1)=bK p w (2*i+2)/\bK p w (2*k+2)=bK p w (2*i+1))):i=k:=by
 obtain ⟨j1,a1,a2,a3,a4⟩:=DE hl hc _ (2*i+1) (bv _) (by omega)
 obtain ⟨j2,b1,b2,b3,b4⟩:=DE hl hc _ (2*i+2) (bv _) (by omega)
 obtain ⟨l1,c1,c2,c3,c4⟩:=DE hl hc _ (2*k+1) (bv _) (by omega)
 obtain ⟨l2,d1,d2,d3,d4⟩:=DE hl hc _ (2*k+2) (bv _) (by omega)
 have same: ∀{x y:Nat},w.length<=x->x<w.length+p.length->w.length<=y->y<w.length+p.length->p[x-w.length]! =p[y-w.length]!->0<=p[x-w.length]!->x=y:=fun {x y} hx hx' hy hy' e h0=>by
  have:=ho.inj (i:=x-w.length) (j:=y-w.length) (by omega) (by omega) e h0
  omega
 refine aFX a3 b3 ?_;rcases g with ⟨g1,g2⟩|⟨g1,g2⟩
 · have e1:j1=l1:=same a1 a2 c1 c2 (by rw [a4,c4,g1]) (by rw [a4];exact h1)
   have e2:j2=l2:=same b1 b2 d1 d2 (by rw [b4,d4,g2]) (by rw [b4];exact h2)
   subst e1 e2;exact .inl ⟨c3,d3⟩
 have e1:j2=l1:=same b1 b2 c1 c2 (by rw [b4,c4,g1]) (by rw [b4];exact h2)
 have e2:j1=l2:=same a1 a2 d1 d2 (by rw [a4,d4,g2]) (by rw [a4];exact h1)
 subst e1 e2;exact .inr ⟨c3,d3⟩
end
noncomputable def DF (f:List Pt) (t:Int×Int) (x y:Int):Int:=if x<0 then y else if y<0 then x else if hY (iT f x) (iT f y) t then x else y
theorem aCm (f:List Pt) (t:Int×Int) (x y:Int):DF f t x y=x\/DF f t x y=y:=by
 unfold DF;split
 · exact .inr rfl
 split
 · exact .inl rfl
 split
 · exact .inl rfl
 exact .inr rfl
def P3 (f:List Pt) (t:Int×Int) (p w:List Int):Prop:=w.length+1=p.length/\ ∀i,i<w.length->w[i]! =DF f t (bK p w (2*i+1)) (bK p w (2*i+2))
theorem P3.chosen {f:List Pt} {t:Int×Int} {p w:List Int} (h:P3 f t p w):DD p w:=fun i hi=>by
 rw [h.2 i hi];exact aCm ..
noncomputable def SU (f:List Pt) (t:Int×Int) (p:List Int):Nat->List Int->List Int
 |0,w=>w
 |i+1,w=>SU f t p i (w.set i (DF f t (bK p w (2*i+1)) (bK p w (2*i+2))))
noncomputable def cK (f:List Pt) (t:Int×Int) (p:List Int):List Int:=SU f t p (p.length-1) (dt (p.length-1) 0)
theorem SW {p w:List Int} {i k:Nat} {v:Int} (h:i≠k):bK p (w.set i v) k=bK p w k:=by
 unfold bK;rw [cb];split
 · rw [aZ,if_neg (fun x=>h x.1.symm)]
 rfl
theorem SX {f:List Pt} {t:Int×Int} {p:List Int}: ∀(n:Nat) (w:List Int),n<=w.length->(∀i,n<=i->i<w.length->w[i]! =DF f t (bK p w (2*i+1)) (bK p w (2*i+2)))->
 (SU f t p n w).length=w.length/\ ∀i,i<w.length->(SU f t p n w)[i]! =DF f t (bK p (SU f t p n w) (2*i+1)) (bK p (SU f t p n w) (2*i+2))
 |0,w,_,h=>⟨rfl,fun i hi=>h i (Nat.zero_le _) hi⟩
 |n+1,w,hn,h=>by
  have ih:=SX n (w.set n (DF f t (bK p w (2*n+1)) (bK p w (2*n+2)))) (by rw [cb];omega) (fun i h1 h2=>by
   rw [cb] at h2;rw [SW (by omega),SW (by omega),aZ]
   split
   · rename_i e;rw [e.1]
   exact h i (by omega) h2)
  rw [cb] at ih;exact ih
theorem fZ {f:List Pt} {t:Int×Int} {p:List Int} (hp:1<=p.length):P3 f t p (cK f t p):=by
 have:=SX (f:=f) (t:=t) (p:=p) (p.length-1) (dt (p.length-1) 0) (by rw [cq];omega) (fun i h1 h2=>by rw [cq] at h2;omega)
 rw [cq] at this;have hl:(cK f t p).length=p.length-1:=this.1;exact ⟨by omega,fun i hi=>this.2 i (by omega)⟩
theorem aDu {f:List Pt} {t:Int×Int} {p w v:List Int} (h:P3 f t p w) (g:P3 f t p v):w=v:=by
 have hl:w.length=v.length:=by have:=h.1;have:=g.1;omega
 have key: ∀(d i:Nat),w.length-i<=d->i<w.length->w[i]! =v[i]!:=by
  intro d
  induction d with
  |zero=>intro i h1 h2;omega
  |succ d ih=>
   intro i _ hi;have nd: ∀k,i<k->bK p w k=bK p v k:=fun k hk=>by
    unfold bK;rw [hl];split
    · rename_i h';exact ih k (by omega) (by omega)
    rfl
   rw [h.2 i hi,g.2 i (by omega),nd _ (by omega),nd _ (by omega)]
 exact wB hl fun i hi=>key _ i (bv _) hi
noncomputable def DX (p w:List Int) (i:Nat):Option (Int×Int):=
 if bK p w (2*i+1)<0\/bK p w (2*i+2)<0 then none
 else if w[i]! =bK p w (2*i+1) then some (bK p w (2*i+2),bK p w (2*i+1)) else some (bK p w (2*i+1),bK p w (2*i+2))
noncomputable def kF (p w:List Int):List (Int×Int):=(dp w.length).filterMap (DX p w)
theorem P4 (p w:List Int):(kF p w).length<=w.length:=by
 have:=List.length_filterMap_le (DX p w) (dp w.length)
 rwa [dd] at this
theorem P5 {p w:List Int} {e:Int×Int}:e∈kF p w↔ ∃i,i<w.length/\DX p w i=some e:=by
 unfold kF;rw [dc];constructor
 · rintro ⟨i,hi,h⟩;exact ⟨i,cm.1 hi,h⟩
 rintro ⟨i,hi,h⟩;exact ⟨i,cm.2 hi,h⟩
theorem DG {p w:List Int} {i:Nat} {e:Int×Int} (h:DX p w i=some e):0<=bK p w (2*i+1)/\0<=bK p w (2*i+2)/\
 ((e=(bK p w (2*i+2),bK p w (2*i+1))/\w[i]! =bK p w (2*i+1))\/(e=(bK p w (2*i+1),bK p w (2*i+2))/\w[i]!≠bK p w (2*i+1))):=by
 unfold DX at h;split at h
 · cases h
 rename_i hn
 refine ⟨by omega,by omega,?_⟩
 split at h
 · rename_i h1;injection h with h;exact .inl ⟨h.symm,h1⟩
 rename_i h1;injection h with h;exact .inr ⟨h.symm,h1⟩
theorem DY {α β:Type} {g:α->Option β}: ∀{l:List α},l.Nodup->(∀x∈l,∀y∈l,∀b,g x=some b->g y=some b->x=y)->(l.filterMap g).Nodup
 | [],_,_=> .nil
 |a::r,h,hi=>by
  obtain ⟨h1,h2⟩:=cj.1 h;have ih:=DY (g:=g) h2 (fun x hx y hy b e1 e2=>hi x (bn _ hx) y (bn _ hy) b e1 e2)
  cases hg:g a with
  |none=>rw [List.filterMap_cons_none hg];exact ih
  |some b=>
   rw [List.filterMap_cons_some hg];refine cj.2 ⟨fun hb=>?_,ih⟩
   obtain ⟨y,hy,e⟩:=dc.1 hb
   have:=hi a (ck ..) y (bn _ hy) b hg e
   subst this;exact h1 hy
theorem U6 {p w:List Int} (hl:w.length+1=p.length) (hc:DD p w) (ho:FF p):(kF p w).Nodup:=by
 refine DY dh fun i hi k hk b e1 e2=>?_
 have hi:=cm.1 hi;have hk:=cm.1 hk;obtain ⟨a1,a2,a3⟩:=DG e1;obtain ⟨b1,b2,b3⟩:=DG e2;refine aFY hl hc ho hi hk a1 a2 ?_;rcases a3 with ⟨rfl,_⟩|⟨rfl,_⟩<;>rcases b3 with ⟨h,_⟩|⟨h,_⟩<;>(injection h with h1 h2)
 · exact .inl ⟨h2.symm,h1.symm⟩
 · exact .inr ⟨h1.symm,h2.symm⟩
 · exact .inr ⟨h2.symm,h1.symm⟩
 exact .inl ⟨h1.symm,h2.symm⟩
theorem aDv {f:List Pt} (fok:cE f) {p w:List Int} (hl:w.length+1=p.length) (hn:p.length<=64) (hc:DD p w) (ho:FF p) (hk: ∀x∈p,0<=x->kJ f x):J0 f (kF p w):=by
 have hp: ∀e∈kF p w,lD f e/\e.1≠e.2:=fun e he=>by
  obtain ⟨i,hi,h⟩:=P5.1 he;obtain ⟨a1,a2,a3⟩:=DG h;have m1:=mH hl hc (i:=2*i+1) (by omega)
  have m2:=mH hl hc (i:=2*i+2) (by omega)
  have ne:=M7 hl hc ho hi a1;rcases a3 with ⟨rfl,_⟩|⟨rfl,_⟩
  · exact ⟨⟨hk _ m2 a2,hk _ m1 a1⟩,fun h=>ne h.symm⟩
  exact ⟨⟨hk _ m1 a1,hk _ m2 a2⟩,ne⟩
 refine ⟨by have:=P4 p w;omega,fun e he=>?_,fun e he=>(hp e he).1⟩
 obtain ⟨⟨h1,h2⟩,ne⟩:=hp e he;obtain ⟨⟨p1,p2⟩,q1,q2⟩:=And.intro (fT fok h1) (fT fok h2);unfold iV at p1 q1;unfold fY;omega
end Go.Proofs.YtbgoiokedpjgbaaGreat
