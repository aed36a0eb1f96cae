/- Plain laws (3). -/
import Derived.Test.YtlnclppkepgdmaaGreatCQM2
import Derived.Test.YtlnclppkepgdmaaGreatCQS2
open List renaming mem_cons_of_mem->aa,length_append->ac,length_drop->ao,length_set->ar,mem_cons_self->ax,length_cons->az,mem_append->ba,nodup_cons->be,mem_range->bg,length_singleton->bi,length_replicate->bj,length_nil->bn,mem_map->bo,drop_zero->bq,drop_length->bz,mem_filterMap->cd,length_range->ci,nodup_range->cu,length_map->cw,range->c6,replicate->c8,mem_cons->db
open Classical renaming byContradiction->ae,not_not->au
open Bool renaming not_false->af,not_true->ai
open Nat renaming le_refl->aj,lt_trichotomy->am,div_div_eq_div_mul->ay,pow_succ->cj,le_of_lt->cm,dvd_mul_left->cq,not_lt_zero->cy
open Int renaming mul_right_comm->aq,mul_le_mul_of_nonneg_right->bk,le_of_mul_le_mul_right->bu,le_refl->bv,mul_assoc->bw,le_trans->cb,mul_comm->cf,natAbs_mul->cz
open Prod renaming ext->ce,fst->dc
namespace Go.Proofs.YtlnclppkepgdmaaGreat
open Go.Vm Classical
theorem ZM (c:aO) (n:Int) (hl:c.due.length<=1000000):(∀k,k<c.due.length->(c.due[k]!).1=n->(∀j,j<k->(c.due[j]!).1≠n)->wE c n=some (k:Int))/\((∀k,k<c.due.length->(c.due[k]!).1≠n)->wE c n=some (-1)):=by
 unfold wE;refine mR (body:=sN) (fun i=>(n,(i:Int),c.now.1,c.now.2,c.field.points,c.certs.next_,c.certs.list,c.agenda.slots.uses,c.agenda.slots.used,c.agenda.slots.free,c.agenda.heap,c.agenda.where_,c.due)) c.due.length (fun i=>(c.due[i]!).1=n) (fun i=>(i:Int)) (fun i hi=>?_) ?_
 · have e1:decide ((i:Int)<(c.due.length:Int))=true:=aH (by omega)
   unfold sN;simp only [aE,e1,cond_true,aC c.due i hi,aB,aT (show i<1000000000 by omega)]
   constructor
   · intro h;rw [eH h];rfl
   intro h;rw [eM h];rfl
 unfold sN
 have:decide ((c.due.length:Int)<(c.due.length:Int))=false:=dec_f (by omega)
 simp only [aE,this,cond_false]
theorem TL {ds:List wI} (hu:Up ds) (hl:ds.length<=1000000) (n:Int):(∀k,k<ds.length->(ds[k]!).1=n->qY ds n=some ((k:Int),true))/\((∀k,k<ds.length->(ds[k]!).1≠n)-> ∃m:Nat,qY ds n=some ((m:Int),false)):=by
 have bs:=GV ds n hl (xU.1 hu);unfold qY;rw [aTw];constructor
 · intro k hk he;rw [bs.1 k hk he];rfl
 intro h
 obtain ⟨m,_,_,_,e⟩:=bs.2 h;exact ⟨m,by rw [e];rfl⟩
theorem aZ.bd {c:aO} (ok:aZ c):c.due.length<=200/\c.field.points.length<=64/\c.certs.list.length<=200:=by
 have:=ok.hd;have:=ok.agd.bd;have:=ok.fld.1;have:=ok.crt.len
 omega
theorem jO {c:aO} (ok:aZ c):lG c=some c:=by
 have bd:=ok.bd;unfold lG yX yY;simp only [aY (show c.field.points.length<=1048576 by omega),aY (show c.certs.list.length<=1048576 by omega),aY (show c.due.length<=1048576 by omega),aB,vB ok.agd]
theorem lI {c:aO} (ok:aZ c):lC c=some c:=by
 have bd:=ok.bd;have ab:=ok.agd.bd;have hl:=ok.agd.so.fl;have hn:=ok.agd.so.n2;have hu:=ok.agd.so.ul;unfold lC;simp only [aY (show c.field.points.length<=1048576 by omega),aY (show c.certs.list.length<=1048576 by omega),aY (show c.due.length<=1048576 by omega),aY (show c.agenda.heap.length<=1048576 by omega),aY (show c.agenda.where_.length<=1048576 by omega),
  aY (show c.agenda.slots.uses.length<=1048576 by omega),aY (show c.agenda.slots.used.length<=1048576 by omega),aY (show c.agenda.slots.free.length<=1048576 by omega),aB]
theorem xV {cs:List wI} {i:Nat} (hu:Up cs) (hi:i<cs.length) {x:wI} (hx:x∈cs.eraseIdx i):x∈cs/\x.1≠(cs[i]!).1:=by
 rw [zE,ba] at hx;have ub:=xU.1 hu;rcases hx with hx|hx
 · obtain ⟨j,h1,h2,rfl⟩:=cJ.1 hx
   have:=ub j i h1 hi
   exact ⟨bL h2,by omega⟩
 obtain ⟨j,hj,rfl⟩:=aW.1 hx
 rw [ao] at hj;rw [uB]
 have:=ub i (i+1+j) (by omega) (by omega)
 exact ⟨bL (by omega),by omega⟩
theorem FZ {c:aO} (ok:aZ c) (i:Nat) (hi:i<c.certs.list.length): ∀j,j<(pH c.certs i).list.length->iF c.field.points ((pH c.certs i).list[j]!).2:=by
 intro j hj;have hm:(pH c.certs i).list[j]!∈c.certs.list:=(xV ok.crt_up hi (bL hj)).1;obtain ⟨m,hm1,hm2⟩:=aW.1 hm;rw [<- hm2];exact ok.known m hm1
theorem aFX {c:aO} (ok:aZ c) {i:Nat} (hi:i<c.certs.list.length):
 ∃c':aO,mX c (c.certs.list[i]!).1=some (c',(c.certs.list[i]!).2,0)/\tY c (c.certs.list[i]!).1=some c'/\aZ c'/\c'.field=c.field/\c'.now=c.now/\c'.certs=pH c.certs i:=by
 have bd:=ok.bd;have rm:=QM ok.crt hi (n:=(c.certs.list[i]!).1) rfl;have wo:=L7 ok.crt hi (n:=(c.certs.list[i]!).1) rfl;have fe:=ok.fol.erase (i:=i) hi;have pd:=TL ok.due_up (by omega) (c.certs.list[i]!).1
 have da:=ZM c (c.certs.list[i]!).1 (by omega)
 cases hf:(bM c.field.points (c.certs.list[i]!).2 c.now).2 with
 |false=>
  have no: ∀k,k<c.due.length->(c.due[k]!).1≠(c.certs.list[i]!).1:=by
   intro k hk he;obtain ⟨x,hx,h1,h2,_⟩:=ok.fol.due _ (bL hk);obtain ⟨j,hj,rfl⟩:=aW.1 hx;have ub:=xU.1 ok.crt_up
   have:j=i:=by
    rcases am j i with h|h|h
    · have:=ub j i h hi;omega
    · exact h
    have:=ub i j h hj;omega
   rw [this,hf] at h2;cases h2
  refine ⟨⟨c.now,c.field,pH c.certs i,c.agenda,c.due⟩,?_,?_,?_,rfl,rfl,rfl⟩
  · unfold mX
    obtain ⟨m,e⟩:=pd.2 no;simp only [rm,aB,show ((0:Int) !=0)=false from rfl,cond_false,lI ok,e]
  · unfold tY
    simp only [jO ok,aB,wo,da.2 no,dec_f (show¬(0:Int)<= -1 by omega),cond_false]
  exact ⟨ok.nowv,ok.now64,ok.fld,QL ok.crt hi,ok.agd,ok.w200,ok.hd,FZ ok i hi,fe.1 hf⟩
 |true=>
  obtain ⟨k,hk,k1,k2,k3⟩:=fe.2 hf;obtain ⟨w,hw,hev⟩:=aW.1 k2;have hh:(c.agenda.heap[w]!).2.2.2=(c.due[k]!).2:=by rw [hev]
  have ub:=xU.1 ok.due_up;have before: ∀j,j<k->(c.due[j]!).1≠(c.certs.list[i]!).1:=fun j hj he=>by have:=ub j k hj hk;omega
  have dl:(c.due.eraseIdx k).length=c.due.length-1:=aCF hk;obtain ⟨L,d1,d2⟩:=M2 c.due k hk;refine ⟨⟨c.now,c.field,pH c.certs i,fF c.agenda w,c.due.eraseIdx k⟩,?_,?_,?_,rfl,rfl,rfl⟩
  · unfold mX
    simp only [rm,aB,show ((0:Int) !=0)=false from rfl,cond_false,lI ok,pd.1 k hk k1,cond_true,aC c.due k hk,CG ok.agd hw ok.agd.fit hh,aT (show k<1000000000 by omega),aBf,d1,d2]
  · unfold tY
    have s1:iX c.due 0 (k:Int)=some (c.due.take k):=kK c.due k (by omega)
    have s2:iX c.due ((k+1:Nat):Int) (c.due.length:Int)=some (c.due.drop (k+1)):=by
     unfold iX;rw [if_pos ⟨by omega,by omega,by omega⟩]
     simp only [Int.toNat_natCast];rw [List.take_of_length_le (by rw [ao];exact aj _)]
    have tl:(c.due.take k).length=k:=by rw [List.length_take];omega
    have dl2:(c.due.drop (k+1)).length=c.due.length- (k+1):=ao;simp only [jO ok,aB,wo,da.1 k hk k1 before,aH (show (0:Int)<=(k:Int) by omega),cond_true,aC c.due k hk,CH ok.agd hw hh,s1,aY (show (c.due.take k).length<=1048576 by omega),aT (show k<1000000000 by omega),aE,s2,
     fE (show (c.due.take k).length+(c.due.drop (k+1)).length<=1048576 by omega),zE]
    cases hem:(c.due.drop (k+1)).isEmpty with
    |true=>
     rw [List.isEmpty_iff] at hem;rw [hem,List.append_nil];rfl
    |false=>rfl
  have rem:=L4 ok.agd hw
  have rmem:=QH ok.agd hw;have hlen:(fF c.agenda w).heap.length=c.agenda.heap.length-1:=by
   have h1:=rem.hl;have h2:=ok.agd.hl;have h3:(fF c.agenda w).slots=gJ c.agenda.slots (c.agenda.heap[w]!).2.2.2:=by unfold fF;split<;>rfl
   rw [h3] at h1;change _+(c.agenda.slots.free++[_]).length=c.agenda.slots.uses.length at h1;rw [ac] at h1;simp only [az,bn] at h1;omega
  have wlen:(fF c.agenda w).where_.length=200:=by
   have h1:=rem.wl;have h3:(fF c.agenda w).slots=gJ c.agenda.slots (c.agenda.heap[w]!).2.2.2:=by unfold fF;split<;>rfl
   rw [h3] at h1;change _=c.agenda.slots.uses.length at h1;rw [h1,<- ok.agd.wl,ok.w200]
  refine ⟨ok.nowv,ok.now64,ok.fld,QL ok.crt hi,rem,wlen,?_,FZ ok i hi,?_⟩
  · show (fF c.agenda w).heap.length=(c.due.eraseIdx k).length
    rw [hlen,dl,ok.hd]
  refine k3.mono fun x hx e he hm=>(rmem e).2 ⟨hm,fun h=>?_⟩
  have:=(xV ok.crt_up hi hx).2
  rw [h,hev] at he;exact this he.symm
theorem NG {c:aO} (ok:aZ c) {i:Nat} (_hi:i<c.certs.list.length) {c':aO} (h:mX c (c.certs.list[i]!).1=some (c',(c.certs.list[i]!).2,0)):xN c (c.certs.list[i]!).1=some (c',0):=by
 unfold xN;rw [mG ok.fit,if_pos ok];simp only [aB,show ((0:Int) !=0)=false from rfl,cond_false,h]
abbrev eV:aO:=⟨(0,0),⟨[]⟩,⟨0,[]⟩,⟨⟨[],[],[]⟩,[],[]⟩,[]⟩
theorem VU {l:List Pt} (ok:cC l) {id:Int} (h:nC l id): ¬(fT l id).1<0:=by
 obtain ⟨h1,_⟩:=dB ok h
 have:=h1.1
 omega
theorem aNb {c:aO} (ok:aZ c) {x:Int×Int} (hx:fO x) (hb:iF c.field.points x) (hn: ¬wY c.certs.list x):
 (jN c x=some (eV,0,18)/\oP c x=some (eV,0,18)/\(KJ c.certs\/ ¬EF c.agenda.slots))\/
 ∃c':aO,jN c x=some (c',c.certs.next_,0)/\oP c x=some (c',c.certs.next_,0)/\aZ c'/\c'.field=c.field/\c'.now=c.now/\c'.certs=sQ c.certs x/\(c'.agenda.slots=c.agenda.slots\/c'.agenda.slots=iL c.agenda.slots):=by
 have bd:=ok.bd;have n0:=ok.crt.n0;have n1:=ok.crt.n1;have fit:=ok.fit;have ad:=ZH ok.crt hx;have rd:=VS ok.crt hx;rw [if_neg hn] at ad rd;have hc:gY c=some 0:=by rw [mG fit,if_pos ok]
 have p1:=oT ok.fld x.1;have p2:=oT ok.fld x.2;have q1:=VU ok.fld hb.1;have q2:=VU ok.fld hb.2;have wh:=BL ok.fld hx ok.nowv ok.now64;rw [if_pos hb] at wh;have rw':=BM ok.fld ok.now64 hb
 by_cases hf:KJ c.certs
 · rw [if_pos hf] at ad rd
   left;refine ⟨?_,?_,.inl hf⟩
   · unfold jN dX
     simp only [hc,aB,show ((0:Int) !=0)=false from rfl,cond_false,ad,show ((18:Int)==8)=false from rfl,p1,p2,dec_f q1,dec_f q2,show ((18:Int) !=0)=true from rfl,cond_true]
   unfold oP
   simp only [rd,aB,show ((18:Int) !=0)=true from rfl,cond_true]
 rw [if_neg hf] at ad rd;have cok:=aBh ok.crt hx hn hf;have known': ∀j,j<(sQ c.certs x).list.length->iF c.field.points ((sQ c.certs x).list[j]!).2:=by
  intro j hj;rw [GW] at hj;rw [zF]
  by_cases h:j<c.certs.list.length
  · rw [if_pos h];exact ok.known j h
  rw [if_neg h,if_pos (by omega)];exact hb
 have fresh: ∀e∈c.agenda.heap,Ev.num e≠c.certs.next_:=by
  intro e he hne;obtain ⟨d,hd,h1⟩:=ok.nums e he;obtain ⟨y,hy,h2,_⟩:=ok.fol.due d hd;obtain ⟨j,hj,rfl⟩:=aW.1 hy
  have:=(ok.crt.nr j hj).2
  omega
 have sn:=ok.fol.snoc (x:=(c.certs.next_,x));cases hw:(bM c.field.points x c.now).2 with
 |false=>
  right;refine ⟨⟨c.now,c.field,sQ c.certs x,c.agenda,c.due⟩,?_,?_,⟨ok.nowv,ok.now64,ok.fld,cok,ok.agd,ok.w200,ok.hd,known',sn.1 hw⟩,rfl,rfl,rfl,.inl rfl⟩
  · unfold jN dX
    simp only [hc,aB,show ((0:Int) !=0)=false from rfl,cond_false,ad,show ((0:Int)==8)=false from rfl,p1,p2,dec_f q1,dec_f q2,lI ok,wh,hw]
  unfold oP
  simp only [rd,aB,show ((0:Int) !=0)=false from rfl,cond_false,jO ok,rw',hw,af,cond_true]
 |true=>
  obtain ⟨t1,t2⟩:=KC (dB ok.fld hb.2).1 (dB ok.fld hb.1).1 ok.now64 ok.nowv hw
  by_cases op:EF c.agenda.slots
  · right
    have pu:=CD ok.agd op ok.agd.fit (t:=(bM c.field.points x c.now).1) (n:=c.certs.next_) t1 t2 n0 n1 fresh;have rp:=EG ok.agd op (t:=(bM c.field.points x c.now).1) (n:=c.certs.next_) t1 t2 n0 n1;have pok:=aCD ok.agd op (t:=(bM c.field.points x c.now).1) (n:=c.certs.next_) t1 t2 n0 n1 fresh
    have pmem:=ZC ok.agd op (t:=(bM c.field.points x c.now).1) (n:=c.certs.next_) t1;have plen:=KH ok.agd op (t:=(bM c.field.points x c.now).1) (n:=c.certs.next_) t1;have ap: ∀h:Int×Int,bZ c.due [(c.certs.next_,h)]=some (c.due++[(c.certs.next_,h)]):=fun h=>fE (by simp;omega)
    have wlen:(nB c.agenda (bM c.field.points x c.now).1 c.certs.next_).where_.length=200:=by
     have:=pok.wl
     change _=(c.agenda.slots.uses.set _ _).length at this;rw [ar] at this;rw [this,<- ok.agd.wl,ok.w200]
    refine ⟨⟨c.now,c.field,sQ c.certs x,nB c.agenda (bM c.field.points x c.now).1 c.certs.next_,c.due++[(c.certs.next_,nA c.agenda.slots)]⟩,?_,?_,⟨ok.nowv,ok.now64,ok.fld,cok,pok,wlen,?_,known',?_⟩,rfl,rfl,rfl,.inr rfl⟩
    · unfold jN dX
      simp only [hc,aB,show ((0:Int) !=0)=false from rfl,cond_false,ad,show ((0:Int)==8)=false from rfl,p1,p2,dec_f q1,dec_f q2,lI ok,wh,hw,cond_true,pu,ap]
    · unfold oP
      simp only [rd,aB,show ((0:Int) !=0)=false from rfl,cond_false,jO ok,rw',hw,ai,vA ok.agd.so,aH op,rp,ap]
    · show (nB c.agenda (bM c.field.points x c.now).1 c.certs.next_).heap.length=(c.due++[_]).length
      rw [plen,ac,ok.hd];rfl
    have fm:aV c.field.points c.now (nB c.agenda (bM c.field.points x c.now).1 c.certs.next_).heap c.certs.list c.due:=ok.fol.mono fun y hy e he hm=>(pmem e).2 (.inr hm)
    exact (fm.snoc (x:=(c.certs.next_,x))).2 _ hw rfl ((pmem _).2 (.inl rfl))
  left
  have pu:=CE ok.agd op ok.agd.fit (t:=(bM c.field.points x c.now).1) (n:=c.certs.next_) t1 t2 n0 n1 fresh;refine ⟨?_,?_,.inr op⟩
  · unfold jN dX
    simp only [hc,aB,show ((0:Int) !=0)=false from rfl,cond_false,ad,show ((0:Int)==8)=false from rfl,p1,p2,dec_f q1,dec_f q2,lI ok,wh,hw,cond_true,pu,show ((18:Int) !=0)=true from rfl]
  unfold oP
  simp only [rd,aB,show ((0:Int) !=0)=false from rfl,cond_false,jO ok,rw',hw,ai,vA ok.agd.so,dec_f op,af,cond_true]
theorem Up.inj {cs:List wI} (h:Up cs) {x y:wI} (hx:x∈cs) (hy:y∈cs) (he:x.1=y.1):x=y:=by
 obtain ⟨i,hi,rfl⟩:=aW.1 hx;obtain ⟨j,hj,rfl⟩:=aW.1 hy;have ub:=xU.1 h;rcases am i j with h1|h1|h1
 · have:=ub i j h1 hj;omega
 · rw [h1]
 have:=ub j i h1 hi;omega
structure QP (c:aO) (f:List Pt) (i k:Nat) (a:aP) (ds:List wI):Prop where
 ok:fN a
 w2:a.where_.length=200
 new:aV f c.now a.heap (c.certs.list.take i) ds
 old:aV c.field.points c.now a.heap (c.certs.list.drop i) (c.due.drop k)
 kl:k<=c.due.length
 cnt:a.heap.length=ds.length+(c.due.length-k)
theorem aTx {a:aP} (ok:fN a) {w:Nat} (hw:w<a.heap.length):(fF a w).heap.length=a.heap.length-1/\(fF a w).where_.length=a.where_.length:=by
 have rem:=L4 ok hw;have h3:(fF a w).slots=gJ a.slots (a.heap[w]!).2.2.2:=by unfold fF;split<;>rfl
 have h1:=rem.hl;have h2:=ok.hl;have h4:=rem.wl;rw [h3] at h1 h4;change _+(a.slots.free++[_]).length=a.slots.uses.length at h1;change _=a.slots.uses.length at h4;rw [ac] at h1;simp only [az,bn] at h1;exact ⟨by omega,by rw [h4,ok.wl]⟩
theorem aNc {a:aP} {t:Int×Int} {n:Int} (ok:fN a) (pok:fN (nB a t n)):(nB a t n).where_.length=a.where_.length:=by
 have:=pok.wl
 change _=(a.slots.uses.set _ _).length at this;rw [ar] at this;rw [this,ok.wl]
section
variable {c : aO} (ok : aZ c) {f : List Pt} (fok : cC f) (kn : ∀ i, i < c.certs.list.length -> iF f (c.certs.list[i]!).2)
include ok
theorem KK {i:Nat} {x:wI} (hx:x∈c.certs.list.take i) (hi:i<c.certs.list.length):x.1≠(c.certs.list[i]!).1:=by
 obtain ⟨j,h1,h2,rfl⟩:=cJ.1 hx
 have:=ok.crt.up j i h1 hi
 omega
theorem KL {i:Nat} {x:wI} (hx:x∈c.certs.list.drop (i+1)) (hi:i<c.certs.list.length):x.1≠(c.certs.list[i]!).1:=by
 obtain ⟨j,h1,rfl⟩:=aW.1 hx;rw [ao] at h1;rw [uB]
 have:=ok.crt.up i (i+1+j) (by omega) (by omega)
 omega
theorem aDK {i k:Nat} {a:aP} {ds:List wI} (inv:QP c f i k a ds) (hi:i<c.certs.list.length) (was:(bM c.field.points (c.certs.list[i]!).2 c.now).2=false): ∀e∈a.heap,Ev.num e≠(c.certs.list[i]!).1:=by
 have u1:Up (c.certs.list.take i):=ok.crt_up.sublist (List.take_sublist _ _);have u2:Up (c.certs.list.drop i):=ok.crt_up.sublist (List.drop_sublist _ _);have d1:=inv.new.up u1;have d2:=inv.old.up u2;have cross: ∀x∈ds,∀y∈c.due.drop k,x.1<y.1:=by
  intro x hx y hy;obtain ⟨p,hp,h1,_⟩:=inv.new.due x hx;obtain ⟨q,hq,h2,_⟩:=inv.old.due y hy;obtain ⟨m,m1,m2,rfl⟩:=cJ.1 hp;obtain ⟨n,n1,rfl⟩:=aW.1 hq;rw [ao] at n1;rw [uB] at h2
  have:=ok.crt.up m (i+n) (by omega) (by omega)
  omega
 have nd:((ds++c.due.drop k).map fun x=>x.1).Nodup:=ZL (by
  show List.Pairwise _ _;rw [List.pairwise_append];exact ⟨d1,d2,cross⟩)
 have only:=M3 (H:=a.heap) nd (by rw [cw,ac,ao,inv.cnt];exact aj _) (fun n hn=>by
  obtain ⟨x,hx,rfl⟩:=bo.1 hn;rcases ba.1 hx with hx|hx
  · obtain ⟨p,hp,h1,h2,h3⟩:=inv.new.due x hx
    exact ⟨_,h3,h1.symm⟩
  obtain ⟨p,hp,h1,h2,h3⟩:=inv.old.due x hx
  exact ⟨_,h3,h1.symm⟩)
 intro e he hne;obtain ⟨x,hx,h1⟩:=bo.1 (only e he);rcases ba.1 hx with hx|hx
 · obtain ⟨p,hp,h2,_⟩:=inv.new.due x hx
   exact KK ok hp hi (by rw [<- h2,h1,hne])
 obtain ⟨p,hp,h2,h3,_⟩:=inv.old.due x hx
 have hp':p∈c.certs.list:=List.mem_of_mem_drop hp
 have:=ok.crt_up.inj hp' (bL hi) (by rw [<- h2,h1,hne])
 rw [this,was] at h3;cases h3
def stP (c:aO) (f:List Pt) (i:Nat) (a:aP) (ds:List wI):=
 (c.certs.list,(c.certs.list.length:Int),(i:Int),c.now.1,c.now.2,c.field.points,c.certs.next_,c.certs.list,c.agenda.slots.uses,c.agenda.slots.used,c.agenda.slots.free,c.agenda.heap,c.agenda.where_,c.due,f,(0:Int),(0:Int),(0:Int),c.now.1,c.now.2,c.certs.next_,c.certs.list,a.slots.uses,a.slots.used,a.slots.free,a.heap,a.where_,f,ds)
def stR (c:aO) (f:List Pt) (i:Nat) (a:aP) (ds:List wI):=
 ((i:Int),c.now.1,c.now.2,c.field.points,c.certs.next_,c.certs.list,c.agenda.slots.uses,c.agenda.slots.used,c.agenda.slots.free,c.agenda.heap,c.agenda.where_,c.due,f,(0:Int),(0:Int),(0:Int),c.now.1,c.now.2,f,c.certs.next_,c.certs.list,a.slots.uses,a.slots.used,a.slots.free,a.heap,a.where_,ds)
include fok kn
theorem aFY {i k:Nat} {a:aP} {ds:List wI} (inv:QP c f i k a ds) (hi:i<c.certs.list.length) (hds:ds.length<=i):
 (dY (stP c f i a ds)=some (.done (.done (eV,18)))/\cW (stR c f i a ds)=some (.done (eV,18)))\/
 ∃k' a' ds',dY (stP c f i a ds)=some (.next (stP c f (i+1) a' ds'))/\cW (stR c f i a ds)=some (.next (stR c f (i+1) a' ds'))/\QP c f (i+1) k' a' ds'/\ds'.length<=i+1:=by
 have bd:=ok.bd;have e1:decide ((i:Int)<(c.certs.list.length:Int))=true:=aH (by omega)
 have sc:=aT (show i<1000000000 by omega)
 have cg:=aC c.certs.list i hi;have hb:=kn i hi;have wn:=BL fok (x:=(c.certs.list[i]!).2) (t:=(c.now.1,c.now.2)) (ok.crt.cv i hi) ok.nowv ok.now64;rw [if_pos hb] at wn;have wr:=BM fok (x:=(c.certs.list[i]!).2) (t:=(c.now.1,c.now.2)) ok.now64 hb;have pd:=TL ok.due_up (by omega) (c.certs.list[i]!).1
 have da:=ZM c (c.certs.list[i]!).1 (by omega)
 have dr:=xZ hi;have tk:=iK hi;have old:=inv.old;rw [dr] at old;have aeta:aP.mk (aU.mk a.slots.uses a.slots.used a.slots.free) a.heap a.where_=a:=rfl
 have ceta:(aO.mk (c.now.1,c.now.2) (Field.mk c.field.points) (bK.mk c.certs.next_ c.certs.list) (aP.mk (aU.mk c.agenda.slots.uses c.agenda.slots.used c.agenda.slots.free) c.agenda.heap c.agenda.where_) c.due)=c:=rfl;have other: ∀x∈c.certs.list.take i,x.1≠(c.certs.list[i]!).1:=fun x hx=>KK ok hx hi
 have other': ∀x∈c.certs.list.drop (i+1),x.1≠(c.certs.list[i]!).1:=fun x hx=>KL ok hx hi
 cases hwas:(bM c.field.points (c.certs.list[i]!).2 c.now).2 with
 |true=>
  obtain ⟨d,ds',hd1,hd2,hd3,hd4⟩:=(aV.cons_true hwas).1 old;have hk:k<c.due.length:=by
   refine ae fun h=>?_
   rw [List.drop_eq_nil_of_le (by omega)] at hd1
   cases hd1
  have dk:=xZ hk;rw [dk] at hd1;injection hd1 with hd5 hd6;subst hd5 hd6;obtain ⟨w,hw,hev⟩:=aW.1 hd3;have hh:(a.heap[w]!).2.2.2=(c.due[k]!).2:=by rw [hev]
  have hnum:Ev.num a.heap[w]! =(c.certs.list[i]!).1:=by rw [hev]
  have before: ∀j,j<k->(c.due[j]!).1≠(c.certs.list[i]!).1:=fun j hj he=>by
   have:=xU.1 ok.due_up j k hj hk
   omega
  have pl:=pd.1 k hk hd2;have dq:=da.1 k hk hd2 before;have gk:=aC c.due k hk;have k0:decide ((0:Int)<=(k:Int))=true:=aH (by omega)
  have ap:bZ ds [c.due[k]!]=some (ds++[c.due[k]!]):=fE (by simp;omega)
  cases his:(bM f (c.certs.list[i]!).2 c.now).2 with
  |true=>
   right;have tt:bQ (bM f (c.certs.list[i]!).2 c.now).1/\oA (bM f (c.certs.list[i]!).2 c.now).1:=KC (dB fok hb.2).1 (dB fok hb.1).1 ok.now64 ok.nowv his;obtain ⟨t1,t2⟩:=tt;have re:=NF inv.ok inv.ok.fit (t:=(bM f (c.certs.list[i]!).2 c.now).1) hw hh t1 t2;have rr:=L3 inv.ok (t:=(bM f (c.certs.list[i]!).2 c.now).1) hw hh t1 t2
   have rok:=aFR inv.ok hw t1 t2;have rmem:=aDJ inv.ok hw t1;have rlen:=L2 inv.ok hw t1;have stay: ∀(cs:List wI),(∀x∈cs,x.1≠(c.certs.list[i]!).1)-> ∀x∈cs,∀e:Ev,e.num=x.1->e∈a.heap->e∈(lO a w (bM f (c.certs.list[i]!).2 c.now).1).heap:=by
    intro cs hcs x hx e he hm;refine (rmem e).2 (.inr ⟨hm,fun h=>hcs x hx ?_⟩)
    rw [<- he,h,hnum]
   refine ⟨k+1,lO a w (bM f (c.certs.list[i]!).2 c.now).1,ds++[c.due[k]!],?_,?_,⟨rok,by rw [rlen.2];exact inv.w2,?_,?_,by omega,?_⟩,by simp;omega⟩
   · unfold dY stP
     simp only [e1,cond_true,cg,aB,wn,pl,his,gk,aeta,re,ap,show ((0:Int) !=0)=false from rfl,cond_false,sc]
   · unfold cW stR
     simp only [aE,e1,cond_true,cg,aB,ceta,dq,wr,his,k0,gk,aeta,rr,ap,ai,cond_false,sc]
   · rw [tk]
     exact ((inv.new.mono (stay _ other)).snoc (x:=c.certs.list[i]!)).2 _ his hd2 ((rmem _).2 (.inl (by
      show _=((bM f (c.certs.list[i]!).2 c.now).1.1,(bM f (c.certs.list[i]!).2 c.now).1.2,(a.heap[w]!).2.2);rw [hev])))
   · exact hd4.mono (stay _ other')
   rw [rlen.1,inv.cnt,ac]
   simp only [az,bn];omega
  |false=>
   right;have rv:=CG inv.ok hw inv.ok.fit hh;have rr:=CH inv.ok hw hh;have rok:=L4 inv.ok hw;have rmem:=QH inv.ok hw;have rlen:=aTx inv.ok hw;have stay: ∀(cs:List wI),(∀x∈cs,x.1≠(c.certs.list[i]!).1)-> ∀x∈cs,∀e:Ev,e.num=x.1->e∈a.heap->e∈(fF a w).heap:=by
    intro cs hcs x hx e he hm;refine (rmem e).2 ⟨hm,fun h=>hcs x hx ?_⟩
    rw [<- he,h,hnum]
   refine ⟨k+1,fF a w,ds,?_,?_,⟨rok,by rw [rlen.2];exact inv.w2,?_,hd4.mono (stay _ other'),by omega,?_⟩,by omega⟩
   · unfold dY stP
     simp only [e1,cond_true,cg,aB,wn,pl,his,gk,aeta,rv,show ((0:Int) !=0)=false from rfl,cond_false,sc]
   · unfold cW stR
     simp only [aE,e1,cond_true,cg,aB,ceta,dq,wr,his,k0,gk,aeta,rr,af,cond_false,sc]
   · rw [tk]
     exact ((inv.new.mono (stay _ other)).snoc (x:=c.certs.list[i]!)).1 his
   have:=inv.cnt
   rw [rlen.1];omega
 |false=>
  have fol:=(aV.cons_false hwas).1 old;have no: ∀j,j<c.due.length->(c.due[j]!).1≠(c.certs.list[i]!).1:=by
   intro j hj he;obtain ⟨x,hx,h1,h2,_⟩:=ok.fol.due _ (bL hj)
   have:=ok.crt_up.inj hx (bL hi) (by rw [<- h1,he])
   rw [this,hwas] at h2;cases h2
  obtain ⟨m,pl⟩:=pd.2 no;have dq:=da.2 no;have k0:decide ((0:Int)<= -1)=false:=dec_f (by omega)
  cases his:(bM f (c.certs.list[i]!).2 c.now).2 with
  |true=>
   have tt:bQ (bM f (c.certs.list[i]!).2 c.now).1/\oA (bM f (c.certs.list[i]!).2 c.now).1:=KC (dB fok hb.2).1 (dB fok hb.1).1 ok.now64 ok.nowv his;obtain ⟨t1,t2⟩:=tt;have n0:=(ok.crt.nr i hi).1;have n1:(c.certs.list[i]!).1<=1000000:=by have:=(ok.crt.nr i hi).2;have:=ok.crt.n1;omega
   have fresh:=aDK ok inv hi hwas
   by_cases op:EF a.slots
   · right
     have pu:=CD inv.ok op inv.ok.fit (t:=(bM f (c.certs.list[i]!).2 c.now).1) (n:=(c.certs.list[i]!).1) t1 t2 n0 n1 fresh;have rp:=EG inv.ok op (t:=(bM f (c.certs.list[i]!).2 c.now).1) (n:=(c.certs.list[i]!).1) t1 t2 n0 n1;have pok:=aCD inv.ok op (t:=(bM f (c.certs.list[i]!).2 c.now).1) (n:=(c.certs.list[i]!).1) t1 t2 n0 n1 fresh
     have pmem:=ZC inv.ok op (t:=(bM f (c.certs.list[i]!).2 c.now).1) (n:=(c.certs.list[i]!).1) t1;have plen:=KH inv.ok op (t:=(bM f (c.certs.list[i]!).2 c.now).1) (n:=(c.certs.list[i]!).1) t1;have ap: ∀h:Int×Int,bZ ds [((c.certs.list[i]!).1,h)]=some (ds++[((c.certs.list[i]!).1,h)]):=fun h=>fE (by simp;omega)
     have opn:=vA inv.ok.so;rw [aH op] at opn;refine ⟨k,nB a (bM f (c.certs.list[i]!).2 c.now).1 (c.certs.list[i]!).1,ds++[((c.certs.list[i]!).1,nA a.slots)],?_,?_,⟨pok,by rw [aNc inv.ok pok];exact inv.w2,?_,?_,inv.kl,?_⟩,by simp;omega⟩
     · unfold dY stP
       simp only [e1,cond_true,cg,aB,wn,pl,his,aeta,pu,ap,show ((0:Int) !=0)=false from rfl,cond_false,sc]
     · unfold cW stR
       simp only [aE,e1,cond_true,cg,aB,ceta,dq,wr,his,k0,aeta,rp,ap,ai,cond_false,sc,opn]
     · rw [tk]
       exact ((inv.new.mono fun x hx e he hm=>(pmem e).2 (.inr hm)).snoc (x:=c.certs.list[i]!)).2 _ his rfl ((pmem _).2 (.inl rfl))
     · exact fol.mono fun x hx e he hm=>(pmem e).2 (.inr hm)
     have:=inv.cnt
     rw [plen,ac];simp only [az,bn];omega
   left
   have pu:=CE inv.ok op inv.ok.fit (t:=(bM f (c.certs.list[i]!).2 c.now).1) (n:=(c.certs.list[i]!).1) t1 t2 n0 n1 fresh;have ap: ∀h:Int×Int,bZ ds [((c.certs.list[i]!).1,h)]=some (ds++[((c.certs.list[i]!).1,h)]):=fun h=>fE (by simp;omega)
   have opn:=vA inv.ok.so;rw [dec_f op] at opn;constructor
   · unfold dY stP
     simp only [e1,cond_true,cg,aB,wn,pl,his,aeta,pu,ap,show ((18:Int) !=0)=true from rfl,cond_false]
   unfold cW stR
   simp only [aE,e1,cond_true,cg,aB,ceta,dq,wr,his,k0,aeta,ai,af,cond_false,opn]
  |false=>
   right;refine ⟨k,a,ds,?_,?_,⟨inv.ok,inv.w2,?_,fol,inv.kl,inv.cnt⟩,by omega⟩
   · unfold dY stP
     simp only [e1,cond_true,cg,aB,wn,pl,his,show ((0:Int) !=0)=false from rfl,cond_false,sc]
   · unfold cW stR
     simp only [aE,e1,cond_true,cg,aB,ceta,dq,wr,his,k0,af,cond_false,sc]
   rw [tk]
   exact (inv.new.snoc (x:=c.certs.list[i]!)).1 his
theorem aV5:
 (qZ c ⟨f⟩=some (eV,18)/\pR c ⟨f⟩=some (eV,18))\/
 ∃c':aO,qZ c ⟨f⟩=some (c',0)/\pR c ⟨f⟩=some (c',0)/\aZ c'/\c'.field.points=f/\c'.now=c.now/\c'.certs=c.certs:=by
 have bd:=ok.bd;have f64:=fok.1;have run: ∀(d i k:Nat) (a:aP) (ds:List wI),c.certs.list.length-i<=d->i<=c.certs.list.length->QP c f i k a ds->ds.length<=i->
  (aG dY (stP c f i a ds)=some (.done (eV,18))/\aG cW (stR c f i a ds)=some (eV,18))\/
  ∃c':aO,aG dY (stP c f i a ds)=some (.done (c',0))/\aG cW (stR c f i a ds)=some (c',0)/\aZ c'/\c'.field.points=f/\c'.now=c.now/\c'.certs=c.certs:=by
  have fin: ∀(k:Nat) (a:aP) (ds:List wI),QP c f c.certs.list.length k a ds-> ∃c':aO,aG dY (stP c f c.certs.list.length a ds)=some (.done (c',0))/\aG cW (stR c f c.certs.list.length a ds)=some (c',0)/\aZ c'/\c'.field.points=f/\c'.now=c.now/\c'.certs=c.certs:=by
   intro k a ds inv;have e1:decide ((c.certs.list.length:Int)<(c.certs.list.length:Int))=false:=dec_f (by omega)
   have hk:c.due.length-k=0:=by
    have:=inv.old
    rw [bz] at this
    have:c.due.drop k=[]:=this
    rw [List.drop_eq_nil_iff] at this;omega
   have new:=inv.new;rw [List.take_length] at new;refine ⟨⟨c.now,⟨f⟩,c.certs,a,ds⟩,aK ?_,aK ?_,⟨ok.nowv,ok.now64,fok,ok.crt,inv.ok,inv.w2,?_,kn,new⟩,rfl,rfl,rfl⟩
   · unfold dY stP
     simp only [e1,cond_false]
   · unfold cW stR
     simp only [aE,e1,cond_false]
   have:=inv.cnt
   show a.heap.length=ds.length;omega
  intro d
  induction d with
  |zero=>
   intro i k a ds hd hi inv hds
   have:i=c.certs.list.length:=by omega
   subst this;exact .inr (fin k a ds inv)
  |succ d ih=>
   intro i k a ds hd hi inv hds
   by_cases he:i=c.certs.list.length
   · subst he;exact .inr (fin k a ds inv)
   rcases aFY ok fok kn inv (by omega) hds with ⟨h1,h2⟩|⟨k',a',ds',h1,h2,h3,h4⟩
   · exact .inl ⟨aK h1,aK h2⟩
   rw [bC h1,bC h2]
   exact ih (i+1) k' a' ds' (by omega) (by omega) h3 h4
 have start:=run c.certs.list.length 0 0 c.agenda [] (by omega) (by omega) ⟨ok.agd,ok.w200,rfl,by rw [bq,bq];exact ok.fol,by omega,by have:=ok.hd;simp;omega⟩ (by simp)
 have hc:gY c=some 0:=by rw [mG ok.fit,if_pos ok]
 have hf:eW ⟨f⟩=some 0:=by rw [mF];exact congrArg some (mS.2 fok)
 have tw:=lI ok;have tw':lC (aO.mk (c.now.1,c.now.2) (Field.mk c.field.points) (bK.mk c.certs.next_ c.certs.list) (aP.mk (aU.mk c.agenda.slots.uses c.agenda.slots.used c.agenda.slots.free) c.agenda.heap c.agenda.where_) c.due)=some c:=tw
 have first:aG lV (c.certs.list,(c.certs.list.length:Int),0,c.now.1,c.now.2,c.field.points,c.certs.next_,c.certs.list,c.agenda.slots.uses,c.agenda.slots.used,c.agenda.slots.free,c.agenda.heap,c.agenda.where_,c.due,f,0,0,0)=
  aG lV (c.certs.list,(c.certs.list.length:Int),(c.certs.list.length:Int),c.now.1,c.now.2,c.field.points,c.certs.next_,c.certs.list,c.agenda.slots.uses,c.agenda.slots.used,c.agenda.slots.free,c.agenda.heap,c.agenda.where_,c.due,f,0,0,0):=by
  refine dO (body:=lV) (fun i=>(c.certs.list,(c.certs.list.length:Int),(i:Int),c.now.1,c.now.2,c.field.points,c.certs.next_,c.certs.list,c.agenda.slots.uses,c.agenda.slots.used,c.agenda.slots.free,c.agenda.heap,c.agenda.where_,c.due,f,0,0,0)) c.certs.list.length (fun i hi=>?_)
  have e1:decide ((i:Int)<(c.certs.list.length:Int))=true:=aH (by omega)
  unfold lV;simp only [e1,cond_true,aC c.certs.list i hi,aB,oT fok,dec_f (VU fok (kn i hi).1),dec_f (VU fok (kn i hi).2),cond_false,aT (show i<1000000000 by omega)]
 have second: ∀r,aG dY (stP c f 0 c.agenda [])=some (.done r)->qZ c ⟨f⟩=some r:=by
  intro r hr;unfold qZ;simp only [hc,aB,show ((0:Int) !=0)=false from rfl,cond_false,hf,aE];rw [first]
  refine aK ?_;unfold lV;have e1:decide ((c.certs.list.length:Int)<(c.certs.list.length:Int))=false:=dec_f (by omega)
  simp only [aE,e1,cond_false,tw',aB,aY (show f.length<=1048576 by omega)]
  exact hr
 have third: ∀r,aG cW (stR c f 0 c.agenda [])=some r->pR c ⟨f⟩=some r:=by
  intro r hr;unfold pR yX;simp only [jO ok,aB,aY (show f.length<=1048576 by omega)]
  exact hr
 rcases start with ⟨h1,h2⟩|⟨c',h1,h2,h3⟩
 · exact .inl ⟨second _ h1,third _ h2⟩
 exact .inr ⟨c',second _ h1,third _ h2,h3⟩
end
theorem pW (l:List (Int×Int)) (x:Int×Int) (hl:l.length<=1000000):eY l x=some (decide (x∈l)):=by
 unfold eY rW;have key:=mR (body:=kW) (fun i=>(l,(l.length:Int),(i:Int),x)) l.length (fun i=>l[i]! =x) (fun i=>(i:Int)) (e:= -1) (fun i hi=>by
  have e1:decide ((i:Int)<(l.length:Int))=true:=aH (by omega)
  unfold kW;simp only [e1,cond_true,aC l i hi,aB,aT (show i<1000000000 by omega)]
  generalize l[i]! =y;constructor
  · intro h;rw [eH (congrArg dc h.symm),eH (congrArg Prod.snd h.symm)];rfl
  · intro h
    by_cases h1:x.1=y.1
    · rw [eH h1,eM (fun h2=>h (ce h1.symm h2.symm))];rfl
    rw [eM h1];rfl) (by
  unfold kW
  have:decide ((l.length:Int)<(l.length:Int))=false:=dec_f (by omega)
  simp only [this,cond_false])
 rw [aE]
 by_cases hx:x∈l
 · obtain ⟨i,hi,he⟩:=aW.1 hx
   obtain ⟨k,h1,h2,h3⟩:=KA (c:=fun i=>l[i]! =x) ⟨i,hi,he⟩
   have:=key.1 k h1 h2 h3
   rw [show ((0:Nat):Int)=0 from rfl] at this;rw [this,aH hx];simp only [aB,aH (show (0:Int)<=(k:Int) by omega)]
 have:=key.2 fun i hi he=>hx (aW.2 ⟨i,hi,he⟩)
 rw [show ((0:Nat):Int)=0 from rfl] at this;rw [this,dec_f hx];rfl
theorem F0 (l:List (Int×Int)) (x:Int×Int) (hl:l.length<=1000000):FK l x=some (decide (x∈l)):=by
 unfold FK;have key:=dS (body:=AP) (fun i=>(l,(i:Int),x)) l.length (fun i=>l[i]! =x) (r:=true) (e:=false) (fun i hi=>by
  have e1:decide ((i:Int)<(l.length:Int))=true:=aH (by omega)
  unfold AP;simp only [aE,e1,cond_true,aC l i hi,aB,aT (show i<1000000000 by omega)]
  generalize l[i]! =y;constructor
  · intro h;rw [eH (congrArg dc h),eH (congrArg Prod.snd h)];rfl
  · intro h
    by_cases h1:y.1=x.1
    · rw [eH h1,eM (fun h2=>h (ce h1 h2))];rfl
    rw [eM h1];rfl) (by
  unfold AP
  have:decide ((l.length:Int)<(l.length:Int))=false:=dec_f (by omega)
  simp only [aE,this,cond_false])
 by_cases hx:x∈l
 · rw [aH hx];exact key.1 (aW.1 hx)
 rw [dec_f hx];exact key.2 fun i hi he=>hx (aW.2 ⟨i,hi,he⟩)
theorem aFZ (x y:wI):((x.1==y.1)&&((x.2.1==y.2.1)&&(x.2.2==y.2.2)))=decide (x=y):=by
 rw [Bool.eq_iff_iff,decide_eq_true_iff];simp only [Bool.and_eq_true,beq_iff_eq];constructor
 · rintro ⟨h1,h2,h3⟩;exact ce h1 (ce h2 h3)
 rintro rfl;exact ⟨rfl,rfl,rfl⟩
theorem ZN (a b:List wI) (hl:a.length<=1000000):IR ⟨a⟩ ⟨b⟩=some (decide (a=b)):=by
 unfold IR;simp only [aE]
 by_cases h:a.length=b.length
 case neg=>rw [dL (by omega),dec_f (fun k=>h (by rw [k]))];rfl
 rw [bP (by omega)]
 simp only [cond_false];have key:=dS (body:=uY) (fun i=>((i:Int),a,b)) a.length (fun i=> ¬a[i]! =b[i]!) (r:=false) (e:=true) (fun i hi=>by
  have e1:decide ((i:Int)<(a.length:Int))=true:=aH (by omega)
  unfold uY;simp only [aE,e1,cond_true,aC a i hi,aC b i (by omega),aB,aT (show i<1000000000 by omega),aFZ]
  constructor
  · intro h;rw [dec_f h];rfl
  · intro h;rw [aH (au.1 h)];rfl) (by
  unfold uY
  have:decide ((a.length:Int)<(a.length:Int))=false:=dec_f (by omega)
  simp only [aE,this,cond_false])
 by_cases he:a=b
 · rw [aH he]
   exact key.2 fun i hi=>au.2 (by rw [he])
 rw [dec_f he]
 refine key.1 (ae fun hx=>he (wH h fun i hi=>?_))
 exact ae fun hn=>hx ⟨i,hi,hn⟩
theorem VV (a b:List wI) (hl:a.length<=1000000):mY a b=some (decide (a=b)):=by
 unfold mY;simp only [aE]
 by_cases h:a.length=b.length
 case neg=>rw [dL (by omega),dec_f (fun k=>h (by rw [k]))];rfl
 rw [bP (by omega)]
 simp only [cond_false];have key:=dS (body:=kG) (fun i=>(a,b,(a.length:Int),(i:Int))) a.length (fun i=> ¬a[i]! =b[i]!) (r:=false) (e:=true) (fun i hi=>by
  have e1:decide ((i:Int)<(a.length:Int))=true:=aH (by omega)
  unfold kG;simp only [e1,cond_true,aC a i hi,aC b i (by omega),aB,aT (show i<1000000000 by omega),aFZ]
  constructor
  · intro h;rw [dec_f h];rfl
  · intro h;rw [aH (au.1 h)];rfl) (by
  unfold kG
  have:decide ((a.length:Int)<(a.length:Int))=false:=dec_f (by omega)
  simp only [this,cond_false])
 by_cases he:a=b
 · rw [aH he]
   exact key.2 fun i hi=>au.2 (by rw [he])
 rw [dec_f he]
 refine key.1 (ae fun hx=>he (wH h fun i hi=>?_))
 exact ae fun hn=>hx ⟨i,hi,hn⟩
theorem aDN {cs:List wI} {m:Nat} {x:wI} (hx:x∈cs) (hne:x.1≠(cs[m]!).1):x∈cs.eraseIdx m:=by
 obtain ⟨j,hj,rfl⟩:=aW.1 hx;have hjm:j≠m:=fun h=>hne (by rw [h])
 rw [zE,ba]
 by_cases h:j<m
 · exact .inl (cJ.2 ⟨j,h,hj,rfl⟩)
 right
 rw [aW];refine ⟨j- (m+1),by rw [ao];omega,?_⟩
 rw [uB]
 congr 1;omega
def kP (c0:aO) (f:List Pt) (es:List (Int×Int)) (i:Nat) (c:aO):=
 (es,c0.certs.list,(c0.certs.list.length:Int),(i:Int),c.now.1,c.now.2,c.field.points,c.certs.next_,c.certs.list,c.agenda.slots.uses,c.agenda.slots.used,c.agenda.slots.free,c.agenda.heap,c.agenda.where_,c.due,f,(0:Int),(0:Int),(0:Int))
def kR (c0:aO) (f:List Pt) (es:List (Int×Int)) (i:Nat) (c:aO):=
 (es,(i:Int),c0.now.1,c0.now.2,c0.field.points,c0.certs.next_,c0.certs.list,c0.agenda.slots.uses,c0.agenda.slots.used,c0.agenda.slots.free,c0.agenda.heap,c0.agenda.where_,c0.due,f,(0:Int),(0:Int),(0:Int),c.now.1,c.now.2,c.field.points,c.certs.next_,c.certs.list,c.agenda.slots.uses,c.agenda.slots.used,c.agenda.slots.free,c.agenda.heap,c.agenda.where_,c.due)
def eP (es:List (Int×Int)) (i:Nat) (c:aO):=
 (es,(es.length:Int),(i:Int),c.now.1,c.now.2,c.field.points,c.certs.next_,c.certs.list,c.agenda.slots.uses,c.agenda.slots.used,c.agenda.slots.free,c.agenda.heap,c.agenda.where_,c.due,(0:Int),(0:Int),(0:Int))
def eR (es:List (Int×Int)) (i:Nat) (c:aO):=
 (es,(i:Int),(0:Int),(0:Int),(0:Int),c.now.1,c.now.2,c.field.points,c.certs.next_,c.certs.list,c.agenda.slots.uses,c.agenda.slots.used,c.agenda.slots.free,c.agenda.heap,c.agenda.where_,c.due)
def pJ (c:aO):Int:=c.certs.next_- (c.certs.list.length:Int)
structure QQ (c:aO) (f:List Pt) (es:List (Int×Int)) (r:aO):Prop where
 has: ∀e∈es,wY r.certs.list e
 sub: ∀x∈r.certs.list,x.2∈es
 ok:aZ r
 fld:r.field.points=f
 now:r.now=c.now
 room:pJ c<=pJ r
def TM (c:aO) (k:Nat):Prop:=c.certs.list.length<=k/\c.certs.next_<=k/\ ∀j,j<c.agenda.slots.uses.length->c.agenda.slots.uses[j]!<=k
theorem aV.len {l:List Pt} {t:Int×Int} {H:List Ev}: ∀{cs ds:List wI},aV l t H cs ds->ds.length<=cs.length
 | [],ds,h=>by rw [show ds=[] from h];exact aj _
 |x::cs,ds,h=>by
  cases hy:(bM l x.2 t).2 with
  |true=>
   obtain ⟨d,ds',rfl,_,_,h4⟩:=h.1 hy;exact Nat.succ_le_succ h4.len
  |false=>exact Nat.le_succ_of_le (h.2 hy).len
theorem TM.not_full {c:aO} (ok:aZ c) {k:Nat} (h:TM c k) (hk:k<=199): ¬(KJ c.certs\/ ¬EF c.agenda.slots):=by
 obtain ⟨h1,h2,h3⟩:=h;have fl:=ok.fol.len;have hd:=ok.hd;have hl:=ok.agd.hl;have wl:=ok.agd.wl;have w2:=ok.w200;rintro (h|h)
 · rcases h with h|h<;>omega
 refine h ⟨by omega,?_⟩
 have:=h3 _ (GR ok.agd.so (by omega)).1
 omega
theorem TM.more {c c':aO} {k:Nat} (h:TM c k) {x:Int×Int} (hc:c'.certs=sQ c.certs x) (hs:c'.agenda.slots=c.agenda.slots\/c'.agenda.slots=iL c.agenda.slots):TM c' (k+1):=by
 obtain ⟨h1,h2,h3⟩:=h;refine ⟨?_,?_,fun j hj=>?_⟩
 · rw [hc]
   show (c.certs.list++[(c.certs.next_,x)]).length<=_;rw [ac,bi];omega
 · rw [hc]
   show c.certs.next_+1<=_;omega
 rcases hs with e|e
 · rw [e] at hj ⊢
   have:=h3 j hj;omega
 rw [e] at hj ⊢
 change j<(c.agenda.slots.uses.set _ _).length at hj;rw [ar] at hj;show (c.agenda.slots.uses.set (dM c.agenda.slots) (c.agenda.slots.uses[dM c.agenda.slots]!+1))[j]!<=_;rw [bF];split
 · rename_i h;have:=h3 _ h.2;omega
 have:=h3 j hj;omega
structure KM (f:List Pt) (es:List (Int×Int)):Prop where
 len:es.length<=1000000
 cv: ∀x∈es,fO x
 kn: ∀x∈es,iF f x
theorem aF0 {c0:aO} (ok0:aZ c0) {f:List Pt} {es:List (Int×Int)} (eok:KM f es):
 ∀(d i:Nat) (c:aO),c0.certs.list.length-i<=d->i<=c0.certs.list.length->aZ c->(∀x∈c0.certs.list.drop i,x∈c.certs.list)->(∀x∈c.certs.list,x∈c0.certs.list.drop i\/x.2∈es)->
  ∃c':aO,aG eZ (kP c0 f es i c)=aG eZ (kP c0 f es c0.certs.list.length c')/\aG eA (kR c0 f es i c)=aG eA (kR c0 f es c0.certs.list.length c')/\aZ c'/\(∀x∈c'.certs.list,x.2∈es)/\c'.field=c.field/\c'.now=c.now/\pJ c<=pJ c':=by
 have bd:=ok0.bd;intro d
 induction d with
 |zero=>
  intro i c hd hi ok h1 h2
  have:i=c0.certs.list.length:=by omega
  subst this;refine ⟨c,rfl,rfl,ok,fun x hx=>?_,rfl,rfl,bv _⟩
  rcases h2 x hx with h|h
  · rw [bz] at h;cases h
  exact h
 |succ d ih=>
  intro i c hd hi ok h1 h2
  by_cases he:i=c0.certs.list.length
  · subst he
    refine ⟨c,rfl,rfl,ok,fun x hx=>?_,rfl,rfl,bv _⟩
    rcases h2 x hx with h|h
    · rw [bz] at h;cases h
    exact h
  have hi':i<c0.certs.list.length:=by omega
  have e1:decide ((i:Int)<(c0.certs.list.length:Int))=true:=aH (by omega)
  have sc:=aT (show i<1000000000 by omega)
  have cg:=aC c0.certs.list i hi';have dr:=xZ hi';have ceta:(aO.mk (c.now.1,c.now.2) (Field.mk c.field.points) (bK.mk c.certs.next_ c.certs.list) (aP.mk (aU.mk c.agenda.slots.uses c.agenda.slots.used c.agenda.slots.free) c.agenda.heap c.agenda.where_) c.due)=c:=rfl
  by_cases hin:(c0.certs.list[i]!).2∈es
  · have s1:eZ (kP c0 f es i c)=some (.next (kP c0 f es (i+1) c)):=by
     unfold eZ kP;simp only [e1,cond_true,cg,aB,pW _ _ eok.len,aH hin,ai,cond_false,sc]
    have s2:eA (kR c0 f es i c)=some (.next (kR c0 f es (i+1) c)):=by
     unfold eA kR;simp only [aE,e1,cond_true,cg,aB,F0 _ _ eok.len,aH hin,ai,cond_false,sc]
    rw [bC s1,bC s2];refine ih (i+1) c (by omega) (by omega) ok (fun x hx=>h1 x (by rw [dr];exact aa _ hx)) (fun x hx=>?_)
    rcases h2 x hx with h|h
    · rw [dr] at h
      rcases db.1 h with rfl|h
      · exact .inr hin
      exact .inl h
    exact .inr h
  have hm:=h1 (c0.certs.list[i]!) (by rw [dr];exact ax)
  obtain ⟨m,hm1,hm2⟩:=aW.1 hm;obtain ⟨c',r1,r2,r3,r4,r5,r6⟩:=aFX ok hm1;have rt:=NG ok hm1 r1;rw [hm2] at r2 rt;have s1:eZ (kP c0 f es i c)=some (.next (kP c0 f es (i+1) c')):=by
   unfold eZ kP;simp only [e1,cond_true,cg,aB,pW _ _ eok.len,dec_f hin,af,sc,ceta,rt]
  have s2:eA (kR c0 f es i c)=some (.next (kR c0 f es (i+1) c')):=by
   unfold eA kR;simp only [aE,e1,cond_true,cg,aB,F0 _ _ eok.len,dec_f hin,af,sc,ceta,r2]
  rw [bC s1,bC s2];have cl:c'.certs.list=c.certs.list.eraseIdx m:=by rw [r6];rfl
  have hroom:pJ c<=pJ c':=by
   unfold pJ;rw [r6];show _<=c.certs.next_- (((c.certs.list.eraseIdx m).length:Nat):Int);rw [List.length_eraseIdx_of_lt hm1];omega
  have hs:(∀x∈c0.certs.list.drop (i+1),x∈c'.certs.list)/\(∀x∈c'.certs.list,x∈c0.certs.list.drop (i+1)\/x.2∈es):=by
   refine ⟨fun x hx=>?_,fun x hx=>?_⟩
   · rw [cl]
     refine aDN (h1 x (by rw [dr];exact aa _ hx)) ?_
     rw [hm2];exact KL ok0 hx hi'
   rw [cl] at hx
   obtain ⟨a1,a2⟩:=xV ok.crt_up hm1 hx;rw [hm2] at a2;rcases h2 x a1 with h|h
   · rw [dr] at h
     rcases db.1 h with rfl|h
     · exact absurd rfl a2
     exact .inl h
   exact .inr h
  obtain ⟨d',q1,q2,q3,q4,q5,q6,q7⟩:=ih (i+1) c' (by omega) (by omega) r3 hs.1 hs.2
  exact ⟨d',q1,q2,q3,q4,q5.trans r4,q6.trans r5,by omega⟩
theorem ZO {f:List Pt} (_fok:cC f) {es:List (Int×Int)} (eok:KM f es):
 ∀(d i:Nat) (c:aO),es.length-i<=d->i<=es.length->aZ c->c.field.points=f->(∀x∈c.certs.list,x.2∈es)->(∀j,j<i->wY c.certs.list es[j]!)->
  ∃r:aO×Int,aG fX (eP es i c)=some (.done r)/\aG eJ (eR es i c)=some (.done r)/\(r.2=0/\QQ c f es r.1\/r=(eV,18))/\(∀k,TM c k->k+(es.length-i)<=199->r.2=0):=by
 have el:=eok.len;have fin: ∀c:aO,aZ c->c.field.points=f->(∀x∈c.certs.list,x.2∈es)->(∀j,j<es.length->wY c.certs.list es[j]!)-> ∃r:aO×Int,aG fX (eP es es.length c)=some (.done r)/\aG eJ (eR es es.length c)=some (.done r)/\(r.2=0/\QQ c f es r.1\/r=(eV,18))/\r.2=0:=by
  intro c ok hf hs hh;have e1:decide ((es.length:Int)<(es.length:Int))=false:=dec_f (by omega)
  refine ⟨(c,0),aK ?_,aK ?_,.inl ⟨rfl,fun e he=>by obtain ⟨j,hj,q⟩:=aW.1 he;rw [<- q];exact hh j hj,hs,ok,hf,rfl,bv _⟩,rfl⟩
  · unfold fX eP
    simp only [e1,cond_false]
  unfold eJ eR
  simp only [aE,e1,cond_false]
 intro d
 induction d with
 |zero=>
  intro i c hd hi ok hf hs hh
  have:i=es.length:=by omega
  subst this;obtain ⟨r,q1,q2,q3,q4⟩:=fin c ok hf hs hh;exact ⟨r,q1,q2,q3,fun _ _ _=>q4⟩
 |succ d ih=>
  intro i c hd hi ok hf hs hh
  by_cases he:i=es.length
  · subst he
    obtain ⟨r,q1,q2,q3,q4⟩:=fin c ok hf hs hh;exact ⟨r,q1,q2,q3,fun _ _ _=>q4⟩
  have bd:=ok.bd;have hi':i<es.length:=by omega
  have e1:decide ((i:Int)<(es.length:Int))=true:=aH (by omega)
  have sc:=aT (show i<1000000000 by omega)
  have cg:=aC es i hi';have ceta:(aO.mk (c.now.1,c.now.2) (Field.mk c.field.points) (bK.mk c.certs.next_ c.certs.list) (aP.mk (aU.mk c.agenda.slots.uses c.agenda.slots.used c.agenda.slots.free) c.agenda.heap c.agenda.where_) c.due)=c:=rfl;have ceta2:bK.mk c.certs.next_ c.certs.list=c.certs:=rfl;have hc:=ZG c.certs.list es[i]! (by omega)
  have hr:=DR c.certs es[i]! (by omega)
  by_cases hin:wY c.certs.list es[i]!
  · have s1:fX (eP es i c)=some (.next (eP es (i+1) c)):=by
     unfold fX eP;simp only [e1,cond_true,cg,aB,L6,hc,aH hin,sc]
    have s2:eJ (eR es i c)=some (.next (eR es (i+1) c)):=by
     unfold eJ eR;simp only [aE,e1,cond_true,cg,aB,ceta2,hr,aH hin,sc]
    rw [bC s1,bC s2];obtain ⟨r,q1,q2,q3,q4⟩:=ih (i+1) c (by omega) (by omega) ok hf hs (fun j hj=>if q:j=i then by rw [q];exact hin else hh j (by omega))
    exact ⟨r,q1,q2,q3,fun k hk hl=>q4 k hk (by omega)⟩
  have hb:iF c.field.points es[i]!:=by rw [hf];exact eok.kn _ (bL hi')
  rcases aNb ok (eok.cv _ (bL hi')) hb hin with ⟨r1,r2,full⟩|⟨c',r1,r2,r3,r4,r5,r6,r7⟩
  · refine ⟨(eV,18),aK ?_,aK ?_,.inr rfl,fun k hk hl=>absurd full (hk.not_full ok (by omega))⟩
    · unfold fX eP
      simp only [e1,cond_true,cg,aB,L6,hc,dec_f hin,cond_false,ceta,r1,show ((18:Int) !=0)=true from rfl]
    unfold eJ eR
    simp only [aE,e1,cond_true,cg,aB,ceta2,hr,dec_f hin,cond_false,ceta,r2,show ((18:Int) !=0)=true from rfl]
  have s1:fX (eP es i c)=some (.next (eP es (i+1) c')):=by
   unfold fX eP;simp only [e1,cond_true,cg,aB,L6,hc,dec_f hin,cond_false,ceta,r1,show ((0:Int) !=0)=false from rfl,sc]
  have s2:eJ (eR es i c)=some (.next (eR es (i+1) c')):=by
   unfold eJ eR;simp only [aE,e1,cond_true,cg,aB,ceta2,hr,dec_f hin,cond_false,ceta,r2,show ((0:Int) !=0)=false from rfl,sc]
  rw [bC s1,bC s2];obtain ⟨r,q1,q2,q3,q6⟩:=ih (i+1) c' (by omega) (by omega) r3 (by rw [r4,hf]) (fun x hx=>by
   rw [r6] at hx;rcases ba.1 (show x∈c.certs.list++[(c.certs.next_,es[i]!)] from hx) with h|h
   · exact hs x h
   · rw [List.mem_singleton.1 h];exact bL hi') (fun j hj=>by
   rw [r6];show wY (c.certs.list++[(c.certs.next_,es[i]!)]) _
   by_cases q:j=i
   · rw [q];exact ⟨c.certs.list.length,by rw [ac,bi];omega,by rw [kE (aj _),Nat.sub_self];rfl⟩
   obtain ⟨w,w1,w2⟩:=hh j (by omega)
   exact ⟨w,by rw [ac];omega,by rw [iE w1];exact w2⟩)
  refine ⟨r,q1,q2,q3.imp (fun ⟨q4,q5⟩=>⟨q4,q5.has,q5.sub,q5.ok,q5.fld,q5.now.trans r5,cb ?_ q5.room⟩) id,fun k hk hl=>q6 (k+1) (hk.more r6 r7) (by omega)⟩
  unfold pJ;rw [r6];show _<=(c.certs.next_+1) - (((c.certs.list++[(c.certs.next_,es[i]!)]).length:Nat):Int);rw [ac,bi];omega
theorem aNd {c:aO} (ok:aZ c) {f:List Pt} (fok:cC f) {es:List (Int×Int)} (eok:KM f es):
 ∃r:aO×Int,vR c ⟨f⟩ es=some r/\pS c ⟨f⟩ es=some r/\(r.2=0/\QQ c f es r.1\/r=(eV,18)):=by
 have f64:=fok.1;obtain ⟨c',g1,g2,g3,g4,g5,g6,g7⟩:=aF0 ok eok c.certs.list.length 0 c (by omega) (by omega) ok (fun x hx=>by rwa [bq] at hx) (fun x hx=> .inl (by rwa [bq]))
 have bd:=g3.bd;have e1:decide ((c.certs.list.length:Int)<(c.certs.list.length:Int))=false:=dec_f (by omega)
 have start1:vR c ⟨f⟩ es=aG eZ (kP c f es 0 c):=rfl;have start2:pS c ⟨f⟩ es=aG eA (kR c f es 0 c):=by
  unfold pS;simp only [jO ok,aB];rfl
 rw [start1,start2,g1,g2];have eq1:=VV c'.field.points f (by omega)
 have eq2:=ZN c'.field.points f (by omega)
 have ceta:(aO.mk (c'.now.1,c'.now.2) (Field.mk c'.field.points) (bK.mk c'.certs.next_ c'.certs.list) (aP.mk (aU.mk c'.agenda.slots.uses c'.agenda.slots.used c'.agenda.slots.free) c'.agenda.heap c'.agenda.where_) c'.due)=c':=rfl
 by_cases hf:c'.field.points=f
 · obtain ⟨r,i1,i2,i3,_⟩:=ZO fok eok es.length 0 c' (by omega) (by omega) g3 hf g4 (fun j hj=>absurd hj (cy j))
   refine ⟨r,aK ?_,aK ?_,i3.imp (fun ⟨q4,q5⟩=>⟨q4,q5.has,q5.sub,q5.ok,q5.fld,q5.now.trans g6,cb g7 q5.room⟩) id⟩
   · unfold eZ kP
     simp only [e1,cond_false,eq1,aH hf,aB,ai];exact i1
   unfold eA kR
   simp only [aE,e1,cond_false,eq2,aH hf,aB,ai];exact i2
 have kn: ∀i,i<c'.certs.list.length->iF f (c'.certs.list[i]!).2:=fun i hi=>eok.kn _ (g4 _ (bL hi))
 rcases aV5 g3 fok kn with ⟨a1,a2⟩|⟨c2,a1,a2,a3,a4,a5,a6⟩
 · refine ⟨(eV,18),aK ?_,aK ?_,.inr rfl⟩
   · unfold eZ kP
     simp only [e1,cond_false,eq1,dec_f hf,aB,af,cond_true,ceta,a1,show ((18:Int) !=0)=true from rfl]
   unfold eA kR
   simp only [aE,e1,cond_false,eq2,dec_f hf,aB,af,cond_true,ceta,a2,show ((18:Int) !=0)=true from rfl]
 obtain ⟨r,i1,i2,i3,_⟩:=ZO fok eok es.length 0 c2 (by omega) (by omega) a3 a4 (by rw [a6];exact g4) (fun j hj=>absurd hj (cy j))
 refine ⟨r,aK ?_,aK ?_,i3.imp (fun ⟨q4,q5⟩=>⟨q4,q5.has,q5.sub,q5.ok,q5.fld,(q5.now.trans a5).trans g6,cb (cb g7 (by unfold pJ;rw [a6];exact bv _)) q5.room⟩) id⟩
 · unfold eZ kP
   simp only [e1,cond_false,eq1,dec_f hf,aB,af,cond_true,ceta,a1,show ((0:Int) !=0)=false from rfl];exact i1
 unfold eA kR
 simp only [aE,e1,cond_false,eq2,dec_f hf,aB,af,cond_true,ceta,a2,show ((0:Int) !=0)=false from rfl];exact i2
theorem IX {α:Type} [Inhabited α] {l:List α}:l.Nodup↔ ∀k,k<l.length->l[k]!∉l.take k:=by
 rw [gU];constructor
 · intro h k hk hm
   obtain ⟨i,h1,h2,h3⟩:=cJ.1 hm;exact h i k h1 hk h3
 intro h i j hij hj he
 exact h j hj (cJ.2 ⟨i,hij,by omega,he⟩)
theorem zG {α:Type} [Inhabited α] {l:List α} {P:α->Prop}:(∀x∈l,P x)↔ ∀i,i<l.length->P l[i]!:=by
 constructor
 · intro h i hi;exact h _ (bL hi)
 intro h x hx
 obtain ⟨i,hi,rfl⟩:=aW.1 hx;exact h i hi
theorem nU {σ ρ:Type} {body:σ->Option (bS σ ρ)} (st:Nat->σ) (n:Nat) (P:Nat->Prop) {r e:ρ} (h: ∀i,i<n->(¬P i->body (st i)=some (.done r))/\(P i->body (st i)=some (.next (st (i+1)))))
 (hend:body (st n)=some (.done e)):aG body (st 0)=some (if∀i,i<n->P i then e else r):=by
 have key:=dS (body:=body) st n (fun i=> ¬P i) (r:=r) (e:=e) (fun i hi=>⟨(h i hi).1,fun hn=>(h i hi).2 (au.1 hn)⟩) hend
 by_cases hx: ∀i,i<n->P i
 · rw [if_pos hx];exact key.2 fun i hi=>au.2 (hx i hi)
 rw [if_neg hx]
 obtain ⟨i,h⟩:=Classical.not_forall.1 hx;obtain ⟨hi,hx⟩:=Classical.not_imp.1 h;exact key.1 ⟨i,hi,hx⟩
theorem HL {f:List Pt} (fok:cC f) (id:Int): ∃p e,yP ⟨f⟩ id=some (p,e)/\(e=0↔nC f id):=by
 have h1:=fok.1;have hc:eW ⟨f⟩=some 0:=by rw [mF];exact congrArg some (mS.2 fok)
 have bs:=GV f id (by omega) (fun i j=>pF fok.2.2)
 unfold yP FD IJ;rw [aM9];simp only [hc,aB,show ((0:Int) !=0)=false from rfl,cond_false]
 by_cases h:nC f id
 · obtain ⟨k,hk,he⟩:=h
   rw [bs.1 k hk he];refine ⟨f[k]!,0,?_,fun _=>⟨k,hk,he⟩,fun _=>rfl⟩
   simp only [aB,ai,cond_false,show ((0:Int) !=0)=false from rfl,aC f k hk]
 obtain ⟨m,_,_,_,e⟩:=bs.2 (fun k hk he=>h ⟨k,hk,he⟩)
 rw [e];exact ⟨(0,0,0),6,rfl,fun h=>(by cases h),fun k=>absurd k h⟩
structure TN (c:aO):Prop where
 f:c.field.points.length<=1000000
 l:c.certs.list.length<=1000000
 d:c.due.length<=1000000
 h:c.agenda.heap.length<=1000000
 w:c.agenda.where_.length<=1000000
 s1:c.agenda.slots.uses.length<=1000000
 s2:c.agenda.slots.used.length<=1000000
 s3:c.agenda.slots.free.length<=1000000
theorem aZ.short {c:aO} (ok:aZ c):TN c:=by
 have bd:=ok.bd;have ab:=ok.agd.bd;have sl:=ok.agd.so.fl;have sn:=ok.agd.so.n2;have su:=ok.agd.so.ul;exact ⟨by omega,by omega,by omega,by omega,by omega,by omega,by omega,by omega⟩
theorem RX:TN eV:=⟨by decide,by decide,by decide,by decide,by decide,by decide,by decide,by decide⟩
structure aBi (c:aO):Prop where
 now:oA c.now
 at64: ∀w,w<c.agenda.heap.length->oA ((c.agenda.heap[w]!).1,(c.agenda.heap[w]!).2.1)
theorem ZP (f:Field):vT f=some true\/(vT f=some false/\f.points.length<=70):=by
 unfold vT
 simp only [aE]
 by_cases h1:16<f.points.length
 · rw [aH (show (16:Int)<(f.points.length:Int) by omega)]
   by_cases h2:f.points.length<64
   · rw [aH (show (f.points.length:Int)<64 by omega)];exact .inl rfl
   rw [dec_f (show¬(f.points.length:Int)<64 by omega)]
   by_cases h3:70<f.points.length
   · rw [aH (show (70:Int)<(f.points.length:Int) by omega)];exact .inl rfl
   rw [dec_f (show¬(70:Int)<(f.points.length:Int) by omega)];exact .inr ⟨rfl,by omega⟩
 rw [dec_f (show¬(16:Int)<(f.points.length:Int) by omega),dec_f (show¬(70:Int)<(f.points.length:Int) by omega)]
 exact .inr ⟨rfl,by omega⟩
theorem ZQ (c:aO):vU c=some true\/(vU c=some false/\TN c):=by
 unfold vU FH FG
 simp only [aE]
 by_cases h1:40<c.certs.list.length
 · rw [aH (show (40:Int)<(c.certs.list.length:Int) by omega)];exact .inl rfl
 rw [dec_f (show¬(40:Int)<(c.certs.list.length:Int) by omega)]
 by_cases h2:40<c.due.length
 · rw [aH (show (40:Int)<(c.due.length:Int) by omega)];exact .inl rfl
 rw [dec_f (show¬(40:Int)<(c.due.length:Int) by omega)]
 rcases ZP c.field with e|⟨e,hf⟩
 · rw [e];exact .inl rfl
 rw [e];simp only [cond_false,aB]
 by_cases a1:210<c.agenda.slots.uses.length
 · rw [aH (show (210:Int)<(c.agenda.slots.uses.length:Int) by omega)];exact .inl rfl
 rw [dec_f (show¬(210:Int)<(c.agenda.slots.uses.length:Int) by omega)]
 by_cases a2:210<c.agenda.slots.used.length
 · rw [aH (show (210:Int)<(c.agenda.slots.used.length:Int) by omega)];exact .inl rfl
 rw [dec_f (show¬(210:Int)<(c.agenda.slots.used.length:Int) by omega)]
 by_cases a3:210<c.agenda.slots.free.length
 · rw [aH (show (210:Int)<(c.agenda.slots.free.length:Int) by omega)];exact .inl rfl
 rw [dec_f (show¬(210:Int)<(c.agenda.slots.free.length:Int) by omega)]
 by_cases a4:210<c.agenda.heap.length
 · rw [aH (show (210:Int)<(c.agenda.heap.length:Int) by omega)];exact .inl rfl
 rw [dec_f (show¬(210:Int)<(c.agenda.heap.length:Int) by omega)]
 by_cases a5:210<c.agenda.where_.length
 · rw [aH (show (210:Int)<(c.agenda.where_.length:Int) by omega)];exact .inl rfl
 rw [dec_f (show¬(210:Int)<(c.agenda.where_.length:Int) by omega)]
 exact .inr ⟨rfl,⟨by omega,by omega,by omega,by omega,by omega,by omega,by omega,by omega⟩⟩
theorem aBj {c:aO} (sh:TN c):lG c=some c:=by
 obtain ⟨h1,h2,h3,h4,h5,h6,h7,h8⟩:=sh;unfold lG yX yY qK tX;simp only [aY (show c.field.points.length<=1048576 by omega),aY (show c.certs.list.length<=1048576 by omega),aY (show c.due.length<=1048576 by omega),aY (show c.agenda.heap.length<=1048576 by omega),aY (show c.agenda.where_.length<=1048576 by omega),
  aY (show c.agenda.slots.uses.length<=1048576 by omega),aY (show c.agenda.slots.used.length<=1048576 by omega),aY (show c.agenda.slots.free.length<=1048576 by omega),aB]
theorem aCG {a b:Int×Int} (ha:bQ a) (hb:bQ b) (h:a.1*b.2=b.1*a.2):a=b:=by
 obtain ⟨a1,_,a3⟩:=ha;obtain ⟨b1,_,b3⟩:=hb;have hn:a.1.natAbs*b.2.natAbs=b.1.natAbs*a.2.natAbs:=by rw [<- cz,<- cz,h]
 have d1:b.2.natAbs ∣ a.2.natAbs:=by
  have:b.2.natAbs ∣ b.1.natAbs*a.2.natAbs:=by rw [<- hn];exact cq _ _
  exact (Nat.Coprime.dvd_of_dvd_mul_left b3 this)
 have d2:a.2.natAbs ∣ b.2.natAbs:=by
  have:a.2.natAbs ∣ a.1.natAbs*b.2.natAbs:=by rw [hn];exact cq _ _
  exact (Nat.Coprime.dvd_of_dvd_mul_left a3 this)
 have e:a.2.natAbs=b.2.natAbs:=Nat.dvd_antisymm d2 d1;have e2:a.2=b.2:=by omega
 have e1:a.1=b.1:=by
  rw [e2] at h;exact Int.eq_of_mul_eq_mul_right (by omega) h
 exact ce e1 e2
theorem KN (p q:Pt) (t:Int×Int):PX p q t=(p.2.1-q.2.1)*t.2+(p.2.2-q.2.2)*t.1:=rfl
theorem M4 {l h:Pt} {t t':Int×Int} (d:1<=t.2) (d':1<=t'.2) (le:t.1*t'.2<=t'.1*t.2) (hB: ¬h.2.2<l.2.2) (hn: ¬dQ l h t): ¬dQ l h t':=by
 unfold dQ at*;rw [KN] at*;generalize l.2.1-h.2.1=A at*;have hs:l.2.2-h.2.2<=0:=by omega
 intro hl;have key:(A*t'.2+(l.2.2-h.2.2)*t'.1)*t.2<=(A*t.2+(l.2.2-h.2.2)*t.1)*t'.2:=by
  have h1:(l.2.2-h.2.2)*(t'.1*t.2)<=(l.2.2-h.2.2)*(t.1*t'.2):=Int.mul_le_mul_of_nonpos_left hs le;have e1:(A*t'.2+(l.2.2-h.2.2)*t'.1)*t.2=A*t'.2*t.2+(l.2.2-h.2.2)*(t'.1*t.2):=by rw [Int.add_mul,bw (l.2.2-h.2.2)]
  have e2:(A*t.2+(l.2.2-h.2.2)*t.1)*t'.2=A*t'.2*t.2+(l.2.2-h.2.2)*(t.1*t'.2):=by
   rw [Int.add_mul,bw (l.2.2-h.2.2),bw A,bw A,cf t.2]
  omega
 rcases hl with hl|⟨hl,h2|⟨h2,h3⟩⟩
 · refine hn (.inl ?_)
   have:0<(A*t'.2+(l.2.2-h.2.2)*t'.1)*t.2:=Int.mul_pos hl (by omega)
   have k:0<(A*t.2+(l.2.2-h.2.2)*t.1)*t'.2:=by omega
   exact Int.pos_of_mul_pos_left k (by omega)
 · omega
 have z:l.2.2-h.2.2=0:=by omega
 rw [z] at hl hn
 have:A=0:=by
  have:A*t'.2=0:=by omega
  rcases Int.mul_eq_zero.1 this with h|h
  · exact h
  omega
 subst this;exact hn (.inr ⟨by omega,.inr ⟨h2,h3⟩⟩)
theorem QR {h l:Pt} {t t':Int×Int} (hh:hG h) (hl:hG l) (r:bQ t) (r':bQ t') (le:t.1*t'.2<=t'.1*t.2) (up:(nJ h l t).2=true->t'.1*(nJ h l t).1.2<=(nJ h l t).1.1*t'.2):
 nJ h l t'=nJ h l t:=by
 unfold nJ at*
 by_cases h1:dQ l h t
 · rw [if_pos h1] at up ⊢
   have e:t=t':=aCG r r' (by have:=up rfl;dsimp only at this;omega)
   subst e;rw [if_pos h1]
 rw [if_neg h1] at up ⊢
 by_cases h2:h.2.2<l.2.2
 · rw [if_pos h2] at up ⊢
   obtain ⟨_,m1,m2,m3⟩:=L0 hh hl (show h.2.2≠l.2.2 by omega)
   have up:=up rfl;dsimp only at up
   by_cases h3:dQ l h t'
   · rw [if_pos h3]
     have:t'=met h l:=by
      refine aCG r' m1 ?_;have g:0<=PX l h t':=by rcases h3 with k|k<;>omega
      rw [KN] at g;generalize met h l=m at*;have d:=m1.1;have hB:0<l.2.2-h.2.2:=by omega
      generalize l.2.2-h.2.2=B at*;generalize hA:h.2.1-l.2.1=A at*;have g2:A*t'.2<=B*t'.1:=by
       have:(l.2.1-h.2.1)*t'.2= -(A*t'.2):=by rw [<- Int.neg_mul];congr 1;omega
       omega
      have g3:m.1*t'.2*B<=t'.1*m.2*B:=by
       have e1:m.1*t'.2*B=A*t'.2*m.2:=by
        rw [aq,m3,aq]
       have e2:t'.1*m.2*B=B*t'.1*m.2:=by
        rw [aq,cf t'.1 B]
       rw [e1,e2];exact bk g2 (by omega)
      have g4:m.1*t'.2<=t'.1*m.2:=bu g3 hB;omega
     rw [this]
   rw [if_neg h3]
 rw [if_neg h2] at up ⊢
 rw [if_neg (M4 r.1 r'.1 le h2 h1)]
theorem L9 {a:aP} (ok:fN a): ∀k,k<a.heap.length-> ¬eC a.heap[k]! a.heap[0]!:=by
 have d: ∀w,w<a.heap.length->1<=(a.heap[w]!).2.1:=fun w hw=>(ok.ev w hw).1.1
 intro k
 induction k using Nat.strongRecOn with
 |ind k ih=>
  intro hk
  by_cases h0:k=0
  · subst h0;exact fun h=>qL h h
  exact CC (d 0 (by omega)) (d ((k-1) / 2) (by omega)) (d k hk) (ih ((k-1) / 2) (by omega) (by omega)) (ok.ord k (by omega) hk)
theorem aF1 {h l:Pt} {t:Int×Int} (hh:hG h) (hl:hG l) (r:bQ t) (is:(nJ h l t).2=true):t.1*(nJ h l t).1.2<=(nJ h l t).1.1*t.2:=by
 unfold nJ at*
 by_cases h1:dQ l h t
 · rw [if_pos h1];exact bv _
 rw [if_neg h1] at is ⊢
 by_cases h2:h.2.2<l.2.2
 · rw [if_pos h2]
   obtain ⟨_,m1,m2,m3⟩:=L0 hh hl (show h.2.2≠l.2.2 by omega)
   dsimp only;have g:PX l h t<=0:=Int.not_lt.1 fun k=>h1 (.inl k)
   rw [KN] at g;generalize met h l=m at*;have d:=m1.1;have d2:=r.1;have hB:0<l.2.2-h.2.2:=by omega
   generalize l.2.2-h.2.2=B at*;generalize hA:h.2.1-l.2.1=A at*;have g2:B*t.1<=A*t.2:=by
    have:(l.2.1-h.2.1)*t.2= -(A*t.2):=by rw [<- Int.neg_mul];congr 1;omega
    omega
   have e1:t.1*m.2*B=B*t.1*m.2:=by rw [aq,cf t.1 B]
   have e2:m.1*t.2*B=A*t.2*m.2:=by rw [aq,m3,aq]
   have g3:t.1*m.2*B<=m.1*t.2*B:=by
    rw [e1,e2];exact bk g2 (by omega)
   exact bu g3 hB
 rw [if_neg h2] at is;cases is
theorem aV.time {l:List Pt} {t t':Int×Int} {H:List Ev}: ∀{cs ds:List wI},(∀x∈cs,bM l x.2 t'=bM l x.2 t)->aV l t H cs ds->aV l t' H cs ds
 | [],_,_,h=>h
 |x::cs,ds,hw,h=>by
  have e:=hw x ax;have ih: ∀{ds},aV l t H cs ds->aV l t' H cs ds:=fun {ds}=>aV.time fun y hy=>hw y (aa _ hy)
  refine ⟨fun hy=>?_,fun hy=>?_⟩
  · rw [e] at hy
    obtain ⟨d,ds',h1,h2,h3,h4⟩:=h.1 hy;exact ⟨d,ds',h1,h2,by rw [e];exact h3,ih h4⟩
  rw [e] at hy
  exact ih (h.2 hy)
theorem aBk {c:aO} (ok:aZ c) (hne:0<c.agenda.heap.length):
 ∃(i:Nat) (c':aO),i<c.certs.list.length/\(c.certs.list[i]!).1=Ev.num c.agenda.heap[0]!/\mX c (Ev.num c.agenda.heap[0]!)=some (c',(c.certs.list[i]!).2,0)/\tY c (Ev.num c.agenda.heap[0]!)=some c'/\
  aZ ⟨Ev.at c.agenda.heap[0]!,c'.field,c'.certs,c'.agenda,c'.due⟩/\c'.field=c.field/\c'.certs=pH c.certs i/\c.now.1*(Ev.at c.agenda.heap[0]!).2<=(Ev.at c.agenda.heap[0]!).1*c.now.2:=by
 have hm:=bL hne;obtain ⟨d,hd,hn⟩:=ok.nums _ hm;obtain ⟨x,hx,h1,h2,h3⟩:=ok.fol.due d hd;obtain ⟨w,hw,he⟩:=aW.1 h3;have hw0:w=0:=ae fun hx=>by
  refine ok.agd.nd 0 w (by omega) hw ?_
  rw [he,<- hn,h1]
 subst hw0;obtain ⟨i,hi,rfl⟩:=aW.1 hx;have num:(c.certs.list[i]!).1=Ev.num c.agenda.heap[0]!:=by rw [<- hn,h1]
 have tm:Ev.at c.agenda.heap[0]! =(bM c.field.points (c.certs.list[i]!).2 c.now).1:=by rw [he]
 obtain ⟨c',r1,r2,r3,r4,r5,r6⟩:=aFX ok hi;have hb:=ok.known i hi;have pt:=fun (x:Int×Int) (hb:iF c.field.points x)=>And.intro (dB ok.fld hb.2).1 (dB ok.fld hb.1).1
 have rt:=KC (pt _ hb).1 (pt _ hb).2 ok.now64 ok.nowv h2;have ge:=aF1 (pt _ hb).1 (pt _ hb).2 ok.nowv h2;rw [num] at r1 r2;refine ⟨i,c',hi,num,r1,r2,?_,r4,r6,by rw [tm];exact ge⟩
 have kn:=FZ ok i hi;refine ⟨by rw [tm];exact rt.1,by rw [tm];exact rt.2,r3.fld,r3.crt,r3.agd,r3.w200,r3.hd,r3.known,?_⟩
 refine aV.time (t:=c'.now) (fun y hy=>?_) r3.fol
 have hy':y∈c.certs.list:=by
  rw [r6] at hy;exact (xV ok.crt_up hi hy).1
 obtain ⟨j,hj,rfl⟩:=aW.1 hy';have hbj:=ok.known j hj;rw [r4,r5];refine QR (pt _ hbj).1 (pt _ hbj).2 ok.nowv (by rw [tm];exact rt.1) (by rw [tm];exact ge) (fun is=>?_)
 obtain ⟨d',hd',k1,k2⟩:=ok.fol.has _ hy' is;obtain ⟨w,hw,he⟩:=aW.1 k2
 have:=L9 ok.agd w hw
 rw [he] at this;exact Int.not_lt.1 fun k=>this (.inl (xT.2 k))
theorem EH {p q:Pt} {t:Int×Int} (hp:hG p) (hq:hG q) (ht:oA t) (hr:bQ t):mV p q t=some (decide (dQ p q t),if p.1=q.1 then 2 else 0)\/(p.1=q.1/\mV p q t=some (false,2)):=by
 unfold mV;rw [BD ht,if_pos ⟨hp,hq,hr⟩]
 by_cases h:p.1=q.1
 · right;simp [h]
 left
 simp only [h,if_false,aB,AU hp hq ht]
 have:decide (0<aA5 p q t)=decide (dQ p q t):=by simp only [PY]
 simp [this]
end Go.Proofs.YtlnclppkepgdmaaGreat
namespace Go.Proofs.YtlnclppkepgdmaaGreat
theorem zH {α:Type} [BEq α] [LawfulBEq α]: ∀{a b:List α},a.Nodup->(∀x∈a,x∈b)->b.length<=a.length->a.Perm b
 | [],b,_,_,hl=>by
  rw [List.eq_nil_of_length_eq_zero (show b.length=0 by simpa using hl)]
 |x::a,b,hd,h,hl=>by
  rw [be] at hd;have hx:=h x ax;have ih:=zH (a:=a) (b:=b.erase x) hd.2 (fun y hy=>by
   rw [List.mem_erase_of_ne (fun e=>hd.1 (by rw [<- e];exact hy))]
   exact h y (aa _ hy)) (by
   rw [List.length_erase_of_mem hx];rw [az] at hl
   omega)
  exact (List.Perm.cons x ih).trans (List.perm_cons_erase hx).symm
theorem DT {α β:Type} {f:α->β}: ∀{l:List α},l.Nodup->(∀x∈l,∀y∈l,f x=f y->x=y)->(l.map f).Nodup
 | [],_,_=>List.nodup_nil
 |x::l,h,hi=>by
  rw [be] at h;rw [List.map_cons,be];refine ⟨fun hm=>?_,DT h.2 fun y hy z hz=>hi y (aa _ hy) z (aa _ hz)⟩
  obtain ⟨y,hy,e⟩:=bo.1 hm
  have:=hi y (aa _ hy) x ax e
  rw [this] at hy;exact h.1 hy
end Go.Proofs.YtlnclppkepgdmaaGreat
namespace Go.Proofs.YtlnclppkepgdmaaGreat
open Go.Vm Classical
def MA (l:List Int) (k:Nat):List (Int×Int):=(c6 k).map fun i=>(l[i+1]!,l[i / 2]!)
abbrev F1 (l:List Int):List (Int×Int):=MA l (l.length-1)
theorem IY (l:List Int) (k:Nat):(MA l k).length=k:=by unfold MA;rw [cw,ci]
theorem M5 (l:List Int) {k i:Nat} (h:i<k):(MA l k)[i]! =(l[i+1]!,l[i / 2]!):=by
 rw [getElem!_pos _ i (by rw [IY];exact h)]
 unfold MA;rw [List.getElem_map,List.getElem_range]
theorem ZR {l:List Int} (hd:l.Nodup):(F1 l).Nodup:=by
 unfold F1 MA;refine DT cu fun i hi j hj h=>?_
 rw [bg] at hi hj;have h1:l[i+1]! =l[j+1]!:=congrArg dc h;have h2:=gU.1 hd;rcases am i j with k|k|k
 · exact absurd h1 (h2 (i+1) (j+1) (by omega) (by omega))
 · exact k
 exact absurd h1.symm (h2 (j+1) (i+1) (by omega) (by omega))
theorem aNe {f:List Pt} (fok:cC f) {t:Int×Int} (r64:oA t) {x:Int×Int} (hb:iF f x):DH x ⟨f⟩ t=some (decide (dQ (fT f x.2) (fT f x.1) t)):=by
 obtain ⟨h1,h2⟩:=hb;obtain ⟨j,j1,j2,j3⟩:=uG fok h1;obtain ⟨k,k1,k2,k3⟩:=uG fok h2;unfold DH;simp only [j2,k2,aB,aC f j j1,aC f k k1,j3,k3,FQ (dB fok h2).1 (dB fok h1).1 r64]
def nK (f:List Pt):List Int:=f.map fun p=>p.1
theorem MB {f:List Pt} (h:gI f):(nK f).Nodup:=by
 refine DT ?_ ?_
 · exact gU.2 fun i j hij hj e=>by have:=pF h hij hj;rw [e] at this;omega
 intro x hx y hy e
 obtain ⟨i,hi,rfl⟩:=aW.1 hx;obtain ⟨j,hj,rfl⟩:=aW.1 hy;rw [zD h hi hj e]
theorem GX {f:List Pt} {id:Int}:id∈nK f↔nC f id:=by
 unfold nK nC;rw [bo];constructor
 · rintro ⟨p,hp,rfl⟩
   obtain ⟨i,hi,rfl⟩:=aW.1 hp;exact ⟨i,hi,rfl⟩
 rintro ⟨i,hi,rfl⟩
 exact ⟨f[i]!,bL hi,rfl⟩
structure zI (k:HF):Prop where
 clk:aZ k.clock
 perm:(nK k.clock.field.points).Perm k.heap
 cert:(k.clock.certs.list.map fun x=>x.2).Perm (F1 k.heap)
 lead: ∀e∈F1 k.heap,dQ (fT k.clock.field.points e.2) (fT k.clock.field.points e.1) k.clock.now
theorem F2 {c:bK} (ok:fL c):(c.list.map fun x=>x.2).Nodup:=by
 refine DT ?_ ?_
 · exact gU.2 fun i j hij hj e=>ok.nd i j hij hj (by rw [e])
 intro x hx y hy e
 obtain ⟨i,hi,rfl⟩:=aW.1 hx;obtain ⟨j,hj,rfl⟩:=aW.1 hy;rcases am i j with k|k|k
 · exact absurd e (ok.nd i j k hj)
 · rw [k]
 exact absurd e.symm (ok.nd j i k hi)
theorem zJ {l:List wI} {x:Int×Int}:wY l x↔x∈l.map fun y=>y.2:=by
 unfold wY;rw [bo];constructor
 · rintro ⟨i,hi,rfl⟩;exact ⟨l[i]!,bL hi,rfl⟩
 rintro ⟨y,hy,rfl⟩
 obtain ⟨i,hi,rfl⟩:=aW.1 hy;exact ⟨i,hi,rfl⟩
theorem KO {α:Type} {p q:Prop} [Decidable p] [Decidable q] {a b:α} (h:p↔q):(if p then a else b)=if q then a else b:=by
 by_cases hp:p
 · rw [if_pos hp,if_pos (h.1 hp)]
 rw [if_neg hp,if_neg (fun k=>hp (h.2 k))]
theorem aNf {c:aO} (ok:aZ c) (es:List (Int×Int)) (kn: ∀x∈es,iF c.field.points x):
 DI c es=some (decide (c.certs.list.length=es.length/\ ∀i,i<es.length->wY c.certs.list es[i]!/\dQ (fT c.field.points (es[i]!).2) (fT c.field.points (es[i]!).1) c.now)):=by
 have bd:=ok.bd;unfold DI;simp only [aE]
 by_cases h0:c.certs.list.length=es.length
 case neg=>rw [dL (by omega),cond_true,dec_f (fun h=>h0 h.1)]
 rw [bP (by omega),cond_false]
 have key:=nU (body:=uW) (fun i=>(es,(i:Int),c.now.1,c.now.2,c.field.points,c.certs.next_,c.certs.list,c.agenda.slots.uses,c.agenda.slots.used,c.agenda.slots.free,c.agenda.heap,c.agenda.where_,c.due)) es.length
  (fun i=>wY c.certs.list es[i]!/\dQ (fT c.field.points (es[i]!).2) (fT c.field.points (es[i]!).1) c.now) (r:=false) (e:=true) (fun i hi=>by
  have ceta2:bK.mk c.certs.next_ c.certs.list=c.certs:=rfl;unfold uW;simp only [aE,aH (show (i:Int)<(es.length:Int) by omega),cond_true,aC es i hi,aB,ceta2,DR c.certs es[i]! (by omega),aNe ok.fld (t:=(c.now.1,c.now.2)) ok.now64 (kn _ (bL hi)),aT (show i<1000000000 by omega)]
  by_cases h1:wY c.certs.list es[i]!
  · rw [aH h1]
    by_cases h2:dQ (fT c.field.points (es[i]!).2) (fT c.field.points (es[i]!).1) c.now
    · rw [show decide (dQ (fT c.field.points (es[i]!).2) (fT c.field.points (es[i]!).1) (c.now.1,c.now.2))=true from aH h2]
      exact ⟨fun h=>absurd ⟨h1,h2⟩ h,fun _=>rfl⟩
    rw [show decide (dQ (fT c.field.points (es[i]!).2) (fT c.field.points (es[i]!).1) (c.now.1,c.now.2))=false from dec_f h2]
    exact ⟨fun _=>rfl,fun h=>absurd h.2 h2⟩
  · rw [dec_f h1]
    exact ⟨fun _=>rfl,fun h=>absurd h.1 h1⟩) (by
  unfold uW;simp only [aE,dec_f (show¬(es.length:Int)<(es.length:Int) by omega),cond_false])
 refine (show _=_ from key).trans ?_
 by_cases h2: ∀i,i<es.length->wY c.certs.list es[i]!/\dQ (fT c.field.points (es[i]!).2) (fT c.field.points (es[i]!).1) c.now
 · rw [if_pos h2,aH ⟨h0,h2⟩]
 rw [if_neg h2,dec_f (fun h=>h2 h.2)]
def bD (p w:List Int) (i:Nat):Int:=if i<w.length then w[i]! else p[i-w.length]!
def jI (i j:Nat):Prop:= ∃d,(j+1) / 2^d=i+1
theorem jI.refl (i:Nat):jI i i:=⟨0,by simp⟩
theorem rD {i k j:Nat} (hk:k=2*i+1\/k=2*i+2) (h:jI k j):jI i j:=by
 obtain ⟨d,hd⟩:=h;refine ⟨d+1,?_⟩;rw [cj,<- ay,hd];omega
theorem NV {a b c d:Nat} (h:a<=b) (hc:(c+1) / 2^a=d):(c+1) / 2^b=d / 2^(b-a):=by
 have:2^b=2^a*2^(b-a):=by rw [<- Nat.pow_add];congr 1;omega
 rw [this,<- ay,hc]
theorem ZS {x e:Nat} (he:0<e):x / 2^e<=x / 2:=by
 obtain ⟨k,rfl⟩: ∃k,e=k+1:=⟨e-1,by omega⟩
 rw [show 2^(k+1)=2*2^k by rw [cj];omega,<- ay]
 exact Nat.div_le_self _ _
theorem wK {i j:Nat} (h1:jI (2*i+1) j) (h2:jI (2*i+2) j):False:=by
 obtain ⟨a,ha⟩:=h1;obtain ⟨b,hb⟩:=h2;rcases am a b with h|h|h
 · have:=NV (cm h) ha
   have:=ZS (x:=2*i+1+1) (e:=b-a) (by omega)
   omega
 · subst h;omega
 have:=NV (cm h) hb
 have:=ZS (x:=2*i+2+1) (e:=a-b) (by omega)
 omega
theorem aF2 {i k j1 j2:Nat} (h1:jI (2*i+1) j1) (h2:jI (2*i+2) j2) (g:(jI (2*k+1) j1/\jI (2*k+2) j2)\/(jI (2*k+1) j2/\jI (2*k+2) j1)):i=k:=by
 have main: ∀{i k j1 j2:Nat},jI (2*i+1) j1\/jI (2*i+2) j1->jI i j2->(jI (2*k+1) j1/\jI (2*k+2) j2)\/(jI (2*k+1) j2/\jI (2*k+2) j1)-> ∀a a':Nat,(j1+1) / 2^a=i+1->(j1+1) / 2^a'=k+1->a<a'->False:=by
  intro i k j1 j2 _ u2 g a a' ha ha' hlt;have e:=NV (cm hlt) ha;rw [ha'] at e;obtain ⟨c,hc⟩: ∃c,a'-a=c+1:=⟨a'-a-1,by omega⟩
  rw [hc,cj,<- ay] at e;have q: ∃m,(i+1) / 2^c=m+1/\(m=2*k+1\/m=2*k+2):=⟨(i+1) / 2^c-1,by omega,by omega⟩
  obtain ⟨m,hm,hmk⟩:=q;have um: ∀j,jI i j->jI m j:=fun j ⟨d,hd⟩=>⟨d+c,by
   rw [NV (Nat.le_add_right d c) hd,show d+c-d=c by omega,hm]⟩
  have u1:jI i j1:=⟨a,ha⟩;have v1:=um _ u1;have v2:=um _ u2;rcases hmk with rfl|rfl
  · rcases g with g|g
    · exact wK v2 g.2
    exact wK v1 g.2
  rcases g with g|g
  · exact wK g.1 v1
  exact wK g.1 v2
 have i1:jI i j1:=rD (.inl rfl) h1;have i2:jI i j2:=rD (.inr rfl) h2;have k1:jI k j1:=by rcases g with g|g;exact rD (.inl rfl) g.1;exact rD (.inr rfl) g.2
 have k2:jI k j2:=by rcases g with g|g;exact rD (.inr rfl) g.2;exact rD (.inl rfl) g.1
 obtain ⟨a,ha⟩:=i1;obtain ⟨a',ha'⟩:=k1;rcases am a a' with h|h|h
 · exact (main (.inl h1) i2 g a a' ha ha' h).elim
 · subst h;omega
 exact (main (i:=k) (k:=i) (j1:=j1) (j2:=j2) (by rcases g with g|g;exact .inl g.1;exact .inr g.2) k2 (.inl ⟨h1,h2⟩) a' a ha' ha h).elim
def BN (p w:List Int):Prop:= ∀i,i<w.length->w[i]! =bD p w (2*i+1)\/w[i]! =bD p w (2*i+2)
theorem DU {p w:List Int} (hl:w.length+1=p.length) (hc:BN p w): ∀(d i:Nat),w.length+p.length-i<=d->i<w.length+p.length-> ∃j,w.length<=j/\j<w.length+p.length/\jI i j/\p[j-w.length]! =bD p w i:=by
 intro d
 induction d with
 |zero=>intro i h1 h2;omega
 |succ d ih=>
  intro i h1 h2
  by_cases hi:i<w.length
  · rcases hc i hi with e|e
    · obtain ⟨j,j1,j2,j3,j4⟩:=ih (2*i+1) (by omega) (by omega)
      refine ⟨j,j1,j2,rD (.inl rfl) j3,?_⟩;rw [j4,<- e];unfold bD;rw [if_pos hi]
    obtain ⟨j,j1,j2,j3,j4⟩:=ih (2*i+2) (by omega) (by omega)
    refine ⟨j,j1,j2,rD (.inr rfl) j3,?_⟩;rw [j4,<- e];unfold bD;rw [if_pos hi]
  refine ⟨i,by omega,h2,.refl i,?_⟩
  unfold bD;rw [if_neg hi]
def IZ (p:List Int):Prop:= ∀i j,i<j->j<p.length->p[i]! =p[j]!->p[i]!<0
theorem IZ.inj {p:List Int} (h:IZ p) {i j:Nat} (hi:i<p.length) (hj:j<p.length) (e:p[i]! =p[j]!) (h0:0<=p[i]!):i=j:=by
 rcases am i j with k|k|k
 · have:=h i j k hj e;omega
 · exact k
 have:=h j i k hi e.symm;rw [<- e] at this;omega
section
variable {p w : List Int} (hl : w.length + 1 = p.length) (hc : BN p w) (ho : IZ p)
include hl hc
theorem gV {i:Nat} (hi:i<w.length+p.length):bD p w i∈p:=by
 obtain ⟨j,j1,j2,_,e⟩:=DU hl hc _ i (aj _) hi;rw [<- e];exact bL (by omega)
include ho
theorem KP {i:Nat} (hi:i<w.length) (h0:0<=bD p w (2*i+1)):bD p w (2*i+1)≠bD p w (2*i+2):=by
 intro e;obtain ⟨j,j1,j2,j3,j4⟩:=DU hl hc _ (2*i+1) (aj _) (by omega)
 obtain ⟨k,k1,k2,k3,k4⟩:=DU hl hc _ (2*i+2) (aj _) (by omega)
 have:=ho.inj (i:=j-w.length) (j:=k-w.length) (by omega) (by omega) (by rw [j4,k4,e]) (by rw [j4];exact h0)
 obtain rfl:j=k:=by omega
 exact wK j3 k3
theorem aF3 {i k:Nat} (hi:i<w.length) (hk:k<w.length) (h1:0<=bD p w (2*i+1)) (h2:0<=bD p w (2*i+2))
 (g:(bD p w (2*k+1)=bD p w (2*i+1)/\bD p w (2*k+2)=bD p w (2*i+2))\/(bD p w (2*k+1)=bD p w (2*i+2)/\bD p w (2*k+2)=bD p w (2*i+1))):i=k:=by
 obtain ⟨j1,a1,a2,a3,a4⟩:=DU hl hc _ (2*i+1) (aj _) (by omega)
 obtain ⟨j2,b1,b2,b3,b4⟩:=DU hl hc _ (2*i+2) (aj _) (by omega)
 obtain ⟨l1,c1,c2,c3,c4⟩:=DU hl hc _ (2*k+1) (aj _) (by omega)
 obtain ⟨l2,d1,d2,d3,d4⟩:=DU hl hc _ (2*k+2) (aj _) (by omega)
 have same: ∀{x y:Nat},w.length<=x->x<w.length+p.length->w.length<=y->y<w.length+p.length->p[x-w.length]! =p[y-w.length]!->0<=p[x-w.length]!->x=y:=fun {x y} hx hx' hy hy' e h0=>by
  have:=ho.inj (i:=x-w.length) (j:=y-w.length) (by omega) (by omega) e h0
  omega
 refine aF2 a3 b3 ?_;rcases g with ⟨g1,g2⟩|⟨g1,g2⟩
 · have e1:j1=l1:=same a1 a2 c1 c2 (by rw [a4,c4,g1]) (by rw [a4];exact h1)
   have e2:j2=l2:=same b1 b2 d1 d2 (by rw [b4,d4,g2]) (by rw [b4];exact h2)
   subst e1 e2;exact .inl ⟨c3,d3⟩
 have e1:j2=l1:=same b1 b2 c1 c2 (by rw [b4,c4,g1]) (by rw [b4];exact h2)
 have e2:j1=l2:=same a1 a2 d1 d2 (by rw [a4,d4,g2]) (by rw [a4];exact h1)
 subst e1 e2;exact .inr ⟨c3,d3⟩
end
noncomputable def DV (f:List Pt) (t:Int×Int) (x y:Int):Int:=if x<0 then y else if y<0 then x else if dQ (fT f x) (fT f y) t then x else y
theorem aNg (f:List Pt) (t:Int×Int) (x y:Int):DV f t x y=x\/DV f t x y=y:=by
 unfold DV;split
 · exact .inr rfl
 split
 · exact .inl rfl
 split
 · exact .inl rfl
 exact .inr rfl
def QS (f:List Pt) (t:Int×Int) (p w:List Int):Prop:=w.length+1=p.length/\ ∀i,i<w.length->w[i]! =DV f t (bD p w (2*i+1)) (bD p w (2*i+2))
theorem QS.chosen {f:List Pt} {t:Int×Int} {p w:List Int} (h:QS f t p w):BN p w:=fun i hi=>by
 rw [h.2 i hi];exact aNg ..
noncomputable def TO (f:List Pt) (t:Int×Int) (p:List Int):Nat->List Int->List Int
 |0,w=>w
 |i+1,w=>TO f t p i (w.set i (DV f t (bD p w (2*i+1)) (bD p w (2*i+2))))
noncomputable def aX (f:List Pt) (t:Int×Int) (p:List Int):List Int:=TO f t p (p.length-1) (c8 (p.length-1) 0)
theorem TP {p w:List Int} {i k:Nat} {v:Int} (h:i≠k):bD p (w.set i v) k=bD p w k:=by
 unfold bD;rw [ar];split
 · rw [bF,if_neg (fun x=>h x.1.symm)]
 rfl
theorem TQ {f:List Pt} {t:Int×Int} {p:List Int}: ∀(n:Nat) (w:List Int),n<=w.length->(∀i,n<=i->i<w.length->w[i]! =DV f t (bD p w (2*i+1)) (bD p w (2*i+2)))->
 (TO f t p n w).length=w.length/\ ∀i,i<w.length->(TO f t p n w)[i]! =DV f t (bD p (TO f t p n w) (2*i+1)) (bD p (TO f t p n w) (2*i+2))
 |0,w,_,h=>⟨rfl,fun i hi=>h i (Nat.zero_le _) hi⟩
 |n+1,w,hn,h=>by
  have ih:=TQ n (w.set n (DV f t (bD p w (2*n+1)) (bD p w (2*n+2)))) (by rw [ar];omega) (fun i h1 h2=>by
   rw [ar] at h2;rw [TP (by omega),TP (by omega),bF]
   split
   · rename_i e;rw [e.1]
   exact h i (by omega) h2)
  rw [ar] at ih;exact ih
theorem dE {f:List Pt} {t:Int×Int} {p:List Int} (hp:1<=p.length):QS f t p (aX f t p):=by
 have:=TQ (f:=f) (t:=t) (p:=p) (p.length-1) (c8 (p.length-1) 0) (by rw [bj];omega) (fun i h1 h2=>by rw [bj] at h2;omega)
 rw [bj] at this;have hl:(aX f t p).length=p.length-1:=this.1;exact ⟨by omega,fun i hi=>this.2 i (by omega)⟩
theorem TR {f:List Pt} {t:Int×Int} {p w v:List Int} (h:QS f t p w) (g:QS f t p v):w=v:=by
 have hl:w.length=v.length:=by have:=h.1;have:=g.1;omega
 have key: ∀(d i:Nat),w.length-i<=d->i<w.length->w[i]! =v[i]!:=by
  intro d
  induction d with
  |zero=>intro i h1 h2;omega
  |succ d ih=>
   intro i _ hi;have nd: ∀k,i<k->bD p w k=bD p v k:=fun k hk=>by
    unfold bD;rw [hl];split
    · rename_i h';exact ih k (by omega) (by omega)
    rfl
   rw [h.2 i hi,g.2 i (by omega),nd _ (by omega),nd _ (by omega)]
 exact wH hl fun i hi=>key _ i (aj _) hi
noncomputable def AX (p w:List Int) (i:Nat):Option (Int×Int):=
 if bD p w (2*i+1)<0\/bD p w (2*i+2)<0 then none
 else if w[i]! =bD p w (2*i+1) then some (bD p w (2*i+2),bD p w (2*i+1)) else some (bD p w (2*i+1),bD p w (2*i+2))
noncomputable def eB (p w:List Int):List (Int×Int):=(c6 w.length).filterMap (AX p w)
theorem I0 (p w:List Int):(eB p w).length<=w.length:=by
 have:=List.length_filterMap_le (AX p w) (c6 w.length)
 rwa [ci] at this
theorem I1 {p w:List Int} {e:Int×Int}:e∈eB p w↔ ∃i,i<w.length/\AX p w i=some e:=by
 unfold eB;rw [cd];constructor
 · rintro ⟨i,hi,h⟩;exact ⟨i,bg.1 hi,h⟩
 rintro ⟨i,hi,h⟩;exact ⟨i,bg.2 hi,h⟩
theorem zK {p w:List Int} {i:Nat} {e:Int×Int} (h:AX p w i=some e):0<=bD p w (2*i+1)/\0<=bD p w (2*i+2)/\
 ((e=(bD p w (2*i+2),bD p w (2*i+1))/\w[i]! =bD p w (2*i+1))\/(e=(bD p w (2*i+1),bD p w (2*i+2))/\w[i]!≠bD p w (2*i+1))):=by
 unfold AX at h;split at h
 · cases h
 rename_i hn
 refine ⟨by omega,by omega,?_⟩
 split at h
 · rename_i h1;injection h with h;exact .inl ⟨h.symm,h1⟩
 rename_i h1;injection h with h;exact .inr ⟨h.symm,h1⟩
theorem EI {α β:Type} {g:α->Option β}: ∀{l:List α},l.Nodup->(∀x∈l,∀y∈l,∀b,g x=some b->g y=some b->x=y)->(l.filterMap g).Nodup
 | [],_,_=> .nil
 |a::r,h,hi=>by
  obtain ⟨h1,h2⟩:=be.1 h;have ih:=EI (g:=g) h2 (fun x hx y hy b e1 e2=>hi x (aa _ hx) y (aa _ hy) b e1 e2)
  cases hg:g a with
  |none=>rw [List.filterMap_cons_none hg];exact ih
  |some b=>
   rw [List.filterMap_cons_some hg];refine be.2 ⟨fun hb=>?_,ih⟩
   obtain ⟨y,hy,e⟩:=cd.1 hb
   have:=hi a (ax ..) y (aa _ hy) b hg e
   subst this;exact h1 hy
theorem VW {p w:List Int} (hl:w.length+1=p.length) (hc:BN p w) (ho:IZ p):(eB p w).Nodup:=by
 refine EI cu fun i hi k hk b e1 e2=>?_
 have hi:=bg.1 hi;have hk:=bg.1 hk;obtain ⟨a1,a2,a3⟩:=zK e1;obtain ⟨b1,b2,b3⟩:=zK e2;refine aF3 hl hc ho hi hk a1 a2 ?_;rcases a3 with ⟨rfl,_⟩|⟨rfl,_⟩<;>rcases b3 with ⟨h,_⟩|⟨h,_⟩<;>(injection h with h1 h2)
 · exact .inl ⟨h2.symm,h1.symm⟩
 · exact .inr ⟨h1.symm,h2.symm⟩
 · exact .inr ⟨h2.symm,h1.symm⟩
 exact .inl ⟨h1.symm,h2.symm⟩
theorem aDO {f:List Pt} (fok:cC f) {p w:List Int} (hl:w.length+1=p.length) (hn:p.length<=64) (hc:BN p w) (ho:IZ p) (hk: ∀x∈p,0<=x->nC f x):KM f (eB p w):=by
 have hp: ∀e∈eB p w,iF f e/\e.1≠e.2:=fun e he=>by
  obtain ⟨i,hi,h⟩:=I1.1 he;obtain ⟨a1,a2,a3⟩:=zK h;have m1:=gV hl hc (i:=2*i+1) (by omega)
  have m2:=gV hl hc (i:=2*i+2) (by omega)
  have ne:=KP hl hc ho hi a1;rcases a3 with ⟨rfl,_⟩|⟨rfl,_⟩
  · exact ⟨⟨hk _ m2 a2,hk _ m1 a1⟩,fun h=>ne h.symm⟩
  exact ⟨⟨hk _ m1 a1,hk _ m2 a2⟩,ne⟩
 refine ⟨by have:=I0 p w;omega,fun e he=>?_,fun e he=>(hp e he).1⟩
 obtain ⟨⟨h1,h2⟩,ne⟩:=hp e he;obtain ⟨⟨p1,p2⟩,q1,q2⟩:=And.intro (dB fok h1) (dB fok h2);unfold hG at p1 q1;unfold fO;omega
end Go.Proofs.YtlnclppkepgdmaaGreat
