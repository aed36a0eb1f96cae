/- Plain laws (3). -/
import Derived.Test.YtlnclppkepgdmaaGreatAQM2
import Derived.Test.YtlnclppkepgdmaaGreatAQS2
namespace Go.Proofs.YtlnclppkepgdmaaGreat
open Go.Vm Classical
theorem Y0 (c:aQ) (n:Int) (hl:c.due.length<=1000000):(∀k,k<c.due.length->(c.due[k]!).1=n->(∀j,j<k->(c.due[j]!).1≠n)->qZ c n=some (k:Int))/\((∀k,k<c.due.length->(c.due[k]!).1≠n)->qZ c n=some (-1)):=by
 unfold qZ;refine oI (body:=sF) (fun i=>(n,(i:Int),c.now.1,c.now.2,c.field.points,c.certs.next_,c.certs.list,c.agenda.slots.uses,c.agenda.slots.used,c.agenda.slots.free,c.agenda.heap,c.agenda.where_,c.due)) c.due.length (fun i=>(c.due[i]!).1=n) (fun i=>(i:Int)) (fun i hi=>?_) ?_
 · have e1:decide ((i:Int)<(c.due.length:Int))=true:=aK (by omega)
   unfold sF;simp only [aF,e1,cond_true,aE c.due i hi,aD,aT (show i<1000000000 by omega)]
   constructor
   · intro h;rw [eV h];rfl
   · intro h;rw [eJ h];rfl
 · unfold sF
   have:decide ((c.due.length:Int)<(c.due.length:Int))=false:=dec_f (by omega)
   simp only [aF,this,cond_false]
theorem SX {ds:List wO} (hu:Up ds) (hl:ds.length<=1000000) (n:Int):(∀k,k<ds.length->(ds[k]!).1=n->qU ds n=some ((k:Int),true))/\((∀k,k<ds.length->(ds[k]!).1≠n)-> ∃m:Nat,qU ds n=some ((m:Int),false)):=by
 have bs:=GA ds n hl (xG.1 hu);unfold qU;rw [aTW];constructor
 · intro k hk he;rw [bs.1 k hk he];rfl
 · intro h
   obtain ⟨m,_,_,_,e⟩:=bs.2 h;exact ⟨m,by rw [e];rfl⟩
theorem bF.bd {c:aQ} (ok:bF c):c.due.length<=200/\c.field.points.length<=64/\c.certs.list.length<=200:=by
 have:=ok.hd;have:=ok.agd.bd;have:=ok.fld.1;have:=ok.crt.len
 omega
theorem kV {c:aQ} (ok:bF c):oE c=some c:=by
 have bd:=ok.bd;unfold oE oA tT;simp only [bC (show c.field.points.length<=1048576 by omega),bC (show c.certs.list.length<=1048576 by omega),bC (show c.due.length<=1048576 by omega),aD,vB ok.agd]
theorem nH {c:aQ} (ok:bF c):nY c=some c:=by
 have bd:=ok.bd;have ab:=ok.agd.bd;have hl:=ok.agd.so.fl;have hn:=ok.agd.so.n2;have hu:=ok.agd.so.ul;unfold nY;simp only [bC (show c.field.points.length<=1048576 by omega),bC (show c.certs.list.length<=1048576 by omega),bC (show c.due.length<=1048576 by omega),bC (show c.agenda.heap.length<=1048576 by omega),bC (show c.agenda.where_.length<=1048576 by omega),
  bC (show c.agenda.slots.uses.length<=1048576 by omega),bC (show c.agenda.slots.used.length<=1048576 by omega),bC (show c.agenda.slots.free.length<=1048576 by omega),aD]
theorem C9 {cs:List wO} {i:Nat} (hu:Up cs) (hi:i<cs.length) {x:wO} (hx:x∈cs.eraseIdx i):x∈cs/\x.1≠(cs[i]!).1:=by
 rw [yN,List.mem_append] at hx;have ub:=xG.1 hu;rcases hx with hx|hx
 · obtain ⟨j,h1,h2,rfl⟩:=cD.1 hx
   have:=ub j i h1 hi
   exact ⟨bJ h2,by omega⟩
 · obtain ⟨j,hj,rfl⟩:=aW.1 hx
   rw [List.length_drop] at hj;rw [tX]
   have:=ub i (i+1+j) (by omega) (by omega)
   exact ⟨bJ (by omega),by omega⟩
theorem L9 {c:aQ} (ok:bF c) (i:Nat) (hi:i<c.certs.list.length): ∀j,j<(qC c.certs i).list.length->kU c.field.points ((qC c.certs i).list[j]!).2:=by
 intro j hj;have hm:(qC c.certs i).list[j]!∈c.certs.list:=(C9 ok.crt_up hi (bJ hj)).1;obtain ⟨m,hm1,hm2⟩:=aW.1 hm;rw [<- hm2];exact ok.known m hm1
theorem aTX {c:aQ} (ok:bF c) {i:Nat} (hi:i<c.certs.list.length):
 ∃c':aQ,tQ c (c.certs.list[i]!).1=some (c',(c.certs.list[i]!).2,0)/\yE c (c.certs.list[i]!).1=some c'/\bF c'/\c'.field=c.field/\c'.now=c.now/\c'.certs=qC c.certs i:=by
 have bd:=ok.bd;have rm:=PZ ok.crt hi (n:=(c.certs.list[i]!).1) rfl;have wo:=LC ok.crt hi (n:=(c.certs.list[i]!).1) rfl;have fe:=ok.fol.erase (i:=i) hi;have pd:=SX ok.due_up (by omega) (c.certs.list[i]!).1
 have da:=Y0 c (c.certs.list[i]!).1 (by omega)
 cases hf:(bK c.field.points (c.certs.list[i]!).2 c.now).2 with
 |false=>
  have no: ∀k,k<c.due.length->(c.due[k]!).1≠(c.certs.list[i]!).1:=by
   intro k hk he;obtain ⟨x,hx,h1,h2,_⟩:=ok.fol.due _ (bJ hk);obtain ⟨j,hj,rfl⟩:=aW.1 hx;have ub:=xG.1 ok.crt_up
   have:j=i:=by
    rcases Nat.lt_trichotomy j i with h|h|h
    · have:=ub j i h hi;omega
    · exact h
    · have:=ub i j h hj;omega
   rw [this,hf] at h2;cases h2
  refine ⟨⟨c.now,c.field,qC c.certs i,c.agenda,c.due⟩,?_,?_,?_,rfl,rfl,rfl⟩
  · unfold tQ
    obtain ⟨m,e⟩:=pd.2 no;simp only [rm,aD,show ((0:Int) !=0)=false from rfl,cond_false,nH ok,e]
  · unfold yE
    simp only [kV ok,aD,wo,da.2 no,dec_f (show¬(0:Int)<= -1 by omega),cond_false]
  · exact ⟨ok.nowv,ok.now64,ok.fld,PY ok.crt hi,ok.agd,ok.w200,ok.hd,L9 ok i hi,fe.1 hf⟩
 |true=>
  obtain ⟨k,hk,k1,k2,k3⟩:=fe.2 hf;obtain ⟨w,hw,hev⟩:=aW.1 k2;have hh:(c.agenda.heap[w]!).2.2.2=(c.due[k]!).2:=by rw [hev]
  have ub:=xG.1 ok.due_up;have before: ∀j,j<k->(c.due[j]!).1≠(c.certs.list[i]!).1:=fun j hj he=>by have:=ub j k hj hk;omega
  have dl:(c.due.eraseIdx k).length=c.due.length-1:=aCw hk;obtain ⟨L,d1,d2⟩:=L7 c.due k hk;refine ⟨⟨c.now,c.field,qC c.certs i,eT c.agenda w,c.due.eraseIdx k⟩,?_,?_,?_,rfl,rfl,rfl⟩
  · unfold tQ
    simp only [rm,aD,show ((0:Int) !=0)=false from rfl,cond_false,nH ok,pd.1 k hk k1,cond_true,aE c.due k hk,BS ok.agd hw ok.agd.fit hh,aT (show k<1000000000 by omega),aAU,d1,d2]
  · unfold yE
    have s1:jE c.due 0 (k:Int)=some (c.due.take k):=lV c.due k (by omega)
    have s2:jE c.due ((k+1:Nat):Int) (c.due.length:Int)=some (c.due.drop (k+1)):=by
     unfold jE;rw [if_pos ⟨by omega,by omega,by omega⟩]
     simp only [Int.toNat_natCast];rw [List.take_of_length_le (by rw [List.length_drop];exact Nat.le_refl _)]
    have tl:(c.due.take k).length=k:=by rw [List.length_take];omega
    have dl2:(c.due.drop (k+1)).length=c.due.length- (k+1):=List.length_drop;simp only [kV ok,aD,wo,da.1 k hk k1 before,aK (show (0:Int)<=(k:Int) by omega),cond_true,aE c.due k hk,BT ok.agd hw hh,s1,bC (show (c.due.take k).length<=1048576 by omega),aT (show k<1000000000 by omega),aF,s2,
     eC (show (c.due.take k).length+(c.due.drop (k+1)).length<=1048576 by omega),yN]
    cases hem:(c.due.drop (k+1)).isEmpty with
    |true=>
     rw [List.isEmpty_iff] at hem;rw [hem,List.append_nil];rfl
    |false=>rfl
  · have rem:=K9 ok.agd hw
    have rmem:=PS ok.agd hw;have hlen:(eT c.agenda w).heap.length=c.agenda.heap.length-1:=by
     have h1:=rem.hl;have h2:=ok.agd.hl;have h3:(eT c.agenda w).slots=gF c.agenda.slots (c.agenda.heap[w]!).2.2.2:=by unfold eT;split<;>rfl
     rw [h3] at h1;change _+(c.agenda.slots.free++[_]).length=c.agenda.slots.uses.length at h1;rw [List.length_append] at h1;simp only [List.length_cons,List.length_nil] at h1;omega
    have wlen:(eT c.agenda w).where_.length=200:=by
     have h1:=rem.wl;have h3:(eT c.agenda w).slots=gF c.agenda.slots (c.agenda.heap[w]!).2.2.2:=by unfold eT;split<;>rfl
     rw [h3] at h1;change _=c.agenda.slots.uses.length at h1;rw [h1,<- ok.agd.wl,ok.w200]
    refine ⟨ok.nowv,ok.now64,ok.fld,PY ok.crt hi,rem,wlen,?_,L9 ok i hi,?_⟩
    · show (eT c.agenda w).heap.length=(c.due.eraseIdx k).length
      rw [hlen,dl,ok.hd]
    · refine k3.mono fun x hx e he hm=>(rmem e).2 ⟨hm,fun h=>?_⟩
      have:=(C9 ok.crt_up hi hx).2
      rw [h,hev] at he;exact this he.symm
theorem MN {c:aQ} (ok:bF c) {i:Nat} (_hi:i<c.certs.list.length) {c':aQ} (h:tQ c (c.certs.list[i]!).1=some (c',(c.certs.list[i]!).2,0)):xA c (c.certs.list[i]!).1=some (c',0):=by
 unfold xA;rw [oM ok.fit,if_pos ok];simp only [aD,show ((0:Int) !=0)=false from rfl,cond_false,h]
abbrev eE:aQ:=⟨(0,0),⟨[]⟩,⟨0,[]⟩,⟨⟨[],[],[]⟩,[],[]⟩,[]⟩
theorem VB {l:List Pt} (ok:cJ l) {id:Int} (h:oK l id): ¬(gU l id).1<0:=by
 obtain ⟨h1,_⟩:=eD ok h
 have:=h1.1
 omega
theorem aNk {c:aQ} (ok:bF c) {x:Int×Int} (hx:gA x) (hb:kU c.field.points x) (hn: ¬AZ c.certs.list x):
 (jI c x=some (eE,0,18)/\mD c x=some (eE,0,18)/\(JT c.certs\/ ¬DU c.agenda.slots))\/
 ∃c':aQ,jI c x=some (c',c.certs.next_,0)/\mD c x=some (c',c.certs.next_,0)/\bF c'/\c'.field=c.field/\c'.now=c.now/\c'.certs=sU c.certs x/\(c'.agenda.slots=c.agenda.slots\/c'.agenda.slots=iE c.agenda.slots):=by
 have bd:=ok.bd;have n0:=ok.crt.n0;have n1:=ok.crt.n1;have fit:=ok.fit;have ad:=YV ok.crt hx;have rd:=U9 ok.crt hx;rw [if_neg hn] at ad rd;have hc:iB c=some 0:=by rw [oM fit,if_pos ok]
 have p1:=oL ok.fld x.1;have p2:=oL ok.fld x.2;have q1:=VB ok.fld hb.1;have q2:=VB ok.fld hb.2;have wh:=A0 ok.fld hx ok.nowv ok.now64;rw [if_pos hb] at wh;have rw':=A1 ok.fld ok.now64 hb
 by_cases hf:JT c.certs
 · rw [if_pos hf] at ad rd
   left;refine ⟨?_,?_,.inl hf⟩
   · unfold jI dP
     simp only [hc,aD,show ((0:Int) !=0)=false from rfl,cond_false,ad,show ((18:Int)==8)=false from rfl,p1,p2,dec_f q1,dec_f q2,show ((18:Int) !=0)=true from rfl,cond_true]
   · unfold mD
     simp only [rd,aD,show ((18:Int) !=0)=true from rfl,cond_true]
 rw [if_neg hf] at ad rd;have cok:=aAW ok.crt hx hn hf;have known': ∀j,j<(sU c.certs x).list.length->kU c.field.points ((sU c.certs x).list[j]!).2:=by
  intro j hj;rw [GB] at hj;rw [yO]
  by_cases h:j<c.certs.list.length
  · rw [if_pos h];exact ok.known j h
  · rw [if_neg h,if_pos (by omega)];exact hb
 have fresh: ∀e∈c.agenda.heap,Ev.num e≠c.certs.next_:=by
  intro e he hne;obtain ⟨d,hd,h1⟩:=ok.nums e he;obtain ⟨y,hy,h2,_⟩:=ok.fol.due d hd;obtain ⟨j,hj,rfl⟩:=aW.1 hy
  have:=(ok.crt.nr j hj).2
  omega
 have sn:=ok.fol.snoc (x:=(c.certs.next_,x));cases hw:(bK c.field.points x c.now).2 with
 |false=>
  right;refine ⟨⟨c.now,c.field,sU c.certs x,c.agenda,c.due⟩,?_,?_,⟨ok.nowv,ok.now64,ok.fld,cok,ok.agd,ok.w200,ok.hd,known',sn.1 hw⟩,rfl,rfl,rfl,.inl rfl⟩
  · unfold jI dP
    simp only [hc,aD,show ((0:Int) !=0)=false from rfl,cond_false,ad,show ((0:Int)==8)=false from rfl,p1,p2,dec_f q1,dec_f q2,nH ok,wh,hw]
  · unfold mD
    simp only [rd,aD,show ((0:Int) !=0)=false from rfl,cond_false,kV ok,rw',hw,Bool.not_false,cond_true]
 |true=>
  obtain ⟨t1,t2⟩:=PA (eD ok.fld hb.2).1 (eD ok.fld hb.1).1 ok.now64 ok.nowv hw
  by_cases op:DU c.agenda.slots
  · right
    have pu:=BO ok.agd op ok.agd.fit (t:=(bK c.field.points x c.now).1) (n:=c.certs.next_) t1 t2 n0 n1 fresh;have rp:=DV ok.agd op (t:=(bK c.field.points x c.now).1) (n:=c.certs.next_) t1 t2 n0 n1;have pok:=aCu ok.agd op (t:=(bK c.field.points x c.now).1) (n:=c.certs.next_) t1 t2 n0 n1 fresh
    have pmem:=YQ ok.agd op (t:=(bK c.field.points x c.now).1) (n:=c.certs.next_) t1;have plen:=JR ok.agd op (t:=(bK c.field.points x c.now).1) (n:=c.certs.next_) t1;have ap: ∀h:Int×Int,bT c.due [(c.certs.next_,h)]=some (c.due++[(c.certs.next_,h)]):=fun h=>eC (by simp;omega)
    have wlen:(mO c.agenda (bK c.field.points x c.now).1 c.certs.next_).where_.length=200:=by
     have:=pok.wl
     change _=(c.agenda.slots.uses.set _ _).length at this;rw [List.length_set] at this;rw [this,<- ok.agd.wl,ok.w200]
    refine ⟨⟨c.now,c.field,sU c.certs x,mO c.agenda (bK c.field.points x c.now).1 c.certs.next_,c.due++[(c.certs.next_,mN c.agenda.slots)]⟩,?_,?_,⟨ok.nowv,ok.now64,ok.fld,cok,pok,wlen,?_,known',?_⟩,rfl,rfl,rfl,.inr rfl⟩
    · unfold jI dP
      simp only [hc,aD,show ((0:Int) !=0)=false from rfl,cond_false,ad,show ((0:Int)==8)=false from rfl,p1,p2,dec_f q1,dec_f q2,nH ok,wh,hw,cond_true,pu,ap]
    · unfold mD
      simp only [rd,aD,show ((0:Int) !=0)=false from rfl,cond_false,kV ok,rw',hw,Bool.not_true,vA ok.agd.so,aK op,rp,ap]
    · show (mO c.agenda (bK c.field.points x c.now).1 c.certs.next_).heap.length=(c.due++[_]).length
      rw [plen,List.length_append,ok.hd];rfl
    · have fm:aU c.field.points c.now (mO c.agenda (bK c.field.points x c.now).1 c.certs.next_).heap c.certs.list c.due:=ok.fol.mono fun y hy e he hm=>(pmem e).2 (.inr hm)
      exact (fm.snoc (x:=(c.certs.next_,x))).2 _ hw rfl ((pmem _).2 (.inl rfl))
  · left
    have pu:=BP ok.agd op ok.agd.fit (t:=(bK c.field.points x c.now).1) (n:=c.certs.next_) t1 t2 n0 n1 fresh;refine ⟨?_,?_,.inr op⟩
    · unfold jI dP
      simp only [hc,aD,show ((0:Int) !=0)=false from rfl,cond_false,ad,show ((0:Int)==8)=false from rfl,p1,p2,dec_f q1,dec_f q2,nH ok,wh,hw,cond_true,pu,show ((18:Int) !=0)=true from rfl]
    · unfold mD
      simp only [rd,aD,show ((0:Int) !=0)=false from rfl,cond_false,kV ok,rw',hw,Bool.not_true,vA ok.agd.so,dec_f op,Bool.not_false,cond_true]
theorem Up.inj {cs:List wO} (h:Up cs) {x y:wO} (hx:x∈cs) (hy:y∈cs) (he:x.1=y.1):x=y:=by
 obtain ⟨i,hi,rfl⟩:=aW.1 hx;obtain ⟨j,hj,rfl⟩:=aW.1 hy;have ub:=xG.1 h;rcases Nat.lt_trichotomy i j with h1|h1|h1
 · have:=ub i j h1 hj;omega
 · rw [h1]
 · have:=ub j i h1 hi;omega
structure P1 (c:aQ) (f:List Pt) (i k:Nat) (a:aO) (ds:List wO):Prop where
 ok:fE a
 w2:a.where_.length=200
 new:aU f c.now a.heap (c.certs.list.take i) ds
 old:aU c.field.points c.now a.heap (c.certs.list.drop i) (c.due.drop k)
 kl:k<=c.due.length
 cnt:a.heap.length=ds.length+(c.due.length-k)
theorem aTY {a:aO} (ok:fE a) {w:Nat} (hw:w<a.heap.length):(eT a w).heap.length=a.heap.length-1/\(eT a w).where_.length=a.where_.length:=by
 have rem:=K9 ok hw;have h3:(eT a w).slots=gF a.slots (a.heap[w]!).2.2.2:=by unfold eT;split<;>rfl
 have h1:=rem.hl;have h2:=ok.hl;have h4:=rem.wl;rw [h3] at h1 h4;change _+(a.slots.free++[_]).length=a.slots.uses.length at h1;change _=a.slots.uses.length at h4;rw [List.length_append] at h1;simp only [List.length_cons,List.length_nil] at h1;exact ⟨by omega,by rw [h4,ok.wl]⟩
theorem aNl {a:aO} {t:Int×Int} {n:Int} (ok:fE a) (pok:fE (mO a t n)):(mO a t n).where_.length=a.where_.length:=by
 have:=pok.wl
 change _=(a.slots.uses.set _ _).length at this;rw [List.length_set] at this;rw [this,ok.wl]
section
variable {c : aQ} (ok : bF c) {f : List Pt} (fok : cJ f) (kn : ∀ i, i < c.certs.list.length -> kU f (c.certs.list[i]!).2)
include ok
theorem JU {i:Nat} {x:wO} (hx:x∈c.certs.list.take i) (hi:i<c.certs.list.length):x.1≠(c.certs.list[i]!).1:=by
 obtain ⟨j,h1,h2,rfl⟩:=cD.1 hx
 have:=ok.crt.up j i h1 hi
 omega
theorem JV {i:Nat} {x:wO} (hx:x∈c.certs.list.drop (i+1)) (hi:i<c.certs.list.length):x.1≠(c.certs.list[i]!).1:=by
 obtain ⟨j,h1,rfl⟩:=aW.1 hx;rw [List.length_drop] at h1;rw [tX]
 have:=ok.crt.up i (i+1+j) (by omega) (by omega)
 omega
theorem aDz {i k:Nat} {a:aO} {ds:List wO} (inv:P1 c f i k a ds) (hi:i<c.certs.list.length) (was:(bK c.field.points (c.certs.list[i]!).2 c.now).2=false): ∀e∈a.heap,Ev.num e≠(c.certs.list[i]!).1:=by
 have u1:Up (c.certs.list.take i):=ok.crt_up.sublist (List.take_sublist _ _);have u2:Up (c.certs.list.drop i):=ok.crt_up.sublist (List.drop_sublist _ _);have d1:=inv.new.up u1;have d2:=inv.old.up u2;have cross: ∀x∈ds,∀y∈c.due.drop k,x.1<y.1:=by
  intro x hx y hy;obtain ⟨p,hp,h1,_⟩:=inv.new.due x hx;obtain ⟨q,hq,h2,_⟩:=inv.old.due y hy;obtain ⟨m,m1,m2,rfl⟩:=cD.1 hp;obtain ⟨n,n1,rfl⟩:=aW.1 hq;rw [List.length_drop] at n1;rw [tX] at h2
  have:=ok.crt.up m (i+n) (by omega) (by omega)
  omega
 have nd:((ds++c.due.drop k).map fun x=>x.1).Nodup:=YZ (by
  show List.Pairwise _ _;rw [List.pairwise_append];exact ⟨d1,d2,cross⟩)
 have only:=L8 (H:=a.heap) nd (by rw [List.length_map,List.length_append,List.length_drop,inv.cnt];exact Nat.le_refl _) (fun n hn=>by
  obtain ⟨x,hx,rfl⟩:=List.mem_map.1 hn;rcases List.mem_append.1 hx with hx|hx
  · obtain ⟨p,hp,h1,h2,h3⟩:=inv.new.due x hx
    exact ⟨_,h3,h1.symm⟩
  · obtain ⟨p,hp,h1,h2,h3⟩:=inv.old.due x hx
    exact ⟨_,h3,h1.symm⟩)
 intro e he hne;obtain ⟨x,hx,h1⟩:=List.mem_map.1 (only e he);rcases List.mem_append.1 hx with hx|hx
 · obtain ⟨p,hp,h2,_⟩:=inv.new.due x hx
   exact JU ok hp hi (by rw [<- h2,h1,hne])
 · obtain ⟨p,hp,h2,h3,_⟩:=inv.old.due x hx
   have hp':p∈c.certs.list:=List.mem_of_mem_drop hp
   have:=ok.crt_up.inj hp' (bJ hi) (by rw [<- h2,h1,hne])
   rw [this,was] at h3;cases h3
def stP (c:aQ) (f:List Pt) (i:Nat) (a:aO) (ds:List wO):=
 (c.certs.list,(c.certs.list.length:Int),(i:Int),c.now.1,c.now.2,c.field.points,c.certs.next_,c.certs.list,c.agenda.slots.uses,c.agenda.slots.used,c.agenda.slots.free,c.agenda.heap,c.agenda.where_,c.due,f,(0:Int),(0:Int),(0:Int),c.now.1,c.now.2,c.certs.next_,c.certs.list,a.slots.uses,a.slots.used,a.slots.free,a.heap,a.where_,f,ds)
def stR (c:aQ) (f:List Pt) (i:Nat) (a:aO) (ds:List wO):=
 ((i:Int),c.now.1,c.now.2,c.field.points,c.certs.next_,c.certs.list,c.agenda.slots.uses,c.agenda.slots.used,c.agenda.slots.free,c.agenda.heap,c.agenda.where_,c.due,f,(0:Int),(0:Int),(0:Int),c.now.1,c.now.2,f,c.certs.next_,c.certs.list,a.slots.uses,a.slots.used,a.slots.free,a.heap,a.where_,ds)
include fok kn
theorem aFR {i k:Nat} {a:aO} {ds:List wO} (inv:P1 c f i k a ds) (hi:i<c.certs.list.length) (hds:ds.length<=i):
 (dQ (stP c f i a ds)=some (.done (.done (eE,18)))/\cW (stR c f i a ds)=some (.done (eE,18)))\/
 ∃k' a' ds',dQ (stP c f i a ds)=some (.next (stP c f (i+1) a' ds'))/\cW (stR c f i a ds)=some (.next (stR c f (i+1) a' ds'))/\P1 c f (i+1) k' a' ds'/\ds'.length<=i+1:=by
 have bd:=ok.bd;have e1:decide ((i:Int)<(c.certs.list.length:Int))=true:=aK (by omega)
 have sc:=aT (show i<1000000000 by omega)
 have cg:=aE c.certs.list i hi;have hb:=kn i hi;have wn:=A0 fok (x:=(c.certs.list[i]!).2) (t:=(c.now.1,c.now.2)) (ok.crt.cv i hi) ok.nowv ok.now64;rw [if_pos hb] at wn;have wr:=A1 fok (x:=(c.certs.list[i]!).2) (t:=(c.now.1,c.now.2)) ok.now64 hb;have pd:=SX ok.due_up (by omega) (c.certs.list[i]!).1
 have da:=Y0 c (c.certs.list[i]!).1 (by omega)
 have dr:=xN hi;have tk:=fQ hi;have old:=inv.old;rw [dr] at old;have aeta:aO.mk (aV.mk a.slots.uses a.slots.used a.slots.free) a.heap a.where_=a:=rfl
 have ceta:(aQ.mk (c.now.1,c.now.2) (Field.mk c.field.points) (bI.mk c.certs.next_ c.certs.list) (aO.mk (aV.mk c.agenda.slots.uses c.agenda.slots.used c.agenda.slots.free) c.agenda.heap c.agenda.where_) c.due)=c:=rfl;have other: ∀x∈c.certs.list.take i,x.1≠(c.certs.list[i]!).1:=fun x hx=>JU ok hx hi
 have other': ∀x∈c.certs.list.drop (i+1),x.1≠(c.certs.list[i]!).1:=fun x hx=>JV ok hx hi
 cases hwas:(bK c.field.points (c.certs.list[i]!).2 c.now).2 with
 |true=>
  obtain ⟨d,ds',hd1,hd2,hd3,hd4⟩:=(aU.cons_true hwas).1 old;have hk:k<c.due.length:=by
   refine Classical.byContradiction fun h=>?_
   rw [List.drop_eq_nil_of_le (by omega)] at hd1
   cases hd1
  have dk:=xN hk;rw [dk] at hd1;injection hd1 with hd5 hd6;subst hd5 hd6;obtain ⟨w,hw,hev⟩:=aW.1 hd3;have hh:(a.heap[w]!).2.2.2=(c.due[k]!).2:=by rw [hev]
  have hnum:Ev.num a.heap[w]! =(c.certs.list[i]!).1:=by rw [hev]
  have before: ∀j,j<k->(c.due[j]!).1≠(c.certs.list[i]!).1:=fun j hj he=>by
   have:=xG.1 ok.due_up j k hj hk
   omega
  have pl:=pd.1 k hk hd2;have dq:=da.1 k hk hd2 before;have gk:=aE c.due k hk;have k0:decide ((0:Int)<=(k:Int))=true:=aK (by omega)
  have ap:bT ds [c.due[k]!]=some (ds++[c.due[k]!]):=eC (by simp;omega)
  cases his:(bK f (c.certs.list[i]!).2 c.now).2 with
  |true=>
   right;have tt:cH (bK f (c.certs.list[i]!).2 c.now).1/\rE (bK f (c.certs.list[i]!).2 c.now).1:=PA (eD fok hb.2).1 (eD fok hb.1).1 ok.now64 ok.nowv his;obtain ⟨t1,t2⟩:=tt;have re:=MM inv.ok inv.ok.fit (t:=(bK f (c.certs.list[i]!).2 c.now).1) hw hh t1 t2;have rr:=K8 inv.ok (t:=(bK f (c.certs.list[i]!).2 c.now).1) hw hh t1 t2
   have rok:=aFL inv.ok hw t1 t2;have rmem:=aDy inv.ok hw t1;have rlen:=K7 inv.ok hw t1;have stay: ∀(cs:List wO),(∀x∈cs,x.1≠(c.certs.list[i]!).1)-> ∀x∈cs,∀e:Ev,e.num=x.1->e∈a.heap->e∈(lC a w (bK f (c.certs.list[i]!).2 c.now).1).heap:=by
    intro cs hcs x hx e he hm;refine (rmem e).2 (.inr ⟨hm,fun h=>hcs x hx ?_⟩)
    rw [<- he,h,hnum]
   refine ⟨k+1,lC a w (bK f (c.certs.list[i]!).2 c.now).1,ds++[c.due[k]!],?_,?_,⟨rok,by rw [rlen.2];exact inv.w2,?_,?_,by omega,?_⟩,by simp;omega⟩
   · unfold dQ stP
     simp only [e1,cond_true,cg,aD,wn,pl,his,gk,aeta,re,ap,show ((0:Int) !=0)=false from rfl,cond_false,sc]
   · unfold cW stR
     simp only [aF,e1,cond_true,cg,aD,ceta,dq,wr,his,k0,gk,aeta,rr,ap,Bool.not_true,cond_false,sc]
   · rw [tk]
     exact ((inv.new.mono (stay _ other)).snoc (x:=c.certs.list[i]!)).2 _ his hd2 ((rmem _).2 (.inl (by
      show _=((bK f (c.certs.list[i]!).2 c.now).1.1,(bK f (c.certs.list[i]!).2 c.now).1.2,(a.heap[w]!).2.2);rw [hev])))
   · exact hd4.mono (stay _ other')
   · rw [rlen.1,inv.cnt,List.length_append]
     simp only [List.length_cons,List.length_nil];omega
  |false=>
   right;have rv:=BS inv.ok hw inv.ok.fit hh;have rr:=BT inv.ok hw hh;have rok:=K9 inv.ok hw;have rmem:=PS inv.ok hw;have rlen:=aTY inv.ok hw;have stay: ∀(cs:List wO),(∀x∈cs,x.1≠(c.certs.list[i]!).1)-> ∀x∈cs,∀e:Ev,e.num=x.1->e∈a.heap->e∈(eT a w).heap:=by
    intro cs hcs x hx e he hm;refine (rmem e).2 ⟨hm,fun h=>hcs x hx ?_⟩
    rw [<- he,h,hnum]
   refine ⟨k+1,eT a w,ds,?_,?_,⟨rok,by rw [rlen.2];exact inv.w2,?_,hd4.mono (stay _ other'),by omega,?_⟩,by omega⟩
   · unfold dQ stP
     simp only [e1,cond_true,cg,aD,wn,pl,his,gk,aeta,rv,show ((0:Int) !=0)=false from rfl,cond_false,sc]
   · unfold cW stR
     simp only [aF,e1,cond_true,cg,aD,ceta,dq,wr,his,k0,gk,aeta,rr,Bool.not_false,cond_false,sc]
   · rw [tk]
     exact ((inv.new.mono (stay _ other)).snoc (x:=c.certs.list[i]!)).1 his
   · have:=inv.cnt
     rw [rlen.1];omega
 |false=>
  have fol:=(aU.cons_false hwas).1 old;have no: ∀j,j<c.due.length->(c.due[j]!).1≠(c.certs.list[i]!).1:=by
   intro j hj he;obtain ⟨x,hx,h1,h2,_⟩:=ok.fol.due _ (bJ hj)
   have:=ok.crt_up.inj hx (bJ hi) (by rw [<- h1,he])
   rw [this,hwas] at h2;cases h2
  obtain ⟨m,pl⟩:=pd.2 no;have dq:=da.2 no;have k0:decide ((0:Int)<= -1)=false:=dec_f (by omega)
  cases his:(bK f (c.certs.list[i]!).2 c.now).2 with
  |true=>
   have tt:cH (bK f (c.certs.list[i]!).2 c.now).1/\rE (bK f (c.certs.list[i]!).2 c.now).1:=PA (eD fok hb.2).1 (eD fok hb.1).1 ok.now64 ok.nowv his;obtain ⟨t1,t2⟩:=tt;have n0:=(ok.crt.nr i hi).1;have n1:(c.certs.list[i]!).1<=1000000:=by have:=(ok.crt.nr i hi).2;have:=ok.crt.n1;omega
   have fresh:=aDz ok inv hi hwas
   by_cases op:DU a.slots
   · right
     have pu:=BO inv.ok op inv.ok.fit (t:=(bK f (c.certs.list[i]!).2 c.now).1) (n:=(c.certs.list[i]!).1) t1 t2 n0 n1 fresh;have rp:=DV inv.ok op (t:=(bK f (c.certs.list[i]!).2 c.now).1) (n:=(c.certs.list[i]!).1) t1 t2 n0 n1;have pok:=aCu inv.ok op (t:=(bK f (c.certs.list[i]!).2 c.now).1) (n:=(c.certs.list[i]!).1) t1 t2 n0 n1 fresh
     have pmem:=YQ inv.ok op (t:=(bK f (c.certs.list[i]!).2 c.now).1) (n:=(c.certs.list[i]!).1) t1;have plen:=JR inv.ok op (t:=(bK f (c.certs.list[i]!).2 c.now).1) (n:=(c.certs.list[i]!).1) t1;have ap: ∀h:Int×Int,bT ds [((c.certs.list[i]!).1,h)]=some (ds++[((c.certs.list[i]!).1,h)]):=fun h=>eC (by simp;omega)
     have opn:=vA inv.ok.so;rw [aK op] at opn;refine ⟨k,mO a (bK f (c.certs.list[i]!).2 c.now).1 (c.certs.list[i]!).1,ds++[((c.certs.list[i]!).1,mN a.slots)],?_,?_,⟨pok,by rw [aNl inv.ok pok];exact inv.w2,?_,?_,inv.kl,?_⟩,by simp;omega⟩
     · unfold dQ stP
       simp only [e1,cond_true,cg,aD,wn,pl,his,aeta,pu,ap,show ((0:Int) !=0)=false from rfl,cond_false,sc]
     · unfold cW stR
       simp only [aF,e1,cond_true,cg,aD,ceta,dq,wr,his,k0,aeta,rp,ap,Bool.not_true,cond_false,sc,opn]
     · rw [tk]
       exact ((inv.new.mono fun x hx e he hm=>(pmem e).2 (.inr hm)).snoc (x:=c.certs.list[i]!)).2 _ his rfl ((pmem _).2 (.inl rfl))
     · exact fol.mono fun x hx e he hm=>(pmem e).2 (.inr hm)
     · have:=inv.cnt
       rw [plen,List.length_append];simp only [List.length_cons,List.length_nil];omega
   · left
     have pu:=BP inv.ok op inv.ok.fit (t:=(bK f (c.certs.list[i]!).2 c.now).1) (n:=(c.certs.list[i]!).1) t1 t2 n0 n1 fresh;have ap: ∀h:Int×Int,bT ds [((c.certs.list[i]!).1,h)]=some (ds++[((c.certs.list[i]!).1,h)]):=fun h=>eC (by simp;omega)
     have opn:=vA inv.ok.so;rw [dec_f op] at opn;constructor
     · unfold dQ stP
       simp only [e1,cond_true,cg,aD,wn,pl,his,aeta,pu,ap,show ((18:Int) !=0)=true from rfl,cond_false]
     · unfold cW stR
       simp only [aF,e1,cond_true,cg,aD,ceta,dq,wr,his,k0,aeta,Bool.not_true,Bool.not_false,cond_false,opn]
  |false=>
   right;refine ⟨k,a,ds,?_,?_,⟨inv.ok,inv.w2,?_,fol,inv.kl,inv.cnt⟩,by omega⟩
   · unfold dQ stP
     simp only [e1,cond_true,cg,aD,wn,pl,his,show ((0:Int) !=0)=false from rfl,cond_false,sc]
   · unfold cW stR
     simp only [aF,e1,cond_true,cg,aD,ceta,dq,wr,his,k0,Bool.not_false,cond_false,sc]
   · rw [tk]
     exact (inv.new.snoc (x:=c.certs.list[i]!)).1 his
theorem aWD:
 (qV c ⟨f⟩=some (eE,18)/\nC c ⟨f⟩=some (eE,18))\/
 ∃c':aQ,qV c ⟨f⟩=some (c',0)/\nC c ⟨f⟩=some (c',0)/\bF c'/\c'.field.points=f/\c'.now=c.now/\c'.certs=c.certs:=by
 have bd:=ok.bd;have f64:=fok.1;have run: ∀(d i k:Nat) (a:aO) (ds:List wO),c.certs.list.length-i<=d->i<=c.certs.list.length->P1 c f i k a ds->ds.length<=i->
  (aH dQ (stP c f i a ds)=some (.done (eE,18))/\aH cW (stR c f i a ds)=some (eE,18))\/
  ∃c':aQ,aH dQ (stP c f i a ds)=some (.done (c',0))/\aH cW (stR c f i a ds)=some (c',0)/\bF c'/\c'.field.points=f/\c'.now=c.now/\c'.certs=c.certs:=by
  have fin: ∀(k:Nat) (a:aO) (ds:List wO),P1 c f c.certs.list.length k a ds-> ∃c':aQ,aH dQ (stP c f c.certs.list.length a ds)=some (.done (c',0))/\aH cW (stR c f c.certs.list.length a ds)=some (c',0)/\bF c'/\c'.field.points=f/\c'.now=c.now/\c'.certs=c.certs:=by
   intro k a ds inv;have e1:decide ((c.certs.list.length:Int)<(c.certs.list.length:Int))=false:=dec_f (by omega)
   have hk:c.due.length-k=0:=by
    have:=inv.old
    rw [List.drop_length] at this
    have:c.due.drop k=[]:=this
    rw [List.drop_eq_nil_iff] at this;omega
   have new:=inv.new;rw [List.take_length] at new;refine ⟨⟨c.now,⟨f⟩,c.certs,a,ds⟩,aL ?_,aL ?_,⟨ok.nowv,ok.now64,fok,ok.crt,inv.ok,inv.w2,?_,kn,new⟩,rfl,rfl,rfl⟩
   · unfold dQ stP
     simp only [e1,cond_false]
   · unfold cW stR
     simp only [aF,e1,cond_false]
   · have:=inv.cnt
     show a.heap.length=ds.length;omega
  intro d
  induction d with
  |zero=>
   intro i k a ds hd hi inv hds
   have:i=c.certs.list.length:=by omega
   subst this;exact .inr (fin k a ds inv)
  |succ d ih=>
   intro i k a ds hd hi inv hds
   by_cases he:i=c.certs.list.length
   · subst he;exact .inr (fin k a ds inv)
   rcases aFR ok fok kn inv (by omega) hds with ⟨h1,h2⟩|⟨k',a',ds',h1,h2,h3,h4⟩
   · exact .inl ⟨aL h1,aL h2⟩
   · rw [bA h1,bA h2]
     exact ih (i+1) k' a' ds' (by omega) (by omega) h3 h4
 have start:=run c.certs.list.length 0 0 c.agenda [] (by omega) (by omega) ⟨ok.agd,ok.w200,rfl,by rw [List.drop_zero,List.drop_zero];exact ok.fol,by omega,by have:=ok.hd;simp;omega⟩ (by simp)
 have hc:iB c=some 0:=by rw [oM ok.fit,if_pos ok]
 have hf:fX ⟨f⟩=some 0:=by rw [lU];exact congrArg some (kM.2 fok)
 have tw:=nH ok;have tw':nY (aQ.mk (c.now.1,c.now.2) (Field.mk c.field.points) (bI.mk c.certs.next_ c.certs.list) (aO.mk (aV.mk c.agenda.slots.uses c.agenda.slots.used c.agenda.slots.free) c.agenda.heap c.agenda.where_) c.due)=some c:=tw
 have first:aH lJ (c.certs.list,(c.certs.list.length:Int),0,c.now.1,c.now.2,c.field.points,c.certs.next_,c.certs.list,c.agenda.slots.uses,c.agenda.slots.used,c.agenda.slots.free,c.agenda.heap,c.agenda.where_,c.due,f,0,0,0)=
  aH lJ (c.certs.list,(c.certs.list.length:Int),(c.certs.list.length:Int),c.now.1,c.now.2,c.field.points,c.certs.next_,c.certs.list,c.agenda.slots.uses,c.agenda.slots.used,c.agenda.slots.free,c.agenda.heap,c.agenda.where_,c.due,f,0,0,0):=by
  refine bQ (body:=lJ) (fun i=>(c.certs.list,(c.certs.list.length:Int),(i:Int),c.now.1,c.now.2,c.field.points,c.certs.next_,c.certs.list,c.agenda.slots.uses,c.agenda.slots.used,c.agenda.slots.free,c.agenda.heap,c.agenda.where_,c.due,f,0,0,0)) c.certs.list.length (fun i hi=>?_)
  have e1:decide ((i:Int)<(c.certs.list.length:Int))=true:=aK (by omega)
  unfold lJ;simp only [e1,cond_true,aE c.certs.list i hi,aD,oL fok,dec_f (VB fok (kn i hi).1),dec_f (VB fok (kn i hi).2),cond_false,aT (show i<1000000000 by omega)]
 have second: ∀r,aH dQ (stP c f 0 c.agenda [])=some (.done r)->qV c ⟨f⟩=some r:=by
  intro r hr;unfold qV;simp only [hc,aD,show ((0:Int) !=0)=false from rfl,cond_false,hf,aF];rw [first]
  refine aL ?_;unfold lJ;have e1:decide ((c.certs.list.length:Int)<(c.certs.list.length:Int))=false:=dec_f (by omega)
  simp only [aF,e1,cond_false,tw',aD,bC (show f.length<=1048576 by omega)]
  exact hr
 have third: ∀r,aH cW (stR c f 0 c.agenda [])=some r->nC c ⟨f⟩=some r:=by
  intro r hr;unfold nC oA;simp only [kV ok,aD,bC (show f.length<=1048576 by omega)]
  exact hr
 rcases start with ⟨h1,h2⟩|⟨c',h1,h2,h3⟩
 · exact .inl ⟨second _ h1,third _ h2⟩
 · exact .inr ⟨c',second _ h1,third _ h2,h3⟩
end
theorem pO (l:List (Int×Int)) (x:Int×Int) (hl:l.length<=1000000):eM l x=some (decide (x∈l)):=by
 unfold eM sA;have key:=oI (body:=kK) (fun i=>(l,(l.length:Int),(i:Int),x)) l.length (fun i=>l[i]! =x) (fun i=>(i:Int)) (e:= -1) (fun i hi=>by
  have e1:decide ((i:Int)<(l.length:Int))=true:=aK (by omega)
  unfold kK;simp only [e1,cond_true,aE l i hi,aD,aT (show i<1000000000 by omega)]
  generalize l[i]! =y;constructor
  · intro h;rw [eV (congrArg Prod.fst h.symm),eV (congrArg Prod.snd h.symm)];rfl
  · intro h
    by_cases h1:x.1=y.1
    · rw [eV h1,eJ (fun h2=>h (Prod.ext h1.symm h2.symm))];rfl
    · rw [eJ h1];rfl) (by
  unfold kK
  have:decide ((l.length:Int)<(l.length:Int))=false:=dec_f (by omega)
  simp only [this,cond_false])
 rw [aF]
 by_cases hx:x∈l
 · obtain ⟨i,hi,he⟩:=aW.1 hx
   obtain ⟨k,h1,h2,h3⟩:=JK (c:=fun i=>l[i]! =x) ⟨i,hi,he⟩
   have:=key.1 k h1 h2 h3
   rw [show ((0:Nat):Int)=0 from rfl] at this;rw [this,aK hx];simp only [aD,aK (show (0:Int)<=(k:Int) by omega)]
 · have:=key.2 fun i hi he=>hx (aW.2 ⟨i,hi,he⟩)
   rw [show ((0:Nat):Int)=0 from rfl] at this;rw [this,dec_f hx];rfl
theorem MA (l:List (Int×Int)) (x:Int×Int) (hl:l.length<=1000000):JJ l x=some (decide (x∈l)):=by
 unfold JJ;have key:=dK (body:=zU) (fun i=>(l,(i:Int),x)) l.length (fun i=>l[i]! =x) (r:=true) (e:=false) (fun i hi=>by
  have e1:decide ((i:Int)<(l.length:Int))=true:=aK (by omega)
  unfold zU;simp only [aF,e1,cond_true,aE l i hi,aD,aT (show i<1000000000 by omega)]
  generalize l[i]! =y;constructor
  · intro h;rw [eV (congrArg Prod.fst h),eV (congrArg Prod.snd h)];rfl
  · intro h
    by_cases h1:y.1=x.1
    · rw [eV h1,eJ (fun h2=>h (Prod.ext h1 h2))];rfl
    · rw [eJ h1];rfl) (by
  unfold zU
  have:decide ((l.length:Int)<(l.length:Int))=false:=dec_f (by omega)
  simp only [aF,this,cond_false])
 by_cases hx:x∈l
 · rw [aK hx];exact key.1 (aW.1 hx)
 · rw [dec_f hx];exact key.2 fun i hi he=>hx (aW.2 ⟨i,hi,he⟩)
theorem aFS (x y:wO):((x.1==y.1)&&((x.2.1==y.2.1)&&(x.2.2==y.2.2)))=decide (x=y):=by
 rw [Bool.eq_iff_iff,decide_eq_true_iff];simp only [Bool.and_eq_true,beq_iff_eq];constructor
 · rintro ⟨h1,h2,h3⟩;exact Prod.ext h1 (Prod.ext h2 h3)
 · rintro rfl;exact ⟨rfl,rfl,rfl⟩
theorem MB (a b:List wO) (hl:a.length<=1000000):yF ⟨a⟩ ⟨b⟩=some (decide (a=b)):=by
 unfold yF;simp only [aF]
 by_cases h:a.length=b.length
 case neg=>rw [cQ (by omega),dec_f (fun k=>h (by rw [k]))];rfl
 rw [bS (by omega)]
 simp only [cond_false];have key:=dK (body:=uS) (fun i=>((i:Int),a,b)) a.length (fun i=> ¬a[i]! =b[i]!) (r:=false) (e:=true) (fun i hi=>by
  have e1:decide ((i:Int)<(a.length:Int))=true:=aK (by omega)
  unfold uS;simp only [aF,e1,cond_true,aE a i hi,aE b i (by omega),aD,aT (show i<1000000000 by omega),aFS]
  constructor
  · intro h;rw [dec_f h];rfl
  · intro h;rw [aK (Classical.not_not.1 h)];rfl) (by
  unfold uS
  have:decide ((a.length:Int)<(a.length:Int))=false:=dec_f (by omega)
  simp only [aF,this,cond_false])
 by_cases he:a=b
 · rw [aK he]
   exact key.2 fun i hi=>Classical.not_not.2 (by rw [he])
 · rw [dec_f he]
   refine key.1 (Classical.byContradiction fun hx=>he (wC h fun i hi=>?_))
   exact Classical.byContradiction fun hn=>hx ⟨i,hi,hn⟩
theorem VC (a b:List wO) (hl:a.length<=1000000):mJ a b=some (decide (a=b)):=by
 unfold mJ;simp only [aF]
 by_cases h:a.length=b.length
 case neg=>rw [cQ (by omega),dec_f (fun k=>h (by rw [k]))];rfl
 rw [bS (by omega)]
 simp only [cond_false];have key:=dK (body:=jZ) (fun i=>(a,b,(a.length:Int),(i:Int))) a.length (fun i=> ¬a[i]! =b[i]!) (r:=false) (e:=true) (fun i hi=>by
  have e1:decide ((i:Int)<(a.length:Int))=true:=aK (by omega)
  unfold jZ;simp only [e1,cond_true,aE a i hi,aE b i (by omega),aD,aT (show i<1000000000 by omega),aFS]
  constructor
  · intro h;rw [dec_f h];rfl
  · intro h;rw [aK (Classical.not_not.1 h)];rfl) (by
  unfold jZ
  have:decide ((a.length:Int)<(a.length:Int))=false:=dec_f (by omega)
  simp only [this,cond_false])
 by_cases he:a=b
 · rw [aK he]
   exact key.2 fun i hi=>Classical.not_not.2 (by rw [he])
 · rw [dec_f he]
   refine key.1 (Classical.byContradiction fun hx=>he (wC h fun i hi=>?_))
   exact Classical.byContradiction fun hn=>hx ⟨i,hi,hn⟩
theorem aDC {cs:List wO} {m:Nat} {x:wO} (hx:x∈cs) (hne:x.1≠(cs[m]!).1):x∈cs.eraseIdx m:=by
 obtain ⟨j,hj,rfl⟩:=aW.1 hx;have hjm:j≠m:=fun h=>hne (by rw [h])
 rw [yN,List.mem_append]
 by_cases h:j<m
 · exact .inl (cD.2 ⟨j,h,hj,rfl⟩)
 · right
   rw [aW];refine ⟨j- (m+1),by rw [List.length_drop];omega,?_⟩
   rw [tX]
   congr 1;omega
def kP (c0:aQ) (f:List Pt) (es:List (Int×Int)) (i:Nat) (c:aQ):=
 (es,c0.certs.list,(c0.certs.list.length:Int),(i:Int),c.now.1,c.now.2,c.field.points,c.certs.next_,c.certs.list,c.agenda.slots.uses,c.agenda.slots.used,c.agenda.slots.free,c.agenda.heap,c.agenda.where_,c.due,f,(0:Int),(0:Int),(0:Int))
def kR (c0:aQ) (f:List Pt) (es:List (Int×Int)) (i:Nat) (c:aQ):=
 (es,(i:Int),c0.now.1,c0.now.2,c0.field.points,c0.certs.next_,c0.certs.list,c0.agenda.slots.uses,c0.agenda.slots.used,c0.agenda.slots.free,c0.agenda.heap,c0.agenda.where_,c0.due,f,(0:Int),(0:Int),(0:Int),c.now.1,c.now.2,c.field.points,c.certs.next_,c.certs.list,c.agenda.slots.uses,c.agenda.slots.used,c.agenda.slots.free,c.agenda.heap,c.agenda.where_,c.due)
def eP (es:List (Int×Int)) (i:Nat) (c:aQ):=
 (es,(es.length:Int),(i:Int),c.now.1,c.now.2,c.field.points,c.certs.next_,c.certs.list,c.agenda.slots.uses,c.agenda.slots.used,c.agenda.slots.free,c.agenda.heap,c.agenda.where_,c.due,(0:Int),(0:Int),(0:Int))
def eR (es:List (Int×Int)) (i:Nat) (c:aQ):=
 (es,(i:Int),(0:Int),(0:Int),(0:Int),c.now.1,c.now.2,c.field.points,c.certs.next_,c.certs.list,c.agenda.slots.uses,c.agenda.slots.used,c.agenda.slots.free,c.agenda.heap,c.agenda.where_,c.due)
def JW (c:aQ):Int:=c.certs.next_- (c.certs.list.length:Int)
structure P2 (c:aQ) (f:List Pt) (es:List (Int×Int)) (r:aQ):Prop where
 has: ∀e∈es,AZ r.certs.list e
 sub: ∀x∈r.certs.list,x.2∈es
 ok:bF r
 fld:r.field.points=f
 now:r.now=c.now
 room:JW c<=JW r
def SY (c:aQ) (k:Nat):Prop:=c.certs.list.length<=k/\c.certs.next_<=k/\ ∀j,j<c.agenda.slots.uses.length->c.agenda.slots.uses[j]!<=k
theorem aU.len {l:List Pt} {t:Int×Int} {H:List Ev}: ∀{cs ds:List wO},aU l t H cs ds->ds.length<=cs.length
 | [],ds,h=>by rw [show ds=[] from h];exact Nat.le_refl _
 |x::cs,ds,h=>by
  cases hy:(bK l x.2 t).2 with
  |true=>
   obtain ⟨d,ds',rfl,_,_,h4⟩:=h.1 hy;exact Nat.succ_le_succ h4.len
  |false=>exact Nat.le_succ_of_le (h.2 hy).len
theorem SY.not_full {c:aQ} (ok:bF c) {k:Nat} (h:SY c k) (hk:k<=199): ¬(JT c.certs\/ ¬DU c.agenda.slots):=by
 obtain ⟨h1,h2,h3⟩:=h;have fl:=ok.fol.len;have hd:=ok.hd;have hl:=ok.agd.hl;have wl:=ok.agd.wl;have w2:=ok.w200;rintro (h|h)
 · rcases h with h|h<;>omega
 · refine h ⟨by omega,?_⟩
   have:=h3 _ (F5 ok.agd.so (by omega)).1
   omega
theorem SY.more {c c':aQ} {k:Nat} (h:SY c k) {x:Int×Int} (hc:c'.certs=sU c.certs x) (hs:c'.agenda.slots=c.agenda.slots\/c'.agenda.slots=iE c.agenda.slots):SY c' (k+1):=by
 obtain ⟨h1,h2,h3⟩:=h;refine ⟨?_,?_,fun j hj=>?_⟩
 · rw [hc]
   show (c.certs.list++[(c.certs.next_,x)]).length<=_;rw [List.length_append,List.length_singleton];omega
 · rw [hc]
   show c.certs.next_+1<=_;omega
 · rcases hs with e|e
   · rw [e] at hj ⊢
     have:=h3 j hj;omega
   · rw [e] at hj ⊢
     change j<(c.agenda.slots.uses.set _ _).length at hj;rw [List.length_set] at hj;show (c.agenda.slots.uses.set (dH c.agenda.slots) (c.agenda.slots.uses[dH c.agenda.slots]!+1))[j]!<=_;rw [bB];split
     · rename_i h;have:=h3 _ h.2;omega
     · have:=h3 j hj;omega
structure JX (f:List Pt) (es:List (Int×Int)):Prop where
 len:es.length<=1000000
 cv: ∀x∈es,gA x
 kn: ∀x∈es,kU f x
theorem aFT {c0:aQ} (ok0:bF c0) {f:List Pt} {es:List (Int×Int)} (eok:JX f es):
 ∀(d i:Nat) (c:aQ),c0.certs.list.length-i<=d->i<=c0.certs.list.length->bF c->(∀x∈c0.certs.list.drop i,x∈c.certs.list)->(∀x∈c.certs.list,x∈c0.certs.list.drop i\/x.2∈es)->
  ∃c':aQ,aH eN (kP c0 f es i c)=aH eN (kP c0 f es c0.certs.list.length c')/\aH dR (kR c0 f es i c)=aH dR (kR c0 f es c0.certs.list.length c')/\bF c'/\(∀x∈c'.certs.list,x.2∈es)/\c'.field=c.field/\c'.now=c.now/\JW c<=JW c':=by
 have bd:=ok0.bd;intro d
 induction d with
 |zero=>
  intro i c hd hi ok h1 h2
  have:i=c0.certs.list.length:=by omega
  subst this;refine ⟨c,rfl,rfl,ok,fun x hx=>?_,rfl,rfl,Int.le_refl _⟩
  rcases h2 x hx with h|h
  · rw [List.drop_length] at h;cases h
  · exact h
 |succ d ih=>
  intro i c hd hi ok h1 h2
  by_cases he:i=c0.certs.list.length
  · subst he
    refine ⟨c,rfl,rfl,ok,fun x hx=>?_,rfl,rfl,Int.le_refl _⟩
    rcases h2 x hx with h|h
    · rw [List.drop_length] at h;cases h
    · exact h
  have hi':i<c0.certs.list.length:=by omega
  have e1:decide ((i:Int)<(c0.certs.list.length:Int))=true:=aK (by omega)
  have sc:=aT (show i<1000000000 by omega)
  have cg:=aE c0.certs.list i hi';have dr:=xN hi';have ceta:(aQ.mk (c.now.1,c.now.2) (Field.mk c.field.points) (bI.mk c.certs.next_ c.certs.list) (aO.mk (aV.mk c.agenda.slots.uses c.agenda.slots.used c.agenda.slots.free) c.agenda.heap c.agenda.where_) c.due)=c:=rfl
  by_cases hin:(c0.certs.list[i]!).2∈es
  · have s1:eN (kP c0 f es i c)=some (.next (kP c0 f es (i+1) c)):=by
     unfold eN kP;simp only [e1,cond_true,cg,aD,pO _ _ eok.len,aK hin,Bool.not_true,cond_false,sc]
    have s2:dR (kR c0 f es i c)=some (.next (kR c0 f es (i+1) c)):=by
     unfold dR kR;simp only [aF,e1,cond_true,cg,aD,MA _ _ eok.len,aK hin,Bool.not_true,cond_false,sc]
    rw [bA s1,bA s2];refine ih (i+1) c (by omega) (by omega) ok (fun x hx=>h1 x (by rw [dr];exact List.mem_cons_of_mem _ hx)) (fun x hx=>?_)
    rcases h2 x hx with h|h
    · rw [dr] at h
      rcases List.mem_cons.1 h with rfl|h
      · exact .inr hin
      · exact .inl h
    · exact .inr h
  · have hm:=h1 (c0.certs.list[i]!) (by rw [dr];exact List.mem_cons_self)
    obtain ⟨m,hm1,hm2⟩:=aW.1 hm;obtain ⟨c',r1,r2,r3,r4,r5,r6⟩:=aTX ok hm1;have rt:=MN ok hm1 r1;rw [hm2] at r2 rt;have s1:eN (kP c0 f es i c)=some (.next (kP c0 f es (i+1) c')):=by
     unfold eN kP;simp only [e1,cond_true,cg,aD,pO _ _ eok.len,dec_f hin,Bool.not_false,sc,ceta,rt]
    have s2:dR (kR c0 f es i c)=some (.next (kR c0 f es (i+1) c')):=by
     unfold dR kR;simp only [aF,e1,cond_true,cg,aD,MA _ _ eok.len,dec_f hin,Bool.not_false,sc,ceta,r2]
    rw [bA s1,bA s2];have cl:c'.certs.list=c.certs.list.eraseIdx m:=by rw [r6];rfl
    have hroom:JW c<=JW c':=by
     unfold JW;rw [r6];show _<=c.certs.next_- (((c.certs.list.eraseIdx m).length:Nat):Int);rw [List.length_eraseIdx_of_lt hm1];omega
    have hs:(∀x∈c0.certs.list.drop (i+1),x∈c'.certs.list)/\(∀x∈c'.certs.list,x∈c0.certs.list.drop (i+1)\/x.2∈es):=by
     refine ⟨fun x hx=>?_,fun x hx=>?_⟩
     · rw [cl]
       refine aDC (h1 x (by rw [dr];exact List.mem_cons_of_mem _ hx)) ?_
       rw [hm2];exact JV ok0 hx hi'
     · rw [cl] at hx
       obtain ⟨a1,a2⟩:=C9 ok.crt_up hm1 hx;rw [hm2] at a2;rcases h2 x a1 with h|h
       · rw [dr] at h
         rcases List.mem_cons.1 h with rfl|h
         · exact absurd rfl a2
         · exact .inl h
       · exact .inr h
    obtain ⟨d',q1,q2,q3,q4,q5,q6,q7⟩:=ih (i+1) c' (by omega) (by omega) r3 hs.1 hs.2
    exact ⟨d',q1,q2,q3,q4,q5.trans r4,q6.trans r5,by omega⟩
theorem Y1 {f:List Pt} (_fok:cJ f) {es:List (Int×Int)} (eok:JX f es):
 ∀(d i:Nat) (c:aQ),es.length-i<=d->i<=es.length->bF c->c.field.points=f->(∀x∈c.certs.list,x.2∈es)->(∀j,j<i->AZ c.certs.list es[j]!)->
  ∃r:aQ×Int,aH fN (eP es i c)=some (.done r)/\aH dZ (eR es i c)=some (.done r)/\(r.2=0/\P2 c f es r.1\/r=(eE,18))/\(∀k,SY c k->k+(es.length-i)<=199->r.2=0):=by
 have el:=eok.len;have fin: ∀c:aQ,bF c->c.field.points=f->(∀x∈c.certs.list,x.2∈es)->(∀j,j<es.length->AZ c.certs.list es[j]!)-> ∃r:aQ×Int,aH fN (eP es es.length c)=some (.done r)/\aH dZ (eR es es.length c)=some (.done r)/\(r.2=0/\P2 c f es r.1\/r=(eE,18))/\r.2=0:=by
  intro c ok hf hs hh;have e1:decide ((es.length:Int)<(es.length:Int))=false:=dec_f (by omega)
  refine ⟨(c,0),aL ?_,aL ?_,.inl ⟨rfl,fun e he=>by obtain ⟨j,hj,q⟩:=aW.1 he;rw [<- q];exact hh j hj,hs,ok,hf,rfl,Int.le_refl _⟩,rfl⟩
  · unfold fN eP
    simp only [e1,cond_false]
  · unfold dZ eR
    simp only [aF,e1,cond_false]
 intro d
 induction d with
 |zero=>
  intro i c hd hi ok hf hs hh
  have:i=es.length:=by omega
  subst this;obtain ⟨r,q1,q2,q3,q4⟩:=fin c ok hf hs hh;exact ⟨r,q1,q2,q3,fun _ _ _=>q4⟩
 |succ d ih=>
  intro i c hd hi ok hf hs hh
  by_cases he:i=es.length
  · subst he
    obtain ⟨r,q1,q2,q3,q4⟩:=fin c ok hf hs hh;exact ⟨r,q1,q2,q3,fun _ _ _=>q4⟩
  have bd:=ok.bd;have hi':i<es.length:=by omega
  have e1:decide ((i:Int)<(es.length:Int))=true:=aK (by omega)
  have sc:=aT (show i<1000000000 by omega)
  have cg:=aE es i hi';have ceta:(aQ.mk (c.now.1,c.now.2) (Field.mk c.field.points) (bI.mk c.certs.next_ c.certs.list) (aO.mk (aV.mk c.agenda.slots.uses c.agenda.slots.used c.agenda.slots.free) c.agenda.heap c.agenda.where_) c.due)=c:=rfl;have ceta2:bI.mk c.certs.next_ c.certs.list=c.certs:=rfl;have hc:=YU c.certs.list es[i]! (by omega)
  have hr:=C6 c.certs es[i]! (by omega)
  by_cases hin:AZ c.certs.list es[i]!
  · have s1:fN (eP es i c)=some (.next (eP es (i+1) c)):=by
     unfold fN eP;simp only [e1,cond_true,cg,aD,LB,hc,aK hin,sc]
    have s2:dZ (eR es i c)=some (.next (eR es (i+1) c)):=by
     unfold dZ eR;simp only [aF,e1,cond_true,cg,aD,ceta2,hr,aK hin,sc]
    rw [bA s1,bA s2];obtain ⟨r,q1,q2,q3,q4⟩:=ih (i+1) c (by omega) (by omega) ok hf hs (fun j hj=>if q:j=i then by rw [q];exact hin else hh j (by omega))
    exact ⟨r,q1,q2,q3,fun k hk hl=>q4 k hk (by omega)⟩
  · have hb:kU c.field.points es[i]!:=by rw [hf];exact eok.kn _ (bJ hi')
    rcases aNk ok (eok.cv _ (bJ hi')) hb hin with ⟨r1,r2,full⟩|⟨c',r1,r2,r3,r4,r5,r6,r7⟩
    · refine ⟨(eE,18),aL ?_,aL ?_,.inr rfl,fun k hk hl=>absurd full (hk.not_full ok (by omega))⟩
      · unfold fN eP
        simp only [e1,cond_true,cg,aD,LB,hc,dec_f hin,cond_false,ceta,r1,show ((18:Int) !=0)=true from rfl]
      · unfold dZ eR
        simp only [aF,e1,cond_true,cg,aD,ceta2,hr,dec_f hin,cond_false,ceta,r2,show ((18:Int) !=0)=true from rfl]
    · have s1:fN (eP es i c)=some (.next (eP es (i+1) c')):=by
       unfold fN eP;simp only [e1,cond_true,cg,aD,LB,hc,dec_f hin,cond_false,ceta,r1,show ((0:Int) !=0)=false from rfl,sc]
      have s2:dZ (eR es i c)=some (.next (eR es (i+1) c')):=by
       unfold dZ eR;simp only [aF,e1,cond_true,cg,aD,ceta2,hr,dec_f hin,cond_false,ceta,r2,show ((0:Int) !=0)=false from rfl,sc]
      rw [bA s1,bA s2];obtain ⟨r,q1,q2,q3,q6⟩:=ih (i+1) c' (by omega) (by omega) r3 (by rw [r4,hf]) (fun x hx=>by
       rw [r6] at hx;rcases List.mem_append.1 (show x∈c.certs.list++[(c.certs.next_,es[i]!)] from hx) with h|h
       · exact hs x h
       · rw [List.mem_singleton.1 h];exact bJ hi') (fun j hj=>by
       rw [r6];show AZ (c.certs.list++[(c.certs.next_,es[i]!)]) _
       by_cases q:j=i
       · rw [q];exact ⟨c.certs.list.length,by rw [List.length_append,List.length_singleton];omega,by rw [gQ (Nat.le_refl _),Nat.sub_self];rfl⟩
       · obtain ⟨w,w1,w2⟩:=hh j (by omega)
         exact ⟨w,by rw [List.length_append];omega,by rw [eA w1];exact w2⟩)
      refine ⟨r,q1,q2,q3.imp (fun ⟨q4,q5⟩=>⟨q4,q5.has,q5.sub,q5.ok,q5.fld,q5.now.trans r5,Int.le_trans ?_ q5.room⟩) id,fun k hk hl=>q6 (k+1) (hk.more r6 r7) (by omega)⟩
      unfold JW;rw [r6];show _<=(c.certs.next_+1) - (((c.certs.list++[(c.certs.next_,es[i]!)]).length:Nat):Int);rw [List.length_append,List.length_singleton];omega
theorem aNm {c:aQ} (ok:bF c) {f:List Pt} (fok:cJ f) {es:List (Int×Int)} (eok:JX f es):
 ∃r:aQ×Int,vS c ⟨f⟩ es=some r/\nD c ⟨f⟩ es=some r/\(r.2=0/\P2 c f es r.1\/r=(eE,18)):=by
 have f64:=fok.1;obtain ⟨c',g1,g2,g3,g4,g5,g6,g7⟩:=aFT ok eok c.certs.list.length 0 c (by omega) (by omega) ok (fun x hx=>by rwa [List.drop_zero] at hx) (fun x hx=> .inl (by rwa [List.drop_zero]))
 have bd:=g3.bd;have e1:decide ((c.certs.list.length:Int)<(c.certs.list.length:Int))=false:=dec_f (by omega)
 have start1:vS c ⟨f⟩ es=aH eN (kP c f es 0 c):=rfl;have start2:nD c ⟨f⟩ es=aH dR (kR c f es 0 c):=by
  unfold nD;simp only [kV ok,aD];rfl
 rw [start1,start2,g1,g2];have eq1:=VC c'.field.points f (by omega)
 have eq2:=MB c'.field.points f (by omega)
 have ceta:(aQ.mk (c'.now.1,c'.now.2) (Field.mk c'.field.points) (bI.mk c'.certs.next_ c'.certs.list) (aO.mk (aV.mk c'.agenda.slots.uses c'.agenda.slots.used c'.agenda.slots.free) c'.agenda.heap c'.agenda.where_) c'.due)=c':=rfl
 by_cases hf:c'.field.points=f
 · obtain ⟨r,i1,i2,i3,_⟩:=Y1 fok eok es.length 0 c' (by omega) (by omega) g3 hf g4 (fun j hj=>absurd hj (Nat.not_lt_zero j))
   refine ⟨r,aL ?_,aL ?_,i3.imp (fun ⟨q4,q5⟩=>⟨q4,q5.has,q5.sub,q5.ok,q5.fld,q5.now.trans g6,Int.le_trans g7 q5.room⟩) id⟩
   · unfold eN kP
     simp only [e1,cond_false,eq1,aK hf,aD,Bool.not_true];exact i1
   · unfold dR kR
     simp only [aF,e1,cond_false,eq2,aK hf,aD,Bool.not_true];exact i2
 · have kn: ∀i,i<c'.certs.list.length->kU f (c'.certs.list[i]!).2:=fun i hi=>eok.kn _ (g4 _ (bJ hi))
   rcases aWD g3 fok kn with ⟨a1,a2⟩|⟨c2,a1,a2,a3,a4,a5,a6⟩
   · refine ⟨(eE,18),aL ?_,aL ?_,.inr rfl⟩
     · unfold eN kP
       simp only [e1,cond_false,eq1,dec_f hf,aD,Bool.not_false,cond_true,ceta,a1,show ((18:Int) !=0)=true from rfl]
     · unfold dR kR
       simp only [aF,e1,cond_false,eq2,dec_f hf,aD,Bool.not_false,cond_true,ceta,a2,show ((18:Int) !=0)=true from rfl]
   · obtain ⟨r,i1,i2,i3,_⟩:=Y1 fok eok es.length 0 c2 (by omega) (by omega) a3 a4 (by rw [a6];exact g4) (fun j hj=>absurd hj (Nat.not_lt_zero j))
     refine ⟨r,aL ?_,aL ?_,i3.imp (fun ⟨q4,q5⟩=>⟨q4,q5.has,q5.sub,q5.ok,q5.fld,(q5.now.trans a5).trans g6,Int.le_trans (Int.le_trans g7 (by unfold JW;rw [a6];exact Int.le_refl _)) q5.room⟩) id⟩
     · unfold eN kP
       simp only [e1,cond_false,eq1,dec_f hf,aD,Bool.not_false,cond_true,ceta,a1,show ((0:Int) !=0)=false from rfl];exact i1
     · unfold dR kR
       simp only [aF,e1,cond_false,eq2,dec_f hf,aD,Bool.not_false,cond_true,ceta,a2,show ((0:Int) !=0)=false from rfl];exact i2
theorem P3 {α:Type} [Inhabited α] {l:List α}:l.Nodup↔ ∀k,k<l.length->l[k]!∉l.take k:=by
 rw [iS];constructor
 · intro h k hk hm
   obtain ⟨i,h1,h2,h3⟩:=cD.1 hm;exact h i k h1 hk h3
 · intro h i j hij hj he
   exact h j hj (cD.2 ⟨i,hij,by omega,he⟩)
theorem E9 {α:Type} [Inhabited α] {l:List α} {P:α->Prop}:(∀x∈l,P x)↔ ∀i,i<l.length->P l[i]!:=by
 constructor
 · intro h i hi;exact h _ (bJ hi)
 · intro h x hx
   obtain ⟨i,hi,rfl⟩:=aW.1 hx;exact h i hi
theorem qI {σ ρ:Type} {body:σ->Option (bO σ ρ)} (st:Nat->σ) (n:Nat) (P:Nat->Prop) {r e:ρ} (h: ∀i,i<n->(¬P i->body (st i)=some (.done r))/\(P i->body (st i)=some (.next (st (i+1)))))
 (hend:body (st n)=some (.done e)):aH body (st 0)=some (if∀i,i<n->P i then e else r):=by
 have key:=dK (body:=body) st n (fun i=> ¬P i) (r:=r) (e:=e) (fun i hi=>⟨(h i hi).1,fun hn=>(h i hi).2 (Classical.not_not.1 hn)⟩) hend
 by_cases hx: ∀i,i<n->P i
 · rw [if_pos hx];exact key.2 fun i hi=>Classical.not_not.2 (hx i hi)
 · rw [if_neg hx]
   obtain ⟨i,h⟩:=Classical.not_forall.1 hx;obtain ⟨hi,hx⟩:=Classical.not_imp.1 h;exact key.1 ⟨i,hi,hx⟩
theorem G0 {f:List Pt} (fok:cJ f) (id:Int): ∃p e,yB ⟨f⟩ id=some (p,e)/\(e=0↔oK f id):=by
 have h1:=fok.1;have hc:fX ⟨f⟩=some 0:=by rw [lU];exact congrArg some (kM.2 fok)
 have bs:=GA f id (by omega) (fun i j=>pB fok.2.2)
 unfold yB EU HO;rw [aNi];simp only [hc,aD,show ((0:Int) !=0)=false from rfl,cond_false]
 by_cases h:oK f id
 · obtain ⟨k,hk,he⟩:=h
   rw [bs.1 k hk he];refine ⟨f[k]!,0,?_,fun _=>⟨k,hk,he⟩,fun _=>rfl⟩
   simp only [aD,Bool.not_true,cond_false,show ((0:Int) !=0)=false from rfl,aE f k hk]
 · obtain ⟨m,_,_,_,e⟩:=bs.2 (fun k hk he=>h ⟨k,hk,he⟩)
   rw [e];exact ⟨(0,0,0),6,rfl,fun h=>(by cases h),fun k=>absurd k h⟩
structure SZ (c:aQ):Prop where
 f:c.field.points.length<=1000000
 l:c.certs.list.length<=1000000
 d:c.due.length<=1000000
 h:c.agenda.heap.length<=1000000
 w:c.agenda.where_.length<=1000000
 s1:c.agenda.slots.uses.length<=1000000
 s2:c.agenda.slots.used.length<=1000000
 s3:c.agenda.slots.free.length<=1000000
theorem bF.short {c:aQ} (ok:bF c):SZ c:=by
 have bd:=ok.bd;have ab:=ok.agd.bd;have sl:=ok.agd.so.fl;have sn:=ok.agd.so.n2;have su:=ok.agd.so.ul;exact ⟨by omega,by omega,by omega,by omega,by omega,by omega,by omega,by omega⟩
theorem Q5:SZ eE:=⟨by decide,by decide,by decide,by decide,by decide,by decide,by decide,by decide⟩
theorem LE (l:List Int) (hl:l.length<=1000000):lS l l=some true:=by
 unfold lS;rw [bS rfl];refine (bQ (body:=nJ) (fun i=>(l,l,(i:Int))) l.length fun i hi=>?_).trans (aL ?_)
 · have e1:decide ((i:Int)<(l.length:Int))=true:=aK (by omega)
   unfold nJ;simp only [aF,e1,cond_true,aE l i hi,aD,aT (show i<1000000000 by omega),bS rfl,cond_false]
 · unfold nJ
   have:decide ((l.length:Int)<(l.length:Int))=false:=dec_f (by omega)
   simp only [aF,this,cond_false]
theorem aAY (l:List Bool) (hl:l.length<=1000000):pY l l=some true:=by
 unfold pY;rw [bS rfl];refine (bQ (body:=mL) (fun i=>(l,l,(i:Int))) l.length fun i hi=>?_).trans (aL ?_)
 · have e1:decide ((i:Int)<(l.length:Int))=true:=aK (by omega)
   unfold mL;simp only [aF,e1,cond_true,aE l i hi,aD,aT (show i<1000000000 by omega),beq_self_eq_true,Bool.not_true,cond_false]
 · unfold mL
   have:decide ((l.length:Int)<(l.length:Int))=false:=dec_f (by omega)
   simp only [aF,this,cond_false]
theorem aAZ (c:bI) (hl:c.list.length<=1000000):CW c c=some true:=by
 unfold CW;rw [bS rfl,bS rfl];refine (bQ (body:=uX) (fun i=>((i:Int),c.next_,c.list,c.next_,c.list)) c.list.length fun i hi=>?_).trans (aL ?_)
 · have e1:decide ((i:Int)<(c.list.length:Int))=true:=aK (by omega)
   unfold uX;simp only [aF,e1,cond_true,aE c.list i hi,aD,aT (show i<1000000000 by omega),beq_self_eq_true,Bool.and_self,Bool.not_true,cond_false]
 · unfold uX
   have:decide ((c.list.length:Int)<(c.list.length:Int))=false:=dec_f (by omega)
   simp only [aF,this,cond_false]
theorem Y2 (a:aO) (h1:a.heap.length<=1000000) (h2:a.where_.length<=1000000) (h3:a.slots.uses.length<=1000000) (h4:a.slots.used.length<=1000000) (h5:a.slots.free.length<=1000000):CX a a=some true:=by
 unfold CX HS;simp only [LE _ h3,aAY _ h4,LE _ h5,LE _ h2,aD,cond_true,Bool.not_true,cond_false];rw [bS rfl];refine (bQ (body:=uY) (fun i=>((i:Int),a.slots.uses,a.slots.used,a.slots.free,a.heap,a.where_,a.slots.uses,a.slots.used,a.slots.free,a.heap,a.where_)) a.heap.length fun i hi=>?_).trans (aL ?_)
 · have e1:decide ((i:Int)<(a.heap.length:Int))=true:=aK (by omega)
   unfold uY;simp only [aF,e1,cond_true,aE a.heap i hi,aD,aT (show i<1000000000 by omega),beq_self_eq_true,Bool.and_self,Bool.not_true,cond_false]
 · unfold uY
   have:decide ((a.heap.length:Int)<(a.heap.length:Int))=false:=dec_f (by omega)
   simp only [aF,this,cond_false]
theorem aA0 {c:aQ} (sh:SZ c):CY c c=some true:=by
 have hd:=sh.d;unfold CY;simp only [beq_self_eq_true,Bool.and_self,Bool.not_true,cond_false,MB c.field.points c.field.points sh.f,aAZ _ sh.l,Y2 _ sh.h sh.w sh.s1 sh.s2 sh.s3,aD,aK];rw [bS rfl]
 refine (bQ (body:=uZ) (fun i=>((i:Int),c.now.1,c.now.2,c.field.points,c.certs.next_,c.certs.list,c.agenda.slots.uses,c.agenda.slots.used,c.agenda.slots.free,c.agenda.heap,c.agenda.where_,c.due,c.now.1,c.now.2,c.field.points,c.certs.next_,c.certs.list,c.agenda.slots.uses,c.agenda.slots.used,c.agenda.slots.free,c.agenda.heap,c.agenda.where_,c.due)) c.due.length fun i hi=>?_).trans (aL ?_)
 · have e1:decide ((i:Int)<(c.due.length:Int))=true:=aK (by omega)
   unfold uZ;simp only [aF,e1,cond_true,aE c.due i hi,aD,aT (show i<1000000000 by omega),beq_self_eq_true,Bool.and_self,Bool.not_true,cond_false]
 · unfold uZ
   have:decide ((c.due.length:Int)<(c.due.length:Int))=false:=dec_f (by omega)
   simp only [aF,this,cond_false]
structure aFU (c:aQ):Prop where
 now:rE c.now
 at64: ∀w,w<c.agenda.heap.length->rE ((c.agenda.heap[w]!).1,(c.agenda.heap[w]!).2.1)
theorem MC (f:Field):qS f=some true\/(qS f=some false/\f.points.length<=70):=by
 unfold qS
 simp only [aF]
 by_cases h1:16<f.points.length
 · rw [aK (show (16:Int)<(f.points.length:Int) by omega)]
   by_cases h2:f.points.length<64
   · rw [aK (show (f.points.length:Int)<64 by omega)];exact .inl rfl
   · rw [dec_f (show¬(f.points.length:Int)<64 by omega)]
     by_cases h3:70<f.points.length
     · rw [aK (show (70:Int)<(f.points.length:Int) by omega)];exact .inl rfl
     · rw [dec_f (show¬(70:Int)<(f.points.length:Int) by omega)];exact .inr ⟨rfl,by omega⟩
 · rw [dec_f (show¬(16:Int)<(f.points.length:Int) by omega),dec_f (show¬(70:Int)<(f.points.length:Int) by omega)]
   exact .inr ⟨rfl,by omega⟩
theorem Y3 (c:aQ):vO c=some true\/(vO c=some false/\SZ c):=by
 unfold vO EO EN
 simp only [aF]
 by_cases h1:40<c.certs.list.length
 · rw [aK (show (40:Int)<(c.certs.list.length:Int) by omega)];exact .inl rfl
 rw [dec_f (show¬(40:Int)<(c.certs.list.length:Int) by omega)]
 by_cases h2:40<c.due.length
 · rw [aK (show (40:Int)<(c.due.length:Int) by omega)];exact .inl rfl
 rw [dec_f (show¬(40:Int)<(c.due.length:Int) by omega)]
 rcases MC c.field with e|⟨e,hf⟩
 · rw [e];exact .inl rfl
 rw [e];simp only [cond_false,aD]
 by_cases a1:210<c.agenda.slots.uses.length
 · rw [aK (show (210:Int)<(c.agenda.slots.uses.length:Int) by omega)];exact .inl rfl
 rw [dec_f (show¬(210:Int)<(c.agenda.slots.uses.length:Int) by omega)]
 by_cases a2:210<c.agenda.slots.used.length
 · rw [aK (show (210:Int)<(c.agenda.slots.used.length:Int) by omega)];exact .inl rfl
 rw [dec_f (show¬(210:Int)<(c.agenda.slots.used.length:Int) by omega)]
 by_cases a3:210<c.agenda.slots.free.length
 · rw [aK (show (210:Int)<(c.agenda.slots.free.length:Int) by omega)];exact .inl rfl
 rw [dec_f (show¬(210:Int)<(c.agenda.slots.free.length:Int) by omega)]
 by_cases a4:210<c.agenda.heap.length
 · rw [aK (show (210:Int)<(c.agenda.heap.length:Int) by omega)];exact .inl rfl
 rw [dec_f (show¬(210:Int)<(c.agenda.heap.length:Int) by omega)]
 by_cases a5:210<c.agenda.where_.length
 · rw [aK (show (210:Int)<(c.agenda.where_.length:Int) by omega)];exact .inl rfl
 rw [dec_f (show¬(210:Int)<(c.agenda.where_.length:Int) by omega)]
 exact .inr ⟨rfl,⟨by omega,by omega,by omega,by omega,by omega,by omega,by omega,by omega⟩⟩
theorem aNn (p q:Pt) (t:Int×Int):SJ p q t=(p.2.1-q.2.1)*t.2+(p.2.2-q.2.2)*t.1:=rfl
theorem MO {p q:Pt} {t:Int×Int} (hp:iG p) (hq:iG q) (ht:rE t) (hr:cH t):rY p q t=some (decide (fT p q t),if p.1=q.1 then 2 else 0)\/(p.1=q.1/\rY p q t=some (false,2)):=by
 unfold rY;rw [AT ht,if_pos ⟨hp,hq,hr⟩]
 by_cases h:p.1=q.1
 · right;simp [h]
 · left
   simp only [h,if_false,aD,AC hp hq ht]
   have:decide (0<aAJ p q t)=decide (fT p q t):=by simp only [O9]
   simp [this]
end Go.Proofs.YtlnclppkepgdmaaGreat
namespace Go.Proofs.YtlnclppkepgdmaaGreat
theorem yP {α:Type} [BEq α] [LawfulBEq α]: ∀{a b:List α},a.Nodup->(∀x∈a,x∈b)->b.length<=a.length->a.Perm b
 | [],b,_,_,hl=>by
  rw [List.eq_nil_of_length_eq_zero (show b.length=0 by simpa using hl)]
 |x::a,b,hd,h,hl=>by
  rw [List.nodup_cons] at hd;have hx:=h x List.mem_cons_self;have ih:=yP (a:=a) (b:=b.erase x) hd.2 (fun y hy=>by
   rw [List.mem_erase_of_ne (fun e=>hd.1 (by rw [<- e];exact hy))]
   exact h y (List.mem_cons_of_mem _ hy)) (by
   rw [List.length_erase_of_mem hx];rw [List.length_cons] at hl
   omega)
  exact (List.Perm.cons x ih).trans (List.perm_cons_erase hx).symm
theorem yQ {α β:Type} {f:α->β}: ∀{l:List α},l.Nodup->(∀x∈l,∀y∈l,f x=f y->x=y)->(l.map f).Nodup
 | [],_,_=>List.nodup_nil
 |x::l,h,hi=>by
  rw [List.nodup_cons] at h;rw [List.map_cons,List.nodup_cons];refine ⟨fun hm=>?_,yQ h.2 fun y hy z hz=>hi y (List.mem_cons_of_mem _ hy) z (List.mem_cons_of_mem _ hz)⟩
  obtain ⟨y,hy,e⟩:=List.mem_map.1 hm
  have:=hi y (List.mem_cons_of_mem _ hy) x List.mem_cons_self e
  rw [this] at hy;exact h.1 hy
end Go.Proofs.YtlnclppkepgdmaaGreat
namespace Go.Proofs.YtlnclppkepgdmaaGreat
open Go.Vm Classical
def LF (l:List Int) (k:Nat):List (Int×Int):=(List.range k).map fun i=>(l[i+1]!,l[i / 2]!)
abbrev HY (l:List Int):List (Int×Int):=LF l (l.length-1)
theorem HZ (l:List Int) (k:Nat):(LF l k).length=k:=by unfold LF;rw [List.length_map,List.length_range]
theorem MD (l:List Int) {k i:Nat} (h:i<k):(LF l k)[i]! =(l[i+1]!,l[i / 2]!):=by
 rw [getElem!_pos _ i (by rw [HZ];exact h)]
 unfold LF;rw [List.getElem_map,List.getElem_range]
theorem Y4 {l:List Int} (hd:l.Nodup):(HY l).Nodup:=by
 unfold HY LF;refine yQ List.nodup_range fun i hi j hj h=>?_
 rw [List.mem_range] at hi hj;have h1:l[i+1]! =l[j+1]!:=congrArg Prod.fst h;have h2:=iS.1 hd;rcases Nat.lt_trichotomy i j with k|k|k
 · exact absurd h1 (h2 (i+1) (j+1) (by omega) (by omega))
 · exact k
 · exact absurd h1.symm (h2 (j+1) (i+1) (by omega) (by omega))
theorem aNo {f:List Pt} (fok:cJ f) {t:Int×Int} (r64:rE t) {x:Int×Int} (hb:kU f x):CU x ⟨f⟩ t=some (decide (fT (gU f x.2) (gU f x.1) t)):=by
 obtain ⟨h1,h2⟩:=hb;obtain ⟨j,j1,j2,j3⟩:=C8 fok h1;obtain ⟨k,k1,k2,k3⟩:=C8 fok h2;unfold CU;simp only [j2,k2,aD,aE f j j1,aE f k k1,j3,k3,JM (eD fok h2).1 (eD fok h1).1 r64]
def pP (f:List Pt):List Int:=f.map fun p=>p.1
theorem S0 {f:List Pt} (h:gW f):(pP f).Nodup:=by
 refine yQ ?_ ?_
 · exact iS.2 fun i j hij hj e=>by have:=pB h hij hj;rw [e] at this;omega
 · intro x hx y hy e
   obtain ⟨i,hi,rfl⟩:=aW.1 hx;obtain ⟨j,hj,rfl⟩:=aW.1 hy;rw [tZ h hi hj e]
theorem DA {f:List Pt} {id:Int}:id∈pP f↔oK f id:=by
 unfold pP oK;rw [List.mem_map];constructor
 · rintro ⟨p,hp,rfl⟩
   obtain ⟨i,hi,rfl⟩:=aW.1 hp;exact ⟨i,hi,rfl⟩
 · rintro ⟨i,hi,rfl⟩
   exact ⟨f[i]!,bJ hi,rfl⟩
structure yR (k:GS):Prop where
 clk:bF k.clock
 perm:(pP k.clock.field.points).Perm k.heap
 cert:(k.clock.certs.list.map fun x=>x.2).Perm (HY k.heap)
 lead: ∀e∈HY k.heap,fT (gU k.clock.field.points e.2) (gU k.clock.field.points e.1) k.clock.now
theorem ME {c:bI} (ok:fC c):(c.list.map fun x=>x.2).Nodup:=by
 refine yQ ?_ ?_
 · exact iS.2 fun i j hij hj e=>ok.nd i j hij hj (by rw [e])
 · intro x hx y hy e
   obtain ⟨i,hi,rfl⟩:=aW.1 hx;obtain ⟨j,hj,rfl⟩:=aW.1 hy;rcases Nat.lt_trichotomy i j with k|k|k
   · exact absurd e (ok.nd i j k hj)
   · rw [k]
   · exact absurd e.symm (ok.nd j i k hi)
theorem FA {l:List wO} {x:Int×Int}:AZ l x↔x∈l.map fun y=>y.2:=by
 unfold AZ;rw [List.mem_map];constructor
 · rintro ⟨i,hi,rfl⟩;exact ⟨l[i]!,bJ hi,rfl⟩
 · rintro ⟨y,hy,rfl⟩
   obtain ⟨i,hi,rfl⟩:=aW.1 hy;exact ⟨i,hi,rfl⟩
theorem JY {α:Type} {p q:Prop} [Decidable p] [Decidable q] {a b:α} (h:p↔q):(if p then a else b)=if q then a else b:=by
 by_cases hp:p
 · rw [if_pos hp,if_pos (h.1 hp)]
 · rw [if_neg hp,if_neg (fun k=>hp (h.2 k))]
theorem aNp {c:aQ} (ok:bF c) (es:List (Int×Int)) (kn: ∀x∈es,kU c.field.points x):
 CV c es=some (decide (c.certs.list.length=es.length/\ ∀i,i<es.length->AZ c.certs.list es[i]!/\fT (gU c.field.points (es[i]!).2) (gU c.field.points (es[i]!).1) c.now)):=by
 have bd:=ok.bd;unfold CV;simp only [aF]
 by_cases h0:c.certs.list.length=es.length
 case neg=>rw [cQ (by omega),cond_true,dec_f (fun h=>h0 h.1)]
 rw [bS (by omega),cond_false]
 have key:=qI (body:=uW) (fun i=>(es,(i:Int),c.now.1,c.now.2,c.field.points,c.certs.next_,c.certs.list,c.agenda.slots.uses,c.agenda.slots.used,c.agenda.slots.free,c.agenda.heap,c.agenda.where_,c.due)) es.length
  (fun i=>AZ c.certs.list es[i]!/\fT (gU c.field.points (es[i]!).2) (gU c.field.points (es[i]!).1) c.now) (r:=false) (e:=true) (fun i hi=>by
  have ceta2:bI.mk c.certs.next_ c.certs.list=c.certs:=rfl;unfold uW;simp only [aF,aK (show (i:Int)<(es.length:Int) by omega),cond_true,aE es i hi,aD,ceta2,C6 c.certs es[i]! (by omega),aNo ok.fld (t:=(c.now.1,c.now.2)) ok.now64 (kn _ (bJ hi)),aT (show i<1000000000 by omega)]
  by_cases h1:AZ c.certs.list es[i]!
  · rw [aK h1]
    by_cases h2:fT (gU c.field.points (es[i]!).2) (gU c.field.points (es[i]!).1) c.now
    · rw [show decide (fT (gU c.field.points (es[i]!).2) (gU c.field.points (es[i]!).1) (c.now.1,c.now.2))=true from aK h2]
      exact ⟨fun h=>absurd ⟨h1,h2⟩ h,fun _=>rfl⟩
    · rw [show decide (fT (gU c.field.points (es[i]!).2) (gU c.field.points (es[i]!).1) (c.now.1,c.now.2))=false from dec_f h2]
      exact ⟨fun _=>rfl,fun h=>absurd h.2 h2⟩
  · rw [dec_f h1]
    exact ⟨fun _=>rfl,fun h=>absurd h.1 h1⟩) (by
  unfold uW;simp only [aF,dec_f (show¬(es.length:Int)<(es.length:Int) by omega),cond_false])
 refine (show _=_ from key).trans ?_
 by_cases h2: ∀i,i<es.length->AZ c.certs.list es[i]!/\fT (gU c.field.points (es[i]!).2) (gU c.field.points (es[i]!).1) c.now
 · rw [if_pos h2,aK ⟨h0,h2⟩]
 · rw [if_neg h2,dec_f (fun h=>h2 h.2)]
def bE (p w:List Int) (i:Nat):Int:=if i<w.length then w[i]! else p[i-w.length]!
def jB (i j:Nat):Prop:= ∃d,(j+1) / 2^d=i+1
theorem jB.refl (i:Nat):jB i i:=⟨0,by simp⟩
theorem rH {i k j:Nat} (hk:k=2*i+1\/k=2*i+2) (h:jB k j):jB i j:=by
 obtain ⟨d,hd⟩:=h;refine ⟨d+1,?_⟩;rw [Nat.pow_succ,<- Nat.div_div_eq_div_mul,hd];omega
theorem M7 {a b c d:Nat} (h:a<=b) (hc:(c+1) / 2^a=d):(c+1) / 2^b=d / 2^(b-a):=by
 have:2^b=2^a*2^(b-a):=by rw [<- Nat.pow_add];congr 1;omega
 rw [this,<- Nat.div_div_eq_div_mul,hc]
theorem Y5 {x e:Nat} (he:0<e):x / 2^e<=x / 2:=by
 obtain ⟨k,rfl⟩: ∃k,e=k+1:=⟨e-1,by omega⟩
 rw [show 2^(k+1)=2*2^k by rw [Nat.pow_succ];omega,<- Nat.div_div_eq_div_mul]
 exact Nat.div_le_self _ _
theorem wE {i j:Nat} (h1:jB (2*i+1) j) (h2:jB (2*i+2) j):False:=by
 obtain ⟨a,ha⟩:=h1;obtain ⟨b,hb⟩:=h2;rcases Nat.lt_trichotomy a b with h|h|h
 · have:=M7 (Nat.le_of_lt h) ha
   have:=Y5 (x:=2*i+1+1) (e:=b-a) (by omega)
   omega
 · subst h;omega
 · have:=M7 (Nat.le_of_lt h) hb
   have:=Y5 (x:=2*i+2+1) (e:=a-b) (by omega)
   omega
theorem aFV {i k j1 j2:Nat} (h1:jB (2*i+1) j1) (h2:jB (2*i+2) j2) (g:(jB (2*k+1) j1/\jB (2*k+2) j2)\/(jB (2*k+1) j2/\jB (2*k+2) j1)):i=k:=by
 have main: ∀{i k j1 j2:Nat},jB (2*i+1) j1\/jB (2*i+2) j1->jB i j2->(jB (2*k+1) j1/\jB (2*k+2) j2)\/(jB (2*k+1) j2/\jB (2*k+2) j1)-> ∀a a':Nat,(j1+1) / 2^a=i+1->(j1+1) / 2^a'=k+1->a<a'->False:=by
  intro i k j1 j2 _ u2 g a a' ha ha' hlt;have e:=M7 (Nat.le_of_lt hlt) ha;rw [ha'] at e;obtain ⟨c,hc⟩: ∃c,a'-a=c+1:=⟨a'-a-1,by omega⟩
  rw [hc,Nat.pow_succ,<- Nat.div_div_eq_div_mul] at e;have q: ∃m,(i+1) / 2^c=m+1/\(m=2*k+1\/m=2*k+2):=⟨(i+1) / 2^c-1,by omega,by omega⟩
  obtain ⟨m,hm,hmk⟩:=q;have um: ∀j,jB i j->jB m j:=fun j ⟨d,hd⟩=>⟨d+c,by
   rw [M7 (Nat.le_add_right d c) hd,show d+c-d=c by omega,hm]⟩
  have u1:jB i j1:=⟨a,ha⟩;have v1:=um _ u1;have v2:=um _ u2;rcases hmk with rfl|rfl
  · rcases g with g|g
    · exact wE v2 g.2
    · exact wE v1 g.2
  · rcases g with g|g
    · exact wE g.1 v1
    · exact wE g.1 v2
 have i1:jB i j1:=rH (.inl rfl) h1;have i2:jB i j2:=rH (.inr rfl) h2;have k1:jB k j1:=by rcases g with g|g;exact rH (.inl rfl) g.1;exact rH (.inr rfl) g.2
 have k2:jB k j2:=by rcases g with g|g;exact rH (.inr rfl) g.2;exact rH (.inl rfl) g.1
 obtain ⟨a,ha⟩:=i1;obtain ⟨a',ha'⟩:=k1;rcases Nat.lt_trichotomy a a' with h|h|h
 · exact (main (.inl h1) i2 g a a' ha ha' h).elim
 · subst h;omega
 · exact (main (i:=k) (k:=i) (j1:=j1) (j2:=j2) (by rcases g with g|g;exact .inl g.1;exact .inr g.2) k2 (.inl ⟨h1,h2⟩) a' a ha' ha h).elim
def DB (p w:List Int):Prop:= ∀i,i<w.length->w[i]! =bE p w (2*i+1)\/w[i]! =bE p w (2*i+2)
theorem DC {p w:List Int} (hl:w.length+1=p.length) (hc:DB p w): ∀(d i:Nat),w.length+p.length-i<=d->i<w.length+p.length-> ∃j,w.length<=j/\j<w.length+p.length/\jB i j/\p[j-w.length]! =bE p w i:=by
 intro d
 induction d with
 |zero=>intro i h1 h2;omega
 |succ d ih=>
  intro i h1 h2
  by_cases hi:i<w.length
  · rcases hc i hi with e|e
    · obtain ⟨j,j1,j2,j3,j4⟩:=ih (2*i+1) (by omega) (by omega)
      refine ⟨j,j1,j2,rH (.inl rfl) j3,?_⟩;rw [j4,<- e];unfold bE;rw [if_pos hi]
    · obtain ⟨j,j1,j2,j3,j4⟩:=ih (2*i+2) (by omega) (by omega)
      refine ⟨j,j1,j2,rH (.inr rfl) j3,?_⟩;rw [j4,<- e];unfold bE;rw [if_pos hi]
  · refine ⟨i,by omega,h2,.refl i,?_⟩
    unfold bE;rw [if_neg hi]
def IA (p:List Int):Prop:= ∀i j,i<j->j<p.length->p[i]! =p[j]!->p[i]!<0
theorem IA.inj {p:List Int} (h:IA p) {i j:Nat} (hi:i<p.length) (hj:j<p.length) (e:p[i]! =p[j]!) (h0:0<=p[i]!):i=j:=by
 rcases Nat.lt_trichotomy i j with k|k|k
 · have:=h i j k hj e;omega
 · exact k
 · have:=h j i k hi e.symm;rw [<- e] at this;omega
section
variable {p w : List Int} (hl : w.length + 1 = p.length) (hc : DB p w) (ho : IA p)
include hl hc
theorem jY {i:Nat} (hi:i<w.length+p.length):bE p w i∈p:=by
 obtain ⟨j,j1,j2,_,e⟩:=DC hl hc _ i (Nat.le_refl _) hi;rw [<- e];exact bJ (by omega)
include ho
theorem M8 {i:Nat} (hi:i<w.length) (h0:0<=bE p w (2*i+1)):bE p w (2*i+1)≠bE p w (2*i+2):=by
 intro e;obtain ⟨j,j1,j2,j3,j4⟩:=DC hl hc _ (2*i+1) (Nat.le_refl _) (by omega)
 obtain ⟨k,k1,k2,k3,k4⟩:=DC hl hc _ (2*i+2) (Nat.le_refl _) (by omega)
 have:=ho.inj (i:=j-w.length) (j:=k-w.length) (by omega) (by omega) (by rw [j4,k4,e]) (by rw [j4];exact h0)
 obtain rfl:j=k:=by omega
 exact wE j3 k3
theorem aFW {i k:Nat} (hi:i<w.length) (hk:k<w.length) (h1:0<=bE p w (2*i+1)) (h2:0<=bE p w (2*i+2))
 (g:(bE p w (2*k+1)=bE p w (2*i+1)/\bE p w (2*k+2)=bE p w (2*i+2))\/(bE p w (2*k+1)=bE p w (2*i+2)/\bE p w (2*k+2)=bE p w (2*i+1))):i=k:=by
 obtain ⟨j1,a1,a2,a3,a4⟩:=DC hl hc _ (2*i+1) (Nat.le_refl _) (by omega)
 obtain ⟨j2,b1,b2,b3,b4⟩:=DC hl hc _ (2*i+2) (Nat.le_refl _) (by omega)
 obtain ⟨l1,c1,c2,c3,c4⟩:=DC hl hc _ (2*k+1) (Nat.le_refl _) (by omega)
 obtain ⟨l2,d1,d2,d3,d4⟩:=DC hl hc _ (2*k+2) (Nat.le_refl _) (by omega)
 have same: ∀{x y:Nat},w.length<=x->x<w.length+p.length->w.length<=y->y<w.length+p.length->p[x-w.length]! =p[y-w.length]!->0<=p[x-w.length]!->x=y:=fun {x y} hx hx' hy hy' e h0=>by
  have:=ho.inj (i:=x-w.length) (j:=y-w.length) (by omega) (by omega) e h0
  omega
 refine aFV a3 b3 ?_;rcases g with ⟨g1,g2⟩|⟨g1,g2⟩
 · have e1:j1=l1:=same a1 a2 c1 c2 (by rw [a4,c4,g1]) (by rw [a4];exact h1)
   have e2:j2=l2:=same b1 b2 d1 d2 (by rw [b4,d4,g2]) (by rw [b4];exact h2)
   subst e1 e2;exact .inl ⟨c3,d3⟩
 · have e1:j2=l1:=same b1 b2 c1 c2 (by rw [b4,c4,g1]) (by rw [b4];exact h2)
   have e2:j1=l2:=same a1 a2 d1 d2 (by rw [a4,d4,g2]) (by rw [a4];exact h1)
   subst e1 e2;exact .inr ⟨c3,d3⟩
end
noncomputable def FB (f:List Pt) (t:Int×Int) (x y:Int):Int:=if x<0 then y else if y<0 then x else if fT (gU f x) (gU f y) t then x else y
theorem aNq (f:List Pt) (t:Int×Int) (x y:Int):FB f t x y=x\/FB f t x y=y:=by
 unfold FB;split
 · exact .inr rfl
 · split
   · exact .inl rfl
   · split
     · exact .inl rfl
     · exact .inr rfl
def P4 (f:List Pt) (t:Int×Int) (p w:List Int):Prop:=w.length+1=p.length/\ ∀i,i<w.length->w[i]! =FB f t (bE p w (2*i+1)) (bE p w (2*i+2))
theorem P4.chosen {f:List Pt} {t:Int×Int} {p w:List Int} (h:P4 f t p w):DB p w:=fun i hi=>by
 rw [h.2 i hi];exact aNq ..
noncomputable def S1 (f:List Pt) (t:Int×Int) (p:List Int):Nat->List Int->List Int
 |0,w=>w
 |i+1,w=>S1 f t p i (w.set i (FB f t (bE p w (2*i+1)) (bE p w (2*i+2))))
noncomputable def cI (f:List Pt) (t:Int×Int) (p:List Int):List Int:=S1 f t p (p.length-1) (List.replicate (p.length-1) 0)
theorem S2 {p w:List Int} {i k:Nat} {v:Int} (h:i≠k):bE p (w.set i v) k=bE p w k:=by
 unfold bE;rw [List.length_set];split
 · rw [bB,if_neg (fun x=>h x.1.symm)]
 · rfl
theorem S3 {f:List Pt} {t:Int×Int} {p:List Int}: ∀(n:Nat) (w:List Int),n<=w.length->(∀i,n<=i->i<w.length->w[i]! =FB f t (bE p w (2*i+1)) (bE p w (2*i+2)))->
 (S1 f t p n w).length=w.length/\ ∀i,i<w.length->(S1 f t p n w)[i]! =FB f t (bE p (S1 f t p n w) (2*i+1)) (bE p (S1 f t p n w) (2*i+2))
 |0,w,_,h=>⟨rfl,fun i hi=>h i (Nat.zero_le _) hi⟩
 |n+1,w,hn,h=>by
  have ih:=S3 n (w.set n (FB f t (bE p w (2*n+1)) (bE p w (2*n+2)))) (by rw [List.length_set];omega) (fun i h1 h2=>by
   rw [List.length_set] at h2;rw [S2 (by omega),S2 (by omega),bB]
   split
   · rename_i e;rw [e.1]
   · exact h i (by omega) h2)
  rw [List.length_set] at ih;exact ih
theorem fJ {f:List Pt} {t:Int×Int} {p:List Int} (hp:1<=p.length):P4 f t p (cI f t p):=by
 have:=S3 (f:=f) (t:=t) (p:=p) (p.length-1) (List.replicate (p.length-1) 0) (by rw [List.length_replicate];omega) (fun i h1 h2=>by rw [List.length_replicate] at h2;omega)
 rw [List.length_replicate] at this;have hl:(cI f t p).length=p.length-1:=this.1;exact ⟨by omega,fun i hi=>this.2 i (by omega)⟩
theorem aDD {f:List Pt} {t:Int×Int} {p w v:List Int} (h:P4 f t p w) (g:P4 f t p v):w=v:=by
 have hl:w.length=v.length:=by have:=h.1;have:=g.1;omega
 have key: ∀(d i:Nat),w.length-i<=d->i<w.length->w[i]! =v[i]!:=by
  intro d
  induction d with
  |zero=>intro i h1 h2;omega
  |succ d ih=>
   intro i _ hi;have nd: ∀k,i<k->bE p w k=bE p v k:=fun k hk=>by
    unfold bE;rw [hl];split
    · rename_i h';exact ih k (by omega) (by omega)
    · rfl
   rw [h.2 i hi,g.2 i (by omega),nd _ (by omega),nd _ (by omega)]
 exact wC hl fun i hi=>key _ i (Nat.le_refl _) hi
noncomputable def G1 (p w:List Int) (i:Nat):Option (Int×Int):=
 if bE p w (2*i+1)<0\/bE p w (2*i+2)<0 then none
 else if w[i]! =bE p w (2*i+1) then some (bE p w (2*i+2),bE p w (2*i+1)) else some (bE p w (2*i+1),bE p w (2*i+2))
noncomputable def iU (p w:List Int):List (Int×Int):=(List.range w.length).filterMap (G1 p w)
theorem IB (p w:List Int):(iU p w).length<=w.length:=by
 have:=List.length_filterMap_le (G1 p w) (List.range w.length)
 rwa [List.length_range] at this
theorem P5 {p w:List Int} {e:Int×Int}:e∈iU p w↔ ∃i,i<w.length/\G1 p w i=some e:=by
 unfold iU;rw [List.mem_filterMap];constructor
 · rintro ⟨i,hi,h⟩;exact ⟨i,List.mem_range.1 hi,h⟩
 · rintro ⟨i,hi,h⟩;exact ⟨i,List.mem_range.2 hi,h⟩
theorem DD {p w:List Int} {i:Nat} {e:Int×Int} (h:G1 p w i=some e):0<=bE p w (2*i+1)/\0<=bE p w (2*i+2)/\
 ((e=(bE p w (2*i+2),bE p w (2*i+1))/\w[i]! =bE p w (2*i+1))\/(e=(bE p w (2*i+1),bE p w (2*i+2))/\w[i]!≠bE p w (2*i+1))):=by
 unfold G1 at h;split at h
 · cases h
 · rename_i hn
   refine ⟨by omega,by omega,?_⟩
   split at h
   · rename_i h1;injection h with h;exact .inl ⟨h.symm,h1⟩
   · rename_i h1;injection h with h;exact .inr ⟨h.symm,h1⟩
theorem DW {α β:Type} {g:α->Option β}: ∀{l:List α},l.Nodup->(∀x∈l,∀y∈l,∀b,g x=some b->g y=some b->x=y)->(l.filterMap g).Nodup
 | [],_,_=> .nil
 |a::r,h,hi=>by
  obtain ⟨h1,h2⟩:=List.nodup_cons.1 h;have ih:=DW (g:=g) h2 (fun x hx y hy b e1 e2=>hi x (List.mem_cons_of_mem _ hx) y (List.mem_cons_of_mem _ hy) b e1 e2)
  cases hg:g a with
  |none=>rw [List.filterMap_cons_none hg];exact ih
  |some b=>
   rw [List.filterMap_cons_some hg];refine List.nodup_cons.2 ⟨fun hb=>?_,ih⟩
   obtain ⟨y,hy,e⟩:=List.mem_filterMap.1 hb
   have:=hi a (List.mem_cons_self ..) y (List.mem_cons_of_mem _ hy) b hg e
   subst this;exact h1 hy
theorem VD {p w:List Int} (hl:w.length+1=p.length) (hc:DB p w) (ho:IA p):(iU p w).Nodup:=by
 refine DW List.nodup_range fun i hi k hk b e1 e2=>?_
 have hi:=List.mem_range.1 hi;have hk:=List.mem_range.1 hk;obtain ⟨a1,a2,a3⟩:=DD e1;obtain ⟨b1,b2,b3⟩:=DD e2;refine aFW hl hc ho hi hk a1 a2 ?_;rcases a3 with ⟨rfl,_⟩|⟨rfl,_⟩<;>rcases b3 with ⟨h,_⟩|⟨h,_⟩<;>(injection h with h1 h2)
 · exact .inl ⟨h2.symm,h1.symm⟩
 · exact .inr ⟨h1.symm,h2.symm⟩
 · exact .inr ⟨h2.symm,h1.symm⟩
 · exact .inl ⟨h1.symm,h2.symm⟩
theorem aDE {f:List Pt} (fok:cJ f) {p w:List Int} (hl:w.length+1=p.length) (hn:p.length<=64) (hc:DB p w) (ho:IA p) (hk: ∀x∈p,0<=x->oK f x):JX f (iU p w):=by
 have hp: ∀e∈iU p w,kU f e/\e.1≠e.2:=fun e he=>by
  obtain ⟨i,hi,h⟩:=P5.1 he;obtain ⟨a1,a2,a3⟩:=DD h;have m1:=jY hl hc (i:=2*i+1) (by omega)
  have m2:=jY hl hc (i:=2*i+2) (by omega)
  have ne:=M8 hl hc ho hi a1;rcases a3 with ⟨rfl,_⟩|⟨rfl,_⟩
  · exact ⟨⟨hk _ m2 a2,hk _ m1 a1⟩,fun h=>ne h.symm⟩
  · exact ⟨⟨hk _ m1 a1,hk _ m2 a2⟩,ne⟩
 refine ⟨by have:=IB p w;omega,fun e he=>?_,fun e he=>(hp e he).1⟩
 obtain ⟨⟨h1,h2⟩,ne⟩:=hp e he;obtain ⟨⟨p1,p2⟩,q1,q2⟩:=And.intro (eD fok h1) (eD fok h2);unfold iG at p1 q1;unfold gA;omega
end Go.Proofs.YtlnclppkepgdmaaGreat
