/- Plain laws (3). -/
import Derived.Test.YtlnclppkepgdmaaGreatBQM2
import Derived.Test.YtlnclppkepgdmaaGreatBQS2
namespace Go.Proofs.YtlnclppkepgdmaaGreat
open Go.Vm Classical
theorem YE (c:aO) (n:Int) (hl:c.due.length<=1000000):(∀k,k<c.due.length->(c.due[k]!).1=n->(∀j,j<k->(c.due[j]!).1≠n)->qQ c n=some (k:Int))/\((∀k,k<c.due.length->(c.due[k]!).1≠n)->qQ c n=some (-1)):=by
 unfold qQ;refine mE (body:=sA) (fun i=>(n,(i:Int),c.now.1,c.now.2,c.field.points,c.certs.next_,c.certs.list,c.agenda.slots.uses,c.agenda.slots.used,c.agenda.slots.free,c.agenda.heap,c.agenda.where_,c.due)) c.due.length (fun i=>(c.due[i]!).1=n) (fun i=>(i:Int)) (fun i hi=>?_) ?_
 · have e1:decide ((i:Int)<(c.due.length:Int))=true:=aJ (by omega)
   unfold sA;simp only [aF,e1,cond_true,aE c.due i hi,aB,aU (show i<1000000000 by omega)]
   constructor
   · intro h;rw [dY h];rfl
   · intro h;rw [eD h];rfl
 · unfold sA
   have:decide ((c.due.length:Int)<(c.due.length:Int))=false:=dec_f (by omega)
   simp only [aF,this,cond_false]
theorem SH {ds:List vO} (hu:Up ds) (hl:ds.length<=1000000) (n:Int):(∀k,k<ds.length->(ds[k]!).1=n->qL ds n=some ((k:Int),true))/\((∀k,k<ds.length->(ds[k]!).1≠n)-> ∃m:Nat,qL ds n=some ((m:Int),false)):=by
 have bs:=FW ds n hl (wU.1 hu);unfold qL;rw [aTi];constructor
 · intro k hk he;rw [bs.1 k hk he];rfl
 · intro h
   obtain ⟨m,_,_,_,e⟩:=bs.2 h;exact ⟨m,by rw [e];rfl⟩
theorem aV.bd {c:aO} (ok:aV c):c.due.length<=200/\c.field.points.length<=64/\c.certs.list.length<=200:=by
 have:=ok.hd;have:=ok.agd.bd;have:=ok.fld.1;have:=ok.crt.len
 omega
theorem jB {c:aO} (ok:aV c):iL c=some c:=by
 have bd:=ok.bd;unfold iL pW pX;simp only [aX (show c.field.points.length<=1048576 by omega),aX (show c.certs.list.length<=1048576 by omega),aX (show c.due.length<=1048576 by omega),aB,uN ok.agd]
theorem kV {c:aO} (ok:aV c):kO c=some c:=by
 have bd:=ok.bd;have ab:=ok.agd.bd;have hl:=ok.agd.so.fl;have hn:=ok.agd.so.n2;have hu:=ok.agd.so.ul;unfold kO;simp only [aX (show c.field.points.length<=1048576 by omega),aX (show c.certs.list.length<=1048576 by omega),aX (show c.due.length<=1048576 by omega),aX (show c.agenda.heap.length<=1048576 by omega),aX (show c.agenda.where_.length<=1048576 by omega),
  aX (show c.agenda.slots.uses.length<=1048576 by omega),aX (show c.agenda.slots.used.length<=1048576 by omega),aX (show c.agenda.slots.free.length<=1048576 by omega),aB]
theorem wV {cs:List vO} {i:Nat} (hu:Up cs) (hi:i<cs.length) {x:vO} (hx:x∈cs.eraseIdx i):x∈cs/\x.1≠(cs[i]!).1:=by
 rw [yD,List.mem_append] at hx;have ub:=wU.1 hu;rcases hx with hx|hx
 · obtain ⟨j,h1,h2,rfl⟩:=cD.1 hx
   have:=ub j i h1 hi
   exact ⟨bL h2,by omega⟩
 · obtain ⟨j,hj,rfl⟩:=aW.1 hx
   rw [List.length_drop] at hj;rw [tH]
   have:=ub i (i+1+j) (by omega) (by omega)
   exact ⟨bL (by omega),by omega⟩
theorem E0 {c:aO} (ok:aV c) (i:Nat) (hi:i<c.certs.list.length): ∀j,j<(oT c.certs i).list.length->jS c.field.points ((oT c.certs i).list[j]!).2:=by
 intro j hj;have hm:(oT c.certs i).list[j]!∈c.certs.list:=(wV ok.crt_up hi (bL hj)).1;obtain ⟨m,hm1,hm2⟩:=aW.1 hm;rw [<- hm2];exact ok.known m hm1
theorem aFq {c:aO} (ok:aV c) {i:Nat} (hi:i<c.certs.list.length):
 ∃c':aO,mJ c (c.certs.list[i]!).1=some (c',(c.certs.list[i]!).2,0)/\pY c (c.certs.list[i]!).1=some c'/\aV c'/\c'.field=c.field/\c'.now=c.now/\c'.certs=oT c.certs i:=by
 have bd:=ok.bd;have rm:=PL ok.crt hi (n:=(c.certs.list[i]!).1) rfl;have wo:=K4 ok.crt hi (n:=(c.certs.list[i]!).1) rfl;have fe:=ok.fol.erase (i:=i) hi;have pd:=SH ok.due_up (by omega) (c.certs.list[i]!).1
 have da:=YE c (c.certs.list[i]!).1 (by omega)
 cases hf:(bH c.field.points (c.certs.list[i]!).2 c.now).2 with
 |false=>
  have no: ∀k,k<c.due.length->(c.due[k]!).1≠(c.certs.list[i]!).1:=by
   intro k hk he;obtain ⟨x,hx,h1,h2,_⟩:=ok.fol.due _ (bL hk);obtain ⟨j,hj,rfl⟩:=aW.1 hx;have ub:=wU.1 ok.crt_up
   have:j=i:=by
    rcases Nat.lt_trichotomy j i with h|h|h
    · have:=ub j i h hi;omega
    · exact h
    · have:=ub i j h hj;omega
   rw [this,hf] at h2;cases h2
  refine ⟨⟨c.now,c.field,oT c.certs i,c.agenda,c.due⟩,?_,?_,?_,rfl,rfl,rfl⟩
  · unfold mJ
    obtain ⟨m,e⟩:=pd.2 no;simp only [rm,aB,show ((0:Int) !=0)=false from rfl,cond_false,kV ok,e]
  · unfold pY
    simp only [jB ok,aB,wo,da.2 no,dec_f (show¬(0:Int)<= -1 by omega),cond_false]
  · exact ⟨ok.nowv,ok.now64,ok.fld,PK ok.crt hi,ok.agd,ok.w200,ok.hd,E0 ok i hi,fe.1 hf⟩
 |true=>
  obtain ⟨k,hk,k1,k2,k3⟩:=fe.2 hf;obtain ⟨w,hw,hev⟩:=aW.1 k2;have hh:(c.agenda.heap[w]!).2.2.2=(c.due[k]!).2:=by rw [hev]
  have ub:=wU.1 ok.due_up;have before: ∀j,j<k->(c.due[j]!).1≠(c.certs.list[i]!).1:=fun j hj he=>by have:=ub j k hj hk;omega
  have dl:(c.due.eraseIdx k).length=c.due.length-1:=aB6 hk;obtain ⟨L,d1,d2⟩:=L0 c.due k hk;refine ⟨⟨c.now,c.field,oT c.certs i,eV c.agenda w,c.due.eraseIdx k⟩,?_,?_,?_,rfl,rfl,rfl⟩
  · unfold mJ
    simp only [rm,aB,show ((0:Int) !=0)=false from rfl,cond_false,kV ok,pd.1 k hk k1,cond_true,aE c.due k hk,BJ ok.agd hw ok.agd.fit hh,aU (show k<1000000000 by omega),aAA,d1,d2]
  · unfold pY
    have s1:jI c.due 0 (k:Int)=some (c.due.take k):=lS c.due k (by omega)
    have s2:jI c.due ((k+1:Nat):Int) (c.due.length:Int)=some (c.due.drop (k+1)):=by
     unfold jI;rw [if_pos ⟨by omega,by omega,by omega⟩]
     simp only [Int.toNat_natCast];rw [List.take_of_length_le (by rw [List.length_drop];exact Nat.le_refl _)]
    have tl:(c.due.take k).length=k:=by rw [List.length_take];omega
    have dl2:(c.due.drop (k+1)).length=c.due.length- (k+1):=List.length_drop;simp only [jB ok,aB,wo,da.1 k hk k1 before,aJ (show (0:Int)<=(k:Int) by omega),cond_true,aE c.due k hk,BK ok.agd hw hh,s1,aX (show (c.due.take k).length<=1048576 by omega),aU (show k<1000000000 by omega),aF,s2,
     eT (show (c.due.take k).length+(c.due.drop (k+1)).length<=1048576 by omega),yD]
    cases hem:(c.due.drop (k+1)).isEmpty with
    |true=>
     rw [List.isEmpty_iff] at hem;rw [hem,List.append_nil];rfl
    |false=>rfl
  · have rem:=K1 ok.agd hw
    have rmem:=PG ok.agd hw;have hlen:(eV c.agenda w).heap.length=c.agenda.heap.length-1:=by
     have h1:=rem.hl;have h2:=ok.agd.hl;have h3:(eV c.agenda w).slots=fZ c.agenda.slots (c.agenda.heap[w]!).2.2.2:=by unfold eV;split<;>rfl
     rw [h3] at h1;change _+(c.agenda.slots.free++[_]).length=c.agenda.slots.uses.length at h1;rw [List.length_append] at h1;simp only [List.length_cons,List.length_nil] at h1;omega
    have wlen:(eV c.agenda w).where_.length=200:=by
     have h1:=rem.wl;have h3:(eV c.agenda w).slots=fZ c.agenda.slots (c.agenda.heap[w]!).2.2.2:=by unfold eV;split<;>rfl
     rw [h3] at h1;change _=c.agenda.slots.uses.length at h1;rw [h1,<- ok.agd.wl,ok.w200]
    refine ⟨ok.nowv,ok.now64,ok.fld,PK ok.crt hi,rem,wlen,?_,E0 ok i hi,?_⟩
    · show (eV c.agenda w).heap.length=(c.due.eraseIdx k).length
      rw [hlen,dl,ok.hd]
    · refine k3.mono fun x hx e he hm=>(rmem e).2 ⟨hm,fun h=>?_⟩
      have:=(wV ok.crt_up hi hx).2
      rw [h,hev] at he;exact this he.symm
theorem ME {c:aO} (ok:aV c) {i:Nat} (_hi:i<c.certs.list.length) {c':aO} (h:mJ c (c.certs.list[i]!).1=some (c',(c.certs.list[i]!).2,0)):wO c (c.certs.list[i]!).1=some (c',0):=by
 unfold wO;rw [lT ok.fit,if_pos ok];simp only [aB,show ((0:Int) !=0)=false from rfl,cond_false,h]
abbrev eK:aO:=⟨(0,0),⟨[]⟩,⟨0,[]⟩,⟨⟨[],[],[]⟩,[],[]⟩,[]⟩
theorem US {l:List Pt} (ok:cZ l) {id:Int} (h:oF l id): ¬(gN l id).1<0:=by
 obtain ⟨h1,_⟩:=dN ok h
 have:=h1.1
 omega
theorem aMK {c:aO} (ok:aV c) {x:Int×Int} (hx:fV x) (hb:jS c.field.points x) (hn: ¬wB c.certs.list x):
 (jA c x=some (eK,0,18)/\mD c x=some (eK,0,18)/\(JK c.certs\/ ¬DL c.agenda.slots))\/
 ∃c':aO,jA c x=some (c',c.certs.next_,0)/\mD c x=some (c',c.certs.next_,0)/\aV c'/\c'.field=c.field/\c'.now=c.now/\c'.certs=sF c.certs x/\(c'.agenda.slots=c.agenda.slots\/c'.agenda.slots=hZ c.agenda.slots):=by
 have bd:=ok.bd;have n0:=ok.crt.n0;have n1:=ok.crt.n1;have fit:=ok.fit;have ad:=X9 ok.crt hx;have rd:=UQ ok.crt hx;rw [if_neg hn] at ad rd;have hc:gM c=some 0:=by rw [lT fit,if_pos ok]
 have p1:=oG ok.fld x.1;have p2:=oG ok.fld x.2;have q1:=US ok.fld hb.1;have q2:=US ok.fld hb.2;have wh:=AQ ok.fld hx ok.nowv ok.now64;rw [if_pos hb] at wh;have rw':=AR ok.fld ok.now64 hb
 by_cases hf:JK c.certs
 · rw [if_pos hf] at ad rd
   left;refine ⟨?_,?_,.inl hf⟩
   · unfold jA dP
     simp only [hc,aB,show ((0:Int) !=0)=false from rfl,cond_false,ad,show ((18:Int)==8)=false from rfl,p1,p2,dec_f q1,dec_f q2,show ((18:Int) !=0)=true from rfl,cond_true]
   · unfold mD
     simp only [rd,aB,show ((18:Int) !=0)=true from rfl,cond_true]
 rw [if_neg hf] at ad rd;have cok:=aAC ok.crt hx hn hf;have known': ∀j,j<(sF c.certs x).list.length->jS c.field.points ((sF c.certs x).list[j]!).2:=by
  intro j hj;rw [FX] at hj;rw [yE]
  by_cases h:j<c.certs.list.length
  · rw [if_pos h];exact ok.known j h
  · rw [if_neg h,if_pos (by omega)];exact hb
 have fresh: ∀e∈c.agenda.heap,Ev.num e≠c.certs.next_:=by
  intro e he hne;obtain ⟨d,hd,h1⟩:=ok.nums e he;obtain ⟨y,hy,h2,_⟩:=ok.fol.due d hd;obtain ⟨j,hj,rfl⟩:=aW.1 hy
  have:=(ok.crt.nr j hj).2
  omega
 have sn:=ok.fol.snoc (x:=(c.certs.next_,x));cases hw:(bH c.field.points x c.now).2 with
 |false=>
  right;refine ⟨⟨c.now,c.field,sF c.certs x,c.agenda,c.due⟩,?_,?_,⟨ok.nowv,ok.now64,ok.fld,cok,ok.agd,ok.w200,ok.hd,known',sn.1 hw⟩,rfl,rfl,rfl,.inl rfl⟩
  · unfold jA dP
    simp only [hc,aB,show ((0:Int) !=0)=false from rfl,cond_false,ad,show ((0:Int)==8)=false from rfl,p1,p2,dec_f q1,dec_f q2,kV ok,wh,hw]
  · unfold mD
    simp only [rd,aB,show ((0:Int) !=0)=false from rfl,cond_false,jB ok,rw',hw,Bool.not_false,cond_true]
 |true=>
  obtain ⟨t1,t2⟩:=JD (dN ok.fld hb.2).1 (dN ok.fld hb.1).1 ok.now64 ok.nowv hw
  by_cases op:DL c.agenda.slots
  · right
    have pu:=BG ok.agd op ok.agd.fit (t:=(bH c.field.points x c.now).1) (n:=c.certs.next_) t1 t2 n0 n1 fresh;have rp:=DM ok.agd op (t:=(bH c.field.points x c.now).1) (n:=c.certs.next_) t1 t2 n0 n1;have pok:=aB4 ok.agd op (t:=(bH c.field.points x c.now).1) (n:=c.certs.next_) t1 t2 n0 n1 fresh
    have pmem:=X4 ok.agd op (t:=(bH c.field.points x c.now).1) (n:=c.certs.next_) t1;have plen:=JI ok.agd op (t:=(bH c.field.points x c.now).1) (n:=c.certs.next_) t1;have ap: ∀h:Int×Int,bV c.due [(c.certs.next_,h)]=some (c.due++[(c.certs.next_,h)]):=fun h=>eT (by simp;omega)
    have wlen:(mP c.agenda (bH c.field.points x c.now).1 c.certs.next_).where_.length=200:=by
     have:=pok.wl
     change _=(c.agenda.slots.uses.set _ _).length at this;rw [List.length_set] at this;rw [this,<- ok.agd.wl,ok.w200]
    refine ⟨⟨c.now,c.field,sF c.certs x,mP c.agenda (bH c.field.points x c.now).1 c.certs.next_,c.due++[(c.certs.next_,mO c.agenda.slots)]⟩,?_,?_,⟨ok.nowv,ok.now64,ok.fld,cok,pok,wlen,?_,known',?_⟩,rfl,rfl,rfl,.inr rfl⟩
    · unfold jA dP
      simp only [hc,aB,show ((0:Int) !=0)=false from rfl,cond_false,ad,show ((0:Int)==8)=false from rfl,p1,p2,dec_f q1,dec_f q2,kV ok,wh,hw,cond_true,pu,ap]
    · unfold mD
      simp only [rd,aB,show ((0:Int) !=0)=false from rfl,cond_false,jB ok,rw',hw,Bool.not_true,uM ok.agd.so,aJ op,rp,ap]
    · show (mP c.agenda (bH c.field.points x c.now).1 c.certs.next_).heap.length=(c.due++[_]).length
      rw [plen,List.length_append,ok.hd];rfl
    · have fm:aT c.field.points c.now (mP c.agenda (bH c.field.points x c.now).1 c.certs.next_).heap c.certs.list c.due:=ok.fol.mono fun y hy e he hm=>(pmem e).2 (.inr hm)
      exact (fm.snoc (x:=(c.certs.next_,x))).2 _ hw rfl ((pmem _).2 (.inl rfl))
  · left
    have pu:=BH ok.agd op ok.agd.fit (t:=(bH c.field.points x c.now).1) (n:=c.certs.next_) t1 t2 n0 n1 fresh;refine ⟨?_,?_,.inr op⟩
    · unfold jA dP
      simp only [hc,aB,show ((0:Int) !=0)=false from rfl,cond_false,ad,show ((0:Int)==8)=false from rfl,p1,p2,dec_f q1,dec_f q2,kV ok,wh,hw,cond_true,pu,show ((18:Int) !=0)=true from rfl]
    · unfold mD
      simp only [rd,aB,show ((0:Int) !=0)=false from rfl,cond_false,jB ok,rw',hw,Bool.not_true,uM ok.agd.so,dec_f op,Bool.not_false,cond_true]
theorem Up.inj {cs:List vO} (h:Up cs) {x y:vO} (hx:x∈cs) (hy:y∈cs) (he:x.1=y.1):x=y:=by
 obtain ⟨i,hi,rfl⟩:=aW.1 hx;obtain ⟨j,hj,rfl⟩:=aW.1 hy;have ub:=wU.1 h;rcases Nat.lt_trichotomy i j with h1|h1|h1
 · have:=ub i j h1 hj;omega
 · rw [h1]
 · have:=ub j i h1 hi;omega
structure PN (c:aO) (f:List Pt) (i k:Nat) (a:aP) (ds:List vO):Prop where
 ok:fE a
 w2:a.where_.length=200
 new:aT f c.now a.heap (c.certs.list.take i) ds
 old:aT c.field.points c.now a.heap (c.certs.list.drop i) (c.due.drop k)
 kl:k<=c.due.length
 cnt:a.heap.length=ds.length+(c.due.length-k)
theorem aTj {a:aP} (ok:fE a) {w:Nat} (hw:w<a.heap.length):(eV a w).heap.length=a.heap.length-1/\(eV a w).where_.length=a.where_.length:=by
 have rem:=K1 ok hw;have h3:(eV a w).slots=fZ a.slots (a.heap[w]!).2.2.2:=by unfold eV;split<;>rfl
 have h1:=rem.hl;have h2:=ok.hl;have h4:=rem.wl;rw [h3] at h1 h4;change _+(a.slots.free++[_]).length=a.slots.uses.length at h1;change _=a.slots.uses.length at h4;rw [List.length_append] at h1;simp only [List.length_cons,List.length_nil] at h1;exact ⟨by omega,by rw [h4,ok.wl]⟩
theorem aML {a:aP} {t:Int×Int} {n:Int} (ok:fE a) (pok:fE (mP a t n)):(mP a t n).where_.length=a.where_.length:=by
 have:=pok.wl
 change _=(a.slots.uses.set _ _).length at this;rw [List.length_set] at this;rw [this,ok.wl]
section
variable {c : aO} (ok : aV c) {f : List Pt} (fok : cZ f) (kn : ∀ i, i < c.certs.list.length -> jS f (c.certs.list[i]!).2)
include ok
theorem JM {i:Nat} {x:vO} (hx:x∈c.certs.list.take i) (hi:i<c.certs.list.length):x.1≠(c.certs.list[i]!).1:=by
 obtain ⟨j,h1,h2,rfl⟩:=cD.1 hx
 have:=ok.crt.up j i h1 hi
 omega
theorem JN {i:Nat} {x:vO} (hx:x∈c.certs.list.drop (i+1)) (hi:i<c.certs.list.length):x.1≠(c.certs.list[i]!).1:=by
 obtain ⟨j,h1,rfl⟩:=aW.1 hx;rw [List.length_drop] at h1;rw [tH]
 have:=ok.crt.up i (i+1+j) (by omega) (by omega)
 omega
theorem aDa {i k:Nat} {a:aP} {ds:List vO} (inv:PN c f i k a ds) (hi:i<c.certs.list.length) (was:(bH c.field.points (c.certs.list[i]!).2 c.now).2=false): ∀e∈a.heap,Ev.num e≠(c.certs.list[i]!).1:=by
 have u1:Up (c.certs.list.take i):=ok.crt_up.sublist (List.take_sublist _ _);have u2:Up (c.certs.list.drop i):=ok.crt_up.sublist (List.drop_sublist _ _);have d1:=inv.new.up u1;have d2:=inv.old.up u2;have cross: ∀x∈ds,∀y∈c.due.drop k,x.1<y.1:=by
  intro x hx y hy;obtain ⟨p,hp,h1,_⟩:=inv.new.due x hx;obtain ⟨q,hq,h2,_⟩:=inv.old.due y hy;obtain ⟨m,m1,m2,rfl⟩:=cD.1 hp;obtain ⟨n,n1,rfl⟩:=aW.1 hq;rw [List.length_drop] at n1;rw [tH] at h2
  have:=ok.crt.up m (i+n) (by omega) (by omega)
  omega
 have nd:((ds++c.due.drop k).map fun x=>x.1).Nodup:=YD (by
  show List.Pairwise _ _;rw [List.pairwise_append];exact ⟨d1,d2,cross⟩)
 have only:=L1 (H:=a.heap) nd (by rw [List.length_map,List.length_append,List.length_drop,inv.cnt];exact Nat.le_refl _) (fun n hn=>by
  obtain ⟨x,hx,rfl⟩:=List.mem_map.1 hn;rcases List.mem_append.1 hx with hx|hx
  · obtain ⟨p,hp,h1,h2,h3⟩:=inv.new.due x hx
    exact ⟨_,h3,h1.symm⟩
  · obtain ⟨p,hp,h1,h2,h3⟩:=inv.old.due x hx
    exact ⟨_,h3,h1.symm⟩)
 intro e he hne;obtain ⟨x,hx,h1⟩:=List.mem_map.1 (only e he);rcases List.mem_append.1 hx with hx|hx
 · obtain ⟨p,hp,h2,_⟩:=inv.new.due x hx
   exact JM ok hp hi (by rw [<- h2,h1,hne])
 · obtain ⟨p,hp,h2,h3,_⟩:=inv.old.due x hx
   have hp':p∈c.certs.list:=List.mem_of_mem_drop hp
   have:=ok.crt_up.inj hp' (bL hi) (by rw [<- h2,h1,hne])
   rw [this,was] at h3;cases h3
def stP (c:aO) (f:List Pt) (i:Nat) (a:aP) (ds:List vO):=
 (c.certs.list,(c.certs.list.length:Int),(i:Int),c.now.1,c.now.2,c.field.points,c.certs.next_,c.certs.list,c.agenda.slots.uses,c.agenda.slots.used,c.agenda.slots.free,c.agenda.heap,c.agenda.where_,c.due,f,(0:Int),(0:Int),(0:Int),c.now.1,c.now.2,c.certs.next_,c.certs.list,a.slots.uses,a.slots.used,a.slots.free,a.heap,a.where_,f,ds)
def stR (c:aO) (f:List Pt) (i:Nat) (a:aP) (ds:List vO):=
 ((i:Int),c.now.1,c.now.2,c.field.points,c.certs.next_,c.certs.list,c.agenda.slots.uses,c.agenda.slots.used,c.agenda.slots.free,c.agenda.heap,c.agenda.where_,c.due,f,(0:Int),(0:Int),(0:Int),c.now.1,c.now.2,f,c.certs.next_,c.certs.list,a.slots.uses,a.slots.used,a.slots.free,a.heap,a.where_,ds)
include fok kn
theorem aFr {i k:Nat} {a:aP} {ds:List vO} (inv:PN c f i k a ds) (hi:i<c.certs.list.length) (hds:ds.length<=i):
 (dQ (stP c f i a ds)=some (.done (.done (eK,18)))/\cS (stR c f i a ds)=some (.done (eK,18)))\/
 ∃k' a' ds',dQ (stP c f i a ds)=some (.next (stP c f (i+1) a' ds'))/\cS (stR c f i a ds)=some (.next (stR c f (i+1) a' ds'))/\PN c f (i+1) k' a' ds'/\ds'.length<=i+1:=by
 have bd:=ok.bd;have e1:decide ((i:Int)<(c.certs.list.length:Int))=true:=aJ (by omega)
 have sc:=aU (show i<1000000000 by omega)
 have cg:=aE c.certs.list i hi;have hb:=kn i hi;have wn:=AQ fok (x:=(c.certs.list[i]!).2) (t:=(c.now.1,c.now.2)) (ok.crt.cv i hi) ok.nowv ok.now64;rw [if_pos hb] at wn;have wr:=AR fok (x:=(c.certs.list[i]!).2) (t:=(c.now.1,c.now.2)) ok.now64 hb;have pd:=SH ok.due_up (by omega) (c.certs.list[i]!).1
 have da:=YE c (c.certs.list[i]!).1 (by omega)
 have dr:=xC hi;have tk:=hY hi;have old:=inv.old;rw [dr] at old;have aeta:aP.mk (aZ.mk a.slots.uses a.slots.used a.slots.free) a.heap a.where_=a:=rfl
 have ceta:(aO.mk (c.now.1,c.now.2) (Field.mk c.field.points) (bI.mk c.certs.next_ c.certs.list) (aP.mk (aZ.mk c.agenda.slots.uses c.agenda.slots.used c.agenda.slots.free) c.agenda.heap c.agenda.where_) c.due)=c:=rfl;have other: ∀x∈c.certs.list.take i,x.1≠(c.certs.list[i]!).1:=fun x hx=>JM ok hx hi
 have other': ∀x∈c.certs.list.drop (i+1),x.1≠(c.certs.list[i]!).1:=fun x hx=>JN ok hx hi
 cases hwas:(bH c.field.points (c.certs.list[i]!).2 c.now).2 with
 |true=>
  obtain ⟨d,ds',hd1,hd2,hd3,hd4⟩:=(aT.cons_true hwas).1 old;have hk:k<c.due.length:=by
   refine Classical.byContradiction fun h=>?_
   rw [List.drop_eq_nil_of_le (by omega)] at hd1
   cases hd1
  have dk:=xC hk;rw [dk] at hd1;injection hd1 with hd5 hd6;subst hd5 hd6;obtain ⟨w,hw,hev⟩:=aW.1 hd3;have hh:(a.heap[w]!).2.2.2=(c.due[k]!).2:=by rw [hev]
  have hnum:Ev.num a.heap[w]! =(c.certs.list[i]!).1:=by rw [hev]
  have before: ∀j,j<k->(c.due[j]!).1≠(c.certs.list[i]!).1:=fun j hj he=>by
   have:=wU.1 ok.due_up j k hj hk
   omega
  have pl:=pd.1 k hk hd2;have dq:=da.1 k hk hd2 before;have gk:=aE c.due k hk;have k0:decide ((0:Int)<=(k:Int))=true:=aJ (by omega)
  have ap:bV ds [c.due[k]!]=some (ds++[c.due[k]!]):=eT (by simp;omega)
  cases his:(bH f (c.certs.list[i]!).2 c.now).2 with
  |true=>
   right;have tt:bQ (bH f (c.certs.list[i]!).2 c.now).1/\oY (bH f (c.certs.list[i]!).2 c.now).1:=JD (dN fok hb.2).1 (dN fok hb.1).1 ok.now64 ok.nowv his;obtain ⟨t1,t2⟩:=tt;have re:=MD inv.ok inv.ok.fit (t:=(bH f (c.certs.list[i]!).2 c.now).1) hw hh t1 t2;have rr:=K0 inv.ok (t:=(bH f (c.certs.list[i]!).2 c.now).1) hw hh t1 t2
   have rok:=aFk inv.ok hw t1 t2;have rmem:=aC9 inv.ok hw t1;have rlen:=KZ inv.ok hw t1;have stay: ∀(cs:List vO),(∀x∈cs,x.1≠(c.certs.list[i]!).1)-> ∀x∈cs,∀e:Ev,e.num=x.1->e∈a.heap->e∈(lB a w (bH f (c.certs.list[i]!).2 c.now).1).heap:=by
    intro cs hcs x hx e he hm;refine (rmem e).2 (.inr ⟨hm,fun h=>hcs x hx ?_⟩)
    rw [<- he,h,hnum]
   refine ⟨k+1,lB a w (bH f (c.certs.list[i]!).2 c.now).1,ds++[c.due[k]!],?_,?_,⟨rok,by rw [rlen.2];exact inv.w2,?_,?_,by omega,?_⟩,by simp;omega⟩
   · unfold dQ stP
     simp only [e1,cond_true,cg,aB,wn,pl,his,gk,aeta,re,ap,show ((0:Int) !=0)=false from rfl,cond_false,sc]
   · unfold cS stR
     simp only [aF,e1,cond_true,cg,aB,ceta,dq,wr,his,k0,gk,aeta,rr,ap,Bool.not_true,cond_false,sc]
   · rw [tk]
     exact ((inv.new.mono (stay _ other)).snoc (x:=c.certs.list[i]!)).2 _ his hd2 ((rmem _).2 (.inl (by
      show _=((bH f (c.certs.list[i]!).2 c.now).1.1,(bH f (c.certs.list[i]!).2 c.now).1.2,(a.heap[w]!).2.2);rw [hev])))
   · exact hd4.mono (stay _ other')
   · rw [rlen.1,inv.cnt,List.length_append]
     simp only [List.length_cons,List.length_nil];omega
  |false=>
   right;have rv:=BJ inv.ok hw inv.ok.fit hh;have rr:=BK inv.ok hw hh;have rok:=K1 inv.ok hw;have rmem:=PG inv.ok hw;have rlen:=aTj inv.ok hw;have stay: ∀(cs:List vO),(∀x∈cs,x.1≠(c.certs.list[i]!).1)-> ∀x∈cs,∀e:Ev,e.num=x.1->e∈a.heap->e∈(eV a w).heap:=by
    intro cs hcs x hx e he hm;refine (rmem e).2 ⟨hm,fun h=>hcs x hx ?_⟩
    rw [<- he,h,hnum]
   refine ⟨k+1,eV a w,ds,?_,?_,⟨rok,by rw [rlen.2];exact inv.w2,?_,hd4.mono (stay _ other'),by omega,?_⟩,by omega⟩
   · unfold dQ stP
     simp only [e1,cond_true,cg,aB,wn,pl,his,gk,aeta,rv,show ((0:Int) !=0)=false from rfl,cond_false,sc]
   · unfold cS stR
     simp only [aF,e1,cond_true,cg,aB,ceta,dq,wr,his,k0,gk,aeta,rr,Bool.not_false,cond_false,sc]
   · rw [tk]
     exact ((inv.new.mono (stay _ other)).snoc (x:=c.certs.list[i]!)).1 his
   · have:=inv.cnt
     rw [rlen.1];omega
 |false=>
  have fol:=(aT.cons_false hwas).1 old;have no: ∀j,j<c.due.length->(c.due[j]!).1≠(c.certs.list[i]!).1:=by
   intro j hj he;obtain ⟨x,hx,h1,h2,_⟩:=ok.fol.due _ (bL hj)
   have:=ok.crt_up.inj hx (bL hi) (by rw [<- h1,he])
   rw [this,hwas] at h2;cases h2
  obtain ⟨m,pl⟩:=pd.2 no;have dq:=da.2 no;have k0:decide ((0:Int)<= -1)=false:=dec_f (by omega)
  cases his:(bH f (c.certs.list[i]!).2 c.now).2 with
  |true=>
   have tt:bQ (bH f (c.certs.list[i]!).2 c.now).1/\oY (bH f (c.certs.list[i]!).2 c.now).1:=JD (dN fok hb.2).1 (dN fok hb.1).1 ok.now64 ok.nowv his;obtain ⟨t1,t2⟩:=tt;have n0:=(ok.crt.nr i hi).1;have n1:(c.certs.list[i]!).1<=1000000:=by have:=(ok.crt.nr i hi).2;have:=ok.crt.n1;omega
   have fresh:=aDa ok inv hi hwas
   by_cases op:DL a.slots
   · right
     have pu:=BG inv.ok op inv.ok.fit (t:=(bH f (c.certs.list[i]!).2 c.now).1) (n:=(c.certs.list[i]!).1) t1 t2 n0 n1 fresh;have rp:=DM inv.ok op (t:=(bH f (c.certs.list[i]!).2 c.now).1) (n:=(c.certs.list[i]!).1) t1 t2 n0 n1;have pok:=aB4 inv.ok op (t:=(bH f (c.certs.list[i]!).2 c.now).1) (n:=(c.certs.list[i]!).1) t1 t2 n0 n1 fresh
     have pmem:=X4 inv.ok op (t:=(bH f (c.certs.list[i]!).2 c.now).1) (n:=(c.certs.list[i]!).1) t1;have plen:=JI inv.ok op (t:=(bH f (c.certs.list[i]!).2 c.now).1) (n:=(c.certs.list[i]!).1) t1;have ap: ∀h:Int×Int,bV ds [((c.certs.list[i]!).1,h)]=some (ds++[((c.certs.list[i]!).1,h)]):=fun h=>eT (by simp;omega)
     have opn:=uM inv.ok.so;rw [aJ op] at opn;refine ⟨k,mP a (bH f (c.certs.list[i]!).2 c.now).1 (c.certs.list[i]!).1,ds++[((c.certs.list[i]!).1,mO a.slots)],?_,?_,⟨pok,by rw [aML inv.ok pok];exact inv.w2,?_,?_,inv.kl,?_⟩,by simp;omega⟩
     · unfold dQ stP
       simp only [e1,cond_true,cg,aB,wn,pl,his,aeta,pu,ap,show ((0:Int) !=0)=false from rfl,cond_false,sc]
     · unfold cS stR
       simp only [aF,e1,cond_true,cg,aB,ceta,dq,wr,his,k0,aeta,rp,ap,Bool.not_true,cond_false,sc,opn]
     · rw [tk]
       exact ((inv.new.mono fun x hx e he hm=>(pmem e).2 (.inr hm)).snoc (x:=c.certs.list[i]!)).2 _ his rfl ((pmem _).2 (.inl rfl))
     · exact fol.mono fun x hx e he hm=>(pmem e).2 (.inr hm)
     · have:=inv.cnt
       rw [plen,List.length_append];simp only [List.length_cons,List.length_nil];omega
   · left
     have pu:=BH inv.ok op inv.ok.fit (t:=(bH f (c.certs.list[i]!).2 c.now).1) (n:=(c.certs.list[i]!).1) t1 t2 n0 n1 fresh;have ap: ∀h:Int×Int,bV ds [((c.certs.list[i]!).1,h)]=some (ds++[((c.certs.list[i]!).1,h)]):=fun h=>eT (by simp;omega)
     have opn:=uM inv.ok.so;rw [dec_f op] at opn;constructor
     · unfold dQ stP
       simp only [e1,cond_true,cg,aB,wn,pl,his,aeta,pu,ap,show ((18:Int) !=0)=true from rfl,cond_false]
     · unfold cS stR
       simp only [aF,e1,cond_true,cg,aB,ceta,dq,wr,his,k0,aeta,Bool.not_true,Bool.not_false,cond_false,opn]
  |false=>
   right;refine ⟨k,a,ds,?_,?_,⟨inv.ok,inv.w2,?_,fol,inv.kl,inv.cnt⟩,by omega⟩
   · unfold dQ stP
     simp only [e1,cond_true,cg,aB,wn,pl,his,show ((0:Int) !=0)=false from rfl,cond_false,sc]
   · unfold cS stR
     simp only [aF,e1,cond_true,cg,aB,ceta,dq,wr,his,k0,Bool.not_false,cond_false,sc]
   · rw [tk]
     exact (inv.new.snoc (x:=c.certs.list[i]!)).1 his
theorem aVV:
 (qM c ⟨f⟩=some (eK,18)/\nC c ⟨f⟩=some (eK,18))\/
 ∃c':aO,qM c ⟨f⟩=some (c',0)/\nC c ⟨f⟩=some (c',0)/\aV c'/\c'.field.points=f/\c'.now=c.now/\c'.certs=c.certs:=by
 have bd:=ok.bd;have f64:=fok.1;have run: ∀(d i k:Nat) (a:aP) (ds:List vO),c.certs.list.length-i<=d->i<=c.certs.list.length->PN c f i k a ds->ds.length<=i->
  (aH dQ (stP c f i a ds)=some (.done (eK,18))/\aH cS (stR c f i a ds)=some (eK,18))\/
  ∃c':aO,aH dQ (stP c f i a ds)=some (.done (c',0))/\aH cS (stR c f i a ds)=some (c',0)/\aV c'/\c'.field.points=f/\c'.now=c.now/\c'.certs=c.certs:=by
  have fin: ∀(k:Nat) (a:aP) (ds:List vO),PN c f c.certs.list.length k a ds-> ∃c':aO,aH dQ (stP c f c.certs.list.length a ds)=some (.done (c',0))/\aH cS (stR c f c.certs.list.length a ds)=some (c',0)/\aV c'/\c'.field.points=f/\c'.now=c.now/\c'.certs=c.certs:=by
   intro k a ds inv;have e1:decide ((c.certs.list.length:Int)<(c.certs.list.length:Int))=false:=dec_f (by omega)
   have hk:c.due.length-k=0:=by
    have:=inv.old
    rw [List.drop_length] at this
    have:c.due.drop k=[]:=this
    rw [List.drop_eq_nil_iff] at this;omega
   have new:=inv.new;rw [List.take_length] at new;refine ⟨⟨c.now,⟨f⟩,c.certs,a,ds⟩,aL ?_,aL ?_,⟨ok.nowv,ok.now64,fok,ok.crt,inv.ok,inv.w2,?_,kn,new⟩,rfl,rfl,rfl⟩
   · unfold dQ stP
     simp only [e1,cond_false]
   · unfold cS stR
     simp only [aF,e1,cond_false]
   · have:=inv.cnt
     show a.heap.length=ds.length;omega
  intro d
  induction d with
  |zero=>
   intro i k a ds hd hi inv hds
   have:i=c.certs.list.length:=by omega
   subst this;exact .inr (fin k a ds inv)
  |succ d ih=>
   intro i k a ds hd hi inv hds
   by_cases he:i=c.certs.list.length
   · subst he;exact .inr (fin k a ds inv)
   rcases aFr ok fok kn inv (by omega) hds with ⟨h1,h2⟩|⟨k',a',ds',h1,h2,h3,h4⟩
   · exact .inl ⟨aL h1,aL h2⟩
   · rw [aY h1,aY h2]
     exact ih (i+1) k' a' ds' (by omega) (by omega) h3 h4
 have start:=run c.certs.list.length 0 0 c.agenda [] (by omega) (by omega) ⟨ok.agd,ok.w200,rfl,by rw [List.drop_zero,List.drop_zero];exact ok.fol,by omega,by have:=ok.hd;simp;omega⟩ (by simp)
 have hc:gM c=some 0:=by rw [lT ok.fit,if_pos ok]
 have hf:gL ⟨f⟩=some 0:=by rw [oD];exact congrArg some (oC.2 fok)
 have tw:=kV ok;have tw':kO (aO.mk (c.now.1,c.now.2) (Field.mk c.field.points) (bI.mk c.certs.next_ c.certs.list) (aP.mk (aZ.mk c.agenda.slots.uses c.agenda.slots.used c.agenda.slots.free) c.agenda.heap c.agenda.where_) c.due)=some c:=tw
 have first:aH lJ (c.certs.list,(c.certs.list.length:Int),0,c.now.1,c.now.2,c.field.points,c.certs.next_,c.certs.list,c.agenda.slots.uses,c.agenda.slots.used,c.agenda.slots.free,c.agenda.heap,c.agenda.where_,c.due,f,0,0,0)=
  aH lJ (c.certs.list,(c.certs.list.length:Int),(c.certs.list.length:Int),c.now.1,c.now.2,c.field.points,c.certs.next_,c.certs.list,c.agenda.slots.uses,c.agenda.slots.used,c.agenda.slots.free,c.agenda.heap,c.agenda.where_,c.due,f,0,0,0):=by
  refine cP (body:=lJ) (fun i=>(c.certs.list,(c.certs.list.length:Int),(i:Int),c.now.1,c.now.2,c.field.points,c.certs.next_,c.certs.list,c.agenda.slots.uses,c.agenda.slots.used,c.agenda.slots.free,c.agenda.heap,c.agenda.where_,c.due,f,0,0,0)) c.certs.list.length (fun i hi=>?_)
  have e1:decide ((i:Int)<(c.certs.list.length:Int))=true:=aJ (by omega)
  unfold lJ;simp only [e1,cond_true,aE c.certs.list i hi,aB,oG fok,dec_f (US fok (kn i hi).1),dec_f (US fok (kn i hi).2),cond_false,aU (show i<1000000000 by omega)]
 have second: ∀r,aH dQ (stP c f 0 c.agenda [])=some (.done r)->qM c ⟨f⟩=some r:=by
  intro r hr;unfold qM;simp only [hc,aB,show ((0:Int) !=0)=false from rfl,cond_false,hf,aF];rw [first]
  refine aL ?_;unfold lJ;have e1:decide ((c.certs.list.length:Int)<(c.certs.list.length:Int))=false:=dec_f (by omega)
  simp only [aF,e1,cond_false,tw',aB,aX (show f.length<=1048576 by omega)]
  exact hr
 have third: ∀r,aH cS (stR c f 0 c.agenda [])=some r->nC c ⟨f⟩=some r:=by
  intro r hr;unfold nC pW;simp only [jB ok,aB,aX (show f.length<=1048576 by omega)]
  exact hr
 rcases start with ⟨h1,h2⟩|⟨c',h1,h2,h3⟩
 · exact .inl ⟨second _ h1,third _ h2⟩
 · exact .inr ⟨c',second _ h1,third _ h2,h3⟩
end
theorem pH (l:List (Int×Int)) (x:Int×Int) (hl:l.length<=1000000):eM l x=some (decide (x∈l)):=by
 unfold eM rN;have key:=mE (body:=kL) (fun i=>(l,(l.length:Int),(i:Int),x)) l.length (fun i=>l[i]! =x) (fun i=>(i:Int)) (e:= -1) (fun i hi=>by
  have e1:decide ((i:Int)<(l.length:Int))=true:=aJ (by omega)
  unfold kL;simp only [e1,cond_true,aE l i hi,aB,aU (show i<1000000000 by omega)]
  generalize l[i]! =y;constructor
  · intro h;rw [dY (congrArg Prod.fst h.symm),dY (congrArg Prod.snd h.symm)];rfl
  · intro h
    by_cases h1:x.1=y.1
    · rw [dY h1,eD (fun h2=>h (Prod.ext h1.symm h2.symm))];rfl
    · rw [eD h1];rfl) (by
  unfold kL
  have:decide ((l.length:Int)<(l.length:Int))=false:=dec_f (by omega)
  simp only [this,cond_false])
 rw [aF]
 by_cases hx:x∈l
 · obtain ⟨i,hi,he⟩:=aW.1 hx
   obtain ⟨k,h1,h2,h3⟩:=JB (c:=fun i=>l[i]! =x) ⟨i,hi,he⟩
   have:=key.1 k h1 h2 h3
   rw [show ((0:Nat):Int)=0 from rfl] at this;rw [this,aJ hx];simp only [aB,aJ (show (0:Int)<=(k:Int) by omega)]
 · have:=key.2 fun i hi he=>hx (aW.2 ⟨i,hi,he⟩)
   rw [show ((0:Nat):Int)=0 from rfl] at this;rw [this,dec_f hx];rfl
theorem L2 (l:List (Int×Int)) (x:Int×Int) (hl:l.length<=1000000):JA l x=some (decide (x∈l)):=by
 unfold JA;have key:=dJ (body:=zM) (fun i=>(l,(i:Int),x)) l.length (fun i=>l[i]! =x) (r:=true) (e:=false) (fun i hi=>by
  have e1:decide ((i:Int)<(l.length:Int))=true:=aJ (by omega)
  unfold zM;simp only [aF,e1,cond_true,aE l i hi,aB,aU (show i<1000000000 by omega)]
  generalize l[i]! =y;constructor
  · intro h;rw [dY (congrArg Prod.fst h),dY (congrArg Prod.snd h)];rfl
  · intro h
    by_cases h1:y.1=x.1
    · rw [dY h1,eD (fun h2=>h (Prod.ext h1 h2))];rfl
    · rw [eD h1];rfl) (by
  unfold zM
  have:decide ((l.length:Int)<(l.length:Int))=false:=dec_f (by omega)
  simp only [aF,this,cond_false])
 by_cases hx:x∈l
 · rw [aJ hx];exact key.1 (aW.1 hx)
 · rw [dec_f hx];exact key.2 fun i hi he=>hx (aW.2 ⟨i,hi,he⟩)
theorem aFs (x y:vO):((x.1==y.1)&&((x.2.1==y.2.1)&&(x.2.2==y.2.2)))=decide (x=y):=by
 rw [Bool.eq_iff_iff,decide_eq_true_iff];simp only [Bool.and_eq_true,beq_iff_eq];constructor
 · rintro ⟨h1,h2,h3⟩;exact Prod.ext h1 (Prod.ext h2 h3)
 · rintro rfl;exact ⟨rfl,rfl,rfl⟩
theorem L3 (a b:List vO) (hl:a.length<=1000000):xY ⟨a⟩ ⟨b⟩=some (decide (a=b)):=by
 unfold xY;simp only [aF]
 by_cases h:a.length=b.length
 case neg=>rw [dH (by omega),dec_f (fun k=>h (by rw [k]))];rfl
 rw [bO (by omega)]
 simp only [cond_false];have key:=dJ (body:=uH) (fun i=>((i:Int),a,b)) a.length (fun i=> ¬a[i]! =b[i]!) (r:=false) (e:=true) (fun i hi=>by
  have e1:decide ((i:Int)<(a.length:Int))=true:=aJ (by omega)
  unfold uH;simp only [aF,e1,cond_true,aE a i hi,aE b i (by omega),aB,aU (show i<1000000000 by omega),aFs]
  constructor
  · intro h;rw [dec_f h];rfl
  · intro h;rw [aJ (Classical.not_not.1 h)];rfl) (by
  unfold uH
  have:decide ((a.length:Int)<(a.length:Int))=false:=dec_f (by omega)
  simp only [aF,this,cond_false])
 by_cases he:a=b
 · rw [aJ he]
   exact key.2 fun i hi=>Classical.not_not.2 (by rw [he])
 · rw [dec_f he]
   refine key.1 (Classical.byContradiction fun hx=>he (vN h fun i hi=>?_))
   exact Classical.byContradiction fun hn=>hx ⟨i,hi,hn⟩
theorem UT (a b:List vO) (hl:a.length<=1000000):mK a b=some (decide (a=b)):=by
 unfold mK;simp only [aF]
 by_cases h:a.length=b.length
 case neg=>rw [dH (by omega),dec_f (fun k=>h (by rw [k]))];rfl
 rw [bO (by omega)]
 simp only [cond_false];have key:=dJ (body:=jU) (fun i=>(a,b,(a.length:Int),(i:Int))) a.length (fun i=> ¬a[i]! =b[i]!) (r:=false) (e:=true) (fun i hi=>by
  have e1:decide ((i:Int)<(a.length:Int))=true:=aJ (by omega)
  unfold jU;simp only [e1,cond_true,aE a i hi,aE b i (by omega),aB,aU (show i<1000000000 by omega),aFs]
  constructor
  · intro h;rw [dec_f h];rfl
  · intro h;rw [aJ (Classical.not_not.1 h)];rfl) (by
  unfold jU
  have:decide ((a.length:Int)<(a.length:Int))=false:=dec_f (by omega)
  simp only [this,cond_false])
 by_cases he:a=b
 · rw [aJ he]
   exact key.2 fun i hi=>Classical.not_not.2 (by rw [he])
 · rw [dec_f he]
   refine key.1 (Classical.byContradiction fun hx=>he (vN h fun i hi=>?_))
   exact Classical.byContradiction fun hn=>hx ⟨i,hi,hn⟩
theorem aDd {cs:List vO} {m:Nat} {x:vO} (hx:x∈cs) (hne:x.1≠(cs[m]!).1):x∈cs.eraseIdx m:=by
 obtain ⟨j,hj,rfl⟩:=aW.1 hx;have hjm:j≠m:=fun h=>hne (by rw [h])
 rw [yD,List.mem_append]
 by_cases h:j<m
 · exact .inl (cD.2 ⟨j,h,hj,rfl⟩)
 · right
   rw [aW];refine ⟨j- (m+1),by rw [List.length_drop];omega,?_⟩
   rw [tH]
   congr 1;omega
def kP (c0:aO) (f:List Pt) (es:List (Int×Int)) (i:Nat) (c:aO):=
 (es,c0.certs.list,(c0.certs.list.length:Int),(i:Int),c.now.1,c.now.2,c.field.points,c.certs.next_,c.certs.list,c.agenda.slots.uses,c.agenda.slots.used,c.agenda.slots.free,c.agenda.heap,c.agenda.where_,c.due,f,(0:Int),(0:Int),(0:Int))
def kR (c0:aO) (f:List Pt) (es:List (Int×Int)) (i:Nat) (c:aO):=
 (es,(i:Int),c0.now.1,c0.now.2,c0.field.points,c0.certs.next_,c0.certs.list,c0.agenda.slots.uses,c0.agenda.slots.used,c0.agenda.slots.free,c0.agenda.heap,c0.agenda.where_,c0.due,f,(0:Int),(0:Int),(0:Int),c.now.1,c.now.2,c.field.points,c.certs.next_,c.certs.list,c.agenda.slots.uses,c.agenda.slots.used,c.agenda.slots.free,c.agenda.heap,c.agenda.where_,c.due)
def eP (es:List (Int×Int)) (i:Nat) (c:aO):=
 (es,(es.length:Int),(i:Int),c.now.1,c.now.2,c.field.points,c.certs.next_,c.certs.list,c.agenda.slots.uses,c.agenda.slots.used,c.agenda.slots.free,c.agenda.heap,c.agenda.where_,c.due,(0:Int),(0:Int),(0:Int))
def eR (es:List (Int×Int)) (i:Nat) (c:aO):=
 (es,(i:Int),(0:Int),(0:Int),(0:Int),c.now.1,c.now.2,c.field.points,c.certs.next_,c.certs.list,c.agenda.slots.uses,c.agenda.slots.used,c.agenda.slots.free,c.agenda.heap,c.agenda.where_,c.due)
def oW (c:aO):Int:=c.certs.next_- (c.certs.list.length:Int)
structure PO (c:aO) (f:List Pt) (es:List (Int×Int)) (r:aO):Prop where
 has: ∀e∈es,wB r.certs.list e
 sub: ∀x∈r.certs.list,x.2∈es
 ok:aV r
 fld:r.field.points=f
 now:r.now=c.now
 room:oW c<=oW r
def SI (c:aO) (k:Nat):Prop:=c.certs.list.length<=k/\c.certs.next_<=k/\ ∀j,j<c.agenda.slots.uses.length->c.agenda.slots.uses[j]!<=k
theorem aT.len {l:List Pt} {t:Int×Int} {H:List Ev}: ∀{cs ds:List vO},aT l t H cs ds->ds.length<=cs.length
 | [],ds,h=>by rw [show ds=[] from h];exact Nat.le_refl _
 |x::cs,ds,h=>by
  cases hy:(bH l x.2 t).2 with
  |true=>
   obtain ⟨d,ds',rfl,_,_,h4⟩:=h.1 hy;exact Nat.succ_le_succ h4.len
  |false=>exact Nat.le_succ_of_le (h.2 hy).len
theorem SI.not_full {c:aO} (ok:aV c) {k:Nat} (h:SI c k) (hk:k<=199): ¬(JK c.certs\/ ¬DL c.agenda.slots):=by
 obtain ⟨h1,h2,h3⟩:=h;have fl:=ok.fol.len;have hd:=ok.hd;have hl:=ok.agd.hl;have wl:=ok.agd.wl;have w2:=ok.w200;rintro (h|h)
 · rcases h with h|h<;>omega
 · refine h ⟨by omega,?_⟩
   have:=h3 _ (F0s ok.agd.so (by omega)).1
   omega
theorem SI.more {c c':aO} {k:Nat} (h:SI c k) {x:Int×Int} (hc:c'.certs=sF c.certs x) (hs:c'.agenda.slots=c.agenda.slots\/c'.agenda.slots=hZ c.agenda.slots):SI c' (k+1):=by
 obtain ⟨h1,h2,h3⟩:=h;refine ⟨?_,?_,fun j hj=>?_⟩
 · rw [hc]
   show (c.certs.list++[(c.certs.next_,x)]).length<=_;rw [List.length_append,List.length_singleton];omega
 · rw [hc]
   show c.certs.next_+1<=_;omega
 · rcases hs with e|e
   · rw [e] at hj ⊢
     have:=h3 j hj;omega
   · rw [e] at hj ⊢
     change j<(c.agenda.slots.uses.set _ _).length at hj;rw [List.length_set] at hj;show (c.agenda.slots.uses.set (dE c.agenda.slots) (c.agenda.slots.uses[dE c.agenda.slots]!+1))[j]!<=_;rw [bE];split
     · rename_i h;have:=h3 _ h.2;omega
     · have:=h3 j hj;omega
structure JO (f:List Pt) (es:List (Int×Int)):Prop where
 len:es.length<=1000000
 cv: ∀x∈es,fV x
 kn: ∀x∈es,jS f x
theorem aFt {c0:aO} (ok0:aV c0) {f:List Pt} {es:List (Int×Int)} (eok:JO f es):
 ∀(d i:Nat) (c:aO),c0.certs.list.length-i<=d->i<=c0.certs.list.length->aV c->(∀x∈c0.certs.list.drop i,x∈c.certs.list)->(∀x∈c.certs.list,x∈c0.certs.list.drop i\/x.2∈es)->
  ∃c':aO,aH eN (kP c0 f es i c)=aH eN (kP c0 f es c0.certs.list.length c')/\aH dS (kR c0 f es i c)=aH dS (kR c0 f es c0.certs.list.length c')/\aV c'/\(∀x∈c'.certs.list,x.2∈es)/\c'.field=c.field/\c'.now=c.now/\oW c<=oW c':=by
 have bd:=ok0.bd;intro d
 induction d with
 |zero=>
  intro i c hd hi ok h1 h2
  have:i=c0.certs.list.length:=by omega
  subst this;refine ⟨c,rfl,rfl,ok,fun x hx=>?_,rfl,rfl,Int.le_refl _⟩
  rcases h2 x hx with h|h
  · rw [List.drop_length] at h;cases h
  · exact h
 |succ d ih=>
  intro i c hd hi ok h1 h2
  by_cases he:i=c0.certs.list.length
  · subst he
    refine ⟨c,rfl,rfl,ok,fun x hx=>?_,rfl,rfl,Int.le_refl _⟩
    rcases h2 x hx with h|h
    · rw [List.drop_length] at h;cases h
    · exact h
  have hi':i<c0.certs.list.length:=by omega
  have e1:decide ((i:Int)<(c0.certs.list.length:Int))=true:=aJ (by omega)
  have sc:=aU (show i<1000000000 by omega)
  have cg:=aE c0.certs.list i hi';have dr:=xC hi';have ceta:(aO.mk (c.now.1,c.now.2) (Field.mk c.field.points) (bI.mk c.certs.next_ c.certs.list) (aP.mk (aZ.mk c.agenda.slots.uses c.agenda.slots.used c.agenda.slots.free) c.agenda.heap c.agenda.where_) c.due)=c:=rfl
  by_cases hin:(c0.certs.list[i]!).2∈es
  · have s1:eN (kP c0 f es i c)=some (.next (kP c0 f es (i+1) c)):=by
     unfold eN kP;simp only [e1,cond_true,cg,aB,pH _ _ eok.len,aJ hin,Bool.not_true,cond_false,sc]
    have s2:dS (kR c0 f es i c)=some (.next (kR c0 f es (i+1) c)):=by
     unfold dS kR;simp only [aF,e1,cond_true,cg,aB,L2 _ _ eok.len,aJ hin,Bool.not_true,cond_false,sc]
    rw [aY s1,aY s2];refine ih (i+1) c (by omega) (by omega) ok (fun x hx=>h1 x (by rw [dr];exact List.mem_cons_of_mem _ hx)) (fun x hx=>?_)
    rcases h2 x hx with h|h
    · rw [dr] at h
      rcases List.mem_cons.1 h with rfl|h
      · exact .inr hin
      · exact .inl h
    · exact .inr h
  · have hm:=h1 (c0.certs.list[i]!) (by rw [dr];exact List.mem_cons_self)
    obtain ⟨m,hm1,hm2⟩:=aW.1 hm;obtain ⟨c',r1,r2,r3,r4,r5,r6⟩:=aFq ok hm1;have rt:=ME ok hm1 r1;rw [hm2] at r2 rt;have s1:eN (kP c0 f es i c)=some (.next (kP c0 f es (i+1) c')):=by
     unfold eN kP;simp only [e1,cond_true,cg,aB,pH _ _ eok.len,dec_f hin,Bool.not_false,sc,ceta,rt]
    have s2:dS (kR c0 f es i c)=some (.next (kR c0 f es (i+1) c')):=by
     unfold dS kR;simp only [aF,e1,cond_true,cg,aB,L2 _ _ eok.len,dec_f hin,Bool.not_false,sc,ceta,r2]
    rw [aY s1,aY s2];have cl:c'.certs.list=c.certs.list.eraseIdx m:=by rw [r6];rfl
    have hroom:oW c<=oW c':=by
     unfold oW;rw [r6];show _<=c.certs.next_- (((c.certs.list.eraseIdx m).length:Nat):Int);rw [List.length_eraseIdx_of_lt hm1];omega
    have hs:(∀x∈c0.certs.list.drop (i+1),x∈c'.certs.list)/\(∀x∈c'.certs.list,x∈c0.certs.list.drop (i+1)\/x.2∈es):=by
     refine ⟨fun x hx=>?_,fun x hx=>?_⟩
     · rw [cl]
       refine aDd (h1 x (by rw [dr];exact List.mem_cons_of_mem _ hx)) ?_
       rw [hm2];exact JN ok0 hx hi'
     · rw [cl] at hx
       obtain ⟨a1,a2⟩:=wV ok.crt_up hm1 hx;rw [hm2] at a2;rcases h2 x a1 with h|h
       · rw [dr] at h
         rcases List.mem_cons.1 h with rfl|h
         · exact absurd rfl a2
         · exact .inl h
       · exact .inr h
    obtain ⟨d',q1,q2,q3,q4,q5,q6,q7⟩:=ih (i+1) c' (by omega) (by omega) r3 hs.1 hs.2
    exact ⟨d',q1,q2,q3,q4,q5.trans r4,q6.trans r5,by omega⟩
theorem YF {f:List Pt} (_fok:cZ f) {es:List (Int×Int)} (eok:JO f es):
 ∀(d i:Nat) (c:aO),es.length-i<=d->i<=es.length->aV c->c.field.points=f->(∀x∈c.certs.list,x.2∈es)->(∀j,j<i->wB c.certs.list es[j]!)->
  ∃r:aO×Int,aH fN (eP es i c)=some (.done r)/\aH eA (eR es i c)=some (.done r)/\(r.2=0/\PO c f es r.1\/r=(eK,18))/\(∀k,SI c k->k+(es.length-i)<=199->r.2=0):=by
 have el:=eok.len;have fin: ∀c:aO,aV c->c.field.points=f->(∀x∈c.certs.list,x.2∈es)->(∀j,j<es.length->wB c.certs.list es[j]!)-> ∃r:aO×Int,aH fN (eP es es.length c)=some (.done r)/\aH eA (eR es es.length c)=some (.done r)/\(r.2=0/\PO c f es r.1\/r=(eK,18))/\r.2=0:=by
  intro c ok hf hs hh;have e1:decide ((es.length:Int)<(es.length:Int))=false:=dec_f (by omega)
  refine ⟨(c,0),aL ?_,aL ?_,.inl ⟨rfl,fun e he=>by obtain ⟨j,hj,q⟩:=aW.1 he;rw [<- q];exact hh j hj,hs,ok,hf,rfl,Int.le_refl _⟩,rfl⟩
  · unfold fN eP
    simp only [e1,cond_false]
  · unfold eA eR
    simp only [aF,e1,cond_false]
 intro d
 induction d with
 |zero=>
  intro i c hd hi ok hf hs hh
  have:i=es.length:=by omega
  subst this;obtain ⟨r,q1,q2,q3,q4⟩:=fin c ok hf hs hh;exact ⟨r,q1,q2,q3,fun _ _ _=>q4⟩
 |succ d ih=>
  intro i c hd hi ok hf hs hh
  by_cases he:i=es.length
  · subst he
    obtain ⟨r,q1,q2,q3,q4⟩:=fin c ok hf hs hh;exact ⟨r,q1,q2,q3,fun _ _ _=>q4⟩
  have bd:=ok.bd;have hi':i<es.length:=by omega
  have e1:decide ((i:Int)<(es.length:Int))=true:=aJ (by omega)
  have sc:=aU (show i<1000000000 by omega)
  have cg:=aE es i hi';have ceta:(aO.mk (c.now.1,c.now.2) (Field.mk c.field.points) (bI.mk c.certs.next_ c.certs.list) (aP.mk (aZ.mk c.agenda.slots.uses c.agenda.slots.used c.agenda.slots.free) c.agenda.heap c.agenda.where_) c.due)=c:=rfl;have ceta2:bI.mk c.certs.next_ c.certs.list=c.certs:=rfl;have hc:=X8 c.certs.list es[i]! (by omega)
  have hr:=CY c.certs es[i]! (by omega)
  by_cases hin:wB c.certs.list es[i]!
  · have s1:fN (eP es i c)=some (.next (eP es (i+1) c)):=by
     unfold fN eP;simp only [e1,cond_true,cg,aB,K3,hc,aJ hin,sc]
    have s2:eA (eR es i c)=some (.next (eR es (i+1) c)):=by
     unfold eA eR;simp only [aF,e1,cond_true,cg,aB,ceta2,hr,aJ hin,sc]
    rw [aY s1,aY s2];obtain ⟨r,q1,q2,q3,q4⟩:=ih (i+1) c (by omega) (by omega) ok hf hs (fun j hj=>if q:j=i then by rw [q];exact hin else hh j (by omega))
    exact ⟨r,q1,q2,q3,fun k hk hl=>q4 k hk (by omega)⟩
  · have hb:jS c.field.points es[i]!:=by rw [hf];exact eok.kn _ (bL hi')
    rcases aMK ok (eok.cv _ (bL hi')) hb hin with ⟨r1,r2,full⟩|⟨c',r1,r2,r3,r4,r5,r6,r7⟩
    · refine ⟨(eK,18),aL ?_,aL ?_,.inr rfl,fun k hk hl=>absurd full (hk.not_full ok (by omega))⟩
      · unfold fN eP
        simp only [e1,cond_true,cg,aB,K3,hc,dec_f hin,cond_false,ceta,r1,show ((18:Int) !=0)=true from rfl]
      · unfold eA eR
        simp only [aF,e1,cond_true,cg,aB,ceta2,hr,dec_f hin,cond_false,ceta,r2,show ((18:Int) !=0)=true from rfl]
    · have s1:fN (eP es i c)=some (.next (eP es (i+1) c')):=by
       unfold fN eP;simp only [e1,cond_true,cg,aB,K3,hc,dec_f hin,cond_false,ceta,r1,show ((0:Int) !=0)=false from rfl,sc]
      have s2:eA (eR es i c)=some (.next (eR es (i+1) c')):=by
       unfold eA eR;simp only [aF,e1,cond_true,cg,aB,ceta2,hr,dec_f hin,cond_false,ceta,r2,show ((0:Int) !=0)=false from rfl,sc]
      rw [aY s1,aY s2];obtain ⟨r,q1,q2,q3,q6⟩:=ih (i+1) c' (by omega) (by omega) r3 (by rw [r4,hf]) (fun x hx=>by
       rw [r6] at hx;rcases List.mem_append.1 (show x∈c.certs.list++[(c.certs.next_,es[i]!)] from hx) with h|h
       · exact hs x h
       · rw [List.mem_singleton.1 h];exact bL hi') (fun j hj=>by
       rw [r6];show wB (c.certs.list++[(c.certs.next_,es[i]!)]) _
       by_cases q:j=i
       · rw [q];exact ⟨c.certs.list.length,by rw [List.length_append,List.length_singleton];omega,by rw [jQ (Nat.le_refl _),Nat.sub_self];rfl⟩
       · obtain ⟨w,w1,w2⟩:=hh j (by omega)
         exact ⟨w,by rw [List.length_append];omega,by rw [hG w1];exact w2⟩)
      refine ⟨r,q1,q2,q3.imp (fun ⟨q4,q5⟩=>⟨q4,q5.has,q5.sub,q5.ok,q5.fld,q5.now.trans r5,Int.le_trans ?_ q5.room⟩) id,fun k hk hl=>q6 (k+1) (hk.more r6 r7) (by omega)⟩
      unfold oW;rw [r6];show _<=(c.certs.next_+1) - (((c.certs.list++[(c.certs.next_,es[i]!)]).length:Nat):Int);rw [List.length_append,List.length_singleton];omega
theorem aMM {c:aO} (ok:aV c) {f:List Pt} (fok:cZ f) {es:List (Int×Int)} (eok:JO f es):
 ∃r:aO×Int,vG c ⟨f⟩ es=some r/\nD c ⟨f⟩ es=some r/\(r.2=0/\PO c f es r.1\/r=(eK,18)):=by
 have f64:=fok.1;obtain ⟨c',g1,g2,g3,g4,g5,g6,g7⟩:=aFt ok eok c.certs.list.length 0 c (by omega) (by omega) ok (fun x hx=>by rwa [List.drop_zero] at hx) (fun x hx=> .inl (by rwa [List.drop_zero]))
 have bd:=g3.bd;have e1:decide ((c.certs.list.length:Int)<(c.certs.list.length:Int))=false:=dec_f (by omega)
 have start1:vG c ⟨f⟩ es=aH eN (kP c f es 0 c):=rfl;have start2:nD c ⟨f⟩ es=aH dS (kR c f es 0 c):=by
  unfold nD;simp only [jB ok,aB];rfl
 rw [start1,start2,g1,g2];have eq1:=UT c'.field.points f (by omega)
 have eq2:=L3 c'.field.points f (by omega)
 have ceta:(aO.mk (c'.now.1,c'.now.2) (Field.mk c'.field.points) (bI.mk c'.certs.next_ c'.certs.list) (aP.mk (aZ.mk c'.agenda.slots.uses c'.agenda.slots.used c'.agenda.slots.free) c'.agenda.heap c'.agenda.where_) c'.due)=c':=rfl
 by_cases hf:c'.field.points=f
 · obtain ⟨r,i1,i2,i3,_⟩:=YF fok eok es.length 0 c' (by omega) (by omega) g3 hf g4 (fun j hj=>absurd hj (Nat.not_lt_zero j))
   refine ⟨r,aL ?_,aL ?_,i3.imp (fun ⟨q4,q5⟩=>⟨q4,q5.has,q5.sub,q5.ok,q5.fld,q5.now.trans g6,Int.le_trans g7 q5.room⟩) id⟩
   · unfold eN kP
     simp only [e1,cond_false,eq1,aJ hf,aB,Bool.not_true];exact i1
   · unfold dS kR
     simp only [aF,e1,cond_false,eq2,aJ hf,aB,Bool.not_true];exact i2
 · have kn: ∀i,i<c'.certs.list.length->jS f (c'.certs.list[i]!).2:=fun i hi=>eok.kn _ (g4 _ (bL hi))
   rcases aVV g3 fok kn with ⟨a1,a2⟩|⟨c2,a1,a2,a3,a4,a5,a6⟩
   · refine ⟨(eK,18),aL ?_,aL ?_,.inr rfl⟩
     · unfold eN kP
       simp only [e1,cond_false,eq1,dec_f hf,aB,Bool.not_false,cond_true,ceta,a1,show ((18:Int) !=0)=true from rfl]
     · unfold dS kR
       simp only [aF,e1,cond_false,eq2,dec_f hf,aB,Bool.not_false,cond_true,ceta,a2,show ((18:Int) !=0)=true from rfl]
   · obtain ⟨r,i1,i2,i3,_⟩:=YF fok eok es.length 0 c2 (by omega) (by omega) a3 a4 (by rw [a6];exact g4) (fun j hj=>absurd hj (Nat.not_lt_zero j))
     refine ⟨r,aL ?_,aL ?_,i3.imp (fun ⟨q4,q5⟩=>⟨q4,q5.has,q5.sub,q5.ok,q5.fld,(q5.now.trans a5).trans g6,Int.le_trans (Int.le_trans g7 (by unfold oW;rw [a6];exact Int.le_refl _)) q5.room⟩) id⟩
     · unfold eN kP
       simp only [e1,cond_false,eq1,dec_f hf,aB,Bool.not_false,cond_true,ceta,a1,show ((0:Int) !=0)=false from rfl];exact i1
     · unfold dS kR
       simp only [aF,e1,cond_false,eq2,dec_f hf,aB,Bool.not_false,cond_true,ceta,a2,show ((0:Int) !=0)=false from rfl];exact i2
theorem PP {α:Type} [Inhabited α] {l:List α}:l.Nodup↔ ∀k,k<l.length->l[k]!∉l.take k:=by
 rw [iN];constructor
 · intro h k hk hm
   obtain ⟨i,h1,h2,h3⟩:=cD.1 hm;exact h i k h1 hk h3
 · intro h i j hij hj he
   exact h j hj (cD.2 ⟨i,hij,by omega,he⟩)
theorem E1 {α:Type} [Inhabited α] {l:List α} {P:α->Prop}:(∀x∈l,P x)↔ ∀i,i<l.length->P l[i]!:=by
 constructor
 · intro h i hi;exact h _ (bL hi)
 · intro h x hx
   obtain ⟨i,hi,rfl⟩:=aW.1 hx;exact h i hi
theorem qA {σ ρ:Type} {body:σ->Option (bT σ ρ)} (st:Nat->σ) (n:Nat) (P:Nat->Prop) {r e:ρ} (h: ∀i,i<n->(¬P i->body (st i)=some (.done r))/\(P i->body (st i)=some (.next (st (i+1)))))
 (hend:body (st n)=some (.done e)):aH body (st 0)=some (if∀i,i<n->P i then e else r):=by
 have key:=dJ (body:=body) st n (fun i=> ¬P i) (r:=r) (e:=e) (fun i hi=>⟨(h i hi).1,fun hn=>(h i hi).2 (Classical.not_not.1 hn)⟩) hend
 by_cases hx: ∀i,i<n->P i
 · rw [if_pos hx];exact key.2 fun i hi=>Classical.not_not.2 (hx i hi)
 · rw [if_neg hx]
   obtain ⟨i,h⟩:=Classical.not_forall.1 hx;obtain ⟨hi,hx⟩:=Classical.not_imp.1 h;exact key.1 ⟨i,hi,hx⟩
theorem GM {f:List Pt} (fok:cZ f) (id:Int): ∃p e,xR ⟨f⟩ id=some (p,e)/\(e=0↔oF f id):=by
 have h1:=fok.1;have hc:gL ⟨f⟩=some 0:=by rw [oD];exact congrArg some (oC.2 fok)
 have bs:=FW f id (by omega) (fun i j=>oR fok.2.2)
 unfold xR EO HC;rw [aMI];simp only [hc,aB,show ((0:Int) !=0)=false from rfl,cond_false]
 by_cases h:oF f id
 · obtain ⟨k,hk,he⟩:=h
   rw [bs.1 k hk he];refine ⟨f[k]!,0,?_,fun _=>⟨k,hk,he⟩,fun _=>rfl⟩
   simp only [aB,Bool.not_true,cond_false,show ((0:Int) !=0)=false from rfl,aE f k hk]
 · obtain ⟨m,_,_,_,e⟩:=bs.2 (fun k hk he=>h ⟨k,hk,he⟩)
   rw [e];exact ⟨(0,0,0),6,rfl,fun h=>(by cases h),fun k=>absurd k h⟩
structure PQ (c:aO):Prop where
 f:c.field.points.length<=1000000
 l:c.certs.list.length<=1000000
 d:c.due.length<=1000000
 h:c.agenda.heap.length<=1000000
 w:c.agenda.where_.length<=1000000
 s1:c.agenda.slots.uses.length<=1000000
 s2:c.agenda.slots.used.length<=1000000
 s3:c.agenda.slots.free.length<=1000000
theorem aV.short {c:aO} (ok:aV c):PQ c:=by
 have bd:=ok.bd;have ab:=ok.agd.bd;have sl:=ok.agd.so.fl;have sn:=ok.agd.so.n2;have su:=ok.agd.so.ul;exact ⟨by omega,by omega,by omega,by omega,by omega,by omega,by omega,by omega⟩
theorem QV:PQ eK:=⟨by decide,by decide,by decide,by decide,by decide,by decide,by decide,by decide⟩
theorem K6 (l:List Int) (hl:l.length<=1000000):lQ l l=some true:=by
 unfold lQ;rw [bO rfl];refine (cP (body:=nH) (fun i=>(l,l,(i:Int))) l.length fun i hi=>?_).trans (aL ?_)
 · have e1:decide ((i:Int)<(l.length:Int))=true:=aJ (by omega)
   unfold nH;simp only [aF,e1,cond_true,aE l i hi,aB,aU (show i<1000000000 by omega),bO rfl,cond_false]
 · unfold nH
   have:decide ((l.length:Int)<(l.length:Int))=false:=dec_f (by omega)
   simp only [aF,this,cond_false]
theorem aAE (l:List Bool) (hl:l.length<=1000000):pO l l=some true:=by
 unfold pO;rw [bO rfl];refine (cP (body:=mM) (fun i=>(l,l,(i:Int))) l.length fun i hi=>?_).trans (aL ?_)
 · have e1:decide ((i:Int)<(l.length:Int))=true:=aJ (by omega)
   unfold mM;simp only [aF,e1,cond_true,aE l i hi,aB,aU (show i<1000000000 by omega),beq_self_eq_true,Bool.not_true,cond_false]
 · unfold mM
   have:decide ((l.length:Int)<(l.length:Int))=false:=dec_f (by omega)
   simp only [aF,this,cond_false]
theorem aAF (c:bI) (hl:c.list.length<=1000000):CP c c=some true:=by
 unfold CP;rw [bO rfl,bO rfl];refine (cP (body:=uJ) (fun i=>((i:Int),c.next_,c.list,c.next_,c.list)) c.list.length fun i hi=>?_).trans (aL ?_)
 · have e1:decide ((i:Int)<(c.list.length:Int))=true:=aJ (by omega)
   unfold uJ;simp only [aF,e1,cond_true,aE c.list i hi,aB,aU (show i<1000000000 by omega),beq_self_eq_true,Bool.and_self,Bool.not_true,cond_false]
 · unfold uJ
   have:decide ((c.list.length:Int)<(c.list.length:Int))=false:=dec_f (by omega)
   simp only [aF,this,cond_false]
theorem YG (a:aP) (h1:a.heap.length<=1000000) (h2:a.where_.length<=1000000) (h3:a.slots.uses.length<=1000000) (h4:a.slots.used.length<=1000000) (h5:a.slots.free.length<=1000000):CQ a a=some true:=by
 unfold CQ HH;simp only [K6 _ h3,aAE _ h4,K6 _ h5,K6 _ h2,aB,cond_true,Bool.not_true,cond_false];rw [bO rfl];refine (cP (body:=uK) (fun i=>((i:Int),a.slots.uses,a.slots.used,a.slots.free,a.heap,a.where_,a.slots.uses,a.slots.used,a.slots.free,a.heap,a.where_)) a.heap.length fun i hi=>?_).trans (aL ?_)
 · have e1:decide ((i:Int)<(a.heap.length:Int))=true:=aJ (by omega)
   unfold uK;simp only [aF,e1,cond_true,aE a.heap i hi,aB,aU (show i<1000000000 by omega),beq_self_eq_true,Bool.and_self,Bool.not_true,cond_false]
 · unfold uK
   have:decide ((a.heap.length:Int)<(a.heap.length:Int))=false:=dec_f (by omega)
   simp only [aF,this,cond_false]
theorem aAG {c:aO} (sh:PQ c):CR c c=some true:=by
 have hd:=sh.d;unfold CR;simp only [beq_self_eq_true,Bool.and_self,Bool.not_true,cond_false,L3 c.field.points c.field.points sh.f,aAF _ sh.l,YG _ sh.h sh.w sh.s1 sh.s2 sh.s3,aB,aJ];rw [bO rfl]
 refine (cP (body:=uL) (fun i=>((i:Int),c.now.1,c.now.2,c.field.points,c.certs.next_,c.certs.list,c.agenda.slots.uses,c.agenda.slots.used,c.agenda.slots.free,c.agenda.heap,c.agenda.where_,c.due,c.now.1,c.now.2,c.field.points,c.certs.next_,c.certs.list,c.agenda.slots.uses,c.agenda.slots.used,c.agenda.slots.free,c.agenda.heap,c.agenda.where_,c.due)) c.due.length fun i hi=>?_).trans (aL ?_)
 · have e1:decide ((i:Int)<(c.due.length:Int))=true:=aJ (by omega)
   unfold uL;simp only [aF,e1,cond_true,aE c.due i hi,aB,aU (show i<1000000000 by omega),beq_self_eq_true,Bool.and_self,Bool.not_true,cond_false]
 · unfold uL
   have:decide ((c.due.length:Int)<(c.due.length:Int))=false:=dec_f (by omega)
   simp only [aF,this,cond_false]
structure aDe (c:aO):Prop where
 now:oY c.now
 at64: ∀w,w<c.agenda.heap.length->oY ((c.agenda.heap[w]!).1,(c.agenda.heap[w]!).2.1)
theorem YH (f:Field):vA f=some true\/(vA f=some false/\f.points.length<=70):=by
 unfold vA
 simp only [aF]
 by_cases h1:16<f.points.length
 · rw [aJ (show (16:Int)<(f.points.length:Int) by omega)]
   by_cases h2:f.points.length<64
   · rw [aJ (show (f.points.length:Int)<64 by omega)];exact .inl rfl
   · rw [dec_f (show¬(f.points.length:Int)<64 by omega)]
     by_cases h3:70<f.points.length
     · rw [aJ (show (70:Int)<(f.points.length:Int) by omega)];exact .inl rfl
     · rw [dec_f (show¬(70:Int)<(f.points.length:Int) by omega)];exact .inr ⟨rfl,by omega⟩
 · rw [dec_f (show¬(16:Int)<(f.points.length:Int) by omega),dec_f (show¬(70:Int)<(f.points.length:Int) by omega)]
   exact .inr ⟨rfl,by omega⟩
theorem YI (c:aO):vB c=some true\/(vB c=some false/\PQ c):=by
 unfold vB EH EG
 simp only [aF]
 by_cases h1:40<c.certs.list.length
 · rw [aJ (show (40:Int)<(c.certs.list.length:Int) by omega)];exact .inl rfl
 rw [dec_f (show¬(40:Int)<(c.certs.list.length:Int) by omega)]
 by_cases h2:40<c.due.length
 · rw [aJ (show (40:Int)<(c.due.length:Int) by omega)];exact .inl rfl
 rw [dec_f (show¬(40:Int)<(c.due.length:Int) by omega)]
 rcases YH c.field with e|⟨e,hf⟩
 · rw [e];exact .inl rfl
 rw [e];simp only [cond_false,aB]
 by_cases a1:210<c.agenda.slots.uses.length
 · rw [aJ (show (210:Int)<(c.agenda.slots.uses.length:Int) by omega)];exact .inl rfl
 rw [dec_f (show¬(210:Int)<(c.agenda.slots.uses.length:Int) by omega)]
 by_cases a2:210<c.agenda.slots.used.length
 · rw [aJ (show (210:Int)<(c.agenda.slots.used.length:Int) by omega)];exact .inl rfl
 rw [dec_f (show¬(210:Int)<(c.agenda.slots.used.length:Int) by omega)]
 by_cases a3:210<c.agenda.slots.free.length
 · rw [aJ (show (210:Int)<(c.agenda.slots.free.length:Int) by omega)];exact .inl rfl
 rw [dec_f (show¬(210:Int)<(c.agenda.slots.free.length:Int) by omega)]
 by_cases a4:210<c.agenda.heap.length
 · rw [aJ (show (210:Int)<(c.agenda.heap.length:Int) by omega)];exact .inl rfl
 rw [dec_f (show¬(210:Int)<(c.agenda.heap.length:Int) by omega)]
 by_cases a5:210<c.agenda.where_.length
 · rw [aJ (show (210:Int)<(c.agenda.where_.length:Int) by omega)];exact .inl rfl
 rw [dec_f (show¬(210:Int)<(c.agenda.where_.length:Int) by omega)]
 exact .inr ⟨rfl,⟨by omega,by omega,by omega,by omega,by omega,by omega,by omega,by omega⟩⟩
theorem aAH {c:aO} (sh:PQ c):iL c=some c:=by
 obtain ⟨h1,h2,h3,h4,h5,h6,h7,h8⟩:=sh;unfold iL pW pX mH nS;simp only [aX (show c.field.points.length<=1048576 by omega),aX (show c.certs.list.length<=1048576 by omega),aX (show c.due.length<=1048576 by omega),aX (show c.agenda.heap.length<=1048576 by omega),aX (show c.agenda.where_.length<=1048576 by omega),
  aX (show c.agenda.slots.uses.length<=1048576 by omega),aX (show c.agenda.slots.used.length<=1048576 by omega),aX (show c.agenda.slots.free.length<=1048576 by omega),aB]
theorem aB7 {a b:Int×Int} (ha:bQ a) (hb:bQ b) (h:a.1*b.2=b.1*a.2):a=b:=by
 obtain ⟨a1,_,a3⟩:=ha;obtain ⟨b1,_,b3⟩:=hb;have hn:a.1.natAbs*b.2.natAbs=b.1.natAbs*a.2.natAbs:=by rw [<- Int.natAbs_mul,<- Int.natAbs_mul,h]
 have d1:b.2.natAbs ∣ a.2.natAbs:=by
  have:b.2.natAbs ∣ b.1.natAbs*a.2.natAbs:=by rw [<- hn];exact Nat.dvd_mul_left _ _
  exact (Nat.Coprime.dvd_of_dvd_mul_left b3 this)
 have d2:a.2.natAbs ∣ b.2.natAbs:=by
  have:a.2.natAbs ∣ a.1.natAbs*b.2.natAbs:=by rw [hn];exact Nat.dvd_mul_left _ _
  exact (Nat.Coprime.dvd_of_dvd_mul_left a3 this)
 have e:a.2.natAbs=b.2.natAbs:=Nat.dvd_antisymm d2 d1;have e2:a.2=b.2:=by omega
 have e1:a.1=b.1:=by
  rw [e2] at h;exact Int.eq_of_mul_eq_mul_right (by omega) h
 exact Prod.ext e1 e2
theorem JP (p q:Pt) (t:Int×Int):OV p q t=(p.2.1-q.2.1)*t.2+(p.2.2-q.2.2)*t.1:=rfl
theorem L4 {l h:Pt} {t t':Int×Int} (d:1<=t.2) (d':1<=t'.2) (le:t.1*t'.2<=t'.1*t.2) (hB: ¬h.2.2<l.2.2) (hn: ¬eX l h t): ¬eX l h t':=by
 unfold eX at*;rw [JP] at*;generalize l.2.1-h.2.1=A at*;have hs:l.2.2-h.2.2<=0:=by omega
 intro hl;have key:(A*t'.2+(l.2.2-h.2.2)*t'.1)*t.2<=(A*t.2+(l.2.2-h.2.2)*t.1)*t'.2:=by
  have h1:(l.2.2-h.2.2)*(t'.1*t.2)<=(l.2.2-h.2.2)*(t.1*t'.2):=Int.mul_le_mul_of_nonpos_left hs le;have e1:(A*t'.2+(l.2.2-h.2.2)*t'.1)*t.2=A*t'.2*t.2+(l.2.2-h.2.2)*(t'.1*t.2):=by rw [Int.add_mul,Int.mul_assoc (l.2.2-h.2.2)]
  have e2:(A*t.2+(l.2.2-h.2.2)*t.1)*t'.2=A*t'.2*t.2+(l.2.2-h.2.2)*(t.1*t'.2):=by
   rw [Int.add_mul,Int.mul_assoc (l.2.2-h.2.2),Int.mul_assoc A,Int.mul_assoc A,Int.mul_comm t.2]
  omega
 rcases hl with hl|⟨hl,h2|⟨h2,h3⟩⟩
 · refine hn (.inl ?_)
   have:0<(A*t'.2+(l.2.2-h.2.2)*t'.1)*t.2:=Int.mul_pos hl (by omega)
   have k:0<(A*t.2+(l.2.2-h.2.2)*t.1)*t'.2:=by omega
   exact Int.pos_of_mul_pos_left k (by omega)
 · omega
 · have z:l.2.2-h.2.2=0:=by omega
   rw [z] at hl hn
   have:A=0:=by
    have:A*t'.2=0:=by omega
    rcases Int.mul_eq_zero.1 this with h|h
    · exact h
    · omega
   subst this;exact hn (.inr ⟨by omega,.inr ⟨h2,h3⟩⟩)
theorem PR {h l:Pt} {t t':Int×Int} (hh:gP h) (hl:gP l) (r:bQ t) (r':bQ t') (le:t.1*t'.2<=t'.1*t.2) (up:(mX h l t).2=true->t'.1*(mX h l t).1.2<=(mX h l t).1.1*t'.2):
 mX h l t'=mX h l t:=by
 unfold mX at*
 by_cases h1:eX l h t
 · rw [if_pos h1] at up ⊢
   have e:t=t':=aB7 r r' (by have:=up rfl;dsimp only at this;omega)
   subst e;rw [if_pos h1]
 · rw [if_neg h1] at up ⊢
   by_cases h2:h.2.2<l.2.2
   · rw [if_pos h2] at up ⊢
     obtain ⟨_,m1,m2,m3⟩:=KX hh hl (show h.2.2≠l.2.2 by omega)
     have up:=up rfl;dsimp only at up
     by_cases h3:eX l h t'
     · rw [if_pos h3]
       have:t'=met h l:=by
        refine aB7 r' m1 ?_;have g:0<=OV l h t':=by rcases h3 with k|k<;>omega
        rw [JP] at g;generalize met h l=m at*;have d:=m1.1;have hB:0<l.2.2-h.2.2:=by omega
        generalize l.2.2-h.2.2=B at*;generalize hA:h.2.1-l.2.1=A at*;have g2:A*t'.2<=B*t'.1:=by
         have:(l.2.1-h.2.1)*t'.2= -(A*t'.2):=by rw [<- Int.neg_mul];congr 1;omega
         omega
        have g3:m.1*t'.2*B<=t'.1*m.2*B:=by
         have e1:m.1*t'.2*B=A*t'.2*m.2:=by
          rw [Int.mul_right_comm,m3,Int.mul_right_comm]
         have e2:t'.1*m.2*B=B*t'.1*m.2:=by
          rw [Int.mul_right_comm,Int.mul_comm t'.1 B]
         rw [e1,e2];exact Int.mul_le_mul_of_nonneg_right g2 (by omega)
        have g4:m.1*t'.2<=t'.1*m.2:=Int.le_of_mul_le_mul_right g3 hB;omega
       rw [this]
     · rw [if_neg h3]
   · rw [if_neg h2] at up ⊢
     rw [if_neg (L4 r.1 r'.1 le h2 h1)]
theorem K7 {a:aP} (ok:fE a): ∀k,k<a.heap.length-> ¬dU a.heap[k]! a.heap[0]!:=by
 have d: ∀w,w<a.heap.length->1<=(a.heap[w]!).2.1:=fun w hw=>(ok.ev w hw).1.1
 intro k
 induction k using Nat.strongRecOn with
 |ind k ih=>
  intro hk
  by_cases h0:k=0
  · subst h0;exact fun h=>pZ h h
  · exact BF (d 0 (by omega)) (d ((k-1) / 2) (by omega)) (d k hk) (ih ((k-1) / 2) (by omega) (by omega)) (ok.ord k (by omega) hk)
theorem aFu {h l:Pt} {t:Int×Int} (hh:gP h) (hl:gP l) (r:bQ t) (is:(mX h l t).2=true):t.1*(mX h l t).1.2<=(mX h l t).1.1*t.2:=by
 unfold mX at*
 by_cases h1:eX l h t
 · rw [if_pos h1];exact Int.le_refl _
 · rw [if_neg h1] at is ⊢
   by_cases h2:h.2.2<l.2.2
   · rw [if_pos h2]
     obtain ⟨_,m1,m2,m3⟩:=KX hh hl (show h.2.2≠l.2.2 by omega)
     dsimp only;have g:OV l h t<=0:=Int.not_lt.1 fun k=>h1 (.inl k)
     rw [JP] at g;generalize met h l=m at*;have d:=m1.1;have d2:=r.1;have hB:0<l.2.2-h.2.2:=by omega
     generalize l.2.2-h.2.2=B at*;generalize hA:h.2.1-l.2.1=A at*;have g2:B*t.1<=A*t.2:=by
      have:(l.2.1-h.2.1)*t.2= -(A*t.2):=by rw [<- Int.neg_mul];congr 1;omega
      omega
     have e1:t.1*m.2*B=B*t.1*m.2:=by rw [Int.mul_right_comm,Int.mul_comm t.1 B]
     have e2:m.1*t.2*B=A*t.2*m.2:=by rw [Int.mul_right_comm,m3,Int.mul_right_comm]
     have g3:t.1*m.2*B<=m.1*t.2*B:=by
      rw [e1,e2];exact Int.mul_le_mul_of_nonneg_right g2 (by omega)
     exact Int.le_of_mul_le_mul_right g3 hB
   · rw [if_neg h2] at is;cases is
theorem aT.time {l:List Pt} {t t':Int×Int} {H:List Ev}: ∀{cs ds:List vO},(∀x∈cs,bH l x.2 t'=bH l x.2 t)->aT l t H cs ds->aT l t' H cs ds
 | [],_,_,h=>h
 |x::cs,ds,hw,h=>by
  have e:=hw x List.mem_cons_self;have ih: ∀{ds},aT l t H cs ds->aT l t' H cs ds:=fun {ds}=>aT.time fun y hy=>hw y (List.mem_cons_of_mem _ hy)
  refine ⟨fun hy=>?_,fun hy=>?_⟩
  · rw [e] at hy
    obtain ⟨d,ds',h1,h2,h3,h4⟩:=h.1 hy;exact ⟨d,ds',h1,h2,by rw [e];exact h3,ih h4⟩
  · rw [e] at hy
    exact ih (h.2 hy)
theorem aAI {c:aO} (ok:aV c) (hne:0<c.agenda.heap.length):
 ∃(i:Nat) (c':aO),i<c.certs.list.length/\(c.certs.list[i]!).1=Ev.num c.agenda.heap[0]!/\mJ c (Ev.num c.agenda.heap[0]!)=some (c',(c.certs.list[i]!).2,0)/\pY c (Ev.num c.agenda.heap[0]!)=some c'/\
  aV ⟨Ev.at c.agenda.heap[0]!,c'.field,c'.certs,c'.agenda,c'.due⟩/\c'.field=c.field/\c'.certs=oT c.certs i/\c.now.1*(Ev.at c.agenda.heap[0]!).2<=(Ev.at c.agenda.heap[0]!).1*c.now.2:=by
 have hm:=bL hne;obtain ⟨d,hd,hn⟩:=ok.nums _ hm;obtain ⟨x,hx,h1,h2,h3⟩:=ok.fol.due d hd;obtain ⟨w,hw,he⟩:=aW.1 h3;have hw0:w=0:=Classical.byContradiction fun hx=>by
  refine ok.agd.nd 0 w (by omega) hw ?_
  rw [he,<- hn,h1]
 subst hw0;obtain ⟨i,hi,rfl⟩:=aW.1 hx;have num:(c.certs.list[i]!).1=Ev.num c.agenda.heap[0]!:=by rw [<- hn,h1]
 have tm:Ev.at c.agenda.heap[0]! =(bH c.field.points (c.certs.list[i]!).2 c.now).1:=by rw [he]
 obtain ⟨c',r1,r2,r3,r4,r5,r6⟩:=aFq ok hi;have hb:=ok.known i hi;have pt:=fun (x:Int×Int) (hb:jS c.field.points x)=>And.intro (dN ok.fld hb.2).1 (dN ok.fld hb.1).1
 have rt:=JD (pt _ hb).1 (pt _ hb).2 ok.now64 ok.nowv h2;have ge:=aFu (pt _ hb).1 (pt _ hb).2 ok.nowv h2;rw [num] at r1 r2;refine ⟨i,c',hi,num,r1,r2,?_,r4,r6,by rw [tm];exact ge⟩
 have kn:=E0 ok i hi;refine ⟨by rw [tm];exact rt.1,by rw [tm];exact rt.2,r3.fld,r3.crt,r3.agd,r3.w200,r3.hd,r3.known,?_⟩
 refine aT.time (t:=c'.now) (fun y hy=>?_) r3.fol
 have hy':y∈c.certs.list:=by
  rw [r6] at hy;exact (wV ok.crt_up hi hy).1
 obtain ⟨j,hj,rfl⟩:=aW.1 hy';have hbj:=ok.known j hj;rw [r4,r5];refine PR (pt _ hbj).1 (pt _ hbj).2 ok.nowv (by rw [tm];exact rt.1) (by rw [tm];exact ge) (fun is=>?_)
 obtain ⟨d',hd',k1,k2⟩:=ok.fol.has _ hy' is;obtain ⟨w,hw,he⟩:=aW.1 k2
 have:=K7 ok.agd w hw
 rw [he] at this;exact Int.not_lt.1 fun k=>this (.inl (zS.2 k))
theorem MF {p q:Pt} {t:Int×Int} (hp:gP p) (hq:gP q) (ht:oY t) (hr:bQ t):rM p q t=some (decide (eX p q t),if p.1=q.1 then 2 else 0)\/(p.1=q.1/\rM p q t=some (false,2)):=by
 unfold rM;rw [AI ht,if_pos ⟨hp,hq,hr⟩]
 by_cases h:p.1=q.1
 · right;simp [h]
 · left
   simp only [h,if_false,aB,zQ hp hq ht]
   have:decide (0<aAq p q t)=decide (eX p q t):=by simp only [OW]
   simp [this]
end Go.Proofs.YtlnclppkepgdmaaGreat
namespace Go.Proofs.YtlnclppkepgdmaaGreat
theorem yF {α:Type} [BEq α] [LawfulBEq α]: ∀{a b:List α},a.Nodup->(∀x∈a,x∈b)->b.length<=a.length->a.Perm b
 | [],b,_,_,hl=>by
  rw [List.eq_nil_of_length_eq_zero (show b.length=0 by simpa using hl)]
 |x::a,b,hd,h,hl=>by
  rw [List.nodup_cons] at hd;have hx:=h x List.mem_cons_self;have ih:=yF (a:=a) (b:=b.erase x) hd.2 (fun y hy=>by
   rw [List.mem_erase_of_ne (fun e=>hd.1 (by rw [<- e];exact hy))]
   exact h y (List.mem_cons_of_mem _ hy)) (by
   rw [List.length_erase_of_mem hx];rw [List.length_cons] at hl
   omega)
  exact (List.Perm.cons x ih).trans (List.perm_cons_erase hx).symm
theorem C0 {α β:Type} {f:α->β}: ∀{l:List α},l.Nodup->(∀x∈l,∀y∈l,f x=f y->x=y)->(l.map f).Nodup
 | [],_,_=>List.nodup_nil
 |x::l,h,hi=>by
  rw [List.nodup_cons] at h;rw [List.map_cons,List.nodup_cons];refine ⟨fun hm=>?_,C0 h.2 fun y hy z hz=>hi y (List.mem_cons_of_mem _ hy) z (List.mem_cons_of_mem _ hz)⟩
  obtain ⟨y,hy,e⟩:=List.mem_map.1 hm
  have:=hi y (List.mem_cons_of_mem _ hy) x List.mem_cons_self e
  rw [this] at hy;exact h.1 hy
end Go.Proofs.YtlnclppkepgdmaaGreat
namespace Go.Proofs.YtlnclppkepgdmaaGreat
open Go.Vm Classical
def K8 (l:List Int) (k:Nat):List (Int×Int):=(List.range k).map fun i=>(l[i+1]!,l[i / 2]!)
abbrev E2 (l:List Int):List (Int×Int):=K8 l (l.length-1)
theorem HN (l:List Int) (k:Nat):(K8 l k).length=k:=by unfold K8;rw [List.length_map,List.length_range]
theorem L5 (l:List Int) {k i:Nat} (h:i<k):(K8 l k)[i]! =(l[i+1]!,l[i / 2]!):=by
 rw [getElem!_pos _ i (by rw [HN];exact h)]
 unfold K8;rw [List.getElem_map,List.getElem_range]
theorem YJ {l:List Int} (hd:l.Nodup):(E2 l).Nodup:=by
 unfold E2 K8;refine C0 List.nodup_range fun i hi j hj h=>?_
 rw [List.mem_range] at hi hj;have h1:l[i+1]! =l[j+1]!:=congrArg Prod.fst h;have h2:=iN.1 hd;rcases Nat.lt_trichotomy i j with k|k|k
 · exact absurd h1 (h2 (i+1) (j+1) (by omega) (by omega))
 · exact k
 · exact absurd h1.symm (h2 (j+1) (i+1) (by omega) (by omega))
theorem aMN {f:List Pt} (fok:cZ f) {t:Int×Int} (r64:oY t) {x:Int×Int} (hb:jS f x):CL x ⟨f⟩ t=some (decide (eX (gN f x.2) (gN f x.1) t)):=by
 obtain ⟨h1,h2⟩:=hb;obtain ⟨j,j1,j2,j3⟩:=CZ fok h1;obtain ⟨k,k1,k2,k3⟩:=CZ fok h2;unfold CL;simp only [j2,k2,aB,aE f j j1,aE f k k1,j3,k3,OX (dN fok h2).1 (dN fok h1).1 r64]
def qV (f:List Pt):List Int:=f.map fun p=>p.1
theorem SJ {f:List Pt} (h:hU f):(qV f).Nodup:=by
 refine C0 ?_ ?_
 · exact iN.2 fun i j hij hj e=>by have:=oR h hij hj;rw [e] at this;omega
 · intro x hx y hy e
   obtain ⟨i,hi,rfl⟩:=aW.1 hx;obtain ⟨j,hj,rfl⟩:=aW.1 hy;rw [HJ h hi hj e]
theorem MV {f:List Pt} {id:Int}:id∈qV f↔oF f id:=by
 unfold qV oF;rw [List.mem_map];constructor
 · rintro ⟨p,hp,rfl⟩
   obtain ⟨i,hi,rfl⟩:=aW.1 hp;exact ⟨i,hi,rfl⟩
 · rintro ⟨i,hi,rfl⟩
   exact ⟨f[i]!,bL hi,rfl⟩
structure yG (k:GF):Prop where
 clk:aV k.clock
 perm:(qV k.clock.field.points).Perm k.heap
 cert:(k.clock.certs.list.map fun x=>x.2).Perm (E2 k.heap)
 lead: ∀e∈E2 k.heap,eX (gN k.clock.field.points e.2) (gN k.clock.field.points e.1) k.clock.now
theorem E3 {c:bI} (ok:fC c):(c.list.map fun x=>x.2).Nodup:=by
 refine C0 ?_ ?_
 · exact iN.2 fun i j hij hj e=>ok.nd i j hij hj (by rw [e])
 · intro x hx y hy e
   obtain ⟨i,hi,rfl⟩:=aW.1 hx;obtain ⟨j,hj,rfl⟩:=aW.1 hy;rcases Nat.lt_trichotomy i j with k|k|k
   · exact absurd e (ok.nd i j k hj)
   · rw [k]
   · exact absurd e.symm (ok.nd j i k hi)
theorem yH {l:List vO} {x:Int×Int}:wB l x↔x∈l.map fun y=>y.2:=by
 unfold wB;rw [List.mem_map];constructor
 · rintro ⟨i,hi,rfl⟩;exact ⟨l[i]!,bL hi,rfl⟩
 · rintro ⟨y,hy,rfl⟩
   obtain ⟨i,hi,rfl⟩:=aW.1 hy;exact ⟨i,hi,rfl⟩
theorem JQ {α:Type} {p q:Prop} [Decidable p] [Decidable q] {a b:α} (h:p↔q):(if p then a else b)=if q then a else b:=by
 by_cases hp:p
 · rw [if_pos hp,if_pos (h.1 hp)]
 · rw [if_neg hp,if_neg (fun k=>hp (h.2 k))]
theorem aMO {c:aO} (ok:aV c) (es:List (Int×Int)) (kn: ∀x∈es,jS c.field.points x):
 CN c es=some (decide (c.certs.list.length=es.length/\ ∀i,i<es.length->wB c.certs.list es[i]!/\eX (gN c.field.points (es[i]!).2) (gN c.field.points (es[i]!).1) c.now)):=by
 have bd:=ok.bd;unfold CN;simp only [aF]
 by_cases h0:c.certs.list.length=es.length
 case neg=>rw [dH (by omega),cond_true,dec_f (fun h=>h0 h.1)]
 rw [bO (by omega),cond_false]
 have key:=qA (body:=uF) (fun i=>(es,(i:Int),c.now.1,c.now.2,c.field.points,c.certs.next_,c.certs.list,c.agenda.slots.uses,c.agenda.slots.used,c.agenda.slots.free,c.agenda.heap,c.agenda.where_,c.due)) es.length
  (fun i=>wB c.certs.list es[i]!/\eX (gN c.field.points (es[i]!).2) (gN c.field.points (es[i]!).1) c.now) (r:=false) (e:=true) (fun i hi=>by
  have ceta2:bI.mk c.certs.next_ c.certs.list=c.certs:=rfl;unfold uF;simp only [aF,aJ (show (i:Int)<(es.length:Int) by omega),cond_true,aE es i hi,aB,ceta2,CY c.certs es[i]! (by omega),aMN ok.fld (t:=(c.now.1,c.now.2)) ok.now64 (kn _ (bL hi)),aU (show i<1000000000 by omega)]
  by_cases h1:wB c.certs.list es[i]!
  · rw [aJ h1]
    by_cases h2:eX (gN c.field.points (es[i]!).2) (gN c.field.points (es[i]!).1) c.now
    · rw [show decide (eX (gN c.field.points (es[i]!).2) (gN c.field.points (es[i]!).1) (c.now.1,c.now.2))=true from aJ h2]
      exact ⟨fun h=>absurd ⟨h1,h2⟩ h,fun _=>rfl⟩
    · rw [show decide (eX (gN c.field.points (es[i]!).2) (gN c.field.points (es[i]!).1) (c.now.1,c.now.2))=false from dec_f h2]
      exact ⟨fun _=>rfl,fun h=>absurd h.2 h2⟩
  · rw [dec_f h1]
    exact ⟨fun _=>rfl,fun h=>absurd h.1 h1⟩) (by
  unfold uF;simp only [aF,dec_f (show¬(es.length:Int)<(es.length:Int) by omega),cond_false])
 refine (show _=_ from key).trans ?_
 by_cases h2: ∀i,i<es.length->wB c.certs.list es[i]!/\eX (gN c.field.points (es[i]!).2) (gN c.field.points (es[i]!).1) c.now
 · rw [if_pos h2,aJ ⟨h0,h2⟩]
 · rw [if_neg h2,dec_f (fun h=>h2 h.2)]
def bR (p w:List Int) (i:Nat):Int:=if i<w.length then w[i]! else p[i-w.length]!
def lU (i j:Nat):Prop:= ∃d,(j+1) / 2^d=i+1
theorem lU.refl (i:Nat):lU i i:=⟨0,by simp⟩
theorem qW {i k j:Nat} (hk:k=2*i+1\/k=2*i+2) (h:lU k j):lU i j:=by
 obtain ⟨d,hd⟩:=h;refine ⟨d+1,?_⟩;rw [Nat.pow_succ,<- Nat.div_div_eq_div_mul,hd];omega
theorem MW {a b c d:Nat} (h:a<=b) (hc:(c+1) / 2^a=d):(c+1) / 2^b=d / 2^(b-a):=by
 have:2^b=2^a*2^(b-a):=by rw [<- Nat.pow_add];congr 1;omega
 rw [this,<- Nat.div_div_eq_div_mul,hc]
theorem YK {x e:Nat} (he:0<e):x / 2^e<=x / 2:=by
 obtain ⟨k,rfl⟩: ∃k,e=k+1:=⟨e-1,by omega⟩
 rw [show 2^(k+1)=2*2^k by rw [Nat.pow_succ];omega,<- Nat.div_div_eq_div_mul]
 exact Nat.div_le_self _ _
theorem vQ {i j:Nat} (h1:lU (2*i+1) j) (h2:lU (2*i+2) j):False:=by
 obtain ⟨a,ha⟩:=h1;obtain ⟨b,hb⟩:=h2;rcases Nat.lt_trichotomy a b with h|h|h
 · have:=MW (Nat.le_of_lt h) ha
   have:=YK (x:=2*i+1+1) (e:=b-a) (by omega)
   omega
 · subst h;omega
 · have:=MW (Nat.le_of_lt h) hb
   have:=YK (x:=2*i+2+1) (e:=a-b) (by omega)
   omega
theorem aFv {i k j1 j2:Nat} (h1:lU (2*i+1) j1) (h2:lU (2*i+2) j2) (g:(lU (2*k+1) j1/\lU (2*k+2) j2)\/(lU (2*k+1) j2/\lU (2*k+2) j1)):i=k:=by
 have main: ∀{i k j1 j2:Nat},lU (2*i+1) j1\/lU (2*i+2) j1->lU i j2->(lU (2*k+1) j1/\lU (2*k+2) j2)\/(lU (2*k+1) j2/\lU (2*k+2) j1)-> ∀a a':Nat,(j1+1) / 2^a=i+1->(j1+1) / 2^a'=k+1->a<a'->False:=by
  intro i k j1 j2 _ u2 g a a' ha ha' hlt;have e:=MW (Nat.le_of_lt hlt) ha;rw [ha'] at e;obtain ⟨c,hc⟩: ∃c,a'-a=c+1:=⟨a'-a-1,by omega⟩
  rw [hc,Nat.pow_succ,<- Nat.div_div_eq_div_mul] at e;have q: ∃m,(i+1) / 2^c=m+1/\(m=2*k+1\/m=2*k+2):=⟨(i+1) / 2^c-1,by omega,by omega⟩
  obtain ⟨m,hm,hmk⟩:=q;have um: ∀j,lU i j->lU m j:=fun j ⟨d,hd⟩=>⟨d+c,by
   rw [MW (Nat.le_add_right d c) hd,show d+c-d=c by omega,hm]⟩
  have u1:lU i j1:=⟨a,ha⟩;have v1:=um _ u1;have v2:=um _ u2;rcases hmk with rfl|rfl
  · rcases g with g|g
    · exact vQ v2 g.2
    · exact vQ v1 g.2
  · rcases g with g|g
    · exact vQ g.1 v1
    · exact vQ g.1 v2
 have i1:lU i j1:=qW (.inl rfl) h1;have i2:lU i j2:=qW (.inr rfl) h2;have k1:lU k j1:=by rcases g with g|g;exact qW (.inl rfl) g.1;exact qW (.inr rfl) g.2
 have k2:lU k j2:=by rcases g with g|g;exact qW (.inr rfl) g.2;exact qW (.inl rfl) g.1
 obtain ⟨a,ha⟩:=i1;obtain ⟨a',ha'⟩:=k1;rcases Nat.lt_trichotomy a a' with h|h|h
 · exact (main (.inl h1) i2 g a a' ha ha' h).elim
 · subst h;omega
 · exact (main (i:=k) (k:=i) (j1:=j1) (j2:=j2) (by rcases g with g|g;exact .inl g.1;exact .inr g.2) k2 (.inl ⟨h1,h2⟩) a' a ha' ha h).elim
def C1 (p w:List Int):Prop:= ∀i,i<w.length->w[i]! =bR p w (2*i+1)\/w[i]! =bR p w (2*i+2)
theorem C2 {p w:List Int} (hl:w.length+1=p.length) (hc:C1 p w): ∀(d i:Nat),w.length+p.length-i<=d->i<w.length+p.length-> ∃j,w.length<=j/\j<w.length+p.length/\lU i j/\p[j-w.length]! =bR p w i:=by
 intro d
 induction d with
 |zero=>intro i h1 h2;omega
 |succ d ih=>
  intro i h1 h2
  by_cases hi:i<w.length
  · rcases hc i hi with e|e
    · obtain ⟨j,j1,j2,j3,j4⟩:=ih (2*i+1) (by omega) (by omega)
      refine ⟨j,j1,j2,qW (.inl rfl) j3,?_⟩;rw [j4,<- e];unfold bR;rw [if_pos hi]
    · obtain ⟨j,j1,j2,j3,j4⟩:=ih (2*i+2) (by omega) (by omega)
      refine ⟨j,j1,j2,qW (.inr rfl) j3,?_⟩;rw [j4,<- e];unfold bR;rw [if_pos hi]
  · refine ⟨i,by omega,h2,.refl i,?_⟩
    unfold bR;rw [if_neg hi]
def HO (p:List Int):Prop:= ∀i j,i<j->j<p.length->p[i]! =p[j]!->p[i]!<0
theorem HO.inj {p:List Int} (h:HO p) {i j:Nat} (hi:i<p.length) (hj:j<p.length) (e:p[i]! =p[j]!) (h0:0<=p[i]!):i=j:=by
 rcases Nat.lt_trichotomy i j with k|k|k
 · have:=h i j k hj e;omega
 · exact k
 · have:=h j i k hi e.symm;rw [<- e] at this;omega
section
variable {p w : List Int} (hl : w.length + 1 = p.length) (hc : C1 p w) (ho : HO p)
include hl hc
theorem jT {i:Nat} (hi:i<w.length+p.length):bR p w i∈p:=by
 obtain ⟨j,j1,j2,_,e⟩:=C2 hl hc _ i (Nat.le_refl _) hi;rw [<- e];exact bL (by omega)
include ho
theorem MX {i:Nat} (hi:i<w.length) (h0:0<=bR p w (2*i+1)):bR p w (2*i+1)≠bR p w (2*i+2):=by
 intro e;obtain ⟨j,j1,j2,j3,j4⟩:=C2 hl hc _ (2*i+1) (Nat.le_refl _) (by omega)
 obtain ⟨k,k1,k2,k3,k4⟩:=C2 hl hc _ (2*i+2) (Nat.le_refl _) (by omega)
 have:=ho.inj (i:=j-w.length) (j:=k-w.length) (by omega) (by omega) (by rw [j4,k4,e]) (by rw [j4];exact h0)
 obtain rfl:j=k:=by omega
 exact vQ j3 k3
theorem aFw {i k:Nat} (hi:i<w.length) (hk:k<w.length) (h1:0<=bR p w (2*i+1)) (h2:0<=bR p w (2*i+2))
 (g:(bR p w (2*k+1)=bR p w (2*i+1)/\bR p w (2*k+2)=bR p w (2*i+2))\/(bR p w (2*k+1)=bR p w (2*i+2)/\bR p w (2*k+2)=bR p w (2*i+1))):i=k:=by
 obtain ⟨j1,a1,a2,a3,a4⟩:=C2 hl hc _ (2*i+1) (Nat.le_refl _) (by omega)
 obtain ⟨j2,b1,b2,b3,b4⟩:=C2 hl hc _ (2*i+2) (Nat.le_refl _) (by omega)
 obtain ⟨l1,c1,c2,c3,c4⟩:=C2 hl hc _ (2*k+1) (Nat.le_refl _) (by omega)
 obtain ⟨l2,d1,d2,d3,d4⟩:=C2 hl hc _ (2*k+2) (Nat.le_refl _) (by omega)
 have same: ∀{x y:Nat},w.length<=x->x<w.length+p.length->w.length<=y->y<w.length+p.length->p[x-w.length]! =p[y-w.length]!->0<=p[x-w.length]!->x=y:=fun {x y} hx hx' hy hy' e h0=>by
  have:=ho.inj (i:=x-w.length) (j:=y-w.length) (by omega) (by omega) e h0
  omega
 refine aFv a3 b3 ?_;rcases g with ⟨g1,g2⟩|⟨g1,g2⟩
 · have e1:j1=l1:=same a1 a2 c1 c2 (by rw [a4,c4,g1]) (by rw [a4];exact h1)
   have e2:j2=l2:=same b1 b2 d1 d2 (by rw [b4,d4,g2]) (by rw [b4];exact h2)
   subst e1 e2;exact .inl ⟨c3,d3⟩
 · have e1:j2=l1:=same b1 b2 c1 c2 (by rw [b4,c4,g1]) (by rw [b4];exact h2)
   have e2:j1=l2:=same a1 a2 d1 d2 (by rw [a4,d4,g2]) (by rw [a4];exact h1)
   subst e1 e2;exact .inr ⟨c3,d3⟩
end
noncomputable def F0 (f:List Pt) (t:Int×Int) (x y:Int):Int:=if x<0 then y else if y<0 then x else if eX (gN f x) (gN f y) t then x else y
theorem aMP (f:List Pt) (t:Int×Int) (x y:Int):F0 f t x y=x\/F0 f t x y=y:=by
 unfold F0;split
 · exact .inr rfl
 · split
   · exact .inl rfl
   · split
     · exact .inl rfl
     · exact .inr rfl
def SK (f:List Pt) (t:Int×Int) (p w:List Int):Prop:=w.length+1=p.length/\ ∀i,i<w.length->w[i]! =F0 f t (bR p w (2*i+1)) (bR p w (2*i+2))
theorem SK.chosen {f:List Pt} {t:Int×Int} {p w:List Int} (h:SK f t p w):C1 p w:=fun i hi=>by
 rw [h.2 i hi];exact aMP ..
noncomputable def SL (f:List Pt) (t:Int×Int) (p:List Int):Nat->List Int->List Int
 |0,w=>w
 |i+1,w=>SL f t p i (w.set i (F0 f t (bR p w (2*i+1)) (bR p w (2*i+2))))
noncomputable def bG (f:List Pt) (t:Int×Int) (p:List Int):List Int:=SL f t p (p.length-1) (List.replicate (p.length-1) 0)
theorem SM {p w:List Int} {i k:Nat} {v:Int} (h:i≠k):bR p (w.set i v) k=bR p w k:=by
 unfold bR;rw [List.length_set];split
 · rw [bE,if_neg (fun x=>h x.1.symm)]
 · rfl
theorem SN {f:List Pt} {t:Int×Int} {p:List Int}: ∀(n:Nat) (w:List Int),n<=w.length->(∀i,n<=i->i<w.length->w[i]! =F0 f t (bR p w (2*i+1)) (bR p w (2*i+2)))->
 (SL f t p n w).length=w.length/\ ∀i,i<w.length->(SL f t p n w)[i]! =F0 f t (bR p (SL f t p n w) (2*i+1)) (bR p (SL f t p n w) (2*i+2))
 |0,w,_,h=>⟨rfl,fun i hi=>h i (Nat.zero_le _) hi⟩
 |n+1,w,hn,h=>by
  have ih:=SN n (w.set n (F0 f t (bR p w (2*n+1)) (bR p w (2*n+2)))) (by rw [List.length_set];omega) (fun i h1 h2=>by
   rw [List.length_set] at h2;rw [SM (by omega),SM (by omega),bE]
   split
   · rename_i e;rw [e.1]
   · exact h i (by omega) h2)
  rw [List.length_set] at ih;exact ih
theorem eC {f:List Pt} {t:Int×Int} {p:List Int} (hp:1<=p.length):SK f t p (bG f t p):=by
 have:=SN (f:=f) (t:=t) (p:=p) (p.length-1) (List.replicate (p.length-1) 0) (by rw [List.length_replicate];omega) (fun i h1 h2=>by rw [List.length_replicate] at h2;omega)
 rw [List.length_replicate] at this;have hl:(bG f t p).length=p.length-1:=this.1;exact ⟨by omega,fun i hi=>this.2 i (by omega)⟩
theorem SP {f:List Pt} {t:Int×Int} {p w v:List Int} (h:SK f t p w) (g:SK f t p v):w=v:=by
 have hl:w.length=v.length:=by have:=h.1;have:=g.1;omega
 have key: ∀(d i:Nat),w.length-i<=d->i<w.length->w[i]! =v[i]!:=by
  intro d
  induction d with
  |zero=>intro i h1 h2;omega
  |succ d ih=>
   intro i _ hi;have nd: ∀k,i<k->bR p w k=bR p v k:=fun k hk=>by
    unfold bR;rw [hl];split
    · rename_i h';exact ih k (by omega) (by omega)
    · rfl
   rw [h.2 i hi,g.2 i (by omega),nd _ (by omega),nd _ (by omega)]
 exact vN hl fun i hi=>key _ i (Nat.le_refl _) hi
noncomputable def DN (p w:List Int) (i:Nat):Option (Int×Int):=
 if bR p w (2*i+1)<0\/bR p w (2*i+2)<0 then none
 else if w[i]! =bR p w (2*i+1) then some (bR p w (2*i+2),bR p w (2*i+1)) else some (bR p w (2*i+1),bR p w (2*i+2))
noncomputable def gI (p w:List Int):List (Int×Int):=(List.range w.length).filterMap (DN p w)
theorem PS (p w:List Int):(gI p w).length<=w.length:=by
 have:=List.length_filterMap_le (DN p w) (List.range w.length)
 rwa [List.length_range] at this
theorem HP {p w:List Int} {e:Int×Int}:e∈gI p w↔ ∃i,i<w.length/\DN p w i=some e:=by
 unfold gI;rw [List.mem_filterMap];constructor
 · rintro ⟨i,hi,h⟩;exact ⟨i,List.mem_range.1 hi,h⟩
 · rintro ⟨i,hi,h⟩;exact ⟨i,List.mem_range.2 hi,h⟩
theorem C3 {p w:List Int} {i:Nat} {e:Int×Int} (h:DN p w i=some e):0<=bR p w (2*i+1)/\0<=bR p w (2*i+2)/\
 ((e=(bR p w (2*i+2),bR p w (2*i+1))/\w[i]! =bR p w (2*i+1))\/(e=(bR p w (2*i+1),bR p w (2*i+2))/\w[i]!≠bR p w (2*i+1))):=by
 unfold DN at h;split at h
 · cases h
 · rename_i hn
   refine ⟨by omega,by omega,?_⟩
   split at h
   · rename_i h1;injection h with h;exact .inl ⟨h.symm,h1⟩
   · rename_i h1;injection h with h;exact .inr ⟨h.symm,h1⟩
theorem DO {α β:Type} {g:α->Option β}: ∀{l:List α},l.Nodup->(∀x∈l,∀y∈l,∀b,g x=some b->g y=some b->x=y)->(l.filterMap g).Nodup
 | [],_,_=> .nil
 |a::r,h,hi=>by
  obtain ⟨h1,h2⟩:=List.nodup_cons.1 h;have ih:=DO (g:=g) h2 (fun x hx y hy b e1 e2=>hi x (List.mem_cons_of_mem _ hx) y (List.mem_cons_of_mem _ hy) b e1 e2)
  cases hg:g a with
  |none=>rw [List.filterMap_cons_none hg];exact ih
  |some b=>
   rw [List.filterMap_cons_some hg];refine List.nodup_cons.2 ⟨fun hb=>?_,ih⟩
   obtain ⟨y,hy,e⟩:=List.mem_filterMap.1 hb
   have:=hi a (List.mem_cons_self ..) y (List.mem_cons_of_mem _ hy) b hg e
   subst this;exact h1 hy
theorem UU {p w:List Int} (hl:w.length+1=p.length) (hc:C1 p w) (ho:HO p):(gI p w).Nodup:=by
 refine DO List.nodup_range fun i hi k hk b e1 e2=>?_
 have hi:=List.mem_range.1 hi;have hk:=List.mem_range.1 hk;obtain ⟨a1,a2,a3⟩:=C3 e1;obtain ⟨b1,b2,b3⟩:=C3 e2;refine aFw hl hc ho hi hk a1 a2 ?_;rcases a3 with ⟨rfl,_⟩|⟨rfl,_⟩<;>rcases b3 with ⟨h,_⟩|⟨h,_⟩<;>(injection h with h1 h2)
 · exact .inl ⟨h2.symm,h1.symm⟩
 · exact .inr ⟨h1.symm,h2.symm⟩
 · exact .inr ⟨h2.symm,h1.symm⟩
 · exact .inl ⟨h1.symm,h2.symm⟩
theorem aDf {f:List Pt} (fok:cZ f) {p w:List Int} (hl:w.length+1=p.length) (hn:p.length<=64) (hc:C1 p w) (ho:HO p) (hk: ∀x∈p,0<=x->oF f x):JO f (gI p w):=by
 have hp: ∀e∈gI p w,jS f e/\e.1≠e.2:=fun e he=>by
  obtain ⟨i,hi,h⟩:=HP.1 he;obtain ⟨a1,a2,a3⟩:=C3 h;have m1:=jT hl hc (i:=2*i+1) (by omega)
  have m2:=jT hl hc (i:=2*i+2) (by omega)
  have ne:=MX hl hc ho hi a1;rcases a3 with ⟨rfl,_⟩|⟨rfl,_⟩
  · exact ⟨⟨hk _ m2 a2,hk _ m1 a1⟩,fun h=>ne h.symm⟩
  · exact ⟨⟨hk _ m1 a1,hk _ m2 a2⟩,ne⟩
 refine ⟨by have:=PS p w;omega,fun e he=>?_,fun e he=>(hp e he).1⟩
 obtain ⟨⟨h1,h2⟩,ne⟩:=hp e he;obtain ⟨⟨p1,p2⟩,q1,q2⟩:=And.intro (dN fok h1) (dN fok h2);unfold gP at p1 q1;unfold fV;omega
end Go.Proofs.YtlnclppkepgdmaaGreat
