/- Plain laws (3). -/
import Derived.Test.YticklbjcnimggaaGreatBQM2
import Derived.Test.YticklbjcnimggaaGreatBQS2
namespace Go.Proofs.YticklbjcnimggaaGreat
open Go.Vm Classical
theorem TA (c:aQ) (n:Int) (hl:c.due.length<=1000000):(∀k,k<c.due.length->(c.due[k]!).1=n->(∀j,j<k->(c.due[j]!).1≠n)->pQ c n=some (k:Int))/\((∀k,k<c.due.length->(c.due[k]!).1≠n)->pQ c n=some (-1)):=by
 unfold pQ;refine nF (body:=qL) (fun i=>(n,(i:Int),c.now.1,c.now.2,c.field.points,c.certs.next_,c.certs.list,c.agenda.slots.uses,c.agenda.slots.used,c.agenda.slots.free,c.agenda.heap,c.agenda.where_,c.due)) c.due.length (fun i=>(c.due[i]!).1=n) (fun i=>(i:Int)) (fun i hi=>?_) ?_
 · have e1:decide ((i:Int)<(c.due.length:Int))=true:=aP (by omega)
   unfold qL;simp only [aF,e1,cond_true,aE c.due i hi,aD,aX (show i<1000000000 by omega)]
   constructor
   · intro h;rw [gO h];rfl
   · intro h;rw [fW h];rfl
 · unfold qL
   have:decide ((c.due.length:Int)<(c.due.length:Int))=false:=aM (by omega)
   simp only [aF,this,cond_false]
theorem OA {ds:List uG} (hu:Up ds) (hl:ds.length<=1000000) (n:Int):(∀k,k<ds.length->(ds[k]!).1=n->pK ds n=some ((k:Int),true))/\((∀k,k<ds.length->(ds[k]!).1≠n)-> ∃m:Nat,pK ds n=some ((m:Int),false)):=by
 have bs:=JW ds n hl (uY.1 hu);unfold pK;rw [aOs];constructor
 · intro k hk he;rw [bs.1 k hk he];rfl
 · intro h
   obtain ⟨m,_,_,_,e⟩:=bs.2 h;exact ⟨m,by rw [e];rfl⟩
theorem bE.bd {c:aQ} (ok:bE c):c.due.length<=200/\c.field.points.length<=64/\c.certs.list.length<=200:=by
 have:=ok.hd;have:=ok.agd.bd;have:=ok.fld.1;have:=ok.crt.len
 omega
theorem jS {c:aQ} (ok:bE c):nC c=some c:=by
 have bd:=ok.bd;unfold nC mZ rY;simp only [bC (show c.field.points.length<=1048576 by omega),bC (show c.certs.list.length<=1048576 by omega),bC (show c.due.length<=1048576 by omega),aD,sZ ok.agd]
theorem mJ {c:aQ} (ok:bE c):mX c=some c:=by
 have bd:=ok.bd;have ab:=ok.agd.bd;have hl:=ok.agd.so.fl;have hn:=ok.agd.so.n2;have hu:=ok.agd.so.ul;unfold mX;simp only [bC (show c.field.points.length<=1048576 by omega),bC (show c.certs.list.length<=1048576 by omega),bC (show c.due.length<=1048576 by omega),bC (show c.agenda.heap.length<=1048576 by omega),bC (show c.agenda.where_.length<=1048576 by omega),
  bC (show c.agenda.slots.uses.length<=1048576 by omega),bC (show c.agenda.slots.used.length<=1048576 by omega),bC (show c.agenda.slots.free.length<=1048576 by omega),aD]
theorem A6 {cs:List uG} {i:Nat} (hu:Up cs) (hi:i<cs.length) {x:uG} (hx:x∈cs.eraseIdx i):x∈cs/\x.1≠(cs[i]!).1:=by
 rw [wE,List.mem_append] at hx;have ub:=uY.1 hu;rcases hx with hx|hx
 · obtain ⟨j,h1,h2,rfl⟩:=cJ.1 hx
   have:=ub j i h1 hi
   exact ⟨bF h2,by omega⟩
 · obtain ⟨j,hj,rfl⟩:=bD.1 hx
   rw [List.length_drop] at hj;rw [vD]
   have:=ub i (i+1+j) (by omega) (by omega)
   exact ⟨bF (by omega),by omega⟩
theorem I2 {c:aQ} (ok:bE c) (i:Nat) (hi:i<c.certs.list.length): ∀j,j<(oX c.certs i).list.length->jR c.field.points ((oX c.certs i).list[j]!).2:=by
 intro j hj;have hm:(oX c.certs i).list[j]!∈c.certs.list:=(A6 ok.crt_up hi (bF hj)).1;obtain ⟨m,hm1,hm2⟩:=bD.1 hm;rw [<- hm2];exact ok.known m hm1
theorem aOt {c:aQ} (ok:bE c) {i:Nat} (hi:i<c.certs.list.length):
 ∃c':aQ,rU c (c.certs.list[i]!).1=some (c',(c.certs.list[i]!).2,0)/\vW c (c.certs.list[i]!).1=some c'/\bE c'/\c'.field=c.field/\c'.now=c.now/\c'.certs=oX c.certs i:=by
 have bd:=ok.bd;have rm:=MJ ok.crt hi (n:=(c.certs.list[i]!).1) rfl;have wo:=IE ok.crt hi (n:=(c.certs.list[i]!).1) rfl;have fe:=ok.fol.erase (i:=i) hi;have pd:=OA ok.due_up (by omega) (c.certs.list[i]!).1
 have da:=TA c (c.certs.list[i]!).1 (by omega)
 cases hf:(bI c.field.points (c.certs.list[i]!).2 c.now).2 with
 |false=>
  have no: ∀k,k<c.due.length->(c.due[k]!).1≠(c.certs.list[i]!).1:=by
   intro k hk he;obtain ⟨x,hx,h1,h2,_⟩:=ok.fol.due _ (bF hk);obtain ⟨j,hj,rfl⟩:=bD.1 hx;have ub:=uY.1 ok.crt_up
   have:j=i:=by
    rcases Nat.lt_trichotomy j i with h|h|h
    · have:=ub j i h hi;omega
    · exact h
    · have:=ub i j h hj;omega
   rw [this,hf] at h2;cases h2
  refine ⟨⟨c.now,c.field,oX c.certs i,c.agenda,c.due⟩,?_,?_,?_,rfl,rfl,rfl⟩
  · unfold rU
    obtain ⟨m,e⟩:=pd.2 no;simp only [rm,aD,show ((0:Int) !=0)=false from rfl,cond_false,mJ ok,e]
  · unfold vW
    simp only [jS ok,aD,wo,da.2 no,aM (show¬(0:Int)<= -1 by omega),cond_false]
  · exact ⟨ok.nowv,ok.now64,ok.fld,MI ok.crt hi,ok.agd,ok.w200,ok.hd,I2 ok i hi,fe.1 hf⟩
 |true=>
  obtain ⟨k,hk,k1,k2,k3⟩:=fe.2 hf;obtain ⟨w,hw,hev⟩:=bD.1 k2;have hh:(c.agenda.heap[w]!).2.2.2=(c.due[k]!).2:=by rw [hev]
  have ub:=uY.1 ok.due_up;have before: ∀j,j<k->(c.due[j]!).1≠(c.certs.list[i]!).1:=fun j hj he=>by have:=ub j k hj hk;omega
  have dl:(c.due.eraseIdx k).length=c.due.length-1:=X9 hk;obtain ⟨L,d1,d2⟩:=I0 c.due k hk;refine ⟨⟨c.now,c.field,oX c.certs i,eD c.agenda w,c.due.eraseIdx k⟩,?_,?_,?_,rfl,rfl,rfl⟩
  · unfold rU
    simp only [rm,aD,show ((0:Int) !=0)=false from rfl,cond_false,mJ ok,pd.1 k hk k1,cond_true,aE c.due k hk,zH ok.agd hw ok.agd.fit hh,aX (show k<1000000000 by omega),VO,d1,d2]
  · unfold vW
    have s1:iI c.due 0 (k:Int)=some (c.due.take k):=nX c.due k (by omega)
    have s2:iI c.due ((k+1:Nat):Int) (c.due.length:Int)=some (c.due.drop (k+1)):=by
     unfold iI;rw [if_pos ⟨by omega,by omega,by omega⟩]
     simp only [Int.toNat_natCast];rw [List.take_of_length_le (by rw [List.length_drop];exact Nat.le_refl _)]
    have tl:(c.due.take k).length=k:=by rw [List.length_take];omega
    have dl2:(c.due.drop (k+1)).length=c.due.length- (k+1):=List.length_drop;simp only [jS ok,aD,wo,da.1 k hk k1 before,aP (show (0:Int)<=(k:Int) by omega),cond_true,aE c.due k hk,zI ok.agd hw hh,s1,bC (show (c.due.take k).length<=1048576 by omega),aX (show k<1000000000 by omega),aF,s2,
     dL (show (c.due.take k).length+(c.due.drop (k+1)).length<=1048576 by omega),wE]
    cases hem:(c.due.drop (k+1)).isEmpty with
    |true=>
     rw [List.isEmpty_iff] at hem;rw [hem,List.append_nil];rfl
    |false=>rfl
  · have rem:=IB ok.agd hw
    have rmem:=ME ok.agd hw;have hlen:(eD c.agenda w).heap.length=c.agenda.heap.length-1:=by
     have h1:=rem.hl;have h2:=ok.agd.hl;have h3:(eD c.agenda w).slots=fN c.agenda.slots (c.agenda.heap[w]!).2.2.2:=by unfold eD;split<;>rfl
     rw [h3] at h1;change _+(c.agenda.slots.free++[_]).length=c.agenda.slots.uses.length at h1;rw [List.length_append] at h1;simp only [List.length_cons,List.length_nil] at h1;omega
    have wlen:(eD c.agenda w).where_.length=200:=by
     have h1:=rem.wl;have h3:(eD c.agenda w).slots=fN c.agenda.slots (c.agenda.heap[w]!).2.2.2:=by unfold eD;split<;>rfl
     rw [h3] at h1;change _=c.agenda.slots.uses.length at h1;rw [h1,<- ok.agd.wl,ok.w200]
    refine ⟨ok.nowv,ok.now64,ok.fld,MI ok.crt hi,rem,wlen,?_,I2 ok i hi,?_⟩
    · show (eD c.agenda w).heap.length=(c.due.eraseIdx k).length
      rw [hlen,dl,ok.hd]
    · refine k3.mono fun x hx e he hm=>(rmem e).2 ⟨hm,fun h=>?_⟩
      have:=(A6 ok.crt_up hi hx).2
      rw [h,hev] at he;exact this he.symm
theorem JE {c:aQ} (ok:bE c) {i:Nat} (_hi:i<c.certs.list.length) {c':aQ} (h:rU c (c.certs.list[i]!).1=some (c',(c.certs.list[i]!).2,0)):uT c (c.certs.list[i]!).1=some (c',0):=by
 unfold uT;rw [nJ ok.fit,if_pos ok];simp only [aD,show ((0:Int) !=0)=false from rfl,cond_false,h]
end Go.Proofs.YticklbjcnimggaaGreat
namespace Go.Proofs.YticklbjcnimggaaGreat
open Go.Vm Classical
abbrev dD:aQ:=⟨(0,0),⟨[]⟩,⟨0,[]⟩,⟨⟨[],[],[]⟩,[],[]⟩,[]⟩
theorem P5 {l:List Pt} (ok:cP l) {id:Int} (h:BL l id): ¬(mO l id).1<0:=by
 obtain ⟨h1,_⟩:=jD ok h
 have:=h1.1
 omega
theorem aIb {c:aQ} (ok:bE c) {x:Int×Int} (hx:fJ x) (hb:jR c.field.points x) (hn: ¬wF c.certs.list x):
 (iF c x=some (dD,0,18)/\lF c x=some (dD,0,18)/\(GP c.certs\/ ¬BJ c.agenda.slots))\/
 ∃c':aQ,iF c x=some (c',c.certs.next_,0)/\lF c x=some (c',c.certs.next_,0)/\bE c'/\c'.field=c.field/\c'.now=c.now/\c'.certs=qY c.certs x/\(c'.agenda.slots=c.agenda.slots\/c'.agenda.slots=gR c.agenda.slots):=by
 have bd:=ok.bd;have n0:=ok.crt.n0;have n1:=ok.crt.n1;have fit:=ok.fit;have ad:=S5 ok.crt hx;have rd:=P3 ok.crt hx;rw [if_neg hn] at ad rd;have hc:gN c=some 0:=by rw [nJ fit,if_pos ok]
 have p1:=nI ok.fld x.1;have p2:=nI ok.fld x.2;have q1:=P5 ok.fld hb.1;have q2:=P5 ok.fld hb.2;have wh:=yJ ok.fld hx ok.nowv ok.now64;rw [if_pos hb] at wh;have rw':=yK ok.fld ok.now64 hb
 by_cases hf:GP c.certs
 · rw [if_pos hf] at ad rd
   left;refine ⟨?_,?_,.inl hf⟩
   · unfold iF dE
     simp only [hc,aD,show ((0:Int) !=0)=false from rfl,cond_false,ad,show ((18:Int)==8)=false from rfl,p1,p2,aM q1,aM q2,show ((18:Int) !=0)=true from rfl,cond_true]
   · unfold lF
     simp only [rd,aD,show ((18:Int) !=0)=true from rfl,cond_true]
 rw [if_neg hf] at ad rd;have cok:=VQ ok.crt hx hn hf;have known': ∀j,j<(qY c.certs x).list.length->jR c.field.points ((qY c.certs x).list[j]!).2:=by
  intro j hj;rw [DO] at hj;rw [wG]
  by_cases h:j<c.certs.list.length
  · rw [if_pos h];exact ok.known j h
  · rw [if_neg h,if_pos (by omega)];exact hb
 have fresh: ∀e∈c.agenda.heap,Ev.num e≠c.certs.next_:=by
  intro e he hne;obtain ⟨d,hd,h1⟩:=ok.nums e he;obtain ⟨y,hy,h2,_⟩:=ok.fol.due d hd;obtain ⟨j,hj,rfl⟩:=bD.1 hy
  have:=(ok.crt.nr j hj).2
  omega
 have sn:=ok.fol.snoc (x:=(c.certs.next_,x));cases hw:(bI c.field.points x c.now).2 with
 |false=>
  right;refine ⟨⟨c.now,c.field,qY c.certs x,c.agenda,c.due⟩,?_,?_,⟨ok.nowv,ok.now64,ok.fld,cok,ok.agd,ok.w200,ok.hd,known',sn.1 hw⟩,rfl,rfl,rfl,.inl rfl⟩
  · unfold iF dE
    simp only [hc,aD,show ((0:Int) !=0)=false from rfl,cond_false,ad,show ((0:Int)==8)=false from rfl,p1,p2,aM q1,aM q2,mJ ok,wh,hw]
  · unfold lF
    simp only [rd,aD,show ((0:Int) !=0)=false from rfl,cond_false,jS ok,rw',hw,Bool.not_false,cond_true]
 |true=>
  obtain ⟨t1,t2⟩:=LX (jD ok.fld hb.2).1 (jD ok.fld hb.1).1 ok.now64 ok.nowv hw
  by_cases op:BJ c.agenda.slots
  · right
    have pu:=zE ok.agd op ok.agd.fit (t:=(bI c.field.points x c.now).1) (n:=c.certs.next_) t1 t2 n0 n1 fresh;have rp:=BK ok.agd op (t:=(bI c.field.points x c.now).1) (n:=c.certs.next_) t1 t2 n0 n1;have pok:=X7 ok.agd op (t:=(bI c.field.points x c.now).1) (n:=c.certs.next_) t1 t2 n0 n1 fresh
    have pmem:=S0 ok.agd op (t:=(bI c.field.points x c.now).1) (n:=c.certs.next_) t1;have plen:=GN ok.agd op (t:=(bI c.field.points x c.now).1) (n:=c.certs.next_) t1;have ap: ∀h:Int×Int,bH c.due [(c.certs.next_,h)]=some (c.due++[(c.certs.next_,h)]):=fun h=>dL (by simp;omega)
    have wlen:(lS c.agenda (bI c.field.points x c.now).1 c.certs.next_).where_.length=200:=by
     have:=pok.wl
     change _=(c.agenda.slots.uses.set _ _).length at this;rw [List.length_set] at this;rw [this,<- ok.agd.wl,ok.w200]
    refine ⟨⟨c.now,c.field,qY c.certs x,lS c.agenda (bI c.field.points x c.now).1 c.certs.next_,c.due++[(c.certs.next_,lR c.agenda.slots)]⟩,?_,?_,⟨ok.nowv,ok.now64,ok.fld,cok,pok,wlen,?_,known',?_⟩,rfl,rfl,rfl,.inr rfl⟩
    · unfold iF dE
      simp only [hc,aD,show ((0:Int) !=0)=false from rfl,cond_false,ad,show ((0:Int)==8)=false from rfl,p1,p2,aM q1,aM q2,mJ ok,wh,hw,cond_true,pu,ap]
    · unfold lF
      simp only [rd,aD,show ((0:Int) !=0)=false from rfl,cond_false,jS ok,rw',hw,Bool.not_true,sY ok.agd.so,aP op,rp,ap]
    · show (lS c.agenda (bI c.field.points x c.now).1 c.certs.next_).heap.length=(c.due++[_]).length
      rw [plen,List.length_append,ok.hd];rfl
    · have fm:aY c.field.points c.now (lS c.agenda (bI c.field.points x c.now).1 c.certs.next_).heap c.certs.list c.due:=ok.fol.mono fun y hy e he hm=>(pmem e).2 (.inr hm)
      exact (fm.snoc (x:=(c.certs.next_,x))).2 _ hw rfl ((pmem _).2 (.inl rfl))
  · left
    have pu:=zF ok.agd op ok.agd.fit (t:=(bI c.field.points x c.now).1) (n:=c.certs.next_) t1 t2 n0 n1 fresh;refine ⟨?_,?_,.inr op⟩
    · unfold iF dE
      simp only [hc,aD,show ((0:Int) !=0)=false from rfl,cond_false,ad,show ((0:Int)==8)=false from rfl,p1,p2,aM q1,aM q2,mJ ok,wh,hw,cond_true,pu,show ((18:Int) !=0)=true from rfl]
    · unfold lF
      simp only [rd,aD,show ((0:Int) !=0)=false from rfl,cond_false,jS ok,rw',hw,Bool.not_true,sY ok.agd.so,aM op,Bool.not_false,cond_true]
end Go.Proofs.YticklbjcnimggaaGreat
namespace Go.Proofs.YticklbjcnimggaaGreat
open Go.Vm Classical
theorem Up.inj {cs:List uG} (h:Up cs) {x y:uG} (hx:x∈cs) (hy:y∈cs) (he:x.1=y.1):x=y:=by
 obtain ⟨i,hi,rfl⟩:=bD.1 hx;obtain ⟨j,hj,rfl⟩:=bD.1 hy;have ub:=uY.1 h;rcases Nat.lt_trichotomy i j with h1|h1|h1
 · have:=ub i j h1 hj;omega
 · rw [h1]
 · have:=ub j i h1 hi;omega
structure ML (c:aQ) (f:List Pt) (i k:Nat) (a:aI) (ds:List uG):Prop where
 ok:eN a
 w2:a.where_.length=200
 new:aY f c.now a.heap (c.certs.list.take i) ds
 old:aY c.field.points c.now a.heap (c.certs.list.drop i) (c.due.drop k)
 kl:k<=c.due.length
 cnt:a.heap.length=ds.length+(c.due.length-k)
theorem aOu {a:aI} (ok:eN a) {w:Nat} (hw:w<a.heap.length):(eD a w).heap.length=a.heap.length-1/\(eD a w).where_.length=a.where_.length:=by
 have rem:=IB ok hw;have h3:(eD a w).slots=fN a.slots (a.heap[w]!).2.2.2:=by unfold eD;split<;>rfl
 have h1:=rem.hl;have h2:=ok.hl;have h4:=rem.wl;rw [h3] at h1 h4;change _+(a.slots.free++[_]).length=a.slots.uses.length at h1;change _=a.slots.uses.length at h4;rw [List.length_append] at h1;simp only [List.length_cons,List.length_nil] at h1;exact ⟨by omega,by rw [h4,ok.wl]⟩
theorem aIc {a:aI} {t:Int×Int} {n:Int} (ok:eN a) (pok:eN (lS a t n)):(lS a t n).where_.length=a.where_.length:=by
 have:=pok.wl
 change _=(a.slots.uses.set _ _).length at this;rw [List.length_set] at this;rw [this,ok.wl]
section
variable {c : aQ} (ok : bE c) {f : List Pt} (fok : cP f) (kn : ∀ i, i < c.certs.list.length -> jR f (c.certs.list[i]!).2)
include ok
theorem GR {i:Nat} {x:uG} (hx:x∈c.certs.list.take i) (hi:i<c.certs.list.length):x.1≠(c.certs.list[i]!).1:=by
 obtain ⟨j,h1,h2,rfl⟩:=cJ.1 hx
 have:=ok.crt.up j i h1 hi
 omega
theorem GS {i:Nat} {x:uG} (hx:x∈c.certs.list.drop (i+1)) (hi:i<c.certs.list.length):x.1≠(c.certs.list[i]!).1:=by
 obtain ⟨j,h1,rfl⟩:=bD.1 hx;rw [List.length_drop] at h1;rw [vD]
 have:=ok.crt.up i (i+1+j) (by omega) (by omega)
 omega
theorem ZV {i k:Nat} {a:aI} {ds:List uG} (inv:ML c f i k a ds) (hi:i<c.certs.list.length) (was:(bI c.field.points (c.certs.list[i]!).2 c.now).2=false): ∀e∈a.heap,Ev.num e≠(c.certs.list[i]!).1:=by
 have u1:Up (c.certs.list.take i):=ok.crt_up.sublist (List.take_sublist _ _);have u2:Up (c.certs.list.drop i):=ok.crt_up.sublist (List.drop_sublist _ _);have d1:=inv.new.up u1;have d2:=inv.old.up u2;have cross: ∀x∈ds,∀y∈c.due.drop k,x.1<y.1:=by
  intro x hx y hy;obtain ⟨p,hp,h1,_⟩:=inv.new.due x hx;obtain ⟨q,hq,h2,_⟩:=inv.old.due y hy;obtain ⟨m,m1,m2,rfl⟩:=cJ.1 hp;obtain ⟨n,n1,rfl⟩:=bD.1 hq;rw [List.length_drop] at n1;rw [vD] at h2
  have:=ok.crt.up m (i+n) (by omega) (by omega)
  omega
 have nd:((ds++c.due.drop k).map fun x=>x.1).Nodup:=S9 (by
  show List.Pairwise _ _;rw [List.pairwise_append];exact ⟨d1,d2,cross⟩)
 have only:=I1 (H:=a.heap) nd (by rw [List.length_map,List.length_append,List.length_drop,inv.cnt];exact Nat.le_refl _) (fun n hn=>by
  obtain ⟨x,hx,rfl⟩:=List.mem_map.1 hn;rcases List.mem_append.1 hx with hx|hx
  · obtain ⟨p,hp,h1,h2,h3⟩:=inv.new.due x hx
    exact ⟨_,h3,h1.symm⟩
  · obtain ⟨p,hp,h1,h2,h3⟩:=inv.old.due x hx
    exact ⟨_,h3,h1.symm⟩)
 intro e he hne;obtain ⟨x,hx,h1⟩:=List.mem_map.1 (only e he);rcases List.mem_append.1 hx with hx|hx
 · obtain ⟨p,hp,h2,_⟩:=inv.new.due x hx
   exact GR ok hp hi (by rw [<- h2,h1,hne])
 · obtain ⟨p,hp,h2,h3,_⟩:=inv.old.due x hx
   have hp':p∈c.certs.list:=List.mem_of_mem_drop hp
   have:=ok.crt_up.inj hp' (bF hi) (by rw [<- h2,h1,hne])
   rw [this,was] at h3;cases h3
def ZW (c:aQ) (f:List Pt) (i:Nat) (a:aI) (ds:List uG):=
 (c.certs.list,(c.certs.list.length:Int),(i:Int),c.now.1,c.now.2,c.field.points,c.certs.next_,c.certs.list,c.agenda.slots.uses,c.agenda.slots.used,c.agenda.slots.free,c.agenda.heap,c.agenda.where_,c.due,f,(0:Int),(0:Int),(0:Int),c.now.1,c.now.2,c.certs.next_,c.certs.list,a.slots.uses,a.slots.used,a.slots.free,a.heap,a.where_,f,ds)
def ZX (c:aQ) (f:List Pt) (i:Nat) (a:aI) (ds:List uG):=
 ((i:Int),c.now.1,c.now.2,c.field.points,c.certs.next_,c.certs.list,c.agenda.slots.uses,c.agenda.slots.used,c.agenda.slots.free,c.agenda.heap,c.agenda.where_,c.due,f,(0:Int),(0:Int),(0:Int),c.now.1,c.now.2,f,c.certs.next_,c.certs.list,a.slots.uses,a.slots.used,a.slots.free,a.heap,a.where_,ds)
include fok kn
theorem aB3 {i k:Nat} {a:aI} {ds:List uG} (inv:ML c f i k a ds) (hi:i<c.certs.list.length) (hds:ds.length<=i):
 (dF (ZW c f i a ds)=some (.done (.done (dD,18)))/\cL (ZX c f i a ds)=some (.done (dD,18)))\/
 ∃k' a' ds',dF (ZW c f i a ds)=some (.next (ZW c f (i+1) a' ds'))/\cL (ZX c f i a ds)=some (.next (ZX c f (i+1) a' ds'))/\ML c f (i+1) k' a' ds'/\ds'.length<=i+1:=by
 have bd:=ok.bd;have e1:decide ((i:Int)<(c.certs.list.length:Int))=true:=aP (by omega)
 have sc:=aX (show i<1000000000 by omega)
 have cg:=aE c.certs.list i hi;have hb:=kn i hi;have wn:=yJ fok (x:=(c.certs.list[i]!).2) (t:=(c.now.1,c.now.2)) (ok.crt.cv i hi) ok.nowv ok.now64;rw [if_pos hb] at wn;have wr:=yK fok (x:=(c.certs.list[i]!).2) (t:=(c.now.1,c.now.2)) ok.now64 hb;have pd:=OA ok.due_up (by omega) (c.certs.list[i]!).1
 have da:=TA c (c.certs.list[i]!).1 (by omega)
 have dr:=vE hi;have tk:=iR hi;have old:=inv.old;rw [dr] at old;have aeta:aI.mk (aR.mk a.slots.uses a.slots.used a.slots.free) a.heap a.where_=a:=rfl
 have ceta:(aQ.mk (c.now.1,c.now.2) (Field.mk c.field.points) (aW.mk c.certs.next_ c.certs.list) (aI.mk (aR.mk c.agenda.slots.uses c.agenda.slots.used c.agenda.slots.free) c.agenda.heap c.agenda.where_) c.due)=c:=rfl;have other: ∀x∈c.certs.list.take i,x.1≠(c.certs.list[i]!).1:=fun x hx=>GR ok hx hi
 have other': ∀x∈c.certs.list.drop (i+1),x.1≠(c.certs.list[i]!).1:=fun x hx=>GS ok hx hi
 cases hwas:(bI c.field.points (c.certs.list[i]!).2 c.now).2 with
 |true=>
  obtain ⟨d,ds',hd1,hd2,hd3,hd4⟩:=(aY.cons_true hwas).1 old;have hk:k<c.due.length:=by
   refine Classical.byContradiction fun h=>?_
   rw [List.drop_eq_nil_of_le (by omega)] at hd1
   cases hd1
  have dk:=vE hk;rw [dk] at hd1;injection hd1 with hd5 hd6;subst hd5 hd6;obtain ⟨w,hw,hev⟩:=bD.1 hd3;have hh:(a.heap[w]!).2.2.2=(c.due[k]!).2:=by rw [hev]
  have hnum:Ev.num a.heap[w]! =(c.certs.list[i]!).1:=by rw [hev]
  have before: ∀j,j<k->(c.due[j]!).1≠(c.certs.list[i]!).1:=fun j hj he=>by
   have:=uY.1 ok.due_up j k hj hk
   omega
  have pl:=pd.1 k hk hd2;have dq:=da.1 k hk hd2 before;have gk:=aE c.due k hk;have k0:decide ((0:Int)<=(k:Int))=true:=aP (by omega)
  have ap:bH ds [c.due[k]!]=some (ds++[c.due[k]!]):=dL (by simp;omega)
  cases his:(bI f (c.certs.list[i]!).2 c.now).2 with
  |true=>
   right;have tt:bU (bI f (c.certs.list[i]!).2 c.now).1/\oA (bI f (c.certs.list[i]!).2 c.now).1:=LX (jD fok hb.2).1 (jD fok hb.1).1 ok.now64 ok.nowv his;obtain ⟨t1,t2⟩:=tt;have re:=JD inv.ok inv.ok.fit (t:=(bI f (c.certs.list[i]!).2 c.now).1) hw hh t1 t2;have rr:=IA inv.ok (t:=(bI f (c.certs.list[i]!).2 c.now).1) hw hh t1 t2
   have rok:=aBW inv.ok hw t1 t2;have rmem:=ZU inv.ok hw t1;have rlen:=HZ inv.ok hw t1;have stay: ∀(cs:List uG),(∀x∈cs,x.1≠(c.certs.list[i]!).1)-> ∀x∈cs,∀e:Ev,e.num=x.1->e∈a.heap->e∈(kA a w (bI f (c.certs.list[i]!).2 c.now).1).heap:=by
    intro cs hcs x hx e he hm;refine (rmem e).2 (.inr ⟨hm,fun h=>hcs x hx ?_⟩)
    rw [<- he,h,hnum]
   refine ⟨k+1,kA a w (bI f (c.certs.list[i]!).2 c.now).1,ds++[c.due[k]!],?_,?_,⟨rok,by rw [rlen.2];exact inv.w2,?_,?_,by omega,?_⟩,by simp;omega⟩
   · unfold dF ZW
     simp only [e1,cond_true,cg,aD,wn,pl,his,gk,aeta,re,ap,show ((0:Int) !=0)=false from rfl,cond_false,sc]
   · unfold cL ZX
     simp only [aF,e1,cond_true,cg,aD,ceta,dq,wr,his,k0,gk,aeta,rr,ap,Bool.not_true,cond_false,sc]
   · rw [tk]
     exact ((inv.new.mono (stay _ other)).snoc (x:=c.certs.list[i]!)).2 _ his hd2 ((rmem _).2 (.inl (by
      show _=((bI f (c.certs.list[i]!).2 c.now).1.1,(bI f (c.certs.list[i]!).2 c.now).1.2,(a.heap[w]!).2.2);rw [hev])))
   · exact hd4.mono (stay _ other')
   · rw [rlen.1,inv.cnt,List.length_append]
     simp only [List.length_cons,List.length_nil];omega
  |false=>
   right;have rv:=zH inv.ok hw inv.ok.fit hh;have rr:=zI inv.ok hw hh;have rok:=IB inv.ok hw;have rmem:=ME inv.ok hw;have rlen:=aOu inv.ok hw;have stay: ∀(cs:List uG),(∀x∈cs,x.1≠(c.certs.list[i]!).1)-> ∀x∈cs,∀e:Ev,e.num=x.1->e∈a.heap->e∈(eD a w).heap:=by
    intro cs hcs x hx e he hm;refine (rmem e).2 ⟨hm,fun h=>hcs x hx ?_⟩
    rw [<- he,h,hnum]
   refine ⟨k+1,eD a w,ds,?_,?_,⟨rok,by rw [rlen.2];exact inv.w2,?_,hd4.mono (stay _ other'),by omega,?_⟩,by omega⟩
   · unfold dF ZW
     simp only [e1,cond_true,cg,aD,wn,pl,his,gk,aeta,rv,show ((0:Int) !=0)=false from rfl,cond_false,sc]
   · unfold cL ZX
     simp only [aF,e1,cond_true,cg,aD,ceta,dq,wr,his,k0,gk,aeta,rr,Bool.not_false,cond_false,sc]
   · rw [tk]
     exact ((inv.new.mono (stay _ other)).snoc (x:=c.certs.list[i]!)).1 his
   · have:=inv.cnt
     rw [rlen.1];omega
 |false=>
  have fol:=(aY.cons_false hwas).1 old;have no: ∀j,j<c.due.length->(c.due[j]!).1≠(c.certs.list[i]!).1:=by
   intro j hj he;obtain ⟨x,hx,h1,h2,_⟩:=ok.fol.due _ (bF hj)
   have:=ok.crt_up.inj hx (bF hi) (by rw [<- h1,he])
   rw [this,hwas] at h2;cases h2
  obtain ⟨m,pl⟩:=pd.2 no;have dq:=da.2 no;have k0:decide ((0:Int)<= -1)=false:=aM (by omega)
  cases his:(bI f (c.certs.list[i]!).2 c.now).2 with
  |true=>
   have tt:bU (bI f (c.certs.list[i]!).2 c.now).1/\oA (bI f (c.certs.list[i]!).2 c.now).1:=LX (jD fok hb.2).1 (jD fok hb.1).1 ok.now64 ok.nowv his;obtain ⟨t1,t2⟩:=tt;have n0:=(ok.crt.nr i hi).1;have n1:(c.certs.list[i]!).1<=1000000:=by have:=(ok.crt.nr i hi).2;have:=ok.crt.n1;omega
   have fresh:=ZV ok inv hi hwas
   by_cases op:BJ a.slots
   · right
     have pu:=zE inv.ok op inv.ok.fit (t:=(bI f (c.certs.list[i]!).2 c.now).1) (n:=(c.certs.list[i]!).1) t1 t2 n0 n1 fresh;have rp:=BK inv.ok op (t:=(bI f (c.certs.list[i]!).2 c.now).1) (n:=(c.certs.list[i]!).1) t1 t2 n0 n1;have pok:=X7 inv.ok op (t:=(bI f (c.certs.list[i]!).2 c.now).1) (n:=(c.certs.list[i]!).1) t1 t2 n0 n1 fresh
     have pmem:=S0 inv.ok op (t:=(bI f (c.certs.list[i]!).2 c.now).1) (n:=(c.certs.list[i]!).1) t1;have plen:=GN inv.ok op (t:=(bI f (c.certs.list[i]!).2 c.now).1) (n:=(c.certs.list[i]!).1) t1;have ap: ∀h:Int×Int,bH ds [((c.certs.list[i]!).1,h)]=some (ds++[((c.certs.list[i]!).1,h)]):=fun h=>dL (by simp;omega)
     have opn:=sY inv.ok.so;rw [aP op] at opn;refine ⟨k,lS a (bI f (c.certs.list[i]!).2 c.now).1 (c.certs.list[i]!).1,ds++[((c.certs.list[i]!).1,lR a.slots)],?_,?_,⟨pok,by rw [aIc inv.ok pok];exact inv.w2,?_,?_,inv.kl,?_⟩,by simp;omega⟩
     · unfold dF ZW
       simp only [e1,cond_true,cg,aD,wn,pl,his,aeta,pu,ap,show ((0:Int) !=0)=false from rfl,cond_false,sc]
     · unfold cL ZX
       simp only [aF,e1,cond_true,cg,aD,ceta,dq,wr,his,k0,aeta,rp,ap,Bool.not_true,cond_false,sc,opn]
     · rw [tk]
       exact ((inv.new.mono fun x hx e he hm=>(pmem e).2 (.inr hm)).snoc (x:=c.certs.list[i]!)).2 _ his rfl ((pmem _).2 (.inl rfl))
     · exact fol.mono fun x hx e he hm=>(pmem e).2 (.inr hm)
     · have:=inv.cnt
       rw [plen,List.length_append];simp only [List.length_cons,List.length_nil];omega
   · left
     have pu:=zF inv.ok op inv.ok.fit (t:=(bI f (c.certs.list[i]!).2 c.now).1) (n:=(c.certs.list[i]!).1) t1 t2 n0 n1 fresh;have ap: ∀h:Int×Int,bH ds [((c.certs.list[i]!).1,h)]=some (ds++[((c.certs.list[i]!).1,h)]):=fun h=>dL (by simp;omega)
     have opn:=sY inv.ok.so;rw [aM op] at opn;constructor
     · unfold dF ZW
       simp only [e1,cond_true,cg,aD,wn,pl,his,aeta,pu,ap,show ((18:Int) !=0)=true from rfl,cond_false]
     · unfold cL ZX
       simp only [aF,e1,cond_true,cg,aD,ceta,dq,wr,his,k0,aeta,Bool.not_true,Bool.not_false,cond_false,opn]
  |false=>
   right;refine ⟨k,a,ds,?_,?_,⟨inv.ok,inv.w2,?_,fol,inv.kl,inv.cnt⟩,by omega⟩
   · unfold dF ZW
     simp only [e1,cond_true,cg,aD,wn,pl,his,show ((0:Int) !=0)=false from rfl,cond_false,sc]
   · unfold cL ZX
     simp only [aF,e1,cond_true,cg,aD,ceta,dq,wr,his,k0,Bool.not_false,cond_false,sc]
   · rw [tk]
     exact (inv.new.snoc (x:=c.certs.list[i]!)).1 his
theorem aQ1:
 (pL c ⟨f⟩=some (dD,18)/\mF c ⟨f⟩=some (dD,18))\/
 ∃c':aQ,pL c ⟨f⟩=some (c',0)/\mF c ⟨f⟩=some (c',0)/\bE c'/\c'.field.points=f/\c'.now=c.now/\c'.certs=c.certs:=by
 have bd:=ok.bd;have f64:=fok.1;have run: ∀(d i k:Nat) (a:aI) (ds:List uG),c.certs.list.length-i<=d->i<=c.certs.list.length->ML c f i k a ds->ds.length<=i->
  (aH dF (ZW c f i a ds)=some (.done (dD,18))/\aH cL (ZX c f i a ds)=some (dD,18))\/
  ∃c':aQ,aH dF (ZW c f i a ds)=some (.done (c',0))/\aH cL (ZX c f i a ds)=some (c',0)/\bE c'/\c'.field.points=f/\c'.now=c.now/\c'.certs=c.certs:=by
  have fin: ∀(k:Nat) (a:aI) (ds:List uG),ML c f c.certs.list.length k a ds-> ∃c':aQ,aH dF (ZW c f c.certs.list.length a ds)=some (.done (c',0))/\aH cL (ZX c f c.certs.list.length a ds)=some (c',0)/\bE c'/\c'.field.points=f/\c'.now=c.now/\c'.certs=c.certs:=by
   intro k a ds inv;have e1:decide ((c.certs.list.length:Int)<(c.certs.list.length:Int))=false:=aM (by omega)
   have hk:c.due.length-k=0:=by
    have:=inv.old
    rw [List.drop_length] at this
    have:c.due.drop k=[]:=this
    rw [List.drop_eq_nil_iff] at this;omega
   have new:=inv.new;rw [List.take_length] at new;refine ⟨⟨c.now,⟨f⟩,c.certs,a,ds⟩,aL ?_,aL ?_,⟨ok.nowv,ok.now64,fok,ok.crt,inv.ok,inv.w2,?_,kn,new⟩,rfl,rfl,rfl⟩
   · unfold dF ZW
     simp only [e1,cond_false]
   · unfold cL ZX
     simp only [aF,e1,cond_false]
   · have:=inv.cnt
     show a.heap.length=ds.length;omega
  intro d
  induction d with
  |zero=>
   intro i k a ds hd hi inv hds
   have:i=c.certs.list.length:=by omega
   subst this;exact .inr (fin k a ds inv)
  |succ d ih=>
   intro i k a ds hd hi inv hds
   by_cases he:i=c.certs.list.length
   · subst he;exact .inr (fin k a ds inv)
   rcases aB3 ok fok kn inv (by omega) hds with ⟨h1,h2⟩|⟨k',a',ds',h1,h2,h3,h4⟩
   · exact .inl ⟨aL h1,aL h2⟩
   · rw [aZ h1,aZ h2]
     exact ih (i+1) k' a' ds' (by omega) (by omega) h3 h4
 have start:=run c.certs.list.length 0 0 c.agenda [] (by omega) (by omega) ⟨ok.agd,ok.w200,rfl,by rw [List.drop_zero,List.drop_zero];exact ok.fol,by omega,by have:=ok.hd;simp;omega⟩ (by simp)
 have hc:gN c=some 0:=by rw [nJ ok.fit,if_pos ok]
 have hf:fE ⟨f⟩=some 0:=by rw [kU];exact congrArg some (jM.2 fok)
 have tw:=mJ ok;have tw':mX (aQ.mk (c.now.1,c.now.2) (Field.mk c.field.points) (aW.mk c.certs.next_ c.certs.list) (aI.mk (aR.mk c.agenda.slots.uses c.agenda.slots.used c.agenda.slots.free) c.agenda.heap c.agenda.where_) c.due)=some c:=tw
 have first:aH kH (c.certs.list,(c.certs.list.length:Int),0,c.now.1,c.now.2,c.field.points,c.certs.next_,c.certs.list,c.agenda.slots.uses,c.agenda.slots.used,c.agenda.slots.free,c.agenda.heap,c.agenda.where_,c.due,f,0,0,0)=
  aH kH (c.certs.list,(c.certs.list.length:Int),(c.certs.list.length:Int),c.now.1,c.now.2,c.field.points,c.certs.next_,c.certs.list,c.agenda.slots.uses,c.agenda.slots.used,c.agenda.slots.free,c.agenda.heap,c.agenda.where_,c.due,f,0,0,0):=by
  refine bV (body:=kH) (fun i=>(c.certs.list,(c.certs.list.length:Int),(i:Int),c.now.1,c.now.2,c.field.points,c.certs.next_,c.certs.list,c.agenda.slots.uses,c.agenda.slots.used,c.agenda.slots.free,c.agenda.heap,c.agenda.where_,c.due,f,0,0,0)) c.certs.list.length (fun i hi=>?_)
  have e1:decide ((i:Int)<(c.certs.list.length:Int))=true:=aP (by omega)
  unfold kH;simp only [e1,cond_true,aE c.certs.list i hi,aD,nI fok,aM (P5 fok (kn i hi).1),aM (P5 fok (kn i hi).2),cond_false,aX (show i<1000000000 by omega)]
 have second: ∀r,aH dF (ZW c f 0 c.agenda [])=some (.done r)->pL c ⟨f⟩=some r:=by
  intro r hr;unfold pL;simp only [hc,aD,show ((0:Int) !=0)=false from rfl,cond_false,hf,aF];rw [first]
  refine aL ?_;unfold kH;have e1:decide ((c.certs.list.length:Int)<(c.certs.list.length:Int))=false:=aM (by omega)
  simp only [aF,e1,cond_false,tw',aD,bC (show f.length<=1048576 by omega)]
  exact hr
 have third: ∀r,aH cL (ZX c f 0 c.agenda [])=some r->mF c ⟨f⟩=some r:=by
  intro r hr;unfold mF mZ;simp only [jS ok,aD,bC (show f.length<=1048576 by omega)]
  exact hr
 rcases start with ⟨h1,h2⟩|⟨c',h1,h2,h3⟩
 · exact .inl ⟨second _ h1,third _ h2⟩
 · exact .inr ⟨c',second _ h1,third _ h2,h3⟩
end
end Go.Proofs.YticklbjcnimggaaGreat
namespace Go.Proofs.YticklbjcnimggaaGreat
open Go.Vm Classical
theorem oM (l:List (Int×Int)) (x:Int×Int) (hl:l.length<=1000000):fF l x=some (decide (x∈l)):=by
 unfold fF qH;have key:=nF (body:=jH) (fun i=>(l,(l.length:Int),(i:Int),x)) l.length (fun i=>l[i]! =x) (fun i=>(i:Int)) (e:= -1) (fun i hi=>by
  have e1:decide ((i:Int)<(l.length:Int))=true:=aP (by omega)
  unfold jH;simp only [e1,cond_true,aE l i hi,aD,aX (show i<1000000000 by omega)]
  generalize l[i]! =y;constructor
  · intro h;rw [gO (congrArg Prod.fst h.symm),gO (congrArg Prod.snd h.symm)];rfl
  · intro h
    by_cases h1:x.1=y.1
    · rw [gO h1,fW (fun h2=>h (Prod.ext h1.symm h2.symm))];rfl
    · rw [fW h1];rfl) (by
  unfold jH
  have:decide ((l.length:Int)<(l.length:Int))=false:=aM (by omega)
  simp only [this,cond_false])
 rw [aF]
 by_cases hx:x∈l
 · obtain ⟨i,hi,he⟩:=bD.1 hx
   obtain ⟨k,h1,h2,h3⟩:=GF (c:=fun i=>l[i]! =x) ⟨i,hi,he⟩
   have:=key.1 k h1 h2 h3
   rw [show ((0:Nat):Int)=0 from rfl] at this;rw [this,aP hx];simp only [aD,aP (show (0:Int)<=(k:Int) by omega)]
 · have:=key.2 fun i hi he=>hx (bD.2 ⟨i,hi,he⟩)
   rw [show ((0:Nat):Int)=0 from rfl] at this;rw [this,aM hx];rfl
theorem I3 (l:List (Int×Int)) (x:Int×Int) (hl:l.length<=1000000):GC l x=some (decide (x∈l)):=by
 unfold GC;have key:=dA (body:=xF) (fun i=>(l,(i:Int),x)) l.length (fun i=>l[i]! =x) (r:=true) (e:=false) (fun i hi=>by
  have e1:decide ((i:Int)<(l.length:Int))=true:=aP (by omega)
  unfold xF;simp only [aF,e1,cond_true,aE l i hi,aD,aX (show i<1000000000 by omega)]
  generalize l[i]! =y;constructor
  · intro h;rw [gO (congrArg Prod.fst h),gO (congrArg Prod.snd h)];rfl
  · intro h
    by_cases h1:y.1=x.1
    · rw [gO h1,fW (fun h2=>h (Prod.ext h1 h2))];rfl
    · rw [fW h1];rfl) (by
  unfold xF
  have:decide ((l.length:Int)<(l.length:Int))=false:=aM (by omega)
  simp only [aF,this,cond_false])
 by_cases hx:x∈l
 · rw [aP hx];exact key.1 (bD.1 hx)
 · rw [aM hx];exact key.2 fun i hi he=>hx (bD.2 ⟨i,hi,he⟩)
theorem VS (x y:uG):((x.1==y.1)&&((x.2.1==y.2.1)&&(x.2.2==y.2.2)))=decide (x=y):=by
 rw [Bool.eq_iff_iff,decide_eq_true_iff];simp only [Bool.and_eq_true,beq_iff_eq];constructor
 · rintro ⟨h1,h2,h3⟩;exact Prod.ext h1 (Prod.ext h2 h3)
 · rintro rfl;exact ⟨rfl,rfl,rfl⟩
theorem I4 (a b:List uG) (hl:a.length<=1000000):vX ⟨a⟩ ⟨b⟩=some (decide (a=b)):=by
 unfold vX;simp only [aF]
 by_cases h:a.length=b.length
 case neg=>rw [dM (by omega),aM (fun k=>h (by rw [k]))];rfl
 rw [cQ (by omega)]
 simp only [cond_false];have key:=dA (body:=sR) (fun i=>((i:Int),a,b)) a.length (fun i=> ¬a[i]! =b[i]!) (r:=false) (e:=true) (fun i hi=>by
  have e1:decide ((i:Int)<(a.length:Int))=true:=aP (by omega)
  unfold sR;simp only [aF,e1,cond_true,aE a i hi,aE b i (by omega),aD,aX (show i<1000000000 by omega),VS]
  constructor
  · intro h;rw [aM h];rfl
  · intro h;rw [aP (Classical.not_not.1 h)];rfl) (by
  unfold sR
  have:decide ((a.length:Int)<(a.length:Int))=false:=aM (by omega)
  simp only [aF,this,cond_false])
 by_cases he:a=b
 · rw [aP he]
   exact key.2 fun i hi=>Classical.not_not.2 (by rw [he])
 · rw [aM he]
   refine key.1 (Classical.byContradiction fun hx=>he (CL h fun i hi=>?_))
   exact Classical.byContradiction fun hn=>hx ⟨i,hi,hn⟩
theorem GT (a b:List uG) (hl:a.length<=1000000):iO a b=some (decide (a=b)):=by
 unfold iO;simp only [aF]
 by_cases h:a.length=b.length
 case neg=>rw [dM (by omega),aM (fun k=>h (by rw [k]))];rfl
 rw [cQ (by omega)]
 simp only [cond_false];have key:=dA (body:=iU) (fun i=>(a,b,(a.length:Int),(i:Int))) a.length (fun i=> ¬a[i]! =b[i]!) (r:=false) (e:=true) (fun i hi=>by
  have e1:decide ((i:Int)<(a.length:Int))=true:=aP (by omega)
  unfold iU;simp only [e1,cond_true,aE a i hi,aE b i (by omega),aD,aX (show i<1000000000 by omega),VS]
  constructor
  · intro h;rw [aM h];rfl
  · intro h;rw [aP (Classical.not_not.1 h)];rfl) (by
  unfold iU
  have:decide ((a.length:Int)<(a.length:Int))=false:=aM (by omega)
  simp only [this,cond_false])
 by_cases he:a=b
 · rw [aP he]
   exact key.2 fun i hi=>Classical.not_not.2 (by rw [he])
 · rw [aM he]
   refine key.1 (Classical.byContradiction fun hx=>he (CL h fun i hi=>?_))
   exact Classical.byContradiction fun hn=>hx ⟨i,hi,hn⟩
theorem ZY {cs:List uG} {m:Nat} {x:uG} (hx:x∈cs) (hne:x.1≠(cs[m]!).1):x∈cs.eraseIdx m:=by
 obtain ⟨j,hj,rfl⟩:=bD.1 hx;have hjm:j≠m:=fun h=>hne (by rw [h])
 rw [wE,List.mem_append]
 by_cases h:j<m
 · exact .inl (cJ.2 ⟨j,h,hj,rfl⟩)
 · right
   rw [bD];refine ⟨j- (m+1),by rw [List.length_drop];omega,?_⟩
   rw [vD]
   congr 1;omega
def kP (c0:aQ) (f:List Pt) (es:List (Int×Int)) (i:Nat) (c:aQ):=
 (es,c0.certs.list,(c0.certs.list.length:Int),(i:Int),c.now.1,c.now.2,c.field.points,c.certs.next_,c.certs.list,c.agenda.slots.uses,c.agenda.slots.used,c.agenda.slots.free,c.agenda.heap,c.agenda.where_,c.due,f,(0:Int),(0:Int),(0:Int))
def kR (c0:aQ) (f:List Pt) (es:List (Int×Int)) (i:Nat) (c:aQ):=
 (es,(i:Int),c0.now.1,c0.now.2,c0.field.points,c0.certs.next_,c0.certs.list,c0.agenda.slots.uses,c0.agenda.slots.used,c0.agenda.slots.free,c0.agenda.heap,c0.agenda.where_,c0.due,f,(0:Int),(0:Int),(0:Int),c.now.1,c.now.2,c.field.points,c.certs.next_,c.certs.list,c.agenda.slots.uses,c.agenda.slots.used,c.agenda.slots.free,c.agenda.heap,c.agenda.where_,c.due)
def eP (es:List (Int×Int)) (i:Nat) (c:aQ):=
 (es,(es.length:Int),(i:Int),c.now.1,c.now.2,c.field.points,c.certs.next_,c.certs.list,c.agenda.slots.uses,c.agenda.slots.used,c.agenda.slots.free,c.agenda.heap,c.agenda.where_,c.due,(0:Int),(0:Int),(0:Int))
def eR (es:List (Int×Int)) (i:Nat) (c:aQ):=
 (es,(i:Int),(0:Int),(0:Int),(0:Int),c.now.1,c.now.2,c.field.points,c.certs.next_,c.certs.list,c.agenda.slots.uses,c.agenda.slots.used,c.agenda.slots.free,c.agenda.heap,c.agenda.where_,c.due)
def GU (c:aQ):Int:=c.certs.next_- (c.certs.list.length:Int)
structure TB (c:aQ) (f:List Pt) (es:List (Int×Int)) (r:aQ):Prop where
 has: ∀e∈es,wF r.certs.list e
 sub: ∀x∈r.certs.list,x.2∈es
 ok:bE r
 fld:r.field.points=f
 now:r.now=c.now
 room:GU c<=GU r
def OB (c:aQ) (k:Nat):Prop:=c.certs.list.length<=k/\c.certs.next_<=k/\ ∀j,j<c.agenda.slots.uses.length->c.agenda.slots.uses[j]!<=k
theorem aY.len {l:List Pt} {t:Int×Int} {H:List Ev}: ∀{cs ds:List uG},aY l t H cs ds->ds.length<=cs.length
 | [],ds,h=>by rw [show ds=[] from h];exact Nat.le_refl _
 |x::cs,ds,h=>by
  cases hy:(bI l x.2 t).2 with
  |true=>
   obtain ⟨d,ds',rfl,_,_,h4⟩:=h.1 hy;exact Nat.succ_le_succ h4.len
  |false=>exact Nat.le_succ_of_le (h.2 hy).len
theorem OB.not_full {c:aQ} (ok:bE c) {k:Nat} (h:OB c k) (hk:k<=199): ¬(GP c.certs\/ ¬BJ c.agenda.slots):=by
 obtain ⟨h1,h2,h3⟩:=h;have fl:=ok.fol.len;have hd:=ok.hd;have hl:=ok.agd.hl;have wl:=ok.agd.wl;have w2:=ok.w200;rintro (h|h)
 · rcases h with h|h<;>omega
 · refine h ⟨by omega,?_⟩
   have:=h3 _ (DJ ok.agd.so (by omega)).1
   omega
theorem OB.more {c c':aQ} {k:Nat} (h:OB c k) {x:Int×Int} (hc:c'.certs=qY c.certs x) (hs:c'.agenda.slots=c.agenda.slots\/c'.agenda.slots=gR c.agenda.slots):OB c' (k+1):=by
 obtain ⟨h1,h2,h3⟩:=h;refine ⟨?_,?_,fun j hj=>?_⟩
 · rw [hc]
   show (c.certs.list++[(c.certs.next_,x)]).length<=_;rw [List.length_append,List.length_singleton];omega
 · rw [hc]
   show c.certs.next_+1<=_;omega
 · rcases hs with e|e
   · rw [e] at hj ⊢
     have:=h3 j hj;omega
   · rw [e] at hj ⊢
     change j<(c.agenda.slots.uses.set _ _).length at hj;rw [List.length_set] at hj;show (c.agenda.slots.uses.set (cU c.agenda.slots) (c.agenda.slots.uses[cU c.agenda.slots]!+1))[j]!<=_;rw [bB];split
     · rename_i h;have:=h3 _ h.2;omega
     · have:=h3 j hj;omega
structure JX (f:List Pt) (es:List (Int×Int)):Prop where
 len:es.length<=1000000
 cv: ∀x∈es,fJ x
 kn: ∀x∈es,jR f x
theorem aB4 {c0:aQ} (ok0:bE c0) {f:List Pt} {es:List (Int×Int)} (eok:JX f es):
 ∀(d i:Nat) (c:aQ),c0.certs.list.length-i<=d->i<=c0.certs.list.length->bE c->(∀x∈c0.certs.list.drop i,x∈c.certs.list)->(∀x∈c.certs.list,x∈c0.certs.list.drop i\/x.2∈es)->
  ∃c':aQ,aH dZ (kP c0 f es i c)=aH dZ (kP c0 f es c0.certs.list.length c')/\aH dG (kR c0 f es i c)=aH dG (kR c0 f es c0.certs.list.length c')/\bE c'/\(∀x∈c'.certs.list,x.2∈es)/\c'.field=c.field/\c'.now=c.now/\GU c<=GU c':=by
 have bd:=ok0.bd;intro d
 induction d with
 |zero=>
  intro i c hd hi ok h1 h2
  have:i=c0.certs.list.length:=by omega
  subst this;refine ⟨c,rfl,rfl,ok,fun x hx=>?_,rfl,rfl,Int.le_refl _⟩
  rcases h2 x hx with h|h
  · rw [List.drop_length] at h;cases h
  · exact h
 |succ d ih=>
  intro i c hd hi ok h1 h2
  by_cases he:i=c0.certs.list.length
  · subst he
    refine ⟨c,rfl,rfl,ok,fun x hx=>?_,rfl,rfl,Int.le_refl _⟩
    rcases h2 x hx with h|h
    · rw [List.drop_length] at h;cases h
    · exact h
  have hi':i<c0.certs.list.length:=by omega
  have e1:decide ((i:Int)<(c0.certs.list.length:Int))=true:=aP (by omega)
  have sc:=aX (show i<1000000000 by omega)
  have cg:=aE c0.certs.list i hi';have dr:=vE hi';have ceta:(aQ.mk (c.now.1,c.now.2) (Field.mk c.field.points) (aW.mk c.certs.next_ c.certs.list) (aI.mk (aR.mk c.agenda.slots.uses c.agenda.slots.used c.agenda.slots.free) c.agenda.heap c.agenda.where_) c.due)=c:=rfl
  by_cases hin:(c0.certs.list[i]!).2∈es
  · have s1:dZ (kP c0 f es i c)=some (.next (kP c0 f es (i+1) c)):=by
     unfold dZ kP;simp only [e1,cond_true,cg,aD,oM _ _ eok.len,aP hin,Bool.not_true,cond_false,sc]
    have s2:dG (kR c0 f es i c)=some (.next (kR c0 f es (i+1) c)):=by
     unfold dG kR;simp only [aF,e1,cond_true,cg,aD,I3 _ _ eok.len,aP hin,Bool.not_true,cond_false,sc]
    rw [aZ s1,aZ s2];refine ih (i+1) c (by omega) (by omega) ok (fun x hx=>h1 x (by rw [dr];exact List.mem_cons_of_mem _ hx)) (fun x hx=>?_)
    rcases h2 x hx with h|h
    · rw [dr] at h
      rcases List.mem_cons.1 h with rfl|h
      · exact .inr hin
      · exact .inl h
    · exact .inr h
  · have hm:=h1 (c0.certs.list[i]!) (by rw [dr];exact List.mem_cons_self)
    obtain ⟨m,hm1,hm2⟩:=bD.1 hm;obtain ⟨c',r1,r2,r3,r4,r5,r6⟩:=aOt ok hm1;have rt:=JE ok hm1 r1;rw [hm2] at r2 rt;have s1:dZ (kP c0 f es i c)=some (.next (kP c0 f es (i+1) c')):=by
     unfold dZ kP;simp only [e1,cond_true,cg,aD,oM _ _ eok.len,aM hin,Bool.not_false,sc,ceta,rt]
    have s2:dG (kR c0 f es i c)=some (.next (kR c0 f es (i+1) c')):=by
     unfold dG kR;simp only [aF,e1,cond_true,cg,aD,I3 _ _ eok.len,aM hin,Bool.not_false,sc,ceta,r2]
    rw [aZ s1,aZ s2];have cl:c'.certs.list=c.certs.list.eraseIdx m:=by rw [r6];rfl
    have hroom:GU c<=GU c':=by
     unfold GU;rw [r6];show _<=c.certs.next_- (((c.certs.list.eraseIdx m).length:Nat):Int);rw [List.length_eraseIdx_of_lt hm1];omega
    have hs:(∀x∈c0.certs.list.drop (i+1),x∈c'.certs.list)/\(∀x∈c'.certs.list,x∈c0.certs.list.drop (i+1)\/x.2∈es):=by
     refine ⟨fun x hx=>?_,fun x hx=>?_⟩
     · rw [cl]
       refine ZY (h1 x (by rw [dr];exact List.mem_cons_of_mem _ hx)) ?_
       rw [hm2];exact GS ok0 hx hi'
     · rw [cl] at hx
       obtain ⟨a1,a2⟩:=A6 ok.crt_up hm1 hx;rw [hm2] at a2;rcases h2 x a1 with h|h
       · rw [dr] at h
         rcases List.mem_cons.1 h with rfl|h
         · exact absurd rfl a2
         · exact .inl h
       · exact .inr h
    obtain ⟨d',q1,q2,q3,q4,q5,q6,q7⟩:=ih (i+1) c' (by omega) (by omega) r3 hs.1 hs.2
    exact ⟨d',q1,q2,q3,q4,q5.trans r4,q6.trans r5,by omega⟩
theorem TC {f:List Pt} (_fok:cP f) {es:List (Int×Int)} (eok:JX f es):
 ∀(d i:Nat) (c:aQ),es.length-i<=d->i<=es.length->bE c->c.field.points=f->(∀x∈c.certs.list,x.2∈es)->(∀j,j<i->wF c.certs.list es[j]!)->
  ∃r:aQ×Int,aH eX (eP es i c)=some (.done r)/\aH dQ (eR es i c)=some (.done r)/\(r.2=0/\TB c f es r.1\/r=(dD,18))/\(∀k,OB c k->k+(es.length-i)<=199->r.2=0):=by
 have el:=eok.len;have fin: ∀c:aQ,bE c->c.field.points=f->(∀x∈c.certs.list,x.2∈es)->(∀j,j<es.length->wF c.certs.list es[j]!)-> ∃r:aQ×Int,aH eX (eP es es.length c)=some (.done r)/\aH dQ (eR es es.length c)=some (.done r)/\(r.2=0/\TB c f es r.1\/r=(dD,18))/\r.2=0:=by
  intro c ok hf hs hh;have e1:decide ((es.length:Int)<(es.length:Int))=false:=aM (by omega)
  refine ⟨(c,0),aL ?_,aL ?_,.inl ⟨rfl,fun e he=>by obtain ⟨j,hj,q⟩:=bD.1 he;rw [<- q];exact hh j hj,hs,ok,hf,rfl,Int.le_refl _⟩,rfl⟩
  · unfold eX eP
    simp only [e1,cond_false]
  · unfold dQ eR
    simp only [aF,e1,cond_false]
 intro d
 induction d with
 |zero=>
  intro i c hd hi ok hf hs hh
  have:i=es.length:=by omega
  subst this;obtain ⟨r,q1,q2,q3,q4⟩:=fin c ok hf hs hh;exact ⟨r,q1,q2,q3,fun _ _ _=>q4⟩
 |succ d ih=>
  intro i c hd hi ok hf hs hh
  by_cases he:i=es.length
  · subst he
    obtain ⟨r,q1,q2,q3,q4⟩:=fin c ok hf hs hh;exact ⟨r,q1,q2,q3,fun _ _ _=>q4⟩
  have bd:=ok.bd;have hi':i<es.length:=by omega
  have e1:decide ((i:Int)<(es.length:Int))=true:=aP (by omega)
  have sc:=aX (show i<1000000000 by omega)
  have cg:=aE es i hi';have ceta:(aQ.mk (c.now.1,c.now.2) (Field.mk c.field.points) (aW.mk c.certs.next_ c.certs.list) (aI.mk (aR.mk c.agenda.slots.uses c.agenda.slots.used c.agenda.slots.free) c.agenda.heap c.agenda.where_) c.due)=c:=rfl;have ceta2:aW.mk c.certs.next_ c.certs.list=c.certs:=rfl;have hc:=S4 c.certs.list es[i]! (by omega)
  have hr:=A5 c.certs es[i]! (by omega)
  by_cases hin:wF c.certs.list es[i]!
  · have s1:eX (eP es i c)=some (.next (eP es (i+1) c)):=by
     unfold eX eP;simp only [e1,cond_true,cg,aD,ID,hc,aP hin,sc]
    have s2:dQ (eR es i c)=some (.next (eR es (i+1) c)):=by
     unfold dQ eR;simp only [aF,e1,cond_true,cg,aD,ceta2,hr,aP hin,sc]
    rw [aZ s1,aZ s2];obtain ⟨r,q1,q2,q3,q4⟩:=ih (i+1) c (by omega) (by omega) ok hf hs (fun j hj=>if q:j=i then by rw [q];exact hin else hh j (by omega))
    exact ⟨r,q1,q2,q3,fun k hk hl=>q4 k hk (by omega)⟩
  · have hb:jR c.field.points es[i]!:=by rw [hf];exact eok.kn _ (bF hi')
    rcases aIb ok (eok.cv _ (bF hi')) hb hin with ⟨r1,r2,full⟩|⟨c',r1,r2,r3,r4,r5,r6,r7⟩
    · refine ⟨(dD,18),aL ?_,aL ?_,.inr rfl,fun k hk hl=>absurd full (hk.not_full ok (by omega))⟩
      · unfold eX eP
        simp only [e1,cond_true,cg,aD,ID,hc,aM hin,cond_false,ceta,r1,show ((18:Int) !=0)=true from rfl]
      · unfold dQ eR
        simp only [aF,e1,cond_true,cg,aD,ceta2,hr,aM hin,cond_false,ceta,r2,show ((18:Int) !=0)=true from rfl]
    · have s1:eX (eP es i c)=some (.next (eP es (i+1) c')):=by
       unfold eX eP;simp only [e1,cond_true,cg,aD,ID,hc,aM hin,cond_false,ceta,r1,show ((0:Int) !=0)=false from rfl,sc]
      have s2:dQ (eR es i c)=some (.next (eR es (i+1) c')):=by
       unfold dQ eR;simp only [aF,e1,cond_true,cg,aD,ceta2,hr,aM hin,cond_false,ceta,r2,show ((0:Int) !=0)=false from rfl,sc]
      rw [aZ s1,aZ s2];obtain ⟨r,q1,q2,q3,q6⟩:=ih (i+1) c' (by omega) (by omega) r3 (by rw [r4,hf]) (fun x hx=>by
       rw [r6] at hx;rcases List.mem_append.1 (show x∈c.certs.list++[(c.certs.next_,es[i]!)] from hx) with h|h
       · exact hs x h
       · rw [List.mem_singleton.1 h];exact bF hi') (fun j hj=>by
       rw [r6];show wF (c.certs.list++[(c.certs.next_,es[i]!)]) _
       by_cases q:j=i
       · rw [q];exact ⟨c.certs.list.length,by rw [List.length_append,List.length_singleton];omega,by rw [gP (Nat.le_refl _),Nat.sub_self];rfl⟩
       · obtain ⟨w,w1,w2⟩:=hh j (by omega)
         exact ⟨w,by rw [List.length_append];omega,by rw [gJ w1];exact w2⟩)
      refine ⟨r,q1,q2,q3.imp (fun ⟨q4,q5⟩=>⟨q4,q5.has,q5.sub,q5.ok,q5.fld,q5.now.trans r5,Int.le_trans ?_ q5.room⟩) id,fun k hk hl=>q6 (k+1) (hk.more r6 r7) (by omega)⟩
      unfold GU;rw [r6];show _<=(c.certs.next_+1) - (((c.certs.list++[(c.certs.next_,es[i]!)]).length:Nat):Int);rw [List.length_append,List.length_singleton];omega
theorem aId {c:aQ} (ok:bE c) {f:List Pt} (fok:cP f) {es:List (Int×Int)} (eok:JX f es):
 ∃r:aQ×Int,tQ c ⟨f⟩ es=some r/\mG c ⟨f⟩ es=some r/\(r.2=0/\TB c f es r.1\/r=(dD,18)):=by
 have f64:=fok.1;obtain ⟨c',g1,g2,g3,g4,g5,g6,g7⟩:=aB4 ok eok c.certs.list.length 0 c (by omega) (by omega) ok (fun x hx=>by rwa [List.drop_zero] at hx) (fun x hx=> .inl (by rwa [List.drop_zero]))
 have bd:=g3.bd;have e1:decide ((c.certs.list.length:Int)<(c.certs.list.length:Int))=false:=aM (by omega)
 have start1:tQ c ⟨f⟩ es=aH dZ (kP c f es 0 c):=rfl;have start2:mG c ⟨f⟩ es=aH dG (kR c f es 0 c):=by
  unfold mG;simp only [jS ok,aD];rfl
 rw [start1,start2,g1,g2];have eq1:=GT c'.field.points f (by omega)
 have eq2:=I4 c'.field.points f (by omega)
 have ceta:(aQ.mk (c'.now.1,c'.now.2) (Field.mk c'.field.points) (aW.mk c'.certs.next_ c'.certs.list) (aI.mk (aR.mk c'.agenda.slots.uses c'.agenda.slots.used c'.agenda.slots.free) c'.agenda.heap c'.agenda.where_) c'.due)=c':=rfl
 by_cases hf:c'.field.points=f
 · obtain ⟨r,i1,i2,i3,_⟩:=TC fok eok es.length 0 c' (by omega) (by omega) g3 hf g4 (fun j hj=>absurd hj (Nat.not_lt_zero j))
   refine ⟨r,aL ?_,aL ?_,i3.imp (fun ⟨q4,q5⟩=>⟨q4,q5.has,q5.sub,q5.ok,q5.fld,q5.now.trans g6,Int.le_trans g7 q5.room⟩) id⟩
   · unfold dZ kP
     simp only [e1,cond_false,eq1,aP hf,aD,Bool.not_true];exact i1
   · unfold dG kR
     simp only [aF,e1,cond_false,eq2,aP hf,aD,Bool.not_true];exact i2
 · have kn: ∀i,i<c'.certs.list.length->jR f (c'.certs.list[i]!).2:=fun i hi=>eok.kn _ (g4 _ (bF hi))
   rcases aQ1 g3 fok kn with ⟨a1,a2⟩|⟨c2,a1,a2,a3,a4,a5,a6⟩
   · refine ⟨(dD,18),aL ?_,aL ?_,.inr rfl⟩
     · unfold dZ kP
       simp only [e1,cond_false,eq1,aM hf,aD,Bool.not_false,cond_true,ceta,a1,show ((18:Int) !=0)=true from rfl]
     · unfold dG kR
       simp only [aF,e1,cond_false,eq2,aM hf,aD,Bool.not_false,cond_true,ceta,a2,show ((18:Int) !=0)=true from rfl]
   · obtain ⟨r,i1,i2,i3,_⟩:=TC fok eok es.length 0 c2 (by omega) (by omega) a3 a4 (by rw [a6];exact g4) (fun j hj=>absurd hj (Nat.not_lt_zero j))
     refine ⟨r,aL ?_,aL ?_,i3.imp (fun ⟨q4,q5⟩=>⟨q4,q5.has,q5.sub,q5.ok,q5.fld,(q5.now.trans a5).trans g6,Int.le_trans (Int.le_trans g7 (by unfold GU;rw [a6];exact Int.le_refl _)) q5.room⟩) id⟩
     · unfold dZ kP
       simp only [e1,cond_false,eq1,aM hf,aD,Bool.not_false,cond_true,ceta,a1,show ((0:Int) !=0)=false from rfl];exact i1
     · unfold dG kR
       simp only [aF,e1,cond_false,eq2,aM hf,aD,Bool.not_false,cond_true,ceta,a2,show ((0:Int) !=0)=false from rfl];exact i2
end Go.Proofs.YticklbjcnimggaaGreat
namespace Go.Proofs.YticklbjcnimggaaGreat
open Go.Vm Classical
theorem MM {α:Type} [Inhabited α] {l:List α}:l.Nodup↔ ∀k,k<l.length->l[k]!∉l.take k:=by
 rw [lQ];constructor
 · intro h k hk hm
   obtain ⟨i,h1,h2,h3⟩:=cJ.1 hm;exact h i k h1 hk h3
 · intro h i j hij hj he
   exact h j hj (cJ.2 ⟨i,hij,by omega,he⟩)
theorem GV {α:Type} [Inhabited α] {l:List α} {P:α->Prop}:(∀x∈l,P x)↔ ∀i,i<l.length->P l[i]!:=by
 constructor
 · intro h i hi;exact h _ (bF hi)
 · intro h x hx
   obtain ⟨i,hi,rfl⟩:=bD.1 hx;exact h i hi
theorem P6 {σ ρ:Type} {body:σ->Option (cE σ ρ)} (st:Nat->σ) (n:Nat) (P:Nat->Prop) {r e:ρ} (h: ∀i,i<n->(¬P i->body (st i)=some (.done r))/\(P i->body (st i)=some (.next (st (i+1)))))
 (hend:body (st n)=some (.done e)):aH body (st 0)=some (if∀i,i<n->P i then e else r):=by
 have key:=dA (body:=body) st n (fun i=> ¬P i) (r:=r) (e:=e) (fun i hi=>⟨(h i hi).1,fun hn=>(h i hi).2 (Classical.not_not.1 hn)⟩) hend
 by_cases hx: ∀i,i<n->P i
 · rw [if_pos hx];exact key.2 fun i hi=>Classical.not_not.2 (hx i hi)
 · rw [if_neg hx]
   obtain ⟨i,h⟩:=Classical.not_forall.1 hx;obtain ⟨hi,hx⟩:=Classical.not_imp.1 h;exact key.1 ⟨i,hi,hx⟩
theorem EB {f:List Pt} (fok:cP f) (id:Int): ∃p e,vR ⟨f⟩ id=some (p,e)/\(e=0↔BL f id):=by
 have h1:=fok.1;have hc:fE ⟨f⟩=some 0:=by rw [kU];exact congrArg some (jM.2 fok)
 have bs:=JW f id (by omega) (fun i j=>zD fok.2.2)
 unfold vR CH EW;rw [aH9];simp only [hc,aD,show ((0:Int) !=0)=false from rfl,cond_false]
 by_cases h:BL f id
 · obtain ⟨k,hk,he⟩:=h
   rw [bs.1 k hk he];refine ⟨f[k]!,0,?_,fun _=>⟨k,hk,he⟩,fun _=>rfl⟩
   simp only [aD,Bool.not_true,cond_false,show ((0:Int) !=0)=false from rfl,aE f k hk]
 · obtain ⟨m,_,_,_,e⟩:=bs.2 (fun k hk he=>h ⟨k,hk,he⟩)
   rw [e];exact ⟨(0,0,0),6,rfl,fun h=>(by cases h),fun k=>absurd k h⟩
structure TD (c:aQ):Prop where
 f:c.field.points.length<=1000000
 l:c.certs.list.length<=1000000
 d:c.due.length<=1000000
 h:c.agenda.heap.length<=1000000
 w:c.agenda.where_.length<=1000000
 s1:c.agenda.slots.uses.length<=1000000
 s2:c.agenda.slots.used.length<=1000000
 s3:c.agenda.slots.free.length<=1000000
theorem bE.short {c:aQ} (ok:bE c):TD c:=by
 have bd:=ok.bd;have ab:=ok.agd.bd;have sl:=ok.agd.so.fl;have sn:=ok.agd.so.n2;have su:=ok.agd.so.ul;exact ⟨by omega,by omega,by omega,by omega,by omega,by omega,by omega,by omega⟩
theorem M1:TD dD:=⟨by decide,by decide,by decide,by decide,by decide,by decide,by decide,by decide⟩
theorem IH (l:List Int) (hl:l.length<=1000000):kQ l l=some true:=by
 unfold kQ;rw [cQ rfl];refine (bV (body:=mN) (fun i=>(l,l,(i:Int))) l.length fun i hi=>?_).trans (aL ?_)
 · have e1:decide ((i:Int)<(l.length:Int))=true:=aP (by omega)
   unfold mN;simp only [aF,e1,cond_true,aE l i hi,aD,aX (show i<1000000000 by omega),cQ rfl,cond_false]
 · unfold mN
   have:decide ((l.length:Int)<(l.length:Int))=false:=aM (by omega)
   simp only [aF,this,cond_false]
theorem VT (l:List Bool) (hl:l.length<=1000000):oU l l=some true:=by
 unfold oU;rw [cQ rfl];refine (bV (body:=lO) (fun i=>(l,l,(i:Int))) l.length fun i hi=>?_).trans (aL ?_)
 · have e1:decide ((i:Int)<(l.length:Int))=true:=aP (by omega)
   unfold lO;simp only [aF,e1,cond_true,aE l i hi,aD,aX (show i<1000000000 by omega),beq_self_eq_true,Bool.not_true,cond_false]
 · unfold lO
   have:decide ((l.length:Int)<(l.length:Int))=false:=aM (by omega)
   simp only [aF,this,cond_false]
theorem VU (c:aW) (hl:c.list.length<=1000000):AU c c=some true:=by
 unfold AU;rw [cQ rfl,cQ rfl];refine (bV (body:=sV) (fun i=>((i:Int),c.next_,c.list,c.next_,c.list)) c.list.length fun i hi=>?_).trans (aL ?_)
 · have e1:decide ((i:Int)<(c.list.length:Int))=true:=aP (by omega)
   unfold sV;simp only [aF,e1,cond_true,aE c.list i hi,aD,aX (show i<1000000000 by omega),beq_self_eq_true,Bool.and_self,Bool.not_true,cond_false]
 · unfold sV
   have:decide ((c.list.length:Int)<(c.list.length:Int))=false:=aM (by omega)
   simp only [aF,this,cond_false]
theorem TE (a:aI) (h1:a.heap.length<=1000000) (h2:a.where_.length<=1000000) (h3:a.slots.uses.length<=1000000) (h4:a.slots.used.length<=1000000) (h5:a.slots.free.length<=1000000):AV a a=some true:=by
 unfold AV E1;simp only [IH _ h3,VT _ h4,IH _ h5,IH _ h2,aD,cond_true,Bool.not_true,cond_false];rw [cQ rfl];refine (bV (body:=sW) (fun i=>((i:Int),a.slots.uses,a.slots.used,a.slots.free,a.heap,a.where_,a.slots.uses,a.slots.used,a.slots.free,a.heap,a.where_)) a.heap.length fun i hi=>?_).trans (aL ?_)
 · have e1:decide ((i:Int)<(a.heap.length:Int))=true:=aP (by omega)
   unfold sW;simp only [aF,e1,cond_true,aE a.heap i hi,aD,aX (show i<1000000000 by omega),beq_self_eq_true,Bool.and_self,Bool.not_true,cond_false]
 · unfold sW
   have:decide ((a.heap.length:Int)<(a.heap.length:Int))=false:=aM (by omega)
   simp only [aF,this,cond_false]
theorem VV {c:aQ} (sh:TD c):AW c c=some true:=by
 have hd:=sh.d;unfold AW;simp only [beq_self_eq_true,Bool.and_self,Bool.not_true,cond_false,I4 c.field.points c.field.points sh.f,VU _ sh.l,TE _ sh.h sh.w sh.s1 sh.s2 sh.s3,aD,aP];rw [cQ rfl]
 refine (bV (body:=sX) (fun i=>((i:Int),c.now.1,c.now.2,c.field.points,c.certs.next_,c.certs.list,c.agenda.slots.uses,c.agenda.slots.used,c.agenda.slots.free,c.agenda.heap,c.agenda.where_,c.due,c.now.1,c.now.2,c.field.points,c.certs.next_,c.certs.list,c.agenda.slots.uses,c.agenda.slots.used,c.agenda.slots.free,c.agenda.heap,c.agenda.where_,c.due)) c.due.length fun i hi=>?_).trans (aL ?_)
 · have e1:decide ((i:Int)<(c.due.length:Int))=true:=aP (by omega)
   unfold sX;simp only [aF,e1,cond_true,aE c.due i hi,aD,aX (show i<1000000000 by omega),beq_self_eq_true,Bool.and_self,Bool.not_true,cond_false]
 · unfold sX
   have:decide ((c.due.length:Int)<(c.due.length:Int))=false:=aM (by omega)
   simp only [aF,this,cond_false]
structure aIe (c:aQ):Prop where
 now:oA c.now
 at64: ∀w,w<c.agenda.heap.length->oA ((c.agenda.heap[w]!).1,(c.agenda.heap[w]!).2.1)
theorem I5 (f:Field):pJ f=some true\/(pJ f=some false/\f.points.length<=70):=by
 unfold pJ
 simp only [aF]
 by_cases h1:16<f.points.length
 · rw [aP (show (16:Int)<(f.points.length:Int) by omega)]
   by_cases h2:f.points.length<64
   · rw [aP (show (f.points.length:Int)<64 by omega)];exact .inl rfl
   · rw [aM (show¬(f.points.length:Int)<64 by omega)]
     by_cases h3:70<f.points.length
     · rw [aP (show (70:Int)<(f.points.length:Int) by omega)];exact .inl rfl
     · rw [aM (show¬(70:Int)<(f.points.length:Int) by omega)];exact .inr ⟨rfl,by omega⟩
 · rw [aM (show¬(16:Int)<(f.points.length:Int) by omega),aM (show¬(70:Int)<(f.points.length:Int) by omega)]
   exact .inr ⟨rfl,by omega⟩
theorem TF (c:aQ):tM c=some true\/(tM c=some false/\TD c):=by
 unfold tM CC CB
 simp only [aF]
 by_cases h1:40<c.certs.list.length
 · rw [aP (show (40:Int)<(c.certs.list.length:Int) by omega)];exact .inl rfl
 rw [aM (show¬(40:Int)<(c.certs.list.length:Int) by omega)]
 by_cases h2:40<c.due.length
 · rw [aP (show (40:Int)<(c.due.length:Int) by omega)];exact .inl rfl
 rw [aM (show¬(40:Int)<(c.due.length:Int) by omega)]
 rcases I5 c.field with e|⟨e,hf⟩
 · rw [e];exact .inl rfl
 rw [e];simp only [cond_false,aD]
 by_cases a1:210<c.agenda.slots.uses.length
 · rw [aP (show (210:Int)<(c.agenda.slots.uses.length:Int) by omega)];exact .inl rfl
 rw [aM (show¬(210:Int)<(c.agenda.slots.uses.length:Int) by omega)]
 by_cases a2:210<c.agenda.slots.used.length
 · rw [aP (show (210:Int)<(c.agenda.slots.used.length:Int) by omega)];exact .inl rfl
 rw [aM (show¬(210:Int)<(c.agenda.slots.used.length:Int) by omega)]
 by_cases a3:210<c.agenda.slots.free.length
 · rw [aP (show (210:Int)<(c.agenda.slots.free.length:Int) by omega)];exact .inl rfl
 rw [aM (show¬(210:Int)<(c.agenda.slots.free.length:Int) by omega)]
 by_cases a4:210<c.agenda.heap.length
 · rw [aP (show (210:Int)<(c.agenda.heap.length:Int) by omega)];exact .inl rfl
 rw [aM (show¬(210:Int)<(c.agenda.heap.length:Int) by omega)]
 by_cases a5:210<c.agenda.where_.length
 · rw [aP (show (210:Int)<(c.agenda.where_.length:Int) by omega)];exact .inl rfl
 rw [aM (show¬(210:Int)<(c.agenda.where_.length:Int) by omega)]
 exact .inr ⟨rfl,⟨by omega,by omega,by omega,by omega,by omega,by omega,by omega,by omega⟩⟩
end Go.Proofs.YticklbjcnimggaaGreat
namespace Go.Proofs.YticklbjcnimggaaGreat
open Go.Vm Classical
theorem aIf (p q:Pt) (t:Int×Int):NX p q t=(p.2.1-q.2.1)*t.2+(p.2.2-q.2.2)*t.1:=rfl
end Go.Proofs.YticklbjcnimggaaGreat
namespace Go.Proofs.YticklbjcnimggaaGreat
open Go.Vm Classical
end Go.Proofs.YticklbjcnimggaaGreat
namespace Go.Proofs.YticklbjcnimggaaGreat
open Go.Vm Classical
theorem JF {p q:Pt} {t:Int×Int} (hp:hZ p) (hq:hZ q) (ht:oA t) (hr:bU t):nP p q t=some (decide (gQ p q t),if p.1=q.1 then 2 else 0)\/(p.1=q.1/\nP p q t=some (false,2)):=by
 unfold nP;rw [yD ht,if_pos ⟨hp,hq,hr⟩]
 by_cases h:p.1=q.1
 · right;simp [h]
 · left
   simp only [h,if_false,aD,xM hp hq ht]
   have:decide (0<VD p q t)=decide (gQ p q t):=by simp only [LW]
   simp [this]
end Go.Proofs.YticklbjcnimggaaGreat
namespace Go.Proofs.YticklbjcnimggaaGreat
open Go.Vm Classical
theorem aIg {f:List Pt} (fok:cP f) {t:Int×Int} (r64:oA t) {x:Int×Int} (hb:jR f x):AS x ⟨f⟩ t=some (decide (gQ (mO f x.2) (mO f x.1) t)):=by
 obtain ⟨h1,h2⟩:=hb;obtain ⟨j,j1,j2,j3⟩:=IG fok h1;obtain ⟨k,k1,k2,k3⟩:=IG fok h2;unfold AS;simp only [j2,k2,aD,aE f j j1,aE f k k1,j3,k3,GI (jD fok h2).1 (jD fok h1).1 r64]
end Go.Proofs.YticklbjcnimggaaGreat
namespace Go.Proofs.YticklbjcnimggaaGreat
open Go.Vm Classical
theorem TG {c:aW} (ok:eK c):(c.list.map fun x=>x.2).Nodup:=by
 refine E3 ?_ ?_
 · exact lQ.2 fun i j hij hj e=>ok.nd i j hij hj (by rw [e])
 · intro x hx y hy e
   obtain ⟨i,hi,rfl⟩:=bD.1 hx;obtain ⟨j,hj,rfl⟩:=bD.1 hy;rcases Nat.lt_trichotomy i j with k|k|k
   · exact absurd e (ok.nd i j k hj)
   · rw [k]
   · exact absurd e.symm (ok.nd j i k hi)
theorem GW {l:List uG} {x:Int×Int}:wF l x↔x∈l.map fun y=>y.2:=by
 unfold wF;rw [List.mem_map];constructor
 · rintro ⟨i,hi,rfl⟩;exact ⟨l[i]!,bF hi,rfl⟩
 · rintro ⟨y,hy,rfl⟩
   obtain ⟨i,hi,rfl⟩:=bD.1 hy;exact ⟨i,hi,rfl⟩
theorem aIh {c:aQ} (ok:bE c) (es:List (Int×Int)) (kn: ∀x∈es,jR c.field.points x):
 AT c es=some (decide (c.certs.list.length=es.length/\ ∀i,i<es.length->wF c.certs.list es[i]!/\gQ (mO c.field.points (es[i]!).2) (mO c.field.points (es[i]!).1) c.now)):=by
 have bd:=ok.bd;unfold AT;simp only [aF]
 by_cases h0:c.certs.list.length=es.length
 case neg=>rw [dM (by omega),cond_true,aM (fun h=>h0 h.1)]
 rw [cQ (by omega),cond_false]
 have key:=P6 (body:=sU) (fun i=>(es,(i:Int),c.now.1,c.now.2,c.field.points,c.certs.next_,c.certs.list,c.agenda.slots.uses,c.agenda.slots.used,c.agenda.slots.free,c.agenda.heap,c.agenda.where_,c.due)) es.length
  (fun i=>wF c.certs.list es[i]!/\gQ (mO c.field.points (es[i]!).2) (mO c.field.points (es[i]!).1) c.now) (r:=false) (e:=true) (fun i hi=>by
  have ceta2:aW.mk c.certs.next_ c.certs.list=c.certs:=rfl;unfold sU;simp only [aF,aP (show (i:Int)<(es.length:Int) by omega),cond_true,aE es i hi,aD,ceta2,A5 c.certs es[i]! (by omega),aIg ok.fld (t:=(c.now.1,c.now.2)) ok.now64 (kn _ (bF hi)),aX (show i<1000000000 by omega)]
  by_cases h1:wF c.certs.list es[i]!
  · rw [aP h1]
    by_cases h2:gQ (mO c.field.points (es[i]!).2) (mO c.field.points (es[i]!).1) c.now
    · rw [show decide (gQ (mO c.field.points (es[i]!).2) (mO c.field.points (es[i]!).1) (c.now.1,c.now.2))=true from aP h2]
      exact ⟨fun h=>absurd ⟨h1,h2⟩ h,fun _=>rfl⟩
    · rw [show decide (gQ (mO c.field.points (es[i]!).2) (mO c.field.points (es[i]!).1) (c.now.1,c.now.2))=false from aM h2]
      exact ⟨fun _=>rfl,fun h=>absurd h.2 h2⟩
  · rw [aM h1]
    exact ⟨fun _=>rfl,fun h=>absurd h.1 h1⟩) (by
  unfold sU;simp only [aF,aM (show¬(es.length:Int)<(es.length:Int) by omega),cond_false])
 refine (show _=_ from key).trans ?_
 by_cases h2: ∀i,i<es.length->wF c.certs.list es[i]!/\gQ (mO c.field.points (es[i]!).2) (mO c.field.points (es[i]!).1) c.now
 · rw [if_pos h2,aP ⟨h0,h2⟩]
 · rw [if_neg h2,aM (fun h=>h2 h.2)]
end Go.Proofs.YticklbjcnimggaaGreat
