/- Plain laws (3). -/
import Derived.Test.YtfejhjllooomlaaGreatBQM2
import Derived.Test.YtfejhjllooomlaaGreatBQS2
namespace Go.Proofs.YtfejhjllooomlaaGreat
open Go.Vm Classical
theorem T4 (c:aP) (n:Int) (hl:c.due.length<=1000000):(∀k,k<c.due.length->(c.due[k]!).1=n->(∀j,j<k->(c.due[j]!).1≠n)->pZ c n=some (k:Int))/\((∀k,k<c.due.length->(c.due[k]!).1≠n)->pZ c n=some (-1)):=by
 unfold pZ;refine lT (body:=rB) (fun i=>(n,(i:Int),c.now.1,c.now.2,c.field.points,c.certs.next_,c.certs.list,c.agenda.slots.uses,c.agenda.slots.used,c.agenda.slots.free,c.agenda.heap,c.agenda.where_,c.due)) c.due.length (fun i=>(c.due[i]!).1=n) (fun i=>(i:Int)) (fun i hi=>?_) ?_
 · have e1:decide ((i:Int)<(c.due.length:Int))=true:=aO (by omega)
   unfold rB;simp only [aE,e1,cond_true,aB c.due i hi,aC,bB (show i<1000000000 by omega)]
   constructor
   · intro h;rw [gH h];rfl
   · intro h;rw [fR h];rfl
 · unfold rB
   have:decide ((c.due.length:Int)<(c.due.length:Int))=false:=aL (by omega)
   simp only [aE,this,cond_false]
theorem OY {ds:List uW} (hu:Up ds) (hl:ds.length<=1000000) (n:Int):(∀k,k<ds.length->(ds[k]!).1=n->pU ds n=some ((k:Int),true))/\((∀k,k<ds.length->(ds[k]!).1≠n)-> ∃m:Nat,pU ds n=some ((m:Int),false)):=by
 have bs:=vP ds n hl (vQ.1 hu);unfold pU;rw [aOR];constructor
 · intro k hk he;rw [bs.1 k hk he];rfl
 · intro h
   obtain ⟨m,_,_,_,e⟩:=bs.2 h;exact ⟨m,by rw [e];rfl⟩
theorem bF.bd {c:aP} (ok:bF c):c.due.length<=200/\c.field.points.length<=64/\c.certs.list.length<=200:=by
 have:=ok.hd;have:=ok.agd.bd;have:=ok.fld.1;have:=ok.crt.len
 omega
theorem kJ {c:aP} (ok:bF c):jD c=some c:=by
 have bd:=ok.bd;unfold jD lX pI;simp only [aX (show c.field.points.length<=1048576 by omega),aX (show c.certs.list.length<=1048576 by omega),aX (show c.due.length<=1048576 by omega),aC,tI ok.agd]
theorem mW {c:aP} (ok:bF c):nN c=some c:=by
 have bd:=ok.bd;have ab:=ok.agd.bd;have hl:=ok.agd.so.fl;have hn:=ok.agd.so.n2;have hu:=ok.agd.so.ul;unfold nN;simp only [aX (show c.field.points.length<=1048576 by omega),aX (show c.certs.list.length<=1048576 by omega),aX (show c.due.length<=1048576 by omega),aX (show c.agenda.heap.length<=1048576 by omega),aX (show c.agenda.where_.length<=1048576 by omega),
  aX (show c.agenda.slots.uses.length<=1048576 by omega),aX (show c.agenda.slots.used.length<=1048576 by omega),aX (show c.agenda.slots.free.length<=1048576 by omega),aC]
theorem BJ {cs:List uW} {i:Nat} (hu:Up cs) (hi:i<cs.length) {x:uW} (hx:x∈cs.eraseIdx i):x∈cs/\x.1≠(cs[i]!).1:=by
 rw [wY,List.mem_append] at hx;have ub:=vQ.1 hu;rcases hx with hx|hx
 · obtain ⟨j,h1,h2,rfl⟩:=cK.1 hx
   have:=ub j i h1 hi
   exact ⟨bD h2,by omega⟩
 · obtain ⟨j,hj,rfl⟩:=aZ.1 hx
   rw [List.length_drop] at hj;rw [sE]
   have:=ub i (i+1+j) (by omega) (by omega)
   exact ⟨bD (by omega),by omega⟩
theorem JP {c:aP} (ok:bF c) (i:Nat) (hi:i<c.certs.list.length): ∀j,j<(pD c.certs i).list.length->kI c.field.points ((pD c.certs i).list[j]!).2:=by
 intro j hj;have hm:(pD c.certs i).list[j]!∈c.certs.list:=(BJ ok.crt_up hi (bD hj)).1;obtain ⟨m,hm1,hm2⟩:=aZ.1 hm;rw [<- hm2];exact ok.known m hm1
theorem aOS {c:aP} (ok:bF c) {i:Nat} (hi:i<c.certs.list.length):
 ∃c':aP,rZ c (c.certs.list[i]!).1=some (c',(c.certs.list[i]!).2,0)/\wT c (c.certs.list[i]!).1=some c'/\bF c'/\c'.field=c.field/\c'.now=c.now/\c'.certs=pD c.certs i:=by
 have bd:=ok.bd;have rm:=M8 ok.crt hi (n:=(c.certs.list[i]!).1) rfl;have wo:=IY ok.crt hi (n:=(c.certs.list[i]!).1) rfl;have fe:=ok.fol.erase (i:=i) hi;have pd:=OY ok.due_up (by omega) (c.certs.list[i]!).1
 have da:=T4 c (c.certs.list[i]!).1 (by omega)
 cases hf:(bH c.field.points (c.certs.list[i]!).2 c.now).2 with
 |false=>
  have no: ∀k,k<c.due.length->(c.due[k]!).1≠(c.certs.list[i]!).1:=by
   intro k hk he;obtain ⟨x,hx,h1,h2,_⟩:=ok.fol.due _ (bD hk);obtain ⟨j,hj,rfl⟩:=aZ.1 hx;have ub:=vQ.1 ok.crt_up
   have:j=i:=by
    rcases Nat.lt_trichotomy j i with h|h|h
    · have:=ub j i h hi;omega
    · exact h
    · have:=ub i j h hj;omega
   rw [this,hf] at h2;cases h2
  refine ⟨⟨c.now,c.field,pD c.certs i,c.agenda,c.due⟩,?_,?_,?_,rfl,rfl,rfl⟩
  · unfold rZ
    obtain ⟨m,e⟩:=pd.2 no;simp only [rm,aC,show ((0:Int) !=0)=false from rfl,cond_false,mW ok,e]
  · unfold wT
    simp only [kJ ok,aC,wo,da.2 no,aL (show¬(0:Int)<= -1 by omega),cond_false]
  · exact ⟨ok.nowv,ok.now64,ok.fld,M7 ok.crt hi,ok.agd,ok.w200,ok.hd,JP ok i hi,fe.1 hf⟩
 |true=>
  obtain ⟨k,hk,k1,k2,k3⟩:=fe.2 hf;obtain ⟨w,hw,hev⟩:=aZ.1 k2;have hh:(c.agenda.heap[w]!).2.2.2=(c.due[k]!).2:=by rw [hev]
  have ub:=vQ.1 ok.due_up;have before: ∀j,j<k->(c.due[j]!).1≠(c.certs.list[i]!).1:=fun j hj he=>by have:=ub j k hj hk;omega
  have dl:(c.due.eraseIdx k).length=c.due.length-1:=YZ hk;obtain ⟨L,d1,d2⟩:=JN c.due k hk;refine ⟨⟨c.now,c.field,pD c.certs i,eO c.agenda w,c.due.eraseIdx k⟩,?_,?_,?_,rfl,rfl,rfl⟩
  · unfold rZ
    simp only [rm,aC,show ((0:Int) !=0)=false from rfl,cond_false,mW ok,pd.1 k hk k1,cond_true,aB c.due k hk,zX ok.agd hw ok.agd.fit hh,bB (show k<1000000000 by omega),WC,d1,d2]
  · unfold wT
    have s1:jO c.due 0 (k:Int)=some (c.due.take k):=oG c.due k (by omega)
    have s2:jO c.due ((k+1:Nat):Int) (c.due.length:Int)=some (c.due.drop (k+1)):=by
     unfold jO;rw [if_pos ⟨by omega,by omega,by omega⟩]
     simp only [Int.toNat_natCast];rw [List.take_of_length_le (by rw [List.length_drop];exact Nat.le_refl _)]
    have tl:(c.due.take k).length=k:=by rw [List.length_take];omega
    have dl2:(c.due.drop (k+1)).length=c.due.length- (k+1):=List.length_drop;simp only [kJ ok,aC,wo,da.1 k hk k1 before,aO (show (0:Int)<=(k:Int) by omega),cond_true,aB c.due k hk,zY ok.agd hw hh,s1,aX (show (c.due.take k).length<=1048576 by omega),bB (show k<1000000000 by omega),aE,s2,
     dN (show (c.due.take k).length+(c.due.drop (k+1)).length<=1048576 by omega),wY]
    cases hem:(c.due.drop (k+1)).isEmpty with
    |true=>
     rw [List.isEmpty_iff] at hem;rw [hem,List.append_nil];rfl
    |false=>rfl
  · have rem:=IV ok.agd hw
    have rmem:=M3 ok.agd hw;have hlen:(eO c.agenda w).heap.length=c.agenda.heap.length-1:=by
     have h1:=rem.hl;have h2:=ok.agd.hl;have h3:(eO c.agenda w).slots=fX c.agenda.slots (c.agenda.heap[w]!).2.2.2:=by unfold eO;split<;>rfl
     rw [h3] at h1;change _+(c.agenda.slots.free++[_]).length=c.agenda.slots.uses.length at h1;rw [List.length_append] at h1;simp only [List.length_cons,List.length_nil] at h1;omega
    have wlen:(eO c.agenda w).where_.length=200:=by
     have h1:=rem.wl;have h3:(eO c.agenda w).slots=fX c.agenda.slots (c.agenda.heap[w]!).2.2.2:=by unfold eO;split<;>rfl
     rw [h3] at h1;change _=c.agenda.slots.uses.length at h1;rw [h1,<- ok.agd.wl,ok.w200]
    refine ⟨ok.nowv,ok.now64,ok.fld,M7 ok.crt hi,rem,wlen,?_,JP ok i hi,?_⟩
    · show (eO c.agenda w).heap.length=(c.due.eraseIdx k).length
      rw [hlen,dl,ok.hd]
    · refine k3.mono fun x hx e he hm=>(rmem e).2 ⟨hm,fun h=>?_⟩
      have:=(BJ ok.crt_up hi hx).2
      rw [h,hev] at he;exact this he.symm
theorem J5 {c:aP} (ok:bF c) {i:Nat} (_hi:i<c.certs.list.length) {c':aP} (h:rZ c (c.certs.list[i]!).1=some (c',(c.certs.list[i]!).2,0)):vK c (c.certs.list[i]!).1=some (c',0):=by
 unfold vK;rw [nV ok.fit,if_pos ok];simp only [aC,show ((0:Int) !=0)=false from rfl,cond_false,h]
end Go.Proofs.YtfejhjllooomlaaGreat
namespace Go.Proofs.YtfejhjllooomlaaGreat
open Go.Vm Classical
abbrev dG:aP:=⟨(0,0),⟨[]⟩,⟨0,[]⟩,⟨⟨[],[],[]⟩,[],[]⟩,[]⟩
theorem QV {l:List Pt} (ok:bS l) {id:Int} (h:kH l id): ¬(bG l id).1<0:=by
 obtain ⟨h1,_⟩:=fI ok h
 have:=h1.1
 omega
theorem aI7 {c:aP} (ok:bF c) {x:Int×Int} (hx:fU x) (hb:kI c.field.points x) (hn: ¬wZ c.certs.list x):
 (iW c x=some (dG,0,18)/\lS c x=some (dG,0,18)/\(G7 c.certs\/ ¬B0 c.agenda.slots))\/
 ∃c':aP,iW c x=some (c',c.certs.next_,0)/\lS c x=some (c',c.certs.next_,0)/\bF c'/\c'.field=c.field/\c'.now=c.now/\c'.certs=rG c.certs x/\(c'.agenda.slots=c.agenda.slots\/c'.agenda.slots=hO c.agenda.slots):=by
 have bd:=ok.bd;have n0:=ok.crt.n0;have n1:=ok.crt.n1;have fit:=ok.fit;have ad:=TZ ok.crt hx;have rd:=QT ok.crt hx;rw [if_neg hn] at ad rd;have hc:gZ c=some 0:=by rw [nV fit,if_pos ok]
 have p1:=nU ok.fld x.1;have p2:=nU ok.fld x.2;have q1:=QV ok.fld hb.1;have q2:=QV ok.fld hb.2;have wh:=yZ ok.fld hx ok.nowv ok.now64;rw [if_pos hb] at wh;have rw':=zA ok.fld ok.now64 hb
 by_cases hf:G7 c.certs
 · rw [if_pos hf] at ad rd
   left;refine ⟨?_,?_,.inl hf⟩
   · unfold iW dH
     simp only [hc,aC,show ((0:Int) !=0)=false from rfl,cond_false,ad,show ((18:Int)==8)=false from rfl,p1,p2,aL q1,aL q2,show ((18:Int) !=0)=true from rfl,cond_true]
   · unfold lS
     simp only [rd,aC,show ((18:Int) !=0)=true from rfl,cond_true]
 rw [if_neg hf] at ad rd;have cok:=WE ok.crt hx hn hf;have known': ∀j,j<(rG c.certs x).list.length->kI c.field.points ((rG c.certs x).list[j]!).2:=by
  intro j hj;rw [EA] at hj;rw [xA]
  by_cases h:j<c.certs.list.length
  · rw [if_pos h];exact ok.known j h
  · rw [if_neg h,if_pos (by omega)];exact hb
 have fresh: ∀e∈c.agenda.heap,Ev.num e≠c.certs.next_:=by
  intro e he hne;obtain ⟨d,hd,h1⟩:=ok.nums e he;obtain ⟨y,hy,h2,_⟩:=ok.fol.due d hd;obtain ⟨j,hj,rfl⟩:=aZ.1 hy
  have:=(ok.crt.nr j hj).2
  omega
 have sn:=ok.fol.snoc (x:=(c.certs.next_,x));cases hw:(bH c.field.points x c.now).2 with
 |false=>
  right;refine ⟨⟨c.now,c.field,rG c.certs x,c.agenda,c.due⟩,?_,?_,⟨ok.nowv,ok.now64,ok.fld,cok,ok.agd,ok.w200,ok.hd,known',sn.1 hw⟩,rfl,rfl,rfl,.inl rfl⟩
  · unfold iW dH
    simp only [hc,aC,show ((0:Int) !=0)=false from rfl,cond_false,ad,show ((0:Int)==8)=false from rfl,p1,p2,aL q1,aL q2,mW ok,wh,hw]
  · unfold lS
    simp only [rd,aC,show ((0:Int) !=0)=false from rfl,cond_false,kJ ok,rw',hw,Bool.not_false,cond_true]
 |true=>
  obtain ⟨t1,t2⟩:=ML (fI ok.fld hb.2).1 (fI ok.fld hb.1).1 ok.now64 ok.nowv hw
  by_cases op:B0 c.agenda.slots
  · right
    have pu:=zU ok.agd op ok.agd.fit (t:=(bH c.field.points x c.now).1) (n:=c.certs.next_) t1 t2 n0 n1 fresh;have rp:=B1 ok.agd op (t:=(bH c.field.points x c.now).1) (n:=c.certs.next_) t1 t2 n0 n1;have pok:=YX ok.agd op (t:=(bH c.field.points x c.now).1) (n:=c.certs.next_) t1 t2 n0 n1 fresh
    have pmem:=TU ok.agd op (t:=(bH c.field.points x c.now).1) (n:=c.certs.next_) t1;have plen:=G5 ok.agd op (t:=(bH c.field.points x c.now).1) (n:=c.certs.next_) t1;have ap: ∀h:Int×Int,bO c.due [(c.certs.next_,h)]=some (c.due++[(c.certs.next_,h)]):=fun h=>dN (by simp;omega)
    have wlen:(mG c.agenda (bH c.field.points x c.now).1 c.certs.next_).where_.length=200:=by
     have:=pok.wl
     change _=(c.agenda.slots.uses.set _ _).length at this;rw [List.length_set] at this;rw [this,<- ok.agd.wl,ok.w200]
    refine ⟨⟨c.now,c.field,rG c.certs x,mG c.agenda (bH c.field.points x c.now).1 c.certs.next_,c.due++[(c.certs.next_,mF c.agenda.slots)]⟩,?_,?_,⟨ok.nowv,ok.now64,ok.fld,cok,pok,wlen,?_,known',?_⟩,rfl,rfl,rfl,.inr rfl⟩
    · unfold iW dH
      simp only [hc,aC,show ((0:Int) !=0)=false from rfl,cond_false,ad,show ((0:Int)==8)=false from rfl,p1,p2,aL q1,aL q2,mW ok,wh,hw,cond_true,pu,ap]
    · unfold lS
      simp only [rd,aC,show ((0:Int) !=0)=false from rfl,cond_false,kJ ok,rw',hw,Bool.not_true,tH ok.agd.so,aO op,rp,ap]
    · show (mG c.agenda (bH c.field.points x c.now).1 c.certs.next_).heap.length=(c.due++[_]).length
      rw [plen,List.length_append,ok.hd];rfl
    · have fm:aY c.field.points c.now (mG c.agenda (bH c.field.points x c.now).1 c.certs.next_).heap c.certs.list c.due:=ok.fol.mono fun y hy e he hm=>(pmem e).2 (.inr hm)
      exact (fm.snoc (x:=(c.certs.next_,x))).2 _ hw rfl ((pmem _).2 (.inl rfl))
  · left
    have pu:=zV ok.agd op ok.agd.fit (t:=(bH c.field.points x c.now).1) (n:=c.certs.next_) t1 t2 n0 n1 fresh;refine ⟨?_,?_,.inr op⟩
    · unfold iW dH
      simp only [hc,aC,show ((0:Int) !=0)=false from rfl,cond_false,ad,show ((0:Int)==8)=false from rfl,p1,p2,aL q1,aL q2,mW ok,wh,hw,cond_true,pu,show ((18:Int) !=0)=true from rfl]
    · unfold lS
      simp only [rd,aC,show ((0:Int) !=0)=false from rfl,cond_false,kJ ok,rw',hw,Bool.not_true,tH ok.agd.so,aL op,Bool.not_false,cond_true]
end Go.Proofs.YtfejhjllooomlaaGreat
namespace Go.Proofs.YtfejhjllooomlaaGreat
open Go.Vm Classical
theorem Up.inj {cs:List uW} (h:Up cs) {x y:uW} (hx:x∈cs) (hy:y∈cs) (he:x.1=y.1):x=y:=by
 obtain ⟨i,hi,rfl⟩:=aZ.1 hx;obtain ⟨j,hj,rfl⟩:=aZ.1 hy;have ub:=vQ.1 h;rcases Nat.lt_trichotomy i j with h1|h1|h1
 · have:=ub i j h1 hj;omega
 · rw [h1]
 · have:=ub j i h1 hi;omega
structure NA (c:aP) (f:List Pt) (i k:Nat) (a:aG) (ds:List uW):Prop where
 ok:eY a
 w2:a.where_.length=200
 new:aY f c.now a.heap (c.certs.list.take i) ds
 old:aY c.field.points c.now a.heap (c.certs.list.drop i) (c.due.drop k)
 kl:k<=c.due.length
 cnt:a.heap.length=ds.length+(c.due.length-k)
theorem aOT {a:aG} (ok:eY a) {w:Nat} (hw:w<a.heap.length):(eO a w).heap.length=a.heap.length-1/\(eO a w).where_.length=a.where_.length:=by
 have rem:=IV ok hw;have h3:(eO a w).slots=fX a.slots (a.heap[w]!).2.2.2:=by unfold eO;split<;>rfl
 have h1:=rem.hl;have h2:=ok.hl;have h4:=rem.wl;rw [h3] at h1 h4;change _+(a.slots.free++[_]).length=a.slots.uses.length at h1;change _=a.slots.uses.length at h4;rw [List.length_append] at h1;simp only [List.length_cons,List.length_nil] at h1;exact ⟨by omega,by rw [h4,ok.wl]⟩
theorem aI8 {a:aG} {t:Int×Int} {n:Int} (ok:eY a) (pok:eY (mG a t n)):(mG a t n).where_.length=a.where_.length:=by
 have:=pok.wl
 change _=(a.slots.uses.set _ _).length at this;rw [List.length_set] at this;rw [this,ok.wl]
section
variable {c : aP} (ok : bF c) {f : List Pt} (fok : bS f) (kn : ∀ i, i < c.certs.list.length -> kI f (c.certs.list[i]!).2)
include ok
theorem G8 {i:Nat} {x:uW} (hx:x∈c.certs.list.take i) (hi:i<c.certs.list.length):x.1≠(c.certs.list[i]!).1:=by
 obtain ⟨j,h1,h2,rfl⟩:=cK.1 hx
 have:=ok.crt.up j i h1 hi
 omega
theorem G9 {i:Nat} {x:uW} (hx:x∈c.certs.list.drop (i+1)) (hi:i<c.certs.list.length):x.1≠(c.certs.list[i]!).1:=by
 obtain ⟨j,h1,rfl⟩:=aZ.1 hx;rw [List.length_drop] at h1;rw [sE]
 have:=ok.crt.up i (i+1+j) (by omega) (by omega)
 omega
theorem aAo {i k:Nat} {a:aG} {ds:List uW} (inv:NA c f i k a ds) (hi:i<c.certs.list.length) (was:(bH c.field.points (c.certs.list[i]!).2 c.now).2=false): ∀e∈a.heap,Ev.num e≠(c.certs.list[i]!).1:=by
 have u1:Up (c.certs.list.take i):=ok.crt_up.sublist (List.take_sublist _ _);have u2:Up (c.certs.list.drop i):=ok.crt_up.sublist (List.drop_sublist _ _);have d1:=inv.new.up u1;have d2:=inv.old.up u2;have cross: ∀x∈ds,∀y∈c.due.drop k,x.1<y.1:=by
  intro x hx y hy;obtain ⟨p,hp,h1,_⟩:=inv.new.due x hx;obtain ⟨q,hq,h2,_⟩:=inv.old.due y hy;obtain ⟨m,m1,m2,rfl⟩:=cK.1 hp;obtain ⟨n,n1,rfl⟩:=aZ.1 hq;rw [List.length_drop] at n1;rw [sE] at h2
  have:=ok.crt.up m (i+n) (by omega) (by omega)
  omega
 have nd:((ds++c.due.drop k).map fun x=>x.1).Nodup:=T3 (by
  show List.Pairwise _ _;rw [List.pairwise_append];exact ⟨d1,d2,cross⟩)
 have only:=JO (H:=a.heap) nd (by rw [List.length_map,List.length_append,List.length_drop,inv.cnt];exact Nat.le_refl _) (fun n hn=>by
  obtain ⟨x,hx,rfl⟩:=List.mem_map.1 hn;rcases List.mem_append.1 hx with hx|hx
  · obtain ⟨p,hp,h1,h2,h3⟩:=inv.new.due x hx
    exact ⟨_,h3,h1.symm⟩
  · obtain ⟨p,hp,h1,h2,h3⟩:=inv.old.due x hx
    exact ⟨_,h3,h1.symm⟩)
 intro e he hne;obtain ⟨x,hx,h1⟩:=List.mem_map.1 (only e he);rcases List.mem_append.1 hx with hx|hx
 · obtain ⟨p,hp,h2,_⟩:=inv.new.due x hx
   exact G8 ok hp hi (by rw [<- h2,h1,hne])
 · obtain ⟨p,hp,h2,h3,_⟩:=inv.old.due x hx
   have hp':p∈c.certs.list:=List.mem_of_mem_drop hp
   have:=ok.crt_up.inj hp' (bD hi) (by rw [<- h2,h1,hne])
   rw [this,was] at h3;cases h3
def stP (c:aP) (f:List Pt) (i:Nat) (a:aG) (ds:List uW):=
 (c.certs.list,(c.certs.list.length:Int),(i:Int),c.now.1,c.now.2,c.field.points,c.certs.next_,c.certs.list,c.agenda.slots.uses,c.agenda.slots.used,c.agenda.slots.free,c.agenda.heap,c.agenda.where_,c.due,f,(0:Int),(0:Int),(0:Int),c.now.1,c.now.2,c.certs.next_,c.certs.list,a.slots.uses,a.slots.used,a.slots.free,a.heap,a.where_,f,ds)
def stR (c:aP) (f:List Pt) (i:Nat) (a:aG) (ds:List uW):=
 ((i:Int),c.now.1,c.now.2,c.field.points,c.certs.next_,c.certs.list,c.agenda.slots.uses,c.agenda.slots.used,c.agenda.slots.free,c.agenda.heap,c.agenda.where_,c.due,f,(0:Int),(0:Int),(0:Int),c.now.1,c.now.2,f,c.certs.next_,c.certs.list,a.slots.uses,a.slots.used,a.slots.free,a.heap,a.where_,ds)
include fok kn
theorem aCG {i k:Nat} {a:aG} {ds:List uW} (inv:NA c f i k a ds) (hi:i<c.certs.list.length) (hds:ds.length<=i):
 (dK (stP c f i a ds)=some (.done (.done (dG,18)))/\cN (stR c f i a ds)=some (.done (dG,18)))\/
 ∃k' a' ds',dK (stP c f i a ds)=some (.next (stP c f (i+1) a' ds'))/\cN (stR c f i a ds)=some (.next (stR c f (i+1) a' ds'))/\NA c f (i+1) k' a' ds'/\ds'.length<=i+1:=by
 have bd:=ok.bd;have e1:decide ((i:Int)<(c.certs.list.length:Int))=true:=aO (by omega)
 have sc:=bB (show i<1000000000 by omega)
 have cg:=aB c.certs.list i hi;have hb:=kn i hi;have wn:=yZ fok (x:=(c.certs.list[i]!).2) (t:=(c.now.1,c.now.2)) (ok.crt.cv i hi) ok.nowv ok.now64;rw [if_pos hb] at wn;have wr:=zA fok (x:=(c.certs.list[i]!).2) (t:=(c.now.1,c.now.2)) ok.now64 hb;have pd:=OY ok.due_up (by omega) (c.certs.list[i]!).1
 have da:=T4 c (c.certs.list[i]!).1 (by omega)
 have dr:=wB hi;have tk:=hM hi;have old:=inv.old;rw [dr] at old;have aeta:aG.mk (aR.mk a.slots.uses a.slots.used a.slots.free) a.heap a.where_=a:=rfl
 have ceta:(aP.mk (c.now.1,c.now.2) (Field.mk c.field.points) (aU.mk c.certs.next_ c.certs.list) (aG.mk (aR.mk c.agenda.slots.uses c.agenda.slots.used c.agenda.slots.free) c.agenda.heap c.agenda.where_) c.due)=c:=rfl;have other: ∀x∈c.certs.list.take i,x.1≠(c.certs.list[i]!).1:=fun x hx=>G8 ok hx hi
 have other': ∀x∈c.certs.list.drop (i+1),x.1≠(c.certs.list[i]!).1:=fun x hx=>G9 ok hx hi
 cases hwas:(bH c.field.points (c.certs.list[i]!).2 c.now).2 with
 |true=>
  obtain ⟨d,ds',hd1,hd2,hd3,hd4⟩:=(aY.cons_true hwas).1 old;have hk:k<c.due.length:=by
   refine Classical.byContradiction fun h=>?_
   rw [List.drop_eq_nil_of_le (by omega)] at hd1
   cases hd1
  have dk:=wB hk;rw [dk] at hd1;injection hd1 with hd5 hd6;subst hd5 hd6;obtain ⟨w,hw,hev⟩:=aZ.1 hd3;have hh:(a.heap[w]!).2.2.2=(c.due[k]!).2:=by rw [hev]
  have hnum:Ev.num a.heap[w]! =(c.certs.list[i]!).1:=by rw [hev]
  have before: ∀j,j<k->(c.due[j]!).1≠(c.certs.list[i]!).1:=fun j hj he=>by
   have:=vQ.1 ok.due_up j k hj hk
   omega
  have pl:=pd.1 k hk hd2;have dq:=da.1 k hk hd2 before;have gk:=aB c.due k hk;have k0:decide ((0:Int)<=(k:Int))=true:=aO (by omega)
  have ap:bO ds [c.due[k]!]=some (ds++[c.due[k]!]):=dN (by simp;omega)
  cases his:(bH f (c.certs.list[i]!).2 c.now).2 with
  |true=>
   right;have tt:cJ (bH f (c.certs.list[i]!).2 c.now).1/\rI (bH f (c.certs.list[i]!).2 c.now).1:=ML (fI fok hb.2).1 (fI fok hb.1).1 ok.now64 ok.nowv his;obtain ⟨t1,t2⟩:=tt;have re:=J4 inv.ok inv.ok.fit (t:=(bH f (c.certs.list[i]!).2 c.now).1) hw hh t1 t2;have rr:=IU inv.ok (t:=(bH f (c.certs.list[i]!).2 c.now).1) hw hh t1 t2
   have rok:=aCA inv.ok hw t1 t2;have rmem:=aAn inv.ok hw t1;have rlen:=IT inv.ok hw t1;have stay: ∀(cs:List uW),(∀x∈cs,x.1≠(c.certs.list[i]!).1)-> ∀x∈cs,∀e:Ev,e.num=x.1->e∈a.heap->e∈(kV a w (bH f (c.certs.list[i]!).2 c.now).1).heap:=by
    intro cs hcs x hx e he hm;refine (rmem e).2 (.inr ⟨hm,fun h=>hcs x hx ?_⟩)
    rw [<- he,h,hnum]
   refine ⟨k+1,kV a w (bH f (c.certs.list[i]!).2 c.now).1,ds++[c.due[k]!],?_,?_,⟨rok,by rw [rlen.2];exact inv.w2,?_,?_,by omega,?_⟩,by simp;omega⟩
   · unfold dK stP
     simp only [e1,cond_true,cg,aC,wn,pl,his,gk,aeta,re,ap,show ((0:Int) !=0)=false from rfl,cond_false,sc]
   · unfold cN stR
     simp only [aE,e1,cond_true,cg,aC,ceta,dq,wr,his,k0,gk,aeta,rr,ap,Bool.not_true,cond_false,sc]
   · rw [tk]
     exact ((inv.new.mono (stay _ other)).snoc (x:=c.certs.list[i]!)).2 _ his hd2 ((rmem _).2 (.inl (by
      show _=((bH f (c.certs.list[i]!).2 c.now).1.1,(bH f (c.certs.list[i]!).2 c.now).1.2,(a.heap[w]!).2.2);rw [hev])))
   · exact hd4.mono (stay _ other')
   · rw [rlen.1,inv.cnt,List.length_append]
     simp only [List.length_cons,List.length_nil];omega
  |false=>
   right;have rv:=zX inv.ok hw inv.ok.fit hh;have rr:=zY inv.ok hw hh;have rok:=IV inv.ok hw;have rmem:=M3 inv.ok hw;have rlen:=aOT inv.ok hw;have stay: ∀(cs:List uW),(∀x∈cs,x.1≠(c.certs.list[i]!).1)-> ∀x∈cs,∀e:Ev,e.num=x.1->e∈a.heap->e∈(eO a w).heap:=by
    intro cs hcs x hx e he hm;refine (rmem e).2 ⟨hm,fun h=>hcs x hx ?_⟩
    rw [<- he,h,hnum]
   refine ⟨k+1,eO a w,ds,?_,?_,⟨rok,by rw [rlen.2];exact inv.w2,?_,hd4.mono (stay _ other'),by omega,?_⟩,by omega⟩
   · unfold dK stP
     simp only [e1,cond_true,cg,aC,wn,pl,his,gk,aeta,rv,show ((0:Int) !=0)=false from rfl,cond_false,sc]
   · unfold cN stR
     simp only [aE,e1,cond_true,cg,aC,ceta,dq,wr,his,k0,gk,aeta,rr,Bool.not_false,cond_false,sc]
   · rw [tk]
     exact ((inv.new.mono (stay _ other)).snoc (x:=c.certs.list[i]!)).1 his
   · have:=inv.cnt
     rw [rlen.1];omega
 |false=>
  have fol:=(aY.cons_false hwas).1 old;have no: ∀j,j<c.due.length->(c.due[j]!).1≠(c.certs.list[i]!).1:=by
   intro j hj he;obtain ⟨x,hx,h1,h2,_⟩:=ok.fol.due _ (bD hj)
   have:=ok.crt_up.inj hx (bD hi) (by rw [<- h1,he])
   rw [this,hwas] at h2;cases h2
  obtain ⟨m,pl⟩:=pd.2 no;have dq:=da.2 no;have k0:decide ((0:Int)<= -1)=false:=aL (by omega)
  cases his:(bH f (c.certs.list[i]!).2 c.now).2 with
  |true=>
   have tt:cJ (bH f (c.certs.list[i]!).2 c.now).1/\rI (bH f (c.certs.list[i]!).2 c.now).1:=ML (fI fok hb.2).1 (fI fok hb.1).1 ok.now64 ok.nowv his;obtain ⟨t1,t2⟩:=tt;have n0:=(ok.crt.nr i hi).1;have n1:(c.certs.list[i]!).1<=1000000:=by have:=(ok.crt.nr i hi).2;have:=ok.crt.n1;omega
   have fresh:=aAo ok inv hi hwas
   by_cases op:B0 a.slots
   · right
     have pu:=zU inv.ok op inv.ok.fit (t:=(bH f (c.certs.list[i]!).2 c.now).1) (n:=(c.certs.list[i]!).1) t1 t2 n0 n1 fresh;have rp:=B1 inv.ok op (t:=(bH f (c.certs.list[i]!).2 c.now).1) (n:=(c.certs.list[i]!).1) t1 t2 n0 n1;have pok:=YX inv.ok op (t:=(bH f (c.certs.list[i]!).2 c.now).1) (n:=(c.certs.list[i]!).1) t1 t2 n0 n1 fresh
     have pmem:=TU inv.ok op (t:=(bH f (c.certs.list[i]!).2 c.now).1) (n:=(c.certs.list[i]!).1) t1;have plen:=G5 inv.ok op (t:=(bH f (c.certs.list[i]!).2 c.now).1) (n:=(c.certs.list[i]!).1) t1;have ap: ∀h:Int×Int,bO ds [((c.certs.list[i]!).1,h)]=some (ds++[((c.certs.list[i]!).1,h)]):=fun h=>dN (by simp;omega)
     have opn:=tH inv.ok.so;rw [aO op] at opn;refine ⟨k,mG a (bH f (c.certs.list[i]!).2 c.now).1 (c.certs.list[i]!).1,ds++[((c.certs.list[i]!).1,mF a.slots)],?_,?_,⟨pok,by rw [aI8 inv.ok pok];exact inv.w2,?_,?_,inv.kl,?_⟩,by simp;omega⟩
     · unfold dK stP
       simp only [e1,cond_true,cg,aC,wn,pl,his,aeta,pu,ap,show ((0:Int) !=0)=false from rfl,cond_false,sc]
     · unfold cN stR
       simp only [aE,e1,cond_true,cg,aC,ceta,dq,wr,his,k0,aeta,rp,ap,Bool.not_true,cond_false,sc,opn]
     · rw [tk]
       exact ((inv.new.mono fun x hx e he hm=>(pmem e).2 (.inr hm)).snoc (x:=c.certs.list[i]!)).2 _ his rfl ((pmem _).2 (.inl rfl))
     · exact fol.mono fun x hx e he hm=>(pmem e).2 (.inr hm)
     · have:=inv.cnt
       rw [plen,List.length_append];simp only [List.length_cons,List.length_nil];omega
   · left
     have pu:=zV inv.ok op inv.ok.fit (t:=(bH f (c.certs.list[i]!).2 c.now).1) (n:=(c.certs.list[i]!).1) t1 t2 n0 n1 fresh;have ap: ∀h:Int×Int,bO ds [((c.certs.list[i]!).1,h)]=some (ds++[((c.certs.list[i]!).1,h)]):=fun h=>dN (by simp;omega)
     have opn:=tH inv.ok.so;rw [aL op] at opn;constructor
     · unfold dK stP
       simp only [e1,cond_true,cg,aC,wn,pl,his,aeta,pu,ap,show ((18:Int) !=0)=true from rfl,cond_false]
     · unfold cN stR
       simp only [aE,e1,cond_true,cg,aC,ceta,dq,wr,his,k0,aeta,Bool.not_true,Bool.not_false,cond_false,opn]
  |false=>
   right;refine ⟨k,a,ds,?_,?_,⟨inv.ok,inv.w2,?_,fol,inv.kl,inv.cnt⟩,by omega⟩
   · unfold dK stP
     simp only [e1,cond_true,cg,aC,wn,pl,his,show ((0:Int) !=0)=false from rfl,cond_false,sc]
   · unfold cN stR
     simp only [aE,e1,cond_true,cg,aC,ceta,dq,wr,his,k0,Bool.not_false,cond_false,sc]
   · rw [tk]
     exact (inv.new.snoc (x:=c.certs.list[i]!)).1 his
theorem aRj:
 (pV c ⟨f⟩=some (dG,18)/\mU c ⟨f⟩=some (dG,18))\/
 ∃c':aP,pV c ⟨f⟩=some (c',0)/\mU c ⟨f⟩=some (c',0)/\bF c'/\c'.field.points=f/\c'.now=c.now/\c'.certs=c.certs:=by
 have bd:=ok.bd;have f64:=fok.1;have run: ∀(d i k:Nat) (a:aG) (ds:List uW),c.certs.list.length-i<=d->i<=c.certs.list.length->NA c f i k a ds->ds.length<=i->
  (aJ dK (stP c f i a ds)=some (.done (dG,18))/\aJ cN (stR c f i a ds)=some (dG,18))\/
  ∃c':aP,aJ dK (stP c f i a ds)=some (.done (c',0))/\aJ cN (stR c f i a ds)=some (c',0)/\bF c'/\c'.field.points=f/\c'.now=c.now/\c'.certs=c.certs:=by
  have fin: ∀(k:Nat) (a:aG) (ds:List uW),NA c f c.certs.list.length k a ds-> ∃c':aP,aJ dK (stP c f c.certs.list.length a ds)=some (.done (c',0))/\aJ cN (stR c f c.certs.list.length a ds)=some (c',0)/\bF c'/\c'.field.points=f/\c'.now=c.now/\c'.certs=c.certs:=by
   intro k a ds inv;have e1:decide ((c.certs.list.length:Int)<(c.certs.list.length:Int))=false:=aL (by omega)
   have hk:c.due.length-k=0:=by
    have:=inv.old
    rw [List.drop_length] at this
    have:c.due.drop k=[]:=this
    rw [List.drop_eq_nil_iff] at this;omega
   have new:=inv.new;rw [List.take_length] at new;refine ⟨⟨c.now,⟨f⟩,c.certs,a,ds⟩,aI ?_,aI ?_,⟨ok.nowv,ok.now64,fok,ok.crt,inv.ok,inv.w2,?_,kn,new⟩,rfl,rfl,rfl⟩
   · unfold dK stP
     simp only [e1,cond_false]
   · unfold cN stR
     simp only [aE,e1,cond_false]
   · have:=inv.cnt
     show a.heap.length=ds.length;omega
  intro d
  induction d with
  |zero=>
   intro i k a ds hd hi inv hds
   have:i=c.certs.list.length:=by omega
   subst this;exact .inr (fin k a ds inv)
  |succ d ih=>
   intro i k a ds hd hi inv hds
   by_cases he:i=c.certs.list.length
   · subst he;exact .inr (fin k a ds inv)
   rcases aCG ok fok kn inv (by omega) hds with ⟨h1,h2⟩|⟨k',a',ds',h1,h2,h3,h4⟩
   · exact .inl ⟨aI h1,aI h2⟩
   · rw [aV h1,aV h2]
     exact ih (i+1) k' a' ds' (by omega) (by omega) h3 h4
 have start:=run c.certs.list.length 0 0 c.agenda [] (by omega) (by omega) ⟨ok.agd,ok.w200,rfl,by rw [List.drop_zero,List.drop_zero];exact ok.fol,by omega,by have:=ok.hd;simp;omega⟩ (by simp)
 have hc:gZ c=some 0:=by rw [nV ok.fit,if_pos ok]
 have hf:dS ⟨f⟩=some 0:=by rw [gJ];exact congrArg some (fS.2 fok)
 have tw:=mW ok;have tw':nN (aP.mk (c.now.1,c.now.2) (Field.mk c.field.points) (aU.mk c.certs.next_ c.certs.list) (aG.mk (aR.mk c.agenda.slots.uses c.agenda.slots.used c.agenda.slots.free) c.agenda.heap c.agenda.where_) c.due)=some c:=tw
 have first:aJ lB (c.certs.list,(c.certs.list.length:Int),0,c.now.1,c.now.2,c.field.points,c.certs.next_,c.certs.list,c.agenda.slots.uses,c.agenda.slots.used,c.agenda.slots.free,c.agenda.heap,c.agenda.where_,c.due,f,0,0,0)=
  aJ lB (c.certs.list,(c.certs.list.length:Int),(c.certs.list.length:Int),c.now.1,c.now.2,c.field.points,c.certs.next_,c.certs.list,c.agenda.slots.uses,c.agenda.slots.used,c.agenda.slots.free,c.agenda.heap,c.agenda.where_,c.due,f,0,0,0):=by
  refine cV (body:=lB) (fun i=>(c.certs.list,(c.certs.list.length:Int),(i:Int),c.now.1,c.now.2,c.field.points,c.certs.next_,c.certs.list,c.agenda.slots.uses,c.agenda.slots.used,c.agenda.slots.free,c.agenda.heap,c.agenda.where_,c.due,f,0,0,0)) c.certs.list.length (fun i hi=>?_)
  have e1:decide ((i:Int)<(c.certs.list.length:Int))=true:=aO (by omega)
  unfold lB;simp only [e1,cond_true,aB c.certs.list i hi,aC,nU fok,aL (QV fok (kn i hi).1),aL (QV fok (kn i hi).2),cond_false,bB (show i<1000000000 by omega)]
 have second: ∀r,aJ dK (stP c f 0 c.agenda [])=some (.done r)->pV c ⟨f⟩=some r:=by
  intro r hr;unfold pV;simp only [hc,aC,show ((0:Int) !=0)=false from rfl,cond_false,hf,aE];rw [first]
  refine aI ?_;unfold lB;have e1:decide ((c.certs.list.length:Int)<(c.certs.list.length:Int))=false:=aL (by omega)
  simp only [aE,e1,cond_false,tw',aC,aX (show f.length<=1048576 by omega)]
  exact hr
 have third: ∀r,aJ cN (stR c f 0 c.agenda [])=some r->mU c ⟨f⟩=some r:=by
  intro r hr;unfold mU lX;simp only [kJ ok,aC,aX (show f.length<=1048576 by omega)]
  exact hr
 rcases start with ⟨h1,h2⟩|⟨c',h1,h2,h3⟩
 · exact .inl ⟨second _ h1,third _ h2⟩
 · exact .inr ⟨c',second _ h1,third _ h2,h3⟩
end
end Go.Proofs.YtfejhjllooomlaaGreat
namespace Go.Proofs.YtfejhjllooomlaaGreat
open Go.Vm Classical
theorem oS (l:List (Int×Int)) (x:Int×Int) (hl:l.length<=1000000):fO l x=some (decide (x∈l)):=by
 unfold fO qQ;have key:=lT (body:=jZ) (fun i=>(l,(l.length:Int),(i:Int),x)) l.length (fun i=>l[i]! =x) (fun i=>(i:Int)) (e:= -1) (fun i hi=>by
  have e1:decide ((i:Int)<(l.length:Int))=true:=aO (by omega)
  unfold jZ;simp only [e1,cond_true,aB l i hi,aC,bB (show i<1000000000 by omega)]
  generalize l[i]! =y;constructor
  · intro h;rw [gH (congrArg Prod.fst h.symm),gH (congrArg Prod.snd h.symm)];rfl
  · intro h
    by_cases h1:x.1=y.1
    · rw [gH h1,fR (fun h2=>h (Prod.ext h1.symm h2.symm))];rfl
    · rw [fR h1];rfl) (by
  unfold jZ
  have:decide ((l.length:Int)<(l.length:Int))=false:=aL (by omega)
  simp only [this,cond_false])
 rw [aE]
 by_cases hx:x∈l
 · obtain ⟨i,hi,he⟩:=aZ.1 hx
   obtain ⟨k,h1,h2,h3⟩:=C0 (c:=fun i=>l[i]! =x) ⟨i,hi,he⟩
   have:=key.1 k h1 h2 h3
   rw [show ((0:Nat):Int)=0 from rfl] at this;rw [this,aO hx];simp only [aC,aO (show (0:Int)<=(k:Int) by omega)]
 · have:=key.2 fun i hi he=>hx (aZ.2 ⟨i,hi,he⟩)
   rw [show ((0:Nat):Int)=0 from rfl] at this;rw [this,aL hx];rfl
theorem JQ (l:List (Int×Int)) (x:Int×Int) (hl:l.length<=1000000):GZ l x=some (decide (x∈l)):=by
 unfold GZ;have key:=dC (body:=xZ) (fun i=>(l,(i:Int),x)) l.length (fun i=>l[i]! =x) (r:=true) (e:=false) (fun i hi=>by
  have e1:decide ((i:Int)<(l.length:Int))=true:=aO (by omega)
  unfold xZ;simp only [aE,e1,cond_true,aB l i hi,aC,bB (show i<1000000000 by omega)]
  generalize l[i]! =y;constructor
  · intro h;rw [gH (congrArg Prod.fst h),gH (congrArg Prod.snd h)];rfl
  · intro h
    by_cases h1:y.1=x.1
    · rw [gH h1,fR (fun h2=>h (Prod.ext h1 h2))];rfl
    · rw [fR h1];rfl) (by
  unfold xZ
  have:decide ((l.length:Int)<(l.length:Int))=false:=aL (by omega)
  simp only [aE,this,cond_false])
 by_cases hx:x∈l
 · rw [aO hx];exact key.1 (aZ.1 hx)
 · rw [aL hx];exact key.2 fun i hi he=>hx (aZ.2 ⟨i,hi,he⟩)
theorem aCH (x y:uW):((x.1==y.1)&&((x.2.1==y.2.1)&&(x.2.2==y.2.2)))=decide (x=y):=by
 rw [Bool.eq_iff_iff,decide_eq_true_iff];simp only [Bool.and_eq_true,beq_iff_eq];constructor
 · rintro ⟨h1,h2,h3⟩;exact Prod.ext h1 (Prod.ext h2 h3)
 · rintro rfl;exact ⟨rfl,rfl,rfl⟩
theorem JR (a b:List uW) (hl:a.length<=1000000):wU ⟨a⟩ ⟨b⟩=some (decide (a=b)):=by
 unfold wU;simp only [aE]
 by_cases h:a.length=b.length
 case neg=>rw [eZ (by omega),aL (fun k=>h (by rw [k]))];rfl
 rw [bP (by omega)]
 simp only [cond_false];have key:=dC (body:=sZ) (fun i=>((i:Int),a,b)) a.length (fun i=> ¬a[i]! =b[i]!) (r:=false) (e:=true) (fun i hi=>by
  have e1:decide ((i:Int)<(a.length:Int))=true:=aO (by omega)
  unfold sZ;simp only [aE,e1,cond_true,aB a i hi,aB b i (by omega),aC,bB (show i<1000000000 by omega),aCH]
  constructor
  · intro h;rw [aL h];rfl
  · intro h;rw [aO (Classical.not_not.1 h)];rfl) (by
  unfold sZ
  have:decide ((a.length:Int)<(a.length:Int))=false:=aL (by omega)
  simp only [aE,this,cond_false])
 by_cases he:a=b
 · rw [aO he]
   exact key.2 fun i hi=>Classical.not_not.2 (by rw [he])
 · rw [aL he]
   refine key.1 (Classical.byContradiction fun hx=>he (MG h fun i hi=>?_))
   exact Classical.byContradiction fun hn=>hx ⟨i,hi,hn⟩
theorem QW (a b:List uW) (hl:a.length<=1000000):mB a b=some (decide (a=b)):=by
 unfold mB;simp only [aE]
 by_cases h:a.length=b.length
 case neg=>rw [eZ (by omega),aL (fun k=>h (by rw [k]))];rfl
 rw [bP (by omega)]
 simp only [cond_false];have key:=dC (body:=jL) (fun i=>(a,b,(a.length:Int),(i:Int))) a.length (fun i=> ¬a[i]! =b[i]!) (r:=false) (e:=true) (fun i hi=>by
  have e1:decide ((i:Int)<(a.length:Int))=true:=aO (by omega)
  unfold jL;simp only [e1,cond_true,aB a i hi,aB b i (by omega),aC,bB (show i<1000000000 by omega),aCH]
  constructor
  · intro h;rw [aL h];rfl
  · intro h;rw [aO (Classical.not_not.1 h)];rfl) (by
  unfold jL
  have:decide ((a.length:Int)<(a.length:Int))=false:=aL (by omega)
  simp only [this,cond_false])
 by_cases he:a=b
 · rw [aO he]
   exact key.2 fun i hi=>Classical.not_not.2 (by rw [he])
 · rw [aL he]
   refine key.1 (Classical.byContradiction fun hx=>he (MG h fun i hi=>?_))
   exact Classical.byContradiction fun hn=>hx ⟨i,hi,hn⟩
theorem aAr {cs:List uW} {m:Nat} {x:uW} (hx:x∈cs) (hne:x.1≠(cs[m]!).1):x∈cs.eraseIdx m:=by
 obtain ⟨j,hj,rfl⟩:=aZ.1 hx;have hjm:j≠m:=fun h=>hne (by rw [h])
 rw [wY,List.mem_append]
 by_cases h:j<m
 · exact .inl (cK.2 ⟨j,h,hj,rfl⟩)
 · right
   rw [aZ];refine ⟨j- (m+1),by rw [List.length_drop];omega,?_⟩
   rw [sE]
   congr 1;omega
def kP (c0:aP) (f:List Pt) (es:List (Int×Int)) (i:Nat) (c:aP):=
 (es,c0.certs.list,(c0.certs.list.length:Int),(i:Int),c.now.1,c.now.2,c.field.points,c.certs.next_,c.certs.list,c.agenda.slots.uses,c.agenda.slots.used,c.agenda.slots.free,c.agenda.heap,c.agenda.where_,c.due,f,(0:Int),(0:Int),(0:Int))
def kR (c0:aP) (f:List Pt) (es:List (Int×Int)) (i:Nat) (c:aP):=
 (es,(i:Int),c0.now.1,c0.now.2,c0.field.points,c0.certs.next_,c0.certs.list,c0.agenda.slots.uses,c0.agenda.slots.used,c0.agenda.slots.free,c0.agenda.heap,c0.agenda.where_,c0.due,f,(0:Int),(0:Int),(0:Int),c.now.1,c.now.2,c.field.points,c.certs.next_,c.certs.list,c.agenda.slots.uses,c.agenda.slots.used,c.agenda.slots.free,c.agenda.heap,c.agenda.where_,c.due)
def eP (es:List (Int×Int)) (i:Nat) (c:aP):=
 (es,(es.length:Int),(i:Int),c.now.1,c.now.2,c.field.points,c.certs.next_,c.certs.list,c.agenda.slots.uses,c.agenda.slots.used,c.agenda.slots.free,c.agenda.heap,c.agenda.where_,c.due,(0:Int),(0:Int),(0:Int))
def eR (es:List (Int×Int)) (i:Nat) (c:aP):=
 (es,(i:Int),(0:Int),(0:Int),(0:Int),c.now.1,c.now.2,c.field.points,c.certs.next_,c.certs.list,c.agenda.slots.uses,c.agenda.slots.used,c.agenda.slots.free,c.agenda.heap,c.agenda.where_,c.due)
def HA (c:aP):Int:=c.certs.next_- (c.certs.list.length:Int)
structure aCI (c:aP) (f:List Pt) (es:List (Int×Int)) (r:aP):Prop where
 has: ∀e∈es,wZ r.certs.list e
 sub: ∀x∈r.certs.list,x.2∈es
 ok:bF r
 fld:r.field.points=f
 now:r.now=c.now
 room:HA c<=HA r
def OZ (c:aP) (k:Nat):Prop:=c.certs.list.length<=k/\c.certs.next_<=k/\ ∀j,j<c.agenda.slots.uses.length->c.agenda.slots.uses[j]!<=k
theorem aY.len {l:List Pt} {t:Int×Int} {H:List Ev}: ∀{cs ds:List uW},aY l t H cs ds->ds.length<=cs.length
 | [],ds,h=>by rw [show ds=[] from h];exact Nat.le_refl _
 |x::cs,ds,h=>by
  cases hy:(bH l x.2 t).2 with
  |true=>
   obtain ⟨d,ds',rfl,_,_,h4⟩:=h.1 hy;exact Nat.succ_le_succ h4.len
  |false=>exact Nat.le_succ_of_le (h.2 hy).len
theorem OZ.not_full {c:aP} (ok:bF c) {k:Nat} (h:OZ c k) (hk:k<=199): ¬(G7 c.certs\/ ¬B0 c.agenda.slots):=by
 obtain ⟨h1,h2,h3⟩:=h;have fl:=ok.fol.len;have hd:=ok.hd;have hl:=ok.agd.hl;have wl:=ok.agd.wl;have w2:=ok.w200;rintro (h|h)
 · rcases h with h|h<;>omega
 · refine h ⟨by omega,?_⟩
   have:=h3 _ (D4 ok.agd.so (by omega)).1
   omega
theorem OZ.more {c c':aP} {k:Nat} (h:OZ c k) {x:Int×Int} (hc:c'.certs=rG c.certs x) (hs:c'.agenda.slots=c.agenda.slots\/c'.agenda.slots=hO c.agenda.slots):OZ c' (k+1):=by
 obtain ⟨h1,h2,h3⟩:=h;refine ⟨?_,?_,fun j hj=>?_⟩
 · rw [hc]
   show (c.certs.list++[(c.certs.next_,x)]).length<=_;rw [List.length_append,List.length_singleton];omega
 · rw [hc]
   show c.certs.next_+1<=_;omega
 · rcases hs with e|e
   · rw [e] at hj ⊢
     have:=h3 j hj;omega
   · rw [e] at hj ⊢
     change j<(c.agenda.slots.uses.set _ _).length at hj;rw [List.length_set] at hj;show (c.agenda.slots.uses.set (cY c.agenda.slots) (c.agenda.slots.uses[cY c.agenda.slots]!+1))[j]!<=_;rw [bE];split
     · rename_i h;have:=h3 _ h.2;omega
     · have:=h3 j hj;omega
structure KK (f:List Pt) (es:List (Int×Int)):Prop where
 len:es.length<=1000000
 cv: ∀x∈es,fU x
 kn: ∀x∈es,kI f x
theorem aCJ {c0:aP} (ok0:bF c0) {f:List Pt} {es:List (Int×Int)} (eok:KK f es):
 ∀(d i:Nat) (c:aP),c0.certs.list.length-i<=d->i<=c0.certs.list.length->bF c->(∀x∈c0.certs.list.drop i,x∈c.certs.list)->(∀x∈c.certs.list,x∈c0.certs.list.drop i\/x.2∈es)->
  ∃c':aP,aJ eK (kP c0 f es i c)=aJ eK (kP c0 f es c0.certs.list.length c')/\aJ dM (kR c0 f es i c)=aJ dM (kR c0 f es c0.certs.list.length c')/\bF c'/\(∀x∈c'.certs.list,x.2∈es)/\c'.field=c.field/\c'.now=c.now/\HA c<=HA c':=by
 have bd:=ok0.bd;intro d
 induction d with
 |zero=>
  intro i c hd hi ok h1 h2
  have:i=c0.certs.list.length:=by omega
  subst this;refine ⟨c,rfl,rfl,ok,fun x hx=>?_,rfl,rfl,Int.le_refl _⟩
  rcases h2 x hx with h|h
  · rw [List.drop_length] at h;cases h
  · exact h
 |succ d ih=>
  intro i c hd hi ok h1 h2
  by_cases he:i=c0.certs.list.length
  · subst he
    refine ⟨c,rfl,rfl,ok,fun x hx=>?_,rfl,rfl,Int.le_refl _⟩
    rcases h2 x hx with h|h
    · rw [List.drop_length] at h;cases h
    · exact h
  have hi':i<c0.certs.list.length:=by omega
  have e1:decide ((i:Int)<(c0.certs.list.length:Int))=true:=aO (by omega)
  have sc:=bB (show i<1000000000 by omega)
  have cg:=aB c0.certs.list i hi';have dr:=wB hi';have ceta:(aP.mk (c.now.1,c.now.2) (Field.mk c.field.points) (aU.mk c.certs.next_ c.certs.list) (aG.mk (aR.mk c.agenda.slots.uses c.agenda.slots.used c.agenda.slots.free) c.agenda.heap c.agenda.where_) c.due)=c:=rfl
  by_cases hin:(c0.certs.list[i]!).2∈es
  · have s1:eK (kP c0 f es i c)=some (.next (kP c0 f es (i+1) c)):=by
     unfold eK kP;simp only [e1,cond_true,cg,aC,oS _ _ eok.len,aO hin,Bool.not_true,cond_false,sc]
    have s2:dM (kR c0 f es i c)=some (.next (kR c0 f es (i+1) c)):=by
     unfold dM kR;simp only [aE,e1,cond_true,cg,aC,JQ _ _ eok.len,aO hin,Bool.not_true,cond_false,sc]
    rw [aV s1,aV s2];refine ih (i+1) c (by omega) (by omega) ok (fun x hx=>h1 x (by rw [dr];exact List.mem_cons_of_mem _ hx)) (fun x hx=>?_)
    rcases h2 x hx with h|h
    · rw [dr] at h
      rcases List.mem_cons.1 h with rfl|h
      · exact .inr hin
      · exact .inl h
    · exact .inr h
  · have hm:=h1 (c0.certs.list[i]!) (by rw [dr];exact List.mem_cons_self)
    obtain ⟨m,hm1,hm2⟩:=aZ.1 hm;obtain ⟨c',r1,r2,r3,r4,r5,r6⟩:=aOS ok hm1;have rt:=J5 ok hm1 r1;rw [hm2] at r2 rt;have s1:eK (kP c0 f es i c)=some (.next (kP c0 f es (i+1) c')):=by
     unfold eK kP;simp only [e1,cond_true,cg,aC,oS _ _ eok.len,aL hin,Bool.not_false,sc,ceta,rt]
    have s2:dM (kR c0 f es i c)=some (.next (kR c0 f es (i+1) c')):=by
     unfold dM kR;simp only [aE,e1,cond_true,cg,aC,JQ _ _ eok.len,aL hin,Bool.not_false,sc,ceta,r2]
    rw [aV s1,aV s2];have cl:c'.certs.list=c.certs.list.eraseIdx m:=by rw [r6];rfl
    have hroom:HA c<=HA c':=by
     unfold HA;rw [r6];show _<=c.certs.next_- (((c.certs.list.eraseIdx m).length:Nat):Int);rw [List.length_eraseIdx_of_lt hm1];omega
    have hs:(∀x∈c0.certs.list.drop (i+1),x∈c'.certs.list)/\(∀x∈c'.certs.list,x∈c0.certs.list.drop (i+1)\/x.2∈es):=by
     refine ⟨fun x hx=>?_,fun x hx=>?_⟩
     · rw [cl]
       refine aAr (h1 x (by rw [dr];exact List.mem_cons_of_mem _ hx)) ?_
       rw [hm2];exact G9 ok0 hx hi'
     · rw [cl] at hx
       obtain ⟨a1,a2⟩:=BJ ok.crt_up hm1 hx;rw [hm2] at a2;rcases h2 x a1 with h|h
       · rw [dr] at h
         rcases List.mem_cons.1 h with rfl|h
         · exact absurd rfl a2
         · exact .inl h
       · exact .inr h
    obtain ⟨d',q1,q2,q3,q4,q5,q6,q7⟩:=ih (i+1) c' (by omega) (by omega) r3 hs.1 hs.2
    exact ⟨d',q1,q2,q3,q4,q5.trans r4,q6.trans r5,by omega⟩
theorem T5 {f:List Pt} (_fok:bS f) {es:List (Int×Int)} (eok:KK f es):
 ∀(d i:Nat) (c:aP),es.length-i<=d->i<=es.length->bF c->c.field.points=f->(∀x∈c.certs.list,x.2∈es)->(∀j,j<i->wZ c.certs.list es[j]!)->
  ∃r:aP×Int,aJ fE (eP es i c)=some (.done r)/\aJ dY (eR es i c)=some (.done r)/\(r.2=0/\aCI c f es r.1\/r=(dG,18))/\(∀k,OZ c k->k+(es.length-i)<=199->r.2=0):=by
 have el:=eok.len;have fin: ∀c:aP,bF c->c.field.points=f->(∀x∈c.certs.list,x.2∈es)->(∀j,j<es.length->wZ c.certs.list es[j]!)-> ∃r:aP×Int,aJ fE (eP es es.length c)=some (.done r)/\aJ dY (eR es es.length c)=some (.done r)/\(r.2=0/\aCI c f es r.1\/r=(dG,18))/\r.2=0:=by
  intro c ok hf hs hh;have e1:decide ((es.length:Int)<(es.length:Int))=false:=aL (by omega)
  refine ⟨(c,0),aI ?_,aI ?_,.inl ⟨rfl,fun e he=>by obtain ⟨j,hj,q⟩:=aZ.1 he;rw [<- q];exact hh j hj,hs,ok,hf,rfl,Int.le_refl _⟩,rfl⟩
  · unfold fE eP
    simp only [e1,cond_false]
  · unfold dY eR
    simp only [aE,e1,cond_false]
 intro d
 induction d with
 |zero=>
  intro i c hd hi ok hf hs hh
  have:i=es.length:=by omega
  subst this;obtain ⟨r,q1,q2,q3,q4⟩:=fin c ok hf hs hh;exact ⟨r,q1,q2,q3,fun _ _ _=>q4⟩
 |succ d ih=>
  intro i c hd hi ok hf hs hh
  by_cases he:i=es.length
  · subst he
    obtain ⟨r,q1,q2,q3,q4⟩:=fin c ok hf hs hh;exact ⟨r,q1,q2,q3,fun _ _ _=>q4⟩
  have bd:=ok.bd;have hi':i<es.length:=by omega
  have e1:decide ((i:Int)<(es.length:Int))=true:=aO (by omega)
  have sc:=bB (show i<1000000000 by omega)
  have cg:=aB es i hi';have ceta:(aP.mk (c.now.1,c.now.2) (Field.mk c.field.points) (aU.mk c.certs.next_ c.certs.list) (aG.mk (aR.mk c.agenda.slots.uses c.agenda.slots.used c.agenda.slots.free) c.agenda.heap c.agenda.where_) c.due)=c:=rfl;have ceta2:aU.mk c.certs.next_ c.certs.list=c.certs:=rfl;have hc:=TY c.certs.list es[i]! (by omega)
  have hr:=BH c.certs es[i]! (by omega)
  by_cases hin:wZ c.certs.list es[i]!
  · have s1:fE (eP es i c)=some (.next (eP es (i+1) c)):=by
     unfold fE eP;simp only [e1,cond_true,cg,aC,IX,hc,aO hin,sc]
    have s2:dY (eR es i c)=some (.next (eR es (i+1) c)):=by
     unfold dY eR;simp only [aE,e1,cond_true,cg,aC,ceta2,hr,aO hin,sc]
    rw [aV s1,aV s2];obtain ⟨r,q1,q2,q3,q4⟩:=ih (i+1) c (by omega) (by omega) ok hf hs (fun j hj=>if q:j=i then by rw [q];exact hin else hh j (by omega))
    exact ⟨r,q1,q2,q3,fun k hk hl=>q4 k hk (by omega)⟩
  · have hb:kI c.field.points es[i]!:=by rw [hf];exact eok.kn _ (bD hi')
    rcases aI7 ok (eok.cv _ (bD hi')) hb hin with ⟨r1,r2,full⟩|⟨c',r1,r2,r3,r4,r5,r6,r7⟩
    · refine ⟨(dG,18),aI ?_,aI ?_,.inr rfl,fun k hk hl=>absurd full (hk.not_full ok (by omega))⟩
      · unfold fE eP
        simp only [e1,cond_true,cg,aC,IX,hc,aL hin,cond_false,ceta,r1,show ((18:Int) !=0)=true from rfl]
      · unfold dY eR
        simp only [aE,e1,cond_true,cg,aC,ceta2,hr,aL hin,cond_false,ceta,r2,show ((18:Int) !=0)=true from rfl]
    · have s1:fE (eP es i c)=some (.next (eP es (i+1) c')):=by
       unfold fE eP;simp only [e1,cond_true,cg,aC,IX,hc,aL hin,cond_false,ceta,r1,show ((0:Int) !=0)=false from rfl,sc]
      have s2:dY (eR es i c)=some (.next (eR es (i+1) c')):=by
       unfold dY eR;simp only [aE,e1,cond_true,cg,aC,ceta2,hr,aL hin,cond_false,ceta,r2,show ((0:Int) !=0)=false from rfl,sc]
      rw [aV s1,aV s2];obtain ⟨r,q1,q2,q3,q6⟩:=ih (i+1) c' (by omega) (by omega) r3 (by rw [r4,hf]) (fun x hx=>by
       rw [r6] at hx;rcases List.mem_append.1 (show x∈c.certs.list++[(c.certs.next_,es[i]!)] from hx) with h|h
       · exact hs x h
       · rw [List.mem_singleton.1 h];exact bD hi') (fun j hj=>by
       rw [r6];show wZ (c.certs.list++[(c.certs.next_,es[i]!)]) _
       by_cases q:j=i
       · rw [q];exact ⟨c.certs.list.length,by rw [List.length_append,List.length_singleton];omega,by rw [lJ (Nat.le_refl _),Nat.sub_self];rfl⟩
       · obtain ⟨w,w1,w2⟩:=hh j (by omega)
         exact ⟨w,by rw [List.length_append];omega,by rw [kE w1];exact w2⟩)
      refine ⟨r,q1,q2,q3.imp (fun ⟨q4,q5⟩=>⟨q4,q5.has,q5.sub,q5.ok,q5.fld,q5.now.trans r5,Int.le_trans ?_ q5.room⟩) id,fun k hk hl=>q6 (k+1) (hk.more r6 r7) (by omega)⟩
      unfold HA;rw [r6];show _<=(c.certs.next_+1) - (((c.certs.list++[(c.certs.next_,es[i]!)]).length:Nat):Int);rw [List.length_append,List.length_singleton];omega
theorem aI9 {c:aP} (ok:bF c) {f:List Pt} (fok:bS f) {es:List (Int×Int)} (eok:KK f es):
 ∃r:aP×Int,uD c ⟨f⟩ es=some r/\oQ c ⟨f⟩ es=some r/\(r.2=0/\aCI c f es r.1\/r=(dG,18)):=by
 have f64:=fok.1;obtain ⟨c',g1,g2,g3,g4,g5,g6,g7⟩:=aCJ ok eok c.certs.list.length 0 c (by omega) (by omega) ok (fun x hx=>by rwa [List.drop_zero] at hx) (fun x hx=> .inl (by rwa [List.drop_zero]))
 have bd:=g3.bd;have e1:decide ((c.certs.list.length:Int)<(c.certs.list.length:Int))=false:=aL (by omega)
 have start1:uD c ⟨f⟩ es=aJ eK (kP c f es 0 c):=rfl;have start2:oQ c ⟨f⟩ es=aJ dM (kR c f es 0 c):=by
  unfold oQ;simp only [kJ ok,aC];rfl
 rw [start1,start2,g1,g2];have eq1:=QW c'.field.points f (by omega)
 have eq2:=JR c'.field.points f (by omega)
 have ceta:(aP.mk (c'.now.1,c'.now.2) (Field.mk c'.field.points) (aU.mk c'.certs.next_ c'.certs.list) (aG.mk (aR.mk c'.agenda.slots.uses c'.agenda.slots.used c'.agenda.slots.free) c'.agenda.heap c'.agenda.where_) c'.due)=c':=rfl
 by_cases hf:c'.field.points=f
 · obtain ⟨r,i1,i2,i3,_⟩:=T5 fok eok es.length 0 c' (by omega) (by omega) g3 hf g4 (fun j hj=>absurd hj (Nat.not_lt_zero j))
   refine ⟨r,aI ?_,aI ?_,i3.imp (fun ⟨q4,q5⟩=>⟨q4,q5.has,q5.sub,q5.ok,q5.fld,q5.now.trans g6,Int.le_trans g7 q5.room⟩) id⟩
   · unfold eK kP
     simp only [e1,cond_false,eq1,aO hf,aC,Bool.not_true];exact i1
   · unfold dM kR
     simp only [aE,e1,cond_false,eq2,aO hf,aC,Bool.not_true];exact i2
 · have kn: ∀i,i<c'.certs.list.length->kI f (c'.certs.list[i]!).2:=fun i hi=>eok.kn _ (g4 _ (bD hi))
   rcases aRj g3 fok kn with ⟨a1,a2⟩|⟨c2,a1,a2,a3,a4,a5,a6⟩
   · refine ⟨(dG,18),aI ?_,aI ?_,.inr rfl⟩
     · unfold eK kP
       simp only [e1,cond_false,eq1,aL hf,aC,Bool.not_false,cond_true,ceta,a1,show ((18:Int) !=0)=true from rfl]
     · unfold dM kR
       simp only [aE,e1,cond_false,eq2,aL hf,aC,Bool.not_false,cond_true,ceta,a2,show ((18:Int) !=0)=true from rfl]
   · obtain ⟨r,i1,i2,i3,_⟩:=T5 fok eok es.length 0 c2 (by omega) (by omega) a3 a4 (by rw [a6];exact g4) (fun j hj=>absurd hj (Nat.not_lt_zero j))
     refine ⟨r,aI ?_,aI ?_,i3.imp (fun ⟨q4,q5⟩=>⟨q4,q5.has,q5.sub,q5.ok,q5.fld,(q5.now.trans a5).trans g6,Int.le_trans (Int.le_trans g7 (by unfold HA;rw [a6];exact Int.le_refl _)) q5.room⟩) id⟩
     · unfold eK kP
       simp only [e1,cond_false,eq1,aL hf,aC,Bool.not_false,cond_true,ceta,a1,show ((0:Int) !=0)=false from rfl];exact i1
     · unfold dM kR
       simp only [aE,e1,cond_false,eq2,aL hf,aC,Bool.not_false,cond_true,ceta,a2,show ((0:Int) !=0)=false from rfl];exact i2
end Go.Proofs.YtfejhjllooomlaaGreat
namespace Go.Proofs.YtfejhjllooomlaaGreat
open Go.Vm Classical
theorem NB {α:Type} [Inhabited α] {l:List α}:l.Nodup↔ ∀k,k<l.length->l[k]!∉l.take k:=by
 rw [cR];constructor
 · intro h k hk hm
   obtain ⟨i,h1,h2,h3⟩:=cK.1 hm;exact h i k h1 hk h3
 · intro h i j hij hj he
   exact h j hj (cK.2 ⟨i,hij,by omega,he⟩)
theorem HB {α:Type} [Inhabited α] {l:List α} {P:α->Prop}:(∀x∈l,P x)↔ ∀i,i<l.length->P l[i]!:=by
 constructor
 · intro h i hi;exact h _ (bD hi)
 · intro h x hx
   obtain ⟨i,hi,rfl⟩:=aZ.1 hx;exact h i hi
theorem FW {σ ρ:Type} {body:σ->Option (cA σ ρ)} (st:Nat->σ) (n:Nat) (P:Nat->Prop) {r e:ρ} (h: ∀i,i<n->(¬P i->body (st i)=some (.done r))/\(P i->body (st i)=some (.next (st (i+1)))))
 (hend:body (st n)=some (.done e)):aJ body (st 0)=some (if∀i,i<n->P i then e else r):=by
 have key:=dC (body:=body) st n (fun i=> ¬P i) (r:=r) (e:=e) (fun i hi=>⟨(h i hi).1,fun hn=>(h i hi).2 (Classical.not_not.1 hn)⟩) hend
 by_cases hx: ∀i,i<n->P i
 · rw [if_pos hx];exact key.2 fun i hi=>Classical.not_not.2 (hx i hi)
 · rw [if_neg hx]
   obtain ⟨i,h⟩:=Classical.not_forall.1 hx;obtain ⟨hi,hx⟩:=Classical.not_imp.1 h;exact key.1 ⟨i,hi,hx⟩
theorem EY {f:List Pt} (fok:bS f) (id:Int): ∃p e,eJ ⟨f⟩ id=some (p,e)/\(e=0↔kH f id):=by
 have h1:=fok.1;have hc:dS ⟨f⟩=some 0:=by rw [gJ];exact congrArg some (fS.2 fok)
 have bs:=vP f id (by omega) (fun i j=>iE fok.2.2)
 unfold eJ kB jH;rw [D9];simp only [hc,aC,show ((0:Int) !=0)=false from rfl,cond_false]
 by_cases h:kH f id
 · obtain ⟨k,hk,he⟩:=h
   rw [bs.1 k hk he];refine ⟨f[k]!,0,?_,fun _=>⟨k,hk,he⟩,fun _=>rfl⟩
   simp only [aC,Bool.not_true,cond_false,show ((0:Int) !=0)=false from rfl,aB f k hk]
 · obtain ⟨m,_,_,_,e⟩:=bs.2 (fun k hk he=>h ⟨k,hk,he⟩)
   rw [e];exact ⟨(0,0,0),6,rfl,fun h=>(by cases h),fun k=>absurd k h⟩
structure C9 (c:aP):Prop where
 f:c.field.points.length<=1000000
 l:c.certs.list.length<=1000000
 d:c.due.length<=1000000
 h:c.agenda.heap.length<=1000000
 w:c.agenda.where_.length<=1000000
 s1:c.agenda.slots.uses.length<=1000000
 s2:c.agenda.slots.used.length<=1000000
 s3:c.agenda.slots.free.length<=1000000
theorem bF.short {c:aP} (ok:bF c):C9 c:=by
 have bd:=ok.bd;have ab:=ok.agd.bd;have sl:=ok.agd.so.fl;have sn:=ok.agd.so.n2;have su:=ok.agd.so.ul;exact ⟨by omega,by omega,by omega,by omega,by omega,by omega,by omega,by omega⟩
theorem zB:C9 dG:=⟨by decide,by decide,by decide,by decide,by decide,by decide,by decide,by decide⟩
theorem I1 (l:List Int) (hl:l.length<=1000000):lH l l=some true:=by
 unfold lH;rw [bP rfl];refine (cV (body:=mZ) (fun i=>(l,l,(i:Int))) l.length fun i hi=>?_).trans (aI ?_)
 · have e1:decide ((i:Int)<(l.length:Int))=true:=aO (by omega)
   unfold mZ;simp only [aE,e1,cond_true,aB l i hi,aC,bB (show i<1000000000 by omega),bP rfl,cond_false]
 · unfold mZ
   have:decide ((l.length:Int)<(l.length:Int))=false:=aL (by omega)
   simp only [aE,this,cond_false]
theorem WG (l:List Bool) (hl:l.length<=1000000):pB l l=some true:=by
 unfold pB;rw [bP rfl];refine (cV (body:=mD) (fun i=>(l,l,(i:Int))) l.length fun i hi=>?_).trans (aI ?_)
 · have e1:decide ((i:Int)<(l.length:Int))=true:=aO (by omega)
   unfold mD;simp only [aE,e1,cond_true,aB l i hi,aC,bB (show i<1000000000 by omega),beq_self_eq_true,Bool.not_true,cond_false]
 · unfold mD
   have:decide ((l.length:Int)<(l.length:Int))=false:=aL (by omega)
   simp only [aE,this,cond_false]
theorem WH (c:aU) (hl:c.list.length<=1000000):A8 c c=some true:=by
 unfold A8;rw [bP rfl,bP rfl];refine (cV (body:=tC) (fun i=>((i:Int),c.next_,c.list,c.next_,c.list)) c.list.length fun i hi=>?_).trans (aI ?_)
 · have e1:decide ((i:Int)<(c.list.length:Int))=true:=aO (by omega)
   unfold tC;simp only [aE,e1,cond_true,aB c.list i hi,aC,bB (show i<1000000000 by omega),beq_self_eq_true,Bool.and_self,Bool.not_true,cond_false]
 · unfold tC
   have:decide ((c.list.length:Int)<(c.list.length:Int))=false:=aL (by omega)
   simp only [aE,this,cond_false]
theorem T6 (a:aG) (h1:a.heap.length<=1000000) (h2:a.where_.length<=1000000) (h3:a.slots.uses.length<=1000000) (h4:a.slots.used.length<=1000000) (h5:a.slots.free.length<=1000000):A9 a a=some true:=by
 unfold A9 FQ;simp only [I1 _ h3,WG _ h4,I1 _ h5,I1 _ h2,aC,cond_true,Bool.not_true,cond_false];rw [bP rfl];refine (cV (body:=tD) (fun i=>((i:Int),a.slots.uses,a.slots.used,a.slots.free,a.heap,a.where_,a.slots.uses,a.slots.used,a.slots.free,a.heap,a.where_)) a.heap.length fun i hi=>?_).trans (aI ?_)
 · have e1:decide ((i:Int)<(a.heap.length:Int))=true:=aO (by omega)
   unfold tD;simp only [aE,e1,cond_true,aB a.heap i hi,aC,bB (show i<1000000000 by omega),beq_self_eq_true,Bool.and_self,Bool.not_true,cond_false]
 · unfold tD
   have:decide ((a.heap.length:Int)<(a.heap.length:Int))=false:=aL (by omega)
   simp only [aE,this,cond_false]
theorem WI {c:aP} (sh:C9 c):BA c c=some true:=by
 have hd:=sh.d;unfold BA;simp only [beq_self_eq_true,Bool.and_self,Bool.not_true,cond_false,JR c.field.points c.field.points sh.f,WH _ sh.l,T6 _ sh.h sh.w sh.s1 sh.s2 sh.s3,aC,aO];rw [bP rfl]
 refine (cV (body:=tF) (fun i=>((i:Int),c.now.1,c.now.2,c.field.points,c.certs.next_,c.certs.list,c.agenda.slots.uses,c.agenda.slots.used,c.agenda.slots.free,c.agenda.heap,c.agenda.where_,c.due,c.now.1,c.now.2,c.field.points,c.certs.next_,c.certs.list,c.agenda.slots.uses,c.agenda.slots.used,c.agenda.slots.free,c.agenda.heap,c.agenda.where_,c.due)) c.due.length fun i hi=>?_).trans (aI ?_)
 · have e1:decide ((i:Int)<(c.due.length:Int))=true:=aO (by omega)
   unfold tF;simp only [aE,e1,cond_true,aB c.due i hi,aC,bB (show i<1000000000 by omega),beq_self_eq_true,Bool.and_self,Bool.not_true,cond_false]
 · unfold tF
   have:decide ((c.due.length:Int)<(c.due.length:Int))=false:=aL (by omega)
   simp only [aE,this,cond_false]
structure aAs (c:aP):Prop where
 now:rI c.now
 at64: ∀w,w<c.agenda.heap.length->rI ((c.agenda.heap[w]!).1,(c.agenda.heap[w]!).2.1)
theorem T7 (f:Field):tX f=some true\/(tX f=some false/\f.points.length<=70):=by
 unfold tX
 simp only [aE]
 by_cases h1:16<f.points.length
 · rw [aO (show (16:Int)<(f.points.length:Int) by omega)]
   by_cases h2:f.points.length<64
   · rw [aO (show (f.points.length:Int)<64 by omega)];exact .inl rfl
   · rw [aL (show¬(f.points.length:Int)<64 by omega)]
     by_cases h3:70<f.points.length
     · rw [aO (show (70:Int)<(f.points.length:Int) by omega)];exact .inl rfl
     · rw [aL (show¬(70:Int)<(f.points.length:Int) by omega)];exact .inr ⟨rfl,by omega⟩
 · rw [aL (show¬(16:Int)<(f.points.length:Int) by omega),aL (show¬(70:Int)<(f.points.length:Int) by omega)]
   exact .inr ⟨rfl,by omega⟩
theorem T8 (c:aP):tY c=some true\/(tY c=some false/\C9 c):=by
 unfold tY CT CS
 simp only [aE]
 by_cases h1:40<c.certs.list.length
 · rw [aO (show (40:Int)<(c.certs.list.length:Int) by omega)];exact .inl rfl
 rw [aL (show¬(40:Int)<(c.certs.list.length:Int) by omega)]
 by_cases h2:40<c.due.length
 · rw [aO (show (40:Int)<(c.due.length:Int) by omega)];exact .inl rfl
 rw [aL (show¬(40:Int)<(c.due.length:Int) by omega)]
 rcases T7 c.field with e|⟨e,hf⟩
 · rw [e];exact .inl rfl
 rw [e];simp only [cond_false,aC]
 by_cases a1:210<c.agenda.slots.uses.length
 · rw [aO (show (210:Int)<(c.agenda.slots.uses.length:Int) by omega)];exact .inl rfl
 rw [aL (show¬(210:Int)<(c.agenda.slots.uses.length:Int) by omega)]
 by_cases a2:210<c.agenda.slots.used.length
 · rw [aO (show (210:Int)<(c.agenda.slots.used.length:Int) by omega)];exact .inl rfl
 rw [aL (show¬(210:Int)<(c.agenda.slots.used.length:Int) by omega)]
 by_cases a3:210<c.agenda.slots.free.length
 · rw [aO (show (210:Int)<(c.agenda.slots.free.length:Int) by omega)];exact .inl rfl
 rw [aL (show¬(210:Int)<(c.agenda.slots.free.length:Int) by omega)]
 by_cases a4:210<c.agenda.heap.length
 · rw [aO (show (210:Int)<(c.agenda.heap.length:Int) by omega)];exact .inl rfl
 rw [aL (show¬(210:Int)<(c.agenda.heap.length:Int) by omega)]
 by_cases a5:210<c.agenda.where_.length
 · rw [aO (show (210:Int)<(c.agenda.where_.length:Int) by omega)];exact .inl rfl
 rw [aL (show¬(210:Int)<(c.agenda.where_.length:Int) by omega)]
 exact .inr ⟨rfl,⟨by omega,by omega,by omega,by omega,by omega,by omega,by omega,by omega⟩⟩
theorem WJ {c:aP} (sh:C9 c):jD c=some c:=by
 obtain ⟨h1,h2,h3,h4,h5,h6,h7,h8⟩:=sh;unfold jD lX pI lY nJ;simp only [aX (show c.field.points.length<=1048576 by omega),aX (show c.certs.list.length<=1048576 by omega),aX (show c.due.length<=1048576 by omega),aX (show c.agenda.heap.length<=1048576 by omega),aX (show c.agenda.where_.length<=1048576 by omega),
  aX (show c.agenda.slots.uses.length<=1048576 by omega),aX (show c.agenda.slots.used.length<=1048576 by omega),aX (show c.agenda.slots.free.length<=1048576 by omega),aC]
end Go.Proofs.YtfejhjllooomlaaGreat
namespace Go.Proofs.YtfejhjllooomlaaGreat
open Go.Vm Classical
theorem aJa (p q:Pt) (t:Int×Int):ON p q t=(p.2.1-q.2.1)*t.2+(p.2.2-q.2.2)*t.1:=rfl
end Go.Proofs.YtfejhjllooomlaaGreat
namespace Go.Proofs.YtfejhjllooomlaaGreat
open Go.Vm Classical
end Go.Proofs.YtfejhjllooomlaaGreat
namespace Go.Proofs.YtfejhjllooomlaaGreat
open Go.Vm Classical
theorem B2 {p q:Pt} {t:Int×Int} (hp:gN p) (hq:gN q) (ht:rI t) (hr:cJ t):gV p q t=some (decide (bQ p q t),if p.1=q.1 then 2 else 0)\/(p.1=q.1/\gV p q t=some (false,2)):=by
 unfold gV;rw [yT ht,if_pos ⟨hp,hq,hr⟩]
 by_cases h:p.1=q.1
 · right;simp [h]
 · left
   simp only [h,if_false,aC,yD hp hq ht]
   have:decide (0<V1 p q t)=decide (bQ p q t):=by simp only [MJ]
   simp [this]
end Go.Proofs.YtfejhjllooomlaaGreat
namespace Go.Proofs.YtfejhjllooomlaaGreat
theorem xB {α:Type} [BEq α] [LawfulBEq α]: ∀{a b:List α},a.Nodup->(∀x∈a,x∈b)->b.length<=a.length->a.Perm b
 | [],b,_,_,hl=>by
  rw [List.eq_nil_of_length_eq_zero (show b.length=0 by simpa using hl)]
 |x::a,b,hd,h,hl=>by
  rw [List.nodup_cons] at hd;have hx:=h x List.mem_cons_self;have ih:=xB (a:=a) (b:=b.erase x) hd.2 (fun y hy=>by
   rw [List.mem_erase_of_ne (fun e=>hd.1 (by rw [<- e];exact hy))]
   exact h y (List.mem_cons_of_mem _ hy)) (by
   rw [List.length_erase_of_mem hx];rw [List.length_cons] at hl
   omega)
  exact (List.Perm.cons x ih).trans (List.perm_cons_erase hx).symm
theorem BK {α β:Type} {f:α->β}: ∀{l:List α},l.Nodup->(∀x∈l,∀y∈l,f x=f y->x=y)->(l.map f).Nodup
 | [],_,_=>List.nodup_nil
 |x::l,h,hi=>by
  rw [List.nodup_cons] at h;rw [List.map_cons,List.nodup_cons];refine ⟨fun hm=>?_,BK h.2 fun y hy z hz=>hi y (List.mem_cons_of_mem _ hy) z (List.mem_cons_of_mem _ hz)⟩
  obtain ⟨y,hy,e⟩:=List.mem_map.1 hm
  have:=hi y (List.mem_cons_of_mem _ hy) x List.mem_cons_self e
  rw [this] at hy;exact h.1 hy
end Go.Proofs.YtfejhjllooomlaaGreat
namespace Go.Proofs.YtfejhjllooomlaaGreat
open Go.Vm Classical
def uX (l:List Int) (k:Nat):List (Int×Int):=(List.range k).map fun i=>(l[i+1]!,l[i / 2]!)
abbrev eD (l:List Int):List (Int×Int):=uX l (l.length-1)
theorem nW (l:List Int) (k:Nat):(uX l k).length=k:=by unfold uX;rw [List.length_map,List.length_range]
theorem JS (l:List Int) (k:Nat):uX l (k+1)=uX l k++[(l[k+1]!,l[k / 2]!)]:=by
 unfold uX;rw [List.range_succ,List.map_append];rfl
theorem JT (l:List Int) {k i:Nat} (h:i<k):(uX l k)[i]! =(l[i+1]!,l[i / 2]!):=by
 rw [getElem!_pos _ i (by rw [nW];exact h)]
 unfold uX;rw [List.getElem_map,List.getElem_range]
theorem T9 (l:List Int) (hl:l.length<=1000):xS l=some (eD l):=by
 unfold xS;have key:=cV (body:=qP) (fun i=>(l,((i+1:Nat):Int),uX l i)) (l.length-1) (fun i hi=>by
  have e:aA .i64 (Int.tdiv (aA .i64 (((i+1:Nat):Int) -1)) 2)=((i / 2:Nat):Int):=by
   rw [show aA .i64 (((i+1:Nat):Int) -1)=(i:Int) from by rw [lI ⟨by omega,by omega⟩];omega,Int.tdiv_eq_ediv_of_nonneg (by omega),lI ⟨by omega,by omega⟩];omega
  unfold qP;simp only [aE,aO (show ((i+1:Nat):Int)<(l.length:Int) by omega),cond_true,aB l (i+1) (by omega),e,aB l (i / 2) (by omega),aC]
  rw [dN (by rw [nW,List.length_singleton];omega),aC,bB (show i+1<1000000000 by omega),<- JS])
 rw [show (l,(1:Int),([]:List (Int×Int)))=(l,((0+1:Nat):Int),uX l 0) from rfl,key];refine aI ?_;unfold qP;simp only [aE,aL (show¬((l.length-1+1:Nat):Int)<(l.length:Int) by omega),cond_false]
theorem aCK (l:List Int) (hl:l.length<=1000):CY l=some (eD l):=by rw [<- T9 l hl];rfl
theorem I2 {l:List Int} {e:Int×Int} (h:e∈eD l):e.1∈l/\e.2∈l:=by
 obtain ⟨i,hi,rfl⟩:=aZ.1 h;rw [nW] at hi;rw [JT l hi];exact ⟨bD (by omega),bD (by omega)⟩
theorem aCL {l:List Int} (hd:l.Nodup) {e:Int×Int} (h:e∈eD l):e.1≠e.2:=by
 obtain ⟨i,hi,rfl⟩:=aZ.1 h;rw [nW] at hi;rw [JT l hi];exact fun h=>cR.1 hd (i / 2) (i+1) (by omega) (by omega) h.symm
theorem JU {l:List Int} (hd:l.Nodup):(eD l).Nodup:=by
 unfold eD uX;refine BK List.nodup_range fun i hi j hj h=>?_
 rw [List.mem_range] at hi hj;have h1:l[i+1]! =l[j+1]!:=congrArg Prod.fst h;have h2:=cR.1 hd;rcases Nat.lt_trichotomy i j with k|k|k
 · exact absurd h1 (h2 (i+1) (j+1) (by omega) (by omega))
 · exact k
 · exact absurd h1.symm (h2 (j+1) (i+1) (by omega) (by omega))
theorem NC (l:List Int) (x:Int) (hl:l.length<=1000000):
 (∀k,k<l.length->l[k]! =x->(∀j,j<k->l[j]!≠x)->iZ l x=some (k:Int))/\((∀k,k<l.length->l[k]!≠x)->iZ l x=some (-1)):=by
 have k1:=lT (body:=kO) (fun i=>(l,x,(l.length:Int),(i:Int))) l.length (fun i=>l[i]! =x) (fun i=>(i:Int)) (e:= -1) (fun i hi=>by
  unfold kO;simp only [aO (show (i:Int)<(l.length:Int) by omega),cond_true,aB l i hi,aC,bB (show i<1000000000 by omega)]
  refine ⟨fun h=>?_,fun h=>?_⟩
  · rw [gH h.symm];rfl
  · rw [fR (fun k=>h k.symm)];rfl) (by
  unfold kO;simp only [aL (show¬(l.length:Int)<(l.length:Int) by omega),cond_false])
 exact ⟨fun k hk h1 h2=>k1.1 k hk h1 h2,fun h=>k1.2 h⟩
theorem QX (l:List Int) (x:Int) (hl:l.length<=1000000):kQ l x=some (decide (x∈l)):=by
 unfold kQ
 by_cases hx:x∈l
 · obtain ⟨k,k1,k2,k3⟩:=C0 (c:=fun k=>l[k]! =x) (aZ.1 hx)
   rw [(NC l x hl).1 k k1 k2 k3,aC,aO hx,aO (by omega)]
 · rw [(NC l x hl).2 (fun k hk h=>hx (aZ.2 ⟨k,hk,h⟩)),aC,aL hx];rfl
theorem dQ {f:List Pt} (fok:bS f) {id:Int} (h:kH f id):eJ ⟨f⟩ id=some (bG f id,0):=by
 have h1:=fok.1;have hc:dS ⟨f⟩=some 0:=by rw [gJ];exact congrArg some (fS.2 fok)
 have bs:=vP f id (by omega) (fun i j=>iE fok.2.2)
 unfold eJ kB jH;rw [D9];simp only [hc,aC,show ((0:Int) !=0)=false from rfl,cond_false];obtain ⟨k,hk,he⟩:=h;rw [bs.1 k hk he];simp only [aC,Bool.not_true,cond_false,show ((0:Int) !=0)=false from rfl,aB f k hk,KJ fok.2.2 hk he]
theorem aCM {f:List Pt} (fok:bS f) {t:Int×Int} (r:cJ t) (r64:rI t) {a b:Int} (ha:kH f a) (hb:kH f b) (hne:a≠b):xT ⟨f⟩ t a b=some (decide (bQ (bG f a) (bG f b) t)):=by
 unfold xT;rw [dQ fok ha,aC,dQ fok hb,aC];obtain ⟨p1,p2⟩:=fI fok ha;obtain ⟨q1,q2⟩:=fI fok hb;rcases B2 p1 q1 r64 r with h|⟨h,_⟩
 · rw [h,aC]
 · rw [p2,q2] at h;exact absurd h hne
theorem aJb {f:List Pt} (fok:bS f) {t:Int×Int} (r64:rI t) {x:Int×Int} (hb:kI f x):A6 x ⟨f⟩ t=some (decide (bQ (bG f x.2) (bG f x.1) t)):=by
 obtain ⟨h1,h2⟩:=hb;obtain ⟨j,j1,j2,j3⟩:=BI fok h1;obtain ⟨k,k1,k2,k3⟩:=BI fok h2;unfold A6;simp only [j2,k2,aC,aB f j j1,aB f k k1,j3,k3,MK (fI fok h2).1 (fI fok h1).1 r64]
end Go.Proofs.YtfejhjllooomlaaGreat
namespace Go.Proofs.YtfejhjllooomlaaGreat
open Go.Vm Classical
def oT (f:List Pt):List Int:=f.map fun p=>p.1
theorem wC {f:List Pt} (h:mE f):(oT f).Nodup:=by
 refine BK ?_ ?_
 · exact cR.2 fun i j hij hj e=>by have:=iE h hij hj;rw [e] at this;omega
 · intro x hx y hy e
   obtain ⟨i,hi,rfl⟩:=aZ.1 hx;obtain ⟨j,hj,rfl⟩:=aZ.1 hy;rw [MM h hi hj e]
theorem vR {f:List Pt} {id:Int}:id∈oT f↔kH f id:=by
 unfold oT kH;rw [List.mem_map];constructor
 · rintro ⟨p,hp,rfl⟩
   obtain ⟨i,hi,rfl⟩:=aZ.1 hp;exact ⟨i,hi,rfl⟩
 · rintro ⟨i,hi,rfl⟩
   exact ⟨f[i]!,bD hi,rfl⟩
structure I3 (k:cC):Prop where
 clk:bF k.clock
 perm:(oT k.clock.field.points).Perm k.heap
 cert:(k.clock.certs.list.map fun x=>x.2).Perm (eD k.heap)
 lead: ∀e∈eD k.heap,bQ (bG k.clock.field.points e.2) (bG k.clock.field.points e.1) k.clock.now
theorem UA {c:aU} (ok:fB c):(c.list.map fun x=>x.2).Nodup:=by
 refine BK ?_ ?_
 · exact cR.2 fun i j hij hj e=>ok.nd i j hij hj (by rw [e])
 · intro x hx y hy e
   obtain ⟨i,hi,rfl⟩:=aZ.1 hx;obtain ⟨j,hj,rfl⟩:=aZ.1 hy;rcases Nat.lt_trichotomy i j with k|k|k
   · exact absurd e (ok.nd i j k hj)
   · rw [k]
   · exact absurd e.symm (ok.nd j i k hi)
def aCN (k:cC):Prop:=(∀i,i<k.clock.field.points.length->(k.clock.field.points[i]!).1∈k.heap)/\(eD k.heap).length=k.clock.certs.list.length/\
 ∀i,i<k.clock.certs.list.length->(k.clock.certs.list[i]!).2∈eD k.heap/\bQ (bG k.clock.field.points (k.clock.certs.list[i]!).2.2) (bG k.clock.field.points (k.clock.certs.list[i]!).2.1) k.clock.now
def UB (k:cC):Prop:=(∀i,i<k.heap.length->kH k.clock.field.points k.heap[i]!/\ ∀j,j<i->k.heap[j]!≠k.heap[i]!)/\k.clock.certs.list.length=(eD k.heap).length/\
 ∀i,i<(eD k.heap).length->wZ k.clock.certs.list (eD k.heap)[i]!/\bQ (bG k.clock.field.points ((eD k.heap)[i]!).2) (bG k.clock.field.points ((eD k.heap)[i]!).1) k.clock.now
theorem DA {l:List uW} {x:Int×Int}:wZ l x↔x∈l.map fun y=>y.2:=by
 unfold wZ;rw [List.mem_map];constructor
 · rintro ⟨i,hi,rfl⟩;exact ⟨l[i]!,bD hi,rfl⟩
 · rintro ⟨y,hy,rfl⟩
   obtain ⟨i,hi,rfl⟩:=aZ.1 hy;exact ⟨i,hi,rfl⟩
theorem aRk {k:cC} (ok:bF k.clock) (hl:k.heap.length=k.clock.field.points.length):aCN k↔I3 k:=by
 have nd:=wC ok.fld.2.2;have il:(oT k.clock.field.points).length=k.clock.field.points.length:=List.length_map ..;have cl:(k.clock.certs.list.map fun x=>x.2).length=k.clock.certs.list.length:=List.length_map ..
 have cn:=UA ok.crt;constructor
 · rintro ⟨h1,h2,h3⟩
   have pm:(oT k.clock.field.points).Perm k.heap:=xB nd (fun x hx=>by
    obtain ⟨i,hi,rfl⟩:=vR.1 hx;exact h1 i hi) (by omega)
   have pc:(k.clock.certs.list.map fun x=>x.2).Perm (eD k.heap):=xB cn (fun x hx=>by
    obtain ⟨i,hi,rfl⟩:=DA.2 hx;exact (h3 i hi).1) (by omega)
   refine ⟨ok,pm,pc,fun e he=>?_⟩
   obtain ⟨i,hi,rfl⟩:=DA.2 (pc.mem_iff.2 he);exact (h3 i hi).2
 · intro h
   refine ⟨fun i hi=>h.perm.mem_iff.1 (vR.2 ⟨i,hi,rfl⟩),by rw [<- h.cert.length_eq,cl],fun i hi=>?_⟩
   have:=h.cert.mem_iff.1 (DA.1 ⟨i,hi,rfl⟩)
   exact ⟨this,h.lead _ this⟩
theorem aRl {k:cC} (ok:bF k.clock) (hl:k.heap.length=k.clock.field.points.length):UB k↔I3 k:=by
 have nd:=wC ok.fld.2.2;have il:(oT k.clock.field.points).length=k.clock.field.points.length:=List.length_map ..;have cl:(k.clock.certs.list.map fun x=>x.2).length=k.clock.certs.list.length:=List.length_map ..
 constructor
 · rintro ⟨h1,h2,h3⟩
   have hn:k.heap.Nodup:=cR.2 fun i j hij hj e=>(h1 j hj).2 i hij e
   have pm:k.heap.Perm (oT k.clock.field.points):=xB hn (fun x hx=>by
    obtain ⟨i,hi,rfl⟩:=aZ.1 hx;exact vR.2 (h1 i hi).1) (by omega)
   have pc:(eD k.heap).Perm (k.clock.certs.list.map fun x=>x.2):=xB (JU hn) (fun x hx=>by
    obtain ⟨i,hi,rfl⟩:=aZ.1 hx;exact DA.1 (h3 i hi).1) (by omega)
   refine ⟨ok,pm.symm,pc.symm,fun e he=>?_⟩
   obtain ⟨i,hi,rfl⟩:=aZ.1 he;exact (h3 i hi).2
 · intro h
   have hn:k.heap.Nodup:=h.perm.nodup_iff.1 nd;refine ⟨fun i hi=>⟨vR.1 (h.perm.mem_iff.2 (bD hi)),fun j hj e=>cR.1 hn j i hj hi e⟩,by rw [<- h.cert.length_eq,cl],fun i hi=>?_⟩
   exact ⟨DA.2 (h.cert.mem_iff.2 (bD hi)),h.lead _ (bD hi)⟩
theorem QY {α:Type} {p q:Prop} [Decidable p] [Decidable q] {a b:α} (h:p↔q):(if p then a else b)=if q then a else b:=by
 by_cases hp:p
 · rw [if_pos hp,if_pos (h.1 hp)]
 · rw [if_neg hp,if_neg (fun k=>hp (h.2 k))]
theorem DB {k:cC} (fit:uL k.clock) (hl:k.heap.length<=1000):uB k=some (if I3 k then 0 else 8):=by
 unfold uB;rw [nV fit,aC]
 by_cases ok:bF k.clock
 case neg=>rw [if_neg ok,if_neg (fun h=>ok h.clk)];rfl
 rw [if_pos ok,bP rfl,cond_false]
 by_cases hh:k.heap.length=k.clock.field.points.length
 case neg=>
  rw [eZ (by rw [aE,aE];omega),cond_true,if_neg (fun h=>hh ?_)]
  rw [<- h.perm.length_eq];exact List.length_map ..
 rw [bP (by rw [aE,aE];omega),cond_false,<- QY (aRk ok hh)]
 have bd:=ok.bd;have inner:=FW (body:=qR) (fun i=>(eD k.heap,k.clock.certs.list,(k.clock.certs.list.length:Int),(i:Int),k.clock.now.1,k.clock.now.2,k.clock.field.points,k.clock.certs.next_,k.clock.certs.list,k.clock.agenda.slots.uses,k.clock.agenda.slots.used,k.clock.agenda.slots.free,k.clock.agenda.heap,k.clock.agenda.where_,k.clock.due,k.heap)) k.clock.certs.list.length
  (fun i=>(k.clock.certs.list[i]!).2∈eD k.heap/\bQ (bG k.clock.field.points (k.clock.certs.list[i]!).2.2) (bG k.clock.field.points (k.clock.certs.list[i]!).2.1) k.clock.now) (r:= .done 8) (e:= .done 0) (fun i hi=>by
  have hb:=ok.known i hi;have hv:=ok.crt.cv i hi;unfold qR;simp only [aO (show (i:Int)<(k.clock.certs.list.length:Int) by omega),cond_true,aB k.clock.certs.list i hi,aC,oS (eD k.heap) _ (by rw [nW];omega),aCM ok.fld (t:=(k.clock.now.1,k.clock.now.2)) ok.nowv ok.now64 hb.2 hb.1 (fun h=>hv.2.2.2.2 h.symm),bB (show i<1000000000 by omega)]
  by_cases h1:(k.clock.certs.list[i]!).2∈eD k.heap
  · rw [aO h1]
    by_cases h2:bQ (bG k.clock.field.points (k.clock.certs.list[i]!).2.2) (bG k.clock.field.points (k.clock.certs.list[i]!).2.1) k.clock.now
    · rw [show decide (bQ (bG k.clock.field.points (k.clock.certs.list[i]!).2.2) (bG k.clock.field.points (k.clock.certs.list[i]!).2.1) (k.clock.now.1,k.clock.now.2))=true from aO h2]
      exact ⟨fun h=>absurd ⟨h1,h2⟩ h,fun _=>rfl⟩
    · rw [show decide (bQ (bG k.clock.field.points (k.clock.certs.list[i]!).2.2) (bG k.clock.field.points (k.clock.certs.list[i]!).2.1) (k.clock.now.1,k.clock.now.2))=false from aL h2]
      exact ⟨fun _=>rfl,fun h=>absurd h.2 h2⟩
  · rw [aL h1]
    exact ⟨fun _=>rfl,fun h=>absurd h.1 h1⟩) (by
  unfold qR;simp only [aL (show¬(k.clock.certs.list.length:Int)<(k.clock.certs.list.length:Int) by omega),cond_false])
 have outer:=FW (body:=qS) (fun i=>(k.clock.field.points,(k.clock.field.points.length:Int),(i:Int),k.clock.now.1,k.clock.now.2,k.clock.field.points,k.clock.certs.next_,k.clock.certs.list,k.clock.agenda.slots.uses,k.clock.agenda.slots.used,k.clock.agenda.slots.free,k.clock.agenda.heap,k.clock.agenda.where_,k.clock.due,k.heap)) k.clock.field.points.length
  (fun i=>(k.clock.field.points[i]!).1∈k.heap) (r:=8) (e:=if (eD k.heap).length=k.clock.certs.list.length/\ ∀i,i<k.clock.certs.list.length->(k.clock.certs.list[i]!).2∈eD k.heap/\bQ (bG k.clock.field.points (k.clock.certs.list[i]!).2.2) (bG k.clock.field.points (k.clock.certs.list[i]!).2.1) k.clock.now then 0 else 8) (fun i hi=>by
  unfold qS;simp only [aO (show (i:Int)<(k.clock.field.points.length:Int) by omega),cond_true,aB k.clock.field.points i hi,aC,QX k.heap _ (by omega),bB (show i<1000000000 by omega)]
  by_cases h1:(k.clock.field.points[i]!).1∈k.heap
  · rw [aO h1];exact ⟨fun h=>absurd h1 h,fun _=>rfl⟩
  · rw [aL h1];exact ⟨fun _=>rfl,fun h=>absurd h h1⟩) (by
  unfold qS;simp only [aE,aL (show¬(k.clock.field.points.length:Int)<(k.clock.field.points.length:Int) by omega),cond_false,T9 k.heap hl,aC]
  by_cases h1:(eD k.heap).length=k.clock.certs.list.length
  · rw [bP (by omega),cond_false]
    refine (show _=_ from inner).trans ?_
    by_cases h2: ∀i,i<k.clock.certs.list.length->(k.clock.certs.list[i]!).2∈eD k.heap/\bQ (bG k.clock.field.points (k.clock.certs.list[i]!).2.2) (bG k.clock.field.points (k.clock.certs.list[i]!).2.1) k.clock.now
    · rw [if_pos h2,if_pos ⟨h1,h2⟩]
    · rw [if_neg h2,if_neg (fun h=>h2 h.2)]
  · rw [eZ (by omega),cond_true,if_neg (fun h=>h1 h.1)])
 refine (show _=_ from outer).trans ?_
 by_cases h1: ∀i,i<k.clock.field.points.length->(k.clock.field.points[i]!).1∈k.heap
 · rw [if_pos h1]
   congr 1
   exact QY (q:=aCN k) ⟨fun h=>⟨h1,h.1,h.2⟩,fun h=>⟨h.2.1,h.2.2⟩⟩
 · rw [if_neg h1,if_neg (fun h:aCN k=>h1 h.1)]
theorem aJc {c:aP} (ok:bF c) (es:List (Int×Int)) (kn: ∀x∈es,kI c.field.points x):
 A7 c es=some (decide (c.certs.list.length=es.length/\ ∀i,i<es.length->wZ c.certs.list es[i]!/\bQ (bG c.field.points (es[i]!).2) (bG c.field.points (es[i]!).1) c.now)):=by
 have bd:=ok.bd;unfold A7;simp only [aE]
 by_cases h0:c.certs.list.length=es.length
 case neg=>rw [eZ (by omega),cond_true,aL (fun h=>h0 h.1)]
 rw [bP (by omega),cond_false]
 have key:=FW (body:=sX) (fun i=>(es,(i:Int),c.now.1,c.now.2,c.field.points,c.certs.next_,c.certs.list,c.agenda.slots.uses,c.agenda.slots.used,c.agenda.slots.free,c.agenda.heap,c.agenda.where_,c.due)) es.length
  (fun i=>wZ c.certs.list es[i]!/\bQ (bG c.field.points (es[i]!).2) (bG c.field.points (es[i]!).1) c.now) (r:=false) (e:=true) (fun i hi=>by
  have ceta2:aU.mk c.certs.next_ c.certs.list=c.certs:=rfl;unfold sX;simp only [aE,aO (show (i:Int)<(es.length:Int) by omega),cond_true,aB es i hi,aC,ceta2,BH c.certs es[i]! (by omega),aJb ok.fld (t:=(c.now.1,c.now.2)) ok.now64 (kn _ (bD hi)),bB (show i<1000000000 by omega)]
  by_cases h1:wZ c.certs.list es[i]!
  · rw [aO h1]
    by_cases h2:bQ (bG c.field.points (es[i]!).2) (bG c.field.points (es[i]!).1) c.now
    · rw [show decide (bQ (bG c.field.points (es[i]!).2) (bG c.field.points (es[i]!).1) (c.now.1,c.now.2))=true from aO h2]
      exact ⟨fun h=>absurd ⟨h1,h2⟩ h,fun _=>rfl⟩
    · rw [show decide (bQ (bG c.field.points (es[i]!).2) (bG c.field.points (es[i]!).1) (c.now.1,c.now.2))=false from aL h2]
      exact ⟨fun _=>rfl,fun h=>absurd h.2 h2⟩
  · rw [aL h1]
    exact ⟨fun _=>rfl,fun h=>absurd h.1 h1⟩) (by
  unfold sX;simp only [aE,aL (show¬(es.length:Int)<(es.length:Int) by omega),cond_false])
 refine (show _=_ from key).trans ?_
 by_cases h2: ∀i,i<es.length->wZ c.certs.list es[i]!/\bQ (bG c.field.points (es[i]!).2) (bG c.field.points (es[i]!).1) c.now
 · rw [if_pos h2,aO ⟨h0,h2⟩]
 · rw [if_neg h2,aL (fun h=>h2 h.2)]
theorem aJd {σ ρ:Type} {body:σ->Option (cA σ ρ)} (st:Nat->σ) (n:Nat) (P:Nat->Prop) {r:ρ} (h: ∀i,i<n->(¬P i->body (st i)=some (.done r))/\(P i->body (st i)=some (.next (st (i+1)))))
 (hx: ¬ ∀i,i<n->P i):aJ body (st 0)=some r:=by
 obtain ⟨i,hi⟩:=Classical.not_forall.1 hx;obtain ⟨hi,hx⟩:=Classical.not_imp.1 hi;obtain ⟨m,m1,m2,m3⟩:=C0 (c:=fun i=> ¬P i) ⟨i,hi,hx⟩
 rw [cV st m fun j hj=>(h j (by omega)).2 (Classical.not_not.1 (m3 j hj))]
 exact aI ((h m m1).1 m2)
def ckS (k:cC) (i:Nat):=((i:Int),k.clock.now.1,k.clock.now.2,k.clock.field.points,k.clock.certs.next_,k.clock.certs.list,k.clock.agenda.slots.uses,k.clock.agenda.slots.used,k.clock.agenda.slots.free,k.clock.agenda.heap,k.clock.agenda.where_,k.clock.due,k.heap)
theorem DC {k:cC} (fit:uL k.clock) (hl:k.heap.length<=1000):nQ k=some (if I3 k then 0 else 8):=by
 unfold nQ;rw [M9 fit,aC]
 by_cases ok:bF k.clock
 case neg=>rw [if_neg ok,if_neg (fun h=>ok h.clk)];rfl
 rw [if_pos ok,bP rfl,cond_false]
 by_cases hh:k.heap.length=k.clock.field.points.length
 case neg=>
  rw [eZ (by rw [aE,aE];omega),cond_true,if_neg (fun h=>hh ?_)]
  rw [<- h.perm.length_eq];exact List.length_map ..
 rw [bP (by rw [aE,aE];omega),cond_false,<- QY (aRl ok hh)]
 have bd:=ok.bd;have step: ∀i,i<k.heap.length->(¬(kH k.clock.field.points k.heap[i]!/\ ∀j,j<i->k.heap[j]!≠k.heap[i]!)->jJ (ckS k i)=some (.done 8))/\((kH k.clock.field.points k.heap[i]!/\ ∀j,j<i->k.heap[j]!≠k.heap[i]!)->jJ (ckS k i)=some (.next (ckS k (i+1)))):=by
  intro i hi;unfold ckS;unfold jJ;simp only [aE,aO (show (i:Int)<(k.heap.length:Int) by omega),cond_true,aB k.heap i hi,aC]
  by_cases h1:kH k.clock.field.points k.heap[i]!
  case neg=>
   rw [I0 ok.fld h1];exact ⟨fun _=>rfl,fun h=>absurd h.1 h1⟩
  obtain ⟨m,m1,m2,m3⟩:=BI ok.fld h1;rw [m2];simp only [aC,aL (show¬(m:Int)<0 by omega),cond_false]
  have inner:=FW (body:=rA) (fun j=>((i:Int),(j:Int),k.clock.now.1,k.clock.now.2,k.clock.field.points,k.clock.certs.next_,k.clock.certs.list,k.clock.agenda.slots.uses,k.clock.agenda.slots.used,k.clock.agenda.slots.free,k.clock.agenda.heap,k.clock.agenda.where_,k.clock.due,k.heap)) i
   (fun j=>k.heap[j]!≠k.heap[i]!) (r:= .done 8) (e:= .next (((i+1:Nat):Int),k.clock.now.1,k.clock.now.2,k.clock.field.points,k.clock.certs.next_,k.clock.certs.list,k.clock.agenda.slots.uses,k.clock.agenda.slots.used,k.clock.agenda.slots.free,k.clock.agenda.heap,k.clock.agenda.where_,k.clock.due,k.heap)) (fun j hj=>by
   unfold rA;simp only [aO (show (j:Int)<(i:Int) by omega),cond_true,aB k.heap j (by omega),aB k.heap i hi,aC,bB (show j<1000000000 by omega)]
   by_cases h:k.heap[j]! =k.heap[i]!
   · rw [gH h];exact ⟨fun _=>rfl,fun k=>absurd h k⟩
   · rw [fR h];exact ⟨fun k=>absurd h k,fun _=>rfl⟩) (by
   unfold rA;simp only [aL (show¬(i:Int)<(i:Int) by omega),cond_false,bB (show i<1000000000 by omega)])
  have inner':=(show _=_ from inner)
  by_cases h2: ∀j,j<i->k.heap[j]!≠k.heap[i]!
  · rw [if_pos h2] at inner'
    exact ⟨fun h=>absurd ⟨h1,h2⟩ h,fun _=>inner'⟩
  · rw [if_neg h2] at inner'
    exact ⟨fun _=>inner',fun h=>absurd h.2 h2⟩
 by_cases hP: ∀i,i<k.heap.length->kH k.clock.field.points k.heap[i]!/\ ∀j,j<i->k.heap[j]!≠k.heap[i]!
 · have jus:=aJc ok (eD k.heap) (fun x hx=>by
    obtain ⟨h1,h2⟩:=I2 hx;obtain ⟨i,hi,e1⟩:=aZ.1 h1;obtain ⟨j,hj,e2⟩:=aZ.1 h2;exact ⟨e1▸(hP i hi).1,e2▸(hP j hj).1⟩)
   have o:=FW (body:=jJ) (ckS k) k.heap.length _ (r:=8) (e:=if UB k then 0 else 8) step (by
    have ceta:(aP.mk (k.clock.now.1,k.clock.now.2) (Field.mk k.clock.field.points) (aU.mk k.clock.certs.next_ k.clock.certs.list) (aG.mk (aR.mk k.clock.agenda.slots.uses k.clock.agenda.slots.used k.clock.agenda.slots.free) k.clock.agenda.heap k.clock.agenda.where_) k.clock.due)=k.clock:=rfl;unfold jJ ckS
    simp only [aE,aL (show¬(k.heap.length:Int)<(k.heap.length:Int) by omega),cond_false,aCK k.heap hl,aC,ceta,jus]
    by_cases h2:k.clock.certs.list.length=(eD k.heap).length/\ ∀i,i<(eD k.heap).length->wZ k.clock.certs.list (eD k.heap)[i]!/\bQ (bG k.clock.field.points ((eD k.heap)[i]!).2) (bG k.clock.field.points ((eD k.heap)[i]!).1) k.clock.now
    · rw [aO h2,if_pos (show UB k from ⟨hP,h2.1,h2.2⟩)];rfl
    · rw [aL h2,if_neg (fun h:UB k=>h2 ⟨h.2.1,h.2.2⟩)];rfl)
   refine (show _=_ from o).trans ?_;rw [if_pos hP]
 · rw [if_neg (fun h:UB k=>hP h.1)]
   exact aJd (body:=jJ) (ckS k) k.heap.length _ (r:=8) step hP
end Go.Proofs.YtfejhjllooomlaaGreat
