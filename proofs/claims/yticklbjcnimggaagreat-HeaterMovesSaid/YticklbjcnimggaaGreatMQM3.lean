/- Plain laws (3). -/
import Derived.Test.YticklbjcnimggaaGreatMQM2
import Derived.Test.YticklbjcnimggaaGreatMQS2
namespace Go.Proofs.YticklbjcnimggaaGreat
open Go.Vm Classical
theorem S6 (c:aJ) (n:Int) (hl:c.due.length<=1000000):(∀k,k<c.due.length->(c.due[k]!).1=n->(∀j,j<k->(c.due[j]!).1≠n)->pS c n=some (k:Int))/\((∀k,k<c.due.length->(c.due[k]!).1≠n)->pS c n=some (-1)):=by
 unfold pS;refine lL (body:=qR) (fun i=>(n,(i:Int),c.now.1,c.now.2,c.field.points,c.certs.next_,c.certs.list,c.agenda.slots.uses,c.agenda.slots.used,c.agenda.slots.free,c.agenda.heap,c.agenda.where_,c.due)) c.due.length (fun i=>(c.due[i]!).1=n) (fun i=>(i:Int)) (fun i hi=>?_) ?_
 · have e1:decide ((i:Int)<(c.due.length:Int))=true:=aO (by omega)
   unfold qR;simp only [aF,e1,cond_true,aE c.due i hi,aB,aZ (show i<1000000000 by omega)]
   constructor
   · intro h;rw [fR h];rfl
   · intro h;rw [fS h];rfl
 · unfold qR
   have:decide ((c.due.length:Int)<(c.due.length:Int))=false:=aL (by omega)
   simp only [aF,this,cond_false]
theorem OA {ds:List tV} (hu:Up ds) (hl:ds.length<=1000000) (n:Int):(∀k,k<ds.length->(ds[k]!).1=n->pL ds n=some ((k:Int),true))/\((∀k,k<ds.length->(ds[k]!).1≠n)-> ∃m:Nat,pL ds n=some ((m:Int),false)):=by
 have bs:=JT ds n hl (uW.1 hu);unfold pL;rw [aOc];constructor
 · intro k hk he;rw [bs.1 k hk he];rfl
 · intro h
   obtain ⟨m,_,_,_,e⟩:=bs.2 h;exact ⟨m,by rw [e];rfl⟩
theorem bB.bd {c:aJ} (ok:bB c):c.due.length<=200/\c.field.points.length<=64/\c.certs.list.length<=200:=by
 have:=ok.hd;have:=ok.agd.bd;have:=ok.fld.1;have:=ok.crt.len
 omega
theorem iJ {c:aJ} (ok:bB c):hZ c=some c:=by
 have bd:=ok.bd;unfold hZ oY oZ;simp only [bA (show c.field.points.length<=1048576 by omega),bA (show c.certs.list.length<=1048576 by omega),bA (show c.due.length<=1048576 by omega),aB,sU ok.agd]
theorem jZ {c:aJ} (ok:bB c):jU c=some c:=by
 have bd:=ok.bd;have ab:=ok.agd.bd;have hl:=ok.agd.so.fl;have hn:=ok.agd.so.n2;have hu:=ok.agd.so.ul;unfold jU;simp only [bA (show c.field.points.length<=1048576 by omega),bA (show c.certs.list.length<=1048576 by omega),bA (show c.due.length<=1048576 by omega),bA (show c.agenda.heap.length<=1048576 by omega),bA (show c.agenda.where_.length<=1048576 by omega),
  bA (show c.agenda.slots.uses.length<=1048576 by omega),bA (show c.agenda.slots.used.length<=1048576 by omega),bA (show c.agenda.slots.free.length<=1048576 by omega),aB]
theorem uX {cs:List tV} {i:Nat} (hu:Up cs) (hi:i<cs.length) {x:tV} (hx:x∈cs.eraseIdx i):x∈cs/\x.1≠(cs[i]!).1:=by
 rw [wD,List.mem_append] at hx;have ub:=uW.1 hu;rcases hx with hx|hx
 · obtain ⟨j,h1,h2,rfl⟩:=cJ.1 hx
   have:=ub j i h1 hi
   exact ⟨bF h2,by omega⟩
 · obtain ⟨j,hj,rfl⟩:=bE.1 hx
   rw [List.length_drop] at hj;rw [vC]
   have:=ub i (i+1+j) (by omega) (by omega)
   exact ⟨bF (by omega),by omega⟩
theorem CU {c:aJ} (ok:bB c) (i:Nat) (hi:i<c.certs.list.length): ∀j,j<(nW c.certs i).list.length->jE c.field.points ((nW c.certs i).list[j]!).2:=by
 intro j hj;have hm:(nW c.certs i).list[j]!∈c.certs.list:=(uX ok.crt_up hi (bF hj)).1;obtain ⟨m,hm1,hm2⟩:=bE.1 hm;rw [<- hm2];exact ok.known m hm1
theorem aBU {c:aJ} (ok:bB c) {i:Nat} (hi:i<c.certs.list.length):
 ∃c':aJ,lR c (c.certs.list[i]!).1=some (c',(c.certs.list[i]!).2,0)/\pC c (c.certs.list[i]!).1=some c'/\bB c'/\c'.field=c.field/\c'.now=c.now/\c'.certs=nW c.certs i:=by
 have bd:=ok.bd;have rm:=MK ok.crt hi (n:=(c.certs.list[i]!).1) rfl;have wo:=IA ok.crt hi (n:=(c.certs.list[i]!).1) rfl;have fe:=ok.fol.erase (i:=i) hi;have pd:=OA ok.due_up (by omega) (c.certs.list[i]!).1
 have da:=S6 c (c.certs.list[i]!).1 (by omega)
 cases hf:(bG c.field.points (c.certs.list[i]!).2 c.now).2 with
 |false=>
  have no: ∀k,k<c.due.length->(c.due[k]!).1≠(c.certs.list[i]!).1:=by
   intro k hk he;obtain ⟨x,hx,h1,h2,_⟩:=ok.fol.due _ (bF hk);obtain ⟨j,hj,rfl⟩:=bE.1 hx;have ub:=uW.1 ok.crt_up
   have:j=i:=by
    rcases Nat.lt_trichotomy j i with h|h|h
    · have:=ub j i h hi;omega
    · exact h
    · have:=ub i j h hj;omega
   rw [this,hf] at h2;cases h2
  refine ⟨⟨c.now,c.field,nW c.certs i,c.agenda,c.due⟩,?_,?_,?_,rfl,rfl,rfl⟩
  · unfold lR
    obtain ⟨m,e⟩:=pd.2 no;simp only [rm,aB,show ((0:Int) !=0)=false from rfl,cond_false,jZ ok,e]
  · unfold pC
    simp only [iJ ok,aB,wo,da.2 no,aL (show¬(0:Int)<= -1 by omega),cond_false]
  · exact ⟨ok.nowv,ok.now64,ok.fld,MJ ok.crt hi,ok.agd,ok.w200,ok.hd,CU ok i hi,fe.1 hf⟩
 |true=>
  obtain ⟨k,hk,k1,k2,k3⟩:=fe.2 hf;obtain ⟨w,hw,hev⟩:=bE.1 k2;have hh:(c.agenda.heap[w]!).2.2.2=(c.due[k]!).2:=by rw [hev]
  have ub:=uW.1 ok.due_up;have before: ∀j,j<k->(c.due[j]!).1≠(c.certs.list[i]!).1:=fun j hj he=>by have:=ub j k hj hk;omega
  have dl:(c.due.eraseIdx k).length=c.due.length-1:=XZ hk;obtain ⟨L,d1,d2⟩:=IX c.due k hk;refine ⟨⟨c.now,c.field,nW c.certs i,eD c.agenda w,c.due.eraseIdx k⟩,?_,?_,?_,rfl,rfl,rfl⟩
  · unfold lR
    simp only [rm,aB,show ((0:Int) !=0)=false from rfl,cond_false,jZ ok,pd.1 k hk k1,cond_true,aE c.due k hk,zE ok.agd hw ok.agd.fit hh,aZ (show k<1000000000 by omega),VG,d1,d2]
  · unfold pC
    have s1:jC c.due 0 (k:Int)=some (c.due.take k):=nV c.due k (by omega)
    have s2:jC c.due ((k+1:Nat):Int) (c.due.length:Int)=some (c.due.drop (k+1)):=by
     unfold jC;rw [if_pos ⟨by omega,by omega,by omega⟩]
     simp only [Int.toNat_natCast];rw [List.take_of_length_le (by rw [List.length_drop];exact Nat.le_refl _)]
    have tl:(c.due.take k).length=k:=by rw [List.length_take];omega
    have dl2:(c.due.drop (k+1)).length=c.due.length- (k+1):=List.length_drop;simp only [iJ ok,aB,wo,da.1 k hk k1 before,aO (show (0:Int)<=(k:Int) by omega),cond_true,aE c.due k hk,zF ok.agd hw hh,s1,bA (show (c.due.take k).length<=1048576 by omega),aZ (show k<1000000000 by omega),aF,s2,
     dK (show (c.due.take k).length+(c.due.drop (k+1)).length<=1048576 by omega),wD]
    cases hem:(c.due.drop (k+1)).isEmpty with
    |true=>
     rw [List.isEmpty_iff] at hem;rw [hem,List.append_nil];rfl
    |false=>rfl
  · have rem:=HX ok.agd hw
    have rmem:=MF ok.agd hw;have hlen:(eD c.agenda w).heap.length=c.agenda.heap.length-1:=by
     have h1:=rem.hl;have h2:=ok.agd.hl;have h3:(eD c.agenda w).slots=fP c.agenda.slots (c.agenda.heap[w]!).2.2.2:=by unfold eD;split<;>rfl
     rw [h3] at h1;change _+(c.agenda.slots.free++[_]).length=c.agenda.slots.uses.length at h1;rw [List.length_append] at h1;simp only [List.length_cons,List.length_nil] at h1;omega
    have wlen:(eD c.agenda w).where_.length=200:=by
     have h1:=rem.wl;have h3:(eD c.agenda w).slots=fP c.agenda.slots (c.agenda.heap[w]!).2.2.2:=by unfold eD;split<;>rfl
     rw [h3] at h1;change _=c.agenda.slots.uses.length at h1;rw [h1,<- ok.agd.wl,ok.w200]
    refine ⟨ok.nowv,ok.now64,ok.fld,MJ ok.crt hi,rem,wlen,?_,CU ok i hi,?_⟩
    · show (eD c.agenda w).heap.length=(c.due.eraseIdx k).length
      rw [hlen,dl,ok.hd]
    · refine k3.mono fun x hx e he hm=>(rmem e).2 ⟨hm,fun h=>?_⟩
      have:=(uX ok.crt_up hi hx).2
      rw [h,hev] at he;exact this he.symm
theorem JD {c:aJ} (ok:bB c) {i:Nat} (_hi:i<c.certs.list.length) {c':aJ} (h:lR c (c.certs.list[i]!).1=some (c',(c.certs.list[i]!).2,0)):uR c (c.certs.list[i]!).1=some (c',0):=by
 unfold uR;rw [lA ok.fit,if_pos ok];simp only [aB,show ((0:Int) !=0)=false from rfl,cond_false,h]
end Go.Proofs.YticklbjcnimggaaGreat
namespace Go.Proofs.YticklbjcnimggaaGreat
open Go.Vm Classical
abbrev cW:aJ:=⟨(0,0),⟨[]⟩,⟨0,[]⟩,⟨⟨[],[],[]⟩,[],[]⟩,[]⟩
theorem P4 {l:List Pt} (ok:dC l) {id:Int} (h:BM l id): ¬(mQ l id).1<0:=by
 obtain ⟨h1,_⟩:=iG ok h
 have:=h1.1
 omega
theorem aHX {c:aJ} (ok:bB c) {x:Int×Int} (hx:fN x) (hb:jE c.field.points x) (hn: ¬sB c.certs.list x):
 (iI c x=some (cW,0,18)/\lK c x=some (cW,0,18)/\(GO c.certs\/ ¬BK c.agenda.slots))\/
 ∃c':aJ,iI c x=some (c',c.certs.next_,0)/\lK c x=some (c',c.certs.next_,0)/\bB c'/\c'.field=c.field/\c'.now=c.now/\c'.certs=qW c.certs x/\(c'.agenda.slots=c.agenda.slots\/c'.agenda.slots=gU c.agenda.slots):=by
 have bd:=ok.bd;have n0:=ok.crt.n0;have n1:=ok.crt.n1;have fit:=ok.fit;have ad:=S1 ok.crt hx;have rd:=P2 ok.crt hx;rw [if_neg hn] at ad rd;have hc:gF c=some 0:=by rw [lA fit,if_pos ok]
 have p1:=nJ ok.fld x.1;have p2:=nJ ok.fld x.2;have q1:=P4 ok.fld hb.1;have q2:=P4 ok.fld hb.2;have wh:=yF ok.fld hx ok.nowv ok.now64;rw [if_pos hb] at wh;have rw':=yG ok.fld ok.now64 hb
 by_cases hf:GO c.certs
 · rw [if_pos hf] at ad rd
   left;refine ⟨?_,?_,.inl hf⟩
   · unfold iI dF
     simp only [hc,aB,show ((0:Int) !=0)=false from rfl,cond_false,ad,show ((18:Int)==8)=false from rfl,p1,p2,aL q1,aL q2,show ((18:Int) !=0)=true from rfl,cond_true]
   · unfold lK
     simp only [rd,aB,show ((18:Int) !=0)=true from rfl,cond_true]
 rw [if_neg hf] at ad rd;have cok:=VI ok.crt hx hn hf;have known': ∀j,j<(qW c.certs x).list.length->jE c.field.points ((qW c.certs x).list[j]!).2:=by
  intro j hj;rw [DN] at hj;rw [wE]
  by_cases h:j<c.certs.list.length
  · rw [if_pos h];exact ok.known j h
  · rw [if_neg h,if_pos (by omega)];exact hb
 have fresh: ∀e∈c.agenda.heap,Ev.num e≠c.certs.next_:=by
  intro e he hne;obtain ⟨d,hd,h1⟩:=ok.nums e he;obtain ⟨y,hy,h2,_⟩:=ok.fol.due d hd;obtain ⟨j,hj,rfl⟩:=bE.1 hy
  have:=(ok.crt.nr j hj).2
  omega
 have sn:=ok.fol.snoc (x:=(c.certs.next_,x));cases hw:(bG c.field.points x c.now).2 with
 |false=>
  right;refine ⟨⟨c.now,c.field,qW c.certs x,c.agenda,c.due⟩,?_,?_,⟨ok.nowv,ok.now64,ok.fld,cok,ok.agd,ok.w200,ok.hd,known',sn.1 hw⟩,rfl,rfl,rfl,.inl rfl⟩
  · unfold iI dF
    simp only [hc,aB,show ((0:Int) !=0)=false from rfl,cond_false,ad,show ((0:Int)==8)=false from rfl,p1,p2,aL q1,aL q2,jZ ok,wh,hw]
  · unfold lK
    simp only [rd,aB,show ((0:Int) !=0)=false from rfl,cond_false,iJ ok,rw',hw,Bool.not_false,cond_true]
 |true=>
  obtain ⟨t1,t2⟩:=GH (iG ok.fld hb.2).1 (iG ok.fld hb.1).1 ok.now64 ok.nowv hw
  by_cases op:BK c.agenda.slots
  · right
    have pu:=zB ok.agd op ok.agd.fit (t:=(bG c.field.points x c.now).1) (n:=c.certs.next_) t1 t2 n0 n1 fresh;have rp:=BL ok.agd op (t:=(bG c.field.points x c.now).1) (n:=c.certs.next_) t1 t2 n0 n1;have pok:=XX ok.agd op (t:=(bG c.field.points x c.now).1) (n:=c.certs.next_) t1 t2 n0 n1 fresh
    have pmem:=SW ok.agd op (t:=(bG c.field.points x c.now).1) (n:=c.certs.next_) t1;have plen:=GM ok.agd op (t:=(bG c.field.points x c.now).1) (n:=c.certs.next_) t1;have ap: ∀h:Int×Int,bI c.due [(c.certs.next_,h)]=some (c.due++[(c.certs.next_,h)]):=fun h=>dK (by simp;omega)
    have wlen:(lY c.agenda (bG c.field.points x c.now).1 c.certs.next_).where_.length=200:=by
     have:=pok.wl
     change _=(c.agenda.slots.uses.set _ _).length at this;rw [List.length_set] at this;rw [this,<- ok.agd.wl,ok.w200]
    refine ⟨⟨c.now,c.field,qW c.certs x,lY c.agenda (bG c.field.points x c.now).1 c.certs.next_,c.due++[(c.certs.next_,lX c.agenda.slots)]⟩,?_,?_,⟨ok.nowv,ok.now64,ok.fld,cok,pok,wlen,?_,known',?_⟩,rfl,rfl,rfl,.inr rfl⟩
    · unfold iI dF
      simp only [hc,aB,show ((0:Int) !=0)=false from rfl,cond_false,ad,show ((0:Int)==8)=false from rfl,p1,p2,aL q1,aL q2,jZ ok,wh,hw,cond_true,pu,ap]
    · unfold lK
      simp only [rd,aB,show ((0:Int) !=0)=false from rfl,cond_false,iJ ok,rw',hw,Bool.not_true,sT ok.agd.so,aO op,rp,ap]
    · show (lY c.agenda (bG c.field.points x c.now).1 c.certs.next_).heap.length=(c.due++[_]).length
      rw [plen,List.length_append,ok.hd];rfl
    · have fm:aW c.field.points c.now (lY c.agenda (bG c.field.points x c.now).1 c.certs.next_).heap c.certs.list c.due:=ok.fol.mono fun y hy e he hm=>(pmem e).2 (.inr hm)
      exact (fm.snoc (x:=(c.certs.next_,x))).2 _ hw rfl ((pmem _).2 (.inl rfl))
  · left
    have pu:=zC ok.agd op ok.agd.fit (t:=(bG c.field.points x c.now).1) (n:=c.certs.next_) t1 t2 n0 n1 fresh;refine ⟨?_,?_,.inr op⟩
    · unfold iI dF
      simp only [hc,aB,show ((0:Int) !=0)=false from rfl,cond_false,ad,show ((0:Int)==8)=false from rfl,p1,p2,aL q1,aL q2,jZ ok,wh,hw,cond_true,pu,show ((18:Int) !=0)=true from rfl]
    · unfold lK
      simp only [rd,aB,show ((0:Int) !=0)=false from rfl,cond_false,iJ ok,rw',hw,Bool.not_true,sT ok.agd.so,aL op,Bool.not_false,cond_true]
end Go.Proofs.YticklbjcnimggaaGreat
namespace Go.Proofs.YticklbjcnimggaaGreat
open Go.Vm Classical
theorem Up.inj {cs:List tV} (h:Up cs) {x y:tV} (hx:x∈cs) (hy:y∈cs) (he:x.1=y.1):x=y:=by
 obtain ⟨i,hi,rfl⟩:=bE.1 hx;obtain ⟨j,hj,rfl⟩:=bE.1 hy;have ub:=uW.1 h;rcases Nat.lt_trichotomy i j with h1|h1|h1
 · have:=ub i j h1 hj;omega
 · rw [h1]
 · have:=ub j i h1 hi;omega
structure MM (c:aJ) (f:List Pt) (i k:Nat) (a:aH) (ds:List tV):Prop where
 ok:eL a
 w2:a.where_.length=200
 new:aW f c.now a.heap (c.certs.list.take i) ds
 old:aW c.field.points c.now a.heap (c.certs.list.drop i) (c.due.drop k)
 kl:k<=c.due.length
 cnt:a.heap.length=ds.length+(c.due.length-k)
theorem aOd {a:aH} (ok:eL a) {w:Nat} (hw:w<a.heap.length):(eD a w).heap.length=a.heap.length-1/\(eD a w).where_.length=a.where_.length:=by
 have rem:=HX ok hw;have h3:(eD a w).slots=fP a.slots (a.heap[w]!).2.2.2:=by unfold eD;split<;>rfl
 have h1:=rem.hl;have h2:=ok.hl;have h4:=rem.wl;rw [h3] at h1 h4;change _+(a.slots.free++[_]).length=a.slots.uses.length at h1;change _=a.slots.uses.length at h4;rw [List.length_append] at h1;simp only [List.length_cons,List.length_nil] at h1;exact ⟨by omega,by rw [h4,ok.wl]⟩
theorem aHY {a:aH} {t:Int×Int} {n:Int} (ok:eL a) (pok:eL (lY a t n)):(lY a t n).where_.length=a.where_.length:=by
 have:=pok.wl
 change _=(a.slots.uses.set _ _).length at this;rw [List.length_set] at this;rw [this,ok.wl]
section
variable {c : aJ} (ok : bB c) {f : List Pt} (fok : dC f) (kn : ∀ i, i < c.certs.list.length -> jE f (c.certs.list[i]!).2)
include ok
theorem GP {i:Nat} {x:tV} (hx:x∈c.certs.list.take i) (hi:i<c.certs.list.length):x.1≠(c.certs.list[i]!).1:=by
 obtain ⟨j,h1,h2,rfl⟩:=cJ.1 hx
 have:=ok.crt.up j i h1 hi
 omega
theorem GQ {i:Nat} {x:tV} (hx:x∈c.certs.list.drop (i+1)) (hi:i<c.certs.list.length):x.1≠(c.certs.list[i]!).1:=by
 obtain ⟨j,h1,rfl⟩:=bE.1 hx;rw [List.length_drop] at h1;rw [vC]
 have:=ok.crt.up i (i+1+j) (by omega) (by omega)
 omega
theorem ZN {i k:Nat} {a:aH} {ds:List tV} (inv:MM c f i k a ds) (hi:i<c.certs.list.length) (was:(bG c.field.points (c.certs.list[i]!).2 c.now).2=false): ∀e∈a.heap,Ev.num e≠(c.certs.list[i]!).1:=by
 have u1:Up (c.certs.list.take i):=ok.crt_up.sublist (List.take_sublist _ _);have u2:Up (c.certs.list.drop i):=ok.crt_up.sublist (List.drop_sublist _ _);have d1:=inv.new.up u1;have d2:=inv.old.up u2;have cross: ∀x∈ds,∀y∈c.due.drop k,x.1<y.1:=by
  intro x hx y hy;obtain ⟨p,hp,h1,_⟩:=inv.new.due x hx;obtain ⟨q,hq,h2,_⟩:=inv.old.due y hy;obtain ⟨m,m1,m2,rfl⟩:=cJ.1 hp;obtain ⟨n,n1,rfl⟩:=bE.1 hq;rw [List.length_drop] at n1;rw [vC] at h2
  have:=ok.crt.up m (i+n) (by omega) (by omega)
  omega
 have nd:((ds++c.due.drop k).map fun x=>x.1).Nodup:=S5 (by
  show List.Pairwise _ _;rw [List.pairwise_append];exact ⟨d1,d2,cross⟩)
 have only:=IY (H:=a.heap) nd (by rw [List.length_map,List.length_append,List.length_drop,inv.cnt];exact Nat.le_refl _) (fun n hn=>by
  obtain ⟨x,hx,rfl⟩:=List.mem_map.1 hn;rcases List.mem_append.1 hx with hx|hx
  · obtain ⟨p,hp,h1,h2,h3⟩:=inv.new.due x hx
    exact ⟨_,h3,h1.symm⟩
  · obtain ⟨p,hp,h1,h2,h3⟩:=inv.old.due x hx
    exact ⟨_,h3,h1.symm⟩)
 intro e he hne;obtain ⟨x,hx,h1⟩:=List.mem_map.1 (only e he);rcases List.mem_append.1 hx with hx|hx
 · obtain ⟨p,hp,h2,_⟩:=inv.new.due x hx
   exact GP ok hp hi (by rw [<- h2,h1,hne])
 · obtain ⟨p,hp,h2,h3,_⟩:=inv.old.due x hx
   have hp':p∈c.certs.list:=List.mem_of_mem_drop hp
   have:=ok.crt_up.inj hp' (bF hi) (by rw [<- h2,h1,hne])
   rw [this,was] at h3;cases h3
def ZO (c:aJ) (f:List Pt) (i:Nat) (a:aH) (ds:List tV):=
 (c.certs.list,(c.certs.list.length:Int),(i:Int),c.now.1,c.now.2,c.field.points,c.certs.next_,c.certs.list,c.agenda.slots.uses,c.agenda.slots.used,c.agenda.slots.free,c.agenda.heap,c.agenda.where_,c.due,f,(0:Int),(0:Int),(0:Int),c.now.1,c.now.2,c.certs.next_,c.certs.list,a.slots.uses,a.slots.used,a.slots.free,a.heap,a.where_,f,ds)
def ZP (c:aJ) (f:List Pt) (i:Nat) (a:aH) (ds:List tV):=
 ((i:Int),c.now.1,c.now.2,c.field.points,c.certs.next_,c.certs.list,c.agenda.slots.uses,c.agenda.slots.used,c.agenda.slots.free,c.agenda.heap,c.agenda.where_,c.due,f,(0:Int),(0:Int),(0:Int),c.now.1,c.now.2,f,c.certs.next_,c.certs.list,a.slots.uses,a.slots.used,a.slots.free,a.heap,a.where_,ds)
include fok kn
theorem aBV {i k:Nat} {a:aH} {ds:List tV} (inv:MM c f i k a ds) (hi:i<c.certs.list.length) (hds:ds.length<=i):
 (dG (ZO c f i a ds)=some (.done (.done (cW,18)))/\cM (ZP c f i a ds)=some (.done (cW,18)))\/
 ∃k' a' ds',dG (ZO c f i a ds)=some (.next (ZO c f (i+1) a' ds'))/\cM (ZP c f i a ds)=some (.next (ZP c f (i+1) a' ds'))/\MM c f (i+1) k' a' ds'/\ds'.length<=i+1:=by
 have bd:=ok.bd;have e1:decide ((i:Int)<(c.certs.list.length:Int))=true:=aO (by omega)
 have sc:=aZ (show i<1000000000 by omega)
 have cg:=aE c.certs.list i hi;have hb:=kn i hi;have wn:=yF fok (x:=(c.certs.list[i]!).2) (t:=(c.now.1,c.now.2)) (ok.crt.cv i hi) ok.nowv ok.now64;rw [if_pos hb] at wn;have wr:=yG fok (x:=(c.certs.list[i]!).2) (t:=(c.now.1,c.now.2)) ok.now64 hb;have pd:=OA ok.due_up (by omega) (c.certs.list[i]!).1
 have da:=S6 c (c.certs.list[i]!).1 (by omega)
 have dr:=vD hi;have tk:=iV hi;have old:=inv.old;rw [dr] at old;have aeta:aH.mk (aR.mk a.slots.uses a.slots.used a.slots.free) a.heap a.where_=a:=rfl
 have ceta:(aJ.mk (c.now.1,c.now.2) (Field.mk c.field.points) (aT.mk c.certs.next_ c.certs.list) (aH.mk (aR.mk c.agenda.slots.uses c.agenda.slots.used c.agenda.slots.free) c.agenda.heap c.agenda.where_) c.due)=c:=rfl;have other: ∀x∈c.certs.list.take i,x.1≠(c.certs.list[i]!).1:=fun x hx=>GP ok hx hi
 have other': ∀x∈c.certs.list.drop (i+1),x.1≠(c.certs.list[i]!).1:=fun x hx=>GQ ok hx hi
 cases hwas:(bG c.field.points (c.certs.list[i]!).2 c.now).2 with
 |true=>
  obtain ⟨d,ds',hd1,hd2,hd3,hd4⟩:=(aW.cons_true hwas).1 old;have hk:k<c.due.length:=by
   refine Classical.byContradiction fun h=>?_
   rw [List.drop_eq_nil_of_le (by omega)] at hd1
   cases hd1
  have dk:=vD hk;rw [dk] at hd1;injection hd1 with hd5 hd6;subst hd5 hd6;obtain ⟨w,hw,hev⟩:=bE.1 hd3;have hh:(a.heap[w]!).2.2.2=(c.due[k]!).2:=by rw [hev]
  have hnum:Ev.num a.heap[w]! =(c.certs.list[i]!).1:=by rw [hev]
  have before: ∀j,j<k->(c.due[j]!).1≠(c.certs.list[i]!).1:=fun j hj he=>by
   have:=uW.1 ok.due_up j k hj hk
   omega
  have pl:=pd.1 k hk hd2;have dq:=da.1 k hk hd2 before;have gk:=aE c.due k hk;have k0:decide ((0:Int)<=(k:Int))=true:=aO (by omega)
  have ap:bI ds [c.due[k]!]=some (ds++[c.due[k]!]):=dK (by simp;omega)
  cases his:(bG f (c.certs.list[i]!).2 c.now).2 with
  |true=>
   right;have tt:bP (bG f (c.certs.list[i]!).2 c.now).1/\nT (bG f (c.certs.list[i]!).2 c.now).1:=GH (iG fok hb.2).1 (iG fok hb.1).1 ok.now64 ok.nowv his;obtain ⟨t1,t2⟩:=tt;have re:=JC inv.ok inv.ok.fit (t:=(bG f (c.certs.list[i]!).2 c.now).1) hw hh t1 t2;have rr:=HW inv.ok (t:=(bG f (c.certs.list[i]!).2 c.now).1) hw hh t1 t2
   have rok:=aBN inv.ok hw t1 t2;have rmem:=ZM inv.ok hw t1;have rlen:=HV inv.ok hw t1;have stay: ∀(cs:List tV),(∀x∈cs,x.1≠(c.certs.list[i]!).1)-> ∀x∈cs,∀e:Ev,e.num=x.1->e∈a.heap->e∈(kG a w (bG f (c.certs.list[i]!).2 c.now).1).heap:=by
    intro cs hcs x hx e he hm;refine (rmem e).2 (.inr ⟨hm,fun h=>hcs x hx ?_⟩)
    rw [<- he,h,hnum]
   refine ⟨k+1,kG a w (bG f (c.certs.list[i]!).2 c.now).1,ds++[c.due[k]!],?_,?_,⟨rok,by rw [rlen.2];exact inv.w2,?_,?_,by omega,?_⟩,by simp;omega⟩
   · unfold dG ZO
     simp only [e1,cond_true,cg,aB,wn,pl,his,gk,aeta,re,ap,show ((0:Int) !=0)=false from rfl,cond_false,sc]
   · unfold cM ZP
     simp only [aF,e1,cond_true,cg,aB,ceta,dq,wr,his,k0,gk,aeta,rr,ap,Bool.not_true,cond_false,sc]
   · rw [tk]
     exact ((inv.new.mono (stay _ other)).snoc (x:=c.certs.list[i]!)).2 _ his hd2 ((rmem _).2 (.inl (by
      show _=((bG f (c.certs.list[i]!).2 c.now).1.1,(bG f (c.certs.list[i]!).2 c.now).1.2,(a.heap[w]!).2.2);rw [hev])))
   · exact hd4.mono (stay _ other')
   · rw [rlen.1,inv.cnt,List.length_append]
     simp only [List.length_cons,List.length_nil];omega
  |false=>
   right;have rv:=zE inv.ok hw inv.ok.fit hh;have rr:=zF inv.ok hw hh;have rok:=HX inv.ok hw;have rmem:=MF inv.ok hw;have rlen:=aOd inv.ok hw;have stay: ∀(cs:List tV),(∀x∈cs,x.1≠(c.certs.list[i]!).1)-> ∀x∈cs,∀e:Ev,e.num=x.1->e∈a.heap->e∈(eD a w).heap:=by
    intro cs hcs x hx e he hm;refine (rmem e).2 ⟨hm,fun h=>hcs x hx ?_⟩
    rw [<- he,h,hnum]
   refine ⟨k+1,eD a w,ds,?_,?_,⟨rok,by rw [rlen.2];exact inv.w2,?_,hd4.mono (stay _ other'),by omega,?_⟩,by omega⟩
   · unfold dG ZO
     simp only [e1,cond_true,cg,aB,wn,pl,his,gk,aeta,rv,show ((0:Int) !=0)=false from rfl,cond_false,sc]
   · unfold cM ZP
     simp only [aF,e1,cond_true,cg,aB,ceta,dq,wr,his,k0,gk,aeta,rr,Bool.not_false,cond_false,sc]
   · rw [tk]
     exact ((inv.new.mono (stay _ other)).snoc (x:=c.certs.list[i]!)).1 his
   · have:=inv.cnt
     rw [rlen.1];omega
 |false=>
  have fol:=(aW.cons_false hwas).1 old;have no: ∀j,j<c.due.length->(c.due[j]!).1≠(c.certs.list[i]!).1:=by
   intro j hj he;obtain ⟨x,hx,h1,h2,_⟩:=ok.fol.due _ (bF hj)
   have:=ok.crt_up.inj hx (bF hi) (by rw [<- h1,he])
   rw [this,hwas] at h2;cases h2
  obtain ⟨m,pl⟩:=pd.2 no;have dq:=da.2 no;have k0:decide ((0:Int)<= -1)=false:=aL (by omega)
  cases his:(bG f (c.certs.list[i]!).2 c.now).2 with
  |true=>
   have tt:bP (bG f (c.certs.list[i]!).2 c.now).1/\nT (bG f (c.certs.list[i]!).2 c.now).1:=GH (iG fok hb.2).1 (iG fok hb.1).1 ok.now64 ok.nowv his;obtain ⟨t1,t2⟩:=tt;have n0:=(ok.crt.nr i hi).1;have n1:(c.certs.list[i]!).1<=1000000:=by have:=(ok.crt.nr i hi).2;have:=ok.crt.n1;omega
   have fresh:=ZN ok inv hi hwas
   by_cases op:BK a.slots
   · right
     have pu:=zB inv.ok op inv.ok.fit (t:=(bG f (c.certs.list[i]!).2 c.now).1) (n:=(c.certs.list[i]!).1) t1 t2 n0 n1 fresh;have rp:=BL inv.ok op (t:=(bG f (c.certs.list[i]!).2 c.now).1) (n:=(c.certs.list[i]!).1) t1 t2 n0 n1;have pok:=XX inv.ok op (t:=(bG f (c.certs.list[i]!).2 c.now).1) (n:=(c.certs.list[i]!).1) t1 t2 n0 n1 fresh
     have pmem:=SW inv.ok op (t:=(bG f (c.certs.list[i]!).2 c.now).1) (n:=(c.certs.list[i]!).1) t1;have plen:=GM inv.ok op (t:=(bG f (c.certs.list[i]!).2 c.now).1) (n:=(c.certs.list[i]!).1) t1;have ap: ∀h:Int×Int,bI ds [((c.certs.list[i]!).1,h)]=some (ds++[((c.certs.list[i]!).1,h)]):=fun h=>dK (by simp;omega)
     have opn:=sT inv.ok.so;rw [aO op] at opn;refine ⟨k,lY a (bG f (c.certs.list[i]!).2 c.now).1 (c.certs.list[i]!).1,ds++[((c.certs.list[i]!).1,lX a.slots)],?_,?_,⟨pok,by rw [aHY inv.ok pok];exact inv.w2,?_,?_,inv.kl,?_⟩,by simp;omega⟩
     · unfold dG ZO
       simp only [e1,cond_true,cg,aB,wn,pl,his,aeta,pu,ap,show ((0:Int) !=0)=false from rfl,cond_false,sc]
     · unfold cM ZP
       simp only [aF,e1,cond_true,cg,aB,ceta,dq,wr,his,k0,aeta,rp,ap,Bool.not_true,cond_false,sc,opn]
     · rw [tk]
       exact ((inv.new.mono fun x hx e he hm=>(pmem e).2 (.inr hm)).snoc (x:=c.certs.list[i]!)).2 _ his rfl ((pmem _).2 (.inl rfl))
     · exact fol.mono fun x hx e he hm=>(pmem e).2 (.inr hm)
     · have:=inv.cnt
       rw [plen,List.length_append];simp only [List.length_cons,List.length_nil];omega
   · left
     have pu:=zC inv.ok op inv.ok.fit (t:=(bG f (c.certs.list[i]!).2 c.now).1) (n:=(c.certs.list[i]!).1) t1 t2 n0 n1 fresh;have ap: ∀h:Int×Int,bI ds [((c.certs.list[i]!).1,h)]=some (ds++[((c.certs.list[i]!).1,h)]):=fun h=>dK (by simp;omega)
     have opn:=sT inv.ok.so;rw [aL op] at opn;constructor
     · unfold dG ZO
       simp only [e1,cond_true,cg,aB,wn,pl,his,aeta,pu,ap,show ((18:Int) !=0)=true from rfl,cond_false]
     · unfold cM ZP
       simp only [aF,e1,cond_true,cg,aB,ceta,dq,wr,his,k0,aeta,Bool.not_true,Bool.not_false,cond_false,opn]
  |false=>
   right;refine ⟨k,a,ds,?_,?_,⟨inv.ok,inv.w2,?_,fol,inv.kl,inv.cnt⟩,by omega⟩
   · unfold dG ZO
     simp only [e1,cond_true,cg,aB,wn,pl,his,show ((0:Int) !=0)=false from rfl,cond_false,sc]
   · unfold cM ZP
     simp only [aF,e1,cond_true,cg,aB,ceta,dq,wr,his,k0,Bool.not_false,cond_false,sc]
   · rw [tk]
     exact (inv.new.snoc (x:=c.certs.list[i]!)).1 his
theorem aQK:
 (pM c ⟨f⟩=some (cW,18)/\mJ c ⟨f⟩=some (cW,18))\/
 ∃c':aJ,pM c ⟨f⟩=some (c',0)/\mJ c ⟨f⟩=some (c',0)/\bB c'/\c'.field.points=f/\c'.now=c.now/\c'.certs=c.certs:=by
 have bd:=ok.bd;have f64:=fok.1;have run: ∀(d i k:Nat) (a:aH) (ds:List tV),c.certs.list.length-i<=d->i<=c.certs.list.length->MM c f i k a ds->ds.length<=i->
  (aI dG (ZO c f i a ds)=some (.done (cW,18))/\aI cM (ZP c f i a ds)=some (cW,18))\/
  ∃c':aJ,aI dG (ZO c f i a ds)=some (.done (c',0))/\aI cM (ZP c f i a ds)=some (c',0)/\bB c'/\c'.field.points=f/\c'.now=c.now/\c'.certs=c.certs:=by
  have fin: ∀(k:Nat) (a:aH) (ds:List tV),MM c f c.certs.list.length k a ds-> ∃c':aJ,aI dG (ZO c f c.certs.list.length a ds)=some (.done (c',0))/\aI cM (ZP c f c.certs.list.length a ds)=some (c',0)/\bB c'/\c'.field.points=f/\c'.now=c.now/\c'.certs=c.certs:=by
   intro k a ds inv;have e1:decide ((c.certs.list.length:Int)<(c.certs.list.length:Int))=false:=aL (by omega)
   have hk:c.due.length-k=0:=by
    have:=inv.old
    rw [List.drop_length] at this
    have:c.due.drop k=[]:=this
    rw [List.drop_eq_nil_iff] at this;omega
   have new:=inv.new;rw [List.take_length] at new;refine ⟨⟨c.now,⟨f⟩,c.certs,a,ds⟩,aK ?_,aK ?_,⟨ok.nowv,ok.now64,fok,ok.crt,inv.ok,inv.w2,?_,kn,new⟩,rfl,rfl,rfl⟩
   · unfold dG ZO
     simp only [e1,cond_false]
   · unfold cM ZP
     simp only [aF,e1,cond_false]
   · have:=inv.cnt
     show a.heap.length=ds.length;omega
  intro d
  induction d with
  |zero=>
   intro i k a ds hd hi inv hds
   have:i=c.certs.list.length:=by omega
   subst this;exact .inr (fin k a ds inv)
  |succ d ih=>
   intro i k a ds hd hi inv hds
   by_cases he:i=c.certs.list.length
   · subst he;exact .inr (fin k a ds inv)
   rcases aBV ok fok kn inv (by omega) hds with ⟨h1,h2⟩|⟨k',a',ds',h1,h2,h3,h4⟩
   · exact .inl ⟨aK h1,aK h2⟩
   · rw [aY h1,aY h2]
     exact ih (i+1) k' a' ds' (by omega) (by omega) h3 h4
 have start:=run c.certs.list.length 0 0 c.agenda [] (by omega) (by omega) ⟨ok.agd,ok.w200,rfl,by rw [List.drop_zero,List.drop_zero];exact ok.fol,by omega,by have:=ok.hd;simp;omega⟩ (by simp)
 have hc:gF c=some 0:=by rw [lA ok.fit,if_pos ok]
 have hf:gE ⟨f⟩=some 0:=by rw [nH];exact congrArg some (nG.2 fok)
 have tw:=jZ ok;have tw':jU (aJ.mk (c.now.1,c.now.2) (Field.mk c.field.points) (aT.mk c.certs.next_ c.certs.list) (aH.mk (aR.mk c.agenda.slots.uses c.agenda.slots.used c.agenda.slots.free) c.agenda.heap c.agenda.where_) c.due)=some c:=tw
 have first:aI kN (c.certs.list,(c.certs.list.length:Int),0,c.now.1,c.now.2,c.field.points,c.certs.next_,c.certs.list,c.agenda.slots.uses,c.agenda.slots.used,c.agenda.slots.free,c.agenda.heap,c.agenda.where_,c.due,f,0,0,0)=
  aI kN (c.certs.list,(c.certs.list.length:Int),(c.certs.list.length:Int),c.now.1,c.now.2,c.field.points,c.certs.next_,c.certs.list,c.agenda.slots.uses,c.agenda.slots.used,c.agenda.slots.free,c.agenda.heap,c.agenda.where_,c.due,f,0,0,0):=by
  refine cI (body:=kN) (fun i=>(c.certs.list,(c.certs.list.length:Int),(i:Int),c.now.1,c.now.2,c.field.points,c.certs.next_,c.certs.list,c.agenda.slots.uses,c.agenda.slots.used,c.agenda.slots.free,c.agenda.heap,c.agenda.where_,c.due,f,0,0,0)) c.certs.list.length (fun i hi=>?_)
  have e1:decide ((i:Int)<(c.certs.list.length:Int))=true:=aO (by omega)
  unfold kN;simp only [e1,cond_true,aE c.certs.list i hi,aB,nJ fok,aL (P4 fok (kn i hi).1),aL (P4 fok (kn i hi).2),cond_false,aZ (show i<1000000000 by omega)]
 have second: ∀r,aI dG (ZO c f 0 c.agenda [])=some (.done r)->pM c ⟨f⟩=some r:=by
  intro r hr;unfold pM;simp only [hc,aB,show ((0:Int) !=0)=false from rfl,cond_false,hf,aF];rw [first]
  refine aK ?_;unfold kN;have e1:decide ((c.certs.list.length:Int)<(c.certs.list.length:Int))=false:=aL (by omega)
  simp only [aF,e1,cond_false,tw',aB,bA (show f.length<=1048576 by omega)]
  exact hr
 have third: ∀r,aI cM (ZP c f 0 c.agenda [])=some r->mJ c ⟨f⟩=some r:=by
  intro r hr;unfold mJ oY;simp only [iJ ok,aB,bA (show f.length<=1048576 by omega)]
  exact hr
 rcases start with ⟨h1,h2⟩|⟨c',h1,h2,h3⟩
 · exact .inl ⟨second _ h1,third _ h2⟩
 · exact .inr ⟨c',second _ h1,third _ h2,h3⟩
end
end Go.Proofs.YticklbjcnimggaaGreat
namespace Go.Proofs.YticklbjcnimggaaGreat
open Go.Vm Classical
theorem oL (l:List (Int×Int)) (x:Int×Int) (hl:l.length<=1000000):fJ l x=some (decide (x∈l)):=by
 unfold fJ qI;have key:=lL (body:=jP) (fun i=>(l,(l.length:Int),(i:Int),x)) l.length (fun i=>l[i]! =x) (fun i=>(i:Int)) (e:= -1) (fun i hi=>by
  have e1:decide ((i:Int)<(l.length:Int))=true:=aO (by omega)
  unfold jP;simp only [e1,cond_true,aE l i hi,aB,aZ (show i<1000000000 by omega)]
  generalize l[i]! =y;constructor
  · intro h;rw [fR (congrArg Prod.fst h.symm),fR (congrArg Prod.snd h.symm)];rfl
  · intro h
    by_cases h1:x.1=y.1
    · rw [fR h1,fS (fun h2=>h (Prod.ext h1.symm h2.symm))];rfl
    · rw [fS h1];rfl) (by
  unfold jP
  have:decide ((l.length:Int)<(l.length:Int))=false:=aL (by omega)
  simp only [this,cond_false])
 rw [aF]
 by_cases hx:x∈l
 · obtain ⟨i,hi,he⟩:=bE.1 hx
   obtain ⟨k,h1,h2,h3⟩:=GF (c:=fun i=>l[i]! =x) ⟨i,hi,he⟩
   have:=key.1 k h1 h2 h3
   rw [show ((0:Nat):Int)=0 from rfl] at this;rw [this,aO hx];simp only [aB,aO (show (0:Int)<=(k:Int) by omega)]
 · have:=key.2 fun i hi he=>hx (bE.2 ⟨i,hi,he⟩)
   rw [show ((0:Nat):Int)=0 from rfl] at this;rw [this,aL hx];rfl
theorem IZ (l:List (Int×Int)) (x:Int×Int) (hl:l.length<=1000000):GD l x=some (decide (x∈l)):=by
 unfold GD;have key:=dB (body:=xF) (fun i=>(l,(i:Int),x)) l.length (fun i=>l[i]! =x) (r:=true) (e:=false) (fun i hi=>by
  have e1:decide ((i:Int)<(l.length:Int))=true:=aO (by omega)
  unfold xF;simp only [aF,e1,cond_true,aE l i hi,aB,aZ (show i<1000000000 by omega)]
  generalize l[i]! =y;constructor
  · intro h;rw [fR (congrArg Prod.fst h),fR (congrArg Prod.snd h)];rfl
  · intro h
    by_cases h1:y.1=x.1
    · rw [fR h1,fS (fun h2=>h (Prod.ext h1 h2))];rfl
    · rw [fS h1];rfl) (by
  unfold xF
  have:decide ((l.length:Int)<(l.length:Int))=false:=aL (by omega)
  simp only [aF,this,cond_false])
 by_cases hx:x∈l
 · rw [aO hx];exact key.1 (bE.1 hx)
 · rw [aL hx];exact key.2 fun i hi he=>hx (bE.2 ⟨i,hi,he⟩)
theorem VJ (x y:tV):((x.1==y.1)&&((x.2.1==y.2.1)&&(x.2.2==y.2.2)))=decide (x=y):=by
 rw [Bool.eq_iff_iff,decide_eq_true_iff];simp only [Bool.and_eq_true,beq_iff_eq];constructor
 · rintro ⟨h1,h2,h3⟩;exact Prod.ext h1 (Prod.ext h2 h3)
 · rintro rfl;exact ⟨rfl,rfl,rfl⟩
theorem I0 (a b:List tV) (hl:a.length<=1000000):vX ⟨a⟩ ⟨b⟩=some (decide (a=b)):=by
 unfold vX;simp only [aF]
 by_cases h:a.length=b.length
 case neg=>rw [eU (by omega),aL (fun k=>h (by rw [k]))];rfl
 rw [bX (by omega)]
 simp only [cond_false];have key:=dB (body:=sO) (fun i=>((i:Int),a,b)) a.length (fun i=> ¬a[i]! =b[i]!) (r:=false) (e:=true) (fun i hi=>by
  have e1:decide ((i:Int)<(a.length:Int))=true:=aO (by omega)
  unfold sO;simp only [aF,e1,cond_true,aE a i hi,aE b i (by omega),aB,aZ (show i<1000000000 by omega),VJ]
  constructor
  · intro h;rw [aL h];rfl
  · intro h;rw [aO (Classical.not_not.1 h)];rfl) (by
  unfold sO
  have:decide ((a.length:Int)<(a.length:Int))=false:=aL (by omega)
  simp only [aF,this,cond_false])
 by_cases he:a=b
 · rw [aO he]
   exact key.2 fun i hi=>Classical.not_not.2 (by rw [he])
 · rw [aL he]
   refine key.1 (Classical.byContradiction fun hx=>he (CL h fun i hi=>?_))
   exact Classical.byContradiction fun hn=>hx ⟨i,hi,hn⟩
theorem GR (a b:List tV) (hl:a.length<=1000000):iR a b=some (decide (a=b)):=by
 unfold iR;simp only [aF]
 by_cases h:a.length=b.length
 case neg=>rw [eU (by omega),aL (fun k=>h (by rw [k]))];rfl
 rw [bX (by omega)]
 simp only [cond_false];have key:=dB (body:=iY) (fun i=>(a,b,(a.length:Int),(i:Int))) a.length (fun i=> ¬a[i]! =b[i]!) (r:=false) (e:=true) (fun i hi=>by
  have e1:decide ((i:Int)<(a.length:Int))=true:=aO (by omega)
  unfold iY;simp only [e1,cond_true,aE a i hi,aE b i (by omega),aB,aZ (show i<1000000000 by omega),VJ]
  constructor
  · intro h;rw [aL h];rfl
  · intro h;rw [aO (Classical.not_not.1 h)];rfl) (by
  unfold iY
  have:decide ((a.length:Int)<(a.length:Int))=false:=aL (by omega)
  simp only [this,cond_false])
 by_cases he:a=b
 · rw [aO he]
   exact key.2 fun i hi=>Classical.not_not.2 (by rw [he])
 · rw [aL he]
   refine key.1 (Classical.byContradiction fun hx=>he (CL h fun i hi=>?_))
   exact Classical.byContradiction fun hn=>hx ⟨i,hi,hn⟩
theorem ZQ {cs:List tV} {m:Nat} {x:tV} (hx:x∈cs) (hne:x.1≠(cs[m]!).1):x∈cs.eraseIdx m:=by
 obtain ⟨j,hj,rfl⟩:=bE.1 hx;have hjm:j≠m:=fun h=>hne (by rw [h])
 rw [wD,List.mem_append]
 by_cases h:j<m
 · exact .inl (cJ.2 ⟨j,h,hj,rfl⟩)
 · right
   rw [bE];refine ⟨j- (m+1),by rw [List.length_drop];omega,?_⟩
   rw [vC]
   congr 1;omega
def kP (c0:aJ) (f:List Pt) (es:List (Int×Int)) (i:Nat) (c:aJ):=
 (es,c0.certs.list,(c0.certs.list.length:Int),(i:Int),c.now.1,c.now.2,c.field.points,c.certs.next_,c.certs.list,c.agenda.slots.uses,c.agenda.slots.used,c.agenda.slots.free,c.agenda.heap,c.agenda.where_,c.due,f,(0:Int),(0:Int),(0:Int))
def kR (c0:aJ) (f:List Pt) (es:List (Int×Int)) (i:Nat) (c:aJ):=
 (es,(i:Int),c0.now.1,c0.now.2,c0.field.points,c0.certs.next_,c0.certs.list,c0.agenda.slots.uses,c0.agenda.slots.used,c0.agenda.slots.free,c0.agenda.heap,c0.agenda.where_,c0.due,f,(0:Int),(0:Int),(0:Int),c.now.1,c.now.2,c.field.points,c.certs.next_,c.certs.list,c.agenda.slots.uses,c.agenda.slots.used,c.agenda.slots.free,c.agenda.heap,c.agenda.where_,c.due)
def eP (es:List (Int×Int)) (i:Nat) (c:aJ):=
 (es,(es.length:Int),(i:Int),c.now.1,c.now.2,c.field.points,c.certs.next_,c.certs.list,c.agenda.slots.uses,c.agenda.slots.used,c.agenda.slots.free,c.agenda.heap,c.agenda.where_,c.due,(0:Int),(0:Int),(0:Int))
def eR (es:List (Int×Int)) (i:Nat) (c:aJ):=
 (es,(i:Int),(0:Int),(0:Int),(0:Int),c.now.1,c.now.2,c.field.points,c.certs.next_,c.certs.list,c.agenda.slots.uses,c.agenda.slots.used,c.agenda.slots.free,c.agenda.heap,c.agenda.where_,c.due)
def nY (c:aJ):Int:=c.certs.next_- (c.certs.list.length:Int)
structure S7 (c:aJ) (f:List Pt) (es:List (Int×Int)) (r:aJ):Prop where
 has: ∀e∈es,sB r.certs.list e
 sub: ∀x∈r.certs.list,x.2∈es
 ok:bB r
 fld:r.field.points=f
 now:r.now=c.now
 room:nY c<=nY r
def OB (c:aJ) (k:Nat):Prop:=c.certs.list.length<=k/\c.certs.next_<=k/\ ∀j,j<c.agenda.slots.uses.length->c.agenda.slots.uses[j]!<=k
theorem aW.len {l:List Pt} {t:Int×Int} {H:List Ev}: ∀{cs ds:List tV},aW l t H cs ds->ds.length<=cs.length
 | [],ds,h=>by rw [show ds=[] from h];exact Nat.le_refl _
 |x::cs,ds,h=>by
  cases hy:(bG l x.2 t).2 with
  |true=>
   obtain ⟨d,ds',rfl,_,_,h4⟩:=h.1 hy;exact Nat.succ_le_succ h4.len
  |false=>exact Nat.le_succ_of_le (h.2 hy).len
theorem OB.not_full {c:aJ} (ok:bB c) {k:Nat} (h:OB c k) (hk:k<=199): ¬(GO c.certs\/ ¬BK c.agenda.slots):=by
 obtain ⟨h1,h2,h3⟩:=h;have fl:=ok.fol.len;have hd:=ok.hd;have hl:=ok.agd.hl;have wl:=ok.agd.wl;have w2:=ok.w200;rintro (h|h)
 · rcases h with h|h<;>omega
 · refine h ⟨by omega,?_⟩
   have:=h3 _ (DI ok.agd.so (by omega)).1
   omega
theorem OB.more {c c':aJ} {k:Nat} (h:OB c k) {x:Int×Int} (hc:c'.certs=qW c.certs x) (hs:c'.agenda.slots=c.agenda.slots\/c'.agenda.slots=gU c.agenda.slots):OB c' (k+1):=by
 obtain ⟨h1,h2,h3⟩:=h;refine ⟨?_,?_,fun j hj=>?_⟩
 · rw [hc]
   show (c.certs.list++[(c.certs.next_,x)]).length<=_;rw [List.length_append,List.length_singleton];omega
 · rw [hc]
   show c.certs.next_+1<=_;omega
 · rcases hs with e|e
   · rw [e] at hj ⊢
     have:=h3 j hj;omega
   · rw [e] at hj ⊢
     change j<(c.agenda.slots.uses.set _ _).length at hj;rw [List.length_set] at hj;show (c.agenda.slots.uses.set (cS c.agenda.slots) (c.agenda.slots.uses[cS c.agenda.slots]!+1))[j]!<=_;rw [bD];split
     · rename_i h;have:=h3 _ h.2;omega
     · have:=h3 j hj;omega
structure JU (f:List Pt) (es:List (Int×Int)):Prop where
 len:es.length<=1000000
 cv: ∀x∈es,fN x
 kn: ∀x∈es,jE f x
theorem aBW {c0:aJ} (ok0:bB c0) {f:List Pt} {es:List (Int×Int)} (eok:JU f es):
 ∀(d i:Nat) (c:aJ),c0.certs.list.length-i<=d->i<=c0.certs.list.length->bB c->(∀x∈c0.certs.list.drop i,x∈c.certs.list)->(∀x∈c.certs.list,x∈c0.certs.list.drop i\/x.2∈es)->
  ∃c':aJ,aI dZ (kP c0 f es i c)=aI dZ (kP c0 f es c0.certs.list.length c')/\aI dI (kR c0 f es i c)=aI dI (kR c0 f es c0.certs.list.length c')/\bB c'/\(∀x∈c'.certs.list,x.2∈es)/\c'.field=c.field/\c'.now=c.now/\nY c<=nY c':=by
 have bd:=ok0.bd;intro d
 induction d with
 |zero=>
  intro i c hd hi ok h1 h2
  have:i=c0.certs.list.length:=by omega
  subst this;refine ⟨c,rfl,rfl,ok,fun x hx=>?_,rfl,rfl,Int.le_refl _⟩
  rcases h2 x hx with h|h
  · rw [List.drop_length] at h;cases h
  · exact h
 |succ d ih=>
  intro i c hd hi ok h1 h2
  by_cases he:i=c0.certs.list.length
  · subst he
    refine ⟨c,rfl,rfl,ok,fun x hx=>?_,rfl,rfl,Int.le_refl _⟩
    rcases h2 x hx with h|h
    · rw [List.drop_length] at h;cases h
    · exact h
  have hi':i<c0.certs.list.length:=by omega
  have e1:decide ((i:Int)<(c0.certs.list.length:Int))=true:=aO (by omega)
  have sc:=aZ (show i<1000000000 by omega)
  have cg:=aE c0.certs.list i hi';have dr:=vD hi';have ceta:(aJ.mk (c.now.1,c.now.2) (Field.mk c.field.points) (aT.mk c.certs.next_ c.certs.list) (aH.mk (aR.mk c.agenda.slots.uses c.agenda.slots.used c.agenda.slots.free) c.agenda.heap c.agenda.where_) c.due)=c:=rfl
  by_cases hin:(c0.certs.list[i]!).2∈es
  · have s1:dZ (kP c0 f es i c)=some (.next (kP c0 f es (i+1) c)):=by
     unfold dZ kP;simp only [e1,cond_true,cg,aB,oL _ _ eok.len,aO hin,Bool.not_true,cond_false,sc]
    have s2:dI (kR c0 f es i c)=some (.next (kR c0 f es (i+1) c)):=by
     unfold dI kR;simp only [aF,e1,cond_true,cg,aB,IZ _ _ eok.len,aO hin,Bool.not_true,cond_false,sc]
    rw [aY s1,aY s2];refine ih (i+1) c (by omega) (by omega) ok (fun x hx=>h1 x (by rw [dr];exact List.mem_cons_of_mem _ hx)) (fun x hx=>?_)
    rcases h2 x hx with h|h
    · rw [dr] at h
      rcases List.mem_cons.1 h with rfl|h
      · exact .inr hin
      · exact .inl h
    · exact .inr h
  · have hm:=h1 (c0.certs.list[i]!) (by rw [dr];exact List.mem_cons_self)
    obtain ⟨m,hm1,hm2⟩:=bE.1 hm;obtain ⟨c',r1,r2,r3,r4,r5,r6⟩:=aBU ok hm1;have rt:=JD ok hm1 r1;rw [hm2] at r2 rt;have s1:dZ (kP c0 f es i c)=some (.next (kP c0 f es (i+1) c')):=by
     unfold dZ kP;simp only [e1,cond_true,cg,aB,oL _ _ eok.len,aL hin,Bool.not_false,sc,ceta,rt]
    have s2:dI (kR c0 f es i c)=some (.next (kR c0 f es (i+1) c')):=by
     unfold dI kR;simp only [aF,e1,cond_true,cg,aB,IZ _ _ eok.len,aL hin,Bool.not_false,sc,ceta,r2]
    rw [aY s1,aY s2];have cl:c'.certs.list=c.certs.list.eraseIdx m:=by rw [r6];rfl
    have hroom:nY c<=nY c':=by
     unfold nY;rw [r6];show _<=c.certs.next_- (((c.certs.list.eraseIdx m).length:Nat):Int);rw [List.length_eraseIdx_of_lt hm1];omega
    have hs:(∀x∈c0.certs.list.drop (i+1),x∈c'.certs.list)/\(∀x∈c'.certs.list,x∈c0.certs.list.drop (i+1)\/x.2∈es):=by
     refine ⟨fun x hx=>?_,fun x hx=>?_⟩
     · rw [cl]
       refine ZQ (h1 x (by rw [dr];exact List.mem_cons_of_mem _ hx)) ?_
       rw [hm2];exact GQ ok0 hx hi'
     · rw [cl] at hx
       obtain ⟨a1,a2⟩:=uX ok.crt_up hm1 hx;rw [hm2] at a2;rcases h2 x a1 with h|h
       · rw [dr] at h
         rcases List.mem_cons.1 h with rfl|h
         · exact absurd rfl a2
         · exact .inl h
       · exact .inr h
    obtain ⟨d',q1,q2,q3,q4,q5,q6,q7⟩:=ih (i+1) c' (by omega) (by omega) r3 hs.1 hs.2
    exact ⟨d',q1,q2,q3,q4,q5.trans r4,q6.trans r5,by omega⟩
theorem S8 {f:List Pt} (_fok:dC f) {es:List (Int×Int)} (eok:JU f es):
 ∀(d i:Nat) (c:aJ),es.length-i<=d->i<=es.length->bB c->c.field.points=f->(∀x∈c.certs.list,x.2∈es)->(∀j,j<i->sB c.certs.list es[j]!)->
  ∃r:aJ×Int,aI fB (eP es i c)=some (.done r)/\aI dR (eR es i c)=some (.done r)/\(r.2=0/\S7 c f es r.1\/r=(cW,18))/\(∀k,OB c k->k+(es.length-i)<=199->r.2=0):=by
 have el:=eok.len;have fin: ∀c:aJ,bB c->c.field.points=f->(∀x∈c.certs.list,x.2∈es)->(∀j,j<es.length->sB c.certs.list es[j]!)-> ∃r:aJ×Int,aI fB (eP es es.length c)=some (.done r)/\aI dR (eR es es.length c)=some (.done r)/\(r.2=0/\S7 c f es r.1\/r=(cW,18))/\r.2=0:=by
  intro c ok hf hs hh;have e1:decide ((es.length:Int)<(es.length:Int))=false:=aL (by omega)
  refine ⟨(c,0),aK ?_,aK ?_,.inl ⟨rfl,fun e he=>by obtain ⟨j,hj,q⟩:=bE.1 he;rw [<- q];exact hh j hj,hs,ok,hf,rfl,Int.le_refl _⟩,rfl⟩
  · unfold fB eP
    simp only [e1,cond_false]
  · unfold dR eR
    simp only [aF,e1,cond_false]
 intro d
 induction d with
 |zero=>
  intro i c hd hi ok hf hs hh
  have:i=es.length:=by omega
  subst this;obtain ⟨r,q1,q2,q3,q4⟩:=fin c ok hf hs hh;exact ⟨r,q1,q2,q3,fun _ _ _=>q4⟩
 |succ d ih=>
  intro i c hd hi ok hf hs hh
  by_cases he:i=es.length
  · subst he
    obtain ⟨r,q1,q2,q3,q4⟩:=fin c ok hf hs hh;exact ⟨r,q1,q2,q3,fun _ _ _=>q4⟩
  have bd:=ok.bd;have hi':i<es.length:=by omega
  have e1:decide ((i:Int)<(es.length:Int))=true:=aO (by omega)
  have sc:=aZ (show i<1000000000 by omega)
  have cg:=aE es i hi';have ceta:(aJ.mk (c.now.1,c.now.2) (Field.mk c.field.points) (aT.mk c.certs.next_ c.certs.list) (aH.mk (aR.mk c.agenda.slots.uses c.agenda.slots.used c.agenda.slots.free) c.agenda.heap c.agenda.where_) c.due)=c:=rfl;have ceta2:aT.mk c.certs.next_ c.certs.list=c.certs:=rfl;have hc:=S0 c.certs.list es[i]! (by omega)
  have hr:=A3 c.certs es[i]! (by omega)
  by_cases hin:sB c.certs.list es[i]!
  · have s1:fB (eP es i c)=some (.next (eP es (i+1) c)):=by
     unfold fB eP;simp only [e1,cond_true,cg,aB,HZ,hc,aO hin,sc]
    have s2:dR (eR es i c)=some (.next (eR es (i+1) c)):=by
     unfold dR eR;simp only [aF,e1,cond_true,cg,aB,ceta2,hr,aO hin,sc]
    rw [aY s1,aY s2];obtain ⟨r,q1,q2,q3,q4⟩:=ih (i+1) c (by omega) (by omega) ok hf hs (fun j hj=>if q:j=i then by rw [q];exact hin else hh j (by omega))
    exact ⟨r,q1,q2,q3,fun k hk hl=>q4 k hk (by omega)⟩
  · have hb:jE c.field.points es[i]!:=by rw [hf];exact eok.kn _ (bF hi')
    rcases aHX ok (eok.cv _ (bF hi')) hb hin with ⟨r1,r2,full⟩|⟨c',r1,r2,r3,r4,r5,r6,r7⟩
    · refine ⟨(cW,18),aK ?_,aK ?_,.inr rfl,fun k hk hl=>absurd full (hk.not_full ok (by omega))⟩
      · unfold fB eP
        simp only [e1,cond_true,cg,aB,HZ,hc,aL hin,cond_false,ceta,r1,show ((18:Int) !=0)=true from rfl]
      · unfold dR eR
        simp only [aF,e1,cond_true,cg,aB,ceta2,hr,aL hin,cond_false,ceta,r2,show ((18:Int) !=0)=true from rfl]
    · have s1:fB (eP es i c)=some (.next (eP es (i+1) c')):=by
       unfold fB eP;simp only [e1,cond_true,cg,aB,HZ,hc,aL hin,cond_false,ceta,r1,show ((0:Int) !=0)=false from rfl,sc]
      have s2:dR (eR es i c)=some (.next (eR es (i+1) c')):=by
       unfold dR eR;simp only [aF,e1,cond_true,cg,aB,ceta2,hr,aL hin,cond_false,ceta,r2,show ((0:Int) !=0)=false from rfl,sc]
      rw [aY s1,aY s2];obtain ⟨r,q1,q2,q3,q6⟩:=ih (i+1) c' (by omega) (by omega) r3 (by rw [r4,hf]) (fun x hx=>by
       rw [r6] at hx;rcases List.mem_append.1 (show x∈c.certs.list++[(c.certs.next_,es[i]!)] from hx) with h|h
       · exact hs x h
       · rw [List.mem_singleton.1 h];exact bF hi') (fun j hj=>by
       rw [r6];show sB (c.certs.list++[(c.certs.next_,es[i]!)]) _
       by_cases q:j=i
       · rw [q];exact ⟨c.certs.list.length,by rw [List.length_append,List.length_singleton];omega,by rw [gT (Nat.le_refl _),Nat.sub_self];rfl⟩
       · obtain ⟨w,w1,w2⟩:=hh j (by omega)
         exact ⟨w,by rw [List.length_append];omega,by rw [gQ w1];exact w2⟩)
      refine ⟨r,q1,q2,q3.imp (fun ⟨q4,q5⟩=>⟨q4,q5.has,q5.sub,q5.ok,q5.fld,q5.now.trans r5,Int.le_trans ?_ q5.room⟩) id,fun k hk hl=>q6 (k+1) (hk.more r6 r7) (by omega)⟩
      unfold nY;rw [r6];show _<=(c.certs.next_+1) - (((c.certs.list++[(c.certs.next_,es[i]!)]).length:Nat):Int);rw [List.length_append,List.length_singleton];omega
theorem aHZ {c:aJ} (ok:bB c) {f:List Pt} (fok:dC f) {es:List (Int×Int)} (eok:JU f es):
 ∃r:aJ×Int,tO c ⟨f⟩ es=some r/\mK c ⟨f⟩ es=some r/\(r.2=0/\S7 c f es r.1\/r=(cW,18)):=by
 have f64:=fok.1;obtain ⟨c',g1,g2,g3,g4,g5,g6,g7⟩:=aBW ok eok c.certs.list.length 0 c (by omega) (by omega) ok (fun x hx=>by rwa [List.drop_zero] at hx) (fun x hx=> .inl (by rwa [List.drop_zero]))
 have bd:=g3.bd;have e1:decide ((c.certs.list.length:Int)<(c.certs.list.length:Int))=false:=aL (by omega)
 have start1:tO c ⟨f⟩ es=aI dZ (kP c f es 0 c):=rfl;have start2:mK c ⟨f⟩ es=aI dI (kR c f es 0 c):=by
  unfold mK;simp only [iJ ok,aB];rfl
 rw [start1,start2,g1,g2];have eq1:=GR c'.field.points f (by omega)
 have eq2:=I0 c'.field.points f (by omega)
 have ceta:(aJ.mk (c'.now.1,c'.now.2) (Field.mk c'.field.points) (aT.mk c'.certs.next_ c'.certs.list) (aH.mk (aR.mk c'.agenda.slots.uses c'.agenda.slots.used c'.agenda.slots.free) c'.agenda.heap c'.agenda.where_) c'.due)=c':=rfl
 by_cases hf:c'.field.points=f
 · obtain ⟨r,i1,i2,i3,_⟩:=S8 fok eok es.length 0 c' (by omega) (by omega) g3 hf g4 (fun j hj=>absurd hj (Nat.not_lt_zero j))
   refine ⟨r,aK ?_,aK ?_,i3.imp (fun ⟨q4,q5⟩=>⟨q4,q5.has,q5.sub,q5.ok,q5.fld,q5.now.trans g6,Int.le_trans g7 q5.room⟩) id⟩
   · unfold dZ kP
     simp only [e1,cond_false,eq1,aO hf,aB,Bool.not_true];exact i1
   · unfold dI kR
     simp only [aF,e1,cond_false,eq2,aO hf,aB,Bool.not_true];exact i2
 · have kn: ∀i,i<c'.certs.list.length->jE f (c'.certs.list[i]!).2:=fun i hi=>eok.kn _ (g4 _ (bF hi))
   rcases aQK g3 fok kn with ⟨a1,a2⟩|⟨c2,a1,a2,a3,a4,a5,a6⟩
   · refine ⟨(cW,18),aK ?_,aK ?_,.inr rfl⟩
     · unfold dZ kP
       simp only [e1,cond_false,eq1,aL hf,aB,Bool.not_false,cond_true,ceta,a1,show ((18:Int) !=0)=true from rfl]
     · unfold dI kR
       simp only [aF,e1,cond_false,eq2,aL hf,aB,Bool.not_false,cond_true,ceta,a2,show ((18:Int) !=0)=true from rfl]
   · obtain ⟨r,i1,i2,i3,_⟩:=S8 fok eok es.length 0 c2 (by omega) (by omega) a3 a4 (by rw [a6];exact g4) (fun j hj=>absurd hj (Nat.not_lt_zero j))
     refine ⟨r,aK ?_,aK ?_,i3.imp (fun ⟨q4,q5⟩=>⟨q4,q5.has,q5.sub,q5.ok,q5.fld,(q5.now.trans a5).trans g6,Int.le_trans (Int.le_trans g7 (by unfold nY;rw [a6];exact Int.le_refl _)) q5.room⟩) id⟩
     · unfold dZ kP
       simp only [e1,cond_false,eq1,aL hf,aB,Bool.not_false,cond_true,ceta,a1,show ((0:Int) !=0)=false from rfl];exact i1
     · unfold dI kR
       simp only [aF,e1,cond_false,eq2,aL hf,aB,Bool.not_false,cond_true,ceta,a2,show ((0:Int) !=0)=false from rfl];exact i2
end Go.Proofs.YticklbjcnimggaaGreat
namespace Go.Proofs.YticklbjcnimggaaGreat
open Go.Vm Classical
theorem MN {α:Type} [Inhabited α] {l:List α}:l.Nodup↔ ∀k,k<l.length->l[k]!∉l.take k:=by
 rw [lW];constructor
 · intro h k hk hm
   obtain ⟨i,h1,h2,h3⟩:=cJ.1 hm;exact h i k h1 hk h3
 · intro h i j hij hj he
   exact h j hj (cJ.2 ⟨i,hij,by omega,he⟩)
theorem GS {α:Type} [Inhabited α] {l:List α} {P:α->Prop}:(∀x∈l,P x)↔ ∀i,i<l.length->P l[i]!:=by
 constructor
 · intro h i hi;exact h _ (bF hi)
 · intro h x hx
   obtain ⟨i,hi,rfl⟩:=bE.1 hx;exact h i hi
theorem P5 {σ ρ:Type} {body:σ->Option (cL σ ρ)} (st:Nat->σ) (n:Nat) (P:Nat->Prop) {r e:ρ} (h: ∀i,i<n->(¬P i->body (st i)=some (.done r))/\(P i->body (st i)=some (.next (st (i+1)))))
 (hend:body (st n)=some (.done e)):aI body (st 0)=some (if∀i,i<n->P i then e else r):=by
 have key:=dB (body:=body) st n (fun i=> ¬P i) (r:=r) (e:=e) (fun i hi=>⟨(h i hi).1,fun hn=>(h i hi).2 (Classical.not_not.1 hn)⟩) hend
 by_cases hx: ∀i,i<n->P i
 · rw [if_pos hx];exact key.2 fun i hi=>Classical.not_not.2 (hx i hi)
 · rw [if_neg hx]
   obtain ⟨i,h⟩:=Classical.not_forall.1 hx;obtain ⟨hi,hx⟩:=Classical.not_imp.1 h;exact key.1 ⟨i,hi,hx⟩
theorem EB {f:List Pt} (fok:dC f) (id:Int): ∃p e,vR ⟨f⟩ id=some (p,e)/\(e=0↔BM f id):=by
 have h1:=fok.1;have hc:gE ⟨f⟩=some 0:=by rw [nH];exact congrArg some (nG.2 fok)
 have bs:=JT f id (by omega) (fun i j=>yZ fok.2.2)
 unfold vR CJ EZ;rw [aHV];simp only [hc,aB,show ((0:Int) !=0)=false from rfl,cond_false]
 by_cases h:BM f id
 · obtain ⟨k,hk,he⟩:=h
   rw [bs.1 k hk he];refine ⟨f[k]!,0,?_,fun _=>⟨k,hk,he⟩,fun _=>rfl⟩
   simp only [aB,Bool.not_true,cond_false,show ((0:Int) !=0)=false from rfl,aE f k hk]
 · obtain ⟨m,_,_,_,e⟩:=bs.2 (fun k hk he=>h ⟨k,hk,he⟩)
   rw [e];exact ⟨(0,0,0),6,rfl,fun h=>(by cases h),fun k=>absurd k h⟩
structure OC (c:aJ):Prop where
 f:c.field.points.length<=1000000
 l:c.certs.list.length<=1000000
 d:c.due.length<=1000000
 h:c.agenda.heap.length<=1000000
 w:c.agenda.where_.length<=1000000
 s1:c.agenda.slots.uses.length<=1000000
 s2:c.agenda.slots.used.length<=1000000
 s3:c.agenda.slots.free.length<=1000000
theorem bB.short {c:aJ} (ok:bB c):OC c:=by
 have bd:=ok.bd;have ab:=ok.agd.bd;have sl:=ok.agd.so.fl;have sn:=ok.agd.so.n2;have su:=ok.agd.so.ul;exact ⟨by omega,by omega,by omega,by omega,by omega,by omega,by omega,by omega⟩
theorem M2:OC cW:=⟨by decide,by decide,by decide,by decide,by decide,by decide,by decide,by decide⟩
theorem ID (l:List Int) (hl:l.length<=1000000):kW l l=some true:=by
 unfold kW;rw [bX rfl];refine (cI (body:=mP) (fun i=>(l,l,(i:Int))) l.length fun i hi=>?_).trans (aK ?_)
 · have e1:decide ((i:Int)<(l.length:Int))=true:=aO (by omega)
   unfold mP;simp only [aF,e1,cond_true,aE l i hi,aB,aZ (show i<1000000000 by omega),bX rfl,cond_false]
 · unfold mP
   have:decide ((l.length:Int)<(l.length:Int))=false:=aL (by omega)
   simp only [aF,this,cond_false]
theorem VK (l:List Bool) (hl:l.length<=1000000):oS l l=some true:=by
 unfold oS;rw [bX rfl];refine (cI (body:=lT) (fun i=>(l,l,(i:Int))) l.length fun i hi=>?_).trans (aK ?_)
 · have e1:decide ((i:Int)<(l.length:Int))=true:=aO (by omega)
   unfold lT;simp only [aF,e1,cond_true,aE l i hi,aB,aZ (show i<1000000000 by omega),beq_self_eq_true,Bool.not_true,cond_false]
 · unfold lT
   have:decide ((l.length:Int)<(l.length:Int))=false:=aL (by omega)
   simp only [aF,this,cond_false]
theorem VL (c:aT) (hl:c.list.length<=1000000):AT c c=some true:=by
 unfold AT;rw [bX rfl,bX rfl];refine (cI (body:=sQ) (fun i=>((i:Int),c.next_,c.list,c.next_,c.list)) c.list.length fun i hi=>?_).trans (aK ?_)
 · have e1:decide ((i:Int)<(c.list.length:Int))=true:=aO (by omega)
   unfold sQ;simp only [aF,e1,cond_true,aE c.list i hi,aB,aZ (show i<1000000000 by omega),beq_self_eq_true,Bool.and_self,Bool.not_true,cond_false]
 · unfold sQ
   have:decide ((c.list.length:Int)<(c.list.length:Int))=false:=aL (by omega)
   simp only [aF,this,cond_false]
theorem S9 (a:aH) (h1:a.heap.length<=1000000) (h2:a.where_.length<=1000000) (h3:a.slots.uses.length<=1000000) (h4:a.slots.used.length<=1000000) (h5:a.slots.free.length<=1000000):AU a a=some true:=by
 unfold AU E5;simp only [ID _ h3,VK _ h4,ID _ h5,ID _ h2,aB,cond_true,Bool.not_true,cond_false];rw [bX rfl];refine (cI (body:=sR) (fun i=>((i:Int),a.slots.uses,a.slots.used,a.slots.free,a.heap,a.where_,a.slots.uses,a.slots.used,a.slots.free,a.heap,a.where_)) a.heap.length fun i hi=>?_).trans (aK ?_)
 · have e1:decide ((i:Int)<(a.heap.length:Int))=true:=aO (by omega)
   unfold sR;simp only [aF,e1,cond_true,aE a.heap i hi,aB,aZ (show i<1000000000 by omega),beq_self_eq_true,Bool.and_self,Bool.not_true,cond_false]
 · unfold sR
   have:decide ((a.heap.length:Int)<(a.heap.length:Int))=false:=aL (by omega)
   simp only [aF,this,cond_false]
theorem VM {c:aJ} (sh:OC c):AV c c=some true:=by
 have hd:=sh.d;unfold AV;simp only [beq_self_eq_true,Bool.and_self,Bool.not_true,cond_false,I0 c.field.points c.field.points sh.f,VL _ sh.l,S9 _ sh.h sh.w sh.s1 sh.s2 sh.s3,aB,aO];rw [bX rfl]
 refine (cI (body:=sS) (fun i=>((i:Int),c.now.1,c.now.2,c.field.points,c.certs.next_,c.certs.list,c.agenda.slots.uses,c.agenda.slots.used,c.agenda.slots.free,c.agenda.heap,c.agenda.where_,c.due,c.now.1,c.now.2,c.field.points,c.certs.next_,c.certs.list,c.agenda.slots.uses,c.agenda.slots.used,c.agenda.slots.free,c.agenda.heap,c.agenda.where_,c.due)) c.due.length fun i hi=>?_).trans (aK ?_)
 · have e1:decide ((i:Int)<(c.due.length:Int))=true:=aO (by omega)
   unfold sS;simp only [aF,e1,cond_true,aE c.due i hi,aB,aZ (show i<1000000000 by omega),beq_self_eq_true,Bool.and_self,Bool.not_true,cond_false]
 · unfold sS
   have:decide ((c.due.length:Int)<(c.due.length:Int))=false:=aL (by omega)
   simp only [aF,this,cond_false]
structure aBX (c:aJ):Prop where
 now:nT c.now
 at64: ∀w,w<c.agenda.heap.length->nT ((c.agenda.heap[w]!).1,(c.agenda.heap[w]!).2.1)
theorem TA (f:Field):tH f=some true\/(tH f=some false/\f.points.length<=70):=by
 unfold tH
 simp only [aF]
 by_cases h1:16<f.points.length
 · rw [aO (show (16:Int)<(f.points.length:Int) by omega)]
   by_cases h2:f.points.length<64
   · rw [aO (show (f.points.length:Int)<64 by omega)];exact .inl rfl
   · rw [aL (show¬(f.points.length:Int)<64 by omega)]
     by_cases h3:70<f.points.length
     · rw [aO (show (70:Int)<(f.points.length:Int) by omega)];exact .inl rfl
     · rw [aL (show¬(70:Int)<(f.points.length:Int) by omega)];exact .inr ⟨rfl,by omega⟩
 · rw [aL (show¬(16:Int)<(f.points.length:Int) by omega),aL (show¬(70:Int)<(f.points.length:Int) by omega)]
   exact .inr ⟨rfl,by omega⟩
theorem TB (c:aJ):tI c=some true\/(tI c=some false/\OC c):=by
 unfold tI CD CC
 simp only [aF]
 by_cases h1:40<c.certs.list.length
 · rw [aO (show (40:Int)<(c.certs.list.length:Int) by omega)];exact .inl rfl
 rw [aL (show¬(40:Int)<(c.certs.list.length:Int) by omega)]
 by_cases h2:40<c.due.length
 · rw [aO (show (40:Int)<(c.due.length:Int) by omega)];exact .inl rfl
 rw [aL (show¬(40:Int)<(c.due.length:Int) by omega)]
 rcases TA c.field with e|⟨e,hf⟩
 · rw [e];exact .inl rfl
 rw [e];simp only [cond_false,aB]
 by_cases a1:210<c.agenda.slots.uses.length
 · rw [aO (show (210:Int)<(c.agenda.slots.uses.length:Int) by omega)];exact .inl rfl
 rw [aL (show¬(210:Int)<(c.agenda.slots.uses.length:Int) by omega)]
 by_cases a2:210<c.agenda.slots.used.length
 · rw [aO (show (210:Int)<(c.agenda.slots.used.length:Int) by omega)];exact .inl rfl
 rw [aL (show¬(210:Int)<(c.agenda.slots.used.length:Int) by omega)]
 by_cases a3:210<c.agenda.slots.free.length
 · rw [aO (show (210:Int)<(c.agenda.slots.free.length:Int) by omega)];exact .inl rfl
 rw [aL (show¬(210:Int)<(c.agenda.slots.free.length:Int) by omega)]
 by_cases a4:210<c.agenda.heap.length
 · rw [aO (show (210:Int)<(c.agenda.heap.length:Int) by omega)];exact .inl rfl
 rw [aL (show¬(210:Int)<(c.agenda.heap.length:Int) by omega)]
 by_cases a5:210<c.agenda.where_.length
 · rw [aO (show (210:Int)<(c.agenda.where_.length:Int) by omega)];exact .inl rfl
 rw [aL (show¬(210:Int)<(c.agenda.where_.length:Int) by omega)]
 exact .inr ⟨rfl,⟨by omega,by omega,by omega,by omega,by omega,by omega,by omega,by omega⟩⟩
theorem VN {c:aJ} (sh:OC c):hZ c=some c:=by
 obtain ⟨h1,h2,h3,h4,h5,h6,h7,h8⟩:=sh;unfold hZ oY oZ lP mX;simp only [bA (show c.field.points.length<=1048576 by omega),bA (show c.certs.list.length<=1048576 by omega),bA (show c.due.length<=1048576 by omega),bA (show c.agenda.heap.length<=1048576 by omega),bA (show c.agenda.where_.length<=1048576 by omega),
  bA (show c.agenda.slots.uses.length<=1048576 by omega),bA (show c.agenda.slots.used.length<=1048576 by omega),bA (show c.agenda.slots.free.length<=1048576 by omega),aB]
end Go.Proofs.YticklbjcnimggaaGreat
namespace Go.Proofs.YticklbjcnimggaaGreat
open Go.Vm Classical
theorem X0 {a b:Int×Int} (ha:bP a) (hb:bP b) (h:a.1*b.2=b.1*a.2):a=b:=by
 obtain ⟨a1,_,a3⟩:=ha;obtain ⟨b1,_,b3⟩:=hb;have hn:a.1.natAbs*b.2.natAbs=b.1.natAbs*a.2.natAbs:=by rw [<- Int.natAbs_mul,<- Int.natAbs_mul,h]
 have d1:b.2.natAbs ∣ a.2.natAbs:=by
  have:b.2.natAbs ∣ b.1.natAbs*a.2.natAbs:=by rw [<- hn];exact Nat.dvd_mul_left _ _
  exact (Nat.Coprime.dvd_of_dvd_mul_left b3 this)
 have d2:a.2.natAbs ∣ b.2.natAbs:=by
  have:a.2.natAbs ∣ a.1.natAbs*b.2.natAbs:=by rw [hn];exact Nat.dvd_mul_left _ _
  exact (Nat.Coprime.dvd_of_dvd_mul_left a3 this)
 have e:a.2.natAbs=b.2.natAbs:=Nat.dvd_antisymm d2 d1;have e2:a.2=b.2:=by omega
 have e1:a.1=b.1:=by
  rw [e2] at h;exact Int.eq_of_mul_eq_mul_right (by omega) h
 exact Prod.ext e1 e2
theorem GT (p q:Pt) (t:Int×Int):LV p q t=(p.2.1-q.2.1)*t.2+(p.2.2-q.2.2)*t.1:=rfl
theorem I1 {l h:Pt} {t t':Int×Int} (d:1<=t.2) (d':1<=t'.2) (le:t.1*t'.2<=t'.1*t.2) (hB: ¬h.2.2<l.2.2) (hn: ¬fF l h t): ¬fF l h t':=by
 unfold fF at*;rw [GT] at*;generalize l.2.1-h.2.1=A at*;have hs:l.2.2-h.2.2<=0:=by omega
 intro hl;have key:(A*t'.2+(l.2.2-h.2.2)*t'.1)*t.2<=(A*t.2+(l.2.2-h.2.2)*t.1)*t'.2:=by
  have h1:(l.2.2-h.2.2)*(t'.1*t.2)<=(l.2.2-h.2.2)*(t.1*t'.2):=Int.mul_le_mul_of_nonpos_left hs le;have e1:(A*t'.2+(l.2.2-h.2.2)*t'.1)*t.2=A*t'.2*t.2+(l.2.2-h.2.2)*(t'.1*t.2):=by rw [Int.add_mul,Int.mul_assoc (l.2.2-h.2.2)]
  have e2:(A*t.2+(l.2.2-h.2.2)*t.1)*t'.2=A*t'.2*t.2+(l.2.2-h.2.2)*(t.1*t'.2):=by
   rw [Int.add_mul,Int.mul_assoc (l.2.2-h.2.2),Int.mul_assoc A,Int.mul_assoc A,Int.mul_comm t.2]
  omega
 rcases hl with hl|⟨hl,h2|⟨h2,h3⟩⟩
 · refine hn (.inl ?_)
   have:0<(A*t'.2+(l.2.2-h.2.2)*t'.1)*t.2:=Int.mul_pos hl (by omega)
   have k:0<(A*t.2+(l.2.2-h.2.2)*t.1)*t'.2:=by omega
   exact Int.pos_of_mul_pos_left k (by omega)
 · omega
 · have z:l.2.2-h.2.2=0:=by omega
   rw [z] at hl hn
   have:A=0:=by
    have:A*t'.2=0:=by omega
    rcases Int.mul_eq_zero.1 this with h|h
    · exact h
    · omega
   subst this;exact hn (.inr ⟨by omega,.inr ⟨h2,h3⟩⟩)
theorem VO {h l:Pt} {t t':Int×Int} (hh:gI h) (hl:gI l) (r:bP t) (r':bP t') (le:t.1*t'.2<=t'.1*t.2) (up:(mE h l t).2=true->t'.1*(mE h l t).1.2<=(mE h l t).1.1*t'.2):
 mE h l t'=mE h l t:=by
 unfold mE at*
 by_cases h1:fF l h t
 · rw [if_pos h1] at up ⊢
   have e:t=t':=X0 r r' (by have:=up rfl;dsimp only at this;omega)
   subst e;rw [if_pos h1]
 · rw [if_neg h1] at up ⊢
   by_cases h2:h.2.2<l.2.2
   · rw [if_pos h2] at up ⊢
     obtain ⟨_,m1,m2,m3⟩:=HT hh hl (show h.2.2≠l.2.2 by omega)
     have up:=up rfl;dsimp only at up
     by_cases h3:fF l h t'
     · rw [if_pos h3]
       have:t'=ZI h l:=by
        refine X0 r' m1 ?_;have g:0<=LV l h t':=by rcases h3 with k|k<;>omega
        rw [GT] at g;generalize ZI h l=m at*;have d:=m1.1;have hB:0<l.2.2-h.2.2:=by omega
        generalize l.2.2-h.2.2=B at*;generalize hA:h.2.1-l.2.1=A at*;have g2:A*t'.2<=B*t'.1:=by
         have:(l.2.1-h.2.1)*t'.2= -(A*t'.2):=by rw [<- Int.neg_mul];congr 1;omega
         omega
        have g3:m.1*t'.2*B<=t'.1*m.2*B:=by
         have e1:m.1*t'.2*B=A*t'.2*m.2:=by
          rw [Int.mul_right_comm,m3,Int.mul_right_comm]
         have e2:t'.1*m.2*B=B*t'.1*m.2:=by
          rw [Int.mul_right_comm,Int.mul_comm t'.1 B]
         rw [e1,e2];exact Int.mul_le_mul_of_nonneg_right g2 (by omega)
        have g4:m.1*t'.2<=t'.1*m.2:=Int.le_of_mul_le_mul_right g3 hB;omega
       rw [this]
     · rw [if_neg h3]
   · rw [if_neg h2] at up ⊢
     rw [if_neg (I1 r.1 r'.1 le h2 h1)]
end Go.Proofs.YticklbjcnimggaaGreat
namespace Go.Proofs.YticklbjcnimggaaGreat
open Go.Vm Classical
theorem OD {a:aH} (ok:eL a): ∀k,k<a.heap.length-> ¬dM a.heap[k]! a.heap[0]!:=by
 have d: ∀w,w<a.heap.length->1<=(a.heap[w]!).2.1:=fun w hw=>(ok.ev w hw).1.1
 intro k
 induction k using Nat.strongRecOn with
 |ind k ih=>
  intro hk
  by_cases h0:k=0
  · subst h0;exact fun h=>pD h h
  · exact zA (d 0 (by omega)) (d ((k-1) / 2) (by omega)) (d k hk) (ih ((k-1) / 2) (by omega) (by omega)) (ok.ord k (by omega) hk)
theorem aBY {h l:Pt} {t:Int×Int} (hh:gI h) (hl:gI l) (r:bP t) (is:(mE h l t).2=true):t.1*(mE h l t).1.2<=(mE h l t).1.1*t.2:=by
 unfold mE at*
 by_cases h1:fF l h t
 · rw [if_pos h1];exact Int.le_refl _
 · rw [if_neg h1] at is ⊢
   by_cases h2:h.2.2<l.2.2
   · rw [if_pos h2]
     obtain ⟨_,m1,m2,m3⟩:=HT hh hl (show h.2.2≠l.2.2 by omega)
     dsimp only;have g:LV l h t<=0:=Int.not_lt.1 fun k=>h1 (.inl k)
     rw [GT] at g;generalize ZI h l=m at*;have d:=m1.1;have d2:=r.1;have hB:0<l.2.2-h.2.2:=by omega
     generalize l.2.2-h.2.2=B at*;generalize hA:h.2.1-l.2.1=A at*;have g2:B*t.1<=A*t.2:=by
      have:(l.2.1-h.2.1)*t.2= -(A*t.2):=by rw [<- Int.neg_mul];congr 1;omega
      omega
     have e1:t.1*m.2*B=B*t.1*m.2:=by rw [Int.mul_right_comm,Int.mul_comm t.1 B]
     have e2:m.1*t.2*B=A*t.2*m.2:=by rw [Int.mul_right_comm,m3,Int.mul_right_comm]
     have g3:t.1*m.2*B<=m.1*t.2*B:=by
      rw [e1,e2];exact Int.mul_le_mul_of_nonneg_right g2 (by omega)
     exact Int.le_of_mul_le_mul_right g3 hB
   · rw [if_neg h2] at is;cases is
theorem aW.time {l:List Pt} {t t':Int×Int} {H:List Ev}: ∀{cs ds:List tV},(∀x∈cs,bG l x.2 t'=bG l x.2 t)->aW l t H cs ds->aW l t' H cs ds
 | [],_,_,h=>h
 |x::cs,ds,hw,h=>by
  have e:=hw x List.mem_cons_self;have ih: ∀{ds},aW l t H cs ds->aW l t' H cs ds:=fun {ds}=>aW.time fun y hy=>hw y (List.mem_cons_of_mem _ hy)
  refine ⟨fun hy=>?_,fun hy=>?_⟩
  · rw [e] at hy
    obtain ⟨d,ds',h1,h2,h3,h4⟩:=h.1 hy;exact ⟨d,ds',h1,h2,by rw [e];exact h3,ih h4⟩
  · rw [e] at hy
    exact ih (h.2 hy)
theorem VP {c:aJ} (ok:bB c) (hne:0<c.agenda.heap.length):
 ∃(i:Nat) (c':aJ),i<c.certs.list.length/\(c.certs.list[i]!).1=Ev.num c.agenda.heap[0]!/\lR c (Ev.num c.agenda.heap[0]!)=some (c',(c.certs.list[i]!).2,0)/\pC c (Ev.num c.agenda.heap[0]!)=some c'/\
  bB ⟨Ev.at c.agenda.heap[0]!,c'.field,c'.certs,c'.agenda,c'.due⟩/\c'.field=c.field/\c'.certs=nW c.certs i/\c.now.1*(Ev.at c.agenda.heap[0]!).2<=(Ev.at c.agenda.heap[0]!).1*c.now.2:=by
 have hm:=bF hne;obtain ⟨d,hd,hn⟩:=ok.nums _ hm;obtain ⟨x,hx,h1,h2,h3⟩:=ok.fol.due d hd;obtain ⟨w,hw,he⟩:=bE.1 h3;have hw0:w=0:=Classical.byContradiction fun hx=>by
  refine ok.agd.nd 0 w (by omega) hw ?_
  rw [he,<- hn,h1]
 subst hw0;obtain ⟨i,hi,rfl⟩:=bE.1 hx;have num:(c.certs.list[i]!).1=Ev.num c.agenda.heap[0]!:=by rw [<- hn,h1]
 have tm:Ev.at c.agenda.heap[0]! =(bG c.field.points (c.certs.list[i]!).2 c.now).1:=by rw [he]
 obtain ⟨c',r1,r2,r3,r4,r5,r6⟩:=aBU ok hi;have hb:=ok.known i hi;have pt:=fun (x:Int×Int) (hb:jE c.field.points x)=>And.intro (iG ok.fld hb.2).1 (iG ok.fld hb.1).1
 have rt:=GH (pt _ hb).1 (pt _ hb).2 ok.now64 ok.nowv h2;have ge:=aBY (pt _ hb).1 (pt _ hb).2 ok.nowv h2;rw [num] at r1 r2;refine ⟨i,c',hi,num,r1,r2,?_,r4,r6,by rw [tm];exact ge⟩
 have kn:=CU ok i hi;refine ⟨by rw [tm];exact rt.1,by rw [tm];exact rt.2,r3.fld,r3.crt,r3.agd,r3.w200,r3.hd,r3.known,?_⟩
 refine aW.time (t:=c'.now) (fun y hy=>?_) r3.fol
 have hy':y∈c.certs.list:=by
  rw [r6] at hy;exact (uX ok.crt_up hi hy).1
 obtain ⟨j,hj,rfl⟩:=bE.1 hy';have hbj:=ok.known j hj;rw [r4,r5];refine VO (pt _ hbj).1 (pt _ hbj).2 ok.nowv (by rw [tm];exact rt.1) (by rw [tm];exact ge) (fun is=>?_)
 obtain ⟨d',hd',k1,k2⟩:=ok.fol.has _ hy' is;obtain ⟨w,hw,he⟩:=bE.1 k2
 have:=OD ok.agd w hw
 rw [he] at this;exact Int.not_lt.1 fun k=>this (.inl (DJ.2 k))
end Go.Proofs.YticklbjcnimggaaGreat
namespace Go.Proofs.YticklbjcnimggaaGreat
open Go.Vm Classical
theorem JE {p q:Pt} {t:Int×Int} (hp:gI p) (hq:gI q) (ht:nT t) (hr:bP t):nP p q t=some (decide (fF p q t),if p.1=q.1 then 2 else 0)\/(p.1=q.1/\nP p q t=some (false,2)):=by
 unfold nP;rw [xZ ht,if_pos ⟨hp,hq,hr⟩]
 by_cases h:p.1=q.1
 · right;simp [h]
 · left
   simp only [h,if_false,aB,xK hp hq ht]
   have:decide (0<U6 p q t)=decide (fF p q t):=by simp only [LW]
   simp [this]
end Go.Proofs.YticklbjcnimggaaGreat
namespace Go.Proofs.YticklbjcnimggaaGreat
open Go.Vm Classical
theorem aH0 {f:List Pt} (fok:dC f) {t:Int×Int} (r64:nT t) {x:Int×Int} (hb:jE f x):AR x ⟨f⟩ t=some (decide (fF (mQ f x.2) (mQ f x.1) t)):=by
 obtain ⟨h1,h2⟩:=hb;obtain ⟨j,j1,j2,j3⟩:=IC fok h1;obtain ⟨k,k1,k2,k3⟩:=IC fok h2;unfold AR;simp only [j2,k2,aB,aE f j j1,aE f k k1,j3,k3,LX (iG fok h2).1 (iG fok h1).1 r64]
end Go.Proofs.YticklbjcnimggaaGreat
namespace Go.Proofs.YticklbjcnimggaaGreat
open Go.Vm Classical
theorem TC {c:aT} (ok:eJ c):(c.list.map fun x=>x.2).Nodup:=by
 refine LS ?_ ?_
 · exact lW.2 fun i j hij hj e=>ok.nd i j hij hj (by rw [e])
 · intro x hx y hy e
   obtain ⟨i,hi,rfl⟩:=bE.1 hx;obtain ⟨j,hj,rfl⟩:=bE.1 hy;rcases Nat.lt_trichotomy i j with k|k|k
   · exact absurd e (ok.nd i j k hj)
   · rw [k]
   · exact absurd e.symm (ok.nd j i k hi)
theorem CV {l:List tV} {x:Int×Int}:sB l x↔x∈l.map fun y=>y.2:=by
 unfold sB;rw [List.mem_map];constructor
 · rintro ⟨i,hi,rfl⟩;exact ⟨l[i]!,bF hi,rfl⟩
 · rintro ⟨y,hy,rfl⟩
   obtain ⟨i,hi,rfl⟩:=bE.1 hy;exact ⟨i,hi,rfl⟩
theorem aH1 {c:aJ} (ok:bB c) (es:List (Int×Int)) (kn: ∀x∈es,jE c.field.points x):
 AS c es=some (decide (c.certs.list.length=es.length/\ ∀i,i<es.length->sB c.certs.list es[i]!/\fF (mQ c.field.points (es[i]!).2) (mQ c.field.points (es[i]!).1) c.now)):=by
 have bd:=ok.bd;unfold AS;simp only [aF]
 by_cases h0:c.certs.list.length=es.length
 case neg=>rw [eU (by omega),cond_true,aL (fun h=>h0 h.1)]
 rw [bX (by omega),cond_false]
 have key:=P5 (body:=sM) (fun i=>(es,(i:Int),c.now.1,c.now.2,c.field.points,c.certs.next_,c.certs.list,c.agenda.slots.uses,c.agenda.slots.used,c.agenda.slots.free,c.agenda.heap,c.agenda.where_,c.due)) es.length
  (fun i=>sB c.certs.list es[i]!/\fF (mQ c.field.points (es[i]!).2) (mQ c.field.points (es[i]!).1) c.now) (r:=false) (e:=true) (fun i hi=>by
  have ceta2:aT.mk c.certs.next_ c.certs.list=c.certs:=rfl;unfold sM;simp only [aF,aO (show (i:Int)<(es.length:Int) by omega),cond_true,aE es i hi,aB,ceta2,A3 c.certs es[i]! (by omega),aH0 ok.fld (t:=(c.now.1,c.now.2)) ok.now64 (kn _ (bF hi)),aZ (show i<1000000000 by omega)]
  by_cases h1:sB c.certs.list es[i]!
  · rw [aO h1]
    by_cases h2:fF (mQ c.field.points (es[i]!).2) (mQ c.field.points (es[i]!).1) c.now
    · rw [show decide (fF (mQ c.field.points (es[i]!).2) (mQ c.field.points (es[i]!).1) (c.now.1,c.now.2))=true from aO h2]
      exact ⟨fun h=>absurd ⟨h1,h2⟩ h,fun _=>rfl⟩
    · rw [show decide (fF (mQ c.field.points (es[i]!).2) (mQ c.field.points (es[i]!).1) (c.now.1,c.now.2))=false from aL h2]
      exact ⟨fun _=>rfl,fun h=>absurd h.2 h2⟩
  · rw [aL h1]
    exact ⟨fun _=>rfl,fun h=>absurd h.1 h1⟩) (by
  unfold sM;simp only [aF,aL (show¬(es.length:Int)<(es.length:Int) by omega),cond_false])
 refine (show _=_ from key).trans ?_
 by_cases h2: ∀i,i<es.length->sB c.certs.list es[i]!/\fF (mQ c.field.points (es[i]!).2) (mQ c.field.points (es[i]!).1) c.now
 · rw [if_pos h2,aO ⟨h0,h2⟩]
 · rw [if_neg h2,aL (fun h=>h2 h.2)]
end Go.Proofs.YticklbjcnimggaaGreat
