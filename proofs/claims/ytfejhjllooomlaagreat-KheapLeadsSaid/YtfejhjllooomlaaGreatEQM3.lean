/- Plain laws (3). -/
import Derived.Test.YtfejhjllooomlaaGreatEQM2
import Derived.Test.YtfejhjllooomlaaGreatEQS1
namespace Go.Proofs.YtfejhjllooomlaaGreat
open Go.Vm Classical
theorem TQ (c:aH) (n:Int) (hl:c.due.length<=1000000):(∀k,k<c.due.length->(c.due[k]!).1=n->(∀j,j<k->(c.due[j]!).1≠n)->tL c n=some (k:Int))/\((∀k,k<c.due.length->(c.due[k]!).1≠n)->tL c n=some (-1)):=by
 unfold tL;refine lI (body:=qE) (fun i=>(n,(i:Int),c.now.1,c.now.2,c.field.points,c.certs.next_,c.certs.list,c.agenda.slots.uses,c.agenda.slots.used,c.agenda.slots.free,c.agenda.heap,c.agenda.where_,c.due)) c.due.length (fun i=>(c.due[i]!).1=n) (fun i=>(i:Int)) (fun i hi=>?_) ?_
 · have e1:decide ((i:Int)<(c.due.length:Int))=true:=aT (by omega)
   unfold qE;simp only [aF,e1,cond_true,aC c.due i hi,aB,bG (show i<1000000000 by omega)]
   constructor
   · intro h;rw [gG h];rfl
   · intro h;rw [gA h];rfl
 · unfold qE
   have:decide ((c.due.length:Int)<(c.due.length:Int))=false:=aM (by omega)
   simp only [aF,this,cond_false]
theorem IP {ds:List tN} (hu:Up ds) (hl:ds.length<=1000000) (n:Int):(∀k,k<ds.length->(ds[k]!).1=n->oZ ds n=some ((k:Int),true))/\((∀k,k<ds.length->(ds[k]!).1≠n)-> ∃m:Nat,oZ ds n=some ((m:Int),false)):=by
 have bs:=J5 ds n hl (sK.1 hu);unfold oZ;rw [aNB];constructor
 · intro k hk he;rw [bs.1 k hk he];rfl
 · intro h
   obtain ⟨m,_,_,_,e⟩:=bs.2 h;exact ⟨m,by rw [e];rfl⟩
theorem bB.bd {c:aH} (ok:bB c):c.due.length<=200/\c.field.points.length<=64/\c.certs.list.length<=200:=by
 have:=ok.hd;have:=ok.agd.bd;have:=ok.fld.1;have:=ok.crt.len
 omega
theorem iL {c:aH} (ok:bB c):rG c=some c:=by
 have bd:=ok.bd;unfold rG AP AQ;simp only [bK (show c.field.points.length<=1048576 by omega),bK (show c.certs.list.length<=1048576 by omega),bK (show c.due.length<=1048576 by omega),aB,sJ ok.agd]
theorem gJ {c:aH} (ok:bB c):jV c=some c:=by
 have bd:=ok.bd;have ab:=ok.agd.bd;have hl:=ok.agd.so.fl;have hn:=ok.agd.so.n2;have hu:=ok.agd.so.ul;unfold jV;simp only [bK (show c.field.points.length<=1048576 by omega),bK (show c.certs.list.length<=1048576 by omega),bK (show c.due.length<=1048576 by omega),bK (show c.agenda.heap.length<=1048576 by omega),bK (show c.agenda.where_.length<=1048576 by omega),
  bK (show c.agenda.slots.uses.length<=1048576 by omega),bK (show c.agenda.slots.used.length<=1048576 by omega),bK (show c.agenda.slots.free.length<=1048576 by omega),aB]
theorem qI {cs:List tN} {i:Nat} (hu:Up cs) (hi:i<cs.length) {x:tN} (hx:x∈cs.eraseIdx i):x∈cs/\x.1≠(cs[i]!).1:=by
 rw [vY,List.mem_append] at hx;have ub:=sK.1 hu;rcases hx with hx|hx
 · obtain ⟨j,h1,h2,rfl⟩:=dD.1 hx
   have:=ub j i h1 hi
   exact ⟨bA h2,by omega⟩
 · obtain ⟨j,hj,rfl⟩:=aU.1 hx
   rw [List.length_drop] at hj;rw [vB]
   have:=ub i (i+1+j) (by omega) (by omega)
   exact ⟨bA (by omega),by omega⟩
theorem C5 {c:aH} (ok:bB c) (i:Nat) (hi:i<c.certs.list.length): ∀j,j<(nR c.certs i).list.length->lX c.field.points ((nR c.certs i).list[j]!).2:=by
 intro j hj;have hm:(nR c.certs i).list[j]!∈c.certs.list:=(qI ok.crt_up hi (bA hj)).1;obtain ⟨m,hm1,hm2⟩:=aU.1 hm;rw [<- hm2];exact ok.known m hm1
theorem VW {c:aH} (ok:bB c) {i:Nat} (hi:i<c.certs.list.length):
 ∃c':aH,hJ c (c.certs.list[i]!).1=some (c',(c.certs.list[i]!).2,0)/\vT c (c.certs.list[i]!).1=some c'/\bB c'/\c'.field=c.field/\c'.now=c.now/\c'.certs=nR c.certs i:=by
 have bd:=ok.bd;have rm:=C4 ok.crt hi (n:=(c.certs.list[i]!).1) rfl;have wo:=IM ok.crt hi (n:=(c.certs.list[i]!).1) rfl;have fe:=ok.fol.erase (i:=i) hi;have pd:=IP ok.due_up (by omega) (c.certs.list[i]!).1
 have da:=TQ c (c.certs.list[i]!).1 (by omega)
 cases hf:(bI c.field.points (c.certs.list[i]!).2 c.now).2 with
 |false=>
  have no: ∀k,k<c.due.length->(c.due[k]!).1≠(c.certs.list[i]!).1:=by
   intro k hk he;obtain ⟨x,hx,h1,h2,_⟩:=ok.fol.due _ (bA hk);obtain ⟨j,hj,rfl⟩:=aU.1 hx;have ub:=sK.1 ok.crt_up
   have:j=i:=by
    rcases Nat.lt_trichotomy j i with h|h|h
    · have:=ub j i h hi;omega
    · exact h
    · have:=ub i j h hj;omega
   rw [this,hf] at h2;cases h2
  refine ⟨⟨c.now,c.field,nR c.certs i,c.agenda,c.due⟩,?_,?_,?_,rfl,rfl,rfl⟩
  · unfold hJ
    obtain ⟨m,e⟩:=pd.2 no;simp only [rm,aB,show ((0:Int) !=0)=false from rfl,cond_false,gJ ok,e]
  · unfold vT
    simp only [iL ok,aB,wo,da.2 no,aM (show¬(0:Int)<= -1 by omega),cond_false]
  · exact ⟨ok.nowv,ok.now64,ok.fld,MX ok.crt hi,ok.agd,ok.w200,ok.hd,C5 ok i hi,fe.1 hf⟩
 |true=>
  obtain ⟨k,hk,k1,k2,k3⟩:=fe.2 hf;obtain ⟨w,hw,hev⟩:=aU.1 k2;have hh:(c.agenda.heap[w]!).2.2.2=(c.due[k]!).2:=by rw [hev]
  have ub:=sK.1 ok.due_up;have before: ∀j,j<k->(c.due[j]!).1≠(c.certs.list[i]!).1:=fun j hj he=>by have:=ub j k hj hk;omega
  have dl:(c.due.eraseIdx k).length=c.due.length-1:=X1 hk;obtain ⟨L,d1,d2⟩:=C1 c.due k hk;refine ⟨⟨c.now,c.field,nR c.certs i,dU c.agenda w,c.due.eraseIdx k⟩,?_,?_,?_,rfl,rfl,rfl⟩
  · unfold hJ
    simp only [rm,aB,show ((0:Int) !=0)=false from rfl,cond_false,gJ ok,pd.1 k hk k1,cond_true,aC c.due k hk,rP ok.agd hw ok.agd.fit hh,bG (show k<1000000000 by omega),MS,d1,d2]
  · unfold vT
    have s1:jT c.due 0 (k:Int)=some (c.due.take k):=rM c.due k (by omega)
    have s2:jT c.due ((k+1:Nat):Int) (c.due.length:Int)=some (c.due.drop (k+1)):=by
     unfold jT;rw [if_pos ⟨by omega,by omega,by omega⟩]
     simp only [Int.toNat_natCast];rw [List.take_of_length_le (by rw [List.length_drop];exact Nat.le_refl _)]
    have tl:(c.due.take k).length=k:=by rw [List.length_take];omega
    have dl2:(c.due.drop (k+1)).length=c.due.length- (k+1):=List.length_drop;simp only [iL ok,aB,wo,da.1 k hk k1 before,aT (show (0:Int)<=(k:Int) by omega),cond_true,aC c.due k hk,zD ok.agd hw hh,s1,bK (show (c.due.take k).length<=1048576 by omega),bG (show k<1000000000 by omega),aF,s2,
     fF (show (c.due.take k).length+(c.due.drop (k+1)).length<=1048576 by omega),vY]
    cases hem:(c.due.drop (k+1)).isEmpty with
    |true=>
     rw [List.isEmpty_iff] at hem;rw [hem,List.append_nil];rfl
    |false=>rfl
  · have rem:=IK ok.agd hw
    have rmem:=MR ok.agd hw;have hlen:(dU c.agenda w).heap.length=c.agenda.heap.length-1:=by
     have h1:=rem.hl;have h2:=ok.agd.hl;have h3:(dU c.agenda w).slots=fG c.agenda.slots (c.agenda.heap[w]!).2.2.2:=by unfold dU;split<;>rfl
     rw [h3] at h1;change _+(c.agenda.slots.free++[_]).length=c.agenda.slots.uses.length at h1;rw [List.length_append] at h1;simp only [List.length_cons,List.length_nil] at h1;omega
    have wlen:(dU c.agenda w).where_.length=200:=by
     have h1:=rem.wl;have h3:(dU c.agenda w).slots=fG c.agenda.slots (c.agenda.heap[w]!).2.2.2:=by unfold dU;split<;>rfl
     rw [h3] at h1;change _=c.agenda.slots.uses.length at h1;rw [h1,<- ok.agd.wl,ok.w200]
    refine ⟨ok.nowv,ok.now64,ok.fld,MX ok.crt hi,rem,wlen,?_,C5 ok i hi,?_⟩
    · show (dU c.agenda w).heap.length=(c.due.eraseIdx k).length
      rw [hlen,dl,ok.hd]
    · refine k3.mono fun x hx e he hm=>(rmem e).2 ⟨hm,fun h=>?_⟩
      have:=(qI ok.crt_up hi hx).2
      rw [h,hev] at he;exact this he.symm
theorem BM {c:aH} (ok:bB c) {i:Nat} (_hi:i<c.certs.list.length) {c':aH} (h:hJ c (c.certs.list[i]!).1=some (c',(c.certs.list[i]!).2,0)):uR c (c.certs.list[i]!).1=some (c',0):=by
 unfold uR;rw [nE ok.fit,if_pos ok];simp only [aB,show ((0:Int) !=0)=false from rfl,cond_false,h]
end Go.Proofs.YtfejhjllooomlaaGreat
namespace Go.Proofs.YtfejhjllooomlaaGreat
open Go.Vm Classical
abbrev jP:aH:=⟨(0,0),⟨[]⟩,⟨0,[]⟩,⟨⟨[],[],[]⟩,[],[]⟩,[]⟩
theorem QJ {l:List Pt} (ok:dH l) {id:Int} (h:nU l id): ¬(dR l id).1<0:=by
 obtain ⟨h1,_⟩:=eA ok h
 have:=h1.1
 omega
theorem X2 {c:aH} (ok:bB c) {x:Int×Int} (hx:jO x) (hb:lX c.field.points x) (hn: ¬uW c.certs.list x):
 (iK c x=some (jP,0,18)/\mZ c x=some (jP,0,18)/\(EN c.certs\/ ¬yY c.agenda.slots))\/
 ∃c':aH,iK c x=some (c',c.certs.next_,0)/\mZ c x=some (c',c.certs.next_,0)/\bB c'/\c'.field=c.field/\c'.now=c.now/\c'.certs=oK c.certs x/\(c'.agenda.slots=c.agenda.slots\/c'.agenda.slots=gF c.agenda.slots):=by
 have bd:=ok.bd;have n0:=ok.crt.n0;have n1:=ok.crt.n1;have fit:=ok.fit;have ad:=TL ok.crt hx;have rd:=QH ok.crt hx;rw [if_neg hn] at ad rd;have hc:iJ c=some 0:=by rw [nE fit,if_pos ok]
 have p1:=nD ok.fld x.1;have p2:=nD ok.fld x.2;have q1:=QJ ok.fld hb.1;have q2:=QJ ok.fld hb.2;have wh:=yD ok.fld hx ok.nowv ok.now64;rw [if_pos hb] at wh;have rw':=yE ok.fld ok.now64 hb
 by_cases hf:EN c.certs
 · rw [if_pos hf] at ad rd
   left;refine ⟨?_,?_,.inl hf⟩
   · unfold iK dI
     simp only [hc,aB,show ((0:Int) !=0)=false from rfl,cond_false,ad,show ((18:Int)==8)=false from rfl,p1,p2,aM q1,aM q2,show ((18:Int) !=0)=true from rfl,cond_true]
   · unfold mZ
     simp only [rd,aB,show ((18:Int) !=0)=true from rfl,cond_true]
 rw [if_neg hf] at ad rd;have cok:=VU ok.crt hx hn hf;have known': ∀j,j<(oK c.certs x).list.length->lX c.field.points ((oK c.certs x).list[j]!).2:=by
  intro j hj;rw [DZ] at hj;rw [vZ]
  by_cases h:j<c.certs.list.length
  · rw [if_pos h];exact ok.known j h
  · rw [if_neg h,if_pos (by omega)];exact hb
 have fresh: ∀e∈c.agenda.heap,Ev.num e≠c.certs.next_:=by
  intro e he hne;obtain ⟨d,hd,h1⟩:=ok.nums e he;obtain ⟨y,hy,h2,_⟩:=ok.fol.due d hd;obtain ⟨j,hj,rfl⟩:=aU.1 hy
  have:=(ok.crt.nr j hj).2
  omega
 have sn:=ok.fol.snoc (x:=(c.certs.next_,x));cases hw:(bI c.field.points x c.now).2 with
 |false=>
  right;refine ⟨⟨c.now,c.field,oK c.certs x,c.agenda,c.due⟩,?_,?_,⟨ok.nowv,ok.now64,ok.fld,cok,ok.agd,ok.w200,ok.hd,known',sn.1 hw⟩,rfl,rfl,rfl,.inl rfl⟩
  · unfold iK dI
    simp only [hc,aB,show ((0:Int) !=0)=false from rfl,cond_false,ad,show ((0:Int)==8)=false from rfl,p1,p2,aM q1,aM q2,gJ ok,wh,hw]
  · unfold mZ
    simp only [rd,aB,show ((0:Int) !=0)=false from rfl,cond_false,iL ok,rw',hw,Bool.not_false,cond_true]
 |true=>
  obtain ⟨t1,t2⟩:=GU (eA ok.fld hb.2).1 (eA ok.fld hb.1).1 ok.now64 ok.nowv hw
  by_cases op:yY c.agenda.slots
  · right
    have pu:=zA ok.agd op ok.agd.fit (t:=(bI c.field.points x c.now).1) (n:=c.certs.next_) t1 t2 n0 n1 fresh;have rp:=BL ok.agd op (t:=(bI c.field.points x c.now).1) (n:=c.certs.next_) t1 t2 n0 n1;have pok:=XZ ok.agd op (t:=(bI c.field.points x c.now).1) (n:=c.certs.next_) t1 t2 n0 n1 fresh
    have pmem:=TH ok.agd op (t:=(bI c.field.points x c.now).1) (n:=c.certs.next_) t1;have plen:=GZ ok.agd op (t:=(bI c.field.points x c.now).1) (n:=c.certs.next_) t1;have ap: ∀h:Int×Int,bZ c.due [(c.certs.next_,h)]=some (c.due++[(c.certs.next_,h)]):=fun h=>fF (by simp;omega)
    have wlen:(lS c.agenda (bI c.field.points x c.now).1 c.certs.next_).where_.length=200:=by
     have:=pok.wl
     change _=(c.agenda.slots.uses.set _ _).length at this;rw [List.length_set] at this;rw [this,<- ok.agd.wl,ok.w200]
    refine ⟨⟨c.now,c.field,oK c.certs x,lS c.agenda (bI c.field.points x c.now).1 c.certs.next_,c.due++[(c.certs.next_,lQ c.agenda.slots)]⟩,?_,?_,⟨ok.nowv,ok.now64,ok.fld,cok,pok,wlen,?_,known',?_⟩,rfl,rfl,rfl,.inr rfl⟩
    · unfold iK dI
      simp only [hc,aB,show ((0:Int) !=0)=false from rfl,cond_false,ad,show ((0:Int)==8)=false from rfl,p1,p2,aM q1,aM q2,gJ ok,wh,hw,cond_true,pu,ap]
    · unfold mZ
      simp only [rd,aB,show ((0:Int) !=0)=false from rfl,cond_false,iL ok,rw',hw,Bool.not_true,sI ok.agd.so,aT op,rp,ap]
    · show (lS c.agenda (bI c.field.points x c.now).1 c.certs.next_).heap.length=(c.due++[_]).length
      rw [plen,List.length_append,ok.hd];rfl
    · have fm:aX c.field.points c.now (lS c.agenda (bI c.field.points x c.now).1 c.certs.next_).heap c.certs.list c.due:=ok.fol.mono fun y hy e he hm=>(pmem e).2 (.inr hm)
      exact (fm.snoc (x:=(c.certs.next_,x))).2 _ hw rfl ((pmem _).2 (.inl rfl))
  · left
    have pu:=zB ok.agd op ok.agd.fit (t:=(bI c.field.points x c.now).1) (n:=c.certs.next_) t1 t2 n0 n1 fresh;refine ⟨?_,?_,.inr op⟩
    · unfold iK dI
      simp only [hc,aB,show ((0:Int) !=0)=false from rfl,cond_false,ad,show ((0:Int)==8)=false from rfl,p1,p2,aM q1,aM q2,gJ ok,wh,hw,cond_true,pu,show ((18:Int) !=0)=true from rfl]
    · unfold mZ
      simp only [rd,aB,show ((0:Int) !=0)=false from rfl,cond_false,iL ok,rw',hw,Bool.not_true,sI ok.agd.so,aM op,Bool.not_false,cond_true]
end Go.Proofs.YtfejhjllooomlaaGreat
namespace Go.Proofs.YtfejhjllooomlaaGreat
open Go.Vm Classical
theorem Up.inj {cs:List tN} (h:Up cs) {x y:tN} (hx:x∈cs) (hy:y∈cs) (he:x.1=y.1):x=y:=by
 obtain ⟨i,hi,rfl⟩:=aU.1 hx;obtain ⟨j,hj,rfl⟩:=aU.1 hy;have ub:=sK.1 h;rcases Nat.lt_trichotomy i j with h1|h1|h1
 · have:=ub i j h1 hj;omega
 · rw [h1]
 · have:=ub j i h1 hi;omega
structure MZ (c:aH) (f:List Pt) (i k:Nat) (a:aG) (ds:List tN):Prop where
 ok:eQ a
 w2:a.where_.length=200
 new:aX f c.now a.heap (c.certs.list.take i) ds
 old:aX c.field.points c.now a.heap (c.certs.list.drop i) (c.due.drop k)
 kl:k<=c.due.length
 cnt:a.heap.length=ds.length+(c.due.length-k)
theorem aNC {a:aG} (ok:eQ a) {w:Nat} (hw:w<a.heap.length):(dU a w).heap.length=a.heap.length-1/\(dU a w).where_.length=a.where_.length:=by
 have rem:=IK ok hw;have h3:(dU a w).slots=fG a.slots (a.heap[w]!).2.2.2:=by unfold dU;split<;>rfl
 have h1:=rem.hl;have h2:=ok.hl;have h4:=rem.wl;rw [h3] at h1 h4;change _+(a.slots.free++[_]).length=a.slots.uses.length at h1;change _=a.slots.uses.length at h4;rw [List.length_append] at h1;simp only [List.length_cons,List.length_nil] at h1;exact ⟨by omega,by rw [h4,ok.wl]⟩
theorem aIa {a:aG} {t:Int×Int} {n:Int} (ok:eQ a) (pok:eQ (lS a t n)):(lS a t n).where_.length=a.where_.length:=by
 have:=pok.wl
 change _=(a.slots.uses.set _ _).length at this;rw [List.length_set] at this;rw [this,ok.wl]
section
variable {c : aH} (ok : bB c) {f : List Pt} (fok : dH f) (kn : ∀ i, i < c.certs.list.length -> lX f (c.certs.list[i]!).2)
include ok
theorem G1 {i:Nat} {x:tN} (hx:x∈c.certs.list.take i) (hi:i<c.certs.list.length):x.1≠(c.certs.list[i]!).1:=by
 obtain ⟨j,h1,h2,rfl⟩:=dD.1 hx
 have:=ok.crt.up j i h1 hi
 omega
theorem A3 {i:Nat} {x:tN} (hx:x∈c.certs.list.drop (i+1)) (hi:i<c.certs.list.length):x.1≠(c.certs.list[i]!).1:=by
 obtain ⟨j,h1,rfl⟩:=aU.1 hx;rw [List.length_drop] at h1;rw [vB]
 have:=ok.crt.up i (i+1+j) (by omega) (by omega)
 omega
theorem ZL {i k:Nat} {a:aG} {ds:List tN} (inv:MZ c f i k a ds) (hi:i<c.certs.list.length) (was:(bI c.field.points (c.certs.list[i]!).2 c.now).2=false): ∀e∈a.heap,Ev.num e≠(c.certs.list[i]!).1:=by
 have u1:Up (c.certs.list.take i):=ok.crt_up.sublist (List.take_sublist _ _);have u2:Up (c.certs.list.drop i):=ok.crt_up.sublist (List.drop_sublist _ _);have d1:=inv.new.up u1;have d2:=inv.old.up u2;have cross: ∀x∈ds,∀y∈c.due.drop k,x.1<y.1:=by
  intro x hx y hy;obtain ⟨p,hp,h1,_⟩:=inv.new.due x hx;obtain ⟨q,hq,h2,_⟩:=inv.old.due y hy;obtain ⟨m,m1,m2,rfl⟩:=dD.1 hp;obtain ⟨n,n1,rfl⟩:=aU.1 hq;rw [List.length_drop] at n1;rw [vB] at h2
  have:=ok.crt.up m (i+n) (by omega) (by omega)
  omega
 have nd:((ds++c.due.drop k).map fun x=>x.1).Nodup:=TP (by
  show List.Pairwise _ _;rw [List.pairwise_append];exact ⟨d1,d2,cross⟩)
 have only:=JC (H:=a.heap) nd (by rw [List.length_map,List.length_append,List.length_drop,inv.cnt];exact Nat.le_refl _) (fun n hn=>by
  obtain ⟨x,hx,rfl⟩:=List.mem_map.1 hn;rcases List.mem_append.1 hx with hx|hx
  · obtain ⟨p,hp,h1,h2,h3⟩:=inv.new.due x hx
    exact ⟨_,h3,h1.symm⟩
  · obtain ⟨p,hp,h1,h2,h3⟩:=inv.old.due x hx
    exact ⟨_,h3,h1.symm⟩)
 intro e he hne;obtain ⟨x,hx,h1⟩:=List.mem_map.1 (only e he);rcases List.mem_append.1 hx with hx|hx
 · obtain ⟨p,hp,h2,_⟩:=inv.new.due x hx
   exact G1 ok hp hi (by rw [<- h2,h1,hne])
 · obtain ⟨p,hp,h2,h3,_⟩:=inv.old.due x hx
   have hp':p∈c.certs.list:=List.mem_of_mem_drop hp
   have:=ok.crt_up.inj hp' (bA hi) (by rw [<- h2,h1,hne])
   rw [this,was] at h3;cases h3
def ZM (c:aH) (f:List Pt) (i:Nat) (a:aG) (ds:List tN):=
 (c.certs.list,(c.certs.list.length:Int),(i:Int),c.now.1,c.now.2,c.field.points,c.certs.next_,c.certs.list,c.agenda.slots.uses,c.agenda.slots.used,c.agenda.slots.free,c.agenda.heap,c.agenda.where_,c.due,f,(0:Int),(0:Int),(0:Int),c.now.1,c.now.2,c.certs.next_,c.certs.list,a.slots.uses,a.slots.used,a.slots.free,a.heap,a.where_,f,ds)
def ZN (c:aH) (f:List Pt) (i:Nat) (a:aG) (ds:List tN):=
 ((i:Int),c.now.1,c.now.2,c.field.points,c.certs.next_,c.certs.list,c.agenda.slots.uses,c.agenda.slots.used,c.agenda.slots.free,c.agenda.heap,c.agenda.where_,c.due,f,(0:Int),(0:Int),(0:Int),c.now.1,c.now.2,f,c.certs.next_,c.certs.list,a.slots.uses,a.slots.used,a.slots.free,a.heap,a.where_,ds)
include fok kn
theorem aBV {i k:Nat} {a:aG} {ds:List tN} (inv:MZ c f i k a ds) (hi:i<c.certs.list.length) (hds:ds.length<=i):
 (dL (ZM c f i a ds)=some (.done (.done (jP,18)))/\cM (ZN c f i a ds)=some (.done (jP,18)))\/
 ∃k' a' ds',dL (ZM c f i a ds)=some (.next (ZM c f (i+1) a' ds'))/\cM (ZN c f i a ds)=some (.next (ZN c f (i+1) a' ds'))/\MZ c f (i+1) k' a' ds'/\ds'.length<=i+1:=by
 have bd:=ok.bd;have e1:decide ((i:Int)<(c.certs.list.length:Int))=true:=aT (by omega)
 have sc:=bG (show i<1000000000 by omega)
 have cg:=aC c.certs.list i hi;have hb:=kn i hi;have wn:=yD fok (x:=(c.certs.list[i]!).2) (t:=(c.now.1,c.now.2)) (ok.crt.cv i hi) ok.nowv ok.now64;rw [if_pos hb] at wn;have wr:=yE fok (x:=(c.certs.list[i]!).2) (t:=(c.now.1,c.now.2)) ok.now64 hb;have pd:=IP ok.due_up (by omega) (c.certs.list[i]!).1
 have da:=TQ c (c.certs.list[i]!).1 (by omega)
 have dr:=rQ hi;have tk:=iX hi;have old:=inv.old;rw [dr] at old;have aeta:aG.mk (aR.mk a.slots.uses a.slots.used a.slots.free) a.heap a.where_=a:=rfl
 have ceta:(aH.mk (c.now.1,c.now.2) (Field.mk c.field.points) (aY.mk c.certs.next_ c.certs.list) (aG.mk (aR.mk c.agenda.slots.uses c.agenda.slots.used c.agenda.slots.free) c.agenda.heap c.agenda.where_) c.due)=c:=rfl;have other: ∀x∈c.certs.list.take i,x.1≠(c.certs.list[i]!).1:=fun x hx=>G1 ok hx hi
 have other': ∀x∈c.certs.list.drop (i+1),x.1≠(c.certs.list[i]!).1:=fun x hx=>A3 ok hx hi
 cases hwas:(bI c.field.points (c.certs.list[i]!).2 c.now).2 with
 |true=>
  obtain ⟨d,ds',hd1,hd2,hd3,hd4⟩:=(aX.cons_true hwas).1 old;have hk:k<c.due.length:=by
   refine Classical.byContradiction fun h=>?_
   rw [List.drop_eq_nil_of_le (by omega)] at hd1
   cases hd1
  have dk:=rQ hk;rw [dk] at hd1;injection hd1 with hd5 hd6;subst hd5 hd6;obtain ⟨w,hw,hev⟩:=aU.1 hd3;have hh:(a.heap[w]!).2.2.2=(c.due[k]!).2:=by rw [hev]
  have hnum:Ev.num a.heap[w]! =(c.certs.list[i]!).1:=by rw [hev]
  have before: ∀j,j<k->(c.due[j]!).1≠(c.certs.list[i]!).1:=fun j hj he=>by
   have:=sK.1 ok.due_up j k hj hk
   omega
  have pl:=pd.1 k hk hd2;have dq:=da.1 k hk hd2 before;have gk:=aC c.due k hk;have k0:decide ((0:Int)<=(k:Int))=true:=aT (by omega)
  have ap:bZ ds [c.due[k]!]=some (ds++[c.due[k]!]):=fF (by simp;omega)
  cases his:(bI f (c.certs.list[i]!).2 c.now).2 with
  |true=>
   right;have tt:bH (bI f (c.certs.list[i]!).2 c.now).1/\mH (bI f (c.certs.list[i]!).2 c.now).1:=GU (eA fok hb.2).1 (eA fok hb.1).1 ok.now64 ok.nowv his;obtain ⟨t1,t2⟩:=tt;have re:=JS inv.ok inv.ok.fit (t:=(bI f (c.certs.list[i]!).2 c.now).1) hw hh t1 t2;have rr:=IJ inv.ok (t:=(bI f (c.certs.list[i]!).2 c.now).1) hw hh t1 t2
   have rok:=aBP inv.ok hw t1 t2;have rmem:=ZK inv.ok hw t1;have rlen:=II inv.ok hw t1;have stay: ∀(cs:List tN),(∀x∈cs,x.1≠(c.certs.list[i]!).1)-> ∀x∈cs,∀e:Ev,e.num=x.1->e∈a.heap->e∈(kF a w (bI f (c.certs.list[i]!).2 c.now).1).heap:=by
    intro cs hcs x hx e he hm;refine (rmem e).2 (.inr ⟨hm,fun h=>hcs x hx ?_⟩)
    rw [<- he,h,hnum]
   refine ⟨k+1,kF a w (bI f (c.certs.list[i]!).2 c.now).1,ds++[c.due[k]!],?_,?_,⟨rok,by rw [rlen.2];exact inv.w2,?_,?_,by omega,?_⟩,by simp;omega⟩
   · unfold dL ZM
     simp only [e1,cond_true,cg,aB,wn,pl,his,gk,aeta,re,ap,show ((0:Int) !=0)=false from rfl,cond_false,sc]
   · unfold cM ZN
     simp only [aF,e1,cond_true,cg,aB,ceta,dq,wr,his,k0,gk,aeta,rr,ap,Bool.not_true,cond_false,sc]
   · rw [tk]
     exact ((inv.new.mono (stay _ other)).snoc (x:=c.certs.list[i]!)).2 _ his hd2 ((rmem _).2 (.inl (by
      show _=((bI f (c.certs.list[i]!).2 c.now).1.1,(bI f (c.certs.list[i]!).2 c.now).1.2,(a.heap[w]!).2.2);rw [hev])))
   · exact hd4.mono (stay _ other')
   · rw [rlen.1,inv.cnt,List.length_append]
     simp only [List.length_cons,List.length_nil];omega
  |false=>
   right;have rv:=rP inv.ok hw inv.ok.fit hh;have rr:=zD inv.ok hw hh;have rok:=IK inv.ok hw;have rmem:=MR inv.ok hw;have rlen:=aNC inv.ok hw;have stay: ∀(cs:List tN),(∀x∈cs,x.1≠(c.certs.list[i]!).1)-> ∀x∈cs,∀e:Ev,e.num=x.1->e∈a.heap->e∈(dU a w).heap:=by
    intro cs hcs x hx e he hm;refine (rmem e).2 ⟨hm,fun h=>hcs x hx ?_⟩
    rw [<- he,h,hnum]
   refine ⟨k+1,dU a w,ds,?_,?_,⟨rok,by rw [rlen.2];exact inv.w2,?_,hd4.mono (stay _ other'),by omega,?_⟩,by omega⟩
   · unfold dL ZM
     simp only [e1,cond_true,cg,aB,wn,pl,his,gk,aeta,rv,show ((0:Int) !=0)=false from rfl,cond_false,sc]
   · unfold cM ZN
     simp only [aF,e1,cond_true,cg,aB,ceta,dq,wr,his,k0,gk,aeta,rr,Bool.not_false,cond_false,sc]
   · rw [tk]
     exact ((inv.new.mono (stay _ other)).snoc (x:=c.certs.list[i]!)).1 his
   · have:=inv.cnt
     rw [rlen.1];omega
 |false=>
  have fol:=(aX.cons_false hwas).1 old;have no: ∀j,j<c.due.length->(c.due[j]!).1≠(c.certs.list[i]!).1:=by
   intro j hj he;obtain ⟨x,hx,h1,h2,_⟩:=ok.fol.due _ (bA hj)
   have:=ok.crt_up.inj hx (bA hi) (by rw [<- h1,he])
   rw [this,hwas] at h2;cases h2
  obtain ⟨m,pl⟩:=pd.2 no;have dq:=da.2 no;have k0:decide ((0:Int)<= -1)=false:=aM (by omega)
  cases his:(bI f (c.certs.list[i]!).2 c.now).2 with
  |true=>
   have tt:bH (bI f (c.certs.list[i]!).2 c.now).1/\mH (bI f (c.certs.list[i]!).2 c.now).1:=GU (eA fok hb.2).1 (eA fok hb.1).1 ok.now64 ok.nowv his;obtain ⟨t1,t2⟩:=tt;have n0:=(ok.crt.nr i hi).1;have n1:(c.certs.list[i]!).1<=1000000:=by have:=(ok.crt.nr i hi).2;have:=ok.crt.n1;omega
   have fresh:=ZL ok inv hi hwas
   by_cases op:yY a.slots
   · right
     have pu:=zA inv.ok op inv.ok.fit (t:=(bI f (c.certs.list[i]!).2 c.now).1) (n:=(c.certs.list[i]!).1) t1 t2 n0 n1 fresh;have rp:=BL inv.ok op (t:=(bI f (c.certs.list[i]!).2 c.now).1) (n:=(c.certs.list[i]!).1) t1 t2 n0 n1;have pok:=XZ inv.ok op (t:=(bI f (c.certs.list[i]!).2 c.now).1) (n:=(c.certs.list[i]!).1) t1 t2 n0 n1 fresh
     have pmem:=TH inv.ok op (t:=(bI f (c.certs.list[i]!).2 c.now).1) (n:=(c.certs.list[i]!).1) t1;have plen:=GZ inv.ok op (t:=(bI f (c.certs.list[i]!).2 c.now).1) (n:=(c.certs.list[i]!).1) t1;have ap: ∀h:Int×Int,bZ ds [((c.certs.list[i]!).1,h)]=some (ds++[((c.certs.list[i]!).1,h)]):=fun h=>fF (by simp;omega)
     have opn:=sI inv.ok.so;rw [aT op] at opn;refine ⟨k,lS a (bI f (c.certs.list[i]!).2 c.now).1 (c.certs.list[i]!).1,ds++[((c.certs.list[i]!).1,lQ a.slots)],?_,?_,⟨pok,by rw [aIa inv.ok pok];exact inv.w2,?_,?_,inv.kl,?_⟩,by simp;omega⟩
     · unfold dL ZM
       simp only [e1,cond_true,cg,aB,wn,pl,his,aeta,pu,ap,show ((0:Int) !=0)=false from rfl,cond_false,sc]
     · unfold cM ZN
       simp only [aF,e1,cond_true,cg,aB,ceta,dq,wr,his,k0,aeta,rp,ap,Bool.not_true,cond_false,sc,opn]
     · rw [tk]
       exact ((inv.new.mono fun x hx e he hm=>(pmem e).2 (.inr hm)).snoc (x:=c.certs.list[i]!)).2 _ his rfl ((pmem _).2 (.inl rfl))
     · exact fol.mono fun x hx e he hm=>(pmem e).2 (.inr hm)
     · have:=inv.cnt
       rw [plen,List.length_append];simp only [List.length_cons,List.length_nil];omega
   · left
     have pu:=zB inv.ok op inv.ok.fit (t:=(bI f (c.certs.list[i]!).2 c.now).1) (n:=(c.certs.list[i]!).1) t1 t2 n0 n1 fresh;have ap: ∀h:Int×Int,bZ ds [((c.certs.list[i]!).1,h)]=some (ds++[((c.certs.list[i]!).1,h)]):=fun h=>fF (by simp;omega)
     have opn:=sI inv.ok.so;rw [aM op] at opn;constructor
     · unfold dL ZM
       simp only [e1,cond_true,cg,aB,wn,pl,his,aeta,pu,ap,show ((18:Int) !=0)=true from rfl,cond_false]
     · unfold cM ZN
       simp only [aF,e1,cond_true,cg,aB,ceta,dq,wr,his,k0,aeta,Bool.not_true,Bool.not_false,cond_false,opn]
  |false=>
   right;refine ⟨k,a,ds,?_,?_,⟨inv.ok,inv.w2,?_,fol,inv.kl,inv.cnt⟩,by omega⟩
   · unfold dL ZM
     simp only [e1,cond_true,cg,aB,wn,pl,his,show ((0:Int) !=0)=false from rfl,cond_false,sc]
   · unfold cM ZN
     simp only [aF,e1,cond_true,cg,aB,ceta,dq,wr,his,k0,Bool.not_false,cond_false,sc]
   · rw [tk]
     exact (inv.new.snoc (x:=c.certs.list[i]!)).1 his
theorem aPA:
 (pA c ⟨f⟩=some (jP,18)/\oA c ⟨f⟩=some (jP,18))\/
 ∃c':aH,pA c ⟨f⟩=some (c',0)/\oA c ⟨f⟩=some (c',0)/\bB c'/\c'.field.points=f/\c'.now=c.now/\c'.certs=c.certs:=by
 have bd:=ok.bd;have f64:=fok.1;have run: ∀(d i k:Nat) (a:aG) (ds:List tN),c.certs.list.length-i<=d->i<=c.certs.list.length->MZ c f i k a ds->ds.length<=i->
  (aI dL (ZM c f i a ds)=some (.done (jP,18))/\aI cM (ZN c f i a ds)=some (jP,18))\/
  ∃c':aH,aI dL (ZM c f i a ds)=some (.done (c',0))/\aI cM (ZN c f i a ds)=some (c',0)/\bB c'/\c'.field.points=f/\c'.now=c.now/\c'.certs=c.certs:=by
  have fin: ∀(k:Nat) (a:aG) (ds:List tN),MZ c f c.certs.list.length k a ds-> ∃c':aH,aI dL (ZM c f c.certs.list.length a ds)=some (.done (c',0))/\aI cM (ZN c f c.certs.list.length a ds)=some (c',0)/\bB c'/\c'.field.points=f/\c'.now=c.now/\c'.certs=c.certs:=by
   intro k a ds inv;have e1:decide ((c.certs.list.length:Int)<(c.certs.list.length:Int))=false:=aM (by omega)
   have hk:c.due.length-k=0:=by
    have:=inv.old
    rw [List.drop_length] at this
    have:c.due.drop k=[]:=this
    rw [List.drop_eq_nil_iff] at this;omega
   have new:=inv.new;rw [List.take_length] at new;refine ⟨⟨c.now,⟨f⟩,c.certs,a,ds⟩,aK ?_,aK ?_,⟨ok.nowv,ok.now64,fok,ok.crt,inv.ok,inv.w2,?_,kn,new⟩,rfl,rfl,rfl⟩
   · unfold dL ZM
     simp only [e1,cond_false]
   · unfold cM ZN
     simp only [aF,e1,cond_false]
   · have:=inv.cnt
     show a.heap.length=ds.length;omega
  intro d
  induction d with
  |zero=>
   intro i k a ds hd hi inv hds
   have:i=c.certs.list.length:=by omega
   subst this;exact .inr (fin k a ds inv)
  |succ d ih=>
   intro i k a ds hd hi inv hds
   by_cases he:i=c.certs.list.length
   · subst he;exact .inr (fin k a ds inv)
   rcases aBV ok fok kn inv (by omega) hds with ⟨h1,h2⟩|⟨k',a',ds',h1,h2,h3,h4⟩
   · exact .inl ⟨aK h1,aK h2⟩
   · rw [aZ h1,aZ h2]
     exact ih (i+1) k' a' ds' (by omega) (by omega) h3 h4
 have start:=run c.certs.list.length 0 0 c.agenda [] (by omega) (by omega) ⟨ok.agd,ok.w200,rfl,by rw [List.drop_zero,List.drop_zero];exact ok.fol,by omega,by have:=ok.hd;simp;omega⟩ (by simp)
 have hc:iJ c=some 0:=by rw [nE ok.fit,if_pos ok]
 have hf:gN ⟨f⟩=some 0:=by rw [nB];exact congrArg some (jN.2 fok)
 have tw:=gJ ok;have tw':jV (aH.mk (c.now.1,c.now.2) (Field.mk c.field.points) (aY.mk c.certs.next_ c.certs.list) (aG.mk (aR.mk c.agenda.slots.uses c.agenda.slots.used c.agenda.slots.free) c.agenda.heap c.agenda.where_) c.due)=some c:=tw
 have first:aI kM (c.certs.list,(c.certs.list.length:Int),0,c.now.1,c.now.2,c.field.points,c.certs.next_,c.certs.list,c.agenda.slots.uses,c.agenda.slots.used,c.agenda.slots.free,c.agenda.heap,c.agenda.where_,c.due,f,0,0,0)=
  aI kM (c.certs.list,(c.certs.list.length:Int),(c.certs.list.length:Int),c.now.1,c.now.2,c.field.points,c.certs.next_,c.certs.list,c.agenda.slots.uses,c.agenda.slots.used,c.agenda.slots.free,c.agenda.heap,c.agenda.where_,c.due,f,0,0,0):=by
  refine lH (body:=kM) (fun i=>(c.certs.list,(c.certs.list.length:Int),(i:Int),c.now.1,c.now.2,c.field.points,c.certs.next_,c.certs.list,c.agenda.slots.uses,c.agenda.slots.used,c.agenda.slots.free,c.agenda.heap,c.agenda.where_,c.due,f,0,0,0)) c.certs.list.length (fun i hi=>?_)
  have e1:decide ((i:Int)<(c.certs.list.length:Int))=true:=aT (by omega)
  unfold kM;simp only [e1,cond_true,aC c.certs.list i hi,aB,nD fok,aM (QJ fok (kn i hi).1),aM (QJ fok (kn i hi).2),cond_false,bG (show i<1000000000 by omega)]
 have second: ∀r,aI dL (ZM c f 0 c.agenda [])=some (.done r)->pA c ⟨f⟩=some r:=by
  intro r hr;unfold pA;simp only [hc,aB,show ((0:Int) !=0)=false from rfl,cond_false,hf,aF];rw [first]
  refine aK ?_;unfold kM;have e1:decide ((c.certs.list.length:Int)<(c.certs.list.length:Int))=false:=aM (by omega)
  simp only [aF,e1,cond_false,tw',aB,bK (show f.length<=1048576 by omega)]
  exact hr
 have third: ∀r,aI cM (ZN c f 0 c.agenda [])=some r->oA c ⟨f⟩=some r:=by
  intro r hr;unfold oA AP;simp only [iL ok,aB,bK (show f.length<=1048576 by omega)]
  exact hr
 rcases start with ⟨h1,h2⟩|⟨c',h1,h2,h3⟩
 · exact .inl ⟨second _ h1,third _ h2⟩
 · exact .inr ⟨c',second _ h1,third _ h2,h3⟩
end
end Go.Proofs.YtfejhjllooomlaaGreat
namespace Go.Proofs.YtfejhjllooomlaaGreat
open Go.Vm Classical
theorem oD (l:List (Int×Int)) (x:Int×Int) (hl:l.length<=1000000):gO l x=some (decide (x∈l)):=by
 unfold gO pT;have key:=lI (body:=jJ) (fun i=>(l,(l.length:Int),(i:Int),x)) l.length (fun i=>l[i]! =x) (fun i=>(i:Int)) (e:= -1) (fun i hi=>by
  have e1:decide ((i:Int)<(l.length:Int))=true:=aT (by omega)
  unfold jJ;simp only [e1,cond_true,aC l i hi,aB,bG (show i<1000000000 by omega)]
  generalize l[i]! =y;constructor
  · intro h;rw [gG (congrArg Prod.fst h.symm),gG (congrArg Prod.snd h.symm)];rfl
  · intro h
    by_cases h1:x.1=y.1
    · rw [gG h1,gA (fun h2=>h (Prod.ext h1.symm h2.symm))];rfl
    · rw [gA h1];rfl) (by
  unfold jJ
  have:decide ((l.length:Int)<(l.length:Int))=false:=aM (by omega)
  simp only [this,cond_false])
 rw [aF]
 by_cases hx:x∈l
 · obtain ⟨i,hi,he⟩:=aU.1 hx
   obtain ⟨k,h1,h2,h3⟩:=I7 (c:=fun i=>l[i]! =x) ⟨i,hi,he⟩
   have:=key.1 k h1 h2 h3
   rw [show ((0:Nat):Int)=0 from rfl] at this;rw [this,aT hx];simp only [aB,aT (show (0:Int)<=(k:Int) by omega)]
 · have:=key.2 fun i hi he=>hx (aU.2 ⟨i,hi,he⟩)
   rw [show ((0:Nat):Int)=0 from rfl] at this;rw [this,aM hx];rfl
theorem JD (l:List (Int×Int)) (x:Int×Int) (hl:l.length<=1000000):L3 l x=some (decide (x∈l)):=by
 unfold L3;have key:=dN (body:=xB) (fun i=>(l,(i:Int),x)) l.length (fun i=>l[i]! =x) (r:=true) (e:=false) (fun i hi=>by
  have e1:decide ((i:Int)<(l.length:Int))=true:=aT (by omega)
  unfold xB;simp only [aF,e1,cond_true,aC l i hi,aB,bG (show i<1000000000 by omega)]
  generalize l[i]! =y;constructor
  · intro h;rw [gG (congrArg Prod.fst h),gG (congrArg Prod.snd h)];rfl
  · intro h
    by_cases h1:y.1=x.1
    · rw [gG h1,gA (fun h2=>h (Prod.ext h1 h2))];rfl
    · rw [gA h1];rfl) (by
  unfold xB
  have:decide ((l.length:Int)<(l.length:Int))=false:=aM (by omega)
  simp only [aF,this,cond_false])
 by_cases hx:x∈l
 · rw [aT hx];exact key.1 (aU.1 hx)
 · rw [aM hx];exact key.2 fun i hi he=>hx (aU.2 ⟨i,hi,he⟩)
theorem aBW (x y:tN):((x.1==y.1)&&((x.2.1==y.2.1)&&(x.2.2==y.2.2)))=decide (x=y):=by
 rw [Bool.eq_iff_iff,decide_eq_true_iff];simp only [Bool.and_eq_true,beq_iff_eq];constructor
 · rintro ⟨h1,h2,h3⟩;exact Prod.ext h1 (Prod.ext h2 h3)
 · rintro rfl;exact ⟨rfl,rfl,rfl⟩
theorem C6 (a b:List tN) (hl:a.length<=1000000):oP ⟨a⟩ ⟨b⟩=some (decide (a=b)):=by
 unfold oP;simp only [aF]
 by_cases h:a.length=b.length
 case neg=>rw [eU (by omega),aM (fun k=>h (by rw [k]))];rfl
 rw [cY (by omega)]
 simp only [cond_false];have key:=dN (body:=sG) (fun i=>((i:Int),a,b)) a.length (fun i=> ¬a[i]! =b[i]!) (r:=false) (e:=true) (fun i hi=>by
  have e1:decide ((i:Int)<(a.length:Int))=true:=aT (by omega)
  unfold sG;simp only [aF,e1,cond_true,aC a i hi,aC b i (by omega),aB,bG (show i<1000000000 by omega),aBW]
  constructor
  · intro h;rw [aM h];rfl
  · intro h;rw [aT (Classical.not_not.1 h)];rfl) (by
  unfold sG
  have:decide ((a.length:Int)<(a.length:Int))=false:=aM (by omega)
  simp only [aF,this,cond_false])
 by_cases he:a=b
 · rw [aT he]
   exact key.2 fun i hi=>Classical.not_not.2 (by rw [he])
 · rw [aM he]
   refine key.1 (Classical.byContradiction fun hx=>he (GQ h fun i hi=>?_))
   exact Classical.byContradiction fun hn=>hx ⟨i,hi,hn⟩
theorem A4 (a b:List tN) (hl:a.length<=1000000):lN a b=some (decide (a=b)):=by
 unfold lN;simp only [aF]
 by_cases h:a.length=b.length
 case neg=>rw [eU (by omega),aM (fun k=>h (by rw [k]))];rfl
 rw [cY (by omega)]
 simp only [cond_false];have key:=dN (body:=jA) (fun i=>(a,b,(a.length:Int),(i:Int))) a.length (fun i=> ¬a[i]! =b[i]!) (r:=false) (e:=true) (fun i hi=>by
  have e1:decide ((i:Int)<(a.length:Int))=true:=aT (by omega)
  unfold jA;simp only [e1,cond_true,aC a i hi,aC b i (by omega),aB,bG (show i<1000000000 by omega),aBW]
  constructor
  · intro h;rw [aM h];rfl
  · intro h;rw [aT (Classical.not_not.1 h)];rfl) (by
  unfold jA
  have:decide ((a.length:Int)<(a.length:Int))=false:=aM (by omega)
  simp only [this,cond_false])
 by_cases he:a=b
 · rw [aT he]
   exact key.2 fun i hi=>Classical.not_not.2 (by rw [he])
 · rw [aM he]
   refine key.1 (Classical.byContradiction fun hx=>he (GQ h fun i hi=>?_))
   exact Classical.byContradiction fun hn=>hx ⟨i,hi,hn⟩
theorem OQ {cs:List tN} {m:Nat} {x:tN} (hx:x∈cs) (hne:x.1≠(cs[m]!).1):x∈cs.eraseIdx m:=by
 obtain ⟨j,hj,rfl⟩:=aU.1 hx;have hjm:j≠m:=fun h=>hne (by rw [h])
 rw [vY,List.mem_append]
 by_cases h:j<m
 · exact .inl (dD.2 ⟨j,h,hj,rfl⟩)
 · right
   rw [aU];refine ⟨j- (m+1),by rw [List.length_drop];omega,?_⟩
   rw [vB]
   congr 1;omega
def kP (c0:aH) (f:List Pt) (es:List (Int×Int)) (i:Nat) (c:aH):=
 (es,c0.certs.list,(c0.certs.list.length:Int),(i:Int),c.now.1,c.now.2,c.field.points,c.certs.next_,c.certs.list,c.agenda.slots.uses,c.agenda.slots.used,c.agenda.slots.free,c.agenda.heap,c.agenda.where_,c.due,f,(0:Int),(0:Int),(0:Int))
def kR (c0:aH) (f:List Pt) (es:List (Int×Int)) (i:Nat) (c:aH):=
 (es,(i:Int),c0.now.1,c0.now.2,c0.field.points,c0.certs.next_,c0.certs.list,c0.agenda.slots.uses,c0.agenda.slots.used,c0.agenda.slots.free,c0.agenda.heap,c0.agenda.where_,c0.due,f,(0:Int),(0:Int),(0:Int),c.now.1,c.now.2,c.field.points,c.certs.next_,c.certs.list,c.agenda.slots.uses,c.agenda.slots.used,c.agenda.slots.free,c.agenda.heap,c.agenda.where_,c.due)
def eP (es:List (Int×Int)) (i:Nat) (c:aH):=
 (es,(es.length:Int),(i:Int),c.now.1,c.now.2,c.field.points,c.certs.next_,c.certs.list,c.agenda.slots.uses,c.agenda.slots.used,c.agenda.slots.free,c.agenda.heap,c.agenda.where_,c.due,(0:Int),(0:Int),(0:Int))
def eR (es:List (Int×Int)) (i:Nat) (c:aH):=
 (es,(i:Int),(0:Int),(0:Int),(0:Int),c.now.1,c.now.2,c.field.points,c.certs.next_,c.certs.list,c.agenda.slots.uses,c.agenda.slots.used,c.agenda.slots.free,c.agenda.heap,c.agenda.where_,c.due)
def G2 (c:aH):Int:=c.certs.next_- (c.certs.list.length:Int)
structure JE (c:aH) (f:List Pt) (es:List (Int×Int)) (r:aH):Prop where
 has: ∀e∈es,uW r.certs.list e
 sub: ∀x∈r.certs.list,x.2∈es
 ok:bB r
 fld:r.field.points=f
 now:r.now=c.now
 room:G2 c<=G2 r
def JF (c:aH) (k:Nat):Prop:=c.certs.list.length<=k/\c.certs.next_<=k/\ ∀j,j<c.agenda.slots.uses.length->c.agenda.slots.uses[j]!<=k
theorem aX.len {l:List Pt} {t:Int×Int} {H:List Ev}: ∀{cs ds:List tN},aX l t H cs ds->ds.length<=cs.length
 | [],ds,h=>by rw [show ds=[] from h];exact Nat.le_refl _
 |x::cs,ds,h=>by
  cases hy:(bI l x.2 t).2 with
  |true=>
   obtain ⟨d,ds',rfl,_,_,h4⟩:=h.1 hy;exact Nat.succ_le_succ h4.len
  |false=>exact Nat.le_succ_of_le (h.2 hy).len
theorem JF.not_full {c:aH} (ok:bB c) {k:Nat} (h:JF c k) (hk:k<=199): ¬(EN c.certs\/ ¬yY c.agenda.slots):=by
 obtain ⟨h1,h2,h3⟩:=h;have fl:=ok.fol.len;have hd:=ok.hd;have hl:=ok.agd.hl;have wl:=ok.agd.wl;have w2:=ok.w200;rintro (h|h)
 · rcases h with h|h<;>omega
 · refine h ⟨by omega,?_⟩
   have:=h3 _ (AV ok.agd.so (by omega)).1
   omega
theorem JF.more {c c':aH} {k:Nat} (h:JF c k) {x:Int×Int} (hc:c'.certs=oK c.certs x) (hs:c'.agenda.slots=c.agenda.slots\/c'.agenda.slots=gF c.agenda.slots):JF c' (k+1):=by
 obtain ⟨h1,h2,h3⟩:=h;refine ⟨?_,?_,fun j hj=>?_⟩
 · rw [hc]
   show (c.certs.list++[(c.certs.next_,x)]).length<=_;rw [List.length_append,List.length_singleton];omega
 · rw [hc]
   show c.certs.next_+1<=_;omega
 · rcases hs with e|e
   · rw [e] at hj ⊢
     have:=h3 j hj;omega
   · rw [e] at hj ⊢
     change j<(c.agenda.slots.uses.set _ _).length at hj;rw [List.length_set] at hj;show (c.agenda.slots.uses.set (cT c.agenda.slots) (c.agenda.slots.uses[cT c.agenda.slots]!+1))[j]!<=_;rw [bF];split
     · rename_i h;have:=h3 _ h.2;omega
     · have:=h3 j hj;omega
structure uX (f:List Pt) (es:List (Int×Int)):Prop where
 len:es.length<=1000000
 cv: ∀x∈es,jO x
 kn: ∀x∈es,lX f x
theorem aBX {c0:aH} (ok0:bB c0) {f:List Pt} {es:List (Int×Int)} (eok:uX f es):
 ∀(d i:Nat) (c:aH),c0.certs.list.length-i<=d->i<=c0.certs.list.length->bB c->(∀x∈c0.certs.list.drop i,x∈c.certs.list)->(∀x∈c.certs.list,x∈c0.certs.list.drop i\/x.2∈es)->
  ∃c':aH,aI bP (kP c0 f es i c)=aI bP (kP c0 f es c0.certs.list.length c')/\aI cN (kR c0 f es i c)=aI cN (kR c0 f es c0.certs.list.length c')/\bB c'/\(∀x∈c'.certs.list,x.2∈es)/\c'.field=c.field/\c'.now=c.now/\G2 c<=G2 c':=by
 have bd:=ok0.bd;intro d
 induction d with
 |zero=>
  intro i c hd hi ok h1 h2
  have:i=c0.certs.list.length:=by omega
  subst this;refine ⟨c,rfl,rfl,ok,fun x hx=>?_,rfl,rfl,Int.le_refl _⟩
  rcases h2 x hx with h|h
  · rw [List.drop_length] at h;cases h
  · exact h
 |succ d ih=>
  intro i c hd hi ok h1 h2
  by_cases he:i=c0.certs.list.length
  · subst he
    refine ⟨c,rfl,rfl,ok,fun x hx=>?_,rfl,rfl,Int.le_refl _⟩
    rcases h2 x hx with h|h
    · rw [List.drop_length] at h;cases h
    · exact h
  have hi':i<c0.certs.list.length:=by omega
  have e1:decide ((i:Int)<(c0.certs.list.length:Int))=true:=aT (by omega)
  have sc:=bG (show i<1000000000 by omega)
  have cg:=aC c0.certs.list i hi';have dr:=rQ hi';have ceta:(aH.mk (c.now.1,c.now.2) (Field.mk c.field.points) (aY.mk c.certs.next_ c.certs.list) (aG.mk (aR.mk c.agenda.slots.uses c.agenda.slots.used c.agenda.slots.free) c.agenda.heap c.agenda.where_) c.due)=c:=rfl
  by_cases hin:(c0.certs.list[i]!).2∈es
  · have s1:bP (kP c0 f es i c)=some (.next (kP c0 f es (i+1) c)):=by
     unfold bP kP;simp only [e1,cond_true,cg,aB,oD _ _ eok.len,aT hin,Bool.not_true,cond_false,sc]
    have s2:cN (kR c0 f es i c)=some (.next (kR c0 f es (i+1) c)):=by
     unfold cN kR;simp only [aF,e1,cond_true,cg,aB,JD _ _ eok.len,aT hin,Bool.not_true,cond_false,sc]
    rw [aZ s1,aZ s2];refine ih (i+1) c (by omega) (by omega) ok (fun x hx=>h1 x (by rw [dr];exact List.mem_cons_of_mem _ hx)) (fun x hx=>?_)
    rcases h2 x hx with h|h
    · rw [dr] at h
      rcases List.mem_cons.1 h with rfl|h
      · exact .inr hin
      · exact .inl h
    · exact .inr h
  · have hm:=h1 (c0.certs.list[i]!) (by rw [dr];exact List.mem_cons_self)
    obtain ⟨m,hm1,hm2⟩:=aU.1 hm;obtain ⟨c',r1,r2,r3,r4,r5,r6⟩:=VW ok hm1;have rt:=BM ok hm1 r1;rw [hm2] at r2 rt;have s1:bP (kP c0 f es i c)=some (.next (kP c0 f es (i+1) c')):=by
     unfold bP kP;simp only [e1,cond_true,cg,aB,oD _ _ eok.len,aM hin,Bool.not_false,sc,ceta,rt]
    have s2:cN (kR c0 f es i c)=some (.next (kR c0 f es (i+1) c')):=by
     unfold cN kR;simp only [aF,e1,cond_true,cg,aB,JD _ _ eok.len,aM hin,Bool.not_false,sc,ceta,r2]
    rw [aZ s1,aZ s2];have cl:c'.certs.list=c.certs.list.eraseIdx m:=by rw [r6];rfl
    have hroom:G2 c<=G2 c':=by
     unfold G2;rw [r6];show _<=c.certs.next_- (((c.certs.list.eraseIdx m).length:Nat):Int);rw [List.length_eraseIdx_of_lt hm1];omega
    have hs:(∀x∈c0.certs.list.drop (i+1),x∈c'.certs.list)/\(∀x∈c'.certs.list,x∈c0.certs.list.drop (i+1)\/x.2∈es):=by
     refine ⟨fun x hx=>?_,fun x hx=>?_⟩
     · rw [cl]
       refine OQ (h1 x (by rw [dr];exact List.mem_cons_of_mem _ hx)) ?_
       rw [hm2];exact A3 ok0 hx hi'
     · rw [cl] at hx
       obtain ⟨a1,a2⟩:=qI ok.crt_up hm1 hx;rw [hm2] at a2;rcases h2 x a1 with h|h
       · rw [dr] at h
         rcases List.mem_cons.1 h with rfl|h
         · exact absurd rfl a2
         · exact .inl h
       · exact .inr h
    obtain ⟨d',q1,q2,q3,q4,q5,q6,q7⟩:=ih (i+1) c' (by omega) (by omega) r3 hs.1 hs.2
    exact ⟨d',q1,q2,q3,q4,q5.trans r4,q6.trans r5,by omega⟩
theorem M0 {f:List Pt} (_fok:dH f) {es:List (Int×Int)} (eok:uX f es):
 ∀(d i:Nat) (c:aH),es.length-i<=d->i<=es.length->bB c->c.field.points=f->(∀x∈c.certs.list,x.2∈es)->(∀j,j<i->uW c.certs.list es[j]!)->
  ∃r:aH×Int,aI cD (eP es i c)=some (.done r)/\aI dX (eR es i c)=some (.done r)/\(r.2=0/\JE c f es r.1\/r=(jP,18))/\(∀k,JF c k->k+(es.length-i)<=199->r.2=0):=by
 have el:=eok.len;have fin: ∀c:aH,bB c->c.field.points=f->(∀x∈c.certs.list,x.2∈es)->(∀j,j<es.length->uW c.certs.list es[j]!)-> ∃r:aH×Int,aI cD (eP es es.length c)=some (.done r)/\aI dX (eR es es.length c)=some (.done r)/\(r.2=0/\JE c f es r.1\/r=(jP,18))/\r.2=0:=by
  intro c ok hf hs hh;have e1:decide ((es.length:Int)<(es.length:Int))=false:=aM (by omega)
  refine ⟨(c,0),aK ?_,aK ?_,.inl ⟨rfl,fun e he=>by obtain ⟨j,hj,q⟩:=aU.1 he;rw [<- q];exact hh j hj,hs,ok,hf,rfl,Int.le_refl _⟩,rfl⟩
  · unfold cD eP
    simp only [e1,cond_false]
  · unfold dX eR
    simp only [aF,e1,cond_false]
 intro d
 induction d with
 |zero=>
  intro i c hd hi ok hf hs hh
  have:i=es.length:=by omega
  subst this;obtain ⟨r,q1,q2,q3,q4⟩:=fin c ok hf hs hh;exact ⟨r,q1,q2,q3,fun _ _ _=>q4⟩
 |succ d ih=>
  intro i c hd hi ok hf hs hh
  by_cases he:i=es.length
  · subst he
    obtain ⟨r,q1,q2,q3,q4⟩:=fin c ok hf hs hh;exact ⟨r,q1,q2,q3,fun _ _ _=>q4⟩
  have bd:=ok.bd;have hi':i<es.length:=by omega
  have e1:decide ((i:Int)<(es.length:Int))=true:=aT (by omega)
  have sc:=bG (show i<1000000000 by omega)
  have cg:=aC es i hi';have ceta:(aH.mk (c.now.1,c.now.2) (Field.mk c.field.points) (aY.mk c.certs.next_ c.certs.list) (aG.mk (aR.mk c.agenda.slots.uses c.agenda.slots.used c.agenda.slots.free) c.agenda.heap c.agenda.where_) c.due)=c:=rfl;have ceta2:aY.mk c.certs.next_ c.certs.list=c.certs:=rfl;have hc:=MW c.certs.list es[i]! (by omega)
  have hr:=A0 c.certs es[i]! (by omega)
  by_cases hin:uW c.certs.list es[i]!
  · have s1:cD (eP es i c)=some (.next (eP es (i+1) c)):=by
     unfold cD eP;simp only [e1,cond_true,cg,aB,zE,hc,aT hin,sc]
    have s2:dX (eR es i c)=some (.next (eR es (i+1) c)):=by
     unfold dX eR;simp only [aF,e1,cond_true,cg,aB,ceta2,hr,aT hin,sc]
    rw [aZ s1,aZ s2];obtain ⟨r,q1,q2,q3,q4⟩:=ih (i+1) c (by omega) (by omega) ok hf hs (fun j hj=>if q:j=i then by rw [q];exact hin else hh j (by omega))
    exact ⟨r,q1,q2,q3,fun k hk hl=>q4 k hk (by omega)⟩
  · have hb:lX c.field.points es[i]!:=by rw [hf];exact eok.kn _ (bA hi')
    rcases X2 ok (eok.cv _ (bA hi')) hb hin with ⟨r1,r2,full⟩|⟨c',r1,r2,r3,r4,r5,r6,r7⟩
    · refine ⟨(jP,18),aK ?_,aK ?_,.inr rfl,fun k hk hl=>absurd full (hk.not_full ok (by omega))⟩
      · unfold cD eP
        simp only [e1,cond_true,cg,aB,zE,hc,aM hin,cond_false,ceta,r1,show ((18:Int) !=0)=true from rfl]
      · unfold dX eR
        simp only [aF,e1,cond_true,cg,aB,ceta2,hr,aM hin,cond_false,ceta,r2,show ((18:Int) !=0)=true from rfl]
    · have s1:cD (eP es i c)=some (.next (eP es (i+1) c')):=by
       unfold cD eP;simp only [e1,cond_true,cg,aB,zE,hc,aM hin,cond_false,ceta,r1,show ((0:Int) !=0)=false from rfl,sc]
      have s2:dX (eR es i c)=some (.next (eR es (i+1) c')):=by
       unfold dX eR;simp only [aF,e1,cond_true,cg,aB,ceta2,hr,aM hin,cond_false,ceta,r2,show ((0:Int) !=0)=false from rfl,sc]
      rw [aZ s1,aZ s2];obtain ⟨r,q1,q2,q3,q6⟩:=ih (i+1) c' (by omega) (by omega) r3 (by rw [r4,hf]) (fun x hx=>by
       rw [r6] at hx;rcases List.mem_append.1 (show x∈c.certs.list++[(c.certs.next_,es[i]!)] from hx) with h|h
       · exact hs x h
       · rw [List.mem_singleton.1 h];exact bA hi') (fun j hj=>by
       rw [r6];show uW (c.certs.list++[(c.certs.next_,es[i]!)]) _
       by_cases q:j=i
       · rw [q];exact ⟨c.certs.list.length,by rw [List.length_append,List.length_singleton];omega,by rw [kU (Nat.le_refl _),Nat.sub_self];rfl⟩
       · obtain ⟨w,w1,w2⟩:=hh j (by omega)
         exact ⟨w,by rw [List.length_append];omega,by rw [gI w1];exact w2⟩)
      refine ⟨r,q1,q2,q3.imp (fun ⟨q4,q5⟩=>⟨q4,q5.has,q5.sub,q5.ok,q5.fld,q5.now.trans r5,Int.le_trans ?_ q5.room⟩) id,fun k hk hl=>q6 (k+1) (hk.more r6 r7) (by omega)⟩
      unfold G2;rw [r6];show _<=(c.certs.next_+1) - (((c.certs.list++[(c.certs.next_,es[i]!)]).length:Nat):Int);rw [List.length_append,List.length_singleton];omega
theorem aIb {c:aH} (ok:bB c) {f:List Pt} (fok:dH f) {es:List (Int×Int)} (eok:uX f es):
 ∃r:aH×Int,gQ c ⟨f⟩ es=some r/\mF c ⟨f⟩ es=some r/\(r.2=0/\JE c f es r.1\/r=(jP,18)):=by
 have f64:=fok.1;obtain ⟨c',g1,g2,g3,g4,g5,g6,g7⟩:=aBX ok eok c.certs.list.length 0 c (by omega) (by omega) ok (fun x hx=>by rwa [List.drop_zero] at hx) (fun x hx=> .inl (by rwa [List.drop_zero]))
 have bd:=g3.bd;have e1:decide ((c.certs.list.length:Int)<(c.certs.list.length:Int))=false:=aM (by omega)
 have start1:gQ c ⟨f⟩ es=aI bP (kP c f es 0 c):=rfl;have start2:mF c ⟨f⟩ es=aI cN (kR c f es 0 c):=by
  unfold mF;simp only [iL ok,aB];rfl
 rw [start1,start2,g1,g2];have eq1:=A4 c'.field.points f (by omega)
 have eq2:=C6 c'.field.points f (by omega)
 have ceta:(aH.mk (c'.now.1,c'.now.2) (Field.mk c'.field.points) (aY.mk c'.certs.next_ c'.certs.list) (aG.mk (aR.mk c'.agenda.slots.uses c'.agenda.slots.used c'.agenda.slots.free) c'.agenda.heap c'.agenda.where_) c'.due)=c':=rfl
 by_cases hf:c'.field.points=f
 · obtain ⟨r,i1,i2,i3,_⟩:=M0 fok eok es.length 0 c' (by omega) (by omega) g3 hf g4 (fun j hj=>absurd hj (Nat.not_lt_zero j))
   refine ⟨r,aK ?_,aK ?_,i3.imp (fun ⟨q4,q5⟩=>⟨q4,q5.has,q5.sub,q5.ok,q5.fld,q5.now.trans g6,Int.le_trans g7 q5.room⟩) id⟩
   · unfold bP kP
     simp only [e1,cond_false,eq1,aT hf,aB,Bool.not_true];exact i1
   · unfold cN kR
     simp only [aF,e1,cond_false,eq2,aT hf,aB,Bool.not_true];exact i2
 · have kn: ∀i,i<c'.certs.list.length->lX f (c'.certs.list[i]!).2:=fun i hi=>eok.kn _ (g4 _ (bA hi))
   rcases aPA g3 fok kn with ⟨a1,a2⟩|⟨c2,a1,a2,a3,a4,a5,a6⟩
   · refine ⟨(jP,18),aK ?_,aK ?_,.inr rfl⟩
     · unfold bP kP
       simp only [e1,cond_false,eq1,aM hf,aB,Bool.not_false,cond_true,ceta,a1,show ((18:Int) !=0)=true from rfl]
     · unfold cN kR
       simp only [aF,e1,cond_false,eq2,aM hf,aB,Bool.not_false,cond_true,ceta,a2,show ((18:Int) !=0)=true from rfl]
   · obtain ⟨r,i1,i2,i3,_⟩:=M0 fok eok es.length 0 c2 (by omega) (by omega) a3 a4 (by rw [a6];exact g4) (fun j hj=>absurd hj (Nat.not_lt_zero j))
     refine ⟨r,aK ?_,aK ?_,i3.imp (fun ⟨q4,q5⟩=>⟨q4,q5.has,q5.sub,q5.ok,q5.fld,(q5.now.trans a5).trans g6,Int.le_trans (Int.le_trans g7 (by unfold G2;rw [a6];exact Int.le_refl _)) q5.room⟩) id⟩
     · unfold bP kP
       simp only [e1,cond_false,eq1,aM hf,aB,Bool.not_false,cond_true,ceta,a1,show ((0:Int) !=0)=false from rfl];exact i1
     · unfold cN kR
       simp only [aF,e1,cond_false,eq2,aM hf,aB,Bool.not_false,cond_true,ceta,a2,show ((0:Int) !=0)=false from rfl];exact i2
theorem TR {c:aH} (ok:bB c) (h0:c.certs.list=[]) {es:List (Int×Int)} (eok:uX c.field.points es) (hr:JF c 0) (hl:es.length<=199):
 ∃r:aH,gQ c c.field es=some (r,0)/\mF c c.field es=some (r,0)/\JE c c.field.points es r:=by
 have bd:=ok.bd;have l0:c.certs.list.length=0:=by rw [h0];rfl
 have e1:decide (((0:Nat):Int)<(c.certs.list.length:Int))=false:=aM (by omega)
 have start1:gQ c c.field es=aI bP (kP c c.field.points es 0 c):=rfl;have start2:mF c c.field es=aI cN (kR c c.field.points es 0 c):=by
  unfold mF;simp only [iL ok,aB];rfl
 obtain ⟨r,i1,i2,i3,i4⟩:=M0 ok.fld eok es.length 0 c (by omega) (by omega) ok rfl (fun x hx=>by rw [h0] at hx;cases hx) (fun j hj=>absurd hj (Nat.not_lt_zero j))
 have r0:=i4 0 hr (by omega)
 have e:r=(r.1,0):=by rw [<- r0]
 rw [e] at i1 i2;refine ⟨r.1,?_,?_,?_⟩
 · rw [start1]
   refine aK ?_;unfold bP kP;simp only [e1,cond_false,A4 c.field.points c.field.points (by omega),aB,Bool.not_true]
   exact i1
 · rw [start2]
   refine aK ?_;unfold cN kR;simp only [aF,e1,cond_false,C6 c.field.points c.field.points (by omega),aB,Bool.not_true]
   exact i2
 · rcases i3 with ⟨_,h⟩|h
   · exact h
   · rw [h] at r0;cases r0
end Go.Proofs.YtfejhjllooomlaaGreat
namespace Go.Proofs.YtfejhjllooomlaaGreat
open Go.Vm Classical
theorem M1 {σ ρ:Type} {body:σ->Option (cJ σ ρ)} (st:Nat->σ) (n:Nat) (P:Nat->Prop) {r e:ρ} (h: ∀i,i<n->(¬P i->body (st i)=some (.done r))/\(P i->body (st i)=some (.next (st (i+1)))))
 (hend:body (st n)=some (.done e)):aI body (st 0)=some (if∀i,i<n->P i then e else r):=by
 have key:=dN (body:=body) st n (fun i=> ¬P i) (r:=r) (e:=e) (fun i hi=>⟨(h i hi).1,fun hn=>(h i hi).2 (Classical.not_not.1 hn)⟩) hend
 by_cases hx: ∀i,i<n->P i
 · rw [if_pos hx];exact key.2 fun i hi=>Classical.not_not.2 (hx i hi)
 · rw [if_neg hx]
   obtain ⟨i,h⟩:=Classical.not_forall.1 hx;obtain ⟨hi,hx⟩:=Classical.not_imp.1 h;exact key.1 ⟨i,hi,hx⟩
structure aPB (c:aH):Prop where
 now:mH c.now
 at64: ∀w,w<c.agenda.heap.length->mH ((c.agenda.heap[w]!).1,(c.agenda.heap[w]!).2.1)
end Go.Proofs.YtfejhjllooomlaaGreat
namespace Go.Proofs.YtfejhjllooomlaaGreat
open Go.Vm Classical
theorem X3 {a b:Int×Int} (ha:bH a) (hb:bH b) (h:a.1*b.2=b.1*a.2):a=b:=by
 obtain ⟨a1,_,a3⟩:=ha;obtain ⟨b1,_,b3⟩:=hb;have hn:a.1.natAbs*b.2.natAbs=b.1.natAbs*a.2.natAbs:=by rw [<- Int.natAbs_mul,<- Int.natAbs_mul,h]
 have d1:b.2.natAbs ∣ a.2.natAbs:=by
  have:b.2.natAbs ∣ b.1.natAbs*a.2.natAbs:=by rw [<- hn];exact Nat.dvd_mul_left _ _
  exact (Nat.Coprime.dvd_of_dvd_mul_left b3 this)
 have d2:a.2.natAbs ∣ b.2.natAbs:=by
  have:a.2.natAbs ∣ a.1.natAbs*b.2.natAbs:=by rw [hn];exact Nat.dvd_mul_left _ _
  exact (Nat.Coprime.dvd_of_dvd_mul_left a3 this)
 have e:a.2.natAbs=b.2.natAbs:=Nat.dvd_antisymm d2 d1;have e2:a.2=b.2:=by omega
 have e1:a.1=b.1:=by
  rw [e2] at h;exact Int.eq_of_mul_eq_mul_right (by omega) h
 exact Prod.ext e1 e2
theorem D0 (p q:Pt) (t:Int×Int):L7 p q t=(p.2.1-q.2.1)*t.2+(p.2.2-q.2.2)*t.1:=rfl
theorem JG {l h:Pt} {t t':Int×Int} (d:1<=t.2) (d':1<=t'.2) (le:t.1*t'.2<=t'.1*t.2) (hB: ¬h.2.2<l.2.2) (hn: ¬bQ l h t): ¬bQ l h t':=by
 unfold bQ at*;rw [D0] at*;generalize l.2.1-h.2.1=A at*;have hs:l.2.2-h.2.2<=0:=by omega
 intro hl;have key:(A*t'.2+(l.2.2-h.2.2)*t'.1)*t.2<=(A*t.2+(l.2.2-h.2.2)*t.1)*t'.2:=by
  have h1:(l.2.2-h.2.2)*(t'.1*t.2)<=(l.2.2-h.2.2)*(t.1*t'.2):=Int.mul_le_mul_of_nonpos_left hs le;have e1:(A*t'.2+(l.2.2-h.2.2)*t'.1)*t.2=A*t'.2*t.2+(l.2.2-h.2.2)*(t'.1*t.2):=by rw [Int.add_mul,Int.mul_assoc (l.2.2-h.2.2)]
  have e2:(A*t.2+(l.2.2-h.2.2)*t.1)*t'.2=A*t'.2*t.2+(l.2.2-h.2.2)*(t.1*t'.2):=by
   rw [Int.add_mul,Int.mul_assoc (l.2.2-h.2.2),Int.mul_assoc A,Int.mul_assoc A,Int.mul_comm t.2]
  omega
 rcases hl with hl|⟨hl,h2|⟨h2,h3⟩⟩
 · refine hn (.inl ?_)
   have:0<(A*t'.2+(l.2.2-h.2.2)*t'.1)*t.2:=Int.mul_pos hl (by omega)
   have k:0<(A*t.2+(l.2.2-h.2.2)*t.1)*t'.2:=by omega
   exact Int.pos_of_mul_pos_left k (by omega)
 · omega
 · have z:l.2.2-h.2.2=0:=by omega
   rw [z] at hl hn
   have:A=0:=by
    have:A*t'.2=0:=by omega
    rcases Int.mul_eq_zero.1 this with h|h
    · exact h
    · omega
   subst this;exact hn (.inr ⟨by omega,.inr ⟨h2,h3⟩⟩)
theorem FJ {h l:Pt} {t t':Int×Int} (hh:fX h) (hl:fX l) (r:bH t) (r':bH t') (le:t.1*t'.2<=t'.1*t.2) (up:(jY h l t).2=true->t'.1*(jY h l t).1.2<=(jY h l t).1.1*t'.2):
 jY h l t'=jY h l t:=by
 unfold jY at*
 by_cases h1:bQ l h t
 · rw [if_pos h1] at up ⊢
   have e:t=t':=X3 r r' (by have:=up rfl;dsimp only at this;omega)
   subst e;rw [if_pos h1]
 · rw [if_neg h1] at up ⊢
   by_cases h2:h.2.2<l.2.2
   · rw [if_pos h2] at up ⊢
     obtain ⟨_,m1,m2,m3⟩:=IG hh hl (show h.2.2≠l.2.2 by omega)
     have up:=up rfl;dsimp only at up
     by_cases h3:bQ l h t'
     · rw [if_pos h3]
       have:t'=VJ h l:=by
        refine X3 r' m1 ?_;have g:0<=L7 l h t':=by rcases h3 with k|k<;>omega
        rw [D0] at g;generalize VJ h l=m at*;have d:=m1.1;have hB:0<l.2.2-h.2.2:=by omega
        generalize l.2.2-h.2.2=B at*;generalize hA:h.2.1-l.2.1=A at*;have g2:A*t'.2<=B*t'.1:=by
         have:(l.2.1-h.2.1)*t'.2= -(A*t'.2):=by rw [<- Int.neg_mul];congr 1;omega
         omega
        have g3:m.1*t'.2*B<=t'.1*m.2*B:=by
         have e1:m.1*t'.2*B=A*t'.2*m.2:=by
          rw [Int.mul_right_comm,m3,Int.mul_right_comm]
         have e2:t'.1*m.2*B=B*t'.1*m.2:=by
          rw [Int.mul_right_comm,Int.mul_comm t'.1 B]
         rw [e1,e2];exact Int.mul_le_mul_of_nonneg_right g2 (by omega)
        have g4:m.1*t'.2<=t'.1*m.2:=Int.le_of_mul_le_mul_right g3 hB;omega
       rw [this]
     · rw [if_neg h3]
   · rw [if_neg h2] at up ⊢
     rw [if_neg (JG r.1 r'.1 le h2 h1)]
end Go.Proofs.YtfejhjllooomlaaGreat
namespace Go.Proofs.YtfejhjllooomlaaGreat
open Go.Vm Classical
theorem OR {a:aG} (ok:eQ a): ∀k,k<a.heap.length-> ¬dO a.heap[k]! a.heap[0]!:=by
 have d: ∀w,w<a.heap.length->1<=(a.heap[w]!).2.1:=fun w hw=>(ok.ev w hw).1.1
 intro k
 induction k using Nat.strongRecOn with
 |ind k ih=>
  intro hk
  by_cases h0:k=0
  · subst h0;exact fun h=>oQ h h
  · exact yZ (d 0 (by omega)) (d ((k-1) / 2) (by omega)) (d k hk) (ih ((k-1) / 2) (by omega) (by omega)) (ok.ord k (by omega) hk)
theorem aBY {h l:Pt} {t:Int×Int} (hh:fX h) (hl:fX l) (r:bH t) (is:(jY h l t).2=true):t.1*(jY h l t).1.2<=(jY h l t).1.1*t.2:=by
 unfold jY at*
 by_cases h1:bQ l h t
 · rw [if_pos h1];exact Int.le_refl _
 · rw [if_neg h1] at is ⊢
   by_cases h2:h.2.2<l.2.2
   · rw [if_pos h2]
     obtain ⟨_,m1,m2,m3⟩:=IG hh hl (show h.2.2≠l.2.2 by omega)
     dsimp only;have g:L7 l h t<=0:=Int.not_lt.1 fun k=>h1 (.inl k)
     rw [D0] at g;generalize VJ h l=m at*;have d:=m1.1;have d2:=r.1;have hB:0<l.2.2-h.2.2:=by omega
     generalize l.2.2-h.2.2=B at*;generalize hA:h.2.1-l.2.1=A at*;have g2:B*t.1<=A*t.2:=by
      have:(l.2.1-h.2.1)*t.2= -(A*t.2):=by rw [<- Int.neg_mul];congr 1;omega
      omega
     have e1:t.1*m.2*B=B*t.1*m.2:=by rw [Int.mul_right_comm,Int.mul_comm t.1 B]
     have e2:m.1*t.2*B=A*t.2*m.2:=by rw [Int.mul_right_comm,m3,Int.mul_right_comm]
     have g3:t.1*m.2*B<=m.1*t.2*B:=by
      rw [e1,e2];exact Int.mul_le_mul_of_nonneg_right g2 (by omega)
     exact Int.le_of_mul_le_mul_right g3 hB
   · rw [if_neg h2] at is;cases is
theorem aX.time {l:List Pt} {t t':Int×Int} {H:List Ev}: ∀{cs ds:List tN},(∀x∈cs,bI l x.2 t'=bI l x.2 t)->aX l t H cs ds->aX l t' H cs ds
 | [],_,_,h=>h
 |x::cs,ds,hw,h=>by
  have e:=hw x List.mem_cons_self;have ih: ∀{ds},aX l t H cs ds->aX l t' H cs ds:=fun {ds}=>aX.time fun y hy=>hw y (List.mem_cons_of_mem _ hy)
  refine ⟨fun hy=>?_,fun hy=>?_⟩
  · rw [e] at hy
    obtain ⟨d,ds',h1,h2,h3,h4⟩:=h.1 hy;exact ⟨d,ds',h1,h2,by rw [e];exact h3,ih h4⟩
  · rw [e] at hy
    exact ih (h.2 hy)
theorem VX {c:aH} (ok:bB c) (hne:0<c.agenda.heap.length):
 ∃(i:Nat) (c':aH),i<c.certs.list.length/\(c.certs.list[i]!).1=Ev.num c.agenda.heap[0]!/\hJ c (Ev.num c.agenda.heap[0]!)=some (c',(c.certs.list[i]!).2,0)/\vT c (Ev.num c.agenda.heap[0]!)=some c'/\
  bB ⟨Ev.at c.agenda.heap[0]!,c'.field,c'.certs,c'.agenda,c'.due⟩/\c'.field=c.field/\c'.certs=nR c.certs i/\c.now.1*(Ev.at c.agenda.heap[0]!).2<=(Ev.at c.agenda.heap[0]!).1*c.now.2:=by
 have hm:=bA hne;obtain ⟨d,hd,hn⟩:=ok.nums _ hm;obtain ⟨x,hx,h1,h2,h3⟩:=ok.fol.due d hd;obtain ⟨w,hw,he⟩:=aU.1 h3;have hw0:w=0:=Classical.byContradiction fun hx=>by
  refine ok.agd.nd 0 w (by omega) hw ?_
  rw [he,<- hn,h1]
 subst hw0;obtain ⟨i,hi,rfl⟩:=aU.1 hx;have num:(c.certs.list[i]!).1=Ev.num c.agenda.heap[0]!:=by rw [<- hn,h1]
 have tm:Ev.at c.agenda.heap[0]! =(bI c.field.points (c.certs.list[i]!).2 c.now).1:=by rw [he]
 obtain ⟨c',r1,r2,r3,r4,r5,r6⟩:=VW ok hi;have hb:=ok.known i hi;have pt:=fun (x:Int×Int) (hb:lX c.field.points x)=>And.intro (eA ok.fld hb.2).1 (eA ok.fld hb.1).1
 have rt:=GU (pt _ hb).1 (pt _ hb).2 ok.now64 ok.nowv h2;have ge:=aBY (pt _ hb).1 (pt _ hb).2 ok.nowv h2;rw [num] at r1 r2;refine ⟨i,c',hi,num,r1,r2,?_,r4,r6,by rw [tm];exact ge⟩
 have kn:=C5 ok i hi;refine ⟨by rw [tm];exact rt.1,by rw [tm];exact rt.2,r3.fld,r3.crt,r3.agd,r3.w200,r3.hd,r3.known,?_⟩
 refine aX.time (t:=c'.now) (fun y hy=>?_) r3.fol
 have hy':y∈c.certs.list:=by
  rw [r6] at hy;exact (qI ok.crt_up hi hy).1
 obtain ⟨j,hj,rfl⟩:=aU.1 hy';have hbj:=ok.known j hj;rw [r4,r5];refine FJ (pt _ hbj).1 (pt _ hbj).2 ok.nowv (by rw [tm];exact rt.1) (by rw [tm];exact ge) (fun is=>?_)
 obtain ⟨d',hd',k1,k2⟩:=ok.fol.has _ hy' is;obtain ⟨w,hw,he⟩:=aU.1 k2
 have:=OR ok.agd w hw
 rw [he] at this;exact Int.not_lt.1 fun k=>this (.inl (xG.2 k))
end Go.Proofs.YtfejhjllooomlaaGreat
namespace Go.Proofs.YtfejhjllooomlaaGreat
open Go.Vm Classical
theorem BN {p q:Pt} {t:Int×Int} (hp:fX p) (hq:fX q) (ht:mH t) (hr:bH t):lO p q t=some (decide (bQ p q t),if p.1=q.1 then 2 else 0)\/(p.1=q.1/\lO p q t=some (false,2)):=by
 unfold lO;rw [xX ht,if_pos ⟨hp,hq,hr⟩]
 by_cases h:p.1=q.1
 · right;simp [h]
 · left
   simp only [h,if_false,aB,xD hp hq ht]
   have:decide (0<VI p q t)=decide (bQ p q t):=by simp only [L8]
   simp [this]
end Go.Proofs.YtfejhjllooomlaaGreat
namespace Go.Proofs.YtfejhjllooomlaaGreat
theorem rR {α:Type} [BEq α] [LawfulBEq α]: ∀{a b:List α},a.Nodup->(∀x∈a,x∈b)->b.length<=a.length->a.Perm b
 | [],b,_,_,hl=>by
  rw [List.eq_nil_of_length_eq_zero (show b.length=0 by simpa using hl)]
 |x::a,b,hd,h,hl=>by
  rw [List.nodup_cons] at hd;have hx:=h x List.mem_cons_self;have ih:=rR (a:=a) (b:=b.erase x) hd.2 (fun y hy=>by
   rw [List.mem_erase_of_ne (fun e=>hd.1 (by rw [<- e];exact hy))]
   exact h y (List.mem_cons_of_mem _ hy)) (by
   rw [List.length_erase_of_mem hx];rw [List.length_cons] at hl
   omega)
  exact (List.Perm.cons x ih).trans (List.perm_cons_erase hx).symm
theorem wC {α β:Type} {f:α->β}: ∀{l:List α},l.Nodup->(∀x∈l,∀y∈l,f x=f y->x=y)->(l.map f).Nodup
 | [],_,_=>List.nodup_nil
 |x::l,h,hi=>by
  rw [List.nodup_cons] at h;rw [List.map_cons,List.nodup_cons];refine ⟨fun hm=>?_,wC h.2 fun y hy z hz=>hi y (List.mem_cons_of_mem _ hy) z (List.mem_cons_of_mem _ hz)⟩
  obtain ⟨y,hy,e⟩:=List.mem_map.1 hm
  have:=hi y (List.mem_cons_of_mem _ hy) x List.mem_cons_self e
  rw [this] at hy;exact h.1 hy
end Go.Proofs.YtfejhjllooomlaaGreat
namespace Go.Proofs.YtfejhjllooomlaaGreat
open Go.Vm Classical
def wD (l:List Int) (k:Nat):List (Int×Int):=(List.range k).map fun i=>(l[i+1]!,l[i / 2]!)
abbrev cP (l:List Int):List (Int×Int):=wD l (l.length-1)
theorem iZ (l:List Int) (k:Nat):(wD l k).length=k:=by unfold wD;rw [List.length_map,List.length_range]
theorem TS (l:List Int) (k:Nat):wD l (k+1)=wD l k++[(l[k+1]!,l[k / 2]!)]:=by
 unfold wD;rw [List.range_succ,List.map_append];rfl
theorem tO (l:List Int) {k i:Nat} (h:i<k):(wD l k)[i]! =(l[i+1]!,l[i / 2]!):=by
 rw [getElem!_pos _ i (by rw [iZ];exact h)]
 unfold wD;rw [List.getElem_map,List.getElem_range]
theorem G3 (l:List Int) (hl:l.length<=1000):mU l=some (cP l):=by
 unfold mU;have key:=lH (body:=pS) (fun i=>(l,((i+1:Nat):Int),wD l i)) (l.length-1) (fun i hi=>by
  have e:aA .i64 (Int.tdiv (aA .i64 (((i+1:Nat):Int) -1)) 2)=((i / 2:Nat):Int):=by
   rw [show aA .i64 (((i+1:Nat):Int) -1)=(i:Int) from by rw [CT ⟨by omega,by omega⟩];omega,Int.tdiv_eq_ediv_of_nonneg (by omega),CT ⟨by omega,by omega⟩];omega
  unfold pS;simp only [aF,aT (show ((i+1:Nat):Int)<(l.length:Int) by omega),cond_true,aC l (i+1) (by omega),e,aC l (i / 2) (by omega),aB]
  rw [fF (by rw [iZ,List.length_singleton];omega),aB,bG (show i+1<1000000000 by omega),<- TS])
 rw [show (l,(1:Int),([]:List (Int×Int)))=(l,((0+1:Nat):Int),wD l 0) from rfl,key];refine aK ?_;unfold pS;simp only [aF,aM (show¬((l.length-1+1:Nat):Int)<(l.length:Int) by omega),cond_false]
theorem aPC (l:List Int) (hl:l.length<=1000):GP l=some (cP l):=by rw [<- G3 l hl];rfl
theorem IQ {l:List Int} {e:Int×Int} (h:e∈cP l):e.1∈l/\e.2∈l:=by
 obtain ⟨i,hi,rfl⟩:=aU.1 h;rw [iZ] at hi;rw [tO l hi];exact ⟨bA (by omega),bA (by omega)⟩
theorem TU {l:List Int} (hd:l.Nodup) {e:Int×Int} (h:e∈cP l):e.1≠e.2:=by
 obtain ⟨i,hi,rfl⟩:=aU.1 h;rw [iZ] at hi;rw [tO l hi];exact fun h=>cH.1 hd (i / 2) (i+1) (by omega) (by omega) h.symm
theorem C7 {l:List Int} (hd:l.Nodup):(cP l).Nodup:=by
 unfold cP wD;refine wC List.nodup_range fun i hi j hj h=>?_
 rw [List.mem_range] at hi hj;have h1:l[i+1]! =l[j+1]!:=congrArg Prod.fst h;have h2:=cH.1 hd;rcases Nat.lt_trichotomy i j with k|k|k
 · exact absurd h1 (h2 (i+1) (j+1) (by omega) (by omega))
 · exact k
 · exact absurd h1.symm (h2 (j+1) (i+1) (by omega) (by omega))
theorem M2 (l:List Int) (x:Int) (hl:l.length<=1000000):
 (∀k,k<l.length->l[k]! =x->(∀j,j<k->l[j]!≠x)->gD l x=some (k:Int))/\((∀k,k<l.length->l[k]!≠x)->gD l x=some (-1)):=by
 have k1:=lI (body:=kB) (fun i=>(l,x,(l.length:Int),(i:Int))) l.length (fun i=>l[i]! =x) (fun i=>(i:Int)) (e:= -1) (fun i hi=>by
  unfold kB;simp only [aT (show (i:Int)<(l.length:Int) by omega),cond_true,aC l i hi,aB,bG (show i<1000000000 by omega)]
  refine ⟨fun h=>?_,fun h=>?_⟩
  · rw [gG h.symm];rfl
  · rw [gA (fun k=>h k.symm)];rfl) (by
  unfold kB;simp only [aM (show¬(l.length:Int)<(l.length:Int) by omega),cond_false])
 exact ⟨fun k hk h1 h2=>k1.1 k hk h1 h2,fun h=>k1.2 h⟩
theorem QK (l:List Int) (x:Int) (hl:l.length<=1000000):kC l x=some (decide (x∈l)):=by
 unfold kC
 by_cases hx:x∈l
 · obtain ⟨k,k1,k2,k3⟩:=I7 (c:=fun k=>l[k]! =x) (aU.1 hx)
   rw [(M2 l x hl).1 k k1 k2 k3,aB,aT hx,aT (by omega)]
 · rw [(M2 l x hl).2 (fun k hk h=>hx (aU.2 ⟨k,hk,h⟩)),aB,aM hx];rfl
theorem EO {f:List Pt} (fok:dH f) {id:Int} (h:nU f id):vO ⟨f⟩ id=some (dR f id,0):=by
 have h1:=fok.1;have hc:gN ⟨f⟩=some 0:=by rw [nB];exact congrArg some (jN.2 fok)
 have bs:=J5 f id (by omega) (fun i j=>vC fok.2.2)
 unfold vO CR FB;rw [aH8];simp only [hc,aB,show ((0:Int) !=0)=false from rfl,cond_false];obtain ⟨k,hk,he⟩:=h;rw [bs.1 k hk he];simp only [aB,Bool.not_true,cond_false,show ((0:Int) !=0)=false from rfl,aC f k hk,A1 fok.2.2 hk he]
theorem TV {f:List Pt} (fok:dH f) {t:Int×Int} (r:bH t) (r64:mH t) {a b:Int} (ha:nU f a) (hb:nU f b) (hne:a≠b):sY ⟨f⟩ t a b=some (decide (bQ (dR f a) (dR f b) t)):=by
 unfold sY;rw [EO fok ha,aB,EO fok hb,aB];obtain ⟨p1,p2⟩:=eA fok ha;obtain ⟨q1,q2⟩:=eA fok hb;rcases BN p1 q1 r64 r with h|⟨h,_⟩
 · rw [h,aB]
 · rw [p2,q2] at h;exact absurd h hne
theorem aIc {f:List Pt} (fok:dH f) {t:Int×Int} (r64:mH t) {x:Int×Int} (hb:lX f x):AN x ⟨f⟩ t=some (decide (bQ (dR f x.2) (dR f x.1) t)):=by
 obtain ⟨h1,h2⟩:=hb;obtain ⟨j,j1,j2,j3⟩:=A2 fok h1;obtain ⟨k,k1,k2,k3⟩:=A2 fok h2;unfold AN;simp only [j2,k2,aB,aC f j j1,aC f k k1,j3,k3,L9 (eA fok h2).1 (eA fok h1).1 r64]
end Go.Proofs.YtfejhjllooomlaaGreat
namespace Go.Proofs.YtfejhjllooomlaaGreat
open Go.Vm Classical
def nF (f:List Pt):List Int:=f.map fun p=>p.1
theorem kY {f:List Pt} (h:fT f):(nF f).Nodup:=by
 refine wC ?_ ?_
 · exact cH.2 fun i j hij hj e=>by have:=vC h hij hj;rw [e] at this;omega
 · intro x hx y hy e
   obtain ⟨i,hi,rfl⟩:=aU.1 hx;obtain ⟨j,hj,rfl⟩:=aU.1 hy;rw [rL h hi hj e]
theorem mK {f:List Pt} {id:Int}:id∈nF f↔nU f id:=by
 unfold nF nU;rw [List.mem_map];constructor
 · rintro ⟨p,hp,rfl⟩
   obtain ⟨i,hi,rfl⟩:=aU.1 hp;exact ⟨i,hi,rfl⟩
 · rintro ⟨i,hi,rfl⟩
   exact ⟨f[i]!,bA hi,rfl⟩
structure mI (k:eB):Prop where
 clk:bB k.clock
 perm:(nF k.clock.field.points).Perm k.heap
 cert:(k.clock.certs.list.map fun x=>x.2).Perm (cP k.heap)
 lead: ∀e∈cP k.heap,bQ (dR k.clock.field.points e.2) (dR k.clock.field.points e.1) k.clock.now
theorem C8 {c:aY} (ok:eS c):(c.list.map fun x=>x.2).Nodup:=by
 refine wC ?_ ?_
 · exact cH.2 fun i j hij hj e=>ok.nd i j hij hj (by rw [e])
 · intro x hx y hy e
   obtain ⟨i,hi,rfl⟩:=aU.1 hx;obtain ⟨j,hj,rfl⟩:=aU.1 hy;rcases Nat.lt_trichotomy i j with k|k|k
   · exact absurd e (ok.nd i j k hj)
   · rw [k]
   · exact absurd e.symm (ok.nd j i k hi)
def aBZ (k:eB):Prop:=(∀i,i<k.clock.field.points.length->(k.clock.field.points[i]!).1∈k.heap)/\(cP k.heap).length=k.clock.certs.list.length/\
 ∀i,i<k.clock.certs.list.length->(k.clock.certs.list[i]!).2∈cP k.heap/\bQ (dR k.clock.field.points (k.clock.certs.list[i]!).2.2) (dR k.clock.field.points (k.clock.certs.list[i]!).2.1) k.clock.now
def TW (k:eB):Prop:=(∀i,i<k.heap.length->nU k.clock.field.points k.heap[i]!/\ ∀j,j<i->k.heap[j]!≠k.heap[i]!)/\k.clock.certs.list.length=(cP k.heap).length/\
 ∀i,i<(cP k.heap).length->uW k.clock.certs.list (cP k.heap)[i]!/\bQ (dR k.clock.field.points ((cP k.heap)[i]!).2) (dR k.clock.field.points ((cP k.heap)[i]!).1) k.clock.now
theorem tP {l:List tN} {x:Int×Int}:uW l x↔x∈l.map fun y=>y.2:=by
 unfold uW;rw [List.mem_map];constructor
 · rintro ⟨i,hi,rfl⟩;exact ⟨l[i]!,bA hi,rfl⟩
 · rintro ⟨y,hy,rfl⟩
   obtain ⟨i,hi,rfl⟩:=aU.1 hy;exact ⟨i,hi,rfl⟩
theorem aPD {k:eB} (ok:bB k.clock) (hl:k.heap.length=k.clock.field.points.length):aBZ k↔mI k:=by
 have nd:=kY ok.fld.2.2;have il:(nF k.clock.field.points).length=k.clock.field.points.length:=List.length_map ..;have cl:(k.clock.certs.list.map fun x=>x.2).length=k.clock.certs.list.length:=List.length_map ..
 have cn:=C8 ok.crt;constructor
 · rintro ⟨h1,h2,h3⟩
   have pm:(nF k.clock.field.points).Perm k.heap:=rR nd (fun x hx=>by
    obtain ⟨i,hi,rfl⟩:=mK.1 hx;exact h1 i hi) (by omega)
   have pc:(k.clock.certs.list.map fun x=>x.2).Perm (cP k.heap):=rR cn (fun x hx=>by
    obtain ⟨i,hi,rfl⟩:=tP.2 hx;exact (h3 i hi).1) (by omega)
   refine ⟨ok,pm,pc,fun e he=>?_⟩
   obtain ⟨i,hi,rfl⟩:=tP.2 (pc.mem_iff.2 he);exact (h3 i hi).2
 · intro h
   refine ⟨fun i hi=>h.perm.mem_iff.1 (mK.2 ⟨i,hi,rfl⟩),by rw [<- h.cert.length_eq,cl],fun i hi=>?_⟩
   have:=h.cert.mem_iff.1 (tP.1 ⟨i,hi,rfl⟩)
   exact ⟨this,h.lead _ this⟩
theorem aPE {k:eB} (ok:bB k.clock) (hl:k.heap.length=k.clock.field.points.length):TW k↔mI k:=by
 have nd:=kY ok.fld.2.2;have il:(nF k.clock.field.points).length=k.clock.field.points.length:=List.length_map ..;have cl:(k.clock.certs.list.map fun x=>x.2).length=k.clock.certs.list.length:=List.length_map ..
 constructor
 · rintro ⟨h1,h2,h3⟩
   have hn:k.heap.Nodup:=cH.2 fun i j hij hj e=>(h1 j hj).2 i hij e
   have pm:k.heap.Perm (nF k.clock.field.points):=rR hn (fun x hx=>by
    obtain ⟨i,hi,rfl⟩:=aU.1 hx;exact mK.2 (h1 i hi).1) (by omega)
   have pc:(cP k.heap).Perm (k.clock.certs.list.map fun x=>x.2):=rR (C7 hn) (fun x hx=>by
    obtain ⟨i,hi,rfl⟩:=aU.1 hx;exact tP.1 (h3 i hi).1) (by omega)
   refine ⟨ok,pm.symm,pc.symm,fun e he=>?_⟩
   obtain ⟨i,hi,rfl⟩:=aU.1 he;exact (h3 i hi).2
 · intro h
   have hn:k.heap.Nodup:=h.perm.nodup_iff.1 nd;refine ⟨fun i hi=>⟨mK.1 (h.perm.mem_iff.2 (bA hi)),fun j hj e=>cH.1 hn j i hj hi e⟩,by rw [<- h.cert.length_eq,cl],fun i hi=>?_⟩
   exact ⟨tP.2 (h.cert.mem_iff.2 (bA hi)),h.lead _ (bA hi)⟩
theorem QL {α:Type} {p q:Prop} [Decidable p] [Decidable q] {a b:α} (h:p↔q):(if p then a else b)=if q then a else b:=by
 by_cases hp:p
 · rw [if_pos hp,if_pos (h.1 hp)]
 · rw [if_neg hp,if_neg (fun k=>hp (h.2 k))]
theorem C9 {k:eB} (fit:wB k.clock) (hl:k.heap.length<=1000):tB k=some (if mI k then 0 else 8):=by
 unfold tB;rw [nE fit,aB]
 by_cases ok:bB k.clock
 case neg=>rw [if_neg ok,if_neg (fun h=>ok h.clk)];rfl
 rw [if_pos ok,cY rfl,cond_false]
 by_cases hh:k.heap.length=k.clock.field.points.length
 case neg=>
  rw [eU (by rw [aF,aF];omega),cond_true,if_neg (fun h=>hh ?_)]
  rw [<- h.perm.length_eq];exact List.length_map ..
 rw [cY (by rw [aF,aF];omega),cond_false,<- QL (aPD ok hh)]
 have bd:=ok.bd;have inner:=M1 (body:=pW) (fun i=>(cP k.heap,k.clock.certs.list,(k.clock.certs.list.length:Int),(i:Int),k.clock.now.1,k.clock.now.2,k.clock.field.points,k.clock.certs.next_,k.clock.certs.list,k.clock.agenda.slots.uses,k.clock.agenda.slots.used,k.clock.agenda.slots.free,k.clock.agenda.heap,k.clock.agenda.where_,k.clock.due,k.heap)) k.clock.certs.list.length
  (fun i=>(k.clock.certs.list[i]!).2∈cP k.heap/\bQ (dR k.clock.field.points (k.clock.certs.list[i]!).2.2) (dR k.clock.field.points (k.clock.certs.list[i]!).2.1) k.clock.now) (r:= .done 8) (e:= .done 0) (fun i hi=>by
  have hb:=ok.known i hi;have hv:=ok.crt.cv i hi;unfold pW;simp only [aT (show (i:Int)<(k.clock.certs.list.length:Int) by omega),cond_true,aC k.clock.certs.list i hi,aB,oD (cP k.heap) _ (by rw [iZ];omega),TV ok.fld (t:=(k.clock.now.1,k.clock.now.2)) ok.nowv ok.now64 hb.2 hb.1 (fun h=>hv.2.2.2.2 h.symm),bG (show i<1000000000 by omega)]
  by_cases h1:(k.clock.certs.list[i]!).2∈cP k.heap
  · rw [aT h1]
    by_cases h2:bQ (dR k.clock.field.points (k.clock.certs.list[i]!).2.2) (dR k.clock.field.points (k.clock.certs.list[i]!).2.1) k.clock.now
    · rw [show decide (bQ (dR k.clock.field.points (k.clock.certs.list[i]!).2.2) (dR k.clock.field.points (k.clock.certs.list[i]!).2.1) (k.clock.now.1,k.clock.now.2))=true from aT h2]
      exact ⟨fun h=>absurd ⟨h1,h2⟩ h,fun _=>rfl⟩
    · rw [show decide (bQ (dR k.clock.field.points (k.clock.certs.list[i]!).2.2) (dR k.clock.field.points (k.clock.certs.list[i]!).2.1) (k.clock.now.1,k.clock.now.2))=false from aM h2]
      exact ⟨fun _=>rfl,fun h=>absurd h.2 h2⟩
  · rw [aM h1]
    exact ⟨fun _=>rfl,fun h=>absurd h.1 h1⟩) (by
  unfold pW;simp only [aM (show¬(k.clock.certs.list.length:Int)<(k.clock.certs.list.length:Int) by omega),cond_false])
 have outer:=M1 (body:=pX) (fun i=>(k.clock.field.points,(k.clock.field.points.length:Int),(i:Int),k.clock.now.1,k.clock.now.2,k.clock.field.points,k.clock.certs.next_,k.clock.certs.list,k.clock.agenda.slots.uses,k.clock.agenda.slots.used,k.clock.agenda.slots.free,k.clock.agenda.heap,k.clock.agenda.where_,k.clock.due,k.heap)) k.clock.field.points.length
  (fun i=>(k.clock.field.points[i]!).1∈k.heap) (r:=8) (e:=if (cP k.heap).length=k.clock.certs.list.length/\ ∀i,i<k.clock.certs.list.length->(k.clock.certs.list[i]!).2∈cP k.heap/\bQ (dR k.clock.field.points (k.clock.certs.list[i]!).2.2) (dR k.clock.field.points (k.clock.certs.list[i]!).2.1) k.clock.now then 0 else 8) (fun i hi=>by
  unfold pX;simp only [aT (show (i:Int)<(k.clock.field.points.length:Int) by omega),cond_true,aC k.clock.field.points i hi,aB,QK k.heap _ (by omega),bG (show i<1000000000 by omega)]
  by_cases h1:(k.clock.field.points[i]!).1∈k.heap
  · rw [aT h1];exact ⟨fun h=>absurd h1 h,fun _=>rfl⟩
  · rw [aM h1];exact ⟨fun _=>rfl,fun h=>absurd h h1⟩) (by
  unfold pX;simp only [aF,aM (show¬(k.clock.field.points.length:Int)<(k.clock.field.points.length:Int) by omega),cond_false,G3 k.heap hl,aB]
  by_cases h1:(cP k.heap).length=k.clock.certs.list.length
  · rw [cY (by omega),cond_false]
    refine (show _=_ from inner).trans ?_
    by_cases h2: ∀i,i<k.clock.certs.list.length->(k.clock.certs.list[i]!).2∈cP k.heap/\bQ (dR k.clock.field.points (k.clock.certs.list[i]!).2.2) (dR k.clock.field.points (k.clock.certs.list[i]!).2.1) k.clock.now
    · rw [if_pos h2,if_pos ⟨h1,h2⟩]
    · rw [if_neg h2,if_neg (fun h=>h2 h.2)]
  · rw [eU (by omega),cond_true,if_neg (fun h=>h1 h.1)])
 refine (show _=_ from outer).trans ?_
 by_cases h1: ∀i,i<k.clock.field.points.length->(k.clock.field.points[i]!).1∈k.heap
 · rw [if_pos h1]
   congr 1
   exact QL (q:=aBZ k) ⟨fun h=>⟨h1,h.1,h.2⟩,fun h=>⟨h.2.1,h.2.2⟩⟩
 · rw [if_neg h1,if_neg (fun h:aBZ k=>h1 h.1)]
theorem aId {c:aH} (ok:bB c) (es:List (Int×Int)) (kn: ∀x∈es,lX c.field.points x):
 AO c es=some (decide (c.certs.list.length=es.length/\ ∀i,i<es.length->uW c.certs.list es[i]!/\bQ (dR c.field.points (es[i]!).2) (dR c.field.points (es[i]!).1) c.now)):=by
 have bd:=ok.bd;unfold AO;simp only [aF]
 by_cases h0:c.certs.list.length=es.length
 case neg=>rw [eU (by omega),cond_true,aM (fun h=>h0 h.1)]
 rw [cY (by omega),cond_false]
 have key:=M1 (body:=sF) (fun i=>(es,(i:Int),c.now.1,c.now.2,c.field.points,c.certs.next_,c.certs.list,c.agenda.slots.uses,c.agenda.slots.used,c.agenda.slots.free,c.agenda.heap,c.agenda.where_,c.due)) es.length
  (fun i=>uW c.certs.list es[i]!/\bQ (dR c.field.points (es[i]!).2) (dR c.field.points (es[i]!).1) c.now) (r:=false) (e:=true) (fun i hi=>by
  have ceta2:aY.mk c.certs.next_ c.certs.list=c.certs:=rfl;unfold sF;simp only [aF,aT (show (i:Int)<(es.length:Int) by omega),cond_true,aC es i hi,aB,ceta2,A0 c.certs es[i]! (by omega),aIc ok.fld (t:=(c.now.1,c.now.2)) ok.now64 (kn _ (bA hi)),bG (show i<1000000000 by omega)]
  by_cases h1:uW c.certs.list es[i]!
  · rw [aT h1]
    by_cases h2:bQ (dR c.field.points (es[i]!).2) (dR c.field.points (es[i]!).1) c.now
    · rw [show decide (bQ (dR c.field.points (es[i]!).2) (dR c.field.points (es[i]!).1) (c.now.1,c.now.2))=true from aT h2]
      exact ⟨fun h=>absurd ⟨h1,h2⟩ h,fun _=>rfl⟩
    · rw [show decide (bQ (dR c.field.points (es[i]!).2) (dR c.field.points (es[i]!).1) (c.now.1,c.now.2))=false from aM h2]
      exact ⟨fun _=>rfl,fun h=>absurd h.2 h2⟩
  · rw [aM h1]
    exact ⟨fun _=>rfl,fun h=>absurd h.1 h1⟩) (by
  unfold sF;simp only [aF,aM (show¬(es.length:Int)<(es.length:Int) by omega),cond_false])
 refine (show _=_ from key).trans ?_
 by_cases h2: ∀i,i<es.length->uW c.certs.list es[i]!/\bQ (dR c.field.points (es[i]!).2) (dR c.field.points (es[i]!).1) c.now
 · rw [if_pos h2,aT ⟨h0,h2⟩]
 · rw [if_neg h2,aM (fun h=>h2 h.2)]
theorem aIe {σ ρ:Type} {body:σ->Option (cJ σ ρ)} (st:Nat->σ) (n:Nat) (P:Nat->Prop) {r:ρ} (h: ∀i,i<n->(¬P i->body (st i)=some (.done r))/\(P i->body (st i)=some (.next (st (i+1)))))
 (hx: ¬ ∀i,i<n->P i):aI body (st 0)=some r:=by
 obtain ⟨i,hi⟩:=Classical.not_forall.1 hx;obtain ⟨hi,hx⟩:=Classical.not_imp.1 hi;obtain ⟨m,m1,m2,m3⟩:=I7 (c:=fun i=> ¬P i) ⟨i,hi,hx⟩
 rw [lH st m fun j hj=>(h j (by omega)).2 (Classical.not_not.1 (m3 j hj))]
 exact aK ((h m m1).1 m2)
def ckS (k:eB) (i:Nat):=((i:Int),k.clock.now.1,k.clock.now.2,k.clock.field.points,k.clock.certs.next_,k.clock.certs.list,k.clock.agenda.slots.uses,k.clock.agenda.slots.used,k.clock.agenda.slots.free,k.clock.agenda.heap,k.clock.agenda.where_,k.clock.due,k.heap)
theorem DA {k:eB} (fit:wB k.clock) (hl:k.heap.length<=1000):mY k=some (if mI k then 0 else 8):=by
 unfold mY;rw [MY fit,aB]
 by_cases ok:bB k.clock
 case neg=>rw [if_neg ok,if_neg (fun h=>ok h.clk)];rfl
 rw [if_pos ok,cY rfl,cond_false]
 by_cases hh:k.heap.length=k.clock.field.points.length
 case neg=>
  rw [eU (by rw [aF,aF];omega),cond_true,if_neg (fun h=>hh ?_)]
  rw [<- h.perm.length_eq];exact List.length_map ..
 rw [cY (by rw [aF,aF];omega),cond_false,<- QL (aPE ok hh)]
 have bd:=ok.bd;have step: ∀i,i<k.heap.length->(¬(nU k.clock.field.points k.heap[i]!/\ ∀j,j<i->k.heap[j]!≠k.heap[i]!)->iW (ckS k i)=some (.done 8))/\((nU k.clock.field.points k.heap[i]!/\ ∀j,j<i->k.heap[j]!≠k.heap[i]!)->iW (ckS k i)=some (.next (ckS k (i+1)))):=by
  intro i hi;unfold ckS;unfold iW;simp only [aF,aT (show (i:Int)<(k.heap.length:Int) by omega),cond_true,aC k.heap i hi,aB]
  by_cases h1:nU k.clock.field.points k.heap[i]!
  case neg=>
   rw [VV ok.fld h1];exact ⟨fun _=>rfl,fun h=>absurd h.1 h1⟩
  obtain ⟨m,m1,m2,m3⟩:=A2 ok.fld h1;rw [m2];simp only [aB,aM (show¬(m:Int)<0 by omega),cond_false]
  have inner:=M1 (body:=qD) (fun j=>((i:Int),(j:Int),k.clock.now.1,k.clock.now.2,k.clock.field.points,k.clock.certs.next_,k.clock.certs.list,k.clock.agenda.slots.uses,k.clock.agenda.slots.used,k.clock.agenda.slots.free,k.clock.agenda.heap,k.clock.agenda.where_,k.clock.due,k.heap)) i
   (fun j=>k.heap[j]!≠k.heap[i]!) (r:= .done 8) (e:= .next (((i+1:Nat):Int),k.clock.now.1,k.clock.now.2,k.clock.field.points,k.clock.certs.next_,k.clock.certs.list,k.clock.agenda.slots.uses,k.clock.agenda.slots.used,k.clock.agenda.slots.free,k.clock.agenda.heap,k.clock.agenda.where_,k.clock.due,k.heap)) (fun j hj=>by
   unfold qD;simp only [aT (show (j:Int)<(i:Int) by omega),cond_true,aC k.heap j (by omega),aC k.heap i hi,aB,bG (show j<1000000000 by omega)]
   by_cases h:k.heap[j]! =k.heap[i]!
   · rw [gG h];exact ⟨fun _=>rfl,fun k=>absurd h k⟩
   · rw [gA h];exact ⟨fun k=>absurd h k,fun _=>rfl⟩) (by
   unfold qD;simp only [aM (show¬(i:Int)<(i:Int) by omega),cond_false,bG (show i<1000000000 by omega)])
  have inner':=(show _=_ from inner)
  by_cases h2: ∀j,j<i->k.heap[j]!≠k.heap[i]!
  · rw [if_pos h2] at inner'
    exact ⟨fun h=>absurd ⟨h1,h2⟩ h,fun _=>inner'⟩
  · rw [if_neg h2] at inner'
    exact ⟨fun _=>inner',fun h=>absurd h.2 h2⟩
 by_cases hP: ∀i,i<k.heap.length->nU k.clock.field.points k.heap[i]!/\ ∀j,j<i->k.heap[j]!≠k.heap[i]!
 · have jus:=aId ok (cP k.heap) (fun x hx=>by
    obtain ⟨h1,h2⟩:=IQ hx;obtain ⟨i,hi,e1⟩:=aU.1 h1;obtain ⟨j,hj,e2⟩:=aU.1 h2;exact ⟨e1▸(hP i hi).1,e2▸(hP j hj).1⟩)
   have o:=M1 (body:=iW) (ckS k) k.heap.length _ (r:=8) (e:=if TW k then 0 else 8) step (by
    have ceta:(aH.mk (k.clock.now.1,k.clock.now.2) (Field.mk k.clock.field.points) (aY.mk k.clock.certs.next_ k.clock.certs.list) (aG.mk (aR.mk k.clock.agenda.slots.uses k.clock.agenda.slots.used k.clock.agenda.slots.free) k.clock.agenda.heap k.clock.agenda.where_) k.clock.due)=k.clock:=rfl;unfold iW ckS
    simp only [aF,aM (show¬(k.heap.length:Int)<(k.heap.length:Int) by omega),cond_false,aPC k.heap hl,aB,ceta,jus]
    by_cases h2:k.clock.certs.list.length=(cP k.heap).length/\ ∀i,i<(cP k.heap).length->uW k.clock.certs.list (cP k.heap)[i]!/\bQ (dR k.clock.field.points ((cP k.heap)[i]!).2) (dR k.clock.field.points ((cP k.heap)[i]!).1) k.clock.now
    · rw [aT h2,if_pos (show TW k from ⟨hP,h2.1,h2.2⟩)];rfl
    · rw [aM h2,if_neg (fun h:TW k=>h2 ⟨h.2.1,h.2.2⟩)];rfl)
   refine (show _=_ from o).trans ?_;rw [if_pos hP]
 · rw [if_neg (fun h:TW k=>hP h.1)]
   exact aIe (body:=iW) (ckS k) k.heap.length _ (r:=8) step hP
end Go.Proofs.YtfejhjllooomlaaGreat
