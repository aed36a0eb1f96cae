/- Plain laws (3). -/
import Derived.Test.YtfejhjllooomlaaGreatDQM2
import Derived.Test.YtfejhjllooomlaaGreatDQS2
namespace Go.Proofs.YtfejhjllooomlaaGreat
open Go.Vm Classical
theorem WI (c:aR) (n:Int) (hl:c.due.length<=1000000):(∀k,k<c.due.length->(c.due[k]!).1=n->(∀j,j<k->(c.due[j]!).1≠n)->rB c n=some (k:Int))/\((∀k,k<c.due.length->(c.due[k]!).1≠n)->rB c n=some (-1)):=by
 unfold rB;refine mX (body:=rT) (fun i=>(n,(i:Int),c.now.1,c.now.2,c.field.points,c.certs.next_,c.certs.list,c.agenda.slots.uses,c.agenda.slots.used,c.agenda.slots.free,c.agenda.heap,c.agenda.where_,c.due)) c.due.length (fun i=>(c.due[i]!).1=n) (fun i=>(i:Int)) (fun i hi=>?_) ?_
 · have e1:decide ((i:Int)<(c.due.length:Int))=true:=aP (by omega)
   unfold rT;simp only [aF,e1,cond_true,aB c.due i hi,aD,bF (show i<1000000000 by omega)]
   constructor
   · intro h;rw [eZ h];rfl
   · intro h;rw [eM h];rfl
 · unfold rT
   have:decide ((c.due.length:Int)<(c.due.length:Int))=false:=aL (by omega)
   simp only [aF,this,cond_false]
theorem QZ {ds:List wC} (hu:Up ds) (hl:ds.length<=1000000) (n:Int):(∀k,k<ds.length->(ds[k]!).1=n->rE ds n=some ((k:Int),true))/\((∀k,k<ds.length->(ds[k]!).1≠n)-> ∃m:Nat,rE ds n=some ((m:Int),false)):=by
 have bs:=CJ ds n hl (xB.1 hu);unfold rE;rw [aRk];constructor
 · intro k hk he;rw [bs.1 k hk he];rfl
 · intro h
   obtain ⟨m,_,_,_,e⟩:=bs.2 h;exact ⟨m,by rw [e];rfl⟩
theorem bM.bd {c:aR} (ok:bM c):c.due.length<=200/\c.field.points.length<=64/\c.certs.list.length<=200:=by
 have:=ok.hd;have:=ok.agd.bd;have:=ok.fld.1;have:=ok.crt.len
 omega
theorem lN {c:aR} (ok:bM c):nF c=some c:=by
 have bd:=ok.bd;unfold nF lE tH;simp only [bE (show c.field.points.length<=1048576 by omega),bE (show c.certs.list.length<=1048576 by omega),bE (show c.due.length<=1048576 by omega),aD,uT ok.agd]
theorem oD {c:aR} (ok:bM c):oS c=some c:=by
 have bd:=ok.bd;have ab:=ok.agd.bd;have hl:=ok.agd.so.fl;have hn:=ok.agd.so.n2;have hu:=ok.agd.so.ul;unfold oS;simp only [bE (show c.field.points.length<=1048576 by omega),bE (show c.certs.list.length<=1048576 by omega),bE (show c.due.length<=1048576 by omega),bE (show c.agenda.heap.length<=1048576 by omega),bE (show c.agenda.where_.length<=1048576 by omega),
  bE (show c.agenda.slots.uses.length<=1048576 by omega),bE (show c.agenda.slots.used.length<=1048576 by omega),bE (show c.agenda.slots.free.length<=1048576 by omega),aD]
theorem CN {cs:List wC} {i:Nat} (hu:Up cs) (hi:i<cs.length) {x:wC} (hx:x∈cs.eraseIdx i):x∈cs/\x.1≠(cs[i]!).1:=by
 rw [yB,List.mem_append] at hx;have ub:=xB.1 hu;rcases hx with hx|hx
 · obtain ⟨j,h1,h2,rfl⟩:=cU.1 hx
   have:=ub j i h1 hi
   exact ⟨aQ h2,by omega⟩
 · obtain ⟨j,hj,rfl⟩:=aW.1 hx
   rw [List.length_drop] at hj;rw [xG]
   have:=ub i (i+1+j) (by omega) (by omega)
   exact ⟨aQ (by omega),by omega⟩
theorem K8 {c:aR} (ok:bM c) (i:Nat) (hi:i<c.certs.list.length): ∀j,j<(qI c.certs i).list.length->lM c.field.points ((qI c.certs i).list[j]!).2:=by
 intro j hj;have hm:(qI c.certs i).list[j]!∈c.certs.list:=(CN ok.crt_up hi (aQ hj)).1;obtain ⟨m,hm1,hm2⟩:=aW.1 hm;rw [<- hm2];exact ok.known m hm1
theorem aRl {c:aR} (ok:bM c) {i:Nat} (hi:i<c.certs.list.length):
 ∃c':aR,tQ c (c.certs.list[i]!).1=some (c',(c.certs.list[i]!).2,0)/\tI c (c.certs.list[i]!).1=some c'/\bM c'/\c'.field=c.field/\c'.now=c.now/\c'.certs=qI c.certs i:=by
 have bd:=ok.bd;have rm:=OY ok.crt hi (n:=(c.certs.list[i]!).1) rfl;have wo:=KE ok.crt hi (n:=(c.certs.list[i]!).1) rfl;have fe:=ok.fol.erase (i:=i) hi;have pd:=QZ ok.due_up (by omega) (c.certs.list[i]!).1
 have da:=WI c (c.certs.list[i]!).1 (by omega)
 cases hf:(bQ c.field.points (c.certs.list[i]!).2 c.now).2 with
 |false=>
  have no: ∀k,k<c.due.length->(c.due[k]!).1≠(c.certs.list[i]!).1:=by
   intro k hk he;obtain ⟨x,hx,h1,h2,_⟩:=ok.fol.due _ (aQ hk);obtain ⟨j,hj,rfl⟩:=aW.1 hx;have ub:=xB.1 ok.crt_up
   have:j=i:=by
    rcases Nat.lt_trichotomy j i with h|h|h
    · have:=ub j i h hi;omega
    · exact h
    · have:=ub i j h hj;omega
   rw [this,hf] at h2;cases h2
  refine ⟨⟨c.now,c.field,qI c.certs i,c.agenda,c.due⟩,?_,?_,?_,rfl,rfl,rfl⟩
  · unfold tQ
    obtain ⟨m,e⟩:=pd.2 no;simp only [rm,aD,show ((0:Int) !=0)=false from rfl,cond_false,oD ok,e]
  · unfold tI
    simp only [lN ok,aD,wo,da.2 no,aL (show¬(0:Int)<= -1 by omega),cond_false]
  · exact ⟨ok.nowv,ok.now64,ok.fld,OX ok.crt hi,ok.agd,ok.w200,ok.hd,K8 ok i hi,fe.1 hf⟩
 |true=>
  obtain ⟨k,hk,k1,k2,k3⟩:=fe.2 hf;obtain ⟨w,hw,hev⟩:=aW.1 k2;have hh:(c.agenda.heap[w]!).2.2.2=(c.due[k]!).2:=by rw [hev]
  have ub:=xB.1 ok.due_up;have before: ∀j,j<k->(c.due[j]!).1≠(c.certs.list[i]!).1:=fun j hj he=>by have:=ub j k hj hk;omega
  have dl:(c.due.eraseIdx k).length=c.due.length-1:=L9 hk;obtain ⟨L,d1,d2⟩:=D8 c.due k hk;refine ⟨⟨c.now,c.field,qI c.certs i,fG c.agenda w,c.due.eraseIdx k⟩,?_,?_,?_,rfl,rfl,rfl⟩
  · unfold tQ
    simp only [rm,aD,show ((0:Int) !=0)=false from rfl,cond_false,oD ok,pd.1 k hk k1,cond_true,aB c.due k hk,A8 ok.agd hw ok.agd.fit hh,bF (show k<1000000000 by omega),YW,d1,d2]
  · unfold tI
    have s1:jR c.due 0 (k:Int)=some (c.due.take k):=oC c.due k (by omega)
    have s2:jR c.due ((k+1:Nat):Int) (c.due.length:Int)=some (c.due.drop (k+1)):=by
     unfold jR;rw [if_pos ⟨by omega,by omega,by omega⟩]
     simp only [Int.toNat_natCast];rw [List.take_of_length_le (by rw [List.length_drop];exact Nat.le_refl _)]
    have tl:(c.due.take k).length=k:=by rw [List.length_take];omega
    have dl2:(c.due.drop (k+1)).length=c.due.length- (k+1):=List.length_drop;simp only [lN ok,aD,wo,da.1 k hk k1 before,aP (show (0:Int)<=(k:Int) by omega),cond_true,aB c.due k hk,A9 ok.agd hw hh,s1,bE (show (c.due.take k).length<=1048576 by omega),bF (show k<1000000000 by omega),aF,s2,
     gG (show (c.due.take k).length+(c.due.drop (k+1)).length<=1048576 by omega),yB]
    cases hem:(c.due.drop (k+1)).isEmpty with
    |true=>
     rw [List.isEmpty_iff] at hem;rw [hem,List.append_nil];rfl
    |false=>rfl
  · have rem:=KC ok.agd hw
    have rmem:=OT ok.agd hw;have hlen:(fG c.agenda w).heap.length=c.agenda.heap.length-1:=by
     have h1:=rem.hl;have h2:=ok.agd.hl;have h3:(fG c.agenda w).slots=gN c.agenda.slots (c.agenda.heap[w]!).2.2.2:=by unfold fG;split<;>rfl
     rw [h3] at h1;change _+(c.agenda.slots.free++[_]).length=c.agenda.slots.uses.length at h1;rw [List.length_append] at h1;simp only [List.length_cons,List.length_nil] at h1;omega
    have wlen:(fG c.agenda w).where_.length=200:=by
     have h1:=rem.wl;have h3:(fG c.agenda w).slots=gN c.agenda.slots (c.agenda.heap[w]!).2.2.2:=by unfold fG;split<;>rfl
     rw [h3] at h1;change _=c.agenda.slots.uses.length at h1;rw [h1,<- ok.agd.wl,ok.w200]
    refine ⟨ok.nowv,ok.now64,ok.fld,OX ok.crt hi,rem,wlen,?_,K8 ok i hi,?_⟩
    · show (fG c.agenda w).heap.length=(c.due.eraseIdx k).length
      rw [hlen,dl,ok.hd]
    · refine k3.mono fun x hx e he hm=>(rmem e).2 ⟨hm,fun h=>?_⟩
      have:=(CN ok.crt_up hi hx).2
      rw [h,hev] at he;exact this he.symm
theorem LS {c:aR} (ok:bM c) {i:Nat} (_hi:i<c.certs.list.length) {c':aR} (h:tQ c (c.certs.list[i]!).1=some (c',(c.certs.list[i]!).2,0)):wV c (c.certs.list[i]!).1=some (c',0):=by
 unfold wV;rw [oY ok.fit,if_pos ok];simp only [aD,show ((0:Int) !=0)=false from rfl,cond_false,h]
abbrev gE:aR:=⟨(0,0),⟨[]⟩,⟨0,[]⟩,⟨⟨[],[],[]⟩,[],[]⟩,[]⟩
theorem S9 {l:List Pt} (ok:cC l) {id:Int} (h:lC l id): ¬(bC l id).1<0:=by
 obtain ⟨h1,_⟩:=iC ok h
 have:=h1.1
 omega
theorem aK3 {c:aR} (ok:bM c) {x:Int×Int} (hx:gK x) (hb:lM c.field.points x) (hn: ¬xA c.certs.list x):
 (jK c x=some (gE,0,18)/\mU c x=some (gE,0,18)/\(IZ c.certs\/ ¬C2 c.agenda.slots))\/
 ∃c':aR,jK c x=some (c',c.certs.next_,0)/\mU c x=some (c',c.certs.next_,0)/\bM c'/\c'.field=c.field/\c'.now=c.now/\c'.certs=sO c.certs x/\(c'.agenda.slots=c.agenda.slots\/c'.agenda.slots=iJ c.agenda.slots):=by
 have bd:=ok.bd;have n0:=ok.crt.n0;have n1:=ok.crt.n1;have fit:=ok.fit;have ad:=WC ok.crt hx;have rd:=S8 ok.crt hx;rw [if_neg hn] at ad rd;have hc:iG c=some 0:=by rw [oY fit,if_pos ok]
 have p1:=oX ok.fld x.1;have p2:=oX ok.fld x.2;have q1:=S9 ok.fld hb.1;have q2:=S9 ok.fld hb.2;have wh:=AC ok.fld hx ok.nowv ok.now64;rw [if_pos hb] at wh;have rw':=AD ok.fld ok.now64 hb
 by_cases hf:IZ c.certs
 · rw [if_pos hf] at ad rd
   left;refine ⟨?_,?_,.inl hf⟩
   · unfold jK dU
     simp only [hc,aD,show ((0:Int) !=0)=false from rfl,cond_false,ad,show ((18:Int)==8)=false from rfl,p1,p2,aL q1,aL q2,show ((18:Int) !=0)=true from rfl,cond_true]
   · unfold mU
     simp only [rd,aD,show ((18:Int) !=0)=true from rfl,cond_true]
 rw [if_neg hf] at ad rd;have cok:=YY ok.crt hx hn hf;have known': ∀j,j<(sO c.certs x).list.length->lM c.field.points ((sO c.certs x).list[j]!).2:=by
  intro j hj;rw [FD] at hj;rw [yC]
  by_cases h:j<c.certs.list.length
  · rw [if_pos h];exact ok.known j h
  · rw [if_neg h,if_pos (by omega)];exact hb
 have fresh: ∀e∈c.agenda.heap,Ev.num e≠c.certs.next_:=by
  intro e he hne;obtain ⟨d,hd,h1⟩:=ok.nums e he;obtain ⟨y,hy,h2,_⟩:=ok.fol.due d hd;obtain ⟨j,hj,rfl⟩:=aW.1 hy
  have:=(ok.crt.nr j hj).2
  omega
 have sn:=ok.fol.snoc (x:=(c.certs.next_,x));cases hw:(bQ c.field.points x c.now).2 with
 |false=>
  right;refine ⟨⟨c.now,c.field,sO c.certs x,c.agenda,c.due⟩,?_,?_,⟨ok.nowv,ok.now64,ok.fld,cok,ok.agd,ok.w200,ok.hd,known',sn.1 hw⟩,rfl,rfl,rfl,.inl rfl⟩
  · unfold jK dU
    simp only [hc,aD,show ((0:Int) !=0)=false from rfl,cond_false,ad,show ((0:Int)==8)=false from rfl,p1,p2,aL q1,aL q2,oD ok,wh,hw]
  · unfold mU
    simp only [rd,aD,show ((0:Int) !=0)=false from rfl,cond_false,lN ok,rw',hw,Bool.not_false,cond_true]
 |true=>
  obtain ⟨t1,t2⟩:=OC (iC ok.fld hb.2).1 (iC ok.fld hb.1).1 ok.now64 ok.nowv hw
  by_cases op:C2 c.agenda.slots
  · right
    have pu:=A5 ok.agd op ok.agd.fit (t:=(bQ c.field.points x c.now).1) (n:=c.certs.next_) t1 t2 n0 n1 fresh;have rp:=C3 ok.agd op (t:=(bQ c.field.points x c.now).1) (n:=c.certs.next_) t1 t2 n0 n1;have pok:=aAz ok.agd op (t:=(bQ c.field.points x c.now).1) (n:=c.certs.next_) t1 t2 n0 n1 fresh
    have pmem:=V8 ok.agd op (t:=(bQ c.field.points x c.now).1) (n:=c.certs.next_) t1;have plen:=IX ok.agd op (t:=(bQ c.field.points x c.now).1) (n:=c.certs.next_) t1;have ap: ∀h:Int×Int,cB c.due [(c.certs.next_,h)]=some (c.due++[(c.certs.next_,h)]):=fun h=>gG (by simp;omega)
    have wlen:(nL c.agenda (bQ c.field.points x c.now).1 c.certs.next_).where_.length=200:=by
     have:=pok.wl
     change _=(c.agenda.slots.uses.set _ _).length at this;rw [List.length_set] at this;rw [this,<- ok.agd.wl,ok.w200]
    refine ⟨⟨c.now,c.field,sO c.certs x,nL c.agenda (bQ c.field.points x c.now).1 c.certs.next_,c.due++[(c.certs.next_,nK c.agenda.slots)]⟩,?_,?_,⟨ok.nowv,ok.now64,ok.fld,cok,pok,wlen,?_,known',?_⟩,rfl,rfl,rfl,.inr rfl⟩
    · unfold jK dU
      simp only [hc,aD,show ((0:Int) !=0)=false from rfl,cond_false,ad,show ((0:Int)==8)=false from rfl,p1,p2,aL q1,aL q2,oD ok,wh,hw,cond_true,pu,ap]
    · unfold mU
      simp only [rd,aD,show ((0:Int) !=0)=false from rfl,cond_false,lN ok,rw',hw,Bool.not_true,uR ok.agd.so,aP op,rp,ap]
    · show (nL c.agenda (bQ c.field.points x c.now).1 c.certs.next_).heap.length=(c.due++[_]).length
      rw [plen,List.length_append,ok.hd];rfl
    · have fm:bB c.field.points c.now (nL c.agenda (bQ c.field.points x c.now).1 c.certs.next_).heap c.certs.list c.due:=ok.fol.mono fun y hy e he hm=>(pmem e).2 (.inr hm)
      exact (fm.snoc (x:=(c.certs.next_,x))).2 _ hw rfl ((pmem _).2 (.inl rfl))
  · left
    have pu:=A6 ok.agd op ok.agd.fit (t:=(bQ c.field.points x c.now).1) (n:=c.certs.next_) t1 t2 n0 n1 fresh;refine ⟨?_,?_,.inr op⟩
    · unfold jK dU
      simp only [hc,aD,show ((0:Int) !=0)=false from rfl,cond_false,ad,show ((0:Int)==8)=false from rfl,p1,p2,aL q1,aL q2,oD ok,wh,hw,cond_true,pu,show ((18:Int) !=0)=true from rfl]
    · unfold mU
      simp only [rd,aD,show ((0:Int) !=0)=false from rfl,cond_false,lN ok,rw',hw,Bool.not_true,uR ok.agd.so,aL op,Bool.not_false,cond_true]
theorem Up.inj {cs:List wC} (h:Up cs) {x y:wC} (hx:x∈cs) (hy:y∈cs) (he:x.1=y.1):x=y:=by
 obtain ⟨i,hi,rfl⟩:=aW.1 hx;obtain ⟨j,hj,rfl⟩:=aW.1 hy;have ub:=xB.1 h;rcases Nat.lt_trichotomy i j with h1|h1|h1
 · have:=ub i j h1 hj;omega
 · rw [h1]
 · have:=ub j i h1 hi;omega
structure O0 (c:aR) (f:List Pt) (i k:Nat) (a:aO) (ds:List wC):Prop where
 ok:fS a
 w2:a.where_.length=200
 new:bB f c.now a.heap (c.certs.list.take i) ds
 old:bB c.field.points c.now a.heap (c.certs.list.drop i) (c.due.drop k)
 kl:k<=c.due.length
 cnt:a.heap.length=ds.length+(c.due.length-k)
theorem aRm {a:aO} (ok:fS a) {w:Nat} (hw:w<a.heap.length):(fG a w).heap.length=a.heap.length-1/\(fG a w).where_.length=a.where_.length:=by
 have rem:=KC ok hw;have h3:(fG a w).slots=gN a.slots (a.heap[w]!).2.2.2:=by unfold fG;split<;>rfl
 have h1:=rem.hl;have h2:=ok.hl;have h4:=rem.wl;rw [h3] at h1 h4;change _+(a.slots.free++[_]).length=a.slots.uses.length at h1;change _=a.slots.uses.length at h4;rw [List.length_append] at h1;simp only [List.length_cons,List.length_nil] at h1;exact ⟨by omega,by rw [h4,ok.wl]⟩
theorem aK4 {a:aO} {t:Int×Int} {n:Int} (ok:fS a) (pok:fS (nL a t n)):(nL a t n).where_.length=a.where_.length:=by
 have:=pok.wl
 change _=(a.slots.uses.set _ _).length at this;rw [List.length_set] at this;rw [this,ok.wl]
section
variable {c : aR} (ok : bM c) {f : List Pt} (fok : cC f) (kn : ∀ i, i < c.certs.list.length -> lM f (c.certs.list[i]!).2)
include ok
theorem I1 {i:Nat} {x:wC} (hx:x∈c.certs.list.take i) (hi:i<c.certs.list.length):x.1≠(c.certs.list[i]!).1:=by
 obtain ⟨j,h1,h2,rfl⟩:=cU.1 hx
 have:=ok.crt.up j i h1 hi
 omega
theorem I2 {i:Nat} {x:wC} (hx:x∈c.certs.list.drop (i+1)) (hi:i<c.certs.list.length):x.1≠(c.certs.list[i]!).1:=by
 obtain ⟨j,h1,rfl⟩:=aW.1 hx;rw [List.length_drop] at h1;rw [xG]
 have:=ok.crt.up i (i+1+j) (by omega) (by omega)
 omega
theorem aBL {i k:Nat} {a:aO} {ds:List wC} (inv:O0 c f i k a ds) (hi:i<c.certs.list.length) (was:(bQ c.field.points (c.certs.list[i]!).2 c.now).2=false): ∀e∈a.heap,Ev.num e≠(c.certs.list[i]!).1:=by
 have u1:Up (c.certs.list.take i):=ok.crt_up.sublist (List.take_sublist _ _);have u2:Up (c.certs.list.drop i):=ok.crt_up.sublist (List.drop_sublist _ _);have d1:=inv.new.up u1;have d2:=inv.old.up u2;have cross: ∀x∈ds,∀y∈c.due.drop k,x.1<y.1:=by
  intro x hx y hy;obtain ⟨p,hp,h1,_⟩:=inv.new.due x hx;obtain ⟨q,hq,h2,_⟩:=inv.old.due y hy;obtain ⟨m,m1,m2,rfl⟩:=cU.1 hp;obtain ⟨n,n1,rfl⟩:=aW.1 hq;rw [List.length_drop] at n1;rw [xG] at h2
  have:=ok.crt.up m (i+n) (by omega) (by omega)
  omega
 have nd:((ds++c.due.drop k).map fun x=>x.1).Nodup:=WH (by
  show List.Pairwise _ _;rw [List.pairwise_append];exact ⟨d1,d2,cross⟩)
 have only:=K7 (H:=a.heap) nd (by rw [List.length_map,List.length_append,List.length_drop,inv.cnt];exact Nat.le_refl _) (fun n hn=>by
  obtain ⟨x,hx,rfl⟩:=List.mem_map.1 hn;rcases List.mem_append.1 hx with hx|hx
  · obtain ⟨p,hp,h1,h2,h3⟩:=inv.new.due x hx
    exact ⟨_,h3,h1.symm⟩
  · obtain ⟨p,hp,h1,h2,h3⟩:=inv.old.due x hx
    exact ⟨_,h3,h1.symm⟩)
 intro e he hne;obtain ⟨x,hx,h1⟩:=List.mem_map.1 (only e he);rcases List.mem_append.1 hx with hx|hx
 · obtain ⟨p,hp,h2,_⟩:=inv.new.due x hx
   exact I1 ok hp hi (by rw [<- h2,h1,hne])
 · obtain ⟨p,hp,h2,h3,_⟩:=inv.old.due x hx
   have hp':p∈c.certs.list:=List.mem_of_mem_drop hp
   have:=ok.crt_up.inj hp' (aQ hi) (by rw [<- h2,h1,hne])
   rw [this,was] at h3;cases h3
def stP (c:aR) (f:List Pt) (i:Nat) (a:aO) (ds:List wC):=
 (c.certs.list,(c.certs.list.length:Int),(i:Int),c.now.1,c.now.2,c.field.points,c.certs.next_,c.certs.list,c.agenda.slots.uses,c.agenda.slots.used,c.agenda.slots.free,c.agenda.heap,c.agenda.where_,c.due,f,(0:Int),(0:Int),(0:Int),c.now.1,c.now.2,c.certs.next_,c.certs.list,a.slots.uses,a.slots.used,a.slots.free,a.heap,a.where_,f,ds)
def stR (c:aR) (f:List Pt) (i:Nat) (a:aO) (ds:List wC):=
 ((i:Int),c.now.1,c.now.2,c.field.points,c.certs.next_,c.certs.list,c.agenda.slots.uses,c.agenda.slots.used,c.agenda.slots.free,c.agenda.heap,c.agenda.where_,c.due,f,(0:Int),(0:Int),(0:Int),c.now.1,c.now.2,f,c.certs.next_,c.certs.list,a.slots.uses,a.slots.used,a.slots.free,a.heap,a.where_,ds)
include fok kn
theorem aDZ {i k:Nat} {a:aO} {ds:List wC} (inv:O0 c f i k a ds) (hi:i<c.certs.list.length) (hds:ds.length<=i):
 (dZ (stP c f i a ds)=some (.done (.done (gE,18)))/\cX (stR c f i a ds)=some (.done (gE,18)))\/
 ∃k' a' ds',dZ (stP c f i a ds)=some (.next (stP c f (i+1) a' ds'))/\cX (stR c f i a ds)=some (.next (stR c f (i+1) a' ds'))/\O0 c f (i+1) k' a' ds'/\ds'.length<=i+1:=by
 have bd:=ok.bd;have e1:decide ((i:Int)<(c.certs.list.length:Int))=true:=aP (by omega)
 have sc:=bF (show i<1000000000 by omega)
 have cg:=aB c.certs.list i hi;have hb:=kn i hi;have wn:=AC fok (x:=(c.certs.list[i]!).2) (t:=(c.now.1,c.now.2)) (ok.crt.cv i hi) ok.nowv ok.now64;rw [if_pos hb] at wn;have wr:=AD fok (x:=(c.certs.list[i]!).2) (t:=(c.now.1,c.now.2)) ok.now64 hb;have pd:=QZ ok.due_up (by omega) (c.certs.list[i]!).1
 have da:=WI c (c.certs.list[i]!).1 (by omega)
 have dr:=xH hi;have tk:=iI hi;have old:=inv.old;rw [dr] at old;have aeta:aO.mk (aY.mk a.slots.uses a.slots.used a.slots.free) a.heap a.where_=a:=rfl
 have ceta:(aR.mk (c.now.1,c.now.2) (Field.mk c.field.points) (bK.mk c.certs.next_ c.certs.list) (aO.mk (aY.mk c.agenda.slots.uses c.agenda.slots.used c.agenda.slots.free) c.agenda.heap c.agenda.where_) c.due)=c:=rfl;have other: ∀x∈c.certs.list.take i,x.1≠(c.certs.list[i]!).1:=fun x hx=>I1 ok hx hi
 have other': ∀x∈c.certs.list.drop (i+1),x.1≠(c.certs.list[i]!).1:=fun x hx=>I2 ok hx hi
 cases hwas:(bQ c.field.points (c.certs.list[i]!).2 c.now).2 with
 |true=>
  obtain ⟨d,ds',hd1,hd2,hd3,hd4⟩:=(bB.cons_true hwas).1 old;have hk:k<c.due.length:=by
   refine Classical.byContradiction fun h=>?_
   rw [List.drop_eq_nil_of_le (by omega)] at hd1
   cases hd1
  have dk:=xH hk;rw [dk] at hd1;injection hd1 with hd5 hd6;subst hd5 hd6;obtain ⟨w,hw,hev⟩:=aW.1 hd3;have hh:(a.heap[w]!).2.2.2=(c.due[k]!).2:=by rw [hev]
  have hnum:Ev.num a.heap[w]! =(c.certs.list[i]!).1:=by rw [hev]
  have before: ∀j,j<k->(c.due[j]!).1≠(c.certs.list[i]!).1:=fun j hj he=>by
   have:=xB.1 ok.due_up j k hj hk
   omega
  have pl:=pd.1 k hk hd2;have dq:=da.1 k hk hd2 before;have gk:=aB c.due k hk;have k0:decide ((0:Int)<=(k:Int))=true:=aP (by omega)
  have ap:cB ds [c.due[k]!]=some (ds++[c.due[k]!]):=gG (by simp;omega)
  cases his:(bQ f (c.certs.list[i]!).2 c.now).2 with
  |true=>
   right;have tt:cM (bQ f (c.certs.list[i]!).2 c.now).1/\sS (bQ f (c.certs.list[i]!).2 c.now).1:=OC (iC fok hb.2).1 (iC fok hb.1).1 ok.now64 ok.nowv his;obtain ⟨t1,t2⟩:=tt;have re:=LR inv.ok inv.ok.fit (t:=(bQ f (c.certs.list[i]!).2 c.now).1) hw hh t1 t2;have rr:=KB inv.ok (t:=(bQ f (c.certs.list[i]!).2 c.now).1) hw hh t1 t2
   have rok:=aDT inv.ok hw t1 t2;have rmem:=aBK inv.ok hw t1;have rlen:=KA inv.ok hw t1;have stay: ∀(cs:List wC),(∀x∈cs,x.1≠(c.certs.list[i]!).1)-> ∀x∈cs,∀e:Ev,e.num=x.1->e∈a.heap->e∈(lW a w (bQ f (c.certs.list[i]!).2 c.now).1).heap:=by
    intro cs hcs x hx e he hm;refine (rmem e).2 (.inr ⟨hm,fun h=>hcs x hx ?_⟩)
    rw [<- he,h,hnum]
   refine ⟨k+1,lW a w (bQ f (c.certs.list[i]!).2 c.now).1,ds++[c.due[k]!],?_,?_,⟨rok,by rw [rlen.2];exact inv.w2,?_,?_,by omega,?_⟩,by simp;omega⟩
   · unfold dZ stP
     simp only [e1,cond_true,cg,aD,wn,pl,his,gk,aeta,re,ap,show ((0:Int) !=0)=false from rfl,cond_false,sc]
   · unfold cX stR
     simp only [aF,e1,cond_true,cg,aD,ceta,dq,wr,his,k0,gk,aeta,rr,ap,Bool.not_true,cond_false,sc]
   · rw [tk]
     exact ((inv.new.mono (stay _ other)).snoc (x:=c.certs.list[i]!)).2 _ his hd2 ((rmem _).2 (.inl (by
      show _=((bQ f (c.certs.list[i]!).2 c.now).1.1,(bQ f (c.certs.list[i]!).2 c.now).1.2,(a.heap[w]!).2.2);rw [hev])))
   · exact hd4.mono (stay _ other')
   · rw [rlen.1,inv.cnt,List.length_append]
     simp only [List.length_cons,List.length_nil];omega
  |false=>
   right;have rv:=A8 inv.ok hw inv.ok.fit hh;have rr:=A9 inv.ok hw hh;have rok:=KC inv.ok hw;have rmem:=OT inv.ok hw;have rlen:=aRm inv.ok hw;have stay: ∀(cs:List wC),(∀x∈cs,x.1≠(c.certs.list[i]!).1)-> ∀x∈cs,∀e:Ev,e.num=x.1->e∈a.heap->e∈(fG a w).heap:=by
    intro cs hcs x hx e he hm;refine (rmem e).2 ⟨hm,fun h=>hcs x hx ?_⟩
    rw [<- he,h,hnum]
   refine ⟨k+1,fG a w,ds,?_,?_,⟨rok,by rw [rlen.2];exact inv.w2,?_,hd4.mono (stay _ other'),by omega,?_⟩,by omega⟩
   · unfold dZ stP
     simp only [e1,cond_true,cg,aD,wn,pl,his,gk,aeta,rv,show ((0:Int) !=0)=false from rfl,cond_false,sc]
   · unfold cX stR
     simp only [aF,e1,cond_true,cg,aD,ceta,dq,wr,his,k0,gk,aeta,rr,Bool.not_false,cond_false,sc]
   · rw [tk]
     exact ((inv.new.mono (stay _ other)).snoc (x:=c.certs.list[i]!)).1 his
   · have:=inv.cnt
     rw [rlen.1];omega
 |false=>
  have fol:=(bB.cons_false hwas).1 old;have no: ∀j,j<c.due.length->(c.due[j]!).1≠(c.certs.list[i]!).1:=by
   intro j hj he;obtain ⟨x,hx,h1,h2,_⟩:=ok.fol.due _ (aQ hj)
   have:=ok.crt_up.inj hx (aQ hi) (by rw [<- h1,he])
   rw [this,hwas] at h2;cases h2
  obtain ⟨m,pl⟩:=pd.2 no;have dq:=da.2 no;have k0:decide ((0:Int)<= -1)=false:=aL (by omega)
  cases his:(bQ f (c.certs.list[i]!).2 c.now).2 with
  |true=>
   have tt:cM (bQ f (c.certs.list[i]!).2 c.now).1/\sS (bQ f (c.certs.list[i]!).2 c.now).1:=OC (iC fok hb.2).1 (iC fok hb.1).1 ok.now64 ok.nowv his;obtain ⟨t1,t2⟩:=tt;have n0:=(ok.crt.nr i hi).1;have n1:(c.certs.list[i]!).1<=1000000:=by have:=(ok.crt.nr i hi).2;have:=ok.crt.n1;omega
   have fresh:=aBL ok inv hi hwas
   by_cases op:C2 a.slots
   · right
     have pu:=A5 inv.ok op inv.ok.fit (t:=(bQ f (c.certs.list[i]!).2 c.now).1) (n:=(c.certs.list[i]!).1) t1 t2 n0 n1 fresh;have rp:=C3 inv.ok op (t:=(bQ f (c.certs.list[i]!).2 c.now).1) (n:=(c.certs.list[i]!).1) t1 t2 n0 n1;have pok:=aAz inv.ok op (t:=(bQ f (c.certs.list[i]!).2 c.now).1) (n:=(c.certs.list[i]!).1) t1 t2 n0 n1 fresh
     have pmem:=V8 inv.ok op (t:=(bQ f (c.certs.list[i]!).2 c.now).1) (n:=(c.certs.list[i]!).1) t1;have plen:=IX inv.ok op (t:=(bQ f (c.certs.list[i]!).2 c.now).1) (n:=(c.certs.list[i]!).1) t1;have ap: ∀h:Int×Int,cB ds [((c.certs.list[i]!).1,h)]=some (ds++[((c.certs.list[i]!).1,h)]):=fun h=>gG (by simp;omega)
     have opn:=uR inv.ok.so;rw [aP op] at opn;refine ⟨k,nL a (bQ f (c.certs.list[i]!).2 c.now).1 (c.certs.list[i]!).1,ds++[((c.certs.list[i]!).1,nK a.slots)],?_,?_,⟨pok,by rw [aK4 inv.ok pok];exact inv.w2,?_,?_,inv.kl,?_⟩,by simp;omega⟩
     · unfold dZ stP
       simp only [e1,cond_true,cg,aD,wn,pl,his,aeta,pu,ap,show ((0:Int) !=0)=false from rfl,cond_false,sc]
     · unfold cX stR
       simp only [aF,e1,cond_true,cg,aD,ceta,dq,wr,his,k0,aeta,rp,ap,Bool.not_true,cond_false,sc,opn]
     · rw [tk]
       exact ((inv.new.mono fun x hx e he hm=>(pmem e).2 (.inr hm)).snoc (x:=c.certs.list[i]!)).2 _ his rfl ((pmem _).2 (.inl rfl))
     · exact fol.mono fun x hx e he hm=>(pmem e).2 (.inr hm)
     · have:=inv.cnt
       rw [plen,List.length_append];simp only [List.length_cons,List.length_nil];omega
   · left
     have pu:=A6 inv.ok op inv.ok.fit (t:=(bQ f (c.certs.list[i]!).2 c.now).1) (n:=(c.certs.list[i]!).1) t1 t2 n0 n1 fresh;have ap: ∀h:Int×Int,cB ds [((c.certs.list[i]!).1,h)]=some (ds++[((c.certs.list[i]!).1,h)]):=fun h=>gG (by simp;omega)
     have opn:=uR inv.ok.so;rw [aL op] at opn;constructor
     · unfold dZ stP
       simp only [e1,cond_true,cg,aD,wn,pl,his,aeta,pu,ap,show ((18:Int) !=0)=true from rfl,cond_false]
     · unfold cX stR
       simp only [aF,e1,cond_true,cg,aD,ceta,dq,wr,his,k0,aeta,Bool.not_true,Bool.not_false,cond_false,opn]
  |false=>
   right;refine ⟨k,a,ds,?_,?_,⟨inv.ok,inv.w2,?_,fol,inv.kl,inv.cnt⟩,by omega⟩
   · unfold dZ stP
     simp only [e1,cond_true,cg,aD,wn,pl,his,show ((0:Int) !=0)=false from rfl,cond_false,sc]
   · unfold cX stR
     simp only [aF,e1,cond_true,cg,aD,ceta,dq,wr,his,k0,Bool.not_false,cond_false,sc]
   · rw [tk]
     exact (inv.new.snoc (x:=c.certs.list[i]!)).1 his
theorem aT1:
 (rF c ⟨f⟩=some (gE,18)/\nV c ⟨f⟩=some (gE,18))\/
 ∃c':aR,rF c ⟨f⟩=some (c',0)/\nV c ⟨f⟩=some (c',0)/\bM c'/\c'.field.points=f/\c'.now=c.now/\c'.certs=c.certs:=by
 have bd:=ok.bd;have f64:=fok.1;have run: ∀(d i k:Nat) (a:aO) (ds:List wC),c.certs.list.length-i<=d->i<=c.certs.list.length->O0 c f i k a ds->ds.length<=i->
  (aI dZ (stP c f i a ds)=some (.done (gE,18))/\aI cX (stR c f i a ds)=some (gE,18))\/
  ∃c':aR,aI dZ (stP c f i a ds)=some (.done (c',0))/\aI cX (stR c f i a ds)=some (c',0)/\bM c'/\c'.field.points=f/\c'.now=c.now/\c'.certs=c.certs:=by
  have fin: ∀(k:Nat) (a:aO) (ds:List wC),O0 c f c.certs.list.length k a ds-> ∃c':aR,aI dZ (stP c f c.certs.list.length a ds)=some (.done (c',0))/\aI cX (stR c f c.certs.list.length a ds)=some (c',0)/\bM c'/\c'.field.points=f/\c'.now=c.now/\c'.certs=c.certs:=by
   intro k a ds inv;have e1:decide ((c.certs.list.length:Int)<(c.certs.list.length:Int))=false:=aL (by omega)
   have hk:c.due.length-k=0:=by
    have:=inv.old
    rw [List.drop_length] at this
    have:c.due.drop k=[]:=this
    rw [List.drop_eq_nil_iff] at this;omega
   have new:=inv.new;rw [List.take_length] at new;refine ⟨⟨c.now,⟨f⟩,c.certs,a,ds⟩,aJ ?_,aJ ?_,⟨ok.nowv,ok.now64,fok,ok.crt,inv.ok,inv.w2,?_,kn,new⟩,rfl,rfl,rfl⟩
   · unfold dZ stP
     simp only [e1,cond_false]
   · unfold cX stR
     simp only [aF,e1,cond_false]
   · have:=inv.cnt
     show a.heap.length=ds.length;omega
  intro d
  induction d with
  |zero=>
   intro i k a ds hd hi inv hds
   have:i=c.certs.list.length:=by omega
   subst this;exact .inr (fin k a ds inv)
  |succ d ih=>
   intro i k a ds hd hi inv hds
   by_cases he:i=c.certs.list.length
   · subst he;exact .inr (fin k a ds inv)
   rcases aDZ ok fok kn inv (by omega) hds with ⟨h1,h2⟩|⟨k',a',ds',h1,h2,h3,h4⟩
   · exact .inl ⟨aJ h1,aJ h2⟩
   · rw [aU h1,aU h2]
     exact ih (i+1) k' a' ds' (by omega) (by omega) h3 h4
 have start:=run c.certs.list.length 0 0 c.agenda [] (by omega) (by omega) ⟨ok.agd,ok.w200,rfl,by rw [List.drop_zero,List.drop_zero];exact ok.fol,by omega,by have:=ok.hd;simp;omega⟩ (by simp)
 have hc:iG c=some 0:=by rw [oY ok.fit,if_pos ok]
 have hf:dL ⟨f⟩=some 0:=by rw [gA];exact congrArg some (eV.2 fok)
 have tw:=oD ok;have tw':oS (aR.mk (c.now.1,c.now.2) (Field.mk c.field.points) (bK.mk c.certs.next_ c.certs.list) (aO.mk (aY.mk c.agenda.slots.uses c.agenda.slots.used c.agenda.slots.free) c.agenda.heap c.agenda.where_) c.due)=some c:=tw
 have first:aI mF (c.certs.list,(c.certs.list.length:Int),0,c.now.1,c.now.2,c.field.points,c.certs.next_,c.certs.list,c.agenda.slots.uses,c.agenda.slots.used,c.agenda.slots.free,c.agenda.heap,c.agenda.where_,c.due,f,0,0,0)=
  aI mF (c.certs.list,(c.certs.list.length:Int),(c.certs.list.length:Int),c.now.1,c.now.2,c.field.points,c.certs.next_,c.certs.list,c.agenda.slots.uses,c.agenda.slots.used,c.agenda.slots.free,c.agenda.heap,c.agenda.where_,c.due,f,0,0,0):=by
  refine eU (body:=mF) (fun i=>(c.certs.list,(c.certs.list.length:Int),(i:Int),c.now.1,c.now.2,c.field.points,c.certs.next_,c.certs.list,c.agenda.slots.uses,c.agenda.slots.used,c.agenda.slots.free,c.agenda.heap,c.agenda.where_,c.due,f,0,0,0)) c.certs.list.length (fun i hi=>?_)
  have e1:decide ((i:Int)<(c.certs.list.length:Int))=true:=aP (by omega)
  unfold mF;simp only [e1,cond_true,aB c.certs.list i hi,aD,oX fok,aL (S9 fok (kn i hi).1),aL (S9 fok (kn i hi).2),cond_false,bF (show i<1000000000 by omega)]
 have second: ∀r,aI dZ (stP c f 0 c.agenda [])=some (.done r)->rF c ⟨f⟩=some r:=by
  intro r hr;unfold rF;simp only [hc,aD,show ((0:Int) !=0)=false from rfl,cond_false,hf,aF];rw [first]
  refine aJ ?_;unfold mF;have e1:decide ((c.certs.list.length:Int)<(c.certs.list.length:Int))=false:=aL (by omega)
  simp only [aF,e1,cond_false,tw',aD,bE (show f.length<=1048576 by omega)]
  exact hr
 have third: ∀r,aI cX (stR c f 0 c.agenda [])=some r->nV c ⟨f⟩=some r:=by
  intro r hr;unfold nV lE;simp only [lN ok,aD,bE (show f.length<=1048576 by omega)]
  exact hr
 rcases start with ⟨h1,h2⟩|⟨c',h1,h2,h3⟩
 · exact .inl ⟨second _ h1,third _ h2⟩
 · exact .inr ⟨c',second _ h1,third _ h2,h3⟩
end
theorem oE (l:List (Int×Int)) (x:Int×Int) (hl:l.length<=1000000):gI l x=some (decide (x∈l)):=by
 unfold gI sE;have key:=mX (body:=kY) (fun i=>(l,(l.length:Int),(i:Int),x)) l.length (fun i=>l[i]! =x) (fun i=>(i:Int)) (e:= -1) (fun i hi=>by
  have e1:decide ((i:Int)<(l.length:Int))=true:=aP (by omega)
  unfold kY;simp only [e1,cond_true,aB l i hi,aD,bF (show i<1000000000 by omega)]
  generalize l[i]! =y;constructor
  · intro h;rw [eZ (congrArg Prod.fst h.symm),eZ (congrArg Prod.snd h.symm)];rfl
  · intro h
    by_cases h1:x.1=y.1
    · rw [eZ h1,eM (fun h2=>h (Prod.ext h1.symm h2.symm))];rfl
    · rw [eM h1];rfl) (by
  unfold kY
  have:decide ((l.length:Int)<(l.length:Int))=false:=aL (by omega)
  simp only [this,cond_false])
 rw [aF]
 by_cases hx:x∈l
 · obtain ⟨i,hi,he⟩:=aW.1 hx
   obtain ⟨k,h1,h2,h3⟩:=D0 (c:=fun i=>l[i]! =x) ⟨i,hi,he⟩
   have:=key.1 k h1 h2 h3
   rw [show ((0:Nat):Int)=0 from rfl] at this;rw [this,aP hx];simp only [aD,aP (show (0:Int)<=(k:Int) by omega)]
 · have:=key.2 fun i hi he=>hx (aW.2 ⟨i,hi,he⟩)
   rw [show ((0:Nat):Int)=0 from rfl] at this;rw [this,aL hx];rfl
theorem K9 (l:List (Int×Int)) (x:Int×Int) (hl:l.length<=1000000):IJ l x=some (decide (x∈l)):=by
 unfold IJ;have key:=dP (body:=yT) (fun i=>(l,(i:Int),x)) l.length (fun i=>l[i]! =x) (r:=true) (e:=false) (fun i hi=>by
  have e1:decide ((i:Int)<(l.length:Int))=true:=aP (by omega)
  unfold yT;simp only [aF,e1,cond_true,aB l i hi,aD,bF (show i<1000000000 by omega)]
  generalize l[i]! =y;constructor
  · intro h;rw [eZ (congrArg Prod.fst h),eZ (congrArg Prod.snd h)];rfl
  · intro h
    by_cases h1:y.1=x.1
    · rw [eZ h1,eM (fun h2=>h (Prod.ext h1 h2))];rfl
    · rw [eM h1];rfl) (by
  unfold yT
  have:decide ((l.length:Int)<(l.length:Int))=false:=aL (by omega)
  simp only [aF,this,cond_false])
 by_cases hx:x∈l
 · rw [aP hx];exact key.1 (aW.1 hx)
 · rw [aL hx];exact key.2 fun i hi he=>hx (aW.2 ⟨i,hi,he⟩)
theorem aD0 (x y:wC):((x.1==y.1)&&((x.2.1==y.2.1)&&(x.2.2==y.2.2)))=decide (x=y):=by
 rw [Bool.eq_iff_iff,decide_eq_true_iff];simp only [Bool.and_eq_true,beq_iff_eq];constructor
 · rintro ⟨h1,h2,h3⟩;exact Prod.ext h1 (Prod.ext h2 h3)
 · rintro rfl;exact ⟨rfl,rfl,rfl⟩
theorem WJ (a b:List wC) (hl:a.length<=1000000):B3 ⟨a⟩ ⟨b⟩=some (decide (a=b)):=by
 unfold B3;simp only [aF]
 by_cases h:a.length=b.length
 case neg=>rw [fI (by omega),aL (fun k=>h (by rw [k]))];rfl
 rw [cL (by omega)]
 simp only [cond_false];have key:=dP (body:=uE) (fun i=>((i:Int),a,b)) a.length (fun i=> ¬a[i]! =b[i]!) (r:=false) (e:=true) (fun i hi=>by
  have e1:decide ((i:Int)<(a.length:Int))=true:=aP (by omega)
  unfold uE;simp only [aF,e1,cond_true,aB a i hi,aB b i (by omega),aD,bF (show i<1000000000 by omega),aD0]
  constructor
  · intro h;rw [aL h];rfl
  · intro h;rw [aP (Classical.not_not.1 h)];rfl) (by
  unfold uE
  have:decide ((a.length:Int)<(a.length:Int))=false:=aL (by omega)
  simp only [aF,this,cond_false])
 by_cases he:a=b
 · rw [aP he]
   exact key.2 fun i hi=>Classical.not_not.2 (by rw [he])
 · rw [aL he]
   refine key.1 (Classical.byContradiction fun hx=>he (IQ h fun i hi=>?_))
   exact Classical.byContradiction fun hn=>hx ⟨i,hi,hn⟩
theorem I3 (a b:List wC) (hl:a.length<=1000000):nI a b=some (decide (a=b)):=by
 unfold nI;simp only [aF]
 by_cases h:a.length=b.length
 case neg=>rw [fI (by omega),aL (fun k=>h (by rw [k]))];rfl
 rw [cL (by omega)]
 simp only [cond_false];have key:=dP (body:=kC) (fun i=>(a,b,(a.length:Int),(i:Int))) a.length (fun i=> ¬a[i]! =b[i]!) (r:=false) (e:=true) (fun i hi=>by
  have e1:decide ((i:Int)<(a.length:Int))=true:=aP (by omega)
  unfold kC;simp only [e1,cond_true,aB a i hi,aB b i (by omega),aD,bF (show i<1000000000 by omega),aD0]
  constructor
  · intro h;rw [aL h];rfl
  · intro h;rw [aP (Classical.not_not.1 h)];rfl) (by
  unfold kC
  have:decide ((a.length:Int)<(a.length:Int))=false:=aL (by omega)
  simp only [this,cond_false])
 by_cases he:a=b
 · rw [aP he]
   exact key.2 fun i hi=>Classical.not_not.2 (by rw [he])
 · rw [aL he]
   refine key.1 (Classical.byContradiction fun hx=>he (IQ h fun i hi=>?_))
   exact Classical.byContradiction fun hn=>hx ⟨i,hi,hn⟩
theorem aBO {cs:List wC} {m:Nat} {x:wC} (hx:x∈cs) (hne:x.1≠(cs[m]!).1):x∈cs.eraseIdx m:=by
 obtain ⟨j,hj,rfl⟩:=aW.1 hx;have hjm:j≠m:=fun h=>hne (by rw [h])
 rw [yB,List.mem_append]
 by_cases h:j<m
 · exact .inl (cU.2 ⟨j,h,hj,rfl⟩)
 · right
   rw [aW];refine ⟨j- (m+1),by rw [List.length_drop];omega,?_⟩
   rw [xG]
   congr 1;omega
def kP (c0:aR) (f:List Pt) (es:List (Int×Int)) (i:Nat) (c:aR):=
 (es,c0.certs.list,(c0.certs.list.length:Int),(i:Int),c.now.1,c.now.2,c.field.points,c.certs.next_,c.certs.list,c.agenda.slots.uses,c.agenda.slots.used,c.agenda.slots.free,c.agenda.heap,c.agenda.where_,c.due,f,(0:Int),(0:Int),(0:Int))
def kR (c0:aR) (f:List Pt) (es:List (Int×Int)) (i:Nat) (c:aR):=
 (es,(i:Int),c0.now.1,c0.now.2,c0.field.points,c0.certs.next_,c0.certs.list,c0.agenda.slots.uses,c0.agenda.slots.used,c0.agenda.slots.free,c0.agenda.heap,c0.agenda.where_,c0.due,f,(0:Int),(0:Int),(0:Int),c.now.1,c.now.2,c.field.points,c.certs.next_,c.certs.list,c.agenda.slots.uses,c.agenda.slots.used,c.agenda.slots.free,c.agenda.heap,c.agenda.where_,c.due)
def eP (es:List (Int×Int)) (i:Nat) (c:aR):=
 (es,(es.length:Int),(i:Int),c.now.1,c.now.2,c.field.points,c.certs.next_,c.certs.list,c.agenda.slots.uses,c.agenda.slots.used,c.agenda.slots.free,c.agenda.heap,c.agenda.where_,c.due,(0:Int),(0:Int),(0:Int))
def eR (es:List (Int×Int)) (i:Nat) (c:aR):=
 (es,(i:Int),(0:Int),(0:Int),(0:Int),c.now.1,c.now.2,c.field.points,c.certs.next_,c.certs.list,c.agenda.slots.uses,c.agenda.slots.used,c.agenda.slots.free,c.agenda.heap,c.agenda.where_,c.due)
def I4 (c:aR):Int:=c.certs.next_- (c.certs.list.length:Int)
structure Q0 (c:aR) (f:List Pt) (es:List (Int×Int)) (r:aR):Prop where
 has: ∀e∈es,xA r.certs.list e
 sub: ∀x∈r.certs.list,x.2∈es
 ok:bM r
 fld:r.field.points=f
 now:r.now=c.now
 room:I4 c<=I4 r
def Q1 (c:aR) (k:Nat):Prop:=c.certs.list.length<=k/\c.certs.next_<=k/\ ∀j,j<c.agenda.slots.uses.length->c.agenda.slots.uses[j]!<=k
theorem bB.len {l:List Pt} {t:Int×Int} {H:List Ev}: ∀{cs ds:List wC},bB l t H cs ds->ds.length<=cs.length
 | [],ds,h=>by rw [show ds=[] from h];exact Nat.le_refl _
 |x::cs,ds,h=>by
  cases hy:(bQ l x.2 t).2 with
  |true=>
   obtain ⟨d,ds',rfl,_,_,h4⟩:=h.1 hy;exact Nat.succ_le_succ h4.len
  |false=>exact Nat.le_succ_of_le (h.2 hy).len
theorem Q1.not_full {c:aR} (ok:bM c) {k:Nat} (h:Q1 c k) (hk:k<=199): ¬(IZ c.certs\/ ¬C2 c.agenda.slots):=by
 obtain ⟨h1,h2,h3⟩:=h;have fl:=ok.fol.len;have hd:=ok.hd;have hl:=ok.agd.hl;have wl:=ok.agd.wl;have w2:=ok.w200;rintro (h|h)
 · rcases h with h|h<;>omega
 · refine h ⟨by omega,?_⟩
   have:=h3 _ (E5 ok.agd.so (by omega)).1
   omega
theorem Q1.more {c c':aR} {k:Nat} (h:Q1 c k) {x:Int×Int} (hc:c'.certs=sO c.certs x) (hs:c'.agenda.slots=c.agenda.slots\/c'.agenda.slots=iJ c.agenda.slots):Q1 c' (k+1):=by
 obtain ⟨h1,h2,h3⟩:=h;refine ⟨?_,?_,fun j hj=>?_⟩
 · rw [hc]
   show (c.certs.list++[(c.certs.next_,x)]).length<=_;rw [List.length_append,List.length_singleton];omega
 · rw [hc]
   show c.certs.next_+1<=_;omega
 · rcases hs with e|e
   · rw [e] at hj ⊢
     have:=h3 j hj;omega
   · rw [e] at hj ⊢
     change j<(c.agenda.slots.uses.set _ _).length at hj;rw [List.length_set] at hj;show (c.agenda.slots.uses.set (dI c.agenda.slots) (c.agenda.slots.uses[dI c.agenda.slots]!+1))[j]!<=_;rw [bG];split
     · rename_i h;have:=h3 _ h.2;omega
     · have:=h3 j hj;omega
structure I5 (f:List Pt) (es:List (Int×Int)):Prop where
 len:es.length<=1000000
 cv: ∀x∈es,gK x
 kn: ∀x∈es,lM f x
theorem aD1 {c0:aR} (ok0:bM c0) {f:List Pt} {es:List (Int×Int)} (eok:I5 f es):
 ∀(d i:Nat) (c:aR),c0.certs.list.length-i<=d->i<=c0.certs.list.length->bM c->(∀x∈c0.certs.list.drop i,x∈c.certs.list)->(∀x∈c.certs.list,x∈c0.certs.list.drop i\/x.2∈es)->
  ∃c':aR,aI dN (kP c0 f es i c)=aI dN (kP c0 f es c0.certs.list.length c')/\aI dY (kR c0 f es i c)=aI dY (kR c0 f es c0.certs.list.length c')/\bM c'/\(∀x∈c'.certs.list,x.2∈es)/\c'.field=c.field/\c'.now=c.now/\I4 c<=I4 c':=by
 have bd:=ok0.bd;intro d
 induction d with
 |zero=>
  intro i c hd hi ok h1 h2
  have:i=c0.certs.list.length:=by omega
  subst this;refine ⟨c,rfl,rfl,ok,fun x hx=>?_,rfl,rfl,Int.le_refl _⟩
  rcases h2 x hx with h|h
  · rw [List.drop_length] at h;cases h
  · exact h
 |succ d ih=>
  intro i c hd hi ok h1 h2
  by_cases he:i=c0.certs.list.length
  · subst he
    refine ⟨c,rfl,rfl,ok,fun x hx=>?_,rfl,rfl,Int.le_refl _⟩
    rcases h2 x hx with h|h
    · rw [List.drop_length] at h;cases h
    · exact h
  have hi':i<c0.certs.list.length:=by omega
  have e1:decide ((i:Int)<(c0.certs.list.length:Int))=true:=aP (by omega)
  have sc:=bF (show i<1000000000 by omega)
  have cg:=aB c0.certs.list i hi';have dr:=xH hi';have ceta:(aR.mk (c.now.1,c.now.2) (Field.mk c.field.points) (bK.mk c.certs.next_ c.certs.list) (aO.mk (aY.mk c.agenda.slots.uses c.agenda.slots.used c.agenda.slots.free) c.agenda.heap c.agenda.where_) c.due)=c:=rfl
  by_cases hin:(c0.certs.list[i]!).2∈es
  · have s1:dN (kP c0 f es i c)=some (.next (kP c0 f es (i+1) c)):=by
     unfold dN kP;simp only [e1,cond_true,cg,aD,oE _ _ eok.len,aP hin,Bool.not_true,cond_false,sc]
    have s2:dY (kR c0 f es i c)=some (.next (kR c0 f es (i+1) c)):=by
     unfold dY kR;simp only [aF,e1,cond_true,cg,aD,K9 _ _ eok.len,aP hin,Bool.not_true,cond_false,sc]
    rw [aU s1,aU s2];refine ih (i+1) c (by omega) (by omega) ok (fun x hx=>h1 x (by rw [dr];exact List.mem_cons_of_mem _ hx)) (fun x hx=>?_)
    rcases h2 x hx with h|h
    · rw [dr] at h
      rcases List.mem_cons.1 h with rfl|h
      · exact .inr hin
      · exact .inl h
    · exact .inr h
  · have hm:=h1 (c0.certs.list[i]!) (by rw [dr];exact List.mem_cons_self)
    obtain ⟨m,hm1,hm2⟩:=aW.1 hm;obtain ⟨c',r1,r2,r3,r4,r5,r6⟩:=aRl ok hm1;have rt:=LS ok hm1 r1;rw [hm2] at r2 rt;have s1:dN (kP c0 f es i c)=some (.next (kP c0 f es (i+1) c')):=by
     unfold dN kP;simp only [e1,cond_true,cg,aD,oE _ _ eok.len,aL hin,Bool.not_false,sc,ceta,rt]
    have s2:dY (kR c0 f es i c)=some (.next (kR c0 f es (i+1) c')):=by
     unfold dY kR;simp only [aF,e1,cond_true,cg,aD,K9 _ _ eok.len,aL hin,Bool.not_false,sc,ceta,r2]
    rw [aU s1,aU s2];have cl:c'.certs.list=c.certs.list.eraseIdx m:=by rw [r6];rfl
    have hroom:I4 c<=I4 c':=by
     unfold I4;rw [r6];show _<=c.certs.next_- (((c.certs.list.eraseIdx m).length:Nat):Int);rw [List.length_eraseIdx_of_lt hm1];omega
    have hs:(∀x∈c0.certs.list.drop (i+1),x∈c'.certs.list)/\(∀x∈c'.certs.list,x∈c0.certs.list.drop (i+1)\/x.2∈es):=by
     refine ⟨fun x hx=>?_,fun x hx=>?_⟩
     · rw [cl]
       refine aBO (h1 x (by rw [dr];exact List.mem_cons_of_mem _ hx)) ?_
       rw [hm2];exact I2 ok0 hx hi'
     · rw [cl] at hx
       obtain ⟨a1,a2⟩:=CN ok.crt_up hm1 hx;rw [hm2] at a2;rcases h2 x a1 with h|h
       · rw [dr] at h
         rcases List.mem_cons.1 h with rfl|h
         · exact absurd rfl a2
         · exact .inl h
       · exact .inr h
    obtain ⟨d',q1,q2,q3,q4,q5,q6,q7⟩:=ih (i+1) c' (by omega) (by omega) r3 hs.1 hs.2
    exact ⟨d',q1,q2,q3,q4,q5.trans r4,q6.trans r5,by omega⟩
theorem WK {f:List Pt} (_fok:cC f) {es:List (Int×Int)} (eok:I5 f es):
 ∀(d i:Nat) (c:aR),es.length-i<=d->i<=es.length->bM c->c.field.points=f->(∀x∈c.certs.list,x.2∈es)->(∀j,j<i->xA c.certs.list es[j]!)->
  ∃r:aR×Int,aI eC (eP es i c)=some (.done r)/\aI eS (eR es i c)=some (.done r)/\(r.2=0/\Q0 c f es r.1\/r=(gE,18))/\(∀k,Q1 c k->k+(es.length-i)<=199->r.2=0):=by
 have el:=eok.len;have fin: ∀c:aR,bM c->c.field.points=f->(∀x∈c.certs.list,x.2∈es)->(∀j,j<es.length->xA c.certs.list es[j]!)-> ∃r:aR×Int,aI eC (eP es es.length c)=some (.done r)/\aI eS (eR es es.length c)=some (.done r)/\(r.2=0/\Q0 c f es r.1\/r=(gE,18))/\r.2=0:=by
  intro c ok hf hs hh;have e1:decide ((es.length:Int)<(es.length:Int))=false:=aL (by omega)
  refine ⟨(c,0),aJ ?_,aJ ?_,.inl ⟨rfl,fun e he=>by obtain ⟨j,hj,q⟩:=aW.1 he;rw [<- q];exact hh j hj,hs,ok,hf,rfl,Int.le_refl _⟩,rfl⟩
  · unfold eC eP
    simp only [e1,cond_false]
  · unfold eS eR
    simp only [aF,e1,cond_false]
 intro d
 induction d with
 |zero=>
  intro i c hd hi ok hf hs hh
  have:i=es.length:=by omega
  subst this;obtain ⟨r,q1,q2,q3,q4⟩:=fin c ok hf hs hh;exact ⟨r,q1,q2,q3,fun _ _ _=>q4⟩
 |succ d ih=>
  intro i c hd hi ok hf hs hh
  by_cases he:i=es.length
  · subst he
    obtain ⟨r,q1,q2,q3,q4⟩:=fin c ok hf hs hh;exact ⟨r,q1,q2,q3,fun _ _ _=>q4⟩
  have bd:=ok.bd;have hi':i<es.length:=by omega
  have e1:decide ((i:Int)<(es.length:Int))=true:=aP (by omega)
  have sc:=bF (show i<1000000000 by omega)
  have cg:=aB es i hi';have ceta:(aR.mk (c.now.1,c.now.2) (Field.mk c.field.points) (bK.mk c.certs.next_ c.certs.list) (aO.mk (aY.mk c.agenda.slots.uses c.agenda.slots.used c.agenda.slots.free) c.agenda.heap c.agenda.where_) c.due)=c:=rfl;have ceta2:bK.mk c.certs.next_ c.certs.list=c.certs:=rfl;have hc:=OW c.certs.list es[i]! (by omega)
  have hr:=CL c.certs es[i]! (by omega)
  by_cases hin:xA c.certs.list es[i]!
  · have s1:eC (eP es i c)=some (.next (eP es (i+1) c)):=by
     unfold eC eP;simp only [e1,cond_true,cg,aD,FC,hc,aP hin,sc]
    have s2:eS (eR es i c)=some (.next (eR es (i+1) c)):=by
     unfold eS eR;simp only [aF,e1,cond_true,cg,aD,ceta2,hr,aP hin,sc]
    rw [aU s1,aU s2];obtain ⟨r,q1,q2,q3,q4⟩:=ih (i+1) c (by omega) (by omega) ok hf hs (fun j hj=>if q:j=i then by rw [q];exact hin else hh j (by omega))
    exact ⟨r,q1,q2,q3,fun k hk hl=>q4 k hk (by omega)⟩
  · have hb:lM c.field.points es[i]!:=by rw [hf];exact eok.kn _ (aQ hi')
    rcases aK3 ok (eok.cv _ (aQ hi')) hb hin with ⟨r1,r2,full⟩|⟨c',r1,r2,r3,r4,r5,r6,r7⟩
    · refine ⟨(gE,18),aJ ?_,aJ ?_,.inr rfl,fun k hk hl=>absurd full (hk.not_full ok (by omega))⟩
      · unfold eC eP
        simp only [e1,cond_true,cg,aD,FC,hc,aL hin,cond_false,ceta,r1,show ((18:Int) !=0)=true from rfl]
      · unfold eS eR
        simp only [aF,e1,cond_true,cg,aD,ceta2,hr,aL hin,cond_false,ceta,r2,show ((18:Int) !=0)=true from rfl]
    · have s1:eC (eP es i c)=some (.next (eP es (i+1) c')):=by
       unfold eC eP;simp only [e1,cond_true,cg,aD,FC,hc,aL hin,cond_false,ceta,r1,show ((0:Int) !=0)=false from rfl,sc]
      have s2:eS (eR es i c)=some (.next (eR es (i+1) c')):=by
       unfold eS eR;simp only [aF,e1,cond_true,cg,aD,ceta2,hr,aL hin,cond_false,ceta,r2,show ((0:Int) !=0)=false from rfl,sc]
      rw [aU s1,aU s2];obtain ⟨r,q1,q2,q3,q6⟩:=ih (i+1) c' (by omega) (by omega) r3 (by rw [r4,hf]) (fun x hx=>by
       rw [r6] at hx;rcases List.mem_append.1 (show x∈c.certs.list++[(c.certs.next_,es[i]!)] from hx) with h|h
       · exact hs x h
       · rw [List.mem_singleton.1 h];exact aQ hi') (fun j hj=>by
       rw [r6];show xA (c.certs.list++[(c.certs.next_,es[i]!)]) _
       by_cases q:j=i
       · rw [q];exact ⟨c.certs.list.length,by rw [List.length_append,List.length_singleton];omega,by rw [mJ (Nat.le_refl _),Nat.sub_self];rfl⟩
       · obtain ⟨w,w1,w2⟩:=hh j (by omega)
         exact ⟨w,by rw [List.length_append];omega,by rw [lK w1];exact w2⟩)
      refine ⟨r,q1,q2,q3.imp (fun ⟨q4,q5⟩=>⟨q4,q5.has,q5.sub,q5.ok,q5.fld,q5.now.trans r5,Int.le_trans ?_ q5.room⟩) id,fun k hk hl=>q6 (k+1) (hk.more r6 r7) (by omega)⟩
      unfold I4;rw [r6];show _<=(c.certs.next_+1) - (((c.certs.list++[(c.certs.next_,es[i]!)]).length:Nat):Int);rw [List.length_append,List.length_singleton];omega
theorem aK5 {c:aR} (ok:bM c) {f:List Pt} (fok:cC f) {es:List (Int×Int)} (eok:I5 f es):
 ∃r:aR×Int,oT c ⟨f⟩ es=some r/\nW c ⟨f⟩ es=some r/\(r.2=0/\Q0 c f es r.1\/r=(gE,18)):=by
 have f64:=fok.1;obtain ⟨c',g1,g2,g3,g4,g5,g6,g7⟩:=aD1 ok eok c.certs.list.length 0 c (by omega) (by omega) ok (fun x hx=>by rwa [List.drop_zero] at hx) (fun x hx=> .inl (by rwa [List.drop_zero]))
 have bd:=g3.bd;have e1:decide ((c.certs.list.length:Int)<(c.certs.list.length:Int))=false:=aL (by omega)
 have start1:oT c ⟨f⟩ es=aI dN (kP c f es 0 c):=rfl;have start2:nW c ⟨f⟩ es=aI dY (kR c f es 0 c):=by
  unfold nW;simp only [lN ok,aD];rfl
 rw [start1,start2,g1,g2];have eq1:=I3 c'.field.points f (by omega)
 have eq2:=WJ c'.field.points f (by omega)
 have ceta:(aR.mk (c'.now.1,c'.now.2) (Field.mk c'.field.points) (bK.mk c'.certs.next_ c'.certs.list) (aO.mk (aY.mk c'.agenda.slots.uses c'.agenda.slots.used c'.agenda.slots.free) c'.agenda.heap c'.agenda.where_) c'.due)=c':=rfl
 by_cases hf:c'.field.points=f
 · obtain ⟨r,i1,i2,i3,_⟩:=WK fok eok es.length 0 c' (by omega) (by omega) g3 hf g4 (fun j hj=>absurd hj (Nat.not_lt_zero j))
   refine ⟨r,aJ ?_,aJ ?_,i3.imp (fun ⟨q4,q5⟩=>⟨q4,q5.has,q5.sub,q5.ok,q5.fld,q5.now.trans g6,Int.le_trans g7 q5.room⟩) id⟩
   · unfold dN kP
     simp only [e1,cond_false,eq1,aP hf,aD,Bool.not_true];exact i1
   · unfold dY kR
     simp only [aF,e1,cond_false,eq2,aP hf,aD,Bool.not_true];exact i2
 · have kn: ∀i,i<c'.certs.list.length->lM f (c'.certs.list[i]!).2:=fun i hi=>eok.kn _ (g4 _ (aQ hi))
   rcases aT1 g3 fok kn with ⟨a1,a2⟩|⟨c2,a1,a2,a3,a4,a5,a6⟩
   · refine ⟨(gE,18),aJ ?_,aJ ?_,.inr rfl⟩
     · unfold dN kP
       simp only [e1,cond_false,eq1,aL hf,aD,Bool.not_false,cond_true,ceta,a1,show ((18:Int) !=0)=true from rfl]
     · unfold dY kR
       simp only [aF,e1,cond_false,eq2,aL hf,aD,Bool.not_false,cond_true,ceta,a2,show ((18:Int) !=0)=true from rfl]
   · obtain ⟨r,i1,i2,i3,_⟩:=WK fok eok es.length 0 c2 (by omega) (by omega) a3 a4 (by rw [a6];exact g4) (fun j hj=>absurd hj (Nat.not_lt_zero j))
     refine ⟨r,aJ ?_,aJ ?_,i3.imp (fun ⟨q4,q5⟩=>⟨q4,q5.has,q5.sub,q5.ok,q5.fld,(q5.now.trans a5).trans g6,Int.le_trans (Int.le_trans g7 (by unfold I4;rw [a6];exact Int.le_refl _)) q5.room⟩) id⟩
     · unfold dN kP
       simp only [e1,cond_false,eq1,aL hf,aD,Bool.not_false,cond_true,ceta,a1,show ((0:Int) !=0)=false from rfl];exact i1
     · unfold dY kR
       simp only [aF,e1,cond_false,eq2,aL hf,aD,Bool.not_false,cond_true,ceta,a2,show ((0:Int) !=0)=false from rfl];exact i2
theorem O1 {α:Type} [Inhabited α] {l:List α}:l.Nodup↔ ∀k,k<l.length->l[k]!∉l.take k:=by
 rw [bR];constructor
 · intro h k hk hm
   obtain ⟨i,h1,h2,h3⟩:=cU.1 hm;exact h i k h1 hk h3
 · intro h i j hij hj he
   exact h j hj (cU.2 ⟨i,hij,by omega,he⟩)
theorem I6 {α:Type} [Inhabited α] {l:List α} {P:α->Prop}:(∀x∈l,P x)↔ ∀i,i<l.length->P l[i]!:=by
 constructor
 · intro h i hi;exact h _ (aQ hi)
 · intro h x hx
   obtain ⟨i,hi,rfl⟩:=aW.1 hx;exact h i hi
theorem G6 {σ ρ:Type} {body:σ->Option (cE σ ρ)} (st:Nat->σ) (n:Nat) (P:Nat->Prop) {r e:ρ} (h: ∀i,i<n->(¬P i->body (st i)=some (.done r))/\(P i->body (st i)=some (.next (st (i+1)))))
 (hend:body (st n)=some (.done e)):aI body (st 0)=some (if∀i,i<n->P i then e else r):=by
 have key:=dP (body:=body) st n (fun i=> ¬P i) (r:=r) (e:=e) (fun i hi=>⟨(h i hi).1,fun hn=>(h i hi).2 (Classical.not_not.1 hn)⟩) hend
 by_cases hx: ∀i,i<n->P i
 · rw [if_pos hx];exact key.2 fun i hi=>Classical.not_not.2 (hx i hi)
 · rw [if_neg hx]
   obtain ⟨i,h⟩:=Classical.not_forall.1 hx;obtain ⟨hi,hx⟩:=Classical.not_imp.1 h;exact key.1 ⟨i,hi,hx⟩
theorem F5 {f:List Pt} (fok:cC f) (id:Int): ∃p e,dC ⟨f⟩ id=some (p,e)/\(e=0↔lC f id):=by
 have h1:=fok.1;have hc:dL ⟨f⟩=some 0:=by rw [gA];exact congrArg some (eV.2 fok)
 have bs:=CJ f id (by omega) (fun i j=>iS fok.2.2)
 unfold dC jJ qN;rw [L8];simp only [hc,aD,show ((0:Int) !=0)=false from rfl,cond_false]
 by_cases h:lC f id
 · obtain ⟨k,hk,he⟩:=h
   rw [bs.1 k hk he];refine ⟨f[k]!,0,?_,fun _=>⟨k,hk,he⟩,fun _=>rfl⟩
   simp only [aD,Bool.not_true,cond_false,show ((0:Int) !=0)=false from rfl,aB f k hk]
 · obtain ⟨m,_,_,_,e⟩:=bs.2 (fun k hk he=>h ⟨k,hk,he⟩)
   rw [e];exact ⟨(0,0,0),6,rfl,fun h=>(by cases h),fun k=>absurd k h⟩
structure aLP (c:aR):Prop where
 f:c.field.points.length<=1000000
 l:c.certs.list.length<=1000000
 d:c.due.length<=1000000
 h:c.agenda.heap.length<=1000000
 w:c.agenda.where_.length<=1000000
 s1:c.agenda.slots.uses.length<=1000000
 s2:c.agenda.slots.used.length<=1000000
 s3:c.agenda.slots.free.length<=1000000
structure aD2 (c:aR):Prop where
 now:sS c.now
 at64: ∀w,w<c.agenda.heap.length->sS ((c.agenda.heap[w]!).1,(c.agenda.heap[w]!).2.1)
theorem WL (f:Field):vL f=some true\/(vL f=some false/\f.points.length<=70):=by
 unfold vL
 simp only [aF]
 by_cases h1:16<f.points.length
 · rw [aP (show (16:Int)<(f.points.length:Int) by omega)]
   by_cases h2:f.points.length<64
   · rw [aP (show (f.points.length:Int)<64 by omega)];exact .inl rfl
   · rw [aL (show¬(f.points.length:Int)<64 by omega)]
     by_cases h3:70<f.points.length
     · rw [aP (show (70:Int)<(f.points.length:Int) by omega)];exact .inl rfl
     · rw [aL (show¬(70:Int)<(f.points.length:Int) by omega)];exact .inr ⟨rfl,by omega⟩
 · rw [aL (show¬(16:Int)<(f.points.length:Int) by omega),aL (show¬(70:Int)<(f.points.length:Int) by omega)]
   exact .inr ⟨rfl,by omega⟩
theorem WM (c:aR):vM c=some true\/(vM c=some false/\aLP c):=by
 unfold vM DY DX
 simp only [aF]
 by_cases h1:40<c.certs.list.length
 · rw [aP (show (40:Int)<(c.certs.list.length:Int) by omega)];exact .inl rfl
 rw [aL (show¬(40:Int)<(c.certs.list.length:Int) by omega)]
 by_cases h2:40<c.due.length
 · rw [aP (show (40:Int)<(c.due.length:Int) by omega)];exact .inl rfl
 rw [aL (show¬(40:Int)<(c.due.length:Int) by omega)]
 rcases WL c.field with e|⟨e,hf⟩
 · rw [e];exact .inl rfl
 rw [e];simp only [cond_false,aD]
 by_cases a1:210<c.agenda.slots.uses.length
 · rw [aP (show (210:Int)<(c.agenda.slots.uses.length:Int) by omega)];exact .inl rfl
 rw [aL (show¬(210:Int)<(c.agenda.slots.uses.length:Int) by omega)]
 by_cases a2:210<c.agenda.slots.used.length
 · rw [aP (show (210:Int)<(c.agenda.slots.used.length:Int) by omega)];exact .inl rfl
 rw [aL (show¬(210:Int)<(c.agenda.slots.used.length:Int) by omega)]
 by_cases a3:210<c.agenda.slots.free.length
 · rw [aP (show (210:Int)<(c.agenda.slots.free.length:Int) by omega)];exact .inl rfl
 rw [aL (show¬(210:Int)<(c.agenda.slots.free.length:Int) by omega)]
 by_cases a4:210<c.agenda.heap.length
 · rw [aP (show (210:Int)<(c.agenda.heap.length:Int) by omega)];exact .inl rfl
 rw [aL (show¬(210:Int)<(c.agenda.heap.length:Int) by omega)]
 by_cases a5:210<c.agenda.where_.length
 · rw [aP (show (210:Int)<(c.agenda.where_.length:Int) by omega)];exact .inl rfl
 rw [aL (show¬(210:Int)<(c.agenda.where_.length:Int) by omega)]
 exact .inr ⟨rfl,⟨by omega,by omega,by omega,by omega,by omega,by omega,by omega,by omega⟩⟩
theorem aK6 (p q:Pt) (t:Int×Int):QO p q t=(p.2.1-q.2.1)*t.2+(p.2.2-q.2.2)*t.1:=rfl
theorem wD {p q:Pt} {t:Int×Int} (hp:gY p) (hq:gY q) (ht:sS t) (hr:cM t):eL p q t=some (decide (bI p q t),if p.1=q.1 then 2 else 0)\/(p.1=q.1/\eL p q t=some (false,2)):=by
 unfold eL;rw [zW ht,if_pos ⟨hp,hq,hr⟩]
 by_cases h:p.1=q.1
 · right;simp [h]
 · left
   simp only [h,if_false,aD,zE hp hq ht]
   have:decide (0<YL p q t)=decide (bI p q t):=by simp only [OB]
   simp [this]
end Go.Proofs.YtfejhjllooomlaaGreat
namespace Go.Proofs.YtfejhjllooomlaaGreat
theorem qO {α:Type} [BEq α] [LawfulBEq α]: ∀{a b:List α},a.Nodup->(∀x∈a,x∈b)->b.length<=a.length->a.Perm b
 | [],b,_,_,hl=>by
  rw [List.eq_nil_of_length_eq_zero (show b.length=0 by simpa using hl)]
 |x::a,b,hd,h,hl=>by
  rw [List.nodup_cons] at hd;have hx:=h x List.mem_cons_self;have ih:=qO (a:=a) (b:=b.erase x) hd.2 (fun y hy=>by
   rw [List.mem_erase_of_ne (fun e=>hd.1 (by rw [<- e];exact hy))]
   exact h y (List.mem_cons_of_mem _ hy)) (by
   rw [List.length_erase_of_mem hx];rw [List.length_cons] at hl
   omega)
  exact (List.Perm.cons x ih).trans (List.perm_cons_erase hx).symm
theorem CO {α β:Type} {f:α->β}: ∀{l:List α},l.Nodup->(∀x∈l,∀y∈l,f x=f y->x=y)->(l.map f).Nodup
 | [],_,_=>List.nodup_nil
 |x::l,h,hi=>by
  rw [List.nodup_cons] at h;rw [List.map_cons,List.nodup_cons];refine ⟨fun hm=>?_,CO h.2 fun y hy z hz=>hi y (List.mem_cons_of_mem _ hy) z (List.mem_cons_of_mem _ hz)⟩
  obtain ⟨y,hy,e⟩:=List.mem_map.1 hm
  have:=hi y (List.mem_cons_of_mem _ hy) x List.mem_cons_self e
  rw [this] at hy;exact h.1 hy
end Go.Proofs.YtfejhjllooomlaaGreat
namespace Go.Proofs.YtfejhjllooomlaaGreat
open Go.Vm Classical
def wE (l:List Int) (k:Nat):List (Int×Int):=(List.range k).map fun i=>(l[i+1]!,l[i / 2]!)
abbrev dQ (l:List Int):List (Int×Int):=wE l (l.length-1)
theorem lO (l:List Int) (k:Nat):(wE l k).length=k:=by unfold wE;rw [List.length_map,List.length_range]
theorem LC (l:List Int) (k:Nat):wE l (k+1)=wE l k++[(l[k+1]!,l[k / 2]!)]:=by
 unfold wE;rw [List.range_succ,List.map_append];rfl
theorem zH (l:List Int) {k i:Nat} (h:i<k):(wE l k)[i]! =(l[i+1]!,l[i / 2]!):=by
 rw [getElem!_pos _ i (by rw [lO];exact h)]
 unfold wE;rw [List.getElem_map,List.getElem_range]
theorem WN (l:List Int) (hl:l.length<=1000):yV l=some (dQ l):=by
 unfold yV;have key:=eU (body:=sD) (fun i=>(l,((i+1:Nat):Int),wE l i)) (l.length-1) (fun i hi=>by
  have e:aA .i64 (Int.tdiv (aA .i64 (((i+1:Nat):Int) -1)) 2)=((i / 2:Nat):Int):=by
   rw [show aA .i64 (((i+1:Nat):Int) -1)=(i:Int) from by rw [fT ⟨by omega,by omega⟩];omega,Int.tdiv_eq_ediv_of_nonneg (by omega),fT ⟨by omega,by omega⟩];omega
  unfold sD;simp only [aF,aP (show ((i+1:Nat):Int)<(l.length:Int) by omega),cond_true,aB l (i+1) (by omega),e,aB l (i / 2) (by omega),aD]
  rw [gG (by rw [lO,List.length_singleton];omega),aD,bF (show i+1<1000000000 by omega),<- LC])
 rw [show (l,(1:Int),([]:List (Int×Int)))=(l,((0+1:Nat):Int),wE l 0) from rfl,key];refine aJ ?_;unfold sD;simp only [aF,aL (show¬((l.length-1+1:Nat):Int)<(l.length:Int) by omega),cond_false]
theorem aT2 (l:List Int) (hl:l.length<=1000):AX l=some (dQ l):=by rw [<- WN l hl];rfl
theorem KH {l:List Int} {e:Int×Int} (h:e∈dQ l):e.1∈l/\e.2∈l:=by
 obtain ⟨i,hi,rfl⟩:=aW.1 h;rw [lO] at hi;rw [zH l hi];exact ⟨aQ (by omega),aQ (by omega)⟩
theorem aD3 {l:List Int} (hd:l.Nodup) {e:Int×Int} (h:e∈dQ l):e.1≠e.2:=by
 obtain ⟨i,hi,rfl⟩:=aW.1 h;rw [lO] at hi;rw [zH l hi];exact fun h=>bR.1 hd (i / 2) (i+1) (by omega) (by omega) h.symm
theorem EB {l:List Int} (hd:l.Nodup):(dQ l).Nodup:=by
 unfold dQ wE;refine CO List.nodup_range fun i hi j hj h=>?_
 rw [List.mem_range] at hi hj;have h1:l[i+1]! =l[j+1]!:=congrArg Prod.fst h;have h2:=bR.1 hd;rcases Nat.lt_trichotomy i j with k|k|k
 · exact absurd h1 (h2 (i+1) (j+1) (by omega) (by omega))
 · exact k
 · exact absurd h1.symm (h2 (j+1) (i+1) (by omega) (by omega))
theorem O2 (l:List Int) (x:Int) (hl:l.length<=1000000):
 (∀k,k<l.length->l[k]! =x->(∀j,j<k->l[j]!≠x)->hZ l x=some (k:Int))/\((∀k,k<l.length->l[k]!≠x)->hZ l x=some (-1)):=by
 have k1:=mX (body:=lT) (fun i=>(l,x,(l.length:Int),(i:Int))) l.length (fun i=>l[i]! =x) (fun i=>(i:Int)) (e:= -1) (fun i hi=>by
  unfold lT;simp only [aP (show (i:Int)<(l.length:Int) by omega),cond_true,aB l i hi,aD,bF (show i<1000000000 by omega)]
  refine ⟨fun h=>?_,fun h=>?_⟩
  · rw [eZ h.symm];rfl
  · rw [eM (fun k=>h k.symm)];rfl) (by
  unfold lT;simp only [aL (show¬(l.length:Int)<(l.length:Int) by omega),cond_false])
 exact ⟨fun k hk h1 h2=>k1.1 k hk h1 h2,fun h=>k1.2 h⟩
theorem TA (l:List Int) (x:Int) (hl:l.length<=1000000):lU l x=some (decide (x∈l)):=by
 unfold lU
 by_cases hx:x∈l
 · obtain ⟨k,k1,k2,k3⟩:=D0 (c:=fun k=>l[k]! =x) (aW.1 hx)
   rw [(O2 l x hl).1 k k1 k2 k3,aD,aP hx,aP (by omega)]
 · rw [(O2 l x hl).2 (fun k hk h=>hx (aW.2 ⟨k,hk,h⟩)),aD,aL hx];rfl
theorem cO {f:List Pt} (fok:cC f) {id:Int} (h:lC f id):dC ⟨f⟩ id=some (bC f id,0):=by
 have h1:=fok.1;have hc:dL ⟨f⟩=some 0:=by rw [gA];exact congrArg some (eV.2 fok)
 have bs:=CJ f id (by omega) (fun i j=>iS fok.2.2)
 unfold dC jJ qN;rw [L8];simp only [hc,aD,show ((0:Int) !=0)=false from rfl,cond_false];obtain ⟨k,hk,he⟩:=h;rw [bs.1 k hk he];simp only [aD,Bool.not_true,cond_false,show ((0:Int) !=0)=false from rfl,aB f k hk,FE fok.2.2 hk he]
theorem aD4 {f:List Pt} (fok:cC f) {t:Int×Int} (r:cM t) (r64:sS t) {a b:Int} (ha:lC f a) (hb:lC f b) (hne:a≠b):yW ⟨f⟩ t a b=some (decide (bI (bC f a) (bC f b) t)):=by
 unfold yW;rw [cO fok ha,aD,cO fok hb,aD];obtain ⟨p1,p2⟩:=iC fok ha;obtain ⟨q1,q2⟩:=iC fok hb;rcases wD p1 q1 r64 r with h|⟨h,_⟩
 · rw [h,aD]
 · rw [p2,q2] at h;exact absurd h hne
theorem aK7 {f:List Pt} (fok:cC f) {t:Int×Int} (r64:sS t) {x:Int×Int} (hb:lM f x):B8 x ⟨f⟩ t=some (decide (bI (bC f x.2) (bC f x.1) t)):=by
 obtain ⟨h1,h2⟩:=hb;obtain ⟨j,j1,j2,j3⟩:=G5 fok h1;obtain ⟨k,k1,k2,k3⟩:=G5 fok h2;unfold B8;simp only [j2,k2,aD,aB f j j1,aB f k k1,j3,k3,VW (iC fok h2).1 (iC fok h1).1 r64]
def pM (f:List Pt):List Int:=f.map fun p=>p.1
theorem mM {f:List Pt} (h:gM f):(pM f).Nodup:=by
 refine CO ?_ ?_
 · exact bR.2 fun i j hij hj e=>by have:=iS h hij hj;rw [e] at this;omega
 · intro x hx y hy e
   obtain ⟨i,hi,rfl⟩:=aW.1 hx;obtain ⟨j,hj,rfl⟩:=aW.1 hy;rw [CE h hi hj e]
theorem pJ {f:List Pt} {id:Int}:id∈pM f↔lC f id:=by
 unfold pM lC;rw [List.mem_map];constructor
 · rintro ⟨p,hp,rfl⟩
   obtain ⟨i,hi,rfl⟩:=aW.1 hp;exact ⟨i,hi,rfl⟩
 · rintro ⟨i,hi,rfl⟩
   exact ⟨f[i]!,aQ hi,rfl⟩
structure mN (k:bW):Prop where
 clk:bM k.clock
 perm:(pM k.clock.field.points).Perm k.heap
 cert:(k.clock.certs.list.map fun x=>x.2).Perm (dQ k.heap)
 lead: ∀e∈dQ k.heap,bI (bC k.clock.field.points e.2) (bC k.clock.field.points e.1) k.clock.now
theorem LD {c:bK} (ok:fV c):(c.list.map fun x=>x.2).Nodup:=by
 refine CO ?_ ?_
 · exact bR.2 fun i j hij hj e=>ok.nd i j hij hj (by rw [e])
 · intro x hx y hy e
   obtain ⟨i,hi,rfl⟩:=aW.1 hx;obtain ⟨j,hj,rfl⟩:=aW.1 hy;rcases Nat.lt_trichotomy i j with k|k|k
   · exact absurd e (ok.nd i j k hj)
   · rw [k]
   · exact absurd e.symm (ok.nd j i k hi)
def aD5 (k:bW):Prop:=(∀i,i<k.clock.field.points.length->(k.clock.field.points[i]!).1∈k.heap)/\(dQ k.heap).length=k.clock.certs.list.length/\
 ∀i,i<k.clock.certs.list.length->(k.clock.certs.list[i]!).2∈dQ k.heap/\bI (bC k.clock.field.points (k.clock.certs.list[i]!).2.2) (bC k.clock.field.points (k.clock.certs.list[i]!).2.1) k.clock.now
def WQ (k:bW):Prop:=(∀i,i<k.heap.length->lC k.clock.field.points k.heap[i]!/\ ∀j,j<i->k.heap[j]!≠k.heap[i]!)/\k.clock.certs.list.length=(dQ k.heap).length/\
 ∀i,i<(dQ k.heap).length->xA k.clock.certs.list (dQ k.heap)[i]!/\bI (bC k.clock.field.points ((dQ k.heap)[i]!).2) (bC k.clock.field.points ((dQ k.heap)[i]!).1) k.clock.now
theorem vQ {l:List wC} {x:Int×Int}:xA l x↔x∈l.map fun y=>y.2:=by
 unfold xA;rw [List.mem_map];constructor
 · rintro ⟨i,hi,rfl⟩;exact ⟨l[i]!,aQ hi,rfl⟩
 · rintro ⟨y,hy,rfl⟩
   obtain ⟨i,hi,rfl⟩:=aW.1 hy;exact ⟨i,hi,rfl⟩
theorem aT3 {k:bW} (ok:bM k.clock) (hl:k.heap.length=k.clock.field.points.length):aD5 k↔mN k:=by
 have nd:=mM ok.fld.2.2;have il:(pM k.clock.field.points).length=k.clock.field.points.length:=List.length_map ..;have cl:(k.clock.certs.list.map fun x=>x.2).length=k.clock.certs.list.length:=List.length_map ..
 have cn:=LD ok.crt;constructor
 · rintro ⟨h1,h2,h3⟩
   have pm:(pM k.clock.field.points).Perm k.heap:=qO nd (fun x hx=>by
    obtain ⟨i,hi,rfl⟩:=pJ.1 hx;exact h1 i hi) (by omega)
   have pc:(k.clock.certs.list.map fun x=>x.2).Perm (dQ k.heap):=qO cn (fun x hx=>by
    obtain ⟨i,hi,rfl⟩:=vQ.2 hx;exact (h3 i hi).1) (by omega)
   refine ⟨ok,pm,pc,fun e he=>?_⟩
   obtain ⟨i,hi,rfl⟩:=vQ.2 (pc.mem_iff.2 he);exact (h3 i hi).2
 · intro h
   refine ⟨fun i hi=>h.perm.mem_iff.1 (pJ.2 ⟨i,hi,rfl⟩),by rw [<- h.cert.length_eq,cl],fun i hi=>?_⟩
   have:=h.cert.mem_iff.1 (vQ.1 ⟨i,hi,rfl⟩)
   exact ⟨this,h.lead _ this⟩
theorem aT4 {k:bW} (ok:bM k.clock) (hl:k.heap.length=k.clock.field.points.length):WQ k↔mN k:=by
 have nd:=mM ok.fld.2.2;have il:(pM k.clock.field.points).length=k.clock.field.points.length:=List.length_map ..;have cl:(k.clock.certs.list.map fun x=>x.2).length=k.clock.certs.list.length:=List.length_map ..
 constructor
 · rintro ⟨h1,h2,h3⟩
   have hn:k.heap.Nodup:=bR.2 fun i j hij hj e=>(h1 j hj).2 i hij e
   have pm:k.heap.Perm (pM k.clock.field.points):=qO hn (fun x hx=>by
    obtain ⟨i,hi,rfl⟩:=aW.1 hx;exact pJ.2 (h1 i hi).1) (by omega)
   have pc:(dQ k.heap).Perm (k.clock.certs.list.map fun x=>x.2):=qO (EB hn) (fun x hx=>by
    obtain ⟨i,hi,rfl⟩:=aW.1 hx;exact vQ.1 (h3 i hi).1) (by omega)
   refine ⟨ok,pm.symm,pc.symm,fun e he=>?_⟩
   obtain ⟨i,hi,rfl⟩:=aW.1 he;exact (h3 i hi).2
 · intro h
   have hn:k.heap.Nodup:=h.perm.nodup_iff.1 nd;refine ⟨fun i hi=>⟨pJ.1 (h.perm.mem_iff.2 (aQ hi)),fun j hj e=>bR.1 hn j i hj hi e⟩,by rw [<- h.cert.length_eq,cl],fun i hi=>?_⟩
   exact ⟨vQ.2 (h.cert.mem_iff.2 (aQ hi)),h.lead _ (aQ hi)⟩
theorem TB {α:Type} {p q:Prop} [Decidable p] [Decidable q] {a b:α} (h:p↔q):(if p then a else b)=if q then a else b:=by
 by_cases hp:p
 · rw [if_pos hp,if_pos (h.1 hp)]
 · rw [if_neg hp,if_neg (fun k=>hp (h.2 k))]
theorem EC {k:bW} (fit:yD k.clock) (hl:k.heap.length<=1000):rD k=some (if mN k then 0 else 8):=by
 unfold rD;rw [oY fit,aD]
 by_cases ok:bM k.clock
 case neg=>rw [if_neg ok,if_neg (fun h=>ok h.clk)];rfl
 rw [if_pos ok,cL rfl,cond_false]
 by_cases hh:k.heap.length=k.clock.field.points.length
 case neg=>
  rw [fI (by rw [aF,aF];omega),cond_true,if_neg (fun h=>hh ?_)]
  rw [<- h.perm.length_eq];exact List.length_map ..
 rw [cL (by rw [aF,aF];omega),cond_false,<- TB (aT3 ok hh)]
 have bd:=ok.bd;have inner:=G6 (body:=sF) (fun i=>(dQ k.heap,k.clock.certs.list,(k.clock.certs.list.length:Int),(i:Int),k.clock.now.1,k.clock.now.2,k.clock.field.points,k.clock.certs.next_,k.clock.certs.list,k.clock.agenda.slots.uses,k.clock.agenda.slots.used,k.clock.agenda.slots.free,k.clock.agenda.heap,k.clock.agenda.where_,k.clock.due,k.heap)) k.clock.certs.list.length
  (fun i=>(k.clock.certs.list[i]!).2∈dQ k.heap/\bI (bC k.clock.field.points (k.clock.certs.list[i]!).2.2) (bC k.clock.field.points (k.clock.certs.list[i]!).2.1) k.clock.now) (r:= .done 8) (e:= .done 0) (fun i hi=>by
  have hb:=ok.known i hi;have hv:=ok.crt.cv i hi;unfold sF;simp only [aP (show (i:Int)<(k.clock.certs.list.length:Int) by omega),cond_true,aB k.clock.certs.list i hi,aD,oE (dQ k.heap) _ (by rw [lO];omega),aD4 ok.fld (t:=(k.clock.now.1,k.clock.now.2)) ok.nowv ok.now64 hb.2 hb.1 (fun h=>hv.2.2.2.2 h.symm),bF (show i<1000000000 by omega)]
  by_cases h1:(k.clock.certs.list[i]!).2∈dQ k.heap
  · rw [aP h1]
    by_cases h2:bI (bC k.clock.field.points (k.clock.certs.list[i]!).2.2) (bC k.clock.field.points (k.clock.certs.list[i]!).2.1) k.clock.now
    · rw [show decide (bI (bC k.clock.field.points (k.clock.certs.list[i]!).2.2) (bC k.clock.field.points (k.clock.certs.list[i]!).2.1) (k.clock.now.1,k.clock.now.2))=true from aP h2]
      exact ⟨fun h=>absurd ⟨h1,h2⟩ h,fun _=>rfl⟩
    · rw [show decide (bI (bC k.clock.field.points (k.clock.certs.list[i]!).2.2) (bC k.clock.field.points (k.clock.certs.list[i]!).2.1) (k.clock.now.1,k.clock.now.2))=false from aL h2]
      exact ⟨fun _=>rfl,fun h=>absurd h.2 h2⟩
  · rw [aL h1]
    exact ⟨fun _=>rfl,fun h=>absurd h.1 h1⟩) (by
  unfold sF;simp only [aL (show¬(k.clock.certs.list.length:Int)<(k.clock.certs.list.length:Int) by omega),cond_false])
 have outer:=G6 (body:=sG) (fun i=>(k.clock.field.points,(k.clock.field.points.length:Int),(i:Int),k.clock.now.1,k.clock.now.2,k.clock.field.points,k.clock.certs.next_,k.clock.certs.list,k.clock.agenda.slots.uses,k.clock.agenda.slots.used,k.clock.agenda.slots.free,k.clock.agenda.heap,k.clock.agenda.where_,k.clock.due,k.heap)) k.clock.field.points.length
  (fun i=>(k.clock.field.points[i]!).1∈k.heap) (r:=8) (e:=if (dQ k.heap).length=k.clock.certs.list.length/\ ∀i,i<k.clock.certs.list.length->(k.clock.certs.list[i]!).2∈dQ k.heap/\bI (bC k.clock.field.points (k.clock.certs.list[i]!).2.2) (bC k.clock.field.points (k.clock.certs.list[i]!).2.1) k.clock.now then 0 else 8) (fun i hi=>by
  unfold sG;simp only [aP (show (i:Int)<(k.clock.field.points.length:Int) by omega),cond_true,aB k.clock.field.points i hi,aD,TA k.heap _ (by omega),bF (show i<1000000000 by omega)]
  by_cases h1:(k.clock.field.points[i]!).1∈k.heap
  · rw [aP h1];exact ⟨fun h=>absurd h1 h,fun _=>rfl⟩
  · rw [aL h1];exact ⟨fun _=>rfl,fun h=>absurd h h1⟩) (by
  unfold sG;simp only [aF,aL (show¬(k.clock.field.points.length:Int)<(k.clock.field.points.length:Int) by omega),cond_false,WN k.heap hl,aD]
  by_cases h1:(dQ k.heap).length=k.clock.certs.list.length
  · rw [cL (by omega),cond_false]
    refine (show _=_ from inner).trans ?_
    by_cases h2: ∀i,i<k.clock.certs.list.length->(k.clock.certs.list[i]!).2∈dQ k.heap/\bI (bC k.clock.field.points (k.clock.certs.list[i]!).2.2) (bC k.clock.field.points (k.clock.certs.list[i]!).2.1) k.clock.now
    · rw [if_pos h2,if_pos ⟨h1,h2⟩]
    · rw [if_neg h2,if_neg (fun h=>h2 h.2)]
  · rw [fI (by omega),cond_true,if_neg (fun h=>h1 h.1)])
 refine (show _=_ from outer).trans ?_
 by_cases h1: ∀i,i<k.clock.field.points.length->(k.clock.field.points[i]!).1∈k.heap
 · rw [if_pos h1]
   congr 1
   exact TB (q:=aD5 k) ⟨fun h=>⟨h1,h.1,h.2⟩,fun h=>⟨h.2.1,h.2.2⟩⟩
 · rw [if_neg h1,if_neg (fun h:aD5 k=>h1 h.1)]
theorem aK8 {c:aR} (ok:bM c) (es:List (Int×Int)) (kn: ∀x∈es,lM c.field.points x):
 B9 c es=some (decide (c.certs.list.length=es.length/\ ∀i,i<es.length->xA c.certs.list es[i]!/\bI (bC c.field.points (es[i]!).2) (bC c.field.points (es[i]!).1) c.now)):=by
 have bd:=ok.bd;unfold B9;simp only [aF]
 by_cases h0:c.certs.list.length=es.length
 case neg=>rw [fI (by omega),cond_true,aL (fun h=>h0 h.1)]
 rw [cL (by omega),cond_false]
 have key:=G6 (body:=uP) (fun i=>(es,(i:Int),c.now.1,c.now.2,c.field.points,c.certs.next_,c.certs.list,c.agenda.slots.uses,c.agenda.slots.used,c.agenda.slots.free,c.agenda.heap,c.agenda.where_,c.due)) es.length
  (fun i=>xA c.certs.list es[i]!/\bI (bC c.field.points (es[i]!).2) (bC c.field.points (es[i]!).1) c.now) (r:=false) (e:=true) (fun i hi=>by
  have ceta2:bK.mk c.certs.next_ c.certs.list=c.certs:=rfl;unfold uP;simp only [aF,aP (show (i:Int)<(es.length:Int) by omega),cond_true,aB es i hi,aD,ceta2,CL c.certs es[i]! (by omega),aK7 ok.fld (t:=(c.now.1,c.now.2)) ok.now64 (kn _ (aQ hi)),bF (show i<1000000000 by omega)]
  by_cases h1:xA c.certs.list es[i]!
  · rw [aP h1]
    by_cases h2:bI (bC c.field.points (es[i]!).2) (bC c.field.points (es[i]!).1) c.now
    · rw [show decide (bI (bC c.field.points (es[i]!).2) (bC c.field.points (es[i]!).1) (c.now.1,c.now.2))=true from aP h2]
      exact ⟨fun h=>absurd ⟨h1,h2⟩ h,fun _=>rfl⟩
    · rw [show decide (bI (bC c.field.points (es[i]!).2) (bC c.field.points (es[i]!).1) (c.now.1,c.now.2))=false from aL h2]
      exact ⟨fun _=>rfl,fun h=>absurd h.2 h2⟩
  · rw [aL h1]
    exact ⟨fun _=>rfl,fun h=>absurd h.1 h1⟩) (by
  unfold uP;simp only [aF,aL (show¬(es.length:Int)<(es.length:Int) by omega),cond_false])
 refine (show _=_ from key).trans ?_
 by_cases h2: ∀i,i<es.length->xA c.certs.list es[i]!/\bI (bC c.field.points (es[i]!).2) (bC c.field.points (es[i]!).1) c.now
 · rw [if_pos h2,aP ⟨h0,h2⟩]
 · rw [if_neg h2,aL (fun h=>h2 h.2)]
theorem aK9 {σ ρ:Type} {body:σ->Option (cE σ ρ)} (st:Nat->σ) (n:Nat) (P:Nat->Prop) {r:ρ} (h: ∀i,i<n->(¬P i->body (st i)=some (.done r))/\(P i->body (st i)=some (.next (st (i+1)))))
 (hx: ¬ ∀i,i<n->P i):aI body (st 0)=some r:=by
 obtain ⟨i,hi⟩:=Classical.not_forall.1 hx;obtain ⟨hi,hx⟩:=Classical.not_imp.1 hi;obtain ⟨m,m1,m2,m3⟩:=D0 (c:=fun i=> ¬P i) ⟨i,hi,hx⟩
 rw [eU st m fun j hj=>(h j (by omega)).2 (Classical.not_not.1 (m3 j hj))]
 exact aJ ((h m m1).1 m2)
def ckS (k:bW) (i:Nat):=((i:Int),k.clock.now.1,k.clock.now.2,k.clock.field.points,k.clock.certs.next_,k.clock.certs.list,k.clock.agenda.slots.uses,k.clock.agenda.slots.used,k.clock.agenda.slots.free,k.clock.agenda.heap,k.clock.agenda.where_,k.clock.due,k.heap)
theorem O3 {k:bW} (fit:yD k.clock) (hl:k.heap.length<=1000):zC k=some (if mN k then 0 else 8):=by
 unfold zC;rw [OZ fit,aD]
 by_cases ok:bM k.clock
 case neg=>rw [if_neg ok,if_neg (fun h=>ok h.clk)];rfl
 rw [if_pos ok,cL rfl,cond_false]
 by_cases hh:k.heap.length=k.clock.field.points.length
 case neg=>
  rw [fI (by rw [aF,aF];omega),cond_true,if_neg (fun h=>hh ?_)]
  rw [<- h.perm.length_eq];exact List.length_map ..
 rw [cL (by rw [aF,aF];omega),cond_false,<- TB (aT4 ok hh)]
 have bd:=ok.bd;have step: ∀i,i<k.heap.length->(¬(lC k.clock.field.points k.heap[i]!/\ ∀j,j<i->k.heap[j]!≠k.heap[i]!)->jY (ckS k i)=some (.done 8))/\((lC k.clock.field.points k.heap[i]!/\ ∀j,j<i->k.heap[j]!≠k.heap[i]!)->jY (ckS k i)=some (.next (ckS k (i+1)))):=by
  intro i hi;unfold ckS;unfold jY;simp only [aF,aP (show (i:Int)<(k.heap.length:Int) by omega),cond_true,aB k.heap i hi,aD]
  by_cases h1:lC k.clock.field.points k.heap[i]!
  case neg=>
   rw [KG ok.fld h1];exact ⟨fun _=>rfl,fun h=>absurd h.1 h1⟩
  obtain ⟨m,m1,m2,m3⟩:=G5 ok.fld h1;rw [m2];simp only [aD,aL (show¬(m:Int)<0 by omega),cond_false]
  have inner:=G6 (body:=sL) (fun j=>((i:Int),(j:Int),k.clock.now.1,k.clock.now.2,k.clock.field.points,k.clock.certs.next_,k.clock.certs.list,k.clock.agenda.slots.uses,k.clock.agenda.slots.used,k.clock.agenda.slots.free,k.clock.agenda.heap,k.clock.agenda.where_,k.clock.due,k.heap)) i
   (fun j=>k.heap[j]!≠k.heap[i]!) (r:= .done 8) (e:= .next (((i+1:Nat):Int),k.clock.now.1,k.clock.now.2,k.clock.field.points,k.clock.certs.next_,k.clock.certs.list,k.clock.agenda.slots.uses,k.clock.agenda.slots.used,k.clock.agenda.slots.free,k.clock.agenda.heap,k.clock.agenda.where_,k.clock.due,k.heap)) (fun j hj=>by
   unfold sL;simp only [aP (show (j:Int)<(i:Int) by omega),cond_true,aB k.heap j (by omega),aB k.heap i hi,aD,bF (show j<1000000000 by omega)]
   by_cases h:k.heap[j]! =k.heap[i]!
   · rw [eZ h];exact ⟨fun _=>rfl,fun k=>absurd h k⟩
   · rw [eM h];exact ⟨fun k=>absurd h k,fun _=>rfl⟩) (by
   unfold sL;simp only [aL (show¬(i:Int)<(i:Int) by omega),cond_false,bF (show i<1000000000 by omega)])
  have inner':=(show _=_ from inner)
  by_cases h2: ∀j,j<i->k.heap[j]!≠k.heap[i]!
  · rw [if_pos h2] at inner'
    exact ⟨fun h=>absurd ⟨h1,h2⟩ h,fun _=>inner'⟩
  · rw [if_neg h2] at inner'
    exact ⟨fun _=>inner',fun h=>absurd h.2 h2⟩
 by_cases hP: ∀i,i<k.heap.length->lC k.clock.field.points k.heap[i]!/\ ∀j,j<i->k.heap[j]!≠k.heap[i]!
 · have jus:=aK8 ok (dQ k.heap) (fun x hx=>by
    obtain ⟨h1,h2⟩:=KH hx;obtain ⟨i,hi,e1⟩:=aW.1 h1;obtain ⟨j,hj,e2⟩:=aW.1 h2;exact ⟨e1▸(hP i hi).1,e2▸(hP j hj).1⟩)
   have o:=G6 (body:=jY) (ckS k) k.heap.length _ (r:=8) (e:=if WQ k then 0 else 8) step (by
    have ceta:(aR.mk (k.clock.now.1,k.clock.now.2) (Field.mk k.clock.field.points) (bK.mk k.clock.certs.next_ k.clock.certs.list) (aO.mk (aY.mk k.clock.agenda.slots.uses k.clock.agenda.slots.used k.clock.agenda.slots.free) k.clock.agenda.heap k.clock.agenda.where_) k.clock.due)=k.clock:=rfl;unfold jY ckS
    simp only [aF,aL (show¬(k.heap.length:Int)<(k.heap.length:Int) by omega),cond_false,aT2 k.heap hl,aD,ceta,jus]
    by_cases h2:k.clock.certs.list.length=(dQ k.heap).length/\ ∀i,i<(dQ k.heap).length->xA k.clock.certs.list (dQ k.heap)[i]!/\bI (bC k.clock.field.points ((dQ k.heap)[i]!).2) (bC k.clock.field.points ((dQ k.heap)[i]!).1) k.clock.now
    · rw [aP h2,if_pos (show WQ k from ⟨hP,h2.1,h2.2⟩)];rfl
    · rw [aL h2,if_neg (fun h:WQ k=>h2 ⟨h.2.1,h.2.2⟩)];rfl)
   refine (show _=_ from o).trans ?_;rw [if_pos hP]
 · rw [if_neg (fun h:WQ k=>hP h.1)]
   exact aK9 (body:=jY) (ckS k) k.heap.length _ (r:=8) step hP
end Go.Proofs.YtfejhjllooomlaaGreat
