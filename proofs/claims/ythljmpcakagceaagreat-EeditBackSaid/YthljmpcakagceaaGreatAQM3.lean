/- Plain laws (3). -/
import Derived.Test.YthljmpcakagceaaGreatAQM2
import Derived.Test.YthljmpcakagceaaGreatAQS2
namespace Go.Proofs.YthljmpcakagceaaGreat
open Go.Vm Classical
theorem UW (c:aQ) (n:Int) (hl:c.due.length<=1000000):(∀k,k<c.due.length->(c.due[k]!).1=n->(∀j,j<k->(c.due[j]!).1≠n)->qE c n=some (k:Int))/\((∀k,k<c.due.length->(c.due[k]!).1≠n)->qE c n=some (-1)):=by
 unfold qE;refine oF (body:=qW) (fun i=>(n,(i:Int),c.now.1,c.now.2,c.field.points,c.certs.next_,c.certs.list,c.agenda.slots.uses,c.agenda.slots.used,c.agenda.slots.free,c.agenda.heap,c.agenda.where_,c.due)) c.due.length (fun i=>(c.due[i]!).1=n) (fun i=>(i:Int)) (fun i hi=>?_) ?_
 · have e1:decide ((i:Int)<(c.due.length:Int))=true:=aN (by omega)
   unfold qW;simp only [aF,e1,cond_true,aD c.due i hi,aB,aW (show i<1000000000 by omega)]
   constructor
   · intro h;rw [iR h];rfl
   · intro h;rw [gP h];rfl
 · unfold qW
   have:decide ((c.due.length:Int)<(c.due.length:Int))=false:=aL (by omega)
   simp only [aF,this,cond_false]
theorem PE {ds:List vC} (hu:Up ds) (hl:ds.length<=1000000) (n:Int):(∀k,k<ds.length->(ds[k]!).1=n->qH ds n=some ((k:Int),true))/\((∀k,k<ds.length->(ds[k]!).1≠n)-> ∃m:Nat,qH ds n=some ((m:Int),false)):=by
 have bs:=yG ds n hl (vW.1 hu);unfold qH;rw [aQb];constructor
 · intro k hk he;rw [bs.1 k hk he];rfl
 · intro h
   obtain ⟨m,_,_,_,e⟩:=bs.2 h;exact ⟨m,by rw [e];rfl⟩
theorem bG.bd {c:aQ} (ok:bG c):c.due.length<=200/\c.field.points.length<=64/\c.certs.list.length<=200:=by
 have:=ok.hd;have:=ok.agd.bd;have:=ok.fld.1;have:=ok.crt.len
 omega
theorem kS {c:aQ} (ok:bG c):nU c=some c:=by
 have bd:=ok.bd;unfold nU kI sF;simp only [bC (show c.field.points.length<=1048576 by omega),bC (show c.certs.list.length<=1048576 by omega),bC (show c.due.length<=1048576 by omega),aB,tQ ok.agd]
theorem nF {c:aQ} (ok:bG c):oB c=some c:=by
 have bd:=ok.bd;have ab:=ok.agd.bd;have hl:=ok.agd.so.fl;have hn:=ok.agd.so.n2;have hu:=ok.agd.so.ul;unfold oB;simp only [bC (show c.field.points.length<=1048576 by omega),bC (show c.certs.list.length<=1048576 by omega),bC (show c.due.length<=1048576 by omega),bC (show c.agenda.heap.length<=1048576 by omega),bC (show c.agenda.where_.length<=1048576 by omega),
  bC (show c.agenda.slots.uses.length<=1048576 by omega),bC (show c.agenda.slots.used.length<=1048576 by omega),bC (show c.agenda.slots.free.length<=1048576 by omega),aB]
theorem BP {cs:List vC} {i:Nat} (hu:Up cs) (hi:i<cs.length) {x:vC} (hx:x∈cs.eraseIdx i):x∈cs/\x.1≠(cs[i]!).1:=by
 rw [xB,List.mem_append] at hx;have ub:=vW.1 hu;rcases hx with hx|hx
 · obtain ⟨j,h1,h2,rfl⟩:=cN.1 hx
   have:=ub j i h1 hi
   exact ⟨bE h2,by omega⟩
 · obtain ⟨j,hj,rfl⟩:=bD.1 hx
   rw [List.length_drop] at hj;rw [sO]
   have:=ub i (i+1+j) (by omega) (by omega)
   exact ⟨bE (by omega),by omega⟩
theorem J3 {c:aQ} (ok:bG c) (i:Nat) (hi:i<c.certs.list.length): ∀j,j<(pN c.certs i).list.length->kQ c.field.points ((pN c.certs i).list[j]!).2:=by
 intro j hj;have hm:(pN c.certs i).list[j]!∈c.certs.list:=(BP ok.crt_up hi (bE hj)).1;obtain ⟨m,hm1,hm2⟩:=bD.1 hm;rw [<- hm2];exact ok.known m hm1
theorem aQc {c:aQ} (ok:bG c) {i:Nat} (hi:i<c.certs.list.length):
 ∃c':aQ,sM c (c.certs.list[i]!).1=some (c',(c.certs.list[i]!).2,0)/\wP c (c.certs.list[i]!).1=some c'/\bG c'/\c'.field=c.field/\c'.now=c.now/\c'.certs=pN c.certs i:=by
 have bd:=ok.bd;have rm:=NM ok.crt hi (n:=(c.certs.list[i]!).1) rfl;have wo:=JB ok.crt hi (n:=(c.certs.list[i]!).1) rfl;have fe:=ok.fol.erase (i:=i) hi;have pd:=PE ok.due_up (by omega) (c.certs.list[i]!).1
 have da:=UW c (c.certs.list[i]!).1 (by omega)
 cases hf:(bI c.field.points (c.certs.list[i]!).2 c.now).2 with
 |false=>
  have no: ∀k,k<c.due.length->(c.due[k]!).1≠(c.certs.list[i]!).1:=by
   intro k hk he;obtain ⟨x,hx,h1,h2,_⟩:=ok.fol.due _ (bE hk);obtain ⟨j,hj,rfl⟩:=bD.1 hx;have ub:=vW.1 ok.crt_up
   have:j=i:=by
    rcases Nat.lt_trichotomy j i with h|h|h
    · have:=ub j i h hi;omega
    · exact h
    · have:=ub i j h hj;omega
   rw [this,hf] at h2;cases h2
  refine ⟨⟨c.now,c.field,pN c.certs i,c.agenda,c.due⟩,?_,?_,?_,rfl,rfl,rfl⟩
  · unfold sM
    obtain ⟨m,e⟩:=pd.2 no;simp only [rm,aB,show ((0:Int) !=0)=false from rfl,cond_false,nF ok,e]
  · unfold wP
    simp only [kS ok,aB,wo,da.2 no,aL (show¬(0:Int)<= -1 by omega),cond_false]
  · exact ⟨ok.nowv,ok.now64,ok.fld,NL ok.crt hi,ok.agd,ok.w200,ok.hd,J3 ok i hi,fe.1 hf⟩
 |true=>
  obtain ⟨k,hk,k1,k2,k3⟩:=fe.2 hf;obtain ⟨w,hw,hev⟩:=bD.1 k2;have hh:(c.agenda.heap[w]!).2.2.2=(c.due[k]!).2:=by rw [hev]
  have ub:=vW.1 ok.due_up;have before: ∀j,j<k->(c.due[j]!).1≠(c.certs.list[i]!).1:=fun j hj he=>by have:=ub j k hj hk;omega
  have dl:(c.due.eraseIdx k).length=c.due.length-1:=RH hk;obtain ⟨L,d1,d2⟩:=DK c.due k hk;refine ⟨⟨c.now,c.field,pN c.certs i,eO c.agenda w,c.due.eraseIdx k⟩,?_,?_,?_,rfl,rfl,rfl⟩
  · unfold sM
    simp only [rm,aB,show ((0:Int) !=0)=false from rfl,cond_false,nF ok,pd.1 k hk k1,cond_true,aD c.due k hk,AD ok.agd hw ok.agd.fit hh,aW (show k<1000000000 by omega),W7,d1,d2]
  · unfold wP
    have s1:kH c.due 0 (k:Int)=some (c.due.take k):=oV c.due k (by omega)
    have s2:kH c.due ((k+1:Nat):Int) (c.due.length:Int)=some (c.due.drop (k+1)):=by
     unfold kH;rw [if_pos ⟨by omega,by omega,by omega⟩]
     simp only [Int.toNat_natCast];rw [List.take_of_length_le (by rw [List.length_drop];exact Nat.le_refl _)]
    have tl:(c.due.take k).length=k:=by rw [List.length_take];omega
    have dl2:(c.due.drop (k+1)).length=c.due.length- (k+1):=List.length_drop;simp only [kS ok,aB,wo,da.1 k hk k1 before,aN (show (0:Int)<=(k:Int) by omega),cond_true,aD c.due k hk,AE ok.agd hw hh,s1,bC (show (c.due.take k).length<=1048576 by omega),aW (show k<1000000000 by omega),aF,s2,
     cA (show (c.due.take k).length+(c.due.drop (k+1)).length<=1048576 by omega),xB]
    cases hem:(c.due.drop (k+1)).isEmpty with
    |true=>
     rw [List.isEmpty_iff] at hem;rw [hem,List.append_nil];rfl
    |false=>rfl
  · have rem:=I9 ok.agd hw
    have rmem:=NH ok.agd hw;have hlen:(eO c.agenda w).heap.length=c.agenda.heap.length-1:=by
     have h1:=rem.hl;have h2:=ok.agd.hl;have h3:(eO c.agenda w).slots=fW c.agenda.slots (c.agenda.heap[w]!).2.2.2:=by unfold eO;split<;>rfl
     rw [h3] at h1;change _+(c.agenda.slots.free++[_]).length=c.agenda.slots.uses.length at h1;rw [List.length_append] at h1;simp only [List.length_cons,List.length_nil] at h1;omega
    have wlen:(eO c.agenda w).where_.length=200:=by
     have h1:=rem.wl;have h3:(eO c.agenda w).slots=fW c.agenda.slots (c.agenda.heap[w]!).2.2.2:=by unfold eO;split<;>rfl
     rw [h3] at h1;change _=c.agenda.slots.uses.length at h1;rw [h1,<- ok.agd.wl,ok.w200]
    refine ⟨ok.nowv,ok.now64,ok.fld,NL ok.crt hi,rem,wlen,?_,J3 ok i hi,?_⟩
    · show (eO c.agenda w).heap.length=(c.due.eraseIdx k).length
      rw [hlen,dl,ok.hd]
    · refine k3.mono fun x hx e he hm=>(rmem e).2 ⟨hm,fun h=>?_⟩
      have:=(BP ok.crt_up hi hx).2
      rw [h,hev] at he;exact this he.symm
theorem KF {c:aQ} (ok:bG c) {i:Nat} (_hi:i<c.certs.list.length) {c':aQ} (h:sM c (c.certs.list[i]!).1=some (c',(c.certs.list[i]!).2,0)):vR c (c.certs.list[i]!).1=some (c',0):=by
 unfold vR;rw [oI ok.fit,if_pos ok];simp only [aB,show ((0:Int) !=0)=false from rfl,cond_false,h]
end Go.Proofs.YthljmpcakagceaaGreat
namespace Go.Proofs.YthljmpcakagceaaGreat
open Go.Vm Classical
abbrev fD:aQ:=⟨(0,0),⟨[]⟩,⟨0,[]⟩,⟨⟨[],[],[]⟩,[],[]⟩,[]⟩
theorem RI {l:List Pt} (ok:bQ l) {id:Int} (h:rO l id): ¬(nH l id).1<0:=by
 obtain ⟨h1,_⟩:=jZ ok h
 have:=h1.1
 omega
theorem aKg {c:aQ} (ok:bG c) {x:Int×Int} (hx:fS x) (hb:kQ c.field.points x) (hn: ¬vV c.certs.list x):
 (iZ c x=some (fD,0,18)/\mC c x=some (fD,0,18)/\(HP c.certs\/ ¬B7 c.agenda.slots))\/
 ∃c':aQ,iZ c x=some (c',c.certs.next_,0)/\mC c x=some (c',c.certs.next_,0)/\bG c'/\c'.field=c.field/\c'.now=c.now/\c'.certs=rN c.certs x/\(c'.agenda.slots=c.agenda.slots\/c'.agenda.slots=iD c.agenda.slots):=by
 have bd:=ok.bd;have n0:=ok.crt.n0;have n1:=ok.crt.n1;have fit:=ok.fit;have ad:=UR ok.crt hx;have rd:=RG ok.crt hx;rw [if_neg hn] at ad rd;have hc:hZ c=some 0:=by rw [oI fit,if_pos ok]
 have p1:=oH ok.fld x.1;have p2:=oH ok.fld x.2;have q1:=RI ok.fld hb.1;have q2:=RI ok.fld hb.2;have wh:=zC ok.fld hx ok.nowv ok.now64;rw [if_pos hb] at wh;have rw':=zD ok.fld ok.now64 hb
 by_cases hf:HP c.certs
 · rw [if_pos hf] at ad rd
   left;refine ⟨?_,?_,.inl hf⟩
   · unfold iZ dI
     simp only [hc,aB,show ((0:Int) !=0)=false from rfl,cond_false,ad,show ((18:Int)==8)=false from rfl,p1,p2,aL q1,aL q2,show ((18:Int) !=0)=true from rfl,cond_true]
   · unfold mC
     simp only [rd,aB,show ((18:Int) !=0)=true from rfl,cond_true]
 rw [if_neg hf] at ad rd;have cok:=W9 ok.crt hx hn hf;have known': ∀j,j<(rN c.certs x).list.length->kQ c.field.points ((rN c.certs x).list[j]!).2:=by
  intro j hj;rw [EL] at hj;rw [xC]
  by_cases h:j<c.certs.list.length
  · rw [if_pos h];exact ok.known j h
  · rw [if_neg h,if_pos (by omega)];exact hb
 have fresh: ∀e∈c.agenda.heap,Ev.num e≠c.certs.next_:=by
  intro e he hne;obtain ⟨d,hd,h1⟩:=ok.nums e he;obtain ⟨y,hy,h2,_⟩:=ok.fol.due d hd;obtain ⟨j,hj,rfl⟩:=bD.1 hy
  have:=(ok.crt.nr j hj).2
  omega
 have sn:=ok.fol.snoc (x:=(c.certs.next_,x));cases hw:(bI c.field.points x c.now).2 with
 |false=>
  right;refine ⟨⟨c.now,c.field,rN c.certs x,c.agenda,c.due⟩,?_,?_,⟨ok.nowv,ok.now64,ok.fld,cok,ok.agd,ok.w200,ok.hd,known',sn.1 hw⟩,rfl,rfl,rfl,.inl rfl⟩
  · unfold iZ dI
    simp only [hc,aB,show ((0:Int) !=0)=false from rfl,cond_false,ad,show ((0:Int)==8)=false from rfl,p1,p2,aL q1,aL q2,nF ok,wh,hw]
  · unfold mC
    simp only [rd,aB,show ((0:Int) !=0)=false from rfl,cond_false,kS ok,rw',hw,Bool.not_false,cond_true]
 |true=>
  obtain ⟨t1,t2⟩:=M0 (jZ ok.fld hb.2).1 (jZ ok.fld hb.1).1 ok.now64 ok.nowv hw
  by_cases op:B7 c.agenda.slots
  · right
    have pu:=AA ok.agd op ok.agd.fit (t:=(bI c.field.points x c.now).1) (n:=c.certs.next_) t1 t2 n0 n1 fresh;have rp:=B8 ok.agd op (t:=(bI c.field.points x c.now).1) (n:=c.certs.next_) t1 t2 n0 n1;have pok:=ZN ok.agd op (t:=(bI c.field.points x c.now).1) (n:=c.certs.next_) t1 t2 n0 n1 fresh
    have pmem:=UN ok.agd op (t:=(bI c.field.points x c.now).1) (n:=c.certs.next_) t1;have plen:=HM ok.agd op (t:=(bI c.field.points x c.now).1) (n:=c.certs.next_) t1;have ap: ∀h:Int×Int,bF c.due [(c.certs.next_,h)]=some (c.due++[(c.certs.next_,h)]):=fun h=>cA (by simp;omega)
    have wlen:(mP c.agenda (bI c.field.points x c.now).1 c.certs.next_).where_.length=200:=by
     have:=pok.wl
     change _=(c.agenda.slots.uses.set _ _).length at this;rw [List.length_set] at this;rw [this,<- ok.agd.wl,ok.w200]
    refine ⟨⟨c.now,c.field,rN c.certs x,mP c.agenda (bI c.field.points x c.now).1 c.certs.next_,c.due++[(c.certs.next_,mO c.agenda.slots)]⟩,?_,?_,⟨ok.nowv,ok.now64,ok.fld,cok,pok,wlen,?_,known',?_⟩,rfl,rfl,rfl,.inr rfl⟩
    · unfold iZ dI
      simp only [hc,aB,show ((0:Int) !=0)=false from rfl,cond_false,ad,show ((0:Int)==8)=false from rfl,p1,p2,aL q1,aL q2,nF ok,wh,hw,cond_true,pu,ap]
    · unfold mC
      simp only [rd,aB,show ((0:Int) !=0)=false from rfl,cond_false,kS ok,rw',hw,Bool.not_true,tP ok.agd.so,aN op,rp,ap]
    · show (mP c.agenda (bI c.field.points x c.now).1 c.certs.next_).heap.length=(c.due++[_]).length
      rw [plen,List.length_append,ok.hd];rfl
    · have fm:aY c.field.points c.now (mP c.agenda (bI c.field.points x c.now).1 c.certs.next_).heap c.certs.list c.due:=ok.fol.mono fun y hy e he hm=>(pmem e).2 (.inr hm)
      exact (fm.snoc (x:=(c.certs.next_,x))).2 _ hw rfl ((pmem _).2 (.inl rfl))
  · left
    have pu:=AB ok.agd op ok.agd.fit (t:=(bI c.field.points x c.now).1) (n:=c.certs.next_) t1 t2 n0 n1 fresh;refine ⟨?_,?_,.inr op⟩
    · unfold iZ dI
      simp only [hc,aB,show ((0:Int) !=0)=false from rfl,cond_false,ad,show ((0:Int)==8)=false from rfl,p1,p2,aL q1,aL q2,nF ok,wh,hw,cond_true,pu,show ((18:Int) !=0)=true from rfl]
    · unfold mC
      simp only [rd,aB,show ((0:Int) !=0)=false from rfl,cond_false,kS ok,rw',hw,Bool.not_true,tP ok.agd.so,aL op,Bool.not_false,cond_true]
end Go.Proofs.YthljmpcakagceaaGreat
namespace Go.Proofs.YthljmpcakagceaaGreat
open Go.Vm Classical
theorem Up.inj {cs:List vC} (h:Up cs) {x y:vC} (hx:x∈cs) (hy:y∈cs) (he:x.1=y.1):x=y:=by
 obtain ⟨i,hi,rfl⟩:=bD.1 hx;obtain ⟨j,hj,rfl⟩:=bD.1 hy;have ub:=vW.1 h;rcases Nat.lt_trichotomy i j with h1|h1|h1
 · have:=ub i j h1 hj;omega
 · rw [h1]
 · have:=ub j i h1 hi;omega
structure NO (c:aQ) (f:List Pt) (i k:Nat) (a:aI) (ds:List vC):Prop where
 ok:eZ a
 w2:a.where_.length=200
 new:aY f c.now a.heap (c.certs.list.take i) ds
 old:aY c.field.points c.now a.heap (c.certs.list.drop i) (c.due.drop k)
 kl:k<=c.due.length
 cnt:a.heap.length=ds.length+(c.due.length-k)
theorem aQd {a:aI} (ok:eZ a) {w:Nat} (hw:w<a.heap.length):(eO a w).heap.length=a.heap.length-1/\(eO a w).where_.length=a.where_.length:=by
 have rem:=I9 ok hw;have h3:(eO a w).slots=fW a.slots (a.heap[w]!).2.2.2:=by unfold eO;split<;>rfl
 have h1:=rem.hl;have h2:=ok.hl;have h4:=rem.wl;rw [h3] at h1 h4;change _+(a.slots.free++[_]).length=a.slots.uses.length at h1;change _=a.slots.uses.length at h4;rw [List.length_append] at h1;simp only [List.length_cons,List.length_nil] at h1;exact ⟨by omega,by rw [h4,ok.wl]⟩
theorem aKh {a:aI} {t:Int×Int} {n:Int} (ok:eZ a) (pok:eZ (mP a t n)):(mP a t n).where_.length=a.where_.length:=by
 have:=pok.wl
 change _=(a.slots.uses.set _ _).length at this;rw [List.length_set] at this;rw [this,ok.wl]
section
variable {c : aQ} (ok : bG c) {f : List Pt} (fok : bQ f) (kn : ∀ i, i < c.certs.list.length -> kQ f (c.certs.list[i]!).2)
include ok
theorem HS {i:Nat} {x:vC} (hx:x∈c.certs.list.take i) (hi:i<c.certs.list.length):x.1≠(c.certs.list[i]!).1:=by
 obtain ⟨j,h1,h2,rfl⟩:=cN.1 hx
 have:=ok.crt.up j i h1 hi
 omega
theorem HT {i:Nat} {x:vC} (hx:x∈c.certs.list.drop (i+1)) (hi:i<c.certs.list.length):x.1≠(c.certs.list[i]!).1:=by
 obtain ⟨j,h1,rfl⟩:=bD.1 hx;rw [List.length_drop] at h1;rw [sO]
 have:=ok.crt.up i (i+1+j) (by omega) (by omega)
 omega
theorem aAT {i k:Nat} {a:aI} {ds:List vC} (inv:NO c f i k a ds) (hi:i<c.certs.list.length) (was:(bI c.field.points (c.certs.list[i]!).2 c.now).2=false): ∀e∈a.heap,Ev.num e≠(c.certs.list[i]!).1:=by
 have u1:Up (c.certs.list.take i):=ok.crt_up.sublist (List.take_sublist _ _);have u2:Up (c.certs.list.drop i):=ok.crt_up.sublist (List.drop_sublist _ _);have d1:=inv.new.up u1;have d2:=inv.old.up u2;have cross: ∀x∈ds,∀y∈c.due.drop k,x.1<y.1:=by
  intro x hx y hy;obtain ⟨p,hp,h1,_⟩:=inv.new.due x hx;obtain ⟨q,hq,h2,_⟩:=inv.old.due y hy;obtain ⟨m,m1,m2,rfl⟩:=cN.1 hp;obtain ⟨n,n1,rfl⟩:=bD.1 hq;rw [List.length_drop] at n1;rw [sO] at h2
  have:=ok.crt.up m (i+n) (by omega) (by omega)
  omega
 have nd:((ds++c.due.drop k).map fun x=>x.1).Nodup:=UV (by
  show List.Pairwise _ _;rw [List.pairwise_append];exact ⟨d1,d2,cross⟩)
 have only:=J2 (H:=a.heap) nd (by rw [List.length_map,List.length_append,List.length_drop,inv.cnt];exact Nat.le_refl _) (fun n hn=>by
  obtain ⟨x,hx,rfl⟩:=List.mem_map.1 hn;rcases List.mem_append.1 hx with hx|hx
  · obtain ⟨p,hp,h1,h2,h3⟩:=inv.new.due x hx
    exact ⟨_,h3,h1.symm⟩
  · obtain ⟨p,hp,h1,h2,h3⟩:=inv.old.due x hx
    exact ⟨_,h3,h1.symm⟩)
 intro e he hne;obtain ⟨x,hx,h1⟩:=List.mem_map.1 (only e he);rcases List.mem_append.1 hx with hx|hx
 · obtain ⟨p,hp,h2,_⟩:=inv.new.due x hx
   exact HS ok hp hi (by rw [<- h2,h1,hne])
 · obtain ⟨p,hp,h2,h3,_⟩:=inv.old.due x hx
   have hp':p∈c.certs.list:=List.mem_of_mem_drop hp
   have:=ok.crt_up.inj hp' (bE hi) (by rw [<- h2,h1,hne])
   rw [this,was] at h3;cases h3
def stP (c:aQ) (f:List Pt) (i:Nat) (a:aI) (ds:List vC):=
 (c.certs.list,(c.certs.list.length:Int),(i:Int),c.now.1,c.now.2,c.field.points,c.certs.next_,c.certs.list,c.agenda.slots.uses,c.agenda.slots.used,c.agenda.slots.free,c.agenda.heap,c.agenda.where_,c.due,f,(0:Int),(0:Int),(0:Int),c.now.1,c.now.2,c.certs.next_,c.certs.list,a.slots.uses,a.slots.used,a.slots.free,a.heap,a.where_,f,ds)
def stR (c:aQ) (f:List Pt) (i:Nat) (a:aI) (ds:List vC):=
 ((i:Int),c.now.1,c.now.2,c.field.points,c.certs.next_,c.certs.list,c.agenda.slots.uses,c.agenda.slots.used,c.agenda.slots.free,c.agenda.heap,c.agenda.where_,c.due,f,(0:Int),(0:Int),(0:Int),c.now.1,c.now.2,f,c.certs.next_,c.certs.list,a.slots.uses,a.slots.used,a.slots.free,a.heap,a.where_,ds)
include fok kn
theorem aC1 {i k:Nat} {a:aI} {ds:List vC} (inv:NO c f i k a ds) (hi:i<c.certs.list.length) (hds:ds.length<=i):
 (dM (stP c f i a ds)=some (.done (.done (fD,18)))/\cQ (stR c f i a ds)=some (.done (fD,18)))\/
 ∃k' a' ds',dM (stP c f i a ds)=some (.next (stP c f (i+1) a' ds'))/\cQ (stR c f i a ds)=some (.next (stR c f (i+1) a' ds'))/\NO c f (i+1) k' a' ds'/\ds'.length<=i+1:=by
 have bd:=ok.bd;have e1:decide ((i:Int)<(c.certs.list.length:Int))=true:=aN (by omega)
 have sc:=aW (show i<1000000000 by omega)
 have cg:=aD c.certs.list i hi;have hb:=kn i hi;have wn:=zC fok (x:=(c.certs.list[i]!).2) (t:=(c.now.1,c.now.2)) (ok.crt.cv i hi) ok.nowv ok.now64;rw [if_pos hb] at wn;have wr:=zD fok (x:=(c.certs.list[i]!).2) (t:=(c.now.1,c.now.2)) ok.now64 hb;have pd:=PE ok.due_up (by omega) (c.certs.list[i]!).1
 have da:=UW c (c.certs.list[i]!).1 (by omega)
 have dr:=wF hi;have tk:=fH hi;have old:=inv.old;rw [dr] at old;have aeta:aI.mk (aR.mk a.slots.uses a.slots.used a.slots.free) a.heap a.where_=a:=rfl
 have ceta:(aQ.mk (c.now.1,c.now.2) (Field.mk c.field.points) (aV.mk c.certs.next_ c.certs.list) (aI.mk (aR.mk c.agenda.slots.uses c.agenda.slots.used c.agenda.slots.free) c.agenda.heap c.agenda.where_) c.due)=c:=rfl;have other: ∀x∈c.certs.list.take i,x.1≠(c.certs.list[i]!).1:=fun x hx=>HS ok hx hi
 have other': ∀x∈c.certs.list.drop (i+1),x.1≠(c.certs.list[i]!).1:=fun x hx=>HT ok hx hi
 cases hwas:(bI c.field.points (c.certs.list[i]!).2 c.now).2 with
 |true=>
  obtain ⟨d,ds',hd1,hd2,hd3,hd4⟩:=(aY.cons_true hwas).1 old;have hk:k<c.due.length:=by
   refine Classical.byContradiction fun h=>?_
   rw [List.drop_eq_nil_of_le (by omega)] at hd1
   cases hd1
  have dk:=wF hk;rw [dk] at hd1;injection hd1 with hd5 hd6;subst hd5 hd6;obtain ⟨w,hw,hev⟩:=bD.1 hd3;have hh:(a.heap[w]!).2.2.2=(c.due[k]!).2:=by rw [hev]
  have hnum:Ev.num a.heap[w]! =(c.certs.list[i]!).1:=by rw [hev]
  have before: ∀j,j<k->(c.due[j]!).1≠(c.certs.list[i]!).1:=fun j hj he=>by
   have:=vW.1 ok.due_up j k hj hk
   omega
  have pl:=pd.1 k hk hd2;have dq:=da.1 k hk hd2 before;have gk:=aD c.due k hk;have k0:decide ((0:Int)<=(k:Int))=true:=aN (by omega)
  have ap:bF ds [c.due[k]!]=some (ds++[c.due[k]!]):=cA (by simp;omega)
  cases his:(bI f (c.certs.list[i]!).2 c.now).2 with
  |true=>
   right;have tt:cE (bI f (c.certs.list[i]!).2 c.now).1/\qL (bI f (c.certs.list[i]!).2 c.now).1:=M0 (jZ fok hb.2).1 (jZ fok hb.1).1 ok.now64 ok.nowv his;obtain ⟨t1,t2⟩:=tt;have re:=KE inv.ok inv.ok.fit (t:=(bI f (c.certs.list[i]!).2 c.now).1) hw hh t1 t2;have rr:=I8 inv.ok (t:=(bI f (c.certs.list[i]!).2 c.now).1) hw hh t1 t2
   have rok:=aCV inv.ok hw t1 t2;have rmem:=aAS inv.ok hw t1;have rlen:=I7 inv.ok hw t1;have stay: ∀(cs:List vC),(∀x∈cs,x.1≠(c.certs.list[i]!).1)-> ∀x∈cs,∀e:Ev,e.num=x.1->e∈a.heap->e∈(lA a w (bI f (c.certs.list[i]!).2 c.now).1).heap:=by
    intro cs hcs x hx e he hm;refine (rmem e).2 (.inr ⟨hm,fun h=>hcs x hx ?_⟩)
    rw [<- he,h,hnum]
   refine ⟨k+1,lA a w (bI f (c.certs.list[i]!).2 c.now).1,ds++[c.due[k]!],?_,?_,⟨rok,by rw [rlen.2];exact inv.w2,?_,?_,by omega,?_⟩,by simp;omega⟩
   · unfold dM stP
     simp only [e1,cond_true,cg,aB,wn,pl,his,gk,aeta,re,ap,show ((0:Int) !=0)=false from rfl,cond_false,sc]
   · unfold cQ stR
     simp only [aF,e1,cond_true,cg,aB,ceta,dq,wr,his,k0,gk,aeta,rr,ap,Bool.not_true,cond_false,sc]
   · rw [tk]
     exact ((inv.new.mono (stay _ other)).snoc (x:=c.certs.list[i]!)).2 _ his hd2 ((rmem _).2 (.inl (by
      show _=((bI f (c.certs.list[i]!).2 c.now).1.1,(bI f (c.certs.list[i]!).2 c.now).1.2,(a.heap[w]!).2.2);rw [hev])))
   · exact hd4.mono (stay _ other')
   · rw [rlen.1,inv.cnt,List.length_append]
     simp only [List.length_cons,List.length_nil];omega
  |false=>
   right;have rv:=AD inv.ok hw inv.ok.fit hh;have rr:=AE inv.ok hw hh;have rok:=I9 inv.ok hw;have rmem:=NH inv.ok hw;have rlen:=aQd inv.ok hw;have stay: ∀(cs:List vC),(∀x∈cs,x.1≠(c.certs.list[i]!).1)-> ∀x∈cs,∀e:Ev,e.num=x.1->e∈a.heap->e∈(eO a w).heap:=by
    intro cs hcs x hx e he hm;refine (rmem e).2 ⟨hm,fun h=>hcs x hx ?_⟩
    rw [<- he,h,hnum]
   refine ⟨k+1,eO a w,ds,?_,?_,⟨rok,by rw [rlen.2];exact inv.w2,?_,hd4.mono (stay _ other'),by omega,?_⟩,by omega⟩
   · unfold dM stP
     simp only [e1,cond_true,cg,aB,wn,pl,his,gk,aeta,rv,show ((0:Int) !=0)=false from rfl,cond_false,sc]
   · unfold cQ stR
     simp only [aF,e1,cond_true,cg,aB,ceta,dq,wr,his,k0,gk,aeta,rr,Bool.not_false,cond_false,sc]
   · rw [tk]
     exact ((inv.new.mono (stay _ other)).snoc (x:=c.certs.list[i]!)).1 his
   · have:=inv.cnt
     rw [rlen.1];omega
 |false=>
  have fol:=(aY.cons_false hwas).1 old;have no: ∀j,j<c.due.length->(c.due[j]!).1≠(c.certs.list[i]!).1:=by
   intro j hj he;obtain ⟨x,hx,h1,h2,_⟩:=ok.fol.due _ (bE hj)
   have:=ok.crt_up.inj hx (bE hi) (by rw [<- h1,he])
   rw [this,hwas] at h2;cases h2
  obtain ⟨m,pl⟩:=pd.2 no;have dq:=da.2 no;have k0:decide ((0:Int)<= -1)=false:=aL (by omega)
  cases his:(bI f (c.certs.list[i]!).2 c.now).2 with
  |true=>
   have tt:cE (bI f (c.certs.list[i]!).2 c.now).1/\qL (bI f (c.certs.list[i]!).2 c.now).1:=M0 (jZ fok hb.2).1 (jZ fok hb.1).1 ok.now64 ok.nowv his;obtain ⟨t1,t2⟩:=tt;have n0:=(ok.crt.nr i hi).1;have n1:(c.certs.list[i]!).1<=1000000:=by have:=(ok.crt.nr i hi).2;have:=ok.crt.n1;omega
   have fresh:=aAT ok inv hi hwas
   by_cases op:B7 a.slots
   · right
     have pu:=AA inv.ok op inv.ok.fit (t:=(bI f (c.certs.list[i]!).2 c.now).1) (n:=(c.certs.list[i]!).1) t1 t2 n0 n1 fresh;have rp:=B8 inv.ok op (t:=(bI f (c.certs.list[i]!).2 c.now).1) (n:=(c.certs.list[i]!).1) t1 t2 n0 n1;have pok:=ZN inv.ok op (t:=(bI f (c.certs.list[i]!).2 c.now).1) (n:=(c.certs.list[i]!).1) t1 t2 n0 n1 fresh
     have pmem:=UN inv.ok op (t:=(bI f (c.certs.list[i]!).2 c.now).1) (n:=(c.certs.list[i]!).1) t1;have plen:=HM inv.ok op (t:=(bI f (c.certs.list[i]!).2 c.now).1) (n:=(c.certs.list[i]!).1) t1;have ap: ∀h:Int×Int,bF ds [((c.certs.list[i]!).1,h)]=some (ds++[((c.certs.list[i]!).1,h)]):=fun h=>cA (by simp;omega)
     have opn:=tP inv.ok.so;rw [aN op] at opn;refine ⟨k,mP a (bI f (c.certs.list[i]!).2 c.now).1 (c.certs.list[i]!).1,ds++[((c.certs.list[i]!).1,mO a.slots)],?_,?_,⟨pok,by rw [aKh inv.ok pok];exact inv.w2,?_,?_,inv.kl,?_⟩,by simp;omega⟩
     · unfold dM stP
       simp only [e1,cond_true,cg,aB,wn,pl,his,aeta,pu,ap,show ((0:Int) !=0)=false from rfl,cond_false,sc]
     · unfold cQ stR
       simp only [aF,e1,cond_true,cg,aB,ceta,dq,wr,his,k0,aeta,rp,ap,Bool.not_true,cond_false,sc,opn]
     · rw [tk]
       exact ((inv.new.mono fun x hx e he hm=>(pmem e).2 (.inr hm)).snoc (x:=c.certs.list[i]!)).2 _ his rfl ((pmem _).2 (.inl rfl))
     · exact fol.mono fun x hx e he hm=>(pmem e).2 (.inr hm)
     · have:=inv.cnt
       rw [plen,List.length_append];simp only [List.length_cons,List.length_nil];omega
   · left
     have pu:=AB inv.ok op inv.ok.fit (t:=(bI f (c.certs.list[i]!).2 c.now).1) (n:=(c.certs.list[i]!).1) t1 t2 n0 n1 fresh;have ap: ∀h:Int×Int,bF ds [((c.certs.list[i]!).1,h)]=some (ds++[((c.certs.list[i]!).1,h)]):=fun h=>cA (by simp;omega)
     have opn:=tP inv.ok.so;rw [aL op] at opn;constructor
     · unfold dM stP
       simp only [e1,cond_true,cg,aB,wn,pl,his,aeta,pu,ap,show ((18:Int) !=0)=true from rfl,cond_false]
     · unfold cQ stR
       simp only [aF,e1,cond_true,cg,aB,ceta,dq,wr,his,k0,aeta,Bool.not_true,Bool.not_false,cond_false,opn]
  |false=>
   right;refine ⟨k,a,ds,?_,?_,⟨inv.ok,inv.w2,?_,fol,inv.kl,inv.cnt⟩,by omega⟩
   · unfold dM stP
     simp only [e1,cond_true,cg,aB,wn,pl,his,show ((0:Int) !=0)=false from rfl,cond_false,sc]
   · unfold cQ stR
     simp only [aF,e1,cond_true,cg,aB,ceta,dq,wr,his,k0,Bool.not_false,cond_false,sc]
   · rw [tk]
     exact (inv.new.snoc (x:=c.certs.list[i]!)).1 his
theorem aST:
 (qI c ⟨f⟩=some (fD,18)/\nB c ⟨f⟩=some (fD,18))\/
 ∃c':aQ,qI c ⟨f⟩=some (c',0)/\nB c ⟨f⟩=some (c',0)/\bG c'/\c'.field.points=f/\c'.now=c.now/\c'.certs=c.certs:=by
 have bd:=ok.bd;have f64:=fok.1;have run: ∀(d i k:Nat) (a:aI) (ds:List vC),c.certs.list.length-i<=d->i<=c.certs.list.length->NO c f i k a ds->ds.length<=i->
  (aH dM (stP c f i a ds)=some (.done (fD,18))/\aH cQ (stR c f i a ds)=some (fD,18))\/
  ∃c':aQ,aH dM (stP c f i a ds)=some (.done (c',0))/\aH cQ (stR c f i a ds)=some (c',0)/\bG c'/\c'.field.points=f/\c'.now=c.now/\c'.certs=c.certs:=by
  have fin: ∀(k:Nat) (a:aI) (ds:List vC),NO c f c.certs.list.length k a ds-> ∃c':aQ,aH dM (stP c f c.certs.list.length a ds)=some (.done (c',0))/\aH cQ (stR c f c.certs.list.length a ds)=some (c',0)/\bG c'/\c'.field.points=f/\c'.now=c.now/\c'.certs=c.certs:=by
   intro k a ds inv;have e1:decide ((c.certs.list.length:Int)<(c.certs.list.length:Int))=false:=aL (by omega)
   have hk:c.due.length-k=0:=by
    have:=inv.old
    rw [List.drop_length] at this
    have:c.due.drop k=[]:=this
    rw [List.drop_eq_nil_iff] at this;omega
   have new:=inv.new;rw [List.take_length] at new;refine ⟨⟨c.now,⟨f⟩,c.certs,a,ds⟩,aJ ?_,aJ ?_,⟨ok.nowv,ok.now64,fok,ok.crt,inv.ok,inv.w2,?_,kn,new⟩,rfl,rfl,rfl⟩
   · unfold dM stP
     simp only [e1,cond_false]
   · unfold cQ stR
     simp only [aF,e1,cond_false]
   · have:=inv.cnt
     show a.heap.length=ds.length;omega
  intro d
  induction d with
  |zero=>
   intro i k a ds hd hi inv hds
   have:i=c.certs.list.length:=by omega
   subst this;exact .inr (fin k a ds inv)
  |succ d ih=>
   intro i k a ds hd hi inv hds
   by_cases he:i=c.certs.list.length
   · subst he;exact .inr (fin k a ds inv)
   rcases aC1 ok fok kn inv (by omega) hds with ⟨h1,h2⟩|⟨k',a',ds',h1,h2,h3,h4⟩
   · exact .inl ⟨aJ h1,aJ h2⟩
   · rw [aX h1,aX h2]
     exact ih (i+1) k' a' ds' (by omega) (by omega) h3 h4
 have start:=run c.certs.list.length 0 0 c.agenda [] (by omega) (by omega) ⟨ok.agd,ok.w200,rfl,by rw [List.drop_zero,List.drop_zero];exact ok.fol,by omega,by have:=ok.hd;simp;omega⟩ (by simp)
 have hc:hZ c=some 0:=by rw [oI ok.fit,if_pos ok]
 have hf:dF ⟨f⟩=some 0:=by rw [gL];exact congrArg some (eC.2 fok)
 have tw:=nF ok;have tw':oB (aQ.mk (c.now.1,c.now.2) (Field.mk c.field.points) (aV.mk c.certs.next_ c.certs.list) (aI.mk (aR.mk c.agenda.slots.uses c.agenda.slots.used c.agenda.slots.free) c.agenda.heap c.agenda.where_) c.due)=some c:=tw
 have first:aH lN (c.certs.list,(c.certs.list.length:Int),0,c.now.1,c.now.2,c.field.points,c.certs.next_,c.certs.list,c.agenda.slots.uses,c.agenda.slots.used,c.agenda.slots.free,c.agenda.heap,c.agenda.where_,c.due,f,0,0,0)=
  aH lN (c.certs.list,(c.certs.list.length:Int),(c.certs.list.length:Int),c.now.1,c.now.2,c.field.points,c.certs.next_,c.certs.list,c.agenda.slots.uses,c.agenda.slots.used,c.agenda.slots.free,c.agenda.heap,c.agenda.where_,c.due,f,0,0,0):=by
  refine bP (body:=lN) (fun i=>(c.certs.list,(c.certs.list.length:Int),(i:Int),c.now.1,c.now.2,c.field.points,c.certs.next_,c.certs.list,c.agenda.slots.uses,c.agenda.slots.used,c.agenda.slots.free,c.agenda.heap,c.agenda.where_,c.due,f,0,0,0)) c.certs.list.length (fun i hi=>?_)
  have e1:decide ((i:Int)<(c.certs.list.length:Int))=true:=aN (by omega)
  unfold lN;simp only [e1,cond_true,aD c.certs.list i hi,aB,oH fok,aL (RI fok (kn i hi).1),aL (RI fok (kn i hi).2),cond_false,aW (show i<1000000000 by omega)]
 have second: ∀r,aH dM (stP c f 0 c.agenda [])=some (.done r)->qI c ⟨f⟩=some r:=by
  intro r hr;unfold qI;simp only [hc,aB,show ((0:Int) !=0)=false from rfl,cond_false,hf,aF];rw [first]
  refine aJ ?_;unfold lN;have e1:decide ((c.certs.list.length:Int)<(c.certs.list.length:Int))=false:=aL (by omega)
  simp only [aF,e1,cond_false,tw',aB,bC (show f.length<=1048576 by omega)]
  exact hr
 have third: ∀r,aH cQ (stR c f 0 c.agenda [])=some r->nB c ⟨f⟩=some r:=by
  intro r hr;unfold nB kI;simp only [kS ok,aB,bC (show f.length<=1048576 by omega)]
  exact hr
 rcases start with ⟨h1,h2⟩|⟨c',h1,h2,h3⟩
 · exact .inl ⟨second _ h1,third _ h2⟩
 · exact .inr ⟨c',second _ h1,third _ h2,h3⟩
end
end Go.Proofs.YthljmpcakagceaaGreat
namespace Go.Proofs.YthljmpcakagceaaGreat
open Go.Vm Classical
theorem nG (l:List (Int×Int)) (x:Int×Int) (hl:l.length<=1000000):fP l x=some (decide (x∈l)):=by
 unfold fP rE;have key:=oF (body:=kE) (fun i=>(l,(l.length:Int),(i:Int),x)) l.length (fun i=>l[i]! =x) (fun i=>(i:Int)) (e:= -1) (fun i hi=>by
  have e1:decide ((i:Int)<(l.length:Int))=true:=aN (by omega)
  unfold kE;simp only [e1,cond_true,aD l i hi,aB,aW (show i<1000000000 by omega)]
  generalize l[i]! =y;constructor
  · intro h;rw [iR (congrArg Prod.fst h.symm),iR (congrArg Prod.snd h.symm)];rfl
  · intro h
    by_cases h1:x.1=y.1
    · rw [iR h1,gP (fun h2=>h (Prod.ext h1.symm h2.symm))];rfl
    · rw [gP h1];rfl) (by
  unfold kE
  have:decide ((l.length:Int)<(l.length:Int))=false:=aL (by omega)
  simp only [this,cond_false])
 rw [aF]
 by_cases hx:x∈l
 · obtain ⟨i,hi,he⟩:=bD.1 hx
   obtain ⟨k,h1,h2,h3⟩:=HG (c:=fun i=>l[i]! =x) ⟨i,hi,he⟩
   have:=key.1 k h1 h2 h3
   rw [show ((0:Nat):Int)=0 from rfl] at this;rw [this,aN hx];simp only [aB,aN (show (0:Int)<=(k:Int) by omega)]
 · have:=key.2 fun i hi he=>hx (bD.2 ⟨i,hi,he⟩)
   rw [show ((0:Nat):Int)=0 from rfl] at this;rw [this,aL hx];rfl
theorem J4 (l:List (Int×Int)) (x:Int×Int) (hl:l.length<=1000000):HD l x=some (decide (x∈l)):=by
 unfold HD;have key:=dE (body:=xV) (fun i=>(l,(i:Int),x)) l.length (fun i=>l[i]! =x) (r:=true) (e:=false) (fun i hi=>by
  have e1:decide ((i:Int)<(l.length:Int))=true:=aN (by omega)
  unfold xV;simp only [aF,e1,cond_true,aD l i hi,aB,aW (show i<1000000000 by omega)]
  generalize l[i]! =y;constructor
  · intro h;rw [iR (congrArg Prod.fst h),iR (congrArg Prod.snd h)];rfl
  · intro h
    by_cases h1:y.1=x.1
    · rw [iR h1,gP (fun h2=>h (Prod.ext h1 h2))];rfl
    · rw [gP h1];rfl) (by
  unfold xV
  have:decide ((l.length:Int)<(l.length:Int))=false:=aL (by omega)
  simp only [aF,this,cond_false])
 by_cases hx:x∈l
 · rw [aN hx];exact key.1 (bD.1 hx)
 · rw [aL hx];exact key.2 fun i hi he=>hx (bD.2 ⟨i,hi,he⟩)
theorem XA (x y:vC):((x.1==y.1)&&((x.2.1==y.2.1)&&(x.2.2==y.2.2)))=decide (x=y):=by
 rw [Bool.eq_iff_iff,decide_eq_true_iff];simp only [Bool.and_eq_true,beq_iff_eq];constructor
 · rintro ⟨h1,h2,h3⟩;exact Prod.ext h1 (Prod.ext h2 h3)
 · rintro rfl;exact ⟨rfl,rfl,rfl⟩
theorem DN (a b:List vC) (hl:a.length<=1000000):mI ⟨a⟩ ⟨b⟩=some (decide (a=b)):=by
 unfold mI;simp only [aF]
 by_cases h:a.length=b.length
 case neg=>rw [eE (by omega),aL (fun k=>h (by rw [k]))];rfl
 rw [bN (by omega)]
 simp only [cond_false];have key:=dE (body:=tC) (fun i=>((i:Int),a,b)) a.length (fun i=> ¬a[i]! =b[i]!) (r:=false) (e:=true) (fun i hi=>by
  have e1:decide ((i:Int)<(a.length:Int))=true:=aN (by omega)
  unfold tC;simp only [aF,e1,cond_true,aD a i hi,aD b i (by omega),aB,aW (show i<1000000000 by omega),XA]
  constructor
  · intro h;rw [aL h];rfl
  · intro h;rw [aN (Classical.not_not.1 h)];rfl) (by
  unfold tC
  have:decide ((a.length:Int)<(a.length:Int))=false:=aL (by omega)
  simp only [aF,this,cond_false])
 by_cases he:a=b
 · rw [aN he]
   exact key.2 fun i hi=>Classical.not_not.2 (by rw [he])
 · rw [aL he]
   refine key.1 (Classical.byContradiction fun hx=>he (DD h fun i hi=>?_))
   exact Classical.byContradiction fun hn=>hx ⟨i,hi,hn⟩
theorem BQ (a b:List vC) (hl:a.length<=1000000):jM a b=some (decide (a=b)):=by
 unfold jM;simp only [aF]
 by_cases h:a.length=b.length
 case neg=>rw [eE (by omega),aL (fun k=>h (by rw [k]))];rfl
 rw [bN (by omega)]
 simp only [cond_false];have key:=dE (body:=jO) (fun i=>(a,b,(a.length:Int),(i:Int))) a.length (fun i=> ¬a[i]! =b[i]!) (r:=false) (e:=true) (fun i hi=>by
  have e1:decide ((i:Int)<(a.length:Int))=true:=aN (by omega)
  unfold jO;simp only [e1,cond_true,aD a i hi,aD b i (by omega),aB,aW (show i<1000000000 by omega),XA]
  constructor
  · intro h;rw [aL h];rfl
  · intro h;rw [aN (Classical.not_not.1 h)];rfl) (by
  unfold jO
  have:decide ((a.length:Int)<(a.length:Int))=false:=aL (by omega)
  simp only [this,cond_false])
 by_cases he:a=b
 · rw [aN he]
   exact key.2 fun i hi=>Classical.not_not.2 (by rw [he])
 · rw [aL he]
   refine key.1 (Classical.byContradiction fun hx=>he (DD h fun i hi=>?_))
   exact Classical.byContradiction fun hn=>hx ⟨i,hi,hn⟩
theorem aAW {cs:List vC} {m:Nat} {x:vC} (hx:x∈cs) (hne:x.1≠(cs[m]!).1):x∈cs.eraseIdx m:=by
 obtain ⟨j,hj,rfl⟩:=bD.1 hx;have hjm:j≠m:=fun h=>hne (by rw [h])
 rw [xB,List.mem_append]
 by_cases h:j<m
 · exact .inl (cN.2 ⟨j,h,hj,rfl⟩)
 · right
   rw [bD];refine ⟨j- (m+1),by rw [List.length_drop];omega,?_⟩
   rw [sO]
   congr 1;omega
def kP (c0:aQ) (f:List Pt) (es:List (Int×Int)) (i:Nat) (c:aQ):=
 (es,c0.certs.list,(c0.certs.list.length:Int),(i:Int),c.now.1,c.now.2,c.field.points,c.certs.next_,c.certs.list,c.agenda.slots.uses,c.agenda.slots.used,c.agenda.slots.free,c.agenda.heap,c.agenda.where_,c.due,f,(0:Int),(0:Int),(0:Int))
def kR (c0:aQ) (f:List Pt) (es:List (Int×Int)) (i:Nat) (c:aQ):=
 (es,(i:Int),c0.now.1,c0.now.2,c0.field.points,c0.certs.next_,c0.certs.list,c0.agenda.slots.uses,c0.agenda.slots.used,c0.agenda.slots.free,c0.agenda.heap,c0.agenda.where_,c0.due,f,(0:Int),(0:Int),(0:Int),c.now.1,c.now.2,c.field.points,c.certs.next_,c.certs.list,c.agenda.slots.uses,c.agenda.slots.used,c.agenda.slots.free,c.agenda.heap,c.agenda.where_,c.due)
def eP (es:List (Int×Int)) (i:Nat) (c:aQ):=
 (es,(es.length:Int),(i:Int),c.now.1,c.now.2,c.field.points,c.certs.next_,c.certs.list,c.agenda.slots.uses,c.agenda.slots.used,c.agenda.slots.free,c.agenda.heap,c.agenda.where_,c.due,(0:Int),(0:Int),(0:Int))
def eR (es:List (Int×Int)) (i:Nat) (c:aQ):=
 (es,(i:Int),(0:Int),(0:Int),(0:Int),c.now.1,c.now.2,c.field.points,c.certs.next_,c.certs.list,c.agenda.slots.uses,c.agenda.slots.used,c.agenda.slots.free,c.agenda.heap,c.agenda.where_,c.due)
def HU (c:aQ):Int:=c.certs.next_- (c.certs.list.length:Int)
structure ZP (c:aQ) (f:List Pt) (es:List (Int×Int)) (r:aQ):Prop where
 has: ∀e∈es,vV r.certs.list e
 sub: ∀x∈r.certs.list,x.2∈es
 ok:bG r
 fld:r.field.points=f
 now:r.now=c.now
 room:HU c<=HU r
def PF (c:aQ) (k:Nat):Prop:=c.certs.list.length<=k/\c.certs.next_<=k/\ ∀j,j<c.agenda.slots.uses.length->c.agenda.slots.uses[j]!<=k
theorem aY.len {l:List Pt} {t:Int×Int} {H:List Ev}: ∀{cs ds:List vC},aY l t H cs ds->ds.length<=cs.length
 | [],ds,h=>by rw [show ds=[] from h];exact Nat.le_refl _
 |x::cs,ds,h=>by
  cases hy:(bI l x.2 t).2 with
  |true=>
   obtain ⟨d,ds',rfl,_,_,h4⟩:=h.1 hy;exact Nat.succ_le_succ h4.len
  |false=>exact Nat.le_succ_of_le (h.2 hy).len
theorem PF.not_full {c:aQ} (ok:bG c) {k:Nat} (h:PF c k) (hk:k<=199): ¬(HP c.certs\/ ¬B7 c.agenda.slots):=by
 obtain ⟨h1,h2,h3⟩:=h;have fl:=ok.fol.len;have hd:=ok.hd;have hl:=ok.agd.hl;have wl:=ok.agd.wl;have w2:=ok.w200;rintro (h|h)
 · rcases h with h|h<;>omega
 · refine h ⟨by omega,?_⟩
   have:=h3 _ (EF ok.agd.so (by omega)).1
   omega
theorem PF.more {c c':aQ} {k:Nat} (h:PF c k) {x:Int×Int} (hc:c'.certs=rN c.certs x) (hs:c'.agenda.slots=c.agenda.slots\/c'.agenda.slots=iD c.agenda.slots):PF c' (k+1):=by
 obtain ⟨h1,h2,h3⟩:=h;refine ⟨?_,?_,fun j hj=>?_⟩
 · rw [hc]
   show (c.certs.list++[(c.certs.next_,x)]).length<=_;rw [List.length_append,List.length_singleton];omega
 · rw [hc]
   show c.certs.next_+1<=_;omega
 · rcases hs with e|e
   · rw [e] at hj ⊢
     have:=h3 j hj;omega
   · rw [e] at hj ⊢
     change j<(c.agenda.slots.uses.set _ _).length at hj;rw [List.length_set] at hj;show (c.agenda.slots.uses.set (cY c.agenda.slots) (c.agenda.slots.uses[cY c.agenda.slots]!+1))[j]!<=_;rw [bB];split
     · rename_i h;have:=h3 _ h.2;omega
     · have:=h3 j hj;omega
structure HV (f:List Pt) (es:List (Int×Int)):Prop where
 len:es.length<=1000000
 cv: ∀x∈es,fS x
 kn: ∀x∈es,kQ f x
theorem aC2 {c0:aQ} (ok0:bG c0) {f:List Pt} {es:List (Int×Int)} (eok:HV f es):
 ∀(d i:Nat) (c:aQ),c0.certs.list.length-i<=d->i<=c0.certs.list.length->bG c->(∀x∈c0.certs.list.drop i,x∈c.certs.list)->(∀x∈c.certs.list,x∈c0.certs.list.drop i\/x.2∈es)->
  ∃c':aQ,aH dC (kP c0 f es i c)=aH dC (kP c0 f es c0.certs.list.length c')/\aH dL (kR c0 f es i c)=aH dL (kR c0 f es c0.certs.list.length c')/\bG c'/\(∀x∈c'.certs.list,x.2∈es)/\c'.field=c.field/\c'.now=c.now/\HU c<=HU c':=by
 have bd:=ok0.bd;intro d
 induction d with
 |zero=>
  intro i c hd hi ok h1 h2
  have:i=c0.certs.list.length:=by omega
  subst this;refine ⟨c,rfl,rfl,ok,fun x hx=>?_,rfl,rfl,Int.le_refl _⟩
  rcases h2 x hx with h|h
  · rw [List.drop_length] at h;cases h
  · exact h
 |succ d ih=>
  intro i c hd hi ok h1 h2
  by_cases he:i=c0.certs.list.length
  · subst he
    refine ⟨c,rfl,rfl,ok,fun x hx=>?_,rfl,rfl,Int.le_refl _⟩
    rcases h2 x hx with h|h
    · rw [List.drop_length] at h;cases h
    · exact h
  have hi':i<c0.certs.list.length:=by omega
  have e1:decide ((i:Int)<(c0.certs.list.length:Int))=true:=aN (by omega)
  have sc:=aW (show i<1000000000 by omega)
  have cg:=aD c0.certs.list i hi';have dr:=wF hi';have ceta:(aQ.mk (c.now.1,c.now.2) (Field.mk c.field.points) (aV.mk c.certs.next_ c.certs.list) (aI.mk (aR.mk c.agenda.slots.uses c.agenda.slots.used c.agenda.slots.free) c.agenda.heap c.agenda.where_) c.due)=c:=rfl
  by_cases hin:(c0.certs.list[i]!).2∈es
  · have s1:dC (kP c0 f es i c)=some (.next (kP c0 f es (i+1) c)):=by
     unfold dC kP;simp only [e1,cond_true,cg,aB,nG _ _ eok.len,aN hin,Bool.not_true,cond_false,sc]
    have s2:dL (kR c0 f es i c)=some (.next (kR c0 f es (i+1) c)):=by
     unfold dL kR;simp only [aF,e1,cond_true,cg,aB,J4 _ _ eok.len,aN hin,Bool.not_true,cond_false,sc]
    rw [aX s1,aX s2];refine ih (i+1) c (by omega) (by omega) ok (fun x hx=>h1 x (by rw [dr];exact List.mem_cons_of_mem _ hx)) (fun x hx=>?_)
    rcases h2 x hx with h|h
    · rw [dr] at h
      rcases List.mem_cons.1 h with rfl|h
      · exact .inr hin
      · exact .inl h
    · exact .inr h
  · have hm:=h1 (c0.certs.list[i]!) (by rw [dr];exact List.mem_cons_self)
    obtain ⟨m,hm1,hm2⟩:=bD.1 hm;obtain ⟨c',r1,r2,r3,r4,r5,r6⟩:=aQc ok hm1;have rt:=KF ok hm1 r1;rw [hm2] at r2 rt;have s1:dC (kP c0 f es i c)=some (.next (kP c0 f es (i+1) c')):=by
     unfold dC kP;simp only [e1,cond_true,cg,aB,nG _ _ eok.len,aL hin,Bool.not_false,sc,ceta,rt]
    have s2:dL (kR c0 f es i c)=some (.next (kR c0 f es (i+1) c')):=by
     unfold dL kR;simp only [aF,e1,cond_true,cg,aB,J4 _ _ eok.len,aL hin,Bool.not_false,sc,ceta,r2]
    rw [aX s1,aX s2];have cl:c'.certs.list=c.certs.list.eraseIdx m:=by rw [r6];rfl
    have hroom:HU c<=HU c':=by
     unfold HU;rw [r6];show _<=c.certs.next_- (((c.certs.list.eraseIdx m).length:Nat):Int);rw [List.length_eraseIdx_of_lt hm1];omega
    have hs:(∀x∈c0.certs.list.drop (i+1),x∈c'.certs.list)/\(∀x∈c'.certs.list,x∈c0.certs.list.drop (i+1)\/x.2∈es):=by
     refine ⟨fun x hx=>?_,fun x hx=>?_⟩
     · rw [cl]
       refine aAW (h1 x (by rw [dr];exact List.mem_cons_of_mem _ hx)) ?_
       rw [hm2];exact HT ok0 hx hi'
     · rw [cl] at hx
       obtain ⟨a1,a2⟩:=BP ok.crt_up hm1 hx;rw [hm2] at a2;rcases h2 x a1 with h|h
       · rw [dr] at h
         rcases List.mem_cons.1 h with rfl|h
         · exact absurd rfl a2
         · exact .inl h
       · exact .inr h
    obtain ⟨d',q1,q2,q3,q4,q5,q6,q7⟩:=ih (i+1) c' (by omega) (by omega) r3 hs.1 hs.2
    exact ⟨d',q1,q2,q3,q4,q5.trans r4,q6.trans r5,by omega⟩
theorem UX {f:List Pt} (_fok:bQ f) {es:List (Int×Int)} (eok:HV f es):
 ∀(d i:Nat) (c:aQ),es.length-i<=d->i<=es.length->bG c->c.field.points=f->(∀x∈c.certs.list,x.2∈es)->(∀j,j<i->vV c.certs.list es[j]!)->
  ∃r:aQ×Int,aH dN (eP es i c)=some (.done r)/\aH dZ (eR es i c)=some (.done r)/\(r.2=0/\ZP c f es r.1\/r=(fD,18))/\(∀k,PF c k->k+(es.length-i)<=199->r.2=0):=by
 have el:=eok.len;have fin: ∀c:aQ,bG c->c.field.points=f->(∀x∈c.certs.list,x.2∈es)->(∀j,j<es.length->vV c.certs.list es[j]!)-> ∃r:aQ×Int,aH dN (eP es es.length c)=some (.done r)/\aH dZ (eR es es.length c)=some (.done r)/\(r.2=0/\ZP c f es r.1\/r=(fD,18))/\r.2=0:=by
  intro c ok hf hs hh;have e1:decide ((es.length:Int)<(es.length:Int))=false:=aL (by omega)
  refine ⟨(c,0),aJ ?_,aJ ?_,.inl ⟨rfl,fun e he=>by obtain ⟨j,hj,q⟩:=bD.1 he;rw [<- q];exact hh j hj,hs,ok,hf,rfl,Int.le_refl _⟩,rfl⟩
  · unfold dN eP
    simp only [e1,cond_false]
  · unfold dZ eR
    simp only [aF,e1,cond_false]
 intro d
 induction d with
 |zero=>
  intro i c hd hi ok hf hs hh
  have:i=es.length:=by omega
  subst this;obtain ⟨r,q1,q2,q3,q4⟩:=fin c ok hf hs hh;exact ⟨r,q1,q2,q3,fun _ _ _=>q4⟩
 |succ d ih=>
  intro i c hd hi ok hf hs hh
  by_cases he:i=es.length
  · subst he
    obtain ⟨r,q1,q2,q3,q4⟩:=fin c ok hf hs hh;exact ⟨r,q1,q2,q3,fun _ _ _=>q4⟩
  have bd:=ok.bd;have hi':i<es.length:=by omega
  have e1:decide ((i:Int)<(es.length:Int))=true:=aN (by omega)
  have sc:=aW (show i<1000000000 by omega)
  have cg:=aD es i hi';have ceta:(aQ.mk (c.now.1,c.now.2) (Field.mk c.field.points) (aV.mk c.certs.next_ c.certs.list) (aI.mk (aR.mk c.agenda.slots.uses c.agenda.slots.used c.agenda.slots.free) c.agenda.heap c.agenda.where_) c.due)=c:=rfl;have ceta2:aV.mk c.certs.next_ c.certs.list=c.certs:=rfl;have hc:=NK c.certs.list es[i]! (by omega)
  have hr:=BO c.certs es[i]! (by omega)
  by_cases hin:vV c.certs.list es[i]!
  · have s1:dN (eP es i c)=some (.next (eP es (i+1) c)):=by
     unfold dN eP;simp only [e1,cond_true,cg,aB,EK,hc,aN hin,sc]
    have s2:dZ (eR es i c)=some (.next (eR es (i+1) c)):=by
     unfold dZ eR;simp only [aF,e1,cond_true,cg,aB,ceta2,hr,aN hin,sc]
    rw [aX s1,aX s2];obtain ⟨r,q1,q2,q3,q4⟩:=ih (i+1) c (by omega) (by omega) ok hf hs (fun j hj=>if q:j=i then by rw [q];exact hin else hh j (by omega))
    exact ⟨r,q1,q2,q3,fun k hk hl=>q4 k hk (by omega)⟩
  · have hb:kQ c.field.points es[i]!:=by rw [hf];exact eok.kn _ (bE hi')
    rcases aKg ok (eok.cv _ (bE hi')) hb hin with ⟨r1,r2,full⟩|⟨c',r1,r2,r3,r4,r5,r6,r7⟩
    · refine ⟨(fD,18),aJ ?_,aJ ?_,.inr rfl,fun k hk hl=>absurd full (hk.not_full ok (by omega))⟩
      · unfold dN eP
        simp only [e1,cond_true,cg,aB,EK,hc,aL hin,cond_false,ceta,r1,show ((18:Int) !=0)=true from rfl]
      · unfold dZ eR
        simp only [aF,e1,cond_true,cg,aB,ceta2,hr,aL hin,cond_false,ceta,r2,show ((18:Int) !=0)=true from rfl]
    · have s1:dN (eP es i c)=some (.next (eP es (i+1) c')):=by
       unfold dN eP;simp only [e1,cond_true,cg,aB,EK,hc,aL hin,cond_false,ceta,r1,show ((0:Int) !=0)=false from rfl,sc]
      have s2:dZ (eR es i c)=some (.next (eR es (i+1) c')):=by
       unfold dZ eR;simp only [aF,e1,cond_true,cg,aB,ceta2,hr,aL hin,cond_false,ceta,r2,show ((0:Int) !=0)=false from rfl,sc]
      rw [aX s1,aX s2];obtain ⟨r,q1,q2,q3,q6⟩:=ih (i+1) c' (by omega) (by omega) r3 (by rw [r4,hf]) (fun x hx=>by
       rw [r6] at hx;rcases List.mem_append.1 (show x∈c.certs.list++[(c.certs.next_,es[i]!)] from hx) with h|h
       · exact hs x h
       · rw [List.mem_singleton.1 h];exact bE hi') (fun j hj=>by
       rw [r6];show vV (c.certs.list++[(c.certs.next_,es[i]!)]) _
       by_cases q:j=i
       · rw [q];exact ⟨c.certs.list.length,by rw [List.length_append,List.length_singleton];omega,by rw [iB (Nat.le_refl _),Nat.sub_self];rfl⟩
       · obtain ⟨w,w1,w2⟩:=hh j (by omega)
         exact ⟨w,by rw [List.length_append];omega,by rw [hH w1];exact w2⟩)
      refine ⟨r,q1,q2,q3.imp (fun ⟨q4,q5⟩=>⟨q4,q5.has,q5.sub,q5.ok,q5.fld,q5.now.trans r5,Int.le_trans ?_ q5.room⟩) id,fun k hk hl=>q6 (k+1) (hk.more r6 r7) (by omega)⟩
      unfold HU;rw [r6];show _<=(c.certs.next_+1) - (((c.certs.list++[(c.certs.next_,es[i]!)]).length:Nat):Int);rw [List.length_append,List.length_singleton];omega
theorem aKi {c:aQ} (ok:bG c) {f:List Pt} (fok:bQ f) {es:List (Int×Int)} (eok:HV f es):
 ∃r:aQ×Int,oC c ⟨f⟩ es=some r/\nC c ⟨f⟩ es=some r/\(r.2=0/\ZP c f es r.1\/r=(fD,18)):=by
 have f64:=fok.1;obtain ⟨c',g1,g2,g3,g4,g5,g6,g7⟩:=aC2 ok eok c.certs.list.length 0 c (by omega) (by omega) ok (fun x hx=>by rwa [List.drop_zero] at hx) (fun x hx=> .inl (by rwa [List.drop_zero]))
 have bd:=g3.bd;have e1:decide ((c.certs.list.length:Int)<(c.certs.list.length:Int))=false:=aL (by omega)
 have start1:oC c ⟨f⟩ es=aH dC (kP c f es 0 c):=rfl;have start2:nC c ⟨f⟩ es=aH dL (kR c f es 0 c):=by
  unfold nC;simp only [kS ok,aB];rfl
 rw [start1,start2,g1,g2];have eq1:=BQ c'.field.points f (by omega)
 have eq2:=DN c'.field.points f (by omega)
 have ceta:(aQ.mk (c'.now.1,c'.now.2) (Field.mk c'.field.points) (aV.mk c'.certs.next_ c'.certs.list) (aI.mk (aR.mk c'.agenda.slots.uses c'.agenda.slots.used c'.agenda.slots.free) c'.agenda.heap c'.agenda.where_) c'.due)=c':=rfl
 by_cases hf:c'.field.points=f
 · obtain ⟨r,i1,i2,i3,_⟩:=UX fok eok es.length 0 c' (by omega) (by omega) g3 hf g4 (fun j hj=>absurd hj (Nat.not_lt_zero j))
   refine ⟨r,aJ ?_,aJ ?_,i3.imp (fun ⟨q4,q5⟩=>⟨q4,q5.has,q5.sub,q5.ok,q5.fld,q5.now.trans g6,Int.le_trans g7 q5.room⟩) id⟩
   · unfold dC kP
     simp only [e1,cond_false,eq1,aN hf,aB,Bool.not_true];exact i1
   · unfold dL kR
     simp only [aF,e1,cond_false,eq2,aN hf,aB,Bool.not_true];exact i2
 · have kn: ∀i,i<c'.certs.list.length->kQ f (c'.certs.list[i]!).2:=fun i hi=>eok.kn _ (g4 _ (bE hi))
   rcases aST g3 fok kn with ⟨a1,a2⟩|⟨c2,a1,a2,a3,a4,a5,a6⟩
   · refine ⟨(fD,18),aJ ?_,aJ ?_,.inr rfl⟩
     · unfold dC kP
       simp only [e1,cond_false,eq1,aL hf,aB,Bool.not_false,cond_true,ceta,a1,show ((18:Int) !=0)=true from rfl]
     · unfold dL kR
       simp only [aF,e1,cond_false,eq2,aL hf,aB,Bool.not_false,cond_true,ceta,a2,show ((18:Int) !=0)=true from rfl]
   · obtain ⟨r,i1,i2,i3,_⟩:=UX fok eok es.length 0 c2 (by omega) (by omega) a3 a4 (by rw [a6];exact g4) (fun j hj=>absurd hj (Nat.not_lt_zero j))
     refine ⟨r,aJ ?_,aJ ?_,i3.imp (fun ⟨q4,q5⟩=>⟨q4,q5.has,q5.sub,q5.ok,q5.fld,(q5.now.trans a5).trans g6,Int.le_trans (Int.le_trans g7 (by unfold HU;rw [a6];exact Int.le_refl _)) q5.room⟩) id⟩
     · unfold dC kP
       simp only [e1,cond_false,eq1,aL hf,aB,Bool.not_false,cond_true,ceta,a1,show ((0:Int) !=0)=false from rfl];exact i1
     · unfold dL kR
       simp only [aF,e1,cond_false,eq2,aL hf,aB,Bool.not_false,cond_true,ceta,a2,show ((0:Int) !=0)=false from rfl];exact i2
end Go.Proofs.YthljmpcakagceaaGreat
namespace Go.Proofs.YthljmpcakagceaaGreat
open Go.Vm Classical
theorem NP {α:Type} [Inhabited α] {l:List α}:l.Nodup↔ ∀k,k<l.length->l[k]!∉l.take k:=by
 rw [mN];constructor
 · intro h k hk hm
   obtain ⟨i,h1,h2,h3⟩:=cN.1 hm;exact h i k h1 hk h3
 · intro h i j hij hj he
   exact h j hj (cN.2 ⟨i,hij,by omega,he⟩)
theorem HW {α:Type} [Inhabited α] {l:List α} {P:α->Prop}:(∀x∈l,P x)↔ ∀i,i<l.length->P l[i]!:=by
 constructor
 · intro h i hi;exact h _ (bE hi)
 · intro h x hx
   obtain ⟨i,hi,rfl⟩:=bD.1 hx;exact h i hi
theorem RJ {σ ρ:Type} {body:σ->Option (cH σ ρ)} (st:Nat->σ) (n:Nat) (P:Nat->Prop) {r e:ρ} (h: ∀i,i<n->(¬P i->body (st i)=some (.done r))/\(P i->body (st i)=some (.next (st (i+1)))))
 (hend:body (st n)=some (.done e)):aH body (st 0)=some (if∀i,i<n->P i then e else r):=by
 have key:=dE (body:=body) st n (fun i=> ¬P i) (r:=r) (e:=e) (fun i hi=>⟨(h i hi).1,fun hn=>(h i hi).2 (Classical.not_not.1 hn)⟩) hend
 by_cases hx: ∀i,i<n->P i
 · rw [if_pos hx];exact key.2 fun i hi=>Classical.not_not.2 (hx i hi)
 · rw [if_neg hx]
   obtain ⟨i,h⟩:=Classical.not_forall.1 hx;obtain ⟨hi,hx⟩:=Classical.not_imp.1 h;exact key.1 ⟨i,hi,hx⟩
theorem FB {f:List Pt} (fok:bQ f) (id:Int): ∃p e,wT ⟨f⟩ id=some (p,e)/\(e=0↔rO f id):=by
 have h1:=fok.1;have hc:dF ⟨f⟩=some 0:=by rw [gL];exact congrArg some (eC.2 fok)
 have bs:=yG f id (by omega) (fun i j=>fQ fok.2.2)
 unfold wT kF kL;rw [HO];simp only [hc,aB,show ((0:Int) !=0)=false from rfl,cond_false]
 by_cases h:rO f id
 · obtain ⟨k,hk,he⟩:=h
   rw [bs.1 k hk he];refine ⟨f[k]!,0,?_,fun _=>⟨k,hk,he⟩,fun _=>rfl⟩
   simp only [aB,Bool.not_true,cond_false,show ((0:Int) !=0)=false from rfl,aD f k hk]
 · obtain ⟨m,_,_,_,e⟩:=bs.2 (fun k hk he=>h ⟨k,hk,he⟩)
   rw [e];exact ⟨(0,0,0),6,rfl,fun h=>(by cases h),fun k=>absurd k h⟩
structure ZQ (c:aQ):Prop where
 f:c.field.points.length<=1000000
 l:c.certs.list.length<=1000000
 d:c.due.length<=1000000
 h:c.agenda.heap.length<=1000000
 w:c.agenda.where_.length<=1000000
 s1:c.agenda.slots.uses.length<=1000000
 s2:c.agenda.slots.used.length<=1000000
 s3:c.agenda.slots.free.length<=1000000
theorem bG.short {c:aQ} (ok:bG c):ZQ c:=by
 have bd:=ok.bd;have ab:=ok.agd.bd;have sl:=ok.agd.so.fl;have sn:=ok.agd.so.n2;have su:=ok.agd.so.ul;exact ⟨by omega,by omega,by omega,by omega,by omega,by omega,by omega,by omega⟩
theorem JF (l:List Int) (hl:l.length<=1000000):lR l l=some true:=by
 unfold lR;rw [bN rfl];refine (bP (body:=nJ) (fun i=>(l,l,(i:Int))) l.length fun i hi=>?_).trans (aJ ?_)
 · have e1:decide ((i:Int)<(l.length:Int))=true:=aN (by omega)
   unfold nJ;simp only [aF,e1,cond_true,aD l i hi,aB,aW (show i<1000000000 by omega),bN rfl,cond_false]
 · unfold nJ
   have:decide ((l.length:Int)<(l.length:Int))=false:=aL (by omega)
   simp only [aF,this,cond_false]
theorem XB (l:List Bool) (hl:l.length<=1000000):pL l l=some true:=by
 unfold pL;rw [bN rfl];refine (bP (body:=mL) (fun i=>(l,l,(i:Int))) l.length fun i hi=>?_).trans (aJ ?_)
 · have e1:decide ((i:Int)<(l.length:Int))=true:=aN (by omega)
   unfold mL;simp only [aF,e1,cond_true,aD l i hi,aB,aW (show i<1000000000 by omega),beq_self_eq_true,Bool.not_true,cond_false]
 · unfold mL
   have:decide ((l.length:Int)<(l.length:Int))=false:=aL (by omega)
   simp only [aF,this,cond_false]
theorem XC (c:aV) (hl:c.list.length<=1000000):BC c c=some true:=by
 unfold BC;rw [bN rfl,bN rfl];refine (bP (body:=tM) (fun i=>((i:Int),c.next_,c.list,c.next_,c.list)) c.list.length fun i hi=>?_).trans (aJ ?_)
 · have e1:decide ((i:Int)<(c.list.length:Int))=true:=aN (by omega)
   unfold tM;simp only [aF,e1,cond_true,aD c.list i hi,aB,aW (show i<1000000000 by omega),beq_self_eq_true,Bool.and_self,Bool.not_true,cond_false]
 · unfold tM
   have:decide ((c.list.length:Int)<(c.list.length:Int))=false:=aL (by omega)
   simp only [aF,this,cond_false]
theorem UY (a:aI) (h1:a.heap.length<=1000000) (h2:a.where_.length<=1000000) (h3:a.slots.uses.length<=1000000) (h4:a.slots.used.length<=1000000) (h5:a.slots.free.length<=1000000):BD a a=some true:=by
 unfold BD F7;simp only [JF _ h3,XB _ h4,JF _ h5,JF _ h2,aB,cond_true,Bool.not_true,cond_false];rw [bN rfl];refine (bP (body:=tN) (fun i=>((i:Int),a.slots.uses,a.slots.used,a.slots.free,a.heap,a.where_,a.slots.uses,a.slots.used,a.slots.free,a.heap,a.where_)) a.heap.length fun i hi=>?_).trans (aJ ?_)
 · have e1:decide ((i:Int)<(a.heap.length:Int))=true:=aN (by omega)
   unfold tN;simp only [aF,e1,cond_true,aD a.heap i hi,aB,aW (show i<1000000000 by omega),beq_self_eq_true,Bool.and_self,Bool.not_true,cond_false]
 · unfold tN
   have:decide ((a.heap.length:Int)<(a.heap.length:Int))=false:=aL (by omega)
   simp only [aF,this,cond_false]
theorem XD {c:aQ} (sh:ZQ c):BE c c=some true:=by
 have hd:=sh.d;unfold BE;simp only [beq_self_eq_true,Bool.and_self,Bool.not_true,cond_false,DN c.field.points c.field.points sh.f,XC _ sh.l,UY _ sh.h sh.w sh.s1 sh.s2 sh.s3,aB,aN];rw [bN rfl]
 refine (bP (body:=tO) (fun i=>((i:Int),c.now.1,c.now.2,c.field.points,c.certs.next_,c.certs.list,c.agenda.slots.uses,c.agenda.slots.used,c.agenda.slots.free,c.agenda.heap,c.agenda.where_,c.due,c.now.1,c.now.2,c.field.points,c.certs.next_,c.certs.list,c.agenda.slots.uses,c.agenda.slots.used,c.agenda.slots.free,c.agenda.heap,c.agenda.where_,c.due)) c.due.length fun i hi=>?_).trans (aJ ?_)
 · have e1:decide ((i:Int)<(c.due.length:Int))=true:=aN (by omega)
   unfold tO;simp only [aF,e1,cond_true,aD c.due i hi,aB,aW (show i<1000000000 by omega),beq_self_eq_true,Bool.and_self,Bool.not_true,cond_false]
 · unfold tO
   have:decide ((c.due.length:Int)<(c.due.length:Int))=false:=aL (by omega)
   simp only [aF,this,cond_false]
structure aC3 (c:aQ):Prop where
 now:qL c.now
 at64: ∀w,w<c.agenda.heap.length->qL ((c.agenda.heap[w]!).1,(c.agenda.heap[w]!).2.1)
theorem UZ (f:Field):uO f=some true\/(uO f=some false/\f.points.length<=70):=by
 unfold uO
 simp only [aF]
 by_cases h1:16<f.points.length
 · rw [aN (show (16:Int)<(f.points.length:Int) by omega)]
   by_cases h2:f.points.length<64
   · rw [aN (show (f.points.length:Int)<64 by omega)];exact .inl rfl
   · rw [aL (show¬(f.points.length:Int)<64 by omega)]
     by_cases h3:70<f.points.length
     · rw [aN (show (70:Int)<(f.points.length:Int) by omega)];exact .inl rfl
     · rw [aL (show¬(70:Int)<(f.points.length:Int) by omega)];exact .inr ⟨rfl,by omega⟩
 · rw [aL (show¬(16:Int)<(f.points.length:Int) by omega),aL (show¬(70:Int)<(f.points.length:Int) by omega)]
   exact .inr ⟨rfl,by omega⟩
theorem U0 (c:aQ):uP c=some true\/(uP c=some false/\ZQ c):=by
 unfold uP C9 C8
 simp only [aF]
 by_cases h1:40<c.certs.list.length
 · rw [aN (show (40:Int)<(c.certs.list.length:Int) by omega)];exact .inl rfl
 rw [aL (show¬(40:Int)<(c.certs.list.length:Int) by omega)]
 by_cases h2:40<c.due.length
 · rw [aN (show (40:Int)<(c.due.length:Int) by omega)];exact .inl rfl
 rw [aL (show¬(40:Int)<(c.due.length:Int) by omega)]
 rcases UZ c.field with e|⟨e,hf⟩
 · rw [e];exact .inl rfl
 rw [e];simp only [cond_false,aB]
 by_cases a1:210<c.agenda.slots.uses.length
 · rw [aN (show (210:Int)<(c.agenda.slots.uses.length:Int) by omega)];exact .inl rfl
 rw [aL (show¬(210:Int)<(c.agenda.slots.uses.length:Int) by omega)]
 by_cases a2:210<c.agenda.slots.used.length
 · rw [aN (show (210:Int)<(c.agenda.slots.used.length:Int) by omega)];exact .inl rfl
 rw [aL (show¬(210:Int)<(c.agenda.slots.used.length:Int) by omega)]
 by_cases a3:210<c.agenda.slots.free.length
 · rw [aN (show (210:Int)<(c.agenda.slots.free.length:Int) by omega)];exact .inl rfl
 rw [aL (show¬(210:Int)<(c.agenda.slots.free.length:Int) by omega)]
 by_cases a4:210<c.agenda.heap.length
 · rw [aN (show (210:Int)<(c.agenda.heap.length:Int) by omega)];exact .inl rfl
 rw [aL (show¬(210:Int)<(c.agenda.heap.length:Int) by omega)]
 by_cases a5:210<c.agenda.where_.length
 · rw [aN (show (210:Int)<(c.agenda.where_.length:Int) by omega)];exact .inl rfl
 rw [aL (show¬(210:Int)<(c.agenda.where_.length:Int) by omega)]
 exact .inr ⟨rfl,⟨by omega,by omega,by omega,by omega,by omega,by omega,by omega,by omega⟩⟩
end Go.Proofs.YthljmpcakagceaaGreat
namespace Go.Proofs.YthljmpcakagceaaGreat
open Go.Vm Classical
theorem aKj (p q:Pt) (t:Int×Int):O3 p q t=(p.2.1-q.2.1)*t.2+(p.2.2-q.2.2)*t.1:=rfl
end Go.Proofs.YthljmpcakagceaaGreat
namespace Go.Proofs.YthljmpcakagceaaGreat
open Go.Vm Classical
end Go.Proofs.YthljmpcakagceaaGreat
namespace Go.Proofs.YthljmpcakagceaaGreat
open Go.Vm Classical
theorem KG {p q:Pt} {t:Int×Int} (hp:gO p) (hq:gO q) (ht:qL t) (hr:cE t):oQ p q t=some (decide (iS p q t),if p.1=q.1 then 2 else 0)\/(p.1=q.1/\oQ p q t=some (false,2)):=by
 unfold oQ;rw [yW ht,if_pos ⟨hp,hq,hr⟩]
 by_cases h:p.1=q.1
 · right;simp [h]
 · left
   simp only [h,if_false,aB,yD hp hq ht]
   have:decide (0<WU p q t)=decide (iS p q t):=by simp only [MY]
   simp [this]
end Go.Proofs.YthljmpcakagceaaGreat
namespace Go.Proofs.YthljmpcakagceaaGreat
theorem BS {α:Type} [BEq α] [LawfulBEq α]: ∀{a b:List α},a.Nodup->(∀x∈a,x∈b)->b.length<=a.length->a.Perm b
 | [],b,_,_,hl=>by
  rw [List.eq_nil_of_length_eq_zero (show b.length=0 by simpa using hl)]
 |x::a,b,hd,h,hl=>by
  rw [List.nodup_cons] at hd;have hx:=h x List.mem_cons_self;have ih:=BS (a:=a) (b:=b.erase x) hd.2 (fun y hy=>by
   rw [List.mem_erase_of_ne (fun e=>hd.1 (by rw [<- e];exact hy))]
   exact h y (List.mem_cons_of_mem _ hy)) (by
   rw [List.length_erase_of_mem hx];rw [List.length_cons] at hl
   omega)
  exact (List.Perm.cons x ih).trans (List.perm_cons_erase hx).symm
theorem NQ {α β:Type} {f:α->β}: ∀{l:List α},l.Nodup->(∀x∈l,∀y∈l,f x=f y->x=y)->(l.map f).Nodup
 | [],_,_=>List.nodup_nil
 |x::l,h,hi=>by
  rw [List.nodup_cons] at h;rw [List.map_cons,List.nodup_cons];refine ⟨fun hm=>?_,NQ h.2 fun y hy z hz=>hi y (List.mem_cons_of_mem _ hy) z (List.mem_cons_of_mem _ hz)⟩
  obtain ⟨y,hy,e⟩:=List.mem_map.1 hm
  have:=hi y (List.mem_cons_of_mem _ hy) x List.mem_cons_self e
  rw [this] at hy;exact h.1 hy
end Go.Proofs.YthljmpcakagceaaGreat
namespace Go.Proofs.YthljmpcakagceaaGreat
open Go.Vm Classical
theorem aKk {f:List Pt} (fok:bQ f) {t:Int×Int} (r64:qL t) {x:Int×Int} (hb:kQ f x):BA x ⟨f⟩ t=some (decide (iS (nH f x.2) (nH f x.1) t)):=by
 obtain ⟨h1,h2⟩:=hb;obtain ⟨j,j1,j2,j3⟩:=JD fok h1;obtain ⟨k,k1,k2,k3⟩:=JD fok h2;unfold BA;simp only [j2,k2,aB,aD f j j1,aD f k k1,j3,k3,MZ (jZ fok h2).1 (jZ fok h1).1 r64]
end Go.Proofs.YthljmpcakagceaaGreat
namespace Go.Proofs.YthljmpcakagceaaGreat
open Go.Vm Classical
theorem J5 {c:aV} (ok:fC c):(c.list.map fun x=>x.2).Nodup:=by
 refine NQ ?_ ?_
 · exact mN.2 fun i j hij hj e=>ok.nd i j hij hj (by rw [e])
 · intro x hx y hy e
   obtain ⟨i,hi,rfl⟩:=bD.1 hx;obtain ⟨j,hj,rfl⟩:=bD.1 hy;rcases Nat.lt_trichotomy i j with k|k|k
   · exact absurd e (ok.nd i j k hj)
   · rw [k]
   · exact absurd e.symm (ok.nd j i k hi)
theorem xE {l:List vC} {x:Int×Int}:vV l x↔x∈l.map fun y=>y.2:=by
 unfold vV;rw [List.mem_map];constructor
 · rintro ⟨i,hi,rfl⟩;exact ⟨l[i]!,bE hi,rfl⟩
 · rintro ⟨y,hy,rfl⟩
   obtain ⟨i,hi,rfl⟩:=bD.1 hy;exact ⟨i,hi,rfl⟩
theorem aKl {c:aQ} (ok:bG c) (es:List (Int×Int)) (kn: ∀x∈es,kQ c.field.points x):
 BB c es=some (decide (c.certs.list.length=es.length/\ ∀i,i<es.length->vV c.certs.list es[i]!/\iS (nH c.field.points (es[i]!).2) (nH c.field.points (es[i]!).1) c.now)):=by
 have bd:=ok.bd;unfold BB;simp only [aF]
 by_cases h0:c.certs.list.length=es.length
 case neg=>rw [eE (by omega),cond_true,aL (fun h=>h0 h.1)]
 rw [bN (by omega),cond_false]
 have key:=RJ (body:=tL) (fun i=>(es,(i:Int),c.now.1,c.now.2,c.field.points,c.certs.next_,c.certs.list,c.agenda.slots.uses,c.agenda.slots.used,c.agenda.slots.free,c.agenda.heap,c.agenda.where_,c.due)) es.length
  (fun i=>vV c.certs.list es[i]!/\iS (nH c.field.points (es[i]!).2) (nH c.field.points (es[i]!).1) c.now) (r:=false) (e:=true) (fun i hi=>by
  have ceta2:aV.mk c.certs.next_ c.certs.list=c.certs:=rfl;unfold tL;simp only [aF,aN (show (i:Int)<(es.length:Int) by omega),cond_true,aD es i hi,aB,ceta2,BO c.certs es[i]! (by omega),aKk ok.fld (t:=(c.now.1,c.now.2)) ok.now64 (kn _ (bE hi)),aW (show i<1000000000 by omega)]
  by_cases h1:vV c.certs.list es[i]!
  · rw [aN h1]
    by_cases h2:iS (nH c.field.points (es[i]!).2) (nH c.field.points (es[i]!).1) c.now
    · rw [show decide (iS (nH c.field.points (es[i]!).2) (nH c.field.points (es[i]!).1) (c.now.1,c.now.2))=true from aN h2]
      exact ⟨fun h=>absurd ⟨h1,h2⟩ h,fun _=>rfl⟩
    · rw [show decide (iS (nH c.field.points (es[i]!).2) (nH c.field.points (es[i]!).1) (c.now.1,c.now.2))=false from aL h2]
      exact ⟨fun _=>rfl,fun h=>absurd h.2 h2⟩
  · rw [aL h1]
    exact ⟨fun _=>rfl,fun h=>absurd h.1 h1⟩) (by
  unfold tL;simp only [aF,aL (show¬(es.length:Int)<(es.length:Int) by omega),cond_false])
 refine (show _=_ from key).trans ?_
 by_cases h2: ∀i,i<es.length->vV c.certs.list es[i]!/\iS (nH c.field.points (es[i]!).2) (nH c.field.points (es[i]!).1) c.now
 · rw [if_pos h2,aN ⟨h0,h2⟩]
 · rw [if_neg h2,aL (fun h=>h2 h.2)]
end Go.Proofs.YthljmpcakagceaaGreat
