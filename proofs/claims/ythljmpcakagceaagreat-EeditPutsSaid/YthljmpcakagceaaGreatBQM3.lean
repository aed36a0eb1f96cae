/- Plain laws (3). -/
import Derived.Test.YthljmpcakagceaaGreatBQM2
import Derived.Test.YthljmpcakagceaaGreatBQS2
namespace Go.Proofs.YthljmpcakagceaaGreat
open Go.Vm Classical
theorem UA (c:aQ) (n:Int) (hl:c.due.length<=1000000):(∀k,k<c.due.length->(c.due[k]!).1=n->(∀j,j<k->(c.due[j]!).1≠n)->qC c n=some (k:Int))/\((∀k,k<c.due.length->(c.due[k]!).1≠n)->qC c n=some (-1)):=by
 unfold qC;refine nV (body:=rD) (fun i=>(n,(i:Int),c.now.1,c.now.2,c.field.points,c.certs.next_,c.certs.list,c.agenda.slots.uses,c.agenda.slots.used,c.agenda.slots.free,c.agenda.heap,c.agenda.where_,c.due)) c.due.length (fun i=>(c.due[i]!).1=n) (fun i=>(i:Int)) (fun i hi=>?_) ?_
 · have e1:decide ((i:Int)<(c.due.length:Int))=true:=aN (by omega)
   unfold rD;simp only [aF,e1,cond_true,aD c.due i hi,aB,aX (show i<1000000000 by omega)]
   constructor
   · intro h;rw [gZ h];rfl
   · intro h;rw [gI h];rfl
 · unfold rD
   have:decide ((c.due.length:Int)<(c.due.length:Int))=false:=aL (by omega)
   simp only [aF,this,cond_false]
theorem OY {ds:List uY} (hu:Up ds) (hl:ds.length<=1000000) (n:Int):(∀k,k<ds.length->(ds[k]!).1=n->pW ds n=some ((k:Int),true))/\((∀k,k<ds.length->(ds[k]!).1≠n)-> ∃m:Nat,pW ds n=some ((m:Int),false)):=by
 have bs:=yC ds n hl (vP.1 hu);unfold pW;rw [aPn];constructor
 · intro k hk he;rw [bs.1 k hk he];rfl
 · intro h
   obtain ⟨m,_,_,_,e⟩:=bs.2 h;exact ⟨m,by rw [e];rfl⟩
theorem bF.bd {c:aQ} (ok:bF c):c.due.length<=200/\c.field.points.length<=64/\c.certs.list.length<=200:=by
 have:=ok.hd;have:=ok.agd.bd;have:=ok.fld.1;have:=ok.crt.len
 omega
theorem kH {c:aQ} (ok:bF c):iZ c=some c:=by
 have bd:=ok.bd;unfold iZ lZ pN;simp only [aY (show c.field.points.length<=1048576 by omega),aY (show c.certs.list.length<=1048576 by omega),aY (show c.due.length<=1048576 by omega),aB,tK ok.agd]
theorem nB {c:aQ} (ok:bF c):nQ c=some c:=by
 have bd:=ok.bd;have ab:=ok.agd.bd;have hl:=ok.agd.so.fl;have hn:=ok.agd.so.n2;have hu:=ok.agd.so.ul;unfold nQ;simp only [aY (show c.field.points.length<=1048576 by omega),aY (show c.certs.list.length<=1048576 by omega),aY (show c.due.length<=1048576 by omega),aY (show c.agenda.heap.length<=1048576 by omega),aY (show c.agenda.where_.length<=1048576 by omega),
  aY (show c.agenda.slots.uses.length<=1048576 by omega),aY (show c.agenda.slots.used.length<=1048576 by omega),aY (show c.agenda.slots.free.length<=1048576 by omega),aB]
theorem BG {cs:List uY} {i:Nat} (hu:Up cs) (hi:i<cs.length) {x:uY} (hx:x∈cs.eraseIdx i):x∈cs/\x.1≠(cs[i]!).1:=by
 rw [wY,List.mem_append] at hx;have ub:=vP.1 hu;rcases hx with hx|hx
 · obtain ⟨j,h1,h2,rfl⟩:=cN.1 hx
   have:=ub j i h1 hi
   exact ⟨bG h2,by omega⟩
 · obtain ⟨j,hj,rfl⟩:=bD.1 hx
   rw [List.length_drop] at hj;rw [sI]
   have:=ub i (i+1+j) (by omega) (by omega)
   exact ⟨bG (by omega),by omega⟩
theorem JN {c:aQ} (ok:bF c) (i:Nat) (hi:i<c.certs.list.length): ∀j,j<(pH c.certs i).list.length->kG c.field.points ((pH c.certs i).list[j]!).2:=by
 intro j hj;have hm:(pH c.certs i).list[j]!∈c.certs.list:=(BG ok.crt_up hi (bG hj)).1;obtain ⟨m,hm1,hm2⟩:=bD.1 hm;rw [<- hm2];exact ok.known m hm1
theorem aPo {c:aQ} (ok:bF c) {i:Nat} (hi:i<c.certs.list.length):
 ∃c':aQ,sB c (c.certs.list[i]!).1=some (c',(c.certs.list[i]!).2,0)/\wS c (c.certs.list[i]!).1=some c'/\bF c'/\c'.field=c.field/\c'.now=c.now/\c'.certs=pH c.certs i:=by
 have bd:=ok.bd;have rm:=M3 ok.crt hi (n:=(c.certs.list[i]!).1) rfl;have wo:=IZ ok.crt hi (n:=(c.certs.list[i]!).1) rfl;have fe:=ok.fol.erase (i:=i) hi;have pd:=OY ok.due_up (by omega) (c.certs.list[i]!).1
 have da:=UA c (c.certs.list[i]!).1 (by omega)
 cases hf:(bH c.field.points (c.certs.list[i]!).2 c.now).2 with
 |false=>
  have no: ∀k,k<c.due.length->(c.due[k]!).1≠(c.certs.list[i]!).1:=by
   intro k hk he;obtain ⟨x,hx,h1,h2,_⟩:=ok.fol.due _ (bG hk);obtain ⟨j,hj,rfl⟩:=bD.1 hx;have ub:=vP.1 ok.crt_up
   have:j=i:=by
    rcases Nat.lt_trichotomy j i with h|h|h
    · have:=ub j i h hi;omega
    · exact h
    · have:=ub i j h hj;omega
   rw [this,hf] at h2;cases h2
  refine ⟨⟨c.now,c.field,pH c.certs i,c.agenda,c.due⟩,?_,?_,?_,rfl,rfl,rfl⟩
  · unfold sB
    obtain ⟨m,e⟩:=pd.2 no;simp only [rm,aB,show ((0:Int) !=0)=false from rfl,cond_false,nB ok,e]
  · unfold wS
    simp only [kH ok,aB,wo,da.2 no,aL (show¬(0:Int)<= -1 by omega),cond_false]
  · exact ⟨ok.nowv,ok.now64,ok.fld,M2 ok.crt hi,ok.agd,ok.w200,ok.hd,JN ok i hi,fe.1 hf⟩
 |true=>
  obtain ⟨k,hk,k1,k2,k3⟩:=fe.2 hf;obtain ⟨w,hw,hev⟩:=bD.1 k2;have hh:(c.agenda.heap[w]!).2.2.2=(c.due[k]!).2:=by rw [hev]
  have ub:=vP.1 ok.due_up;have before: ∀j,j<k->(c.due[j]!).1≠(c.certs.list[i]!).1:=fun j hj he=>by have:=ub j k hj hk;omega
  have dl:(c.due.eraseIdx k).length=c.due.length-1:=Y6 hk;obtain ⟨L,d1,d2⟩:=JL c.due k hk;refine ⟨⟨c.now,c.field,pH c.certs i,eN c.agenda w,c.due.eraseIdx k⟩,?_,?_,?_,rfl,rfl,rfl⟩
  · unfold sB
    simp only [rm,aB,show ((0:Int) !=0)=false from rfl,cond_false,nB ok,pd.1 k hk k1,cond_true,aD c.due k hk,zV ok.agd hw ok.agd.fit hh,aX (show k<1000000000 by omega),WH,d1,d2]
  · unfold wS
    have s1:jM c.due 0 (k:Int)=some (c.due.take k):=oO c.due k (by omega)
    have s2:jM c.due ((k+1:Nat):Int) (c.due.length:Int)=some (c.due.drop (k+1)):=by
     unfold jM;rw [if_pos ⟨by omega,by omega,by omega⟩]
     simp only [Int.toNat_natCast];rw [List.take_of_length_le (by rw [List.length_drop];exact Nat.le_refl _)]
    have tl:(c.due.take k).length=k:=by rw [List.length_take];omega
    have dl2:(c.due.drop (k+1)).length=c.due.length- (k+1):=List.length_drop;simp only [kH ok,aB,wo,da.1 k hk k1 before,aN (show (0:Int)<=(k:Int) by omega),cond_true,aD c.due k hk,zW ok.agd hw hh,s1,aY (show (c.due.take k).length<=1048576 by omega),aX (show k<1000000000 by omega),aF,s2,
     cD (show (c.due.take k).length+(c.due.drop (k+1)).length<=1048576 by omega),wY]
    cases hem:(c.due.drop (k+1)).isEmpty with
    |true=>
     rw [List.isEmpty_iff] at hem;rw [hem,List.append_nil];rfl
    |false=>rfl
  · have rem:=IW ok.agd hw
    have rmem:=MY ok.agd hw;have hlen:(eN c.agenda w).heap.length=c.agenda.heap.length-1:=by
     have h1:=rem.hl;have h2:=ok.agd.hl;have h3:(eN c.agenda w).slots=fT c.agenda.slots (c.agenda.heap[w]!).2.2.2:=by unfold eN;split<;>rfl
     rw [h3] at h1;change _+(c.agenda.slots.free++[_]).length=c.agenda.slots.uses.length at h1;rw [List.length_append] at h1;simp only [List.length_cons,List.length_nil] at h1;omega
    have wlen:(eN c.agenda w).where_.length=200:=by
     have h1:=rem.wl;have h3:(eN c.agenda w).slots=fT c.agenda.slots (c.agenda.heap[w]!).2.2.2:=by unfold eN;split<;>rfl
     rw [h3] at h1;change _=c.agenda.slots.uses.length at h1;rw [h1,<- ok.agd.wl,ok.w200]
    refine ⟨ok.nowv,ok.now64,ok.fld,M2 ok.crt hi,rem,wlen,?_,JN ok i hi,?_⟩
    · show (eN c.agenda w).heap.length=(c.due.eraseIdx k).length
      rw [hlen,dl,ok.hd]
    · refine k3.mono fun x hx e he hm=>(rmem e).2 ⟨hm,fun h=>?_⟩
      have:=(BG ok.crt_up hi hx).2
      rw [h,hev] at he;exact this he.symm
theorem JY {c:aQ} (ok:bF c) {i:Nat} (_hi:i<c.certs.list.length) {c':aQ} (h:sB c (c.certs.list[i]!).1=some (c',(c.certs.list[i]!).2,0)):vK c (c.certs.list[i]!).1=some (c',0):=by
 unfold vK;rw [nY ok.fit,if_pos ok];simp only [aB,show ((0:Int) !=0)=false from rfl,cond_false,h]
end Go.Proofs.YthljmpcakagceaaGreat
namespace Go.Proofs.YthljmpcakagceaaGreat
open Go.Vm Classical
abbrev dC:aQ:=⟨(0,0),⟨[]⟩,⟨0,[]⟩,⟨⟨[],[],[]⟩,[],[]⟩,[]⟩
theorem QY {l:List Pt} (ok:bQ l) {id:Int} (h:vO l id): ¬(nC l id).1<0:=by
 obtain ⟨h1,_⟩:=jU ok h
 have:=h1.1
 omega
theorem aJz {c:aQ} (ok:bF c) {x:Int×Int} (hx:fQ x) (hb:kG c.field.points x) (hn: ¬wZ c.certs.list x):
 (iT c x=some (dC,0,18)/\lV c x=some (dC,0,18)/\(G9 c.certs\/ ¬BX c.agenda.slots))\/
 ∃c':aQ,iT c x=some (c',c.certs.next_,0)/\lV c x=some (c',c.certs.next_,0)/\bF c'/\c'.field=c.field/\c'.now=c.now/\c'.certs=rI c.certs x/\(c'.agenda.slots=c.agenda.slots\/c'.agenda.slots=hM c.agenda.slots):=by
 have bd:=ok.bd;have n0:=ok.crt.n0;have n1:=ok.crt.n1;have fit:=ok.fit;have ad:=T5 ok.crt hx;have rd:=QW ok.crt hx;rw [if_neg hn] at ad rd;have hc:gY c=some 0:=by rw [nY fit,if_pos ok]
 have p1:=nX ok.fld x.1;have p2:=nX ok.fld x.2;have q1:=QY ok.fld hb.1;have q2:=QY ok.fld hb.2;have wh:=yX ok.fld hx ok.nowv ok.now64;rw [if_pos hb] at wh;have rw':=yY ok.fld ok.now64 hb
 by_cases hf:G9 c.certs
 · rw [if_pos hf] at ad rd
   left;refine ⟨?_,?_,.inl hf⟩
   · unfold iT dH
     simp only [hc,aB,show ((0:Int) !=0)=false from rfl,cond_false,ad,show ((18:Int)==8)=false from rfl,p1,p2,aL q1,aL q2,show ((18:Int) !=0)=true from rfl,cond_true]
   · unfold lV
     simp only [rd,aB,show ((18:Int) !=0)=true from rfl,cond_true]
 rw [if_neg hf] at ad rd;have cok:=WJ ok.crt hx hn hf;have known': ∀j,j<(rI c.certs x).list.length->kG c.field.points ((rI c.certs x).list[j]!).2:=by
  intro j hj;rw [D9] at hj;rw [xA]
  by_cases h:j<c.certs.list.length
  · rw [if_pos h];exact ok.known j h
  · rw [if_neg h,if_pos (by omega)];exact hb
 have fresh: ∀e∈c.agenda.heap,Ev.num e≠c.certs.next_:=by
  intro e he hne;obtain ⟨d,hd,h1⟩:=ok.nums e he;obtain ⟨y,hy,h2,_⟩:=ok.fol.due d hd;obtain ⟨j,hj,rfl⟩:=bD.1 hy
  have:=(ok.crt.nr j hj).2
  omega
 have sn:=ok.fol.snoc (x:=(c.certs.next_,x));cases hw:(bH c.field.points x c.now).2 with
 |false=>
  right;refine ⟨⟨c.now,c.field,rI c.certs x,c.agenda,c.due⟩,?_,?_,⟨ok.nowv,ok.now64,ok.fld,cok,ok.agd,ok.w200,ok.hd,known',sn.1 hw⟩,rfl,rfl,rfl,.inl rfl⟩
  · unfold iT dH
    simp only [hc,aB,show ((0:Int) !=0)=false from rfl,cond_false,ad,show ((0:Int)==8)=false from rfl,p1,p2,aL q1,aL q2,nB ok,wh,hw]
  · unfold lV
    simp only [rd,aB,show ((0:Int) !=0)=false from rfl,cond_false,kH ok,rw',hw,Bool.not_false,cond_true]
 |true=>
  obtain ⟨t1,t2⟩:=MH (jU ok.fld hb.2).1 (jU ok.fld hb.1).1 ok.now64 ok.nowv hw
  by_cases op:BX c.agenda.slots
  · right
    have pu:=zS ok.agd op ok.agd.fit (t:=(bH c.field.points x c.now).1) (n:=c.certs.next_) t1 t2 n0 n1 fresh;have rp:=BY ok.agd op (t:=(bH c.field.points x c.now).1) (n:=c.certs.next_) t1 t2 n0 n1;have pok:=Y4 ok.agd op (t:=(bH c.field.points x c.now).1) (n:=c.certs.next_) t1 t2 n0 n1 fresh
    have pmem:=T0 ok.agd op (t:=(bH c.field.points x c.now).1) (n:=c.certs.next_) t1;have plen:=G6 ok.agd op (t:=(bH c.field.points x c.now).1) (n:=c.certs.next_) t1;have ap: ∀h:Int×Int,bE c.due [(c.certs.next_,h)]=some (c.due++[(c.certs.next_,h)]):=fun h=>cD (by simp;omega)
    have wlen:(mH c.agenda (bH c.field.points x c.now).1 c.certs.next_).where_.length=200:=by
     have:=pok.wl
     change _=(c.agenda.slots.uses.set _ _).length at this;rw [List.length_set] at this;rw [this,<- ok.agd.wl,ok.w200]
    refine ⟨⟨c.now,c.field,rI c.certs x,mH c.agenda (bH c.field.points x c.now).1 c.certs.next_,c.due++[(c.certs.next_,mG c.agenda.slots)]⟩,?_,?_,⟨ok.nowv,ok.now64,ok.fld,cok,pok,wlen,?_,known',?_⟩,rfl,rfl,rfl,.inr rfl⟩
    · unfold iT dH
      simp only [hc,aB,show ((0:Int) !=0)=false from rfl,cond_false,ad,show ((0:Int)==8)=false from rfl,p1,p2,aL q1,aL q2,nB ok,wh,hw,cond_true,pu,ap]
    · unfold lV
      simp only [rd,aB,show ((0:Int) !=0)=false from rfl,cond_false,kH ok,rw',hw,Bool.not_true,tJ ok.agd.so,aN op,rp,ap]
    · show (mH c.agenda (bH c.field.points x c.now).1 c.certs.next_).heap.length=(c.due++[_]).length
      rw [plen,List.length_append,ok.hd];rfl
    · have fm:aZ c.field.points c.now (mH c.agenda (bH c.field.points x c.now).1 c.certs.next_).heap c.certs.list c.due:=ok.fol.mono fun y hy e he hm=>(pmem e).2 (.inr hm)
      exact (fm.snoc (x:=(c.certs.next_,x))).2 _ hw rfl ((pmem _).2 (.inl rfl))
  · left
    have pu:=zT ok.agd op ok.agd.fit (t:=(bH c.field.points x c.now).1) (n:=c.certs.next_) t1 t2 n0 n1 fresh;refine ⟨?_,?_,.inr op⟩
    · unfold iT dH
      simp only [hc,aB,show ((0:Int) !=0)=false from rfl,cond_false,ad,show ((0:Int)==8)=false from rfl,p1,p2,aL q1,aL q2,nB ok,wh,hw,cond_true,pu,show ((18:Int) !=0)=true from rfl]
    · unfold lV
      simp only [rd,aB,show ((0:Int) !=0)=false from rfl,cond_false,kH ok,rw',hw,Bool.not_true,tJ ok.agd.so,aL op,Bool.not_false,cond_true]
end Go.Proofs.YthljmpcakagceaaGreat
namespace Go.Proofs.YthljmpcakagceaaGreat
open Go.Vm Classical
theorem Up.inj {cs:List uY} (h:Up cs) {x y:uY} (hx:x∈cs) (hy:y∈cs) (he:x.1=y.1):x=y:=by
 obtain ⟨i,hi,rfl⟩:=bD.1 hx;obtain ⟨j,hj,rfl⟩:=bD.1 hy;have ub:=vP.1 h;rcases Nat.lt_trichotomy i j with h1|h1|h1
 · have:=ub i j h1 hj;omega
 · rw [h1]
 · have:=ub j i h1 hi;omega
structure M6 (c:aQ) (f:List Pt) (i k:Nat) (a:aI) (ds:List uY):Prop where
 ok:eY a
 w2:a.where_.length=200
 new:aZ f c.now a.heap (c.certs.list.take i) ds
 old:aZ c.field.points c.now a.heap (c.certs.list.drop i) (c.due.drop k)
 kl:k<=c.due.length
 cnt:a.heap.length=ds.length+(c.due.length-k)
theorem aPp {a:aI} (ok:eY a) {w:Nat} (hw:w<a.heap.length):(eN a w).heap.length=a.heap.length-1/\(eN a w).where_.length=a.where_.length:=by
 have rem:=IW ok hw;have h3:(eN a w).slots=fT a.slots (a.heap[w]!).2.2.2:=by unfold eN;split<;>rfl
 have h1:=rem.hl;have h2:=ok.hl;have h4:=rem.wl;rw [h3] at h1 h4;change _+(a.slots.free++[_]).length=a.slots.uses.length at h1;change _=a.slots.uses.length at h4;rw [List.length_append] at h1;simp only [List.length_cons,List.length_nil] at h1;exact ⟨by omega,by rw [h4,ok.wl]⟩
theorem aJA {a:aI} {t:Int×Int} {n:Int} (ok:eY a) (pok:eY (mH a t n)):(mH a t n).where_.length=a.where_.length:=by
 have:=pok.wl
 change _=(a.slots.uses.set _ _).length at this;rw [List.length_set] at this;rw [this,ok.wl]
section
variable {c : aQ} (ok : bF c) {f : List Pt} (fok : bQ f) (kn : ∀ i, i < c.certs.list.length -> kG f (c.certs.list[i]!).2)
include ok
theorem HB {i:Nat} {x:uY} (hx:x∈c.certs.list.take i) (hi:i<c.certs.list.length):x.1≠(c.certs.list[i]!).1:=by
 obtain ⟨j,h1,h2,rfl⟩:=cN.1 hx
 have:=ok.crt.up j i h1 hi
 omega
theorem HC {i:Nat} {x:uY} (hx:x∈c.certs.list.drop (i+1)) (hi:i<c.certs.list.length):x.1≠(c.certs.list[i]!).1:=by
 obtain ⟨j,h1,rfl⟩:=bD.1 hx;rw [List.length_drop] at h1;rw [sI]
 have:=ok.crt.up i (i+1+j) (by omega) (by omega)
 omega
theorem aAA {i k:Nat} {a:aI} {ds:List uY} (inv:M6 c f i k a ds) (hi:i<c.certs.list.length) (was:(bH c.field.points (c.certs.list[i]!).2 c.now).2=false): ∀e∈a.heap,Ev.num e≠(c.certs.list[i]!).1:=by
 have u1:Up (c.certs.list.take i):=ok.crt_up.sublist (List.take_sublist _ _);have u2:Up (c.certs.list.drop i):=ok.crt_up.sublist (List.drop_sublist _ _);have d1:=inv.new.up u1;have d2:=inv.old.up u2;have cross: ∀x∈ds,∀y∈c.due.drop k,x.1<y.1:=by
  intro x hx y hy;obtain ⟨p,hp,h1,_⟩:=inv.new.due x hx;obtain ⟨q,hq,h2,_⟩:=inv.old.due y hy;obtain ⟨m,m1,m2,rfl⟩:=cN.1 hp;obtain ⟨n,n1,rfl⟩:=bD.1 hq;rw [List.length_drop] at n1;rw [sI] at h2
  have:=ok.crt.up m (i+n) (by omega) (by omega)
  omega
 have nd:((ds++c.due.drop k).map fun x=>x.1).Nodup:=T9 (by
  show List.Pairwise _ _;rw [List.pairwise_append];exact ⟨d1,d2,cross⟩)
 have only:=JM (H:=a.heap) nd (by rw [List.length_map,List.length_append,List.length_drop,inv.cnt];exact Nat.le_refl _) (fun n hn=>by
  obtain ⟨x,hx,rfl⟩:=List.mem_map.1 hn;rcases List.mem_append.1 hx with hx|hx
  · obtain ⟨p,hp,h1,h2,h3⟩:=inv.new.due x hx
    exact ⟨_,h3,h1.symm⟩
  · obtain ⟨p,hp,h1,h2,h3⟩:=inv.old.due x hx
    exact ⟨_,h3,h1.symm⟩)
 intro e he hne;obtain ⟨x,hx,h1⟩:=List.mem_map.1 (only e he);rcases List.mem_append.1 hx with hx|hx
 · obtain ⟨p,hp,h2,_⟩:=inv.new.due x hx
   exact HB ok hp hi (by rw [<- h2,h1,hne])
 · obtain ⟨p,hp,h2,h3,_⟩:=inv.old.due x hx
   have hp':p∈c.certs.list:=List.mem_of_mem_drop hp
   have:=ok.crt_up.inj hp' (bG hi) (by rw [<- h2,h1,hne])
   rw [this,was] at h3;cases h3
def stP (c:aQ) (f:List Pt) (i:Nat) (a:aI) (ds:List uY):=
 (c.certs.list,(c.certs.list.length:Int),(i:Int),c.now.1,c.now.2,c.field.points,c.certs.next_,c.certs.list,c.agenda.slots.uses,c.agenda.slots.used,c.agenda.slots.free,c.agenda.heap,c.agenda.where_,c.due,f,(0:Int),(0:Int),(0:Int),c.now.1,c.now.2,c.certs.next_,c.certs.list,a.slots.uses,a.slots.used,a.slots.free,a.heap,a.where_,f,ds)
def stR (c:aQ) (f:List Pt) (i:Nat) (a:aI) (ds:List uY):=
 ((i:Int),c.now.1,c.now.2,c.field.points,c.certs.next_,c.certs.list,c.agenda.slots.uses,c.agenda.slots.used,c.agenda.slots.free,c.agenda.heap,c.agenda.where_,c.due,f,(0:Int),(0:Int),(0:Int),c.now.1,c.now.2,f,c.certs.next_,c.certs.list,a.slots.uses,a.slots.used,a.slots.free,a.heap,a.where_,ds)
include fok kn
theorem aCL {i k:Nat} {a:aI} {ds:List uY} (inv:M6 c f i k a ds) (hi:i<c.certs.list.length) (hds:ds.length<=i):
 (dK (stP c f i a ds)=some (.done (.done (dC,18)))/\cQ (stR c f i a ds)=some (.done (dC,18)))\/
 ∃k' a' ds',dK (stP c f i a ds)=some (.next (stP c f (i+1) a' ds'))/\cQ (stR c f i a ds)=some (.next (stR c f (i+1) a' ds'))/\M6 c f (i+1) k' a' ds'/\ds'.length<=i+1:=by
 have bd:=ok.bd;have e1:decide ((i:Int)<(c.certs.list.length:Int))=true:=aN (by omega)
 have sc:=aX (show i<1000000000 by omega)
 have cg:=aD c.certs.list i hi;have hb:=kn i hi;have wn:=yX fok (x:=(c.certs.list[i]!).2) (t:=(c.now.1,c.now.2)) (ok.crt.cv i hi) ok.nowv ok.now64;rw [if_pos hb] at wn;have wr:=yY fok (x:=(c.certs.list[i]!).2) (t:=(c.now.1,c.now.2)) ok.now64 hb;have pd:=OY ok.due_up (by omega) (c.certs.list[i]!).1
 have da:=UA c (c.certs.list[i]!).1 (by omega)
 have dr:=vY hi;have tk:=gF hi;have old:=inv.old;rw [dr] at old;have aeta:aI.mk (aS.mk a.slots.uses a.slots.used a.slots.free) a.heap a.where_=a:=rfl
 have ceta:(aQ.mk (c.now.1,c.now.2) (Field.mk c.field.points) (aV.mk c.certs.next_ c.certs.list) (aI.mk (aS.mk c.agenda.slots.uses c.agenda.slots.used c.agenda.slots.free) c.agenda.heap c.agenda.where_) c.due)=c:=rfl;have other: ∀x∈c.certs.list.take i,x.1≠(c.certs.list[i]!).1:=fun x hx=>HB ok hx hi
 have other': ∀x∈c.certs.list.drop (i+1),x.1≠(c.certs.list[i]!).1:=fun x hx=>HC ok hx hi
 cases hwas:(bH c.field.points (c.certs.list[i]!).2 c.now).2 with
 |true=>
  obtain ⟨d,ds',hd1,hd2,hd3,hd4⟩:=(aZ.cons_true hwas).1 old;have hk:k<c.due.length:=by
   refine Classical.byContradiction fun h=>?_
   rw [List.drop_eq_nil_of_le (by omega)] at hd1
   cases hd1
  have dk:=vY hk;rw [dk] at hd1;injection hd1 with hd5 hd6;subst hd5 hd6;obtain ⟨w,hw,hev⟩:=bD.1 hd3;have hh:(a.heap[w]!).2.2.2=(c.due[k]!).2:=by rw [hev]
  have hnum:Ev.num a.heap[w]! =(c.certs.list[i]!).1:=by rw [hev]
  have before: ∀j,j<k->(c.due[j]!).1≠(c.certs.list[i]!).1:=fun j hj he=>by
   have:=vP.1 ok.due_up j k hj hk
   omega
  have pl:=pd.1 k hk hd2;have dq:=da.1 k hk hd2 before;have gk:=aD c.due k hk;have k0:decide ((0:Int)<=(k:Int))=true:=aN (by omega)
  have ap:bE ds [c.due[k]!]=some (ds++[c.due[k]!]):=cD (by simp;omega)
  cases his:(bH f (c.certs.list[i]!).2 c.now).2 with
  |true=>
   right;have tt:cE (bH f (c.certs.list[i]!).2 c.now).1/\qG (bH f (c.certs.list[i]!).2 c.now).1:=MH (jU fok hb.2).1 (jU fok hb.1).1 ok.now64 ok.nowv his;obtain ⟨t1,t2⟩:=tt;have re:=JX inv.ok inv.ok.fit (t:=(bH f (c.certs.list[i]!).2 c.now).1) hw hh t1 t2;have rr:=IV inv.ok (t:=(bH f (c.certs.list[i]!).2 c.now).1) hw hh t1 t2
   have rok:=aCF inv.ok hw t1 t2;have rmem:=aAz inv.ok hw t1;have rlen:=IU inv.ok hw t1;have stay: ∀(cs:List uY),(∀x∈cs,x.1≠(c.certs.list[i]!).1)-> ∀x∈cs,∀e:Ev,e.num=x.1->e∈a.heap->e∈(kO a w (bH f (c.certs.list[i]!).2 c.now).1).heap:=by
    intro cs hcs x hx e he hm;refine (rmem e).2 (.inr ⟨hm,fun h=>hcs x hx ?_⟩)
    rw [<- he,h,hnum]
   refine ⟨k+1,kO a w (bH f (c.certs.list[i]!).2 c.now).1,ds++[c.due[k]!],?_,?_,⟨rok,by rw [rlen.2];exact inv.w2,?_,?_,by omega,?_⟩,by simp;omega⟩
   · unfold dK stP
     simp only [e1,cond_true,cg,aB,wn,pl,his,gk,aeta,re,ap,show ((0:Int) !=0)=false from rfl,cond_false,sc]
   · unfold cQ stR
     simp only [aF,e1,cond_true,cg,aB,ceta,dq,wr,his,k0,gk,aeta,rr,ap,Bool.not_true,cond_false,sc]
   · rw [tk]
     exact ((inv.new.mono (stay _ other)).snoc (x:=c.certs.list[i]!)).2 _ his hd2 ((rmem _).2 (.inl (by
      show _=((bH f (c.certs.list[i]!).2 c.now).1.1,(bH f (c.certs.list[i]!).2 c.now).1.2,(a.heap[w]!).2.2);rw [hev])))
   · exact hd4.mono (stay _ other')
   · rw [rlen.1,inv.cnt,List.length_append]
     simp only [List.length_cons,List.length_nil];omega
  |false=>
   right;have rv:=zV inv.ok hw inv.ok.fit hh;have rr:=zW inv.ok hw hh;have rok:=IW inv.ok hw;have rmem:=MY inv.ok hw;have rlen:=aPp inv.ok hw;have stay: ∀(cs:List uY),(∀x∈cs,x.1≠(c.certs.list[i]!).1)-> ∀x∈cs,∀e:Ev,e.num=x.1->e∈a.heap->e∈(eN a w).heap:=by
    intro cs hcs x hx e he hm;refine (rmem e).2 ⟨hm,fun h=>hcs x hx ?_⟩
    rw [<- he,h,hnum]
   refine ⟨k+1,eN a w,ds,?_,?_,⟨rok,by rw [rlen.2];exact inv.w2,?_,hd4.mono (stay _ other'),by omega,?_⟩,by omega⟩
   · unfold dK stP
     simp only [e1,cond_true,cg,aB,wn,pl,his,gk,aeta,rv,show ((0:Int) !=0)=false from rfl,cond_false,sc]
   · unfold cQ stR
     simp only [aF,e1,cond_true,cg,aB,ceta,dq,wr,his,k0,gk,aeta,rr,Bool.not_false,cond_false,sc]
   · rw [tk]
     exact ((inv.new.mono (stay _ other)).snoc (x:=c.certs.list[i]!)).1 his
   · have:=inv.cnt
     rw [rlen.1];omega
 |false=>
  have fol:=(aZ.cons_false hwas).1 old;have no: ∀j,j<c.due.length->(c.due[j]!).1≠(c.certs.list[i]!).1:=by
   intro j hj he;obtain ⟨x,hx,h1,h2,_⟩:=ok.fol.due _ (bG hj)
   have:=ok.crt_up.inj hx (bG hi) (by rw [<- h1,he])
   rw [this,hwas] at h2;cases h2
  obtain ⟨m,pl⟩:=pd.2 no;have dq:=da.2 no;have k0:decide ((0:Int)<= -1)=false:=aL (by omega)
  cases his:(bH f (c.certs.list[i]!).2 c.now).2 with
  |true=>
   have tt:cE (bH f (c.certs.list[i]!).2 c.now).1/\qG (bH f (c.certs.list[i]!).2 c.now).1:=MH (jU fok hb.2).1 (jU fok hb.1).1 ok.now64 ok.nowv his;obtain ⟨t1,t2⟩:=tt;have n0:=(ok.crt.nr i hi).1;have n1:(c.certs.list[i]!).1<=1000000:=by have:=(ok.crt.nr i hi).2;have:=ok.crt.n1;omega
   have fresh:=aAA ok inv hi hwas
   by_cases op:BX a.slots
   · right
     have pu:=zS inv.ok op inv.ok.fit (t:=(bH f (c.certs.list[i]!).2 c.now).1) (n:=(c.certs.list[i]!).1) t1 t2 n0 n1 fresh;have rp:=BY inv.ok op (t:=(bH f (c.certs.list[i]!).2 c.now).1) (n:=(c.certs.list[i]!).1) t1 t2 n0 n1;have pok:=Y4 inv.ok op (t:=(bH f (c.certs.list[i]!).2 c.now).1) (n:=(c.certs.list[i]!).1) t1 t2 n0 n1 fresh
     have pmem:=T0 inv.ok op (t:=(bH f (c.certs.list[i]!).2 c.now).1) (n:=(c.certs.list[i]!).1) t1;have plen:=G6 inv.ok op (t:=(bH f (c.certs.list[i]!).2 c.now).1) (n:=(c.certs.list[i]!).1) t1;have ap: ∀h:Int×Int,bE ds [((c.certs.list[i]!).1,h)]=some (ds++[((c.certs.list[i]!).1,h)]):=fun h=>cD (by simp;omega)
     have opn:=tJ inv.ok.so;rw [aN op] at opn;refine ⟨k,mH a (bH f (c.certs.list[i]!).2 c.now).1 (c.certs.list[i]!).1,ds++[((c.certs.list[i]!).1,mG a.slots)],?_,?_,⟨pok,by rw [aJA inv.ok pok];exact inv.w2,?_,?_,inv.kl,?_⟩,by simp;omega⟩
     · unfold dK stP
       simp only [e1,cond_true,cg,aB,wn,pl,his,aeta,pu,ap,show ((0:Int) !=0)=false from rfl,cond_false,sc]
     · unfold cQ stR
       simp only [aF,e1,cond_true,cg,aB,ceta,dq,wr,his,k0,aeta,rp,ap,Bool.not_true,cond_false,sc,opn]
     · rw [tk]
       exact ((inv.new.mono fun x hx e he hm=>(pmem e).2 (.inr hm)).snoc (x:=c.certs.list[i]!)).2 _ his rfl ((pmem _).2 (.inl rfl))
     · exact fol.mono fun x hx e he hm=>(pmem e).2 (.inr hm)
     · have:=inv.cnt
       rw [plen,List.length_append];simp only [List.length_cons,List.length_nil];omega
   · left
     have pu:=zT inv.ok op inv.ok.fit (t:=(bH f (c.certs.list[i]!).2 c.now).1) (n:=(c.certs.list[i]!).1) t1 t2 n0 n1 fresh;have ap: ∀h:Int×Int,bE ds [((c.certs.list[i]!).1,h)]=some (ds++[((c.certs.list[i]!).1,h)]):=fun h=>cD (by simp;omega)
     have opn:=tJ inv.ok.so;rw [aL op] at opn;constructor
     · unfold dK stP
       simp only [e1,cond_true,cg,aB,wn,pl,his,aeta,pu,ap,show ((18:Int) !=0)=true from rfl,cond_false]
     · unfold cQ stR
       simp only [aF,e1,cond_true,cg,aB,ceta,dq,wr,his,k0,aeta,Bool.not_true,Bool.not_false,cond_false,opn]
  |false=>
   right;refine ⟨k,a,ds,?_,?_,⟨inv.ok,inv.w2,?_,fol,inv.kl,inv.cnt⟩,by omega⟩
   · unfold dK stP
     simp only [e1,cond_true,cg,aB,wn,pl,his,show ((0:Int) !=0)=false from rfl,cond_false,sc]
   · unfold cQ stR
     simp only [aF,e1,cond_true,cg,aB,ceta,dq,wr,his,k0,Bool.not_false,cond_false,sc]
   · rw [tk]
     exact (inv.new.snoc (x:=c.certs.list[i]!)).1 his
theorem aR0:
 (pX c ⟨f⟩=some (dC,18)/\mY c ⟨f⟩=some (dC,18))\/
 ∃c':aQ,pX c ⟨f⟩=some (c',0)/\mY c ⟨f⟩=some (c',0)/\bF c'/\c'.field.points=f/\c'.now=c.now/\c'.certs=c.certs:=by
 have bd:=ok.bd;have f64:=fok.1;have run: ∀(d i k:Nat) (a:aI) (ds:List uY),c.certs.list.length-i<=d->i<=c.certs.list.length->M6 c f i k a ds->ds.length<=i->
  (aH dK (stP c f i a ds)=some (.done (dC,18))/\aH cQ (stR c f i a ds)=some (dC,18))\/
  ∃c':aQ,aH dK (stP c f i a ds)=some (.done (c',0))/\aH cQ (stR c f i a ds)=some (c',0)/\bF c'/\c'.field.points=f/\c'.now=c.now/\c'.certs=c.certs:=by
  have fin: ∀(k:Nat) (a:aI) (ds:List uY),M6 c f c.certs.list.length k a ds-> ∃c':aQ,aH dK (stP c f c.certs.list.length a ds)=some (.done (c',0))/\aH cQ (stR c f c.certs.list.length a ds)=some (c',0)/\bF c'/\c'.field.points=f/\c'.now=c.now/\c'.certs=c.certs:=by
   intro k a ds inv;have e1:decide ((c.certs.list.length:Int)<(c.certs.list.length:Int))=false:=aL (by omega)
   have hk:c.due.length-k=0:=by
    have:=inv.old
    rw [List.drop_length] at this
    have:c.due.drop k=[]:=this
    rw [List.drop_eq_nil_iff] at this;omega
   have new:=inv.new;rw [List.take_length] at new;refine ⟨⟨c.now,⟨f⟩,c.certs,a,ds⟩,aJ ?_,aJ ?_,⟨ok.nowv,ok.now64,fok,ok.crt,inv.ok,inv.w2,?_,kn,new⟩,rfl,rfl,rfl⟩
   · unfold dK stP
     simp only [e1,cond_false]
   · unfold cQ stR
     simp only [aF,e1,cond_false]
   · have:=inv.cnt
     show a.heap.length=ds.length;omega
  intro d
  induction d with
  |zero=>
   intro i k a ds hd hi inv hds
   have:i=c.certs.list.length:=by omega
   subst this;exact .inr (fin k a ds inv)
  |succ d ih=>
   intro i k a ds hd hi inv hds
   by_cases he:i=c.certs.list.length
   · subst he;exact .inr (fin k a ds inv)
   rcases aCL ok fok kn inv (by omega) hds with ⟨h1,h2⟩|⟨k',a',ds',h1,h2,h3,h4⟩
   · exact .inl ⟨aJ h1,aJ h2⟩
   · rw [aW h1,aW h2]
     exact ih (i+1) k' a' ds' (by omega) (by omega) h3 h4
 have start:=run c.certs.list.length 0 0 c.agenda [] (by omega) (by omega) ⟨ok.agd,ok.w200,rfl,by rw [List.drop_zero,List.drop_zero];exact ok.fol,by omega,by have:=ok.hd;simp;omega⟩ (by simp)
 have hc:gY c=some 0:=by rw [nY ok.fit,if_pos ok]
 have hf:dE ⟨f⟩=some 0:=by rw [gE];exact congrArg some (fO.2 fok)
 have tw:=nB ok;have tw':nQ (aQ.mk (c.now.1,c.now.2) (Field.mk c.field.points) (aV.mk c.certs.next_ c.certs.list) (aI.mk (aS.mk c.agenda.slots.uses c.agenda.slots.used c.agenda.slots.free) c.agenda.heap c.agenda.where_) c.due)=some c:=tw
 have first:aH lA (c.certs.list,(c.certs.list.length:Int),0,c.now.1,c.now.2,c.field.points,c.certs.next_,c.certs.list,c.agenda.slots.uses,c.agenda.slots.used,c.agenda.slots.free,c.agenda.heap,c.agenda.where_,c.due,f,0,0,0)=
  aH lA (c.certs.list,(c.certs.list.length:Int),(c.certs.list.length:Int),c.now.1,c.now.2,c.field.points,c.certs.next_,c.certs.list,c.agenda.slots.uses,c.agenda.slots.used,c.agenda.slots.free,c.agenda.heap,c.agenda.where_,c.due,f,0,0,0):=by
  refine bV (body:=lA) (fun i=>(c.certs.list,(c.certs.list.length:Int),(i:Int),c.now.1,c.now.2,c.field.points,c.certs.next_,c.certs.list,c.agenda.slots.uses,c.agenda.slots.used,c.agenda.slots.free,c.agenda.heap,c.agenda.where_,c.due,f,0,0,0)) c.certs.list.length (fun i hi=>?_)
  have e1:decide ((i:Int)<(c.certs.list.length:Int))=true:=aN (by omega)
  unfold lA;simp only [e1,cond_true,aD c.certs.list i hi,aB,nX fok,aL (QY fok (kn i hi).1),aL (QY fok (kn i hi).2),cond_false,aX (show i<1000000000 by omega)]
 have second: ∀r,aH dK (stP c f 0 c.agenda [])=some (.done r)->pX c ⟨f⟩=some r:=by
  intro r hr;unfold pX;simp only [hc,aB,show ((0:Int) !=0)=false from rfl,cond_false,hf,aF];rw [first]
  refine aJ ?_;unfold lA;have e1:decide ((c.certs.list.length:Int)<(c.certs.list.length:Int))=false:=aL (by omega)
  simp only [aF,e1,cond_false,tw',aB,aY (show f.length<=1048576 by omega)]
  exact hr
 have third: ∀r,aH cQ (stR c f 0 c.agenda [])=some r->mY c ⟨f⟩=some r:=by
  intro r hr;unfold mY lZ;simp only [kH ok,aB,aY (show f.length<=1048576 by omega)]
  exact hr
 rcases start with ⟨h1,h2⟩|⟨c',h1,h2,h3⟩
 · exact .inl ⟨second _ h1,third _ h2⟩
 · exact .inr ⟨c',second _ h1,third _ h2,h3⟩
end
end Go.Proofs.YthljmpcakagceaaGreat
namespace Go.Proofs.YthljmpcakagceaaGreat
open Go.Vm Classical
theorem oZ (l:List (Int×Int)) (x:Int×Int) (hl:l.length<=1000000):fL l x=some (decide (x∈l)):=by
 unfold fL qU;have key:=nV (body:=jY) (fun i=>(l,(l.length:Int),(i:Int),x)) l.length (fun i=>l[i]! =x) (fun i=>(i:Int)) (e:= -1) (fun i hi=>by
  have e1:decide ((i:Int)<(l.length:Int))=true:=aN (by omega)
  unfold jY;simp only [e1,cond_true,aD l i hi,aB,aX (show i<1000000000 by omega)]
  generalize l[i]! =y;constructor
  · intro h;rw [gZ (congrArg Prod.fst h.symm),gZ (congrArg Prod.snd h.symm)];rfl
  · intro h
    by_cases h1:x.1=y.1
    · rw [gZ h1,gI (fun h2=>h (Prod.ext h1.symm h2.symm))];rfl
    · rw [gI h1];rfl) (by
  unfold jY
  have:decide ((l.length:Int)<(l.length:Int))=false:=aL (by omega)
  simp only [this,cond_false])
 rw [aF]
 by_cases hx:x∈l
 · obtain ⟨i,hi,he⟩:=bD.1 hx
   obtain ⟨k,h1,h2,h3⟩:=G0 (c:=fun i=>l[i]! =x) ⟨i,hi,he⟩
   have:=key.1 k h1 h2 h3
   rw [show ((0:Nat):Int)=0 from rfl] at this;rw [this,aN hx];simp only [aB,aN (show (0:Int)<=(k:Int) by omega)]
 · have:=key.2 fun i hi he=>hx (bD.2 ⟨i,hi,he⟩)
   rw [show ((0:Nat):Int)=0 from rfl] at this;rw [this,aL hx];rfl
theorem JO (l:List (Int×Int)) (x:Int×Int) (hl:l.length<=1000000):GZ l x=some (decide (x∈l)):=by
 unfold GZ;have key:=dB (body:=xW) (fun i=>(l,(i:Int),x)) l.length (fun i=>l[i]! =x) (r:=true) (e:=false) (fun i hi=>by
  have e1:decide ((i:Int)<(l.length:Int))=true:=aN (by omega)
  unfold xW;simp only [aF,e1,cond_true,aD l i hi,aB,aX (show i<1000000000 by omega)]
  generalize l[i]! =y;constructor
  · intro h;rw [gZ (congrArg Prod.fst h),gZ (congrArg Prod.snd h)];rfl
  · intro h
    by_cases h1:y.1=x.1
    · rw [gZ h1,gI (fun h2=>h (Prod.ext h1 h2))];rfl
    · rw [gI h1];rfl) (by
  unfold xW
  have:decide ((l.length:Int)<(l.length:Int))=false:=aL (by omega)
  simp only [aF,this,cond_false])
 by_cases hx:x∈l
 · rw [aN hx];exact key.1 (bD.1 hx)
 · rw [aL hx];exact key.2 fun i hi he=>hx (bD.2 ⟨i,hi,he⟩)
theorem WK (x y:uY):((x.1==y.1)&&((x.2.1==y.2.1)&&(x.2.2==y.2.2)))=decide (x=y):=by
 rw [Bool.eq_iff_iff,decide_eq_true_iff];simp only [Bool.and_eq_true,beq_iff_eq];constructor
 · rintro ⟨h1,h2,h3⟩;exact Prod.ext h1 (Prod.ext h2 h3)
 · rintro rfl;exact ⟨rfl,rfl,rfl⟩
theorem JP (a b:List uY) (hl:a.length<=1000000):wT ⟨a⟩ ⟨b⟩=some (decide (a=b)):=by
 unfold wT;simp only [aF]
 by_cases h:a.length=b.length
 case neg=>rw [eA (by omega),aL (fun k=>h (by rw [k]))];rfl
 rw [bP (by omega)]
 simp only [cond_false];have key:=dB (body:=tD) (fun i=>((i:Int),a,b)) a.length (fun i=> ¬a[i]! =b[i]!) (r:=false) (e:=true) (fun i hi=>by
  have e1:decide ((i:Int)<(a.length:Int))=true:=aN (by omega)
  unfold tD;simp only [aF,e1,cond_true,aD a i hi,aD b i (by omega),aB,aX (show i<1000000000 by omega),WK]
  constructor
  · intro h;rw [aL h];rfl
  · intro h;rw [aN (Classical.not_not.1 h)];rfl) (by
  unfold tD
  have:decide ((a.length:Int)<(a.length:Int))=false:=aL (by omega)
  simp only [aF,this,cond_false])
 by_cases he:a=b
 · rw [aN he]
   exact key.2 fun i hi=>Classical.not_not.2 (by rw [he])
 · rw [aL he]
   refine key.1 (Classical.byContradiction fun hx=>he (C3 h fun i hi=>?_))
   exact Classical.byContradiction fun hn=>hx ⟨i,hi,hn⟩
theorem HD (a b:List uY) (hl:a.length<=1000000):jF a b=some (decide (a=b)):=by
 unfold jF;simp only [aF]
 by_cases h:a.length=b.length
 case neg=>rw [eA (by omega),aL (fun k=>h (by rw [k]))];rfl
 rw [bP (by omega)]
 simp only [cond_false];have key:=dB (body:=jJ) (fun i=>(a,b,(a.length:Int),(i:Int))) a.length (fun i=> ¬a[i]! =b[i]!) (r:=false) (e:=true) (fun i hi=>by
  have e1:decide ((i:Int)<(a.length:Int))=true:=aN (by omega)
  unfold jJ;simp only [e1,cond_true,aD a i hi,aD b i (by omega),aB,aX (show i<1000000000 by omega),WK]
  constructor
  · intro h;rw [aL h];rfl
  · intro h;rw [aN (Classical.not_not.1 h)];rfl) (by
  unfold jJ
  have:decide ((a.length:Int)<(a.length:Int))=false:=aL (by omega)
  simp only [this,cond_false])
 by_cases he:a=b
 · rw [aN he]
   exact key.2 fun i hi=>Classical.not_not.2 (by rw [he])
 · rw [aL he]
   refine key.1 (Classical.byContradiction fun hx=>he (C3 h fun i hi=>?_))
   exact Classical.byContradiction fun hn=>hx ⟨i,hi,hn⟩
theorem aAD {cs:List uY} {m:Nat} {x:uY} (hx:x∈cs) (hne:x.1≠(cs[m]!).1):x∈cs.eraseIdx m:=by
 obtain ⟨j,hj,rfl⟩:=bD.1 hx;have hjm:j≠m:=fun h=>hne (by rw [h])
 rw [wY,List.mem_append]
 by_cases h:j<m
 · exact .inl (cN.2 ⟨j,h,hj,rfl⟩)
 · right
   rw [bD];refine ⟨j- (m+1),by rw [List.length_drop];omega,?_⟩
   rw [sI]
   congr 1;omega
def kP (c0:aQ) (f:List Pt) (es:List (Int×Int)) (i:Nat) (c:aQ):=
 (es,c0.certs.list,(c0.certs.list.length:Int),(i:Int),c.now.1,c.now.2,c.field.points,c.certs.next_,c.certs.list,c.agenda.slots.uses,c.agenda.slots.used,c.agenda.slots.free,c.agenda.heap,c.agenda.where_,c.due,f,(0:Int),(0:Int),(0:Int))
def kR (c0:aQ) (f:List Pt) (es:List (Int×Int)) (i:Nat) (c:aQ):=
 (es,(i:Int),c0.now.1,c0.now.2,c0.field.points,c0.certs.next_,c0.certs.list,c0.agenda.slots.uses,c0.agenda.slots.used,c0.agenda.slots.free,c0.agenda.heap,c0.agenda.where_,c0.due,f,(0:Int),(0:Int),(0:Int),c.now.1,c.now.2,c.field.points,c.certs.next_,c.certs.list,c.agenda.slots.uses,c.agenda.slots.used,c.agenda.slots.free,c.agenda.heap,c.agenda.where_,c.due)
def eP (es:List (Int×Int)) (i:Nat) (c:aQ):=
 (es,(es.length:Int),(i:Int),c.now.1,c.now.2,c.field.points,c.certs.next_,c.certs.list,c.agenda.slots.uses,c.agenda.slots.used,c.agenda.slots.free,c.agenda.heap,c.agenda.where_,c.due,(0:Int),(0:Int),(0:Int))
def eR (es:List (Int×Int)) (i:Nat) (c:aQ):=
 (es,(i:Int),(0:Int),(0:Int),(0:Int),c.now.1,c.now.2,c.field.points,c.certs.next_,c.certs.list,c.agenda.slots.uses,c.agenda.slots.used,c.agenda.slots.free,c.agenda.heap,c.agenda.where_,c.due)
def HE (c:aQ):Int:=c.certs.next_- (c.certs.list.length:Int)
structure Y7 (c:aQ) (f:List Pt) (es:List (Int×Int)) (r:aQ):Prop where
 has: ∀e∈es,wZ r.certs.list e
 sub: ∀x∈r.certs.list,x.2∈es
 ok:bF r
 fld:r.field.points=f
 now:r.now=c.now
 room:HE c<=HE r
def OZ (c:aQ) (k:Nat):Prop:=c.certs.list.length<=k/\c.certs.next_<=k/\ ∀j,j<c.agenda.slots.uses.length->c.agenda.slots.uses[j]!<=k
theorem aZ.len {l:List Pt} {t:Int×Int} {H:List Ev}: ∀{cs ds:List uY},aZ l t H cs ds->ds.length<=cs.length
 | [],ds,h=>by rw [show ds=[] from h];exact Nat.le_refl _
 |x::cs,ds,h=>by
  cases hy:(bH l x.2 t).2 with
  |true=>
   obtain ⟨d,ds',rfl,_,_,h4⟩:=h.1 hy;exact Nat.succ_le_succ h4.len
  |false=>exact Nat.le_succ_of_le (h.2 hy).len
theorem OZ.not_full {c:aQ} (ok:bF c) {k:Nat} (h:OZ c k) (hk:k<=199): ¬(G9 c.certs\/ ¬BX c.agenda.slots):=by
 obtain ⟨h1,h2,h3⟩:=h;have fl:=ok.fol.len;have hd:=ok.hd;have hl:=ok.agd.hl;have wl:=ok.agd.wl;have w2:=ok.w200;rintro (h|h)
 · rcases h with h|h<;>omega
 · refine h ⟨by omega,?_⟩
   have:=h3 _ (D4 ok.agd.so (by omega)).1
   omega
theorem OZ.more {c c':aQ} {k:Nat} (h:OZ c k) {x:Int×Int} (hc:c'.certs=rI c.certs x) (hs:c'.agenda.slots=c.agenda.slots\/c'.agenda.slots=hM c.agenda.slots):OZ c' (k+1):=by
 obtain ⟨h1,h2,h3⟩:=h;refine ⟨?_,?_,fun j hj=>?_⟩
 · rw [hc]
   show (c.certs.list++[(c.certs.next_,x)]).length<=_;rw [List.length_append,List.length_singleton];omega
 · rw [hc]
   show c.certs.next_+1<=_;omega
 · rcases hs with e|e
   · rw [e] at hj ⊢
     have:=h3 j hj;omega
   · rw [e] at hj ⊢
     change j<(c.agenda.slots.uses.set _ _).length at hj;rw [List.length_set] at hj;show (c.agenda.slots.uses.set (cX c.agenda.slots) (c.agenda.slots.uses[cX c.agenda.slots]!+1))[j]!<=_;rw [bC];split
     · rename_i h;have:=h3 _ h.2;omega
     · have:=h3 j hj;omega
structure KE (f:List Pt) (es:List (Int×Int)):Prop where
 len:es.length<=1000000
 cv: ∀x∈es,fQ x
 kn: ∀x∈es,kG f x
theorem aCM {c0:aQ} (ok0:bF c0) {f:List Pt} {es:List (Int×Int)} (eok:KE f es):
 ∀(d i:Nat) (c:aQ),c0.certs.list.length-i<=d->i<=c0.certs.list.length->bF c->(∀x∈c0.certs.list.drop i,x∈c.certs.list)->(∀x∈c.certs.list,x∈c0.certs.list.drop i\/x.2∈es)->
  ∃c':aQ,aH eH (kP c0 f es i c)=aH eH (kP c0 f es c0.certs.list.length c')/\aH dM (kR c0 f es i c)=aH dM (kR c0 f es c0.certs.list.length c')/\bF c'/\(∀x∈c'.certs.list,x.2∈es)/\c'.field=c.field/\c'.now=c.now/\HE c<=HE c':=by
 have bd:=ok0.bd;intro d
 induction d with
 |zero=>
  intro i c hd hi ok h1 h2
  have:i=c0.certs.list.length:=by omega
  subst this;refine ⟨c,rfl,rfl,ok,fun x hx=>?_,rfl,rfl,Int.le_refl _⟩
  rcases h2 x hx with h|h
  · rw [List.drop_length] at h;cases h
  · exact h
 |succ d ih=>
  intro i c hd hi ok h1 h2
  by_cases he:i=c0.certs.list.length
  · subst he
    refine ⟨c,rfl,rfl,ok,fun x hx=>?_,rfl,rfl,Int.le_refl _⟩
    rcases h2 x hx with h|h
    · rw [List.drop_length] at h;cases h
    · exact h
  have hi':i<c0.certs.list.length:=by omega
  have e1:decide ((i:Int)<(c0.certs.list.length:Int))=true:=aN (by omega)
  have sc:=aX (show i<1000000000 by omega)
  have cg:=aD c0.certs.list i hi';have dr:=vY hi';have ceta:(aQ.mk (c.now.1,c.now.2) (Field.mk c.field.points) (aV.mk c.certs.next_ c.certs.list) (aI.mk (aS.mk c.agenda.slots.uses c.agenda.slots.used c.agenda.slots.free) c.agenda.heap c.agenda.where_) c.due)=c:=rfl
  by_cases hin:(c0.certs.list[i]!).2∈es
  · have s1:eH (kP c0 f es i c)=some (.next (kP c0 f es (i+1) c)):=by
     unfold eH kP;simp only [e1,cond_true,cg,aB,oZ _ _ eok.len,aN hin,Bool.not_true,cond_false,sc]
    have s2:dM (kR c0 f es i c)=some (.next (kR c0 f es (i+1) c)):=by
     unfold dM kR;simp only [aF,e1,cond_true,cg,aB,JO _ _ eok.len,aN hin,Bool.not_true,cond_false,sc]
    rw [aW s1,aW s2];refine ih (i+1) c (by omega) (by omega) ok (fun x hx=>h1 x (by rw [dr];exact List.mem_cons_of_mem _ hx)) (fun x hx=>?_)
    rcases h2 x hx with h|h
    · rw [dr] at h
      rcases List.mem_cons.1 h with rfl|h
      · exact .inr hin
      · exact .inl h
    · exact .inr h
  · have hm:=h1 (c0.certs.list[i]!) (by rw [dr];exact List.mem_cons_self)
    obtain ⟨m,hm1,hm2⟩:=bD.1 hm;obtain ⟨c',r1,r2,r3,r4,r5,r6⟩:=aPo ok hm1;have rt:=JY ok hm1 r1;rw [hm2] at r2 rt;have s1:eH (kP c0 f es i c)=some (.next (kP c0 f es (i+1) c')):=by
     unfold eH kP;simp only [e1,cond_true,cg,aB,oZ _ _ eok.len,aL hin,Bool.not_false,sc,ceta,rt]
    have s2:dM (kR c0 f es i c)=some (.next (kR c0 f es (i+1) c')):=by
     unfold dM kR;simp only [aF,e1,cond_true,cg,aB,JO _ _ eok.len,aL hin,Bool.not_false,sc,ceta,r2]
    rw [aW s1,aW s2];have cl:c'.certs.list=c.certs.list.eraseIdx m:=by rw [r6];rfl
    have hroom:HE c<=HE c':=by
     unfold HE;rw [r6];show _<=c.certs.next_- (((c.certs.list.eraseIdx m).length:Nat):Int);rw [List.length_eraseIdx_of_lt hm1];omega
    have hs:(∀x∈c0.certs.list.drop (i+1),x∈c'.certs.list)/\(∀x∈c'.certs.list,x∈c0.certs.list.drop (i+1)\/x.2∈es):=by
     refine ⟨fun x hx=>?_,fun x hx=>?_⟩
     · rw [cl]
       refine aAD (h1 x (by rw [dr];exact List.mem_cons_of_mem _ hx)) ?_
       rw [hm2];exact HC ok0 hx hi'
     · rw [cl] at hx
       obtain ⟨a1,a2⟩:=BG ok.crt_up hm1 hx;rw [hm2] at a2;rcases h2 x a1 with h|h
       · rw [dr] at h
         rcases List.mem_cons.1 h with rfl|h
         · exact absurd rfl a2
         · exact .inl h
       · exact .inr h
    obtain ⟨d',q1,q2,q3,q4,q5,q6,q7⟩:=ih (i+1) c' (by omega) (by omega) r3 hs.1 hs.2
    exact ⟨d',q1,q2,q3,q4,q5.trans r4,q6.trans r5,by omega⟩
theorem UB {f:List Pt} (_fok:bQ f) {es:List (Int×Int)} (eok:KE f es):
 ∀(d i:Nat) (c:aQ),es.length-i<=d->i<=es.length->bF c->c.field.points=f->(∀x∈c.certs.list,x.2∈es)->(∀j,j<i->wZ c.certs.list es[j]!)->
  ∃r:aQ×Int,aH fD (eP es i c)=some (.done r)/\aH dY (eR es i c)=some (.done r)/\(r.2=0/\Y7 c f es r.1\/r=(dC,18))/\(∀k,OZ c k->k+(es.length-i)<=199->r.2=0):=by
 have el:=eok.len;have fin: ∀c:aQ,bF c->c.field.points=f->(∀x∈c.certs.list,x.2∈es)->(∀j,j<es.length->wZ c.certs.list es[j]!)-> ∃r:aQ×Int,aH fD (eP es es.length c)=some (.done r)/\aH dY (eR es es.length c)=some (.done r)/\(r.2=0/\Y7 c f es r.1\/r=(dC,18))/\r.2=0:=by
  intro c ok hf hs hh;have e1:decide ((es.length:Int)<(es.length:Int))=false:=aL (by omega)
  refine ⟨(c,0),aJ ?_,aJ ?_,.inl ⟨rfl,fun e he=>by obtain ⟨j,hj,q⟩:=bD.1 he;rw [<- q];exact hh j hj,hs,ok,hf,rfl,Int.le_refl _⟩,rfl⟩
  · unfold fD eP
    simp only [e1,cond_false]
  · unfold dY eR
    simp only [aF,e1,cond_false]
 intro d
 induction d with
 |zero=>
  intro i c hd hi ok hf hs hh
  have:i=es.length:=by omega
  subst this;obtain ⟨r,q1,q2,q3,q4⟩:=fin c ok hf hs hh;exact ⟨r,q1,q2,q3,fun _ _ _=>q4⟩
 |succ d ih=>
  intro i c hd hi ok hf hs hh
  by_cases he:i=es.length
  · subst he
    obtain ⟨r,q1,q2,q3,q4⟩:=fin c ok hf hs hh;exact ⟨r,q1,q2,q3,fun _ _ _=>q4⟩
  have bd:=ok.bd;have hi':i<es.length:=by omega
  have e1:decide ((i:Int)<(es.length:Int))=true:=aN (by omega)
  have sc:=aX (show i<1000000000 by omega)
  have cg:=aD es i hi';have ceta:(aQ.mk (c.now.1,c.now.2) (Field.mk c.field.points) (aV.mk c.certs.next_ c.certs.list) (aI.mk (aS.mk c.agenda.slots.uses c.agenda.slots.used c.agenda.slots.free) c.agenda.heap c.agenda.where_) c.due)=c:=rfl;have ceta2:aV.mk c.certs.next_ c.certs.list=c.certs:=rfl;have hc:=T4 c.certs.list es[i]! (by omega)
  have hr:=BF c.certs es[i]! (by omega)
  by_cases hin:wZ c.certs.list es[i]!
  · have s1:fD (eP es i c)=some (.next (eP es (i+1) c)):=by
     unfold fD eP;simp only [e1,cond_true,cg,aB,IY,hc,aN hin,sc]
    have s2:dY (eR es i c)=some (.next (eR es (i+1) c)):=by
     unfold dY eR;simp only [aF,e1,cond_true,cg,aB,ceta2,hr,aN hin,sc]
    rw [aW s1,aW s2];obtain ⟨r,q1,q2,q3,q4⟩:=ih (i+1) c (by omega) (by omega) ok hf hs (fun j hj=>if q:j=i then by rw [q];exact hin else hh j (by omega))
    exact ⟨r,q1,q2,q3,fun k hk hl=>q4 k hk (by omega)⟩
  · have hb:kG c.field.points es[i]!:=by rw [hf];exact eok.kn _ (bG hi')
    rcases aJz ok (eok.cv _ (bG hi')) hb hin with ⟨r1,r2,full⟩|⟨c',r1,r2,r3,r4,r5,r6,r7⟩
    · refine ⟨(dC,18),aJ ?_,aJ ?_,.inr rfl,fun k hk hl=>absurd full (hk.not_full ok (by omega))⟩
      · unfold fD eP
        simp only [e1,cond_true,cg,aB,IY,hc,aL hin,cond_false,ceta,r1,show ((18:Int) !=0)=true from rfl]
      · unfold dY eR
        simp only [aF,e1,cond_true,cg,aB,ceta2,hr,aL hin,cond_false,ceta,r2,show ((18:Int) !=0)=true from rfl]
    · have s1:fD (eP es i c)=some (.next (eP es (i+1) c')):=by
       unfold fD eP;simp only [e1,cond_true,cg,aB,IY,hc,aL hin,cond_false,ceta,r1,show ((0:Int) !=0)=false from rfl,sc]
      have s2:dY (eR es i c)=some (.next (eR es (i+1) c')):=by
       unfold dY eR;simp only [aF,e1,cond_true,cg,aB,ceta2,hr,aL hin,cond_false,ceta,r2,show ((0:Int) !=0)=false from rfl,sc]
      rw [aW s1,aW s2];obtain ⟨r,q1,q2,q3,q6⟩:=ih (i+1) c' (by omega) (by omega) r3 (by rw [r4,hf]) (fun x hx=>by
       rw [r6] at hx;rcases List.mem_append.1 (show x∈c.certs.list++[(c.certs.next_,es[i]!)] from hx) with h|h
       · exact hs x h
       · rw [List.mem_singleton.1 h];exact bG hi') (fun j hj=>by
       rw [r6];show wZ (c.certs.list++[(c.certs.next_,es[i]!)]) _
       by_cases q:j=i
       · rw [q];exact ⟨c.certs.list.length,by rw [List.length_append,List.length_singleton];omega,by rw [hH (Nat.le_refl _),Nat.sub_self];rfl⟩
       · obtain ⟨w,w1,w2⟩:=hh j (by omega)
         exact ⟨w,by rw [List.length_append];omega,by rw [gT w1];exact w2⟩)
      refine ⟨r,q1,q2,q3.imp (fun ⟨q4,q5⟩=>⟨q4,q5.has,q5.sub,q5.ok,q5.fld,q5.now.trans r5,Int.le_trans ?_ q5.room⟩) id,fun k hk hl=>q6 (k+1) (hk.more r6 r7) (by omega)⟩
      unfold HE;rw [r6];show _<=(c.certs.next_+1) - (((c.certs.list++[(c.certs.next_,es[i]!)]).length:Nat):Int);rw [List.length_append,List.length_singleton];omega
theorem aJB {c:aQ} (ok:bF c) {f:List Pt} (fok:bQ f) {es:List (Int×Int)} (eok:KE f es):
 ∃r:aQ×Int,uG c ⟨f⟩ es=some r/\mZ c ⟨f⟩ es=some r/\(r.2=0/\Y7 c f es r.1\/r=(dC,18)):=by
 have f64:=fok.1;obtain ⟨c',g1,g2,g3,g4,g5,g6,g7⟩:=aCM ok eok c.certs.list.length 0 c (by omega) (by omega) ok (fun x hx=>by rwa [List.drop_zero] at hx) (fun x hx=> .inl (by rwa [List.drop_zero]))
 have bd:=g3.bd;have e1:decide ((c.certs.list.length:Int)<(c.certs.list.length:Int))=false:=aL (by omega)
 have start1:uG c ⟨f⟩ es=aH eH (kP c f es 0 c):=rfl;have start2:mZ c ⟨f⟩ es=aH dM (kR c f es 0 c):=by
  unfold mZ;simp only [kH ok,aB];rfl
 rw [start1,start2,g1,g2];have eq1:=HD c'.field.points f (by omega)
 have eq2:=JP c'.field.points f (by omega)
 have ceta:(aQ.mk (c'.now.1,c'.now.2) (Field.mk c'.field.points) (aV.mk c'.certs.next_ c'.certs.list) (aI.mk (aS.mk c'.agenda.slots.uses c'.agenda.slots.used c'.agenda.slots.free) c'.agenda.heap c'.agenda.where_) c'.due)=c':=rfl
 by_cases hf:c'.field.points=f
 · obtain ⟨r,i1,i2,i3,_⟩:=UB fok eok es.length 0 c' (by omega) (by omega) g3 hf g4 (fun j hj=>absurd hj (Nat.not_lt_zero j))
   refine ⟨r,aJ ?_,aJ ?_,i3.imp (fun ⟨q4,q5⟩=>⟨q4,q5.has,q5.sub,q5.ok,q5.fld,q5.now.trans g6,Int.le_trans g7 q5.room⟩) id⟩
   · unfold eH kP
     simp only [e1,cond_false,eq1,aN hf,aB,Bool.not_true];exact i1
   · unfold dM kR
     simp only [aF,e1,cond_false,eq2,aN hf,aB,Bool.not_true];exact i2
 · have kn: ∀i,i<c'.certs.list.length->kG f (c'.certs.list[i]!).2:=fun i hi=>eok.kn _ (g4 _ (bG hi))
   rcases aR0 g3 fok kn with ⟨a1,a2⟩|⟨c2,a1,a2,a3,a4,a5,a6⟩
   · refine ⟨(dC,18),aJ ?_,aJ ?_,.inr rfl⟩
     · unfold eH kP
       simp only [e1,cond_false,eq1,aL hf,aB,Bool.not_false,cond_true,ceta,a1,show ((18:Int) !=0)=true from rfl]
     · unfold dM kR
       simp only [aF,e1,cond_false,eq2,aL hf,aB,Bool.not_false,cond_true,ceta,a2,show ((18:Int) !=0)=true from rfl]
   · obtain ⟨r,i1,i2,i3,_⟩:=UB fok eok es.length 0 c2 (by omega) (by omega) a3 a4 (by rw [a6];exact g4) (fun j hj=>absurd hj (Nat.not_lt_zero j))
     refine ⟨r,aJ ?_,aJ ?_,i3.imp (fun ⟨q4,q5⟩=>⟨q4,q5.has,q5.sub,q5.ok,q5.fld,(q5.now.trans a5).trans g6,Int.le_trans (Int.le_trans g7 (by unfold HE;rw [a6];exact Int.le_refl _)) q5.room⟩) id⟩
     · unfold eH kP
       simp only [e1,cond_false,eq1,aL hf,aB,Bool.not_false,cond_true,ceta,a1,show ((0:Int) !=0)=false from rfl];exact i1
     · unfold dM kR
       simp only [aF,e1,cond_false,eq2,aL hf,aB,Bool.not_false,cond_true,ceta,a2,show ((0:Int) !=0)=false from rfl];exact i2
end Go.Proofs.YthljmpcakagceaaGreat
namespace Go.Proofs.YthljmpcakagceaaGreat
open Go.Vm Classical
theorem M7 {α:Type} [Inhabited α] {l:List α}:l.Nodup↔ ∀k,k<l.length->l[k]!∉l.take k:=by
 rw [mF];constructor
 · intro h k hk hm
   obtain ⟨i,h1,h2,h3⟩:=cN.1 hm;exact h i k h1 hk h3
 · intro h i j hij hj he
   exact h j hj (cN.2 ⟨i,hij,by omega,he⟩)
theorem HF {α:Type} [Inhabited α] {l:List α} {P:α->Prop}:(∀x∈l,P x)↔ ∀i,i<l.length->P l[i]!:=by
 constructor
 · intro h i hi;exact h _ (bG hi)
 · intro h x hx
   obtain ⟨i,hi,rfl⟩:=bD.1 hx;exact h i hi
theorem QZ {σ ρ:Type} {body:σ->Option (cL σ ρ)} (st:Nat->σ) (n:Nat) (P:Nat->Prop) {r e:ρ} (h: ∀i,i<n->(¬P i->body (st i)=some (.done r))/\(P i->body (st i)=some (.next (st (i+1)))))
 (hend:body (st n)=some (.done e)):aH body (st 0)=some (if∀i,i<n->P i then e else r):=by
 have key:=dB (body:=body) st n (fun i=> ¬P i) (r:=r) (e:=e) (fun i hi=>⟨(h i hi).1,fun hn=>(h i hi).2 (Classical.not_not.1 hn)⟩) hend
 by_cases hx: ∀i,i<n->P i
 · rw [if_pos hx];exact key.2 fun i hi=>Classical.not_not.2 (hx i hi)
 · rw [if_neg hx]
   obtain ⟨i,h⟩:=Classical.not_forall.1 hx;obtain ⟨hi,hx⟩:=Classical.not_imp.1 h;exact key.1 ⟨i,hi,hx⟩
theorem EW {f:List Pt} (fok:bQ f) (id:Int): ∃p e,wM ⟨f⟩ id=some (p,e)/\(e=0↔vO f id):=by
 have h1:=fok.1;have hc:dE ⟨f⟩=some 0:=by rw [gE];exact congrArg some (fO.2 fok)
 have bs:=yC f id (by omega) (fun i j=>jP fok.2.2)
 unfold wM lR kC;rw [G8];simp only [hc,aB,show ((0:Int) !=0)=false from rfl,cond_false]
 by_cases h:vO f id
 · obtain ⟨k,hk,he⟩:=h
   rw [bs.1 k hk he];refine ⟨f[k]!,0,?_,fun _=>⟨k,hk,he⟩,fun _=>rfl⟩
   simp only [aB,Bool.not_true,cond_false,show ((0:Int) !=0)=false from rfl,aD f k hk]
 · obtain ⟨m,_,_,_,e⟩:=bs.2 (fun k hk he=>h ⟨k,hk,he⟩)
   rw [e];exact ⟨(0,0,0),6,rfl,fun h=>(by cases h),fun k=>absurd k h⟩
structure O0 (c:aQ):Prop where
 f:c.field.points.length<=1000000
 l:c.certs.list.length<=1000000
 d:c.due.length<=1000000
 h:c.agenda.heap.length<=1000000
 w:c.agenda.where_.length<=1000000
 s1:c.agenda.slots.uses.length<=1000000
 s2:c.agenda.slots.used.length<=1000000
 s3:c.agenda.slots.free.length<=1000000
theorem bF.short {c:aQ} (ok:bF c):O0 c:=by
 have bd:=ok.bd;have ab:=ok.agd.bd;have sl:=ok.agd.so.fl;have sn:=ok.agd.so.n2;have su:=ok.agd.so.ul;exact ⟨by omega,by omega,by omega,by omega,by omega,by omega,by omega,by omega⟩
theorem NL:O0 dC:=⟨by decide,by decide,by decide,by decide,by decide,by decide,by decide,by decide⟩
theorem I2 (l:List Int) (hl:l.length<=1000000):lH l l=some true:=by
 unfold lH;rw [bP rfl];refine (bV (body:=nE) (fun i=>(l,l,(i:Int))) l.length fun i hi=>?_).trans (aJ ?_)
 · have e1:decide ((i:Int)<(l.length:Int))=true:=aN (by omega)
   unfold nE;simp only [aF,e1,cond_true,aD l i hi,aB,aX (show i<1000000000 by omega),bP rfl,cond_false]
 · unfold nE
   have:decide ((l.length:Int)<(l.length:Int))=false:=aL (by omega)
   simp only [aF,this,cond_false]
theorem WL (l:List Bool) (hl:l.length<=1000000):pF l l=some true:=by
 unfold pF;rw [bP rfl];refine (bV (body:=mE) (fun i=>(l,l,(i:Int))) l.length fun i hi=>?_).trans (aJ ?_)
 · have e1:decide ((i:Int)<(l.length:Int))=true:=aN (by omega)
   unfold mE;simp only [aF,e1,cond_true,aD l i hi,aB,aX (show i<1000000000 by omega),beq_self_eq_true,Bool.not_true,cond_false]
 · unfold mE
   have:decide ((l.length:Int)<(l.length:Int))=false:=aL (by omega)
   simp only [aF,this,cond_false]
theorem WM (c:aV) (hl:c.list.length<=1000000):A5 c c=some true:=by
 unfold A5;rw [bP rfl,bP rfl];refine (bV (body:=tG) (fun i=>((i:Int),c.next_,c.list,c.next_,c.list)) c.list.length fun i hi=>?_).trans (aJ ?_)
 · have e1:decide ((i:Int)<(c.list.length:Int))=true:=aN (by omega)
   unfold tG;simp only [aF,e1,cond_true,aD c.list i hi,aB,aX (show i<1000000000 by omega),beq_self_eq_true,Bool.and_self,Bool.not_true,cond_false]
 · unfold tG
   have:decide ((c.list.length:Int)<(c.list.length:Int))=false:=aL (by omega)
   simp only [aF,this,cond_false]
theorem UC (a:aI) (h1:a.heap.length<=1000000) (h2:a.where_.length<=1000000) (h3:a.slots.uses.length<=1000000) (h4:a.slots.used.length<=1000000) (h5:a.slots.free.length<=1000000):A6 a a=some true:=by
 unfold A6 FP;simp only [I2 _ h3,WL _ h4,I2 _ h5,I2 _ h2,aB,cond_true,Bool.not_true,cond_false];rw [bP rfl];refine (bV (body:=tH) (fun i=>((i:Int),a.slots.uses,a.slots.used,a.slots.free,a.heap,a.where_,a.slots.uses,a.slots.used,a.slots.free,a.heap,a.where_)) a.heap.length fun i hi=>?_).trans (aJ ?_)
 · have e1:decide ((i:Int)<(a.heap.length:Int))=true:=aN (by omega)
   unfold tH;simp only [aF,e1,cond_true,aD a.heap i hi,aB,aX (show i<1000000000 by omega),beq_self_eq_true,Bool.and_self,Bool.not_true,cond_false]
 · unfold tH
   have:decide ((a.heap.length:Int)<(a.heap.length:Int))=false:=aL (by omega)
   simp only [aF,this,cond_false]
theorem WN {c:aQ} (sh:O0 c):A7 c c=some true:=by
 have hd:=sh.d;unfold A7;simp only [beq_self_eq_true,Bool.and_self,Bool.not_true,cond_false,JP c.field.points c.field.points sh.f,WM _ sh.l,UC _ sh.h sh.w sh.s1 sh.s2 sh.s3,aB,aN];rw [bP rfl]
 refine (bV (body:=tI) (fun i=>((i:Int),c.now.1,c.now.2,c.field.points,c.certs.next_,c.certs.list,c.agenda.slots.uses,c.agenda.slots.used,c.agenda.slots.free,c.agenda.heap,c.agenda.where_,c.due,c.now.1,c.now.2,c.field.points,c.certs.next_,c.certs.list,c.agenda.slots.uses,c.agenda.slots.used,c.agenda.slots.free,c.agenda.heap,c.agenda.where_,c.due)) c.due.length fun i hi=>?_).trans (aJ ?_)
 · have e1:decide ((i:Int)<(c.due.length:Int))=true:=aN (by omega)
   unfold tI;simp only [aF,e1,cond_true,aD c.due i hi,aB,aX (show i<1000000000 by omega),beq_self_eq_true,Bool.and_self,Bool.not_true,cond_false]
 · unfold tI
   have:decide ((c.due.length:Int)<(c.due.length:Int))=false:=aL (by omega)
   simp only [aF,this,cond_false]
structure aAE (c:aQ):Prop where
 now:qG c.now
 at64: ∀w,w<c.agenda.heap.length->qG ((c.agenda.heap[w]!).1,(c.agenda.heap[w]!).2.1)
theorem UD (f:Field):tZ f=some true\/(tZ f=some false/\f.points.length<=70):=by
 unfold tZ
 simp only [aF]
 by_cases h1:16<f.points.length
 · rw [aN (show (16:Int)<(f.points.length:Int) by omega)]
   by_cases h2:f.points.length<64
   · rw [aN (show (f.points.length:Int)<64 by omega)];exact .inl rfl
   · rw [aL (show¬(f.points.length:Int)<64 by omega)]
     by_cases h3:70<f.points.length
     · rw [aN (show (70:Int)<(f.points.length:Int) by omega)];exact .inl rfl
     · rw [aL (show¬(70:Int)<(f.points.length:Int) by omega)];exact .inr ⟨rfl,by omega⟩
 · rw [aL (show¬(16:Int)<(f.points.length:Int) by omega),aL (show¬(70:Int)<(f.points.length:Int) by omega)]
   exact .inr ⟨rfl,by omega⟩
theorem UE (c:aQ):uA c=some true\/(uA c=some false/\O0 c):=by
 unfold uA CT CS
 simp only [aF]
 by_cases h1:40<c.certs.list.length
 · rw [aN (show (40:Int)<(c.certs.list.length:Int) by omega)];exact .inl rfl
 rw [aL (show¬(40:Int)<(c.certs.list.length:Int) by omega)]
 by_cases h2:40<c.due.length
 · rw [aN (show (40:Int)<(c.due.length:Int) by omega)];exact .inl rfl
 rw [aL (show¬(40:Int)<(c.due.length:Int) by omega)]
 rcases UD c.field with e|⟨e,hf⟩
 · rw [e];exact .inl rfl
 rw [e];simp only [cond_false,aB]
 by_cases a1:210<c.agenda.slots.uses.length
 · rw [aN (show (210:Int)<(c.agenda.slots.uses.length:Int) by omega)];exact .inl rfl
 rw [aL (show¬(210:Int)<(c.agenda.slots.uses.length:Int) by omega)]
 by_cases a2:210<c.agenda.slots.used.length
 · rw [aN (show (210:Int)<(c.agenda.slots.used.length:Int) by omega)];exact .inl rfl
 rw [aL (show¬(210:Int)<(c.agenda.slots.used.length:Int) by omega)]
 by_cases a3:210<c.agenda.slots.free.length
 · rw [aN (show (210:Int)<(c.agenda.slots.free.length:Int) by omega)];exact .inl rfl
 rw [aL (show¬(210:Int)<(c.agenda.slots.free.length:Int) by omega)]
 by_cases a4:210<c.agenda.heap.length
 · rw [aN (show (210:Int)<(c.agenda.heap.length:Int) by omega)];exact .inl rfl
 rw [aL (show¬(210:Int)<(c.agenda.heap.length:Int) by omega)]
 by_cases a5:210<c.agenda.where_.length
 · rw [aN (show (210:Int)<(c.agenda.where_.length:Int) by omega)];exact .inl rfl
 rw [aL (show¬(210:Int)<(c.agenda.where_.length:Int) by omega)]
 exact .inr ⟨rfl,⟨by omega,by omega,by omega,by omega,by omega,by omega,by omega,by omega⟩⟩
theorem WQ {c:aQ} (sh:O0 c):iZ c=some c:=by
 obtain ⟨h1,h2,h3,h4,h5,h6,h7,h8⟩:=sh;unfold iZ lZ pN mA nM;simp only [aY (show c.field.points.length<=1048576 by omega),aY (show c.certs.list.length<=1048576 by omega),aY (show c.due.length<=1048576 by omega),aY (show c.agenda.heap.length<=1048576 by omega),aY (show c.agenda.where_.length<=1048576 by omega),
  aY (show c.agenda.slots.uses.length<=1048576 by omega),aY (show c.agenda.slots.used.length<=1048576 by omega),aY (show c.agenda.slots.free.length<=1048576 by omega),aB]
end Go.Proofs.YthljmpcakagceaaGreat
namespace Go.Proofs.YthljmpcakagceaaGreat
open Go.Vm Classical
theorem aJC (p q:Pt) (t:Int×Int):ON p q t=(p.2.1-q.2.1)*t.2+(p.2.2-q.2.2)*t.1:=rfl
end Go.Proofs.YthljmpcakagceaaGreat
namespace Go.Proofs.YthljmpcakagceaaGreat
open Go.Vm Classical
end Go.Proofs.YthljmpcakagceaaGreat
namespace Go.Proofs.YthljmpcakagceaaGreat
open Go.Vm Classical
theorem JZ {p q:Pt} {t:Int×Int} (hp:gK p) (hq:gK q) (ht:qG t) (hr:cE t):oG p q t=some (decide (iL p q t),if p.1=q.1 then 2 else 0)\/(p.1=q.1/\oG p q t=some (false,2)):=by
 unfold oG;rw [yR ht,if_pos ⟨hp,hq,hr⟩]
 by_cases h:p.1=q.1
 · right;simp [h]
 · left
   simp only [h,if_false,aB,xZ hp hq ht]
   have:decide (0<V5 p q t)=decide (iL p q t):=by simp only [MF]
   simp [this]
end Go.Proofs.YthljmpcakagceaaGreat
namespace Go.Proofs.YthljmpcakagceaaGreat
theorem FV {α:Type} [BEq α] [LawfulBEq α]: ∀{a b:List α},a.Nodup->(∀x∈a,x∈b)->b.length<=a.length->a.Perm b
 | [],b,_,_,hl=>by
  rw [List.eq_nil_of_length_eq_zero (show b.length=0 by simpa using hl)]
 |x::a,b,hd,h,hl=>by
  rw [List.nodup_cons] at hd;have hx:=h x List.mem_cons_self;have ih:=FV (a:=a) (b:=b.erase x) hd.2 (fun y hy=>by
   rw [List.mem_erase_of_ne (fun e=>hd.1 (by rw [<- e];exact hy))]
   exact h y (List.mem_cons_of_mem _ hy)) (by
   rw [List.length_erase_of_mem hx];rw [List.length_cons] at hl
   omega)
  exact (List.Perm.cons x ih).trans (List.perm_cons_erase hx).symm
theorem M8 {α β:Type} {f:α->β}: ∀{l:List α},l.Nodup->(∀x∈l,∀y∈l,f x=f y->x=y)->(l.map f).Nodup
 | [],_,_=>List.nodup_nil
 |x::l,h,hi=>by
  rw [List.nodup_cons] at h;rw [List.map_cons,List.nodup_cons];refine ⟨fun hm=>?_,M8 h.2 fun y hy z hz=>hi y (List.mem_cons_of_mem _ hy) z (List.mem_cons_of_mem _ hz)⟩
  obtain ⟨y,hy,e⟩:=List.mem_map.1 hm
  have:=hi y (List.mem_cons_of_mem _ hy) x List.mem_cons_self e
  rw [this] at hy;exact h.1 hy
end Go.Proofs.YthljmpcakagceaaGreat
namespace Go.Proofs.YthljmpcakagceaaGreat
open Go.Vm Classical
theorem aJD {f:List Pt} (fok:bQ f) {t:Int×Int} (r64:qG t) {x:Int×Int} (hb:kG f x):A3 x ⟨f⟩ t=some (decide (iL (nC f x.2) (nC f x.1) t)):=by
 obtain ⟨h1,h2⟩:=hb;obtain ⟨j,j1,j2,j3⟩:=I1 fok h1;obtain ⟨k,k1,k2,k3⟩:=I1 fok h2;unfold A3;simp only [j2,k2,aB,aD f j j1,aD f k k1,j3,k3,MG (jU fok h2).1 (jU fok h1).1 r64]
end Go.Proofs.YthljmpcakagceaaGreat
namespace Go.Proofs.YthljmpcakagceaaGreat
open Go.Vm Classical
theorem UF {c:aV} (ok:fA c):(c.list.map fun x=>x.2).Nodup:=by
 refine M8 ?_ ?_
 · exact mF.2 fun i j hij hj e=>ok.nd i j hij hj (by rw [e])
 · intro x hx y hy e
   obtain ⟨i,hi,rfl⟩:=bD.1 hx;obtain ⟨j,hj,rfl⟩:=bD.1 hy;rcases Nat.lt_trichotomy i j with k|k|k
   · exact absurd e (ok.nd i j k hj)
   · rw [k]
   · exact absurd e.symm (ok.nd j i k hi)
theorem HG {l:List uY} {x:Int×Int}:wZ l x↔x∈l.map fun y=>y.2:=by
 unfold wZ;rw [List.mem_map];constructor
 · rintro ⟨i,hi,rfl⟩;exact ⟨l[i]!,bG hi,rfl⟩
 · rintro ⟨y,hy,rfl⟩
   obtain ⟨i,hi,rfl⟩:=bD.1 hy;exact ⟨i,hi,rfl⟩
theorem aJE {c:aQ} (ok:bF c) (es:List (Int×Int)) (kn: ∀x∈es,kG c.field.points x):
 A4 c es=some (decide (c.certs.list.length=es.length/\ ∀i,i<es.length->wZ c.certs.list es[i]!/\iL (nC c.field.points (es[i]!).2) (nC c.field.points (es[i]!).1) c.now)):=by
 have bd:=ok.bd;unfold A4;simp only [aF]
 by_cases h0:c.certs.list.length=es.length
 case neg=>rw [eA (by omega),cond_true,aL (fun h=>h0 h.1)]
 rw [bP (by omega),cond_false]
 have key:=QZ (body:=tB) (fun i=>(es,(i:Int),c.now.1,c.now.2,c.field.points,c.certs.next_,c.certs.list,c.agenda.slots.uses,c.agenda.slots.used,c.agenda.slots.free,c.agenda.heap,c.agenda.where_,c.due)) es.length
  (fun i=>wZ c.certs.list es[i]!/\iL (nC c.field.points (es[i]!).2) (nC c.field.points (es[i]!).1) c.now) (r:=false) (e:=true) (fun i hi=>by
  have ceta2:aV.mk c.certs.next_ c.certs.list=c.certs:=rfl;unfold tB;simp only [aF,aN (show (i:Int)<(es.length:Int) by omega),cond_true,aD es i hi,aB,ceta2,BF c.certs es[i]! (by omega),aJD ok.fld (t:=(c.now.1,c.now.2)) ok.now64 (kn _ (bG hi)),aX (show i<1000000000 by omega)]
  by_cases h1:wZ c.certs.list es[i]!
  · rw [aN h1]
    by_cases h2:iL (nC c.field.points (es[i]!).2) (nC c.field.points (es[i]!).1) c.now
    · rw [show decide (iL (nC c.field.points (es[i]!).2) (nC c.field.points (es[i]!).1) (c.now.1,c.now.2))=true from aN h2]
      exact ⟨fun h=>absurd ⟨h1,h2⟩ h,fun _=>rfl⟩
    · rw [show decide (iL (nC c.field.points (es[i]!).2) (nC c.field.points (es[i]!).1) (c.now.1,c.now.2))=false from aL h2]
      exact ⟨fun _=>rfl,fun h=>absurd h.2 h2⟩
  · rw [aL h1]
    exact ⟨fun _=>rfl,fun h=>absurd h.1 h1⟩) (by
  unfold tB;simp only [aF,aL (show¬(es.length:Int)<(es.length:Int) by omega),cond_false])
 refine (show _=_ from key).trans ?_
 by_cases h2: ∀i,i<es.length->wZ c.certs.list es[i]!/\iL (nC c.field.points (es[i]!).2) (nC c.field.points (es[i]!).1) c.now
 · rw [if_pos h2,aN ⟨h0,h2⟩]
 · rw [if_neg h2,aL (fun h=>h2 h.2)]
end Go.Proofs.YthljmpcakagceaaGreat
