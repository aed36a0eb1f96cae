/- Plain laws (3). -/
import Derived.Test.YthljmpcakagceaaGreatEQM2
import Derived.Test.YthljmpcakagceaaGreatEQS2
namespace Go.Proofs.YthljmpcakagceaaGreat
open Go.Vm Classical
theorem UN (c:aJ) (n:Int) (hl:c.due.length<=1000000):(∀k,k<c.due.length->(c.due[k]!).1=n->(∀j,j<k->(c.due[j]!).1≠n)->uA c n=some (k:Int))/\((∀k,k<c.due.length->(c.due[k]!).1≠n)->uA c n=some (-1)):=by
 unfold uA;refine lS (body:=qR) (fun i=>(n,(i:Int),c.now.1,c.now.2,c.field.points,c.certs.next_,c.certs.list,c.agenda.slots.uses,c.agenda.slots.used,c.agenda.slots.free,c.agenda.heap,c.agenda.where_,c.due)) c.due.length (fun i=>(c.due[i]!).1=n) (fun i=>(i:Int)) (fun i hi=>?_) ?_
 · have e1:decide ((i:Int)<(c.due.length:Int))=true:=aM (by omega)
   unfold qR;simp only [aF,e1,cond_true,aC c.due i hi,aB,bC (show i<1000000000 by omega)]
   constructor
   · intro h;rw [gL h];rfl
   · intro h;rw [fW h];rfl
 · unfold qR
   have:decide ((c.due.length:Int)<(c.due.length:Int))=false:=aI (by omega)
   simp only [aF,this,cond_false]
theorem PF {ds:List uC} (hu:Up ds) (hl:ds.length<=1000000) (n:Int):(∀k,k<ds.length->(ds[k]!).1=n->pF ds n=some ((k:Int),true))/\((∀k,k<ds.length->(ds[k]!).1≠n)-> ∃m:Nat,pF ds n=some ((m:Int),false)):=by
 have bs:=KT ds n hl (vJ.1 hu);unfold pF;rw [aOZ];constructor
 · intro k hk he;rw [bs.1 k hk he];rfl
 · intro h
   obtain ⟨m,_,_,_,e⟩:=bs.2 h;exact ⟨m,by rw [e];rfl⟩
theorem bD.bd {c:aJ} (ok:bD c):c.due.length<=200/\c.field.points.length<=64/\c.certs.list.length<=200:=by
 have:=ok.hd;have:=ok.agd.bd;have:=ok.fld.1;have:=ok.crt.len
 omega
theorem kJ {c:aJ} (ok:bD c):rX c=some c:=by
 have bd:=ok.bd;unfold rX BE BF;simp only [bH (show c.field.points.length<=1048576 by omega),bH (show c.certs.list.length<=1048576 by omega),bH (show c.due.length<=1048576 by omega),aB,sT ok.agd]
theorem kK {c:aJ} (ok:bD c):kF c=some c:=by
 have bd:=ok.bd;have ab:=ok.agd.bd;have hl:=ok.agd.so.fl;have hn:=ok.agd.so.n2;have hu:=ok.agd.so.ul;unfold kF;simp only [bH (show c.field.points.length<=1048576 by omega),bH (show c.certs.list.length<=1048576 by omega),bH (show c.due.length<=1048576 by omega),bH (show c.agenda.heap.length<=1048576 by omega),bH (show c.agenda.where_.length<=1048576 by omega),
  bH (show c.agenda.slots.uses.length<=1048576 by omega),bH (show c.agenda.slots.used.length<=1048576 by omega),bH (show c.agenda.slots.free.length<=1048576 by omega),aB]
theorem vK {cs:List uC} {i:Nat} (hu:Up cs) (hi:i<cs.length) {x:uC} (hx:x∈cs.eraseIdx i):x∈cs/\x.1≠(cs[i]!).1:=by
 rw [wS,List.mem_append] at hx;have ub:=vJ.1 hu;rcases hx with hx|hx
 · obtain ⟨j,h1,h2,rfl⟩:=cL.1 hx
   have:=ub j i h1 hi
   exact ⟨bB h2,by omega⟩
 · obtain ⟨j,hj,rfl⟩:=aY.1 hx
   rw [List.length_drop] at hj;rw [vP]
   have:=ub i (i+1+j) (by omega) (by omega)
   exact ⟨bB (by omega),by omega⟩
theorem DR {c:aJ} (ok:bD c) (i:Nat) (hi:i<c.certs.list.length): ∀j,j<(nV c.certs i).list.length->hJ c.field.points ((nV c.certs i).list[j]!).2:=by
 intro j hj;have hm:(nV c.certs i).list[j]!∈c.certs.list:=(vK ok.crt_up hi (bB hj)).1;obtain ⟨m,hm1,hm2⟩:=aY.1 hm;rw [<- hm2];exact ok.known m hm1
theorem aCv {c:aJ} (ok:bD c) {i:Nat} (hi:i<c.certs.list.length):
 ∃c':aJ,lY c (c.certs.list[i]!).1=some (c',(c.certs.list[i]!).2,0)/\rY c (c.certs.list[i]!).1=some c'/\bD c'/\c'.field=c.field/\c'.now=c.now/\c'.certs=nV c.certs i:=by
 have bd:=ok.bd;have rm:=NL ok.crt hi (n:=(c.certs.list[i]!).1) rfl;have wo:=JC ok.crt hi (n:=(c.certs.list[i]!).1) rfl;have fe:=ok.fol.erase (i:=i) hi;have pd:=PF ok.due_up (by omega) (c.certs.list[i]!).1
 have da:=UN c (c.certs.list[i]!).1 (by omega)
 cases hf:(bI c.field.points (c.certs.list[i]!).2 c.now).2 with
 |false=>
  have no: ∀k,k<c.due.length->(c.due[k]!).1≠(c.certs.list[i]!).1:=by
   intro k hk he;obtain ⟨x,hx,h1,h2,_⟩:=ok.fol.due _ (bB hk);obtain ⟨j,hj,rfl⟩:=aY.1 hx;have ub:=vJ.1 ok.crt_up
   have:j=i:=by
    rcases Nat.lt_trichotomy j i with h|h|h
    · have:=ub j i h hi;omega
    · exact h
    · have:=ub i j h hj;omega
   rw [this,hf] at h2;cases h2
  refine ⟨⟨c.now,c.field,nV c.certs i,c.agenda,c.due⟩,?_,?_,?_,rfl,rfl,rfl⟩
  · unfold lY
    obtain ⟨m,e⟩:=pd.2 no;simp only [rm,aB,show ((0:Int) !=0)=false from rfl,cond_false,kK ok,e]
  · unfold rY
    simp only [kJ ok,aB,wo,da.2 no,aI (show¬(0:Int)<= -1 by omega),cond_false]
  · exact ⟨ok.nowv,ok.now64,ok.fld,NK ok.crt hi,ok.agd,ok.w200,ok.hd,DR ok i hi,fe.1 hf⟩
 |true=>
  obtain ⟨k,hk,k1,k2,k3⟩:=fe.2 hf;obtain ⟨w,hw,hev⟩:=aY.1 k2;have hh:(c.agenda.heap[w]!).2.2.2=(c.due[k]!).2:=by rw [hev]
  have ub:=vJ.1 ok.due_up;have before: ∀j,j<k->(c.due[j]!).1≠(c.certs.list[i]!).1:=fun j hj he=>by have:=ub j k hj hk;omega
  have dl:(c.due.eraseIdx k).length=c.due.length-1:=YX hk;obtain ⟨L,d1,d2⟩:=J0 c.due k hk;refine ⟨⟨c.now,c.field,nV c.certs i,eS c.agenda w,c.due.eraseIdx k⟩,?_,?_,?_,rfl,rfl,rfl⟩
  · unfold lY
    simp only [rm,aB,show ((0:Int) !=0)=false from rfl,cond_false,kK ok,pd.1 k hk k1,cond_true,aC c.due k hk,AE ok.agd hw ok.agd.fit hh,bC (show k<1000000000 by omega),WU,d1,d2]
  · unfold rY
    have s1:iZ c.due 0 (k:Int)=some (c.due.take k):=mQ c.due k (by omega)
    have s2:iZ c.due ((k+1:Nat):Int) (c.due.length:Int)=some (c.due.drop (k+1)):=by
     unfold iZ;rw [if_pos ⟨by omega,by omega,by omega⟩]
     simp only [Int.toNat_natCast];rw [List.take_of_length_le (by rw [List.length_drop];exact Nat.le_refl _)]
    have tl:(c.due.take k).length=k:=by rw [List.length_take];omega
    have dl2:(c.due.drop (k+1)).length=c.due.length- (k+1):=List.length_drop;simp only [kJ ok,aB,wo,da.1 k hk k1 before,aM (show (0:Int)<=(k:Int) by omega),cond_true,aC c.due k hk,AF ok.agd hw hh,s1,bH (show (c.due.take k).length<=1048576 by omega),bC (show k<1000000000 by omega),aF,s2,
     dN (show (c.due.take k).length+(c.due.drop (k+1)).length<=1048576 by omega),wS]
    cases hem:(c.due.drop (k+1)).isEmpty with
    |true=>
     rw [List.isEmpty_iff] at hem;rw [hem,List.append_nil];rfl
    |false=>rfl
  · have rem:=I9 ok.agd hw
    have rmem:=NG ok.agd hw;have hlen:(eS c.agenda w).heap.length=c.agenda.heap.length-1:=by
     have h1:=rem.hl;have h2:=ok.agd.hl;have h3:(eS c.agenda w).slots=fV c.agenda.slots (c.agenda.heap[w]!).2.2.2:=by unfold eS;split<;>rfl
     rw [h3] at h1;change _+(c.agenda.slots.free++[_]).length=c.agenda.slots.uses.length at h1;rw [List.length_append] at h1;simp only [List.length_cons,List.length_nil] at h1;omega
    have wlen:(eS c.agenda w).where_.length=200:=by
     have h1:=rem.wl;have h3:(eS c.agenda w).slots=fV c.agenda.slots (c.agenda.heap[w]!).2.2.2:=by unfold eS;split<;>rfl
     rw [h3] at h1;change _=c.agenda.slots.uses.length at h1;rw [h1,<- ok.agd.wl,ok.w200]
    refine ⟨ok.nowv,ok.now64,ok.fld,NK ok.crt hi,rem,wlen,?_,DR ok i hi,?_⟩
    · show (eS c.agenda w).heap.length=(c.due.eraseIdx k).length
      rw [hlen,dl,ok.hd]
    · refine k3.mono fun x hx e he hm=>(rmem e).2 ⟨hm,fun h=>?_⟩
      have:=(vK ok.crt_up hi hx).2
      rw [h,hev] at he;exact this he.symm
theorem KF {c:aJ} (ok:bD c) {i:Nat} (_hi:i<c.certs.list.length) {c':aJ} (h:lY c (c.certs.list[i]!).1=some (c',(c.certs.list[i]!).2,0)):vD c (c.certs.list[i]!).1=some (c',0):=by
 unfold vD;rw [lK ok.fit,if_pos ok];simp only [aB,show ((0:Int) !=0)=false from rfl,cond_false,h]
end Go.Proofs.YthljmpcakagceaaGreat
namespace Go.Proofs.YthljmpcakagceaaGreat
open Go.Vm Classical
abbrev eD:aJ:=⟨(0,0),⟨[]⟩,⟨0,[]⟩,⟨⟨[],[],[]⟩,[],[]⟩,[]⟩
theorem RD {l:List Pt} (ok:cB l) {id:Int} (h:sE l id): ¬(iV l id).1<0:=by
 obtain ⟨h1,_⟩:=gC ok h
 have:=h1.1
 omega
theorem aJl {c:aJ} (ok:bD c) {x:Int×Int} (hx:fA x) (hb:hJ c.field.points x) (hn: ¬uO c.certs.list x):
 (iU c x=some (eD,0,18)/\nI c x=some (eD,0,18)/\(HO c.certs\/ ¬CB c.agenda.slots))\/
 ∃c':aJ,iU c x=some (c',c.certs.next_,0)/\nI c x=some (c',c.certs.next_,0)/\bD c'/\c'.field=c.field/\c'.now=c.now/\c'.certs=qU c.certs x/\(c'.agenda.slots=c.agenda.slots\/c'.agenda.slots=hH c.agenda.slots):=by
 have bd:=ok.bd;have n0:=ok.crt.n0;have n1:=ok.crt.n1;have fit:=ok.fit;have ad:=UI ok.crt hx;have rd:=Q8 ok.crt hx;rw [if_neg hn] at ad rd;have hc:gK c=some 0:=by rw [lK fit,if_pos ok]
 have p1:=nK ok.fld x.1;have p2:=nK ok.fld x.2;have q1:=RD ok.fld hb.1;have q2:=RD ok.fld hb.2;have wh:=zC ok.fld hx ok.nowv ok.now64;rw [if_pos hb] at wh;have rw':=zD ok.fld ok.now64 hb
 by_cases hf:HO c.certs
 · rw [if_pos hf] at ad rd
   left;refine ⟨?_,?_,.inl hf⟩
   · unfold iU dG
     simp only [hc,aB,show ((0:Int) !=0)=false from rfl,cond_false,ad,show ((18:Int)==8)=false from rfl,p1,p2,aI q1,aI q2,show ((18:Int) !=0)=true from rfl,cond_true]
   · unfold nI
     simp only [rd,aB,show ((18:Int) !=0)=true from rfl,cond_true]
 rw [if_neg hf] at ad rd;have cok:=WW ok.crt hx hn hf;have known': ∀j,j<(qU c.certs x).list.length->hJ c.field.points ((qU c.certs x).list[j]!).2:=by
  intro j hj;rw [EM] at hj;rw [wT]
  by_cases h:j<c.certs.list.length
  · rw [if_pos h];exact ok.known j h
  · rw [if_neg h,if_pos (by omega)];exact hb
 have fresh: ∀e∈c.agenda.heap,Ev.num e≠c.certs.next_:=by
  intro e he hne;obtain ⟨d,hd,h1⟩:=ok.nums e he;obtain ⟨y,hy,h2,_⟩:=ok.fol.due d hd;obtain ⟨j,hj,rfl⟩:=aY.1 hy
  have:=(ok.crt.nr j hj).2
  omega
 have sn:=ok.fol.snoc (x:=(c.certs.next_,x));cases hw:(bI c.field.points x c.now).2 with
 |false=>
  right;refine ⟨⟨c.now,c.field,qU c.certs x,c.agenda,c.due⟩,?_,?_,⟨ok.nowv,ok.now64,ok.fld,cok,ok.agd,ok.w200,ok.hd,known',sn.1 hw⟩,rfl,rfl,rfl,.inl rfl⟩
  · unfold iU dG
    simp only [hc,aB,show ((0:Int) !=0)=false from rfl,cond_false,ad,show ((0:Int)==8)=false from rfl,p1,p2,aI q1,aI q2,kK ok,wh,hw]
  · unfold nI
    simp only [rd,aB,show ((0:Int) !=0)=false from rfl,cond_false,kJ ok,rw',hw,Bool.not_false,cond_true]
 |true=>
  obtain ⟨t1,t2⟩:=HH (gC ok.fld hb.2).1 (gC ok.fld hb.1).1 ok.now64 ok.nowv hw
  by_cases op:CB c.agenda.slots
  · right
    have pu:=AB ok.agd op ok.agd.fit (t:=(bI c.field.points x c.now).1) (n:=c.certs.next_) t1 t2 n0 n1 fresh;have rp:=CC ok.agd op (t:=(bI c.field.points x c.now).1) (n:=c.certs.next_) t1 t2 n0 n1;have pok:=YV ok.agd op (t:=(bI c.field.points x c.now).1) (n:=c.certs.next_) t1 t2 n0 n1 fresh
    have pmem:=UD ok.agd op (t:=(bI c.field.points x c.now).1) (n:=c.certs.next_) t1;have plen:=HM ok.agd op (t:=(bI c.field.points x c.now).1) (n:=c.certs.next_) t1;have ap: ∀h:Int×Int,bK c.due [(c.certs.next_,h)]=some (c.due++[(c.certs.next_,h)]):=fun h=>dN (by simp;omega)
    have wlen:(mC c.agenda (bI c.field.points x c.now).1 c.certs.next_).where_.length=200:=by
     have:=pok.wl
     change _=(c.agenda.slots.uses.set _ _).length at this;rw [List.length_set] at this;rw [this,<- ok.agd.wl,ok.w200]
    refine ⟨⟨c.now,c.field,qU c.certs x,mC c.agenda (bI c.field.points x c.now).1 c.certs.next_,c.due++[(c.certs.next_,mB c.agenda.slots)]⟩,?_,?_,⟨ok.nowv,ok.now64,ok.fld,cok,pok,wlen,?_,known',?_⟩,rfl,rfl,rfl,.inr rfl⟩
    · unfold iU dG
      simp only [hc,aB,show ((0:Int) !=0)=false from rfl,cond_false,ad,show ((0:Int)==8)=false from rfl,p1,p2,aI q1,aI q2,kK ok,wh,hw,cond_true,pu,ap]
    · unfold nI
      simp only [rd,aB,show ((0:Int) !=0)=false from rfl,cond_false,kJ ok,rw',hw,Bool.not_true,sS ok.agd.so,aM op,rp,ap]
    · show (mC c.agenda (bI c.field.points x c.now).1 c.certs.next_).heap.length=(c.due++[_]).length
      rw [plen,List.length_append,ok.hd];rfl
    · have fm:aW c.field.points c.now (mC c.agenda (bI c.field.points x c.now).1 c.certs.next_).heap c.certs.list c.due:=ok.fol.mono fun y hy e he hm=>(pmem e).2 (.inr hm)
      exact (fm.snoc (x:=(c.certs.next_,x))).2 _ hw rfl ((pmem _).2 (.inl rfl))
  · left
    have pu:=AC ok.agd op ok.agd.fit (t:=(bI c.field.points x c.now).1) (n:=c.certs.next_) t1 t2 n0 n1 fresh;refine ⟨?_,?_,.inr op⟩
    · unfold iU dG
      simp only [hc,aB,show ((0:Int) !=0)=false from rfl,cond_false,ad,show ((0:Int)==8)=false from rfl,p1,p2,aI q1,aI q2,kK ok,wh,hw,cond_true,pu,show ((18:Int) !=0)=true from rfl]
    · unfold nI
      simp only [rd,aB,show ((0:Int) !=0)=false from rfl,cond_false,kJ ok,rw',hw,Bool.not_true,sS ok.agd.so,aI op,Bool.not_false,cond_true]
end Go.Proofs.YthljmpcakagceaaGreat
namespace Go.Proofs.YthljmpcakagceaaGreat
open Go.Vm Classical
theorem Up.inj {cs:List uC} (h:Up cs) {x y:uC} (hx:x∈cs) (hy:y∈cs) (he:x.1=y.1):x=y:=by
 obtain ⟨i,hi,rfl⟩:=aY.1 hx;obtain ⟨j,hj,rfl⟩:=aY.1 hy;have ub:=vJ.1 h;rcases Nat.lt_trichotomy i j with h1|h1|h1
 · have:=ub i j h1 hj;omega
 · rw [h1]
 · have:=ub j i h1 hi;omega
structure NN (c:aJ) (f:List Pt) (i k:Nat) (a:aG) (ds:List uC):Prop where
 ok:eZ a
 w2:a.where_.length=200
 new:aW f c.now a.heap (c.certs.list.take i) ds
 old:aW c.field.points c.now a.heap (c.certs.list.drop i) (c.due.drop k)
 kl:k<=c.due.length
 cnt:a.heap.length=ds.length+(c.due.length-k)
theorem aO0 {a:aG} (ok:eZ a) {w:Nat} (hw:w<a.heap.length):(eS a w).heap.length=a.heap.length-1/\(eS a w).where_.length=a.where_.length:=by
 have rem:=I9 ok hw;have h3:(eS a w).slots=fV a.slots (a.heap[w]!).2.2.2:=by unfold eS;split<;>rfl
 have h1:=rem.hl;have h2:=ok.hl;have h4:=rem.wl;rw [h3] at h1 h4;change _+(a.slots.free++[_]).length=a.slots.uses.length at h1;change _=a.slots.uses.length at h4;rw [List.length_append] at h1;simp only [List.length_cons,List.length_nil] at h1;exact ⟨by omega,by rw [h4,ok.wl]⟩
theorem aJm {a:aG} {t:Int×Int} {n:Int} (ok:eZ a) (pok:eZ (mC a t n)):(mC a t n).where_.length=a.where_.length:=by
 have:=pok.wl
 change _=(a.slots.uses.set _ _).length at this;rw [List.length_set] at this;rw [this,ok.wl]
section
variable {c : aJ} (ok : bD c) {f : List Pt} (fok : cB f) (kn : ∀ i, i < c.certs.list.length -> hJ f (c.certs.list[i]!).2)
include ok
theorem HP {i:Nat} {x:uC} (hx:x∈c.certs.list.take i) (hi:i<c.certs.list.length):x.1≠(c.certs.list[i]!).1:=by
 obtain ⟨j,h1,h2,rfl⟩:=cL.1 hx
 have:=ok.crt.up j i h1 hi
 omega
theorem HQ {i:Nat} {x:uC} (hx:x∈c.certs.list.drop (i+1)) (hi:i<c.certs.list.length):x.1≠(c.certs.list[i]!).1:=by
 obtain ⟨j,h1,rfl⟩:=aY.1 hx;rw [List.length_drop] at h1;rw [vP]
 have:=ok.crt.up i (i+1+j) (by omega) (by omega)
 omega
theorem aAs {i k:Nat} {a:aG} {ds:List uC} (inv:NN c f i k a ds) (hi:i<c.certs.list.length) (was:(bI c.field.points (c.certs.list[i]!).2 c.now).2=false): ∀e∈a.heap,Ev.num e≠(c.certs.list[i]!).1:=by
 have u1:Up (c.certs.list.take i):=ok.crt_up.sublist (List.take_sublist _ _);have u2:Up (c.certs.list.drop i):=ok.crt_up.sublist (List.drop_sublist _ _);have d1:=inv.new.up u1;have d2:=inv.old.up u2;have cross: ∀x∈ds,∀y∈c.due.drop k,x.1<y.1:=by
  intro x hx y hy;obtain ⟨p,hp,h1,_⟩:=inv.new.due x hx;obtain ⟨q,hq,h2,_⟩:=inv.old.due y hy;obtain ⟨m,m1,m2,rfl⟩:=cL.1 hp;obtain ⟨n,n1,rfl⟩:=aY.1 hq;rw [List.length_drop] at n1;rw [vP] at h2
  have:=ok.crt.up m (i+n) (by omega) (by omega)
  omega
 have nd:((ds++c.due.drop k).map fun x=>x.1).Nodup:=UM (by
  show List.Pairwise _ _;rw [List.pairwise_append];exact ⟨d1,d2,cross⟩)
 have only:=J1 (H:=a.heap) nd (by rw [List.length_map,List.length_append,List.length_drop,inv.cnt];exact Nat.le_refl _) (fun n hn=>by
  obtain ⟨x,hx,rfl⟩:=List.mem_map.1 hn;rcases List.mem_append.1 hx with hx|hx
  · obtain ⟨p,hp,h1,h2,h3⟩:=inv.new.due x hx
    exact ⟨_,h3,h1.symm⟩
  · obtain ⟨p,hp,h1,h2,h3⟩:=inv.old.due x hx
    exact ⟨_,h3,h1.symm⟩)
 intro e he hne;obtain ⟨x,hx,h1⟩:=List.mem_map.1 (only e he);rcases List.mem_append.1 hx with hx|hx
 · obtain ⟨p,hp,h2,_⟩:=inv.new.due x hx
   exact HP ok hp hi (by rw [<- h2,h1,hne])
 · obtain ⟨p,hp,h2,h3,_⟩:=inv.old.due x hx
   have hp':p∈c.certs.list:=List.mem_of_mem_drop hp
   have:=ok.crt_up.inj hp' (bB hi) (by rw [<- h2,h1,hne])
   rw [this,was] at h3;cases h3
def stP (c:aJ) (f:List Pt) (i:Nat) (a:aG) (ds:List uC):=
 (c.certs.list,(c.certs.list.length:Int),(i:Int),c.now.1,c.now.2,c.field.points,c.certs.next_,c.certs.list,c.agenda.slots.uses,c.agenda.slots.used,c.agenda.slots.free,c.agenda.heap,c.agenda.where_,c.due,f,(0:Int),(0:Int),(0:Int),c.now.1,c.now.2,c.certs.next_,c.certs.list,a.slots.uses,a.slots.used,a.slots.free,a.heap,a.where_,f,ds)
def stR (c:aJ) (f:List Pt) (i:Nat) (a:aG) (ds:List uC):=
 ((i:Int),c.now.1,c.now.2,c.field.points,c.certs.next_,c.certs.list,c.agenda.slots.uses,c.agenda.slots.used,c.agenda.slots.free,c.agenda.heap,c.agenda.where_,c.due,f,(0:Int),(0:Int),(0:Int),c.now.1,c.now.2,f,c.certs.next_,c.certs.list,a.slots.uses,a.slots.used,a.slots.free,a.heap,a.where_,ds)
include fok kn
theorem aCw {i k:Nat} {a:aG} {ds:List uC} (inv:NN c f i k a ds) (hi:i<c.certs.list.length) (hds:ds.length<=i):
 (dJ (stP c f i a ds)=some (.done (.done (eD,18)))/\cP (stR c f i a ds)=some (.done (eD,18)))\/
 ∃k' a' ds',dJ (stP c f i a ds)=some (.next (stP c f (i+1) a' ds'))/\cP (stR c f i a ds)=some (.next (stR c f (i+1) a' ds'))/\NN c f (i+1) k' a' ds'/\ds'.length<=i+1:=by
 have bd:=ok.bd;have e1:decide ((i:Int)<(c.certs.list.length:Int))=true:=aM (by omega)
 have sc:=bC (show i<1000000000 by omega)
 have cg:=aC c.certs.list i hi;have hb:=kn i hi;have wn:=zC fok (x:=(c.certs.list[i]!).2) (t:=(c.now.1,c.now.2)) (ok.crt.cv i hi) ok.nowv ok.now64;rw [if_pos hb] at wn;have wr:=zD fok (x:=(c.certs.list[i]!).2) (t:=(c.now.1,c.now.2)) ok.now64 hb;have pd:=PF ok.due_up (by omega) (c.certs.list[i]!).1
 have da:=UN c (c.certs.list[i]!).1 (by omega)
 have dr:=vR hi;have tk:=jL hi;have old:=inv.old;rw [dr] at old;have aeta:aG.mk (aR.mk a.slots.uses a.slots.used a.slots.free) a.heap a.where_=a:=rfl
 have ceta:(aJ.mk (c.now.1,c.now.2) (Field.mk c.field.points) (aU.mk c.certs.next_ c.certs.list) (aG.mk (aR.mk c.agenda.slots.uses c.agenda.slots.used c.agenda.slots.free) c.agenda.heap c.agenda.where_) c.due)=c:=rfl;have other: ∀x∈c.certs.list.take i,x.1≠(c.certs.list[i]!).1:=fun x hx=>HP ok hx hi
 have other': ∀x∈c.certs.list.drop (i+1),x.1≠(c.certs.list[i]!).1:=fun x hx=>HQ ok hx hi
 cases hwas:(bI c.field.points (c.certs.list[i]!).2 c.now).2 with
 |true=>
  obtain ⟨d,ds',hd1,hd2,hd3,hd4⟩:=(aW.cons_true hwas).1 old;have hk:k<c.due.length:=by
   refine Classical.byContradiction fun h=>?_
   rw [List.drop_eq_nil_of_le (by omega)] at hd1
   cases hd1
  have dk:=vR hk;rw [dk] at hd1;injection hd1 with hd5 hd6;subst hd5 hd6;obtain ⟨w,hw,hev⟩:=aY.1 hd3;have hh:(a.heap[w]!).2.2.2=(c.due[k]!).2:=by rw [hev]
  have hnum:Ev.num a.heap[w]! =(c.certs.list[i]!).1:=by rw [hev]
  have before: ∀j,j<k->(c.due[j]!).1≠(c.certs.list[i]!).1:=fun j hj he=>by
   have:=vJ.1 ok.due_up j k hj hk
   omega
  have pl:=pd.1 k hk hd2;have dq:=da.1 k hk hd2 before;have gk:=aC c.due k hk;have k0:decide ((0:Int)<=(k:Int))=true:=aM (by omega)
  have ap:bK ds [c.due[k]!]=some (ds++[c.due[k]!]):=dN (by simp;omega)
  cases his:(bI f (c.certs.list[i]!).2 c.now).2 with
  |true=>
   right;have tt:bM (bI f (c.certs.list[i]!).2 c.now).1/\mU (bI f (c.certs.list[i]!).2 c.now).1:=HH (gC fok hb.2).1 (gC fok hb.1).1 ok.now64 ok.nowv his;obtain ⟨t1,t2⟩:=tt;have re:=KE inv.ok inv.ok.fit (t:=(bI f (c.certs.list[i]!).2 c.now).1) hw hh t1 t2;have rr:=I8 inv.ok (t:=(bI f (c.certs.list[i]!).2 c.now).1) hw hh t1 t2
   have rok:=aCp inv.ok hw t1 t2;have rmem:=aAr inv.ok hw t1;have rlen:=I7 inv.ok hw t1;have stay: ∀(cs:List uC),(∀x∈cs,x.1≠(c.certs.list[i]!).1)-> ∀x∈cs,∀e:Ev,e.num=x.1->e∈a.heap->e∈(kQ a w (bI f (c.certs.list[i]!).2 c.now).1).heap:=by
    intro cs hcs x hx e he hm;refine (rmem e).2 (.inr ⟨hm,fun h=>hcs x hx ?_⟩)
    rw [<- he,h,hnum]
   refine ⟨k+1,kQ a w (bI f (c.certs.list[i]!).2 c.now).1,ds++[c.due[k]!],?_,?_,⟨rok,by rw [rlen.2];exact inv.w2,?_,?_,by omega,?_⟩,by simp;omega⟩
   · unfold dJ stP
     simp only [e1,cond_true,cg,aB,wn,pl,his,gk,aeta,re,ap,show ((0:Int) !=0)=false from rfl,cond_false,sc]
   · unfold cP stR
     simp only [aF,e1,cond_true,cg,aB,ceta,dq,wr,his,k0,gk,aeta,rr,ap,Bool.not_true,cond_false,sc]
   · rw [tk]
     exact ((inv.new.mono (stay _ other)).snoc (x:=c.certs.list[i]!)).2 _ his hd2 ((rmem _).2 (.inl (by
      show _=((bI f (c.certs.list[i]!).2 c.now).1.1,(bI f (c.certs.list[i]!).2 c.now).1.2,(a.heap[w]!).2.2);rw [hev])))
   · exact hd4.mono (stay _ other')
   · rw [rlen.1,inv.cnt,List.length_append]
     simp only [List.length_cons,List.length_nil];omega
  |false=>
   right;have rv:=AE inv.ok hw inv.ok.fit hh;have rr:=AF inv.ok hw hh;have rok:=I9 inv.ok hw;have rmem:=NG inv.ok hw;have rlen:=aO0 inv.ok hw;have stay: ∀(cs:List uC),(∀x∈cs,x.1≠(c.certs.list[i]!).1)-> ∀x∈cs,∀e:Ev,e.num=x.1->e∈a.heap->e∈(eS a w).heap:=by
    intro cs hcs x hx e he hm;refine (rmem e).2 ⟨hm,fun h=>hcs x hx ?_⟩
    rw [<- he,h,hnum]
   refine ⟨k+1,eS a w,ds,?_,?_,⟨rok,by rw [rlen.2];exact inv.w2,?_,hd4.mono (stay _ other'),by omega,?_⟩,by omega⟩
   · unfold dJ stP
     simp only [e1,cond_true,cg,aB,wn,pl,his,gk,aeta,rv,show ((0:Int) !=0)=false from rfl,cond_false,sc]
   · unfold cP stR
     simp only [aF,e1,cond_true,cg,aB,ceta,dq,wr,his,k0,gk,aeta,rr,Bool.not_false,cond_false,sc]
   · rw [tk]
     exact ((inv.new.mono (stay _ other)).snoc (x:=c.certs.list[i]!)).1 his
   · have:=inv.cnt
     rw [rlen.1];omega
 |false=>
  have fol:=(aW.cons_false hwas).1 old;have no: ∀j,j<c.due.length->(c.due[j]!).1≠(c.certs.list[i]!).1:=by
   intro j hj he;obtain ⟨x,hx,h1,h2,_⟩:=ok.fol.due _ (bB hj)
   have:=ok.crt_up.inj hx (bB hi) (by rw [<- h1,he])
   rw [this,hwas] at h2;cases h2
  obtain ⟨m,pl⟩:=pd.2 no;have dq:=da.2 no;have k0:decide ((0:Int)<= -1)=false:=aI (by omega)
  cases his:(bI f (c.certs.list[i]!).2 c.now).2 with
  |true=>
   have tt:bM (bI f (c.certs.list[i]!).2 c.now).1/\mU (bI f (c.certs.list[i]!).2 c.now).1:=HH (gC fok hb.2).1 (gC fok hb.1).1 ok.now64 ok.nowv his;obtain ⟨t1,t2⟩:=tt;have n0:=(ok.crt.nr i hi).1;have n1:(c.certs.list[i]!).1<=1000000:=by have:=(ok.crt.nr i hi).2;have:=ok.crt.n1;omega
   have fresh:=aAs ok inv hi hwas
   by_cases op:CB a.slots
   · right
     have pu:=AB inv.ok op inv.ok.fit (t:=(bI f (c.certs.list[i]!).2 c.now).1) (n:=(c.certs.list[i]!).1) t1 t2 n0 n1 fresh;have rp:=CC inv.ok op (t:=(bI f (c.certs.list[i]!).2 c.now).1) (n:=(c.certs.list[i]!).1) t1 t2 n0 n1;have pok:=YV inv.ok op (t:=(bI f (c.certs.list[i]!).2 c.now).1) (n:=(c.certs.list[i]!).1) t1 t2 n0 n1 fresh
     have pmem:=UD inv.ok op (t:=(bI f (c.certs.list[i]!).2 c.now).1) (n:=(c.certs.list[i]!).1) t1;have plen:=HM inv.ok op (t:=(bI f (c.certs.list[i]!).2 c.now).1) (n:=(c.certs.list[i]!).1) t1;have ap: ∀h:Int×Int,bK ds [((c.certs.list[i]!).1,h)]=some (ds++[((c.certs.list[i]!).1,h)]):=fun h=>dN (by simp;omega)
     have opn:=sS inv.ok.so;rw [aM op] at opn;refine ⟨k,mC a (bI f (c.certs.list[i]!).2 c.now).1 (c.certs.list[i]!).1,ds++[((c.certs.list[i]!).1,mB a.slots)],?_,?_,⟨pok,by rw [aJm inv.ok pok];exact inv.w2,?_,?_,inv.kl,?_⟩,by simp;omega⟩
     · unfold dJ stP
       simp only [e1,cond_true,cg,aB,wn,pl,his,aeta,pu,ap,show ((0:Int) !=0)=false from rfl,cond_false,sc]
     · unfold cP stR
       simp only [aF,e1,cond_true,cg,aB,ceta,dq,wr,his,k0,aeta,rp,ap,Bool.not_true,cond_false,sc,opn]
     · rw [tk]
       exact ((inv.new.mono fun x hx e he hm=>(pmem e).2 (.inr hm)).snoc (x:=c.certs.list[i]!)).2 _ his rfl ((pmem _).2 (.inl rfl))
     · exact fol.mono fun x hx e he hm=>(pmem e).2 (.inr hm)
     · have:=inv.cnt
       rw [plen,List.length_append];simp only [List.length_cons,List.length_nil];omega
   · left
     have pu:=AC inv.ok op inv.ok.fit (t:=(bI f (c.certs.list[i]!).2 c.now).1) (n:=(c.certs.list[i]!).1) t1 t2 n0 n1 fresh;have ap: ∀h:Int×Int,bK ds [((c.certs.list[i]!).1,h)]=some (ds++[((c.certs.list[i]!).1,h)]):=fun h=>dN (by simp;omega)
     have opn:=sS inv.ok.so;rw [aI op] at opn;constructor
     · unfold dJ stP
       simp only [e1,cond_true,cg,aB,wn,pl,his,aeta,pu,ap,show ((18:Int) !=0)=true from rfl,cond_false]
     · unfold cP stR
       simp only [aF,e1,cond_true,cg,aB,ceta,dq,wr,his,k0,aeta,Bool.not_true,Bool.not_false,cond_false,opn]
  |false=>
   right;refine ⟨k,a,ds,?_,?_,⟨inv.ok,inv.w2,?_,fol,inv.kl,inv.cnt⟩,by omega⟩
   · unfold dJ stP
     simp only [e1,cond_true,cg,aB,wn,pl,his,show ((0:Int) !=0)=false from rfl,cond_false,sc]
   · unfold cP stR
     simp only [aF,e1,cond_true,cg,aB,ceta,dq,wr,his,k0,Bool.not_false,cond_false,sc]
   · rw [tk]
     exact (inv.new.snoc (x:=c.certs.list[i]!)).1 his
theorem aRz:
 (pG c ⟨f⟩=some (eD,18)/\oH c ⟨f⟩=some (eD,18))\/
 ∃c':aJ,pG c ⟨f⟩=some (c',0)/\oH c ⟨f⟩=some (c',0)/\bD c'/\c'.field.points=f/\c'.now=c.now/\c'.certs=c.certs:=by
 have bd:=ok.bd;have f64:=fok.1;have run: ∀(d i k:Nat) (a:aG) (ds:List uC),c.certs.list.length-i<=d->i<=c.certs.list.length->NN c f i k a ds->ds.length<=i->
  (aH dJ (stP c f i a ds)=some (.done (eD,18))/\aH cP (stR c f i a ds)=some (eD,18))\/
  ∃c':aJ,aH dJ (stP c f i a ds)=some (.done (c',0))/\aH cP (stR c f i a ds)=some (c',0)/\bD c'/\c'.field.points=f/\c'.now=c.now/\c'.certs=c.certs:=by
  have fin: ∀(k:Nat) (a:aG) (ds:List uC),NN c f c.certs.list.length k a ds-> ∃c':aJ,aH dJ (stP c f c.certs.list.length a ds)=some (.done (c',0))/\aH cP (stR c f c.certs.list.length a ds)=some (c',0)/\bD c'/\c'.field.points=f/\c'.now=c.now/\c'.certs=c.certs:=by
   intro k a ds inv;have e1:decide ((c.certs.list.length:Int)<(c.certs.list.length:Int))=false:=aI (by omega)
   have hk:c.due.length-k=0:=by
    have:=inv.old
    rw [List.drop_length] at this
    have:c.due.drop k=[]:=this
    rw [List.drop_eq_nil_iff] at this;omega
   have new:=inv.new;rw [List.take_length] at new;refine ⟨⟨c.now,⟨f⟩,c.certs,a,ds⟩,aL ?_,aL ?_,⟨ok.nowv,ok.now64,fok,ok.crt,inv.ok,inv.w2,?_,kn,new⟩,rfl,rfl,rfl⟩
   · unfold dJ stP
     simp only [e1,cond_false]
   · unfold cP stR
     simp only [aF,e1,cond_false]
   · have:=inv.cnt
     show a.heap.length=ds.length;omega
  intro d
  induction d with
  |zero=>
   intro i k a ds hd hi inv hds
   have:i=c.certs.list.length:=by omega
   subst this;exact .inr (fin k a ds inv)
  |succ d ih=>
   intro i k a ds hd hi inv hds
   by_cases he:i=c.certs.list.length
   · subst he;exact .inr (fin k a ds inv)
   rcases aCw ok fok kn inv (by omega) hds with ⟨h1,h2⟩|⟨k',a',ds',h1,h2,h3,h4⟩
   · exact .inl ⟨aL h1,aL h2⟩
   · rw [aX h1,aX h2]
     exact ih (i+1) k' a' ds' (by omega) (by omega) h3 h4
 have start:=run c.certs.list.length 0 0 c.agenda [] (by omega) (by omega) ⟨ok.agd,ok.w200,rfl,by rw [List.drop_zero,List.drop_zero];exact ok.fol,by omega,by have:=ok.hd;simp;omega⟩ (by simp)
 have hc:gK c=some 0:=by rw [lK ok.fit,if_pos ok]
 have hf:eK ⟨f⟩=some 0:=by rw [lJ];exact congrArg some (lT.2 fok)
 have tw:=kK ok;have tw':kF (aJ.mk (c.now.1,c.now.2) (Field.mk c.field.points) (aU.mk c.certs.next_ c.certs.list) (aG.mk (aR.mk c.agenda.slots.uses c.agenda.slots.used c.agenda.slots.free) c.agenda.heap c.agenda.where_) c.due)=some c:=tw
 have first:aH lB (c.certs.list,(c.certs.list.length:Int),0,c.now.1,c.now.2,c.field.points,c.certs.next_,c.certs.list,c.agenda.slots.uses,c.agenda.slots.used,c.agenda.slots.free,c.agenda.heap,c.agenda.where_,c.due,f,0,0,0)=
  aH lB (c.certs.list,(c.certs.list.length:Int),(c.certs.list.length:Int),c.now.1,c.now.2,c.field.points,c.certs.next_,c.certs.list,c.agenda.slots.uses,c.agenda.slots.used,c.agenda.slots.free,c.agenda.heap,c.agenda.where_,c.due,f,0,0,0):=by
  refine eA (body:=lB) (fun i=>(c.certs.list,(c.certs.list.length:Int),(i:Int),c.now.1,c.now.2,c.field.points,c.certs.next_,c.certs.list,c.agenda.slots.uses,c.agenda.slots.used,c.agenda.slots.free,c.agenda.heap,c.agenda.where_,c.due,f,0,0,0)) c.certs.list.length (fun i hi=>?_)
  have e1:decide ((i:Int)<(c.certs.list.length:Int))=true:=aM (by omega)
  unfold lB;simp only [e1,cond_true,aC c.certs.list i hi,aB,nK fok,aI (RD fok (kn i hi).1),aI (RD fok (kn i hi).2),cond_false,bC (show i<1000000000 by omega)]
 have second: ∀r,aH dJ (stP c f 0 c.agenda [])=some (.done r)->pG c ⟨f⟩=some r:=by
  intro r hr;unfold pG;simp only [hc,aB,show ((0:Int) !=0)=false from rfl,cond_false,hf,aF];rw [first]
  refine aL ?_;unfold lB;have e1:decide ((c.certs.list.length:Int)<(c.certs.list.length:Int))=false:=aI (by omega)
  simp only [aF,e1,cond_false,tw',aB,bH (show f.length<=1048576 by omega)]
  exact hr
 have third: ∀r,aH cP (stR c f 0 c.agenda [])=some r->oH c ⟨f⟩=some r:=by
  intro r hr;unfold oH BE;simp only [kJ ok,aB,bH (show f.length<=1048576 by omega)]
  exact hr
 rcases start with ⟨h1,h2⟩|⟨c',h1,h2,h3⟩
 · exact .inl ⟨second _ h1,third _ h2⟩
 · exact .inr ⟨c',second _ h1,third _ h2,h3⟩
end
end Go.Proofs.YthljmpcakagceaaGreat
namespace Go.Proofs.YthljmpcakagceaaGreat
open Go.Vm Classical
theorem oK (l:List (Int×Int)) (x:Int×Int) (hl:l.length<=1000000):fR l x=some (decide (x∈l)):=by
 unfold fR qD;have key:=lS (body:=kA) (fun i=>(l,(l.length:Int),(i:Int),x)) l.length (fun i=>l[i]! =x) (fun i=>(i:Int)) (e:= -1) (fun i hi=>by
  have e1:decide ((i:Int)<(l.length:Int))=true:=aM (by omega)
  unfold kA;simp only [e1,cond_true,aC l i hi,aB,bC (show i<1000000000 by omega)]
  generalize l[i]! =y;constructor
  · intro h;rw [gL (congrArg Prod.fst h.symm),gL (congrArg Prod.snd h.symm)];rfl
  · intro h
    by_cases h1:x.1=y.1
    · rw [gL h1,fW (fun h2=>h (Prod.ext h1.symm h2.symm))];rfl
    · rw [fW h1];rfl) (by
  unfold kA
  have:decide ((l.length:Int)<(l.length:Int))=false:=aI (by omega)
  simp only [this,cond_false])
 rw [aF]
 by_cases hx:x∈l
 · obtain ⟨i,hi,he⟩:=aY.1 hx
   obtain ⟨k,h1,h2,h3⟩:=HD (c:=fun i=>l[i]! =x) ⟨i,hi,he⟩
   have:=key.1 k h1 h2 h3
   rw [show ((0:Nat):Int)=0 from rfl] at this;rw [this,aM hx];simp only [aB,aM (show (0:Int)<=(k:Int) by omega)]
 · have:=key.2 fun i hi he=>hx (aY.2 ⟨i,hi,he⟩)
   rw [show ((0:Nat):Int)=0 from rfl] at this;rw [this,aI hx];rfl
theorem DS (l:List (Int×Int)) (x:Int×Int) (hl:l.length<=1000000):DF l x=some (decide (x∈l)):=by
 unfold DF;have key:=dC (body:=xT) (fun i=>(l,(i:Int),x)) l.length (fun i=>l[i]! =x) (r:=true) (e:=false) (fun i hi=>by
  have e1:decide ((i:Int)<(l.length:Int))=true:=aM (by omega)
  unfold xT;simp only [aF,e1,cond_true,aC l i hi,aB,bC (show i<1000000000 by omega)]
  generalize l[i]! =y;constructor
  · intro h;rw [gL (congrArg Prod.fst h),gL (congrArg Prod.snd h)];rfl
  · intro h
    by_cases h1:y.1=x.1
    · rw [gL h1,fW (fun h2=>h (Prod.ext h1 h2))];rfl
    · rw [fW h1];rfl) (by
  unfold xT
  have:decide ((l.length:Int)<(l.length:Int))=false:=aI (by omega)
  simp only [aF,this,cond_false])
 by_cases hx:x∈l
 · rw [aM hx];exact key.1 (aY.1 hx)
 · rw [aI hx];exact key.2 fun i hi he=>hx (aY.2 ⟨i,hi,he⟩)
theorem WX (x y:uC):((x.1==y.1)&&((x.2.1==y.2.1)&&(x.2.2==y.2.2)))=decide (x=y):=by
 rw [Bool.eq_iff_iff,decide_eq_true_iff];simp only [Bool.and_eq_true,beq_iff_eq];constructor
 · rintro ⟨h1,h2,h3⟩;exact Prod.ext h1 (Prod.ext h2 h3)
 · rintro rfl;exact ⟨rfl,rfl,rfl⟩
theorem UO (a b:List uC) (hl:a.length<=1000000):F4 ⟨a⟩ ⟨b⟩=some (decide (a=b)):=by
 unfold F4;simp only [aF]
 by_cases h:a.length=b.length
 case neg=>rw [fE (by omega),aI (fun k=>h (by rw [k]))];rfl
 rw [dR (by omega)]
 simp only [cond_false];have key:=dC (body:=sR) (fun i=>((i:Int),a,b)) a.length (fun i=> ¬a[i]! =b[i]!) (r:=false) (e:=true) (fun i hi=>by
  have e1:decide ((i:Int)<(a.length:Int))=true:=aM (by omega)
  unfold sR;simp only [aF,e1,cond_true,aC a i hi,aC b i (by omega),aB,bC (show i<1000000000 by omega),WX]
  constructor
  · intro h;rw [aI h];rfl
  · intro h;rw [aM (Classical.not_not.1 h)];rfl) (by
  unfold sR
  have:decide ((a.length:Int)<(a.length:Int))=false:=aI (by omega)
  simp only [aF,this,cond_false])
 by_cases he:a=b
 · rw [aM he]
   exact key.2 fun i hi=>Classical.not_not.2 (by rw [he])
 · rw [aI he]
   refine key.1 (Classical.byContradiction fun hx=>he (DI h fun i hi=>?_))
   exact Classical.byContradiction fun hn=>hx ⟨i,hi,hn⟩
theorem HR (a b:List uC) (hl:a.length<=1000000):jH a b=some (decide (a=b)):=by
 unfold jH;simp only [aF]
 by_cases h:a.length=b.length
 case neg=>rw [fE (by omega),aI (fun k=>h (by rw [k]))];rfl
 rw [dR (by omega)]
 simp only [cond_false];have key:=dC (body:=jN) (fun i=>(a,b,(a.length:Int),(i:Int))) a.length (fun i=> ¬a[i]! =b[i]!) (r:=false) (e:=true) (fun i hi=>by
  have e1:decide ((i:Int)<(a.length:Int))=true:=aM (by omega)
  unfold jN;simp only [e1,cond_true,aC a i hi,aC b i (by omega),aB,bC (show i<1000000000 by omega),WX]
  constructor
  · intro h;rw [aI h];rfl
  · intro h;rw [aM (Classical.not_not.1 h)];rfl) (by
  unfold jN
  have:decide ((a.length:Int)<(a.length:Int))=false:=aI (by omega)
  simp only [this,cond_false])
 by_cases he:a=b
 · rw [aM he]
   exact key.2 fun i hi=>Classical.not_not.2 (by rw [he])
 · rw [aI he]
   refine key.1 (Classical.byContradiction fun hx=>he (DI h fun i hi=>?_))
   exact Classical.byContradiction fun hn=>hx ⟨i,hi,hn⟩
theorem aAv {cs:List uC} {m:Nat} {x:uC} (hx:x∈cs) (hne:x.1≠(cs[m]!).1):x∈cs.eraseIdx m:=by
 obtain ⟨j,hj,rfl⟩:=aY.1 hx;have hjm:j≠m:=fun h=>hne (by rw [h])
 rw [wS,List.mem_append]
 by_cases h:j<m
 · exact .inl (cL.2 ⟨j,h,hj,rfl⟩)
 · right
   rw [aY];refine ⟨j- (m+1),by rw [List.length_drop];omega,?_⟩
   rw [vP]
   congr 1;omega
def kP (c0:aJ) (f:List Pt) (es:List (Int×Int)) (i:Nat) (c:aJ):=
 (es,c0.certs.list,(c0.certs.list.length:Int),(i:Int),c.now.1,c.now.2,c.field.points,c.certs.next_,c.certs.list,c.agenda.slots.uses,c.agenda.slots.used,c.agenda.slots.free,c.agenda.heap,c.agenda.where_,c.due,f,(0:Int),(0:Int),(0:Int))
def kR (c0:aJ) (f:List Pt) (es:List (Int×Int)) (i:Nat) (c:aJ):=
 (es,(i:Int),c0.now.1,c0.now.2,c0.field.points,c0.certs.next_,c0.certs.list,c0.agenda.slots.uses,c0.agenda.slots.used,c0.agenda.slots.free,c0.agenda.heap,c0.agenda.where_,c0.due,f,(0:Int),(0:Int),(0:Int),c.now.1,c.now.2,c.field.points,c.certs.next_,c.certs.list,c.agenda.slots.uses,c.agenda.slots.used,c.agenda.slots.free,c.agenda.heap,c.agenda.where_,c.due)
def eP (es:List (Int×Int)) (i:Nat) (c:aJ):=
 (es,(es.length:Int),(i:Int),c.now.1,c.now.2,c.field.points,c.certs.next_,c.certs.list,c.agenda.slots.uses,c.agenda.slots.used,c.agenda.slots.free,c.agenda.heap,c.agenda.where_,c.due,(0:Int),(0:Int),(0:Int))
def eR (es:List (Int×Int)) (i:Nat) (c:aJ):=
 (es,(i:Int),(0:Int),(0:Int),(0:Int),c.now.1,c.now.2,c.field.points,c.certs.next_,c.certs.list,c.agenda.slots.uses,c.agenda.slots.used,c.agenda.slots.free,c.agenda.heap,c.agenda.where_,c.due)
def qY (c:aJ):Int:=c.certs.next_- (c.certs.list.length:Int)
structure NO (c:aJ) (f:List Pt) (es:List (Int×Int)) (r:aJ):Prop where
 has: ∀e∈es,uO r.certs.list e
 sub: ∀x∈r.certs.list,x.2∈es
 ok:bD r
 fld:r.field.points=f
 now:r.now=c.now
 room:qY c<=qY r
def PG (c:aJ) (k:Nat):Prop:=c.certs.list.length<=k/\c.certs.next_<=k/\ ∀j,j<c.agenda.slots.uses.length->c.agenda.slots.uses[j]!<=k
theorem aW.len {l:List Pt} {t:Int×Int} {H:List Ev}: ∀{cs ds:List uC},aW l t H cs ds->ds.length<=cs.length
 | [],ds,h=>by rw [show ds=[] from h];exact Nat.le_refl _
 |x::cs,ds,h=>by
  cases hy:(bI l x.2 t).2 with
  |true=>
   obtain ⟨d,ds',rfl,_,_,h4⟩:=h.1 hy;exact Nat.succ_le_succ h4.len
  |false=>exact Nat.le_succ_of_le (h.2 hy).len
theorem PG.not_full {c:aJ} (ok:bD c) {k:Nat} (h:PG c k) (hk:k<=199): ¬(HO c.certs\/ ¬CB c.agenda.slots):=by
 obtain ⟨h1,h2,h3⟩:=h;have fl:=ok.fol.len;have hd:=ok.hd;have hl:=ok.agd.hl;have wl:=ok.agd.wl;have w2:=ok.w200;rintro (h|h)
 · rcases h with h|h<;>omega
 · refine h ⟨by omega,?_⟩
   have:=h3 _ (EI ok.agd.so (by omega)).1
   omega
theorem PG.more {c c':aJ} {k:Nat} (h:PG c k) {x:Int×Int} (hc:c'.certs=qU c.certs x) (hs:c'.agenda.slots=c.agenda.slots\/c'.agenda.slots=hH c.agenda.slots):PG c' (k+1):=by
 obtain ⟨h1,h2,h3⟩:=h;refine ⟨?_,?_,fun j hj=>?_⟩
 · rw [hc]
   show (c.certs.list++[(c.certs.next_,x)]).length<=_;rw [List.length_append,List.length_singleton];omega
 · rw [hc]
   show c.certs.next_+1<=_;omega
 · rcases hs with e|e
   · rw [e] at hj ⊢
     have:=h3 j hj;omega
   · rw [e] at hj ⊢
     change j<(c.agenda.slots.uses.set _ _).length at hj;rw [List.length_set] at hj;show (c.agenda.slots.uses.set (cZ c.agenda.slots) (c.agenda.slots.uses[cZ c.agenda.slots]!+1))[j]!<=_;rw [bG];split
     · rename_i h;have:=h3 _ h.2;omega
     · have:=h3 j hj;omega
structure KU (f:List Pt) (es:List (Int×Int)):Prop where
 len:es.length<=1000000
 cv: ∀x∈es,fA x
 kn: ∀x∈es,hJ f x
theorem aCx {c0:aJ} (ok0:bD c0) {f:List Pt} {es:List (Int×Int)} (eok:KU f es):
 ∀(d i:Nat) (c:aJ),c0.certs.list.length-i<=d->i<=c0.certs.list.length->bD c->(∀x∈c0.certs.list.drop i,x∈c.certs.list)->(∀x∈c.certs.list,x∈c0.certs.list.drop i\/x.2∈es)->
  ∃c':aJ,aH eM (kP c0 f es i c)=aH eM (kP c0 f es c0.certs.list.length c')/\aH dL (kR c0 f es i c)=aH dL (kR c0 f es c0.certs.list.length c')/\bD c'/\(∀x∈c'.certs.list,x.2∈es)/\c'.field=c.field/\c'.now=c.now/\qY c<=qY c':=by
 have bd:=ok0.bd;intro d
 induction d with
 |zero=>
  intro i c hd hi ok h1 h2
  have:i=c0.certs.list.length:=by omega
  subst this;refine ⟨c,rfl,rfl,ok,fun x hx=>?_,rfl,rfl,Int.le_refl _⟩
  rcases h2 x hx with h|h
  · rw [List.drop_length] at h;cases h
  · exact h
 |succ d ih=>
  intro i c hd hi ok h1 h2
  by_cases he:i=c0.certs.list.length
  · subst he
    refine ⟨c,rfl,rfl,ok,fun x hx=>?_,rfl,rfl,Int.le_refl _⟩
    rcases h2 x hx with h|h
    · rw [List.drop_length] at h;cases h
    · exact h
  have hi':i<c0.certs.list.length:=by omega
  have e1:decide ((i:Int)<(c0.certs.list.length:Int))=true:=aM (by omega)
  have sc:=bC (show i<1000000000 by omega)
  have cg:=aC c0.certs.list i hi';have dr:=vR hi';have ceta:(aJ.mk (c.now.1,c.now.2) (Field.mk c.field.points) (aU.mk c.certs.next_ c.certs.list) (aG.mk (aR.mk c.agenda.slots.uses c.agenda.slots.used c.agenda.slots.free) c.agenda.heap c.agenda.where_) c.due)=c:=rfl
  by_cases hin:(c0.certs.list[i]!).2∈es
  · have s1:eM (kP c0 f es i c)=some (.next (kP c0 f es (i+1) c)):=by
     unfold eM kP;simp only [e1,cond_true,cg,aB,oK _ _ eok.len,aM hin,Bool.not_true,cond_false,sc]
    have s2:dL (kR c0 f es i c)=some (.next (kR c0 f es (i+1) c)):=by
     unfold dL kR;simp only [aF,e1,cond_true,cg,aB,DS _ _ eok.len,aM hin,Bool.not_true,cond_false,sc]
    rw [aX s1,aX s2];refine ih (i+1) c (by omega) (by omega) ok (fun x hx=>h1 x (by rw [dr];exact List.mem_cons_of_mem _ hx)) (fun x hx=>?_)
    rcases h2 x hx with h|h
    · rw [dr] at h
      rcases List.mem_cons.1 h with rfl|h
      · exact .inr hin
      · exact .inl h
    · exact .inr h
  · have hm:=h1 (c0.certs.list[i]!) (by rw [dr];exact List.mem_cons_self)
    obtain ⟨m,hm1,hm2⟩:=aY.1 hm;obtain ⟨c',r1,r2,r3,r4,r5,r6⟩:=aCv ok hm1;have rt:=KF ok hm1 r1;rw [hm2] at r2 rt;have s1:eM (kP c0 f es i c)=some (.next (kP c0 f es (i+1) c')):=by
     unfold eM kP;simp only [e1,cond_true,cg,aB,oK _ _ eok.len,aI hin,Bool.not_false,sc,ceta,rt]
    have s2:dL (kR c0 f es i c)=some (.next (kR c0 f es (i+1) c')):=by
     unfold dL kR;simp only [aF,e1,cond_true,cg,aB,DS _ _ eok.len,aI hin,Bool.not_false,sc,ceta,r2]
    rw [aX s1,aX s2];have cl:c'.certs.list=c.certs.list.eraseIdx m:=by rw [r6];rfl
    have hroom:qY c<=qY c':=by
     unfold qY;rw [r6];show _<=c.certs.next_- (((c.certs.list.eraseIdx m).length:Nat):Int);rw [List.length_eraseIdx_of_lt hm1];omega
    have hs:(∀x∈c0.certs.list.drop (i+1),x∈c'.certs.list)/\(∀x∈c'.certs.list,x∈c0.certs.list.drop (i+1)\/x.2∈es):=by
     refine ⟨fun x hx=>?_,fun x hx=>?_⟩
     · rw [cl]
       refine aAv (h1 x (by rw [dr];exact List.mem_cons_of_mem _ hx)) ?_
       rw [hm2];exact HQ ok0 hx hi'
     · rw [cl] at hx
       obtain ⟨a1,a2⟩:=vK ok.crt_up hm1 hx;rw [hm2] at a2;rcases h2 x a1 with h|h
       · rw [dr] at h
         rcases List.mem_cons.1 h with rfl|h
         · exact absurd rfl a2
         · exact .inl h
       · exact .inr h
    obtain ⟨d',q1,q2,q3,q4,q5,q6,q7⟩:=ih (i+1) c' (by omega) (by omega) r3 hs.1 hs.2
    exact ⟨d',q1,q2,q3,q4,q5.trans r4,q6.trans r5,by omega⟩
theorem UP {f:List Pt} (_fok:cB f) {es:List (Int×Int)} (eok:KU f es):
 ∀(d i:Nat) (c:aJ),es.length-i<=d->i<=es.length->bD c->c.field.points=f->(∀x∈c.certs.list,x.2∈es)->(∀j,j<i->uO c.certs.list es[j]!)->
  ∃r:aJ×Int,aH fJ (eP es i c)=some (.done r)/\aH dX (eR es i c)=some (.done r)/\(r.2=0/\NO c f es r.1\/r=(eD,18))/\(∀k,PG c k->k+(es.length-i)<=199->r.2=0):=by
 have el:=eok.len;have fin: ∀c:aJ,bD c->c.field.points=f->(∀x∈c.certs.list,x.2∈es)->(∀j,j<es.length->uO c.certs.list es[j]!)-> ∃r:aJ×Int,aH fJ (eP es es.length c)=some (.done r)/\aH dX (eR es es.length c)=some (.done r)/\(r.2=0/\NO c f es r.1\/r=(eD,18))/\r.2=0:=by
  intro c ok hf hs hh;have e1:decide ((es.length:Int)<(es.length:Int))=false:=aI (by omega)
  refine ⟨(c,0),aL ?_,aL ?_,.inl ⟨rfl,fun e he=>by obtain ⟨j,hj,q⟩:=aY.1 he;rw [<- q];exact hh j hj,hs,ok,hf,rfl,Int.le_refl _⟩,rfl⟩
  · unfold fJ eP
    simp only [e1,cond_false]
  · unfold dX eR
    simp only [aF,e1,cond_false]
 intro d
 induction d with
 |zero=>
  intro i c hd hi ok hf hs hh
  have:i=es.length:=by omega
  subst this;obtain ⟨r,q1,q2,q3,q4⟩:=fin c ok hf hs hh;exact ⟨r,q1,q2,q3,fun _ _ _=>q4⟩
 |succ d ih=>
  intro i c hd hi ok hf hs hh
  by_cases he:i=es.length
  · subst he
    obtain ⟨r,q1,q2,q3,q4⟩:=fin c ok hf hs hh;exact ⟨r,q1,q2,q3,fun _ _ _=>q4⟩
  have bd:=ok.bd;have hi':i<es.length:=by omega
  have e1:decide ((i:Int)<(es.length:Int))=true:=aM (by omega)
  have sc:=bC (show i<1000000000 by omega)
  have cg:=aC es i hi';have ceta:(aJ.mk (c.now.1,c.now.2) (Field.mk c.field.points) (aU.mk c.certs.next_ c.certs.list) (aG.mk (aR.mk c.agenda.slots.uses c.agenda.slots.used c.agenda.slots.free) c.agenda.heap c.agenda.where_) c.due)=c:=rfl;have ceta2:aU.mk c.certs.next_ c.certs.list=c.certs:=rfl;have hc:=UH c.certs.list es[i]! (by omega)
  have hr:=BP c.certs es[i]! (by omega)
  by_cases hin:uO c.certs.list es[i]!
  · have s1:fJ (eP es i c)=some (.next (eP es (i+1) c)):=by
     unfold fJ eP;simp only [e1,cond_true,cg,aB,JB,hc,aM hin,sc]
    have s2:dX (eR es i c)=some (.next (eR es (i+1) c)):=by
     unfold dX eR;simp only [aF,e1,cond_true,cg,aB,ceta2,hr,aM hin,sc]
    rw [aX s1,aX s2];obtain ⟨r,q1,q2,q3,q4⟩:=ih (i+1) c (by omega) (by omega) ok hf hs (fun j hj=>if q:j=i then by rw [q];exact hin else hh j (by omega))
    exact ⟨r,q1,q2,q3,fun k hk hl=>q4 k hk (by omega)⟩
  · have hb:hJ c.field.points es[i]!:=by rw [hf];exact eok.kn _ (bB hi')
    rcases aJl ok (eok.cv _ (bB hi')) hb hin with ⟨r1,r2,full⟩|⟨c',r1,r2,r3,r4,r5,r6,r7⟩
    · refine ⟨(eD,18),aL ?_,aL ?_,.inr rfl,fun k hk hl=>absurd full (hk.not_full ok (by omega))⟩
      · unfold fJ eP
        simp only [e1,cond_true,cg,aB,JB,hc,aI hin,cond_false,ceta,r1,show ((18:Int) !=0)=true from rfl]
      · unfold dX eR
        simp only [aF,e1,cond_true,cg,aB,ceta2,hr,aI hin,cond_false,ceta,r2,show ((18:Int) !=0)=true from rfl]
    · have s1:fJ (eP es i c)=some (.next (eP es (i+1) c')):=by
       unfold fJ eP;simp only [e1,cond_true,cg,aB,JB,hc,aI hin,cond_false,ceta,r1,show ((0:Int) !=0)=false from rfl,sc]
      have s2:dX (eR es i c)=some (.next (eR es (i+1) c')):=by
       unfold dX eR;simp only [aF,e1,cond_true,cg,aB,ceta2,hr,aI hin,cond_false,ceta,r2,show ((0:Int) !=0)=false from rfl,sc]
      rw [aX s1,aX s2];obtain ⟨r,q1,q2,q3,q6⟩:=ih (i+1) c' (by omega) (by omega) r3 (by rw [r4,hf]) (fun x hx=>by
       rw [r6] at hx;rcases List.mem_append.1 (show x∈c.certs.list++[(c.certs.next_,es[i]!)] from hx) with h|h
       · exact hs x h
       · rw [List.mem_singleton.1 h];exact bB hi') (fun j hj=>by
       rw [r6];show uO (c.certs.list++[(c.certs.next_,es[i]!)]) _
       by_cases q:j=i
       · rw [q];exact ⟨c.certs.list.length,by rw [List.length_append,List.length_singleton];omega,by rw [gZ (Nat.le_refl _),Nat.sub_self];rfl⟩
       · obtain ⟨w,w1,w2⟩:=hh j (by omega)
         exact ⟨w,by rw [List.length_append];omega,by rw [gV w1];exact w2⟩)
      refine ⟨r,q1,q2,q3.imp (fun ⟨q4,q5⟩=>⟨q4,q5.has,q5.sub,q5.ok,q5.fld,q5.now.trans r5,Int.le_trans ?_ q5.room⟩) id,fun k hk hl=>q6 (k+1) (hk.more r6 r7) (by omega)⟩
      unfold qY;rw [r6];show _<=(c.certs.next_+1) - (((c.certs.list++[(c.certs.next_,es[i]!)]).length:Nat):Int);rw [List.length_append,List.length_singleton];omega
theorem aJn {c:aJ} (ok:bD c) {f:List Pt} (fok:cB f) {es:List (Int×Int)} (eok:KU f es):
 ∃r:aJ×Int,tK c ⟨f⟩ es=some r/\oI c ⟨f⟩ es=some r/\(r.2=0/\NO c f es r.1\/r=(eD,18)):=by
 have f64:=fok.1;obtain ⟨c',g1,g2,g3,g4,g5,g6,g7⟩:=aCx ok eok c.certs.list.length 0 c (by omega) (by omega) ok (fun x hx=>by rwa [List.drop_zero] at hx) (fun x hx=> .inl (by rwa [List.drop_zero]))
 have bd:=g3.bd;have e1:decide ((c.certs.list.length:Int)<(c.certs.list.length:Int))=false:=aI (by omega)
 have start1:tK c ⟨f⟩ es=aH eM (kP c f es 0 c):=rfl;have start2:oI c ⟨f⟩ es=aH dL (kR c f es 0 c):=by
  unfold oI;simp only [kJ ok,aB];rfl
 rw [start1,start2,g1,g2];have eq1:=HR c'.field.points f (by omega)
 have eq2:=UO c'.field.points f (by omega)
 have ceta:(aJ.mk (c'.now.1,c'.now.2) (Field.mk c'.field.points) (aU.mk c'.certs.next_ c'.certs.list) (aG.mk (aR.mk c'.agenda.slots.uses c'.agenda.slots.used c'.agenda.slots.free) c'.agenda.heap c'.agenda.where_) c'.due)=c':=rfl
 by_cases hf:c'.field.points=f
 · obtain ⟨r,i1,i2,i3,_⟩:=UP fok eok es.length 0 c' (by omega) (by omega) g3 hf g4 (fun j hj=>absurd hj (Nat.not_lt_zero j))
   refine ⟨r,aL ?_,aL ?_,i3.imp (fun ⟨q4,q5⟩=>⟨q4,q5.has,q5.sub,q5.ok,q5.fld,q5.now.trans g6,Int.le_trans g7 q5.room⟩) id⟩
   · unfold eM kP
     simp only [e1,cond_false,eq1,aM hf,aB,Bool.not_true];exact i1
   · unfold dL kR
     simp only [aF,e1,cond_false,eq2,aM hf,aB,Bool.not_true];exact i2
 · have kn: ∀i,i<c'.certs.list.length->hJ f (c'.certs.list[i]!).2:=fun i hi=>eok.kn _ (g4 _ (bB hi))
   rcases aRz g3 fok kn with ⟨a1,a2⟩|⟨c2,a1,a2,a3,a4,a5,a6⟩
   · refine ⟨(eD,18),aL ?_,aL ?_,.inr rfl⟩
     · unfold eM kP
       simp only [e1,cond_false,eq1,aI hf,aB,Bool.not_false,cond_true,ceta,a1,show ((18:Int) !=0)=true from rfl]
     · unfold dL kR
       simp only [aF,e1,cond_false,eq2,aI hf,aB,Bool.not_false,cond_true,ceta,a2,show ((18:Int) !=0)=true from rfl]
   · obtain ⟨r,i1,i2,i3,_⟩:=UP fok eok es.length 0 c2 (by omega) (by omega) a3 a4 (by rw [a6];exact g4) (fun j hj=>absurd hj (Nat.not_lt_zero j))
     refine ⟨r,aL ?_,aL ?_,i3.imp (fun ⟨q4,q5⟩=>⟨q4,q5.has,q5.sub,q5.ok,q5.fld,(q5.now.trans a5).trans g6,Int.le_trans (Int.le_trans g7 (by unfold qY;rw [a6];exact Int.le_refl _)) q5.room⟩) id⟩
     · unfold eM kP
       simp only [e1,cond_false,eq1,aI hf,aB,Bool.not_false,cond_true,ceta,a1,show ((0:Int) !=0)=false from rfl];exact i1
     · unfold dL kR
       simp only [aF,e1,cond_false,eq2,aI hf,aB,Bool.not_false,cond_true,ceta,a2,show ((0:Int) !=0)=false from rfl];exact i2
end Go.Proofs.YthljmpcakagceaaGreat
namespace Go.Proofs.YthljmpcakagceaaGreat
open Go.Vm Classical
theorem F9 {α:Type} [Inhabited α] {l:List α}:l.Nodup↔ ∀k,k<l.length->l[k]!∉l.take k:=by
 rw [gG];constructor
 · intro h k hk hm
   obtain ⟨i,h1,h2,h3⟩:=cL.1 hm;exact h i k h1 hk h3
 · intro h i j hij hj he
   exact h j hj (cL.2 ⟨i,hij,by omega,he⟩)
theorem AG {α:Type} [Inhabited α] {l:List α} {P:α->Prop}:(∀x∈l,P x)↔ ∀i,i<l.length->P l[i]!:=by
 constructor
 · intro h i hi;exact h _ (bB hi)
 · intro h x hx
   obtain ⟨i,hi,rfl⟩:=aY.1 hx;exact h i hi
theorem GA {σ ρ:Type} {body:σ->Option (cA σ ρ)} (st:Nat->σ) (n:Nat) (P:Nat->Prop) {r e:ρ} (h: ∀i,i<n->(¬P i->body (st i)=some (.done r))/\(P i->body (st i)=some (.next (st (i+1)))))
 (hend:body (st n)=some (.done e)):aH body (st 0)=some (if∀i,i<n->P i then e else r):=by
 have key:=dC (body:=body) st n (fun i=> ¬P i) (r:=r) (e:=e) (fun i hi=>⟨(h i hi).1,fun hn=>(h i hi).2 (Classical.not_not.1 hn)⟩) hend
 by_cases hx: ∀i,i<n->P i
 · rw [if_pos hx];exact key.2 fun i hi=>Classical.not_not.2 (hx i hi)
 · rw [if_neg hx]
   obtain ⟨i,h⟩:=Classical.not_forall.1 hx;obtain ⟨hi,hx⟩:=Classical.not_imp.1 h;exact key.1 ⟨i,hi,hx⟩
theorem FA {f:List Pt} (fok:cB f) (id:Int): ∃p e,wG ⟨f⟩ id=some (p,e)/\(e=0↔sE f id):=by
 have h1:=fok.1;have hc:eK ⟨f⟩=some 0:=by rw [lJ];exact congrArg some (lT.2 fok)
 have bs:=KT f id (by omega) (fun i j=>vQ fok.2.2)
 unfold wG C8 FY;rw [aJj];simp only [hc,aB,show ((0:Int) !=0)=false from rfl,cond_false]
 by_cases h:sE f id
 · obtain ⟨k,hk,he⟩:=h
   rw [bs.1 k hk he];refine ⟨f[k]!,0,?_,fun _=>⟨k,hk,he⟩,fun _=>rfl⟩
   simp only [aB,Bool.not_true,cond_false,show ((0:Int) !=0)=false from rfl,aC f k hk]
 · obtain ⟨m,_,_,_,e⟩:=bs.2 (fun k hk he=>h ⟨k,hk,he⟩)
   rw [e];exact ⟨(0,0,0),6,rfl,fun h=>(by cases h),fun k=>absurd k h⟩
structure aJ7 (c:aJ):Prop where
 f:c.field.points.length<=1000000
 l:c.certs.list.length<=1000000
 d:c.due.length<=1000000
 h:c.agenda.heap.length<=1000000
 w:c.agenda.where_.length<=1000000
 s1:c.agenda.slots.uses.length<=1000000
 s2:c.agenda.slots.used.length<=1000000
 s3:c.agenda.slots.free.length<=1000000
structure aCy (c:aJ):Prop where
 now:mU c.now
 at64: ∀w,w<c.agenda.heap.length->mU ((c.agenda.heap[w]!).1,(c.agenda.heap[w]!).2.1)
theorem UQ (f:Field):tN f=some true\/(tN f=some false/\f.points.length<=70):=by
 unfold tN
 simp only [aF]
 by_cases h1:16<f.points.length
 · rw [aM (show (16:Int)<(f.points.length:Int) by omega)]
   by_cases h2:f.points.length<64
   · rw [aM (show (f.points.length:Int)<64 by omega)];exact .inl rfl
   · rw [aI (show¬(f.points.length:Int)<64 by omega)]
     by_cases h3:70<f.points.length
     · rw [aM (show (70:Int)<(f.points.length:Int) by omega)];exact .inl rfl
     · rw [aI (show¬(70:Int)<(f.points.length:Int) by omega)];exact .inr ⟨rfl,by omega⟩
 · rw [aI (show¬(16:Int)<(f.points.length:Int) by omega),aI (show¬(70:Int)<(f.points.length:Int) by omega)]
   exact .inr ⟨rfl,by omega⟩
theorem UR (c:aJ):tO c=some true\/(tO c=some false/\aJ7 c):=by
 unfold tO DC DB
 simp only [aF]
 by_cases h1:40<c.certs.list.length
 · rw [aM (show (40:Int)<(c.certs.list.length:Int) by omega)];exact .inl rfl
 rw [aI (show¬(40:Int)<(c.certs.list.length:Int) by omega)]
 by_cases h2:40<c.due.length
 · rw [aM (show (40:Int)<(c.due.length:Int) by omega)];exact .inl rfl
 rw [aI (show¬(40:Int)<(c.due.length:Int) by omega)]
 rcases UQ c.field with e|⟨e,hf⟩
 · rw [e];exact .inl rfl
 rw [e];simp only [cond_false,aB]
 by_cases a1:210<c.agenda.slots.uses.length
 · rw [aM (show (210:Int)<(c.agenda.slots.uses.length:Int) by omega)];exact .inl rfl
 rw [aI (show¬(210:Int)<(c.agenda.slots.uses.length:Int) by omega)]
 by_cases a2:210<c.agenda.slots.used.length
 · rw [aM (show (210:Int)<(c.agenda.slots.used.length:Int) by omega)];exact .inl rfl
 rw [aI (show¬(210:Int)<(c.agenda.slots.used.length:Int) by omega)]
 by_cases a3:210<c.agenda.slots.free.length
 · rw [aM (show (210:Int)<(c.agenda.slots.free.length:Int) by omega)];exact .inl rfl
 rw [aI (show¬(210:Int)<(c.agenda.slots.free.length:Int) by omega)]
 by_cases a4:210<c.agenda.heap.length
 · rw [aM (show (210:Int)<(c.agenda.heap.length:Int) by omega)];exact .inl rfl
 rw [aI (show¬(210:Int)<(c.agenda.heap.length:Int) by omega)]
 by_cases a5:210<c.agenda.where_.length
 · rw [aM (show (210:Int)<(c.agenda.where_.length:Int) by omega)];exact .inl rfl
 rw [aI (show¬(210:Int)<(c.agenda.where_.length:Int) by omega)]
 exact .inr ⟨rfl,⟨by omega,by omega,by omega,by omega,by omega,by omega,by omega,by omega⟩⟩
end Go.Proofs.YthljmpcakagceaaGreat
namespace Go.Proofs.YthljmpcakagceaaGreat
open Go.Vm Classical
theorem YY {a b:Int×Int} (ha:bM a) (hb:bM b) (h:a.1*b.2=b.1*a.2):a=b:=by
 obtain ⟨a1,_,a3⟩:=ha;obtain ⟨b1,_,b3⟩:=hb;have hn:a.1.natAbs*b.2.natAbs=b.1.natAbs*a.2.natAbs:=by rw [<- Int.natAbs_mul,<- Int.natAbs_mul,h]
 have d1:b.2.natAbs ∣ a.2.natAbs:=by
  have:b.2.natAbs ∣ b.1.natAbs*a.2.natAbs:=by rw [<- hn];exact Nat.dvd_mul_left _ _
  exact (Nat.Coprime.dvd_of_dvd_mul_left b3 this)
 have d2:a.2.natAbs ∣ b.2.natAbs:=by
  have:a.2.natAbs ∣ a.1.natAbs*b.2.natAbs:=by rw [hn];exact Nat.dvd_mul_left _ _
  exact (Nat.Coprime.dvd_of_dvd_mul_left a3 this)
 have e:a.2.natAbs=b.2.natAbs:=Nat.dvd_antisymm d2 d1;have e2:a.2=b.2:=by omega
 have e1:a.1=b.1:=by
  rw [e2] at h;exact Int.eq_of_mul_eq_mul_right (by omega) h
 exact Prod.ext e1 e2
theorem HS (p q:Pt) (t:Int×Int):MX p q t=(p.2.1-q.2.1)*t.2+(p.2.2-q.2.2)*t.1:=rfl
theorem J2 {l h:Pt} {t t':Int×Int} (d:1<=t.2) (d':1<=t'.2) (le:t.1*t'.2<=t'.1*t.2) (hB: ¬h.2.2<l.2.2) (hn: ¬dV l h t): ¬dV l h t':=by
 unfold dV at*;rw [HS] at*;generalize l.2.1-h.2.1=A at*;have hs:l.2.2-h.2.2<=0:=by omega
 intro hl;have key:(A*t'.2+(l.2.2-h.2.2)*t'.1)*t.2<=(A*t.2+(l.2.2-h.2.2)*t.1)*t'.2:=by
  have h1:(l.2.2-h.2.2)*(t'.1*t.2)<=(l.2.2-h.2.2)*(t.1*t'.2):=Int.mul_le_mul_of_nonpos_left hs le;have e1:(A*t'.2+(l.2.2-h.2.2)*t'.1)*t.2=A*t'.2*t.2+(l.2.2-h.2.2)*(t'.1*t.2):=by rw [Int.add_mul,Int.mul_assoc (l.2.2-h.2.2)]
  have e2:(A*t.2+(l.2.2-h.2.2)*t.1)*t'.2=A*t'.2*t.2+(l.2.2-h.2.2)*(t.1*t'.2):=by
   rw [Int.add_mul,Int.mul_assoc (l.2.2-h.2.2),Int.mul_assoc A,Int.mul_assoc A,Int.mul_comm t.2]
  omega
 rcases hl with hl|⟨hl,h2|⟨h2,h3⟩⟩
 · refine hn (.inl ?_)
   have:0<(A*t'.2+(l.2.2-h.2.2)*t'.1)*t.2:=Int.mul_pos hl (by omega)
   have k:0<(A*t.2+(l.2.2-h.2.2)*t.1)*t'.2:=by omega
   exact Int.pos_of_mul_pos_left k (by omega)
 · omega
 · have z:l.2.2-h.2.2=0:=by omega
   rw [z] at hl hn
   have:A=0:=by
    have:A*t'.2=0:=by omega
    rcases Int.mul_eq_zero.1 this with h|h
    · exact h
    · omega
   subst this;exact hn (.inr ⟨by omega,.inr ⟨h2,h3⟩⟩)
theorem NP {h l:Pt} {t t':Int×Int} (hh:gO h) (hl:gO l) (r:bM t) (r':bM t') (le:t.1*t'.2<=t'.1*t.2) (up:(mI h l t).2=true->t'.1*(mI h l t).1.2<=(mI h l t).1.1*t'.2):
 mI h l t'=mI h l t:=by
 unfold mI at*
 by_cases h1:dV l h t
 · rw [if_pos h1] at up ⊢
   have e:t=t':=YY r r' (by have:=up rfl;dsimp only at this;omega)
   subst e;rw [if_pos h1]
 · rw [if_neg h1] at up ⊢
   by_cases h2:h.2.2<l.2.2
   · rw [if_pos h2] at up ⊢
     obtain ⟨_,m1,m2,m3⟩:=I5 hh hl (show h.2.2≠l.2.2 by omega)
     have up:=up rfl;dsimp only at up
     by_cases h3:dV l h t'
     · rw [if_pos h3]
       have:t'=met h l:=by
        refine YY r' m1 ?_;have g:0<=MX l h t':=by rcases h3 with k|k<;>omega
        rw [HS] at g;generalize met h l=m at*;have d:=m1.1;have hB:0<l.2.2-h.2.2:=by omega
        generalize l.2.2-h.2.2=B at*;generalize hA:h.2.1-l.2.1=A at*;have g2:A*t'.2<=B*t'.1:=by
         have:(l.2.1-h.2.1)*t'.2= -(A*t'.2):=by rw [<- Int.neg_mul];congr 1;omega
         omega
        have g3:m.1*t'.2*B<=t'.1*m.2*B:=by
         have e1:m.1*t'.2*B=A*t'.2*m.2:=by
          rw [Int.mul_right_comm,m3,Int.mul_right_comm]
         have e2:t'.1*m.2*B=B*t'.1*m.2:=by
          rw [Int.mul_right_comm,Int.mul_comm t'.1 B]
         rw [e1,e2];exact Int.mul_le_mul_of_nonneg_right g2 (by omega)
        have g4:m.1*t'.2<=t'.1*m.2:=Int.le_of_mul_le_mul_right g3 hB;omega
       rw [this]
     · rw [if_neg h3]
   · rw [if_neg h2] at up ⊢
     rw [if_neg (J2 r.1 r'.1 le h2 h1)]
end Go.Proofs.YthljmpcakagceaaGreat
namespace Go.Proofs.YthljmpcakagceaaGreat
open Go.Vm Classical
theorem JE {a:aG} (ok:eZ a): ∀k,k<a.heap.length-> ¬dO a.heap[k]! a.heap[0]!:=by
 have d: ∀w,w<a.heap.length->1<=(a.heap[w]!).2.1:=fun w hw=>(ok.ev w hw).1.1
 intro k
 induction k using Nat.strongRecOn with
 |ind k ih=>
  intro hk
  by_cases h0:k=0
  · subst h0;exact fun h=>oW h h
  · exact AA (d 0 (by omega)) (d ((k-1) / 2) (by omega)) (d k hk) (ih ((k-1) / 2) (by omega) (by omega)) (ok.ord k (by omega) hk)
theorem aCz {h l:Pt} {t:Int×Int} (hh:gO h) (hl:gO l) (r:bM t) (is:(mI h l t).2=true):t.1*(mI h l t).1.2<=(mI h l t).1.1*t.2:=by
 unfold mI at*
 by_cases h1:dV l h t
 · rw [if_pos h1];exact Int.le_refl _
 · rw [if_neg h1] at is ⊢
   by_cases h2:h.2.2<l.2.2
   · rw [if_pos h2]
     obtain ⟨_,m1,m2,m3⟩:=I5 hh hl (show h.2.2≠l.2.2 by omega)
     dsimp only;have g:MX l h t<=0:=Int.not_lt.1 fun k=>h1 (.inl k)
     rw [HS] at g;generalize met h l=m at*;have d:=m1.1;have d2:=r.1;have hB:0<l.2.2-h.2.2:=by omega
     generalize l.2.2-h.2.2=B at*;generalize hA:h.2.1-l.2.1=A at*;have g2:B*t.1<=A*t.2:=by
      have:(l.2.1-h.2.1)*t.2= -(A*t.2):=by rw [<- Int.neg_mul];congr 1;omega
      omega
     have e1:t.1*m.2*B=B*t.1*m.2:=by rw [Int.mul_right_comm,Int.mul_comm t.1 B]
     have e2:m.1*t.2*B=A*t.2*m.2:=by rw [Int.mul_right_comm,m3,Int.mul_right_comm]
     have g3:t.1*m.2*B<=m.1*t.2*B:=by
      rw [e1,e2];exact Int.mul_le_mul_of_nonneg_right g2 (by omega)
     exact Int.le_of_mul_le_mul_right g3 hB
   · rw [if_neg h2] at is;cases is
theorem aW.time {l:List Pt} {t t':Int×Int} {H:List Ev}: ∀{cs ds:List uC},(∀x∈cs,bI l x.2 t'=bI l x.2 t)->aW l t H cs ds->aW l t' H cs ds
 | [],_,_,h=>h
 |x::cs,ds,hw,h=>by
  have e:=hw x List.mem_cons_self;have ih: ∀{ds},aW l t H cs ds->aW l t' H cs ds:=fun {ds}=>aW.time fun y hy=>hw y (List.mem_cons_of_mem _ hy)
  refine ⟨fun hy=>?_,fun hy=>?_⟩
  · rw [e] at hy
    obtain ⟨d,ds',h1,h2,h3,h4⟩:=h.1 hy;exact ⟨d,ds',h1,h2,by rw [e];exact h3,ih h4⟩
  · rw [e] at hy
    exact ih (h.2 hy)
theorem WY {c:aJ} (ok:bD c) (hne:0<c.agenda.heap.length):
 ∃(i:Nat) (c':aJ),i<c.certs.list.length/\(c.certs.list[i]!).1=Ev.num c.agenda.heap[0]!/\lY c (Ev.num c.agenda.heap[0]!)=some (c',(c.certs.list[i]!).2,0)/\rY c (Ev.num c.agenda.heap[0]!)=some c'/\
  bD ⟨Ev.at c.agenda.heap[0]!,c'.field,c'.certs,c'.agenda,c'.due⟩/\c'.field=c.field/\c'.certs=nV c.certs i/\c.now.1*(Ev.at c.agenda.heap[0]!).2<=(Ev.at c.agenda.heap[0]!).1*c.now.2:=by
 have hm:=bB hne;obtain ⟨d,hd,hn⟩:=ok.nums _ hm;obtain ⟨x,hx,h1,h2,h3⟩:=ok.fol.due d hd;obtain ⟨w,hw,he⟩:=aY.1 h3;have hw0:w=0:=Classical.byContradiction fun hx=>by
  refine ok.agd.nd 0 w (by omega) hw ?_
  rw [he,<- hn,h1]
 subst hw0;obtain ⟨i,hi,rfl⟩:=aY.1 hx;have num:(c.certs.list[i]!).1=Ev.num c.agenda.heap[0]!:=by rw [<- hn,h1]
 have tm:Ev.at c.agenda.heap[0]! =(bI c.field.points (c.certs.list[i]!).2 c.now).1:=by rw [he]
 obtain ⟨c',r1,r2,r3,r4,r5,r6⟩:=aCv ok hi;have hb:=ok.known i hi;have pt:=fun (x:Int×Int) (hb:hJ c.field.points x)=>And.intro (gC ok.fld hb.2).1 (gC ok.fld hb.1).1
 have rt:=HH (pt _ hb).1 (pt _ hb).2 ok.now64 ok.nowv h2;have ge:=aCz (pt _ hb).1 (pt _ hb).2 ok.nowv h2;rw [num] at r1 r2;refine ⟨i,c',hi,num,r1,r2,?_,r4,r6,by rw [tm];exact ge⟩
 have kn:=DR ok i hi;refine ⟨by rw [tm];exact rt.1,by rw [tm];exact rt.2,r3.fld,r3.crt,r3.agd,r3.w200,r3.hd,r3.known,?_⟩
 refine aW.time (t:=c'.now) (fun y hy=>?_) r3.fol
 have hy':y∈c.certs.list:=by
  rw [r6] at hy;exact (vK ok.crt_up hi hy).1
 obtain ⟨j,hj,rfl⟩:=aY.1 hy';have hbj:=ok.known j hj;rw [r4,r5];refine NP (pt _ hbj).1 (pt _ hbj).2 ok.nowv (by rw [tm];exact rt.1) (by rw [tm];exact ge) (fun is=>?_)
 obtain ⟨d',hd',k1,k2⟩:=ok.fol.has _ hy' is;obtain ⟨w,hw,he⟩:=aY.1 k2
 have:=JE ok.agd w hw
 rw [he] at this;exact Int.not_lt.1 fun k=>this (.inl (vI.2 k))
end Go.Proofs.YthljmpcakagceaaGreat
namespace Go.Proofs.YthljmpcakagceaaGreat
open Go.Vm Classical
theorem CD {p q:Pt} {t:Int×Int} (hp:gO p) (hq:gO q) (ht:mU t) (hr:bM t):jX p q t=some (decide (dV p q t),if p.1=q.1 then 2 else 0)\/(p.1=q.1/\jX p q t=some (false,2)):=by
 unfold jX;rw [yT ht,if_pos ⟨hp,hq,hr⟩]
 by_cases h:p.1=q.1
 · right;simp [h]
 · left
   simp only [h,if_false,aB,xW hp hq ht]
   have:decide (0<WH p q t)=decide (dV p q t):=by simp only [MY]
   simp [this]
end Go.Proofs.YthljmpcakagceaaGreat
namespace Go.Proofs.YthljmpcakagceaaGreat
theorem BQ {α:Type} [BEq α] [LawfulBEq α]: ∀{a b:List α},a.Nodup->(∀x∈a,x∈b)->b.length<=a.length->a.Perm b
 | [],b,_,_,hl=>by
  rw [List.eq_nil_of_length_eq_zero (show b.length=0 by simpa using hl)]
 |x::a,b,hd,h,hl=>by
  rw [List.nodup_cons] at hd;have hx:=h x List.mem_cons_self;have ih:=BQ (a:=a) (b:=b.erase x) hd.2 (fun y hy=>by
   rw [List.mem_erase_of_ne (fun e=>hd.1 (by rw [<- e];exact hy))]
   exact h y (List.mem_cons_of_mem _ hy)) (by
   rw [List.length_erase_of_mem hx];rw [List.length_cons] at hl
   omega)
  exact (List.Perm.cons x ih).trans (List.perm_cons_erase hx).symm
theorem BS {α β:Type} {f:α->β}: ∀{l:List α},l.Nodup->(∀x∈l,∀y∈l,f x=f y->x=y)->(l.map f).Nodup
 | [],_,_=>List.nodup_nil
 |x::l,h,hi=>by
  rw [List.nodup_cons] at h;rw [List.map_cons,List.nodup_cons];refine ⟨fun hm=>?_,BS h.2 fun y hy z hz=>hi y (List.mem_cons_of_mem _ hy) z (List.mem_cons_of_mem _ hz)⟩
  obtain ⟨y,hy,e⟩:=List.mem_map.1 hm
  have:=hi y (List.mem_cons_of_mem _ hy) x List.mem_cons_self e
  rw [this] at hy;exact h.1 hy
end Go.Proofs.YthljmpcakagceaaGreat
namespace Go.Proofs.YthljmpcakagceaaGreat
open Go.Vm Classical
def JF (l:List Int) (k:Nat):List (Int×Int):=(List.range k).map fun i=>(l[i+1]!,l[i / 2]!)
abbrev DT (l:List Int):List (Int×Int):=JF l (l.length-1)
theorem GB (l:List Int) (k:Nat):(JF l k).length=k:=by unfold JF;rw [List.length_map,List.length_range]
theorem J3 (l:List Int) {k i:Nat} (h:i<k):(JF l k)[i]! =(l[i+1]!,l[i / 2]!):=by
 rw [getElem!_pos _ i (by rw [GB];exact h)]
 unfold JF;rw [List.getElem_map,List.getElem_range]
theorem US {l:List Int} (hd:l.Nodup):(DT l).Nodup:=by
 unfold DT JF;refine BS List.nodup_range fun i hi j hj h=>?_
 rw [List.mem_range] at hi hj;have h1:l[i+1]! =l[j+1]!:=congrArg Prod.fst h;have h2:=gG.1 hd;rcases Nat.lt_trichotomy i j with k|k|k
 · exact absurd h1 (h2 (i+1) (j+1) (by omega) (by omega))
 · exact k
 · exact absurd h1.symm (h2 (j+1) (i+1) (by omega) (by omega))
theorem aJo {f:List Pt} (fok:cB f) {t:Int×Int} (r64:mU t) {x:Int×Int} (hb:hJ f x):BC x ⟨f⟩ t=some (decide (dV (iV f x.2) (iV f x.1) t)):=by
 obtain ⟨h1,h2⟩:=hb;obtain ⟨j,j1,j2,j3⟩:=zB fok h1;obtain ⟨k,k1,k2,k3⟩:=zB fok h2;unfold BC;simp only [j2,k2,aB,aC f j j1,aC f k k1,j3,k3,HG (gC fok h2).1 (gC fok h1).1 r64]
end Go.Proofs.YthljmpcakagceaaGreat
namespace Go.Proofs.YthljmpcakagceaaGreat
open Go.Vm Classical
def FB (f:List Pt):List Int:=f.map fun p=>p.1
theorem JG {f:List Pt} (h:hG f):(FB f).Nodup:=by
 refine BS ?_ ?_
 · exact gG.2 fun i j hij hj e=>by have:=vQ h hij hj;rw [e] at this;omega
 · intro x hx y hy e
   obtain ⟨i,hi,rfl⟩:=aY.1 hx;obtain ⟨j,hj,rfl⟩:=aY.1 hy;rw [oV h hi hj e]
theorem YZ {f:List Pt} {id:Int}:id∈FB f↔sE f id:=by
 unfold FB sE;rw [List.mem_map];constructor
 · rintro ⟨p,hp,rfl⟩
   obtain ⟨i,hi,rfl⟩:=aY.1 hp;exact ⟨i,hi,rfl⟩
 · rintro ⟨i,hi,rfl⟩
   exact ⟨f[i]!,bB hi,rfl⟩
structure wV (k:E5):Prop where
 clk:bD k.clock
 perm:(FB k.clock.field.points).Perm k.heap
 cert:(k.clock.certs.list.map fun x=>x.2).Perm (DT k.heap)
 lead: ∀e∈DT k.heap,dV (iV k.clock.field.points e.2) (iV k.clock.field.points e.1) k.clock.now
theorem DU {c:aU} (ok:eX c):(c.list.map fun x=>x.2).Nodup:=by
 refine BS ?_ ?_
 · exact gG.2 fun i j hij hj e=>ok.nd i j hij hj (by rw [e])
 · intro x hx y hy e
   obtain ⟨i,hi,rfl⟩:=aY.1 hx;obtain ⟨j,hj,rfl⟩:=aY.1 hy;rcases Nat.lt_trichotomy i j with k|k|k
   · exact absurd e (ok.nd i j k hj)
   · rw [k]
   · exact absurd e.symm (ok.nd j i k hi)
theorem wW {l:List uC} {x:Int×Int}:uO l x↔x∈l.map fun y=>y.2:=by
 unfold uO;rw [List.mem_map];constructor
 · rintro ⟨i,hi,rfl⟩;exact ⟨l[i]!,bB hi,rfl⟩
 · rintro ⟨y,hy,rfl⟩
   obtain ⟨i,hi,rfl⟩:=aY.1 hy;exact ⟨i,hi,rfl⟩
theorem aJp {c:aJ} (ok:bD c) (es:List (Int×Int)) (kn: ∀x∈es,hJ c.field.points x):
 BD c es=some (decide (c.certs.list.length=es.length/\ ∀i,i<es.length->uO c.certs.list es[i]!/\dV (iV c.field.points (es[i]!).2) (iV c.field.points (es[i]!).1) c.now)):=by
 have bd:=ok.bd;unfold BD;simp only [aF]
 by_cases h0:c.certs.list.length=es.length
 case neg=>rw [fE (by omega),cond_true,aI (fun h=>h0 h.1)]
 rw [dR (by omega),cond_false]
 have key:=GA (body:=sP) (fun i=>(es,(i:Int),c.now.1,c.now.2,c.field.points,c.certs.next_,c.certs.list,c.agenda.slots.uses,c.agenda.slots.used,c.agenda.slots.free,c.agenda.heap,c.agenda.where_,c.due)) es.length
  (fun i=>uO c.certs.list es[i]!/\dV (iV c.field.points (es[i]!).2) (iV c.field.points (es[i]!).1) c.now) (r:=false) (e:=true) (fun i hi=>by
  have ceta2:aU.mk c.certs.next_ c.certs.list=c.certs:=rfl;unfold sP;simp only [aF,aM (show (i:Int)<(es.length:Int) by omega),cond_true,aC es i hi,aB,ceta2,BP c.certs es[i]! (by omega),aJo ok.fld (t:=(c.now.1,c.now.2)) ok.now64 (kn _ (bB hi)),bC (show i<1000000000 by omega)]
  by_cases h1:uO c.certs.list es[i]!
  · rw [aM h1]
    by_cases h2:dV (iV c.field.points (es[i]!).2) (iV c.field.points (es[i]!).1) c.now
    · rw [show decide (dV (iV c.field.points (es[i]!).2) (iV c.field.points (es[i]!).1) (c.now.1,c.now.2))=true from aM h2]
      exact ⟨fun h=>absurd ⟨h1,h2⟩ h,fun _=>rfl⟩
    · rw [show decide (dV (iV c.field.points (es[i]!).2) (iV c.field.points (es[i]!).1) (c.now.1,c.now.2))=false from aI h2]
      exact ⟨fun _=>rfl,fun h=>absurd h.2 h2⟩
  · rw [aI h1]
    exact ⟨fun _=>rfl,fun h=>absurd h.1 h1⟩) (by
  unfold sP;simp only [aF,aI (show¬(es.length:Int)<(es.length:Int) by omega),cond_false])
 refine (show _=_ from key).trans ?_
 by_cases h2: ∀i,i<es.length->uO c.certs.list es[i]!/\dV (iV c.field.points (es[i]!).2) (iV c.field.points (es[i]!).1) c.now
 · rw [if_pos h2,aM ⟨h0,h2⟩]
 · rw [if_neg h2,aI (fun h=>h2 h.2)]
end Go.Proofs.YthljmpcakagceaaGreat
