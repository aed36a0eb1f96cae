/- Plain laws (3). -/
import Derived.Test.YtmlghnibpjlchaaGreatAQM2
import Derived.Test.YtmlghnibpjlchaaGreatAVm3
namespace Go.Proofs.YtmlghnibpjlchaaGreat
open Go.Vm Classical
theorem RE (c:aI) (n:Int) (hl:c.due.length<=1000000):(∀k,k<c.due.length->(c.due[k]!).1=n->(∀j,j<k->(c.due[j]!).1≠n)->oG c n=some (k:Int))/\((∀k,k<c.due.length->(c.due[k]!).1≠n)->oG c n=some (-1)):=by
 unfold oG;refine iZ (body:=pH) (fun i=>(n,(i:Int),c.now.1,c.now.2,c.field.points,c.certs.next_,c.certs.list,c.agenda.slots.uses,c.agenda.slots.used,c.agenda.slots.free,c.agenda.heap,c.agenda.where_,c.due)) c.due.length (fun i=>(c.due[i]!).1=n) (fun i=>(i:Int)) (fun i hi=>?_) ?_
 · have e1:decide ((i:Int)<(c.due.length:Int))=true:=aQ (by omega)
   unfold pH;simp only [aE,e1,cond_true,aD c.due i hi,aB,bF (show i<1000000000 by omega)]
   constructor
   · intro h;rw [fJ h];rfl
   · intro h;rw [fO h];rfl
 · unfold pH
   have:decide ((c.due.length:Int)<(c.due.length:Int))=false:=aL (by omega)
   simp only [aE,this,cond_false]
theorem MK {ds:List sV} (hu:Up ds) (hl:ds.length<=1000000) (n:Int):(∀k,k<ds.length->(ds[k]!).1=n->oC ds n=some ((k:Int),true))/\((∀k,k<ds.length->(ds[k]!).1≠n)-> ∃m:Nat,oC ds n=some ((m:Int),false)):=by
 have bs:=FC ds n hl (tO.1 hu);unfold oC;rw [aL2];constructor
 · intro k hk he;rw [bs.1 k hk he];rfl
 · intro h
   obtain ⟨m,_,_,_,e⟩:=bs.2 h;exact ⟨m,by rw [e];rfl⟩
theorem bA.bd {c:aI} (ok:bA c):c.due.length<=200/\c.field.points.length<=64/\c.certs.list.length<=200:=by
 have:=ok.hd;have:=ok.agd.bd;have:=ok.fld.1;have:=ok.crt.len
 omega
theorem hJ {c:aI} (ok:bA c):gP c=some c:=by
 have bd:=ok.bd;unfold gP nP nQ;simp only [bC (show c.field.points.length<=1048576 by omega),bC (show c.certs.list.length<=1048576 by omega),bC (show c.due.length<=1048576 by omega),aB,rM ok.agd]
theorem jI {c:aI} (ok:bA c):jC c=some c:=by
 have bd:=ok.bd;have ab:=ok.agd.bd;have hl:=ok.agd.so.fl;have hn:=ok.agd.so.n2;have hu:=ok.agd.so.ul;unfold jC;simp only [bC (show c.field.points.length<=1048576 by omega),bC (show c.certs.list.length<=1048576 by omega),bC (show c.due.length<=1048576 by omega),bC (show c.agenda.heap.length<=1048576 by omega),bC (show c.agenda.where_.length<=1048576 by omega),
  bC (show c.agenda.slots.uses.length<=1048576 by omega),bC (show c.agenda.slots.used.length<=1048576 by omega),bC (show c.agenda.slots.free.length<=1048576 by omega),aB]
theorem tP {cs:List sV} {i:Nat} (hu:Up cs) (hi:i<cs.length) {x:sV} (hx:x∈cs.eraseIdx i):x∈cs/\x.1≠(cs[i]!).1:=by
 rw [uR,List.mem_append] at hx;have ub:=tO.1 hu;rcases hx with hx|hx
 · obtain ⟨j,h1,h2,rfl⟩:=cB.1 hx
   have:=ub j i h1 hi
   exact ⟨bM h2,by omega⟩
 · obtain ⟨j,hj,rfl⟩:=aY.1 hx
   rw [List.length_drop] at hj;rw [tT]
   have:=ub i (i+1+j) (by omega) (by omega)
   exact ⟨bM (by omega),by omega⟩
theorem BN {c:aI} (ok:bA c) (i:Nat) (hi:i<c.certs.list.length): ∀j,j<(mQ c.certs i).list.length->lM c.field.points ((mQ c.certs i).list[j]!).2:=by
 intro j hj;have hm:(mQ c.certs i).list[j]!∈c.certs.list:=(tP ok.crt_up hi (bM hj)).1;obtain ⟨m,hm1,hm2⟩:=aY.1 hm;rw [<- hm2];exact ok.known m hm1
theorem aAr {c:aI} (ok:bA c) {i:Nat} (hi:i<c.certs.list.length):
 ∃c':aI,kS c (c.certs.list[i]!).1=some (c',(c.certs.list[i]!).2,0)/\nS c (c.certs.list[i]!).1=some c'/\bA c'/\c'.field=c.field/\c'.now=c.now/\c'.certs=mQ c.certs i:=by
 have bd:=ok.bd;have rm:=KU ok.crt hi (n:=(c.certs.list[i]!).1) rfl;have wo:=GJ ok.crt hi (n:=(c.certs.list[i]!).1) rfl;have fe:=ok.fol.erase (i:=i) hi;have pd:=MK ok.due_up (by omega) (c.certs.list[i]!).1
 have da:=RE c (c.certs.list[i]!).1 (by omega)
 cases hf:(bI c.field.points (c.certs.list[i]!).2 c.now).2 with
 |false=>
  have no: ∀k,k<c.due.length->(c.due[k]!).1≠(c.certs.list[i]!).1:=by
   intro k hk he;obtain ⟨x,hx,h1,h2,_⟩:=ok.fol.due _ (bM hk);obtain ⟨j,hj,rfl⟩:=aY.1 hx;have ub:=tO.1 ok.crt_up
   have:j=i:=by
    rcases Nat.lt_trichotomy j i with h|h|h
    · have:=ub j i h hi;omega
    · exact h
    · have:=ub i j h hj;omega
   rw [this,hf] at h2;cases h2
  refine ⟨⟨c.now,c.field,mQ c.certs i,c.agenda,c.due⟩,?_,?_,?_,rfl,rfl,rfl⟩
  · unfold kS
    obtain ⟨m,e⟩:=pd.2 no;simp only [rm,aB,show ((0:Int) !=0)=false from rfl,cond_false,jI ok,e]
  · unfold nS
    simp only [hJ ok,aB,wo,da.2 no,aL (show¬(0:Int)<= -1 by omega),cond_false]
  · exact ⟨ok.nowv,ok.now64,ok.fld,KT ok.crt hi,ok.agd,ok.w200,ok.hd,BN ok i hi,fe.1 hf⟩
 |true=>
  obtain ⟨k,hk,k1,k2,k3⟩:=fe.2 hf;obtain ⟨w,hw,hev⟩:=aY.1 k2;have hh:(c.agenda.heap[w]!).2.2.2=(c.due[k]!).2:=by rw [hev]
  have ub:=tO.1 ok.due_up;have before: ∀j,j<k->(c.due[j]!).1≠(c.certs.list[i]!).1:=fun j hj he=>by have:=ub j k hj hk;omega
  have dl:(c.due.eraseIdx k).length=c.due.length-1:=V0 hk;obtain ⟨L,d1,d2⟩:=G7 c.due k hk;refine ⟨⟨c.now,c.field,mQ c.certs i,dT c.agenda w,c.due.eraseIdx k⟩,?_,?_,?_,rfl,rfl,rfl⟩
  · unfold kS
    simp only [rm,aB,show ((0:Int) !=0)=false from rfl,cond_false,jI ok,pd.1 k hk k1,cond_true,aD c.due k hk,xZ ok.agd hw ok.agd.fit hh,bF (show k<1000000000 by omega),TL,d1,d2]
  · unfold nS
    have s1:jB c.due 0 (k:Int)=some (c.due.take k):=qO c.due k (by omega)
    have s2:jB c.due ((k+1:Nat):Int) (c.due.length:Int)=some (c.due.drop (k+1)):=by
     unfold jB;rw [if_pos ⟨by omega,by omega,by omega⟩]
     simp only [Int.toNat_natCast];rw [List.take_of_length_le (by rw [List.length_drop];exact Nat.le_refl _)]
    have tl:(c.due.take k).length=k:=by rw [List.length_take];omega
    have dl2:(c.due.drop (k+1)).length=c.due.length- (k+1):=List.length_drop;simp only [hJ ok,aB,wo,da.1 k hk k1 before,aQ (show (0:Int)<=(k:Int) by omega),cond_true,aD c.due k hk,yA ok.agd hw hh,s1,bC (show (c.due.take k).length<=1048576 by omega),bF (show k<1000000000 by omega),aE,s2,
     fG (show (c.due.take k).length+(c.due.drop (k+1)).length<=1048576 by omega),uR]
    cases hem:(c.due.drop (k+1)).isEmpty with
    |true=>
     rw [List.isEmpty_iff] at hem;rw [hem,List.append_nil];rfl
    |false=>rfl
  · have rem:=GG ok.agd hw
    have rmem:=KO ok.agd hw;have hlen:(dT c.agenda w).heap.length=c.agenda.heap.length-1:=by
     have h1:=rem.hl;have h2:=ok.agd.hl;have h3:(dT c.agenda w).slots=eX c.agenda.slots (c.agenda.heap[w]!).2.2.2:=by unfold dT;split<;>rfl
     rw [h3] at h1;change _+(c.agenda.slots.free++[_]).length=c.agenda.slots.uses.length at h1;rw [List.length_append] at h1;simp only [List.length_cons,List.length_nil] at h1;omega
    have wlen:(dT c.agenda w).where_.length=200:=by
     have h1:=rem.wl;have h3:(dT c.agenda w).slots=eX c.agenda.slots (c.agenda.heap[w]!).2.2.2:=by unfold dT;split<;>rfl
     rw [h3] at h1;change _=c.agenda.slots.uses.length at h1;rw [h1,<- ok.agd.wl,ok.w200]
    refine ⟨ok.nowv,ok.now64,ok.fld,KT ok.crt hi,rem,wlen,?_,BN ok i hi,?_⟩
    · show (dT c.agenda w).heap.length=(c.due.eraseIdx k).length
      rw [hlen,dl,ok.hd]
    · refine k3.mono fun x hx e he hm=>(rmem e).2 ⟨hm,fun h=>?_⟩
      have:=(tP ok.crt_up hi hx).2
      rw [h,hev] at he;exact this he.symm
theorem HJ {c:aI} (ok:bA c) {i:Nat} (_hi:i<c.certs.list.length) {c':aI} (h:kS c (c.certs.list[i]!).1=some (c',(c.certs.list[i]!).2,0)):tK c (c.certs.list[i]!).1=some (c',0):=by
 unfold tK;rw [mI ok.fit,if_pos ok];simp only [aB,show ((0:Int) !=0)=false from rfl,cond_false,h]
end Go.Proofs.YtmlghnibpjlchaaGreat
namespace Go.Proofs.YtmlghnibpjlchaaGreat
open Go.Vm Classical
abbrev fN:aI:=⟨(0,0),⟨[]⟩,⟨0,[]⟩,⟨⟨[],[],[]⟩,[],[]⟩,[]⟩
theorem N9 {l:List Pt} (ok:eV l) {id:Int} (h:sN l id): ¬(gB l id).1<0:=by
 obtain ⟨h1,_⟩:=fU ok h
 have:=h1.1
 omega
theorem aGv {c:aI} (ok:bA c) {x:Int×Int} (hx:iL x) (hb:lM c.field.points x) (hn: ¬zS c.certs.list x):
 (hH c x=some (fN,0,18)/\kK c x=some (fN,0,18))\/
 ∃c':aI,hH c x=some (c',c.certs.next_,0)/\kK c x=some (c',c.certs.next_,0)/\bA c'/\c'.field=c.field/\c'.now=c.now/\c'.certs=rO c.certs x:=by
 have bd:=ok.bd;have n0:=ok.crt.n0;have n1:=ok.crt.n1;have fit:=ok.fit;have ad:=Q8 ok.crt hx;have rd:=N7 ok.crt hx;rw [if_neg hn] at ad rd;have hc:hG c=some 0:=by rw [mI fit,if_pos ok]
 have p1:=mH ok.fld x.1;have p2:=mH ok.fld x.2;have q1:=N9 ok.fld hb.1;have q2:=N9 ok.fld hb.2;have wh:=wY ok.fld hx ok.nowv ok.now64;rw [if_pos hb] at wh;have rw':=wZ ok.fld ok.now64 hb
 by_cases hf:KS c.certs
 · rw [if_pos hf] at ad rd
   left;constructor
   · unfold hH cV
     simp only [hc,aB,show ((0:Int) !=0)=false from rfl,cond_false,ad,show ((18:Int)==8)=false from rfl,p1,p2,aL q1,aL q2,show ((18:Int) !=0)=true from rfl,cond_true]
   · unfold kK
     simp only [rd,aB,show ((18:Int) !=0)=true from rfl,cond_true]
 rw [if_neg hf] at ad rd;have cok:=TN ok.crt hx hn hf;have known': ∀j,j<(rO c.certs x).list.length->lM c.field.points ((rO c.certs x).list[j]!).2:=by
  intro j hj;rw [CE] at hj;rw [uS]
  by_cases h:j<c.certs.list.length
  · rw [if_pos h];exact ok.known j h
  · rw [if_neg h,if_pos (by omega)];exact hb
 have fresh: ∀e∈c.agenda.heap,Ev.num e≠c.certs.next_:=by
  intro e he hne;obtain ⟨d,hd,h1⟩:=ok.nums e he;obtain ⟨y,hy,h2,_⟩:=ok.fol.due d hd;obtain ⟨j,hj,rfl⟩:=aY.1 hy
  have:=(ok.crt.nr j hj).2
  omega
 have sn:=ok.fol.snoc (x:=(c.certs.next_,x));cases hw:(bI c.field.points x c.now).2 with
 |false=>
  right;refine ⟨⟨c.now,c.field,rO c.certs x,c.agenda,c.due⟩,?_,?_,⟨ok.nowv,ok.now64,ok.fld,cok,ok.agd,ok.w200,ok.hd,known',sn.1 hw⟩,rfl,rfl,rfl⟩
  · unfold hH cV
    simp only [hc,aB,show ((0:Int) !=0)=false from rfl,cond_false,ad,show ((0:Int)==8)=false from rfl,p1,p2,aL q1,aL q2,jI ok,wh,hw]
  · unfold kK
    simp only [rd,aB,show ((0:Int) !=0)=false from rfl,cond_false,hJ ok,rw',hw,Bool.not_false,cond_true]
 |true=>
  obtain ⟨t1,t2⟩:=E4 (fU ok.fld hb.2).1 (fU ok.fld hb.1).1 ok.now64 ok.nowv hw
  by_cases op:CX c.agenda.slots
  · right
    have pu:=xW ok.agd op ok.agd.fit (t:=(bI c.field.points x c.now).1) (n:=c.certs.next_) t1 t2 n0 n1 fresh;have rp:=AH ok.agd op (t:=(bI c.field.points x c.now).1) (n:=c.certs.next_) t1 t2 n0 n1;have pok:=VX ok.agd op (t:=(bI c.field.points x c.now).1) (n:=c.certs.next_) t1 t2 n0 n1 fresh
    have pmem:=Q3 ok.agd op (t:=(bI c.field.points x c.now).1) (n:=c.certs.next_) t1;have plen:=FA ok.agd op (t:=(bI c.field.points x c.now).1) (n:=c.certs.next_) t1;have ap: ∀h:Int×Int,bT c.due [(c.certs.next_,h)]=some (c.due++[(c.certs.next_,h)]):=fun h=>fG (by simp;omega)
    have wlen:(kZ c.agenda (bI c.field.points x c.now).1 c.certs.next_).where_.length=200:=by
     have:=pok.wl
     change _=(c.agenda.slots.uses.set _ _).length at this;rw [List.length_set] at this;rw [this,<- ok.agd.wl,ok.w200]
    refine ⟨⟨c.now,c.field,rO c.certs x,kZ c.agenda (bI c.field.points x c.now).1 c.certs.next_,c.due++[(c.certs.next_,kY c.agenda.slots)]⟩,?_,?_,⟨ok.nowv,ok.now64,ok.fld,cok,pok,wlen,?_,known',?_⟩,rfl,rfl,rfl⟩
    · unfold hH cV
      simp only [hc,aB,show ((0:Int) !=0)=false from rfl,cond_false,ad,show ((0:Int)==8)=false from rfl,p1,p2,aL q1,aL q2,jI ok,wh,hw,cond_true,pu,ap]
    · unfold kK
      simp only [rd,aB,show ((0:Int) !=0)=false from rfl,cond_false,hJ ok,rw',hw,Bool.not_true,rL ok.agd.so,aQ op,rp,ap]
    · show (kZ c.agenda (bI c.field.points x c.now).1 c.certs.next_).heap.length=(c.due++[_]).length
      rw [plen,List.length_append,ok.hd];rfl
    · have fm:aX c.field.points c.now (kZ c.agenda (bI c.field.points x c.now).1 c.certs.next_).heap c.certs.list c.due:=ok.fol.mono fun y hy e he hm=>(pmem e).2 (.inr hm)
      exact (fm.snoc (x:=(c.certs.next_,x))).2 _ hw rfl ((pmem _).2 (.inl rfl))
  · left
    have pu:=xX ok.agd op ok.agd.fit (t:=(bI c.field.points x c.now).1) (n:=c.certs.next_) t1 t2 n0 n1 fresh;constructor
    · unfold hH cV
      simp only [hc,aB,show ((0:Int) !=0)=false from rfl,cond_false,ad,show ((0:Int)==8)=false from rfl,p1,p2,aL q1,aL q2,jI ok,wh,hw,cond_true,pu,show ((18:Int) !=0)=true from rfl]
    · unfold kK
      simp only [rd,aB,show ((0:Int) !=0)=false from rfl,cond_false,hJ ok,rw',hw,Bool.not_true,rL ok.agd.so,aL op,Bool.not_false,cond_true]
end Go.Proofs.YtmlghnibpjlchaaGreat
namespace Go.Proofs.YtmlghnibpjlchaaGreat
open Go.Vm Classical
theorem Up.inj {cs:List sV} (h:Up cs) {x y:sV} (hx:x∈cs) (hy:y∈cs) (he:x.1=y.1):x=y:=by
 obtain ⟨i,hi,rfl⟩:=aY.1 hx;obtain ⟨j,hj,rfl⟩:=aY.1 hy;have ub:=tO.1 h;rcases Nat.lt_trichotomy i j with h1|h1|h1
 · have:=ub i j h1 hj;omega
 · rw [h1]
 · have:=ub j i h1 hi;omega
structure KW (c:aI) (f:List Pt) (i k:Nat) (a:aG) (ds:List sV):Prop where
 ok:dZ a
 w2:a.where_.length=200
 new:aX f c.now a.heap (c.certs.list.take i) ds
 old:aX c.field.points c.now a.heap (c.certs.list.drop i) (c.due.drop k)
 kl:k<=c.due.length
 cnt:a.heap.length=ds.length+(c.due.length-k)
theorem aL3 {a:aG} (ok:dZ a) {w:Nat} (hw:w<a.heap.length):(dT a w).heap.length=a.heap.length-1/\(dT a w).where_.length=a.where_.length:=by
 have rem:=GG ok hw;have h3:(dT a w).slots=eX a.slots (a.heap[w]!).2.2.2:=by unfold dT;split<;>rfl
 have h1:=rem.hl;have h2:=ok.hl;have h4:=rem.wl;rw [h3] at h1 h4;change _+(a.slots.free++[_]).length=a.slots.uses.length at h1;change _=a.slots.uses.length at h4;rw [List.length_append] at h1;simp only [List.length_cons,List.length_nil] at h1;exact ⟨by omega,by rw [h4,ok.wl]⟩
theorem aGw {a:aG} {t:Int×Int} {n:Int} (ok:dZ a) (pok:dZ (kZ a t n)):(kZ a t n).where_.length=a.where_.length:=by
 have:=pok.wl
 change _=(a.slots.uses.set _ _).length at this;rw [List.length_set] at this;rw [this,ok.wl]
section
variable {c : aI} (ok : bA c) {f : List Pt} (fok : eV f) (kn : ∀ i, i < c.certs.list.length -> lM f (c.certs.list[i]!).2)
include ok
theorem FD {i:Nat} {x:sV} (hx:x∈c.certs.list.take i) (hi:i<c.certs.list.length):x.1≠(c.certs.list[i]!).1:=by
 obtain ⟨j,h1,h2,rfl⟩:=cB.1 hx
 have:=ok.crt.up j i h1 hi
 omega
theorem FE {i:Nat} {x:sV} (hx:x∈c.certs.list.drop (i+1)) (hi:i<c.certs.list.length):x.1≠(c.certs.list[i]!).1:=by
 obtain ⟨j,h1,rfl⟩:=aY.1 hx;rw [List.length_drop] at h1;rw [tT]
 have:=ok.crt.up i (i+1+j) (by omega) (by omega)
 omega
theorem XL {i k:Nat} {a:aG} {ds:List sV} (inv:KW c f i k a ds) (hi:i<c.certs.list.length) (was:(bI c.field.points (c.certs.list[i]!).2 c.now).2=false): ∀e∈a.heap,Ev.num e≠(c.certs.list[i]!).1:=by
 have u1:Up (c.certs.list.take i):=ok.crt_up.sublist (List.take_sublist _ _);have u2:Up (c.certs.list.drop i):=ok.crt_up.sublist (List.drop_sublist _ _);have d1:=inv.new.up u1;have d2:=inv.old.up u2;have cross: ∀x∈ds,∀y∈c.due.drop k,x.1<y.1:=by
  intro x hx y hy;obtain ⟨p,hp,h1,_⟩:=inv.new.due x hx;obtain ⟨q,hq,h2,_⟩:=inv.old.due y hy;obtain ⟨m,m1,m2,rfl⟩:=cB.1 hp;obtain ⟨n,n1,rfl⟩:=aY.1 hq;rw [List.length_drop] at n1;rw [tT] at h2
  have:=ok.crt.up m (i+n) (by omega) (by omega)
  omega
 have nd:((ds++c.due.drop k).map fun x=>x.1).Nodup:=RD (by
  show List.Pairwise _ _;rw [List.pairwise_append];exact ⟨d1,d2,cross⟩)
 have only:=G8 (H:=a.heap) nd (by rw [List.length_map,List.length_append,List.length_drop,inv.cnt];exact Nat.le_refl _) (fun n hn=>by
  obtain ⟨x,hx,rfl⟩:=List.mem_map.1 hn;rcases List.mem_append.1 hx with hx|hx
  · obtain ⟨p,hp,h1,h2,h3⟩:=inv.new.due x hx
    exact ⟨_,h3,h1.symm⟩
  · obtain ⟨p,hp,h1,h2,h3⟩:=inv.old.due x hx
    exact ⟨_,h3,h1.symm⟩)
 intro e he hne;obtain ⟨x,hx,h1⟩:=List.mem_map.1 (only e he);rcases List.mem_append.1 hx with hx|hx
 · obtain ⟨p,hp,h2,_⟩:=inv.new.due x hx
   exact FD ok hp hi (by rw [<- h2,h1,hne])
 · obtain ⟨p,hp,h2,h3,_⟩:=inv.old.due x hx
   have hp':p∈c.certs.list:=List.mem_of_mem_drop hp
   have:=ok.crt_up.inj hp' (bM hi) (by rw [<- h2,h1,hne])
   rw [this,was] at h3;cases h3
def XM (c:aI) (f:List Pt) (i:Nat) (a:aG) (ds:List sV):=
 (c.certs.list,(c.certs.list.length:Int),(i:Int),c.now.1,c.now.2,c.field.points,c.certs.next_,c.certs.list,c.agenda.slots.uses,c.agenda.slots.used,c.agenda.slots.free,c.agenda.heap,c.agenda.where_,c.due,f,(0:Int),(0:Int),(0:Int),c.now.1,c.now.2,c.certs.next_,c.certs.list,a.slots.uses,a.slots.used,a.slots.free,a.heap,a.where_,f,ds)
def XN (c:aI) (f:List Pt) (i:Nat) (a:aG) (ds:List sV):=
 ((i:Int),c.now.1,c.now.2,c.field.points,c.certs.next_,c.certs.list,c.agenda.slots.uses,c.agenda.slots.used,c.agenda.slots.free,c.agenda.heap,c.agenda.where_,c.due,f,(0:Int),(0:Int),(0:Int),c.now.1,c.now.2,f,c.certs.next_,c.certs.list,a.slots.uses,a.slots.used,a.slots.free,a.heap,a.where_,ds)
include fok kn
theorem aAs {i k:Nat} {a:aG} {ds:List sV} (inv:KW c f i k a ds) (hi:i<c.certs.list.length) (hds:ds.length<=i):
 (cW (XM c f i a ds)=some (.done (.done (fN,18)))/\cD (XN c f i a ds)=some (.done (fN,18)))\/
 ∃k' a' ds',cW (XM c f i a ds)=some (.next (XM c f (i+1) a' ds'))/\cD (XN c f i a ds)=some (.next (XN c f (i+1) a' ds'))/\KW c f (i+1) k' a' ds'/\ds'.length<=i+1:=by
 have bd:=ok.bd;have e1:decide ((i:Int)<(c.certs.list.length:Int))=true:=aQ (by omega)
 have sc:=bF (show i<1000000000 by omega)
 have cg:=aD c.certs.list i hi;have hb:=kn i hi;have wn:=wY fok (x:=(c.certs.list[i]!).2) (t:=(c.now.1,c.now.2)) (ok.crt.cv i hi) ok.nowv ok.now64;rw [if_pos hb] at wn;have wr:=wZ fok (x:=(c.certs.list[i]!).2) (t:=(c.now.1,c.now.2)) ok.now64 hb;have pd:=MK ok.due_up (by omega) (c.certs.list[i]!).1
 have da:=RE c (c.certs.list[i]!).1 (by omega)
 have dr:=tU hi;have tk:=kE hi;have old:=inv.old;rw [dr] at old;have aeta:aG.mk (aS.mk a.slots.uses a.slots.used a.slots.free) a.heap a.where_=a:=rfl
 have ceta:(aI.mk (c.now.1,c.now.2) (Field.mk c.field.points) (aW.mk c.certs.next_ c.certs.list) (aG.mk (aS.mk c.agenda.slots.uses c.agenda.slots.used c.agenda.slots.free) c.agenda.heap c.agenda.where_) c.due)=c:=rfl;have other: ∀x∈c.certs.list.take i,x.1≠(c.certs.list[i]!).1:=fun x hx=>FD ok hx hi
 have other': ∀x∈c.certs.list.drop (i+1),x.1≠(c.certs.list[i]!).1:=fun x hx=>FE ok hx hi
 cases hwas:(bI c.field.points (c.certs.list[i]!).2 c.now).2 with
 |true=>
  obtain ⟨d,ds',hd1,hd2,hd3,hd4⟩:=(aX.cons_true hwas).1 old;have hk:k<c.due.length:=by
   refine Classical.byContradiction fun h=>?_
   rw [List.drop_eq_nil_of_le (by omega)] at hd1
   cases hd1
  have dk:=tU hk;rw [dk] at hd1;injection hd1 with hd5 hd6;subst hd5 hd6;obtain ⟨w,hw,hev⟩:=aY.1 hd3;have hh:(a.heap[w]!).2.2.2=(c.due[k]!).2:=by rw [hev]
  have hnum:Ev.num a.heap[w]! =(c.certs.list[i]!).1:=by rw [hev]
  have before: ∀j,j<k->(c.due[j]!).1≠(c.certs.list[i]!).1:=fun j hj he=>by
   have:=tO.1 ok.due_up j k hj hk
   omega
  have pl:=pd.1 k hk hd2;have dq:=da.1 k hk hd2 before;have gk:=aD c.due k hk;have k0:decide ((0:Int)<=(k:Int))=true:=aQ (by omega)
  have ap:bT ds [c.due[k]!]=some (ds++[c.due[k]!]):=fG (by simp;omega)
  cases his:(bI f (c.certs.list[i]!).2 c.now).2 with
  |true=>
   right;have tt:bO (bI f (c.certs.list[i]!).2 c.now).1/\nT (bI f (c.certs.list[i]!).2 c.now).1:=E4 (fU fok hb.2).1 (fU fok hb.1).1 ok.now64 ok.nowv his;obtain ⟨t1,t2⟩:=tt;have re:=HI inv.ok inv.ok.fit (t:=(bI f (c.certs.list[i]!).2 c.now).1) hw hh t1 t2;have rr:=GF inv.ok (t:=(bI f (c.certs.list[i]!).2 c.now).1) hw hh t1 t2
   have rok:=aAl inv.ok hw t1 t2;have rmem:=XK inv.ok hw t1;have rlen:=GE inv.ok hw t1;have stay: ∀(cs:List sV),(∀x∈cs,x.1≠(c.certs.list[i]!).1)-> ∀x∈cs,∀e:Ev,e.num=x.1->e∈a.heap->e∈(jR a w (bI f (c.certs.list[i]!).2 c.now).1).heap:=by
    intro cs hcs x hx e he hm;refine (rmem e).2 (.inr ⟨hm,fun h=>hcs x hx ?_⟩)
    rw [<- he,h,hnum]
   refine ⟨k+1,jR a w (bI f (c.certs.list[i]!).2 c.now).1,ds++[c.due[k]!],?_,?_,⟨rok,by rw [rlen.2];exact inv.w2,?_,?_,by omega,?_⟩,by simp;omega⟩
   · unfold cW XM
     simp only [e1,cond_true,cg,aB,wn,pl,his,gk,aeta,re,ap,show ((0:Int) !=0)=false from rfl,cond_false,sc]
   · unfold cD XN
     simp only [aE,e1,cond_true,cg,aB,ceta,dq,wr,his,k0,gk,aeta,rr,ap,Bool.not_true,cond_false,sc]
   · rw [tk]
     exact ((inv.new.mono (stay _ other)).snoc (x:=c.certs.list[i]!)).2 _ his hd2 ((rmem _).2 (.inl (by
      show _=((bI f (c.certs.list[i]!).2 c.now).1.1,(bI f (c.certs.list[i]!).2 c.now).1.2,(a.heap[w]!).2.2);rw [hev])))
   · exact hd4.mono (stay _ other')
   · rw [rlen.1,inv.cnt,List.length_append]
     simp only [List.length_cons,List.length_nil];omega
  |false=>
   right;have rv:=xZ inv.ok hw inv.ok.fit hh;have rr:=yA inv.ok hw hh;have rok:=GG inv.ok hw;have rmem:=KO inv.ok hw;have rlen:=aL3 inv.ok hw;have stay: ∀(cs:List sV),(∀x∈cs,x.1≠(c.certs.list[i]!).1)-> ∀x∈cs,∀e:Ev,e.num=x.1->e∈a.heap->e∈(dT a w).heap:=by
    intro cs hcs x hx e he hm;refine (rmem e).2 ⟨hm,fun h=>hcs x hx ?_⟩
    rw [<- he,h,hnum]
   refine ⟨k+1,dT a w,ds,?_,?_,⟨rok,by rw [rlen.2];exact inv.w2,?_,hd4.mono (stay _ other'),by omega,?_⟩,by omega⟩
   · unfold cW XM
     simp only [e1,cond_true,cg,aB,wn,pl,his,gk,aeta,rv,show ((0:Int) !=0)=false from rfl,cond_false,sc]
   · unfold cD XN
     simp only [aE,e1,cond_true,cg,aB,ceta,dq,wr,his,k0,gk,aeta,rr,Bool.not_false,cond_false,sc]
   · rw [tk]
     exact ((inv.new.mono (stay _ other)).snoc (x:=c.certs.list[i]!)).1 his
   · have:=inv.cnt
     rw [rlen.1];omega
 |false=>
  have fol:=(aX.cons_false hwas).1 old;have no: ∀j,j<c.due.length->(c.due[j]!).1≠(c.certs.list[i]!).1:=by
   intro j hj he;obtain ⟨x,hx,h1,h2,_⟩:=ok.fol.due _ (bM hj)
   have:=ok.crt_up.inj hx (bM hi) (by rw [<- h1,he])
   rw [this,hwas] at h2;cases h2
  obtain ⟨m,pl⟩:=pd.2 no;have dq:=da.2 no;have k0:decide ((0:Int)<= -1)=false:=aL (by omega)
  cases his:(bI f (c.certs.list[i]!).2 c.now).2 with
  |true=>
   have tt:bO (bI f (c.certs.list[i]!).2 c.now).1/\nT (bI f (c.certs.list[i]!).2 c.now).1:=E4 (fU fok hb.2).1 (fU fok hb.1).1 ok.now64 ok.nowv his;obtain ⟨t1,t2⟩:=tt;have n0:=(ok.crt.nr i hi).1;have n1:(c.certs.list[i]!).1<=1000000:=by have:=(ok.crt.nr i hi).2;have:=ok.crt.n1;omega
   have fresh:=XL ok inv hi hwas
   by_cases op:CX a.slots
   · right
     have pu:=xW inv.ok op inv.ok.fit (t:=(bI f (c.certs.list[i]!).2 c.now).1) (n:=(c.certs.list[i]!).1) t1 t2 n0 n1 fresh;have rp:=AH inv.ok op (t:=(bI f (c.certs.list[i]!).2 c.now).1) (n:=(c.certs.list[i]!).1) t1 t2 n0 n1;have pok:=VX inv.ok op (t:=(bI f (c.certs.list[i]!).2 c.now).1) (n:=(c.certs.list[i]!).1) t1 t2 n0 n1 fresh
     have pmem:=Q3 inv.ok op (t:=(bI f (c.certs.list[i]!).2 c.now).1) (n:=(c.certs.list[i]!).1) t1;have plen:=FA inv.ok op (t:=(bI f (c.certs.list[i]!).2 c.now).1) (n:=(c.certs.list[i]!).1) t1;have ap: ∀h:Int×Int,bT ds [((c.certs.list[i]!).1,h)]=some (ds++[((c.certs.list[i]!).1,h)]):=fun h=>fG (by simp;omega)
     have opn:=rL inv.ok.so;rw [aQ op] at opn;refine ⟨k,kZ a (bI f (c.certs.list[i]!).2 c.now).1 (c.certs.list[i]!).1,ds++[((c.certs.list[i]!).1,kY a.slots)],?_,?_,⟨pok,by rw [aGw inv.ok pok];exact inv.w2,?_,?_,inv.kl,?_⟩,by simp;omega⟩
     · unfold cW XM
       simp only [e1,cond_true,cg,aB,wn,pl,his,aeta,pu,ap,show ((0:Int) !=0)=false from rfl,cond_false,sc]
     · unfold cD XN
       simp only [aE,e1,cond_true,cg,aB,ceta,dq,wr,his,k0,aeta,rp,ap,Bool.not_true,cond_false,sc,opn]
     · rw [tk]
       exact ((inv.new.mono fun x hx e he hm=>(pmem e).2 (.inr hm)).snoc (x:=c.certs.list[i]!)).2 _ his rfl ((pmem _).2 (.inl rfl))
     · exact fol.mono fun x hx e he hm=>(pmem e).2 (.inr hm)
     · have:=inv.cnt
       rw [plen,List.length_append];simp only [List.length_cons,List.length_nil];omega
   · left
     have pu:=xX inv.ok op inv.ok.fit (t:=(bI f (c.certs.list[i]!).2 c.now).1) (n:=(c.certs.list[i]!).1) t1 t2 n0 n1 fresh;have ap: ∀h:Int×Int,bT ds [((c.certs.list[i]!).1,h)]=some (ds++[((c.certs.list[i]!).1,h)]):=fun h=>fG (by simp;omega)
     have opn:=rL inv.ok.so;rw [aL op] at opn;constructor
     · unfold cW XM
       simp only [e1,cond_true,cg,aB,wn,pl,his,aeta,pu,ap,show ((18:Int) !=0)=true from rfl,cond_false]
     · unfold cD XN
       simp only [aE,e1,cond_true,cg,aB,ceta,dq,wr,his,k0,aeta,Bool.not_true,Bool.not_false,cond_false,opn]
  |false=>
   right;refine ⟨k,a,ds,?_,?_,⟨inv.ok,inv.w2,?_,fol,inv.kl,inv.cnt⟩,by omega⟩
   · unfold cW XM
     simp only [e1,cond_true,cg,aB,wn,pl,his,show ((0:Int) !=0)=false from rfl,cond_false,sc]
   · unfold cD XN
     simp only [aE,e1,cond_true,cg,aB,ceta,dq,wr,his,k0,Bool.not_false,cond_false,sc]
   · rw [tk]
     exact (inv.new.snoc (x:=c.certs.list[i]!)).1 his
theorem aNQ:
 (oD c ⟨f⟩=some (fN,18)/\lI c ⟨f⟩=some (fN,18))\/
 ∃c':aI,oD c ⟨f⟩=some (c',0)/\lI c ⟨f⟩=some (c',0)/\bA c'/\c'.field.points=f/\c'.now=c.now/\c'.certs=c.certs:=by
 have bd:=ok.bd;have f64:=fok.1;have run: ∀(d i k:Nat) (a:aG) (ds:List sV),c.certs.list.length-i<=d->i<=c.certs.list.length->KW c f i k a ds->ds.length<=i->
  (aJ cW (XM c f i a ds)=some (.done (fN,18))/\aJ cD (XN c f i a ds)=some (fN,18))\/
  ∃c':aI,aJ cW (XM c f i a ds)=some (.done (c',0))/\aJ cD (XN c f i a ds)=some (c',0)/\bA c'/\c'.field.points=f/\c'.now=c.now/\c'.certs=c.certs:=by
  have fin: ∀(k:Nat) (a:aG) (ds:List sV),KW c f c.certs.list.length k a ds-> ∃c':aI,aJ cW (XM c f c.certs.list.length a ds)=some (.done (c',0))/\aJ cD (XN c f c.certs.list.length a ds)=some (c',0)/\bA c'/\c'.field.points=f/\c'.now=c.now/\c'.certs=c.certs:=by
   intro k a ds inv;have e1:decide ((c.certs.list.length:Int)<(c.certs.list.length:Int))=false:=aL (by omega)
   have hk:c.due.length-k=0:=by
    have:=inv.old
    rw [List.drop_length] at this
    have:c.due.drop k=[]:=this
    rw [List.drop_eq_nil_iff] at this;omega
   have new:=inv.new;rw [List.take_length] at new;refine ⟨⟨c.now,⟨f⟩,c.certs,a,ds⟩,aM ?_,aM ?_,⟨ok.nowv,ok.now64,fok,ok.crt,inv.ok,inv.w2,?_,kn,new⟩,rfl,rfl,rfl⟩
   · unfold cW XM
     simp only [e1,cond_false]
   · unfold cD XN
     simp only [aE,e1,cond_false]
   · have:=inv.cnt
     show a.heap.length=ds.length;omega
  intro d
  induction d with
  |zero=>
   intro i k a ds hd hi inv hds
   have:i=c.certs.list.length:=by omega
   subst this;exact .inr (fin k a ds inv)
  |succ d ih=>
   intro i k a ds hd hi inv hds
   by_cases he:i=c.certs.list.length
   · subst he;exact .inr (fin k a ds inv)
   rcases aAs ok fok kn inv (by omega) hds with ⟨h1,h2⟩|⟨k',a',ds',h1,h2,h3,h4⟩
   · exact .inl ⟨aM h1,aM h2⟩
   · rw [bB h1,bB h2]
     exact ih (i+1) k' a' ds' (by omega) (by omega) h3 h4
 have start:=run c.certs.list.length 0 0 c.agenda [] (by omega) (by omega) ⟨ok.agd,ok.w200,rfl,by rw [List.drop_zero,List.drop_zero];exact ok.fol,by omega,by have:=ok.hd;simp;omega⟩ (by simp)
 have hc:hG c=some 0:=by rw [mI ok.fit,if_pos ok]
 have hf:iT ⟨f⟩=some 0:=by rw [pN];exact congrArg some (oJ.2 fok)
 have tw:=jI ok;have tw':jC (aI.mk (c.now.1,c.now.2) (Field.mk c.field.points) (aW.mk c.certs.next_ c.certs.list) (aG.mk (aS.mk c.agenda.slots.uses c.agenda.slots.used c.agenda.slots.free) c.agenda.heap c.agenda.where_) c.due)=some c:=tw
 have first:aJ jW (c.certs.list,(c.certs.list.length:Int),0,c.now.1,c.now.2,c.field.points,c.certs.next_,c.certs.list,c.agenda.slots.uses,c.agenda.slots.used,c.agenda.slots.free,c.agenda.heap,c.agenda.where_,c.due,f,0,0,0)=
  aJ jW (c.certs.list,(c.certs.list.length:Int),(c.certs.list.length:Int),c.now.1,c.now.2,c.field.points,c.certs.next_,c.certs.list,c.agenda.slots.uses,c.agenda.slots.used,c.agenda.slots.free,c.agenda.heap,c.agenda.where_,c.due,f,0,0,0):=by
  refine eE (body:=jW) (fun i=>(c.certs.list,(c.certs.list.length:Int),(i:Int),c.now.1,c.now.2,c.field.points,c.certs.next_,c.certs.list,c.agenda.slots.uses,c.agenda.slots.used,c.agenda.slots.free,c.agenda.heap,c.agenda.where_,c.due,f,0,0,0)) c.certs.list.length (fun i hi=>?_)
  have e1:decide ((i:Int)<(c.certs.list.length:Int))=true:=aQ (by omega)
  unfold jW;simp only [e1,cond_true,aD c.certs.list i hi,aB,mH fok,aL (N9 fok (kn i hi).1),aL (N9 fok (kn i hi).2),cond_false,bF (show i<1000000000 by omega)]
 have second: ∀r,aJ cW (XM c f 0 c.agenda [])=some (.done r)->oD c ⟨f⟩=some r:=by
  intro r hr;unfold oD;simp only [hc,aB,show ((0:Int) !=0)=false from rfl,cond_false,hf,aE];rw [first]
  refine aM ?_;unfold jW;have e1:decide ((c.certs.list.length:Int)<(c.certs.list.length:Int))=false:=aL (by omega)
  simp only [aE,e1,cond_false,tw',aB,bC (show f.length<=1048576 by omega)]
  exact hr
 have third: ∀r,aJ cD (XN c f 0 c.agenda [])=some r->lI c ⟨f⟩=some r:=by
  intro r hr;unfold lI nP;simp only [hJ ok,aB,bC (show f.length<=1048576 by omega)]
  exact hr
 rcases start with ⟨h1,h2⟩|⟨c',h1,h2,h3⟩
 · exact .inl ⟨second _ h1,third _ h2⟩
 · exact .inr ⟨c',second _ h1,third _ h2,h3⟩
end
end Go.Proofs.YtmlghnibpjlchaaGreat
namespace Go.Proofs.YtmlghnibpjlchaaGreat
open Go.Vm Classical
theorem xA (l:List (Int×Int)) (x:Int×Int) (hl:l.length<=1000000):gD l x=some (decide (x∈l)):=by
 unfold gD oW;have key:=iZ (body:=iX) (fun i=>(l,(l.length:Int),(i:Int),x)) l.length (fun i=>l[i]! =x) (fun i=>(i:Int)) (e:= -1) (fun i hi=>by
  have e1:decide ((i:Int)<(l.length:Int))=true:=aQ (by omega)
  unfold iX;simp only [e1,cond_true,aD l i hi,aB,bF (show i<1000000000 by omega)]
  generalize l[i]! =y;constructor
  · intro h;rw [fJ (congrArg Prod.fst h.symm),fJ (congrArg Prod.snd h.symm)];rfl
  · intro h
    by_cases h1:x.1=y.1
    · rw [fJ h1,fO (fun h2=>h (Prod.ext h1.symm h2.symm))];rfl
    · rw [fO h1];rfl) (by
  unfold iX
  have:decide ((l.length:Int)<(l.length:Int))=false:=aL (by omega)
  simp only [this,cond_false])
 rw [aE]
 by_cases hx:x∈l
 · obtain ⟨i,hi,he⟩:=aY.1 hx
   obtain ⟨k,h1,h2,h3⟩:=J0 (c:=fun i=>l[i]! =x) ⟨i,hi,he⟩
   have:=key.1 k h1 h2 h3
   rw [show ((0:Nat):Int)=0 from rfl] at this;rw [this,aQ hx];simp only [aB,aQ (show (0:Int)<=(k:Int) by omega)]
 · have:=key.2 fun i hi he=>hx (aY.2 ⟨i,hi,he⟩)
   rw [show ((0:Nat):Int)=0 from rfl] at this;rw [this,aL hx];rfl
theorem G9 (l:List (Int×Int)) (x:Int×Int) (hl:l.length<=1000000):E2 l x=some (decide (x∈l)):=by
 unfold E2;have key:=cZ (body:=wB) (fun i=>(l,(i:Int),x)) l.length (fun i=>l[i]! =x) (r:=true) (e:=false) (fun i hi=>by
  have e1:decide ((i:Int)<(l.length:Int))=true:=aQ (by omega)
  unfold wB;simp only [aE,e1,cond_true,aD l i hi,aB,bF (show i<1000000000 by omega)]
  generalize l[i]! =y;constructor
  · intro h;rw [fJ (congrArg Prod.fst h),fJ (congrArg Prod.snd h)];rfl
  · intro h
    by_cases h1:y.1=x.1
    · rw [fJ h1,fO (fun h2=>h (Prod.ext h1 h2))];rfl
    · rw [fO h1];rfl) (by
  unfold wB
  have:decide ((l.length:Int)<(l.length:Int))=false:=aL (by omega)
  simp only [aE,this,cond_false])
 by_cases hx:x∈l
 · rw [aQ hx];exact key.1 (aY.1 hx)
 · rw [aL hx];exact key.2 fun i hi he=>hx (aY.2 ⟨i,hi,he⟩)
theorem aAt (x y:sV):((x.1==y.1)&&((x.2.1==y.2.1)&&(x.2.2==y.2.2)))=decide (x=y):=by
 rw [Bool.eq_iff_iff,decide_eq_true_iff];simp only [Bool.and_eq_true,beq_iff_eq];constructor
 · rintro ⟨h1,h2,h3⟩;exact Prod.ext h1 (Prod.ext h2 h3)
 · rintro rfl;exact ⟨rfl,rfl,rfl⟩
theorem HA (a b:List sV) (hl:a.length<=1000000):uM ⟨a⟩ ⟨b⟩=some (decide (a=b)):=by
 unfold uM;simp only [aE]
 by_cases h:a.length=b.length
 case neg=>rw [eM (by omega),aL (fun k=>h (by rw [k]))];rfl
 rw [bZ (by omega)]
 simp only [cond_false];have key:=cZ (body:=rE) (fun i=>((i:Int),a,b)) a.length (fun i=> ¬a[i]! =b[i]!) (r:=false) (e:=true) (fun i hi=>by
  have e1:decide ((i:Int)<(a.length:Int))=true:=aQ (by omega)
  unfold rE;simp only [aE,e1,cond_true,aD a i hi,aD b i (by omega),aB,bF (show i<1000000000 by omega),aAt]
  constructor
  · intro h;rw [aL h];rfl
  · intro h;rw [aQ (Classical.not_not.1 h)];rfl) (by
  unfold rE
  have:decide ((a.length:Int)<(a.length:Int))=false:=aL (by omega)
  simp only [aE,this,cond_false])
 by_cases he:a=b
 · rw [aQ he]
   exact key.2 fun i hi=>Classical.not_not.2 (by rw [he])
 · rw [aL he]
   refine key.1 (Classical.byContradiction fun hx=>he (J1 h fun i hi=>?_))
   exact Classical.byContradiction fun hn=>hx ⟨i,hi,hn⟩
theorem OA (a b:List sV) (hl:a.length<=1000000):kT a b=some (decide (a=b)):=by
 unfold kT;simp only [aE]
 by_cases h:a.length=b.length
 case neg=>rw [eM (by omega),aL (fun k=>h (by rw [k]))];rfl
 rw [bZ (by omega)]
 simp only [cond_false];have key:=cZ (body:=iI) (fun i=>(a,b,(a.length:Int),(i:Int))) a.length (fun i=> ¬a[i]! =b[i]!) (r:=false) (e:=true) (fun i hi=>by
  have e1:decide ((i:Int)<(a.length:Int))=true:=aQ (by omega)
  unfold iI;simp only [e1,cond_true,aD a i hi,aD b i (by omega),aB,bF (show i<1000000000 by omega),aAt]
  constructor
  · intro h;rw [aL h];rfl
  · intro h;rw [aQ (Classical.not_not.1 h)];rfl) (by
  unfold iI
  have:decide ((a.length:Int)<(a.length:Int))=false:=aL (by omega)
  simp only [this,cond_false])
 by_cases he:a=b
 · rw [aQ he]
   exact key.2 fun i hi=>Classical.not_not.2 (by rw [he])
 · rw [aL he]
   refine key.1 (Classical.byContradiction fun hx=>he (J1 h fun i hi=>?_))
   exact Classical.byContradiction fun hn=>hx ⟨i,hi,hn⟩
theorem XO {cs:List sV} {m:Nat} {x:sV} (hx:x∈cs) (hne:x.1≠(cs[m]!).1):x∈cs.eraseIdx m:=by
 obtain ⟨j,hj,rfl⟩:=aY.1 hx;have hjm:j≠m:=fun h=>hne (by rw [h])
 rw [uR,List.mem_append]
 by_cases h:j<m
 · exact .inl (cB.2 ⟨j,h,hj,rfl⟩)
 · right
   rw [aY];refine ⟨j- (m+1),by rw [List.length_drop];omega,?_⟩
   rw [tT]
   congr 1;omega
def kP (c0:aI) (f:List Pt) (es:List (Int×Int)) (i:Nat) (c:aI):=
 (es,c0.certs.list,(c0.certs.list.length:Int),(i:Int),c.now.1,c.now.2,c.field.points,c.certs.next_,c.certs.list,c.agenda.slots.uses,c.agenda.slots.used,c.agenda.slots.free,c.agenda.heap,c.agenda.where_,c.due,f,(0:Int),(0:Int),(0:Int))
def kR (c0:aI) (f:List Pt) (es:List (Int×Int)) (i:Nat) (c:aI):=
 (es,(i:Int),c0.now.1,c0.now.2,c0.field.points,c0.certs.next_,c0.certs.list,c0.agenda.slots.uses,c0.agenda.slots.used,c0.agenda.slots.free,c0.agenda.heap,c0.agenda.where_,c0.due,f,(0:Int),(0:Int),(0:Int),c.now.1,c.now.2,c.field.points,c.certs.next_,c.certs.list,c.agenda.slots.uses,c.agenda.slots.used,c.agenda.slots.free,c.agenda.heap,c.agenda.where_,c.due)
def eP (es:List (Int×Int)) (i:Nat) (c:aI):=
 (es,(es.length:Int),(i:Int),c.now.1,c.now.2,c.field.points,c.certs.next_,c.certs.list,c.agenda.slots.uses,c.agenda.slots.used,c.agenda.slots.free,c.agenda.heap,c.agenda.where_,c.due,(0:Int),(0:Int),(0:Int))
def eR (es:List (Int×Int)) (i:Nat) (c:aI):=
 (es,(i:Int),(0:Int),(0:Int),(0:Int),c.now.1,c.now.2,c.field.points,c.certs.next_,c.certs.list,c.agenda.slots.uses,c.agenda.slots.used,c.agenda.slots.free,c.agenda.heap,c.agenda.where_,c.due)
def lQ (c:aI):Int:=c.certs.next_- (c.certs.list.length:Int)
structure aAu (c:aI) (f:List Pt) (r:aI):Prop where
 ok:bA r
 fld:r.field.points=f
 now:r.now=c.now
 room:lQ c<=lQ r
structure HX (f:List Pt) (es:List (Int×Int)):Prop where
 len:es.length<=1000000
 cv: ∀x∈es,iL x
 kn: ∀x∈es,lM f x
theorem aAv {c0 : aI} (ok0 : bA c0) {f : List Pt} {es : List (Int × Int)} (eok : HX f es) :
    ∀ (d i : Nat) (c : aI), c0.certs.list.length - i <= d -> i <= c0.certs.list.length -> bA c -> (∀ x ∈ c0.certs.list.drop i, x ∈ c.certs.list) -> (∀ x ∈ c.certs.list, x ∈ c0.certs.list.drop i \/ x.2 ∈ es) ->
      ∃ c' : aI, aJ dR (kP c0 f es i c) = aJ dR (kP c0 f es c0.certs.list.length c') /\ aJ cY (kR c0 f es i c) = aJ cY (kR c0 f es c0.certs.list.length c') /\ bA c' /\ (∀ x ∈ c'.certs.list, x.2 ∈ es) /\ c'.field = c.field /\ c'.now = c.now /\ lQ c <= lQ c' := by
  have bd := ok0.bd
  intro d
  induction d with
  | zero =>
    intro i c hd hi ok h1 h2
    have : i = c0.certs.list.length := by omega
    subst this
    refine ⟨c, rfl, rfl, ok, fun x hx => ?_, rfl, rfl, Int.le_refl _⟩
    rcases h2 x hx with h | h
    · rw [List.drop_length] at h; cases h
    · exact h
  | succ d ih =>
    intro i c hd hi ok h1 h2
    by_cases he : i = c0.certs.list.length
    · subst he
      refine ⟨c, rfl, rfl, ok, fun x hx => ?_, rfl, rfl, Int.le_refl _⟩
      rcases h2 x hx with h | h
      · rw [List.drop_length] at h; cases h
      · exact h
    have hi' : i < c0.certs.list.length := by omega
    have e1 : decide ((i : Int) < (c0.certs.list.length : Int)) = true := aQ (by omega)
    have sc := bF (show i < 1000000000 by omega)
    have cg := aD c0.certs.list i hi'
    have dr := tU hi'
    have ceta : (aI.mk (c.now.1, c.now.2) (Field.mk c.field.points) (aW.mk c.certs.next_ c.certs.list) (aG.mk (aS.mk c.agenda.slots.uses c.agenda.slots.used c.agenda.slots.free) c.agenda.heap c.agenda.where_) c.due) = c := rfl
    by_cases hin : (c0.certs.list[i]!).2 ∈ es
    · have s1 : dR (kP c0 f es i c) = some (.next (kP c0 f es (i + 1) c)) := by
        unfold dR kP
        simp only [e1, cond_true, cg, aB, xA _ _ eok.len, aQ hin, Bool.not_true, cond_false, sc]
      have s2 : cY (kR c0 f es i c) = some (.next (kR c0 f es (i + 1) c)) := by
        unfold cY kR
        simp only [aE, e1, cond_true, cg, aB, G9 _ _ eok.len, aQ hin, Bool.not_true, cond_false, sc]
      rw [bB s1, bB s2]
      refine ih (i + 1) c (by omega) (by omega) ok (fun x hx => h1 x (by rw [dr]; exact List.mem_cons_of_mem _ hx)) (fun x hx => ?_)
      rcases h2 x hx with h | h
      · rw [dr] at h
        rcases List.mem_cons.1 h with rfl | h
        · exact .inr hin
        · exact .inl h
      · exact .inr h
    · have hm := h1 (c0.certs.list[i]!) (by rw [dr]; exact List.mem_cons_self)
      obtain ⟨m, hm1, hm2⟩ := aY.1 hm
      obtain ⟨c', r1, r2, r3, r4, r5, r6⟩ := aAr ok hm1
      have rt := HJ ok hm1 r1
      rw [hm2] at r2 rt
      have s1 : dR (kP c0 f es i c) = some (.next (kP c0 f es (i + 1) c')) := by
        unfold dR kP
        simp only [e1, cond_true, cg, aB, xA _ _ eok.len, aL hin, Bool.not_false, sc, ceta, rt]
      have s2 : cY (kR c0 f es i c) = some (.next (kR c0 f es (i + 1) c')) := by
        unfold cY kR
        simp only [aE, e1, cond_true, cg, aB, G9 _ _ eok.len, aL hin, Bool.not_false, sc, ceta, r2]
      rw [bB s1, bB s2]
      have cl : c'.certs.list = c.certs.list.eraseIdx m := by rw [r6]; rfl
      have hroom : lQ c <= lQ c' := by
        unfold lQ
        rw [r6]
        show _ <= c.certs.next_ - (((c.certs.list.eraseIdx m).length : Nat) : Int)
        rw [List.length_eraseIdx_of_lt hm1]
        omega
      have hs : (∀ x ∈ c0.certs.list.drop (i + 1), x ∈ c'.certs.list) /\ (∀ x ∈ c'.certs.list, x ∈ c0.certs.list.drop (i + 1) \/ x.2 ∈ es) := by
        refine ⟨fun x hx => ?_, fun x hx => ?_⟩
        · rw [cl]
          refine XO (h1 x (by rw [dr]; exact List.mem_cons_of_mem _ hx)) ?_
          rw [hm2]
          exact FE ok0 hx hi'
        · rw [cl] at hx
          obtain ⟨a1, a2⟩ := tP ok.crt_up hm1 hx
          rw [hm2] at a2
          rcases h2 x a1 with h | h
          · rw [dr] at h
            rcases List.mem_cons.1 h with rfl | h
            · exact absurd rfl a2
            · exact .inl h
          · exact .inr h
      obtain ⟨d', q1, q2, q3, q4, q5, q6, q7⟩ := ih (i + 1) c' (by omega) (by omega) r3 hs.1 hs.2
      exact ⟨d', q1, q2, q3, q4, q5.trans r4, q6.trans r5, by omega⟩
theorem RF {f : List Pt} (_fok : eV f) {es : List (Int × Int)} (eok : HX f es) :
    ∀ (d i : Nat) (c : aI), es.length - i <= d -> i <= es.length -> bA c -> c.field.points = f ->
      ∃ r : aI × Int, aJ eJ (eP es i c) = some (.done r) /\ aJ dI (eR es i c) = some (.done r) /\ (r.2 = 0 /\ aAu c f r.1 \/ r = (fN, 18)) := by
  have el := eok.len
  have fin : ∀ c : aI, bA c -> c.field.points = f -> ∃ r : aI × Int, aJ eJ (eP es es.length c) = some (.done r) /\ aJ dI (eR es es.length c) = some (.done r) /\ (r.2 = 0 /\ aAu c f r.1 \/ r = (fN, 18)) := by
    intro c ok hf
    have e1 : decide ((es.length : Int) < (es.length : Int)) = false := aL (by omega)
    refine ⟨(c, 0), aM ?_, aM ?_, .inl ⟨rfl, ok, hf, rfl, Int.le_refl _⟩⟩
    · unfold eJ eP
      simp only [e1, cond_false]
    · unfold dI eR
      simp only [aE, e1, cond_false]
  intro d
  induction d with
  | zero =>
    intro i c hd hi ok hf
    have : i = es.length := by omega
    subst this
    exact fin c ok hf
  | succ d ih =>
    intro i c hd hi ok hf
    by_cases he : i = es.length
    · subst he; exact fin c ok hf
    have bd := ok.bd
    have hi' : i < es.length := by omega
    have e1 : decide ((i : Int) < (es.length : Int)) = true := aQ (by omega)
    have sc := bF (show i < 1000000000 by omega)
    have cg := aD es i hi'
    have ceta : (aI.mk (c.now.1, c.now.2) (Field.mk c.field.points) (aW.mk c.certs.next_ c.certs.list) (aG.mk (aS.mk c.agenda.slots.uses c.agenda.slots.used c.agenda.slots.free) c.agenda.heap c.agenda.where_) c.due) = c := rfl
    have ceta2 : aW.mk c.certs.next_ c.certs.list = c.certs := rfl
    have hc := Q7 c.certs.list es[i]! (by omega)
    have hr := zT c.certs es[i]! (by omega)
    by_cases hin : zS c.certs.list es[i]!
    · have s1 : eJ (eP es i c) = some (.next (eP es (i + 1) c)) := by
        unfold eJ eP
        simp only [e1, cond_true, cg, aB, GI, hc, aQ hin, sc]
      have s2 : dI (eR es i c) = some (.next (eR es (i + 1) c)) := by
        unfold dI eR
        simp only [aE, e1, cond_true, cg, aB, ceta2, hr, aQ hin, sc]
      rw [bB s1, bB s2]
      exact ih (i + 1) c (by omega) (by omega) ok hf
    · have hb : lM c.field.points es[i]! := by rw [hf]; exact eok.kn _ (bM hi')
      rcases aGv ok (eok.cv _ (bM hi')) hb hin with ⟨r1, r2⟩ | ⟨c', r1, r2, r3, r4, r5, r6⟩
      · refine ⟨(fN, 18), aM ?_, aM ?_, .inr rfl⟩
        · unfold eJ eP
          simp only [e1, cond_true, cg, aB, GI, hc, aL hin, cond_false, ceta, r1, show ((18 : Int) != 0) = true from rfl]
        · unfold dI eR
          simp only [aE, e1, cond_true, cg, aB, ceta2, hr, aL hin, cond_false, ceta, r2, show ((18 : Int) != 0) = true from rfl]
      · have s1 : eJ (eP es i c) = some (.next (eP es (i + 1) c')) := by
          unfold eJ eP
          simp only [e1, cond_true, cg, aB, GI, hc, aL hin, cond_false, ceta, r1, show ((0 : Int) != 0) = false from rfl, sc]
        have s2 : dI (eR es i c) = some (.next (eR es (i + 1) c')) := by
          unfold dI eR
          simp only [aE, e1, cond_true, cg, aB, ceta2, hr, aL hin, cond_false, ceta, r2, show ((0 : Int) != 0) = false from rfl, sc]
        rw [bB s1, bB s2]
        obtain ⟨r, q1, q2, q3⟩ := ih (i + 1) c' (by omega) (by omega) r3 (by rw [r4, hf])
        refine ⟨r, q1, q2, q3.imp (fun ⟨q4, q5⟩ => ⟨q4, q5.ok, q5.fld, q5.now.trans r5, Int.le_trans ?_ q5.room⟩) id⟩
        unfold lQ
        rw [r6]
        show _ <= (c.certs.next_ + 1) - (((c.certs.list ++ [(c.certs.next_, es[i]!)]).length : Nat) : Int)
        rw [List.length_append, List.length_singleton]
        omega
theorem aGx {c:aI} (ok:bA c) {f:List Pt} (fok:eV f) {es:List (Int×Int)} (eok:HX f es):
 ∃r:aI×Int,sG c ⟨f⟩ es=some r/\lJ c ⟨f⟩ es=some r/\(r.2=0/\aAu c f r.1\/r=(fN,18)):=by
 have f64:=fok.1;obtain ⟨c',g1,g2,g3,g4,g5,g6,g7⟩:=aAv ok eok c.certs.list.length 0 c (by omega) (by omega) ok (fun x hx=>by rwa [List.drop_zero] at hx) (fun x hx=> .inl (by rwa [List.drop_zero]))
 have bd:=g3.bd;have e1:decide ((c.certs.list.length:Int)<(c.certs.list.length:Int))=false:=aL (by omega)
 have start1:sG c ⟨f⟩ es=aJ dR (kP c f es 0 c):=rfl;have start2:lJ c ⟨f⟩ es=aJ cY (kR c f es 0 c):=by
  unfold lJ;simp only [hJ ok,aB];rfl
 rw [start1,start2,g1,g2];have eq1:=OA c'.field.points f (by omega)
 have eq2:=HA c'.field.points f (by omega)
 have ceta:(aI.mk (c'.now.1,c'.now.2) (Field.mk c'.field.points) (aW.mk c'.certs.next_ c'.certs.list) (aG.mk (aS.mk c'.agenda.slots.uses c'.agenda.slots.used c'.agenda.slots.free) c'.agenda.heap c'.agenda.where_) c'.due)=c':=rfl
 by_cases hf:c'.field.points=f
 · obtain ⟨r,i1,i2,i3⟩:=RF fok eok es.length 0 c' (by omega) (by omega) g3 hf
   refine ⟨r,aM ?_,aM ?_,i3.imp (fun ⟨q4,q5⟩=>⟨q4,q5.ok,q5.fld,q5.now.trans g6,Int.le_trans g7 q5.room⟩) id⟩
   · unfold dR kP
     simp only [e1,cond_false,eq1,aQ hf,aB,Bool.not_true];exact i1
   · unfold cY kR
     simp only [aE,e1,cond_false,eq2,aQ hf,aB,Bool.not_true];exact i2
 · have kn: ∀i,i<c'.certs.list.length->lM f (c'.certs.list[i]!).2:=fun i hi=>eok.kn _ (g4 _ (bM hi))
   rcases aNQ g3 fok kn with ⟨a1,a2⟩|⟨c2,a1,a2,a3,a4,a5,a6⟩
   · refine ⟨(fN,18),aM ?_,aM ?_,.inr rfl⟩
     · unfold dR kP
       simp only [e1,cond_false,eq1,aL hf,aB,Bool.not_false,cond_true,ceta,a1,show ((18:Int) !=0)=true from rfl]
     · unfold cY kR
       simp only [aE,e1,cond_false,eq2,aL hf,aB,Bool.not_false,cond_true,ceta,a2,show ((18:Int) !=0)=true from rfl]
   · obtain ⟨r,i1,i2,i3⟩:=RF fok eok es.length 0 c2 (by omega) (by omega) a3 a4
     refine ⟨r,aM ?_,aM ?_,i3.imp (fun ⟨q4,q5⟩=>⟨q4,q5.ok,q5.fld,(q5.now.trans a5).trans g6,Int.le_trans (Int.le_trans g7 (by unfold lQ;rw [a6];exact Int.le_refl _)) q5.room⟩) id⟩
     · unfold dR kP
       simp only [e1,cond_false,eq1,aL hf,aB,Bool.not_false,cond_true,ceta,a1,show ((0:Int) !=0)=false from rfl];exact i1
     · unfold cY kR
       simp only [aE,e1,cond_false,eq2,aL hf,aB,Bool.not_false,cond_true,ceta,a2,show ((0:Int) !=0)=false from rfl];exact i2
end Go.Proofs.YtmlghnibpjlchaaGreat
namespace Go.Proofs.YtmlghnibpjlchaaGreat
open Go.Vm Classical
theorem aL4 {α:Type} [Inhabited α] {l:List α}:l.Nodup↔ ∀k,k<l.length->l[k]!∉l.take k:=by
 rw [fH];constructor
 · intro h k hk hm
   obtain ⟨i,h1,h2,h3⟩:=cB.1 hm;exact h i k h1 hk h3
 · intro h i j hij hj he
   exact h j hj (cB.2 ⟨i,hij,by omega,he⟩)
theorem aNR {α:Type} [Inhabited α] {l:List α} {P:α->Prop}:(∀x∈l,P x)↔ ∀i,i<l.length->P l[i]!:=by
 constructor
 · intro h i hi;exact h _ (bM hi)
 · intro h x hx
   obtain ⟨i,hi,rfl⟩:=aY.1 hx;exact h i hi
theorem KX {σ ρ:Type} {body:σ->Option (bQ σ ρ)} (st:Nat->σ) (n:Nat) (P:Nat->Prop) {r e:ρ} (h: ∀i,i<n->(¬P i->body (st i)=some (.done r))/\(P i->body (st i)=some (.next (st (i+1)))))
 (hend:body (st n)=some (.done e)):aJ body (st 0)=some (if∀i,i<n->P i then e else r):=by
 have key:=cZ (body:=body) st n (fun i=> ¬P i) (r:=r) (e:=e) (fun i hi=>⟨(h i hi).1,fun hn=>(h i hi).2 (Classical.not_not.1 hn)⟩) hend
 by_cases hx: ∀i,i<n->P i
 · rw [if_pos hx];exact key.2 fun i hi=>Classical.not_not.2 (hx i hi)
 · rw [if_neg hx]
   obtain ⟨i,h⟩:=Classical.not_forall.1 hx;obtain ⟨hi,hx⟩:=Classical.not_imp.1 h;exact key.1 ⟨i,hi,hx⟩
theorem aAJ {f:List Pt} (fok:eV f) (id:Int): ∃p e,nR ⟨f⟩ id=some (p,e)/\(e=0↔sN f id):=by
 have h1:=fok.1;have hc:iT ⟨f⟩=some 0:=by rw [pN];exact congrArg some (oJ.2 fok)
 have bs:=FC f id (by omega) (fun i j=>qN fok.2.2)
 unfold nR vP zE;rw [VZ];simp only [hc,aB,show ((0:Int) !=0)=false from rfl,cond_false]
 by_cases h:sN f id
 · obtain ⟨k,hk,he⟩:=h
   rw [bs.1 k hk he];refine ⟨f[k]!,0,?_,fun _=>⟨k,hk,he⟩,fun _=>rfl⟩
   simp only [aB,Bool.not_true,cond_false,show ((0:Int) !=0)=false from rfl,aD f k hk]
 · obtain ⟨m,_,_,_,e⟩:=bs.2 (fun k hk he=>h ⟨k,hk,he⟩)
   rw [e];exact ⟨(0,0,0),6,rfl,fun h=>(by cases h),fun k=>absurd k h⟩
structure C0 (c:aI):Prop where
 f:c.field.points.length<=1000000
 l:c.certs.list.length<=1000000
 d:c.due.length<=1000000
 h:c.agenda.heap.length<=1000000
 w:c.agenda.where_.length<=1000000
 s1:c.agenda.slots.uses.length<=1000000
 s2:c.agenda.slots.used.length<=1000000
 s3:c.agenda.slots.free.length<=1000000
theorem bA.short {c:aI} (ok:bA c):C0 c:=by
 have bd:=ok.bd;have ab:=ok.agd.bd;have sl:=ok.agd.so.fl;have sn:=ok.agd.so.n2;have su:=ok.agd.so.ul;exact ⟨by omega,by omega,by omega,by omega,by omega,by omega,by omega,by omega⟩
theorem C1:C0 fN:=⟨by decide,by decide,by decide,by decide,by decide,by decide,by decide,by decide⟩
theorem GL (l:List Int) (hl:l.length<=1000000):kC l l=some true:=by
 unfold kC;rw [bZ rfl];refine (eE (body:=lP) (fun i=>(l,l,(i:Int))) l.length fun i hi=>?_).trans (aM ?_)
 · have e1:decide ((i:Int)<(l.length:Int))=true:=aQ (by omega)
   unfold lP;simp only [aE,e1,cond_true,aD l i hi,aB,bF (show i<1000000000 by omega),bZ rfl,cond_false]
 · unfold lP
   have:decide ((l.length:Int)<(l.length:Int))=false:=aL (by omega)
   simp only [aE,this,cond_false]
theorem TP (l:List Bool) (hl:l.length<=1000000):nJ l l=some true:=by
 unfold nJ;rw [bZ rfl];refine (eE (body:=kV) (fun i=>(l,l,(i:Int))) l.length fun i hi=>?_).trans (aM ?_)
 · have e1:decide ((i:Int)<(l.length:Int))=true:=aQ (by omega)
   unfold kV;simp only [aE,e1,cond_true,aD l i hi,aB,bF (show i<1000000000 by omega),beq_self_eq_true,Bool.not_true,cond_false]
 · unfold kV
   have:decide ((l.length:Int)<(l.length:Int))=false:=aL (by omega)
   simp only [aE,this,cond_false]
theorem TQ (c:aW) (hl:c.list.length<=1000000):zJ c c=some true:=by
 unfold zJ;rw [bZ rfl,bZ rfl];refine (eE (body:=rG) (fun i=>((i:Int),c.next_,c.list,c.next_,c.list)) c.list.length fun i hi=>?_).trans (aM ?_)
 · have e1:decide ((i:Int)<(c.list.length:Int))=true:=aQ (by omega)
   unfold rG;simp only [aE,e1,cond_true,aD c.list i hi,aB,bF (show i<1000000000 by omega),beq_self_eq_true,Bool.and_self,Bool.not_true,cond_false]
 · unfold rG
   have:decide ((c.list.length:Int)<(c.list.length:Int))=false:=aL (by omega)
   simp only [aE,this,cond_false]
theorem RG (a:aG) (h1:a.heap.length<=1000000) (h2:a.where_.length<=1000000) (h3:a.slots.uses.length<=1000000) (h4:a.slots.used.length<=1000000) (h5:a.slots.free.length<=1000000):zK a a=some true:=by
 unfold zK DU;simp only [GL _ h3,TP _ h4,GL _ h5,GL _ h2,aB,cond_true,Bool.not_true,cond_false];rw [bZ rfl];refine (eE (body:=rH) (fun i=>((i:Int),a.slots.uses,a.slots.used,a.slots.free,a.heap,a.where_,a.slots.uses,a.slots.used,a.slots.free,a.heap,a.where_)) a.heap.length fun i hi=>?_).trans (aM ?_)
 · have e1:decide ((i:Int)<(a.heap.length:Int))=true:=aQ (by omega)
   unfold rH;simp only [aE,e1,cond_true,aD a.heap i hi,aB,bF (show i<1000000000 by omega),beq_self_eq_true,Bool.and_self,Bool.not_true,cond_false]
 · unfold rH
   have:decide ((a.heap.length:Int)<(a.heap.length:Int))=false:=aL (by omega)
   simp only [aE,this,cond_false]
theorem TR {c:aI} (sh:C0 c):zL c c=some true:=by
 have hd:=sh.d;unfold zL;simp only [beq_self_eq_true,Bool.and_self,Bool.not_true,cond_false,HA c.field.points c.field.points sh.f,TQ _ sh.l,RG _ sh.h sh.w sh.s1 sh.s2 sh.s3,aB,aQ];rw [bZ rfl]
 refine (eE (body:=rI) (fun i=>((i:Int),c.now.1,c.now.2,c.field.points,c.certs.next_,c.certs.list,c.agenda.slots.uses,c.agenda.slots.used,c.agenda.slots.free,c.agenda.heap,c.agenda.where_,c.due,c.now.1,c.now.2,c.field.points,c.certs.next_,c.certs.list,c.agenda.slots.uses,c.agenda.slots.used,c.agenda.slots.free,c.agenda.heap,c.agenda.where_,c.due)) c.due.length fun i hi=>?_).trans (aM ?_)
 · have e1:decide ((i:Int)<(c.due.length:Int))=true:=aQ (by omega)
   unfold rI;simp only [aE,e1,cond_true,aD c.due i hi,aB,bF (show i<1000000000 by omega),beq_self_eq_true,Bool.and_self,Bool.not_true,cond_false]
 · unfold rI
   have:decide ((c.due.length:Int)<(c.due.length:Int))=false:=aL (by omega)
   simp only [aE,this,cond_false]
structure aAw (c:aI):Prop where
 now:nT c.now
 at64: ∀w,w<c.agenda.heap.length->nT ((c.agenda.heap[w]!).1,(c.agenda.heap[w]!).2.1)
theorem RH (f:Field):sA f=some true\/(sA f=some false/\f.points.length<=70):=by
 unfold sA
 simp only [aE]
 by_cases h1:16<f.points.length
 · rw [aQ (show (16:Int)<(f.points.length:Int) by omega)]
   by_cases h2:f.points.length<64
   · rw [aQ (show (f.points.length:Int)<64 by omega)];exact .inl rfl
   · rw [aL (show¬(f.points.length:Int)<64 by omega)]
     by_cases h3:70<f.points.length
     · rw [aQ (show (70:Int)<(f.points.length:Int) by omega)];exact .inl rfl
     · rw [aL (show¬(70:Int)<(f.points.length:Int) by omega)];exact .inr ⟨rfl,by omega⟩
 · rw [aL (show¬(16:Int)<(f.points.length:Int) by omega),aL (show¬(70:Int)<(f.points.length:Int) by omega)]
   exact .inr ⟨rfl,by omega⟩
theorem RI (c:aI):sB c=some true\/(sB c=some false/\C0 c):=by
 unfold sB A8 A7
 simp only [aE]
 by_cases h1:40<c.certs.list.length
 · rw [aQ (show (40:Int)<(c.certs.list.length:Int) by omega)];exact .inl rfl
 rw [aL (show¬(40:Int)<(c.certs.list.length:Int) by omega)]
 by_cases h2:40<c.due.length
 · rw [aQ (show (40:Int)<(c.due.length:Int) by omega)];exact .inl rfl
 rw [aL (show¬(40:Int)<(c.due.length:Int) by omega)]
 rcases RH c.field with e|⟨e,hf⟩
 · rw [e];exact .inl rfl
 rw [e];simp only [cond_false,aB]
 by_cases a1:210<c.agenda.slots.uses.length
 · rw [aQ (show (210:Int)<(c.agenda.slots.uses.length:Int) by omega)];exact .inl rfl
 rw [aL (show¬(210:Int)<(c.agenda.slots.uses.length:Int) by omega)]
 by_cases a2:210<c.agenda.slots.used.length
 · rw [aQ (show (210:Int)<(c.agenda.slots.used.length:Int) by omega)];exact .inl rfl
 rw [aL (show¬(210:Int)<(c.agenda.slots.used.length:Int) by omega)]
 by_cases a3:210<c.agenda.slots.free.length
 · rw [aQ (show (210:Int)<(c.agenda.slots.free.length:Int) by omega)];exact .inl rfl
 rw [aL (show¬(210:Int)<(c.agenda.slots.free.length:Int) by omega)]
 by_cases a4:210<c.agenda.heap.length
 · rw [aQ (show (210:Int)<(c.agenda.heap.length:Int) by omega)];exact .inl rfl
 rw [aL (show¬(210:Int)<(c.agenda.heap.length:Int) by omega)]
 by_cases a5:210<c.agenda.where_.length
 · rw [aQ (show (210:Int)<(c.agenda.where_.length:Int) by omega)];exact .inl rfl
 rw [aL (show¬(210:Int)<(c.agenda.where_.length:Int) by omega)]
 exact .inr ⟨rfl,⟨by omega,by omega,by omega,by omega,by omega,by omega,by omega,by omega⟩⟩
theorem TS {c:aI} (sh:C0 c):gP c=some c:=by
 obtain ⟨h1,h2,h3,h4,h5,h6,h7,h8⟩:=sh;unfold gP nP nQ kO lX;simp only [bC (show c.field.points.length<=1048576 by omega),bC (show c.certs.list.length<=1048576 by omega),bC (show c.due.length<=1048576 by omega),bC (show c.agenda.heap.length<=1048576 by omega),bC (show c.agenda.where_.length<=1048576 by omega),
  bC (show c.agenda.slots.uses.length<=1048576 by omega),bC (show c.agenda.slots.used.length<=1048576 by omega),bC (show c.agenda.slots.free.length<=1048576 by omega),aB]
end Go.Proofs.YtmlghnibpjlchaaGreat
namespace Go.Proofs.YtmlghnibpjlchaaGreat
open Go.Vm Classical
theorem aAw.of {c:aI} (h1:RT.wf [.i .i64,.i .i64] c.now) (h2: ∀a∈c.agenda.heap,RT.wf [.i .i64,.i .i64,.i .i64,.i .i64,.i .i64] a):aAw c where
 now:=⟨F7 h1.1,F7 h1.2⟩
 at64 w hw:=by
  have:=h2 (c.agenda.heap[w]!) (by rw [getElem!_pos c.agenda.heap w hw];exact List.getElem_mem hw)
  exact ⟨F7 this.1,F7 this.2.1⟩
end Go.Proofs.YtmlghnibpjlchaaGreat
namespace Go.Proofs.YtmlghnibpjlchaaGreat
open Go.Vm Classical
theorem V1 {a b:Int×Int} (ha:bO a) (hb:bO b) (h:a.1*b.2=b.1*a.2):a=b:=by
 obtain ⟨a1,_,a3⟩:=ha;obtain ⟨b1,_,b3⟩:=hb;have hn:a.1.natAbs*b.2.natAbs=b.1.natAbs*a.2.natAbs:=by rw [<- Int.natAbs_mul,<- Int.natAbs_mul,h]
 have d1:b.2.natAbs ∣ a.2.natAbs:=by
  have:b.2.natAbs ∣ b.1.natAbs*a.2.natAbs:=by rw [<- hn];exact Nat.dvd_mul_left _ _
  exact (Nat.Coprime.dvd_of_dvd_mul_left b3 this)
 have d2:a.2.natAbs ∣ b.2.natAbs:=by
  have:a.2.natAbs ∣ a.1.natAbs*b.2.natAbs:=by rw [hn];exact Nat.dvd_mul_left _ _
  exact (Nat.Coprime.dvd_of_dvd_mul_left a3 this)
 have e:a.2.natAbs=b.2.natAbs:=Nat.dvd_antisymm d2 d1;have e2:a.2=b.2:=by omega
 have e1:a.1=b.1:=by
  rw [e2] at h;exact Int.eq_of_mul_eq_mul_right (by omega) h
 exact Prod.ext e1 e2
theorem OB (p q:Pt) (t:Int×Int):LC p q t=(p.2.1-q.2.1)*t.2+(p.2.2-q.2.2)*t.1:=rfl
theorem RJ {l h:Pt} {t t':Int×Int} (d:1<=t.2) (d':1<=t'.2) (le:t.1*t'.2<=t'.1*t.2) (hB: ¬h.2.2<l.2.2) (hn: ¬gL l h t): ¬gL l h t':=by
 unfold gL at*;rw [OB] at*;generalize l.2.1-h.2.1=A at*;have hs:l.2.2-h.2.2<=0:=by omega
 intro hl;have key:(A*t'.2+(l.2.2-h.2.2)*t'.1)*t.2<=(A*t.2+(l.2.2-h.2.2)*t.1)*t'.2:=by
  have h1:(l.2.2-h.2.2)*(t'.1*t.2)<=(l.2.2-h.2.2)*(t.1*t'.2):=Int.mul_le_mul_of_nonpos_left hs le;have e1:(A*t'.2+(l.2.2-h.2.2)*t'.1)*t.2=A*t'.2*t.2+(l.2.2-h.2.2)*(t'.1*t.2):=by rw [Int.add_mul,Int.mul_assoc (l.2.2-h.2.2)]
  have e2:(A*t.2+(l.2.2-h.2.2)*t.1)*t'.2=A*t'.2*t.2+(l.2.2-h.2.2)*(t.1*t'.2):=by
   rw [Int.add_mul,Int.mul_assoc (l.2.2-h.2.2),Int.mul_assoc A,Int.mul_assoc A,Int.mul_comm t.2]
  omega
 rcases hl with hl|⟨hl,h2|⟨h2,h3⟩⟩
 · refine hn (.inl ?_)
   have:0<(A*t'.2+(l.2.2-h.2.2)*t'.1)*t.2:=Int.mul_pos hl (by omega)
   have k:0<(A*t.2+(l.2.2-h.2.2)*t.1)*t'.2:=by omega
   exact Int.pos_of_mul_pos_left k (by omega)
 · omega
 · have z:l.2.2-h.2.2=0:=by omega
   rw [z] at hl hn
   have:A=0:=by
    have:A*t'.2=0:=by omega
    rcases Int.mul_eq_zero.1 this with h|h
    · exact h
    · omega
   subst this;exact hn (.inr ⟨by omega,.inr ⟨h2,h3⟩⟩)
theorem TU {h l:Pt} {t t':Int×Int} (hh:fZ h) (hl:fZ l) (r:bO t) (r':bO t') (le:t.1*t'.2<=t'.1*t.2) (up:(oI h l t).2=true->t'.1*(oI h l t).1.2<=(oI h l t).1.1*t'.2):
 oI h l t'=oI h l t:=by
 unfold oI at*
 by_cases h1:gL l h t
 · rw [if_pos h1] at up ⊢
   have e:t=t':=V1 r r' (by have:=up rfl;dsimp only at this;omega)
   subst e;rw [if_pos h1]
 · rw [if_neg h1] at up ⊢
   by_cases h2:h.2.2<l.2.2
   · rw [if_pos h2] at up ⊢
     obtain ⟨_,m1,m2,m3⟩:=J5 hh hl (show h.2.2≠l.2.2 by omega)
     have up:=up rfl;dsimp only at up
     by_cases h3:gL l h t'
     · rw [if_pos h3]
       have:t'=XW h l:=by
        refine V1 r' m1 ?_;have g:0<=LC l h t':=by rcases h3 with k|k<;>omega
        rw [OB] at g;generalize XW h l=m at*;have d:=m1.1;have hB:0<l.2.2-h.2.2:=by omega
        generalize l.2.2-h.2.2=B at*;generalize hA:h.2.1-l.2.1=A at*;have g2:A*t'.2<=B*t'.1:=by
         have:(l.2.1-h.2.1)*t'.2= -(A*t'.2):=by rw [<- Int.neg_mul];congr 1;omega
         omega
        have g3:m.1*t'.2*B<=t'.1*m.2*B:=by
         have e1:m.1*t'.2*B=A*t'.2*m.2:=by
          rw [Int.mul_right_comm,m3,Int.mul_right_comm]
         have e2:t'.1*m.2*B=B*t'.1*m.2:=by
          rw [Int.mul_right_comm,Int.mul_comm t'.1 B]
         rw [e1,e2];exact Int.mul_le_mul_of_nonneg_right g2 (by omega)
        have g4:m.1*t'.2<=t'.1*m.2:=Int.le_of_mul_le_mul_right g3 hB;omega
       rw [this]
     · rw [if_neg h3]
   · rw [if_neg h2] at up ⊢
     rw [if_neg (RJ r.1 r'.1 le h2 h1)]
end Go.Proofs.YtmlghnibpjlchaaGreat
namespace Go.Proofs.YtmlghnibpjlchaaGreat
open Go.Vm Classical
theorem XP {a:aG} (ok:dZ a): ∀k,k<a.heap.length-> ¬dA a.heap[k]! a.heap[0]!:=by
 have d: ∀w,w<a.heap.length->1<=(a.heap[w]!).2.1:=fun w hw=>(ok.ev w hw).1.1
 intro k
 induction k using Nat.strongRecOn with
 |ind k ih=>
  intro hk
  by_cases h0:k=0
  · subst h0;exact fun h=>nU h h
  · exact xV (d 0 (by omega)) (d ((k-1) / 2) (by omega)) (d k hk) (ih ((k-1) / 2) (by omega) (by omega)) (ok.ord k (by omega) hk)
theorem aAx {h l:Pt} {t:Int×Int} (hh:fZ h) (hl:fZ l) (r:bO t) (is:(oI h l t).2=true):t.1*(oI h l t).1.2<=(oI h l t).1.1*t.2:=by
 unfold oI at*
 by_cases h1:gL l h t
 · rw [if_pos h1];exact Int.le_refl _
 · rw [if_neg h1] at is ⊢
   by_cases h2:h.2.2<l.2.2
   · rw [if_pos h2]
     obtain ⟨_,m1,m2,m3⟩:=J5 hh hl (show h.2.2≠l.2.2 by omega)
     dsimp only;have g:LC l h t<=0:=Int.not_lt.1 fun k=>h1 (.inl k)
     rw [OB] at g;generalize XW h l=m at*;have d:=m1.1;have d2:=r.1;have hB:0<l.2.2-h.2.2:=by omega
     generalize l.2.2-h.2.2=B at*;generalize hA:h.2.1-l.2.1=A at*;have g2:B*t.1<=A*t.2:=by
      have:(l.2.1-h.2.1)*t.2= -(A*t.2):=by rw [<- Int.neg_mul];congr 1;omega
      omega
     have e1:t.1*m.2*B=B*t.1*m.2:=by rw [Int.mul_right_comm,Int.mul_comm t.1 B]
     have e2:m.1*t.2*B=A*t.2*m.2:=by rw [Int.mul_right_comm,m3,Int.mul_right_comm]
     have g3:t.1*m.2*B<=m.1*t.2*B:=by
      rw [e1,e2];exact Int.mul_le_mul_of_nonneg_right g2 (by omega)
     exact Int.le_of_mul_le_mul_right g3 hB
   · rw [if_neg h2] at is;cases is
theorem aX.time {l:List Pt} {t t':Int×Int} {H:List Ev}: ∀{cs ds:List sV},(∀x∈cs,bI l x.2 t'=bI l x.2 t)->aX l t H cs ds->aX l t' H cs ds
 | [],_,_,h=>h
 |x::cs,ds,hw,h=>by
  have e:=hw x List.mem_cons_self;have ih: ∀{ds},aX l t H cs ds->aX l t' H cs ds:=fun {ds}=>aX.time fun y hy=>hw y (List.mem_cons_of_mem _ hy)
  refine ⟨fun hy=>?_,fun hy=>?_⟩
  · rw [e] at hy
    obtain ⟨d,ds',h1,h2,h3,h4⟩:=h.1 hy;exact ⟨d,ds',h1,h2,by rw [e];exact h3,ih h4⟩
  · rw [e] at hy
    exact ih (h.2 hy)
theorem TV {c : aI} (ok : bA c) (hne : 0 < c.agenda.heap.length) :
    ∃ (i : Nat) (c' : aI), i < c.certs.list.length /\ (c.certs.list[i]!).1 = Ev.num c.agenda.heap[0]! /\ kS c (Ev.num c.agenda.heap[0]!) = some (c', (c.certs.list[i]!).2, 0) /\ nS c (Ev.num c.agenda.heap[0]!) = some c' /\
      bA ⟨Ev.at c.agenda.heap[0]!, c'.field, c'.certs, c'.agenda, c'.due⟩ /\ c'.field = c.field /\ c'.certs = mQ c.certs i /\ c.now.1 * (Ev.at c.agenda.heap[0]!).2 <= (Ev.at c.agenda.heap[0]!).1 * c.now.2 := by
  have hm := bM hne
  obtain ⟨d, hd, hn⟩ := ok.nums _ hm
  obtain ⟨x, hx, h1, h2, h3⟩ := ok.fol.due d hd
  obtain ⟨w, hw, he⟩ := aY.1 h3
  have hw0 : w = 0 := Classical.byContradiction fun hx => by
    refine ok.agd.nd 0 w (by omega) hw ?_
    rw [he, <- hn, h1]
  subst hw0
  obtain ⟨i, hi, rfl⟩ := aY.1 hx
  have num : (c.certs.list[i]!).1 = Ev.num c.agenda.heap[0]! := by rw [<- hn, h1]
  have tm : Ev.at c.agenda.heap[0]! = (bI c.field.points (c.certs.list[i]!).2 c.now).1 := by rw [he]
  obtain ⟨c', r1, r2, r3, r4, r5, r6⟩ := aAr ok hi
  have hb := ok.known i hi
  have pt := fun (x : Int × Int) (hb : lM c.field.points x) => And.intro (fU ok.fld hb.2).1 (fU ok.fld hb.1).1
  have rt := E4 (pt _ hb).1 (pt _ hb).2 ok.now64 ok.nowv h2
  have ge := aAx (pt _ hb).1 (pt _ hb).2 ok.nowv h2
  rw [num] at r1 r2
  refine ⟨i, c', hi, num, r1, r2, ?_, r4, r6, by rw [tm]; exact ge⟩
  have kn := BN ok i hi
  refine ⟨by rw [tm]; exact rt.1, by rw [tm]; exact rt.2, r3.fld, r3.crt, r3.agd, r3.w200, r3.hd, r3.known, ?_⟩
  refine aX.time (t := c'.now) (fun y hy => ?_) r3.fol
  have hy' : y ∈ c.certs.list := by
    rw [r6] at hy
    exact (tP ok.crt_up hi hy).1
  obtain ⟨j, hj, rfl⟩ := aY.1 hy'
  have hbj := ok.known j hj
  rw [r4, r5]
  refine TU (pt _ hbj).1 (pt _ hbj).2 ok.nowv (by rw [tm]; exact rt.1) (by rw [tm]; exact ge) (fun is => ?_)
  obtain ⟨d', hd', k1, k2⟩ := ok.fol.has _ hy' is
  obtain ⟨w, hw, he⟩ := aY.1 k2
  have := XP ok.agd w hw
  rw [he] at this
  exact Int.not_lt.1 fun k => this (.inl (HS.2 k))
end Go.Proofs.YtmlghnibpjlchaaGreat
namespace Go.Proofs.YtmlghnibpjlchaaGreat
theorem uU {α:Type} [BEq α] [LawfulBEq α]: ∀{a b:List α},a.Nodup->(∀x∈a,x∈b)->b.length<=a.length->a.Perm b
 | [],b,_,_,hl=>by
  rw [List.eq_nil_of_length_eq_zero (show b.length=0 by simpa using hl)]
 |x::a,b,hd,h,hl=>by
  rw [List.nodup_cons] at hd;have hx:=h x List.mem_cons_self;have ih:=uU (a:=a) (b:=b.erase x) hd.2 (fun y hy=>by
   rw [List.mem_erase_of_ne (fun e=>hd.1 (by rw [<- e];exact hy))]
   exact h y (List.mem_cons_of_mem _ hy)) (by
   rw [List.length_erase_of_mem hx];rw [List.length_cons] at hl
   omega)
  exact (List.Perm.cons x ih).trans (List.perm_cons_erase hx).symm
theorem zU {α β:Type} {f:α->β}: ∀{l:List α},l.Nodup->(∀x∈l,∀y∈l,f x=f y->x=y)->(l.map f).Nodup
 | [],_,_=>List.nodup_nil
 |x::l,h,hi=>by
  rw [List.nodup_cons] at h;rw [List.map_cons,List.nodup_cons];refine ⟨fun hm=>?_,zU h.2 fun y hy z hz=>hi y (List.mem_cons_of_mem _ hy) z (List.mem_cons_of_mem _ hz)⟩
  obtain ⟨y,hy,e⟩:=List.mem_map.1 hm
  have:=hi y (List.mem_cons_of_mem _ hy) x List.mem_cons_self e
  rw [this] at hy;exact h.1 hy
end Go.Proofs.YtmlghnibpjlchaaGreat
namespace Go.Proofs.YtmlghnibpjlchaaGreat
open Go.Vm Classical
def uV (l:List Int) (k:Nat):List (Int×Int):=(List.range k).map fun i=>(l[i+1]!,l[i / 2]!)
abbrev dM (l:List Int):List (Int×Int):=uV l (l.length-1)
theorem qR (l:List Int) (k:Nat):(uV l k).length=k:=by unfold uV;rw [List.length_map,List.length_range]
theorem RK (l:List Int) (k:Nat):uV l (k+1)=uV l k++[(l[k+1]!,l[k / 2]!)]:=by
 unfold uV;rw [List.range_succ,List.map_append];rfl
theorem HB (l:List Int) {k i:Nat} (h:i<k):(uV l k)[i]! =(l[i+1]!,l[i / 2]!):=by
 rw [getElem!_pos _ i (by rw [qR];exact h)]
 unfold uV;rw [List.getElem_map,List.getElem_range]
theorem KY (l:List Int) (hl:l.length<=1000):oB l=some (dM l):=by
 unfold oB;have key:=eE (body:=oV) (fun i=>(l,((i+1:Nat):Int),uV l i)) (l.length-1) (fun i hi=>by
  have e:aA .i64 (Int.tdiv (aA .i64 (((i+1:Nat):Int) -1)) 2)=((i / 2:Nat):Int):=by
   rw [show aA .i64 (((i+1:Nat):Int) -1)=(i:Int) from by rw [G2 ⟨by omega,by omega⟩];omega,Int.tdiv_eq_ediv_of_nonneg (by omega),G2 ⟨by omega,by omega⟩];omega
  unfold oV;simp only [aE,aQ (show ((i+1:Nat):Int)<(l.length:Int) by omega),cond_true,aD l (i+1) (by omega),e,aD l (i / 2) (by omega),aB]
  rw [fG (by rw [qR,List.length_singleton];omega),aB,bF (show i+1<1000000000 by omega),<- RK])
 rw [show (l,(1:Int),([]:List (Int×Int)))=(l,((0+1:Nat):Int),uV l 0) from rfl,key];refine aM ?_;unfold oV;simp only [aE,aL (show¬((l.length-1+1:Nat):Int)<(l.length:Int) by omega),cond_false]
theorem aAy (l:List Int) (hl:l.length<=1000):BF l=some (dM l):=by rw [<- KY l hl];rfl
theorem GM {l:List Int} {e:Int×Int} (h:e∈dM l):e.1∈l/\e.2∈l:=by
 obtain ⟨i,hi,rfl⟩:=aY.1 h;rw [qR] at hi;rw [HB l hi];exact ⟨bM (by omega),bM (by omega)⟩
theorem aAz {l:List Int} (hd:l.Nodup) {e:Int×Int} (h:e∈dM l):e.1≠e.2:=by
 obtain ⟨i,hi,rfl⟩:=aY.1 h;rw [qR] at hi;rw [HB l hi];exact fun h=>fH.1 hd (i / 2) (i+1) (by omega) (by omega) h.symm
theorem RM {l:List Int} (hd:l.Nodup):(dM l).Nodup:=by
 unfold dM uV;refine zU List.nodup_range fun i hi j hj h=>?_
 rw [List.mem_range] at hi hj;have h1:l[i+1]! =l[j+1]!:=congrArg Prod.fst h;have h2:=fH.1 hd;rcases Nat.lt_trichotomy i j with k|k|k
 · exact absurd h1 (h2 (i+1) (j+1) (by omega) (by omega))
 · exact k
 · exact absurd h1.symm (h2 (j+1) (i+1) (by omega) (by omega))
theorem RN (l:List Int) (x:Int) (hl:l.length<=1000000):
 (∀k,k<l.length->l[k]! =x->(∀j,j<k->l[j]!≠x)->fR l x=some (k:Int)/\mD l x=some (k:Int))/\((∀k,k<l.length->l[k]!≠x)->fR l x=some (-1)):=by
 have k1:=iZ (body:=jM) (fun i=>(l,x,(l.length:Int),(i:Int))) l.length (fun i=>l[i]! =x) (fun i=>(i:Int)) (e:= -1) (fun i hi=>by
  unfold jM;simp only [aQ (show (i:Int)<(l.length:Int) by omega),cond_true,aD l i hi,aB,bF (show i<1000000000 by omega)]
  refine ⟨fun h=>?_,fun h=>?_⟩
  · rw [fJ h.symm];rfl
  · rw [fO (fun k=>h k.symm)];rfl) (by
  unfold jM;simp only [aL (show¬(l.length:Int)<(l.length:Int) by omega),cond_false])
 have k2:=iZ (body:=pJ) (fun i=>(l,x,(i:Int))) l.length (fun i=>l[i]! =x) (fun i=>(i:Int)) (e:= -1) (fun i hi=>by
  unfold pJ;simp only [aE,aQ (show (i:Int)<(l.length:Int) by omega),cond_true,aD l i hi,aB,bF (show i<1000000000 by omega)]
  refine ⟨fun h=>?_,fun h=>?_⟩
  · rw [fJ h];rfl
  · rw [fO h];rfl) (by
  unfold pJ;simp only [aE,aL (show¬(l.length:Int)<(l.length:Int) by omega),cond_false])
 exact ⟨fun k hk h1 h2=>⟨k1.1 k hk h1 h2,k2.1 k hk h1 h2⟩,fun h=>k1.2 h⟩
theorem GN {l:List Int} {x:Int} (hl:l.length<=1000000) (hx:x∈l): ∃k,k<l.length/\l[k]! =x/\fR l x=some (k:Int)/\mD l x=some (k:Int):=by
 obtain ⟨k,k1,k2,k3⟩:=J0 (c:=fun k=>l[k]! =x) (aY.1 hx)
 obtain ⟨h1,h2⟩:=(RN l x hl).1 k k1 k2 k3;exact ⟨k,k1,k2,h1,h2⟩
theorem OC (l:List Int) (x:Int) (hl:l.length<=1000000):jN l x=some (decide (x∈l)):=by
 unfold jN
 by_cases hx:x∈l
 · obtain ⟨k,_,_,h,_⟩:=GN hl hx
   rw [h,aB,aQ hx,aQ (by omega)]
 · rw [(RN l x hl).2 (fun k hk h=>hx (aY.2 ⟨k,hk,h⟩)),aB,aL hx];rfl
theorem C2 {f:List Pt} (fok:eV f) {id:Int} (h:sN f id):nR ⟨f⟩ id=some (gB f id,0):=by
 have h1:=fok.1;have hc:iT ⟨f⟩=some 0:=by rw [pN];exact congrArg some (oJ.2 fok)
 have bs:=FC f id (by omega) (fun i j=>qN fok.2.2)
 unfold nR vP zE;rw [VZ];simp only [hc,aB,show ((0:Int) !=0)=false from rfl,cond_false];obtain ⟨k,hk,he⟩:=h;rw [bs.1 k hk he];simp only [aB,Bool.not_true,cond_false,show ((0:Int) !=0)=false from rfl,aD f k hk,HW fok.2.2 hk he]
theorem aAA {f:List Pt} (fok:eV f) {t:Int×Int} (r:bO t) (r64:nT t) {a b:Int} (ha:sN f a) (hb:sN f b) (hne:a≠b):vQ ⟨f⟩ t a b=some (decide (gL (gB f a) (gB f b) t)):=by
 unfold vQ;rw [C2 fok ha,aB,C2 fok hb,aB];obtain ⟨p1,p2⟩:=fU fok ha;obtain ⟨q1,q2⟩:=fU fok hb;rcases HH p1 q1 r64 r with h|⟨h,_⟩
 · rw [h,aB]
 · rw [p2,q2] at h;exact absurd h hne
theorem aGy {f:List Pt} (fok:eV f) {t:Int×Int} (r64:nT t) {x:Int×Int} (hb:lM f x):zH x ⟨f⟩ t=some (decide (gL (gB f x.2) (gB f x.1) t)):=by
 obtain ⟨h1,h2⟩:=hb;obtain ⟨j,j1,j2,j3⟩:=DY fok h1;obtain ⟨k,k1,k2,k3⟩:=DY fok h2;unfold zH;simp only [j2,k2,aB,aD f j j1,aD f k k1,j3,k3,QR (fU fok h2).1 (fU fok h1).1 r64]
end Go.Proofs.YtmlghnibpjlchaaGreat
namespace Go.Proofs.YtmlghnibpjlchaaGreat
open Go.Vm Classical
def uW (f:List Pt):List Int:=f.map fun p=>p.1
theorem GO {f:List Pt} (h:kX f):(uW f).Nodup:=by
 refine zU ?_ ?_
 · exact fH.2 fun i j hij hj e=>by have:=qN h hij hj;rw [e] at this;omega
 · intro x hx y hy e
   obtain ⟨i,hi,rfl⟩:=aY.1 hx;obtain ⟨j,hj,rfl⟩:=aY.1 hy;rw [J7 h hi hj e]
theorem wI {f:List Pt} {id:Int}:id∈uW f↔sN f id:=by
 unfold uW sN;rw [List.mem_map];constructor
 · rintro ⟨p,hp,rfl⟩
   obtain ⟨i,hi,rfl⟩:=aY.1 hp;exact ⟨i,hi,rfl⟩
 · rintro ⟨i,hi,rfl⟩
   exact ⟨f[i]!,bM hi,rfl⟩
structure KZ (k:dC):Prop where
 clk:bA k.clock
 perm:(uW k.clock.field.points).Perm k.heap
 cert:(k.clock.certs.list.map fun x=>x.2).Perm (dM k.heap)
 lead: ∀e∈dM k.heap,gL (gB k.clock.field.points e.2) (gB k.clock.field.points e.1) k.clock.now
theorem RO {c:aW} (ok:dO c):(c.list.map fun x=>x.2).Nodup:=by
 refine zU ?_ ?_
 · exact fH.2 fun i j hij hj e=>ok.nd i j hij hj (by rw [e])
 · intro x hx y hy e
   obtain ⟨i,hi,rfl⟩:=aY.1 hx;obtain ⟨j,hj,rfl⟩:=aY.1 hy;rcases Nat.lt_trichotomy i j with k|k|k
   · exact absurd e (ok.nd i j k hj)
   · rw [k]
   · exact absurd e.symm (ok.nd j i k hi)
def aAB (k:dC):Prop:=(∀i,i<k.clock.field.points.length->(k.clock.field.points[i]!).1∈k.heap)/\(dM k.heap).length=k.clock.certs.list.length/\
 ∀i,i<k.clock.certs.list.length->(k.clock.certs.list[i]!).2∈dM k.heap/\gL (gB k.clock.field.points (k.clock.certs.list[i]!).2.2) (gB k.clock.field.points (k.clock.certs.list[i]!).2.1) k.clock.now
def RP (k:dC):Prop:=(∀i,i<k.heap.length->sN k.clock.field.points k.heap[i]!/\ ∀j,j<i->k.heap[j]!≠k.heap[i]!)/\k.clock.certs.list.length=(dM k.heap).length/\
 ∀i,i<(dM k.heap).length->zS k.clock.certs.list (dM k.heap)[i]!/\gL (gB k.clock.field.points ((dM k.heap)[i]!).2) (gB k.clock.field.points ((dM k.heap)[i]!).1) k.clock.now
theorem BO {l:List sV} {x:Int×Int}:zS l x↔x∈l.map fun y=>y.2:=by
 unfold zS;rw [List.mem_map];constructor
 · rintro ⟨i,hi,rfl⟩;exact ⟨l[i]!,bM hi,rfl⟩
 · rintro ⟨y,hy,rfl⟩
   obtain ⟨i,hi,rfl⟩:=aY.1 hy;exact ⟨i,hi,rfl⟩
theorem aNS {k:dC} (ok:bA k.clock) (hl:k.heap.length=k.clock.field.points.length):aAB k↔KZ k:=by
 have nd:=GO ok.fld.2.2;have il:(uW k.clock.field.points).length=k.clock.field.points.length:=List.length_map ..;have cl:(k.clock.certs.list.map fun x=>x.2).length=k.clock.certs.list.length:=List.length_map ..
 have cn:=RO ok.crt;constructor
 · rintro ⟨h1,h2,h3⟩
   have pm:(uW k.clock.field.points).Perm k.heap:=uU nd (fun x hx=>by
    obtain ⟨i,hi,rfl⟩:=wI.1 hx;exact h1 i hi) (by omega)
   have pc:(k.clock.certs.list.map fun x=>x.2).Perm (dM k.heap):=uU cn (fun x hx=>by
    obtain ⟨i,hi,rfl⟩:=BO.2 hx;exact (h3 i hi).1) (by omega)
   refine ⟨ok,pm,pc,fun e he=>?_⟩
   obtain ⟨i,hi,rfl⟩:=BO.2 (pc.mem_iff.2 he);exact (h3 i hi).2
 · intro h
   refine ⟨fun i hi=>h.perm.mem_iff.1 (wI.2 ⟨i,hi,rfl⟩),by rw [<- h.cert.length_eq,cl],fun i hi=>?_⟩
   have:=h.cert.mem_iff.1 (BO.1 ⟨i,hi,rfl⟩)
   exact ⟨this,h.lead _ this⟩
theorem aNT {k:dC} (ok:bA k.clock) (hl:k.heap.length=k.clock.field.points.length):RP k↔KZ k:=by
 have nd:=GO ok.fld.2.2;have il:(uW k.clock.field.points).length=k.clock.field.points.length:=List.length_map ..;have cl:(k.clock.certs.list.map fun x=>x.2).length=k.clock.certs.list.length:=List.length_map ..
 constructor
 · rintro ⟨h1,h2,h3⟩
   have hn:k.heap.Nodup:=fH.2 fun i j hij hj e=>(h1 j hj).2 i hij e
   have pm:k.heap.Perm (uW k.clock.field.points):=uU hn (fun x hx=>by
    obtain ⟨i,hi,rfl⟩:=aY.1 hx;exact wI.2 (h1 i hi).1) (by omega)
   have pc:(dM k.heap).Perm (k.clock.certs.list.map fun x=>x.2):=uU (RM hn) (fun x hx=>by
    obtain ⟨i,hi,rfl⟩:=aY.1 hx;exact BO.1 (h3 i hi).1) (by omega)
   refine ⟨ok,pm.symm,pc.symm,fun e he=>?_⟩
   obtain ⟨i,hi,rfl⟩:=aY.1 he;exact (h3 i hi).2
 · intro h
   have hn:k.heap.Nodup:=h.perm.nodup_iff.1 nd;refine ⟨fun i hi=>⟨wI.1 (h.perm.mem_iff.2 (bM hi)),fun j hj e=>fH.1 hn j i hj hi e⟩,by rw [<- h.cert.length_eq,cl],fun i hi=>?_⟩
   exact ⟨BO.2 (h.cert.mem_iff.2 (bM hi)),h.lead _ (bM hi)⟩
theorem OD {α:Type} {p q:Prop} [Decidable p] [Decidable q] {a b:α} (h:p↔q):(if p then a else b)=if q then a else b:=by
 by_cases hp:p
 · rw [if_pos hp,if_pos (h.1 hp)]
 · rw [if_neg hp,if_neg (fun k=>hp (h.2 k))]
theorem K0 {k:dC} (fit:uT k.clock) (hl:k.heap.length<=1000):vR k=some (if KZ k then 0 else 8):=by
 unfold vR;rw [mI fit,aB]
 by_cases ok:bA k.clock
 case neg=>rw [if_neg ok,if_neg (fun h=>ok h.clk)];rfl
 rw [if_pos ok,bZ rfl,cond_false]
 by_cases hh:k.heap.length=k.clock.field.points.length
 case neg=>
  rw [eM (by rw [aE,aE];omega),cond_true,if_neg (fun h=>hh ?_)]
  rw [<- h.perm.length_eq];exact List.length_map ..
 rw [bZ (by rw [aE,aE];omega),cond_false,<- OD (aNS ok hh)]
 have bd:=ok.bd;have inner:=KX (body:=oY) (fun i=>(dM k.heap,k.clock.certs.list,(k.clock.certs.list.length:Int),(i:Int),k.clock.now.1,k.clock.now.2,k.clock.field.points,k.clock.certs.next_,k.clock.certs.list,k.clock.agenda.slots.uses,k.clock.agenda.slots.used,k.clock.agenda.slots.free,k.clock.agenda.heap,k.clock.agenda.where_,k.clock.due,k.heap)) k.clock.certs.list.length
  (fun i=>(k.clock.certs.list[i]!).2∈dM k.heap/\gL (gB k.clock.field.points (k.clock.certs.list[i]!).2.2) (gB k.clock.field.points (k.clock.certs.list[i]!).2.1) k.clock.now) (r:= .done 8) (e:= .done 0) (fun i hi=>by
  have hb:=ok.known i hi;have hv:=ok.crt.cv i hi;unfold oY;simp only [aQ (show (i:Int)<(k.clock.certs.list.length:Int) by omega),cond_true,aD k.clock.certs.list i hi,aB,xA (dM k.heap) _ (by rw [qR];omega),aAA ok.fld (t:=(k.clock.now.1,k.clock.now.2)) ok.nowv ok.now64 hb.2 hb.1 (fun h=>hv.2.2.2.2 h.symm),bF (show i<1000000000 by omega)]
  by_cases h1:(k.clock.certs.list[i]!).2∈dM k.heap
  · rw [aQ h1]
    by_cases h2:gL (gB k.clock.field.points (k.clock.certs.list[i]!).2.2) (gB k.clock.field.points (k.clock.certs.list[i]!).2.1) k.clock.now
    · rw [show decide (gL (gB k.clock.field.points (k.clock.certs.list[i]!).2.2) (gB k.clock.field.points (k.clock.certs.list[i]!).2.1) (k.clock.now.1,k.clock.now.2))=true from aQ h2]
      exact ⟨fun h=>absurd ⟨h1,h2⟩ h,fun _=>rfl⟩
    · rw [show decide (gL (gB k.clock.field.points (k.clock.certs.list[i]!).2.2) (gB k.clock.field.points (k.clock.certs.list[i]!).2.1) (k.clock.now.1,k.clock.now.2))=false from aL h2]
      exact ⟨fun _=>rfl,fun h=>absurd h.2 h2⟩
  · rw [aL h1]
    exact ⟨fun _=>rfl,fun h=>absurd h.1 h1⟩) (by
  unfold oY;simp only [aL (show¬(k.clock.certs.list.length:Int)<(k.clock.certs.list.length:Int) by omega),cond_false])
 have outer:=KX (body:=oZ) (fun i=>(k.clock.field.points,(k.clock.field.points.length:Int),(i:Int),k.clock.now.1,k.clock.now.2,k.clock.field.points,k.clock.certs.next_,k.clock.certs.list,k.clock.agenda.slots.uses,k.clock.agenda.slots.used,k.clock.agenda.slots.free,k.clock.agenda.heap,k.clock.agenda.where_,k.clock.due,k.heap)) k.clock.field.points.length
  (fun i=>(k.clock.field.points[i]!).1∈k.heap) (r:=8) (e:=if (dM k.heap).length=k.clock.certs.list.length/\ ∀i,i<k.clock.certs.list.length->(k.clock.certs.list[i]!).2∈dM k.heap/\gL (gB k.clock.field.points (k.clock.certs.list[i]!).2.2) (gB k.clock.field.points (k.clock.certs.list[i]!).2.1) k.clock.now then 0 else 8) (fun i hi=>by
  unfold oZ;simp only [aQ (show (i:Int)<(k.clock.field.points.length:Int) by omega),cond_true,aD k.clock.field.points i hi,aB,OC k.heap _ (by omega),bF (show i<1000000000 by omega)]
  by_cases h1:(k.clock.field.points[i]!).1∈k.heap
  · rw [aQ h1];exact ⟨fun h=>absurd h1 h,fun _=>rfl⟩
  · rw [aL h1];exact ⟨fun _=>rfl,fun h=>absurd h h1⟩) (by
  unfold oZ;simp only [aE,aL (show¬(k.clock.field.points.length:Int)<(k.clock.field.points.length:Int) by omega),cond_false,KY k.heap hl,aB]
  by_cases h1:(dM k.heap).length=k.clock.certs.list.length
  · rw [bZ (by omega),cond_false]
    refine (show _=_ from inner).trans ?_
    by_cases h2: ∀i,i<k.clock.certs.list.length->(k.clock.certs.list[i]!).2∈dM k.heap/\gL (gB k.clock.field.points (k.clock.certs.list[i]!).2.2) (gB k.clock.field.points (k.clock.certs.list[i]!).2.1) k.clock.now
    · rw [if_pos h2,if_pos ⟨h1,h2⟩]
    · rw [if_neg h2,if_neg (fun h=>h2 h.2)]
  · rw [eM (by omega),cond_true,if_neg (fun h=>h1 h.1)])
 refine (show _=_ from outer).trans ?_
 by_cases h1: ∀i,i<k.clock.field.points.length->(k.clock.field.points[i]!).1∈k.heap
 · rw [if_pos h1]
   congr 1
   exact OD (q:=aAB k) ⟨fun h=>⟨h1,h.1,h.2⟩,fun h=>⟨h.2.1,h.2.2⟩⟩
 · rw [if_neg h1,if_neg (fun h:aAB k=>h1 h.1)]
theorem aGz {c:aI} (ok:bA c) (es:List (Int×Int)) (kn: ∀x∈es,lM c.field.points x):
 zI c es=some (decide (c.certs.list.length=es.length/\ ∀i,i<es.length->zS c.certs.list es[i]!/\gL (gB c.field.points (es[i]!).2) (gB c.field.points (es[i]!).1) c.now)):=by
 have bd:=ok.bd;unfold zI;simp only [aE]
 by_cases h0:c.certs.list.length=es.length
 case neg=>rw [eM (by omega),cond_true,aL (fun h=>h0 h.1)]
 rw [bZ (by omega),cond_false]
 have key:=KX (body:=rC) (fun i=>(es,(i:Int),c.now.1,c.now.2,c.field.points,c.certs.next_,c.certs.list,c.agenda.slots.uses,c.agenda.slots.used,c.agenda.slots.free,c.agenda.heap,c.agenda.where_,c.due)) es.length
  (fun i=>zS c.certs.list es[i]!/\gL (gB c.field.points (es[i]!).2) (gB c.field.points (es[i]!).1) c.now) (r:=false) (e:=true) (fun i hi=>by
  have ceta2:aW.mk c.certs.next_ c.certs.list=c.certs:=rfl;unfold rC;simp only [aE,aQ (show (i:Int)<(es.length:Int) by omega),cond_true,aD es i hi,aB,ceta2,zT c.certs es[i]! (by omega),aGy ok.fld (t:=(c.now.1,c.now.2)) ok.now64 (kn _ (bM hi)),bF (show i<1000000000 by omega)]
  by_cases h1:zS c.certs.list es[i]!
  · rw [aQ h1]
    by_cases h2:gL (gB c.field.points (es[i]!).2) (gB c.field.points (es[i]!).1) c.now
    · rw [show decide (gL (gB c.field.points (es[i]!).2) (gB c.field.points (es[i]!).1) (c.now.1,c.now.2))=true from aQ h2]
      exact ⟨fun h=>absurd ⟨h1,h2⟩ h,fun _=>rfl⟩
    · rw [show decide (gL (gB c.field.points (es[i]!).2) (gB c.field.points (es[i]!).1) (c.now.1,c.now.2))=false from aL h2]
      exact ⟨fun _=>rfl,fun h=>absurd h.2 h2⟩
  · rw [aL h1]
    exact ⟨fun _=>rfl,fun h=>absurd h.1 h1⟩) (by
  unfold rC;simp only [aE,aL (show¬(es.length:Int)<(es.length:Int) by omega),cond_false])
 refine (show _=_ from key).trans ?_
 by_cases h2: ∀i,i<es.length->zS c.certs.list es[i]!/\gL (gB c.field.points (es[i]!).2) (gB c.field.points (es[i]!).1) c.now
 · rw [if_pos h2,aQ ⟨h0,h2⟩]
 · rw [if_neg h2,aL (fun h=>h2 h.2)]
theorem aGA {σ ρ:Type} {body:σ->Option (bQ σ ρ)} (st:Nat->σ) (n:Nat) (P:Nat->Prop) {r:ρ} (h: ∀i,i<n->(¬P i->body (st i)=some (.done r))/\(P i->body (st i)=some (.next (st (i+1)))))
 (hx: ¬ ∀i,i<n->P i):aJ body (st 0)=some r:=by
 obtain ⟨i,hi⟩:=Classical.not_forall.1 hx;obtain ⟨hi,hx⟩:=Classical.not_imp.1 hi;obtain ⟨m,m1,m2,m3⟩:=J0 (c:=fun i=> ¬P i) ⟨i,hi,hx⟩
 rw [eE st m fun j hj=>(h j (by omega)).2 (Classical.not_not.1 (m3 j hj))]
 exact aM ((h m m1).1 m2)
def ckS (k:dC) (i:Nat):=((i:Int),k.clock.now.1,k.clock.now.2,k.clock.field.points,k.clock.certs.next_,k.clock.certs.list,k.clock.agenda.slots.uses,k.clock.agenda.slots.used,k.clock.agenda.slots.free,k.clock.agenda.heap,k.clock.agenda.where_,k.clock.due,k.heap)
theorem K1 {k:dC} (fit:uT k.clock) (hl:k.heap.length<=1000):sM k=some (if KZ k then 0 else 8):=by
 unfold sM;rw [KV fit,aB]
 by_cases ok:bA k.clock
 case neg=>rw [if_neg ok,if_neg (fun h=>ok h.clk)];rfl
 rw [if_pos ok,bZ rfl,cond_false]
 by_cases hh:k.heap.length=k.clock.field.points.length
 case neg=>
  rw [eM (by rw [aE,aE];omega),cond_true,if_neg (fun h=>hh ?_)]
  rw [<- h.perm.length_eq];exact List.length_map ..
 rw [bZ (by rw [aE,aE];omega),cond_false,<- OD (aNT ok hh)]
 have bd:=ok.bd;have step: ∀i,i<k.heap.length->(¬(sN k.clock.field.points k.heap[i]!/\ ∀j,j<i->k.heap[j]!≠k.heap[i]!)->iF (ckS k i)=some (.done 8))/\((sN k.clock.field.points k.heap[i]!/\ ∀j,j<i->k.heap[j]!≠k.heap[i]!)->iF (ckS k i)=some (.next (ckS k (i+1)))):=by
  intro i hi;unfold ckS;unfold iF;simp only [aE,aQ (show (i:Int)<(k.heap.length:Int) by omega),cond_true,aD k.heap i hi,aB]
  by_cases h1:sN k.clock.field.points k.heap[i]!
  case neg=>
   rw [TO ok.fld h1];exact ⟨fun _=>rfl,fun h=>absurd h.1 h1⟩
  obtain ⟨m,m1,m2,m3⟩:=DY ok.fld h1;rw [m2];simp only [aB,aL (show¬(m:Int)<0 by omega),cond_false]
  have inner:=KX (body:=pG) (fun j=>((i:Int),(j:Int),k.clock.now.1,k.clock.now.2,k.clock.field.points,k.clock.certs.next_,k.clock.certs.list,k.clock.agenda.slots.uses,k.clock.agenda.slots.used,k.clock.agenda.slots.free,k.clock.agenda.heap,k.clock.agenda.where_,k.clock.due,k.heap)) i
   (fun j=>k.heap[j]!≠k.heap[i]!) (r:= .done 8) (e:= .next (((i+1:Nat):Int),k.clock.now.1,k.clock.now.2,k.clock.field.points,k.clock.certs.next_,k.clock.certs.list,k.clock.agenda.slots.uses,k.clock.agenda.slots.used,k.clock.agenda.slots.free,k.clock.agenda.heap,k.clock.agenda.where_,k.clock.due,k.heap)) (fun j hj=>by
   unfold pG;simp only [aQ (show (j:Int)<(i:Int) by omega),cond_true,aD k.heap j (by omega),aD k.heap i hi,aB,bF (show j<1000000000 by omega)]
   by_cases h:k.heap[j]! =k.heap[i]!
   · rw [fJ h];exact ⟨fun _=>rfl,fun k=>absurd h k⟩
   · rw [fO h];exact ⟨fun k=>absurd h k,fun _=>rfl⟩) (by
   unfold pG;simp only [aL (show¬(i:Int)<(i:Int) by omega),cond_false,bF (show i<1000000000 by omega)])
  have inner':=(show _=_ from inner)
  by_cases h2: ∀j,j<i->k.heap[j]!≠k.heap[i]!
  · rw [if_pos h2] at inner'
    exact ⟨fun h=>absurd ⟨h1,h2⟩ h,fun _=>inner'⟩
  · rw [if_neg h2] at inner'
    exact ⟨fun _=>inner',fun h=>absurd h.2 h2⟩
 by_cases hP: ∀i,i<k.heap.length->sN k.clock.field.points k.heap[i]!/\ ∀j,j<i->k.heap[j]!≠k.heap[i]!
 · have jus:=aGz ok (dM k.heap) (fun x hx=>by
    obtain ⟨h1,h2⟩:=GM hx;obtain ⟨i,hi,e1⟩:=aY.1 h1;obtain ⟨j,hj,e2⟩:=aY.1 h2;exact ⟨e1▸(hP i hi).1,e2▸(hP j hj).1⟩)
   have o:=KX (body:=iF) (ckS k) k.heap.length _ (r:=8) (e:=if RP k then 0 else 8) step (by
    have ceta:(aI.mk (k.clock.now.1,k.clock.now.2) (Field.mk k.clock.field.points) (aW.mk k.clock.certs.next_ k.clock.certs.list) (aG.mk (aS.mk k.clock.agenda.slots.uses k.clock.agenda.slots.used k.clock.agenda.slots.free) k.clock.agenda.heap k.clock.agenda.where_) k.clock.due)=k.clock:=rfl;unfold iF ckS
    simp only [aE,aL (show¬(k.heap.length:Int)<(k.heap.length:Int) by omega),cond_false,aAy k.heap hl,aB,ceta,jus]
    by_cases h2:k.clock.certs.list.length=(dM k.heap).length/\ ∀i,i<(dM k.heap).length->zS k.clock.certs.list (dM k.heap)[i]!/\gL (gB k.clock.field.points ((dM k.heap)[i]!).2) (gB k.clock.field.points ((dM k.heap)[i]!).1) k.clock.now
    · rw [aQ h2,if_pos (show RP k from ⟨hP,h2.1,h2.2⟩)];rfl
    · rw [aL h2,if_neg (fun h:RP k=>h2 ⟨h.2.1,h.2.2⟩)];rfl)
   refine (show _=_ from o).trans ?_;rw [if_pos hP]
 · rw [if_neg (fun h:RP k=>hP h.1)]
   exact aGA (body:=iF) (ckS k) k.heap.length _ (r:=8) step hP
end Go.Proofs.YtmlghnibpjlchaaGreat
namespace Go.Proofs.YtmlghnibpjlchaaGreat
open Go.Vm Classical
def V2 (c:aI) (to:Int×Int):Prop:=0<c.agenda.heap.length/\oM (Ev.at c.agenda.heap[0]!) to<=0
theorem K2 {c:aI} (ok:bA c) {to:Int×Int} (rt:bO to) (r64:nT to) (le: ¬oM to c.now<0):sE c to=some (decide (V2 c to),0):=by
 unfold sE;rw [mI ok.fit,if_pos ok,aB,dG r64,if_pos rt,aB,bZ (by decide),cond_false,GC r64 ok.now64,if_pos ⟨rt,ok.nowv⟩,aB,aL le,cond_false]
 unfold DP;rw [iP _ ok.fit.ag,if_pos ok.agd,aB,bZ rfl,cond_false]
 by_cases h:0<c.agenda.heap.length
 · have ev:=ok.agd.ev 0 h
   have g:=aD c.agenda.heap 0 h;rw [show ((0:Nat):Int)=0 from rfl] at g;rw [fO (by rw [aE];omega),cond_false,g,aB,aB,bZ rfl,cond_false,GC ev.2.1 r64,if_pos ⟨ev.1,rt⟩,aB]
   congr 2
   by_cases h2:oM (Ev.at c.agenda.heap[0]!) to<=0
   · rw [aQ (show V2 c to from ⟨h,h2⟩),aQ h2]
   · rw [aL (fun k:V2 c to=>h2 k.2),aL h2]
 · rw [fJ (by rw [aE];omega),cond_true,aB,aL (fun k:V2 c to=>h k.1)]
   rfl
theorem K3 {c:aI} (ok:bA c) {to:Int×Int} (r64:nT to):vY c to=some (decide (V2 c to)):=by
 unfold vY;simp only [aE]
 by_cases h:0<c.agenda.heap.length
 · have ev:=ok.agd.ev 0 h
   have g:=aD c.agenda.heap 0 h;rw [show ((0:Nat):Int)=0 from rfl] at g;rw [aQ (by omega),cond_true,g,aB,uP ev.2.1 r64,aB]
   congr 1
   by_cases h2:oM (Ev.at c.agenda.heap[0]!) to<=0
   · rw [aQ (show V2 c to from ⟨h,h2⟩),aQ h2]
   · rw [aL (fun k:V2 c to=>h2 k.2),aL h2]
 · rw [aL (by omega),cond_false,aL (fun k:V2 c to=>h k.1)]
theorem RQ {c:aW} (ok:dO c) {i:Nat} (hi:i<c.list.length):JZ c (c.list[i]!).1=some (i:Int):=by
 have hl:=ok.len;have k:=iZ (body:=vZ) (fun j=>((c.list[i]!).1,(j:Int),c.next_,c.list)) c.list.length (fun j=>(c.list[j]!).1=(c.list[i]!).1) (fun j=>(j:Int)) (e:= -1) (fun j hj=>by
  unfold vZ;simp only [aE,aQ (show (j:Int)<(c.list.length:Int) by omega),cond_true,aD c.list j hj,aB,bF (show j<1000000000 by omega)]
  refine ⟨fun h=>?_,fun h=>?_⟩
  · rw [fJ h];rfl
  · rw [fO h];rfl) (by
  unfold vZ;simp only [aE,aL (show¬(c.list.length:Int)<(c.list.length:Int) by omega),cond_false])
 exact k.1 i hi rfl fun j hj e=>by have:=ok.up j i hj hi;omega
abbrev atT (c:aI) (t:Int×Int):aI:=⟨t,c.field,c.certs,c.agenda,c.due⟩
theorem aAC {c:aI} (ok:bA c) {to:Int×Int} (rt:bO to) (r64:nT to) (le: ¬oM to c.now<0) (due:V2 c to):
 ∃(x:Int×Int) (c1:aI),qI c to=some (c1,c.agenda.heap[0]!,x,0)/\pI c=some (c1,c.agenda.heap[0]!,x)/\bA c1/\c1.field=c.field/\lM c.field.points x/\lQ c1=lQ c+1/\c1.now=Ev.at c.agenda.heap[0]!:=by
 obtain ⟨i,c',hi,num,r1,r2,ok1,hf,hc,_⟩:=TV ok due.1;have g:=aD c.agenda.heap 0 due.1;rw [show ((0:Nat):Int)=0 from rfl] at g;have hcl:c'.certs.list.length=c.certs.list.length-1:=by
  rw [hc];exact List.length_eraseIdx_of_lt hi
 have hcn:c'.certs.next_=c.certs.next_:=by rw [hc];rfl
 refine ⟨(c.certs.list[i]!).2,atT c' (Ev.at c.agenda.heap[0]!),?_,?_,ok1,hf,ok.known i hi,?_,rfl⟩
 · unfold qI
   rw [K2 ok rt r64 le,aB,fJ rfl,cond_true,aQ due,Bool.not_true,cond_false,bZ rfl,cond_false,g,aB,r1,aB,bZ rfl,cond_false]
 · unfold pI
   rw [g,aB,show (c.agenda.heap[0]!).2.2.1=(c.certs.list[i]!).1 from num.symm,RQ ok.crt hi,aB,aD c.certs.list i hi,aB,num,r2,aB]
 · unfold lQ
   show c'.certs.next_- (c'.certs.list.length:Int)=_;rw [hcl,hcn];omega
theorem aAD {c:aI} (ok:bA c) {to:Int×Int} (rt:bO to) (r64:nT to) (le: ¬oM to c.now<0) (due: ¬V2 c to):qI c to=some (fN,(0,0,0,0,0),(0,0),6):=by
 unfold qI;rw [K2 ok rt r64 le,aB,fJ rfl,cond_true,aL due];rfl
theorem aGB {c:aI} (ok:bA c) {to:Int×Int} (rt:bO to) (r64:nT to) (le: ¬oM to c.now<0) (due: ¬V2 c to):zF c to=some (atT c to,0):=by
 unfold zF;rw [K2 ok rt r64 le,aB,fJ rfl,cond_true,aL due,cond_false,bZ rfl,cond_false,jI ok,aB]
theorem aAE {c:aI} (ok:bA c) (to:Int×Int):wD c to=some (atT c to):=by
 unfold wD;rw [hJ ok,aB]
theorem TW {f:List Pt} (fok:eV f) {l:List Int} (pm:(uW f).Perm l):HX f (dM l):=by
 have nd:=pm.nodup_iff.1 (GO fok.2.2);have f1:=fok.1;have ln:l.length=f.length:=by rw [<- pm.length_eq];exact List.length_map ..
 have hp: ∀e∈dM l,lM f e:=fun e he=>⟨wI.1 (pm.mem_iff.2 (GM he).1),wI.1 (pm.mem_iff.2 (GM he).2)⟩
 refine ⟨by rw [qR];omega,fun e he=>?_,hp⟩
 obtain ⟨⟨p1,p2⟩,q1,q2⟩:=And.intro (fU fok (hp e he).1) (fU fok (hp e he).2);have ne:=aAz nd he;unfold fZ at p1 q1;unfold iL;omega
def uX (l:List Int) (i j:Nat):List Int:=(l.set i l[j]!).set j l[i]!
theorem GP {l:List Int} {i j:Nat} (hi:i<l.length) (hj:j<l.length):(uX l i j).Perm l:=by
 unfold uX;rw [getElem!_pos l i hi,getElem!_pos l j hj];exact List.set_set_perm hi hj
theorem XQ {c : aI} (ok : bA c) {l : List Int} (pm : (uW c.field.points).Perm l) {to : Int × Int} (rt : bO to) (r64 : nT to) (le : ¬ oM to c.now < 0) (due : V2 c to) :
    ∃ (x : Int × Int) (c1 : aI) (i j : Nat) (r : aI × Int), i < l.length /\ j < l.length /\ pI c = some (c1, c.agenda.heap[0]!, x) /\ mD l x.1 = some (i : Int) /\ mD l x.2 = some (j : Int) /\
      lJ c1 c1.field (dM (uX l i j)) = some r /\ oE ⟨c, l⟩ to = some (⟨r.1, uX l i j⟩, x, r.2) /\ (uW c.field.points).Perm (uX l i j) /\
      (r.2 = 0 /\ bA r.1 /\ r.1.field.points = c.field.points /\ r.1.now = Ev.at c.agenda.heap[0]! /\ lQ c + 1 <= lQ r.1 \/ r = (fN, 18)) := by
  obtain ⟨x, c1, f1, f2, ok1, hf, hb, hr, hn⟩ := aAC ok rt r64 le due
  have bd := ok.bd
  have ln : l.length = c.field.points.length := by rw [<- pm.length_eq]; exact List.length_map ..
  obtain ⟨i, i1, i2, i3, i4⟩ := GN (l := l) (by omega) (pm.mem_iff.1 (wI.2 hb.1))
  obtain ⟨j, j1, j2, j3, j4⟩ := GN (l := l) (by omega) (pm.mem_iff.1 (wI.2 hb.2))
  have pm' : (uW c.field.points).Perm (uX l i j) := pm.trans (GP i1 j1).symm
  have sl : (uX l i j).length = l.length := (GP i1 j1).length_eq
  have fok := ok1.fld
  obtain ⟨r, r1, r2, r3⟩ := aGx ok1 fok (es := dM (uX l i j)) (TW fok (by rw [hf]; exact pm'))
  refine ⟨x, c1, i, j, r, i1, j1, f2, i4, j4, r2, ?_, pm', r3.imp (fun ⟨q, k⟩ => ⟨q, k.ok, by rw [k.fld, hf], by rw [k.now, hn], by have := k.room; omega⟩) id⟩
  unfold oE
  rw [f1, aB, bZ rfl, cond_false, bC (show l.length <= 1048576 by omega), aB, i3, aB, j3, aB, aD l j j1, aB, aD l i i1, aB, aB]
  rw [nC, aD _ j (by rw [List.length_set]; exact j1), aB, nC]
  show (oB (uX l i j)).bind _ = _
  rw [KY _ (by omega), aB]
  show (sG c1 ⟨c1.field.points⟩ (dM (uX l i j))).bind _ = _
  rw [r1, aB]
  rfl
theorem XS {c:aI} (ok:bA c) (l:List Int) {to:Int×Int} (rt:bO to) (r64:nT to) (le: ¬oM to c.now<0) (due: ¬V2 c to):oE ⟨c,l⟩ to=some (⟨fN,[]⟩,(0,0),6):=by
 unfold oE;rw [aAD ok rt r64 le due,aB];rfl
def aP (c:aI) (l:List Int) (to:Int×Int) (out:List (Int×Int)):=
 (c.now.1,c.now.2,c.field.points,c.certs.next_,c.certs.list,c.agenda.slots.uses,c.agenda.slots.used,c.agenda.slots.free,c.agenda.heap,c.agenda.where_,c.due,l,to.1,to.2,(0:Int),(0:Int),(0:Int),out)
def aR (c:aI) (l:List Int) (to:Int×Int) (out:List (Int×Int)):=
 (to.1,to.2,(0:Int),(0:Int),(0:Int),c.now.1,c.now.2,c.field.points,c.certs.next_,c.certs.list,c.agenda.slots.uses,c.agenda.slots.used,c.agenda.slots.free,c.agenda.heap,c.agenda.where_,c.due,l,out)
theorem OE {c:aI} (ok:bA c): -200<=lQ c/\lQ c<=1000000:=by
 have h1:=ok.crt.len;have h2:=ok.crt.n0;have h3:=ok.crt.n1;unfold lQ;omega
structure K4 (r:dC×List (Int×Int)×Int):Prop where
 c:C0 r.1.clock
 h:r.1.heap.length<=1000000
 l:r.2.1.length<=1048576
theorem FF {to:Int×Int} (rt:bO to) (r64:nT to) (d:Int)
 (ih: ∀(c:aI) (l:List Int) (out:List (Int×Int)),1000000-lQ c<d->bA c->(uW c.field.points).Perm l-> ¬oM to c.now<0->(out.length:Int)<=lQ c+200->
  ∃r:dC×List (Int×Int)×Int,aJ eS (aP c l to out)=some r/\aJ fY (aR c l to out)=some r/\K4 r)
 (c:aI) (l:List Int) (out:List (Int×Int)) (hd:1000000-lQ c<=d) (ok:bA c) (pm:(uW c.field.points).Perm l) (le: ¬oM to c.now<0) (ho:(out.length:Int)<=lQ c+200):
 ∃r:dC×List (Int×Int)×Int,aJ eS (aP c l to out)=some r/\aJ fY (aR c l to out)=some r/\K4 r:=by
 have bd:=ok.bd;have rb:=OE ok;have ln:l.length=c.field.points.length:=by rw [<- pm.length_eq];exact List.length_map ..
 have ceta:(aI.mk (c.now.1,c.now.2) (Field.mk c.field.points) (aW.mk c.certs.next_ c.certs.list) (aG.mk (aS.mk c.agenda.slots.uses c.agenda.slots.used c.agenda.slots.free) c.agenda.heap c.agenda.where_) c.due)=c:=rfl
 by_cases due:V2 c to
 · obtain ⟨x,c1,i,j,r,hi,hj,e1,e2,e3,e4,e5,e6,e7⟩:=XQ ok pm rt r64 le due
   have ol:bT out [x]=some (out++[x]):=fG (by rw [List.length_singleton];omega)
   have sl:(uX l i j).length=l.length:=(GP hi hj).length_eq;rcases e7 with ⟨q0,q1,q2,q3,q4⟩|he
   · have s1:eS (aP c l to out)=some (.next (aP r.1 (uX l i j) to (out++[x]))):=by
      unfold eS aP;simp only [ceta,e5,aB,q0,show ((0:Int)==6)=false from rfl,cond_false,show ((0:Int) !=0)=false from rfl,ol]
     have s2:fY (aR c l to out)=some (.next (aR r.1 (uX l i j) to (out++[x]))):=by
      unfold fY aR;simp only [ceta,K3 ok r64,aQ due,aB,cond_true,e1,e2,e3,aD l j hj,aD l i hi,nC,aD (l.set i l[j]!) j (by rw [List.length_set];exact hj)]
      rw [show (l.set i l[j]!).set j l[i]! =uX l i j from rfl,aAy _ (by omega),aB,e4,aB,q0]
      simp only [show ((0:Int) !=0)=false from rfl,cond_false,ol,aB]
     rw [bB s1,bB s2];refine ih r.1 _ _ (by omega) q1 (by rw [q2];exact e6) (fun h=>?_) (by rw [List.length_append,List.length_singleton];omega)
     have h2:=due.2;rw [q3,HS] at h
     have: ¬0<oM (Ev.at c.agenda.heap[0]!) to:=by omega
     unfold oM at this;rcases eO ((Ev.at c.agenda.heap[0]!).1*to.2) (to.1*(Ev.at c.agenda.heap[0]!).2) with ⟨a,b⟩|⟨a,b⟩|⟨a,b⟩<;>omega
   · refine ⟨(⟨fN,[]⟩,[],18),aM ?_,aM ?_,⟨C1,by decide,by decide⟩⟩
     · unfold eS aP
       simp only [ceta,e5,aB,he,show ((18:Int)==6)=false from rfl,cond_false,show ((18:Int) !=0)=true from rfl,cond_true]
     · unfold fY aR
       simp only [ceta,K3 ok r64,aQ due,aB,cond_true,e1,e2,e3,aD l j hj,aD l i hi,nC,aD (l.set i l[j]!) j (by rw [List.length_set];exact hj)]
       rw [show (l.set i l[j]!).set j l[i]! =uX l i j from rfl,aAy _ (by omega),aB,e4,aB,he]
       simp only [show ((18:Int) !=0)=true from rfl,cond_true]
 · refine ⟨(⟨atT c to,l⟩,out,0),aM ?_,aM ?_,⟨?_,?_,?_⟩⟩
   · unfold eS aP
     simp only [ceta,XS ok l rt r64 le due,aB,show ((6:Int)==6)=true from rfl,cond_true,aGB ok rt r64 le due,bC (show l.length<=1048576 by omega)]
   · unfold fY aR
     simp only [ceta,K3 ok r64,aL due,aB,cond_false,aAE ok]
   · have:=ok.short
     exact ⟨this.f,this.l,this.d,this.h,this.w,this.s1,this.s2,this.s3⟩
   · show l.length<=1000000
     omega
   · show out.length<=1048576
     omega
theorem TX {to:Int×Int} (rt:bO to) (r64:nT to): ∀(d:Nat) (c:aI) (l:List Int) (out:List (Int×Int)),1000000-lQ c<=(d:Int)->bA c->(uW c.field.points).Perm l-> ¬oM to c.now<0->(out.length:Int)<=lQ c+200->
 ∃r:dC×List (Int×Int)×Int,aJ eS (aP c l to out)=some r/\aJ fY (aR c l to out)=some r/\K4 r:=by
 intro d
 induction d with
 |zero=>
  intro c l out hd ok pm le ho;exact FF rt r64 0 (fun c _ _ h ok _ _ _=>by have:=(OE ok).2;omega) c l out hd ok pm le ho
 |succ d ih=>exact fun c l out hd ok pm le ho=>FF rt r64 ((d+1:Nat):Int) (fun c l out h=>ih c l out (by omega)) c l out hd ok pm le ho
end Go.Proofs.YtmlghnibpjlchaaGreat
namespace Go.Proofs.YtmlghnibpjlchaaGreat
open Go.Vm Classical
theorem OF {k:dC} (n:aAw k.clock) (sh:C0 k.clock) (hl:k.heap.length<=1000) {to:Int×Int} (r64:nT to):
 ∃r:dC×List (Int×Int)×Int,jD k to=some r/\jG k to=some r/\K4 r:=by
 have fit:uT k.clock:=⟨n.now,⟨sh.s3,sh.h,sh.w,n.at64⟩,sh.d⟩;have bad: ∀e:Int,K4 (⟨fN,[]⟩,[],e):=fun e=>⟨C1,Nat.zero_le _,Nat.zero_le _⟩
 have c1:=K0 fit hl;have c2:=K1 fit hl
 by_cases ok:KZ k
 case neg=>
  rw [if_neg ok] at c1 c2;refine ⟨(⟨fN,[]⟩,[],8),?_,?_,bad 8⟩
  · unfold jD
    rw [c1];rfl
  · unfold jG
    rw [c2];rfl
 rw [if_pos ok] at c1 c2
 by_cases rt:bO to
 case neg=>
  have u:iY k.clock to=some 8:=by
   unfold iY;rw [mF r64,if_neg rt];rfl
  refine ⟨(⟨fN,[]⟩,[],8),?_,?_,bad 8⟩
  · unfold jD
    rw [c1,aB,bZ rfl,cond_false,dG r64,if_neg rt];rfl
  · unfold jG
    rw [c2,aB,bZ rfl,cond_false,u];rfl
 by_cases le:oM to k.clock.now<0
 · have u:iY k.clock to=some 44:=by
    unfold iY;rw [mF r64,if_pos rt,aB,bZ rfl,cond_false,uP r64 n.now,aB,aQ le];rfl
   refine ⟨(⟨fN,[]⟩,[],44),?_,?_,bad 44⟩
   · unfold jD
     rw [c1,aB,bZ rfl,cond_false,dG r64,if_pos rt,aB,bZ rfl,cond_false,GC r64 n.now,if_pos ⟨rt,ok.clk.nowv⟩,aB,aQ le];rfl
   · unfold jG
     rw [c2,aB,bZ rfl,cond_false,u];rfl
 · have u:iY k.clock to=some 0:=by
    unfold iY;rw [mF r64,if_pos rt,aB,bZ rfl,cond_false,uP r64 n.now,aB,aL le];rfl
   have rb:=OE ok.clk;obtain ⟨r,r1,r2,r3⟩:=TX rt r64 (1000000-lQ k.clock).toNat k.clock k.heap [] (by omega) ok.clk ok.perm le (by simp;omega)
   refine ⟨r,?_,?_,r3⟩
   · unfold jD
     rw [c1,aB,bZ rfl,cond_false,dG r64,if_pos rt,aB,bZ rfl,cond_false,GC r64 n.now,if_pos ⟨rt,ok.clk.nowv⟩,aB,aL le];exact r1
   · unfold jG
     rw [c2,aB,bZ rfl,cond_false,u,aB,bZ rfl,cond_false];unfold DT;rw [bC (show k.heap.length<=1048576 by omega),aB]
     show (aJ fY (aR k.clock k.heap to [])).bind _=_;rw [r2,aB]
theorem aAF (l:List Int) (hl:l.length<=1000000):rJ l l=some true:=by
 unfold rJ;rw [bZ rfl,cond_false]
 have:=eE (body:=mO) (fun i=>(l,l,(i:Int))) l.length (fun i hi=>by
  unfold mO;simp only [aE,aQ (show (i:Int)<(l.length:Int) by omega),cond_true,aD l i hi,aB,bZ rfl,cond_false,bF (show i<1000000000 by omega)])
 rw [show (l,l,(0:Int))=(l,l,((0:Nat):Int)) from rfl,this];refine aM ?_;unfold mO;simp only [aE,aL (show¬(l.length:Int)<(l.length:Int) by omega),cond_false]
theorem TY (l:List (Int×Int)) (hl:l.length<=1048576):nK l l=some true:=by
 unfold nK;rw [bZ rfl,cond_false]
 have:=eE (body:=kW) (fun i=>(l,l,(i:Int))) l.length (fun i hi=>by
  unfold kW;simp only [aE,aQ (show (i:Int)<(l.length:Int) by omega),cond_true,aD l i hi,aB,fJ rfl,Bool.and_self,Bool.not_true,cond_false,bF (show i<1000000000 by omega)])
 rw [show (l,l,(0:Int))=(l,l,((0:Nat):Int)) from rfl,this];refine aM ?_;unfold kW;simp only [aE,aL (show¬(l.length:Int)<(l.length:Int) by omega),cond_false]
theorem ML {k:dC} (sh:C0 k.clock) (hl:k.heap.length<=1000000):uN k k=some true:=by
 unfold uN;rw [TR sh,aB,cond_true,aAF _ hl,aB]
theorem XT {k:dC} (sh:C0 k.clock) (hl:k.heap.length<=1000000):uF k=some k:=by
 unfold uF;rw [TS sh,aB,bC (by omega),aB]
theorem TZ (k:dC):sC k=some true\/(sC k=some false/\C0 k.clock/\k.heap.length<=70):=by
 unfold sC
 rcases RI k.clock with e|⟨e,sh⟩
 · rw [e];exact .inl rfl
 rw [e,aB,cond_false,aE]
 by_cases h:70<k.heap.length
 · rw [aQ (by omega)];exact .inl rfl
 · rw [aL (by omega)];exact .inr ⟨rfl,sh,by omega⟩
theorem xB (k:dC) (to:Int×Int) (n:aAw k.clock) (r64:nT to):mT k to=some true:=by
 unfold mT;rcases TZ k with e|⟨e,sh,hl⟩
 · rw [e];rfl
 rw [e,aB,cond_false];unfold DN;rw [aB];cases decide (10<Int.ofNat k.clock.field.points.length) with
 |true=>rfl
 |false=>
  obtain ⟨r,r1,r2,r3⟩:=OF n sh (by omega) r64
  rw [cond_false,XT sh (by omega),aB,r1,aB,r2,aB,ML r3.c r3.h,aB,cond_true,TY _ r3.l,aB,cond_true,fJ rfl,cond_true,ML sh (by omega),aB]
end Go.Proofs.YtmlghnibpjlchaaGreat
