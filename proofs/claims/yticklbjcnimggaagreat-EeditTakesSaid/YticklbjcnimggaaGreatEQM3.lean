/- Plain laws (3). -/
import Derived.Test.YticklbjcnimggaaGreatEQM2
import Derived.Test.YticklbjcnimggaaGreatEVm3
namespace Go.Proofs.YticklbjcnimggaaGreat
open Go.Vm Classical
theorem SK (c:aP) (n:Int) (hl:c.due.length<=1000000):(∀k,k<c.due.length->(c.due[k]!).1=n->(∀j,j<k->(c.due[j]!).1≠n)->pH c n=some (k:Int))/\((∀k,k<c.due.length->(c.due[k]!).1≠n)->pH c n=some (-1)):=by
 unfold pH;refine mX (body:=qG) (fun i=>(n,(i:Int),c.now.1,c.now.2,c.field.points,c.certs.next_,c.certs.list,c.agenda.slots.uses,c.agenda.slots.used,c.agenda.slots.free,c.agenda.heap,c.agenda.where_,c.due)) c.due.length (fun i=>(c.due[i]!).1=n) (fun i=>(i:Int)) (fun i hi=>?_) ?_
 · have e1:decide ((i:Int)<(c.due.length:Int))=true:=aM (by omega)
   unfold qG;simp only [aE,e1,cond_true,aC c.due i hi,aD,aY (show i<1000000000 by omega)]
   constructor
   · intro h;rw [gX h];rfl
   · intro h;rw [fW h];rfl
 · unfold qG
   have:decide ((c.due.length:Int)<(c.due.length:Int))=false:=aJ (by omega)
   simp only [aE,this,cond_false]
theorem NM {ds:List tU} (hu:Up ds) (hl:ds.length<=1000000) (n:Int):(∀k,k<ds.length->(ds[k]!).1=n->pB ds n=some ((k:Int),true))/\((∀k,k<ds.length->(ds[k]!).1≠n)-> ∃m:Nat,pB ds n=some ((m:Int),false)):=by
 have bs:=DH ds n hl (uN.1 hu);unfold pB;rw [aNa];constructor
 · intro k hk he;rw [bs.1 k hk he];rfl
 · intro h
   obtain ⟨m,_,_,_,e⟩:=bs.2 h;exact ⟨m,by rw [e];rfl⟩
theorem bE.bd {c:aP} (ok:bE c):c.due.length<=200/\c.field.points.length<=64/\c.certs.list.length<=200:=by
 have:=ok.hd;have:=ok.agd.bd;have:=ok.fld.1;have:=ok.crt.len
 omega
theorem jS {c:aP} (ok:bE c):iK c=some c:=by
 have bd:=ok.bd;unfold iK oS oT;simp only [aZ (show c.field.points.length<=1048576 by omega),aZ (show c.certs.list.length<=1048576 by omega),aZ (show c.due.length<=1048576 by omega),aD,sL ok.agd]
theorem mD {c:aP} (ok:bE c):mR c=some c:=by
 have bd:=ok.bd;have ab:=ok.agd.bd;have hl:=ok.agd.so.fl;have hn:=ok.agd.so.n2;have hu:=ok.agd.so.ul;unfold mR;simp only [aZ (show c.field.points.length<=1048576 by omega),aZ (show c.certs.list.length<=1048576 by omega),aZ (show c.due.length<=1048576 by omega),aZ (show c.agenda.heap.length<=1048576 by omega),aZ (show c.agenda.where_.length<=1048576 by omega),
  aZ (show c.agenda.slots.uses.length<=1048576 by omega),aZ (show c.agenda.slots.used.length<=1048576 by omega),aZ (show c.agenda.slots.free.length<=1048576 by omega),aD]
theorem AU {cs:List tU} {i:Nat} (hu:Up cs) (hi:i<cs.length) {x:tU} (hx:x∈cs.eraseIdx i):x∈cs/\x.1≠(cs[i]!).1:=by
 rw [vW,List.mem_append] at hx;have ub:=uN.1 hu;rcases hx with hx|hx
 · obtain ⟨j,h1,h2,rfl⟩:=cF.1 hx
   have:=ub j i h1 hi
   exact ⟨bG h2,by omega⟩
 · obtain ⟨j,hj,rfl⟩:=bD.1 hx
   rw [List.length_drop] at hj;rw [uS]
   have:=ub i (i+1+j) (by omega) (by omega)
   exact ⟨bG (by omega),by omega⟩
theorem IL {c:aP} (ok:bE c) (i:Nat) (hi:i<c.certs.list.length): ∀j,j<(oN c.certs i).list.length->jR c.field.points ((oN c.certs i).list[j]!).2:=by
 intro j hj;have hm:(oN c.certs i).list[j]!∈c.certs.list:=(AU ok.crt_up hi (bG hj)).1;obtain ⟨m,hm1,hm2⟩:=bD.1 hm;rw [<- hm2];exact ok.known m hm1
theorem aNb {c:aP} (ok:bE c) {i:Nat} (hi:i<c.certs.list.length):
 ∃c':aP,rE c (c.certs.list[i]!).1=some (c',(c.certs.list[i]!).2,0)/\vP c (c.certs.list[i]!).1=some c'/\bE c'/\c'.field=c.field/\c'.now=c.now/\c'.certs=oN c.certs i:=by
 have bd:=ok.bd;have rm:=LX ok.crt hi (n:=(c.certs.list[i]!).1) rfl;have wo:=HP ok.crt hi (n:=(c.certs.list[i]!).1) rfl;have fe:=ok.fol.erase (i:=i) hi;have pd:=NM ok.due_up (by omega) (c.certs.list[i]!).1
 have da:=SK c (c.certs.list[i]!).1 (by omega)
 cases hf:(bI c.field.points (c.certs.list[i]!).2 c.now).2 with
 |false=>
  have no: ∀k,k<c.due.length->(c.due[k]!).1≠(c.certs.list[i]!).1:=by
   intro k hk he;obtain ⟨x,hx,h1,h2,_⟩:=ok.fol.due _ (bG hk);obtain ⟨j,hj,rfl⟩:=bD.1 hx;have ub:=uN.1 ok.crt_up
   have:j=i:=by
    rcases Nat.lt_trichotomy j i with h|h|h
    · have:=ub j i h hi;omega
    · exact h
    · have:=ub i j h hj;omega
   rw [this,hf] at h2;cases h2
  refine ⟨⟨c.now,c.field,oN c.certs i,c.agenda,c.due⟩,?_,?_,?_,rfl,rfl,rfl⟩
  · unfold rE
    obtain ⟨m,e⟩:=pd.2 no;simp only [rm,aD,show ((0:Int) !=0)=false from rfl,cond_false,mD ok,e]
  · unfold vP
    simp only [jS ok,aD,wo,da.2 no,aJ (show¬(0:Int)<= -1 by omega),cond_false]
  · exact ⟨ok.nowv,ok.now64,ok.fld,LW ok.crt hi,ok.agd,ok.w200,ok.hd,IL ok i hi,fe.1 hf⟩
 |true=>
  obtain ⟨k,hk,k1,k2,k3⟩:=fe.2 hf;obtain ⟨w,hw,hev⟩:=bD.1 k2;have hh:(c.agenda.heap[w]!).2.2.2=(c.due[k]!).2:=by rw [hev]
  have ub:=uN.1 ok.due_up;have before: ∀j,j<k->(c.due[j]!).1≠(c.certs.list[i]!).1:=fun j hj he=>by have:=ub j k hj hk;omega
  have dl:(c.due.eraseIdx k).length=c.due.length-1:=PH hk;obtain ⟨L,d1,d2⟩:=CJ c.due k hk;refine ⟨⟨c.now,c.field,oN c.certs i,eB c.agenda w,c.due.eraseIdx k⟩,?_,?_,?_,rfl,rfl,rfl⟩
  · unfold rE
    simp only [rm,aD,show ((0:Int) !=0)=false from rfl,cond_false,mD ok,pd.1 k hk k1,cond_true,aC c.due k hk,yX ok.agd hw ok.agd.fit hh,aY (show k<1000000000 by omega),UU,d1,d2]
  · unfold vP
    have s1:iI c.due 0 (k:Int)=some (c.due.take k):=nO c.due k (by omega)
    have s2:iI c.due ((k+1:Nat):Int) (c.due.length:Int)=some (c.due.drop (k+1)):=by
     unfold iI;rw [if_pos ⟨by omega,by omega,by omega⟩]
     simp only [Int.toNat_natCast];rw [List.take_of_length_le (by rw [List.length_drop];exact Nat.le_refl _)]
    have tl:(c.due.take k).length=k:=by rw [List.length_take];omega
    have dl2:(c.due.drop (k+1)).length=c.due.length- (k+1):=List.length_drop;simp only [jS ok,aD,wo,da.1 k hk k1 before,aM (show (0:Int)<=(k:Int) by omega),cond_true,aC c.due k hk,yY ok.agd hw hh,s1,aZ (show (c.due.take k).length<=1048576 by omega),aY (show k<1000000000 by omega),aE,s2,
     cV (show (c.due.take k).length+(c.due.drop (k+1)).length<=1048576 by omega),vW]
    cases hem:(c.due.drop (k+1)).isEmpty with
    |true=>
     rw [List.isEmpty_iff] at hem;rw [hem,List.append_nil];rfl
    |false=>rfl
  · have rem:=HM ok.agd hw
    have rmem:=LT ok.agd hw;have hlen:(eB c.agenda w).heap.length=c.agenda.heap.length-1:=by
     have h1:=rem.hl;have h2:=ok.agd.hl;have h3:(eB c.agenda w).slots=fK c.agenda.slots (c.agenda.heap[w]!).2.2.2:=by unfold eB;split<;>rfl
     rw [h3] at h1;change _+(c.agenda.slots.free++[_]).length=c.agenda.slots.uses.length at h1;rw [List.length_append] at h1;simp only [List.length_cons,List.length_nil] at h1;omega
    have wlen:(eB c.agenda w).where_.length=200:=by
     have h1:=rem.wl;have h3:(eB c.agenda w).slots=fK c.agenda.slots (c.agenda.heap[w]!).2.2.2:=by unfold eB;split<;>rfl
     rw [h3] at h1;change _=c.agenda.slots.uses.length at h1;rw [h1,<- ok.agd.wl,ok.w200]
    refine ⟨ok.nowv,ok.now64,ok.fld,LW ok.crt hi,rem,wlen,?_,IL ok i hi,?_⟩
    · show (eB c.agenda w).heap.length=(c.due.eraseIdx k).length
      rw [hlen,dl,ok.hd]
    · refine k3.mono fun x hx e he hm=>(rmem e).2 ⟨hm,fun h=>?_⟩
      have:=(AU ok.crt_up hi hx).2
      rw [h,hev] at he;exact this he.symm
theorem IX {c:aP} (ok:bE c) {i:Nat} (_hi:i<c.certs.list.length) {c':aP} (h:rE c (c.certs.list[i]!).1=some (c',(c.certs.list[i]!).2,0)):uJ c (c.certs.list[i]!).1=some (c',0):=by
 unfold uJ;rw [nB ok.fit,if_pos ok];simp only [aD,show ((0:Int) !=0)=false from rfl,cond_false,h]
end Go.Proofs.YticklbjcnimggaaGreat
namespace Go.Proofs.YticklbjcnimggaaGreat
open Go.Vm Classical
abbrev dN:aP:=⟨(0,0),⟨[]⟩,⟨0,[]⟩,⟨⟨[],[],[]⟩,[],[]⟩,[]⟩
theorem PI {l:List Pt} (ok:cD l) {id:Int} (h:xX l id): ¬(mH l id).1<0:=by
 obtain ⟨h1,_⟩:=jG ok h
 have:=h1.1
 omega
theorem aHh {c:aP} (ok:bE c) {x:Int×Int} (hx:fI x) (hb:jR c.field.points x) (hn: ¬vX c.certs.list x):
 (iE c x=some (dN,0,18)/\lB c x=some (dN,0,18)/\(GF c.certs\/ ¬A8 c.agenda.slots))\/
 ∃c':aP,iE c x=some (c',c.certs.next_,0)/\lB c x=some (c',c.certs.next_,0)/\bE c'/\c'.field=c.field/\c'.now=c.now/\c'.certs=qK c.certs x/\(c'.agenda.slots=c.agenda.slots\/c'.agenda.slots=gP c.agenda.slots):=by
 have bd:=ok.bd;have n0:=ok.crt.n0;have n1:=ok.crt.n1;have fit:=ok.fit;have ad:=SF ok.crt hx;have rd:=PG ok.crt hx;rw [if_neg hn] at ad rd;have hc:gL c=some 0:=by rw [nB fit,if_pos ok]
 have p1:=nA ok.fld x.1;have p2:=nA ok.fld x.2;have q1:=PI ok.fld hb.1;have q2:=PI ok.fld hb.2;have wh:=xY ok.fld hx ok.nowv ok.now64;rw [if_pos hb] at wh;have rw':=xZ ok.fld ok.now64 hb
 by_cases hf:GF c.certs
 · rw [if_pos hf] at ad rd
   left;refine ⟨?_,?_,.inl hf⟩
   · unfold iE dC
     simp only [hc,aD,show ((0:Int) !=0)=false from rfl,cond_false,ad,show ((18:Int)==8)=false from rfl,p1,p2,aJ q1,aJ q2,show ((18:Int) !=0)=true from rfl,cond_true]
   · unfold lB
     simp only [rd,aD,show ((18:Int) !=0)=true from rfl,cond_true]
 rw [if_neg hf] at ad rd;have cok:=UW ok.crt hx hn hf;have known': ∀j,j<(qK c.certs x).list.length->jR c.field.points ((qK c.certs x).list[j]!).2:=by
  intro j hj;rw [DI] at hj;rw [vY]
  by_cases h:j<c.certs.list.length
  · rw [if_pos h];exact ok.known j h
  · rw [if_neg h,if_pos (by omega)];exact hb
 have fresh: ∀e∈c.agenda.heap,Ev.num e≠c.certs.next_:=by
  intro e he hne;obtain ⟨d,hd,h1⟩:=ok.nums e he;obtain ⟨y,hy,h2,_⟩:=ok.fol.due d hd;obtain ⟨j,hj,rfl⟩:=bD.1 hy
  have:=(ok.crt.nr j hj).2
  omega
 have sn:=ok.fol.snoc (x:=(c.certs.next_,x));cases hw:(bI c.field.points x c.now).2 with
 |false=>
  right;refine ⟨⟨c.now,c.field,qK c.certs x,c.agenda,c.due⟩,?_,?_,⟨ok.nowv,ok.now64,ok.fld,cok,ok.agd,ok.w200,ok.hd,known',sn.1 hw⟩,rfl,rfl,rfl,.inl rfl⟩
  · unfold iE dC
    simp only [hc,aD,show ((0:Int) !=0)=false from rfl,cond_false,ad,show ((0:Int)==8)=false from rfl,p1,p2,aJ q1,aJ q2,mD ok,wh,hw]
  · unfold lB
    simp only [rd,aD,show ((0:Int) !=0)=false from rfl,cond_false,jS ok,rw',hw,Bool.not_false,cond_true]
 |true=>
  obtain ⟨t1,t2⟩:=LB (jG ok.fld hb.2).1 (jG ok.fld hb.1).1 ok.now64 ok.nowv hw
  by_cases op:A8 c.agenda.slots
  · right
    have pu:=yU ok.agd op ok.agd.fit (t:=(bI c.field.points x c.now).1) (n:=c.certs.next_) t1 t2 n0 n1 fresh;have rp:=A9 ok.agd op (t:=(bI c.field.points x c.now).1) (n:=c.certs.next_) t1 t2 n0 n1;have pok:=XA ok.agd op (t:=(bI c.field.points x c.now).1) (n:=c.certs.next_) t1 t2 n0 n1 fresh
    have pmem:=R8 ok.agd op (t:=(bI c.field.points x c.now).1) (n:=c.certs.next_) t1;have plen:=GD ok.agd op (t:=(bI c.field.points x c.now).1) (n:=c.certs.next_) t1;have ap: ∀h:Int×Int,bH c.due [(c.certs.next_,h)]=some (c.due++[(c.certs.next_,h)]):=fun h=>cV (by simp;omega)
    have wlen:(lP c.agenda (bI c.field.points x c.now).1 c.certs.next_).where_.length=200:=by
     have:=pok.wl
     change _=(c.agenda.slots.uses.set _ _).length at this;rw [List.length_set] at this;rw [this,<- ok.agd.wl,ok.w200]
    refine ⟨⟨c.now,c.field,qK c.certs x,lP c.agenda (bI c.field.points x c.now).1 c.certs.next_,c.due++[(c.certs.next_,lO c.agenda.slots)]⟩,?_,?_,⟨ok.nowv,ok.now64,ok.fld,cok,pok,wlen,?_,known',?_⟩,rfl,rfl,rfl,.inr rfl⟩
    · unfold iE dC
      simp only [hc,aD,show ((0:Int) !=0)=false from rfl,cond_false,ad,show ((0:Int)==8)=false from rfl,p1,p2,aJ q1,aJ q2,mD ok,wh,hw,cond_true,pu,ap]
    · unfold lB
      simp only [rd,aD,show ((0:Int) !=0)=false from rfl,cond_false,jS ok,rw',hw,Bool.not_true,sK ok.agd.so,aM op,rp,ap]
    · show (lP c.agenda (bI c.field.points x c.now).1 c.certs.next_).heap.length=(c.due++[_]).length
      rw [plen,List.length_append,ok.hd];rfl
    · have fm:aX c.field.points c.now (lP c.agenda (bI c.field.points x c.now).1 c.certs.next_).heap c.certs.list c.due:=ok.fol.mono fun y hy e he hm=>(pmem e).2 (.inr hm)
      exact (fm.snoc (x:=(c.certs.next_,x))).2 _ hw rfl ((pmem _).2 (.inl rfl))
  · left
    have pu:=yV ok.agd op ok.agd.fit (t:=(bI c.field.points x c.now).1) (n:=c.certs.next_) t1 t2 n0 n1 fresh;refine ⟨?_,?_,.inr op⟩
    · unfold iE dC
      simp only [hc,aD,show ((0:Int) !=0)=false from rfl,cond_false,ad,show ((0:Int)==8)=false from rfl,p1,p2,aJ q1,aJ q2,mD ok,wh,hw,cond_true,pu,show ((18:Int) !=0)=true from rfl]
    · unfold lB
      simp only [rd,aD,show ((0:Int) !=0)=false from rfl,cond_false,jS ok,rw',hw,Bool.not_true,sK ok.agd.so,aJ op,Bool.not_false,cond_true]
end Go.Proofs.YticklbjcnimggaaGreat
namespace Go.Proofs.YticklbjcnimggaaGreat
open Go.Vm Classical
theorem Up.inj {cs:List tU} (h:Up cs) {x y:tU} (hx:x∈cs) (hy:y∈cs) (he:x.1=y.1):x=y:=by
 obtain ⟨i,hi,rfl⟩:=bD.1 hx;obtain ⟨j,hj,rfl⟩:=bD.1 hy;have ub:=uN.1 h;rcases Nat.lt_trichotomy i j with h1|h1|h1
 · have:=ub i j h1 hj;omega
 · rw [h1]
 · have:=ub j i h1 hi;omega
structure LZ (c:aP) (f:List Pt) (i k:Nat) (a:aH) (ds:List tU):Prop where
 ok:eO a
 w2:a.where_.length=200
 new:aX f c.now a.heap (c.certs.list.take i) ds
 old:aX c.field.points c.now a.heap (c.certs.list.drop i) (c.due.drop k)
 kl:k<=c.due.length
 cnt:a.heap.length=ds.length+(c.due.length-k)
theorem aNc {a:aH} (ok:eO a) {w:Nat} (hw:w<a.heap.length):(eB a w).heap.length=a.heap.length-1/\(eB a w).where_.length=a.where_.length:=by
 have rem:=HM ok hw;have h3:(eB a w).slots=fK a.slots (a.heap[w]!).2.2.2:=by unfold eB;split<;>rfl
 have h1:=rem.hl;have h2:=ok.hl;have h4:=rem.wl;rw [h3] at h1 h4;change _+(a.slots.free++[_]).length=a.slots.uses.length at h1;change _=a.slots.uses.length at h4;rw [List.length_append] at h1;simp only [List.length_cons,List.length_nil] at h1;exact ⟨by omega,by rw [h4,ok.wl]⟩
theorem aHi {a:aH} {t:Int×Int} {n:Int} (ok:eO a) (pok:eO (lP a t n)):(lP a t n).where_.length=a.where_.length:=by
 have:=pok.wl
 change _=(a.slots.uses.set _ _).length at this;rw [List.length_set] at this;rw [this,ok.wl]
section
variable {c : aP} (ok : bE c) {f : List Pt} (fok : cD f) (kn : ∀ i, i < c.certs.list.length -> jR f (c.certs.list[i]!).2)
include ok
theorem GI {i:Nat} {x:tU} (hx:x∈c.certs.list.take i) (hi:i<c.certs.list.length):x.1≠(c.certs.list[i]!).1:=by
 obtain ⟨j,h1,h2,rfl⟩:=cF.1 hx
 have:=ok.crt.up j i h1 hi
 omega
theorem GJ {i:Nat} {x:tU} (hx:x∈c.certs.list.drop (i+1)) (hi:i<c.certs.list.length):x.1≠(c.certs.list[i]!).1:=by
 obtain ⟨j,h1,rfl⟩:=bD.1 hx;rw [List.length_drop] at h1;rw [uS]
 have:=ok.crt.up i (i+1+j) (by omega) (by omega)
 omega
theorem YY {i k:Nat} {a:aH} {ds:List tU} (inv:LZ c f i k a ds) (hi:i<c.certs.list.length) (was:(bI c.field.points (c.certs.list[i]!).2 c.now).2=false): ∀e∈a.heap,Ev.num e≠(c.certs.list[i]!).1:=by
 have u1:Up (c.certs.list.take i):=ok.crt_up.sublist (List.take_sublist _ _);have u2:Up (c.certs.list.drop i):=ok.crt_up.sublist (List.drop_sublist _ _);have d1:=inv.new.up u1;have d2:=inv.old.up u2;have cross: ∀x∈ds,∀y∈c.due.drop k,x.1<y.1:=by
  intro x hx y hy;obtain ⟨p,hp,h1,_⟩:=inv.new.due x hx;obtain ⟨q,hq,h2,_⟩:=inv.old.due y hy;obtain ⟨m,m1,m2,rfl⟩:=cF.1 hp;obtain ⟨n,n1,rfl⟩:=bD.1 hq;rw [List.length_drop] at n1;rw [uS] at h2
  have:=ok.crt.up m (i+n) (by omega) (by omega)
  omega
 have nd:((ds++c.due.drop k).map fun x=>x.1).Nodup:=SJ (by
  show List.Pairwise _ _;rw [List.pairwise_append];exact ⟨d1,d2,cross⟩)
 have only:=IK (H:=a.heap) nd (by rw [List.length_map,List.length_append,List.length_drop,inv.cnt];exact Nat.le_refl _) (fun n hn=>by
  obtain ⟨x,hx,rfl⟩:=List.mem_map.1 hn;rcases List.mem_append.1 hx with hx|hx
  · obtain ⟨p,hp,h1,h2,h3⟩:=inv.new.due x hx
    exact ⟨_,h3,h1.symm⟩
  · obtain ⟨p,hp,h1,h2,h3⟩:=inv.old.due x hx
    exact ⟨_,h3,h1.symm⟩)
 intro e he hne;obtain ⟨x,hx,h1⟩:=List.mem_map.1 (only e he);rcases List.mem_append.1 hx with hx|hx
 · obtain ⟨p,hp,h2,_⟩:=inv.new.due x hx
   exact GI ok hp hi (by rw [<- h2,h1,hne])
 · obtain ⟨p,hp,h2,h3,_⟩:=inv.old.due x hx
   have hp':p∈c.certs.list:=List.mem_of_mem_drop hp
   have:=ok.crt_up.inj hp' (bG hi) (by rw [<- h2,h1,hne])
   rw [this,was] at h3;cases h3
def YZ (c:aP) (f:List Pt) (i:Nat) (a:aH) (ds:List tU):=
 (c.certs.list,(c.certs.list.length:Int),(i:Int),c.now.1,c.now.2,c.field.points,c.certs.next_,c.certs.list,c.agenda.slots.uses,c.agenda.slots.used,c.agenda.slots.free,c.agenda.heap,c.agenda.where_,c.due,f,(0:Int),(0:Int),(0:Int),c.now.1,c.now.2,c.certs.next_,c.certs.list,a.slots.uses,a.slots.used,a.slots.free,a.heap,a.where_,f,ds)
def Y0 (c:aP) (f:List Pt) (i:Nat) (a:aH) (ds:List tU):=
 ((i:Int),c.now.1,c.now.2,c.field.points,c.certs.next_,c.certs.list,c.agenda.slots.uses,c.agenda.slots.used,c.agenda.slots.free,c.agenda.heap,c.agenda.where_,c.due,f,(0:Int),(0:Int),(0:Int),c.now.1,c.now.2,f,c.certs.next_,c.certs.list,a.slots.uses,a.slots.used,a.slots.free,a.heap,a.where_,ds)
include fok kn
theorem aBl {i k:Nat} {a:aH} {ds:List tU} (inv:LZ c f i k a ds) (hi:i<c.certs.list.length) (hds:ds.length<=i):
 (dD (YZ c f i a ds)=some (.done (.done (dN,18)))/\cI (Y0 c f i a ds)=some (.done (dN,18)))\/
 ∃k' a' ds',dD (YZ c f i a ds)=some (.next (YZ c f (i+1) a' ds'))/\cI (Y0 c f i a ds)=some (.next (Y0 c f (i+1) a' ds'))/\LZ c f (i+1) k' a' ds'/\ds'.length<=i+1:=by
 have bd:=ok.bd;have e1:decide ((i:Int)<(c.certs.list.length:Int))=true:=aM (by omega)
 have sc:=aY (show i<1000000000 by omega)
 have cg:=aC c.certs.list i hi;have hb:=kn i hi;have wn:=xY fok (x:=(c.certs.list[i]!).2) (t:=(c.now.1,c.now.2)) (ok.crt.cv i hi) ok.nowv ok.now64;rw [if_pos hb] at wn;have wr:=xZ fok (x:=(c.certs.list[i]!).2) (t:=(c.now.1,c.now.2)) ok.now64 hb;have pd:=NM ok.due_up (by omega) (c.certs.list[i]!).1
 have da:=SK c (c.certs.list[i]!).1 (by omega)
 have dr:=uT hi;have tk:=gO hi;have old:=inv.old;rw [dr] at old;have aeta:aH.mk (aQ.mk a.slots.uses a.slots.used a.slots.free) a.heap a.where_=a:=rfl
 have ceta:(aP.mk (c.now.1,c.now.2) (Field.mk c.field.points) (aV.mk c.certs.next_ c.certs.list) (aH.mk (aQ.mk c.agenda.slots.uses c.agenda.slots.used c.agenda.slots.free) c.agenda.heap c.agenda.where_) c.due)=c:=rfl;have other: ∀x∈c.certs.list.take i,x.1≠(c.certs.list[i]!).1:=fun x hx=>GI ok hx hi
 have other': ∀x∈c.certs.list.drop (i+1),x.1≠(c.certs.list[i]!).1:=fun x hx=>GJ ok hx hi
 cases hwas:(bI c.field.points (c.certs.list[i]!).2 c.now).2 with
 |true=>
  obtain ⟨d,ds',hd1,hd2,hd3,hd4⟩:=(aX.cons_true hwas).1 old;have hk:k<c.due.length:=by
   refine Classical.byContradiction fun h=>?_
   rw [List.drop_eq_nil_of_le (by omega)] at hd1
   cases hd1
  have dk:=uT hk;rw [dk] at hd1;injection hd1 with hd5 hd6;subst hd5 hd6;obtain ⟨w,hw,hev⟩:=bD.1 hd3;have hh:(a.heap[w]!).2.2.2=(c.due[k]!).2:=by rw [hev]
  have hnum:Ev.num a.heap[w]! =(c.certs.list[i]!).1:=by rw [hev]
  have before: ∀j,j<k->(c.due[j]!).1≠(c.certs.list[i]!).1:=fun j hj he=>by
   have:=uN.1 ok.due_up j k hj hk
   omega
  have pl:=pd.1 k hk hd2;have dq:=da.1 k hk hd2 before;have gk:=aC c.due k hk;have k0:decide ((0:Int)<=(k:Int))=true:=aM (by omega)
  have ap:bH ds [c.due[k]!]=some (ds++[c.due[k]!]):=cV (by simp;omega)
  cases his:(bI f (c.certs.list[i]!).2 c.now).2 with
  |true=>
   right;have tt:bY (bI f (c.certs.list[i]!).2 c.now).1/\pL (bI f (c.certs.list[i]!).2 c.now).1:=LB (jG fok hb.2).1 (jG fok hb.1).1 ok.now64 ok.nowv his;obtain ⟨t1,t2⟩:=tt;have re:=IW inv.ok inv.ok.fit (t:=(bI f (c.certs.list[i]!).2 c.now).1) hw hh t1 t2;have rr:=HL inv.ok (t:=(bI f (c.certs.list[i]!).2 c.now).1) hw hh t1 t2
   have rok:=aBf inv.ok hw t1 t2;have rmem:=YX inv.ok hw t1;have rlen:=HK inv.ok hw t1;have stay: ∀(cs:List tU),(∀x∈cs,x.1≠(c.certs.list[i]!).1)-> ∀x∈cs,∀e:Ev,e.num=x.1->e∈a.heap->e∈(kB a w (bI f (c.certs.list[i]!).2 c.now).1).heap:=by
    intro cs hcs x hx e he hm;refine (rmem e).2 (.inr ⟨hm,fun h=>hcs x hx ?_⟩)
    rw [<- he,h,hnum]
   refine ⟨k+1,kB a w (bI f (c.certs.list[i]!).2 c.now).1,ds++[c.due[k]!],?_,?_,⟨rok,by rw [rlen.2];exact inv.w2,?_,?_,by omega,?_⟩,by simp;omega⟩
   · unfold dD YZ
     simp only [e1,cond_true,cg,aD,wn,pl,his,gk,aeta,re,ap,show ((0:Int) !=0)=false from rfl,cond_false,sc]
   · unfold cI Y0
     simp only [aE,e1,cond_true,cg,aD,ceta,dq,wr,his,k0,gk,aeta,rr,ap,Bool.not_true,cond_false,sc]
   · rw [tk]
     exact ((inv.new.mono (stay _ other)).snoc (x:=c.certs.list[i]!)).2 _ his hd2 ((rmem _).2 (.inl (by
      show _=((bI f (c.certs.list[i]!).2 c.now).1.1,(bI f (c.certs.list[i]!).2 c.now).1.2,(a.heap[w]!).2.2);rw [hev])))
   · exact hd4.mono (stay _ other')
   · rw [rlen.1,inv.cnt,List.length_append]
     simp only [List.length_cons,List.length_nil];omega
  |false=>
   right;have rv:=yX inv.ok hw inv.ok.fit hh;have rr:=yY inv.ok hw hh;have rok:=HM inv.ok hw;have rmem:=LT inv.ok hw;have rlen:=aNc inv.ok hw;have stay: ∀(cs:List tU),(∀x∈cs,x.1≠(c.certs.list[i]!).1)-> ∀x∈cs,∀e:Ev,e.num=x.1->e∈a.heap->e∈(eB a w).heap:=by
    intro cs hcs x hx e he hm;refine (rmem e).2 ⟨hm,fun h=>hcs x hx ?_⟩
    rw [<- he,h,hnum]
   refine ⟨k+1,eB a w,ds,?_,?_,⟨rok,by rw [rlen.2];exact inv.w2,?_,hd4.mono (stay _ other'),by omega,?_⟩,by omega⟩
   · unfold dD YZ
     simp only [e1,cond_true,cg,aD,wn,pl,his,gk,aeta,rv,show ((0:Int) !=0)=false from rfl,cond_false,sc]
   · unfold cI Y0
     simp only [aE,e1,cond_true,cg,aD,ceta,dq,wr,his,k0,gk,aeta,rr,Bool.not_false,cond_false,sc]
   · rw [tk]
     exact ((inv.new.mono (stay _ other)).snoc (x:=c.certs.list[i]!)).1 his
   · have:=inv.cnt
     rw [rlen.1];omega
 |false=>
  have fol:=(aX.cons_false hwas).1 old;have no: ∀j,j<c.due.length->(c.due[j]!).1≠(c.certs.list[i]!).1:=by
   intro j hj he;obtain ⟨x,hx,h1,h2,_⟩:=ok.fol.due _ (bG hj)
   have:=ok.crt_up.inj hx (bG hi) (by rw [<- h1,he])
   rw [this,hwas] at h2;cases h2
  obtain ⟨m,pl⟩:=pd.2 no;have dq:=da.2 no;have k0:decide ((0:Int)<= -1)=false:=aJ (by omega)
  cases his:(bI f (c.certs.list[i]!).2 c.now).2 with
  |true=>
   have tt:bY (bI f (c.certs.list[i]!).2 c.now).1/\pL (bI f (c.certs.list[i]!).2 c.now).1:=LB (jG fok hb.2).1 (jG fok hb.1).1 ok.now64 ok.nowv his;obtain ⟨t1,t2⟩:=tt;have n0:=(ok.crt.nr i hi).1;have n1:(c.certs.list[i]!).1<=1000000:=by have:=(ok.crt.nr i hi).2;have:=ok.crt.n1;omega
   have fresh:=YY ok inv hi hwas
   by_cases op:A8 a.slots
   · right
     have pu:=yU inv.ok op inv.ok.fit (t:=(bI f (c.certs.list[i]!).2 c.now).1) (n:=(c.certs.list[i]!).1) t1 t2 n0 n1 fresh;have rp:=A9 inv.ok op (t:=(bI f (c.certs.list[i]!).2 c.now).1) (n:=(c.certs.list[i]!).1) t1 t2 n0 n1;have pok:=XA inv.ok op (t:=(bI f (c.certs.list[i]!).2 c.now).1) (n:=(c.certs.list[i]!).1) t1 t2 n0 n1 fresh
     have pmem:=R8 inv.ok op (t:=(bI f (c.certs.list[i]!).2 c.now).1) (n:=(c.certs.list[i]!).1) t1;have plen:=GD inv.ok op (t:=(bI f (c.certs.list[i]!).2 c.now).1) (n:=(c.certs.list[i]!).1) t1;have ap: ∀h:Int×Int,bH ds [((c.certs.list[i]!).1,h)]=some (ds++[((c.certs.list[i]!).1,h)]):=fun h=>cV (by simp;omega)
     have opn:=sK inv.ok.so;rw [aM op] at opn;refine ⟨k,lP a (bI f (c.certs.list[i]!).2 c.now).1 (c.certs.list[i]!).1,ds++[((c.certs.list[i]!).1,lO a.slots)],?_,?_,⟨pok,by rw [aHi inv.ok pok];exact inv.w2,?_,?_,inv.kl,?_⟩,by simp;omega⟩
     · unfold dD YZ
       simp only [e1,cond_true,cg,aD,wn,pl,his,aeta,pu,ap,show ((0:Int) !=0)=false from rfl,cond_false,sc]
     · unfold cI Y0
       simp only [aE,e1,cond_true,cg,aD,ceta,dq,wr,his,k0,aeta,rp,ap,Bool.not_true,cond_false,sc,opn]
     · rw [tk]
       exact ((inv.new.mono fun x hx e he hm=>(pmem e).2 (.inr hm)).snoc (x:=c.certs.list[i]!)).2 _ his rfl ((pmem _).2 (.inl rfl))
     · exact fol.mono fun x hx e he hm=>(pmem e).2 (.inr hm)
     · have:=inv.cnt
       rw [plen,List.length_append];simp only [List.length_cons,List.length_nil];omega
   · left
     have pu:=yV inv.ok op inv.ok.fit (t:=(bI f (c.certs.list[i]!).2 c.now).1) (n:=(c.certs.list[i]!).1) t1 t2 n0 n1 fresh;have ap: ∀h:Int×Int,bH ds [((c.certs.list[i]!).1,h)]=some (ds++[((c.certs.list[i]!).1,h)]):=fun h=>cV (by simp;omega)
     have opn:=sK inv.ok.so;rw [aJ op] at opn;constructor
     · unfold dD YZ
       simp only [e1,cond_true,cg,aD,wn,pl,his,aeta,pu,ap,show ((18:Int) !=0)=true from rfl,cond_false]
     · unfold cI Y0
       simp only [aE,e1,cond_true,cg,aD,ceta,dq,wr,his,k0,aeta,Bool.not_true,Bool.not_false,cond_false,opn]
  |false=>
   right;refine ⟨k,a,ds,?_,?_,⟨inv.ok,inv.w2,?_,fol,inv.kl,inv.cnt⟩,by omega⟩
   · unfold dD YZ
     simp only [e1,cond_true,cg,aD,wn,pl,his,show ((0:Int) !=0)=false from rfl,cond_false,sc]
   · unfold cI Y0
     simp only [aE,e1,cond_true,cg,aD,ceta,dq,wr,his,k0,Bool.not_false,cond_false,sc]
   · rw [tk]
     exact (inv.new.snoc (x:=c.certs.list[i]!)).1 his
theorem aPM:
 (pC c ⟨f⟩=some (dN,18)/\mB c ⟨f⟩=some (dN,18))\/
 ∃c':aP,pC c ⟨f⟩=some (c',0)/\mB c ⟨f⟩=some (c',0)/\bE c'/\c'.field.points=f/\c'.now=c.now/\c'.certs=c.certs:=by
 have bd:=ok.bd;have f64:=fok.1;have run: ∀(d i k:Nat) (a:aH) (ds:List tU),c.certs.list.length-i<=d->i<=c.certs.list.length->LZ c f i k a ds->ds.length<=i->
  (aG dD (YZ c f i a ds)=some (.done (dN,18))/\aG cI (Y0 c f i a ds)=some (dN,18))\/
  ∃c':aP,aG dD (YZ c f i a ds)=some (.done (c',0))/\aG cI (Y0 c f i a ds)=some (c',0)/\bE c'/\c'.field.points=f/\c'.now=c.now/\c'.certs=c.certs:=by
  have fin: ∀(k:Nat) (a:aH) (ds:List tU),LZ c f c.certs.list.length k a ds-> ∃c':aP,aG dD (YZ c f c.certs.list.length a ds)=some (.done (c',0))/\aG cI (Y0 c f c.certs.list.length a ds)=some (c',0)/\bE c'/\c'.field.points=f/\c'.now=c.now/\c'.certs=c.certs:=by
   intro k a ds inv;have e1:decide ((c.certs.list.length:Int)<(c.certs.list.length:Int))=false:=aJ (by omega)
   have hk:c.due.length-k=0:=by
    have:=inv.old
    rw [List.drop_length] at this
    have:c.due.drop k=[]:=this
    rw [List.drop_eq_nil_iff] at this;omega
   have new:=inv.new;rw [List.take_length] at new;refine ⟨⟨c.now,⟨f⟩,c.certs,a,ds⟩,aI ?_,aI ?_,⟨ok.nowv,ok.now64,fok,ok.crt,inv.ok,inv.w2,?_,kn,new⟩,rfl,rfl,rfl⟩
   · unfold dD YZ
     simp only [e1,cond_false]
   · unfold cI Y0
     simp only [aE,e1,cond_false]
   · have:=inv.cnt
     show a.heap.length=ds.length;omega
  intro d
  induction d with
  |zero=>
   intro i k a ds hd hi inv hds
   have:i=c.certs.list.length:=by omega
   subst this;exact .inr (fin k a ds inv)
  |succ d ih=>
   intro i k a ds hd hi inv hds
   by_cases he:i=c.certs.list.length
   · subst he;exact .inr (fin k a ds inv)
   rcases aBl ok fok kn inv (by omega) hds with ⟨h1,h2⟩|⟨k',a',ds',h1,h2,h3,h4⟩
   · exact .inl ⟨aI h1,aI h2⟩
   · rw [aW h1,aW h2]
     exact ih (i+1) k' a' ds' (by omega) (by omega) h3 h4
 have start:=run c.certs.list.length 0 0 c.agenda [] (by omega) (by omega) ⟨ok.agd,ok.w200,rfl,by rw [List.drop_zero,List.drop_zero];exact ok.fol,by omega,by have:=ok.hd;simp;omega⟩ (by simp)
 have hc:gL c=some 0:=by rw [nB ok.fit,if_pos ok]
 have hf:eS ⟨f⟩=some 0:=by rw [iU];exact congrArg some (gN.2 fok)
 have tw:=mD ok;have tw':mR (aP.mk (c.now.1,c.now.2) (Field.mk c.field.points) (aV.mk c.certs.next_ c.certs.list) (aH.mk (aQ.mk c.agenda.slots.uses c.agenda.slots.used c.agenda.slots.free) c.agenda.heap c.agenda.where_) c.due)=some c:=tw
 have first:aG kJ (c.certs.list,(c.certs.list.length:Int),0,c.now.1,c.now.2,c.field.points,c.certs.next_,c.certs.list,c.agenda.slots.uses,c.agenda.slots.used,c.agenda.slots.free,c.agenda.heap,c.agenda.where_,c.due,f,0,0,0)=
  aG kJ (c.certs.list,(c.certs.list.length:Int),(c.certs.list.length:Int),c.now.1,c.now.2,c.field.points,c.certs.next_,c.certs.list,c.agenda.slots.uses,c.agenda.slots.used,c.agenda.slots.free,c.agenda.heap,c.agenda.where_,c.due,f,0,0,0):=by
  refine bT (body:=kJ) (fun i=>(c.certs.list,(c.certs.list.length:Int),(i:Int),c.now.1,c.now.2,c.field.points,c.certs.next_,c.certs.list,c.agenda.slots.uses,c.agenda.slots.used,c.agenda.slots.free,c.agenda.heap,c.agenda.where_,c.due,f,0,0,0)) c.certs.list.length (fun i hi=>?_)
  have e1:decide ((i:Int)<(c.certs.list.length:Int))=true:=aM (by omega)
  unfold kJ;simp only [e1,cond_true,aC c.certs.list i hi,aD,nA fok,aJ (PI fok (kn i hi).1),aJ (PI fok (kn i hi).2),cond_false,aY (show i<1000000000 by omega)]
 have second: ∀r,aG dD (YZ c f 0 c.agenda [])=some (.done r)->pC c ⟨f⟩=some r:=by
  intro r hr;unfold pC;simp only [hc,aD,show ((0:Int) !=0)=false from rfl,cond_false,hf,aE];rw [first]
  refine aI ?_;unfold kJ;have e1:decide ((c.certs.list.length:Int)<(c.certs.list.length:Int))=false:=aJ (by omega)
  simp only [aE,e1,cond_false,tw',aD,aZ (show f.length<=1048576 by omega)]
  exact hr
 have third: ∀r,aG cI (Y0 c f 0 c.agenda [])=some r->mB c ⟨f⟩=some r:=by
  intro r hr;unfold mB oS;simp only [jS ok,aD,aZ (show f.length<=1048576 by omega)]
  exact hr
 rcases start with ⟨h1,h2⟩|⟨c',h1,h2,h3⟩
 · exact .inl ⟨second _ h1,third _ h2⟩
 · exact .inr ⟨c',second _ h1,third _ h2,h3⟩
end
end Go.Proofs.YticklbjcnimggaaGreat
namespace Go.Proofs.YticklbjcnimggaaGreat
open Go.Vm Classical
theorem oE (l:List (Int×Int)) (x:Int×Int) (hl:l.length<=1000000):fF l x=some (decide (x∈l)):=by
 unfold fF pW;have key:=mX (body:=jJ) (fun i=>(l,(l.length:Int),(i:Int),x)) l.length (fun i=>l[i]! =x) (fun i=>(i:Int)) (e:= -1) (fun i hi=>by
  have e1:decide ((i:Int)<(l.length:Int))=true:=aM (by omega)
  unfold jJ;simp only [e1,cond_true,aC l i hi,aD,aY (show i<1000000000 by omega)]
  generalize l[i]! =y;constructor
  · intro h;rw [gX (congrArg Prod.fst h.symm),gX (congrArg Prod.snd h.symm)];rfl
  · intro h
    by_cases h1:x.1=y.1
    · rw [gX h1,fW (fun h2=>h (Prod.ext h1.symm h2.symm))];rfl
    · rw [fW h1];rfl) (by
  unfold jJ
  have:decide ((l.length:Int)<(l.length:Int))=false:=aJ (by omega)
  simp only [this,cond_false])
 rw [aE]
 by_cases hx:x∈l
 · obtain ⟨i,hi,he⟩:=bD.1 hx
   obtain ⟨k,h1,h2,h3⟩:=F7 (c:=fun i=>l[i]! =x) ⟨i,hi,he⟩
   have:=key.1 k h1 h2 h3
   rw [show ((0:Nat):Int)=0 from rfl] at this;rw [this,aM hx];simp only [aD,aM (show (0:Int)<=(k:Int) by omega)]
 · have:=key.2 fun i hi he=>hx (bD.2 ⟨i,hi,he⟩)
   rw [show ((0:Nat):Int)=0 from rfl] at this;rw [this,aJ hx];rfl
theorem IM (l:List (Int×Int)) (x:Int×Int) (hl:l.length<=1000000):F6 l x=some (decide (x∈l)):=by
 unfold F6;have key:=cX (body:=wY) (fun i=>(l,(i:Int),x)) l.length (fun i=>l[i]! =x) (r:=true) (e:=false) (fun i hi=>by
  have e1:decide ((i:Int)<(l.length:Int))=true:=aM (by omega)
  unfold wY;simp only [aE,e1,cond_true,aC l i hi,aD,aY (show i<1000000000 by omega)]
  generalize l[i]! =y;constructor
  · intro h;rw [gX (congrArg Prod.fst h),gX (congrArg Prod.snd h)];rfl
  · intro h
    by_cases h1:y.1=x.1
    · rw [gX h1,fW (fun h2=>h (Prod.ext h1 h2))];rfl
    · rw [fW h1];rfl) (by
  unfold wY
  have:decide ((l.length:Int)<(l.length:Int))=false:=aJ (by omega)
  simp only [aE,this,cond_false])
 by_cases hx:x∈l
 · rw [aM hx];exact key.1 (bD.1 hx)
 · rw [aJ hx];exact key.2 fun i hi he=>hx (bD.2 ⟨i,hi,he⟩)
theorem UY (x y:tU):((x.1==y.1)&&((x.2.1==y.2.1)&&(x.2.2==y.2.2)))=decide (x=y):=by
 rw [Bool.eq_iff_iff,decide_eq_true_iff];simp only [Bool.and_eq_true,beq_iff_eq];constructor
 · rintro ⟨h1,h2,h3⟩;exact Prod.ext h1 (Prod.ext h2 h3)
 · rintro rfl;exact ⟨rfl,rfl,rfl⟩
theorem IN (a b:List tU) (hl:a.length<=1000000):vQ ⟨a⟩ ⟨b⟩=some (decide (a=b)):=by
 unfold vQ;simp only [aE]
 by_cases h:a.length=b.length
 case neg=>rw [eC (by omega),aJ (fun k=>h (by rw [k]))];rfl
 rw [cZ (by omega)]
 simp only [cond_false];have key:=cX (body:=sE) (fun i=>((i:Int),a,b)) a.length (fun i=> ¬a[i]! =b[i]!) (r:=false) (e:=true) (fun i hi=>by
  have e1:decide ((i:Int)<(a.length:Int))=true:=aM (by omega)
  unfold sE;simp only [aE,e1,cond_true,aC a i hi,aC b i (by omega),aD,aY (show i<1000000000 by omega),UY]
  constructor
  · intro h;rw [aJ h];rfl
  · intro h;rw [aM (Classical.not_not.1 h)];rfl) (by
  unfold sE
  have:decide ((a.length:Int)<(a.length:Int))=false:=aJ (by omega)
  simp only [aE,this,cond_false])
 by_cases he:a=b
 · rw [aM he]
   exact key.2 fun i hi=>Classical.not_not.2 (by rw [he])
 · rw [aJ he]
   refine key.1 (Classical.byContradiction fun hx=>he (CC h fun i hi=>?_))
   exact Classical.byContradiction fun hn=>hx ⟨i,hi,hn⟩
theorem GK (a b:List tU) (hl:a.length<=1000000):iQ a b=some (decide (a=b)):=by
 unfold iQ;simp only [aE]
 by_cases h:a.length=b.length
 case neg=>rw [eC (by omega),aJ (fun k=>h (by rw [k]))];rfl
 rw [cZ (by omega)]
 simp only [cond_false];have key:=cX (body:=iX) (fun i=>(a,b,(a.length:Int),(i:Int))) a.length (fun i=> ¬a[i]! =b[i]!) (r:=false) (e:=true) (fun i hi=>by
  have e1:decide ((i:Int)<(a.length:Int))=true:=aM (by omega)
  unfold iX;simp only [e1,cond_true,aC a i hi,aC b i (by omega),aD,aY (show i<1000000000 by omega),UY]
  constructor
  · intro h;rw [aJ h];rfl
  · intro h;rw [aM (Classical.not_not.1 h)];rfl) (by
  unfold iX
  have:decide ((a.length:Int)<(a.length:Int))=false:=aJ (by omega)
  simp only [this,cond_false])
 by_cases he:a=b
 · rw [aM he]
   exact key.2 fun i hi=>Classical.not_not.2 (by rw [he])
 · rw [aJ he]
   refine key.1 (Classical.byContradiction fun hx=>he (CC h fun i hi=>?_))
   exact Classical.byContradiction fun hn=>hx ⟨i,hi,hn⟩
theorem Y1 {cs:List tU} {m:Nat} {x:tU} (hx:x∈cs) (hne:x.1≠(cs[m]!).1):x∈cs.eraseIdx m:=by
 obtain ⟨j,hj,rfl⟩:=bD.1 hx;have hjm:j≠m:=fun h=>hne (by rw [h])
 rw [vW,List.mem_append]
 by_cases h:j<m
 · exact .inl (cF.2 ⟨j,h,hj,rfl⟩)
 · right
   rw [bD];refine ⟨j- (m+1),by rw [List.length_drop];omega,?_⟩
   rw [uS]
   congr 1;omega
def kP (c0:aP) (f:List Pt) (es:List (Int×Int)) (i:Nat) (c:aP):=
 (es,c0.certs.list,(c0.certs.list.length:Int),(i:Int),c.now.1,c.now.2,c.field.points,c.certs.next_,c.certs.list,c.agenda.slots.uses,c.agenda.slots.used,c.agenda.slots.free,c.agenda.heap,c.agenda.where_,c.due,f,(0:Int),(0:Int),(0:Int))
def kR (c0:aP) (f:List Pt) (es:List (Int×Int)) (i:Nat) (c:aP):=
 (es,(i:Int),c0.now.1,c0.now.2,c0.field.points,c0.certs.next_,c0.certs.list,c0.agenda.slots.uses,c0.agenda.slots.used,c0.agenda.slots.free,c0.agenda.heap,c0.agenda.where_,c0.due,f,(0:Int),(0:Int),(0:Int),c.now.1,c.now.2,c.field.points,c.certs.next_,c.certs.list,c.agenda.slots.uses,c.agenda.slots.used,c.agenda.slots.free,c.agenda.heap,c.agenda.where_,c.due)
def eP (es:List (Int×Int)) (i:Nat) (c:aP):=
 (es,(es.length:Int),(i:Int),c.now.1,c.now.2,c.field.points,c.certs.next_,c.certs.list,c.agenda.slots.uses,c.agenda.slots.used,c.agenda.slots.free,c.agenda.heap,c.agenda.where_,c.due,(0:Int),(0:Int),(0:Int))
def eR (es:List (Int×Int)) (i:Nat) (c:aP):=
 (es,(i:Int),(0:Int),(0:Int),(0:Int),c.now.1,c.now.2,c.field.points,c.certs.next_,c.certs.list,c.agenda.slots.uses,c.agenda.slots.used,c.agenda.slots.free,c.agenda.heap,c.agenda.where_,c.due)
def GL (c:aP):Int:=c.certs.next_- (c.certs.list.length:Int)
structure XC (c:aP) (f:List Pt) (es:List (Int×Int)) (r:aP):Prop where
 has: ∀e∈es,vX r.certs.list e
 sub: ∀x∈r.certs.list,x.2∈es
 ok:bE r
 fld:r.field.points=f
 now:r.now=c.now
 room:GL c<=GL r
def NN (c:aP) (k:Nat):Prop:=c.certs.list.length<=k/\c.certs.next_<=k/\ ∀j,j<c.agenda.slots.uses.length->c.agenda.slots.uses[j]!<=k
theorem aX.len {l:List Pt} {t:Int×Int} {H:List Ev}: ∀{cs ds:List tU},aX l t H cs ds->ds.length<=cs.length
 | [],ds,h=>by rw [show ds=[] from h];exact Nat.le_refl _
 |x::cs,ds,h=>by
  cases hy:(bI l x.2 t).2 with
  |true=>
   obtain ⟨d,ds',rfl,_,_,h4⟩:=h.1 hy;exact Nat.succ_le_succ h4.len
  |false=>exact Nat.le_succ_of_le (h.2 hy).len
theorem NN.not_full {c:aP} (ok:bE c) {k:Nat} (h:NN c k) (hk:k<=199): ¬(GF c.certs\/ ¬A8 c.agenda.slots):=by
 obtain ⟨h1,h2,h3⟩:=h;have fl:=ok.fol.len;have hd:=ok.hd;have hl:=ok.agd.hl;have wl:=ok.agd.wl;have w2:=ok.w200;rintro (h|h)
 · rcases h with h|h<;>omega
 · refine h ⟨by omega,?_⟩
   have:=h3 _ (DC ok.agd.so (by omega)).1
   omega
theorem NN.more {c c':aP} {k:Nat} (h:NN c k) {x:Int×Int} (hc:c'.certs=qK c.certs x) (hs:c'.agenda.slots=c.agenda.slots\/c'.agenda.slots=gP c.agenda.slots):NN c' (k+1):=by
 obtain ⟨h1,h2,h3⟩:=h;refine ⟨?_,?_,fun j hj=>?_⟩
 · rw [hc]
   show (c.certs.list++[(c.certs.next_,x)]).length<=_;rw [List.length_append,List.length_singleton];omega
 · rw [hc]
   show c.certs.next_+1<=_;omega
 · rcases hs with e|e
   · rw [e] at hj ⊢
     have:=h3 j hj;omega
   · rw [e] at hj ⊢
     change j<(c.agenda.slots.uses.set _ _).length at hj;rw [List.length_set] at hj;show (c.agenda.slots.uses.set (cP c.agenda.slots) (c.agenda.slots.uses[cP c.agenda.slots]!+1))[j]!<=_;rw [bB];split
     · rename_i h;have:=h3 _ h.2;omega
     · have:=h3 j hj;omega
structure JA (f:List Pt) (es:List (Int×Int)):Prop where
 len:es.length<=1000000
 cv: ∀x∈es,fI x
 kn: ∀x∈es,jR f x
theorem aBm {c0:aP} (ok0:bE c0) {f:List Pt} {es:List (Int×Int)} (eok:JA f es):
 ∀(d i:Nat) (c:aP),c0.certs.list.length-i<=d->i<=c0.certs.list.length->bE c->(∀x∈c0.certs.list.drop i,x∈c.certs.list)->(∀x∈c.certs.list,x∈c0.certs.list.drop i\/x.2∈es)->
  ∃c':aP,aG dX (kP c0 f es i c)=aG dX (kP c0 f es c0.certs.list.length c')/\aG dF (kR c0 f es i c)=aG dF (kR c0 f es c0.certs.list.length c')/\bE c'/\(∀x∈c'.certs.list,x.2∈es)/\c'.field=c.field/\c'.now=c.now/\GL c<=GL c':=by
 have bd:=ok0.bd;intro d
 induction d with
 |zero=>
  intro i c hd hi ok h1 h2
  have:i=c0.certs.list.length:=by omega
  subst this;refine ⟨c,rfl,rfl,ok,fun x hx=>?_,rfl,rfl,Int.le_refl _⟩
  rcases h2 x hx with h|h
  · rw [List.drop_length] at h;cases h
  · exact h
 |succ d ih=>
  intro i c hd hi ok h1 h2
  by_cases he:i=c0.certs.list.length
  · subst he
    refine ⟨c,rfl,rfl,ok,fun x hx=>?_,rfl,rfl,Int.le_refl _⟩
    rcases h2 x hx with h|h
    · rw [List.drop_length] at h;cases h
    · exact h
  have hi':i<c0.certs.list.length:=by omega
  have e1:decide ((i:Int)<(c0.certs.list.length:Int))=true:=aM (by omega)
  have sc:=aY (show i<1000000000 by omega)
  have cg:=aC c0.certs.list i hi';have dr:=uT hi';have ceta:(aP.mk (c.now.1,c.now.2) (Field.mk c.field.points) (aV.mk c.certs.next_ c.certs.list) (aH.mk (aQ.mk c.agenda.slots.uses c.agenda.slots.used c.agenda.slots.free) c.agenda.heap c.agenda.where_) c.due)=c:=rfl
  by_cases hin:(c0.certs.list[i]!).2∈es
  · have s1:dX (kP c0 f es i c)=some (.next (kP c0 f es (i+1) c)):=by
     unfold dX kP;simp only [e1,cond_true,cg,aD,oE _ _ eok.len,aM hin,Bool.not_true,cond_false,sc]
    have s2:dF (kR c0 f es i c)=some (.next (kR c0 f es (i+1) c)):=by
     unfold dF kR;simp only [aE,e1,cond_true,cg,aD,IM _ _ eok.len,aM hin,Bool.not_true,cond_false,sc]
    rw [aW s1,aW s2];refine ih (i+1) c (by omega) (by omega) ok (fun x hx=>h1 x (by rw [dr];exact List.mem_cons_of_mem _ hx)) (fun x hx=>?_)
    rcases h2 x hx with h|h
    · rw [dr] at h
      rcases List.mem_cons.1 h with rfl|h
      · exact .inr hin
      · exact .inl h
    · exact .inr h
  · have hm:=h1 (c0.certs.list[i]!) (by rw [dr];exact List.mem_cons_self)
    obtain ⟨m,hm1,hm2⟩:=bD.1 hm;obtain ⟨c',r1,r2,r3,r4,r5,r6⟩:=aNb ok hm1;have rt:=IX ok hm1 r1;rw [hm2] at r2 rt;have s1:dX (kP c0 f es i c)=some (.next (kP c0 f es (i+1) c')):=by
     unfold dX kP;simp only [e1,cond_true,cg,aD,oE _ _ eok.len,aJ hin,Bool.not_false,sc,ceta,rt]
    have s2:dF (kR c0 f es i c)=some (.next (kR c0 f es (i+1) c')):=by
     unfold dF kR;simp only [aE,e1,cond_true,cg,aD,IM _ _ eok.len,aJ hin,Bool.not_false,sc,ceta,r2]
    rw [aW s1,aW s2];have cl:c'.certs.list=c.certs.list.eraseIdx m:=by rw [r6];rfl
    have hroom:GL c<=GL c':=by
     unfold GL;rw [r6];show _<=c.certs.next_- (((c.certs.list.eraseIdx m).length:Nat):Int);rw [List.length_eraseIdx_of_lt hm1];omega
    have hs:(∀x∈c0.certs.list.drop (i+1),x∈c'.certs.list)/\(∀x∈c'.certs.list,x∈c0.certs.list.drop (i+1)\/x.2∈es):=by
     refine ⟨fun x hx=>?_,fun x hx=>?_⟩
     · rw [cl]
       refine Y1 (h1 x (by rw [dr];exact List.mem_cons_of_mem _ hx)) ?_
       rw [hm2];exact GJ ok0 hx hi'
     · rw [cl] at hx
       obtain ⟨a1,a2⟩:=AU ok.crt_up hm1 hx;rw [hm2] at a2;rcases h2 x a1 with h|h
       · rw [dr] at h
         rcases List.mem_cons.1 h with rfl|h
         · exact absurd rfl a2
         · exact .inl h
       · exact .inr h
    obtain ⟨d',q1,q2,q3,q4,q5,q6,q7⟩:=ih (i+1) c' (by omega) (by omega) r3 hs.1 hs.2
    exact ⟨d',q1,q2,q3,q4,q5.trans r4,q6.trans r5,by omega⟩
theorem SL {f:List Pt} (_fok:cD f) {es:List (Int×Int)} (eok:JA f es):
 ∀(d i:Nat) (c:aP),es.length-i<=d->i<=es.length->bE c->c.field.points=f->(∀x∈c.certs.list,x.2∈es)->(∀j,j<i->vX c.certs.list es[j]!)->
  ∃r:aP×Int,aG eY (eP es i c)=some (.done r)/\aG dO (eR es i c)=some (.done r)/\(r.2=0/\XC c f es r.1\/r=(dN,18))/\(∀k,NN c k->k+(es.length-i)<=199->r.2=0):=by
 have el:=eok.len;have fin: ∀c:aP,bE c->c.field.points=f->(∀x∈c.certs.list,x.2∈es)->(∀j,j<es.length->vX c.certs.list es[j]!)-> ∃r:aP×Int,aG eY (eP es es.length c)=some (.done r)/\aG dO (eR es es.length c)=some (.done r)/\(r.2=0/\XC c f es r.1\/r=(dN,18))/\r.2=0:=by
  intro c ok hf hs hh;have e1:decide ((es.length:Int)<(es.length:Int))=false:=aJ (by omega)
  refine ⟨(c,0),aI ?_,aI ?_,.inl ⟨rfl,fun e he=>by obtain ⟨j,hj,q⟩:=bD.1 he;rw [<- q];exact hh j hj,hs,ok,hf,rfl,Int.le_refl _⟩,rfl⟩
  · unfold eY eP
    simp only [e1,cond_false]
  · unfold dO eR
    simp only [aE,e1,cond_false]
 intro d
 induction d with
 |zero=>
  intro i c hd hi ok hf hs hh
  have:i=es.length:=by omega
  subst this;obtain ⟨r,q1,q2,q3,q4⟩:=fin c ok hf hs hh;exact ⟨r,q1,q2,q3,fun _ _ _=>q4⟩
 |succ d ih=>
  intro i c hd hi ok hf hs hh
  by_cases he:i=es.length
  · subst he
    obtain ⟨r,q1,q2,q3,q4⟩:=fin c ok hf hs hh;exact ⟨r,q1,q2,q3,fun _ _ _=>q4⟩
  have bd:=ok.bd;have hi':i<es.length:=by omega
  have e1:decide ((i:Int)<(es.length:Int))=true:=aM (by omega)
  have sc:=aY (show i<1000000000 by omega)
  have cg:=aC es i hi';have ceta:(aP.mk (c.now.1,c.now.2) (Field.mk c.field.points) (aV.mk c.certs.next_ c.certs.list) (aH.mk (aQ.mk c.agenda.slots.uses c.agenda.slots.used c.agenda.slots.free) c.agenda.heap c.agenda.where_) c.due)=c:=rfl;have ceta2:aV.mk c.certs.next_ c.certs.list=c.certs:=rfl;have hc:=SD c.certs.list es[i]! (by omega)
  have hr:=AT c.certs es[i]! (by omega)
  by_cases hin:vX c.certs.list es[i]!
  · have s1:eY (eP es i c)=some (.next (eP es (i+1) c)):=by
     unfold eY eP;simp only [e1,cond_true,cg,aD,HO,hc,aM hin,sc]
    have s2:dO (eR es i c)=some (.next (eR es (i+1) c)):=by
     unfold dO eR;simp only [aE,e1,cond_true,cg,aD,ceta2,hr,aM hin,sc]
    rw [aW s1,aW s2];obtain ⟨r,q1,q2,q3,q4⟩:=ih (i+1) c (by omega) (by omega) ok hf hs (fun j hj=>if q:j=i then by rw [q];exact hin else hh j (by omega))
    exact ⟨r,q1,q2,q3,fun k hk hl=>q4 k hk (by omega)⟩
  · have hb:jR c.field.points es[i]!:=by rw [hf];exact eok.kn _ (bG hi')
    rcases aHh ok (eok.cv _ (bG hi')) hb hin with ⟨r1,r2,full⟩|⟨c',r1,r2,r3,r4,r5,r6,r7⟩
    · refine ⟨(dN,18),aI ?_,aI ?_,.inr rfl,fun k hk hl=>absurd full (hk.not_full ok (by omega))⟩
      · unfold eY eP
        simp only [e1,cond_true,cg,aD,HO,hc,aJ hin,cond_false,ceta,r1,show ((18:Int) !=0)=true from rfl]
      · unfold dO eR
        simp only [aE,e1,cond_true,cg,aD,ceta2,hr,aJ hin,cond_false,ceta,r2,show ((18:Int) !=0)=true from rfl]
    · have s1:eY (eP es i c)=some (.next (eP es (i+1) c')):=by
       unfold eY eP;simp only [e1,cond_true,cg,aD,HO,hc,aJ hin,cond_false,ceta,r1,show ((0:Int) !=0)=false from rfl,sc]
      have s2:dO (eR es i c)=some (.next (eR es (i+1) c')):=by
       unfold dO eR;simp only [aE,e1,cond_true,cg,aD,ceta2,hr,aJ hin,cond_false,ceta,r2,show ((0:Int) !=0)=false from rfl,sc]
      rw [aW s1,aW s2];obtain ⟨r,q1,q2,q3,q6⟩:=ih (i+1) c' (by omega) (by omega) r3 (by rw [r4,hf]) (fun x hx=>by
       rw [r6] at hx;rcases List.mem_append.1 (show x∈c.certs.list++[(c.certs.next_,es[i]!)] from hx) with h|h
       · exact hs x h
       · rw [List.mem_singleton.1 h];exact bG hi') (fun j hj=>by
       rw [r6];show vX (c.certs.list++[(c.certs.next_,es[i]!)]) _
       by_cases q:j=i
       · rw [q];exact ⟨c.certs.list.length,by rw [List.length_append,List.length_singleton];omega,by rw [gM (Nat.le_refl _),Nat.sub_self];rfl⟩
       · obtain ⟨w,w1,w2⟩:=hh j (by omega)
         exact ⟨w,by rw [List.length_append];omega,by rw [gI w1];exact w2⟩)
      refine ⟨r,q1,q2,q3.imp (fun ⟨q4,q5⟩=>⟨q4,q5.has,q5.sub,q5.ok,q5.fld,q5.now.trans r5,Int.le_trans ?_ q5.room⟩) id,fun k hk hl=>q6 (k+1) (hk.more r6 r7) (by omega)⟩
      unfold GL;rw [r6];show _<=(c.certs.next_+1) - (((c.certs.list++[(c.certs.next_,es[i]!)]).length:Nat):Int);rw [List.length_append,List.length_singleton];omega
theorem aHj {c:aP} (ok:bE c) {f:List Pt} (fok:cD f) {es:List (Int×Int)} (eok:JA f es):
 ∃r:aP×Int,tF c ⟨f⟩ es=some r/\mC c ⟨f⟩ es=some r/\(r.2=0/\XC c f es r.1\/r=(dN,18)):=by
 have f64:=fok.1;obtain ⟨c',g1,g2,g3,g4,g5,g6,g7⟩:=aBm ok eok c.certs.list.length 0 c (by omega) (by omega) ok (fun x hx=>by rwa [List.drop_zero] at hx) (fun x hx=> .inl (by rwa [List.drop_zero]))
 have bd:=g3.bd;have e1:decide ((c.certs.list.length:Int)<(c.certs.list.length:Int))=false:=aJ (by omega)
 have start1:tF c ⟨f⟩ es=aG dX (kP c f es 0 c):=rfl;have start2:mC c ⟨f⟩ es=aG dF (kR c f es 0 c):=by
  unfold mC;simp only [jS ok,aD];rfl
 rw [start1,start2,g1,g2];have eq1:=GK c'.field.points f (by omega)
 have eq2:=IN c'.field.points f (by omega)
 have ceta:(aP.mk (c'.now.1,c'.now.2) (Field.mk c'.field.points) (aV.mk c'.certs.next_ c'.certs.list) (aH.mk (aQ.mk c'.agenda.slots.uses c'.agenda.slots.used c'.agenda.slots.free) c'.agenda.heap c'.agenda.where_) c'.due)=c':=rfl
 by_cases hf:c'.field.points=f
 · obtain ⟨r,i1,i2,i3,_⟩:=SL fok eok es.length 0 c' (by omega) (by omega) g3 hf g4 (fun j hj=>absurd hj (Nat.not_lt_zero j))
   refine ⟨r,aI ?_,aI ?_,i3.imp (fun ⟨q4,q5⟩=>⟨q4,q5.has,q5.sub,q5.ok,q5.fld,q5.now.trans g6,Int.le_trans g7 q5.room⟩) id⟩
   · unfold dX kP
     simp only [e1,cond_false,eq1,aM hf,aD,Bool.not_true];exact i1
   · unfold dF kR
     simp only [aE,e1,cond_false,eq2,aM hf,aD,Bool.not_true];exact i2
 · have kn: ∀i,i<c'.certs.list.length->jR f (c'.certs.list[i]!).2:=fun i hi=>eok.kn _ (g4 _ (bG hi))
   rcases aPM g3 fok kn with ⟨a1,a2⟩|⟨c2,a1,a2,a3,a4,a5,a6⟩
   · refine ⟨(dN,18),aI ?_,aI ?_,.inr rfl⟩
     · unfold dX kP
       simp only [e1,cond_false,eq1,aJ hf,aD,Bool.not_false,cond_true,ceta,a1,show ((18:Int) !=0)=true from rfl]
     · unfold dF kR
       simp only [aE,e1,cond_false,eq2,aJ hf,aD,Bool.not_false,cond_true,ceta,a2,show ((18:Int) !=0)=true from rfl]
   · obtain ⟨r,i1,i2,i3,_⟩:=SL fok eok es.length 0 c2 (by omega) (by omega) a3 a4 (by rw [a6];exact g4) (fun j hj=>absurd hj (Nat.not_lt_zero j))
     refine ⟨r,aI ?_,aI ?_,i3.imp (fun ⟨q4,q5⟩=>⟨q4,q5.has,q5.sub,q5.ok,q5.fld,(q5.now.trans a5).trans g6,Int.le_trans (Int.le_trans g7 (by unfold GL;rw [a6];exact Int.le_refl _)) q5.room⟩) id⟩
     · unfold dX kP
       simp only [e1,cond_false,eq1,aJ hf,aD,Bool.not_false,cond_true,ceta,a1,show ((0:Int) !=0)=false from rfl];exact i1
     · unfold dF kR
       simp only [aE,e1,cond_false,eq2,aJ hf,aD,Bool.not_false,cond_true,ceta,a2,show ((0:Int) !=0)=false from rfl];exact i2
end Go.Proofs.YticklbjcnimggaaGreat
namespace Go.Proofs.YticklbjcnimggaaGreat
open Go.Vm Classical
theorem L0 {α:Type} [Inhabited α] {l:List α}:l.Nodup↔ ∀k,k<l.length->l[k]!∉l.take k:=by
 rw [lN];constructor
 · intro h k hk hm
   obtain ⟨i,h1,h2,h3⟩:=cF.1 hm;exact h i k h1 hk h3
 · intro h i j hij hj he
   exact h j hj (cF.2 ⟨i,hij,by omega,he⟩)
theorem GM {α:Type} [Inhabited α] {l:List α} {P:α->Prop}:(∀x∈l,P x)↔ ∀i,i<l.length->P l[i]!:=by
 constructor
 · intro h i hi;exact h _ (bG hi)
 · intro h x hx
   obtain ⟨i,hi,rfl⟩:=bD.1 hx;exact h i hi
theorem PJ {σ ρ:Type} {body:σ->Option (cH σ ρ)} (st:Nat->σ) (n:Nat) (P:Nat->Prop) {r e:ρ} (h: ∀i,i<n->(¬P i->body (st i)=some (.done r))/\(P i->body (st i)=some (.next (st (i+1)))))
 (hend:body (st n)=some (.done e)):aG body (st 0)=some (if∀i,i<n->P i then e else r):=by
 have key:=cX (body:=body) st n (fun i=> ¬P i) (r:=r) (e:=e) (fun i hi=>⟨(h i hi).1,fun hn=>(h i hi).2 (Classical.not_not.1 hn)⟩) hend
 by_cases hx: ∀i,i<n->P i
 · rw [if_pos hx];exact key.2 fun i hi=>Classical.not_not.2 (hx i hi)
 · rw [if_neg hx]
   obtain ⟨i,h⟩:=Classical.not_forall.1 hx;obtain ⟨hi,hx⟩:=Classical.not_imp.1 h;exact key.1 ⟨i,hi,hx⟩
theorem D4 {f:List Pt} (fok:cD f) (id:Int): ∃p e,vI ⟨f⟩ id=some (p,e)/\(e=0↔xX f id):=by
 have h1:=fok.1;have hc:eS ⟨f⟩=some 0:=by rw [iU];exact congrArg some (gN.2 fok)
 have bs:=DH f id (by omega) (fun i j=>nM fok.2.2)
 unfold vI kZ vH;rw [PF];simp only [hc,aD,show ((0:Int) !=0)=false from rfl,cond_false]
 by_cases h:xX f id
 · obtain ⟨k,hk,he⟩:=h
   rw [bs.1 k hk he];refine ⟨f[k]!,0,?_,fun _=>⟨k,hk,he⟩,fun _=>rfl⟩
   simp only [aD,Bool.not_true,cond_false,show ((0:Int) !=0)=false from rfl,aC f k hk]
 · obtain ⟨m,_,_,_,e⟩:=bs.2 (fun k hk he=>h ⟨k,hk,he⟩)
   rw [e];exact ⟨(0,0,0),6,rfl,fun h=>(by cases h),fun k=>absurd k h⟩
structure NO (c:aP):Prop where
 f:c.field.points.length<=1000000
 l:c.certs.list.length<=1000000
 d:c.due.length<=1000000
 h:c.agenda.heap.length<=1000000
 w:c.agenda.where_.length<=1000000
 s1:c.agenda.slots.uses.length<=1000000
 s2:c.agenda.slots.used.length<=1000000
 s3:c.agenda.slots.free.length<=1000000
theorem bE.short {c:aP} (ok:bE c):NO c:=by
 have bd:=ok.bd;have ab:=ok.agd.bd;have sl:=ok.agd.so.fl;have sn:=ok.agd.so.n2;have su:=ok.agd.so.ul;exact ⟨by omega,by omega,by omega,by omega,by omega,by omega,by omega,by omega⟩
theorem MD:NO dN:=⟨by decide,by decide,by decide,by decide,by decide,by decide,by decide,by decide⟩
theorem HS (l:List Int) (hl:l.length<=1000000):kQ l l=some true:=by
 unfold kQ;rw [cZ rfl];refine (bT (body:=mG) (fun i=>(l,l,(i:Int))) l.length fun i hi=>?_).trans (aI ?_)
 · have e1:decide ((i:Int)<(l.length:Int))=true:=aM (by omega)
   unfold mG;simp only [aE,e1,cond_true,aC l i hi,aD,aY (show i<1000000000 by omega),cZ rfl,cond_false]
 · unfold mG
   have:decide ((l.length:Int)<(l.length:Int))=false:=aJ (by omega)
   simp only [aE,this,cond_false]
theorem UZ (l:List Bool) (hl:l.length<=1000000):oL l l=some true:=by
 unfold oL;rw [cZ rfl];refine (bT (body:=lM) (fun i=>(l,l,(i:Int))) l.length fun i hi=>?_).trans (aI ?_)
 · have e1:decide ((i:Int)<(l.length:Int))=true:=aM (by omega)
   unfold lM;simp only [aE,e1,cond_true,aC l i hi,aD,aY (show i<1000000000 by omega),beq_self_eq_true,Bool.not_true,cond_false]
 · unfold lM
   have:decide ((l.length:Int)<(l.length:Int))=false:=aJ (by omega)
   simp only [aE,this,cond_false]
theorem U0 (c:aV) (hl:c.list.length<=1000000):AH c c=some true:=by
 unfold AH;rw [cZ rfl,cZ rfl];refine (bT (body:=sH) (fun i=>((i:Int),c.next_,c.list,c.next_,c.list)) c.list.length fun i hi=>?_).trans (aI ?_)
 · have e1:decide ((i:Int)<(c.list.length:Int))=true:=aM (by omega)
   unfold sH;simp only [aE,e1,cond_true,aC c.list i hi,aD,aY (show i<1000000000 by omega),beq_self_eq_true,Bool.and_self,Bool.not_true,cond_false]
 · unfold sH
   have:decide ((c.list.length:Int)<(c.list.length:Int))=false:=aJ (by omega)
   simp only [aE,this,cond_false]
theorem SM (a:aH) (h1:a.heap.length<=1000000) (h2:a.where_.length<=1000000) (h3:a.slots.uses.length<=1000000) (h4:a.slots.used.length<=1000000) (h5:a.slots.free.length<=1000000):AI a a=some true:=by
 unfold AI EV;simp only [HS _ h3,UZ _ h4,HS _ h5,HS _ h2,aD,cond_true,Bool.not_true,cond_false];rw [cZ rfl];refine (bT (body:=sI) (fun i=>((i:Int),a.slots.uses,a.slots.used,a.slots.free,a.heap,a.where_,a.slots.uses,a.slots.used,a.slots.free,a.heap,a.where_)) a.heap.length fun i hi=>?_).trans (aI ?_)
 · have e1:decide ((i:Int)<(a.heap.length:Int))=true:=aM (by omega)
   unfold sI;simp only [aE,e1,cond_true,aC a.heap i hi,aD,aY (show i<1000000000 by omega),beq_self_eq_true,Bool.and_self,Bool.not_true,cond_false]
 · unfold sI
   have:decide ((a.heap.length:Int)<(a.heap.length:Int))=false:=aJ (by omega)
   simp only [aE,this,cond_false]
theorem U1 {c:aP} (sh:NO c):AJ c c=some true:=by
 have hd:=sh.d;unfold AJ;simp only [beq_self_eq_true,Bool.and_self,Bool.not_true,cond_false,IN c.field.points c.field.points sh.f,U0 _ sh.l,SM _ sh.h sh.w sh.s1 sh.s2 sh.s3,aD,aM];rw [cZ rfl]
 refine (bT (body:=sJ) (fun i=>((i:Int),c.now.1,c.now.2,c.field.points,c.certs.next_,c.certs.list,c.agenda.slots.uses,c.agenda.slots.used,c.agenda.slots.free,c.agenda.heap,c.agenda.where_,c.due,c.now.1,c.now.2,c.field.points,c.certs.next_,c.certs.list,c.agenda.slots.uses,c.agenda.slots.used,c.agenda.slots.free,c.agenda.heap,c.agenda.where_,c.due)) c.due.length fun i hi=>?_).trans (aI ?_)
 · have e1:decide ((i:Int)<(c.due.length:Int))=true:=aM (by omega)
   unfold sJ;simp only [aE,e1,cond_true,aC c.due i hi,aD,aY (show i<1000000000 by omega),beq_self_eq_true,Bool.and_self,Bool.not_true,cond_false]
 · unfold sJ
   have:decide ((c.due.length:Int)<(c.due.length:Int))=false:=aJ (by omega)
   simp only [aE,this,cond_false]
structure aBn (c:aP):Prop where
 now:pL c.now
 at64: ∀w,w<c.agenda.heap.length->pL ((c.agenda.heap[w]!).1,(c.agenda.heap[w]!).2.1)
theorem SN (f:Field):sX f=some true\/(sX f=some false/\f.points.length<=70):=by
 unfold sX
 simp only [aE]
 by_cases h1:16<f.points.length
 · rw [aM (show (16:Int)<(f.points.length:Int) by omega)]
   by_cases h2:f.points.length<64
   · rw [aM (show (f.points.length:Int)<64 by omega)];exact .inl rfl
   · rw [aJ (show¬(f.points.length:Int)<64 by omega)]
     by_cases h3:70<f.points.length
     · rw [aM (show (70:Int)<(f.points.length:Int) by omega)];exact .inl rfl
     · rw [aJ (show¬(70:Int)<(f.points.length:Int) by omega)];exact .inr ⟨rfl,by omega⟩
 · rw [aJ (show¬(16:Int)<(f.points.length:Int) by omega),aJ (show¬(70:Int)<(f.points.length:Int) by omega)]
   exact .inr ⟨rfl,by omega⟩
theorem SO (c:aP):sY c=some true\/(sY c=some false/\NO c):=by
 unfold sY B4 B3
 simp only [aE]
 by_cases h1:40<c.certs.list.length
 · rw [aM (show (40:Int)<(c.certs.list.length:Int) by omega)];exact .inl rfl
 rw [aJ (show¬(40:Int)<(c.certs.list.length:Int) by omega)]
 by_cases h2:40<c.due.length
 · rw [aM (show (40:Int)<(c.due.length:Int) by omega)];exact .inl rfl
 rw [aJ (show¬(40:Int)<(c.due.length:Int) by omega)]
 rcases SN c.field with e|⟨e,hf⟩
 · rw [e];exact .inl rfl
 rw [e];simp only [cond_false,aD]
 by_cases a1:210<c.agenda.slots.uses.length
 · rw [aM (show (210:Int)<(c.agenda.slots.uses.length:Int) by omega)];exact .inl rfl
 rw [aJ (show¬(210:Int)<(c.agenda.slots.uses.length:Int) by omega)]
 by_cases a2:210<c.agenda.slots.used.length
 · rw [aM (show (210:Int)<(c.agenda.slots.used.length:Int) by omega)];exact .inl rfl
 rw [aJ (show¬(210:Int)<(c.agenda.slots.used.length:Int) by omega)]
 by_cases a3:210<c.agenda.slots.free.length
 · rw [aM (show (210:Int)<(c.agenda.slots.free.length:Int) by omega)];exact .inl rfl
 rw [aJ (show¬(210:Int)<(c.agenda.slots.free.length:Int) by omega)]
 by_cases a4:210<c.agenda.heap.length
 · rw [aM (show (210:Int)<(c.agenda.heap.length:Int) by omega)];exact .inl rfl
 rw [aJ (show¬(210:Int)<(c.agenda.heap.length:Int) by omega)]
 by_cases a5:210<c.agenda.where_.length
 · rw [aM (show (210:Int)<(c.agenda.where_.length:Int) by omega)];exact .inl rfl
 rw [aJ (show¬(210:Int)<(c.agenda.where_.length:Int) by omega)]
 exact .inr ⟨rfl,⟨by omega,by omega,by omega,by omega,by omega,by omega,by omega,by omega⟩⟩
theorem U2 {c:aP} (sh:NO c):iK c=some c:=by
 obtain ⟨h1,h2,h3,h4,h5,h6,h7,h8⟩:=sh;unfold iK oS oT lI mM;simp only [aZ (show c.field.points.length<=1048576 by omega),aZ (show c.certs.list.length<=1048576 by omega),aZ (show c.due.length<=1048576 by omega),aZ (show c.agenda.heap.length<=1048576 by omega),aZ (show c.agenda.where_.length<=1048576 by omega),
  aZ (show c.agenda.slots.uses.length<=1048576 by omega),aZ (show c.agenda.slots.used.length<=1048576 by omega),aZ (show c.agenda.slots.free.length<=1048576 by omega),aD]
end Go.Proofs.YticklbjcnimggaaGreat
namespace Go.Proofs.YticklbjcnimggaaGreat
open Go.Vm Classical
noncomputable def nP (f:List Pt) (es:List (Int×Int)):Int:=if¬(∀x∈es,fI x) then 8 else if¬es.Nodup then 14 else if¬(∀x∈es,jR f x) then 6 else 0
def rP (c:aP) (f:List Pt) (es:List (Int×Int)) (i:Nat):=
 (es,es,(es.length:Int),(i:Int),c.now.1,c.now.2,c.field.points,c.certs.next_,c.certs.list,c.agenda.slots.uses,c.agenda.slots.used,c.agenda.slots.free,c.agenda.heap,c.agenda.where_,c.due,f,(0:Int),(0:Int),(0:Int))
theorem L1 {c:aP} (ok:bE c) {f:List Pt} (fok:cD f) {es:List (Int×Int)} (hl:es.length<=1000) {r:aP×Int} (hr:nP f es=0->tF c ⟨f⟩ es=some r):
 pD c ⟨f⟩ es=some (if nP f es=0 then r else (dN,nP f es)):=by
 have bd:=ok.bd;have ab:=ok.agd.bd;have sl:=ok.agd.so.fl;have sn:=ok.agd.so.n2;have su:=ok.agd.so.ul;have el:decide ((es.length:Int)<(es.length:Int))=false:=aJ (by omega)
 have hc:gL c=some 0:=by rw [nB ok.fit,if_pos ok]
 have hf:eS ⟨f⟩=some 0:=by rw [iU];exact congrArg some (gN.2 fok)
 have tw:vK (aP.mk (c.now.1,c.now.2) (Field.mk c.field.points) (aV.mk c.certs.next_ c.certs.list) (aH.mk (aQ.mk c.agenda.slots.uses c.agenda.slots.used c.agenda.slots.free) c.agenda.heap c.agenda.where_) c.due)=some c:=by
  unfold vK;simp only [aZ (show c.field.points.length<=1048576 by omega),aZ (show c.certs.list.length<=1048576 by omega),aZ (show c.due.length<=1048576 by omega),aZ (show c.agenda.heap.length<=1048576 by omega),aZ (show c.agenda.where_.length<=1048576 by omega),
   aZ (show c.agenda.slots.uses.length<=1048576 by omega),aZ (show c.agenda.slots.used.length<=1048576 by omega),aZ (show c.agenda.slots.free.length<=1048576 by omega),aD]
 have k3: ∀e2:aP×Int,aG dY (rP c f es 0)=some (.done e2)->aG dZ (rP c f es 0)=some (if∀i,i<es.length->fI es[i]! then e2 else (dN,8)):=by
  intro e2 h2;refine PJ (body:=dZ) (fun i=>rP c f es i) es.length (fun i=>fI es[i]!) (r:=(dN,8)) (e:=e2) (fun i hi=>?_) ?_
  · have e1:decide ((i:Int)<(es.length:Int))=true:=aM (by omega)
    unfold dZ rP fI;simp only [e1,cond_true,aC es i hi,aD,aY (show i<1000000000 by omega)]
    generalize es[i]! =x
    by_cases a1:x.1<0
    · rw [aM a1];exact ⟨fun _=>rfl,fun h=>by omega⟩
    rw [aJ a1]
    by_cases a2:x.2<0
    · rw [aM a2];exact ⟨fun _=>rfl,fun h=>by omega⟩
    rw [aJ a2]
    by_cases a3:65535<x.1
    · rw [aM a3];exact ⟨fun _=>rfl,fun h=>by omega⟩
    rw [aJ a3]
    by_cases a4:65535<x.2
    · rw [aM a4];exact ⟨fun _=>rfl,fun h=>by omega⟩
    rw [aJ a4]
    by_cases a5:x.1=x.2
    · rw [gX a5];exact ⟨fun _=>rfl,fun h=>absurd a5 h.2.2.2.2⟩
    · rw [fW a5];exact ⟨fun h=>absurd ⟨by omega,by omega,by omega,by omega,a5⟩ h,fun _=>rfl⟩
  · unfold dZ rP
    simp only [aE,el,cond_false];exact h2
 have k2: ∀e1:aP×Int,aG eZ (rP c f es 0)=some (.done (.done e1))->aG dY (rP c f es 0)=some (.done (if∀i,i<es.length->es[i]!∉es.take i then e1 else (dN,14))):=by
  intro e0 h2
  have:=PJ (body:=dY) (fun i=>rP c f es i) es.length (fun i=>es[i]!∉es.take i) (r:= .done (dN,14)) (e:= .done e0) (fun i hi=>by
   have e1:decide ((i:Int)<(es.length:Int))=true:=aM (by omega)
   unfold dY rP;simp only [e1,cond_true,aC es i hi,nO es i (by omega),aD,oE _ _ (show (es.take i).length<=1000000 by rw [List.length_take];omega),aY (show i<1000000000 by omega)]
   by_cases h:es[i]!∈es.take i
   · rw [aM h];exact ⟨fun _=>rfl,fun k=>absurd h k⟩
   · rw [aJ h];exact ⟨fun k=>absurd h k,fun _=>rfl⟩) (by
   unfold dY rP;simp only [aE,el,cond_false];exact h2)
  refine this.trans ?_
  by_cases hb: ∀i,i<es.length->es[i]!∉es.take i
  · rw [if_pos hb,if_pos hb]
  · rw [if_neg hb,if_neg hb]
 have step1: ∀i,i<es.length->(¬jR f es[i]!->eZ (rP c f es i)=some (.done (.done (.done (dN,6)))))/\(jR f es[i]!->eZ (rP c f es i)=some (.next (rP c f es (i+1)))):=by
  intro i hi;have e1:decide ((i:Int)<(es.length:Int))=true:=aM (by omega)
  obtain ⟨p,e,a1,a2⟩:=D4 fok (es[i]!).1;obtain ⟨q,g,b1,b2⟩:=D4 fok (es[i]!).2;unfold eZ rP jR;simp only [e1,cond_true,aC es i hi,aD,a1,b1,aY (show i<1000000000 by omega)]
  by_cases h1:xX f (es[i]!).1
  · rw [cZ (a2.2 h1)]
    by_cases h2:xX f (es[i]!).2
    · rw [cZ (b2.2 h2)]
      exact ⟨fun h=>absurd ⟨h1,h2⟩ h,fun _=>rfl⟩
    · rw [eC (fun h=>h2 (b2.1 h))]
      exact ⟨fun _=>rfl,fun h=>absurd h.2 h2⟩
  · rw [eC (fun h=>h1 (a2.1 h))]
    exact ⟨fun _=>rfl,fun h=>absurd h.1 h1⟩
 have start:pD c ⟨f⟩ es=aG dZ (rP c f es 0):=by
  unfold pD;simp only [hc,aD,show ((0:Int) !=0)=false from rfl,cond_false,hf];rfl
 rw [start]
 by_cases h1: ∀x∈es,fI x
 case neg=>
  have er:nP f es=8:=by unfold nP;rw [if_pos h1]
  rw [er,if_neg (by omega)]
  have:=cX (body:=dZ) (fun i=>rP c f es i) es.length (fun i=> ¬fI es[i]!) (r:=(dN,8)) (e:=r)
  have k3':=k3;rw [GM (P:=fI)] at h1;obtain ⟨i,h⟩:=Classical.not_forall.1 h1;obtain ⟨hi,hx⟩:=Classical.not_imp.1 h;obtain ⟨m,m1,m2,m3⟩:=F7 (c:=fun i=> ¬fI es[i]!) ⟨i,hi,hx⟩
  have go: ∀j,j<es.length->(¬fI es[j]!->dZ (rP c f es j)=some (.done (dN,8)))/\(fI es[j]!->dZ (rP c f es j)=some (.next (rP c f es (j+1)))):=by
   intro j hj;have e1:decide ((j:Int)<(es.length:Int))=true:=aM (by omega)
   unfold dZ rP fI;simp only [e1,cond_true,aC es j hj,aD,aY (show j<1000000000 by omega)]
   generalize es[j]! =x
   by_cases a1:x.1<0
   · rw [aM a1];exact ⟨fun _=>rfl,fun h=>by omega⟩
   rw [aJ a1]
   by_cases a2:x.2<0
   · rw [aM a2];exact ⟨fun _=>rfl,fun h=>by omega⟩
   rw [aJ a2]
   by_cases a3:65535<x.1
   · rw [aM a3];exact ⟨fun _=>rfl,fun h=>by omega⟩
   rw [aJ a3]
   by_cases a4:65535<x.2
   · rw [aM a4];exact ⟨fun _=>rfl,fun h=>by omega⟩
   rw [aJ a4]
   by_cases a5:x.1=x.2
   · rw [gX a5];exact ⟨fun _=>rfl,fun h=>absurd a5 h.2.2.2.2⟩
   · rw [fW a5];exact ⟨fun h=>absurd ⟨by omega,by omega,by omega,by omega,a5⟩ h,fun _=>rfl⟩
  rw [bT (body:=dZ) (fun i=>rP c f es i) m fun j hj=>(go j (by omega)).2 (Classical.not_not.1 (m3 j hj))]
  exact aI ((go m m1).1 m2)
 have h1':=(GM (P:=fI)).1 h1
 by_cases h2:es.Nodup
 case neg=>
  have er:nP f es=14:=by unfold nP;rw [if_neg (Classical.not_not.2 h1),if_pos h2]
  rw [er,if_neg (by omega)]
  have h2':=h2;rw [L0] at h2';obtain ⟨i,h⟩:=Classical.not_forall.1 h2';obtain ⟨hi,hx⟩:=Classical.not_imp.1 h;obtain ⟨m,m1,m2,m3⟩:=F7 (c:=fun i=> ¬es[i]!∉es.take i) ⟨i,hi,hx⟩
  have go: ∀j,j<es.length->(es[j]!∈es.take j->dY (rP c f es j)=some (.done (.done (dN,14))))/\(es[j]!∉es.take j->dY (rP c f es j)=some (.next (rP c f es (j+1)))):=by
   intro j hj;have e1:decide ((j:Int)<(es.length:Int))=true:=aM (by omega)
   unfold dY rP;simp only [e1,cond_true,aC es j hj,nO es j (by omega),aD,oE _ _ (show (es.take j).length<=1000000 by rw [List.length_take];omega),aY (show j<1000000000 by omega)]
   by_cases h:es[j]!∈es.take j
   · rw [aM h];exact ⟨fun _=>rfl,fun k=>absurd h k⟩
   · rw [aJ h];exact ⟨fun k=>absurd k h,fun _=>rfl⟩
  have l2:aG dY (rP c f es 0)=some (.done (dN,14)):=by
   rw [bT (body:=dY) (fun i=>rP c f es i) m fun j hj=>(go j (by omega)).2 (Classical.not_not.1 (m3 j hj))]
   exact aI ((go m m1).1 (Classical.not_not.1 m2))
  rw [k3 _ l2,if_pos h1']
 have h2':=L0.1 h2
 by_cases h3: ∀x∈es,jR f x
 case neg=>
  have er:nP f es=6:=by unfold nP;rw [if_neg (Classical.not_not.2 h1),if_neg (Classical.not_not.2 h2),if_pos h3]
  rw [er,if_neg (by omega)]
  have h3':=h3;rw [GM (P:=jR f)] at h3';obtain ⟨i,h⟩:=Classical.not_forall.1 h3';obtain ⟨hi,hx⟩:=Classical.not_imp.1 h;obtain ⟨m,m1,m2,m3⟩:=F7 (c:=fun i=> ¬jR f es[i]!) ⟨i,hi,hx⟩
  have l1:aG eZ (rP c f es 0)=some (.done (.done (dN,6))):=by
   rw [bT (body:=eZ) (fun i=>rP c f es i) m fun j hj=>(step1 j (by omega)).2 (Classical.not_not.1 (m3 j hj))]
   exact aI ((step1 m m1).1 m2)
  rw [k3 _ (k2 _ l1),if_pos h1',if_pos h2']
 have h3':=(GM (P:=jR f)).1 h3;have er:nP f es=0:=by unfold nP;rw [if_neg (Classical.not_not.2 h1),if_neg (Classical.not_not.2 h2),if_neg (Classical.not_not.2 h3)]
 rw [er,if_pos rfl];have l1:aG eZ (rP c f es 0)=some (.done (.done r)):=by
  rw [bT (body:=eZ) (fun i=>rP c f es i) es.length fun j hj=>(step1 j hj).2 (h3' j hj)]
  refine aI ?_;unfold eZ rP;simp only [el,cond_false,tw,aD,hr er]
 rw [k3 _ (k2 _ l1),if_pos h1',if_pos h2']
end Go.Proofs.YticklbjcnimggaaGreat
namespace Go.Proofs.YticklbjcnimggaaGreat
open Go.Vm Classical
theorem aBn.of {c:aP} (h1:RT.wf [.i .i64,.i .i64] c.now) (h2: ∀a∈c.agenda.heap,RT.wf [.i .i64,.i .i64,.i .i64,.i .i64,.i .i64] a):aBn c where
 now:=⟨OL h1.1,OL h1.2⟩
 at64 w hw:=by
  have:=h2 (c.agenda.heap[w]!) (by rw [getElem!_pos c.agenda.heap w hw];exact List.getElem_mem hw)
  exact ⟨OL this.1,OL this.2.1⟩
end Go.Proofs.YticklbjcnimggaaGreat
namespace Go.Proofs.YticklbjcnimggaaGreat
open Go.Vm Classical
theorem aHk (p q:Pt) (t:Int×Int):NA p q t=(p.2.1-q.2.1)*t.2+(p.2.2-q.2.2)*t.1:=rfl
end Go.Proofs.YticklbjcnimggaaGreat
namespace Go.Proofs.YticklbjcnimggaaGreat
open Go.Vm Classical
end Go.Proofs.YticklbjcnimggaaGreat
namespace Go.Proofs.YticklbjcnimggaaGreat
theorem E0 {α:Type} [BEq α] [LawfulBEq α]: ∀{a b:List α},a.Nodup->(∀x∈a,x∈b)->b.length<=a.length->a.Perm b
 | [],b,_,_,hl=>by
  rw [List.eq_nil_of_length_eq_zero (show b.length=0 by simpa using hl)]
 |x::a,b,hd,h,hl=>by
  rw [List.nodup_cons] at hd;have hx:=h x List.mem_cons_self;have ih:=E0 (a:=a) (b:=b.erase x) hd.2 (fun y hy=>by
   rw [List.mem_erase_of_ne (fun e=>hd.1 (by rw [<- e];exact hy))]
   exact h y (List.mem_cons_of_mem _ hy)) (by
   rw [List.length_erase_of_mem hx];rw [List.length_cons] at hl
   omega)
  exact (List.Perm.cons x ih).trans (List.perm_cons_erase hx).symm
theorem L2 {α β:Type} {f:α->β}: ∀{l:List α},l.Nodup->(∀x∈l,∀y∈l,f x=f y->x=y)->(l.map f).Nodup
 | [],_,_=>List.nodup_nil
 |x::l,h,hi=>by
  rw [List.nodup_cons] at h;rw [List.map_cons,List.nodup_cons];refine ⟨fun hm=>?_,L2 h.2 fun y hy z hz=>hi y (List.mem_cons_of_mem _ hy) z (List.mem_cons_of_mem _ hz)⟩
  obtain ⟨y,hy,e⟩:=List.mem_map.1 hm
  have:=hi y (List.mem_cons_of_mem _ hy) x List.mem_cons_self e
  rw [this] at hy;exact h.1 hy
end Go.Proofs.YticklbjcnimggaaGreat
namespace Go.Proofs.YticklbjcnimggaaGreat
open Go.Vm Classical
theorem aHl {f:List Pt} (fok:cD f) {t:Int×Int} (r64:pL t) {x:Int×Int} (hb:jR f x):AF x ⟨f⟩ t=some (decide (hZ (mH f x.2) (mH f x.1) t)):=by
 obtain ⟨h1,h2⟩:=hb;obtain ⟨j,j1,j2,j3⟩:=HR fok h1;obtain ⟨k,k1,k2,k3⟩:=HR fok h2;unfold AF;simp only [j2,k2,aD,aC f j j1,aC f k k1,j3,k3,LA (jG fok h2).1 (jG fok h1).1 r64]
end Go.Proofs.YticklbjcnimggaaGreat
namespace Go.Proofs.YticklbjcnimggaaGreat
open Go.Vm Classical
theorem SP {c:aV} (ok:eU c):(c.list.map fun x=>x.2).Nodup:=by
 refine L2 ?_ ?_
 · exact lN.2 fun i j hij hj e=>ok.nd i j hij hj (by rw [e])
 · intro x hx y hy e
   obtain ⟨i,hi,rfl⟩:=bD.1 hx;obtain ⟨j,hj,rfl⟩:=bD.1 hy;rcases Nat.lt_trichotomy i j with k|k|k
   · exact absurd e (ok.nd i j k hj)
   · rw [k]
   · exact absurd e.symm (ok.nd j i k hi)
theorem GN {l:List tU} {x:Int×Int}:vX l x↔x∈l.map fun y=>y.2:=by
 unfold vX;rw [List.mem_map];constructor
 · rintro ⟨i,hi,rfl⟩;exact ⟨l[i]!,bG hi,rfl⟩
 · rintro ⟨y,hy,rfl⟩
   obtain ⟨i,hi,rfl⟩:=bD.1 hy;exact ⟨i,hi,rfl⟩
theorem aHm {c:aP} (ok:bE c) (es:List (Int×Int)) (kn: ∀x∈es,jR c.field.points x):
 AG c es=some (decide (c.certs.list.length=es.length/\ ∀i,i<es.length->vX c.certs.list es[i]!/\hZ (mH c.field.points (es[i]!).2) (mH c.field.points (es[i]!).1) c.now)):=by
 have bd:=ok.bd;unfold AG;simp only [aE]
 by_cases h0:c.certs.list.length=es.length
 case neg=>rw [eC (by omega),cond_true,aJ (fun h=>h0 h.1)]
 rw [cZ (by omega),cond_false]
 have key:=PJ (body:=sC) (fun i=>(es,(i:Int),c.now.1,c.now.2,c.field.points,c.certs.next_,c.certs.list,c.agenda.slots.uses,c.agenda.slots.used,c.agenda.slots.free,c.agenda.heap,c.agenda.where_,c.due)) es.length
  (fun i=>vX c.certs.list es[i]!/\hZ (mH c.field.points (es[i]!).2) (mH c.field.points (es[i]!).1) c.now) (r:=false) (e:=true) (fun i hi=>by
  have ceta2:aV.mk c.certs.next_ c.certs.list=c.certs:=rfl;unfold sC;simp only [aE,aM (show (i:Int)<(es.length:Int) by omega),cond_true,aC es i hi,aD,ceta2,AT c.certs es[i]! (by omega),aHl ok.fld (t:=(c.now.1,c.now.2)) ok.now64 (kn _ (bG hi)),aY (show i<1000000000 by omega)]
  by_cases h1:vX c.certs.list es[i]!
  · rw [aM h1]
    by_cases h2:hZ (mH c.field.points (es[i]!).2) (mH c.field.points (es[i]!).1) c.now
    · rw [show decide (hZ (mH c.field.points (es[i]!).2) (mH c.field.points (es[i]!).1) (c.now.1,c.now.2))=true from aM h2]
      exact ⟨fun h=>absurd ⟨h1,h2⟩ h,fun _=>rfl⟩
    · rw [show decide (hZ (mH c.field.points (es[i]!).2) (mH c.field.points (es[i]!).1) (c.now.1,c.now.2))=false from aJ h2]
      exact ⟨fun _=>rfl,fun h=>absurd h.2 h2⟩
  · rw [aJ h1]
    exact ⟨fun _=>rfl,fun h=>absurd h.1 h1⟩) (by
  unfold sC;simp only [aE,aJ (show¬(es.length:Int)<(es.length:Int) by omega),cond_false])
 refine (show _=_ from key).trans ?_
 by_cases h2: ∀i,i<es.length->vX c.certs.list es[i]!/\hZ (mH c.field.points (es[i]!).2) (mH c.field.points (es[i]!).1) c.now
 · rw [if_pos h2,aM ⟨h0,h2⟩]
 · rw [if_neg h2,aJ (fun h=>h2 h.2)]
end Go.Proofs.YticklbjcnimggaaGreat
