/- Plain laws (3). -/
import Derived.Test.YtbncnimfgdelaaaGreatBQM2
import Derived.Test.YtbncnimfgdelaaaGreatBQS2
namespace Go.Proofs.YtbncnimfgdelaaaGreat
open Go.Vm Classical
theorem VF (c:aO) (n:Int) (hl:c.due.length<=1000000):(∀k,k<c.due.length->(c.due[k]!).1=n->(∀j,j<k->(c.due[j]!).1≠n)->qJ c n=some (k:Int))/\((∀k,k<c.due.length->(c.due[k]!).1≠n)->qJ c n=some (-1)):=by
 unfold qJ;refine nU (body:=rH) (fun i=>(n,(i:Int),c.now.1,c.now.2,c.field.points,c.certs.next_,c.certs.list,c.agenda.slots.uses,c.agenda.slots.used,c.agenda.slots.free,c.agenda.heap,c.agenda.where_,c.due)) c.due.length (fun i=>(c.due[i]!).1=n) (fun i=>(i:Int)) (fun i hi=>?_) ?_
 · have e1:decide ((i:Int)<(c.due.length:Int))=true:=aQ (by omega)
   unfold rH;simp only [aF,e1,cond_true,aD c.due i hi,aE,aW (show i<1000000000 by omega)]
   constructor
   · intro h;rw [fQ h];rfl
   · intro h;rw [eG h];rfl
 · unfold rH
   have:decide ((c.due.length:Int)<(c.due.length:Int))=false:=aM (by omega)
   simp only [aF,this,cond_false]
theorem P5 {ds:List vB} (hu:Up ds) (hl:ds.length<=1000000) (n:Int):(∀k,k<ds.length->(ds[k]!).1=n->qD ds n=some ((k:Int),true))/\((∀k,k<ds.length->(ds[k]!).1≠n)-> ∃m:Nat,qD ds n=some ((m:Int),false)):=by
 have bs:=K7 ds n hl (wB.1 hu);unfold qD;rw [aP0];constructor
 · intro k hk he;rw [bs.1 k hk he];rfl
 · intro h
   obtain ⟨m,_,_,_,e⟩:=bs.2 h;exact ⟨m,by rw [e];rfl⟩
theorem bF.bd {c:aO} (ok:bF c):c.due.length<=200/\c.field.points.length<=64/\c.certs.list.length<=200:=by
 have:=ok.hd;have:=ok.agd.bd;have:=ok.fld.1;have:=ok.crt.len
 omega
theorem kE {c:aO} (ok:bF c):nQ c=some c:=by
 have bd:=ok.bd;unfold nQ nO sS;simp only [bE (show c.field.points.length<=1048576 by omega),bE (show c.certs.list.length<=1048576 by omega),bE (show c.due.length<=1048576 by omega),aE,uB ok.agd]
theorem mW {c:aO} (ok:bF c):nL c=some c:=by
 have bd:=ok.bd;have ab:=ok.agd.bd;have hl:=ok.agd.so.fl;have hn:=ok.agd.so.n2;have hu:=ok.agd.so.ul;unfold nL;simp only [bE (show c.field.points.length<=1048576 by omega),bE (show c.certs.list.length<=1048576 by omega),bE (show c.due.length<=1048576 by omega),bE (show c.agenda.heap.length<=1048576 by omega),bE (show c.agenda.where_.length<=1048576 by omega),
  bE (show c.agenda.slots.uses.length<=1048576 by omega),bE (show c.agenda.slots.used.length<=1048576 by omega),bE (show c.agenda.slots.free.length<=1048576 by omega),aE]
theorem BZ {cs:List vB} {i:Nat} (hu:Up cs) (hi:i<cs.length) {x:vB} (hx:x∈cs.eraseIdx i):x∈cs/\x.1≠(cs[i]!).1:=by
 rw [xE,List.mem_append] at hx;have ub:=wB.1 hu;rcases hx with hx|hx
 · obtain ⟨j,h1,h2,rfl⟩:=cE.1 hx
   have:=ub j i h1 hi
   exact ⟨bB h2,by omega⟩
 · obtain ⟨j,hj,rfl⟩:=aY.1 hx
   rw [List.length_drop] at hj;rw [wH]
   have:=ub i (i+1+j) (by omega) (by omega)
   exact ⟨bB (by omega),by omega⟩
theorem KA {c:aO} (ok:bF c) (i:Nat) (hi:i<c.certs.list.length): ∀j,j<(pM c.certs i).list.length->kD c.field.points ((pM c.certs i).list[j]!).2:=by
 intro j hj;have hm:(pM c.certs i).list[j]!∈c.certs.list:=(BZ ok.crt_up hi (bB hj)).1;obtain ⟨m,hm1,hm2⟩:=aY.1 hm;rw [<- hm2];exact ok.known m hm1
theorem aP1 {c:aO} (ok:bF c) {i:Nat} (hi:i<c.certs.list.length):
 ∃c':aO,sQ c (c.certs.list[i]!).1=some (c',(c.certs.list[i]!).2,0)/\wW c (c.certs.list[i]!).1=some c'/\bF c'/\c'.field=c.field/\c'.now=c.now/\c'.certs=pM c.certs i:=by
 have bd:=ok.bd;have rm:=N0 ok.crt hi (n:=(c.certs.list[i]!).1) rfl;have wo:=JH ok.crt hi (n:=(c.certs.list[i]!).1) rfl;have fe:=ok.fol.erase (i:=i) hi;have pd:=P5 ok.due_up (by omega) (c.certs.list[i]!).1
 have da:=VF c (c.certs.list[i]!).1 (by omega)
 cases hf:(bH c.field.points (c.certs.list[i]!).2 c.now).2 with
 |false=>
  have no: ∀k,k<c.due.length->(c.due[k]!).1≠(c.certs.list[i]!).1:=by
   intro k hk he;obtain ⟨x,hx,h1,h2,_⟩:=ok.fol.due _ (bB hk);obtain ⟨j,hj,rfl⟩:=aY.1 hx;have ub:=wB.1 ok.crt_up
   have:j=i:=by
    rcases Nat.lt_trichotomy j i with h|h|h
    · have:=ub j i h hi;omega
    · exact h
    · have:=ub i j h hj;omega
   rw [this,hf] at h2;cases h2
  refine ⟨⟨c.now,c.field,pM c.certs i,c.agenda,c.due⟩,?_,?_,?_,rfl,rfl,rfl⟩
  · unfold sQ
    obtain ⟨m,e⟩:=pd.2 no;simp only [rm,aE,show ((0:Int) !=0)=false from rfl,cond_false,mW ok,e]
  · unfold wW
    simp only [kE ok,aE,wo,da.2 no,aM (show¬(0:Int)<= -1 by omega),cond_false]
  · exact ⟨ok.nowv,ok.now64,ok.fld,NZ ok.crt hi,ok.agd,ok.w200,ok.hd,KA ok i hi,fe.1 hf⟩
 |true=>
  obtain ⟨k,hk,k1,k2,k3⟩:=fe.2 hf;obtain ⟨w,hw,hev⟩:=aY.1 k2;have hh:(c.agenda.heap[w]!).2.2.2=(c.due[k]!).2:=by rw [hev]
  have ub:=wB.1 ok.due_up;have before: ∀j,j<k->(c.due[j]!).1≠(c.certs.list[i]!).1:=fun j hj he=>by have:=ub j k hj hk;omega
  have dl:(c.due.eraseIdx k).length=c.due.length-1:=aAi hk;obtain ⟨L,d1,d2⟩:=J8 c.due k hk;refine ⟨⟨c.now,c.field,pM c.certs i,eH c.agenda w,c.due.eraseIdx k⟩,?_,?_,?_,rfl,rfl,rfl⟩
  · unfold sQ
    simp only [rm,aE,show ((0:Int) !=0)=false from rfl,cond_false,mW ok,pd.1 k hk k1,cond_true,aD c.due k hk,AJ ok.agd hw ok.agd.fit hh,aW (show k<1000000000 by omega),X3,d1,d2]
  · unfold wW
    have s1:iE c.due 0 (k:Int)=some (c.due.take k):=oL c.due k (by omega)
    have s2:iE c.due ((k+1:Nat):Int) (c.due.length:Int)=some (c.due.drop (k+1)):=by
     unfold iE;rw [if_pos ⟨by omega,by omega,by omega⟩]
     simp only [Int.toNat_natCast];rw [List.take_of_length_le (by rw [List.length_drop];exact Nat.le_refl _)]
    have tl:(c.due.take k).length=k:=by rw [List.length_take];omega
    have dl2:(c.due.drop (k+1)).length=c.due.length- (k+1):=List.length_drop;simp only [kE ok,aE,wo,da.1 k hk k1 before,aQ (show (0:Int)<=(k:Int) by omega),cond_true,aD c.due k hk,AL ok.agd hw hh,s1,bE (show (c.due.take k).length<=1048576 by omega),aW (show k<1000000000 by omega),aF,s2,
     cY (show (c.due.take k).length+(c.due.drop (k+1)).length<=1048576 by omega),xE]
    cases hem:(c.due.drop (k+1)).isEmpty with
    |true=>
     rw [List.isEmpty_iff] at hem;rw [hem,List.append_nil];rfl
    |false=>rfl
  · have rem:=JE ok.agd hw
    have rmem:=NV ok.agd hw;have hlen:(eH c.agenda w).heap.length=c.agenda.heap.length-1:=by
     have h1:=rem.hl;have h2:=ok.agd.hl;have h3:(eH c.agenda w).slots=fP c.agenda.slots (c.agenda.heap[w]!).2.2.2:=by unfold eH;split<;>rfl
     rw [h3] at h1;change _+(c.agenda.slots.free++[_]).length=c.agenda.slots.uses.length at h1;rw [List.length_append] at h1;simp only [List.length_cons,List.length_nil] at h1;omega
    have wlen:(eH c.agenda w).where_.length=200:=by
     have h1:=rem.wl;have h3:(eH c.agenda w).slots=fP c.agenda.slots (c.agenda.heap[w]!).2.2.2:=by unfold eH;split<;>rfl
     rw [h3] at h1;change _=c.agenda.slots.uses.length at h1;rw [h1,<- ok.agd.wl,ok.w200]
    refine ⟨ok.nowv,ok.now64,ok.fld,NZ ok.crt hi,rem,wlen,?_,KA ok i hi,?_⟩
    · show (eH c.agenda w).heap.length=(c.due.eraseIdx k).length
      rw [hlen,dl,ok.hd]
    · refine k3.mono fun x hx e he hm=>(rmem e).2 ⟨hm,fun h=>?_⟩
      have:=(BZ ok.crt_up hi hx).2
      rw [h,hev] at he;exact this he.symm
theorem KQ {c:aO} (ok:bF c) {i:Nat} (_hi:i<c.certs.list.length) {c':aO} (h:sQ c (c.certs.list[i]!).1=some (c',(c.certs.list[i]!).2,0)):vV c (c.certs.list[i]!).1=some (c',0):=by
 unfold vV;rw [nY ok.fit,if_pos ok];simp only [aE,show ((0:Int) !=0)=false from rfl,cond_false,h]
abbrev dE:aO:=⟨(0,0),⟨[]⟩,⟨0,[]⟩,⟨⟨[],[],[]⟩,[],[]⟩,[]⟩
theorem R5 {l:List Pt} (ok:bM l) {id:Int} (h:oR l id): ¬(eO l id).1<0:=by
 obtain ⟨h1,_⟩:=hO ok h
 have:=h1.1
 omega
theorem aKe {c:aO} (ok:bF c) {x:Int×Int} (hx:fK x) (hb:kD c.field.points x) (hn: ¬xF c.certs.list x):
 (iR c x=some (dE,0,18)/\lQ c x=some (dE,0,18)/\(HO c.certs\/ ¬CF c.agenda.slots))\/
 ∃c':aO,iR c x=some (c',c.certs.next_,0)/\lQ c x=some (c',c.certs.next_,0)/\bF c'/\c'.field=c.field/\c'.now=c.now/\c'.certs=rV c.certs x/\(c'.agenda.slots=c.agenda.slots\/c'.agenda.slots=gY c.agenda.slots):=by
 have bd:=ok.bd;have n0:=ok.crt.n0;have n1:=ok.crt.n1;have fit:=ok.fit;have ad:=VA ok.crt hx;have rd:=R3 ok.crt hx;rw [if_neg hn] at ad rd;have hc:gX c=some 0:=by rw [nY fit,if_pos ok]
 have p1:=nX ok.fld x.1;have p2:=nX ok.fld x.2;have q1:=R5 ok.fld hb.1;have q2:=R5 ok.fld hb.2;have wh:=zL ok.fld hx ok.nowv ok.now64;rw [if_pos hb] at wh;have rw':=zM ok.fld ok.now64 hb
 by_cases hf:HO c.certs
 · rw [if_pos hf] at ad rd
   left;refine ⟨?_,?_,.inl hf⟩
   · unfold iR dF
     simp only [hc,aE,show ((0:Int) !=0)=false from rfl,cond_false,ad,show ((18:Int)==8)=false from rfl,p1,p2,aM q1,aM q2,show ((18:Int) !=0)=true from rfl,cond_true]
   · unfold lQ
     simp only [rd,aE,show ((18:Int) !=0)=true from rfl,cond_true]
 rw [if_neg hf] at ad rd;have cok:=X5 ok.crt hx hn hf;have known': ∀j,j<(rV c.certs x).list.length->kD c.field.points ((rV c.certs x).list[j]!).2:=by
  intro j hj;rw [EN] at hj;rw [xG]
  by_cases h:j<c.certs.list.length
  · rw [if_pos h];exact ok.known j h
  · rw [if_neg h,if_pos (by omega)];exact hb
 have fresh: ∀e∈c.agenda.heap,Ev.num e≠c.certs.next_:=by
  intro e he hne;obtain ⟨d,hd,h1⟩:=ok.nums e he;obtain ⟨y,hy,h2,_⟩:=ok.fol.due d hd;obtain ⟨j,hj,rfl⟩:=aY.1 hy
  have:=(ok.crt.nr j hj).2
  omega
 have sn:=ok.fol.snoc (x:=(c.certs.next_,x));cases hw:(bH c.field.points x c.now).2 with
 |false=>
  right;refine ⟨⟨c.now,c.field,rV c.certs x,c.agenda,c.due⟩,?_,?_,⟨ok.nowv,ok.now64,ok.fld,cok,ok.agd,ok.w200,ok.hd,known',sn.1 hw⟩,rfl,rfl,rfl,.inl rfl⟩
  · unfold iR dF
    simp only [hc,aE,show ((0:Int) !=0)=false from rfl,cond_false,ad,show ((0:Int)==8)=false from rfl,p1,p2,aM q1,aM q2,mW ok,wh,hw]
  · unfold lQ
    simp only [rd,aE,show ((0:Int) !=0)=false from rfl,cond_false,kE ok,rw',hw,Bool.not_false,cond_true]
 |true=>
  obtain ⟨t1,t2⟩:=NE (hO ok.fld hb.2).1 (hO ok.fld hb.1).1 ok.now64 ok.nowv hw
  by_cases op:CF c.agenda.slots
  · right
    have pu:=AG ok.agd op ok.agd.fit (t:=(bH c.field.points x c.now).1) (n:=c.certs.next_) t1 t2 n0 n1 fresh;have rp:=CG ok.agd op (t:=(bH c.field.points x c.now).1) (n:=c.certs.next_) t1 t2 n0 n1;have pok:=aAg ok.agd op (t:=(bH c.field.points x c.now).1) (n:=c.certs.next_) t1 t2 n0 n1 fresh
    have pmem:=U5 ok.agd op (t:=(bH c.field.points x c.now).1) (n:=c.certs.next_) t1;have plen:=HM ok.agd op (t:=(bH c.field.points x c.now).1) (n:=c.certs.next_) t1;have ap: ∀h:Int×Int,bG c.due [(c.certs.next_,h)]=some (c.due++[(c.certs.next_,h)]):=fun h=>cY (by simp;omega)
    have wlen:(mD c.agenda (bH c.field.points x c.now).1 c.certs.next_).where_.length=200:=by
     have:=pok.wl
     change _=(c.agenda.slots.uses.set _ _).length at this;rw [List.length_set] at this;rw [this,<- ok.agd.wl,ok.w200]
    refine ⟨⟨c.now,c.field,rV c.certs x,mD c.agenda (bH c.field.points x c.now).1 c.certs.next_,c.due++[(c.certs.next_,mC c.agenda.slots)]⟩,?_,?_,⟨ok.nowv,ok.now64,ok.fld,cok,pok,wlen,?_,known',?_⟩,rfl,rfl,rfl,.inr rfl⟩
    · unfold iR dF
      simp only [hc,aE,show ((0:Int) !=0)=false from rfl,cond_false,ad,show ((0:Int)==8)=false from rfl,p1,p2,aM q1,aM q2,mW ok,wh,hw,cond_true,pu,ap]
    · unfold lQ
      simp only [rd,aE,show ((0:Int) !=0)=false from rfl,cond_false,kE ok,rw',hw,Bool.not_true,uA ok.agd.so,aQ op,rp,ap]
    · show (mD c.agenda (bH c.field.points x c.now).1 c.certs.next_).heap.length=(c.due++[_]).length
      rw [plen,List.length_append,ok.hd];rfl
    · have fm:aX c.field.points c.now (mD c.agenda (bH c.field.points x c.now).1 c.certs.next_).heap c.certs.list c.due:=ok.fol.mono fun y hy e he hm=>(pmem e).2 (.inr hm)
      exact (fm.snoc (x:=(c.certs.next_,x))).2 _ hw rfl ((pmem _).2 (.inl rfl))
  · left
    have pu:=AH ok.agd op ok.agd.fit (t:=(bH c.field.points x c.now).1) (n:=c.certs.next_) t1 t2 n0 n1 fresh;refine ⟨?_,?_,.inr op⟩
    · unfold iR dF
      simp only [hc,aE,show ((0:Int) !=0)=false from rfl,cond_false,ad,show ((0:Int)==8)=false from rfl,p1,p2,aM q1,aM q2,mW ok,wh,hw,cond_true,pu,show ((18:Int) !=0)=true from rfl]
    · unfold lQ
      simp only [rd,aE,show ((0:Int) !=0)=false from rfl,cond_false,kE ok,rw',hw,Bool.not_true,uA ok.agd.so,aM op,Bool.not_false,cond_true]
theorem Up.inj {cs:List vB} (h:Up cs) {x y:vB} (hx:x∈cs) (hy:y∈cs) (he:x.1=y.1):x=y:=by
 obtain ⟨i,hi,rfl⟩:=aY.1 hx;obtain ⟨j,hj,rfl⟩:=aY.1 hy;have ub:=wB.1 h;rcases Nat.lt_trichotomy i j with h1|h1|h1
 · have:=ub i j h1 hj;omega
 · rw [h1]
 · have:=ub j i h1 hi;omega
structure N2 (c:aO) (f:List Pt) (i k:Nat) (a:aH) (ds:List vB):Prop where
 ok:eS a
 w2:a.where_.length=200
 new:aX f c.now a.heap (c.certs.list.take i) ds
 old:aX c.field.points c.now a.heap (c.certs.list.drop i) (c.due.drop k)
 kl:k<=c.due.length
 cnt:a.heap.length=ds.length+(c.due.length-k)
theorem aP2 {a:aH} (ok:eS a) {w:Nat} (hw:w<a.heap.length):(eH a w).heap.length=a.heap.length-1/\(eH a w).where_.length=a.where_.length:=by
 have rem:=JE ok hw;have h3:(eH a w).slots=fP a.slots (a.heap[w]!).2.2.2:=by unfold eH;split<;>rfl
 have h1:=rem.hl;have h2:=ok.hl;have h4:=rem.wl;rw [h3] at h1 h4;change _+(a.slots.free++[_]).length=a.slots.uses.length at h1;change _=a.slots.uses.length at h4;rw [List.length_append] at h1;simp only [List.length_cons,List.length_nil] at h1;exact ⟨by omega,by rw [h4,ok.wl]⟩
theorem aKf {a:aH} {t:Int×Int} {n:Int} (ok:eS a) (pok:eS (mD a t n)):(mD a t n).where_.length=a.where_.length:=by
 have:=pok.wl
 change _=(a.slots.uses.set _ _).length at this;rw [List.length_set] at this;rw [this,ok.wl]
section
variable {c : aO} (ok : bF c) {f : List Pt} (fok : bM f) (kn : ∀ i, i < c.certs.list.length -> kD f (c.certs.list[i]!).2)
include ok
theorem HP {i:Nat} {x:vB} (hx:x∈c.certs.list.take i) (hi:i<c.certs.list.length):x.1≠(c.certs.list[i]!).1:=by
 obtain ⟨j,h1,h2,rfl⟩:=cE.1 hx
 have:=ok.crt.up j i h1 hi
 omega
theorem HQ {i:Nat} {x:vB} (hx:x∈c.certs.list.drop (i+1)) (hi:i<c.certs.list.length):x.1≠(c.certs.list[i]!).1:=by
 obtain ⟨j,h1,rfl⟩:=aY.1 hx;rw [List.length_drop] at h1;rw [wH]
 have:=ok.crt.up i (i+1+j) (by omega) (by omega)
 omega
theorem aBg {i k:Nat} {a:aH} {ds:List vB} (inv:N2 c f i k a ds) (hi:i<c.certs.list.length) (was:(bH c.field.points (c.certs.list[i]!).2 c.now).2=false): ∀e∈a.heap,Ev.num e≠(c.certs.list[i]!).1:=by
 have u1:Up (c.certs.list.take i):=ok.crt_up.sublist (List.take_sublist _ _);have u2:Up (c.certs.list.drop i):=ok.crt_up.sublist (List.drop_sublist _ _);have d1:=inv.new.up u1;have d2:=inv.old.up u2;have cross: ∀x∈ds,∀y∈c.due.drop k,x.1<y.1:=by
  intro x hx y hy;obtain ⟨p,hp,h1,_⟩:=inv.new.due x hx;obtain ⟨q,hq,h2,_⟩:=inv.old.due y hy;obtain ⟨m,m1,m2,rfl⟩:=cE.1 hp;obtain ⟨n,n1,rfl⟩:=aY.1 hq;rw [List.length_drop] at n1;rw [wH] at h2
  have:=ok.crt.up m (i+n) (by omega) (by omega)
  omega
 have nd:((ds++c.due.drop k).map fun x=>x.1).Nodup:=VE (by
  show List.Pairwise _ _;rw [List.pairwise_append];exact ⟨d1,d2,cross⟩)
 have only:=J9 (H:=a.heap) nd (by rw [List.length_map,List.length_append,List.length_drop,inv.cnt];exact Nat.le_refl _) (fun n hn=>by
  obtain ⟨x,hx,rfl⟩:=List.mem_map.1 hn;rcases List.mem_append.1 hx with hx|hx
  · obtain ⟨p,hp,h1,h2,h3⟩:=inv.new.due x hx
    exact ⟨_,h3,h1.symm⟩
  · obtain ⟨p,hp,h1,h2,h3⟩:=inv.old.due x hx
    exact ⟨_,h3,h1.symm⟩)
 intro e he hne;obtain ⟨x,hx,h1⟩:=List.mem_map.1 (only e he);rcases List.mem_append.1 hx with hx|hx
 · obtain ⟨p,hp,h2,_⟩:=inv.new.due x hx
   exact HP ok hp hi (by rw [<- h2,h1,hne])
 · obtain ⟨p,hp,h2,h3,_⟩:=inv.old.due x hx
   have hp':p∈c.certs.list:=List.mem_of_mem_drop hp
   have:=ok.crt_up.inj hp' (bB hi) (by rw [<- h2,h1,hne])
   rw [this,was] at h3;cases h3
def stP (c:aO) (f:List Pt) (i:Nat) (a:aH) (ds:List vB):=
 (c.certs.list,(c.certs.list.length:Int),(i:Int),c.now.1,c.now.2,c.field.points,c.certs.next_,c.certs.list,c.agenda.slots.uses,c.agenda.slots.used,c.agenda.slots.free,c.agenda.heap,c.agenda.where_,c.due,f,(0:Int),(0:Int),(0:Int),c.now.1,c.now.2,c.certs.next_,c.certs.list,a.slots.uses,a.slots.used,a.slots.free,a.heap,a.where_,f,ds)
def stR (c:aO) (f:List Pt) (i:Nat) (a:aH) (ds:List vB):=
 ((i:Int),c.now.1,c.now.2,c.field.points,c.certs.next_,c.certs.list,c.agenda.slots.uses,c.agenda.slots.used,c.agenda.slots.free,c.agenda.heap,c.agenda.where_,c.due,f,(0:Int),(0:Int),(0:Int),c.now.1,c.now.2,f,c.certs.next_,c.certs.list,a.slots.uses,a.slots.used,a.slots.free,a.heap,a.where_,ds)
include fok kn
theorem aDw {i k:Nat} {a:aH} {ds:List vB} (inv:N2 c f i k a ds) (hi:i<c.certs.list.length) (hds:ds.length<=i):
 (dI (stP c f i a ds)=some (.done (.done (dE,18)))/\cI (stR c f i a ds)=some (.done (dE,18)))\/
 ∃k' a' ds',dI (stP c f i a ds)=some (.next (stP c f (i+1) a' ds'))/\cI (stR c f i a ds)=some (.next (stR c f (i+1) a' ds'))/\N2 c f (i+1) k' a' ds'/\ds'.length<=i+1:=by
 have bd:=ok.bd;have e1:decide ((i:Int)<(c.certs.list.length:Int))=true:=aQ (by omega)
 have sc:=aW (show i<1000000000 by omega)
 have cg:=aD c.certs.list i hi;have hb:=kn i hi;have wn:=zL fok (x:=(c.certs.list[i]!).2) (t:=(c.now.1,c.now.2)) (ok.crt.cv i hi) ok.nowv ok.now64;rw [if_pos hb] at wn;have wr:=zM fok (x:=(c.certs.list[i]!).2) (t:=(c.now.1,c.now.2)) ok.now64 hb;have pd:=P5 ok.due_up (by omega) (c.certs.list[i]!).1
 have da:=VF c (c.certs.list[i]!).1 (by omega)
 have dr:=wI hi;have tk:=dQ hi;have old:=inv.old;rw [dr] at old;have aeta:aH.mk (aR.mk a.slots.uses a.slots.used a.slots.free) a.heap a.where_=a:=rfl
 have ceta:(aO.mk (c.now.1,c.now.2) (Field.mk c.field.points) (aV.mk c.certs.next_ c.certs.list) (aH.mk (aR.mk c.agenda.slots.uses c.agenda.slots.used c.agenda.slots.free) c.agenda.heap c.agenda.where_) c.due)=c:=rfl;have other: ∀x∈c.certs.list.take i,x.1≠(c.certs.list[i]!).1:=fun x hx=>HP ok hx hi
 have other': ∀x∈c.certs.list.drop (i+1),x.1≠(c.certs.list[i]!).1:=fun x hx=>HQ ok hx hi
 cases hwas:(bH c.field.points (c.certs.list[i]!).2 c.now).2 with
 |true=>
  obtain ⟨d,ds',hd1,hd2,hd3,hd4⟩:=(aX.cons_true hwas).1 old;have hk:k<c.due.length:=by
   refine Classical.byContradiction fun h=>?_
   rw [List.drop_eq_nil_of_le (by omega)] at hd1
   cases hd1
  have dk:=wI hk;rw [dk] at hd1;injection hd1 with hd5 hd6;subst hd5 hd6;obtain ⟨w,hw,hev⟩:=aY.1 hd3;have hh:(a.heap[w]!).2.2.2=(c.due[k]!).2:=by rw [hev]
  have hnum:Ev.num a.heap[w]! =(c.certs.list[i]!).1:=by rw [hev]
  have before: ∀j,j<k->(c.due[j]!).1≠(c.certs.list[i]!).1:=fun j hj he=>by
   have:=wB.1 ok.due_up j k hj hk
   omega
  have pl:=pd.1 k hk hd2;have dq:=da.1 k hk hd2 before;have gk:=aD c.due k hk;have k0:decide ((0:Int)<=(k:Int))=true:=aQ (by omega)
  have ap:bG ds [c.due[k]!]=some (ds++[c.due[k]!]):=cY (by simp;omega)
  cases his:(bH f (c.certs.list[i]!).2 c.now).2 with
  |true=>
   right;have tt:bT (bH f (c.certs.list[i]!).2 c.now).1/\pK (bH f (c.certs.list[i]!).2 c.now).1:=NE (hO fok hb.2).1 (hO fok hb.1).1 ok.now64 ok.nowv his;obtain ⟨t1,t2⟩:=tt;have re:=KP inv.ok inv.ok.fit (t:=(bH f (c.certs.list[i]!).2 c.now).1) hw hh t1 t2;have rr:=JD inv.ok (t:=(bH f (c.certs.list[i]!).2 c.now).1) hw hh t1 t2
   have rok:=aDp inv.ok hw t1 t2;have rmem:=aBf inv.ok hw t1;have rlen:=JC inv.ok hw t1;have stay: ∀(cs:List vB),(∀x∈cs,x.1≠(c.certs.list[i]!).1)-> ∀x∈cs,∀e:Ev,e.num=x.1->e∈a.heap->e∈(kQ a w (bH f (c.certs.list[i]!).2 c.now).1).heap:=by
    intro cs hcs x hx e he hm;refine (rmem e).2 (.inr ⟨hm,fun h=>hcs x hx ?_⟩)
    rw [<- he,h,hnum]
   refine ⟨k+1,kQ a w (bH f (c.certs.list[i]!).2 c.now).1,ds++[c.due[k]!],?_,?_,⟨rok,by rw [rlen.2];exact inv.w2,?_,?_,by omega,?_⟩,by simp;omega⟩
   · unfold dI stP
     simp only [e1,cond_true,cg,aE,wn,pl,his,gk,aeta,re,ap,show ((0:Int) !=0)=false from rfl,cond_false,sc]
   · unfold cI stR
     simp only [aF,e1,cond_true,cg,aE,ceta,dq,wr,his,k0,gk,aeta,rr,ap,Bool.not_true,cond_false,sc]
   · rw [tk]
     exact ((inv.new.mono (stay _ other)).snoc (x:=c.certs.list[i]!)).2 _ his hd2 ((rmem _).2 (.inl (by
      show _=((bH f (c.certs.list[i]!).2 c.now).1.1,(bH f (c.certs.list[i]!).2 c.now).1.2,(a.heap[w]!).2.2);rw [hev])))
   · exact hd4.mono (stay _ other')
   · rw [rlen.1,inv.cnt,List.length_append]
     simp only [List.length_cons,List.length_nil];omega
  |false=>
   right;have rv:=AJ inv.ok hw inv.ok.fit hh;have rr:=AL inv.ok hw hh;have rok:=JE inv.ok hw;have rmem:=NV inv.ok hw;have rlen:=aP2 inv.ok hw;have stay: ∀(cs:List vB),(∀x∈cs,x.1≠(c.certs.list[i]!).1)-> ∀x∈cs,∀e:Ev,e.num=x.1->e∈a.heap->e∈(eH a w).heap:=by
    intro cs hcs x hx e he hm;refine (rmem e).2 ⟨hm,fun h=>hcs x hx ?_⟩
    rw [<- he,h,hnum]
   refine ⟨k+1,eH a w,ds,?_,?_,⟨rok,by rw [rlen.2];exact inv.w2,?_,hd4.mono (stay _ other'),by omega,?_⟩,by omega⟩
   · unfold dI stP
     simp only [e1,cond_true,cg,aE,wn,pl,his,gk,aeta,rv,show ((0:Int) !=0)=false from rfl,cond_false,sc]
   · unfold cI stR
     simp only [aF,e1,cond_true,cg,aE,ceta,dq,wr,his,k0,gk,aeta,rr,Bool.not_false,cond_false,sc]
   · rw [tk]
     exact ((inv.new.mono (stay _ other)).snoc (x:=c.certs.list[i]!)).1 his
   · have:=inv.cnt
     rw [rlen.1];omega
 |false=>
  have fol:=(aX.cons_false hwas).1 old;have no: ∀j,j<c.due.length->(c.due[j]!).1≠(c.certs.list[i]!).1:=by
   intro j hj he;obtain ⟨x,hx,h1,h2,_⟩:=ok.fol.due _ (bB hj)
   have:=ok.crt_up.inj hx (bB hi) (by rw [<- h1,he])
   rw [this,hwas] at h2;cases h2
  obtain ⟨m,pl⟩:=pd.2 no;have dq:=da.2 no;have k0:decide ((0:Int)<= -1)=false:=aM (by omega)
  cases his:(bH f (c.certs.list[i]!).2 c.now).2 with
  |true=>
   have tt:bT (bH f (c.certs.list[i]!).2 c.now).1/\pK (bH f (c.certs.list[i]!).2 c.now).1:=NE (hO fok hb.2).1 (hO fok hb.1).1 ok.now64 ok.nowv his;obtain ⟨t1,t2⟩:=tt;have n0:=(ok.crt.nr i hi).1;have n1:(c.certs.list[i]!).1<=1000000:=by have:=(ok.crt.nr i hi).2;have:=ok.crt.n1;omega
   have fresh:=aBg ok inv hi hwas
   by_cases op:CF a.slots
   · right
     have pu:=AG inv.ok op inv.ok.fit (t:=(bH f (c.certs.list[i]!).2 c.now).1) (n:=(c.certs.list[i]!).1) t1 t2 n0 n1 fresh;have rp:=CG inv.ok op (t:=(bH f (c.certs.list[i]!).2 c.now).1) (n:=(c.certs.list[i]!).1) t1 t2 n0 n1;have pok:=aAg inv.ok op (t:=(bH f (c.certs.list[i]!).2 c.now).1) (n:=(c.certs.list[i]!).1) t1 t2 n0 n1 fresh
     have pmem:=U5 inv.ok op (t:=(bH f (c.certs.list[i]!).2 c.now).1) (n:=(c.certs.list[i]!).1) t1;have plen:=HM inv.ok op (t:=(bH f (c.certs.list[i]!).2 c.now).1) (n:=(c.certs.list[i]!).1) t1;have ap: ∀h:Int×Int,bG ds [((c.certs.list[i]!).1,h)]=some (ds++[((c.certs.list[i]!).1,h)]):=fun h=>cY (by simp;omega)
     have opn:=uA inv.ok.so;rw [aQ op] at opn;refine ⟨k,mD a (bH f (c.certs.list[i]!).2 c.now).1 (c.certs.list[i]!).1,ds++[((c.certs.list[i]!).1,mC a.slots)],?_,?_,⟨pok,by rw [aKf inv.ok pok];exact inv.w2,?_,?_,inv.kl,?_⟩,by simp;omega⟩
     · unfold dI stP
       simp only [e1,cond_true,cg,aE,wn,pl,his,aeta,pu,ap,show ((0:Int) !=0)=false from rfl,cond_false,sc]
     · unfold cI stR
       simp only [aF,e1,cond_true,cg,aE,ceta,dq,wr,his,k0,aeta,rp,ap,Bool.not_true,cond_false,sc,opn]
     · rw [tk]
       exact ((inv.new.mono fun x hx e he hm=>(pmem e).2 (.inr hm)).snoc (x:=c.certs.list[i]!)).2 _ his rfl ((pmem _).2 (.inl rfl))
     · exact fol.mono fun x hx e he hm=>(pmem e).2 (.inr hm)
     · have:=inv.cnt
       rw [plen,List.length_append];simp only [List.length_cons,List.length_nil];omega
   · left
     have pu:=AH inv.ok op inv.ok.fit (t:=(bH f (c.certs.list[i]!).2 c.now).1) (n:=(c.certs.list[i]!).1) t1 t2 n0 n1 fresh;have ap: ∀h:Int×Int,bG ds [((c.certs.list[i]!).1,h)]=some (ds++[((c.certs.list[i]!).1,h)]):=fun h=>cY (by simp;omega)
     have opn:=uA inv.ok.so;rw [aM op] at opn;constructor
     · unfold dI stP
       simp only [e1,cond_true,cg,aE,wn,pl,his,aeta,pu,ap,show ((18:Int) !=0)=true from rfl,cond_false]
     · unfold cI stR
       simp only [aF,e1,cond_true,cg,aE,ceta,dq,wr,his,k0,aeta,Bool.not_true,Bool.not_false,cond_false,opn]
  |false=>
   right;refine ⟨k,a,ds,?_,?_,⟨inv.ok,inv.w2,?_,fol,inv.kl,inv.cnt⟩,by omega⟩
   · unfold dI stP
     simp only [e1,cond_true,cg,aE,wn,pl,his,show ((0:Int) !=0)=false from rfl,cond_false,sc]
   · unfold cI stR
     simp only [aF,e1,cond_true,cg,aE,ceta,dq,wr,his,k0,Bool.not_false,cond_false,sc]
   · rw [tk]
     exact (inv.new.snoc (x:=c.certs.list[i]!)).1 his
theorem aSw:
 (qE c ⟨f⟩=some (dE,18)/\mS c ⟨f⟩=some (dE,18))\/
 ∃c':aO,qE c ⟨f⟩=some (c',0)/\mS c ⟨f⟩=some (c',0)/\bF c'/\c'.field.points=f/\c'.now=c.now/\c'.certs=c.certs:=by
 have bd:=ok.bd;have f64:=fok.1;have run: ∀(d i k:Nat) (a:aH) (ds:List vB),c.certs.list.length-i<=d->i<=c.certs.list.length->N2 c f i k a ds->ds.length<=i->
  (aI dI (stP c f i a ds)=some (.done (dE,18))/\aI cI (stR c f i a ds)=some (dE,18))\/
  ∃c':aO,aI dI (stP c f i a ds)=some (.done (c',0))/\aI cI (stR c f i a ds)=some (c',0)/\bF c'/\c'.field.points=f/\c'.now=c.now/\c'.certs=c.certs:=by
  have fin: ∀(k:Nat) (a:aH) (ds:List vB),N2 c f c.certs.list.length k a ds-> ∃c':aO,aI dI (stP c f c.certs.list.length a ds)=some (.done (c',0))/\aI cI (stR c f c.certs.list.length a ds)=some (c',0)/\bF c'/\c'.field.points=f/\c'.now=c.now/\c'.certs=c.certs:=by
   intro k a ds inv;have e1:decide ((c.certs.list.length:Int)<(c.certs.list.length:Int))=false:=aM (by omega)
   have hk:c.due.length-k=0:=by
    have:=inv.old
    rw [List.drop_length] at this
    have:c.due.drop k=[]:=this
    rw [List.drop_eq_nil_iff] at this;omega
   have new:=inv.new;rw [List.take_length] at new;refine ⟨⟨c.now,⟨f⟩,c.certs,a,ds⟩,aL ?_,aL ?_,⟨ok.nowv,ok.now64,fok,ok.crt,inv.ok,inv.w2,?_,kn,new⟩,rfl,rfl,rfl⟩
   · unfold dI stP
     simp only [e1,cond_false]
   · unfold cI stR
     simp only [aF,e1,cond_false]
   · have:=inv.cnt
     show a.heap.length=ds.length;omega
  intro d
  induction d with
  |zero=>
   intro i k a ds hd hi inv hds
   have:i=c.certs.list.length:=by omega
   subst this;exact .inr (fin k a ds inv)
  |succ d ih=>
   intro i k a ds hd hi inv hds
   by_cases he:i=c.certs.list.length
   · subst he;exact .inr (fin k a ds inv)
   rcases aDw ok fok kn inv (by omega) hds with ⟨h1,h2⟩|⟨k',a',ds',h1,h2,h3,h4⟩
   · exact .inl ⟨aL h1,aL h2⟩
   · rw [bA h1,bA h2]
     exact ih (i+1) k' a' ds' (by omega) (by omega) h3 h4
 have start:=run c.certs.list.length 0 0 c.agenda [] (by omega) (by omega) ⟨ok.agd,ok.w200,rfl,by rw [List.drop_zero,List.drop_zero];exact ok.fol,by omega,by have:=ok.hd;simp;omega⟩ (by simp)
 have hc:gX c=some 0:=by rw [nY ok.fit,if_pos ok]
 have hf:gS ⟨f⟩=some 0:=by rw [nV];exact congrArg some (lR.2 fok)
 have tw:=mW ok;have tw':nL (aO.mk (c.now.1,c.now.2) (Field.mk c.field.points) (aV.mk c.certs.next_ c.certs.list) (aH.mk (aR.mk c.agenda.slots.uses c.agenda.slots.used c.agenda.slots.free) c.agenda.heap c.agenda.where_) c.due)=some c:=tw
 have first:aI kY (c.certs.list,(c.certs.list.length:Int),0,c.now.1,c.now.2,c.field.points,c.certs.next_,c.certs.list,c.agenda.slots.uses,c.agenda.slots.used,c.agenda.slots.free,c.agenda.heap,c.agenda.where_,c.due,f,0,0,0)=
  aI kY (c.certs.list,(c.certs.list.length:Int),(c.certs.list.length:Int),c.now.1,c.now.2,c.field.points,c.certs.next_,c.certs.list,c.agenda.slots.uses,c.agenda.slots.used,c.agenda.slots.free,c.agenda.heap,c.agenda.where_,c.due,f,0,0,0):=by
  refine bP (body:=kY) (fun i=>(c.certs.list,(c.certs.list.length:Int),(i:Int),c.now.1,c.now.2,c.field.points,c.certs.next_,c.certs.list,c.agenda.slots.uses,c.agenda.slots.used,c.agenda.slots.free,c.agenda.heap,c.agenda.where_,c.due,f,0,0,0)) c.certs.list.length (fun i hi=>?_)
  have e1:decide ((i:Int)<(c.certs.list.length:Int))=true:=aQ (by omega)
  unfold kY;simp only [e1,cond_true,aD c.certs.list i hi,aE,nX fok,aM (R5 fok (kn i hi).1),aM (R5 fok (kn i hi).2),cond_false,aW (show i<1000000000 by omega)]
 have second: ∀r,aI dI (stP c f 0 c.agenda [])=some (.done r)->qE c ⟨f⟩=some r:=by
  intro r hr;unfold qE;simp only [hc,aE,show ((0:Int) !=0)=false from rfl,cond_false,hf,aF];rw [first]
  refine aL ?_;unfold kY;have e1:decide ((c.certs.list.length:Int)<(c.certs.list.length:Int))=false:=aM (by omega)
  simp only [aF,e1,cond_false,tw',aE,bE (show f.length<=1048576 by omega)]
  exact hr
 have third: ∀r,aI cI (stR c f 0 c.agenda [])=some r->mS c ⟨f⟩=some r:=by
  intro r hr;unfold mS nO;simp only [kE ok,aE,bE (show f.length<=1048576 by omega)]
  exact hr
 rcases start with ⟨h1,h2⟩|⟨c',h1,h2,h3⟩
 · exact .inl ⟨second _ h1,third _ h2⟩
 · exact .inr ⟨c',second _ h1,third _ h2,h3⟩
end
theorem pA (l:List (Int×Int)) (x:Int×Int) (hl:l.length<=1000000):fH l x=some (decide (x∈l)):=by
 unfold fH rE;have key:=nU (body:=jT) (fun i=>(l,(l.length:Int),(i:Int),x)) l.length (fun i=>l[i]! =x) (fun i=>(i:Int)) (e:= -1) (fun i hi=>by
  have e1:decide ((i:Int)<(l.length:Int))=true:=aQ (by omega)
  unfold jT;simp only [e1,cond_true,aD l i hi,aE,aW (show i<1000000000 by omega)]
  generalize l[i]! =y;constructor
  · intro h;rw [fQ (congrArg Prod.fst h.symm),fQ (congrArg Prod.snd h.symm)];rfl
  · intro h
    by_cases h1:x.1=y.1
    · rw [fQ h1,eG (fun h2=>h (Prod.ext h1.symm h2.symm))];rfl
    · rw [eG h1];rfl) (by
  unfold jT
  have:decide ((l.length:Int)<(l.length:Int))=false:=aM (by omega)
  simp only [this,cond_false])
 rw [aF]
 by_cases hx:x∈l
 · obtain ⟨i,hi,he⟩:=aY.1 hx
   obtain ⟨k,h1,h2,h3⟩:=J3 (c:=fun i=>l[i]! =x) ⟨i,hi,he⟩
   have:=key.1 k h1 h2 h3
   rw [show ((0:Nat):Int)=0 from rfl] at this;rw [this,aQ hx];simp only [aE,aQ (show (0:Int)<=(k:Int) by omega)]
 · have:=key.2 fun i hi he=>hx (aY.2 ⟨i,hi,he⟩)
   rw [show ((0:Nat):Int)=0 from rfl] at this;rw [this,aM hx];rfl
theorem KB (l:List (Int×Int)) (x:Int×Int) (hl:l.length<=1000000):HF l x=some (decide (x∈l)):=by
 unfold HF;have key:=cZ (body:=yI) (fun i=>(l,(i:Int),x)) l.length (fun i=>l[i]! =x) (r:=true) (e:=false) (fun i hi=>by
  have e1:decide ((i:Int)<(l.length:Int))=true:=aQ (by omega)
  unfold yI;simp only [aF,e1,cond_true,aD l i hi,aE,aW (show i<1000000000 by omega)]
  generalize l[i]! =y;constructor
  · intro h;rw [fQ (congrArg Prod.fst h),fQ (congrArg Prod.snd h)];rfl
  · intro h
    by_cases h1:y.1=x.1
    · rw [fQ h1,eG (fun h2=>h (Prod.ext h1 h2))];rfl
    · rw [eG h1];rfl) (by
  unfold yI
  have:decide ((l.length:Int)<(l.length:Int))=false:=aM (by omega)
  simp only [aF,this,cond_false])
 by_cases hx:x∈l
 · rw [aQ hx];exact key.1 (aY.1 hx)
 · rw [aM hx];exact key.2 fun i hi he=>hx (aY.2 ⟨i,hi,he⟩)
theorem aDx (x y:vB):((x.1==y.1)&&((x.2.1==y.2.1)&&(x.2.2==y.2.2)))=decide (x=y):=by
 rw [Bool.eq_iff_iff,decide_eq_true_iff];simp only [Bool.and_eq_true,beq_iff_eq];constructor
 · rintro ⟨h1,h2,h3⟩;exact Prod.ext h1 (Prod.ext h2 h3)
 · rintro rfl;exact ⟨rfl,rfl,rfl⟩
theorem KC (a b:List vB) (hl:a.length<=1000000):wX ⟨a⟩ ⟨b⟩=some (decide (a=b)):=by
 unfold wX;simp only [aF]
 by_cases h:a.length=b.length
 case neg=>rw [dB (by omega),aM (fun k=>h (by rw [k]))];rfl
 rw [cA (by omega)]
 simp only [cond_false];have key:=cZ (body:=tR) (fun i=>((i:Int),a,b)) a.length (fun i=> ¬a[i]! =b[i]!) (r:=false) (e:=true) (fun i hi=>by
  have e1:decide ((i:Int)<(a.length:Int))=true:=aQ (by omega)
  unfold tR;simp only [aF,e1,cond_true,aD a i hi,aD b i (by omega),aE,aW (show i<1000000000 by omega),aDx]
  constructor
  · intro h;rw [aM h];rfl
  · intro h;rw [aQ (Classical.not_not.1 h)];rfl) (by
  unfold tR
  have:decide ((a.length:Int)<(a.length:Int))=false:=aM (by omega)
  simp only [aF,this,cond_false])
 by_cases he:a=b
 · rw [aQ he]
   exact key.2 fun i hi=>Classical.not_not.2 (by rw [he])
 · rw [aM he]
   refine key.1 (Classical.byContradiction fun hx=>he (rR h fun i hi=>?_))
   exact Classical.byContradiction fun hn=>hx ⟨i,hi,hn⟩
theorem R6 (a b:List vB) (hl:a.length<=1000000):lY a b=some (decide (a=b)):=by
 unfold lY;simp only [aF]
 by_cases h:a.length=b.length
 case neg=>rw [dB (by omega),aM (fun k=>h (by rw [k]))];rfl
 rw [cA (by omega)]
 simp only [cond_false];have key:=cZ (body:=jE) (fun i=>(a,b,(a.length:Int),(i:Int))) a.length (fun i=> ¬a[i]! =b[i]!) (r:=false) (e:=true) (fun i hi=>by
  have e1:decide ((i:Int)<(a.length:Int))=true:=aQ (by omega)
  unfold jE;simp only [e1,cond_true,aD a i hi,aD b i (by omega),aE,aW (show i<1000000000 by omega),aDx]
  constructor
  · intro h;rw [aM h];rfl
  · intro h;rw [aQ (Classical.not_not.1 h)];rfl) (by
  unfold jE
  have:decide ((a.length:Int)<(a.length:Int))=false:=aM (by omega)
  simp only [this,cond_false])
 by_cases he:a=b
 · rw [aQ he]
   exact key.2 fun i hi=>Classical.not_not.2 (by rw [he])
 · rw [aM he]
   refine key.1 (Classical.byContradiction fun hx=>he (rR h fun i hi=>?_))
   exact Classical.byContradiction fun hn=>hx ⟨i,hi,hn⟩
theorem aBj {cs:List vB} {m:Nat} {x:vB} (hx:x∈cs) (hne:x.1≠(cs[m]!).1):x∈cs.eraseIdx m:=by
 obtain ⟨j,hj,rfl⟩:=aY.1 hx;have hjm:j≠m:=fun h=>hne (by rw [h])
 rw [xE,List.mem_append]
 by_cases h:j<m
 · exact .inl (cE.2 ⟨j,h,hj,rfl⟩)
 · right
   rw [aY];refine ⟨j- (m+1),by rw [List.length_drop];omega,?_⟩
   rw [wH]
   congr 1;omega
def kP (c0:aO) (f:List Pt) (es:List (Int×Int)) (i:Nat) (c:aO):=
 (es,c0.certs.list,(c0.certs.list.length:Int),(i:Int),c.now.1,c.now.2,c.field.points,c.certs.next_,c.certs.list,c.agenda.slots.uses,c.agenda.slots.used,c.agenda.slots.free,c.agenda.heap,c.agenda.where_,c.due,f,(0:Int),(0:Int),(0:Int))
def kR (c0:aO) (f:List Pt) (es:List (Int×Int)) (i:Nat) (c:aO):=
 (es,(i:Int),c0.now.1,c0.now.2,c0.field.points,c0.certs.next_,c0.certs.list,c0.agenda.slots.uses,c0.agenda.slots.used,c0.agenda.slots.free,c0.agenda.heap,c0.agenda.where_,c0.due,f,(0:Int),(0:Int),(0:Int),c.now.1,c.now.2,c.field.points,c.certs.next_,c.certs.list,c.agenda.slots.uses,c.agenda.slots.used,c.agenda.slots.free,c.agenda.heap,c.agenda.where_,c.due)
def eP (es:List (Int×Int)) (i:Nat) (c:aO):=
 (es,(es.length:Int),(i:Int),c.now.1,c.now.2,c.field.points,c.certs.next_,c.certs.list,c.agenda.slots.uses,c.agenda.slots.used,c.agenda.slots.free,c.agenda.heap,c.agenda.where_,c.due,(0:Int),(0:Int),(0:Int))
def eR (es:List (Int×Int)) (i:Nat) (c:aO):=
 (es,(i:Int),(0:Int),(0:Int),(0:Int),c.now.1,c.now.2,c.field.points,c.certs.next_,c.certs.list,c.agenda.slots.uses,c.agenda.slots.used,c.agenda.slots.free,c.agenda.heap,c.agenda.where_,c.due)
def HR (c:aO):Int:=c.certs.next_- (c.certs.list.length:Int)
structure HS (c:aO) (f:List Pt) (es:List (Int×Int)) (r:aO):Prop where
 has: ∀e∈es,xF r.certs.list e
 sub: ∀x∈r.certs.list,x.2∈es
 ok:bF r
 fld:r.field.points=f
 now:r.now=c.now
 room:HR c<=HR r
def P6 (c:aO) (k:Nat):Prop:=c.certs.list.length<=k/\c.certs.next_<=k/\ ∀j,j<c.agenda.slots.uses.length->c.agenda.slots.uses[j]!<=k
theorem aX.len {l:List Pt} {t:Int×Int} {H:List Ev}: ∀{cs ds:List vB},aX l t H cs ds->ds.length<=cs.length
 | [],ds,h=>by rw [show ds=[] from h];exact Nat.le_refl _
 |x::cs,ds,h=>by
  cases hy:(bH l x.2 t).2 with
  |true=>
   obtain ⟨d,ds',rfl,_,_,h4⟩:=h.1 hy;exact Nat.succ_le_succ h4.len
  |false=>exact Nat.le_succ_of_le (h.2 hy).len
theorem P6.not_full {c:aO} (ok:bF c) {k:Nat} (h:P6 c k) (hk:k<=199): ¬(HO c.certs\/ ¬CF c.agenda.slots):=by
 obtain ⟨h1,h2,h3⟩:=h;have fl:=ok.fol.len;have hd:=ok.hd;have hl:=ok.agd.hl;have wl:=ok.agd.wl;have w2:=ok.w200;rintro (h|h)
 · rcases h with h|h<;>omega
 · refine h ⟨by omega,?_⟩
   have:=h3 _ (EI ok.agd.so (by omega)).1
   omega
theorem P6.more {c c':aO} {k:Nat} (h:P6 c k) {x:Int×Int} (hc:c'.certs=rV c.certs x) (hs:c'.agenda.slots=c.agenda.slots\/c'.agenda.slots=gY c.agenda.slots):P6 c' (k+1):=by
 obtain ⟨h1,h2,h3⟩:=h;refine ⟨?_,?_,fun j hj=>?_⟩
 · rw [hc]
   show (c.certs.list++[(c.certs.next_,x)]).length<=_;rw [List.length_append,List.length_singleton];omega
 · rw [hc]
   show c.certs.next_+1<=_;omega
 · rcases hs with e|e
   · rw [e] at hj ⊢
     have:=h3 j hj;omega
   · rw [e] at hj ⊢
     change j<(c.agenda.slots.uses.set _ _).length at hj;rw [List.length_set] at hj;show (c.agenda.slots.uses.set (cV c.agenda.slots) (c.agenda.slots.uses[cV c.agenda.slots]!+1))[j]!<=_;rw [bD];split
     · rename_i h;have:=h3 _ h.2;omega
     · have:=h3 j hj;omega
structure K8 (f:List Pt) (es:List (Int×Int)):Prop where
 len:es.length<=1000000
 cv: ∀x∈es,fK x
 kn: ∀x∈es,kD f x
theorem aDy {c0:aO} (ok0:bF c0) {f:List Pt} {es:List (Int×Int)} (eok:K8 f es):
 ∀(d i:Nat) (c:aO),c0.certs.list.length-i<=d->i<=c0.certs.list.length->bF c->(∀x∈c0.certs.list.drop i,x∈c.certs.list)->(∀x∈c.certs.list,x∈c0.certs.list.drop i\/x.2∈es)->
  ∃c':aO,aI eC (kP c0 f es i c)=aI eC (kP c0 f es c0.certs.list.length c')/\aI dJ (kR c0 f es i c)=aI dJ (kR c0 f es c0.certs.list.length c')/\bF c'/\(∀x∈c'.certs.list,x.2∈es)/\c'.field=c.field/\c'.now=c.now/\HR c<=HR c':=by
 have bd:=ok0.bd;intro d
 induction d with
 |zero=>
  intro i c hd hi ok h1 h2
  have:i=c0.certs.list.length:=by omega
  subst this;refine ⟨c,rfl,rfl,ok,fun x hx=>?_,rfl,rfl,Int.le_refl _⟩
  rcases h2 x hx with h|h
  · rw [List.drop_length] at h;cases h
  · exact h
 |succ d ih=>
  intro i c hd hi ok h1 h2
  by_cases he:i=c0.certs.list.length
  · subst he
    refine ⟨c,rfl,rfl,ok,fun x hx=>?_,rfl,rfl,Int.le_refl _⟩
    rcases h2 x hx with h|h
    · rw [List.drop_length] at h;cases h
    · exact h
  have hi':i<c0.certs.list.length:=by omega
  have e1:decide ((i:Int)<(c0.certs.list.length:Int))=true:=aQ (by omega)
  have sc:=aW (show i<1000000000 by omega)
  have cg:=aD c0.certs.list i hi';have dr:=wI hi';have ceta:(aO.mk (c.now.1,c.now.2) (Field.mk c.field.points) (aV.mk c.certs.next_ c.certs.list) (aH.mk (aR.mk c.agenda.slots.uses c.agenda.slots.used c.agenda.slots.free) c.agenda.heap c.agenda.where_) c.due)=c:=rfl
  by_cases hin:(c0.certs.list[i]!).2∈es
  · have s1:eC (kP c0 f es i c)=some (.next (kP c0 f es (i+1) c)):=by
     unfold eC kP;simp only [e1,cond_true,cg,aE,pA _ _ eok.len,aQ hin,Bool.not_true,cond_false,sc]
    have s2:dJ (kR c0 f es i c)=some (.next (kR c0 f es (i+1) c)):=by
     unfold dJ kR;simp only [aF,e1,cond_true,cg,aE,KB _ _ eok.len,aQ hin,Bool.not_true,cond_false,sc]
    rw [bA s1,bA s2];refine ih (i+1) c (by omega) (by omega) ok (fun x hx=>h1 x (by rw [dr];exact List.mem_cons_of_mem _ hx)) (fun x hx=>?_)
    rcases h2 x hx with h|h
    · rw [dr] at h
      rcases List.mem_cons.1 h with rfl|h
      · exact .inr hin
      · exact .inl h
    · exact .inr h
  · have hm:=h1 (c0.certs.list[i]!) (by rw [dr];exact List.mem_cons_self)
    obtain ⟨m,hm1,hm2⟩:=aY.1 hm;obtain ⟨c',r1,r2,r3,r4,r5,r6⟩:=aP1 ok hm1;have rt:=KQ ok hm1 r1;rw [hm2] at r2 rt;have s1:eC (kP c0 f es i c)=some (.next (kP c0 f es (i+1) c')):=by
     unfold eC kP;simp only [e1,cond_true,cg,aE,pA _ _ eok.len,aM hin,Bool.not_false,sc,ceta,rt]
    have s2:dJ (kR c0 f es i c)=some (.next (kR c0 f es (i+1) c')):=by
     unfold dJ kR;simp only [aF,e1,cond_true,cg,aE,KB _ _ eok.len,aM hin,Bool.not_false,sc,ceta,r2]
    rw [bA s1,bA s2];have cl:c'.certs.list=c.certs.list.eraseIdx m:=by rw [r6];rfl
    have hroom:HR c<=HR c':=by
     unfold HR;rw [r6];show _<=c.certs.next_- (((c.certs.list.eraseIdx m).length:Nat):Int);rw [List.length_eraseIdx_of_lt hm1];omega
    have hs:(∀x∈c0.certs.list.drop (i+1),x∈c'.certs.list)/\(∀x∈c'.certs.list,x∈c0.certs.list.drop (i+1)\/x.2∈es):=by
     refine ⟨fun x hx=>?_,fun x hx=>?_⟩
     · rw [cl]
       refine aBj (h1 x (by rw [dr];exact List.mem_cons_of_mem _ hx)) ?_
       rw [hm2];exact HQ ok0 hx hi'
     · rw [cl] at hx
       obtain ⟨a1,a2⟩:=BZ ok.crt_up hm1 hx;rw [hm2] at a2;rcases h2 x a1 with h|h
       · rw [dr] at h
         rcases List.mem_cons.1 h with rfl|h
         · exact absurd rfl a2
         · exact .inl h
       · exact .inr h
    obtain ⟨d',q1,q2,q3,q4,q5,q6,q7⟩:=ih (i+1) c' (by omega) (by omega) r3 hs.1 hs.2
    exact ⟨d',q1,q2,q3,q4,q5.trans r4,q6.trans r5,by omega⟩
theorem VG {f:List Pt} (_fok:bM f) {es:List (Int×Int)} (eok:K8 f es):
 ∀(d i:Nat) (c:aO),es.length-i<=d->i<=es.length->bF c->c.field.points=f->(∀x∈c.certs.list,x.2∈es)->(∀j,j<i->xF c.certs.list es[j]!)->
  ∃r:aO×Int,aI eZ (eP es i c)=some (.done r)/\aI dU (eR es i c)=some (.done r)/\(r.2=0/\HS c f es r.1\/r=(dE,18))/\(∀k,P6 c k->k+(es.length-i)<=199->r.2=0):=by
 have el:=eok.len;have fin: ∀c:aO,bF c->c.field.points=f->(∀x∈c.certs.list,x.2∈es)->(∀j,j<es.length->xF c.certs.list es[j]!)-> ∃r:aO×Int,aI eZ (eP es es.length c)=some (.done r)/\aI dU (eR es es.length c)=some (.done r)/\(r.2=0/\HS c f es r.1\/r=(dE,18))/\r.2=0:=by
  intro c ok hf hs hh;have e1:decide ((es.length:Int)<(es.length:Int))=false:=aM (by omega)
  refine ⟨(c,0),aL ?_,aL ?_,.inl ⟨rfl,fun e he=>by obtain ⟨j,hj,q⟩:=aY.1 he;rw [<- q];exact hh j hj,hs,ok,hf,rfl,Int.le_refl _⟩,rfl⟩
  · unfold eZ eP
    simp only [e1,cond_false]
  · unfold dU eR
    simp only [aF,e1,cond_false]
 intro d
 induction d with
 |zero=>
  intro i c hd hi ok hf hs hh
  have:i=es.length:=by omega
  subst this;obtain ⟨r,q1,q2,q3,q4⟩:=fin c ok hf hs hh;exact ⟨r,q1,q2,q3,fun _ _ _=>q4⟩
 |succ d ih=>
  intro i c hd hi ok hf hs hh
  by_cases he:i=es.length
  · subst he
    obtain ⟨r,q1,q2,q3,q4⟩:=fin c ok hf hs hh;exact ⟨r,q1,q2,q3,fun _ _ _=>q4⟩
  have bd:=ok.bd;have hi':i<es.length:=by omega
  have e1:decide ((i:Int)<(es.length:Int))=true:=aQ (by omega)
  have sc:=aW (show i<1000000000 by omega)
  have cg:=aD es i hi';have ceta:(aO.mk (c.now.1,c.now.2) (Field.mk c.field.points) (aV.mk c.certs.next_ c.certs.list) (aH.mk (aR.mk c.agenda.slots.uses c.agenda.slots.used c.agenda.slots.free) c.agenda.heap c.agenda.where_) c.due)=c:=rfl;have ceta2:aV.mk c.certs.next_ c.certs.list=c.certs:=rfl;have hc:=U9 c.certs.list es[i]! (by omega)
  have hr:=BY c.certs es[i]! (by omega)
  by_cases hin:xF c.certs.list es[i]!
  · have s1:eZ (eP es i c)=some (.next (eP es (i+1) c)):=by
     unfold eZ eP;simp only [e1,cond_true,cg,aE,JG,hc,aQ hin,sc]
    have s2:dU (eR es i c)=some (.next (eR es (i+1) c)):=by
     unfold dU eR;simp only [aF,e1,cond_true,cg,aE,ceta2,hr,aQ hin,sc]
    rw [bA s1,bA s2];obtain ⟨r,q1,q2,q3,q4⟩:=ih (i+1) c (by omega) (by omega) ok hf hs (fun j hj=>if q:j=i then by rw [q];exact hin else hh j (by omega))
    exact ⟨r,q1,q2,q3,fun k hk hl=>q4 k hk (by omega)⟩
  · have hb:kD c.field.points es[i]!:=by rw [hf];exact eok.kn _ (bB hi')
    rcases aKe ok (eok.cv _ (bB hi')) hb hin with ⟨r1,r2,full⟩|⟨c',r1,r2,r3,r4,r5,r6,r7⟩
    · refine ⟨(dE,18),aL ?_,aL ?_,.inr rfl,fun k hk hl=>absurd full (hk.not_full ok (by omega))⟩
      · unfold eZ eP
        simp only [e1,cond_true,cg,aE,JG,hc,aM hin,cond_false,ceta,r1,show ((18:Int) !=0)=true from rfl]
      · unfold dU eR
        simp only [aF,e1,cond_true,cg,aE,ceta2,hr,aM hin,cond_false,ceta,r2,show ((18:Int) !=0)=true from rfl]
    · have s1:eZ (eP es i c)=some (.next (eP es (i+1) c')):=by
       unfold eZ eP;simp only [e1,cond_true,cg,aE,JG,hc,aM hin,cond_false,ceta,r1,show ((0:Int) !=0)=false from rfl,sc]
      have s2:dU (eR es i c)=some (.next (eR es (i+1) c')):=by
       unfold dU eR;simp only [aF,e1,cond_true,cg,aE,ceta2,hr,aM hin,cond_false,ceta,r2,show ((0:Int) !=0)=false from rfl,sc]
      rw [bA s1,bA s2];obtain ⟨r,q1,q2,q3,q6⟩:=ih (i+1) c' (by omega) (by omega) r3 (by rw [r4,hf]) (fun x hx=>by
       rw [r6] at hx;rcases List.mem_append.1 (show x∈c.certs.list++[(c.certs.next_,es[i]!)] from hx) with h|h
       · exact hs x h
       · rw [List.mem_singleton.1 h];exact bB hi') (fun j hj=>by
       rw [r6];show xF (c.certs.list++[(c.certs.next_,es[i]!)]) _
       by_cases q:j=i
       · rw [q];exact ⟨c.certs.list.length,by rw [List.length_append,List.length_singleton];omega,by rw [lG (Nat.le_refl _),Nat.sub_self];rfl⟩
       · obtain ⟨w,w1,w2⟩:=hh j (by omega)
         exact ⟨w,by rw [List.length_append];omega,by rw [kB w1];exact w2⟩)
      refine ⟨r,q1,q2,q3.imp (fun ⟨q4,q5⟩=>⟨q4,q5.has,q5.sub,q5.ok,q5.fld,q5.now.trans r5,Int.le_trans ?_ q5.room⟩) id,fun k hk hl=>q6 (k+1) (hk.more r6 r7) (by omega)⟩
      unfold HR;rw [r6];show _<=(c.certs.next_+1) - (((c.certs.list++[(c.certs.next_,es[i]!)]).length:Nat):Int);rw [List.length_append,List.length_singleton];omega
theorem aKg {c:aO} (ok:bF c) {f:List Pt} (fok:bM f) {es:List (Int×Int)} (eok:K8 f es):
 ∃r:aO×Int,uS c ⟨f⟩ es=some r/\mT c ⟨f⟩ es=some r/\(r.2=0/\HS c f es r.1\/r=(dE,18)):=by
 have f64:=fok.1;obtain ⟨c',g1,g2,g3,g4,g5,g6,g7⟩:=aDy ok eok c.certs.list.length 0 c (by omega) (by omega) ok (fun x hx=>by rwa [List.drop_zero] at hx) (fun x hx=> .inl (by rwa [List.drop_zero]))
 have bd:=g3.bd;have e1:decide ((c.certs.list.length:Int)<(c.certs.list.length:Int))=false:=aM (by omega)
 have start1:uS c ⟨f⟩ es=aI eC (kP c f es 0 c):=rfl;have start2:mT c ⟨f⟩ es=aI dJ (kR c f es 0 c):=by
  unfold mT;simp only [kE ok,aE];rfl
 rw [start1,start2,g1,g2];have eq1:=R6 c'.field.points f (by omega)
 have eq2:=KC c'.field.points f (by omega)
 have ceta:(aO.mk (c'.now.1,c'.now.2) (Field.mk c'.field.points) (aV.mk c'.certs.next_ c'.certs.list) (aH.mk (aR.mk c'.agenda.slots.uses c'.agenda.slots.used c'.agenda.slots.free) c'.agenda.heap c'.agenda.where_) c'.due)=c':=rfl
 by_cases hf:c'.field.points=f
 · obtain ⟨r,i1,i2,i3,_⟩:=VG fok eok es.length 0 c' (by omega) (by omega) g3 hf g4 (fun j hj=>absurd hj (Nat.not_lt_zero j))
   refine ⟨r,aL ?_,aL ?_,i3.imp (fun ⟨q4,q5⟩=>⟨q4,q5.has,q5.sub,q5.ok,q5.fld,q5.now.trans g6,Int.le_trans g7 q5.room⟩) id⟩
   · unfold eC kP
     simp only [e1,cond_false,eq1,aQ hf,aE,Bool.not_true];exact i1
   · unfold dJ kR
     simp only [aF,e1,cond_false,eq2,aQ hf,aE,Bool.not_true];exact i2
 · have kn: ∀i,i<c'.certs.list.length->kD f (c'.certs.list[i]!).2:=fun i hi=>eok.kn _ (g4 _ (bB hi))
   rcases aSw g3 fok kn with ⟨a1,a2⟩|⟨c2,a1,a2,a3,a4,a5,a6⟩
   · refine ⟨(dE,18),aL ?_,aL ?_,.inr rfl⟩
     · unfold eC kP
       simp only [e1,cond_false,eq1,aM hf,aE,Bool.not_false,cond_true,ceta,a1,show ((18:Int) !=0)=true from rfl]
     · unfold dJ kR
       simp only [aF,e1,cond_false,eq2,aM hf,aE,Bool.not_false,cond_true,ceta,a2,show ((18:Int) !=0)=true from rfl]
   · obtain ⟨r,i1,i2,i3,_⟩:=VG fok eok es.length 0 c2 (by omega) (by omega) a3 a4 (by rw [a6];exact g4) (fun j hj=>absurd hj (Nat.not_lt_zero j))
     refine ⟨r,aL ?_,aL ?_,i3.imp (fun ⟨q4,q5⟩=>⟨q4,q5.has,q5.sub,q5.ok,q5.fld,(q5.now.trans a5).trans g6,Int.le_trans (Int.le_trans g7 (by unfold HR;rw [a6];exact Int.le_refl _)) q5.room⟩) id⟩
     · unfold eC kP
       simp only [e1,cond_false,eq1,aM hf,aE,Bool.not_false,cond_true,ceta,a1,show ((0:Int) !=0)=false from rfl];exact i1
     · unfold dJ kR
       simp only [aF,e1,cond_false,eq2,aM hf,aE,Bool.not_false,cond_true,ceta,a2,show ((0:Int) !=0)=false from rfl];exact i2
theorem N3 {α:Type} [Inhabited α] {l:List α}:l.Nodup↔ ∀k,k<l.length->l[k]!∉l.take k:=by
 rw [eW];constructor
 · intro h k hk hm
   obtain ⟨i,h1,h2,h3⟩:=cE.1 hm;exact h i k h1 hk h3
 · intro h i j hij hj he
   exact h j hj (cE.2 ⟨i,hij,by omega,he⟩)
theorem HT {α:Type} [Inhabited α] {l:List α} {P:α->Prop}:(∀x∈l,P x)↔ ∀i,i<l.length->P l[i]!:=by
 constructor
 · intro h i hi;exact h _ (bB hi)
 · intro h x hx
   obtain ⟨i,hi,rfl⟩:=aY.1 hx;exact h i hi
theorem JK {σ ρ:Type} {body:σ->Option (bW σ ρ)} (st:Nat->σ) (n:Nat) (P:Nat->Prop) {r e:ρ} (h: ∀i,i<n->(¬P i->body (st i)=some (.done r))/\(P i->body (st i)=some (.next (st (i+1)))))
 (hend:body (st n)=some (.done e)):aI body (st 0)=some (if∀i,i<n->P i then e else r):=by
 have key:=cZ (body:=body) st n (fun i=> ¬P i) (r:=r) (e:=e) (fun i hi=>⟨(h i hi).1,fun hn=>(h i hi).2 (Classical.not_not.1 hn)⟩) hend
 by_cases hx: ∀i,i<n->P i
 · rw [if_pos hx];exact key.2 fun i hi=>Classical.not_not.2 (hx i hi)
 · rw [if_neg hx]
   obtain ⟨i,h⟩:=Classical.not_forall.1 hx;obtain ⟨hi,hx⟩:=Classical.not_imp.1 h;exact key.1 ⟨i,hi,hx⟩
theorem FC {f:List Pt} (fok:bM f) (id:Int): ∃p e,wT ⟨f⟩ id=some (p,e)/\(e=0↔oR f id):=by
 have h1:=fok.1;have hc:gS ⟨f⟩=some 0:=by rw [nV];exact congrArg some (lR.2 fok)
 have bs:=K7 f id (by omega) (fun i j=>sW fok.2.2)
 unfold wT DD F0;rw [aKc];simp only [hc,aE,show ((0:Int) !=0)=false from rfl,cond_false]
 by_cases h:oR f id
 · obtain ⟨k,hk,he⟩:=h
   rw [bs.1 k hk he];refine ⟨f[k]!,0,?_,fun _=>⟨k,hk,he⟩,fun _=>rfl⟩
   simp only [aE,Bool.not_true,cond_false,show ((0:Int) !=0)=false from rfl,aD f k hk]
 · obtain ⟨m,_,_,_,e⟩:=bs.2 (fun k hk he=>h ⟨k,hk,he⟩)
   rw [e];exact ⟨(0,0,0),6,rfl,fun h=>(by cases h),fun k=>absurd k h⟩
structure P7 (c:aO):Prop where
 f:c.field.points.length<=1000000
 l:c.certs.list.length<=1000000
 d:c.due.length<=1000000
 h:c.agenda.heap.length<=1000000
 w:c.agenda.where_.length<=1000000
 s1:c.agenda.slots.uses.length<=1000000
 s2:c.agenda.slots.used.length<=1000000
 s3:c.agenda.slots.free.length<=1000000
theorem bF.short {c:aO} (ok:bF c):P7 c:=by
 have bd:=ok.bd;have ab:=ok.agd.bd;have sl:=ok.agd.so.fl;have sn:=ok.agd.so.n2;have su:=ok.agd.so.ul;exact ⟨by omega,by omega,by omega,by omega,by omega,by omega,by omega,by omega⟩
theorem OO:P7 dE:=⟨by decide,by decide,by decide,by decide,by decide,by decide,by decide,by decide⟩
theorem JL (l:List Int) (hl:l.length<=1000000):lF l l=some true:=by
 unfold lF;rw [cA rfl];refine (bP (body:=nA) (fun i=>(l,l,(i:Int))) l.length fun i hi=>?_).trans (aL ?_)
 · have e1:decide ((i:Int)<(l.length:Int))=true:=aQ (by omega)
   unfold nA;simp only [aF,e1,cond_true,aD l i hi,aE,aW (show i<1000000000 by omega),cA rfl,cond_false]
 · unfold nA
   have:decide ((l.length:Int)<(l.length:Int))=false:=aM (by omega)
   simp only [aF,this,cond_false]
theorem X6 (l:List Bool) (hl:l.length<=1000000):pI l l=some true:=by
 unfold pI;rw [cA rfl];refine (bP (body:=mA) (fun i=>(l,l,(i:Int))) l.length fun i hi=>?_).trans (aL ?_)
 · have e1:decide ((i:Int)<(l.length:Int))=true:=aQ (by omega)
   unfold mA;simp only [aF,e1,cond_true,aD l i hi,aE,aW (show i<1000000000 by omega),beq_self_eq_true,Bool.not_true,cond_false]
 · unfold mA
   have:decide ((l.length:Int)<(l.length:Int))=false:=aM (by omega)
   simp only [aF,this,cond_false]
theorem X7 (c:aV) (hl:c.list.length<=1000000):BM c c=some true:=by
 unfold BM;rw [cA rfl,cA rfl];refine (bP (body:=tX) (fun i=>((i:Int),c.next_,c.list,c.next_,c.list)) c.list.length fun i hi=>?_).trans (aL ?_)
 · have e1:decide ((i:Int)<(c.list.length:Int))=true:=aQ (by omega)
   unfold tX;simp only [aF,e1,cond_true,aD c.list i hi,aE,aW (show i<1000000000 by omega),beq_self_eq_true,Bool.and_self,Bool.not_true,cond_false]
 · unfold tX
   have:decide ((c.list.length:Int)<(c.list.length:Int))=false:=aM (by omega)
   simp only [aF,this,cond_false]
theorem VH (a:aH) (h1:a.heap.length<=1000000) (h2:a.where_.length<=1000000) (h3:a.slots.uses.length<=1000000) (h4:a.slots.used.length<=1000000) (h5:a.slots.free.length<=1000000):BN a a=some true:=by
 unfold BN F5;simp only [JL _ h3,X6 _ h4,JL _ h5,JL _ h2,aE,cond_true,Bool.not_true,cond_false];rw [cA rfl];refine (bP (body:=tY) (fun i=>((i:Int),a.slots.uses,a.slots.used,a.slots.free,a.heap,a.where_,a.slots.uses,a.slots.used,a.slots.free,a.heap,a.where_)) a.heap.length fun i hi=>?_).trans (aL ?_)
 · have e1:decide ((i:Int)<(a.heap.length:Int))=true:=aQ (by omega)
   unfold tY;simp only [aF,e1,cond_true,aD a.heap i hi,aE,aW (show i<1000000000 by omega),beq_self_eq_true,Bool.and_self,Bool.not_true,cond_false]
 · unfold tY
   have:decide ((a.heap.length:Int)<(a.heap.length:Int))=false:=aM (by omega)
   simp only [aF,this,cond_false]
theorem X8 {c:aO} (sh:P7 c):BO c c=some true:=by
 have hd:=sh.d;unfold BO;simp only [beq_self_eq_true,Bool.and_self,Bool.not_true,cond_false,KC c.field.points c.field.points sh.f,X7 _ sh.l,VH _ sh.h sh.w sh.s1 sh.s2 sh.s3,aE,aQ];rw [cA rfl]
 refine (bP (body:=tZ) (fun i=>((i:Int),c.now.1,c.now.2,c.field.points,c.certs.next_,c.certs.list,c.agenda.slots.uses,c.agenda.slots.used,c.agenda.slots.free,c.agenda.heap,c.agenda.where_,c.due,c.now.1,c.now.2,c.field.points,c.certs.next_,c.certs.list,c.agenda.slots.uses,c.agenda.slots.used,c.agenda.slots.free,c.agenda.heap,c.agenda.where_,c.due)) c.due.length fun i hi=>?_).trans (aL ?_)
 · have e1:decide ((i:Int)<(c.due.length:Int))=true:=aQ (by omega)
   unfold tZ;simp only [aF,e1,cond_true,aD c.due i hi,aE,aW (show i<1000000000 by omega),beq_self_eq_true,Bool.and_self,Bool.not_true,cond_false]
 · unfold tZ
   have:decide ((c.due.length:Int)<(c.due.length:Int))=false:=aM (by omega)
   simp only [aF,this,cond_false]
structure aKh (c:aO):Prop where
 now:pK c.now
 at64: ∀w,w<c.agenda.heap.length->pK ((c.agenda.heap[w]!).1,(c.agenda.heap[w]!).2.1)
theorem KD (f:Field):qC f=some true\/(qC f=some false/\f.points.length<=70):=by
 unfold qC
 simp only [aF]
 by_cases h1:16<f.points.length
 · rw [aQ (show (16:Int)<(f.points.length:Int) by omega)]
   by_cases h2:f.points.length<64
   · rw [aQ (show (f.points.length:Int)<64 by omega)];exact .inl rfl
   · rw [aM (show¬(f.points.length:Int)<64 by omega)]
     by_cases h3:70<f.points.length
     · rw [aQ (show (70:Int)<(f.points.length:Int) by omega)];exact .inl rfl
     · rw [aM (show¬(70:Int)<(f.points.length:Int) by omega)];exact .inr ⟨rfl,by omega⟩
 · rw [aM (show¬(16:Int)<(f.points.length:Int) by omega),aM (show¬(70:Int)<(f.points.length:Int) by omega)]
   exact .inr ⟨rfl,by omega⟩
theorem VI (c:aO):uO c=some true\/(uO c=some false/\P7 c):=by
 unfold uO DA C9
 simp only [aF]
 by_cases h1:40<c.certs.list.length
 · rw [aQ (show (40:Int)<(c.certs.list.length:Int) by omega)];exact .inl rfl
 rw [aM (show¬(40:Int)<(c.certs.list.length:Int) by omega)]
 by_cases h2:40<c.due.length
 · rw [aQ (show (40:Int)<(c.due.length:Int) by omega)];exact .inl rfl
 rw [aM (show¬(40:Int)<(c.due.length:Int) by omega)]
 rcases KD c.field with e|⟨e,hf⟩
 · rw [e];exact .inl rfl
 rw [e];simp only [cond_false,aE]
 by_cases a1:210<c.agenda.slots.uses.length
 · rw [aQ (show (210:Int)<(c.agenda.slots.uses.length:Int) by omega)];exact .inl rfl
 rw [aM (show¬(210:Int)<(c.agenda.slots.uses.length:Int) by omega)]
 by_cases a2:210<c.agenda.slots.used.length
 · rw [aQ (show (210:Int)<(c.agenda.slots.used.length:Int) by omega)];exact .inl rfl
 rw [aM (show¬(210:Int)<(c.agenda.slots.used.length:Int) by omega)]
 by_cases a3:210<c.agenda.slots.free.length
 · rw [aQ (show (210:Int)<(c.agenda.slots.free.length:Int) by omega)];exact .inl rfl
 rw [aM (show¬(210:Int)<(c.agenda.slots.free.length:Int) by omega)]
 by_cases a4:210<c.agenda.heap.length
 · rw [aQ (show (210:Int)<(c.agenda.heap.length:Int) by omega)];exact .inl rfl
 rw [aM (show¬(210:Int)<(c.agenda.heap.length:Int) by omega)]
 by_cases a5:210<c.agenda.where_.length
 · rw [aQ (show (210:Int)<(c.agenda.where_.length:Int) by omega)];exact .inl rfl
 rw [aM (show¬(210:Int)<(c.agenda.where_.length:Int) by omega)]
 exact .inr ⟨rfl,⟨by omega,by omega,by omega,by omega,by omega,by omega,by omega,by omega⟩⟩
theorem aKi (p q:Pt) (t:Int×Int):PR p q t=(p.2.1-q.2.1)*t.2+(p.2.2-q.2.2)*t.1:=rfl
theorem KR {p q:Pt} {t:Int×Int} (hp:iH p) (hq:iH q) (ht:pK t) (hr:bT t):lV p q t=some (decide (cT p q t),if p.1=q.1 then 2 else 0)\/(p.1=q.1/\lV p q t=some (false,2)):=by
 unfold lV;rw [zF ht,if_pos ⟨hp,hq,hr⟩]
 by_cases h:p.1=q.1
 · right;simp [h]
 · left
   simp only [h,if_false,aE,yO hp hq ht]
   have:decide (0<XS p q t)=decide (cT p q t):=by simp only [NC]
   simp [this]
end Go.Proofs.YtbncnimfgdelaaaGreat
namespace Go.Proofs.YtbncnimfgdelaaaGreat
theorem tB {α:Type} [BEq α] [LawfulBEq α]: ∀{a b:List α},a.Nodup->(∀x∈a,x∈b)->b.length<=a.length->a.Perm b
 | [],b,_,_,hl=>by
  rw [List.eq_nil_of_length_eq_zero (show b.length=0 by simpa using hl)]
 |x::a,b,hd,h,hl=>by
  rw [List.nodup_cons] at hd;have hx:=h x List.mem_cons_self;have ih:=tB (a:=a) (b:=b.erase x) hd.2 (fun y hy=>by
   rw [List.mem_erase_of_ne (fun e=>hd.1 (by rw [<- e];exact hy))]
   exact h y (List.mem_cons_of_mem _ hy)) (by
   rw [List.length_erase_of_mem hx];rw [List.length_cons] at hl
   omega)
  exact (List.Perm.cons x ih).trans (List.perm_cons_erase hx).symm
theorem xH {α β:Type} {f:α->β}: ∀{l:List α},l.Nodup->(∀x∈l,∀y∈l,f x=f y->x=y)->(l.map f).Nodup
 | [],_,_=>List.nodup_nil
 |x::l,h,hi=>by
  rw [List.nodup_cons] at h;rw [List.map_cons,List.nodup_cons];refine ⟨fun hm=>?_,xH h.2 fun y hy z hz=>hi y (List.mem_cons_of_mem _ hy) z (List.mem_cons_of_mem _ hz)⟩
  obtain ⟨y,hy,e⟩:=List.mem_map.1 hm
  have:=hi y (List.mem_cons_of_mem _ hy) x List.mem_cons_self e
  rw [this] at hy;exact h.1 hy
end Go.Proofs.YtbncnimfgdelaaaGreat
namespace Go.Proofs.YtbncnimfgdelaaaGreat
open Go.Vm Classical
def JM (l:List Int) (k:Nat):List (Int×Int):=(List.range k).map fun i=>(l[i+1]!,l[i / 2]!)
abbrev GA (l:List Int):List (Int×Int):=JM l (l.length-1)
theorem GB (l:List Int) (k:Nat):(JM l k).length=k:=by unfold JM;rw [List.length_map,List.length_range]
theorem KE (l:List Int) {k i:Nat} (h:i<k):(JM l k)[i]! =(l[i+1]!,l[i / 2]!):=by
 rw [getElem!_pos _ i (by rw [GB];exact h)]
 unfold JM;rw [List.getElem_map,List.getElem_range]
theorem VJ {l:List Int} (hd:l.Nodup):(GA l).Nodup:=by
 unfold GA JM;refine xH List.nodup_range fun i hi j hj h=>?_
 rw [List.mem_range] at hi hj;have h1:l[i+1]! =l[j+1]!:=congrArg Prod.fst h;have h2:=eW.1 hd;rcases Nat.lt_trichotomy i j with k|k|k
 · exact absurd h1 (h2 (i+1) (j+1) (by omega) (by omega))
 · exact k
 · exact absurd h1.symm (h2 (j+1) (i+1) (by omega) (by omega))
theorem VK (l:List Int) (x:Int) (hl:l.length<=1000000):
 (∀k,k<l.length->l[k]! =x->(∀j,j<k->l[j]!≠x)->oI l x=some (k:Int))/\((∀k,k<l.length->l[k]!≠x)->oI l x=some (-1)):=by
 have k1:=nU (body:=kO) (fun i=>(l,x,(l.length:Int),(i:Int))) l.length (fun i=>l[i]! =x) (fun i=>(i:Int)) (e:= -1) (fun i hi=>by
  unfold kO;simp only [aQ (show (i:Int)<(l.length:Int) by omega),cond_true,aD l i hi,aE,aW (show i<1000000000 by omega)]
  refine ⟨fun h=>?_,fun h=>?_⟩
  · rw [fQ h.symm];rfl
  · rw [eG (fun k=>h k.symm)];rfl) (by
  unfold kO;simp only [aM (show¬(l.length:Int)<(l.length:Int) by omega),cond_false])
 exact ⟨fun k hk h1 h2=>k1.1 k hk h1 h2,fun h=>k1.2 h⟩
theorem aKj {f:List Pt} (fok:bM f) {t:Int×Int} (r64:pK t) {x:Int×Int} (hb:kD f x):BK x ⟨f⟩ t=some (decide (cT (eO f x.2) (eO f x.1) t)):=by
 obtain ⟨h1,h2⟩:=hb;obtain ⟨j,j1,j2,j3⟩:=JJ fok h1;obtain ⟨k,k1,k2,k3⟩:=JJ fok h2;unfold BK;simp only [j2,k2,aE,aD f j j1,aD f k k1,j3,k3,ND (hO fok h2).1 (hO fok h1).1 r64]
def iB (f:List Pt):List Int:=f.map fun p=>p.1
theorem lI {f:List Pt} (h:fB f):(iB f).Nodup:=by
 refine xH ?_ ?_
 · exact eW.2 fun i j hij hj e=>by have:=sW h hij hj;rw [e] at this;omega
 · intro x hx y hy e
   obtain ⟨i,hi,rfl⟩:=aY.1 hx;obtain ⟨j,hj,rfl⟩:=aY.1 hy;rw [xD h hi hj e]
theorem iP {f:List Pt} {id:Int}:id∈iB f↔oR f id:=by
 unfold iB oR;rw [List.mem_map];constructor
 · rintro ⟨p,hp,rfl⟩
   obtain ⟨i,hi,rfl⟩:=aY.1 hp;exact ⟨i,hi,rfl⟩
 · rintro ⟨i,hi,rfl⟩
   exact ⟨f[i]!,bB hi,rfl⟩
structure xI (k:E5):Prop where
 clk:bF k.clock
 perm:(iB k.clock.field.points).Perm k.heap
 cert:(k.clock.certs.list.map fun x=>x.2).Perm (GA k.heap)
 lead: ∀e∈GA k.heap,cT (eO k.clock.field.points e.2) (eO k.clock.field.points e.1) k.clock.now
theorem DO {c:aV} (ok:eN c):(c.list.map fun x=>x.2).Nodup:=by
 refine xH ?_ ?_
 · exact eW.2 fun i j hij hj e=>ok.nd i j hij hj (by rw [e])
 · intro x hx y hy e
   obtain ⟨i,hi,rfl⟩:=aY.1 hx;obtain ⟨j,hj,rfl⟩:=aY.1 hy;rcases Nat.lt_trichotomy i j with k|k|k
   · exact absurd e (ok.nd i j k hj)
   · rw [k]
   · exact absurd e.symm (ok.nd j i k hi)
theorem AM {l:List vB} {x:Int×Int}:xF l x↔x∈l.map fun y=>y.2:=by
 unfold xF;rw [List.mem_map];constructor
 · rintro ⟨i,hi,rfl⟩;exact ⟨l[i]!,bB hi,rfl⟩
 · rintro ⟨y,hy,rfl⟩
   obtain ⟨i,hi,rfl⟩:=aY.1 hy;exact ⟨i,hi,rfl⟩
theorem aKk {c:aO} (ok:bF c) (es:List (Int×Int)) (kn: ∀x∈es,kD c.field.points x):
 BL c es=some (decide (c.certs.list.length=es.length/\ ∀i,i<es.length->xF c.certs.list es[i]!/\cT (eO c.field.points (es[i]!).2) (eO c.field.points (es[i]!).1) c.now)):=by
 have bd:=ok.bd;unfold BL;simp only [aF]
 by_cases h0:c.certs.list.length=es.length
 case neg=>rw [dB (by omega),cond_true,aM (fun h=>h0 h.1)]
 rw [cA (by omega),cond_false]
 have key:=JK (body:=tV) (fun i=>(es,(i:Int),c.now.1,c.now.2,c.field.points,c.certs.next_,c.certs.list,c.agenda.slots.uses,c.agenda.slots.used,c.agenda.slots.free,c.agenda.heap,c.agenda.where_,c.due)) es.length
  (fun i=>xF c.certs.list es[i]!/\cT (eO c.field.points (es[i]!).2) (eO c.field.points (es[i]!).1) c.now) (r:=false) (e:=true) (fun i hi=>by
  have ceta2:aV.mk c.certs.next_ c.certs.list=c.certs:=rfl;unfold tV;simp only [aF,aQ (show (i:Int)<(es.length:Int) by omega),cond_true,aD es i hi,aE,ceta2,BY c.certs es[i]! (by omega),aKj ok.fld (t:=(c.now.1,c.now.2)) ok.now64 (kn _ (bB hi)),aW (show i<1000000000 by omega)]
  by_cases h1:xF c.certs.list es[i]!
  · rw [aQ h1]
    by_cases h2:cT (eO c.field.points (es[i]!).2) (eO c.field.points (es[i]!).1) c.now
    · rw [show decide (cT (eO c.field.points (es[i]!).2) (eO c.field.points (es[i]!).1) (c.now.1,c.now.2))=true from aQ h2]
      exact ⟨fun h=>absurd ⟨h1,h2⟩ h,fun _=>rfl⟩
    · rw [show decide (cT (eO c.field.points (es[i]!).2) (eO c.field.points (es[i]!).1) (c.now.1,c.now.2))=false from aM h2]
      exact ⟨fun _=>rfl,fun h=>absurd h.2 h2⟩
  · rw [aM h1]
    exact ⟨fun _=>rfl,fun h=>absurd h.1 h1⟩) (by
  unfold tV;simp only [aF,aM (show¬(es.length:Int)<(es.length:Int) by omega),cond_false])
 refine (show _=_ from key).trans ?_
 by_cases h2: ∀i,i<es.length->xF c.certs.list es[i]!/\cT (eO c.field.points (es[i]!).2) (eO c.field.points (es[i]!).1) c.now
 · rw [if_pos h2,aQ ⟨h0,h2⟩]
 · rw [if_neg h2,aM (fun h=>h2 h.2)]
end Go.Proofs.YtbncnimfgdelaaaGreat
