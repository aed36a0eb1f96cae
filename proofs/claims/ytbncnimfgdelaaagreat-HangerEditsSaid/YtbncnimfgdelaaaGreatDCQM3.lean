/- Plain laws (3). -/
import Derived.Test.YtbncnimfgdelaaaGreatDCQM2
import Derived.Test.YtbncnimfgdelaaaGreatDCQS2
namespace Go.Proofs.YtbncnimfgdelaaaGreat
open Go.Vm Classical
theorem VO (c:aP) (n:Int) (hl:c.due.length<=1000000):(∀k,k<c.due.length->(c.due[k]!).1=n->(∀j,j<k->(c.due[j]!).1≠n)->vA c n=some (k:Int))/\((∀k,k<c.due.length->(c.due[k]!).1≠n)->vA c n=some (-1)):=by
 unfold vA;refine qM (body:=rO) (fun i=>(n,(i:Int),c.now.1,c.now.2,c.field.points,c.certs.next_,c.certs.list,c.agenda.slots.uses,c.agenda.slots.used,c.agenda.slots.free,c.agenda.heap,c.agenda.where_,c.due)) c.due.length (fun i=>(c.due[i]!).1=n) (fun i=>(i:Int)) (fun i hi=>?_) ?_
 · have e1:decide ((i:Int)<(c.due.length:Int))=true:=aO (by omega)
   unfold rO;simp only [aF,e1,cond_true,aD c.due i hi,aB,aV (show i<1000000000 by omega)]
   constructor
   · intro h;rw [gC h];rfl
   · intro h;rw [eQ h];rfl
 · unfold rO
   have:decide ((c.due.length:Int)<(c.due.length:Int))=false:=aJ (by omega)
   simp only [aF,this,cond_false]
theorem QC {ds:List vD} (hu:Up ds) (hl:ds.length<=1000000) (n:Int):(∀k,k<ds.length->(ds[k]!).1=n->qI ds n=some ((k:Int),true))/\((∀k,k<ds.length->(ds[k]!).1≠n)-> ∃m:Nat,qI ds n=some ((m:Int),false)):=by
 have bs:=yR ds n hl (wH.1 hu);unfold qI;rw [aO7];constructor
 · intro k hk he;rw [bs.1 k hk he];rfl
 · intro h
   obtain ⟨m,_,_,_,e⟩:=bs.2 h;exact ⟨m,by rw [e];rfl⟩
theorem bG.bd {c:aP} (ok:bG c):c.due.length<=200/\c.field.points.length<=64/\c.certs.list.length<=200:=by
 have:=ok.hd;have:=ok.agd.bd;have:=ok.fld.1;have:=ok.crt.len
 omega
theorem jH {c:aP} (ok:bG c):sV c=some c:=by
 have bd:=ok.bd;unfold sV sS BX;simp only [bB (show c.field.points.length<=1048576 by omega),bB (show c.certs.list.length<=1048576 by omega),bB (show c.due.length<=1048576 by omega),aB,uB ok.agd]
theorem nJ {c:aP} (ok:bG c):kW c=some c:=by
 have bd:=ok.bd;have ab:=ok.agd.bd;have hl:=ok.agd.so.fl;have hn:=ok.agd.so.n2;have hu:=ok.agd.so.ul;unfold kW;simp only [bB (show c.field.points.length<=1048576 by omega),bB (show c.certs.list.length<=1048576 by omega),bB (show c.due.length<=1048576 by omega),bB (show c.agenda.heap.length<=1048576 by omega),bB (show c.agenda.where_.length<=1048576 by omega),
  bB (show c.agenda.slots.uses.length<=1048576 by omega),bB (show c.agenda.slots.used.length<=1048576 by omega),bB (show c.agenda.slots.free.length<=1048576 by omega),aB]
theorem B9 {cs:List vD} {i:Nat} (hu:Up cs) (hi:i<cs.length) {x:vD} (hx:x∈cs.eraseIdx i):x∈cs/\x.1≠(cs[i]!).1:=by
 rw [xK,List.mem_append] at hx;have ub:=wH.1 hu;rcases hx with hx|hx
 · obtain ⟨j,h1,h2,rfl⟩:=cI.1 hx
   have:=ub j i h1 hi
   exact ⟨bH h2,by omega⟩
 · obtain ⟨j,hj,rfl⟩:=aY.1 hx
   rw [List.length_drop] at hj;rw [sY]
   have:=ub i (i+1+j) (by omega) (by omega)
   exact ⟨bH (by omega),by omega⟩
theorem KQ {c:aP} (ok:bG c) (i:Nat) (hi:i<c.certs.list.length): ∀j,j<(pT c.certs i).list.length->lD c.field.points ((pT c.certs i).list[j]!).2:=by
 intro j hj;have hm:(pT c.certs i).list[j]!∈c.certs.list:=(B9 ok.crt_up hi (bH hj)).1;obtain ⟨m,hm1,hm2⟩:=aY.1 hm;rw [<- hm2];exact ok.known m hm1
theorem aO8 {c:aP} (ok:bG c) {i:Nat} (hi:i<c.certs.list.length):
 ∃c':aP,nX c (c.certs.list[i]!).1=some (c',(c.certs.list[i]!).2,0)/\BY c (c.certs.list[i]!).1=some c'/\bG c'/\c'.field=c.field/\c'.now=c.now/\c'.certs=pT c.certs i:=by
 have bd:=ok.bd;have rm:=OG ok.crt hi (n:=(c.certs.list[i]!).1) rfl;have wo:=JX ok.crt hi (n:=(c.certs.list[i]!).1) rfl;have fe:=ok.fol.erase (i:=i) hi;have pd:=QC ok.due_up (by omega) (c.certs.list[i]!).1
 have da:=VO c (c.certs.list[i]!).1 (by omega)
 cases hf:(bK c.field.points (c.certs.list[i]!).2 c.now).2 with
 |false=>
  have no: ∀k,k<c.due.length->(c.due[k]!).1≠(c.certs.list[i]!).1:=by
   intro k hk he;obtain ⟨x,hx,h1,h2,_⟩:=ok.fol.due _ (bH hk);obtain ⟨j,hj,rfl⟩:=aY.1 hx;have ub:=wH.1 ok.crt_up
   have:j=i:=by
    rcases Nat.lt_trichotomy j i with h|h|h
    · have:=ub j i h hi;omega
    · exact h
    · have:=ub i j h hj;omega
   rw [this,hf] at h2;cases h2
  refine ⟨⟨c.now,c.field,pT c.certs i,c.agenda,c.due⟩,?_,?_,?_,rfl,rfl,rfl⟩
  · unfold nX
    obtain ⟨m,e⟩:=pd.2 no;simp only [rm,aB,show ((0:Int) !=0)=false from rfl,cond_false,nJ ok,e]
  · unfold BY
    simp only [jH ok,aB,wo,da.2 no,aJ (show¬(0:Int)<= -1 by omega),cond_false]
  · exact ⟨ok.nowv,ok.now64,ok.fld,OF ok.crt hi,ok.agd,ok.w200,ok.hd,KQ ok i hi,fe.1 hf⟩
 |true=>
  obtain ⟨k,hk,k1,k2,k3⟩:=fe.2 hf;obtain ⟨w,hw,hev⟩:=aY.1 k2;have hh:(c.agenda.heap[w]!).2.2.2=(c.due[k]!).2:=by rw [hev]
  have ub:=wH.1 ok.due_up;have before: ∀j,j<k->(c.due[j]!).1≠(c.certs.list[i]!).1:=fun j hj he=>by have:=ub j k hj hk;omega
  have dl:(c.due.eraseIdx k).length=c.due.length-1:=SA hk;obtain ⟨L,d1,d2⟩:=DW c.due k hk;refine ⟨⟨c.now,c.field,pT c.certs i,eO c.agenda w,c.due.eraseIdx k⟩,?_,?_,?_,rfl,rfl,rfl⟩
  · unfold nX
    simp only [rm,aB,show ((0:Int) !=0)=false from rfl,cond_false,nJ ok,pd.1 k hk k1,cond_true,aD c.due k hk,AS ok.agd hw ok.agd.fit hh,aV (show k<1000000000 by omega),X7,d1,d2]
  · unfold BY
    have s1:iN c.due 0 (k:Int)=some (c.due.take k):=oS c.due k (by omega)
    have s2:iN c.due ((k+1:Nat):Int) (c.due.length:Int)=some (c.due.drop (k+1)):=by
     unfold iN;rw [if_pos ⟨by omega,by omega,by omega⟩]
     simp only [Int.toNat_natCast];rw [List.take_of_length_le (by rw [List.length_drop];exact Nat.le_refl _)]
    have tl:(c.due.take k).length=k:=by rw [List.length_take];omega
    have dl2:(c.due.drop (k+1)).length=c.due.length- (k+1):=List.length_drop;simp only [jH ok,aB,wo,da.1 k hk k1 before,aO (show (0:Int)<=(k:Int) by omega),cond_true,aD c.due k hk,AT ok.agd hw hh,s1,bB (show (c.due.take k).length<=1048576 by omega),aV (show k<1000000000 by omega),aF,s2,
     bT (show (c.due.take k).length+(c.due.drop (k+1)).length<=1048576 by omega),xK]
    cases hem:(c.due.drop (k+1)).isEmpty with
    |true=>
     rw [List.isEmpty_iff] at hem;rw [hem,List.append_nil];rfl
    |false=>rfl
  · have rem:=JU ok.agd hw
    have rmem:=OC ok.agd hw;have hlen:(eO c.agenda w).heap.length=c.agenda.heap.length-1:=by
     have h1:=rem.hl;have h2:=ok.agd.hl;have h3:(eO c.agenda w).slots=gB c.agenda.slots (c.agenda.heap[w]!).2.2.2:=by unfold eO;split<;>rfl
     rw [h3] at h1;change _+(c.agenda.slots.free++[_]).length=c.agenda.slots.uses.length at h1;rw [List.length_append] at h1;simp only [List.length_cons,List.length_nil] at h1;omega
    have wlen:(eO c.agenda w).where_.length=200:=by
     have h1:=rem.wl;have h3:(eO c.agenda w).slots=gB c.agenda.slots (c.agenda.heap[w]!).2.2.2:=by unfold eO;split<;>rfl
     rw [h3] at h1;change _=c.agenda.slots.uses.length at h1;rw [h1,<- ok.agd.wl,ok.w200]
    refine ⟨ok.nowv,ok.now64,ok.fld,OF ok.crt hi,rem,wlen,?_,KQ ok i hi,?_⟩
    · show (eO c.agenda w).heap.length=(c.due.eraseIdx k).length
      rw [hlen,dl,ok.hd]
    · refine k3.mono fun x hx e he hm=>(rmem e).2 ⟨hm,fun h=>?_⟩
      have:=(B9 ok.crt_up hi hx).2
      rw [h,hev] at he;exact this he.symm
theorem K6 {c:aP} (ok:bG c) {i:Nat} (_hi:i<c.certs.list.length) {c':aP} (h:nX c (c.certs.list[i]!).1=some (c',(c.certs.list[i]!).2,0)):vZ c (c.certs.list[i]!).1=some (c',0):=by
 unfold vZ;rw [oH ok.fit,if_pos ok];simp only [aB,show ((0:Int) !=0)=false from rfl,cond_false,h]
abbrev eA:aP:=⟨(0,0),⟨[]⟩,⟨0,[]⟩,⟨⟨[],[],[]⟩,[],[]⟩,[]⟩
theorem SC {l:List Pt} (ok:bD l) {id:Int} (h:mS l id): ¬(fU l id).1<0:=by
 obtain ⟨h1,_⟩:=jA ok h
 have:=h1.1
 omega
theorem aJn {c:aP} (ok:bG c) {x:Int×Int} (hx:fY x) (hb:lD c.field.points x) (hn: ¬xL c.certs.list x):
 (jF c x=some (eA,0,18)/\oC c x=some (eA,0,18)/\(IE c.certs\/ ¬CR c.agenda.slots))\/
 ∃c':aP,jF c x=some (c',c.certs.next_,0)/\oC c x=some (c',c.certs.next_,0)/\bG c'/\c'.field=c.field/\c'.now=c.now/\c'.certs=rT c.certs x/\(c'.agenda.slots=c.agenda.slots\/c'.agenda.slots=iE c.agenda.slots):=by
 have bd:=ok.bd;have n0:=ok.crt.n0;have n1:=ok.crt.n1;have fit:=ok.fit;have ad:=VJ ok.crt hx;have rd:=R9 ok.crt hx;rw [if_neg hn] at ad rd;have hc:gU c=some 0:=by rw [oH fit,if_pos ok]
 have p1:=oG ok.fld x.1;have p2:=oG ok.fld x.2;have q1:=SC ok.fld hb.1;have q2:=SC ok.fld hb.2;have wh:=zO ok.fld hx ok.nowv ok.now64;rw [if_pos hb] at wh;have rw':=zP ok.fld ok.now64 hb
 by_cases hf:IE c.certs
 · rw [if_pos hf] at ad rd
   left;refine ⟨?_,?_,.inl hf⟩
   · unfold jF dI
     simp only [hc,aB,show ((0:Int) !=0)=false from rfl,cond_false,ad,show ((18:Int)==8)=false from rfl,p1,p2,aJ q1,aJ q2,show ((18:Int) !=0)=true from rfl,cond_true]
   · unfold oC
     simp only [rd,aB,show ((18:Int) !=0)=true from rfl,cond_true]
 rw [if_neg hf] at ad rd;have cok:=X9 ok.crt hx hn hf;have known': ∀j,j<(rT c.certs x).list.length->lD c.field.points ((rT c.certs x).list[j]!).2:=by
  intro j hj;rw [EY] at hj;rw [xM]
  by_cases h:j<c.certs.list.length
  · rw [if_pos h];exact ok.known j h
  · rw [if_neg h,if_pos (by omega)];exact hb
 have fresh: ∀e∈c.agenda.heap,Ev.num e≠c.certs.next_:=by
  intro e he hne;obtain ⟨d,hd,h1⟩:=ok.nums e he;obtain ⟨y,hy,h2,_⟩:=ok.fol.due d hd;obtain ⟨j,hj,rfl⟩:=aY.1 hy
  have:=(ok.crt.nr j hj).2
  omega
 have sn:=ok.fol.snoc (x:=(c.certs.next_,x));cases hw:(bK c.field.points x c.now).2 with
 |false=>
  right;refine ⟨⟨c.now,c.field,rT c.certs x,c.agenda,c.due⟩,?_,?_,⟨ok.nowv,ok.now64,ok.fld,cok,ok.agd,ok.w200,ok.hd,known',sn.1 hw⟩,rfl,rfl,rfl,.inl rfl⟩
  · unfold jF dI
    simp only [hc,aB,show ((0:Int) !=0)=false from rfl,cond_false,ad,show ((0:Int)==8)=false from rfl,p1,p2,aJ q1,aJ q2,nJ ok,wh,hw]
  · unfold oC
    simp only [rd,aB,show ((0:Int) !=0)=false from rfl,cond_false,jH ok,rw',hw,Bool.not_false,cond_true]
 |true=>
  obtain ⟨t1,t2⟩:=NV (jA ok.fld hb.2).1 (jA ok.fld hb.1).1 ok.now64 ok.nowv hw
  by_cases op:CR c.agenda.slots
  · right
    have pu:=AP ok.agd op ok.agd.fit (t:=(bK c.field.points x c.now).1) (n:=c.certs.next_) t1 t2 n0 n1 fresh;have rp:=CS ok.agd op (t:=(bK c.field.points x c.now).1) (n:=c.certs.next_) t1 t2 n0 n1;have pok:=aAa ok.agd op (t:=(bK c.field.points x c.now).1) (n:=c.certs.next_) t1 t2 n0 n1 fresh
    have pmem:=VE ok.agd op (t:=(bK c.field.points x c.now).1) (n:=c.certs.next_) t1;have plen:=IB ok.agd op (t:=(bK c.field.points x c.now).1) (n:=c.certs.next_) t1;have ap: ∀h:Int×Int,bI c.due [(c.certs.next_,h)]=some (c.due++[(c.certs.next_,h)]):=fun h=>bT (by simp;omega)
    have wlen:(mR c.agenda (bK c.field.points x c.now).1 c.certs.next_).where_.length=200:=by
     have:=pok.wl
     change _=(c.agenda.slots.uses.set _ _).length at this;rw [List.length_set] at this;rw [this,<- ok.agd.wl,ok.w200]
    refine ⟨⟨c.now,c.field,rT c.certs x,mR c.agenda (bK c.field.points x c.now).1 c.certs.next_,c.due++[(c.certs.next_,mQ c.agenda.slots)]⟩,?_,?_,⟨ok.nowv,ok.now64,ok.fld,cok,pok,wlen,?_,known',?_⟩,rfl,rfl,rfl,.inr rfl⟩
    · unfold jF dI
      simp only [hc,aB,show ((0:Int) !=0)=false from rfl,cond_false,ad,show ((0:Int)==8)=false from rfl,p1,p2,aJ q1,aJ q2,nJ ok,wh,hw,cond_true,pu,ap]
    · unfold oC
      simp only [rd,aB,show ((0:Int) !=0)=false from rfl,cond_false,jH ok,rw',hw,Bool.not_true,uA ok.agd.so,aO op,rp,ap]
    · show (mR c.agenda (bK c.field.points x c.now).1 c.certs.next_).heap.length=(c.due++[_]).length
      rw [plen,List.length_append,ok.hd];rfl
    · have fm:aW c.field.points c.now (mR c.agenda (bK c.field.points x c.now).1 c.certs.next_).heap c.certs.list c.due:=ok.fol.mono fun y hy e he hm=>(pmem e).2 (.inr hm)
      exact (fm.snoc (x:=(c.certs.next_,x))).2 _ hw rfl ((pmem _).2 (.inl rfl))
  · left
    have pu:=AQ ok.agd op ok.agd.fit (t:=(bK c.field.points x c.now).1) (n:=c.certs.next_) t1 t2 n0 n1 fresh;refine ⟨?_,?_,.inr op⟩
    · unfold jF dI
      simp only [hc,aB,show ((0:Int) !=0)=false from rfl,cond_false,ad,show ((0:Int)==8)=false from rfl,p1,p2,aJ q1,aJ q2,nJ ok,wh,hw,cond_true,pu,show ((18:Int) !=0)=true from rfl]
    · unfold oC
      simp only [rd,aB,show ((0:Int) !=0)=false from rfl,cond_false,jH ok,rw',hw,Bool.not_true,uA ok.agd.so,aJ op,Bool.not_false,cond_true]
theorem Up.inj {cs:List vD} (h:Up cs) {x y:vD} (hx:x∈cs) (hy:y∈cs) (he:x.1=y.1):x=y:=by
 obtain ⟨i,hi,rfl⟩:=aY.1 hx;obtain ⟨j,hj,rfl⟩:=aY.1 hy;have ub:=wH.1 h;rcases Nat.lt_trichotomy i j with h1|h1|h1
 · have:=ub i j h1 hj;omega
 · rw [h1]
 · have:=ub j i h1 hi;omega
structure OI (c:aP) (f:List Pt) (i k:Nat) (a:aI) (ds:List vD):Prop where
 ok:eZ a
 w2:a.where_.length=200
 new:aW f c.now a.heap (c.certs.list.take i) ds
 old:aW c.field.points c.now a.heap (c.certs.list.drop i) (c.due.drop k)
 kl:k<=c.due.length
 cnt:a.heap.length=ds.length+(c.due.length-k)
theorem aO9 {a:aI} (ok:eZ a) {w:Nat} (hw:w<a.heap.length):(eO a w).heap.length=a.heap.length-1/\(eO a w).where_.length=a.where_.length:=by
 have rem:=JU ok hw;have h3:(eO a w).slots=gB a.slots (a.heap[w]!).2.2.2:=by unfold eO;split<;>rfl
 have h1:=rem.hl;have h2:=ok.hl;have h4:=rem.wl;rw [h3] at h1 h4;change _+(a.slots.free++[_]).length=a.slots.uses.length at h1;change _=a.slots.uses.length at h4;rw [List.length_append] at h1;simp only [List.length_cons,List.length_nil] at h1;exact ⟨by omega,by rw [h4,ok.wl]⟩
theorem aJo {a:aI} {t:Int×Int} {n:Int} (ok:eZ a) (pok:eZ (mR a t n)):(mR a t n).where_.length=a.where_.length:=by
 have:=pok.wl
 change _=(a.slots.uses.set _ _).length at this;rw [List.length_set] at this;rw [this,ok.wl]
section
variable {c : aP} (ok : bG c) {f : List Pt} (fok : bD f) (kn : ∀ i, i < c.certs.list.length -> lD f (c.certs.list[i]!).2)
include ok
theorem IG {i:Nat} {x:vD} (hx:x∈c.certs.list.take i) (hi:i<c.certs.list.length):x.1≠(c.certs.list[i]!).1:=by
 obtain ⟨j,h1,h2,rfl⟩:=cI.1 hx
 have:=ok.crt.up j i h1 hi
 omega
theorem IH {i:Nat} {x:vD} (hx:x∈c.certs.list.drop (i+1)) (hi:i<c.certs.list.length):x.1≠(c.certs.list[i]!).1:=by
 obtain ⟨j,h1,rfl⟩:=aY.1 hx;rw [List.length_drop] at h1;rw [sY]
 have:=ok.crt.up i (i+1+j) (by omega) (by omega)
 omega
theorem aBc {i k:Nat} {a:aI} {ds:List vD} (inv:OI c f i k a ds) (hi:i<c.certs.list.length) (was:(bK c.field.points (c.certs.list[i]!).2 c.now).2=false): ∀e∈a.heap,Ev.num e≠(c.certs.list[i]!).1:=by
 have u1:Up (c.certs.list.take i):=ok.crt_up.sublist (List.take_sublist _ _);have u2:Up (c.certs.list.drop i):=ok.crt_up.sublist (List.drop_sublist _ _);have d1:=inv.new.up u1;have d2:=inv.old.up u2;have cross: ∀x∈ds,∀y∈c.due.drop k,x.1<y.1:=by
  intro x hx y hy;obtain ⟨p,hp,h1,_⟩:=inv.new.due x hx;obtain ⟨q,hq,h2,_⟩:=inv.old.due y hy;obtain ⟨m,m1,m2,rfl⟩:=cI.1 hp;obtain ⟨n,n1,rfl⟩:=aY.1 hq;rw [List.length_drop] at n1;rw [sY] at h2
  have:=ok.crt.up m (i+n) (by omega) (by omega)
  omega
 have nd:((ds++c.due.drop k).map fun x=>x.1).Nodup:=VN (by
  show List.Pairwise _ _;rw [List.pairwise_append];exact ⟨d1,d2,cross⟩)
 have only:=KP (H:=a.heap) nd (by rw [List.length_map,List.length_append,List.length_drop,inv.cnt];exact Nat.le_refl _) (fun n hn=>by
  obtain ⟨x,hx,rfl⟩:=List.mem_map.1 hn;rcases List.mem_append.1 hx with hx|hx
  · obtain ⟨p,hp,h1,h2,h3⟩:=inv.new.due x hx
    exact ⟨_,h3,h1.symm⟩
  · obtain ⟨p,hp,h1,h2,h3⟩:=inv.old.due x hx
    exact ⟨_,h3,h1.symm⟩)
 intro e he hne;obtain ⟨x,hx,h1⟩:=List.mem_map.1 (only e he);rcases List.mem_append.1 hx with hx|hx
 · obtain ⟨p,hp,h2,_⟩:=inv.new.due x hx
   exact IG ok hp hi (by rw [<- h2,h1,hne])
 · obtain ⟨p,hp,h2,h3,_⟩:=inv.old.due x hx
   have hp':p∈c.certs.list:=List.mem_of_mem_drop hp
   have:=ok.crt_up.inj hp' (bH hi) (by rw [<- h2,h1,hne])
   rw [this,was] at h3;cases h3
def stP (c:aP) (f:List Pt) (i:Nat) (a:aI) (ds:List vD):=
 (c.certs.list,(c.certs.list.length:Int),(i:Int),c.now.1,c.now.2,c.field.points,c.certs.next_,c.certs.list,c.agenda.slots.uses,c.agenda.slots.used,c.agenda.slots.free,c.agenda.heap,c.agenda.where_,c.due,f,(0:Int),(0:Int),(0:Int),c.now.1,c.now.2,c.certs.next_,c.certs.list,a.slots.uses,a.slots.used,a.slots.free,a.heap,a.where_,f,ds)
def stR (c:aP) (f:List Pt) (i:Nat) (a:aI) (ds:List vD):=
 ((i:Int),c.now.1,c.now.2,c.field.points,c.certs.next_,c.certs.list,c.agenda.slots.uses,c.agenda.slots.used,c.agenda.slots.free,c.agenda.heap,c.agenda.where_,c.due,f,(0:Int),(0:Int),(0:Int),c.now.1,c.now.2,f,c.certs.next_,c.certs.list,a.slots.uses,a.slots.used,a.slots.free,a.heap,a.where_,ds)
include fok kn
theorem aDm {i k:Nat} {a:aI} {ds:List vD} (inv:OI c f i k a ds) (hi:i<c.certs.list.length) (hds:ds.length<=i):
 (dM (stP c f i a ds)=some (.done (.done (eA,18)))/\cK (stR c f i a ds)=some (.done (eA,18)))\/
 ∃k' a' ds',dM (stP c f i a ds)=some (.next (stP c f (i+1) a' ds'))/\cK (stR c f i a ds)=some (.next (stR c f (i+1) a' ds'))/\OI c f (i+1) k' a' ds'/\ds'.length<=i+1:=by
 have bd:=ok.bd;have e1:decide ((i:Int)<(c.certs.list.length:Int))=true:=aO (by omega)
 have sc:=aV (show i<1000000000 by omega)
 have cg:=aD c.certs.list i hi;have hb:=kn i hi;have wn:=zO fok (x:=(c.certs.list[i]!).2) (t:=(c.now.1,c.now.2)) (ok.crt.cv i hi) ok.nowv ok.now64;rw [if_pos hb] at wn;have wr:=zP fok (x:=(c.certs.list[i]!).2) (t:=(c.now.1,c.now.2)) ok.now64 hb;have pd:=QC ok.due_up (by omega) (c.certs.list[i]!).1
 have da:=VO c (c.certs.list[i]!).1 (by omega)
 have dr:=wL hi;have tk:=cP hi;have old:=inv.old;rw [dr] at old;have aeta:aI.mk (aT.mk a.slots.uses a.slots.used a.slots.free) a.heap a.where_=a:=rfl
 have ceta:(aP.mk (c.now.1,c.now.2) (Field.mk c.field.points) (aZ.mk c.certs.next_ c.certs.list) (aI.mk (aT.mk c.agenda.slots.uses c.agenda.slots.used c.agenda.slots.free) c.agenda.heap c.agenda.where_) c.due)=c:=rfl;have other: ∀x∈c.certs.list.take i,x.1≠(c.certs.list[i]!).1:=fun x hx=>IG ok hx hi
 have other': ∀x∈c.certs.list.drop (i+1),x.1≠(c.certs.list[i]!).1:=fun x hx=>IH ok hx hi
 cases hwas:(bK c.field.points (c.certs.list[i]!).2 c.now).2 with
 |true=>
  obtain ⟨d,ds',hd1,hd2,hd3,hd4⟩:=(aW.cons_true hwas).1 old;have hk:k<c.due.length:=by
   refine Classical.byContradiction fun h=>?_
   rw [List.drop_eq_nil_of_le (by omega)] at hd1
   cases hd1
  have dk:=wL hk;rw [dk] at hd1;injection hd1 with hd5 hd6;subst hd5 hd6;obtain ⟨w,hw,hev⟩:=aY.1 hd3;have hh:(a.heap[w]!).2.2.2=(c.due[k]!).2:=by rw [hev]
  have hnum:Ev.num a.heap[w]! =(c.certs.list[i]!).1:=by rw [hev]
  have before: ∀j,j<k->(c.due[j]!).1≠(c.certs.list[i]!).1:=fun j hj he=>by
   have:=wH.1 ok.due_up j k hj hk
   omega
  have pl:=pd.1 k hk hd2;have dq:=da.1 k hk hd2 before;have gk:=aD c.due k hk;have k0:decide ((0:Int)<=(k:Int))=true:=aO (by omega)
  have ap:bI ds [c.due[k]!]=some (ds++[c.due[k]!]):=bT (by simp;omega)
  cases his:(bK f (c.certs.list[i]!).2 c.now).2 with
  |true=>
   right;have tt:bQ (bK f (c.certs.list[i]!).2 c.now).1/\pR (bK f (c.certs.list[i]!).2 c.now).1:=NV (jA fok hb.2).1 (jA fok hb.1).1 ok.now64 ok.nowv his;obtain ⟨t1,t2⟩:=tt;have re:=K5 inv.ok inv.ok.fit (t:=(bK f (c.certs.list[i]!).2 c.now).1) hw hh t1 t2;have rr:=JT inv.ok (t:=(bK f (c.certs.list[i]!).2 c.now).1) hw hh t1 t2
   have rok:=aDg inv.ok hw t1 t2;have rmem:=aBb inv.ok hw t1;have rlen:=JS inv.ok hw t1;have stay: ∀(cs:List vD),(∀x∈cs,x.1≠(c.certs.list[i]!).1)-> ∀x∈cs,∀e:Ev,e.num=x.1->e∈a.heap->e∈(lL a w (bK f (c.certs.list[i]!).2 c.now).1).heap:=by
    intro cs hcs x hx e he hm;refine (rmem e).2 (.inr ⟨hm,fun h=>hcs x hx ?_⟩)
    rw [<- he,h,hnum]
   refine ⟨k+1,lL a w (bK f (c.certs.list[i]!).2 c.now).1,ds++[c.due[k]!],?_,?_,⟨rok,by rw [rlen.2];exact inv.w2,?_,?_,by omega,?_⟩,by simp;omega⟩
   · unfold dM stP
     simp only [e1,cond_true,cg,aB,wn,pl,his,gk,aeta,re,ap,show ((0:Int) !=0)=false from rfl,cond_false,sc]
   · unfold cK stR
     simp only [aF,e1,cond_true,cg,aB,ceta,dq,wr,his,k0,gk,aeta,rr,ap,Bool.not_true,cond_false,sc]
   · rw [tk]
     exact ((inv.new.mono (stay _ other)).snoc (x:=c.certs.list[i]!)).2 _ his hd2 ((rmem _).2 (.inl (by
      show _=((bK f (c.certs.list[i]!).2 c.now).1.1,(bK f (c.certs.list[i]!).2 c.now).1.2,(a.heap[w]!).2.2);rw [hev])))
   · exact hd4.mono (stay _ other')
   · rw [rlen.1,inv.cnt,List.length_append]
     simp only [List.length_cons,List.length_nil];omega
  |false=>
   right;have rv:=AS inv.ok hw inv.ok.fit hh;have rr:=AT inv.ok hw hh;have rok:=JU inv.ok hw;have rmem:=OC inv.ok hw;have rlen:=aO9 inv.ok hw;have stay: ∀(cs:List vD),(∀x∈cs,x.1≠(c.certs.list[i]!).1)-> ∀x∈cs,∀e:Ev,e.num=x.1->e∈a.heap->e∈(eO a w).heap:=by
    intro cs hcs x hx e he hm;refine (rmem e).2 ⟨hm,fun h=>hcs x hx ?_⟩
    rw [<- he,h,hnum]
   refine ⟨k+1,eO a w,ds,?_,?_,⟨rok,by rw [rlen.2];exact inv.w2,?_,hd4.mono (stay _ other'),by omega,?_⟩,by omega⟩
   · unfold dM stP
     simp only [e1,cond_true,cg,aB,wn,pl,his,gk,aeta,rv,show ((0:Int) !=0)=false from rfl,cond_false,sc]
   · unfold cK stR
     simp only [aF,e1,cond_true,cg,aB,ceta,dq,wr,his,k0,gk,aeta,rr,Bool.not_false,cond_false,sc]
   · rw [tk]
     exact ((inv.new.mono (stay _ other)).snoc (x:=c.certs.list[i]!)).1 his
   · have:=inv.cnt
     rw [rlen.1];omega
 |false=>
  have fol:=(aW.cons_false hwas).1 old;have no: ∀j,j<c.due.length->(c.due[j]!).1≠(c.certs.list[i]!).1:=by
   intro j hj he;obtain ⟨x,hx,h1,h2,_⟩:=ok.fol.due _ (bH hj)
   have:=ok.crt_up.inj hx (bH hi) (by rw [<- h1,he])
   rw [this,hwas] at h2;cases h2
  obtain ⟨m,pl⟩:=pd.2 no;have dq:=da.2 no;have k0:decide ((0:Int)<= -1)=false:=aJ (by omega)
  cases his:(bK f (c.certs.list[i]!).2 c.now).2 with
  |true=>
   have tt:bQ (bK f (c.certs.list[i]!).2 c.now).1/\pR (bK f (c.certs.list[i]!).2 c.now).1:=NV (jA fok hb.2).1 (jA fok hb.1).1 ok.now64 ok.nowv his;obtain ⟨t1,t2⟩:=tt;have n0:=(ok.crt.nr i hi).1;have n1:(c.certs.list[i]!).1<=1000000:=by have:=(ok.crt.nr i hi).2;have:=ok.crt.n1;omega
   have fresh:=aBc ok inv hi hwas
   by_cases op:CR a.slots
   · right
     have pu:=AP inv.ok op inv.ok.fit (t:=(bK f (c.certs.list[i]!).2 c.now).1) (n:=(c.certs.list[i]!).1) t1 t2 n0 n1 fresh;have rp:=CS inv.ok op (t:=(bK f (c.certs.list[i]!).2 c.now).1) (n:=(c.certs.list[i]!).1) t1 t2 n0 n1;have pok:=aAa inv.ok op (t:=(bK f (c.certs.list[i]!).2 c.now).1) (n:=(c.certs.list[i]!).1) t1 t2 n0 n1 fresh
     have pmem:=VE inv.ok op (t:=(bK f (c.certs.list[i]!).2 c.now).1) (n:=(c.certs.list[i]!).1) t1;have plen:=IB inv.ok op (t:=(bK f (c.certs.list[i]!).2 c.now).1) (n:=(c.certs.list[i]!).1) t1;have ap: ∀h:Int×Int,bI ds [((c.certs.list[i]!).1,h)]=some (ds++[((c.certs.list[i]!).1,h)]):=fun h=>bT (by simp;omega)
     have opn:=uA inv.ok.so;rw [aO op] at opn;refine ⟨k,mR a (bK f (c.certs.list[i]!).2 c.now).1 (c.certs.list[i]!).1,ds++[((c.certs.list[i]!).1,mQ a.slots)],?_,?_,⟨pok,by rw [aJo inv.ok pok];exact inv.w2,?_,?_,inv.kl,?_⟩,by simp;omega⟩
     · unfold dM stP
       simp only [e1,cond_true,cg,aB,wn,pl,his,aeta,pu,ap,show ((0:Int) !=0)=false from rfl,cond_false,sc]
     · unfold cK stR
       simp only [aF,e1,cond_true,cg,aB,ceta,dq,wr,his,k0,aeta,rp,ap,Bool.not_true,cond_false,sc,opn]
     · rw [tk]
       exact ((inv.new.mono fun x hx e he hm=>(pmem e).2 (.inr hm)).snoc (x:=c.certs.list[i]!)).2 _ his rfl ((pmem _).2 (.inl rfl))
     · exact fol.mono fun x hx e he hm=>(pmem e).2 (.inr hm)
     · have:=inv.cnt
       rw [plen,List.length_append];simp only [List.length_cons,List.length_nil];omega
   · left
     have pu:=AQ inv.ok op inv.ok.fit (t:=(bK f (c.certs.list[i]!).2 c.now).1) (n:=(c.certs.list[i]!).1) t1 t2 n0 n1 fresh;have ap: ∀h:Int×Int,bI ds [((c.certs.list[i]!).1,h)]=some (ds++[((c.certs.list[i]!).1,h)]):=fun h=>bT (by simp;omega)
     have opn:=uA inv.ok.so;rw [aJ op] at opn;constructor
     · unfold dM stP
       simp only [e1,cond_true,cg,aB,wn,pl,his,aeta,pu,ap,show ((18:Int) !=0)=true from rfl,cond_false]
     · unfold cK stR
       simp only [aF,e1,cond_true,cg,aB,ceta,dq,wr,his,k0,aeta,Bool.not_true,Bool.not_false,cond_false,opn]
  |false=>
   right;refine ⟨k,a,ds,?_,?_,⟨inv.ok,inv.w2,?_,fol,inv.kl,inv.cnt⟩,by omega⟩
   · unfold dM stP
     simp only [e1,cond_true,cg,aB,wn,pl,his,show ((0:Int) !=0)=false from rfl,cond_false,sc]
   · unfold cK stR
     simp only [aF,e1,cond_true,cg,aB,ceta,dq,wr,his,k0,Bool.not_false,cond_false,sc]
   · rw [tk]
     exact (inv.new.snoc (x:=c.certs.list[i]!)).1 his
theorem aRo:
 (qJ c ⟨f⟩=some (eA,18)/\pE c ⟨f⟩=some (eA,18))\/
 ∃c':aP,qJ c ⟨f⟩=some (c',0)/\pE c ⟨f⟩=some (c',0)/\bG c'/\c'.field.points=f/\c'.now=c.now/\c'.certs=c.certs:=by
 have bd:=ok.bd;have f64:=fok.1;have run: ∀(d i k:Nat) (a:aI) (ds:List vD),c.certs.list.length-i<=d->i<=c.certs.list.length->OI c f i k a ds->ds.length<=i->
  (aG dM (stP c f i a ds)=some (.done (eA,18))/\aG cK (stR c f i a ds)=some (eA,18))\/
  ∃c':aP,aG dM (stP c f i a ds)=some (.done (c',0))/\aG cK (stR c f i a ds)=some (c',0)/\bG c'/\c'.field.points=f/\c'.now=c.now/\c'.certs=c.certs:=by
  have fin: ∀(k:Nat) (a:aI) (ds:List vD),OI c f c.certs.list.length k a ds-> ∃c':aP,aG dM (stP c f c.certs.list.length a ds)=some (.done (c',0))/\aG cK (stR c f c.certs.list.length a ds)=some (c',0)/\bG c'/\c'.field.points=f/\c'.now=c.now/\c'.certs=c.certs:=by
   intro k a ds inv;have e1:decide ((c.certs.list.length:Int)<(c.certs.list.length:Int))=false:=aJ (by omega)
   have hk:c.due.length-k=0:=by
    have:=inv.old
    rw [List.drop_length] at this
    have:c.due.drop k=[]:=this
    rw [List.drop_eq_nil_iff] at this;omega
   have new:=inv.new;rw [List.take_length] at new;refine ⟨⟨c.now,⟨f⟩,c.certs,a,ds⟩,aK ?_,aK ?_,⟨ok.nowv,ok.now64,fok,ok.crt,inv.ok,inv.w2,?_,kn,new⟩,rfl,rfl,rfl⟩
   · unfold dM stP
     simp only [e1,cond_false]
   · unfold cK stR
     simp only [aF,e1,cond_false]
   · have:=inv.cnt
     show a.heap.length=ds.length;omega
  intro d
  induction d with
  |zero=>
   intro i k a ds hd hi inv hds
   have:i=c.certs.list.length:=by omega
   subst this;exact .inr (fin k a ds inv)
  |succ d ih=>
   intro i k a ds hd hi inv hds
   by_cases he:i=c.certs.list.length
   · subst he;exact .inr (fin k a ds inv)
   rcases aDm ok fok kn inv (by omega) hds with ⟨h1,h2⟩|⟨k',a',ds',h1,h2,h3,h4⟩
   · exact .inl ⟨aK h1,aK h2⟩
   · rw [bC h1,bC h2]
     exact ih (i+1) k' a' ds' (by omega) (by omega) h3 h4
 have start:=run c.certs.list.length 0 0 c.agenda [] (by omega) (by omega) ⟨ok.agd,ok.w200,rfl,by rw [List.drop_zero,List.drop_zero];exact ok.fol,by omega,by have:=ok.hd;simp;omega⟩ (by simp)
 have hc:gU c=some 0:=by rw [oH ok.fit,if_pos ok]
 have hf:dV ⟨f⟩=some 0:=by rw [gN];exact congrArg some (eD.2 fok)
 have tw:=nJ ok;have tw':kW (aP.mk (c.now.1,c.now.2) (Field.mk c.field.points) (aZ.mk c.certs.next_ c.certs.list) (aI.mk (aT.mk c.agenda.slots.uses c.agenda.slots.used c.agenda.slots.free) c.agenda.heap c.agenda.where_) c.due)=some c:=tw
 have first:aG lT (c.certs.list,(c.certs.list.length:Int),0,c.now.1,c.now.2,c.field.points,c.certs.next_,c.certs.list,c.agenda.slots.uses,c.agenda.slots.used,c.agenda.slots.free,c.agenda.heap,c.agenda.where_,c.due,f,0,0,0)=
  aG lT (c.certs.list,(c.certs.list.length:Int),(c.certs.list.length:Int),c.now.1,c.now.2,c.field.points,c.certs.next_,c.certs.list,c.agenda.slots.uses,c.agenda.slots.used,c.agenda.slots.free,c.agenda.heap,c.agenda.where_,c.due,f,0,0,0):=by
  refine bY (body:=lT) (fun i=>(c.certs.list,(c.certs.list.length:Int),(i:Int),c.now.1,c.now.2,c.field.points,c.certs.next_,c.certs.list,c.agenda.slots.uses,c.agenda.slots.used,c.agenda.slots.free,c.agenda.heap,c.agenda.where_,c.due,f,0,0,0)) c.certs.list.length (fun i hi=>?_)
  have e1:decide ((i:Int)<(c.certs.list.length:Int))=true:=aO (by omega)
  unfold lT;simp only [e1,cond_true,aD c.certs.list i hi,aB,oG fok,aJ (SC fok (kn i hi).1),aJ (SC fok (kn i hi).2),cond_false,aV (show i<1000000000 by omega)]
 have second: ∀r,aG dM (stP c f 0 c.agenda [])=some (.done r)->qJ c ⟨f⟩=some r:=by
  intro r hr;unfold qJ;simp only [hc,aB,show ((0:Int) !=0)=false from rfl,cond_false,hf,aF];rw [first]
  refine aK ?_;unfold lT;have e1:decide ((c.certs.list.length:Int)<(c.certs.list.length:Int))=false:=aJ (by omega)
  simp only [aF,e1,cond_false,tw',aB,bB (show f.length<=1048576 by omega)]
  exact hr
 have third: ∀r,aG cK (stR c f 0 c.agenda [])=some r->pE c ⟨f⟩=some r:=by
  intro r hr;unfold pE sS;simp only [jH ok,aB,bB (show f.length<=1048576 by omega)]
  exact hr
 rcases start with ⟨h1,h2⟩|⟨c',h1,h2,h3⟩
 · exact .inl ⟨second _ h1,third _ h2⟩
 · exact .inr ⟨c',second _ h1,third _ h2,h3⟩
end
theorem pH (l:List (Int×Int)) (x:Int×Int) (hl:l.length<=1000000):fW l x=some (decide (x∈l)):=by
 unfold fW rF;have key:=qM (body:=kL) (fun i=>(l,(l.length:Int),(i:Int),x)) l.length (fun i=>l[i]! =x) (fun i=>(i:Int)) (e:= -1) (fun i hi=>by
  have e1:decide ((i:Int)<(l.length:Int))=true:=aO (by omega)
  unfold kL;simp only [e1,cond_true,aD l i hi,aB,aV (show i<1000000000 by omega)]
  generalize l[i]! =y;constructor
  · intro h;rw [gC (congrArg Prod.fst h.symm),gC (congrArg Prod.snd h.symm)];rfl
  · intro h
    by_cases h1:x.1=y.1
    · rw [gC h1,eQ (fun h2=>h (Prod.ext h1.symm h2.symm))];rfl
    · rw [eQ h1];rfl) (by
  unfold kL
  have:decide ((l.length:Int)<(l.length:Int))=false:=aJ (by omega)
  simp only [this,cond_false])
 rw [aF]
 by_cases hx:x∈l
 · obtain ⟨i,hi,he⟩:=aY.1 hx
   obtain ⟨k,h1,h2,h3⟩:=KK (c:=fun i=>l[i]! =x) ⟨i,hi,he⟩
   have:=key.1 k h1 h2 h3
   rw [show ((0:Nat):Int)=0 from rfl] at this;rw [this,aO hx];simp only [aB,aO (show (0:Int)<=(k:Int) by omega)]
 · have:=key.2 fun i hi he=>hx (aY.2 ⟨i,hi,he⟩)
   rw [show ((0:Nat):Int)=0 from rfl] at this;rw [this,aJ hx];rfl
theorem KR (l:List (Int×Int)) (x:Int×Int) (hl:l.length<=1000000):NR l x=some (decide (x∈l)):=by
 unfold NR;have key:=dD (body:=yM) (fun i=>(l,(i:Int),x)) l.length (fun i=>l[i]! =x) (r:=true) (e:=false) (fun i hi=>by
  have e1:decide ((i:Int)<(l.length:Int))=true:=aO (by omega)
  unfold yM;simp only [aF,e1,cond_true,aD l i hi,aB,aV (show i<1000000000 by omega)]
  generalize l[i]! =y;constructor
  · intro h;rw [gC (congrArg Prod.fst h),gC (congrArg Prod.snd h)];rfl
  · intro h
    by_cases h1:y.1=x.1
    · rw [gC h1,eQ (fun h2=>h (Prod.ext h1 h2))];rfl
    · rw [eQ h1];rfl) (by
  unfold yM
  have:decide ((l.length:Int)<(l.length:Int))=false:=aJ (by omega)
  simp only [aF,this,cond_false])
 by_cases hx:x∈l
 · rw [aO hx];exact key.1 (aY.1 hx)
 · rw [aJ hx];exact key.2 fun i hi he=>hx (aY.2 ⟨i,hi,he⟩)
theorem aDn (x y:vD):((x.1==y.1)&&((x.2.1==y.2.1)&&(x.2.2==y.2.2)))=decide (x=y):=by
 rw [Bool.eq_iff_iff,decide_eq_true_iff];simp only [Bool.and_eq_true,beq_iff_eq];constructor
 · rintro ⟨h1,h2,h3⟩;exact Prod.ext h1 (Prod.ext h2 h3)
 · rintro rfl;exact ⟨rfl,rfl,rfl⟩
theorem DZ (a b:List vD) (hl:a.length<=1000000):lA ⟨a⟩ ⟨b⟩=some (decide (a=b)):=by
 unfold lA;simp only [aF]
 by_cases h:a.length=b.length
 case neg=>rw [dA (by omega),aJ (fun k=>h (by rw [k]))];rfl
 rw [bJ (by omega)]
 simp only [cond_false];have key:=dD (body:=tZ) (fun i=>((i:Int),a,b)) a.length (fun i=> ¬a[i]! =b[i]!) (r:=false) (e:=true) (fun i hi=>by
  have e1:decide ((i:Int)<(a.length:Int))=true:=aO (by omega)
  unfold tZ;simp only [aF,e1,cond_true,aD a i hi,aD b i (by omega),aB,aV (show i<1000000000 by omega),aDn]
  constructor
  · intro h;rw [aJ h];rfl
  · intro h;rw [aO (Classical.not_not.1 h)];rfl) (by
  unfold tZ
  have:decide ((a.length:Int)<(a.length:Int))=false:=aJ (by omega)
  simp only [aF,this,cond_false])
 by_cases he:a=b
 · rw [aO he]
   exact key.2 fun i hi=>Classical.not_not.2 (by rw [he])
 · rw [aJ he]
   refine key.1 (Classical.byContradiction fun hx=>he (rR h fun i hi=>?_))
   exact Classical.byContradiction fun hn=>hx ⟨i,hi,hn⟩
theorem II (a b:List vD) (hl:a.length<=1000000):mN a b=some (decide (a=b)):=by
 unfold mN;simp only [aF]
 by_cases h:a.length=b.length
 case neg=>rw [dA (by omega),aJ (fun k=>h (by rw [k]))];rfl
 rw [bJ (by omega)]
 simp only [cond_false];have key:=dD (body:=jT) (fun i=>(a,b,(a.length:Int),(i:Int))) a.length (fun i=> ¬a[i]! =b[i]!) (r:=false) (e:=true) (fun i hi=>by
  have e1:decide ((i:Int)<(a.length:Int))=true:=aO (by omega)
  unfold jT;simp only [e1,cond_true,aD a i hi,aD b i (by omega),aB,aV (show i<1000000000 by omega),aDn]
  constructor
  · intro h;rw [aJ h];rfl
  · intro h;rw [aO (Classical.not_not.1 h)];rfl) (by
  unfold jT
  have:decide ((a.length:Int)<(a.length:Int))=false:=aJ (by omega)
  simp only [this,cond_false])
 by_cases he:a=b
 · rw [aO he]
   exact key.2 fun i hi=>Classical.not_not.2 (by rw [he])
 · rw [aJ he]
   refine key.1 (Classical.byContradiction fun hx=>he (rR h fun i hi=>?_))
   exact Classical.byContradiction fun hn=>hx ⟨i,hi,hn⟩
theorem aBf {cs:List vD} {m:Nat} {x:vD} (hx:x∈cs) (hne:x.1≠(cs[m]!).1):x∈cs.eraseIdx m:=by
 obtain ⟨j,hj,rfl⟩:=aY.1 hx;have hjm:j≠m:=fun h=>hne (by rw [h])
 rw [xK,List.mem_append]
 by_cases h:j<m
 · exact .inl (cI.2 ⟨j,h,hj,rfl⟩)
 · right
   rw [aY];refine ⟨j- (m+1),by rw [List.length_drop];omega,?_⟩
   rw [sY]
   congr 1;omega
def kP (c0:aP) (f:List Pt) (es:List (Int×Int)) (i:Nat) (c:aP):=
 (es,c0.certs.list,(c0.certs.list.length:Int),(i:Int),c.now.1,c.now.2,c.field.points,c.certs.next_,c.certs.list,c.agenda.slots.uses,c.agenda.slots.used,c.agenda.slots.free,c.agenda.heap,c.agenda.where_,c.due,f,(0:Int),(0:Int),(0:Int))
def kR (c0:aP) (f:List Pt) (es:List (Int×Int)) (i:Nat) (c:aP):=
 (es,(i:Int),c0.now.1,c0.now.2,c0.field.points,c0.certs.next_,c0.certs.list,c0.agenda.slots.uses,c0.agenda.slots.used,c0.agenda.slots.free,c0.agenda.heap,c0.agenda.where_,c0.due,f,(0:Int),(0:Int),(0:Int),c.now.1,c.now.2,c.field.points,c.certs.next_,c.certs.list,c.agenda.slots.uses,c.agenda.slots.used,c.agenda.slots.free,c.agenda.heap,c.agenda.where_,c.due)
def eP (es:List (Int×Int)) (i:Nat) (c:aP):=
 (es,(es.length:Int),(i:Int),c.now.1,c.now.2,c.field.points,c.certs.next_,c.certs.list,c.agenda.slots.uses,c.agenda.slots.used,c.agenda.slots.free,c.agenda.heap,c.agenda.where_,c.due,(0:Int),(0:Int),(0:Int))
def eR (es:List (Int×Int)) (i:Nat) (c:aP):=
 (es,(i:Int),(0:Int),(0:Int),(0:Int),c.now.1,c.now.2,c.field.points,c.certs.next_,c.certs.list,c.agenda.slots.uses,c.agenda.slots.used,c.agenda.slots.free,c.agenda.heap,c.agenda.where_,c.due)
def IJ (c:aP):Int:=c.certs.next_- (c.certs.list.length:Int)
structure F0s (c:aP) (f:List Pt) (es:List (Int×Int)) (r:aP):Prop where
 has: ∀e∈es,xL r.certs.list e
 sub: ∀x∈r.certs.list,x.2∈es
 ok:bG r
 fld:r.field.points=f
 now:r.now=c.now
 room:IJ c<=IJ r
def KS (c:aP) (k:Nat):Prop:=c.certs.list.length<=k/\c.certs.next_<=k/\ ∀j,j<c.agenda.slots.uses.length->c.agenda.slots.uses[j]!<=k
theorem aW.len {l:List Pt} {t:Int×Int} {H:List Ev}: ∀{cs ds:List vD},aW l t H cs ds->ds.length<=cs.length
 | [],ds,h=>by rw [show ds=[] from h];exact Nat.le_refl _
 |x::cs,ds,h=>by
  cases hy:(bK l x.2 t).2 with
  |true=>
   obtain ⟨d,ds',rfl,_,_,h4⟩:=h.1 hy;exact Nat.succ_le_succ h4.len
  |false=>exact Nat.le_succ_of_le (h.2 hy).len
theorem KS.not_full {c:aP} (ok:bG c) {k:Nat} (h:KS c k) (hk:k<=199): ¬(IE c.certs\/ ¬CR c.agenda.slots):=by
 obtain ⟨h1,h2,h3⟩:=h;have fl:=ok.fol.len;have hd:=ok.hd;have hl:=ok.agd.hl;have wl:=ok.agd.wl;have w2:=ok.w200;rintro (h|h)
 · rcases h with h|h<;>omega
 · refine h ⟨by omega,?_⟩
   have:=h3 _ (ET ok.agd.so (by omega)).1
   omega
theorem KS.more {c c':aP} {k:Nat} (h:KS c k) {x:Int×Int} (hc:c'.certs=rT c.certs x) (hs:c'.agenda.slots=c.agenda.slots\/c'.agenda.slots=iE c.agenda.slots):KS c' (k+1):=by
 obtain ⟨h1,h2,h3⟩:=h;refine ⟨?_,?_,fun j hj=>?_⟩
 · rw [hc]
   show (c.certs.list++[(c.certs.next_,x)]).length<=_;rw [List.length_append,List.length_singleton];omega
 · rw [hc]
   show c.certs.next_+1<=_;omega
 · rcases hs with e|e
   · rw [e] at hj ⊢
     have:=h3 j hj;omega
   · rw [e] at hj ⊢
     change j<(c.agenda.slots.uses.set _ _).length at hj;rw [List.length_set] at hj;show (c.agenda.slots.uses.set (cY c.agenda.slots) (c.agenda.slots.uses[cY c.agenda.slots]!+1))[j]!<=_;rw [bF];split
     · rename_i h;have:=h3 _ h.2;omega
     · have:=h3 j hj;omega
structure IK (f:List Pt) (es:List (Int×Int)):Prop where
 len:es.length<=1000000
 cv: ∀x∈es,fY x
 kn: ∀x∈es,lD f x
theorem aDo {c0:aP} (ok0:bG c0) {f:List Pt} {es:List (Int×Int)} (eok:IK f es):
 ∀(d i:Nat) (c:aP),c0.certs.list.length-i<=d->i<=c0.certs.list.length->bG c->(∀x∈c0.certs.list.drop i,x∈c.certs.list)->(∀x∈c.certs.list,x∈c0.certs.list.drop i\/x.2∈es)->
  ∃c':aP,aG dN (kP c0 f es i c)=aG dN (kP c0 f es c0.certs.list.length c')/\aG cL (kR c0 f es i c)=aG cL (kR c0 f es c0.certs.list.length c')/\bG c'/\(∀x∈c'.certs.list,x.2∈es)/\c'.field=c.field/\c'.now=c.now/\IJ c<=IJ c':=by
 have bd:=ok0.bd;intro d
 induction d with
 |zero=>
  intro i c hd hi ok h1 h2
  have:i=c0.certs.list.length:=by omega
  subst this;refine ⟨c,rfl,rfl,ok,fun x hx=>?_,rfl,rfl,Int.le_refl _⟩
  rcases h2 x hx with h|h
  · rw [List.drop_length] at h;cases h
  · exact h
 |succ d ih=>
  intro i c hd hi ok h1 h2
  by_cases he:i=c0.certs.list.length
  · subst he
    refine ⟨c,rfl,rfl,ok,fun x hx=>?_,rfl,rfl,Int.le_refl _⟩
    rcases h2 x hx with h|h
    · rw [List.drop_length] at h;cases h
    · exact h
  have hi':i<c0.certs.list.length:=by omega
  have e1:decide ((i:Int)<(c0.certs.list.length:Int))=true:=aO (by omega)
  have sc:=aV (show i<1000000000 by omega)
  have cg:=aD c0.certs.list i hi';have dr:=wL hi';have ceta:(aP.mk (c.now.1,c.now.2) (Field.mk c.field.points) (aZ.mk c.certs.next_ c.certs.list) (aI.mk (aT.mk c.agenda.slots.uses c.agenda.slots.used c.agenda.slots.free) c.agenda.heap c.agenda.where_) c.due)=c:=rfl
  by_cases hin:(c0.certs.list[i]!).2∈es
  · have s1:dN (kP c0 f es i c)=some (.next (kP c0 f es (i+1) c)):=by
     unfold dN kP;simp only [e1,cond_true,cg,aB,pH _ _ eok.len,aO hin,Bool.not_true,cond_false,sc]
    have s2:cL (kR c0 f es i c)=some (.next (kR c0 f es (i+1) c)):=by
     unfold cL kR;simp only [aF,e1,cond_true,cg,aB,KR _ _ eok.len,aO hin,Bool.not_true,cond_false,sc]
    rw [bC s1,bC s2];refine ih (i+1) c (by omega) (by omega) ok (fun x hx=>h1 x (by rw [dr];exact List.mem_cons_of_mem _ hx)) (fun x hx=>?_)
    rcases h2 x hx with h|h
    · rw [dr] at h
      rcases List.mem_cons.1 h with rfl|h
      · exact .inr hin
      · exact .inl h
    · exact .inr h
  · have hm:=h1 (c0.certs.list[i]!) (by rw [dr];exact List.mem_cons_self)
    obtain ⟨m,hm1,hm2⟩:=aY.1 hm;obtain ⟨c',r1,r2,r3,r4,r5,r6⟩:=aO8 ok hm1;have rt:=K6 ok hm1 r1;rw [hm2] at r2 rt;have s1:dN (kP c0 f es i c)=some (.next (kP c0 f es (i+1) c')):=by
     unfold dN kP;simp only [e1,cond_true,cg,aB,pH _ _ eok.len,aJ hin,Bool.not_false,sc,ceta,rt]
    have s2:cL (kR c0 f es i c)=some (.next (kR c0 f es (i+1) c')):=by
     unfold cL kR;simp only [aF,e1,cond_true,cg,aB,KR _ _ eok.len,aJ hin,Bool.not_false,sc,ceta,r2]
    rw [bC s1,bC s2];have cl:c'.certs.list=c.certs.list.eraseIdx m:=by rw [r6];rfl
    have hroom:IJ c<=IJ c':=by
     unfold IJ;rw [r6];show _<=c.certs.next_- (((c.certs.list.eraseIdx m).length:Nat):Int);rw [List.length_eraseIdx_of_lt hm1];omega
    have hs:(∀x∈c0.certs.list.drop (i+1),x∈c'.certs.list)/\(∀x∈c'.certs.list,x∈c0.certs.list.drop (i+1)\/x.2∈es):=by
     refine ⟨fun x hx=>?_,fun x hx=>?_⟩
     · rw [cl]
       refine aBf (h1 x (by rw [dr];exact List.mem_cons_of_mem _ hx)) ?_
       rw [hm2];exact IH ok0 hx hi'
     · rw [cl] at hx
       obtain ⟨a1,a2⟩:=B9 ok.crt_up hm1 hx;rw [hm2] at a2;rcases h2 x a1 with h|h
       · rw [dr] at h
         rcases List.mem_cons.1 h with rfl|h
         · exact absurd rfl a2
         · exact .inl h
       · exact .inr h
    obtain ⟨d',q1,q2,q3,q4,q5,q6,q7⟩:=ih (i+1) c' (by omega) (by omega) r3 hs.1 hs.2
    exact ⟨d',q1,q2,q3,q4,q5.trans r4,q6.trans r5,by omega⟩
theorem OJ {f:List Pt} (_fok:bD f) {es:List (Int×Int)} (eok:IK f es):
 ∀(d i:Nat) (c:aP),es.length-i<=d->i<=es.length->bG c->c.field.points=f->(∀x∈c.certs.list,x.2∈es)->(∀j,j<i->xL c.certs.list es[j]!)->
  ∃r:aP×Int,aG fG (eP es i c)=some (.done r)/\aG eB (eR es i c)=some (.done r)/\(r.2=0/\F0s c f es r.1\/r=(eA,18))/\(∀k,KS c k->k+(es.length-i)<=199->r.2=0):=by
 have el:=eok.len;have fin: ∀c:aP,bG c->c.field.points=f->(∀x∈c.certs.list,x.2∈es)->(∀j,j<es.length->xL c.certs.list es[j]!)-> ∃r:aP×Int,aG fG (eP es es.length c)=some (.done r)/\aG eB (eR es es.length c)=some (.done r)/\(r.2=0/\F0s c f es r.1\/r=(eA,18))/\r.2=0:=by
  intro c ok hf hs hh;have e1:decide ((es.length:Int)<(es.length:Int))=false:=aJ (by omega)
  refine ⟨(c,0),aK ?_,aK ?_,.inl ⟨rfl,fun e he=>by obtain ⟨j,hj,q⟩:=aY.1 he;rw [<- q];exact hh j hj,hs,ok,hf,rfl,Int.le_refl _⟩,rfl⟩
  · unfold fG eP
    simp only [e1,cond_false]
  · unfold eB eR
    simp only [aF,e1,cond_false]
 intro d
 induction d with
 |zero=>
  intro i c hd hi ok hf hs hh
  have:i=es.length:=by omega
  subst this;obtain ⟨r,q1,q2,q3,q4⟩:=fin c ok hf hs hh;exact ⟨r,q1,q2,q3,fun _ _ _=>q4⟩
 |succ d ih=>
  intro i c hd hi ok hf hs hh
  by_cases he:i=es.length
  · subst he
    obtain ⟨r,q1,q2,q3,q4⟩:=fin c ok hf hs hh;exact ⟨r,q1,q2,q3,fun _ _ _=>q4⟩
  have bd:=ok.bd;have hi':i<es.length:=by omega
  have e1:decide ((i:Int)<(es.length:Int))=true:=aO (by omega)
  have sc:=aV (show i<1000000000 by omega)
  have cg:=aD es i hi';have ceta:(aP.mk (c.now.1,c.now.2) (Field.mk c.field.points) (aZ.mk c.certs.next_ c.certs.list) (aI.mk (aT.mk c.agenda.slots.uses c.agenda.slots.used c.agenda.slots.free) c.agenda.heap c.agenda.where_) c.due)=c:=rfl;have ceta2:aZ.mk c.certs.next_ c.certs.list=c.certs:=rfl;have hc:=VI c.certs.list es[i]! (by omega)
  have hr:=B8 c.certs es[i]! (by omega)
  by_cases hin:xL c.certs.list es[i]!
  · have s1:fG (eP es i c)=some (.next (eP es (i+1) c)):=by
     unfold fG eP;simp only [e1,cond_true,cg,aB,JW,hc,aO hin,sc]
    have s2:eB (eR es i c)=some (.next (eR es (i+1) c)):=by
     unfold eB eR;simp only [aF,e1,cond_true,cg,aB,ceta2,hr,aO hin,sc]
    rw [bC s1,bC s2];obtain ⟨r,q1,q2,q3,q4⟩:=ih (i+1) c (by omega) (by omega) ok hf hs (fun j hj=>if q:j=i then by rw [q];exact hin else hh j (by omega))
    exact ⟨r,q1,q2,q3,fun k hk hl=>q4 k hk (by omega)⟩
  · have hb:lD c.field.points es[i]!:=by rw [hf];exact eok.kn _ (bH hi')
    rcases aJn ok (eok.cv _ (bH hi')) hb hin with ⟨r1,r2,full⟩|⟨c',r1,r2,r3,r4,r5,r6,r7⟩
    · refine ⟨(eA,18),aK ?_,aK ?_,.inr rfl,fun k hk hl=>absurd full (hk.not_full ok (by omega))⟩
      · unfold fG eP
        simp only [e1,cond_true,cg,aB,JW,hc,aJ hin,cond_false,ceta,r1,show ((18:Int) !=0)=true from rfl]
      · unfold eB eR
        simp only [aF,e1,cond_true,cg,aB,ceta2,hr,aJ hin,cond_false,ceta,r2,show ((18:Int) !=0)=true from rfl]
    · have s1:fG (eP es i c)=some (.next (eP es (i+1) c')):=by
       unfold fG eP;simp only [e1,cond_true,cg,aB,JW,hc,aJ hin,cond_false,ceta,r1,show ((0:Int) !=0)=false from rfl,sc]
      have s2:eB (eR es i c)=some (.next (eR es (i+1) c')):=by
       unfold eB eR;simp only [aF,e1,cond_true,cg,aB,ceta2,hr,aJ hin,cond_false,ceta,r2,show ((0:Int) !=0)=false from rfl,sc]
      rw [bC s1,bC s2];obtain ⟨r,q1,q2,q3,q6⟩:=ih (i+1) c' (by omega) (by omega) r3 (by rw [r4,hf]) (fun x hx=>by
       rw [r6] at hx;rcases List.mem_append.1 (show x∈c.certs.list++[(c.certs.next_,es[i]!)] from hx) with h|h
       · exact hs x h
       · rw [List.mem_singleton.1 h];exact bH hi') (fun j hj=>by
       rw [r6];show xL (c.certs.list++[(c.certs.next_,es[i]!)]) _
       by_cases q:j=i
       · rw [q];exact ⟨c.certs.list.length,by rw [List.length_append,List.length_singleton];omega,by rw [lZ (Nat.le_refl _),Nat.sub_self];rfl⟩
       · obtain ⟨w,w1,w2⟩:=hh j (by omega)
         exact ⟨w,by rw [List.length_append];omega,by rw [lB w1];exact w2⟩)
      refine ⟨r,q1,q2,q3.imp (fun ⟨q4,q5⟩=>⟨q4,q5.has,q5.sub,q5.ok,q5.fld,q5.now.trans r5,Int.le_trans ?_ q5.room⟩) id,fun k hk hl=>q6 (k+1) (hk.more r6 r7) (by omega)⟩
      unfold IJ;rw [r6];show _<=(c.certs.next_+1) - (((c.certs.list++[(c.certs.next_,es[i]!)]).length:Nat):Int);rw [List.length_append,List.length_singleton];omega
theorem aJp {c:aP} (ok:bG c) {f:List Pt} (fok:bD f) {es:List (Int×Int)} (eok:IK f es):
 ∃r:aP×Int,nY c ⟨f⟩ es=some r/\jG c ⟨f⟩ es=some r/\(r.2=0/\F0s c f es r.1\/r=(eA,18)):=by
 have f64:=fok.1;obtain ⟨c',g1,g2,g3,g4,g5,g6,g7⟩:=aDo ok eok c.certs.list.length 0 c (by omega) (by omega) ok (fun x hx=>by rwa [List.drop_zero] at hx) (fun x hx=> .inl (by rwa [List.drop_zero]))
 have bd:=g3.bd;have e1:decide ((c.certs.list.length:Int)<(c.certs.list.length:Int))=false:=aJ (by omega)
 have start1:nY c ⟨f⟩ es=aG dN (kP c f es 0 c):=rfl;have start2:jG c ⟨f⟩ es=aG cL (kR c f es 0 c):=by
  unfold jG;simp only [jH ok,aB];rfl
 rw [start1,start2,g1,g2];have eq1:=II c'.field.points f (by omega)
 have eq2:=DZ c'.field.points f (by omega)
 have ceta:(aP.mk (c'.now.1,c'.now.2) (Field.mk c'.field.points) (aZ.mk c'.certs.next_ c'.certs.list) (aI.mk (aT.mk c'.agenda.slots.uses c'.agenda.slots.used c'.agenda.slots.free) c'.agenda.heap c'.agenda.where_) c'.due)=c':=rfl
 by_cases hf:c'.field.points=f
 · obtain ⟨r,i1,i2,i3,_⟩:=OJ fok eok es.length 0 c' (by omega) (by omega) g3 hf g4 (fun j hj=>absurd hj (Nat.not_lt_zero j))
   refine ⟨r,aK ?_,aK ?_,i3.imp (fun ⟨q4,q5⟩=>⟨q4,q5.has,q5.sub,q5.ok,q5.fld,q5.now.trans g6,Int.le_trans g7 q5.room⟩) id⟩
   · unfold dN kP
     simp only [e1,cond_false,eq1,aO hf,aB,Bool.not_true];exact i1
   · unfold cL kR
     simp only [aF,e1,cond_false,eq2,aO hf,aB,Bool.not_true];exact i2
 · have kn: ∀i,i<c'.certs.list.length->lD f (c'.certs.list[i]!).2:=fun i hi=>eok.kn _ (g4 _ (bH hi))
   rcases aRo g3 fok kn with ⟨a1,a2⟩|⟨c2,a1,a2,a3,a4,a5,a6⟩
   · refine ⟨(eA,18),aK ?_,aK ?_,.inr rfl⟩
     · unfold dN kP
       simp only [e1,cond_false,eq1,aJ hf,aB,Bool.not_false,cond_true,ceta,a1,show ((18:Int) !=0)=true from rfl]
     · unfold cL kR
       simp only [aF,e1,cond_false,eq2,aJ hf,aB,Bool.not_false,cond_true,ceta,a2,show ((18:Int) !=0)=true from rfl]
   · obtain ⟨r,i1,i2,i3,_⟩:=OJ fok eok es.length 0 c2 (by omega) (by omega) a3 a4 (by rw [a6];exact g4) (fun j hj=>absurd hj (Nat.not_lt_zero j))
     refine ⟨r,aK ?_,aK ?_,i3.imp (fun ⟨q4,q5⟩=>⟨q4,q5.has,q5.sub,q5.ok,q5.fld,(q5.now.trans a5).trans g6,Int.le_trans (Int.le_trans g7 (by unfold IJ;rw [a6];exact Int.le_refl _)) q5.room⟩) id⟩
     · unfold dN kP
       simp only [e1,cond_false,eq1,aJ hf,aB,Bool.not_false,cond_true,ceta,a1,show ((0:Int) !=0)=false from rfl];exact i1
     · unfold cL kR
       simp only [aF,e1,cond_false,eq2,aJ hf,aB,Bool.not_false,cond_true,ceta,a2,show ((0:Int) !=0)=false from rfl];exact i2
theorem VP {c:aP} (ok:bG c) (h0:c.certs.list=[]) {es:List (Int×Int)} (eok:IK c.field.points es) (hr:KS c 0) (hl:es.length<=199):
 ∃r:aP,nY c c.field es=some (r,0)/\jG c c.field es=some (r,0)/\F0s c c.field.points es r:=by
 have bd:=ok.bd;have l0:c.certs.list.length=0:=by rw [h0];rfl
 have e1:decide (((0:Nat):Int)<(c.certs.list.length:Int))=false:=aJ (by omega)
 have start1:nY c c.field es=aG dN (kP c c.field.points es 0 c):=rfl;have start2:jG c c.field es=aG cL (kR c c.field.points es 0 c):=by
  unfold jG;simp only [jH ok,aB];rfl
 obtain ⟨r,i1,i2,i3,i4⟩:=OJ ok.fld eok es.length 0 c (by omega) (by omega) ok rfl (fun x hx=>by rw [h0] at hx;cases hx) (fun j hj=>absurd hj (Nat.not_lt_zero j))
 have r0:=i4 0 hr (by omega)
 have e:r=(r.1,0):=by rw [<- r0]
 rw [e] at i1 i2;refine ⟨r.1,?_,?_,?_⟩
 · rw [start1]
   refine aK ?_;unfold dN kP;simp only [e1,cond_false,II c.field.points c.field.points (by omega),aB,Bool.not_true]
   exact i1
 · rw [start2]
   refine aK ?_;unfold cL kR;simp only [aF,e1,cond_false,DZ c.field.points c.field.points (by omega),aB,Bool.not_true]
   exact i2
 · rcases i3 with ⟨_,h⟩|h
   · exact h
   · rw [h] at r0;cases r0
theorem OK {α:Type} [Inhabited α] {l:List α}:l.Nodup↔ ∀k,k<l.length->l[k]!∉l.take k:=by
 rw [fC];constructor
 · intro h k hk hm
   obtain ⟨i,h1,h2,h3⟩:=cI.1 hm;exact h i k h1 hk h3
 · intro h i j hij hj he
   exact h j hj (cI.2 ⟨i,hij,by omega,he⟩)
theorem IL {α:Type} [Inhabited α] {l:List α} {P:α->Prop}:(∀x∈l,P x)↔ ∀i,i<l.length->P l[i]!:=by
 constructor
 · intro h i hi;exact h _ (bH hi)
 · intro h x hx
   obtain ⟨i,hi,rfl⟩:=aY.1 hx;exact h i hi
theorem J1 {σ ρ:Type} {body:σ->Option (bW σ ρ)} (st:Nat->σ) (n:Nat) (P:Nat->Prop) {r e:ρ} (h: ∀i,i<n->(¬P i->body (st i)=some (.done r))/\(P i->body (st i)=some (.next (st (i+1)))))
 (hend:body (st n)=some (.done e)):aG body (st 0)=some (if∀i,i<n->P i then e else r):=by
 have key:=dD (body:=body) st n (fun i=> ¬P i) (r:=r) (e:=e) (fun i hi=>⟨(h i hi).1,fun hn=>(h i hi).2 (Classical.not_not.1 hn)⟩) hend
 by_cases hx: ∀i,i<n->P i
 · rw [if_pos hx];exact key.2 fun i hi=>Classical.not_not.2 (hx i hi)
 · rw [if_neg hx]
   obtain ⟨i,h⟩:=Classical.not_forall.1 hx;obtain ⟨hi,hx⟩:=Classical.not_imp.1 h;exact key.1 ⟨i,hi,hx⟩
theorem FT {f:List Pt} (fok:bD f) (id:Int): ∃p e,wY ⟨f⟩ id=some (p,e)/\(e=0↔mS f id):=by
 have h1:=fok.1;have hc:dV ⟨f⟩=some 0:=by rw [gN];exact congrArg some (eD.2 fok)
 have bs:=yR f id (by omega) (fun i j=>gS fok.2.2)
 unfold wY kM kV;rw [ID];simp only [hc,aB,show ((0:Int) !=0)=false from rfl,cond_false]
 by_cases h:mS f id
 · obtain ⟨k,hk,he⟩:=h
   rw [bs.1 k hk he];refine ⟨f[k]!,0,?_,fun _=>⟨k,hk,he⟩,fun _=>rfl⟩
   simp only [aB,Bool.not_true,cond_false,show ((0:Int) !=0)=false from rfl,aD f k hk]
 · obtain ⟨m,_,_,_,e⟩:=bs.2 (fun k hk he=>h ⟨k,hk,he⟩)
   rw [e];exact ⟨(0,0,0),6,rfl,fun h=>(by cases h),fun k=>absurd k h⟩
structure aKf (c:aP):Prop where
 f:c.field.points.length<=1000000
 l:c.certs.list.length<=1000000
 d:c.due.length<=1000000
 h:c.agenda.heap.length<=1000000
 w:c.agenda.where_.length<=1000000
 s1:c.agenda.slots.uses.length<=1000000
 s2:c.agenda.slots.used.length<=1000000
 s3:c.agenda.slots.free.length<=1000000
structure aDp (c:aP):Prop where
 now:pR c.now
 at64: ∀w,w<c.agenda.heap.length->pR ((c.agenda.heap[w]!).1,(c.agenda.heap[w]!).2.1)
theorem VQ (f:Field):uP f=some true\/(uP f=some false/\f.points.length<=70):=by
 unfold uP
 simp only [aF]
 by_cases h1:16<f.points.length
 · rw [aO (show (16:Int)<(f.points.length:Int) by omega)]
   by_cases h2:f.points.length<64
   · rw [aO (show (f.points.length:Int)<64 by omega)];exact .inl rfl
   · rw [aJ (show¬(f.points.length:Int)<64 by omega)]
     by_cases h3:70<f.points.length
     · rw [aO (show (70:Int)<(f.points.length:Int) by omega)];exact .inl rfl
     · rw [aJ (show¬(70:Int)<(f.points.length:Int) by omega)];exact .inr ⟨rfl,by omega⟩
 · rw [aJ (show¬(16:Int)<(f.points.length:Int) by omega),aJ (show¬(70:Int)<(f.points.length:Int) by omega)]
   exact .inr ⟨rfl,by omega⟩
theorem VS (c:aP):uQ c=some true\/(uQ c=some false/\aKf c):=by
 unfold uQ DO DN
 simp only [aF]
 by_cases h1:40<c.certs.list.length
 · rw [aO (show (40:Int)<(c.certs.list.length:Int) by omega)];exact .inl rfl
 rw [aJ (show¬(40:Int)<(c.certs.list.length:Int) by omega)]
 by_cases h2:40<c.due.length
 · rw [aO (show (40:Int)<(c.due.length:Int) by omega)];exact .inl rfl
 rw [aJ (show¬(40:Int)<(c.due.length:Int) by omega)]
 rcases VQ c.field with e|⟨e,hf⟩
 · rw [e];exact .inl rfl
 rw [e];simp only [cond_false,aB]
 by_cases a1:210<c.agenda.slots.uses.length
 · rw [aO (show (210:Int)<(c.agenda.slots.uses.length:Int) by omega)];exact .inl rfl
 rw [aJ (show¬(210:Int)<(c.agenda.slots.uses.length:Int) by omega)]
 by_cases a2:210<c.agenda.slots.used.length
 · rw [aO (show (210:Int)<(c.agenda.slots.used.length:Int) by omega)];exact .inl rfl
 rw [aJ (show¬(210:Int)<(c.agenda.slots.used.length:Int) by omega)]
 by_cases a3:210<c.agenda.slots.free.length
 · rw [aO (show (210:Int)<(c.agenda.slots.free.length:Int) by omega)];exact .inl rfl
 rw [aJ (show¬(210:Int)<(c.agenda.slots.free.length:Int) by omega)]
 by_cases a4:210<c.agenda.heap.length
 · rw [aO (show (210:Int)<(c.agenda.heap.length:Int) by omega)];exact .inl rfl
 rw [aJ (show¬(210:Int)<(c.agenda.heap.length:Int) by omega)]
 by_cases a5:210<c.agenda.where_.length
 · rw [aO (show (210:Int)<(c.agenda.where_.length:Int) by omega)];exact .inl rfl
 rw [aJ (show¬(210:Int)<(c.agenda.where_.length:Int) by omega)]
 exact .inr ⟨rfl,⟨by omega,by omega,by omega,by omega,by omega,by omega,by omega,by omega⟩⟩
theorem aJq (p q:Pt) (t:Int×Int):P1 p q t=(p.2.1-q.2.1)*t.2+(p.2.2-q.2.2)*t.1:=rfl
theorem K7 {p q:Pt} {t:Int×Int} (hp:gV p) (hq:gV q) (ht:pR t) (hr:bQ t):mL p q t=some (decide (dF p q t),if p.1=q.1 then 2 else 0)\/(p.1=q.1/\mL p q t=some (false,2)):=by
 unfold mL;rw [zI ht,if_pos ⟨hp,hq,hr⟩]
 by_cases h:p.1=q.1
 · right;simp [h]
 · left
   simp only [h,if_false,aB,yO hp hq ht]
   have:decide (0<XW p q t)=decide (dF p q t):=by simp only [NT]
   simp [this]
end Go.Proofs.YtbncnimfgdelaaaGreat
namespace Go.Proofs.YtbncnimfgdelaaaGreat
theorem tF {α:Type} [BEq α] [LawfulBEq α]: ∀{a b:List α},a.Nodup->(∀x∈a,x∈b)->b.length<=a.length->a.Perm b
 | [],b,_,_,hl=>by
  rw [List.eq_nil_of_length_eq_zero (show b.length=0 by simpa using hl)]
 |x::a,b,hd,h,hl=>by
  rw [List.nodup_cons] at hd;have hx:=h x List.mem_cons_self;have ih:=tF (a:=a) (b:=b.erase x) hd.2 (fun y hy=>by
   rw [List.mem_erase_of_ne (fun e=>hd.1 (by rw [<- e];exact hy))]
   exact h y (List.mem_cons_of_mem _ hy)) (by
   rw [List.length_erase_of_mem hx];rw [List.length_cons] at hl
   omega)
  exact (List.Perm.cons x ih).trans (List.perm_cons_erase hx).symm
theorem xO {α β:Type} {f:α->β}: ∀{l:List α},l.Nodup->(∀x∈l,∀y∈l,f x=f y->x=y)->(l.map f).Nodup
 | [],_,_=>List.nodup_nil
 |x::l,h,hi=>by
  rw [List.nodup_cons] at h;rw [List.map_cons,List.nodup_cons];refine ⟨fun hm=>?_,xO h.2 fun y hy z hz=>hi y (List.mem_cons_of_mem _ hy) z (List.mem_cons_of_mem _ hz)⟩
  obtain ⟨y,hy,e⟩:=List.mem_map.1 hm
  have:=hi y (List.mem_cons_of_mem _ hy) x List.mem_cons_self e
  rw [this] at hy;exact h.1 hy
end Go.Proofs.YtbncnimfgdelaaaGreat
namespace Go.Proofs.YtbncnimfgdelaaaGreat
open Go.Vm Classical
def J2 (l:List Int) (k:Nat):List (Int×Int):=(List.range k).map fun i=>(l[i+1]!,l[i / 2]!)
abbrev D0 (l:List Int):List (Int×Int):=J2 l (l.length-1)
theorem GQ (l:List Int) (k:Nat):(J2 l k).length=k:=by unfold J2;rw [List.length_map,List.length_range]
theorem KT (l:List Int) {k i:Nat} (h:i<k):(J2 l k)[i]! =(l[i+1]!,l[i / 2]!):=by
 rw [getElem!_pos _ i (by rw [GQ];exact h)]
 unfold J2;rw [List.getElem_map,List.getElem_range]
theorem VT {l:List Int} (hd:l.Nodup):(D0 l).Nodup:=by
 unfold D0 J2;refine xO List.nodup_range fun i hi j hj h=>?_
 rw [List.mem_range] at hi hj;have h1:l[i+1]! =l[j+1]!:=congrArg Prod.fst h;have h2:=fC.1 hd;rcases Nat.lt_trichotomy i j with k|k|k
 · exact absurd h1 (h2 (i+1) (j+1) (by omega) (by omega))
 · exact k
 · exact absurd h1.symm (h2 (j+1) (i+1) (by omega) (by omega))
theorem aJr {f:List Pt} (fok:bD f) {t:Int×Int} (r64:pR t) {x:Int×Int} (hb:lD f x):BV x ⟨f⟩ t=some (decide (dF (fU f x.2) (fU f x.1) t)):=by
 obtain ⟨h1,h2⟩:=hb;obtain ⟨j,j1,j2,j3⟩:=JZ fok h1;obtain ⟨k,k1,k2,k3⟩:=JZ fok h2;unfold BV;simp only [j2,k2,aB,aD f j j1,aD f k k1,j3,k3,NU (jA fok h2).1 (jA fok h1).1 r64]
def pI (f:List Pt):List Int:=f.map fun p=>p.1
theorem oT {f:List Pt} (h:fJ f):(pI f).Nodup:=by
 refine xO ?_ ?_
 · exact fC.2 fun i j hij hj e=>by have:=gS h hij hj;rw [e] at this;omega
 · intro x hx y hy e
   obtain ⟨i,hi,rfl⟩:=aY.1 hx;obtain ⟨j,hj,rfl⟩:=aY.1 hy;rw [xJ h hi hj e]
theorem nM {f:List Pt} {id:Int}:id∈pI f↔mS f id:=by
 unfold pI mS;rw [List.mem_map];constructor
 · rintro ⟨p,hp,rfl⟩
   obtain ⟨i,hi,rfl⟩:=aY.1 hp;exact ⟨i,hi,rfl⟩
 · rintro ⟨i,hi,rfl⟩
   exact ⟨f[i]!,bH hi,rfl⟩
structure xP (k:FJ):Prop where
 clk:bG k.clock
 perm:(pI k.clock.field.points).Perm k.heap
 cert:(k.clock.certs.list.map fun x=>x.2).Perm (D0 k.heap)
 lead: ∀e∈D0 k.heap,dF (fU k.clock.field.points e.2) (fU k.clock.field.points e.1) k.clock.now
theorem D1 {c:aZ} (ok:eX c):(c.list.map fun x=>x.2).Nodup:=by
 refine xO ?_ ?_
 · exact fC.2 fun i j hij hj e=>ok.nd i j hij hj (by rw [e])
 · intro x hx y hy e
   obtain ⟨i,hi,rfl⟩:=aY.1 hx;obtain ⟨j,hj,rfl⟩:=aY.1 hy;rcases Nat.lt_trichotomy i j with k|k|k
   · exact absurd e (ok.nd i j k hj)
   · rw [k]
   · exact absurd e.symm (ok.nd j i k hi)
theorem AU {l:List vD} {x:Int×Int}:xL l x↔x∈l.map fun y=>y.2:=by
 unfold xL;rw [List.mem_map];constructor
 · rintro ⟨i,hi,rfl⟩;exact ⟨l[i]!,bH hi,rfl⟩
 · rintro ⟨y,hy,rfl⟩
   obtain ⟨i,hi,rfl⟩:=aY.1 hy;exact ⟨i,hi,rfl⟩
theorem aJs {c:aP} (ok:bG c) (es:List (Int×Int)) (kn: ∀x∈es,lD c.field.points x):
 BW c es=some (decide (c.certs.list.length=es.length/\ ∀i,i<es.length->xL c.certs.list es[i]!/\dF (fU c.field.points (es[i]!).2) (fU c.field.points (es[i]!).1) c.now)):=by
 have bd:=ok.bd;unfold BW;simp only [aF]
 by_cases h0:c.certs.list.length=es.length
 case neg=>rw [dA (by omega),cond_true,aJ (fun h=>h0 h.1)]
 rw [bJ (by omega),cond_false]
 have key:=J1 (body:=tX) (fun i=>(es,(i:Int),c.now.1,c.now.2,c.field.points,c.certs.next_,c.certs.list,c.agenda.slots.uses,c.agenda.slots.used,c.agenda.slots.free,c.agenda.heap,c.agenda.where_,c.due)) es.length
  (fun i=>xL c.certs.list es[i]!/\dF (fU c.field.points (es[i]!).2) (fU c.field.points (es[i]!).1) c.now) (r:=false) (e:=true) (fun i hi=>by
  have ceta2:aZ.mk c.certs.next_ c.certs.list=c.certs:=rfl;unfold tX;simp only [aF,aO (show (i:Int)<(es.length:Int) by omega),cond_true,aD es i hi,aB,ceta2,B8 c.certs es[i]! (by omega),aJr ok.fld (t:=(c.now.1,c.now.2)) ok.now64 (kn _ (bH hi)),aV (show i<1000000000 by omega)]
  by_cases h1:xL c.certs.list es[i]!
  · rw [aO h1]
    by_cases h2:dF (fU c.field.points (es[i]!).2) (fU c.field.points (es[i]!).1) c.now
    · rw [show decide (dF (fU c.field.points (es[i]!).2) (fU c.field.points (es[i]!).1) (c.now.1,c.now.2))=true from aO h2]
      exact ⟨fun h=>absurd ⟨h1,h2⟩ h,fun _=>rfl⟩
    · rw [show decide (dF (fU c.field.points (es[i]!).2) (fU c.field.points (es[i]!).1) (c.now.1,c.now.2))=false from aJ h2]
      exact ⟨fun _=>rfl,fun h=>absurd h.2 h2⟩
  · rw [aJ h1]
    exact ⟨fun _=>rfl,fun h=>absurd h.1 h1⟩) (by
  unfold tX;simp only [aF,aJ (show¬(es.length:Int)<(es.length:Int) by omega),cond_false])
 refine (show _=_ from key).trans ?_
 by_cases h2: ∀i,i<es.length->xL c.certs.list es[i]!/\dF (fU c.field.points (es[i]!).2) (fU c.field.points (es[i]!).1) c.now
 · rw [if_pos h2,aO ⟨h0,h2⟩]
 · rw [if_neg h2,aJ (fun h=>h2 h.2)]
end Go.Proofs.YtbncnimfgdelaaaGreat
