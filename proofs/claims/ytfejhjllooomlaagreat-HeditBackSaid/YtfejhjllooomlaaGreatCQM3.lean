/- Plain laws (3). -/
import Derived.Test.YtfejhjllooomlaaGreatCQM2
import Derived.Test.YtfejhjllooomlaaGreatCQS2
namespace Go.Proofs.YtfejhjllooomlaaGreat
open Go.Vm Classical
theorem VM (c:aQ) (n:Int) (hl:c.due.length<=1000000):(∀k,k<c.due.length->(c.due[k]!).1=n->(∀j,j<k->(c.due[j]!).1≠n)->qM c n=some (k:Int))/\((∀k,k<c.due.length->(c.due[k]!).1≠n)->qM c n=some (-1)):=by
 unfold qM;refine mG (body:=rD) (fun i=>(n,(i:Int),c.now.1,c.now.2,c.field.points,c.certs.next_,c.certs.list,c.agenda.slots.uses,c.agenda.slots.used,c.agenda.slots.free,c.agenda.heap,c.agenda.where_,c.due)) c.due.length (fun i=>(c.due[i]!).1=n) (fun i=>(i:Int)) (fun i hi=>?_) ?_
 · have e1:decide ((i:Int)<(c.due.length:Int))=true:=aN (by omega)
   unfold rD;simp only [aF,e1,cond_true,aB c.due i hi,aC,bA (show i<1000000000 by omega)]
   constructor
   · intro h;rw [fY h];rfl
   · intro h;rw [fD h];rfl
 · unfold rD
   have:decide ((c.due.length:Int)<(c.due.length:Int))=false:=aL (by omega)
   simp only [aF,this,cond_false]
theorem P5 {ds:List vN} (hu:Up ds) (hl:ds.length<=1000000) (n:Int):(∀k,k<ds.length->(ds[k]!).1=n->qP ds n=some ((k:Int),true))/\((∀k,k<ds.length->(ds[k]!).1≠n)-> ∃m:Nat,qP ds n=some ((m:Int),false)):=by
 have bs:=wJ ds n hl (wL.1 hu);unfold qP;rw [aQf];constructor
 · intro k hk he;rw [bs.1 k hk he];rfl
 · intro h
   obtain ⟨m,_,_,_,e⟩:=bs.2 h;exact ⟨m,by rw [e];rfl⟩
theorem bJ.bd {c:aQ} (ok:bJ c):c.due.length<=200/\c.field.points.length<=64/\c.certs.list.length<=200:=by
 have:=ok.hd;have:=ok.agd.bd;have:=ok.fld.1;have:=ok.crt.len
 omega
theorem kZ {c:aQ} (ok:bJ c):mM c=some c:=by
 have bd:=ok.bd;unfold mM kO sM;simp only [bD (show c.field.points.length<=1048576 by omega),bD (show c.certs.list.length<=1048576 by omega),bD (show c.due.length<=1048576 by omega),aC,uC ok.agd]
theorem nM {c:aQ} (ok:bJ c):oD c=some c:=by
 have bd:=ok.bd;have ab:=ok.agd.bd;have hl:=ok.agd.so.fl;have hn:=ok.agd.so.n2;have hu:=ok.agd.so.ul;unfold oD;simp only [bD (show c.field.points.length<=1048576 by omega),bD (show c.certs.list.length<=1048576 by omega),bD (show c.due.length<=1048576 by omega),bD (show c.agenda.heap.length<=1048576 by omega),bD (show c.agenda.where_.length<=1048576 by omega),
  bD (show c.agenda.slots.uses.length<=1048576 by omega),bD (show c.agenda.slots.used.length<=1048576 by omega),bD (show c.agenda.slots.free.length<=1048576 by omega),aC]
theorem BY {cs:List vN} {i:Nat} (hu:Up cs) (hi:i<cs.length) {x:vN} (hx:x∈cs.eraseIdx i):x∈cs/\x.1≠(cs[i]!).1:=by
 rw [xK,List.mem_append] at hx;have ub:=wL.1 hu;rcases hx with hx|hx
 · obtain ⟨j,h1,h2,rfl⟩:=cP.1 hx
   have:=ub j i h1 hi
   exact ⟨aR h2,by omega⟩
 · obtain ⟨j,hj,rfl⟩:=aY.1 hx
   rw [List.length_drop] at hj;rw [sX]
   have:=ub i (i+1+j) (by omega) (by omega)
   exact ⟨aR (by omega),by omega⟩
theorem KK {c:aQ} (ok:bJ c) (i:Nat) (hi:i<c.certs.list.length): ∀j,j<(pV c.certs i).list.length->kY c.field.points ((pV c.certs i).list[j]!).2:=by
 intro j hj;have hm:(pV c.certs i).list[j]!∈c.certs.list:=(BY ok.crt_up hi (aR hj)).1;obtain ⟨m,hm1,hm2⟩:=aY.1 hm;rw [<- hm2];exact ok.known m hm1
theorem aQg {c:aQ} (ok:bJ c) {i:Nat} (hi:i<c.certs.list.length):
 ∃c':aQ,sV c (c.certs.list[i]!).1=some (c',(c.certs.list[i]!).2,0)/\sN c (c.certs.list[i]!).1=some c'/\bJ c'/\c'.field=c.field/\c'.now=c.now/\c'.certs=pV c.certs i:=by
 have bd:=ok.bd;have rm:=N9 ok.crt hi (n:=(c.certs.list[i]!).1) rfl;have wo:=JQ ok.crt hi (n:=(c.certs.list[i]!).1) rfl;have fe:=ok.fol.erase (i:=i) hi;have pd:=P5 ok.due_up (by omega) (c.certs.list[i]!).1
 have da:=VM c (c.certs.list[i]!).1 (by omega)
 cases hf:(bN c.field.points (c.certs.list[i]!).2 c.now).2 with
 |false=>
  have no: ∀k,k<c.due.length->(c.due[k]!).1≠(c.certs.list[i]!).1:=by
   intro k hk he;obtain ⟨x,hx,h1,h2,_⟩:=ok.fol.due _ (aR hk);obtain ⟨j,hj,rfl⟩:=aY.1 hx;have ub:=wL.1 ok.crt_up
   have:j=i:=by
    rcases Nat.lt_trichotomy j i with h|h|h
    · have:=ub j i h hi;omega
    · exact h
    · have:=ub i j h hj;omega
   rw [this,hf] at h2;cases h2
  refine ⟨⟨c.now,c.field,pV c.certs i,c.agenda,c.due⟩,?_,?_,?_,rfl,rfl,rfl⟩
  · unfold sV
    obtain ⟨m,e⟩:=pd.2 no;simp only [rm,aC,show ((0:Int) !=0)=false from rfl,cond_false,nM ok,e]
  · unfold sN
    simp only [kZ ok,aC,wo,da.2 no,aL (show¬(0:Int)<= -1 by omega),cond_false]
  · exact ⟨ok.nowv,ok.now64,ok.fld,N8 ok.crt hi,ok.agd,ok.w200,ok.hd,KK ok i hi,fe.1 hf⟩
 |true=>
  obtain ⟨k,hk,k1,k2,k3⟩:=fe.2 hf;obtain ⟨w,hw,hev⟩:=aY.1 k2;have hh:(c.agenda.heap[w]!).2.2.2=(c.due[k]!).2:=by rw [hev]
  have ub:=wL.1 ok.due_up;have before: ∀j,j<k->(c.due[j]!).1≠(c.certs.list[i]!).1:=fun j hj he=>by have:=ub j k hj hk;omega
  have dl:(c.due.eraseIdx k).length=c.due.length-1:=LF hk;obtain ⟨L,d1,d2⟩:=DM c.due k hk;refine ⟨⟨c.now,c.field,pV c.certs i,eU c.agenda w,c.due.eraseIdx k⟩,?_,?_,?_,rfl,rfl,rfl⟩
  · unfold sV
    simp only [rm,aC,show ((0:Int) !=0)=false from rfl,cond_false,nM ok,pd.1 k hk k1,cond_true,aB c.due k hk,AN ok.agd hw ok.agd.fit hh,bA (show k<1000000000 by omega),X2,d1,d2]
  · unfold sN
    have s1:jH c.due 0 (k:Int)=some (c.due.take k):=nL c.due k (by omega)
    have s2:jH c.due ((k+1:Nat):Int) (c.due.length:Int)=some (c.due.drop (k+1)):=by
     unfold jH;rw [if_pos ⟨by omega,by omega,by omega⟩]
     simp only [Int.toNat_natCast];rw [List.take_of_length_le (by rw [List.length_drop];exact Nat.le_refl _)]
    have tl:(c.due.take k).length=k:=by rw [List.length_take];omega
    have dl2:(c.due.drop (k+1)).length=c.due.length- (k+1):=List.length_drop;simp only [kZ ok,aC,wo,da.1 k hk k1 before,aN (show (0:Int)<=(k:Int) by omega),cond_true,aB c.due k hk,AO ok.agd hw hh,s1,bD (show (c.due.take k).length<=1048576 by omega),bA (show k<1000000000 by omega),aF,s2,
     dJ (show (c.due.take k).length+(c.due.drop (k+1)).length<=1048576 by omega),xK]
    cases hem:(c.due.drop (k+1)).isEmpty with
    |true=>
     rw [List.isEmpty_iff] at hem;rw [hem,List.append_nil];rfl
    |false=>rfl
  · have rem:=JO ok.agd hw
    have rmem:=N4 ok.agd hw;have hlen:(eU c.agenda w).heap.length=c.agenda.heap.length-1:=by
     have h1:=rem.hl;have h2:=ok.agd.hl;have h3:(eU c.agenda w).slots=gC c.agenda.slots (c.agenda.heap[w]!).2.2.2:=by unfold eU;split<;>rfl
     rw [h3] at h1;change _+(c.agenda.slots.free++[_]).length=c.agenda.slots.uses.length at h1;rw [List.length_append] at h1;simp only [List.length_cons,List.length_nil] at h1;omega
    have wlen:(eU c.agenda w).where_.length=200:=by
     have h1:=rem.wl;have h3:(eU c.agenda w).slots=gC c.agenda.slots (c.agenda.heap[w]!).2.2.2:=by unfold eU;split<;>rfl
     rw [h3] at h1;change _=c.agenda.slots.uses.length at h1;rw [h1,<- ok.agd.wl,ok.w200]
    refine ⟨ok.nowv,ok.now64,ok.fld,N8 ok.crt hi,rem,wlen,?_,KK ok i hi,?_⟩
    · show (eU c.agenda w).heap.length=(c.due.eraseIdx k).length
      rw [hlen,dl,ok.hd]
    · refine k3.mono fun x hx e he hm=>(rmem e).2 ⟨hm,fun h=>?_⟩
      have:=(BY ok.crt_up hi hx).2
      rw [h,hev] at he;exact this he.symm
theorem K0 {c:aQ} (ok:bJ c) {i:Nat} (_hi:i<c.certs.list.length) {c':aQ} (h:sV c (c.certs.list[i]!).1=some (c',(c.certs.list[i]!).2,0)):wF c (c.certs.list[i]!).1=some (c',0):=by
 unfold wF;rw [oJ ok.fit,if_pos ok];simp only [aC,show ((0:Int) !=0)=false from rfl,cond_false,h]
end Go.Proofs.YtfejhjllooomlaaGreat
namespace Go.Proofs.YtfejhjllooomlaaGreat
open Go.Vm Classical
abbrev fT:aQ:=⟨(0,0),⟨[]⟩,⟨0,[]⟩,⟨⟨[],[],[]⟩,[],[]⟩,[]⟩
theorem SD {l:List Pt} (ok:bX l) {id:Int} (h:iT l id): ¬(bB l id).1<0:=by
 obtain ⟨h1,_⟩:=hU ok h
 have:=h1.1
 omega
theorem aKf {c:aQ} (ok:bJ c) {x:Int×Int} (hx:gA x) (hb:kY c.field.points x) (hn: ¬wK c.certs.list x):
 (jC c x=some (fT,0,18)/\mE c x=some (fT,0,18)/\(HZ c.certs\/ ¬CF c.agenda.slots))\/
 ∃c':aQ,jC c x=some (c',c.certs.next_,0)/\mE c x=some (c',c.certs.next_,0)/\bJ c'/\c'.field=c.field/\c'.now=c.now/\c'.certs=rY c.certs x/\(c'.agenda.slots=c.agenda.slots\/c'.agenda.slots=iD c.agenda.slots):=by
 have bd:=ok.bd;have n0:=ok.crt.n0;have n1:=ok.crt.n1;have fit:=ok.fit;have ad:=VH ok.crt hx;have rd:=SC ok.crt hx;rw [if_neg hn] at ad rd;have hc:iB c=some 0:=by rw [oJ fit,if_pos ok]
 have p1:=oI ok.fld x.1;have p2:=oI ok.fld x.2;have q1:=SD ok.fld hb.1;have q2:=SD ok.fld hb.2;have wh:=zL ok.fld hx ok.nowv ok.now64;rw [if_pos hb] at wh;have rw':=zM ok.fld ok.now64 hb
 by_cases hf:HZ c.certs
 · rw [if_pos hf] at ad rd
   left;refine ⟨?_,?_,.inl hf⟩
   · unfold jC dO
     simp only [hc,aC,show ((0:Int) !=0)=false from rfl,cond_false,ad,show ((18:Int)==8)=false from rfl,p1,p2,aL q1,aL q2,show ((18:Int) !=0)=true from rfl,cond_true]
   · unfold mE
     simp only [rd,aC,show ((18:Int) !=0)=true from rfl,cond_true]
 rw [if_neg hf] at ad rd;have cok:=X4 ok.crt hx hn hf;have known': ∀j,j<(rY c.certs x).list.length->kY c.field.points ((rY c.certs x).list[j]!).2:=by
  intro j hj;rw [ES] at hj;rw [xL]
  by_cases h:j<c.certs.list.length
  · rw [if_pos h];exact ok.known j h
  · rw [if_neg h,if_pos (by omega)];exact hb
 have fresh: ∀e∈c.agenda.heap,Ev.num e≠c.certs.next_:=by
  intro e he hne;obtain ⟨d,hd,h1⟩:=ok.nums e he;obtain ⟨y,hy,h2,_⟩:=ok.fol.due d hd;obtain ⟨j,hj,rfl⟩:=aY.1 hy
  have:=(ok.crt.nr j hj).2
  omega
 have sn:=ok.fol.snoc (x:=(c.certs.next_,x));cases hw:(bN c.field.points x c.now).2 with
 |false=>
  right;refine ⟨⟨c.now,c.field,rY c.certs x,c.agenda,c.due⟩,?_,?_,⟨ok.nowv,ok.now64,ok.fld,cok,ok.agd,ok.w200,ok.hd,known',sn.1 hw⟩,rfl,rfl,rfl,.inl rfl⟩
  · unfold jC dO
    simp only [hc,aC,show ((0:Int) !=0)=false from rfl,cond_false,ad,show ((0:Int)==8)=false from rfl,p1,p2,aL q1,aL q2,nM ok,wh,hw]
  · unfold mE
    simp only [rd,aC,show ((0:Int) !=0)=false from rfl,cond_false,kZ ok,rw',hw,Bool.not_false,cond_true]
 |true=>
  obtain ⟨t1,t2⟩:=NN (hU ok.fld hb.2).1 (hU ok.fld hb.1).1 ok.now64 ok.nowv hw
  by_cases op:CF c.agenda.slots
  · right
    have pu:=AJ ok.agd op ok.agd.fit (t:=(bN c.field.points x c.now).1) (n:=c.certs.next_) t1 t2 n0 n1 fresh;have rp:=CG ok.agd op (t:=(bN c.field.points x c.now).1) (n:=c.certs.next_) t1 t2 n0 n1;have pok:=aAa ok.agd op (t:=(bN c.field.points x c.now).1) (n:=c.certs.next_) t1 t2 n0 n1 fresh
    have pmem:=VD ok.agd op (t:=(bN c.field.points x c.now).1) (n:=c.certs.next_) t1;have plen:=HX ok.agd op (t:=(bN c.field.points x c.now).1) (n:=c.certs.next_) t1;have ap: ∀h:Int×Int,bR c.due [(c.certs.next_,h)]=some (c.due++[(c.certs.next_,h)]):=fun h=>dJ (by simp;omega)
    have wlen:(mV c.agenda (bN c.field.points x c.now).1 c.certs.next_).where_.length=200:=by
     have:=pok.wl
     change _=(c.agenda.slots.uses.set _ _).length at this;rw [List.length_set] at this;rw [this,<- ok.agd.wl,ok.w200]
    refine ⟨⟨c.now,c.field,rY c.certs x,mV c.agenda (bN c.field.points x c.now).1 c.certs.next_,c.due++[(c.certs.next_,mU c.agenda.slots)]⟩,?_,?_,⟨ok.nowv,ok.now64,ok.fld,cok,pok,wlen,?_,known',?_⟩,rfl,rfl,rfl,.inr rfl⟩
    · unfold jC dO
      simp only [hc,aC,show ((0:Int) !=0)=false from rfl,cond_false,ad,show ((0:Int)==8)=false from rfl,p1,p2,aL q1,aL q2,nM ok,wh,hw,cond_true,pu,ap]
    · unfold mE
      simp only [rd,aC,show ((0:Int) !=0)=false from rfl,cond_false,kZ ok,rw',hw,Bool.not_true,uB ok.agd.so,aN op,rp,ap]
    · show (mV c.agenda (bN c.field.points x c.now).1 c.certs.next_).heap.length=(c.due++[_]).length
      rw [plen,List.length_append,ok.hd];rfl
    · have fm:aZ c.field.points c.now (mV c.agenda (bN c.field.points x c.now).1 c.certs.next_).heap c.certs.list c.due:=ok.fol.mono fun y hy e he hm=>(pmem e).2 (.inr hm)
      exact (fm.snoc (x:=(c.certs.next_,x))).2 _ hw rfl ((pmem _).2 (.inl rfl))
  · left
    have pu:=AL ok.agd op ok.agd.fit (t:=(bN c.field.points x c.now).1) (n:=c.certs.next_) t1 t2 n0 n1 fresh;refine ⟨?_,?_,.inr op⟩
    · unfold jC dO
      simp only [hc,aC,show ((0:Int) !=0)=false from rfl,cond_false,ad,show ((0:Int)==8)=false from rfl,p1,p2,aL q1,aL q2,nM ok,wh,hw,cond_true,pu,show ((18:Int) !=0)=true from rfl]
    · unfold mE
      simp only [rd,aC,show ((0:Int) !=0)=false from rfl,cond_false,kZ ok,rw',hw,Bool.not_true,uB ok.agd.so,aL op,Bool.not_false,cond_true]
end Go.Proofs.YtfejhjllooomlaaGreat
namespace Go.Proofs.YtfejhjllooomlaaGreat
open Go.Vm Classical
theorem Up.inj {cs:List vN} (h:Up cs) {x y:vN} (hx:x∈cs) (hy:y∈cs) (he:x.1=y.1):x=y:=by
 obtain ⟨i,hi,rfl⟩:=aY.1 hx;obtain ⟨j,hj,rfl⟩:=aY.1 hy;have ub:=wL.1 h;rcases Nat.lt_trichotomy i j with h1|h1|h1
 · have:=ub i j h1 hj;omega
 · rw [h1]
 · have:=ub j i h1 hi;omega
structure OB (c:aQ) (f:List Pt) (i k:Nat) (a:aO) (ds:List vN):Prop where
 ok:fI a
 w2:a.where_.length=200
 new:aZ f c.now a.heap (c.certs.list.take i) ds
 old:aZ c.field.points c.now a.heap (c.certs.list.drop i) (c.due.drop k)
 kl:k<=c.due.length
 cnt:a.heap.length=ds.length+(c.due.length-k)
theorem aQh {a:aO} (ok:fI a) {w:Nat} (hw:w<a.heap.length):(eU a w).heap.length=a.heap.length-1/\(eU a w).where_.length=a.where_.length:=by
 have rem:=JO ok hw;have h3:(eU a w).slots=gC a.slots (a.heap[w]!).2.2.2:=by unfold eU;split<;>rfl
 have h1:=rem.hl;have h2:=ok.hl;have h4:=rem.wl;rw [h3] at h1 h4;change _+(a.slots.free++[_]).length=a.slots.uses.length at h1;change _=a.slots.uses.length at h4;rw [List.length_append] at h1;simp only [List.length_cons,List.length_nil] at h1;exact ⟨by omega,by rw [h4,ok.wl]⟩
theorem aKg {a:aO} {t:Int×Int} {n:Int} (ok:fI a) (pok:fI (mV a t n)):(mV a t n).where_.length=a.where_.length:=by
 have:=pok.wl
 change _=(a.slots.uses.set _ _).length at this;rw [List.length_set] at this;rw [this,ok.wl]
section
variable {c : aQ} (ok : bJ c) {f : List Pt} (fok : bX f) (kn : ∀ i, i < c.certs.list.length -> kY f (c.certs.list[i]!).2)
include ok
theorem IB {i:Nat} {x:vN} (hx:x∈c.certs.list.take i) (hi:i<c.certs.list.length):x.1≠(c.certs.list[i]!).1:=by
 obtain ⟨j,h1,h2,rfl⟩:=cP.1 hx
 have:=ok.crt.up j i h1 hi
 omega
theorem IC {i:Nat} {x:vN} (hx:x∈c.certs.list.drop (i+1)) (hi:i<c.certs.list.length):x.1≠(c.certs.list[i]!).1:=by
 obtain ⟨j,h1,rfl⟩:=aY.1 hx;rw [List.length_drop] at h1;rw [sX]
 have:=ok.crt.up i (i+1+j) (by omega) (by omega)
 omega
theorem aBi {i k:Nat} {a:aO} {ds:List vN} (inv:OB c f i k a ds) (hi:i<c.certs.list.length) (was:(bN c.field.points (c.certs.list[i]!).2 c.now).2=false): ∀e∈a.heap,Ev.num e≠(c.certs.list[i]!).1:=by
 have u1:Up (c.certs.list.take i):=ok.crt_up.sublist (List.take_sublist _ _);have u2:Up (c.certs.list.drop i):=ok.crt_up.sublist (List.drop_sublist _ _);have d1:=inv.new.up u1;have d2:=inv.old.up u2;have cross: ∀x∈ds,∀y∈c.due.drop k,x.1<y.1:=by
  intro x hx y hy;obtain ⟨p,hp,h1,_⟩:=inv.new.due x hx;obtain ⟨q,hq,h2,_⟩:=inv.old.due y hy;obtain ⟨m,m1,m2,rfl⟩:=cP.1 hp;obtain ⟨n,n1,rfl⟩:=aY.1 hq;rw [List.length_drop] at n1;rw [sX] at h2
  have:=ok.crt.up m (i+n) (by omega) (by omega)
  omega
 have nd:((ds++c.due.drop k).map fun x=>x.1).Nodup:=VL (by
  show List.Pairwise _ _;rw [List.pairwise_append];exact ⟨d1,d2,cross⟩)
 have only:=KJ (H:=a.heap) nd (by rw [List.length_map,List.length_append,List.length_drop,inv.cnt];exact Nat.le_refl _) (fun n hn=>by
  obtain ⟨x,hx,rfl⟩:=List.mem_map.1 hn;rcases List.mem_append.1 hx with hx|hx
  · obtain ⟨p,hp,h1,h2,h3⟩:=inv.new.due x hx
    exact ⟨_,h3,h1.symm⟩
  · obtain ⟨p,hp,h1,h2,h3⟩:=inv.old.due x hx
    exact ⟨_,h3,h1.symm⟩)
 intro e he hne;obtain ⟨x,hx,h1⟩:=List.mem_map.1 (only e he);rcases List.mem_append.1 hx with hx|hx
 · obtain ⟨p,hp,h2,_⟩:=inv.new.due x hx
   exact IB ok hp hi (by rw [<- h2,h1,hne])
 · obtain ⟨p,hp,h2,h3,_⟩:=inv.old.due x hx
   have hp':p∈c.certs.list:=List.mem_of_mem_drop hp
   have:=ok.crt_up.inj hp' (aR hi) (by rw [<- h2,h1,hne])
   rw [this,was] at h3;cases h3
def stP (c:aQ) (f:List Pt) (i:Nat) (a:aO) (ds:List vN):=
 (c.certs.list,(c.certs.list.length:Int),(i:Int),c.now.1,c.now.2,c.field.points,c.certs.next_,c.certs.list,c.agenda.slots.uses,c.agenda.slots.used,c.agenda.slots.free,c.agenda.heap,c.agenda.where_,c.due,f,(0:Int),(0:Int),(0:Int),c.now.1,c.now.2,c.certs.next_,c.certs.list,a.slots.uses,a.slots.used,a.slots.free,a.heap,a.where_,f,ds)
def stR (c:aQ) (f:List Pt) (i:Nat) (a:aO) (ds:List vN):=
 ((i:Int),c.now.1,c.now.2,c.field.points,c.certs.next_,c.certs.list,c.agenda.slots.uses,c.agenda.slots.used,c.agenda.slots.free,c.agenda.heap,c.agenda.where_,c.due,f,(0:Int),(0:Int),(0:Int),c.now.1,c.now.2,f,c.certs.next_,c.certs.list,a.slots.uses,a.slots.used,a.slots.free,a.heap,a.where_,ds)
include fok kn
theorem aDt {i k:Nat} {a:aO} {ds:List vN} (inv:OB c f i k a ds) (hi:i<c.certs.list.length) (hds:ds.length<=i):
 (dS (stP c f i a ds)=some (.done (.done (fT,18)))/\cS (stR c f i a ds)=some (.done (fT,18)))\/
 ∃k' a' ds',dS (stP c f i a ds)=some (.next (stP c f (i+1) a' ds'))/\cS (stR c f i a ds)=some (.next (stR c f (i+1) a' ds'))/\OB c f (i+1) k' a' ds'/\ds'.length<=i+1:=by
 have bd:=ok.bd;have e1:decide ((i:Int)<(c.certs.list.length:Int))=true:=aN (by omega)
 have sc:=bA (show i<1000000000 by omega)
 have cg:=aB c.certs.list i hi;have hb:=kn i hi;have wn:=zL fok (x:=(c.certs.list[i]!).2) (t:=(c.now.1,c.now.2)) (ok.crt.cv i hi) ok.nowv ok.now64;rw [if_pos hb] at wn;have wr:=zM fok (x:=(c.certs.list[i]!).2) (t:=(c.now.1,c.now.2)) ok.now64 hb;have pd:=P5 ok.due_up (by omega) (c.certs.list[i]!).1
 have da:=VM c (c.certs.list[i]!).1 (by omega)
 have dr:=wR hi;have tk:=gQ hi;have old:=inv.old;rw [dr] at old;have aeta:aO.mk (aX.mk a.slots.uses a.slots.used a.slots.free) a.heap a.where_=a:=rfl
 have ceta:(aQ.mk (c.now.1,c.now.2) (Field.mk c.field.points) (bG.mk c.certs.next_ c.certs.list) (aO.mk (aX.mk c.agenda.slots.uses c.agenda.slots.used c.agenda.slots.free) c.agenda.heap c.agenda.where_) c.due)=c:=rfl;have other: ∀x∈c.certs.list.take i,x.1≠(c.certs.list[i]!).1:=fun x hx=>IB ok hx hi
 have other': ∀x∈c.certs.list.drop (i+1),x.1≠(c.certs.list[i]!).1:=fun x hx=>IC ok hx hi
 cases hwas:(bN c.field.points (c.certs.list[i]!).2 c.now).2 with
 |true=>
  obtain ⟨d,ds',hd1,hd2,hd3,hd4⟩:=(aZ.cons_true hwas).1 old;have hk:k<c.due.length:=by
   refine Classical.byContradiction fun h=>?_
   rw [List.drop_eq_nil_of_le (by omega)] at hd1
   cases hd1
  have dk:=wR hk;rw [dk] at hd1;injection hd1 with hd5 hd6;subst hd5 hd6;obtain ⟨w,hw,hev⟩:=aY.1 hd3;have hh:(a.heap[w]!).2.2.2=(c.due[k]!).2:=by rw [hev]
  have hnum:Ev.num a.heap[w]! =(c.certs.list[i]!).1:=by rw [hev]
  have before: ∀j,j<k->(c.due[j]!).1≠(c.certs.list[i]!).1:=fun j hj he=>by
   have:=wL.1 ok.due_up j k hj hk
   omega
  have pl:=pd.1 k hk hd2;have dq:=da.1 k hk hd2 before;have gk:=aB c.due k hk;have k0:decide ((0:Int)<=(k:Int))=true:=aN (by omega)
  have ap:bR ds [c.due[k]!]=some (ds++[c.due[k]!]):=dJ (by simp;omega)
  cases his:(bN f (c.certs.list[i]!).2 c.now).2 with
  |true=>
   right;have tt:cO (bN f (c.certs.list[i]!).2 c.now).1/\vC (bN f (c.certs.list[i]!).2 c.now).1:=NN (hU fok hb.2).1 (hU fok hb.1).1 ok.now64 ok.nowv his;obtain ⟨t1,t2⟩:=tt;have re:=KZ inv.ok inv.ok.fit (t:=(bN f (c.certs.list[i]!).2 c.now).1) hw hh t1 t2;have rr:=JN inv.ok (t:=(bN f (c.certs.list[i]!).2 c.now).1) hw hh t1 t2
   have rok:=aDn inv.ok hw t1 t2;have rmem:=aBh inv.ok hw t1;have rlen:=JM inv.ok hw t1;have stay: ∀(cs:List vN),(∀x∈cs,x.1≠(c.certs.list[i]!).1)-> ∀x∈cs,∀e:Ev,e.num=x.1->e∈a.heap->e∈(lI a w (bN f (c.certs.list[i]!).2 c.now).1).heap:=by
    intro cs hcs x hx e he hm;refine (rmem e).2 (.inr ⟨hm,fun h=>hcs x hx ?_⟩)
    rw [<- he,h,hnum]
   refine ⟨k+1,lI a w (bN f (c.certs.list[i]!).2 c.now).1,ds++[c.due[k]!],?_,?_,⟨rok,by rw [rlen.2];exact inv.w2,?_,?_,by omega,?_⟩,by simp;omega⟩
   · unfold dS stP
     simp only [e1,cond_true,cg,aC,wn,pl,his,gk,aeta,re,ap,show ((0:Int) !=0)=false from rfl,cond_false,sc]
   · unfold cS stR
     simp only [aF,e1,cond_true,cg,aC,ceta,dq,wr,his,k0,gk,aeta,rr,ap,Bool.not_true,cond_false,sc]
   · rw [tk]
     exact ((inv.new.mono (stay _ other)).snoc (x:=c.certs.list[i]!)).2 _ his hd2 ((rmem _).2 (.inl (by
      show _=((bN f (c.certs.list[i]!).2 c.now).1.1,(bN f (c.certs.list[i]!).2 c.now).1.2,(a.heap[w]!).2.2);rw [hev])))
   · exact hd4.mono (stay _ other')
   · rw [rlen.1,inv.cnt,List.length_append]
     simp only [List.length_cons,List.length_nil];omega
  |false=>
   right;have rv:=AN inv.ok hw inv.ok.fit hh;have rr:=AO inv.ok hw hh;have rok:=JO inv.ok hw;have rmem:=N4 inv.ok hw;have rlen:=aQh inv.ok hw;have stay: ∀(cs:List vN),(∀x∈cs,x.1≠(c.certs.list[i]!).1)-> ∀x∈cs,∀e:Ev,e.num=x.1->e∈a.heap->e∈(eU a w).heap:=by
    intro cs hcs x hx e he hm;refine (rmem e).2 ⟨hm,fun h=>hcs x hx ?_⟩
    rw [<- he,h,hnum]
   refine ⟨k+1,eU a w,ds,?_,?_,⟨rok,by rw [rlen.2];exact inv.w2,?_,hd4.mono (stay _ other'),by omega,?_⟩,by omega⟩
   · unfold dS stP
     simp only [e1,cond_true,cg,aC,wn,pl,his,gk,aeta,rv,show ((0:Int) !=0)=false from rfl,cond_false,sc]
   · unfold cS stR
     simp only [aF,e1,cond_true,cg,aC,ceta,dq,wr,his,k0,gk,aeta,rr,Bool.not_false,cond_false,sc]
   · rw [tk]
     exact ((inv.new.mono (stay _ other)).snoc (x:=c.certs.list[i]!)).1 his
   · have:=inv.cnt
     rw [rlen.1];omega
 |false=>
  have fol:=(aZ.cons_false hwas).1 old;have no: ∀j,j<c.due.length->(c.due[j]!).1≠(c.certs.list[i]!).1:=by
   intro j hj he;obtain ⟨x,hx,h1,h2,_⟩:=ok.fol.due _ (aR hj)
   have:=ok.crt_up.inj hx (aR hi) (by rw [<- h1,he])
   rw [this,hwas] at h2;cases h2
  obtain ⟨m,pl⟩:=pd.2 no;have dq:=da.2 no;have k0:decide ((0:Int)<= -1)=false:=aL (by omega)
  cases his:(bN f (c.certs.list[i]!).2 c.now).2 with
  |true=>
   have tt:cO (bN f (c.certs.list[i]!).2 c.now).1/\vC (bN f (c.certs.list[i]!).2 c.now).1:=NN (hU fok hb.2).1 (hU fok hb.1).1 ok.now64 ok.nowv his;obtain ⟨t1,t2⟩:=tt;have n0:=(ok.crt.nr i hi).1;have n1:(c.certs.list[i]!).1<=1000000:=by have:=(ok.crt.nr i hi).2;have:=ok.crt.n1;omega
   have fresh:=aBi ok inv hi hwas
   by_cases op:CF a.slots
   · right
     have pu:=AJ inv.ok op inv.ok.fit (t:=(bN f (c.certs.list[i]!).2 c.now).1) (n:=(c.certs.list[i]!).1) t1 t2 n0 n1 fresh;have rp:=CG inv.ok op (t:=(bN f (c.certs.list[i]!).2 c.now).1) (n:=(c.certs.list[i]!).1) t1 t2 n0 n1;have pok:=aAa inv.ok op (t:=(bN f (c.certs.list[i]!).2 c.now).1) (n:=(c.certs.list[i]!).1) t1 t2 n0 n1 fresh
     have pmem:=VD inv.ok op (t:=(bN f (c.certs.list[i]!).2 c.now).1) (n:=(c.certs.list[i]!).1) t1;have plen:=HX inv.ok op (t:=(bN f (c.certs.list[i]!).2 c.now).1) (n:=(c.certs.list[i]!).1) t1;have ap: ∀h:Int×Int,bR ds [((c.certs.list[i]!).1,h)]=some (ds++[((c.certs.list[i]!).1,h)]):=fun h=>dJ (by simp;omega)
     have opn:=uB inv.ok.so;rw [aN op] at opn;refine ⟨k,mV a (bN f (c.certs.list[i]!).2 c.now).1 (c.certs.list[i]!).1,ds++[((c.certs.list[i]!).1,mU a.slots)],?_,?_,⟨pok,by rw [aKg inv.ok pok];exact inv.w2,?_,?_,inv.kl,?_⟩,by simp;omega⟩
     · unfold dS stP
       simp only [e1,cond_true,cg,aC,wn,pl,his,aeta,pu,ap,show ((0:Int) !=0)=false from rfl,cond_false,sc]
     · unfold cS stR
       simp only [aF,e1,cond_true,cg,aC,ceta,dq,wr,his,k0,aeta,rp,ap,Bool.not_true,cond_false,sc,opn]
     · rw [tk]
       exact ((inv.new.mono fun x hx e he hm=>(pmem e).2 (.inr hm)).snoc (x:=c.certs.list[i]!)).2 _ his rfl ((pmem _).2 (.inl rfl))
     · exact fol.mono fun x hx e he hm=>(pmem e).2 (.inr hm)
     · have:=inv.cnt
       rw [plen,List.length_append];simp only [List.length_cons,List.length_nil];omega
   · left
     have pu:=AL inv.ok op inv.ok.fit (t:=(bN f (c.certs.list[i]!).2 c.now).1) (n:=(c.certs.list[i]!).1) t1 t2 n0 n1 fresh;have ap: ∀h:Int×Int,bR ds [((c.certs.list[i]!).1,h)]=some (ds++[((c.certs.list[i]!).1,h)]):=fun h=>dJ (by simp;omega)
     have opn:=uB inv.ok.so;rw [aL op] at opn;constructor
     · unfold dS stP
       simp only [e1,cond_true,cg,aC,wn,pl,his,aeta,pu,ap,show ((18:Int) !=0)=true from rfl,cond_false]
     · unfold cS stR
       simp only [aF,e1,cond_true,cg,aC,ceta,dq,wr,his,k0,aeta,Bool.not_true,Bool.not_false,cond_false,opn]
  |false=>
   right;refine ⟨k,a,ds,?_,?_,⟨inv.ok,inv.w2,?_,fol,inv.kl,inv.cnt⟩,by omega⟩
   · unfold dS stP
     simp only [e1,cond_true,cg,aC,wn,pl,his,show ((0:Int) !=0)=false from rfl,cond_false,sc]
   · unfold cS stR
     simp only [aF,e1,cond_true,cg,aC,ceta,dq,wr,his,k0,Bool.not_false,cond_false,sc]
   · rw [tk]
     exact (inv.new.snoc (x:=c.certs.list[i]!)).1 his
theorem aSX:
 (qQ c ⟨f⟩=some (fT,18)/\nF c ⟨f⟩=some (fT,18))\/
 ∃c':aQ,qQ c ⟨f⟩=some (c',0)/\nF c ⟨f⟩=some (c',0)/\bJ c'/\c'.field.points=f/\c'.now=c.now/\c'.certs=c.certs:=by
 have bd:=ok.bd;have f64:=fok.1;have run: ∀(d i k:Nat) (a:aO) (ds:List vN),c.certs.list.length-i<=d->i<=c.certs.list.length->OB c f i k a ds->ds.length<=i->
  (aH dS (stP c f i a ds)=some (.done (fT,18))/\aH cS (stR c f i a ds)=some (fT,18))\/
  ∃c':aQ,aH dS (stP c f i a ds)=some (.done (c',0))/\aH cS (stR c f i a ds)=some (c',0)/\bJ c'/\c'.field.points=f/\c'.now=c.now/\c'.certs=c.certs:=by
  have fin: ∀(k:Nat) (a:aO) (ds:List vN),OB c f c.certs.list.length k a ds-> ∃c':aQ,aH dS (stP c f c.certs.list.length a ds)=some (.done (c',0))/\aH cS (stR c f c.certs.list.length a ds)=some (c',0)/\bJ c'/\c'.field.points=f/\c'.now=c.now/\c'.certs=c.certs:=by
   intro k a ds inv;have e1:decide ((c.certs.list.length:Int)<(c.certs.list.length:Int))=false:=aL (by omega)
   have hk:c.due.length-k=0:=by
    have:=inv.old
    rw [List.drop_length] at this
    have:c.due.drop k=[]:=this
    rw [List.drop_eq_nil_iff] at this;omega
   have new:=inv.new;rw [List.take_length] at new;refine ⟨⟨c.now,⟨f⟩,c.certs,a,ds⟩,aI ?_,aI ?_,⟨ok.nowv,ok.now64,fok,ok.crt,inv.ok,inv.w2,?_,kn,new⟩,rfl,rfl,rfl⟩
   · unfold dS stP
     simp only [e1,cond_false]
   · unfold cS stR
     simp only [aF,e1,cond_false]
   · have:=inv.cnt
     show a.heap.length=ds.length;omega
  intro d
  induction d with
  |zero=>
   intro i k a ds hd hi inv hds
   have:i=c.certs.list.length:=by omega
   subst this;exact .inr (fin k a ds inv)
  |succ d ih=>
   intro i k a ds hd hi inv hds
   by_cases he:i=c.certs.list.length
   · subst he;exact .inr (fin k a ds inv)
   rcases aDt ok fok kn inv (by omega) hds with ⟨h1,h2⟩|⟨k',a',ds',h1,h2,h3,h4⟩
   · exact .inl ⟨aI h1,aI h2⟩
   · rw [aU h1,aU h2]
     exact ih (i+1) k' a' ds' (by omega) (by omega) h3 h4
 have start:=run c.certs.list.length 0 0 c.agenda [] (by omega) (by omega) ⟨ok.agd,ok.w200,rfl,by rw [List.drop_zero,List.drop_zero];exact ok.fol,by omega,by have:=ok.hd;simp;omega⟩ (by simp)
 have hc:iB c=some 0:=by rw [oJ ok.fit,if_pos ok]
 have hf:dY ⟨f⟩=some 0:=by rw [gP];exact congrArg some (eH.2 fok)
 have tw:=nM ok;have tw':oD (aQ.mk (c.now.1,c.now.2) (Field.mk c.field.points) (bG.mk c.certs.next_ c.certs.list) (aO.mk (aX.mk c.agenda.slots.uses c.agenda.slots.used c.agenda.slots.free) c.agenda.heap c.agenda.where_) c.due)=some c:=tw
 have first:aH lR (c.certs.list,(c.certs.list.length:Int),0,c.now.1,c.now.2,c.field.points,c.certs.next_,c.certs.list,c.agenda.slots.uses,c.agenda.slots.used,c.agenda.slots.free,c.agenda.heap,c.agenda.where_,c.due,f,0,0,0)=
  aH lR (c.certs.list,(c.certs.list.length:Int),(c.certs.list.length:Int),c.now.1,c.now.2,c.field.points,c.certs.next_,c.certs.list,c.agenda.slots.uses,c.agenda.slots.used,c.agenda.slots.free,c.agenda.heap,c.agenda.where_,c.due,f,0,0,0):=by
  refine cE (body:=lR) (fun i=>(c.certs.list,(c.certs.list.length:Int),(i:Int),c.now.1,c.now.2,c.field.points,c.certs.next_,c.certs.list,c.agenda.slots.uses,c.agenda.slots.used,c.agenda.slots.free,c.agenda.heap,c.agenda.where_,c.due,f,0,0,0)) c.certs.list.length (fun i hi=>?_)
  have e1:decide ((i:Int)<(c.certs.list.length:Int))=true:=aN (by omega)
  unfold lR;simp only [e1,cond_true,aB c.certs.list i hi,aC,oI fok,aL (SD fok (kn i hi).1),aL (SD fok (kn i hi).2),cond_false,bA (show i<1000000000 by omega)]
 have second: ∀r,aH dS (stP c f 0 c.agenda [])=some (.done r)->qQ c ⟨f⟩=some r:=by
  intro r hr;unfold qQ;simp only [hc,aC,show ((0:Int) !=0)=false from rfl,cond_false,hf,aF];rw [first]
  refine aI ?_;unfold lR;have e1:decide ((c.certs.list.length:Int)<(c.certs.list.length:Int))=false:=aL (by omega)
  simp only [aF,e1,cond_false,tw',aC,bD (show f.length<=1048576 by omega)]
  exact hr
 have third: ∀r,aH cS (stR c f 0 c.agenda [])=some r->nF c ⟨f⟩=some r:=by
  intro r hr;unfold nF kO;simp only [kZ ok,aC,bD (show f.length<=1048576 by omega)]
  exact hr
 rcases start with ⟨h1,h2⟩|⟨c',h1,h2,h3⟩
 · exact .inl ⟨second _ h1,third _ h2⟩
 · exact .inr ⟨c',second _ h1,third _ h2,h3⟩
end
end Go.Proofs.YtfejhjllooomlaaGreat
namespace Go.Proofs.YtfejhjllooomlaaGreat
open Go.Vm Classical
theorem nN (l:List (Int×Int)) (x:Int×Int) (hl:l.length<=1000000):fX l x=some (decide (x∈l)):=by
 unfold fX rN;have key:=mG (body:=kM) (fun i=>(l,(l.length:Int),(i:Int),x)) l.length (fun i=>l[i]! =x) (fun i=>(i:Int)) (e:= -1) (fun i hi=>by
  have e1:decide ((i:Int)<(l.length:Int))=true:=aN (by omega)
  unfold kM;simp only [e1,cond_true,aB l i hi,aC,bA (show i<1000000000 by omega)]
  generalize l[i]! =y;constructor
  · intro h;rw [fY (congrArg Prod.fst h.symm),fY (congrArg Prod.snd h.symm)];rfl
  · intro h
    by_cases h1:x.1=y.1
    · rw [fY h1,fD (fun h2=>h (Prod.ext h1.symm h2.symm))];rfl
    · rw [fD h1];rfl) (by
  unfold kM
  have:decide ((l.length:Int)<(l.length:Int))=false:=aL (by omega)
  simp only [this,cond_false])
 rw [aF]
 by_cases hx:x∈l
 · obtain ⟨i,hi,he⟩:=aY.1 hx
   obtain ⟨k,h1,h2,h3⟩:=DF (c:=fun i=>l[i]! =x) ⟨i,hi,he⟩
   have:=key.1 k h1 h2 h3
   rw [show ((0:Nat):Int)=0 from rfl] at this;rw [this,aN hx];simp only [aC,aN (show (0:Int)<=(k:Int) by omega)]
 · have:=key.2 fun i hi he=>hx (aY.2 ⟨i,hi,he⟩)
   rw [show ((0:Nat):Int)=0 from rfl] at this;rw [this,aL hx];rfl
theorem KL (l:List (Int×Int)) (x:Int×Int) (hl:l.length<=1000000):HL l x=some (decide (x∈l)):=by
 unfold HL;have key:=dK (body:=yE) (fun i=>(l,(i:Int),x)) l.length (fun i=>l[i]! =x) (r:=true) (e:=false) (fun i hi=>by
  have e1:decide ((i:Int)<(l.length:Int))=true:=aN (by omega)
  unfold yE;simp only [aF,e1,cond_true,aB l i hi,aC,bA (show i<1000000000 by omega)]
  generalize l[i]! =y;constructor
  · intro h;rw [fY (congrArg Prod.fst h),fY (congrArg Prod.snd h)];rfl
  · intro h
    by_cases h1:y.1=x.1
    · rw [fY h1,fD (fun h2=>h (Prod.ext h1 h2))];rfl
    · rw [fD h1];rfl) (by
  unfold yE
  have:decide ((l.length:Int)<(l.length:Int))=false:=aL (by omega)
  simp only [aF,this,cond_false])
 by_cases hx:x∈l
 · rw [aN hx];exact key.1 (aY.1 hx)
 · rw [aL hx];exact key.2 fun i hi he=>hx (aY.2 ⟨i,hi,he⟩)
theorem aDu (x y:vN):((x.1==y.1)&&((x.2.1==y.2.1)&&(x.2.2==y.2.2)))=decide (x=y):=by
 rw [Bool.eq_iff_iff,decide_eq_true_iff];simp only [Bool.and_eq_true,beq_iff_eq];constructor
 · rintro ⟨h1,h2,h3⟩;exact Prod.ext h1 (Prod.ext h2 h3)
 · rintro rfl;exact ⟨rfl,rfl,rfl⟩
theorem DP (a b:List vN) (hl:a.length<=1000000):mN ⟨a⟩ ⟨b⟩=some (decide (a=b)):=by
 unfold mN;simp only [aF]
 by_cases h:a.length=b.length
 case neg=>rw [eT (by omega),aL (fun k=>h (by rw [k]))];rfl
 rw [bO (by omega)]
 simp only [cond_false];have key:=dK (body:=tL) (fun i=>((i:Int),a,b)) a.length (fun i=> ¬a[i]! =b[i]!) (r:=false) (e:=true) (fun i hi=>by
  have e1:decide ((i:Int)<(a.length:Int))=true:=aN (by omega)
  unfold tL;simp only [aF,e1,cond_true,aB a i hi,aB b i (by omega),aC,bA (show i<1000000000 by omega),aDu]
  constructor
  · intro h;rw [aL h];rfl
  · intro h;rw [aN (Classical.not_not.1 h)];rfl) (by
  unfold tL
  have:decide ((a.length:Int)<(a.length:Int))=false:=aL (by omega)
  simp only [aF,this,cond_false])
 by_cases he:a=b
 · rw [aN he]
   exact key.2 fun i hi=>Classical.not_not.2 (by rw [he])
 · rw [aL he]
   refine key.1 (Classical.byContradiction fun hx=>he (HR h fun i hi=>?_))
   exact Classical.byContradiction fun hn=>hx ⟨i,hi,hn⟩
theorem ID (a b:List vN) (hl:a.length<=1000000):mQ a b=some (decide (a=b)):=by
 unfold mQ;simp only [aF]
 by_cases h:a.length=b.length
 case neg=>rw [eT (by omega),aL (fun k=>h (by rw [k]))];rfl
 rw [bO (by omega)]
 simp only [cond_false];have key:=dK (body:=jS) (fun i=>(a,b,(a.length:Int),(i:Int))) a.length (fun i=> ¬a[i]! =b[i]!) (r:=false) (e:=true) (fun i hi=>by
  have e1:decide ((i:Int)<(a.length:Int))=true:=aN (by omega)
  unfold jS;simp only [e1,cond_true,aB a i hi,aB b i (by omega),aC,bA (show i<1000000000 by omega),aDu]
  constructor
  · intro h;rw [aL h];rfl
  · intro h;rw [aN (Classical.not_not.1 h)];rfl) (by
  unfold jS
  have:decide ((a.length:Int)<(a.length:Int))=false:=aL (by omega)
  simp only [this,cond_false])
 by_cases he:a=b
 · rw [aN he]
   exact key.2 fun i hi=>Classical.not_not.2 (by rw [he])
 · rw [aL he]
   refine key.1 (Classical.byContradiction fun hx=>he (HR h fun i hi=>?_))
   exact Classical.byContradiction fun hn=>hx ⟨i,hi,hn⟩
theorem aBl {cs:List vN} {m:Nat} {x:vN} (hx:x∈cs) (hne:x.1≠(cs[m]!).1):x∈cs.eraseIdx m:=by
 obtain ⟨j,hj,rfl⟩:=aY.1 hx;have hjm:j≠m:=fun h=>hne (by rw [h])
 rw [xK,List.mem_append]
 by_cases h:j<m
 · exact .inl (cP.2 ⟨j,h,hj,rfl⟩)
 · right
   rw [aY];refine ⟨j- (m+1),by rw [List.length_drop];omega,?_⟩
   rw [sX]
   congr 1;omega
def kP (c0:aQ) (f:List Pt) (es:List (Int×Int)) (i:Nat) (c:aQ):=
 (es,c0.certs.list,(c0.certs.list.length:Int),(i:Int),c.now.1,c.now.2,c.field.points,c.certs.next_,c.certs.list,c.agenda.slots.uses,c.agenda.slots.used,c.agenda.slots.free,c.agenda.heap,c.agenda.where_,c.due,f,(0:Int),(0:Int),(0:Int))
def kR (c0:aQ) (f:List Pt) (es:List (Int×Int)) (i:Nat) (c:aQ):=
 (es,(i:Int),c0.now.1,c0.now.2,c0.field.points,c0.certs.next_,c0.certs.list,c0.agenda.slots.uses,c0.agenda.slots.used,c0.agenda.slots.free,c0.agenda.heap,c0.agenda.where_,c0.due,f,(0:Int),(0:Int),(0:Int),c.now.1,c.now.2,c.field.points,c.certs.next_,c.certs.list,c.agenda.slots.uses,c.agenda.slots.used,c.agenda.slots.free,c.agenda.heap,c.agenda.where_,c.due)
def eP (es:List (Int×Int)) (i:Nat) (c:aQ):=
 (es,(es.length:Int),(i:Int),c.now.1,c.now.2,c.field.points,c.certs.next_,c.certs.list,c.agenda.slots.uses,c.agenda.slots.used,c.agenda.slots.free,c.agenda.heap,c.agenda.where_,c.due,(0:Int),(0:Int),(0:Int))
def eR (es:List (Int×Int)) (i:Nat) (c:aQ):=
 (es,(i:Int),(0:Int),(0:Int),(0:Int),c.now.1,c.now.2,c.field.points,c.certs.next_,c.certs.list,c.agenda.slots.uses,c.agenda.slots.used,c.agenda.slots.free,c.agenda.heap,c.agenda.where_,c.due)
def IE (c:aQ):Int:=c.certs.next_- (c.certs.list.length:Int)
structure P6 (c:aQ) (f:List Pt) (es:List (Int×Int)) (r:aQ):Prop where
 has: ∀e∈es,wK r.certs.list e
 sub: ∀x∈r.certs.list,x.2∈es
 ok:bJ r
 fld:r.field.points=f
 now:r.now=c.now
 room:IE c<=IE r
def P7 (c:aQ) (k:Nat):Prop:=c.certs.list.length<=k/\c.certs.next_<=k/\ ∀j,j<c.agenda.slots.uses.length->c.agenda.slots.uses[j]!<=k
theorem aZ.len {l:List Pt} {t:Int×Int} {H:List Ev}: ∀{cs ds:List vN},aZ l t H cs ds->ds.length<=cs.length
 | [],ds,h=>by rw [show ds=[] from h];exact Nat.le_refl _
 |x::cs,ds,h=>by
  cases hy:(bN l x.2 t).2 with
  |true=>
   obtain ⟨d,ds',rfl,_,_,h4⟩:=h.1 hy;exact Nat.succ_le_succ h4.len
  |false=>exact Nat.le_succ_of_le (h.2 hy).len
theorem P7.not_full {c:aQ} (ok:bJ c) {k:Nat} (h:P7 c k) (hk:k<=199): ¬(HZ c.certs\/ ¬CF c.agenda.slots):=by
 obtain ⟨h1,h2,h3⟩:=h;have fl:=ok.fol.len;have hd:=ok.hd;have hl:=ok.agd.hl;have wl:=ok.agd.wl;have w2:=ok.w200;rintro (h|h)
 · rcases h with h|h<;>omega
 · refine h ⟨by omega,?_⟩
   have:=h3 _ (EK ok.agd.so (by omega)).1
   omega
theorem P7.more {c c':aQ} {k:Nat} (h:P7 c k) {x:Int×Int} (hc:c'.certs=rY c.certs x) (hs:c'.agenda.slots=c.agenda.slots\/c'.agenda.slots=iD c.agenda.slots):P7 c' (k+1):=by
 obtain ⟨h1,h2,h3⟩:=h;refine ⟨?_,?_,fun j hj=>?_⟩
 · rw [hc]
   show (c.certs.list++[(c.certs.next_,x)]).length<=_;rw [List.length_append,List.length_singleton];omega
 · rw [hc]
   show c.certs.next_+1<=_;omega
 · rcases hs with e|e
   · rw [e] at hj ⊢
     have:=h3 j hj;omega
   · rw [e] at hj ⊢
     change j<(c.agenda.slots.uses.set _ _).length at hj;rw [List.length_set] at hj;show (c.agenda.slots.uses.set (dC c.agenda.slots) (c.agenda.slots.uses[dC c.agenda.slots]!+1))[j]!<=_;rw [bF];split
     · rename_i h;have:=h3 _ h.2;omega
     · have:=h3 j hj;omega
structure IF (f:List Pt) (es:List (Int×Int)):Prop where
 len:es.length<=1000000
 cv: ∀x∈es,gA x
 kn: ∀x∈es,kY f x
theorem aDv {c0:aQ} (ok0:bJ c0) {f:List Pt} {es:List (Int×Int)} (eok:IF f es):
 ∀(d i:Nat) (c:aQ),c0.certs.list.length-i<=d->i<=c0.certs.list.length->bJ c->(∀x∈c0.certs.list.drop i,x∈c.certs.list)->(∀x∈c.certs.list,x∈c0.certs.list.drop i\/x.2∈es)->
  ∃c':aQ,aH dH (kP c0 f es i c)=aH dH (kP c0 f es c0.certs.list.length c')/\aH dR (kR c0 f es i c)=aH dR (kR c0 f es c0.certs.list.length c')/\bJ c'/\(∀x∈c'.certs.list,x.2∈es)/\c'.field=c.field/\c'.now=c.now/\IE c<=IE c':=by
 have bd:=ok0.bd;intro d
 induction d with
 |zero=>
  intro i c hd hi ok h1 h2
  have:i=c0.certs.list.length:=by omega
  subst this;refine ⟨c,rfl,rfl,ok,fun x hx=>?_,rfl,rfl,Int.le_refl _⟩
  rcases h2 x hx with h|h
  · rw [List.drop_length] at h;cases h
  · exact h
 |succ d ih=>
  intro i c hd hi ok h1 h2
  by_cases he:i=c0.certs.list.length
  · subst he
    refine ⟨c,rfl,rfl,ok,fun x hx=>?_,rfl,rfl,Int.le_refl _⟩
    rcases h2 x hx with h|h
    · rw [List.drop_length] at h;cases h
    · exact h
  have hi':i<c0.certs.list.length:=by omega
  have e1:decide ((i:Int)<(c0.certs.list.length:Int))=true:=aN (by omega)
  have sc:=bA (show i<1000000000 by omega)
  have cg:=aB c0.certs.list i hi';have dr:=wR hi';have ceta:(aQ.mk (c.now.1,c.now.2) (Field.mk c.field.points) (bG.mk c.certs.next_ c.certs.list) (aO.mk (aX.mk c.agenda.slots.uses c.agenda.slots.used c.agenda.slots.free) c.agenda.heap c.agenda.where_) c.due)=c:=rfl
  by_cases hin:(c0.certs.list[i]!).2∈es
  · have s1:dH (kP c0 f es i c)=some (.next (kP c0 f es (i+1) c)):=by
     unfold dH kP;simp only [e1,cond_true,cg,aC,nN _ _ eok.len,aN hin,Bool.not_true,cond_false,sc]
    have s2:dR (kR c0 f es i c)=some (.next (kR c0 f es (i+1) c)):=by
     unfold dR kR;simp only [aF,e1,cond_true,cg,aC,KL _ _ eok.len,aN hin,Bool.not_true,cond_false,sc]
    rw [aU s1,aU s2];refine ih (i+1) c (by omega) (by omega) ok (fun x hx=>h1 x (by rw [dr];exact List.mem_cons_of_mem _ hx)) (fun x hx=>?_)
    rcases h2 x hx with h|h
    · rw [dr] at h
      rcases List.mem_cons.1 h with rfl|h
      · exact .inr hin
      · exact .inl h
    · exact .inr h
  · have hm:=h1 (c0.certs.list[i]!) (by rw [dr];exact List.mem_cons_self)
    obtain ⟨m,hm1,hm2⟩:=aY.1 hm;obtain ⟨c',r1,r2,r3,r4,r5,r6⟩:=aQg ok hm1;have rt:=K0 ok hm1 r1;rw [hm2] at r2 rt;have s1:dH (kP c0 f es i c)=some (.next (kP c0 f es (i+1) c')):=by
     unfold dH kP;simp only [e1,cond_true,cg,aC,nN _ _ eok.len,aL hin,Bool.not_false,sc,ceta,rt]
    have s2:dR (kR c0 f es i c)=some (.next (kR c0 f es (i+1) c')):=by
     unfold dR kR;simp only [aF,e1,cond_true,cg,aC,KL _ _ eok.len,aL hin,Bool.not_false,sc,ceta,r2]
    rw [aU s1,aU s2];have cl:c'.certs.list=c.certs.list.eraseIdx m:=by rw [r6];rfl
    have hroom:IE c<=IE c':=by
     unfold IE;rw [r6];show _<=c.certs.next_- (((c.certs.list.eraseIdx m).length:Nat):Int);rw [List.length_eraseIdx_of_lt hm1];omega
    have hs:(∀x∈c0.certs.list.drop (i+1),x∈c'.certs.list)/\(∀x∈c'.certs.list,x∈c0.certs.list.drop (i+1)\/x.2∈es):=by
     refine ⟨fun x hx=>?_,fun x hx=>?_⟩
     · rw [cl]
       refine aBl (h1 x (by rw [dr];exact List.mem_cons_of_mem _ hx)) ?_
       rw [hm2];exact IC ok0 hx hi'
     · rw [cl] at hx
       obtain ⟨a1,a2⟩:=BY ok.crt_up hm1 hx;rw [hm2] at a2;rcases h2 x a1 with h|h
       · rw [dr] at h
         rcases List.mem_cons.1 h with rfl|h
         · exact absurd rfl a2
         · exact .inl h
       · exact .inr h
    obtain ⟨d',q1,q2,q3,q4,q5,q6,q7⟩:=ih (i+1) c' (by omega) (by omega) r3 hs.1 hs.2
    exact ⟨d',q1,q2,q3,q4,q5.trans r4,q6.trans r5,by omega⟩
theorem VN {f:List Pt} (_fok:bX f) {es:List (Int×Int)} (eok:IF f es):
 ∀(d i:Nat) (c:aQ),es.length-i<=d->i<=es.length->bJ c->c.field.points=f->(∀x∈c.certs.list,x.2∈es)->(∀j,j<i->wK c.certs.list es[j]!)->
  ∃r:aQ×Int,aH dU (eP es i c)=some (.done r)/\aH eE (eR es i c)=some (.done r)/\(r.2=0/\P6 c f es r.1\/r=(fT,18))/\(∀k,P7 c k->k+(es.length-i)<=199->r.2=0):=by
 have el:=eok.len;have fin: ∀c:aQ,bJ c->c.field.points=f->(∀x∈c.certs.list,x.2∈es)->(∀j,j<es.length->wK c.certs.list es[j]!)-> ∃r:aQ×Int,aH dU (eP es es.length c)=some (.done r)/\aH eE (eR es es.length c)=some (.done r)/\(r.2=0/\P6 c f es r.1\/r=(fT,18))/\r.2=0:=by
  intro c ok hf hs hh;have e1:decide ((es.length:Int)<(es.length:Int))=false:=aL (by omega)
  refine ⟨(c,0),aI ?_,aI ?_,.inl ⟨rfl,fun e he=>by obtain ⟨j,hj,q⟩:=aY.1 he;rw [<- q];exact hh j hj,hs,ok,hf,rfl,Int.le_refl _⟩,rfl⟩
  · unfold dU eP
    simp only [e1,cond_false]
  · unfold eE eR
    simp only [aF,e1,cond_false]
 intro d
 induction d with
 |zero=>
  intro i c hd hi ok hf hs hh
  have:i=es.length:=by omega
  subst this;obtain ⟨r,q1,q2,q3,q4⟩:=fin c ok hf hs hh;exact ⟨r,q1,q2,q3,fun _ _ _=>q4⟩
 |succ d ih=>
  intro i c hd hi ok hf hs hh
  by_cases he:i=es.length
  · subst he
    obtain ⟨r,q1,q2,q3,q4⟩:=fin c ok hf hs hh;exact ⟨r,q1,q2,q3,fun _ _ _=>q4⟩
  have bd:=ok.bd;have hi':i<es.length:=by omega
  have e1:decide ((i:Int)<(es.length:Int))=true:=aN (by omega)
  have sc:=bA (show i<1000000000 by omega)
  have cg:=aB es i hi';have ceta:(aQ.mk (c.now.1,c.now.2) (Field.mk c.field.points) (bG.mk c.certs.next_ c.certs.list) (aO.mk (aX.mk c.agenda.slots.uses c.agenda.slots.used c.agenda.slots.free) c.agenda.heap c.agenda.where_) c.due)=c:=rfl;have ceta2:bG.mk c.certs.next_ c.certs.list=c.certs:=rfl;have hc:=N7 c.certs.list es[i]! (by omega)
  have hr:=BX c.certs es[i]! (by omega)
  by_cases hin:wK c.certs.list es[i]!
  · have s1:dU (eP es i c)=some (.next (eP es (i+1) c)):=by
     unfold dU eP;simp only [e1,cond_true,cg,aC,EQ,hc,aN hin,sc]
    have s2:eE (eR es i c)=some (.next (eR es (i+1) c)):=by
     unfold eE eR;simp only [aF,e1,cond_true,cg,aC,ceta2,hr,aN hin,sc]
    rw [aU s1,aU s2];obtain ⟨r,q1,q2,q3,q4⟩:=ih (i+1) c (by omega) (by omega) ok hf hs (fun j hj=>if q:j=i then by rw [q];exact hin else hh j (by omega))
    exact ⟨r,q1,q2,q3,fun k hk hl=>q4 k hk (by omega)⟩
  · have hb:kY c.field.points es[i]!:=by rw [hf];exact eok.kn _ (aR hi')
    rcases aKf ok (eok.cv _ (aR hi')) hb hin with ⟨r1,r2,full⟩|⟨c',r1,r2,r3,r4,r5,r6,r7⟩
    · refine ⟨(fT,18),aI ?_,aI ?_,.inr rfl,fun k hk hl=>absurd full (hk.not_full ok (by omega))⟩
      · unfold dU eP
        simp only [e1,cond_true,cg,aC,EQ,hc,aL hin,cond_false,ceta,r1,show ((18:Int) !=0)=true from rfl]
      · unfold eE eR
        simp only [aF,e1,cond_true,cg,aC,ceta2,hr,aL hin,cond_false,ceta,r2,show ((18:Int) !=0)=true from rfl]
    · have s1:dU (eP es i c)=some (.next (eP es (i+1) c')):=by
       unfold dU eP;simp only [e1,cond_true,cg,aC,EQ,hc,aL hin,cond_false,ceta,r1,show ((0:Int) !=0)=false from rfl,sc]
      have s2:eE (eR es i c)=some (.next (eR es (i+1) c')):=by
       unfold eE eR;simp only [aF,e1,cond_true,cg,aC,ceta2,hr,aL hin,cond_false,ceta,r2,show ((0:Int) !=0)=false from rfl,sc]
      rw [aU s1,aU s2];obtain ⟨r,q1,q2,q3,q6⟩:=ih (i+1) c' (by omega) (by omega) r3 (by rw [r4,hf]) (fun x hx=>by
       rw [r6] at hx;rcases List.mem_append.1 (show x∈c.certs.list++[(c.certs.next_,es[i]!)] from hx) with h|h
       · exact hs x h
       · rw [List.mem_singleton.1 h];exact aR hi') (fun j hj=>by
       rw [r6];show wK (c.certs.list++[(c.certs.next_,es[i]!)]) _
       by_cases q:j=i
       · rw [q];exact ⟨c.certs.list.length,by rw [List.length_append,List.length_singleton];omega,by rw [lW (Nat.le_refl _),Nat.sub_self];rfl⟩
       · obtain ⟨w,w1,w2⟩:=hh j (by omega)
         exact ⟨w,by rw [List.length_append];omega,by rw [kW w1];exact w2⟩)
      refine ⟨r,q1,q2,q3.imp (fun ⟨q4,q5⟩=>⟨q4,q5.has,q5.sub,q5.ok,q5.fld,q5.now.trans r5,Int.le_trans ?_ q5.room⟩) id,fun k hk hl=>q6 (k+1) (hk.more r6 r7) (by omega)⟩
      unfold IE;rw [r6];show _<=(c.certs.next_+1) - (((c.certs.list++[(c.certs.next_,es[i]!)]).length:Nat):Int);rw [List.length_append,List.length_singleton];omega
theorem aKh {c:aQ} (ok:bJ c) {f:List Pt} (fok:bX f) {es:List (Int×Int)} (eok:IF f es):
 ∃r:aQ×Int,oE c ⟨f⟩ es=some r/\nG c ⟨f⟩ es=some r/\(r.2=0/\P6 c f es r.1\/r=(fT,18)):=by
 have f64:=fok.1;obtain ⟨c',g1,g2,g3,g4,g5,g6,g7⟩:=aDv ok eok c.certs.list.length 0 c (by omega) (by omega) ok (fun x hx=>by rwa [List.drop_zero] at hx) (fun x hx=> .inl (by rwa [List.drop_zero]))
 have bd:=g3.bd;have e1:decide ((c.certs.list.length:Int)<(c.certs.list.length:Int))=false:=aL (by omega)
 have start1:oE c ⟨f⟩ es=aH dH (kP c f es 0 c):=rfl;have start2:nG c ⟨f⟩ es=aH dR (kR c f es 0 c):=by
  unfold nG;simp only [kZ ok,aC];rfl
 rw [start1,start2,g1,g2];have eq1:=ID c'.field.points f (by omega)
 have eq2:=DP c'.field.points f (by omega)
 have ceta:(aQ.mk (c'.now.1,c'.now.2) (Field.mk c'.field.points) (bG.mk c'.certs.next_ c'.certs.list) (aO.mk (aX.mk c'.agenda.slots.uses c'.agenda.slots.used c'.agenda.slots.free) c'.agenda.heap c'.agenda.where_) c'.due)=c':=rfl
 by_cases hf:c'.field.points=f
 · obtain ⟨r,i1,i2,i3,_⟩:=VN fok eok es.length 0 c' (by omega) (by omega) g3 hf g4 (fun j hj=>absurd hj (Nat.not_lt_zero j))
   refine ⟨r,aI ?_,aI ?_,i3.imp (fun ⟨q4,q5⟩=>⟨q4,q5.has,q5.sub,q5.ok,q5.fld,q5.now.trans g6,Int.le_trans g7 q5.room⟩) id⟩
   · unfold dH kP
     simp only [e1,cond_false,eq1,aN hf,aC,Bool.not_true];exact i1
   · unfold dR kR
     simp only [aF,e1,cond_false,eq2,aN hf,aC,Bool.not_true];exact i2
 · have kn: ∀i,i<c'.certs.list.length->kY f (c'.certs.list[i]!).2:=fun i hi=>eok.kn _ (g4 _ (aR hi))
   rcases aSX g3 fok kn with ⟨a1,a2⟩|⟨c2,a1,a2,a3,a4,a5,a6⟩
   · refine ⟨(fT,18),aI ?_,aI ?_,.inr rfl⟩
     · unfold dH kP
       simp only [e1,cond_false,eq1,aL hf,aC,Bool.not_false,cond_true,ceta,a1,show ((18:Int) !=0)=true from rfl]
     · unfold dR kR
       simp only [aF,e1,cond_false,eq2,aL hf,aC,Bool.not_false,cond_true,ceta,a2,show ((18:Int) !=0)=true from rfl]
   · obtain ⟨r,i1,i2,i3,_⟩:=VN fok eok es.length 0 c2 (by omega) (by omega) a3 a4 (by rw [a6];exact g4) (fun j hj=>absurd hj (Nat.not_lt_zero j))
     refine ⟨r,aI ?_,aI ?_,i3.imp (fun ⟨q4,q5⟩=>⟨q4,q5.has,q5.sub,q5.ok,q5.fld,(q5.now.trans a5).trans g6,Int.le_trans (Int.le_trans g7 (by unfold IE;rw [a6];exact Int.le_refl _)) q5.room⟩) id⟩
     · unfold dH kP
       simp only [e1,cond_false,eq1,aL hf,aC,Bool.not_false,cond_true,ceta,a1,show ((0:Int) !=0)=false from rfl];exact i1
     · unfold dR kR
       simp only [aF,e1,cond_false,eq2,aL hf,aC,Bool.not_false,cond_true,ceta,a2,show ((0:Int) !=0)=false from rfl];exact i2
end Go.Proofs.YtfejhjllooomlaaGreat
namespace Go.Proofs.YtfejhjllooomlaaGreat
open Go.Vm Classical
theorem OC {α:Type} [Inhabited α] {l:List α}:l.Nodup↔ ∀k,k<l.length->l[k]!∉l.take k:=by
 rw [bV];constructor
 · intro h k hk hm
   obtain ⟨i,h1,h2,h3⟩:=cP.1 hm;exact h i k h1 hk h3
 · intro h i j hij hj he
   exact h j hj (cP.2 ⟨i,hij,by omega,he⟩)
theorem IG {α:Type} [Inhabited α] {l:List α} {P:α->Prop}:(∀x∈l,P x)↔ ∀i,i<l.length->P l[i]!:=by
 constructor
 · intro h i hi;exact h _ (aR hi)
 · intro h x hx
   obtain ⟨i,hi,rfl⟩:=aY.1 hx;exact h i hi
theorem GJ {σ ρ:Type} {body:σ->Option (bZ σ ρ)} (st:Nat->σ) (n:Nat) (P:Nat->Prop) {r e:ρ} (h: ∀i,i<n->(¬P i->body (st i)=some (.done r))/\(P i->body (st i)=some (.next (st (i+1)))))
 (hend:body (st n)=some (.done e)):aH body (st 0)=some (if∀i,i<n->P i then e else r):=by
 have key:=dK (body:=body) st n (fun i=> ¬P i) (r:=r) (e:=e) (fun i hi=>⟨(h i hi).1,fun hn=>(h i hi).2 (Classical.not_not.1 hn)⟩) hend
 by_cases hx: ∀i,i<n->P i
 · rw [if_pos hx];exact key.2 fun i hi=>Classical.not_not.2 (hx i hi)
 · rw [if_neg hx]
   obtain ⟨i,h⟩:=Classical.not_forall.1 hx;obtain ⟨hi,hx⟩:=Classical.not_imp.1 h;exact key.1 ⟨i,hi,hx⟩
theorem FI {f:List Pt} (fok:bX f) (id:Int): ∃p e,cW ⟨f⟩ id=some (p,e)/\(e=0↔iT f id):=by
 have h1:=fok.1;have hc:dY ⟨f⟩=some 0:=by rw [gP];exact congrArg some (eH.2 fok)
 have bs:=wJ f id (by omega) (fun i j=>eL fok.2.2)
 unfold cW jB jN;rw [EP];simp only [hc,aC,show ((0:Int) !=0)=false from rfl,cond_false]
 by_cases h:iT f id
 · obtain ⟨k,hk,he⟩:=h
   rw [bs.1 k hk he];refine ⟨f[k]!,0,?_,fun _=>⟨k,hk,he⟩,fun _=>rfl⟩
   simp only [aC,Bool.not_true,cond_false,show ((0:Int) !=0)=false from rfl,aB f k hk]
 · obtain ⟨m,_,_,_,e⟩:=bs.2 (fun k hk he=>h ⟨k,hk,he⟩)
   rw [e];exact ⟨(0,0,0),6,rfl,fun h=>(by cases h),fun k=>absurd k h⟩
structure P8 (c:aQ):Prop where
 f:c.field.points.length<=1000000
 l:c.certs.list.length<=1000000
 d:c.due.length<=1000000
 h:c.agenda.heap.length<=1000000
 w:c.agenda.where_.length<=1000000
 s1:c.agenda.slots.uses.length<=1000000
 s2:c.agenda.slots.used.length<=1000000
 s3:c.agenda.slots.free.length<=1000000
theorem bJ.short {c:aQ} (ok:bJ c):P8 c:=by
 have bd:=ok.bd;have ab:=ok.agd.bd;have sl:=ok.agd.so.fl;have sn:=ok.agd.so.n2;have su:=ok.agd.so.ul;exact ⟨by omega,by omega,by omega,by omega,by omega,by omega,by omega,by omega⟩
theorem JS (l:List Int) (hl:l.length<=1000000):lV l l=some true:=by
 unfold lV;rw [bO rfl];refine (cE (body:=nQ) (fun i=>(l,l,(i:Int))) l.length fun i hi=>?_).trans (aI ?_)
 · have e1:decide ((i:Int)<(l.length:Int))=true:=aN (by omega)
   unfold nQ;simp only [aF,e1,cond_true,aB l i hi,aC,bA (show i<1000000000 by omega),bO rfl,cond_false]
 · unfold nQ
   have:decide ((l.length:Int)<(l.length:Int))=false:=aL (by omega)
   simp only [aF,this,cond_false]
theorem X5 (l:List Bool) (hl:l.length<=1000000):pT l l=some true:=by
 unfold pT;rw [bO rfl];refine (cE (body:=mS) (fun i=>(l,l,(i:Int))) l.length fun i hi=>?_).trans (aI ?_)
 · have e1:decide ((i:Int)<(l.length:Int))=true:=aN (by omega)
   unfold mS;simp only [aF,e1,cond_true,aB l i hi,aC,bA (show i<1000000000 by omega),beq_self_eq_true,Bool.not_true,cond_false]
 · unfold mS
   have:decide ((l.length:Int)<(l.length:Int))=false:=aL (by omega)
   simp only [aF,this,cond_false]
theorem X6 (c:bG) (hl:c.list.length<=1000000):BL c c=some true:=by
 unfold BL;rw [bO rfl,bO rfl];refine (cE (body:=tY) (fun i=>((i:Int),c.next_,c.list,c.next_,c.list)) c.list.length fun i hi=>?_).trans (aI ?_)
 · have e1:decide ((i:Int)<(c.list.length:Int))=true:=aN (by omega)
   unfold tY;simp only [aF,e1,cond_true,aB c.list i hi,aC,bA (show i<1000000000 by omega),beq_self_eq_true,Bool.and_self,Bool.not_true,cond_false]
 · unfold tY
   have:decide ((c.list.length:Int)<(c.list.length:Int))=false:=aL (by omega)
   simp only [aF,this,cond_false]
theorem VO (a:aO) (h1:a.heap.length<=1000000) (h2:a.where_.length<=1000000) (h3:a.slots.uses.length<=1000000) (h4:a.slots.used.length<=1000000) (h5:a.slots.free.length<=1000000):BM a a=some true:=by
 unfold BM GB;simp only [JS _ h3,X5 _ h4,JS _ h5,JS _ h2,aC,cond_true,Bool.not_true,cond_false];rw [bO rfl];refine (cE (body:=tZ) (fun i=>((i:Int),a.slots.uses,a.slots.used,a.slots.free,a.heap,a.where_,a.slots.uses,a.slots.used,a.slots.free,a.heap,a.where_)) a.heap.length fun i hi=>?_).trans (aI ?_)
 · have e1:decide ((i:Int)<(a.heap.length:Int))=true:=aN (by omega)
   unfold tZ;simp only [aF,e1,cond_true,aB a.heap i hi,aC,bA (show i<1000000000 by omega),beq_self_eq_true,Bool.and_self,Bool.not_true,cond_false]
 · unfold tZ
   have:decide ((a.heap.length:Int)<(a.heap.length:Int))=false:=aL (by omega)
   simp only [aF,this,cond_false]
theorem X7 {c:aQ} (sh:P8 c):BN c c=some true:=by
 have hd:=sh.d;unfold BN;simp only [beq_self_eq_true,Bool.and_self,Bool.not_true,cond_false,DP c.field.points c.field.points sh.f,X6 _ sh.l,VO _ sh.h sh.w sh.s1 sh.s2 sh.s3,aC,aN];rw [bO rfl]
 refine (cE (body:=uA) (fun i=>((i:Int),c.now.1,c.now.2,c.field.points,c.certs.next_,c.certs.list,c.agenda.slots.uses,c.agenda.slots.used,c.agenda.slots.free,c.agenda.heap,c.agenda.where_,c.due,c.now.1,c.now.2,c.field.points,c.certs.next_,c.certs.list,c.agenda.slots.uses,c.agenda.slots.used,c.agenda.slots.free,c.agenda.heap,c.agenda.where_,c.due)) c.due.length fun i hi=>?_).trans (aI ?_)
 · have e1:decide ((i:Int)<(c.due.length:Int))=true:=aN (by omega)
   unfold uA;simp only [aF,e1,cond_true,aB c.due i hi,aC,bA (show i<1000000000 by omega),beq_self_eq_true,Bool.and_self,Bool.not_true,cond_false]
 · unfold uA
   have:decide ((c.due.length:Int)<(c.due.length:Int))=false:=aL (by omega)
   simp only [aF,this,cond_false]
structure aDw (c:aQ):Prop where
 now:vC c.now
 at64: ∀w,w<c.agenda.heap.length->vC ((c.agenda.heap[w]!).1,(c.agenda.heap[w]!).2.1)
theorem VP (f:Field):uX f=some true\/(uX f=some false/\f.points.length<=70):=by
 unfold uX
 simp only [aF]
 by_cases h1:16<f.points.length
 · rw [aN (show (16:Int)<(f.points.length:Int) by omega)]
   by_cases h2:f.points.length<64
   · rw [aN (show (f.points.length:Int)<64 by omega)];exact .inl rfl
   · rw [aL (show¬(f.points.length:Int)<64 by omega)]
     by_cases h3:70<f.points.length
     · rw [aN (show (70:Int)<(f.points.length:Int) by omega)];exact .inl rfl
     · rw [aL (show¬(70:Int)<(f.points.length:Int) by omega)];exact .inr ⟨rfl,by omega⟩
 · rw [aL (show¬(16:Int)<(f.points.length:Int) by omega),aL (show¬(70:Int)<(f.points.length:Int) by omega)]
   exact .inr ⟨rfl,by omega⟩
theorem VQ (c:aQ):uY c=some true\/(uY c=some false/\P8 c):=by
 unfold uY DD DC
 simp only [aF]
 by_cases h1:40<c.certs.list.length
 · rw [aN (show (40:Int)<(c.certs.list.length:Int) by omega)];exact .inl rfl
 rw [aL (show¬(40:Int)<(c.certs.list.length:Int) by omega)]
 by_cases h2:40<c.due.length
 · rw [aN (show (40:Int)<(c.due.length:Int) by omega)];exact .inl rfl
 rw [aL (show¬(40:Int)<(c.due.length:Int) by omega)]
 rcases VP c.field with e|⟨e,hf⟩
 · rw [e];exact .inl rfl
 rw [e];simp only [cond_false,aC]
 by_cases a1:210<c.agenda.slots.uses.length
 · rw [aN (show (210:Int)<(c.agenda.slots.uses.length:Int) by omega)];exact .inl rfl
 rw [aL (show¬(210:Int)<(c.agenda.slots.uses.length:Int) by omega)]
 by_cases a2:210<c.agenda.slots.used.length
 · rw [aN (show (210:Int)<(c.agenda.slots.used.length:Int) by omega)];exact .inl rfl
 rw [aL (show¬(210:Int)<(c.agenda.slots.used.length:Int) by omega)]
 by_cases a3:210<c.agenda.slots.free.length
 · rw [aN (show (210:Int)<(c.agenda.slots.free.length:Int) by omega)];exact .inl rfl
 rw [aL (show¬(210:Int)<(c.agenda.slots.free.length:Int) by omega)]
 by_cases a4:210<c.agenda.heap.length
 · rw [aN (show (210:Int)<(c.agenda.heap.length:Int) by omega)];exact .inl rfl
 rw [aL (show¬(210:Int)<(c.agenda.heap.length:Int) by omega)]
 by_cases a5:210<c.agenda.where_.length
 · rw [aN (show (210:Int)<(c.agenda.where_.length:Int) by omega)];exact .inl rfl
 rw [aL (show¬(210:Int)<(c.agenda.where_.length:Int) by omega)]
 exact .inr ⟨rfl,⟨by omega,by omega,by omega,by omega,by omega,by omega,by omega,by omega⟩⟩
end Go.Proofs.YtfejhjllooomlaaGreat
namespace Go.Proofs.YtfejhjllooomlaaGreat
open Go.Vm Classical
theorem aKi (p q:Pt) (t:Int×Int):PS p q t=(p.2.1-q.2.1)*t.2+(p.2.2-q.2.2)*t.1:=rfl
end Go.Proofs.YtfejhjllooomlaaGreat
namespace Go.Proofs.YtfejhjllooomlaaGreat
open Go.Vm Classical
end Go.Proofs.YtfejhjllooomlaaGreat
namespace Go.Proofs.YtfejhjllooomlaaGreat
open Go.Vm Classical
theorem CH {p q:Pt} {t:Int×Int} (hp:gS p) (hq:gS q) (ht:vC t) (hr:cO t):eW p q t=some (decide (bK p q t),if p.1=q.1 then 2 else 0)\/(p.1=q.1/\eW p q t=some (false,2)):=by
 unfold eW;rw [zF ht,if_pos ⟨hp,hq,hr⟩]
 by_cases h:p.1=q.1
 · right;simp [h]
 · left
   simp only [h,if_false,aC,yP hp hq ht]
   have:decide (0<XQ p q t)=decide (bK p q t):=by simp only [NM]
   simp [this]
end Go.Proofs.YtfejhjllooomlaaGreat
namespace Go.Proofs.YtfejhjllooomlaaGreat
theorem qA {α:Type} [BEq α] [LawfulBEq α]: ∀{a b:List α},a.Nodup->(∀x∈a,x∈b)->b.length<=a.length->a.Perm b
 | [],b,_,_,hl=>by
  rw [List.eq_nil_of_length_eq_zero (show b.length=0 by simpa using hl)]
 |x::a,b,hd,h,hl=>by
  rw [List.nodup_cons] at hd;have hx:=h x List.mem_cons_self;have ih:=qA (a:=a) (b:=b.erase x) hd.2 (fun y hy=>by
   rw [List.mem_erase_of_ne (fun e=>hd.1 (by rw [<- e];exact hy))]
   exact h y (List.mem_cons_of_mem _ hy)) (by
   rw [List.length_erase_of_mem hx];rw [List.length_cons] at hl
   omega)
  exact (List.Perm.cons x ih).trans (List.perm_cons_erase hx).symm
theorem BZ {α β:Type} {f:α->β}: ∀{l:List α},l.Nodup->(∀x∈l,∀y∈l,f x=f y->x=y)->(l.map f).Nodup
 | [],_,_=>List.nodup_nil
 |x::l,h,hi=>by
  rw [List.nodup_cons] at h;rw [List.map_cons,List.nodup_cons];refine ⟨fun hm=>?_,BZ h.2 fun y hy z hz=>hi y (List.mem_cons_of_mem _ hy) z (List.mem_cons_of_mem _ hz)⟩
  obtain ⟨y,hy,e⟩:=List.mem_map.1 hm
  have:=hi y (List.mem_cons_of_mem _ hy) x List.mem_cons_self e
  rw [this] at hy;exact h.1 hy
end Go.Proofs.YtfejhjllooomlaaGreat
namespace Go.Proofs.YtfejhjllooomlaaGreat
open Go.Vm Classical
def vO (l:List Int) (k:Nat):List (Int×Int):=(List.range k).map fun i=>(l[i+1]!,l[i / 2]!)
abbrev dL (l:List Int):List (Int×Int):=vO l (l.length-1)
theorem lA (l:List Int) (k:Nat):(vO l k).length=k:=by unfold vO;rw [List.length_map,List.length_range]
theorem KM (l:List Int) (k:Nat):vO l (k+1)=vO l k++[(l[k+1]!,l[k / 2]!)]:=by
 unfold vO;rw [List.range_succ,List.map_append];rfl
theorem yS (l:List Int) {k i:Nat} (h:i<k):(vO l k)[i]! =(l[i+1]!,l[i / 2]!):=by
 rw [getElem!_pos _ i (by rw [lA];exact h)]
 unfold vO;rw [List.getElem_map,List.getElem_range]
theorem VS (l:List Int) (hl:l.length<=1000):yH l=some (dL l):=by
 unfold yH;have key:=cE (body:=rM) (fun i=>(l,((i+1:Nat):Int),vO l i)) (l.length-1) (fun i hi=>by
  have e:aA .i64 (Int.tdiv (aA .i64 (((i+1:Nat):Int) -1)) 2)=((i / 2:Nat):Int):=by
   rw [show aA .i64 (((i+1:Nat):Int) -1)=(i:Int) from by rw [gM ⟨by omega,by omega⟩];omega,Int.tdiv_eq_ediv_of_nonneg (by omega),gM ⟨by omega,by omega⟩];omega
  unfold rM;simp only [aF,aN (show ((i+1:Nat):Int)<(l.length:Int) by omega),cond_true,aB l (i+1) (by omega),e,aB l (i / 2) (by omega),aC]
  rw [dJ (by rw [lA,List.length_singleton];omega),aC,bA (show i+1<1000000000 by omega),<- KM])
 rw [show (l,(1:Int),([]:List (Int×Int)))=(l,((0+1:Nat):Int),vO l 0) from rfl,key];refine aI ?_;unfold rM;simp only [aF,aL (show¬((l.length-1+1:Nat):Int)<(l.length:Int) by omega),cond_false]
theorem aSY (l:List Int) (hl:l.length<=1000):AE l=some (dL l):=by rw [<- VS l hl];rfl
theorem JT {l:List Int} {e:Int×Int} (h:e∈dL l):e.1∈l/\e.2∈l:=by
 obtain ⟨i,hi,rfl⟩:=aY.1 h;rw [lA] at hi;rw [yS l hi];exact ⟨aR (by omega),aR (by omega)⟩
theorem aDx {l:List Int} (hd:l.Nodup) {e:Int×Int} (h:e∈dL l):e.1≠e.2:=by
 obtain ⟨i,hi,rfl⟩:=aY.1 h;rw [lA] at hi;rw [yS l hi];exact fun h=>bV.1 hd (i / 2) (i+1) (by omega) (by omega) h.symm
theorem DQ {l:List Int} (hd:l.Nodup):(dL l).Nodup:=by
 unfold dL vO;refine BZ List.nodup_range fun i hi j hj h=>?_
 rw [List.mem_range] at hi hj;have h1:l[i+1]! =l[j+1]!:=congrArg Prod.fst h;have h2:=bV.1 hd;rcases Nat.lt_trichotomy i j with k|k|k
 · exact absurd h1 (h2 (i+1) (j+1) (by omega) (by omega))
 · exact k
 · exact absurd h1.symm (h2 (j+1) (i+1) (by omega) (by omega))
theorem OD (l:List Int) (x:Int) (hl:l.length<=1000000):
 (∀k,k<l.length->l[k]! =x->(∀j,j<k->l[j]!≠x)->hM l x=some (k:Int))/\((∀k,k<l.length->l[k]!≠x)->hM l x=some (-1)):=by
 have k1:=mG (body:=lF) (fun i=>(l,x,(l.length:Int),(i:Int))) l.length (fun i=>l[i]! =x) (fun i=>(i:Int)) (e:= -1) (fun i hi=>by
  unfold lF;simp only [aN (show (i:Int)<(l.length:Int) by omega),cond_true,aB l i hi,aC,bA (show i<1000000000 by omega)]
  refine ⟨fun h=>?_,fun h=>?_⟩
  · rw [fY h.symm];rfl
  · rw [fD (fun k=>h k.symm)];rfl) (by
  unfold lF;simp only [aL (show¬(l.length:Int)<(l.length:Int) by omega),cond_false])
 exact ⟨fun k hk h1 h2=>k1.1 k hk h1 h2,fun h=>k1.2 h⟩
theorem SF (l:List Int) (x:Int) (hl:l.length<=1000000):lG l x=some (decide (x∈l)):=by
 unfold lG
 by_cases hx:x∈l
 · obtain ⟨k,k1,k2,k3⟩:=DF (c:=fun k=>l[k]! =x) (aY.1 hx)
   rw [(OD l x hl).1 k k1 k2 k3,aC,aN hx,aN (by omega)]
 · rw [(OD l x hl).2 (fun k hk h=>hx (aY.2 ⟨k,hk,h⟩)),aC,aL hx];rfl
theorem bT {f:List Pt} (fok:bX f) {id:Int} (h:iT f id):cW ⟨f⟩ id=some (bB f id,0):=by
 have h1:=fok.1;have hc:dY ⟨f⟩=some 0:=by rw [gP];exact congrArg some (eH.2 fok)
 have bs:=wJ f id (by omega) (fun i j=>eL fok.2.2)
 unfold cW jB jN;rw [EP];simp only [hc,aC,show ((0:Int) !=0)=false from rfl,cond_false];obtain ⟨k,hk,he⟩:=h;rw [bs.1 k hk he];simp only [aC,Bool.not_true,cond_false,show ((0:Int) !=0)=false from rfl,aB f k hk,ET fok.2.2 hk he]
theorem aDy {f:List Pt} (fok:bX f) {t:Int×Int} (r:cO t) (r64:vC t) {a b:Int} (ha:iT f a) (hb:iT f b) (hne:a≠b):yI ⟨f⟩ t a b=some (decide (bK (bB f a) (bB f b) t)):=by
 unfold yI;rw [bT fok ha,aC,bT fok hb,aC];obtain ⟨p1,p2⟩:=hU fok ha;obtain ⟨q1,q2⟩:=hU fok hb;rcases CH p1 q1 r64 r with h|⟨h,_⟩
 · rw [h,aC]
 · rw [p2,q2] at h;exact absurd h hne
theorem aKj {f:List Pt} (fok:bX f) {t:Int×Int} (r64:vC t) {x:Int×Int} (hb:kY f x):BJ x ⟨f⟩ t=some (decide (bK (bB f x.2) (bB f x.1) t)):=by
 obtain ⟨h1,h2⟩:=hb;obtain ⟨j,j1,j2,j3⟩:=GH fok h1;obtain ⟨k,k1,k2,k3⟩:=GH fok h2;unfold BJ;simp only [j2,k2,aC,aB f j j1,aB f k k1,j3,k3,U1 (hU fok h2).1 (hU fok h1).1 r64]
end Go.Proofs.YtfejhjllooomlaaGreat
namespace Go.Proofs.YtfejhjllooomlaaGreat
open Go.Vm Classical
def oK (f:List Pt):List Int:=f.map fun p=>p.1
theorem nO {f:List Pt} (h:gU f):(oK f).Nodup:=by
 refine BZ ?_ ?_
 · exact bV.2 fun i j hij hj e=>by have:=eL h hij hj;rw [e] at this;omega
 · intro x hx y hy e
   obtain ⟨i,hi,rfl⟩:=aY.1 hx;obtain ⟨j,hj,rfl⟩:=aY.1 hy;rw [GD h hi hj e]
theorem oW {f:List Pt} {id:Int}:id∈oK f↔iT f id:=by
 unfold oK iT;rw [List.mem_map];constructor
 · rintro ⟨p,hp,rfl⟩
   obtain ⟨i,hi,rfl⟩:=aY.1 hp;exact ⟨i,hi,rfl⟩
 · rintro ⟨i,hi,rfl⟩
   exact ⟨f[i]!,aR hi,rfl⟩
structure lZ (k:bM):Prop where
 clk:bJ k.clock
 perm:(oK k.clock.field.points).Perm k.heap
 cert:(k.clock.certs.list.map fun x=>x.2).Perm (dL k.heap)
 lead: ∀e∈dL k.heap,bK (bB k.clock.field.points e.2) (bB k.clock.field.points e.1) k.clock.now
theorem KN {c:bG} (ok:fK c):(c.list.map fun x=>x.2).Nodup:=by
 refine BZ ?_ ?_
 · exact bV.2 fun i j hij hj e=>ok.nd i j hij hj (by rw [e])
 · intro x hx y hy e
   obtain ⟨i,hi,rfl⟩:=aY.1 hx;obtain ⟨j,hj,rfl⟩:=aY.1 hy;rcases Nat.lt_trichotomy i j with k|k|k
   · exact absurd e (ok.nd i j k hj)
   · rw [k]
   · exact absurd e.symm (ok.nd j i k hi)
def aDz (k:bM):Prop:=(∀i,i<k.clock.field.points.length->(k.clock.field.points[i]!).1∈k.heap)/\(dL k.heap).length=k.clock.certs.list.length/\
 ∀i,i<k.clock.certs.list.length->(k.clock.certs.list[i]!).2∈dL k.heap/\bK (bB k.clock.field.points (k.clock.certs.list[i]!).2.2) (bB k.clock.field.points (k.clock.certs.list[i]!).2.1) k.clock.now
def VT (k:bM):Prop:=(∀i,i<k.heap.length->iT k.clock.field.points k.heap[i]!/\ ∀j,j<i->k.heap[j]!≠k.heap[i]!)/\k.clock.certs.list.length=(dL k.heap).length/\
 ∀i,i<(dL k.heap).length->wK k.clock.certs.list (dL k.heap)[i]!/\bK (bB k.clock.field.points ((dL k.heap)[i]!).2) (bB k.clock.field.points ((dL k.heap)[i]!).1) k.clock.now
theorem vD {l:List vN} {x:Int×Int}:wK l x↔x∈l.map fun y=>y.2:=by
 unfold wK;rw [List.mem_map];constructor
 · rintro ⟨i,hi,rfl⟩;exact ⟨l[i]!,aR hi,rfl⟩
 · rintro ⟨y,hy,rfl⟩
   obtain ⟨i,hi,rfl⟩:=aY.1 hy;exact ⟨i,hi,rfl⟩
theorem aSZ {k:bM} (ok:bJ k.clock) (hl:k.heap.length=k.clock.field.points.length):aDz k↔lZ k:=by
 have nd:=nO ok.fld.2.2;have il:(oK k.clock.field.points).length=k.clock.field.points.length:=List.length_map ..;have cl:(k.clock.certs.list.map fun x=>x.2).length=k.clock.certs.list.length:=List.length_map ..
 have cn:=KN ok.crt;constructor
 · rintro ⟨h1,h2,h3⟩
   have pm:(oK k.clock.field.points).Perm k.heap:=qA nd (fun x hx=>by
    obtain ⟨i,hi,rfl⟩:=oW.1 hx;exact h1 i hi) (by omega)
   have pc:(k.clock.certs.list.map fun x=>x.2).Perm (dL k.heap):=qA cn (fun x hx=>by
    obtain ⟨i,hi,rfl⟩:=vD.2 hx;exact (h3 i hi).1) (by omega)
   refine ⟨ok,pm,pc,fun e he=>?_⟩
   obtain ⟨i,hi,rfl⟩:=vD.2 (pc.mem_iff.2 he);exact (h3 i hi).2
 · intro h
   refine ⟨fun i hi=>h.perm.mem_iff.1 (oW.2 ⟨i,hi,rfl⟩),by rw [<- h.cert.length_eq,cl],fun i hi=>?_⟩
   have:=h.cert.mem_iff.1 (vD.1 ⟨i,hi,rfl⟩)
   exact ⟨this,h.lead _ this⟩
theorem aS0 {k:bM} (ok:bJ k.clock) (hl:k.heap.length=k.clock.field.points.length):VT k↔lZ k:=by
 have nd:=nO ok.fld.2.2;have il:(oK k.clock.field.points).length=k.clock.field.points.length:=List.length_map ..;have cl:(k.clock.certs.list.map fun x=>x.2).length=k.clock.certs.list.length:=List.length_map ..
 constructor
 · rintro ⟨h1,h2,h3⟩
   have hn:k.heap.Nodup:=bV.2 fun i j hij hj e=>(h1 j hj).2 i hij e
   have pm:k.heap.Perm (oK k.clock.field.points):=qA hn (fun x hx=>by
    obtain ⟨i,hi,rfl⟩:=aY.1 hx;exact oW.2 (h1 i hi).1) (by omega)
   have pc:(dL k.heap).Perm (k.clock.certs.list.map fun x=>x.2):=qA (DQ hn) (fun x hx=>by
    obtain ⟨i,hi,rfl⟩:=aY.1 hx;exact vD.1 (h3 i hi).1) (by omega)
   refine ⟨ok,pm.symm,pc.symm,fun e he=>?_⟩
   obtain ⟨i,hi,rfl⟩:=aY.1 he;exact (h3 i hi).2
 · intro h
   have hn:k.heap.Nodup:=h.perm.nodup_iff.1 nd;refine ⟨fun i hi=>⟨oW.1 (h.perm.mem_iff.2 (aR hi)),fun j hj e=>bV.1 hn j i hj hi e⟩,by rw [<- h.cert.length_eq,cl],fun i hi=>?_⟩
   exact ⟨vD.2 (h.cert.mem_iff.2 (aR hi)),h.lead _ (aR hi)⟩
theorem SG {α:Type} {p q:Prop} [Decidable p] [Decidable q] {a b:α} (h:p↔q):(if p then a else b)=if q then a else b:=by
 by_cases hp:p
 · rw [if_pos hp,if_pos (h.1 hp)]
 · rw [if_neg hp,if_neg (fun k=>hp (h.2 k))]
theorem xN {k:bM} (fit:xM k.clock) (hl:k.heap.length<=1000):qO k=some (if lZ k then 0 else 8):=by
 unfold qO;rw [oJ fit,aC]
 by_cases ok:bJ k.clock
 case neg=>rw [if_neg ok,if_neg (fun h=>ok h.clk)];rfl
 rw [if_pos ok,bO rfl,cond_false]
 by_cases hh:k.heap.length=k.clock.field.points.length
 case neg=>
  rw [eT (by rw [aF,aF];omega),cond_true,if_neg (fun h=>hh ?_)]
  rw [<- h.perm.length_eq];exact List.length_map ..
 rw [bO (by rw [aF,aF];omega),cond_false,<- SG (aSZ ok hh)]
 have bd:=ok.bd;have inner:=GJ (body:=rO) (fun i=>(dL k.heap,k.clock.certs.list,(k.clock.certs.list.length:Int),(i:Int),k.clock.now.1,k.clock.now.2,k.clock.field.points,k.clock.certs.next_,k.clock.certs.list,k.clock.agenda.slots.uses,k.clock.agenda.slots.used,k.clock.agenda.slots.free,k.clock.agenda.heap,k.clock.agenda.where_,k.clock.due,k.heap)) k.clock.certs.list.length
  (fun i=>(k.clock.certs.list[i]!).2∈dL k.heap/\bK (bB k.clock.field.points (k.clock.certs.list[i]!).2.2) (bB k.clock.field.points (k.clock.certs.list[i]!).2.1) k.clock.now) (r:= .done 8) (e:= .done 0) (fun i hi=>by
  have hb:=ok.known i hi;have hv:=ok.crt.cv i hi;unfold rO;simp only [aN (show (i:Int)<(k.clock.certs.list.length:Int) by omega),cond_true,aB k.clock.certs.list i hi,aC,nN (dL k.heap) _ (by rw [lA];omega),aDy ok.fld (t:=(k.clock.now.1,k.clock.now.2)) ok.nowv ok.now64 hb.2 hb.1 (fun h=>hv.2.2.2.2 h.symm),bA (show i<1000000000 by omega)]
  by_cases h1:(k.clock.certs.list[i]!).2∈dL k.heap
  · rw [aN h1]
    by_cases h2:bK (bB k.clock.field.points (k.clock.certs.list[i]!).2.2) (bB k.clock.field.points (k.clock.certs.list[i]!).2.1) k.clock.now
    · rw [show decide (bK (bB k.clock.field.points (k.clock.certs.list[i]!).2.2) (bB k.clock.field.points (k.clock.certs.list[i]!).2.1) (k.clock.now.1,k.clock.now.2))=true from aN h2]
      exact ⟨fun h=>absurd ⟨h1,h2⟩ h,fun _=>rfl⟩
    · rw [show decide (bK (bB k.clock.field.points (k.clock.certs.list[i]!).2.2) (bB k.clock.field.points (k.clock.certs.list[i]!).2.1) (k.clock.now.1,k.clock.now.2))=false from aL h2]
      exact ⟨fun _=>rfl,fun h=>absurd h.2 h2⟩
  · rw [aL h1]
    exact ⟨fun _=>rfl,fun h=>absurd h.1 h1⟩) (by
  unfold rO;simp only [aL (show¬(k.clock.certs.list.length:Int)<(k.clock.certs.list.length:Int) by omega),cond_false])
 have outer:=GJ (body:=rQ) (fun i=>(k.clock.field.points,(k.clock.field.points.length:Int),(i:Int),k.clock.now.1,k.clock.now.2,k.clock.field.points,k.clock.certs.next_,k.clock.certs.list,k.clock.agenda.slots.uses,k.clock.agenda.slots.used,k.clock.agenda.slots.free,k.clock.agenda.heap,k.clock.agenda.where_,k.clock.due,k.heap)) k.clock.field.points.length
  (fun i=>(k.clock.field.points[i]!).1∈k.heap) (r:=8) (e:=if (dL k.heap).length=k.clock.certs.list.length/\ ∀i,i<k.clock.certs.list.length->(k.clock.certs.list[i]!).2∈dL k.heap/\bK (bB k.clock.field.points (k.clock.certs.list[i]!).2.2) (bB k.clock.field.points (k.clock.certs.list[i]!).2.1) k.clock.now then 0 else 8) (fun i hi=>by
  unfold rQ;simp only [aN (show (i:Int)<(k.clock.field.points.length:Int) by omega),cond_true,aB k.clock.field.points i hi,aC,SF k.heap _ (by omega),bA (show i<1000000000 by omega)]
  by_cases h1:(k.clock.field.points[i]!).1∈k.heap
  · rw [aN h1];exact ⟨fun h=>absurd h1 h,fun _=>rfl⟩
  · rw [aL h1];exact ⟨fun _=>rfl,fun h=>absurd h h1⟩) (by
  unfold rQ;simp only [aF,aL (show¬(k.clock.field.points.length:Int)<(k.clock.field.points.length:Int) by omega),cond_false,VS k.heap hl,aC]
  by_cases h1:(dL k.heap).length=k.clock.certs.list.length
  · rw [bO (by omega),cond_false]
    refine (show _=_ from inner).trans ?_
    by_cases h2: ∀i,i<k.clock.certs.list.length->(k.clock.certs.list[i]!).2∈dL k.heap/\bK (bB k.clock.field.points (k.clock.certs.list[i]!).2.2) (bB k.clock.field.points (k.clock.certs.list[i]!).2.1) k.clock.now
    · rw [if_pos h2,if_pos ⟨h1,h2⟩]
    · rw [if_neg h2,if_neg (fun h=>h2 h.2)]
  · rw [eT (by omega),cond_true,if_neg (fun h=>h1 h.1)])
 refine (show _=_ from outer).trans ?_
 by_cases h1: ∀i,i<k.clock.field.points.length->(k.clock.field.points[i]!).1∈k.heap
 · rw [if_pos h1]
   congr 1
   exact SG (q:=aDz k) ⟨fun h=>⟨h1,h.1,h.2⟩,fun h=>⟨h.2.1,h.2.2⟩⟩
 · rw [if_neg h1,if_neg (fun h:aDz k=>h1 h.1)]
theorem aKk {c:aQ} (ok:bJ c) (es:List (Int×Int)) (kn: ∀x∈es,kY c.field.points x):
 BK c es=some (decide (c.certs.list.length=es.length/\ ∀i,i<es.length->wK c.certs.list es[i]!/\bK (bB c.field.points (es[i]!).2) (bB c.field.points (es[i]!).1) c.now)):=by
 have bd:=ok.bd;unfold BK;simp only [aF]
 by_cases h0:c.certs.list.length=es.length
 case neg=>rw [eT (by omega),cond_true,aL (fun h=>h0 h.1)]
 rw [bO (by omega),cond_false]
 have key:=GJ (body:=tX) (fun i=>(es,(i:Int),c.now.1,c.now.2,c.field.points,c.certs.next_,c.certs.list,c.agenda.slots.uses,c.agenda.slots.used,c.agenda.slots.free,c.agenda.heap,c.agenda.where_,c.due)) es.length
  (fun i=>wK c.certs.list es[i]!/\bK (bB c.field.points (es[i]!).2) (bB c.field.points (es[i]!).1) c.now) (r:=false) (e:=true) (fun i hi=>by
  have ceta2:bG.mk c.certs.next_ c.certs.list=c.certs:=rfl;unfold tX;simp only [aF,aN (show (i:Int)<(es.length:Int) by omega),cond_true,aB es i hi,aC,ceta2,BX c.certs es[i]! (by omega),aKj ok.fld (t:=(c.now.1,c.now.2)) ok.now64 (kn _ (aR hi)),bA (show i<1000000000 by omega)]
  by_cases h1:wK c.certs.list es[i]!
  · rw [aN h1]
    by_cases h2:bK (bB c.field.points (es[i]!).2) (bB c.field.points (es[i]!).1) c.now
    · rw [show decide (bK (bB c.field.points (es[i]!).2) (bB c.field.points (es[i]!).1) (c.now.1,c.now.2))=true from aN h2]
      exact ⟨fun h=>absurd ⟨h1,h2⟩ h,fun _=>rfl⟩
    · rw [show decide (bK (bB c.field.points (es[i]!).2) (bB c.field.points (es[i]!).1) (c.now.1,c.now.2))=false from aL h2]
      exact ⟨fun _=>rfl,fun h=>absurd h.2 h2⟩
  · rw [aL h1]
    exact ⟨fun _=>rfl,fun h=>absurd h.1 h1⟩) (by
  unfold tX;simp only [aF,aL (show¬(es.length:Int)<(es.length:Int) by omega),cond_false])
 refine (show _=_ from key).trans ?_
 by_cases h2: ∀i,i<es.length->wK c.certs.list es[i]!/\bK (bB c.field.points (es[i]!).2) (bB c.field.points (es[i]!).1) c.now
 · rw [if_pos h2,aN ⟨h0,h2⟩]
 · rw [if_neg h2,aL (fun h=>h2 h.2)]
theorem aKl {σ ρ:Type} {body:σ->Option (bZ σ ρ)} (st:Nat->σ) (n:Nat) (P:Nat->Prop) {r:ρ} (h: ∀i,i<n->(¬P i->body (st i)=some (.done r))/\(P i->body (st i)=some (.next (st (i+1)))))
 (hx: ¬ ∀i,i<n->P i):aH body (st 0)=some r:=by
 obtain ⟨i,hi⟩:=Classical.not_forall.1 hx;obtain ⟨hi,hx⟩:=Classical.not_imp.1 hi;obtain ⟨m,m1,m2,m3⟩:=DF (c:=fun i=> ¬P i) ⟨i,hi,hx⟩
 rw [cE st m fun j hj=>(h j (by omega)).2 (Classical.not_not.1 (m3 j hj))]
 exact aI ((h m m1).1 m2)
def ckS (k:bM) (i:Nat):=((i:Int),k.clock.now.1,k.clock.now.2,k.clock.field.points,k.clock.certs.next_,k.clock.certs.list,k.clock.agenda.slots.uses,k.clock.agenda.slots.used,k.clock.agenda.slots.free,k.clock.agenda.heap,k.clock.agenda.where_,k.clock.due,k.heap)
theorem DR {k:bM} (fit:xM k.clock) (hl:k.heap.length<=1000):oG k=some (if lZ k then 0 else 8):=by
 unfold oG;rw [OA fit,aC]
 by_cases ok:bJ k.clock
 case neg=>rw [if_neg ok,if_neg (fun h=>ok h.clk)];rfl
 rw [if_pos ok,bO rfl,cond_false]
 by_cases hh:k.heap.length=k.clock.field.points.length
 case neg=>
  rw [eT (by rw [aF,aF];omega),cond_true,if_neg (fun h=>hh ?_)]
  rw [<- h.perm.length_eq];exact List.length_map ..
 rw [bO (by rw [aF,aF];omega),cond_false,<- SG (aS0 ok hh)]
 have bd:=ok.bd;have step: ∀i,i<k.heap.length->(¬(iT k.clock.field.points k.heap[i]!/\ ∀j,j<i->k.heap[j]!≠k.heap[i]!)->jP (ckS k i)=some (.done 8))/\((iT k.clock.field.points k.heap[i]!/\ ∀j,j<i->k.heap[j]!≠k.heap[i]!)->jP (ckS k i)=some (.next (ckS k (i+1)))):=by
  intro i hi;unfold ckS;unfold jP;simp only [aF,aN (show (i:Int)<(k.heap.length:Int) by omega),cond_true,aB k.heap i hi,aC]
  by_cases h1:iT k.clock.field.points k.heap[i]!
  case neg=>
   rw [GI ok.fld h1];exact ⟨fun _=>rfl,fun h=>absurd h.1 h1⟩
  obtain ⟨m,m1,m2,m3⟩:=GH ok.fld h1;rw [m2];simp only [aC,aL (show¬(m:Int)<0 by omega),cond_false]
  have inner:=GJ (body:=rW) (fun j=>((i:Int),(j:Int),k.clock.now.1,k.clock.now.2,k.clock.field.points,k.clock.certs.next_,k.clock.certs.list,k.clock.agenda.slots.uses,k.clock.agenda.slots.used,k.clock.agenda.slots.free,k.clock.agenda.heap,k.clock.agenda.where_,k.clock.due,k.heap)) i
   (fun j=>k.heap[j]!≠k.heap[i]!) (r:= .done 8) (e:= .next (((i+1:Nat):Int),k.clock.now.1,k.clock.now.2,k.clock.field.points,k.clock.certs.next_,k.clock.certs.list,k.clock.agenda.slots.uses,k.clock.agenda.slots.used,k.clock.agenda.slots.free,k.clock.agenda.heap,k.clock.agenda.where_,k.clock.due,k.heap)) (fun j hj=>by
   unfold rW;simp only [aN (show (j:Int)<(i:Int) by omega),cond_true,aB k.heap j (by omega),aB k.heap i hi,aC,bA (show j<1000000000 by omega)]
   by_cases h:k.heap[j]! =k.heap[i]!
   · rw [fY h];exact ⟨fun _=>rfl,fun k=>absurd h k⟩
   · rw [fD h];exact ⟨fun k=>absurd h k,fun _=>rfl⟩) (by
   unfold rW;simp only [aL (show¬(i:Int)<(i:Int) by omega),cond_false,bA (show i<1000000000 by omega)])
  have inner':=(show _=_ from inner)
  by_cases h2: ∀j,j<i->k.heap[j]!≠k.heap[i]!
  · rw [if_pos h2] at inner'
    exact ⟨fun h=>absurd ⟨h1,h2⟩ h,fun _=>inner'⟩
  · rw [if_neg h2] at inner'
    exact ⟨fun _=>inner',fun h=>absurd h.2 h2⟩
 by_cases hP: ∀i,i<k.heap.length->iT k.clock.field.points k.heap[i]!/\ ∀j,j<i->k.heap[j]!≠k.heap[i]!
 · have jus:=aKk ok (dL k.heap) (fun x hx=>by
    obtain ⟨h1,h2⟩:=JT hx;obtain ⟨i,hi,e1⟩:=aY.1 h1;obtain ⟨j,hj,e2⟩:=aY.1 h2;exact ⟨e1▸(hP i hi).1,e2▸(hP j hj).1⟩)
   have o:=GJ (body:=jP) (ckS k) k.heap.length _ (r:=8) (e:=if VT k then 0 else 8) step (by
    have ceta:(aQ.mk (k.clock.now.1,k.clock.now.2) (Field.mk k.clock.field.points) (bG.mk k.clock.certs.next_ k.clock.certs.list) (aO.mk (aX.mk k.clock.agenda.slots.uses k.clock.agenda.slots.used k.clock.agenda.slots.free) k.clock.agenda.heap k.clock.agenda.where_) k.clock.due)=k.clock:=rfl;unfold jP ckS
    simp only [aF,aL (show¬(k.heap.length:Int)<(k.heap.length:Int) by omega),cond_false,aSY k.heap hl,aC,ceta,jus]
    by_cases h2:k.clock.certs.list.length=(dL k.heap).length/\ ∀i,i<(dL k.heap).length->wK k.clock.certs.list (dL k.heap)[i]!/\bK (bB k.clock.field.points ((dL k.heap)[i]!).2) (bB k.clock.field.points ((dL k.heap)[i]!).1) k.clock.now
    · rw [aN h2,if_pos (show VT k from ⟨hP,h2.1,h2.2⟩)];rfl
    · rw [aL h2,if_neg (fun h:VT k=>h2 ⟨h.2.1,h.2.2⟩)];rfl)
   refine (show _=_ from o).trans ?_;rw [if_pos hP]
 · rw [if_neg (fun h:VT k=>hP h.1)]
   exact aKl (body:=jP) (ckS k) k.heap.length _ (r:=8) step hP
end Go.Proofs.YtfejhjllooomlaaGreat
