/- Plain laws (3). -/
import Derived.Test.YthljmpcakagceaaGreatDQM2
import Derived.Test.YthljmpcakagceaaGreatDQS2
namespace Go.Proofs.YthljmpcakagceaaGreat
open Go.Vm Classical
theorem WN (c:aQ) (n:Int) (hl:c.due.length<=1000000):(∀k,k<c.due.length->(c.due[k]!).1=n->(∀j,j<k->(c.due[j]!).1≠n)->rD c n=some (k:Int))/\((∀k,k<c.due.length->(c.due[k]!).1≠n)->rD c n=some (-1)):=by
 unfold rD;refine nC (body:=sA) (fun i=>(n,(i:Int),c.now.1,c.now.2,c.field.points,c.certs.next_,c.certs.list,c.agenda.slots.uses,c.agenda.slots.used,c.agenda.slots.free,c.agenda.heap,c.agenda.where_,c.due)) c.due.length (fun i=>(c.due[i]!).1=n) (fun i=>(i:Int)) (fun i hi=>?_) ?_
 · have e1:decide ((i:Int)<(c.due.length:Int))=true:=aN (by omega)
   unfold sA;simp only [aF,e1,cond_true,aE c.due i hi,aB,aY (show i<1000000000 by omega)]
   constructor
   · intro h;rw [gQ h];rfl
   · intro h;rw [gR h];rfl
 · unfold sA
   have:decide ((c.due.length:Int)<(c.due.length:Int))=false:=aL (by omega)
   simp only [aF,this,cond_false]
theorem Q1 {ds:List vP} (hu:Up ds) (hl:ds.length<=1000000) (n:Int):(∀k,k<ds.length->(ds[k]!).1=n->rG ds n=some ((k:Int),true))/\((∀k,k<ds.length->(ds[k]!).1≠n)-> ∃m:Nat,rG ds n=some ((m:Int),false)):=by
 have bs:=zI ds n hl (wW.1 hu);unfold rG;rw [aSi];constructor
 · intro k hk he;rw [bs.1 k hk he];rfl
 · intro h
   obtain ⟨m,_,_,_,e⟩:=bs.2 h;exact ⟨m,by rw [e];rfl⟩
theorem bE.bd {c:aQ} (ok:bE c):c.due.length<=200/\c.field.points.length<=64/\c.certs.list.length<=200:=by
 have:=ok.hd;have:=ok.agd.bd;have:=ok.fld.1;have:=ok.crt.len
 omega
theorem lS {c:aQ} (ok:bE c):oQ c=some c:=by
 have bd:=ok.bd;unfold oQ nF tL;simp only [bI (show c.field.points.length<=1048576 by omega),bI (show c.certs.list.length<=1048576 by omega),bI (show c.due.length<=1048576 by omega),aB,uR ok.agd]
theorem lT {c:aQ} (ok:bE c):lO c=some c:=by
 have bd:=ok.bd;have ab:=ok.agd.bd;have hl:=ok.agd.so.fl;have hn:=ok.agd.so.n2;have hu:=ok.agd.so.ul;unfold lO;simp only [bI (show c.field.points.length<=1048576 by omega),bI (show c.certs.list.length<=1048576 by omega),bI (show c.due.length<=1048576 by omega),bI (show c.agenda.heap.length<=1048576 by omega),bI (show c.agenda.where_.length<=1048576 by omega),
  bI (show c.agenda.slots.uses.length<=1048576 by omega),bI (show c.agenda.slots.used.length<=1048576 by omega),bI (show c.agenda.slots.free.length<=1048576 by omega),aB]
theorem wX {cs:List vP} {i:Nat} (hu:Up cs) (hi:i<cs.length) {x:vP} (hx:x∈cs.eraseIdx i):x∈cs/\x.1≠(cs[i]!).1:=by
 rw [yB,List.mem_append] at hx;have ub:=wW.1 hu;rcases hx with hx|hx
 · obtain ⟨j,h1,h2,rfl⟩:=cU.1 hx
   have:=ub j i h1 hi
   exact ⟨aZ h2,by omega⟩
 · obtain ⟨j,hj,rfl⟩:=aV.1 hx
   rw [List.length_drop] at hj;rw [tV]
   have:=ub i (i+1+j) (by omega) (by omega)
   exact ⟨aZ (by omega),by omega⟩
theorem EN {c:aQ} (ok:bE c) (i:Nat) (hi:i<c.certs.list.length): ∀j,j<(pN c.certs i).list.length->kH c.field.points ((pN c.certs i).list[j]!).2:=by
 intro j hj;have hm:(pN c.certs i).list[j]!∈c.certs.list:=(wX ok.crt_up hi (aZ hj)).1;obtain ⟨m,hm1,hm2⟩:=aV.1 hm;rw [<- hm2];exact ok.known m hm1
theorem aEk {c:aQ} (ok:bE c) {i:Nat} (hi:i<c.certs.list.length):
 ∃c':aQ,nI c (c.certs.list[i]!).1=some (c',(c.certs.list[i]!).2,0)/\qO c (c.certs.list[i]!).1=some c'/\bE c'/\c'.field=c.field/\c'.now=c.now/\c'.certs=pN c.certs i:=by
 have bd:=ok.bd;have rm:=O3 ok.crt hi (n:=(c.certs.list[i]!).1) rfl;have wo:=KK ok.crt hi (n:=(c.certs.list[i]!).1) rfl;have fe:=ok.fol.erase (i:=i) hi;have pd:=Q1 ok.due_up (by omega) (c.certs.list[i]!).1
 have da:=WN c (c.certs.list[i]!).1 (by omega)
 cases hf:(bK c.field.points (c.certs.list[i]!).2 c.now).2 with
 |false=>
  have no: ∀k,k<c.due.length->(c.due[k]!).1≠(c.certs.list[i]!).1:=by
   intro k hk he;obtain ⟨x,hx,h1,h2,_⟩:=ok.fol.due _ (aZ hk);obtain ⟨j,hj,rfl⟩:=aV.1 hx;have ub:=wW.1 ok.crt_up
   have:j=i:=by
    rcases Nat.lt_trichotomy j i with h|h|h
    · have:=ub j i h hi;omega
    · exact h
    · have:=ub i j h hj;omega
   rw [this,hf] at h2;cases h2
  refine ⟨⟨c.now,c.field,pN c.certs i,c.agenda,c.due⟩,?_,?_,?_,rfl,rfl,rfl⟩
  · unfold nI
    obtain ⟨m,e⟩:=pd.2 no;simp only [rm,aB,show ((0:Int) !=0)=false from rfl,cond_false,lT ok,e]
  · unfold qO
    simp only [lS ok,aB,wo,da.2 no,aL (show¬(0:Int)<= -1 by omega),cond_false]
  · exact ⟨ok.nowv,ok.now64,ok.fld,O2 ok.crt hi,ok.agd,ok.w200,ok.hd,EN ok i hi,fe.1 hf⟩
 |true=>
  obtain ⟨k,hk,k1,k2,k3⟩:=fe.2 hf;obtain ⟨w,hw,hev⟩:=aV.1 k2;have hh:(c.agenda.heap[w]!).2.2.2=(c.due[k]!).2:=by rw [hev]
  have ub:=wW.1 ok.due_up;have before: ∀j,j<k->(c.due[j]!).1≠(c.certs.list[i]!).1:=fun j hj he=>by have:=ub j k hj hk;omega
  have dl:(c.due.eraseIdx k).length=c.due.length-1:=MC hk;obtain ⟨L,d1,d2⟩:=EK c.due k hk;refine ⟨⟨c.now,c.field,pN c.certs i,fE c.agenda w,c.due.eraseIdx k⟩,?_,?_,?_,rfl,rfl,rfl⟩
  · unfold nI
    simp only [rm,aB,show ((0:Int) !=0)=false from rfl,cond_false,lT ok,pd.1 k hk k1,cond_true,aE c.due k hk,BE ok.agd hw ok.agd.fit hh,aY (show k<1000000000 by omega),YW,d1,d2]
  · unfold qO
    have s1:lJ c.due 0 (k:Int)=some (c.due.take k):=pM c.due k (by omega)
    have s2:lJ c.due ((k+1:Nat):Int) (c.due.length:Int)=some (c.due.drop (k+1)):=by
     unfold lJ;rw [if_pos ⟨by omega,by omega,by omega⟩]
     simp only [Int.toNat_natCast];rw [List.take_of_length_le (by rw [List.length_drop];exact Nat.le_refl _)]
    have tl:(c.due.take k).length=k:=by rw [List.length_take];omega
    have dl2:(c.due.drop (k+1)).length=c.due.length- (k+1):=List.length_drop;simp only [lS ok,aB,wo,da.1 k hk k1 before,aN (show (0:Int)<=(k:Int) by omega),cond_true,aE c.due k hk,BF ok.agd hw hh,s1,bI (show (c.due.take k).length<=1048576 by omega),aY (show k<1000000000 by omega),aF,s2,
     cI (show (c.due.take k).length+(c.due.drop (k+1)).length<=1048576 by omega),yB]
    cases hem:(c.due.drop (k+1)).isEmpty with
    |true=>
     rw [List.isEmpty_iff] at hem;rw [hem,List.append_nil];rfl
    |false=>rfl
  · have rem:=KI ok.agd hw
    have rmem:=OY ok.agd hw;have hlen:(fE c.agenda w).heap.length=c.agenda.heap.length-1:=by
     have h1:=rem.hl;have h2:=ok.agd.hl;have h3:(fE c.agenda w).slots=gP c.agenda.slots (c.agenda.heap[w]!).2.2.2:=by unfold fE;split<;>rfl
     rw [h3] at h1;change _+(c.agenda.slots.free++[_]).length=c.agenda.slots.uses.length at h1;rw [List.length_append] at h1;simp only [List.length_cons,List.length_nil] at h1;omega
    have wlen:(fE c.agenda w).where_.length=200:=by
     have h1:=rem.wl;have h3:(fE c.agenda w).slots=gP c.agenda.slots (c.agenda.heap[w]!).2.2.2:=by unfold fE;split<;>rfl
     rw [h3] at h1;change _=c.agenda.slots.uses.length at h1;rw [h1,<- ok.agd.wl,ok.w200]
    refine ⟨ok.nowv,ok.now64,ok.fld,O2 ok.crt hi,rem,wlen,?_,EN ok i hi,?_⟩
    · show (fE c.agenda w).heap.length=(c.due.eraseIdx k).length
      rw [hlen,dl,ok.hd]
    · refine k3.mono fun x hx e he hm=>(rmem e).2 ⟨hm,fun h=>?_⟩
      have:=(wX ok.crt_up hi hx).2
      rw [h,hev] at he;exact this he.symm
theorem LU {c:aQ} (ok:bE c) {i:Nat} (_hi:i<c.certs.list.length) {c':aQ} (h:nI c (c.certs.list[i]!).1=some (c',(c.certs.list[i]!).2,0)):wQ c (c.certs.list[i]!).1=some (c',0):=by
 unfold wQ;rw [mS ok.fit,if_pos ok];simp only [aB,show ((0:Int) !=0)=false from rfl,cond_false,h]
abbrev eL:aQ:=⟨(0,0),⟨[]⟩,⟨0,[]⟩,⟨⟨[],[],[]⟩,[],[]⟩,[]⟩
theorem TB {l:List Pt} (ok:bN l) {id:Int} (h:pQ l id): ¬(kJ l id).1<0:=by
 obtain ⟨h1,_⟩:=iF ok h
 have:=h1.1
 omega
theorem aLW {c:aQ} (ok:bE c) {x:Int×Int} (hx:gM x) (hb:kH c.field.points x) (hn: ¬vQ c.certs.list x):
 (jM c x=some (eL,0,18)/\mY c x=some (eL,0,18)/\(I6 c.certs\/ ¬C9 c.agenda.slots))\/
 ∃c':aQ,jM c x=some (c',c.certs.next_,0)/\mY c x=some (c',c.certs.next_,0)/\bE c'/\c'.field=c.field/\c'.now=c.now/\c'.certs=sS c.certs x/\(c'.agenda.slots=c.agenda.slots\/c'.agenda.slots=iN c.agenda.slots):=by
 have bd:=ok.bd;have n0:=ok.crt.n0;have n1:=ok.crt.n1;have fit:=ok.fit;have ad:=WI ok.crt hx;have rd:=TA ok.crt hx;rw [if_neg hn] at ad rd;have hc:hY c=some 0:=by rw [mS fit,if_pos ok]
 have p1:=pC ok.fld x.1;have p2:=pC ok.fld x.2;have q1:=TB ok.fld hb.1;have q2:=TB ok.fld hb.2;have wh:=AJ ok.fld hx ok.nowv ok.now64;rw [if_pos hb] at wh;have rw':=AL ok.fld ok.now64 hb
 by_cases hf:I6 c.certs
 · rw [if_pos hf] at ad rd
   left;refine ⟨?_,?_,.inl hf⟩
   · unfold jM dR
     simp only [hc,aB,show ((0:Int) !=0)=false from rfl,cond_false,ad,show ((18:Int)==8)=false from rfl,p1,p2,aL q1,aL q2,show ((18:Int) !=0)=true from rfl,cond_true]
   · unfold mY
     simp only [rd,aB,show ((18:Int) !=0)=true from rfl,cond_true]
 rw [if_neg hf] at ad rd;have cok:=YY ok.crt hx hn hf;have known': ∀j,j<(sS c.certs x).list.length->kH c.field.points ((sS c.certs x).list[j]!).2:=by
  intro j hj;rw [FT] at hj;rw [yC]
  by_cases h:j<c.certs.list.length
  · rw [if_pos h];exact ok.known j h
  · rw [if_neg h,if_pos (by omega)];exact hb
 have fresh: ∀e∈c.agenda.heap,Ev.num e≠c.certs.next_:=by
  intro e he hne;obtain ⟨d,hd,h1⟩:=ok.nums e he;obtain ⟨y,hy,h2,_⟩:=ok.fol.due d hd;obtain ⟨j,hj,rfl⟩:=aV.1 hy
  have:=(ok.crt.nr j hj).2
  omega
 have sn:=ok.fol.snoc (x:=(c.certs.next_,x));cases hw:(bK c.field.points x c.now).2 with
 |false=>
  right;refine ⟨⟨c.now,c.field,sS c.certs x,c.agenda,c.due⟩,?_,?_,⟨ok.nowv,ok.now64,ok.fld,cok,ok.agd,ok.w200,ok.hd,known',sn.1 hw⟩,rfl,rfl,rfl,.inl rfl⟩
  · unfold jM dR
    simp only [hc,aB,show ((0:Int) !=0)=false from rfl,cond_false,ad,show ((0:Int)==8)=false from rfl,p1,p2,aL q1,aL q2,lT ok,wh,hw]
  · unfold mY
    simp only [rd,aB,show ((0:Int) !=0)=false from rfl,cond_false,lS ok,rw',hw,Bool.not_false,cond_true]
 |true=>
  obtain ⟨t1,t2⟩:=IY (iF ok.fld hb.2).1 (iF ok.fld hb.1).1 ok.now64 ok.nowv hw
  by_cases op:C9 c.agenda.slots
  · right
    have pu:=BB ok.agd op ok.agd.fit (t:=(bK c.field.points x c.now).1) (n:=c.certs.next_) t1 t2 n0 n1 fresh;have rp:=DA ok.agd op (t:=(bK c.field.points x c.now).1) (n:=c.certs.next_) t1 t2 n0 n1;have pok:=aAM ok.agd op (t:=(bK c.field.points x c.now).1) (n:=c.certs.next_) t1 t2 n0 n1 fresh
    have pmem:=WD ok.agd op (t:=(bK c.field.points x c.now).1) (n:=c.certs.next_) t1;have plen:=I3 ok.agd op (t:=(bK c.field.points x c.now).1) (n:=c.certs.next_) t1;have ap: ∀h:Int×Int,bJ c.due [(c.certs.next_,h)]=some (c.due++[(c.certs.next_,h)]):=fun h=>cI (by simp;omega)
    have wlen:(nL c.agenda (bK c.field.points x c.now).1 c.certs.next_).where_.length=200:=by
     have:=pok.wl
     change _=(c.agenda.slots.uses.set _ _).length at this;rw [List.length_set] at this;rw [this,<- ok.agd.wl,ok.w200]
    refine ⟨⟨c.now,c.field,sS c.certs x,nL c.agenda (bK c.field.points x c.now).1 c.certs.next_,c.due++[(c.certs.next_,nK c.agenda.slots)]⟩,?_,?_,⟨ok.nowv,ok.now64,ok.fld,cok,pok,wlen,?_,known',?_⟩,rfl,rfl,rfl,.inr rfl⟩
    · unfold jM dR
      simp only [hc,aB,show ((0:Int) !=0)=false from rfl,cond_false,ad,show ((0:Int)==8)=false from rfl,p1,p2,aL q1,aL q2,lT ok,wh,hw,cond_true,pu,ap]
    · unfold mY
      simp only [rd,aB,show ((0:Int) !=0)=false from rfl,cond_false,lS ok,rw',hw,Bool.not_true,uQ ok.agd.so,aN op,rp,ap]
    · show (nL c.agenda (bK c.field.points x c.now).1 c.certs.next_).heap.length=(c.due++[_]).length
      rw [plen,List.length_append,ok.hd];rfl
    · have fm:aX c.field.points c.now (nL c.agenda (bK c.field.points x c.now).1 c.certs.next_).heap c.certs.list c.due:=ok.fol.mono fun y hy e he hm=>(pmem e).2 (.inr hm)
      exact (fm.snoc (x:=(c.certs.next_,x))).2 _ hw rfl ((pmem _).2 (.inl rfl))
  · left
    have pu:=BC ok.agd op ok.agd.fit (t:=(bK c.field.points x c.now).1) (n:=c.certs.next_) t1 t2 n0 n1 fresh;refine ⟨?_,?_,.inr op⟩
    · unfold jM dR
      simp only [hc,aB,show ((0:Int) !=0)=false from rfl,cond_false,ad,show ((0:Int)==8)=false from rfl,p1,p2,aL q1,aL q2,lT ok,wh,hw,cond_true,pu,show ((18:Int) !=0)=true from rfl]
    · unfold mY
      simp only [rd,aB,show ((0:Int) !=0)=false from rfl,cond_false,lS ok,rw',hw,Bool.not_true,uQ ok.agd.so,aL op,Bool.not_false,cond_true]
theorem Up.inj {cs:List vP} (h:Up cs) {x y:vP} (hx:x∈cs) (hy:y∈cs) (he:x.1=y.1):x=y:=by
 obtain ⟨i,hi,rfl⟩:=aV.1 hx;obtain ⟨j,hj,rfl⟩:=aV.1 hy;have ub:=wW.1 h;rcases Nat.lt_trichotomy i j with h1|h1|h1
 · have:=ub i j h1 hj;omega
 · rw [h1]
 · have:=ub j i h1 hi;omega
structure O5 (c:aQ) (f:List Pt) (i k:Nat) (a:aP) (ds:List vP):Prop where
 ok:fN a
 w2:a.where_.length=200
 new:aX f c.now a.heap (c.certs.list.take i) ds
 old:aX c.field.points c.now a.heap (c.certs.list.drop i) (c.due.drop k)
 kl:k<=c.due.length
 cnt:a.heap.length=ds.length+(c.due.length-k)
theorem aSj {a:aP} (ok:fN a) {w:Nat} (hw:w<a.heap.length):(fE a w).heap.length=a.heap.length-1/\(fE a w).where_.length=a.where_.length:=by
 have rem:=KI ok hw;have h3:(fE a w).slots=gP a.slots (a.heap[w]!).2.2.2:=by unfold fE;split<;>rfl
 have h1:=rem.hl;have h2:=ok.hl;have h4:=rem.wl;rw [h3] at h1 h4;change _+(a.slots.free++[_]).length=a.slots.uses.length at h1;change _=a.slots.uses.length at h4;rw [List.length_append] at h1;simp only [List.length_cons,List.length_nil] at h1;exact ⟨by omega,by rw [h4,ok.wl]⟩
theorem aLX {a:aP} {t:Int×Int} {n:Int} (ok:fN a) (pok:fN (nL a t n)):(nL a t n).where_.length=a.where_.length:=by
 have:=pok.wl
 change _=(a.slots.uses.set _ _).length at this;rw [List.length_set] at this;rw [this,ok.wl]
section
variable {c : aQ} (ok : bE c) {f : List Pt} (fok : bN f) (kn : ∀ i, i < c.certs.list.length -> kH f (c.certs.list[i]!).2)
include ok
theorem I8 {i:Nat} {x:vP} (hx:x∈c.certs.list.take i) (hi:i<c.certs.list.length):x.1≠(c.certs.list[i]!).1:=by
 obtain ⟨j,h1,h2,rfl⟩:=cU.1 hx
 have:=ok.crt.up j i h1 hi
 omega
theorem I9 {i:Nat} {x:vP} (hx:x∈c.certs.list.drop (i+1)) (hi:i<c.certs.list.length):x.1≠(c.certs.list[i]!).1:=by
 obtain ⟨j,h1,rfl⟩:=aV.1 hx;rw [List.length_drop] at h1;rw [tV]
 have:=ok.crt.up i (i+1+j) (by omega) (by omega)
 omega
theorem aBZ {i k:Nat} {a:aP} {ds:List vP} (inv:O5 c f i k a ds) (hi:i<c.certs.list.length) (was:(bK c.field.points (c.certs.list[i]!).2 c.now).2=false): ∀e∈a.heap,Ev.num e≠(c.certs.list[i]!).1:=by
 have u1:Up (c.certs.list.take i):=ok.crt_up.sublist (List.take_sublist _ _);have u2:Up (c.certs.list.drop i):=ok.crt_up.sublist (List.drop_sublist _ _);have d1:=inv.new.up u1;have d2:=inv.old.up u2;have cross: ∀x∈ds,∀y∈c.due.drop k,x.1<y.1:=by
  intro x hx y hy;obtain ⟨p,hp,h1,_⟩:=inv.new.due x hx;obtain ⟨q,hq,h2,_⟩:=inv.old.due y hy;obtain ⟨m,m1,m2,rfl⟩:=cU.1 hp;obtain ⟨n,n1,rfl⟩:=aV.1 hq;rw [List.length_drop] at n1;rw [tV] at h2
  have:=ok.crt.up m (i+n) (by omega) (by omega)
  omega
 have nd:((ds++c.due.drop k).map fun x=>x.1).Nodup:=WM (by
  show List.Pairwise _ _;rw [List.pairwise_append];exact ⟨d1,d2,cross⟩)
 have only:=LE (H:=a.heap) nd (by rw [List.length_map,List.length_append,List.length_drop,inv.cnt];exact Nat.le_refl _) (fun n hn=>by
  obtain ⟨x,hx,rfl⟩:=List.mem_map.1 hn;rcases List.mem_append.1 hx with hx|hx
  · obtain ⟨p,hp,h1,h2,h3⟩:=inv.new.due x hx
    exact ⟨_,h3,h1.symm⟩
  · obtain ⟨p,hp,h1,h2,h3⟩:=inv.old.due x hx
    exact ⟨_,h3,h1.symm⟩)
 intro e he hne;obtain ⟨x,hx,h1⟩:=List.mem_map.1 (only e he);rcases List.mem_append.1 hx with hx|hx
 · obtain ⟨p,hp,h2,_⟩:=inv.new.due x hx
   exact I8 ok hp hi (by rw [<- h2,h1,hne])
 · obtain ⟨p,hp,h2,h3,_⟩:=inv.old.due x hx
   have hp':p∈c.certs.list:=List.mem_of_mem_drop hp
   have:=ok.crt_up.inj hp' (aZ hi) (by rw [<- h2,h1,hne])
   rw [this,was] at h3;cases h3
def stP (c:aQ) (f:List Pt) (i:Nat) (a:aP) (ds:List vP):=
 (c.certs.list,(c.certs.list.length:Int),(i:Int),c.now.1,c.now.2,c.field.points,c.certs.next_,c.certs.list,c.agenda.slots.uses,c.agenda.slots.used,c.agenda.slots.free,c.agenda.heap,c.agenda.where_,c.due,f,(0:Int),(0:Int),(0:Int),c.now.1,c.now.2,c.certs.next_,c.certs.list,a.slots.uses,a.slots.used,a.slots.free,a.heap,a.where_,f,ds)
def stR (c:aQ) (f:List Pt) (i:Nat) (a:aP) (ds:List vP):=
 ((i:Int),c.now.1,c.now.2,c.field.points,c.certs.next_,c.certs.list,c.agenda.slots.uses,c.agenda.slots.used,c.agenda.slots.free,c.agenda.heap,c.agenda.where_,c.due,f,(0:Int),(0:Int),(0:Int),c.now.1,c.now.2,f,c.certs.next_,c.certs.list,a.slots.uses,a.slots.used,a.slots.free,a.heap,a.where_,ds)
include fok kn
theorem aEl {i k:Nat} {a:aP} {ds:List vP} (inv:O5 c f i k a ds) (hi:i<c.certs.list.length) (hds:ds.length<=i):
 (dW (stP c f i a ds)=some (.done (.done (eL,18)))/\cX (stR c f i a ds)=some (.done (eL,18)))\/
 ∃k' a' ds',dW (stP c f i a ds)=some (.next (stP c f (i+1) a' ds'))/\cX (stR c f i a ds)=some (.next (stR c f (i+1) a' ds'))/\O5 c f (i+1) k' a' ds'/\ds'.length<=i+1:=by
 have bd:=ok.bd;have e1:decide ((i:Int)<(c.certs.list.length:Int))=true:=aN (by omega)
 have sc:=aY (show i<1000000000 by omega)
 have cg:=aE c.certs.list i hi;have hb:=kn i hi;have wn:=AJ fok (x:=(c.certs.list[i]!).2) (t:=(c.now.1,c.now.2)) (ok.crt.cv i hi) ok.nowv ok.now64;rw [if_pos hb] at wn;have wr:=AL fok (x:=(c.certs.list[i]!).2) (t:=(c.now.1,c.now.2)) ok.now64 hb;have pd:=Q1 ok.due_up (by omega) (c.certs.list[i]!).1
 have da:=WN c (c.certs.list[i]!).1 (by omega)
 have dr:=xF hi;have tk:=gA hi;have old:=inv.old;rw [dr] at old;have aeta:aP.mk (bC.mk a.slots.uses a.slots.used a.slots.free) a.heap a.where_=a:=rfl
 have ceta:(aQ.mk (c.now.1,c.now.2) (Field.mk c.field.points) (bL.mk c.certs.next_ c.certs.list) (aP.mk (bC.mk c.agenda.slots.uses c.agenda.slots.used c.agenda.slots.free) c.agenda.heap c.agenda.where_) c.due)=c:=rfl;have other: ∀x∈c.certs.list.take i,x.1≠(c.certs.list[i]!).1:=fun x hx=>I8 ok hx hi
 have other': ∀x∈c.certs.list.drop (i+1),x.1≠(c.certs.list[i]!).1:=fun x hx=>I9 ok hx hi
 cases hwas:(bK c.field.points (c.certs.list[i]!).2 c.now).2 with
 |true=>
  obtain ⟨d,ds',hd1,hd2,hd3,hd4⟩:=(aX.cons_true hwas).1 old;have hk:k<c.due.length:=by
   refine Classical.byContradiction fun h=>?_
   rw [List.drop_eq_nil_of_le (by omega)] at hd1
   cases hd1
  have dk:=xF hk;rw [dk] at hd1;injection hd1 with hd5 hd6;subst hd5 hd6;obtain ⟨w,hw,hev⟩:=aV.1 hd3;have hh:(a.heap[w]!).2.2.2=(c.due[k]!).2:=by rw [hev]
  have hnum:Ev.num a.heap[w]! =(c.certs.list[i]!).1:=by rw [hev]
  have before: ∀j,j<k->(c.due[j]!).1≠(c.certs.list[i]!).1:=fun j hj he=>by
   have:=wW.1 ok.due_up j k hj hk
   omega
  have pl:=pd.1 k hk hd2;have dq:=da.1 k hk hd2 before;have gk:=aE c.due k hk;have k0:decide ((0:Int)<=(k:Int))=true:=aN (by omega)
  have ap:bJ ds [c.due[k]!]=some (ds++[c.due[k]!]):=cI (by simp;omega)
  cases his:(bK f (c.certs.list[i]!).2 c.now).2 with
  |true=>
   right;have tt:bQ (bK f (c.certs.list[i]!).2 c.now).1/\oC (bK f (c.certs.list[i]!).2 c.now).1:=IY (iF fok hb.2).1 (iF fok hb.1).1 ok.now64 ok.nowv his;obtain ⟨t1,t2⟩:=tt;have re:=LT inv.ok inv.ok.fit (t:=(bK f (c.certs.list[i]!).2 c.now).1) hw hh t1 t2;have rr:=KH inv.ok (t:=(bK f (c.certs.list[i]!).2 c.now).1) hw hh t1 t2
   have rok:=aEe inv.ok hw t1 t2;have rmem:=aBY inv.ok hw t1;have rlen:=KG inv.ok hw t1;have stay: ∀(cs:List vP),(∀x∈cs,x.1≠(c.certs.list[i]!).1)-> ∀x∈cs,∀e:Ev,e.num=x.1->e∈a.heap->e∈(mA a w (bK f (c.certs.list[i]!).2 c.now).1).heap:=by
    intro cs hcs x hx e he hm;refine (rmem e).2 (.inr ⟨hm,fun h=>hcs x hx ?_⟩)
    rw [<- he,h,hnum]
   refine ⟨k+1,mA a w (bK f (c.certs.list[i]!).2 c.now).1,ds++[c.due[k]!],?_,?_,⟨rok,by rw [rlen.2];exact inv.w2,?_,?_,by omega,?_⟩,by simp;omega⟩
   · unfold dW stP
     simp only [e1,cond_true,cg,aB,wn,pl,his,gk,aeta,re,ap,show ((0:Int) !=0)=false from rfl,cond_false,sc]
   · unfold cX stR
     simp only [aF,e1,cond_true,cg,aB,ceta,dq,wr,his,k0,gk,aeta,rr,ap,Bool.not_true,cond_false,sc]
   · rw [tk]
     exact ((inv.new.mono (stay _ other)).snoc (x:=c.certs.list[i]!)).2 _ his hd2 ((rmem _).2 (.inl (by
      show _=((bK f (c.certs.list[i]!).2 c.now).1.1,(bK f (c.certs.list[i]!).2 c.now).1.2,(a.heap[w]!).2.2);rw [hev])))
   · exact hd4.mono (stay _ other')
   · rw [rlen.1,inv.cnt,List.length_append]
     simp only [List.length_cons,List.length_nil];omega
  |false=>
   right;have rv:=BE inv.ok hw inv.ok.fit hh;have rr:=BF inv.ok hw hh;have rok:=KI inv.ok hw;have rmem:=OY inv.ok hw;have rlen:=aSj inv.ok hw;have stay: ∀(cs:List vP),(∀x∈cs,x.1≠(c.certs.list[i]!).1)-> ∀x∈cs,∀e:Ev,e.num=x.1->e∈a.heap->e∈(fE a w).heap:=by
    intro cs hcs x hx e he hm;refine (rmem e).2 ⟨hm,fun h=>hcs x hx ?_⟩
    rw [<- he,h,hnum]
   refine ⟨k+1,fE a w,ds,?_,?_,⟨rok,by rw [rlen.2];exact inv.w2,?_,hd4.mono (stay _ other'),by omega,?_⟩,by omega⟩
   · unfold dW stP
     simp only [e1,cond_true,cg,aB,wn,pl,his,gk,aeta,rv,show ((0:Int) !=0)=false from rfl,cond_false,sc]
   · unfold cX stR
     simp only [aF,e1,cond_true,cg,aB,ceta,dq,wr,his,k0,gk,aeta,rr,Bool.not_false,cond_false,sc]
   · rw [tk]
     exact ((inv.new.mono (stay _ other)).snoc (x:=c.certs.list[i]!)).1 his
   · have:=inv.cnt
     rw [rlen.1];omega
 |false=>
  have fol:=(aX.cons_false hwas).1 old;have no: ∀j,j<c.due.length->(c.due[j]!).1≠(c.certs.list[i]!).1:=by
   intro j hj he;obtain ⟨x,hx,h1,h2,_⟩:=ok.fol.due _ (aZ hj)
   have:=ok.crt_up.inj hx (aZ hi) (by rw [<- h1,he])
   rw [this,hwas] at h2;cases h2
  obtain ⟨m,pl⟩:=pd.2 no;have dq:=da.2 no;have k0:decide ((0:Int)<= -1)=false:=aL (by omega)
  cases his:(bK f (c.certs.list[i]!).2 c.now).2 with
  |true=>
   have tt:bQ (bK f (c.certs.list[i]!).2 c.now).1/\oC (bK f (c.certs.list[i]!).2 c.now).1:=IY (iF fok hb.2).1 (iF fok hb.1).1 ok.now64 ok.nowv his;obtain ⟨t1,t2⟩:=tt;have n0:=(ok.crt.nr i hi).1;have n1:(c.certs.list[i]!).1<=1000000:=by have:=(ok.crt.nr i hi).2;have:=ok.crt.n1;omega
   have fresh:=aBZ ok inv hi hwas
   by_cases op:C9 a.slots
   · right
     have pu:=BB inv.ok op inv.ok.fit (t:=(bK f (c.certs.list[i]!).2 c.now).1) (n:=(c.certs.list[i]!).1) t1 t2 n0 n1 fresh;have rp:=DA inv.ok op (t:=(bK f (c.certs.list[i]!).2 c.now).1) (n:=(c.certs.list[i]!).1) t1 t2 n0 n1;have pok:=aAM inv.ok op (t:=(bK f (c.certs.list[i]!).2 c.now).1) (n:=(c.certs.list[i]!).1) t1 t2 n0 n1 fresh
     have pmem:=WD inv.ok op (t:=(bK f (c.certs.list[i]!).2 c.now).1) (n:=(c.certs.list[i]!).1) t1;have plen:=I3 inv.ok op (t:=(bK f (c.certs.list[i]!).2 c.now).1) (n:=(c.certs.list[i]!).1) t1;have ap: ∀h:Int×Int,bJ ds [((c.certs.list[i]!).1,h)]=some (ds++[((c.certs.list[i]!).1,h)]):=fun h=>cI (by simp;omega)
     have opn:=uQ inv.ok.so;rw [aN op] at opn;refine ⟨k,nL a (bK f (c.certs.list[i]!).2 c.now).1 (c.certs.list[i]!).1,ds++[((c.certs.list[i]!).1,nK a.slots)],?_,?_,⟨pok,by rw [aLX inv.ok pok];exact inv.w2,?_,?_,inv.kl,?_⟩,by simp;omega⟩
     · unfold dW stP
       simp only [e1,cond_true,cg,aB,wn,pl,his,aeta,pu,ap,show ((0:Int) !=0)=false from rfl,cond_false,sc]
     · unfold cX stR
       simp only [aF,e1,cond_true,cg,aB,ceta,dq,wr,his,k0,aeta,rp,ap,Bool.not_true,cond_false,sc,opn]
     · rw [tk]
       exact ((inv.new.mono fun x hx e he hm=>(pmem e).2 (.inr hm)).snoc (x:=c.certs.list[i]!)).2 _ his rfl ((pmem _).2 (.inl rfl))
     · exact fol.mono fun x hx e he hm=>(pmem e).2 (.inr hm)
     · have:=inv.cnt
       rw [plen,List.length_append];simp only [List.length_cons,List.length_nil];omega
   · left
     have pu:=BC inv.ok op inv.ok.fit (t:=(bK f (c.certs.list[i]!).2 c.now).1) (n:=(c.certs.list[i]!).1) t1 t2 n0 n1 fresh;have ap: ∀h:Int×Int,bJ ds [((c.certs.list[i]!).1,h)]=some (ds++[((c.certs.list[i]!).1,h)]):=fun h=>cI (by simp;omega)
     have opn:=uQ inv.ok.so;rw [aL op] at opn;constructor
     · unfold dW stP
       simp only [e1,cond_true,cg,aB,wn,pl,his,aeta,pu,ap,show ((18:Int) !=0)=true from rfl,cond_false]
     · unfold cX stR
       simp only [aF,e1,cond_true,cg,aB,ceta,dq,wr,his,k0,aeta,Bool.not_true,Bool.not_false,cond_false,opn]
  |false=>
   right;refine ⟨k,a,ds,?_,?_,⟨inv.ok,inv.w2,?_,fol,inv.kl,inv.cnt⟩,by omega⟩
   · unfold dW stP
     simp only [e1,cond_true,cg,aB,wn,pl,his,show ((0:Int) !=0)=false from rfl,cond_false,sc]
   · unfold cX stR
     simp only [aF,e1,cond_true,cg,aB,ceta,dq,wr,his,k0,Bool.not_false,cond_false,sc]
   · rw [tk]
     exact (inv.new.snoc (x:=c.certs.list[i]!)).1 his
theorem aU3:
 (rH c ⟨f⟩=some (eL,18)/\nY c ⟨f⟩=some (eL,18))\/
 ∃c':aQ,rH c ⟨f⟩=some (c',0)/\nY c ⟨f⟩=some (c',0)/\bE c'/\c'.field.points=f/\c'.now=c.now/\c'.certs=c.certs:=by
 have bd:=ok.bd;have f64:=fok.1;have run: ∀(d i k:Nat) (a:aP) (ds:List vP),c.certs.list.length-i<=d->i<=c.certs.list.length->O5 c f i k a ds->ds.length<=i->
  (aH dW (stP c f i a ds)=some (.done (eL,18))/\aH cX (stR c f i a ds)=some (eL,18))\/
  ∃c':aQ,aH dW (stP c f i a ds)=some (.done (c',0))/\aH cX (stR c f i a ds)=some (c',0)/\bE c'/\c'.field.points=f/\c'.now=c.now/\c'.certs=c.certs:=by
  have fin: ∀(k:Nat) (a:aP) (ds:List vP),O5 c f c.certs.list.length k a ds-> ∃c':aQ,aH dW (stP c f c.certs.list.length a ds)=some (.done (c',0))/\aH cX (stR c f c.certs.list.length a ds)=some (c',0)/\bE c'/\c'.field.points=f/\c'.now=c.now/\c'.certs=c.certs:=by
   intro k a ds inv;have e1:decide ((c.certs.list.length:Int)<(c.certs.list.length:Int))=false:=aL (by omega)
   have hk:c.due.length-k=0:=by
    have:=inv.old
    rw [List.drop_length] at this
    have:c.due.drop k=[]:=this
    rw [List.drop_eq_nil_iff] at this;omega
   have new:=inv.new;rw [List.take_length] at new;refine ⟨⟨c.now,⟨f⟩,c.certs,a,ds⟩,aI ?_,aI ?_,⟨ok.nowv,ok.now64,fok,ok.crt,inv.ok,inv.w2,?_,kn,new⟩,rfl,rfl,rfl⟩
   · unfold dW stP
     simp only [e1,cond_false]
   · unfold cX stR
     simp only [aF,e1,cond_false]
   · have:=inv.cnt
     show a.heap.length=ds.length;omega
  intro d
  induction d with
  |zero=>
   intro i k a ds hd hi inv hds
   have:i=c.certs.list.length:=by omega
   subst this;exact .inr (fin k a ds inv)
  |succ d ih=>
   intro i k a ds hd hi inv hds
   by_cases he:i=c.certs.list.length
   · subst he;exact .inr (fin k a ds inv)
   rcases aEl ok fok kn inv (by omega) hds with ⟨h1,h2⟩|⟨k',a',ds',h1,h2,h3,h4⟩
   · exact .inl ⟨aI h1,aI h2⟩
   · rw [aU h1,aU h2]
     exact ih (i+1) k' a' ds' (by omega) (by omega) h3 h4
 have start:=run c.certs.list.length 0 0 c.agenda [] (by omega) (by omega) ⟨ok.agd,ok.w200,rfl,by rw [List.drop_zero,List.drop_zero];exact ok.fol,by omega,by have:=ok.hd;simp;omega⟩ (by simp)
 have hc:hY c=some 0:=by rw [mS ok.fit,if_pos ok]
 have hf:dD ⟨f⟩=some 0:=by rw [fZ];exact congrArg some (eQ.2 fok)
 have tw:=lT ok;have tw':lO (aQ.mk (c.now.1,c.now.2) (Field.mk c.field.points) (bL.mk c.certs.next_ c.certs.list) (aP.mk (bC.mk c.agenda.slots.uses c.agenda.slots.used c.agenda.slots.free) c.agenda.heap c.agenda.where_) c.due)=some c:=tw
 have first:aH mL (c.certs.list,(c.certs.list.length:Int),0,c.now.1,c.now.2,c.field.points,c.certs.next_,c.certs.list,c.agenda.slots.uses,c.agenda.slots.used,c.agenda.slots.free,c.agenda.heap,c.agenda.where_,c.due,f,0,0,0)=
  aH mL (c.certs.list,(c.certs.list.length:Int),(c.certs.list.length:Int),c.now.1,c.now.2,c.field.points,c.certs.next_,c.certs.list,c.agenda.slots.uses,c.agenda.slots.used,c.agenda.slots.free,c.agenda.heap,c.agenda.where_,c.due,f,0,0,0):=by
  refine cN (body:=mL) (fun i=>(c.certs.list,(c.certs.list.length:Int),(i:Int),c.now.1,c.now.2,c.field.points,c.certs.next_,c.certs.list,c.agenda.slots.uses,c.agenda.slots.used,c.agenda.slots.free,c.agenda.heap,c.agenda.where_,c.due,f,0,0,0)) c.certs.list.length (fun i hi=>?_)
  have e1:decide ((i:Int)<(c.certs.list.length:Int))=true:=aN (by omega)
  unfold mL;simp only [e1,cond_true,aE c.certs.list i hi,aB,pC fok,aL (TB fok (kn i hi).1),aL (TB fok (kn i hi).2),cond_false,aY (show i<1000000000 by omega)]
 have second: ∀r,aH dW (stP c f 0 c.agenda [])=some (.done r)->rH c ⟨f⟩=some r:=by
  intro r hr;unfold rH;simp only [hc,aB,show ((0:Int) !=0)=false from rfl,cond_false,hf,aF];rw [first]
  refine aI ?_;unfold mL;have e1:decide ((c.certs.list.length:Int)<(c.certs.list.length:Int))=false:=aL (by omega)
  simp only [aF,e1,cond_false,tw',aB,bI (show f.length<=1048576 by omega)]
  exact hr
 have third: ∀r,aH cX (stR c f 0 c.agenda [])=some r->nY c ⟨f⟩=some r:=by
  intro r hr;unfold nY nF;simp only [lS ok,aB,bI (show f.length<=1048576 by omega)]
  exact hr
 rcases start with ⟨h1,h2⟩|⟨c',h1,h2,h3⟩
 · exact .inl ⟨second _ h1,third _ h2⟩
 · exact .inr ⟨c',second _ h1,third _ h2,h3⟩
end
theorem oD (l:List (Int×Int)) (x:Int×Int) (hl:l.length<=1000000):gK l x=some (decide (x∈l)):=by
 unfold gK sI;have key:=nC (body:=lD) (fun i=>(l,(l.length:Int),(i:Int),x)) l.length (fun i=>l[i]! =x) (fun i=>(i:Int)) (e:= -1) (fun i hi=>by
  have e1:decide ((i:Int)<(l.length:Int))=true:=aN (by omega)
  unfold lD;simp only [e1,cond_true,aE l i hi,aB,aY (show i<1000000000 by omega)]
  generalize l[i]! =y;constructor
  · intro h;rw [gQ (congrArg Prod.fst h.symm),gQ (congrArg Prod.snd h.symm)];rfl
  · intro h
    by_cases h1:x.1=y.1
    · rw [gQ h1,gR (fun h2=>h (Prod.ext h1.symm h2.symm))];rfl
    · rw [gR h1];rfl) (by
  unfold lD
  have:decide ((l.length:Int)<(l.length:Int))=false:=aL (by omega)
  simp only [this,cond_false])
 rw [aF]
 by_cases hx:x∈l
 · obtain ⟨i,hi,he⟩:=aV.1 hx
   obtain ⟨k,h1,h2,h3⟩:=IW (c:=fun i=>l[i]! =x) ⟨i,hi,he⟩
   have:=key.1 k h1 h2 h3
   rw [show ((0:Nat):Int)=0 from rfl] at this;rw [this,aN hx];simp only [aB,aN (show (0:Int)<=(k:Int) by omega)]
 · have:=key.2 fun i hi he=>hx (aV.2 ⟨i,hi,he⟩)
   rw [show ((0:Nat):Int)=0 from rfl] at this;rw [this,aL hx];rfl
theorem LF (l:List (Int×Int)) (x:Int×Int) (hl:l.length<=1000000):IR l x=some (decide (x∈l)):=by
 unfold IR;have key:=dM (body:=yV) (fun i=>(l,(i:Int),x)) l.length (fun i=>l[i]! =x) (r:=true) (e:=false) (fun i hi=>by
  have e1:decide ((i:Int)<(l.length:Int))=true:=aN (by omega)
  unfold yV;simp only [aF,e1,cond_true,aE l i hi,aB,aY (show i<1000000000 by omega)]
  generalize l[i]! =y;constructor
  · intro h;rw [gQ (congrArg Prod.fst h),gQ (congrArg Prod.snd h)];rfl
  · intro h
    by_cases h1:y.1=x.1
    · rw [gQ h1,gR (fun h2=>h (Prod.ext h1 h2))];rfl
    · rw [gR h1];rfl) (by
  unfold yV
  have:decide ((l.length:Int)<(l.length:Int))=false:=aL (by omega)
  simp only [aF,this,cond_false])
 by_cases hx:x∈l
 · rw [aN hx];exact key.1 (aV.1 hx)
 · rw [aL hx];exact key.2 fun i hi he=>hx (aV.2 ⟨i,hi,he⟩)
theorem YZ (x y:vP):((x.1==y.1)&&((x.2.1==y.2.1)&&(x.2.2==y.2.2)))=decide (x=y):=by
 rw [Bool.eq_iff_iff,decide_eq_true_iff];simp only [Bool.and_eq_true,beq_iff_eq];constructor
 · rintro ⟨h1,h2,h3⟩;exact Prod.ext h1 (Prod.ext h2 h3)
 · rintro rfl;exact ⟨rfl,rfl,rfl⟩
theorem LG (a b:List vP) (hl:a.length<=1000000):qP ⟨a⟩ ⟨b⟩=some (decide (a=b)):=by
 unfold qP;simp only [aF]
 by_cases h:a.length=b.length
 case neg=>rw [eH (by omega),aL (fun k=>h (by rw [k]))];rfl
 rw [bR (by omega)]
 simp only [cond_false];have key:=dM (body:=uG) (fun i=>((i:Int),a,b)) a.length (fun i=> ¬a[i]! =b[i]!) (r:=false) (e:=true) (fun i hi=>by
  have e1:decide ((i:Int)<(a.length:Int))=true:=aN (by omega)
  unfold uG;simp only [aF,e1,cond_true,aE a i hi,aE b i (by omega),aB,aY (show i<1000000000 by omega),YZ]
  constructor
  · intro h;rw [aL h];rfl
  · intro h;rw [aN (Classical.not_not.1 h)];rfl) (by
  unfold uG
  have:decide ((a.length:Int)<(a.length:Int))=false:=aL (by omega)
  simp only [aF,this,cond_false])
 by_cases he:a=b
 · rw [aN he]
   exact key.2 fun i hi=>Classical.not_not.2 (by rw [he])
 · rw [aL he]
   refine key.1 (Classical.byContradiction fun hx=>he (EE h fun i hi=>?_))
   exact Classical.byContradiction fun hn=>hx ⟨i,hi,hn⟩
theorem CQ (a b:List vP) (hl:a.length<=1000000):kB a b=some (decide (a=b)):=by
 unfold kB;simp only [aF]
 by_cases h:a.length=b.length
 case neg=>rw [eH (by omega),aL (fun k=>h (by rw [k]))];rfl
 rw [bR (by omega)]
 simp only [cond_false];have key:=dM (body:=kE) (fun i=>(a,b,(a.length:Int),(i:Int))) a.length (fun i=> ¬a[i]! =b[i]!) (r:=false) (e:=true) (fun i hi=>by
  have e1:decide ((i:Int)<(a.length:Int))=true:=aN (by omega)
  unfold kE;simp only [e1,cond_true,aE a i hi,aE b i (by omega),aB,aY (show i<1000000000 by omega),YZ]
  constructor
  · intro h;rw [aL h];rfl
  · intro h;rw [aN (Classical.not_not.1 h)];rfl) (by
  unfold kE
  have:decide ((a.length:Int)<(a.length:Int))=false:=aL (by omega)
  simp only [this,cond_false])
 by_cases he:a=b
 · rw [aN he]
   exact key.2 fun i hi=>Classical.not_not.2 (by rw [he])
 · rw [aL he]
   refine key.1 (Classical.byContradiction fun hx=>he (EE h fun i hi=>?_))
   exact Classical.byContradiction fun hn=>hx ⟨i,hi,hn⟩
theorem aB2 {cs:List vP} {m:Nat} {x:vP} (hx:x∈cs) (hne:x.1≠(cs[m]!).1):x∈cs.eraseIdx m:=by
 obtain ⟨j,hj,rfl⟩:=aV.1 hx;have hjm:j≠m:=fun h=>hne (by rw [h])
 rw [yB,List.mem_append]
 by_cases h:j<m
 · exact .inl (cU.2 ⟨j,h,hj,rfl⟩)
 · right
   rw [aV];refine ⟨j- (m+1),by rw [List.length_drop];omega,?_⟩
   rw [tV]
   congr 1;omega
def kP (c0:aQ) (f:List Pt) (es:List (Int×Int)) (i:Nat) (c:aQ):=
 (es,c0.certs.list,(c0.certs.list.length:Int),(i:Int),c.now.1,c.now.2,c.field.points,c.certs.next_,c.certs.list,c.agenda.slots.uses,c.agenda.slots.used,c.agenda.slots.free,c.agenda.heap,c.agenda.where_,c.due,f,(0:Int),(0:Int),(0:Int))
def kR (c0:aQ) (f:List Pt) (es:List (Int×Int)) (i:Nat) (c:aQ):=
 (es,(i:Int),c0.now.1,c0.now.2,c0.field.points,c0.certs.next_,c0.certs.list,c0.agenda.slots.uses,c0.agenda.slots.used,c0.agenda.slots.free,c0.agenda.heap,c0.agenda.where_,c0.due,f,(0:Int),(0:Int),(0:Int),c.now.1,c.now.2,c.field.points,c.certs.next_,c.certs.list,c.agenda.slots.uses,c.agenda.slots.used,c.agenda.slots.free,c.agenda.heap,c.agenda.where_,c.due)
def eP (es:List (Int×Int)) (i:Nat) (c:aQ):=
 (es,(es.length:Int),(i:Int),c.now.1,c.now.2,c.field.points,c.certs.next_,c.certs.list,c.agenda.slots.uses,c.agenda.slots.used,c.agenda.slots.free,c.agenda.heap,c.agenda.where_,c.due,(0:Int),(0:Int),(0:Int))
def eR (es:List (Int×Int)) (i:Nat) (c:aQ):=
 (es,(i:Int),(0:Int),(0:Int),(0:Int),c.now.1,c.now.2,c.field.points,c.certs.next_,c.certs.list,c.agenda.slots.uses,c.agenda.slots.used,c.agenda.slots.free,c.agenda.heap,c.agenda.where_,c.due)
def sX (c:aQ):Int:=c.certs.next_- (c.certs.list.length:Int)
structure O6 (c:aQ) (f:List Pt) (es:List (Int×Int)) (r:aQ):Prop where
 has: ∀e∈es,vQ r.certs.list e
 sub: ∀x∈r.certs.list,x.2∈es
 ok:bE r
 fld:r.field.points=f
 now:r.now=c.now
 room:sX c<=sX r
def Q2 (c:aQ) (k:Nat):Prop:=c.certs.list.length<=k/\c.certs.next_<=k/\ ∀j,j<c.agenda.slots.uses.length->c.agenda.slots.uses[j]!<=k
theorem aX.len {l:List Pt} {t:Int×Int} {H:List Ev}: ∀{cs ds:List vP},aX l t H cs ds->ds.length<=cs.length
 | [],ds,h=>by rw [show ds=[] from h];exact Nat.le_refl _
 |x::cs,ds,h=>by
  cases hy:(bK l x.2 t).2 with
  |true=>
   obtain ⟨d,ds',rfl,_,_,h4⟩:=h.1 hy;exact Nat.succ_le_succ h4.len
  |false=>exact Nat.le_succ_of_le (h.2 hy).len
theorem Q2.not_full {c:aQ} (ok:bE c) {k:Nat} (h:Q2 c k) (hk:k<=199): ¬(I6 c.certs\/ ¬C9 c.agenda.slots):=by
 obtain ⟨h1,h2,h3⟩:=h;have fl:=ok.fol.len;have hd:=ok.hd;have hl:=ok.agd.hl;have wl:=ok.agd.wl;have w2:=ok.w200;rintro (h|h)
 · rcases h with h|h<;>omega
 · refine h ⟨by omega,?_⟩
   have:=h3 _ (FN ok.agd.so (by omega)).1
   omega
theorem Q2.more {c c':aQ} {k:Nat} (h:Q2 c k) {x:Int×Int} (hc:c'.certs=sS c.certs x) (hs:c'.agenda.slots=c.agenda.slots\/c'.agenda.slots=iN c.agenda.slots):Q2 c' (k+1):=by
 obtain ⟨h1,h2,h3⟩:=h;refine ⟨?_,?_,fun j hj=>?_⟩
 · rw [hc]
   show (c.certs.list++[(c.certs.next_,x)]).length<=_;rw [List.length_append,List.length_singleton];omega
 · rw [hc]
   show c.certs.next_+1<=_;omega
 · rcases hs with e|e
   · rw [e] at hj ⊢
     have:=h3 j hj;omega
   · rw [e] at hj ⊢
     change j<(c.agenda.slots.uses.set _ _).length at hj;rw [List.length_set] at hj;show (c.agenda.slots.uses.set (dG c.agenda.slots) (c.agenda.slots.uses[dG c.agenda.slots]!+1))[j]!<=_;rw [bH];split
     · rename_i h;have:=h3 _ h.2;omega
     · have:=h3 j hj;omega
structure JA (f:List Pt) (es:List (Int×Int)):Prop where
 len:es.length<=1000000
 cv: ∀x∈es,gM x
 kn: ∀x∈es,kH f x
theorem aEm {c0:aQ} (ok0:bE c0) {f:List Pt} {es:List (Int×Int)} (eok:JA f es):
 ∀(d i:Nat) (c:aQ),c0.certs.list.length-i<=d->i<=c0.certs.list.length->bE c->(∀x∈c0.certs.list.drop i,x∈c.certs.list)->(∀x∈c.certs.list,x∈c0.certs.list.drop i\/x.2∈es)->
  ∃c':aQ,aH dK (kP c0 f es i c)=aH dK (kP c0 f es c0.certs.list.length c')/\aH dV (kR c0 f es i c)=aH dV (kR c0 f es c0.certs.list.length c')/\bE c'/\(∀x∈c'.certs.list,x.2∈es)/\c'.field=c.field/\c'.now=c.now/\sX c<=sX c':=by
 have bd:=ok0.bd;intro d
 induction d with
 |zero=>
  intro i c hd hi ok h1 h2
  have:i=c0.certs.list.length:=by omega
  subst this;refine ⟨c,rfl,rfl,ok,fun x hx=>?_,rfl,rfl,Int.le_refl _⟩
  rcases h2 x hx with h|h
  · rw [List.drop_length] at h;cases h
  · exact h
 |succ d ih=>
  intro i c hd hi ok h1 h2
  by_cases he:i=c0.certs.list.length
  · subst he
    refine ⟨c,rfl,rfl,ok,fun x hx=>?_,rfl,rfl,Int.le_refl _⟩
    rcases h2 x hx with h|h
    · rw [List.drop_length] at h;cases h
    · exact h
  have hi':i<c0.certs.list.length:=by omega
  have e1:decide ((i:Int)<(c0.certs.list.length:Int))=true:=aN (by omega)
  have sc:=aY (show i<1000000000 by omega)
  have cg:=aE c0.certs.list i hi';have dr:=xF hi';have ceta:(aQ.mk (c.now.1,c.now.2) (Field.mk c.field.points) (bL.mk c.certs.next_ c.certs.list) (aP.mk (bC.mk c.agenda.slots.uses c.agenda.slots.used c.agenda.slots.free) c.agenda.heap c.agenda.where_) c.due)=c:=rfl
  by_cases hin:(c0.certs.list[i]!).2∈es
  · have s1:dK (kP c0 f es i c)=some (.next (kP c0 f es (i+1) c)):=by
     unfold dK kP;simp only [e1,cond_true,cg,aB,oD _ _ eok.len,aN hin,Bool.not_true,cond_false,sc]
    have s2:dV (kR c0 f es i c)=some (.next (kR c0 f es (i+1) c)):=by
     unfold dV kR;simp only [aF,e1,cond_true,cg,aB,LF _ _ eok.len,aN hin,Bool.not_true,cond_false,sc]
    rw [aU s1,aU s2];refine ih (i+1) c (by omega) (by omega) ok (fun x hx=>h1 x (by rw [dr];exact List.mem_cons_of_mem _ hx)) (fun x hx=>?_)
    rcases h2 x hx with h|h
    · rw [dr] at h
      rcases List.mem_cons.1 h with rfl|h
      · exact .inr hin
      · exact .inl h
    · exact .inr h
  · have hm:=h1 (c0.certs.list[i]!) (by rw [dr];exact List.mem_cons_self)
    obtain ⟨m,hm1,hm2⟩:=aV.1 hm;obtain ⟨c',r1,r2,r3,r4,r5,r6⟩:=aEk ok hm1;have rt:=LU ok hm1 r1;rw [hm2] at r2 rt;have s1:dK (kP c0 f es i c)=some (.next (kP c0 f es (i+1) c')):=by
     unfold dK kP;simp only [e1,cond_true,cg,aB,oD _ _ eok.len,aL hin,Bool.not_false,sc,ceta,rt]
    have s2:dV (kR c0 f es i c)=some (.next (kR c0 f es (i+1) c')):=by
     unfold dV kR;simp only [aF,e1,cond_true,cg,aB,LF _ _ eok.len,aL hin,Bool.not_false,sc,ceta,r2]
    rw [aU s1,aU s2];have cl:c'.certs.list=c.certs.list.eraseIdx m:=by rw [r6];rfl
    have hroom:sX c<=sX c':=by
     unfold sX;rw [r6];show _<=c.certs.next_- (((c.certs.list.eraseIdx m).length:Nat):Int);rw [List.length_eraseIdx_of_lt hm1];omega
    have hs:(∀x∈c0.certs.list.drop (i+1),x∈c'.certs.list)/\(∀x∈c'.certs.list,x∈c0.certs.list.drop (i+1)\/x.2∈es):=by
     refine ⟨fun x hx=>?_,fun x hx=>?_⟩
     · rw [cl]
       refine aB2 (h1 x (by rw [dr];exact List.mem_cons_of_mem _ hx)) ?_
       rw [hm2];exact I9 ok0 hx hi'
     · rw [cl] at hx
       obtain ⟨a1,a2⟩:=wX ok.crt_up hm1 hx;rw [hm2] at a2;rcases h2 x a1 with h|h
       · rw [dr] at h
         rcases List.mem_cons.1 h with rfl|h
         · exact absurd rfl a2
         · exact .inl h
       · exact .inr h
    obtain ⟨d',q1,q2,q3,q4,q5,q6,q7⟩:=ih (i+1) c' (by omega) (by omega) r3 hs.1 hs.2
    exact ⟨d',q1,q2,q3,q4,q5.trans r4,q6.trans r5,by omega⟩
theorem WQ {f:List Pt} (_fok:bN f) {es:List (Int×Int)} (eok:JA f es):
 ∀(d i:Nat) (c:aQ),es.length-i<=d->i<=es.length->bE c->c.field.points=f->(∀x∈c.certs.list,x.2∈es)->(∀j,j<i->vQ c.certs.list es[j]!)->
  ∃r:aQ×Int,aH dX (eP es i c)=some (.done r)/\aH eM (eR es i c)=some (.done r)/\(r.2=0/\O6 c f es r.1\/r=(eL,18))/\(∀k,Q2 c k->k+(es.length-i)<=199->r.2=0):=by
 have el:=eok.len;have fin: ∀c:aQ,bE c->c.field.points=f->(∀x∈c.certs.list,x.2∈es)->(∀j,j<es.length->vQ c.certs.list es[j]!)-> ∃r:aQ×Int,aH dX (eP es es.length c)=some (.done r)/\aH eM (eR es es.length c)=some (.done r)/\(r.2=0/\O6 c f es r.1\/r=(eL,18))/\r.2=0:=by
  intro c ok hf hs hh;have e1:decide ((es.length:Int)<(es.length:Int))=false:=aL (by omega)
  refine ⟨(c,0),aI ?_,aI ?_,.inl ⟨rfl,fun e he=>by obtain ⟨j,hj,q⟩:=aV.1 he;rw [<- q];exact hh j hj,hs,ok,hf,rfl,Int.le_refl _⟩,rfl⟩
  · unfold dX eP
    simp only [e1,cond_false]
  · unfold eM eR
    simp only [aF,e1,cond_false]
 intro d
 induction d with
 |zero=>
  intro i c hd hi ok hf hs hh
  have:i=es.length:=by omega
  subst this;obtain ⟨r,q1,q2,q3,q4⟩:=fin c ok hf hs hh;exact ⟨r,q1,q2,q3,fun _ _ _=>q4⟩
 |succ d ih=>
  intro i c hd hi ok hf hs hh
  by_cases he:i=es.length
  · subst he
    obtain ⟨r,q1,q2,q3,q4⟩:=fin c ok hf hs hh;exact ⟨r,q1,q2,q3,fun _ _ _=>q4⟩
  have bd:=ok.bd;have hi':i<es.length:=by omega
  have e1:decide ((i:Int)<(es.length:Int))=true:=aN (by omega)
  have sc:=aY (show i<1000000000 by omega)
  have cg:=aE es i hi';have ceta:(aQ.mk (c.now.1,c.now.2) (Field.mk c.field.points) (bL.mk c.certs.next_ c.certs.list) (aP.mk (bC.mk c.agenda.slots.uses c.agenda.slots.used c.agenda.slots.free) c.agenda.heap c.agenda.where_) c.due)=c:=rfl;have ceta2:bL.mk c.certs.next_ c.certs.list=c.certs:=rfl;have hc:=O1 c.certs.list es[i]! (by omega)
  have hr:=CP c.certs es[i]! (by omega)
  by_cases hin:vQ c.certs.list es[i]!
  · have s1:dX (eP es i c)=some (.next (eP es (i+1) c)):=by
     unfold dX eP;simp only [e1,cond_true,cg,aB,F0s,hc,aN hin,sc]
    have s2:eM (eR es i c)=some (.next (eR es (i+1) c)):=by
     unfold eM eR;simp only [aF,e1,cond_true,cg,aB,ceta2,hr,aN hin,sc]
    rw [aU s1,aU s2];obtain ⟨r,q1,q2,q3,q4⟩:=ih (i+1) c (by omega) (by omega) ok hf hs (fun j hj=>if q:j=i then by rw [q];exact hin else hh j (by omega))
    exact ⟨r,q1,q2,q3,fun k hk hl=>q4 k hk (by omega)⟩
  · have hb:kH c.field.points es[i]!:=by rw [hf];exact eok.kn _ (aZ hi')
    rcases aLW ok (eok.cv _ (aZ hi')) hb hin with ⟨r1,r2,full⟩|⟨c',r1,r2,r3,r4,r5,r6,r7⟩
    · refine ⟨(eL,18),aI ?_,aI ?_,.inr rfl,fun k hk hl=>absurd full (hk.not_full ok (by omega))⟩
      · unfold dX eP
        simp only [e1,cond_true,cg,aB,F0s,hc,aL hin,cond_false,ceta,r1,show ((18:Int) !=0)=true from rfl]
      · unfold eM eR
        simp only [aF,e1,cond_true,cg,aB,ceta2,hr,aL hin,cond_false,ceta,r2,show ((18:Int) !=0)=true from rfl]
    · have s1:dX (eP es i c)=some (.next (eP es (i+1) c')):=by
       unfold dX eP;simp only [e1,cond_true,cg,aB,F0s,hc,aL hin,cond_false,ceta,r1,show ((0:Int) !=0)=false from rfl,sc]
      have s2:eM (eR es i c)=some (.next (eR es (i+1) c')):=by
       unfold eM eR;simp only [aF,e1,cond_true,cg,aB,ceta2,hr,aL hin,cond_false,ceta,r2,show ((0:Int) !=0)=false from rfl,sc]
      rw [aU s1,aU s2];obtain ⟨r,q1,q2,q3,q6⟩:=ih (i+1) c' (by omega) (by omega) r3 (by rw [r4,hf]) (fun x hx=>by
       rw [r6] at hx;rcases List.mem_append.1 (show x∈c.certs.list++[(c.certs.next_,es[i]!)] from hx) with h|h
       · exact hs x h
       · rw [List.mem_singleton.1 h];exact aZ hi') (fun j hj=>by
       rw [r6];show vQ (c.certs.list++[(c.certs.next_,es[i]!)]) _
       by_cases q:j=i
       · rw [q];exact ⟨c.certs.list.length,by rw [List.length_append,List.length_singleton];omega,by rw [iL (Nat.le_refl _),Nat.sub_self];rfl⟩
       · obtain ⟨w,w1,w2⟩:=hh j (by omega)
         exact ⟨w,by rw [List.length_append];omega,by rw [iI w1];exact w2⟩)
      refine ⟨r,q1,q2,q3.imp (fun ⟨q4,q5⟩=>⟨q4,q5.has,q5.sub,q5.ok,q5.fld,q5.now.trans r5,Int.le_trans ?_ q5.room⟩) id,fun k hk hl=>q6 (k+1) (hk.more r6 r7) (by omega)⟩
      unfold sX;rw [r6];show _<=(c.certs.next_+1) - (((c.certs.list++[(c.certs.next_,es[i]!)]).length:Nat):Int);rw [List.length_append,List.length_singleton];omega
theorem aLY {c:aQ} (ok:bE c) {f:List Pt} (fok:bN f) {es:List (Int×Int)} (eok:JA f es):
 ∃r:aQ×Int,oX c ⟨f⟩ es=some r/\nZ c ⟨f⟩ es=some r/\(r.2=0/\O6 c f es r.1\/r=(eL,18)):=by
 have f64:=fok.1;obtain ⟨c',g1,g2,g3,g4,g5,g6,g7⟩:=aEm ok eok c.certs.list.length 0 c (by omega) (by omega) ok (fun x hx=>by rwa [List.drop_zero] at hx) (fun x hx=> .inl (by rwa [List.drop_zero]))
 have bd:=g3.bd;have e1:decide ((c.certs.list.length:Int)<(c.certs.list.length:Int))=false:=aL (by omega)
 have start1:oX c ⟨f⟩ es=aH dK (kP c f es 0 c):=rfl;have start2:nZ c ⟨f⟩ es=aH dV (kR c f es 0 c):=by
  unfold nZ;simp only [lS ok,aB];rfl
 rw [start1,start2,g1,g2];have eq1:=CQ c'.field.points f (by omega)
 have eq2:=LG c'.field.points f (by omega)
 have ceta:(aQ.mk (c'.now.1,c'.now.2) (Field.mk c'.field.points) (bL.mk c'.certs.next_ c'.certs.list) (aP.mk (bC.mk c'.agenda.slots.uses c'.agenda.slots.used c'.agenda.slots.free) c'.agenda.heap c'.agenda.where_) c'.due)=c':=rfl
 by_cases hf:c'.field.points=f
 · obtain ⟨r,i1,i2,i3,_⟩:=WQ fok eok es.length 0 c' (by omega) (by omega) g3 hf g4 (fun j hj=>absurd hj (Nat.not_lt_zero j))
   refine ⟨r,aI ?_,aI ?_,i3.imp (fun ⟨q4,q5⟩=>⟨q4,q5.has,q5.sub,q5.ok,q5.fld,q5.now.trans g6,Int.le_trans g7 q5.room⟩) id⟩
   · unfold dK kP
     simp only [e1,cond_false,eq1,aN hf,aB,Bool.not_true];exact i1
   · unfold dV kR
     simp only [aF,e1,cond_false,eq2,aN hf,aB,Bool.not_true];exact i2
 · have kn: ∀i,i<c'.certs.list.length->kH f (c'.certs.list[i]!).2:=fun i hi=>eok.kn _ (g4 _ (aZ hi))
   rcases aU3 g3 fok kn with ⟨a1,a2⟩|⟨c2,a1,a2,a3,a4,a5,a6⟩
   · refine ⟨(eL,18),aI ?_,aI ?_,.inr rfl⟩
     · unfold dK kP
       simp only [e1,cond_false,eq1,aL hf,aB,Bool.not_false,cond_true,ceta,a1,show ((18:Int) !=0)=true from rfl]
     · unfold dV kR
       simp only [aF,e1,cond_false,eq2,aL hf,aB,Bool.not_false,cond_true,ceta,a2,show ((18:Int) !=0)=true from rfl]
   · obtain ⟨r,i1,i2,i3,_⟩:=WQ fok eok es.length 0 c2 (by omega) (by omega) a3 a4 (by rw [a6];exact g4) (fun j hj=>absurd hj (Nat.not_lt_zero j))
     refine ⟨r,aI ?_,aI ?_,i3.imp (fun ⟨q4,q5⟩=>⟨q4,q5.has,q5.sub,q5.ok,q5.fld,(q5.now.trans a5).trans g6,Int.le_trans (Int.le_trans g7 (by unfold sX;rw [a6];exact Int.le_refl _)) q5.room⟩) id⟩
     · unfold dK kP
       simp only [e1,cond_false,eq1,aL hf,aB,Bool.not_false,cond_true,ceta,a1,show ((0:Int) !=0)=false from rfl];exact i1
     · unfold dV kR
       simp only [aF,e1,cond_false,eq2,aL hf,aB,Bool.not_false,cond_true,ceta,a2,show ((0:Int) !=0)=false from rfl];exact i2
theorem O7 {α:Type} [Inhabited α] {l:List α}:l.Nodup↔ ∀k,k<l.length->l[k]!∉l.take k:=by
 rw [hH];constructor
 · intro h k hk hm
   obtain ⟨i,h1,h2,h3⟩:=cU.1 hm;exact h i k h1 hk h3
 · intro h i j hij hj he
   exact h j hj (cU.2 ⟨i,hij,by omega,he⟩)
theorem JB {α:Type} [Inhabited α] {l:List α} {P:α->Prop}:(∀x∈l,P x)↔ ∀i,i<l.length->P l[i]!:=by
 constructor
 · intro h i hi;exact h _ (aZ hi)
 · intro h x hx
   obtain ⟨i,hi,rfl⟩:=aV.1 hx;exact h i hi
theorem TC {σ ρ:Type} {body:σ->Option (cO σ ρ)} (st:Nat->σ) (n:Nat) (P:Nat->Prop) {r e:ρ} (h: ∀i,i<n->(¬P i->body (st i)=some (.done r))/\(P i->body (st i)=some (.next (st (i+1)))))
 (hend:body (st n)=some (.done e)):aH body (st 0)=some (if∀i,i<n->P i then e else r):=by
 have key:=dM (body:=body) st n (fun i=> ¬P i) (r:=r) (e:=e) (fun i hi=>⟨(h i hi).1,fun hn=>(h i hi).2 (Classical.not_not.1 hn)⟩) hend
 by_cases hx: ∀i,i<n->P i
 · rw [if_pos hx];exact key.2 fun i hi=>Classical.not_not.2 (hx i hi)
 · rw [if_neg hx]
   obtain ⟨i,h⟩:=Classical.not_forall.1 hx;obtain ⟨hi,hx⟩:=Classical.not_imp.1 h;exact key.1 ⟨i,hi,hx⟩
theorem GH {f:List Pt} (fok:bN f) (id:Int): ∃p e,xT ⟨f⟩ id=some (p,e)/\(e=0↔pQ f id):=by
 have h1:=fok.1;have hc:dD ⟨f⟩=some 0:=by rw [fZ];exact congrArg some (eQ.2 fok)
 have bs:=zI f id (by omega) (fun i j=>hO fok.2.2)
 unfold xT lG lN;rw [I5];simp only [hc,aB,show ((0:Int) !=0)=false from rfl,cond_false]
 by_cases h:pQ f id
 · obtain ⟨k,hk,he⟩:=h
   rw [bs.1 k hk he];refine ⟨f[k]!,0,?_,fun _=>⟨k,hk,he⟩,fun _=>rfl⟩
   simp only [aB,Bool.not_true,cond_false,show ((0:Int) !=0)=false from rfl,aE f k hk]
 · obtain ⟨m,_,_,_,e⟩:=bs.2 (fun k hk he=>h ⟨k,hk,he⟩)
   rw [e];exact ⟨(0,0,0),6,rfl,fun h=>(by cases h),fun k=>absurd k h⟩
structure aMJ (c:aQ):Prop where
 f:c.field.points.length<=1000000
 l:c.certs.list.length<=1000000
 d:c.due.length<=1000000
 h:c.agenda.heap.length<=1000000
 w:c.agenda.where_.length<=1000000
 s1:c.agenda.slots.uses.length<=1000000
 s2:c.agenda.slots.used.length<=1000000
 s3:c.agenda.slots.free.length<=1000000
structure aB3 (c:aQ):Prop where
 now:oC c.now
 at64: ∀w,w<c.agenda.heap.length->oC ((c.agenda.heap[w]!).1,(c.agenda.heap[w]!).2.1)
theorem WR (f:Field):vL f=some true\/(vL f=some false/\f.points.length<=70):=by
 unfold vL
 simp only [aF]
 by_cases h1:16<f.points.length
 · rw [aN (show (16:Int)<(f.points.length:Int) by omega)]
   by_cases h2:f.points.length<64
   · rw [aN (show (f.points.length:Int)<64 by omega)];exact .inl rfl
   · rw [aL (show¬(f.points.length:Int)<64 by omega)]
     by_cases h3:70<f.points.length
     · rw [aN (show (70:Int)<(f.points.length:Int) by omega)];exact .inl rfl
     · rw [aL (show¬(70:Int)<(f.points.length:Int) by omega)];exact .inr ⟨rfl,by omega⟩
 · rw [aL (show¬(16:Int)<(f.points.length:Int) by omega),aL (show¬(70:Int)<(f.points.length:Int) by omega)]
   exact .inr ⟨rfl,by omega⟩
theorem WT (c:aQ):vM c=some true\/(vM c=some false/\aMJ c):=by
 unfold vM EB EA
 simp only [aF]
 by_cases h1:40<c.certs.list.length
 · rw [aN (show (40:Int)<(c.certs.list.length:Int) by omega)];exact .inl rfl
 rw [aL (show¬(40:Int)<(c.certs.list.length:Int) by omega)]
 by_cases h2:40<c.due.length
 · rw [aN (show (40:Int)<(c.due.length:Int) by omega)];exact .inl rfl
 rw [aL (show¬(40:Int)<(c.due.length:Int) by omega)]
 rcases WR c.field with e|⟨e,hf⟩
 · rw [e];exact .inl rfl
 rw [e];simp only [cond_false,aB]
 by_cases a1:210<c.agenda.slots.uses.length
 · rw [aN (show (210:Int)<(c.agenda.slots.uses.length:Int) by omega)];exact .inl rfl
 rw [aL (show¬(210:Int)<(c.agenda.slots.uses.length:Int) by omega)]
 by_cases a2:210<c.agenda.slots.used.length
 · rw [aN (show (210:Int)<(c.agenda.slots.used.length:Int) by omega)];exact .inl rfl
 rw [aL (show¬(210:Int)<(c.agenda.slots.used.length:Int) by omega)]
 by_cases a3:210<c.agenda.slots.free.length
 · rw [aN (show (210:Int)<(c.agenda.slots.free.length:Int) by omega)];exact .inl rfl
 rw [aL (show¬(210:Int)<(c.agenda.slots.free.length:Int) by omega)]
 by_cases a4:210<c.agenda.heap.length
 · rw [aN (show (210:Int)<(c.agenda.heap.length:Int) by omega)];exact .inl rfl
 rw [aL (show¬(210:Int)<(c.agenda.heap.length:Int) by omega)]
 by_cases a5:210<c.agenda.where_.length
 · rw [aN (show (210:Int)<(c.agenda.where_.length:Int) by omega)];exact .inl rfl
 rw [aL (show¬(210:Int)<(c.agenda.where_.length:Int) by omega)]
 exact .inr ⟨rfl,⟨by omega,by omega,by omega,by omega,by omega,by omega,by omega,by omega⟩⟩
theorem aAO {a b:Int×Int} (ha:bQ a) (hb:bQ b) (h:a.1*b.2=b.1*a.2):a=b:=by
 obtain ⟨a1,_,a3⟩:=ha;obtain ⟨b1,_,b3⟩:=hb;have hn:a.1.natAbs*b.2.natAbs=b.1.natAbs*a.2.natAbs:=by rw [<- Int.natAbs_mul,<- Int.natAbs_mul,h]
 have d1:b.2.natAbs ∣ a.2.natAbs:=by
  have:b.2.natAbs ∣ b.1.natAbs*a.2.natAbs:=by rw [<- hn];exact Nat.dvd_mul_left _ _
  exact (Nat.Coprime.dvd_of_dvd_mul_left b3 this)
 have d2:a.2.natAbs ∣ b.2.natAbs:=by
  have:a.2.natAbs ∣ a.1.natAbs*b.2.natAbs:=by rw [hn];exact Nat.dvd_mul_left _ _
  exact (Nat.Coprime.dvd_of_dvd_mul_left a3 this)
 have e:a.2.natAbs=b.2.natAbs:=Nat.dvd_antisymm d2 d1;have e2:a.2=b.2:=by omega
 have e1:a.1=b.1:=by
  rw [e2] at h;exact Int.eq_of_mul_eq_mul_right (by omega) h
 exact Prod.ext e1 e2
theorem JC (p q:Pt) (t:Int×Int):OF p q t=(p.2.1-q.2.1)*t.2+(p.2.2-q.2.2)*t.1:=rfl
theorem LH {l h:Pt} {t t':Int×Int} (d:1<=t.2) (d':1<=t'.2) (le:t.1*t'.2<=t'.1*t.2) (hB: ¬h.2.2<l.2.2) (hn: ¬eO l h t): ¬eO l h t':=by
 unfold eO at*;rw [JC] at*;generalize l.2.1-h.2.1=A at*;have hs:l.2.2-h.2.2<=0:=by omega
 intro hl;have key:(A*t'.2+(l.2.2-h.2.2)*t'.1)*t.2<=(A*t.2+(l.2.2-h.2.2)*t.1)*t'.2:=by
  have h1:(l.2.2-h.2.2)*(t'.1*t.2)<=(l.2.2-h.2.2)*(t.1*t'.2):=Int.mul_le_mul_of_nonpos_left hs le;have e1:(A*t'.2+(l.2.2-h.2.2)*t'.1)*t.2=A*t'.2*t.2+(l.2.2-h.2.2)*(t'.1*t.2):=by rw [Int.add_mul,Int.mul_assoc (l.2.2-h.2.2)]
  have e2:(A*t.2+(l.2.2-h.2.2)*t.1)*t'.2=A*t'.2*t.2+(l.2.2-h.2.2)*(t.1*t'.2):=by
   rw [Int.add_mul,Int.mul_assoc (l.2.2-h.2.2),Int.mul_assoc A,Int.mul_assoc A,Int.mul_comm t.2]
  omega
 rcases hl with hl|⟨hl,h2|⟨h2,h3⟩⟩
 · refine hn (.inl ?_)
   have:0<(A*t'.2+(l.2.2-h.2.2)*t'.1)*t.2:=Int.mul_pos hl (by omega)
   have k:0<(A*t.2+(l.2.2-h.2.2)*t.1)*t'.2:=by omega
   exact Int.pos_of_mul_pos_left k (by omega)
 · omega
 · have z:l.2.2-h.2.2=0:=by omega
   rw [z] at hl hn
   have:A=0:=by
    have:A*t'.2=0:=by omega
    rcases Int.mul_eq_zero.1 this with h|h
    · exact h
    · omega
   subst this;exact hn (.inr ⟨by omega,.inr ⟨h2,h3⟩⟩)
theorem O8 {h l:Pt} {t t':Int×Int} (hh:gE h) (hl:gE l) (r:bQ t) (r':bQ t') (le:t.1*t'.2<=t'.1*t.2) (up:(nT h l t).2=true->t'.1*(nT h l t).1.2<=(nT h l t).1.1*t'.2):
 nT h l t'=nT h l t:=by
 unfold nT at*
 by_cases h1:eO l h t
 · rw [if_pos h1] at up ⊢
   have e:t=t':=aAO r r' (by have:=up rfl;dsimp only at this;omega)
   subst e;rw [if_pos h1]
 · rw [if_neg h1] at up ⊢
   by_cases h2:h.2.2<l.2.2
   · rw [if_pos h2] at up ⊢
     obtain ⟨_,m1,m2,m3⟩:=KE hh hl (show h.2.2≠l.2.2 by omega)
     have up:=up rfl;dsimp only at up
     by_cases h3:eO l h t'
     · rw [if_pos h3]
       have:t'=met h l:=by
        refine aAO r' m1 ?_;have g:0<=OF l h t':=by rcases h3 with k|k<;>omega
        rw [JC] at g;generalize met h l=m at*;have d:=m1.1;have hB:0<l.2.2-h.2.2:=by omega
        generalize l.2.2-h.2.2=B at*;generalize hA:h.2.1-l.2.1=A at*;have g2:A*t'.2<=B*t'.1:=by
         have:(l.2.1-h.2.1)*t'.2= -(A*t'.2):=by rw [<- Int.neg_mul];congr 1;omega
         omega
        have g3:m.1*t'.2*B<=t'.1*m.2*B:=by
         have e1:m.1*t'.2*B=A*t'.2*m.2:=by
          rw [Int.mul_right_comm,m3,Int.mul_right_comm]
         have e2:t'.1*m.2*B=B*t'.1*m.2:=by
          rw [Int.mul_right_comm,Int.mul_comm t'.1 B]
         rw [e1,e2];exact Int.mul_le_mul_of_nonneg_right g2 (by omega)
        have g4:m.1*t'.2<=t'.1*m.2:=Int.le_of_mul_le_mul_right g3 hB;omega
       rw [this]
     · rw [if_neg h3]
   · rw [if_neg h2] at up ⊢
     rw [if_neg (LH r.1 r'.1 le h2 h1)]
theorem KO {a:aP} (ok:fN a): ∀k,k<a.heap.length-> ¬eA a.heap[k]! a.heap[0]!:=by
 have d: ∀w,w<a.heap.length->1<=(a.heap[w]!).2.1:=fun w hw=>(ok.ev w hw).1.1
 intro k
 induction k using Nat.strongRecOn with
 |ind k ih=>
  intro hk
  by_cases h0:k=0
  · subst h0;exact fun h=>qR h h
  · exact BA (d 0 (by omega)) (d ((k-1) / 2) (by omega)) (d k hk) (ih ((k-1) / 2) (by omega) (by omega)) (ok.ord k (by omega) hk)
theorem aEn {h l:Pt} {t:Int×Int} (hh:gE h) (hl:gE l) (r:bQ t) (is:(nT h l t).2=true):t.1*(nT h l t).1.2<=(nT h l t).1.1*t.2:=by
 unfold nT at*
 by_cases h1:eO l h t
 · rw [if_pos h1];exact Int.le_refl _
 · rw [if_neg h1] at is ⊢
   by_cases h2:h.2.2<l.2.2
   · rw [if_pos h2]
     obtain ⟨_,m1,m2,m3⟩:=KE hh hl (show h.2.2≠l.2.2 by omega)
     dsimp only;have g:OF l h t<=0:=Int.not_lt.1 fun k=>h1 (.inl k)
     rw [JC] at g;generalize met h l=m at*;have d:=m1.1;have d2:=r.1;have hB:0<l.2.2-h.2.2:=by omega
     generalize l.2.2-h.2.2=B at*;generalize hA:h.2.1-l.2.1=A at*;have g2:B*t.1<=A*t.2:=by
      have:(l.2.1-h.2.1)*t.2= -(A*t.2):=by rw [<- Int.neg_mul];congr 1;omega
      omega
     have e1:t.1*m.2*B=B*t.1*m.2:=by rw [Int.mul_right_comm,Int.mul_comm t.1 B]
     have e2:m.1*t.2*B=A*t.2*m.2:=by rw [Int.mul_right_comm,m3,Int.mul_right_comm]
     have g3:t.1*m.2*B<=m.1*t.2*B:=by
      rw [e1,e2];exact Int.mul_le_mul_of_nonneg_right g2 (by omega)
     exact Int.le_of_mul_le_mul_right g3 hB
   · rw [if_neg h2] at is;cases is
theorem aX.time {l:List Pt} {t t':Int×Int} {H:List Ev}: ∀{cs ds:List vP},(∀x∈cs,bK l x.2 t'=bK l x.2 t)->aX l t H cs ds->aX l t' H cs ds
 | [],_,_,h=>h
 |x::cs,ds,hw,h=>by
  have e:=hw x List.mem_cons_self;have ih: ∀{ds},aX l t H cs ds->aX l t' H cs ds:=fun {ds}=>aX.time fun y hy=>hw y (List.mem_cons_of_mem _ hy)
  refine ⟨fun hy=>?_,fun hy=>?_⟩
  · rw [e] at hy
    obtain ⟨d,ds',h1,h2,h3,h4⟩:=h.1 hy;exact ⟨d,ds',h1,h2,by rw [e];exact h3,ih h4⟩
  · rw [e] at hy
    exact ih (h.2 hy)
theorem Y0 {c:aQ} (ok:bE c) (hne:0<c.agenda.heap.length):
 ∃(i:Nat) (c':aQ),i<c.certs.list.length/\(c.certs.list[i]!).1=Ev.num c.agenda.heap[0]!/\nI c (Ev.num c.agenda.heap[0]!)=some (c',(c.certs.list[i]!).2,0)/\qO c (Ev.num c.agenda.heap[0]!)=some c'/\
  bE ⟨Ev.at c.agenda.heap[0]!,c'.field,c'.certs,c'.agenda,c'.due⟩/\c'.field=c.field/\c'.certs=pN c.certs i/\c.now.1*(Ev.at c.agenda.heap[0]!).2<=(Ev.at c.agenda.heap[0]!).1*c.now.2:=by
 have hm:=aZ hne;obtain ⟨d,hd,hn⟩:=ok.nums _ hm;obtain ⟨x,hx,h1,h2,h3⟩:=ok.fol.due d hd;obtain ⟨w,hw,he⟩:=aV.1 h3;have hw0:w=0:=Classical.byContradiction fun hx=>by
  refine ok.agd.nd 0 w (by omega) hw ?_
  rw [he,<- hn,h1]
 subst hw0;obtain ⟨i,hi,rfl⟩:=aV.1 hx;have num:(c.certs.list[i]!).1=Ev.num c.agenda.heap[0]!:=by rw [<- hn,h1]
 have tm:Ev.at c.agenda.heap[0]! =(bK c.field.points (c.certs.list[i]!).2 c.now).1:=by rw [he]
 obtain ⟨c',r1,r2,r3,r4,r5,r6⟩:=aEk ok hi;have hb:=ok.known i hi;have pt:=fun (x:Int×Int) (hb:kH c.field.points x)=>And.intro (iF ok.fld hb.2).1 (iF ok.fld hb.1).1
 have rt:=IY (pt _ hb).1 (pt _ hb).2 ok.now64 ok.nowv h2;have ge:=aEn (pt _ hb).1 (pt _ hb).2 ok.nowv h2;rw [num] at r1 r2;refine ⟨i,c',hi,num,r1,r2,?_,r4,r6,by rw [tm];exact ge⟩
 have kn:=EN ok i hi;refine ⟨by rw [tm];exact rt.1,by rw [tm];exact rt.2,r3.fld,r3.crt,r3.agd,r3.w200,r3.hd,r3.known,?_⟩
 refine aX.time (t:=c'.now) (fun y hy=>?_) r3.fol
 have hy':y∈c.certs.list:=by
  rw [r6] at hy;exact (wX ok.crt_up hi hy).1
 obtain ⟨j,hj,rfl⟩:=aV.1 hy';have hbj:=ok.known j hj;rw [r4,r5];refine O8 (pt _ hbj).1 (pt _ hbj).2 ok.nowv (by rw [tm];exact rt.1) (by rw [tm];exact ge) (fun is=>?_)
 obtain ⟨d',hd',k1,k2⟩:=ok.fol.has _ hy' is;obtain ⟨w,hw,he⟩:=aV.1 k2
 have:=KO ok.agd w hw
 rw [he] at this;exact Int.not_lt.1 fun k=>this (.inl (wV.2 k))
theorem DB {p q:Pt} {t:Int×Int} (hp:gE p) (hq:gE q) (ht:oC t) (hr:bQ t):lC p q t=some (decide (eO p q t),if p.1=q.1 then 2 else 0)\/(p.1=q.1/\lC p q t=some (false,2)):=by
 unfold lC;rw [AC ht,if_pos ⟨hp,hq,hr⟩]
 by_cases h:p.1=q.1
 · right;simp [h]
 · left
   simp only [h,if_false,aB,zF hp hq ht]
   have:decide (0<YM p q t)=decide (eO p q t):=by simp only [OG]
   simp [this]
end Go.Proofs.YthljmpcakagceaaGreat
namespace Go.Proofs.YthljmpcakagceaaGreat
theorem CR {α:Type} [BEq α] [LawfulBEq α]: ∀{a b:List α},a.Nodup->(∀x∈a,x∈b)->b.length<=a.length->a.Perm b
 | [],b,_,_,hl=>by
  rw [List.eq_nil_of_length_eq_zero (show b.length=0 by simpa using hl)]
 |x::a,b,hd,h,hl=>by
  rw [List.nodup_cons] at hd;have hx:=h x List.mem_cons_self;have ih:=CR (a:=a) (b:=b.erase x) hd.2 (fun y hy=>by
   rw [List.mem_erase_of_ne (fun e=>hd.1 (by rw [<- e];exact hy))]
   exact h y (List.mem_cons_of_mem _ hy)) (by
   rw [List.length_erase_of_mem hx];rw [List.length_cons] at hl
   omega)
  exact (List.Perm.cons x ih).trans (List.perm_cons_erase hx).symm
theorem CS {α β:Type} {f:α->β}: ∀{l:List α},l.Nodup->(∀x∈l,∀y∈l,f x=f y->x=y)->(l.map f).Nodup
 | [],_,_=>List.nodup_nil
 |x::l,h,hi=>by
  rw [List.nodup_cons] at h;rw [List.map_cons,List.nodup_cons];refine ⟨fun hm=>?_,CS h.2 fun y hy z hz=>hi y (List.mem_cons_of_mem _ hy) z (List.mem_cons_of_mem _ hz)⟩
  obtain ⟨y,hy,e⟩:=List.mem_map.1 hm
  have:=hi y (List.mem_cons_of_mem _ hy) x List.mem_cons_self e
  rw [this] at hy;exact h.1 hy
end Go.Proofs.YthljmpcakagceaaGreat
namespace Go.Proofs.YthljmpcakagceaaGreat
open Go.Vm Classical
def KP (l:List Int) (k:Nat):List (Int×Int):=(List.range k).map fun i=>(l[i+1]!,l[i / 2]!)
abbrev EO (l:List Int):List (Int×Int):=KP l (l.length-1)
theorem HD (l:List Int) (k:Nat):(KP l k).length=k:=by unfold KP;rw [List.length_map,List.length_range]
theorem LJ (l:List Int) {k i:Nat} (h:i<k):(KP l k)[i]! =(l[i+1]!,l[i / 2]!):=by
 rw [getElem!_pos _ i (by rw [HD];exact h)]
 unfold KP;rw [List.getElem_map,List.getElem_range]
theorem WU {l:List Int} (hd:l.Nodup):(EO l).Nodup:=by
 unfold EO KP;refine CS List.nodup_range fun i hi j hj h=>?_
 rw [List.mem_range] at hi hj;have h1:l[i+1]! =l[j+1]!:=congrArg Prod.fst h;have h2:=hH.1 hd;rcases Nat.lt_trichotomy i j with k|k|k
 · exact absurd h1 (h2 (i+1) (j+1) (by omega) (by omega))
 · exact k
 · exact absurd h1.symm (h2 (j+1) (i+1) (by omega) (by omega))
theorem aLZ {f:List Pt} (fok:bN f) {t:Int×Int} (r64:oC t) {x:Int×Int} (hb:kH f x):CC x ⟨f⟩ t=some (decide (eO (kJ f x.2) (kJ f x.1) t)):=by
 obtain ⟨h1,h2⟩:=hb;obtain ⟨j,j1,j2,j3⟩:=KM fok h1;obtain ⟨k,k1,k2,k3⟩:=KM fok h2;unfold CC;simp only [j2,k2,aB,aE f j j1,aE f k k1,j3,k3,OH (iF fok h2).1 (iF fok h1).1 r64]
def GI (f:List Pt):List Int:=f.map fun p=>p.1
theorem KQ {f:List Pt} (h:fY f):(GI f).Nodup:=by
 refine CS ?_ ?_
 · exact hH.2 fun i j hij hj e=>by have:=hO h hij hj;rw [e] at this;omega
 · intro x hx y hy e
   obtain ⟨i,hi,rfl⟩:=aV.1 hx;obtain ⟨j,hj,rfl⟩:=aV.1 hy;rw [qQ h hi hj e]
theorem aAP {f:List Pt} {id:Int}:id∈GI f↔pQ f id:=by
 unfold GI pQ;rw [List.mem_map];constructor
 · rintro ⟨p,hp,rfl⟩
   obtain ⟨i,hi,rfl⟩:=aV.1 hp;exact ⟨i,hi,rfl⟩
 · rintro ⟨i,hi,rfl⟩
   exact ⟨f[i]!,aZ hi,rfl⟩
structure yE (k:GA):Prop where
 clk:bE k.clock
 perm:(GI k.clock.field.points).Perm k.heap
 cert:(k.clock.certs.list.map fun x=>x.2).Perm (EO k.heap)
 lead: ∀e∈EO k.heap,eO (kJ k.clock.field.points e.2) (kJ k.clock.field.points e.1) k.clock.now
theorem zK {c:bL} (ok:fK c):(c.list.map fun x=>x.2).Nodup:=by
 refine CS ?_ ?_
 · exact hH.2 fun i j hij hj e=>ok.nd i j hij hj (by rw [e])
 · intro x hx y hy e
   obtain ⟨i,hi,rfl⟩:=aV.1 hx;obtain ⟨j,hj,rfl⟩:=aV.1 hy;rcases Nat.lt_trichotomy i j with k|k|k
   · exact absurd e (ok.nd i j k hj)
   · rw [k]
   · exact absurd e.symm (ok.nd j i k hi)
theorem qC {l:List vP} {x:Int×Int}:vQ l x↔x∈l.map fun y=>y.2:=by
 unfold vQ;rw [List.mem_map];constructor
 · rintro ⟨i,hi,rfl⟩;exact ⟨l[i]!,aZ hi,rfl⟩
 · rintro ⟨y,hy,rfl⟩
   obtain ⟨i,hi,rfl⟩:=aV.1 hy;exact ⟨i,hi,rfl⟩
theorem aL0 {c:aQ} (ok:bE c) (es:List (Int×Int)) (kn: ∀x∈es,kH c.field.points x):
 CD c es=some (decide (c.certs.list.length=es.length/\ ∀i,i<es.length->vQ c.certs.list es[i]!/\eO (kJ c.field.points (es[i]!).2) (kJ c.field.points (es[i]!).1) c.now)):=by
 have bd:=ok.bd;unfold CD;simp only [aF]
 by_cases h0:c.certs.list.length=es.length
 case neg=>rw [eH (by omega),cond_true,aL (fun h=>h0 h.1)]
 rw [bR (by omega),cond_false]
 have key:=TC (body:=uO) (fun i=>(es,(i:Int),c.now.1,c.now.2,c.field.points,c.certs.next_,c.certs.list,c.agenda.slots.uses,c.agenda.slots.used,c.agenda.slots.free,c.agenda.heap,c.agenda.where_,c.due)) es.length
  (fun i=>vQ c.certs.list es[i]!/\eO (kJ c.field.points (es[i]!).2) (kJ c.field.points (es[i]!).1) c.now) (r:=false) (e:=true) (fun i hi=>by
  have ceta2:bL.mk c.certs.next_ c.certs.list=c.certs:=rfl;unfold uO;simp only [aF,aN (show (i:Int)<(es.length:Int) by omega),cond_true,aE es i hi,aB,ceta2,CP c.certs es[i]! (by omega),aLZ ok.fld (t:=(c.now.1,c.now.2)) ok.now64 (kn _ (aZ hi)),aY (show i<1000000000 by omega)]
  by_cases h1:vQ c.certs.list es[i]!
  · rw [aN h1]
    by_cases h2:eO (kJ c.field.points (es[i]!).2) (kJ c.field.points (es[i]!).1) c.now
    · rw [show decide (eO (kJ c.field.points (es[i]!).2) (kJ c.field.points (es[i]!).1) (c.now.1,c.now.2))=true from aN h2]
      exact ⟨fun h=>absurd ⟨h1,h2⟩ h,fun _=>rfl⟩
    · rw [show decide (eO (kJ c.field.points (es[i]!).2) (kJ c.field.points (es[i]!).1) (c.now.1,c.now.2))=false from aL h2]
      exact ⟨fun _=>rfl,fun h=>absurd h.2 h2⟩
  · rw [aL h1]
    exact ⟨fun _=>rfl,fun h=>absurd h.1 h1⟩) (by
  unfold uO;simp only [aF,aL (show¬(es.length:Int)<(es.length:Int) by omega),cond_false])
 refine (show _=_ from key).trans ?_
 by_cases h2: ∀i,i<es.length->vQ c.certs.list es[i]!/\eO (kJ c.field.points (es[i]!).2) (kJ c.field.points (es[i]!).1) c.now
 · rw [if_pos h2,aN ⟨h0,h2⟩]
 · rw [if_neg h2,aL (fun h=>h2 h.2)]
end Go.Proofs.YthljmpcakagceaaGreat
