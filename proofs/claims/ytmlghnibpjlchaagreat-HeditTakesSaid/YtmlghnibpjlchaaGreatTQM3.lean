/- Plain laws (3). -/
import Derived.Test.YtmlghnibpjlchaaGreatTQM2
import Derived.Test.YtmlghnibpjlchaaGreatTVm3
namespace Go.Proofs.YtmlghnibpjlchaaGreat
open Go.Vm Classical
theorem ST (c:aP) (n:Int) (hl:c.due.length<=1000000):(∀k,k<c.due.length->(c.due[k]!).1=n->(∀j,j<k->(c.due[j]!).1≠n)->pE c n=some (k:Int))/\((∀k,k<c.due.length->(c.due[k]!).1≠n)->pE c n=some (-1)):=by
 unfold pE;refine lG (body:=qD) (fun i=>(n,(i:Int),c.now.1,c.now.2,c.field.points,c.certs.next_,c.certs.list,c.agenda.slots.uses,c.agenda.slots.used,c.agenda.slots.free,c.agenda.heap,c.agenda.where_,c.due)) c.due.length (fun i=>(c.due[i]!).1=n) (fun i=>(i:Int)) (fun i hi=>?_) ?_
 · have e1:decide ((i:Int)<(c.due.length:Int))=true:=aN (by omega)
   unfold qD;simp only [aE,e1,cond_true,aB c.due i hi,aC,bA (show i<1000000000 by omega)]
   constructor
   · intro h;rw [fZ h];rfl
   · intro h;rw [fI h];rfl
 · unfold qD
   have:decide ((c.due.length:Int)<(c.due.length:Int))=false:=aL (by omega)
   simp only [aE,this,cond_false]
theorem NS {ds:List uB} (hu:Up ds) (hl:ds.length<=1000000) (n:Int):(∀k,k<ds.length->(ds[k]!).1=n->pB ds n=some ((k:Int),true))/\((∀k,k<ds.length->(ds[k]!).1≠n)-> ∃m:Nat,pB ds n=some ((m:Int),false)):=by
 have bs:=AV ds n hl (sQ.1 hu);unfold pB;rw [aNn];constructor
 · intro k hk he;rw [bs.1 k hk he];rfl
 · intro h
   obtain ⟨m,_,_,_,e⟩:=bs.2 h;exact ⟨m,by rw [e];rfl⟩
theorem bF.bd {c:aP} (ok:bF c):c.due.length<=200/\c.field.points.length<=64/\c.certs.list.length<=200:=by
 have:=ok.hd;have:=ok.agd.bd;have:=ok.fld.1;have:=ok.crt.len
 omega
theorem jU {c:aP} (ok:bF c):iO c=some c:=by
 have bd:=ok.bd;unfold iO oP oQ;simp only [aW (show c.field.points.length<=1048576 by omega),aW (show c.certs.list.length<=1048576 by omega),aW (show c.due.length<=1048576 by omega),aC,sP ok.agd]
theorem mG {c:aP} (ok:bF c):mU c=some c:=by
 have bd:=ok.bd;have ab:=ok.agd.bd;have hl:=ok.agd.so.fl;have hn:=ok.agd.so.n2;have hu:=ok.agd.so.ul;unfold mU;simp only [aW (show c.field.points.length<=1048576 by omega),aW (show c.certs.list.length<=1048576 by omega),aW (show c.due.length<=1048576 by omega),aW (show c.agenda.heap.length<=1048576 by omega),aW (show c.agenda.where_.length<=1048576 by omega),
  aW (show c.agenda.slots.uses.length<=1048576 by omega),aW (show c.agenda.slots.used.length<=1048576 by omega),aW (show c.agenda.slots.free.length<=1048576 by omega),aC]
theorem uV {cs:List uB} {i:Nat} (hu:Up cs) (hi:i<cs.length) {x:uB} (hx:x∈cs.eraseIdx i):x∈cs/\x.1≠(cs[i]!).1:=by
 rw [wB,List.mem_append] at hx;have ub:=sQ.1 hu;rcases hx with hx|hx
 · obtain ⟨j,h1,h2,rfl⟩:=cF.1 hx
   have:=ub j i h1 hi
   exact ⟨bE h2,by omega⟩
 · obtain ⟨j,hj,rfl⟩:=aZ.1 hx
   rw [List.length_drop] at hj;rw [uZ]
   have:=ub i (i+1+j) (by omega) (by omega)
   exact ⟨bE (by omega),by omega⟩
theorem IM {c:aP} (ok:bF c) (i:Nat) (hi:i<c.certs.list.length): ∀j,j<(oK c.certs i).list.length->jT c.field.points ((oK c.certs i).list[j]!).2:=by
 intro j hj;have hm:(oK c.certs i).list[j]!∈c.certs.list:=(uV ok.crt_up hi (bE hj)).1;obtain ⟨m,hm1,hm2⟩:=aZ.1 hm;rw [<- hm2];exact ok.known m hm1
theorem aNo {c:aP} (ok:bF c) {i:Nat} (hi:i<c.certs.list.length):
 ∃c':aP,rE c (c.certs.list[i]!).1=some (c',(c.certs.list[i]!).2,0)/\vU c (c.certs.list[i]!).1=some c'/\bF c'/\c'.field=c.field/\c'.now=c.now/\c'.certs=oK c.certs i:=by
 have bd:=ok.bd;have rm:=L2 ok.crt hi (n:=(c.certs.list[i]!).1) rfl;have wo:=HR ok.crt hi (n:=(c.certs.list[i]!).1) rfl;have fe:=ok.fol.erase (i:=i) hi;have pd:=NS ok.due_up (by omega) (c.certs.list[i]!).1
 have da:=ST c (c.certs.list[i]!).1 (by omega)
 cases hf:(bI c.field.points (c.certs.list[i]!).2 c.now).2 with
 |false=>
  have no: ∀k,k<c.due.length->(c.due[k]!).1≠(c.certs.list[i]!).1:=by
   intro k hk he;obtain ⟨x,hx,h1,h2,_⟩:=ok.fol.due _ (bE hk);obtain ⟨j,hj,rfl⟩:=aZ.1 hx;have ub:=sQ.1 ok.crt_up
   have:j=i:=by
    rcases Nat.lt_trichotomy j i with h|h|h
    · have:=ub j i h hi;omega
    · exact h
    · have:=ub i j h hj;omega
   rw [this,hf] at h2;cases h2
  refine ⟨⟨c.now,c.field,oK c.certs i,c.agenda,c.due⟩,?_,?_,?_,rfl,rfl,rfl⟩
  · unfold rE
    obtain ⟨m,e⟩:=pd.2 no;simp only [rm,aC,show ((0:Int) !=0)=false from rfl,cond_false,mG ok,e]
  · unfold vU
    simp only [jU ok,aC,wo,da.2 no,aL (show¬(0:Int)<= -1 by omega),cond_false]
  · exact ⟨ok.nowv,ok.now64,ok.fld,L1 ok.crt hi,ok.agd,ok.w200,ok.hd,IM ok i hi,fe.1 hf⟩
 |true=>
  obtain ⟨k,hk,k1,k2,k3⟩:=fe.2 hf;obtain ⟨w,hw,hev⟩:=aZ.1 k2;have hh:(c.agenda.heap[w]!).2.2.2=(c.due[k]!).2:=by rw [hev]
  have ub:=sQ.1 ok.due_up;have before: ∀j,j<k->(c.due[j]!).1≠(c.certs.list[i]!).1:=fun j hj he=>by have:=ub j k hj hk;omega
  have dl:(c.due.eraseIdx k).length=c.due.length-1:=JE hk;obtain ⟨L,d1,d2⟩:=CK c.due k hk;refine ⟨⟨c.now,c.field,oK c.certs i,eC c.agenda w,c.due.eraseIdx k⟩,?_,?_,?_,rfl,rfl,rfl⟩
  · unfold rE
    simp only [rm,aC,show ((0:Int) !=0)=false from rfl,cond_false,mG ok,pd.1 k hk k1,cond_true,aB c.due k hk,zC ok.agd hw ok.agd.fit hh,bA (show k<1000000000 by omega),UX,d1,d2]
  · unfold vU
    have s1:gF c.due 0 (k:Int)=some (c.due.take k):=kW c.due k (by omega)
    have s2:gF c.due ((k+1:Nat):Int) (c.due.length:Int)=some (c.due.drop (k+1)):=by
     unfold gF;rw [if_pos ⟨by omega,by omega,by omega⟩]
     simp only [Int.toNat_natCast];rw [List.take_of_length_le (by rw [List.length_drop];exact Nat.le_refl _)]
    have tl:(c.due.take k).length=k:=by rw [List.length_take];omega
    have dl2:(c.due.drop (k+1)).length=c.due.length- (k+1):=List.length_drop;simp only [jU ok,aC,wo,da.1 k hk k1 before,aN (show (0:Int)<=(k:Int) by omega),cond_true,aB c.due k hk,zD ok.agd hw hh,s1,aW (show (c.due.take k).length<=1048576 by omega),bA (show k<1000000000 by omega),aE,s2,
     fE (show (c.due.take k).length+(c.due.drop (k+1)).length<=1048576 by omega),wB]
    cases hem:(c.due.drop (k+1)).isEmpty with
    |true=>
     rw [List.isEmpty_iff] at hem;rw [hem,List.append_nil];rfl
    |false=>rfl
  · have rem:=HO ok.agd hw
    have rmem:=LX ok.agd hw;have hlen:(eC c.agenda w).heap.length=c.agenda.heap.length-1:=by
     have h1:=rem.hl;have h2:=ok.agd.hl;have h3:(eC c.agenda w).slots=fN c.agenda.slots (c.agenda.heap[w]!).2.2.2:=by unfold eC;split<;>rfl
     rw [h3] at h1;change _+(c.agenda.slots.free++[_]).length=c.agenda.slots.uses.length at h1;rw [List.length_append] at h1;simp only [List.length_cons,List.length_nil] at h1;omega
    have wlen:(eC c.agenda w).where_.length=200:=by
     have h1:=rem.wl;have h3:(eC c.agenda w).slots=fN c.agenda.slots (c.agenda.heap[w]!).2.2.2:=by unfold eC;split<;>rfl
     rw [h3] at h1;change _=c.agenda.slots.uses.length at h1;rw [h1,<- ok.agd.wl,ok.w200]
    refine ⟨ok.nowv,ok.now64,ok.fld,L1 ok.crt hi,rem,wlen,?_,IM ok i hi,?_⟩
    · show (eC c.agenda w).heap.length=(c.due.eraseIdx k).length
      rw [hlen,dl,ok.hd]
    · refine k3.mono fun x hx e he hm=>(rmem e).2 ⟨hm,fun h=>?_⟩
      have:=(uV ok.crt_up hi hx).2
      rw [h,hev] at he;exact this he.symm
theorem I0 {c:aP} (ok:bF c) {i:Nat} (_hi:i<c.certs.list.length) {c':aP} (h:rE c (c.certs.list[i]!).1=some (c',(c.certs.list[i]!).2,0)):uP c (c.certs.list[i]!).1=some (c',0):=by
 unfold uP;rw [nF ok.fit,if_pos ok];simp only [aC,show ((0:Int) !=0)=false from rfl,cond_false,h]
end Go.Proofs.YtmlghnibpjlchaaGreat
namespace Go.Proofs.YtmlghnibpjlchaaGreat
open Go.Vm Classical
abbrev dC:aP:=⟨(0,0),⟨[]⟩,⟨0,[]⟩,⟨⟨[],[],[]⟩,[],[]⟩,[]⟩
theorem PK {l:List Pt} (ok:cB l) {id:Int} (h:kZ l id): ¬(bH l id).1<0:=by
 obtain ⟨h1,_⟩:=eZ ok h
 have:=h1.1
 omega
theorem aHI {c:aP} (ok:bF c) {x:Int×Int} (hx:fK x) (hb:jT c.field.points x) (hn: ¬AX c.certs.list x):
 (iH c x=some (dC,0,18)/\lF c x=some (dC,0,18)/\(GG c.certs\/ ¬BF c.agenda.slots))\/
 ∃c':aP,iH c x=some (c',c.certs.next_,0)/\lF c x=some (c',c.certs.next_,0)/\bF c'/\c'.field=c.field/\c'.now=c.now/\c'.certs=qH c.certs x/\(c'.agenda.slots=c.agenda.slots\/c'.agenda.slots=gR c.agenda.slots):=by
 have bd:=ok.bd;have n0:=ok.crt.n0;have n1:=ok.crt.n1;have fit:=ok.fit;have ad:=SN ok.crt hx;have rd:=PI ok.crt hx;rw [if_neg hn] at ad rd;have hc:gO c=some 0:=by rw [nF fit,if_pos ok]
 have p1:=nE ok.fld x.1;have p2:=nE ok.fld x.2;have q1:=PK ok.fld hb.1;have q2:=PK ok.fld hb.2;have wh:=yE ok.fld hx ok.nowv ok.now64;rw [if_pos hb] at wh;have rw':=yF ok.fld ok.now64 hb
 by_cases hf:GG c.certs
 · rw [if_pos hf] at ad rd
   left;refine ⟨?_,?_,.inl hf⟩
   · unfold iH dD
     simp only [hc,aC,show ((0:Int) !=0)=false from rfl,cond_false,ad,show ((18:Int)==8)=false from rfl,p1,p2,aL q1,aL q2,show ((18:Int) !=0)=true from rfl,cond_true]
   · unfold lF
     simp only [rd,aC,show ((18:Int) !=0)=true from rfl,cond_true]
 rw [if_neg hf] at ad rd;have cok:=UZ ok.crt hx hn hf;have known': ∀j,j<(qH c.certs x).list.length->jT c.field.points ((qH c.certs x).list[j]!).2:=by
  intro j hj;rw [DK] at hj;rw [wC]
  by_cases h:j<c.certs.list.length
  · rw [if_pos h];exact ok.known j h
  · rw [if_neg h,if_pos (by omega)];exact hb
 have fresh: ∀e∈c.agenda.heap,Ev.num e≠c.certs.next_:=by
  intro e he hne;obtain ⟨d,hd,h1⟩:=ok.nums e he;obtain ⟨y,hy,h2,_⟩:=ok.fol.due d hd;obtain ⟨j,hj,rfl⟩:=aZ.1 hy
  have:=(ok.crt.nr j hj).2
  omega
 have sn:=ok.fol.snoc (x:=(c.certs.next_,x));cases hw:(bI c.field.points x c.now).2 with
 |false=>
  right;refine ⟨⟨c.now,c.field,qH c.certs x,c.agenda,c.due⟩,?_,?_,⟨ok.nowv,ok.now64,ok.fld,cok,ok.agd,ok.w200,ok.hd,known',sn.1 hw⟩,rfl,rfl,rfl,.inl rfl⟩
  · unfold iH dD
    simp only [hc,aC,show ((0:Int) !=0)=false from rfl,cond_false,ad,show ((0:Int)==8)=false from rfl,p1,p2,aL q1,aL q2,mG ok,wh,hw]
  · unfold lF
    simp only [rd,aC,show ((0:Int) !=0)=false from rfl,cond_false,jU ok,rw',hw,Bool.not_false,cond_true]
 |true=>
  obtain ⟨t1,t2⟩:=LE (eZ ok.fld hb.2).1 (eZ ok.fld hb.1).1 ok.now64 ok.nowv hw
  by_cases op:BF c.agenda.slots
  · right
    have pu:=yZ ok.agd op ok.agd.fit (t:=(bI c.field.points x c.now).1) (n:=c.certs.next_) t1 t2 n0 n1 fresh;have rp:=BG ok.agd op (t:=(bI c.field.points x c.now).1) (n:=c.certs.next_) t1 t2 n0 n1;have pok:=XB ok.agd op (t:=(bI c.field.points x c.now).1) (n:=c.certs.next_) t1 t2 n0 n1 fresh
    have pmem:=SI ok.agd op (t:=(bI c.field.points x c.now).1) (n:=c.certs.next_) t1;have plen:=GE ok.agd op (t:=(bI c.field.points x c.now).1) (n:=c.certs.next_) t1;have ap: ∀h:Int×Int,bV c.due [(c.certs.next_,h)]=some (c.due++[(c.certs.next_,h)]):=fun h=>fE (by simp;omega)
    have wlen:(lS c.agenda (bI c.field.points x c.now).1 c.certs.next_).where_.length=200:=by
     have:=pok.wl
     change _=(c.agenda.slots.uses.set _ _).length at this;rw [List.length_set] at this;rw [this,<- ok.agd.wl,ok.w200]
    refine ⟨⟨c.now,c.field,qH c.certs x,lS c.agenda (bI c.field.points x c.now).1 c.certs.next_,c.due++[(c.certs.next_,lR c.agenda.slots)]⟩,?_,?_,⟨ok.nowv,ok.now64,ok.fld,cok,pok,wlen,?_,known',?_⟩,rfl,rfl,rfl,.inr rfl⟩
    · unfold iH dD
      simp only [hc,aC,show ((0:Int) !=0)=false from rfl,cond_false,ad,show ((0:Int)==8)=false from rfl,p1,p2,aL q1,aL q2,mG ok,wh,hw,cond_true,pu,ap]
    · unfold lF
      simp only [rd,aC,show ((0:Int) !=0)=false from rfl,cond_false,jU ok,rw',hw,Bool.not_true,sO ok.agd.so,aN op,rp,ap]
    · show (lS c.agenda (bI c.field.points x c.now).1 c.certs.next_).heap.length=(c.due++[_]).length
      rw [plen,List.length_append,ok.hd];rfl
    · have fm:aY c.field.points c.now (lS c.agenda (bI c.field.points x c.now).1 c.certs.next_).heap c.certs.list c.due:=ok.fol.mono fun y hy e he hm=>(pmem e).2 (.inr hm)
      exact (fm.snoc (x:=(c.certs.next_,x))).2 _ hw rfl ((pmem _).2 (.inl rfl))
  · left
    have pu:=zA ok.agd op ok.agd.fit (t:=(bI c.field.points x c.now).1) (n:=c.certs.next_) t1 t2 n0 n1 fresh;refine ⟨?_,?_,.inr op⟩
    · unfold iH dD
      simp only [hc,aC,show ((0:Int) !=0)=false from rfl,cond_false,ad,show ((0:Int)==8)=false from rfl,p1,p2,aL q1,aL q2,mG ok,wh,hw,cond_true,pu,show ((18:Int) !=0)=true from rfl]
    · unfold lF
      simp only [rd,aC,show ((0:Int) !=0)=false from rfl,cond_false,jU ok,rw',hw,Bool.not_true,sO ok.agd.so,aL op,Bool.not_false,cond_true]
end Go.Proofs.YtmlghnibpjlchaaGreat
namespace Go.Proofs.YtmlghnibpjlchaaGreat
open Go.Vm Classical
theorem Up.inj {cs:List uB} (h:Up cs) {x y:uB} (hx:x∈cs) (hy:y∈cs) (he:x.1=y.1):x=y:=by
 obtain ⟨i,hi,rfl⟩:=aZ.1 hx;obtain ⟨j,hj,rfl⟩:=aZ.1 hy;have ub:=sQ.1 h;rcases Nat.lt_trichotomy i j with h1|h1|h1
 · have:=ub i j h1 hj;omega
 · rw [h1]
 · have:=ub j i h1 hi;omega
structure L4 (c:aP) (f:List Pt) (i k:Nat) (a:aG) (ds:List uB):Prop where
 ok:eM a
 w2:a.where_.length=200
 new:aY f c.now a.heap (c.certs.list.take i) ds
 old:aY c.field.points c.now a.heap (c.certs.list.drop i) (c.due.drop k)
 kl:k<=c.due.length
 cnt:a.heap.length=ds.length+(c.due.length-k)
theorem aNp {a:aG} (ok:eM a) {w:Nat} (hw:w<a.heap.length):(eC a w).heap.length=a.heap.length-1/\(eC a w).where_.length=a.where_.length:=by
 have rem:=HO ok hw;have h3:(eC a w).slots=fN a.slots (a.heap[w]!).2.2.2:=by unfold eC;split<;>rfl
 have h1:=rem.hl;have h2:=ok.hl;have h4:=rem.wl;rw [h3] at h1 h4;change _+(a.slots.free++[_]).length=a.slots.uses.length at h1;change _=a.slots.uses.length at h4;rw [List.length_append] at h1;simp only [List.length_cons,List.length_nil] at h1;exact ⟨by omega,by rw [h4,ok.wl]⟩
theorem aHJ {a:aG} {t:Int×Int} {n:Int} (ok:eM a) (pok:eM (lS a t n)):(lS a t n).where_.length=a.where_.length:=by
 have:=pok.wl
 change _=(a.slots.uses.set _ _).length at this;rw [List.length_set] at this;rw [this,ok.wl]
section
variable {c : aP} (ok : bF c) {f : List Pt} (fok : cB f) (kn : ∀ i, i < c.certs.list.length -> jT f (c.certs.list[i]!).2)
include ok
theorem GI {i:Nat} {x:uB} (hx:x∈c.certs.list.take i) (hi:i<c.certs.list.length):x.1≠(c.certs.list[i]!).1:=by
 obtain ⟨j,h1,h2,rfl⟩:=cF.1 hx
 have:=ok.crt.up j i h1 hi
 omega
theorem GJ {i:Nat} {x:uB} (hx:x∈c.certs.list.drop (i+1)) (hi:i<c.certs.list.length):x.1≠(c.certs.list[i]!).1:=by
 obtain ⟨j,h1,rfl⟩:=aZ.1 hx;rw [List.length_drop] at h1;rw [uZ]
 have:=ok.crt.up i (i+1+j) (by omega) (by omega)
 omega
theorem YU {i k:Nat} {a:aG} {ds:List uB} (inv:L4 c f i k a ds) (hi:i<c.certs.list.length) (was:(bI c.field.points (c.certs.list[i]!).2 c.now).2=false): ∀e∈a.heap,Ev.num e≠(c.certs.list[i]!).1:=by
 have u1:Up (c.certs.list.take i):=ok.crt_up.sublist (List.take_sublist _ _);have u2:Up (c.certs.list.drop i):=ok.crt_up.sublist (List.drop_sublist _ _);have d1:=inv.new.up u1;have d2:=inv.old.up u2;have cross: ∀x∈ds,∀y∈c.due.drop k,x.1<y.1:=by
  intro x hx y hy;obtain ⟨p,hp,h1,_⟩:=inv.new.due x hx;obtain ⟨q,hq,h2,_⟩:=inv.old.due y hy;obtain ⟨m,m1,m2,rfl⟩:=cF.1 hp;obtain ⟨n,n1,rfl⟩:=aZ.1 hq;rw [List.length_drop] at n1;rw [uZ] at h2
  have:=ok.crt.up m (i+n) (by omega) (by omega)
  omega
 have nd:((ds++c.due.drop k).map fun x=>x.1).Nodup:=SS (by
  show List.Pairwise _ _;rw [List.pairwise_append];exact ⟨d1,d2,cross⟩)
 have only:=IL (H:=a.heap) nd (by rw [List.length_map,List.length_append,List.length_drop,inv.cnt];exact Nat.le_refl _) (fun n hn=>by
  obtain ⟨x,hx,rfl⟩:=List.mem_map.1 hn;rcases List.mem_append.1 hx with hx|hx
  · obtain ⟨p,hp,h1,h2,h3⟩:=inv.new.due x hx
    exact ⟨_,h3,h1.symm⟩
  · obtain ⟨p,hp,h1,h2,h3⟩:=inv.old.due x hx
    exact ⟨_,h3,h1.symm⟩)
 intro e he hne;obtain ⟨x,hx,h1⟩:=List.mem_map.1 (only e he);rcases List.mem_append.1 hx with hx|hx
 · obtain ⟨p,hp,h2,_⟩:=inv.new.due x hx
   exact GI ok hp hi (by rw [<- h2,h1,hne])
 · obtain ⟨p,hp,h2,h3,_⟩:=inv.old.due x hx
   have hp':p∈c.certs.list:=List.mem_of_mem_drop hp
   have:=ok.crt_up.inj hp' (bE hi) (by rw [<- h2,h1,hne])
   rw [this,was] at h3;cases h3
def YV (c:aP) (f:List Pt) (i:Nat) (a:aG) (ds:List uB):=
 (c.certs.list,(c.certs.list.length:Int),(i:Int),c.now.1,c.now.2,c.field.points,c.certs.next_,c.certs.list,c.agenda.slots.uses,c.agenda.slots.used,c.agenda.slots.free,c.agenda.heap,c.agenda.where_,c.due,f,(0:Int),(0:Int),(0:Int),c.now.1,c.now.2,c.certs.next_,c.certs.list,a.slots.uses,a.slots.used,a.slots.free,a.heap,a.where_,f,ds)
def YW (c:aP) (f:List Pt) (i:Nat) (a:aG) (ds:List uB):=
 ((i:Int),c.now.1,c.now.2,c.field.points,c.certs.next_,c.certs.list,c.agenda.slots.uses,c.agenda.slots.used,c.agenda.slots.free,c.agenda.heap,c.agenda.where_,c.due,f,(0:Int),(0:Int),(0:Int),c.now.1,c.now.2,f,c.certs.next_,c.certs.list,a.slots.uses,a.slots.used,a.slots.free,a.heap,a.where_,ds)
include fok kn
theorem aBg {i k:Nat} {a:aG} {ds:List uB} (inv:L4 c f i k a ds) (hi:i<c.certs.list.length) (hds:ds.length<=i):
 (dE (YV c f i a ds)=some (.done (.done (dC,18)))/\cH (YW c f i a ds)=some (.done (dC,18)))\/
 ∃k' a' ds',dE (YV c f i a ds)=some (.next (YV c f (i+1) a' ds'))/\cH (YW c f i a ds)=some (.next (YW c f (i+1) a' ds'))/\L4 c f (i+1) k' a' ds'/\ds'.length<=i+1:=by
 have bd:=ok.bd;have e1:decide ((i:Int)<(c.certs.list.length:Int))=true:=aN (by omega)
 have sc:=bA (show i<1000000000 by omega)
 have cg:=aB c.certs.list i hi;have hb:=kn i hi;have wn:=yE fok (x:=(c.certs.list[i]!).2) (t:=(c.now.1,c.now.2)) (ok.crt.cv i hi) ok.nowv ok.now64;rw [if_pos hb] at wn;have wr:=yF fok (x:=(c.certs.list[i]!).2) (t:=(c.now.1,c.now.2)) ok.now64 hb;have pd:=NS ok.due_up (by omega) (c.certs.list[i]!).1
 have da:=ST c (c.certs.list[i]!).1 (by omega)
 have dr:=vA hi;have tk:=iV hi;have old:=inv.old;rw [dr] at old;have aeta:aG.mk (aQ.mk a.slots.uses a.slots.used a.slots.free) a.heap a.where_=a:=rfl
 have ceta:(aP.mk (c.now.1,c.now.2) (Field.mk c.field.points) (aU.mk c.certs.next_ c.certs.list) (aG.mk (aQ.mk c.agenda.slots.uses c.agenda.slots.used c.agenda.slots.free) c.agenda.heap c.agenda.where_) c.due)=c:=rfl;have other: ∀x∈c.certs.list.take i,x.1≠(c.certs.list[i]!).1:=fun x hx=>GI ok hx hi
 have other': ∀x∈c.certs.list.drop (i+1),x.1≠(c.certs.list[i]!).1:=fun x hx=>GJ ok hx hi
 cases hwas:(bI c.field.points (c.certs.list[i]!).2 c.now).2 with
 |true=>
  obtain ⟨d,ds',hd1,hd2,hd3,hd4⟩:=(aY.cons_true hwas).1 old;have hk:k<c.due.length:=by
   refine Classical.byContradiction fun h=>?_
   rw [List.drop_eq_nil_of_le (by omega)] at hd1
   cases hd1
  have dk:=vA hk;rw [dk] at hd1;injection hd1 with hd5 hd6;subst hd5 hd6;obtain ⟨w,hw,hev⟩:=aZ.1 hd3;have hh:(a.heap[w]!).2.2.2=(c.due[k]!).2:=by rw [hev]
  have hnum:Ev.num a.heap[w]! =(c.certs.list[i]!).1:=by rw [hev]
  have before: ∀j,j<k->(c.due[j]!).1≠(c.certs.list[i]!).1:=fun j hj he=>by
   have:=sQ.1 ok.due_up j k hj hk
   omega
  have pl:=pd.1 k hk hd2;have dq:=da.1 k hk hd2 before;have gk:=aB c.due k hk;have k0:decide ((0:Int)<=(k:Int))=true:=aN (by omega)
  have ap:bV ds [c.due[k]!]=some (ds++[c.due[k]!]):=fE (by simp;omega)
  cases his:(bI f (c.certs.list[i]!).2 c.now).2 with
  |true=>
   right;have tt:cE (bI f (c.certs.list[i]!).2 c.now).1/\qK (bI f (c.certs.list[i]!).2 c.now).1:=LE (eZ fok hb.2).1 (eZ fok hb.1).1 ok.now64 ok.nowv his;obtain ⟨t1,t2⟩:=tt;have re:=IZ inv.ok inv.ok.fit (t:=(bI f (c.certs.list[i]!).2 c.now).1) hw hh t1 t2;have rr:=HN inv.ok (t:=(bI f (c.certs.list[i]!).2 c.now).1) hw hh t1 t2
   have rok:=aBa inv.ok hw t1 t2;have rmem:=YT inv.ok hw t1;have rlen:=HM inv.ok hw t1;have stay: ∀(cs:List uB),(∀x∈cs,x.1≠(c.certs.list[i]!).1)-> ∀x∈cs,∀e:Ev,e.num=x.1->e∈a.heap->e∈(kH a w (bI f (c.certs.list[i]!).2 c.now).1).heap:=by
    intro cs hcs x hx e he hm;refine (rmem e).2 (.inr ⟨hm,fun h=>hcs x hx ?_⟩)
    rw [<- he,h,hnum]
   refine ⟨k+1,kH a w (bI f (c.certs.list[i]!).2 c.now).1,ds++[c.due[k]!],?_,?_,⟨rok,by rw [rlen.2];exact inv.w2,?_,?_,by omega,?_⟩,by simp;omega⟩
   · unfold dE YV
     simp only [e1,cond_true,cg,aC,wn,pl,his,gk,aeta,re,ap,show ((0:Int) !=0)=false from rfl,cond_false,sc]
   · unfold cH YW
     simp only [aE,e1,cond_true,cg,aC,ceta,dq,wr,his,k0,gk,aeta,rr,ap,Bool.not_true,cond_false,sc]
   · rw [tk]
     exact ((inv.new.mono (stay _ other)).snoc (x:=c.certs.list[i]!)).2 _ his hd2 ((rmem _).2 (.inl (by
      show _=((bI f (c.certs.list[i]!).2 c.now).1.1,(bI f (c.certs.list[i]!).2 c.now).1.2,(a.heap[w]!).2.2);rw [hev])))
   · exact hd4.mono (stay _ other')
   · rw [rlen.1,inv.cnt,List.length_append]
     simp only [List.length_cons,List.length_nil];omega
  |false=>
   right;have rv:=zC inv.ok hw inv.ok.fit hh;have rr:=zD inv.ok hw hh;have rok:=HO inv.ok hw;have rmem:=LX inv.ok hw;have rlen:=aNp inv.ok hw;have stay: ∀(cs:List uB),(∀x∈cs,x.1≠(c.certs.list[i]!).1)-> ∀x∈cs,∀e:Ev,e.num=x.1->e∈a.heap->e∈(eC a w).heap:=by
    intro cs hcs x hx e he hm;refine (rmem e).2 ⟨hm,fun h=>hcs x hx ?_⟩
    rw [<- he,h,hnum]
   refine ⟨k+1,eC a w,ds,?_,?_,⟨rok,by rw [rlen.2];exact inv.w2,?_,hd4.mono (stay _ other'),by omega,?_⟩,by omega⟩
   · unfold dE YV
     simp only [e1,cond_true,cg,aC,wn,pl,his,gk,aeta,rv,show ((0:Int) !=0)=false from rfl,cond_false,sc]
   · unfold cH YW
     simp only [aE,e1,cond_true,cg,aC,ceta,dq,wr,his,k0,gk,aeta,rr,Bool.not_false,cond_false,sc]
   · rw [tk]
     exact ((inv.new.mono (stay _ other)).snoc (x:=c.certs.list[i]!)).1 his
   · have:=inv.cnt
     rw [rlen.1];omega
 |false=>
  have fol:=(aY.cons_false hwas).1 old;have no: ∀j,j<c.due.length->(c.due[j]!).1≠(c.certs.list[i]!).1:=by
   intro j hj he;obtain ⟨x,hx,h1,h2,_⟩:=ok.fol.due _ (bE hj)
   have:=ok.crt_up.inj hx (bE hi) (by rw [<- h1,he])
   rw [this,hwas] at h2;cases h2
  obtain ⟨m,pl⟩:=pd.2 no;have dq:=da.2 no;have k0:decide ((0:Int)<= -1)=false:=aL (by omega)
  cases his:(bI f (c.certs.list[i]!).2 c.now).2 with
  |true=>
   have tt:cE (bI f (c.certs.list[i]!).2 c.now).1/\qK (bI f (c.certs.list[i]!).2 c.now).1:=LE (eZ fok hb.2).1 (eZ fok hb.1).1 ok.now64 ok.nowv his;obtain ⟨t1,t2⟩:=tt;have n0:=(ok.crt.nr i hi).1;have n1:(c.certs.list[i]!).1<=1000000:=by have:=(ok.crt.nr i hi).2;have:=ok.crt.n1;omega
   have fresh:=YU ok inv hi hwas
   by_cases op:BF a.slots
   · right
     have pu:=yZ inv.ok op inv.ok.fit (t:=(bI f (c.certs.list[i]!).2 c.now).1) (n:=(c.certs.list[i]!).1) t1 t2 n0 n1 fresh;have rp:=BG inv.ok op (t:=(bI f (c.certs.list[i]!).2 c.now).1) (n:=(c.certs.list[i]!).1) t1 t2 n0 n1;have pok:=XB inv.ok op (t:=(bI f (c.certs.list[i]!).2 c.now).1) (n:=(c.certs.list[i]!).1) t1 t2 n0 n1 fresh
     have pmem:=SI inv.ok op (t:=(bI f (c.certs.list[i]!).2 c.now).1) (n:=(c.certs.list[i]!).1) t1;have plen:=GE inv.ok op (t:=(bI f (c.certs.list[i]!).2 c.now).1) (n:=(c.certs.list[i]!).1) t1;have ap: ∀h:Int×Int,bV ds [((c.certs.list[i]!).1,h)]=some (ds++[((c.certs.list[i]!).1,h)]):=fun h=>fE (by simp;omega)
     have opn:=sO inv.ok.so;rw [aN op] at opn;refine ⟨k,lS a (bI f (c.certs.list[i]!).2 c.now).1 (c.certs.list[i]!).1,ds++[((c.certs.list[i]!).1,lR a.slots)],?_,?_,⟨pok,by rw [aHJ inv.ok pok];exact inv.w2,?_,?_,inv.kl,?_⟩,by simp;omega⟩
     · unfold dE YV
       simp only [e1,cond_true,cg,aC,wn,pl,his,aeta,pu,ap,show ((0:Int) !=0)=false from rfl,cond_false,sc]
     · unfold cH YW
       simp only [aE,e1,cond_true,cg,aC,ceta,dq,wr,his,k0,aeta,rp,ap,Bool.not_true,cond_false,sc,opn]
     · rw [tk]
       exact ((inv.new.mono fun x hx e he hm=>(pmem e).2 (.inr hm)).snoc (x:=c.certs.list[i]!)).2 _ his rfl ((pmem _).2 (.inl rfl))
     · exact fol.mono fun x hx e he hm=>(pmem e).2 (.inr hm)
     · have:=inv.cnt
       rw [plen,List.length_append];simp only [List.length_cons,List.length_nil];omega
   · left
     have pu:=zA inv.ok op inv.ok.fit (t:=(bI f (c.certs.list[i]!).2 c.now).1) (n:=(c.certs.list[i]!).1) t1 t2 n0 n1 fresh;have ap: ∀h:Int×Int,bV ds [((c.certs.list[i]!).1,h)]=some (ds++[((c.certs.list[i]!).1,h)]):=fun h=>fE (by simp;omega)
     have opn:=sO inv.ok.so;rw [aL op] at opn;constructor
     · unfold dE YV
       simp only [e1,cond_true,cg,aC,wn,pl,his,aeta,pu,ap,show ((18:Int) !=0)=true from rfl,cond_false]
     · unfold cH YW
       simp only [aE,e1,cond_true,cg,aC,ceta,dq,wr,his,k0,aeta,Bool.not_true,Bool.not_false,cond_false,opn]
  |false=>
   right;refine ⟨k,a,ds,?_,?_,⟨inv.ok,inv.w2,?_,fol,inv.kl,inv.cnt⟩,by omega⟩
   · unfold dE YV
     simp only [e1,cond_true,cg,aC,wn,pl,his,show ((0:Int) !=0)=false from rfl,cond_false,sc]
   · unfold cH YW
     simp only [aE,e1,cond_true,cg,aC,ceta,dq,wr,his,k0,Bool.not_false,cond_false,sc]
   · rw [tk]
     exact (inv.new.snoc (x:=c.certs.list[i]!)).1 his
theorem aPL:
 (pC c ⟨f⟩=some (dC,18)/\mD c ⟨f⟩=some (dC,18))\/
 ∃c':aP,pC c ⟨f⟩=some (c',0)/\mD c ⟨f⟩=some (c',0)/\bF c'/\c'.field.points=f/\c'.now=c.now/\c'.certs=c.certs:=by
 have bd:=ok.bd;have f64:=fok.1;have run: ∀(d i k:Nat) (a:aG) (ds:List uB),c.certs.list.length-i<=d->i<=c.certs.list.length->L4 c f i k a ds->ds.length<=i->
  (aH dE (YV c f i a ds)=some (.done (dC,18))/\aH cH (YW c f i a ds)=some (dC,18))\/
  ∃c':aP,aH dE (YV c f i a ds)=some (.done (c',0))/\aH cH (YW c f i a ds)=some (c',0)/\bF c'/\c'.field.points=f/\c'.now=c.now/\c'.certs=c.certs:=by
  have fin: ∀(k:Nat) (a:aG) (ds:List uB),L4 c f c.certs.list.length k a ds-> ∃c':aP,aH dE (YV c f c.certs.list.length a ds)=some (.done (c',0))/\aH cH (YW c f c.certs.list.length a ds)=some (c',0)/\bF c'/\c'.field.points=f/\c'.now=c.now/\c'.certs=c.certs:=by
   intro k a ds inv;have e1:decide ((c.certs.list.length:Int)<(c.certs.list.length:Int))=false:=aL (by omega)
   have hk:c.due.length-k=0:=by
    have:=inv.old
    rw [List.drop_length] at this
    have:c.due.drop k=[]:=this
    rw [List.drop_eq_nil_iff] at this;omega
   have new:=inv.new;rw [List.take_length] at new;refine ⟨⟨c.now,⟨f⟩,c.certs,a,ds⟩,aI ?_,aI ?_,⟨ok.nowv,ok.now64,fok,ok.crt,inv.ok,inv.w2,?_,kn,new⟩,rfl,rfl,rfl⟩
   · unfold dE YV
     simp only [e1,cond_false]
   · unfold cH YW
     simp only [aE,e1,cond_false]
   · have:=inv.cnt
     show a.heap.length=ds.length;omega
  intro d
  induction d with
  |zero=>
   intro i k a ds hd hi inv hds
   have:i=c.certs.list.length:=by omega
   subst this;exact .inr (fin k a ds inv)
  |succ d ih=>
   intro i k a ds hd hi inv hds
   by_cases he:i=c.certs.list.length
   · subst he;exact .inr (fin k a ds inv)
   rcases aBg ok fok kn inv (by omega) hds with ⟨h1,h2⟩|⟨k',a',ds',h1,h2,h3,h4⟩
   · exact .inl ⟨aI h1,aI h2⟩
   · rw [aV h1,aV h2]
     exact ih (i+1) k' a' ds' (by omega) (by omega) h3 h4
 have start:=run c.certs.list.length 0 0 c.agenda [] (by omega) (by omega) ⟨ok.agd,ok.w200,rfl,by rw [List.drop_zero,List.drop_zero];exact ok.fol,by omega,by have:=ok.hd;simp;omega⟩ (by simp)
 have hc:gO c=some 0:=by rw [nF ok.fit,if_pos ok]
 have hf:fF ⟨f⟩=some 0:=by rw [iU];exact congrArg some (gQ.2 fok)
 have tw:=mG ok;have tw':mU (aP.mk (c.now.1,c.now.2) (Field.mk c.field.points) (aU.mk c.certs.next_ c.certs.list) (aG.mk (aQ.mk c.agenda.slots.uses c.agenda.slots.used c.agenda.slots.free) c.agenda.heap c.agenda.where_) c.due)=some c:=tw
 have first:aH kL (c.certs.list,(c.certs.list.length:Int),0,c.now.1,c.now.2,c.field.points,c.certs.next_,c.certs.list,c.agenda.slots.uses,c.agenda.slots.used,c.agenda.slots.free,c.agenda.heap,c.agenda.where_,c.due,f,0,0,0)=
  aH kL (c.certs.list,(c.certs.list.length:Int),(c.certs.list.length:Int),c.now.1,c.now.2,c.field.points,c.certs.next_,c.certs.list,c.agenda.slots.uses,c.agenda.slots.used,c.agenda.slots.free,c.agenda.heap,c.agenda.where_,c.due,f,0,0,0):=by
  refine cU (body:=kL) (fun i=>(c.certs.list,(c.certs.list.length:Int),(i:Int),c.now.1,c.now.2,c.field.points,c.certs.next_,c.certs.list,c.agenda.slots.uses,c.agenda.slots.used,c.agenda.slots.free,c.agenda.heap,c.agenda.where_,c.due,f,0,0,0)) c.certs.list.length (fun i hi=>?_)
  have e1:decide ((i:Int)<(c.certs.list.length:Int))=true:=aN (by omega)
  unfold kL;simp only [e1,cond_true,aB c.certs.list i hi,aC,nE fok,aL (PK fok (kn i hi).1),aL (PK fok (kn i hi).2),cond_false,bA (show i<1000000000 by omega)]
 have second: ∀r,aH dE (YV c f 0 c.agenda [])=some (.done r)->pC c ⟨f⟩=some r:=by
  intro r hr;unfold pC;simp only [hc,aC,show ((0:Int) !=0)=false from rfl,cond_false,hf,aE];rw [first]
  refine aI ?_;unfold kL;have e1:decide ((c.certs.list.length:Int)<(c.certs.list.length:Int))=false:=aL (by omega)
  simp only [aE,e1,cond_false,tw',aC,aW (show f.length<=1048576 by omega)]
  exact hr
 have third: ∀r,aH cH (YW c f 0 c.agenda [])=some r->mD c ⟨f⟩=some r:=by
  intro r hr;unfold mD oP;simp only [jU ok,aC,aW (show f.length<=1048576 by omega)]
  exact hr
 rcases start with ⟨h1,h2⟩|⟨c',h1,h2,h3⟩
 · exact .inl ⟨second _ h1,third _ h2⟩
 · exact .inr ⟨c',second _ h1,third _ h2,h3⟩
end
end Go.Proofs.YtmlghnibpjlchaaGreat
namespace Go.Proofs.YtmlghnibpjlchaaGreat
open Go.Vm Classical
theorem oC (l:List (Int×Int)) (x:Int×Int) (hl:l.length<=1000000):fG l x=some (decide (x∈l)):=by
 unfold fG pS;have key:=lG (body:=jK) (fun i=>(l,(l.length:Int),(i:Int),x)) l.length (fun i=>l[i]! =x) (fun i=>(i:Int)) (e:= -1) (fun i hi=>by
  have e1:decide ((i:Int)<(l.length:Int))=true:=aN (by omega)
  unfold jK;simp only [e1,cond_true,aB l i hi,aC,bA (show i<1000000000 by omega)]
  generalize l[i]! =y;constructor
  · intro h;rw [fZ (congrArg Prod.fst h.symm),fZ (congrArg Prod.snd h.symm)];rfl
  · intro h
    by_cases h1:x.1=y.1
    · rw [fZ h1,fI (fun h2=>h (Prod.ext h1.symm h2.symm))];rfl
    · rw [fI h1];rfl) (by
  unfold jK
  have:decide ((l.length:Int)<(l.length:Int))=false:=aL (by omega)
  simp only [this,cond_false])
 rw [aE]
 by_cases hx:x∈l
 · obtain ⟨i,hi,he⟩:=aZ.1 hx
   obtain ⟨k,h1,h2,h3⟩:=CD (c:=fun i=>l[i]! =x) ⟨i,hi,he⟩
   have:=key.1 k h1 h2 h3
   rw [show ((0:Nat):Int)=0 from rfl] at this;rw [this,aN hx];simp only [aC,aN (show (0:Int)<=(k:Int) by omega)]
 · have:=key.2 fun i hi he=>hx (aZ.2 ⟨i,hi,he⟩)
   rw [show ((0:Nat):Int)=0 from rfl] at this;rw [this,aL hx];rfl
theorem IN (l:List (Int×Int)) (x:Int×Int) (hl:l.length<=1000000):F8 l x=some (decide (x∈l)):=by
 unfold F8;have key:=cY (body:=xG) (fun i=>(l,(i:Int),x)) l.length (fun i=>l[i]! =x) (r:=true) (e:=false) (fun i hi=>by
  have e1:decide ((i:Int)<(l.length:Int))=true:=aN (by omega)
  unfold xG;simp only [aE,e1,cond_true,aB l i hi,aC,bA (show i<1000000000 by omega)]
  generalize l[i]! =y;constructor
  · intro h;rw [fZ (congrArg Prod.fst h),fZ (congrArg Prod.snd h)];rfl
  · intro h
    by_cases h1:y.1=x.1
    · rw [fZ h1,fI (fun h2=>h (Prod.ext h1 h2))];rfl
    · rw [fI h1];rfl) (by
  unfold xG
  have:decide ((l.length:Int)<(l.length:Int))=false:=aL (by omega)
  simp only [aE,this,cond_false])
 by_cases hx:x∈l
 · rw [aN hx];exact key.1 (aZ.1 hx)
 · rw [aL hx];exact key.2 fun i hi he=>hx (aZ.2 ⟨i,hi,he⟩)
theorem aBh (x y:uB):((x.1==y.1)&&((x.2.1==y.2.1)&&(x.2.2==y.2.2)))=decide (x=y):=by
 rw [Bool.eq_iff_iff,decide_eq_true_iff];simp only [Bool.and_eq_true,beq_iff_eq];constructor
 · rintro ⟨h1,h2,h3⟩;exact Prod.ext h1 (Prod.ext h2 h3)
 · rintro rfl;exact ⟨rfl,rfl,rfl⟩
theorem IP (a b:List uB) (hl:a.length<=1000000):vV ⟨a⟩ ⟨b⟩=some (decide (a=b)):=by
 unfold vV;simp only [aE]
 by_cases h:a.length=b.length
 case neg=>rw [eJ (by omega),aL (fun k=>h (by rw [k]))];rfl
 rw [cI (by omega)]
 simp only [cond_false];have key:=cY (body:=sI) (fun i=>((i:Int),a,b)) a.length (fun i=> ¬a[i]! =b[i]!) (r:=false) (e:=true) (fun i hi=>by
  have e1:decide ((i:Int)<(a.length:Int))=true:=aN (by omega)
  unfold sI;simp only [aE,e1,cond_true,aB a i hi,aB b i (by omega),aC,bA (show i<1000000000 by omega),aBh]
  constructor
  · intro h;rw [aL h];rfl
  · intro h;rw [aN (Classical.not_not.1 h)];rfl) (by
  unfold sI
  have:decide ((a.length:Int)<(a.length:Int))=false:=aL (by omega)
  simp only [aE,this,cond_false])
 by_cases he:a=b
 · rw [aN he]
   exact key.2 fun i hi=>Classical.not_not.2 (by rw [he])
 · rw [aL he]
   refine key.1 (Classical.byContradiction fun hx=>he (K8 h fun i hi=>?_))
   exact Classical.byContradiction fun hn=>hx ⟨i,hi,hn⟩
theorem PL (a b:List uB) (hl:a.length<=1000000):lO a b=some (decide (a=b)):=by
 unfold lO;simp only [aE]
 by_cases h:a.length=b.length
 case neg=>rw [eJ (by omega),aL (fun k=>h (by rw [k]))];rfl
 rw [cI (by omega)]
 simp only [cond_false];have key:=cY (body:=iY) (fun i=>(a,b,(a.length:Int),(i:Int))) a.length (fun i=> ¬a[i]! =b[i]!) (r:=false) (e:=true) (fun i hi=>by
  have e1:decide ((i:Int)<(a.length:Int))=true:=aN (by omega)
  unfold iY;simp only [e1,cond_true,aB a i hi,aB b i (by omega),aC,bA (show i<1000000000 by omega),aBh]
  constructor
  · intro h;rw [aL h];rfl
  · intro h;rw [aN (Classical.not_not.1 h)];rfl) (by
  unfold iY
  have:decide ((a.length:Int)<(a.length:Int))=false:=aL (by omega)
  simp only [this,cond_false])
 by_cases he:a=b
 · rw [aN he]
   exact key.2 fun i hi=>Classical.not_not.2 (by rw [he])
 · rw [aL he]
   refine key.1 (Classical.byContradiction fun hx=>he (K8 h fun i hi=>?_))
   exact Classical.byContradiction fun hn=>hx ⟨i,hi,hn⟩
theorem YX {cs:List uB} {m:Nat} {x:uB} (hx:x∈cs) (hne:x.1≠(cs[m]!).1):x∈cs.eraseIdx m:=by
 obtain ⟨j,hj,rfl⟩:=aZ.1 hx;have hjm:j≠m:=fun h=>hne (by rw [h])
 rw [wB,List.mem_append]
 by_cases h:j<m
 · exact .inl (cF.2 ⟨j,h,hj,rfl⟩)
 · right
   rw [aZ];refine ⟨j- (m+1),by rw [List.length_drop];omega,?_⟩
   rw [uZ]
   congr 1;omega
def kP (c0:aP) (f:List Pt) (es:List (Int×Int)) (i:Nat) (c:aP):=
 (es,c0.certs.list,(c0.certs.list.length:Int),(i:Int),c.now.1,c.now.2,c.field.points,c.certs.next_,c.certs.list,c.agenda.slots.uses,c.agenda.slots.used,c.agenda.slots.free,c.agenda.heap,c.agenda.where_,c.due,f,(0:Int),(0:Int),(0:Int))
def kR (c0:aP) (f:List Pt) (es:List (Int×Int)) (i:Nat) (c:aP):=
 (es,(i:Int),c0.now.1,c0.now.2,c0.field.points,c0.certs.next_,c0.certs.list,c0.agenda.slots.uses,c0.agenda.slots.used,c0.agenda.slots.free,c0.agenda.heap,c0.agenda.where_,c0.due,f,(0:Int),(0:Int),(0:Int),c.now.1,c.now.2,c.field.points,c.certs.next_,c.certs.list,c.agenda.slots.uses,c.agenda.slots.used,c.agenda.slots.free,c.agenda.heap,c.agenda.where_,c.due)
def eP (es:List (Int×Int)) (i:Nat) (c:aP):=
 (es,(es.length:Int),(i:Int),c.now.1,c.now.2,c.field.points,c.certs.next_,c.certs.list,c.agenda.slots.uses,c.agenda.slots.used,c.agenda.slots.free,c.agenda.heap,c.agenda.where_,c.due,(0:Int),(0:Int),(0:Int))
def eR (es:List (Int×Int)) (i:Nat) (c:aP):=
 (es,(i:Int),(0:Int),(0:Int),(0:Int),c.now.1,c.now.2,c.field.points,c.certs.next_,c.certs.list,c.agenda.slots.uses,c.agenda.slots.used,c.agenda.slots.free,c.agenda.heap,c.agenda.where_,c.due)
def GK (c:aP):Int:=c.certs.next_- (c.certs.list.length:Int)
structure aBi (c:aP) (f:List Pt) (r:aP):Prop where
 ok:bF r
 fld:r.field.points=f
 now:r.now=c.now
 room:GK c<=GK r
def NT (c:aP) (k:Nat):Prop:=c.certs.list.length<=k/\c.certs.next_<=k/\ ∀j,j<c.agenda.slots.uses.length->c.agenda.slots.uses[j]!<=k
theorem aY.len {l:List Pt} {t:Int×Int} {H:List Ev}: ∀{cs ds:List uB},aY l t H cs ds->ds.length<=cs.length
 | [],ds,h=>by rw [show ds=[] from h];exact Nat.le_refl _
 |x::cs,ds,h=>by
  cases hy:(bI l x.2 t).2 with
  |true=>
   obtain ⟨d,ds',rfl,_,_,h4⟩:=h.1 hy;exact Nat.succ_le_succ h4.len
  |false=>exact Nat.le_succ_of_le (h.2 hy).len
theorem NT.not_full {c:aP} (ok:bF c) {k:Nat} (h:NT c k) (hk:k<=199): ¬(GG c.certs\/ ¬BF c.agenda.slots):=by
 obtain ⟨h1,h2,h3⟩:=h;have fl:=ok.fol.len;have hd:=ok.hd;have hl:=ok.agd.hl;have wl:=ok.agd.wl;have w2:=ok.w200;rintro (h|h)
 · rcases h with h|h<;>omega
 · refine h ⟨by omega,?_⟩
   have:=h3 _ (DF ok.agd.so (by omega)).1
   omega
theorem NT.more {c c':aP} {k:Nat} (h:NT c k) {x:Int×Int} (hc:c'.certs=qH c.certs x) (hs:c'.agenda.slots=c.agenda.slots\/c'.agenda.slots=gR c.agenda.slots):NT c' (k+1):=by
 obtain ⟨h1,h2,h3⟩:=h;refine ⟨?_,?_,fun j hj=>?_⟩
 · rw [hc]
   show (c.certs.list++[(c.certs.next_,x)]).length<=_;rw [List.length_append,List.length_singleton];omega
 · rw [hc]
   show c.certs.next_+1<=_;omega
 · rcases hs with e|e
   · rw [e] at hj ⊢
     have:=h3 j hj;omega
   · rw [e] at hj ⊢
     change j<(c.agenda.slots.uses.set _ _).length at hj;rw [List.length_set] at hj;show (c.agenda.slots.uses.set (cQ c.agenda.slots) (c.agenda.slots.uses[cQ c.agenda.slots]!+1))[j]!<=_;rw [bD];split
     · rename_i h;have:=h3 _ h.2;omega
     · have:=h3 j hj;omega
structure JG (f:List Pt) (es:List (Int×Int)):Prop where
 len:es.length<=1000000
 cv: ∀x∈es,fK x
 kn: ∀x∈es,jT f x
theorem aBj {c0:aP} (ok0:bF c0) {f:List Pt} {es:List (Int×Int)} (eok:JG f es):
 ∀(d i:Nat) (c:aP),c0.certs.list.length-i<=d->i<=c0.certs.list.length->bF c->(∀x∈c0.certs.list.drop i,x∈c.certs.list)->(∀x∈c.certs.list,x∈c0.certs.list.drop i\/x.2∈es)->
  ∃c':aP,aH dX (kP c0 f es i c)=aH dX (kP c0 f es c0.certs.list.length c')/\aH dG (kR c0 f es i c)=aH dG (kR c0 f es c0.certs.list.length c')/\bF c'/\(∀x∈c'.certs.list,x.2∈es)/\c'.field=c.field/\c'.now=c.now/\GK c<=GK c':=by
 have bd:=ok0.bd;intro d
 induction d with
 |zero=>
  intro i c hd hi ok h1 h2
  have:i=c0.certs.list.length:=by omega
  subst this;refine ⟨c,rfl,rfl,ok,fun x hx=>?_,rfl,rfl,Int.le_refl _⟩
  rcases h2 x hx with h|h
  · rw [List.drop_length] at h;cases h
  · exact h
 |succ d ih=>
  intro i c hd hi ok h1 h2
  by_cases he:i=c0.certs.list.length
  · subst he
    refine ⟨c,rfl,rfl,ok,fun x hx=>?_,rfl,rfl,Int.le_refl _⟩
    rcases h2 x hx with h|h
    · rw [List.drop_length] at h;cases h
    · exact h
  have hi':i<c0.certs.list.length:=by omega
  have e1:decide ((i:Int)<(c0.certs.list.length:Int))=true:=aN (by omega)
  have sc:=bA (show i<1000000000 by omega)
  have cg:=aB c0.certs.list i hi';have dr:=vA hi';have ceta:(aP.mk (c.now.1,c.now.2) (Field.mk c.field.points) (aU.mk c.certs.next_ c.certs.list) (aG.mk (aQ.mk c.agenda.slots.uses c.agenda.slots.used c.agenda.slots.free) c.agenda.heap c.agenda.where_) c.due)=c:=rfl
  by_cases hin:(c0.certs.list[i]!).2∈es
  · have s1:dX (kP c0 f es i c)=some (.next (kP c0 f es (i+1) c)):=by
     unfold dX kP;simp only [e1,cond_true,cg,aC,oC _ _ eok.len,aN hin,Bool.not_true,cond_false,sc]
    have s2:dG (kR c0 f es i c)=some (.next (kR c0 f es (i+1) c)):=by
     unfold dG kR;simp only [aE,e1,cond_true,cg,aC,IN _ _ eok.len,aN hin,Bool.not_true,cond_false,sc]
    rw [aV s1,aV s2];refine ih (i+1) c (by omega) (by omega) ok (fun x hx=>h1 x (by rw [dr];exact List.mem_cons_of_mem _ hx)) (fun x hx=>?_)
    rcases h2 x hx with h|h
    · rw [dr] at h
      rcases List.mem_cons.1 h with rfl|h
      · exact .inr hin
      · exact .inl h
    · exact .inr h
  · have hm:=h1 (c0.certs.list[i]!) (by rw [dr];exact List.mem_cons_self)
    obtain ⟨m,hm1,hm2⟩:=aZ.1 hm;obtain ⟨c',r1,r2,r3,r4,r5,r6⟩:=aNo ok hm1;have rt:=I0 ok hm1 r1;rw [hm2] at r2 rt;have s1:dX (kP c0 f es i c)=some (.next (kP c0 f es (i+1) c')):=by
     unfold dX kP;simp only [e1,cond_true,cg,aC,oC _ _ eok.len,aL hin,Bool.not_false,sc,ceta,rt]
    have s2:dG (kR c0 f es i c)=some (.next (kR c0 f es (i+1) c')):=by
     unfold dG kR;simp only [aE,e1,cond_true,cg,aC,IN _ _ eok.len,aL hin,Bool.not_false,sc,ceta,r2]
    rw [aV s1,aV s2];have cl:c'.certs.list=c.certs.list.eraseIdx m:=by rw [r6];rfl
    have hroom:GK c<=GK c':=by
     unfold GK;rw [r6];show _<=c.certs.next_- (((c.certs.list.eraseIdx m).length:Nat):Int);rw [List.length_eraseIdx_of_lt hm1];omega
    have hs:(∀x∈c0.certs.list.drop (i+1),x∈c'.certs.list)/\(∀x∈c'.certs.list,x∈c0.certs.list.drop (i+1)\/x.2∈es):=by
     refine ⟨fun x hx=>?_,fun x hx=>?_⟩
     · rw [cl]
       refine YX (h1 x (by rw [dr];exact List.mem_cons_of_mem _ hx)) ?_
       rw [hm2];exact GJ ok0 hx hi'
     · rw [cl] at hx
       obtain ⟨a1,a2⟩:=uV ok.crt_up hm1 hx;rw [hm2] at a2;rcases h2 x a1 with h|h
       · rw [dr] at h
         rcases List.mem_cons.1 h with rfl|h
         · exact absurd rfl a2
         · exact .inl h
       · exact .inr h
    obtain ⟨d',q1,q2,q3,q4,q5,q6,q7⟩:=ih (i+1) c' (by omega) (by omega) r3 hs.1 hs.2
    exact ⟨d',q1,q2,q3,q4,q5.trans r4,q6.trans r5,by omega⟩
theorem SU {f:List Pt} (_fok:cB f) {es:List (Int×Int)} (eok:JG f es):
 ∀(d i:Nat) (c:aP),es.length-i<=d->i<=es.length->bF c->c.field.points=f->
  ∃r:aP×Int,aH eV (eP es i c)=some (.done r)/\aH dO (eR es i c)=some (.done r)/\(r.2=0/\aBi c f r.1\/r=(dC,18))/\(∀k,NT c k->k+(es.length-i)<=199->r.2=0):=by
 have el:=eok.len;have fin: ∀c:aP,bF c->c.field.points=f-> ∃r:aP×Int,aH eV (eP es es.length c)=some (.done r)/\aH dO (eR es es.length c)=some (.done r)/\(r.2=0/\aBi c f r.1\/r=(dC,18))/\r.2=0:=by
  intro c ok hf;have e1:decide ((es.length:Int)<(es.length:Int))=false:=aL (by omega)
  refine ⟨(c,0),aI ?_,aI ?_,.inl ⟨rfl,ok,hf,rfl,Int.le_refl _⟩,rfl⟩
  · unfold eV eP
    simp only [e1,cond_false]
  · unfold dO eR
    simp only [aE,e1,cond_false]
 intro d
 induction d with
 |zero=>
  intro i c hd hi ok hf
  have:i=es.length:=by omega
  subst this;obtain ⟨r,q1,q2,q3,q4⟩:=fin c ok hf;exact ⟨r,q1,q2,q3,fun _ _ _=>q4⟩
 |succ d ih=>
  intro i c hd hi ok hf
  by_cases he:i=es.length
  · subst he
    obtain ⟨r,q1,q2,q3,q4⟩:=fin c ok hf;exact ⟨r,q1,q2,q3,fun _ _ _=>q4⟩
  have bd:=ok.bd;have hi':i<es.length:=by omega
  have e1:decide ((i:Int)<(es.length:Int))=true:=aN (by omega)
  have sc:=bA (show i<1000000000 by omega)
  have cg:=aB es i hi';have ceta:(aP.mk (c.now.1,c.now.2) (Field.mk c.field.points) (aU.mk c.certs.next_ c.certs.list) (aG.mk (aQ.mk c.agenda.slots.uses c.agenda.slots.used c.agenda.slots.free) c.agenda.heap c.agenda.where_) c.due)=c:=rfl;have ceta2:aU.mk c.certs.next_ c.certs.list=c.certs:=rfl;have hc:=SM c.certs.list es[i]! (by omega)
  have hr:=AY c.certs es[i]! (by omega)
  by_cases hin:AX c.certs.list es[i]!
  · have s1:eV (eP es i c)=some (.next (eP es (i+1) c)):=by
     unfold eV eP;simp only [e1,cond_true,cg,aC,HQ,hc,aN hin,sc]
    have s2:dO (eR es i c)=some (.next (eR es (i+1) c)):=by
     unfold dO eR;simp only [aE,e1,cond_true,cg,aC,ceta2,hr,aN hin,sc]
    rw [aV s1,aV s2];obtain ⟨r,q1,q2,q3,q4⟩:=ih (i+1) c (by omega) (by omega) ok hf
    exact ⟨r,q1,q2,q3,fun k hk hl=>q4 k hk (by omega)⟩
  · have hb:jT c.field.points es[i]!:=by rw [hf];exact eok.kn _ (bE hi')
    rcases aHI ok (eok.cv _ (bE hi')) hb hin with ⟨r1,r2,full⟩|⟨c',r1,r2,r3,r4,r5,r6,r7⟩
    · refine ⟨(dC,18),aI ?_,aI ?_,.inr rfl,fun k hk hl=>absurd full (hk.not_full ok (by omega))⟩
      · unfold eV eP
        simp only [e1,cond_true,cg,aC,HQ,hc,aL hin,cond_false,ceta,r1,show ((18:Int) !=0)=true from rfl]
      · unfold dO eR
        simp only [aE,e1,cond_true,cg,aC,ceta2,hr,aL hin,cond_false,ceta,r2,show ((18:Int) !=0)=true from rfl]
    · have s1:eV (eP es i c)=some (.next (eP es (i+1) c')):=by
       unfold eV eP;simp only [e1,cond_true,cg,aC,HQ,hc,aL hin,cond_false,ceta,r1,show ((0:Int) !=0)=false from rfl,sc]
      have s2:dO (eR es i c)=some (.next (eR es (i+1) c')):=by
       unfold dO eR;simp only [aE,e1,cond_true,cg,aC,ceta2,hr,aL hin,cond_false,ceta,r2,show ((0:Int) !=0)=false from rfl,sc]
      rw [aV s1,aV s2];obtain ⟨r,q1,q2,q3,q6⟩:=ih (i+1) c' (by omega) (by omega) r3 (by rw [r4,hf])
      refine ⟨r,q1,q2,q3.imp (fun ⟨q4,q5⟩=>⟨q4,q5.ok,q5.fld,q5.now.trans r5,Int.le_trans ?_ q5.room⟩) id,fun k hk hl=>q6 (k+1) (hk.more r6 r7) (by omega)⟩
      unfold GK;rw [r6];show _<=(c.certs.next_+1) - (((c.certs.list++[(c.certs.next_,es[i]!)]).length:Nat):Int);rw [List.length_append,List.length_singleton];omega
theorem aHK {c:aP} (ok:bF c) {f:List Pt} (fok:cB f) {es:List (Int×Int)} (eok:JG f es):
 ∃r:aP×Int,tI c ⟨f⟩ es=some r/\oA c ⟨f⟩ es=some r/\(r.2=0/\aBi c f r.1\/r=(dC,18)):=by
 have f64:=fok.1;obtain ⟨c',g1,g2,g3,g4,g5,g6,g7⟩:=aBj ok eok c.certs.list.length 0 c (by omega) (by omega) ok (fun x hx=>by rwa [List.drop_zero] at hx) (fun x hx=> .inl (by rwa [List.drop_zero]))
 have bd:=g3.bd;have e1:decide ((c.certs.list.length:Int)<(c.certs.list.length:Int))=false:=aL (by omega)
 have start1:tI c ⟨f⟩ es=aH dX (kP c f es 0 c):=rfl;have start2:oA c ⟨f⟩ es=aH dG (kR c f es 0 c):=by
  unfold oA;simp only [jU ok,aC];rfl
 rw [start1,start2,g1,g2];have eq1:=PL c'.field.points f (by omega)
 have eq2:=IP c'.field.points f (by omega)
 have ceta:(aP.mk (c'.now.1,c'.now.2) (Field.mk c'.field.points) (aU.mk c'.certs.next_ c'.certs.list) (aG.mk (aQ.mk c'.agenda.slots.uses c'.agenda.slots.used c'.agenda.slots.free) c'.agenda.heap c'.agenda.where_) c'.due)=c':=rfl
 by_cases hf:c'.field.points=f
 · obtain ⟨r,i1,i2,i3,_⟩:=SU fok eok es.length 0 c' (by omega) (by omega) g3 hf
   refine ⟨r,aI ?_,aI ?_,i3.imp (fun ⟨q4,q5⟩=>⟨q4,q5.ok,q5.fld,q5.now.trans g6,Int.le_trans g7 q5.room⟩) id⟩
   · unfold dX kP
     simp only [e1,cond_false,eq1,aN hf,aC,Bool.not_true];exact i1
   · unfold dG kR
     simp only [aE,e1,cond_false,eq2,aN hf,aC,Bool.not_true];exact i2
 · have kn: ∀i,i<c'.certs.list.length->jT f (c'.certs.list[i]!).2:=fun i hi=>eok.kn _ (g4 _ (bE hi))
   rcases aPL g3 fok kn with ⟨a1,a2⟩|⟨c2,a1,a2,a3,a4,a5,a6⟩
   · refine ⟨(dC,18),aI ?_,aI ?_,.inr rfl⟩
     · unfold dX kP
       simp only [e1,cond_false,eq1,aL hf,aC,Bool.not_false,cond_true,ceta,a1,show ((18:Int) !=0)=true from rfl]
     · unfold dG kR
       simp only [aE,e1,cond_false,eq2,aL hf,aC,Bool.not_false,cond_true,ceta,a2,show ((18:Int) !=0)=true from rfl]
   · obtain ⟨r,i1,i2,i3,_⟩:=SU fok eok es.length 0 c2 (by omega) (by omega) a3 a4
     refine ⟨r,aI ?_,aI ?_,i3.imp (fun ⟨q4,q5⟩=>⟨q4,q5.ok,q5.fld,(q5.now.trans a5).trans g6,Int.le_trans (Int.le_trans g7 (by unfold GK;rw [a6];exact Int.le_refl _)) q5.room⟩) id⟩
     · unfold dX kP
       simp only [e1,cond_false,eq1,aL hf,aC,Bool.not_false,cond_true,ceta,a1,show ((0:Int) !=0)=false from rfl];exact i1
     · unfold dG kR
       simp only [aE,e1,cond_false,eq2,aL hf,aC,Bool.not_false,cond_true,ceta,a2,show ((0:Int) !=0)=false from rfl];exact i2
end Go.Proofs.YtmlghnibpjlchaaGreat
namespace Go.Proofs.YtmlghnibpjlchaaGreat
open Go.Vm Classical
theorem L5 {α:Type} [Inhabited α] {l:List α}:l.Nodup↔ ∀k,k<l.length->l[k]!∉l.take k:=by
 rw [cP];constructor
 · intro h k hk hm
   obtain ⟨i,h1,h2,h3⟩:=cF.1 hm;exact h i k h1 hk h3
 · intro h i j hij hj he
   exact h j hj (cF.2 ⟨i,hij,by omega,he⟩)
theorem GL {α:Type} [Inhabited α] {l:List α} {P:α->Prop}:(∀x∈l,P x)↔ ∀i,i<l.length->P l[i]!:=by
 constructor
 · intro h i hi;exact h _ (bE hi)
 · intro h x hx
   obtain ⟨i,hi,rfl⟩:=aZ.1 hx;exact h i hi
theorem E3 {σ ρ:Type} {body:σ->Option (bX σ ρ)} (st:Nat->σ) (n:Nat) (P:Nat->Prop) {r e:ρ} (h: ∀i,i<n->(¬P i->body (st i)=some (.done r))/\(P i->body (st i)=some (.next (st (i+1)))))
 (hend:body (st n)=some (.done e)):aH body (st 0)=some (if∀i,i<n->P i then e else r):=by
 have key:=cY (body:=body) st n (fun i=> ¬P i) (r:=r) (e:=e) (fun i hi=>⟨(h i hi).1,fun hn=>(h i hi).2 (Classical.not_not.1 hn)⟩) hend
 by_cases hx: ∀i,i<n->P i
 · rw [if_pos hx];exact key.2 fun i hi=>Classical.not_not.2 (hx i hi)
 · rw [if_neg hx]
   obtain ⟨i,h⟩:=Classical.not_forall.1 hx;obtain ⟨hi,hx⟩:=Classical.not_imp.1 h;exact key.1 ⟨i,hi,hx⟩
theorem D6 {f:List Pt} (fok:cB f) (id:Int): ∃p e,fD ⟨f⟩ id=some (p,e)/\(e=0↔kZ f id):=by
 have h1:=fok.1;have hc:fF ⟨f⟩=some 0:=by rw [iU];exact congrArg some (gQ.2 fok)
 have bs:=AV f id (by omega) (fun i j=>jE fok.2.2)
 unfold fD jL rD;rw [JD];simp only [hc,aC,show ((0:Int) !=0)=false from rfl,cond_false]
 by_cases h:kZ f id
 · obtain ⟨k,hk,he⟩:=h
   rw [bs.1 k hk he];refine ⟨f[k]!,0,?_,fun _=>⟨k,hk,he⟩,fun _=>rfl⟩
   simp only [aC,Bool.not_true,cond_false,show ((0:Int) !=0)=false from rfl,aB f k hk]
 · obtain ⟨m,_,_,_,e⟩:=bs.2 (fun k hk he=>h ⟨k,hk,he⟩)
   rw [e];exact ⟨(0,0,0),6,rfl,fun h=>(by cases h),fun k=>absurd k h⟩
structure D7 (c:aP):Prop where
 f:c.field.points.length<=1000000
 l:c.certs.list.length<=1000000
 d:c.due.length<=1000000
 h:c.agenda.heap.length<=1000000
 w:c.agenda.where_.length<=1000000
 s1:c.agenda.slots.uses.length<=1000000
 s2:c.agenda.slots.used.length<=1000000
 s3:c.agenda.slots.free.length<=1000000
theorem bF.short {c:aP} (ok:bF c):D7 c:=by
 have bd:=ok.bd;have ab:=ok.agd.bd;have sl:=ok.agd.so.fl;have sn:=ok.agd.so.n2;have su:=ok.agd.so.ul;exact ⟨by omega,by omega,by omega,by omega,by omega,by omega,by omega,by omega⟩
theorem D8:D7 dC:=⟨by decide,by decide,by decide,by decide,by decide,by decide,by decide,by decide⟩
theorem HT (l:List Int) (hl:l.length<=1000000):kT l l=some true:=by
 unfold kT;rw [cI rfl];refine (cU (body:=mK) (fun i=>(l,l,(i:Int))) l.length fun i hi=>?_).trans (aI ?_)
 · have e1:decide ((i:Int)<(l.length:Int))=true:=aN (by omega)
   unfold mK;simp only [aE,e1,cond_true,aB l i hi,aC,bA (show i<1000000000 by omega),cI rfl,cond_false]
 · unfold mK
   have:decide ((l.length:Int)<(l.length:Int))=false:=aL (by omega)
   simp only [aE,this,cond_false]
theorem U0 (l:List Bool) (hl:l.length<=1000000):oI l l=some true:=by
 unfold oI;rw [cI rfl];refine (cU (body:=lQ) (fun i=>(l,l,(i:Int))) l.length fun i hi=>?_).trans (aI ?_)
 · have e1:decide ((i:Int)<(l.length:Int))=true:=aN (by omega)
   unfold lQ;simp only [aE,e1,cond_true,aB l i hi,aC,bA (show i<1000000000 by omega),beq_self_eq_true,Bool.not_true,cond_false]
 · unfold lQ
   have:decide ((l.length:Int)<(l.length:Int))=false:=aL (by omega)
   simp only [aE,this,cond_false]
theorem U1 (c:aU) (hl:c.list.length<=1000000):AM c c=some true:=by
 unfold AM;rw [cI rfl,cI rfl];refine (cU (body:=sK) (fun i=>((i:Int),c.next_,c.list,c.next_,c.list)) c.list.length fun i hi=>?_).trans (aI ?_)
 · have e1:decide ((i:Int)<(c.list.length:Int))=true:=aN (by omega)
   unfold sK;simp only [aE,e1,cond_true,aB c.list i hi,aC,bA (show i<1000000000 by omega),beq_self_eq_true,Bool.and_self,Bool.not_true,cond_false]
 · unfold sK
   have:decide ((c.list.length:Int)<(c.list.length:Int))=false:=aL (by omega)
   simp only [aE,this,cond_false]
theorem SW (a:aG) (h1:a.heap.length<=1000000) (h2:a.where_.length<=1000000) (h3:a.slots.uses.length<=1000000) (h4:a.slots.used.length<=1000000) (h5:a.slots.free.length<=1000000):AN a a=some true:=by
 unfold AN EY;simp only [HT _ h3,U0 _ h4,HT _ h5,HT _ h2,aC,cond_true,Bool.not_true,cond_false];rw [cI rfl];refine (cU (body:=sL) (fun i=>((i:Int),a.slots.uses,a.slots.used,a.slots.free,a.heap,a.where_,a.slots.uses,a.slots.used,a.slots.free,a.heap,a.where_)) a.heap.length fun i hi=>?_).trans (aI ?_)
 · have e1:decide ((i:Int)<(a.heap.length:Int))=true:=aN (by omega)
   unfold sL;simp only [aE,e1,cond_true,aB a.heap i hi,aC,bA (show i<1000000000 by omega),beq_self_eq_true,Bool.and_self,Bool.not_true,cond_false]
 · unfold sL
   have:decide ((a.heap.length:Int)<(a.heap.length:Int))=false:=aL (by omega)
   simp only [aE,this,cond_false]
theorem U2 {c:aP} (sh:D7 c):AO c c=some true:=by
 have hd:=sh.d;unfold AO;simp only [beq_self_eq_true,Bool.and_self,Bool.not_true,cond_false,IP c.field.points c.field.points sh.f,U1 _ sh.l,SW _ sh.h sh.w sh.s1 sh.s2 sh.s3,aC,aN];rw [cI rfl]
 refine (cU (body:=sM) (fun i=>((i:Int),c.now.1,c.now.2,c.field.points,c.certs.next_,c.certs.list,c.agenda.slots.uses,c.agenda.slots.used,c.agenda.slots.free,c.agenda.heap,c.agenda.where_,c.due,c.now.1,c.now.2,c.field.points,c.certs.next_,c.certs.list,c.agenda.slots.uses,c.agenda.slots.used,c.agenda.slots.free,c.agenda.heap,c.agenda.where_,c.due)) c.due.length fun i hi=>?_).trans (aI ?_)
 · have e1:decide ((i:Int)<(c.due.length:Int))=true:=aN (by omega)
   unfold sM;simp only [aE,e1,cond_true,aB c.due i hi,aC,bA (show i<1000000000 by omega),beq_self_eq_true,Bool.and_self,Bool.not_true,cond_false]
 · unfold sM
   have:decide ((c.due.length:Int)<(c.due.length:Int))=false:=aL (by omega)
   simp only [aE,this,cond_false]
structure aBk (c:aP):Prop where
 now:qK c.now
 at64: ∀w,w<c.agenda.heap.length->qK ((c.agenda.heap[w]!).1,(c.agenda.heap[w]!).2.1)
theorem SX (f:Field):tD f=some true\/(tD f=some false/\f.points.length<=70):=by
 unfold tD
 simp only [aE]
 by_cases h1:16<f.points.length
 · rw [aN (show (16:Int)<(f.points.length:Int) by omega)]
   by_cases h2:f.points.length<64
   · rw [aN (show (f.points.length:Int)<64 by omega)];exact .inl rfl
   · rw [aL (show¬(f.points.length:Int)<64 by omega)]
     by_cases h3:70<f.points.length
     · rw [aN (show (70:Int)<(f.points.length:Int) by omega)];exact .inl rfl
     · rw [aL (show¬(70:Int)<(f.points.length:Int) by omega)];exact .inr ⟨rfl,by omega⟩
 · rw [aL (show¬(16:Int)<(f.points.length:Int) by omega),aL (show¬(70:Int)<(f.points.length:Int) by omega)]
   exact .inr ⟨rfl,by omega⟩
theorem SY (c:aP):tE c=some true\/(tE c=some false/\D7 c):=by
 unfold tE B8 B7
 simp only [aE]
 by_cases h1:40<c.certs.list.length
 · rw [aN (show (40:Int)<(c.certs.list.length:Int) by omega)];exact .inl rfl
 rw [aL (show¬(40:Int)<(c.certs.list.length:Int) by omega)]
 by_cases h2:40<c.due.length
 · rw [aN (show (40:Int)<(c.due.length:Int) by omega)];exact .inl rfl
 rw [aL (show¬(40:Int)<(c.due.length:Int) by omega)]
 rcases SX c.field with e|⟨e,hf⟩
 · rw [e];exact .inl rfl
 rw [e];simp only [cond_false,aC]
 by_cases a1:210<c.agenda.slots.uses.length
 · rw [aN (show (210:Int)<(c.agenda.slots.uses.length:Int) by omega)];exact .inl rfl
 rw [aL (show¬(210:Int)<(c.agenda.slots.uses.length:Int) by omega)]
 by_cases a2:210<c.agenda.slots.used.length
 · rw [aN (show (210:Int)<(c.agenda.slots.used.length:Int) by omega)];exact .inl rfl
 rw [aL (show¬(210:Int)<(c.agenda.slots.used.length:Int) by omega)]
 by_cases a3:210<c.agenda.slots.free.length
 · rw [aN (show (210:Int)<(c.agenda.slots.free.length:Int) by omega)];exact .inl rfl
 rw [aL (show¬(210:Int)<(c.agenda.slots.free.length:Int) by omega)]
 by_cases a4:210<c.agenda.heap.length
 · rw [aN (show (210:Int)<(c.agenda.heap.length:Int) by omega)];exact .inl rfl
 rw [aL (show¬(210:Int)<(c.agenda.heap.length:Int) by omega)]
 by_cases a5:210<c.agenda.where_.length
 · rw [aN (show (210:Int)<(c.agenda.where_.length:Int) by omega)];exact .inl rfl
 rw [aL (show¬(210:Int)<(c.agenda.where_.length:Int) by omega)]
 exact .inr ⟨rfl,⟨by omega,by omega,by omega,by omega,by omega,by omega,by omega,by omega⟩⟩
theorem U3 {c:aP} (sh:D7 c):iO c=some c:=by
 obtain ⟨h1,h2,h3,h4,h5,h6,h7,h8⟩:=sh;unfold iO oP oQ lL mP;simp only [aW (show c.field.points.length<=1048576 by omega),aW (show c.certs.list.length<=1048576 by omega),aW (show c.due.length<=1048576 by omega),aW (show c.agenda.heap.length<=1048576 by omega),aW (show c.agenda.where_.length<=1048576 by omega),
  aW (show c.agenda.slots.uses.length<=1048576 by omega),aW (show c.agenda.slots.used.length<=1048576 by omega),aW (show c.agenda.slots.free.length<=1048576 by omega),aC]
end Go.Proofs.YtmlghnibpjlchaaGreat
namespace Go.Proofs.YtmlghnibpjlchaaGreat
open Go.Vm Classical
noncomputable def nO (f:List Pt) (es:List (Int×Int)):Int:=if¬(∀x∈es,fK x) then 8 else if¬es.Nodup then 14 else if¬(∀x∈es,jT f x) then 6 else 0
def rP (c:aP) (f:List Pt) (es:List (Int×Int)) (i:Nat):=
 (es,es,(es.length:Int),(i:Int),c.now.1,c.now.2,c.field.points,c.certs.next_,c.certs.list,c.agenda.slots.uses,c.agenda.slots.used,c.agenda.slots.free,c.agenda.heap,c.agenda.where_,c.due,f,(0:Int),(0:Int),(0:Int))
theorem L6 {c:aP} (ok:bF c) {f:List Pt} (fok:cB f) {es:List (Int×Int)} (hl:es.length<=1000) {r:aP×Int} (hr:nO f es=0->tI c ⟨f⟩ es=some r):
 tK c ⟨f⟩ es=some (if nO f es=0 then r else (dC,nO f es)):=by
 have bd:=ok.bd;have ab:=ok.agd.bd;have sl:=ok.agd.so.fl;have sn:=ok.agd.so.n2;have su:=ok.agd.so.ul;have el:decide ((es.length:Int)<(es.length:Int))=false:=aL (by omega)
 have hc:gO c=some 0:=by rw [nF ok.fit,if_pos ok]
 have hf:fF ⟨f⟩=some 0:=by rw [iU];exact congrArg some (gQ.2 fok)
 have tw:vP (aP.mk (c.now.1,c.now.2) (Field.mk c.field.points) (aU.mk c.certs.next_ c.certs.list) (aG.mk (aQ.mk c.agenda.slots.uses c.agenda.slots.used c.agenda.slots.free) c.agenda.heap c.agenda.where_) c.due)=some c:=by
  unfold vP;simp only [aW (show c.field.points.length<=1048576 by omega),aW (show c.certs.list.length<=1048576 by omega),aW (show c.due.length<=1048576 by omega),aW (show c.agenda.heap.length<=1048576 by omega),aW (show c.agenda.where_.length<=1048576 by omega),
   aW (show c.agenda.slots.uses.length<=1048576 by omega),aW (show c.agenda.slots.used.length<=1048576 by omega),aW (show c.agenda.slots.free.length<=1048576 by omega),aC]
 have k3: ∀e2:aP×Int,aH dY (rP c f es 0)=some (.done e2)->aH dZ (rP c f es 0)=some (if∀i,i<es.length->fK es[i]! then e2 else (dC,8)):=by
  intro e2 h2;refine E3 (body:=dZ) (fun i=>rP c f es i) es.length (fun i=>fK es[i]!) (r:=(dC,8)) (e:=e2) (fun i hi=>?_) ?_
  · have e1:decide ((i:Int)<(es.length:Int))=true:=aN (by omega)
    unfold dZ rP fK;simp only [e1,cond_true,aB es i hi,aC,bA (show i<1000000000 by omega)]
    generalize es[i]! =x
    by_cases a1:x.1<0
    · rw [aN a1];exact ⟨fun _=>rfl,fun h=>by omega⟩
    rw [aL a1]
    by_cases a2:x.2<0
    · rw [aN a2];exact ⟨fun _=>rfl,fun h=>by omega⟩
    rw [aL a2]
    by_cases a3:65535<x.1
    · rw [aN a3];exact ⟨fun _=>rfl,fun h=>by omega⟩
    rw [aL a3]
    by_cases a4:65535<x.2
    · rw [aN a4];exact ⟨fun _=>rfl,fun h=>by omega⟩
    rw [aL a4]
    by_cases a5:x.1=x.2
    · rw [fZ a5];exact ⟨fun _=>rfl,fun h=>absurd a5 h.2.2.2.2⟩
    · rw [fI a5];exact ⟨fun h=>absurd ⟨by omega,by omega,by omega,by omega,a5⟩ h,fun _=>rfl⟩
  · unfold dZ rP
    simp only [aE,el,cond_false];exact h2
 have k2: ∀e1:aP×Int,aH eW (rP c f es 0)=some (.done (.done e1))->aH dY (rP c f es 0)=some (.done (if∀i,i<es.length->es[i]!∉es.take i then e1 else (dC,14))):=by
  intro e0 h2
  have:=E3 (body:=dY) (fun i=>rP c f es i) es.length (fun i=>es[i]!∉es.take i) (r:= .done (dC,14)) (e:= .done e0) (fun i hi=>by
   have e1:decide ((i:Int)<(es.length:Int))=true:=aN (by omega)
   unfold dY rP;simp only [e1,cond_true,aB es i hi,kW es i (by omega),aC,oC _ _ (show (es.take i).length<=1000000 by rw [List.length_take];omega),bA (show i<1000000000 by omega)]
   by_cases h:es[i]!∈es.take i
   · rw [aN h];exact ⟨fun _=>rfl,fun k=>absurd h k⟩
   · rw [aL h];exact ⟨fun k=>absurd h k,fun _=>rfl⟩) (by
   unfold dY rP;simp only [aE,el,cond_false];exact h2)
  refine this.trans ?_
  by_cases hb: ∀i,i<es.length->es[i]!∉es.take i
  · rw [if_pos hb,if_pos hb]
  · rw [if_neg hb,if_neg hb]
 have step1: ∀i,i<es.length->(¬jT f es[i]!->eW (rP c f es i)=some (.done (.done (.done (dC,6)))))/\(jT f es[i]!->eW (rP c f es i)=some (.next (rP c f es (i+1)))):=by
  intro i hi;have e1:decide ((i:Int)<(es.length:Int))=true:=aN (by omega)
  obtain ⟨p,e,a1,a2⟩:=D6 fok (es[i]!).1;obtain ⟨q,g,b1,b2⟩:=D6 fok (es[i]!).2;unfold eW rP jT;simp only [e1,cond_true,aB es i hi,aC,a1,b1,bA (show i<1000000000 by omega)]
  by_cases h1:kZ f (es[i]!).1
  · rw [cI (a2.2 h1)]
    by_cases h2:kZ f (es[i]!).2
    · rw [cI (b2.2 h2)]
      exact ⟨fun h=>absurd ⟨h1,h2⟩ h,fun _=>rfl⟩
    · rw [eJ (fun h=>h2 (b2.1 h))]
      exact ⟨fun _=>rfl,fun h=>absurd h.2 h2⟩
  · rw [eJ (fun h=>h1 (a2.1 h))]
    exact ⟨fun _=>rfl,fun h=>absurd h.1 h1⟩
 have start:tK c ⟨f⟩ es=aH dZ (rP c f es 0):=by
  unfold tK;simp only [hc,aC,show ((0:Int) !=0)=false from rfl,cond_false,hf];rfl
 rw [start]
 by_cases h1: ∀x∈es,fK x
 case neg=>
  have er:nO f es=8:=by unfold nO;rw [if_pos h1]
  rw [er,if_neg (by omega)]
  have:=cY (body:=dZ) (fun i=>rP c f es i) es.length (fun i=> ¬fK es[i]!) (r:=(dC,8)) (e:=r)
  have k3':=k3;rw [GL (P:=fK)] at h1;obtain ⟨i,h⟩:=Classical.not_forall.1 h1;obtain ⟨hi,hx⟩:=Classical.not_imp.1 h;obtain ⟨m,m1,m2,m3⟩:=CD (c:=fun i=> ¬fK es[i]!) ⟨i,hi,hx⟩
  have go: ∀j,j<es.length->(¬fK es[j]!->dZ (rP c f es j)=some (.done (dC,8)))/\(fK es[j]!->dZ (rP c f es j)=some (.next (rP c f es (j+1)))):=by
   intro j hj;have e1:decide ((j:Int)<(es.length:Int))=true:=aN (by omega)
   unfold dZ rP fK;simp only [e1,cond_true,aB es j hj,aC,bA (show j<1000000000 by omega)]
   generalize es[j]! =x
   by_cases a1:x.1<0
   · rw [aN a1];exact ⟨fun _=>rfl,fun h=>by omega⟩
   rw [aL a1]
   by_cases a2:x.2<0
   · rw [aN a2];exact ⟨fun _=>rfl,fun h=>by omega⟩
   rw [aL a2]
   by_cases a3:65535<x.1
   · rw [aN a3];exact ⟨fun _=>rfl,fun h=>by omega⟩
   rw [aL a3]
   by_cases a4:65535<x.2
   · rw [aN a4];exact ⟨fun _=>rfl,fun h=>by omega⟩
   rw [aL a4]
   by_cases a5:x.1=x.2
   · rw [fZ a5];exact ⟨fun _=>rfl,fun h=>absurd a5 h.2.2.2.2⟩
   · rw [fI a5];exact ⟨fun h=>absurd ⟨by omega,by omega,by omega,by omega,a5⟩ h,fun _=>rfl⟩
  rw [cU (body:=dZ) (fun i=>rP c f es i) m fun j hj=>(go j (by omega)).2 (Classical.not_not.1 (m3 j hj))]
  exact aI ((go m m1).1 m2)
 have h1':=(GL (P:=fK)).1 h1
 by_cases h2:es.Nodup
 case neg=>
  have er:nO f es=14:=by unfold nO;rw [if_neg (Classical.not_not.2 h1),if_pos h2]
  rw [er,if_neg (by omega)]
  have h2':=h2;rw [L5] at h2';obtain ⟨i,h⟩:=Classical.not_forall.1 h2';obtain ⟨hi,hx⟩:=Classical.not_imp.1 h;obtain ⟨m,m1,m2,m3⟩:=CD (c:=fun i=> ¬es[i]!∉es.take i) ⟨i,hi,hx⟩
  have go: ∀j,j<es.length->(es[j]!∈es.take j->dY (rP c f es j)=some (.done (.done (dC,14))))/\(es[j]!∉es.take j->dY (rP c f es j)=some (.next (rP c f es (j+1)))):=by
   intro j hj;have e1:decide ((j:Int)<(es.length:Int))=true:=aN (by omega)
   unfold dY rP;simp only [e1,cond_true,aB es j hj,kW es j (by omega),aC,oC _ _ (show (es.take j).length<=1000000 by rw [List.length_take];omega),bA (show j<1000000000 by omega)]
   by_cases h:es[j]!∈es.take j
   · rw [aN h];exact ⟨fun _=>rfl,fun k=>absurd h k⟩
   · rw [aL h];exact ⟨fun k=>absurd k h,fun _=>rfl⟩
  have l2:aH dY (rP c f es 0)=some (.done (dC,14)):=by
   rw [cU (body:=dY) (fun i=>rP c f es i) m fun j hj=>(go j (by omega)).2 (Classical.not_not.1 (m3 j hj))]
   exact aI ((go m m1).1 (Classical.not_not.1 m2))
  rw [k3 _ l2,if_pos h1']
 have h2':=L5.1 h2
 by_cases h3: ∀x∈es,jT f x
 case neg=>
  have er:nO f es=6:=by unfold nO;rw [if_neg (Classical.not_not.2 h1),if_neg (Classical.not_not.2 h2),if_pos h3]
  rw [er,if_neg (by omega)]
  have h3':=h3;rw [GL (P:=jT f)] at h3';obtain ⟨i,h⟩:=Classical.not_forall.1 h3';obtain ⟨hi,hx⟩:=Classical.not_imp.1 h;obtain ⟨m,m1,m2,m3⟩:=CD (c:=fun i=> ¬jT f es[i]!) ⟨i,hi,hx⟩
  have l1:aH eW (rP c f es 0)=some (.done (.done (dC,6))):=by
   rw [cU (body:=eW) (fun i=>rP c f es i) m fun j hj=>(step1 j (by omega)).2 (Classical.not_not.1 (m3 j hj))]
   exact aI ((step1 m m1).1 m2)
  rw [k3 _ (k2 _ l1),if_pos h1',if_pos h2']
 have h3':=(GL (P:=jT f)).1 h3;have er:nO f es=0:=by unfold nO;rw [if_neg (Classical.not_not.2 h1),if_neg (Classical.not_not.2 h2),if_neg (Classical.not_not.2 h3)]
 rw [er,if_pos rfl];have l1:aH eW (rP c f es 0)=some (.done (.done r)):=by
  rw [cU (body:=eW) (fun i=>rP c f es i) es.length fun j hj=>(step1 j hj).2 (h3' j hj)]
  refine aI ?_;unfold eW rP;simp only [el,cond_false,tw,aC,hr er]
 rw [k3 _ (k2 _ l1),if_pos h1',if_pos h2']
end Go.Proofs.YtmlghnibpjlchaaGreat
namespace Go.Proofs.YtmlghnibpjlchaaGreat
open Go.Vm Classical
theorem aBk.of {c:aP} (h1:RT.wf [.i .i64,.i .i64] c.now) (h2: ∀a∈c.agenda.heap,RT.wf [.i .i64,.i .i64,.i .i64,.i .i64,.i .i64] a):aBk c where
 now:=⟨OO h1.1,OO h1.2⟩
 at64 w hw:=by
  have:=h2 (c.agenda.heap[w]!) (by rw [getElem!_pos c.agenda.heap w hw];exact List.getElem_mem hw)
  exact ⟨OO this.1,OO this.2.1⟩
end Go.Proofs.YtmlghnibpjlchaaGreat
namespace Go.Proofs.YtmlghnibpjlchaaGreat
open Go.Vm Classical
theorem aHL (p q:Pt) (t:Int×Int):NG p q t=(p.2.1-q.2.1)*t.2+(p.2.2-q.2.2)*t.1:=rfl
end Go.Proofs.YtmlghnibpjlchaaGreat
namespace Go.Proofs.YtmlghnibpjlchaaGreat
open Go.Vm Classical
end Go.Proofs.YtmlghnibpjlchaaGreat
namespace Go.Proofs.YtmlghnibpjlchaaGreat
theorem rO {α:Type} [BEq α] [LawfulBEq α]: ∀{a b:List α},a.Nodup->(∀x∈a,x∈b)->b.length<=a.length->a.Perm b
 | [],b,_,_,hl=>by
  rw [List.eq_nil_of_length_eq_zero (show b.length=0 by simpa using hl)]
 |x::a,b,hd,h,hl=>by
  rw [List.nodup_cons] at hd;have hx:=h x List.mem_cons_self;have ih:=rO (a:=a) (b:=b.erase x) hd.2 (fun y hy=>by
   rw [List.mem_erase_of_ne (fun e=>hd.1 (by rw [<- e];exact hy))]
   exact h y (List.mem_cons_of_mem _ hy)) (by
   rw [List.length_erase_of_mem hx];rw [List.length_cons] at hl
   omega)
  exact (List.Perm.cons x ih).trans (List.perm_cons_erase hx).symm
theorem A0 {α β:Type} {f:α->β}: ∀{l:List α},l.Nodup->(∀x∈l,∀y∈l,f x=f y->x=y)->(l.map f).Nodup
 | [],_,_=>List.nodup_nil
 |x::l,h,hi=>by
  rw [List.nodup_cons] at h;rw [List.map_cons,List.nodup_cons];refine ⟨fun hm=>?_,A0 h.2 fun y hy z hz=>hi y (List.mem_cons_of_mem _ hy) z (List.mem_cons_of_mem _ hz)⟩
  obtain ⟨y,hy,e⟩:=List.mem_map.1 hm
  have:=hi y (List.mem_cons_of_mem _ hy) x List.mem_cons_self e
  rw [this] at hy;exact h.1 hy
end Go.Proofs.YtmlghnibpjlchaaGreat
namespace Go.Proofs.YtmlghnibpjlchaaGreat
open Go.Vm Classical
def uC (l:List Int) (k:Nat):List (Int×Int):=(List.range k).map fun i=>(l[i+1]!,l[i / 2]!)
abbrev dS (l:List Int):List (Int×Int):=uC l (l.length-1)
theorem nG (l:List Int) (k:Nat):(uC l k).length=k:=by unfold uC;rw [List.length_map,List.length_range]
theorem IQ (l:List Int) (k:Nat):uC l (k+1)=uC l k++[(l[k+1]!,l[k / 2]!)]:=by
 unfold uC;rw [List.range_succ,List.map_append];rfl
theorem IR (l:List Int) {k i:Nat} (h:i<k):(uC l k)[i]! =(l[i+1]!,l[i / 2]!):=by
 rw [getElem!_pos _ i (by rw [nG];exact h)]
 unfold uC;rw [List.getElem_map,List.getElem_range]
theorem SZ (l:List Int) (hl:l.length<=1000):wW l=some (dS l):=by
 unfold wW;have key:=cU (body:=pR) (fun i=>(l,((i+1:Nat):Int),uC l i)) (l.length-1) (fun i hi=>by
  have e:aA .i64 (Int.tdiv (aA .i64 (((i+1:Nat):Int) -1)) 2)=((i / 2:Nat):Int):=by
   rw [show aA .i64 (((i+1:Nat):Int) -1)=(i:Int) from by rw [jW ⟨by omega,by omega⟩];omega,Int.tdiv_eq_ediv_of_nonneg (by omega),jW ⟨by omega,by omega⟩];omega
  unfold pR;simp only [aE,aN (show ((i+1:Nat):Int)<(l.length:Int) by omega),cond_true,aB l (i+1) (by omega),e,aB l (i / 2) (by omega),aC]
  rw [fE (by rw [nG,List.length_singleton];omega),aC,bA (show i+1<1000000000 by omega),<- IQ])
 rw [show (l,(1:Int),([]:List (Int×Int)))=(l,((0+1:Nat):Int),uC l 0) from rfl,key];refine aI ?_;unfold pR;simp only [aE,aL (show¬((l.length-1+1:Nat):Int)<(l.length:Int) by omega),cond_false]
theorem aBl (l:List Int) (hl:l.length<=1000):CC l=some (dS l):=by rw [<- SZ l hl];rfl
theorem HU {l:List Int} {e:Int×Int} (h:e∈dS l):e.1∈l/\e.2∈l:=by
 obtain ⟨i,hi,rfl⟩:=aZ.1 h;rw [nG] at hi;rw [IR l hi];exact ⟨bE (by omega),bE (by omega)⟩
theorem aBm {l:List Int} (hd:l.Nodup) {e:Int×Int} (h:e∈dS l):e.1≠e.2:=by
 obtain ⟨i,hi,rfl⟩:=aZ.1 h;rw [nG] at hi;rw [IR l hi];exact fun h=>cP.1 hd (i / 2) (i+1) (by omega) (by omega) h.symm
theorem IS {l:List Int} (hd:l.Nodup):(dS l).Nodup:=by
 unfold dS uC;refine A0 List.nodup_range fun i hi j hj h=>?_
 rw [List.mem_range] at hi hj;have h1:l[i+1]! =l[j+1]!:=congrArg Prod.fst h;have h2:=cP.1 hd;rcases Nat.lt_trichotomy i j with k|k|k
 · exact absurd h1 (h2 (i+1) (j+1) (by omega) (by omega))
 · exact k
 · exact absurd h1.symm (h2 (j+1) (i+1) (by omega) (by omega))
theorem L7 (l:List Int) (x:Int) (hl:l.length<=1000000):
 (∀k,k<l.length->l[k]! =x->(∀j,j<k->l[j]!≠x)->iK l x=some (k:Int))/\((∀k,k<l.length->l[k]!≠x)->iK l x=some (-1)):=by
 have k1:=lG (body:=kB) (fun i=>(l,x,(l.length:Int),(i:Int))) l.length (fun i=>l[i]! =x) (fun i=>(i:Int)) (e:= -1) (fun i hi=>by
  unfold kB;simp only [aN (show (i:Int)<(l.length:Int) by omega),cond_true,aB l i hi,aC,bA (show i<1000000000 by omega)]
  refine ⟨fun h=>?_,fun h=>?_⟩
  · rw [fZ h.symm];rfl
  · rw [fI (fun k=>h k.symm)];rfl) (by
  unfold kB;simp only [aL (show¬(l.length:Int)<(l.length:Int) by omega),cond_false])
 exact ⟨fun k hk h1 h2=>k1.1 k hk h1 h2,fun h=>k1.2 h⟩
theorem PM (l:List Int) (x:Int) (hl:l.length<=1000000):kC l x=some (decide (x∈l)):=by
 unfold kC
 by_cases hx:x∈l
 · obtain ⟨k,k1,k2,k3⟩:=CD (c:=fun k=>l[k]! =x) (aZ.1 hx)
   rw [(L7 l x hl).1 k k1 k2 k3,aC,aN hx,aN (by omega)]
 · rw [(L7 l x hl).2 (fun k hk h=>hx (aZ.2 ⟨k,hk,h⟩)),aC,aL hx];rfl
theorem fO {f:List Pt} (fok:cB f) {id:Int} (h:kZ f id):fD ⟨f⟩ id=some (bH f id,0):=by
 have h1:=fok.1;have hc:fF ⟨f⟩=some 0:=by rw [iU];exact congrArg some (gQ.2 fok)
 have bs:=AV f id (by omega) (fun i j=>jE fok.2.2)
 unfold fD jL rD;rw [JD];simp only [hc,aC,show ((0:Int) !=0)=false from rfl,cond_false];obtain ⟨k,hk,he⟩:=h;rw [bs.1 k hk he];simp only [aC,Bool.not_true,cond_false,show ((0:Int) !=0)=false from rfl,aB f k hk,JF fok.2.2 hk he]
theorem aBn {f:List Pt} (fok:cB f) {t:Int×Int} (r:cE t) (r64:qK t) {a b:Int} (ha:kZ f a) (hb:kZ f b) (hne:a≠b):wX ⟨f⟩ t a b=some (decide (bQ (bH f a) (bH f b) t)):=by
 unfold wX;rw [fO fok ha,aC,fO fok hb,aC];obtain ⟨p1,p2⟩:=eZ fok ha;obtain ⟨q1,q2⟩:=eZ fok hb;rcases BE p1 q1 r64 r with h|⟨h,_⟩
 · rw [h,aC]
 · rw [p2,q2] at h;exact absurd h hne
theorem aHM {f:List Pt} (fok:cB f) {t:Int×Int} (r64:qK t) {x:Int×Int} (hb:jT f x):AJ x ⟨f⟩ t=some (decide (bQ (bH f x.2) (bH f x.1) t)):=by
 obtain ⟨h1,h2⟩:=hb;obtain ⟨j,j1,j2,j3⟩:=AZ fok h1;obtain ⟨k,k1,k2,k3⟩:=AZ fok h2;unfold AJ;simp only [j2,k2,aC,aB f j j1,aB f k k1,j3,k3,LD (eZ fok h2).1 (eZ fok h1).1 r64]
end Go.Proofs.YtmlghnibpjlchaaGreat
namespace Go.Proofs.YtmlghnibpjlchaaGreat
open Go.Vm Classical
def wE (f:List Pt):List Int:=f.map fun p=>p.1
theorem rQ {f:List Pt} (h:kV f):(wE f).Nodup:=by
 refine A0 ?_ ?_
 · exact cP.2 fun i j hij hj e=>by have:=jE h hij hj;rw [e] at this;omega
 · intro x hx y hy e
   obtain ⟨i,hi,rfl⟩:=aZ.1 hx;obtain ⟨j,hj,rfl⟩:=aZ.1 hy;rw [LF h hi hj e]
theorem xM {f:List Pt} {id:Int}:id∈wE f↔kZ f id:=by
 unfold wE kZ;rw [List.mem_map];constructor
 · rintro ⟨p,hp,rfl⟩
   obtain ⟨i,hi,rfl⟩:=aZ.1 hp;exact ⟨i,hi,rfl⟩
 · rintro ⟨i,hi,rfl⟩
   exact ⟨f[i]!,bE hi,rfl⟩
structure L8 (k:dH):Prop where
 clk:bF k.clock
 perm:(wE k.clock.field.points).Perm k.heap
 cert:(k.clock.certs.list.map fun x=>x.2).Perm (dS k.heap)
 lead: ∀e∈dS k.heap,bQ (bH k.clock.field.points e.2) (bH k.clock.field.points e.1) k.clock.now
theorem S0 {c:aU} (ok:eQ c):(c.list.map fun x=>x.2).Nodup:=by
 refine A0 ?_ ?_
 · exact cP.2 fun i j hij hj e=>ok.nd i j hij hj (by rw [e])
 · intro x hx y hy e
   obtain ⟨i,hi,rfl⟩:=aZ.1 hx;obtain ⟨j,hj,rfl⟩:=aZ.1 hy;rcases Nat.lt_trichotomy i j with k|k|k
   · exact absurd e (ok.nd i j k hj)
   · rw [k]
   · exact absurd e.symm (ok.nd j i k hi)
def aBo (k:dH):Prop:=(∀i,i<k.clock.field.points.length->(k.clock.field.points[i]!).1∈k.heap)/\(dS k.heap).length=k.clock.certs.list.length/\
 ∀i,i<k.clock.certs.list.length->(k.clock.certs.list[i]!).2∈dS k.heap/\bQ (bH k.clock.field.points (k.clock.certs.list[i]!).2.2) (bH k.clock.field.points (k.clock.certs.list[i]!).2.1) k.clock.now
def S1 (k:dH):Prop:=(∀i,i<k.heap.length->kZ k.clock.field.points k.heap[i]!/\ ∀j,j<i->k.heap[j]!≠k.heap[i]!)/\k.clock.certs.list.length=(dS k.heap).length/\
 ∀i,i<(dS k.heap).length->AX k.clock.certs.list (dS k.heap)[i]!/\bQ (bH k.clock.field.points ((dS k.heap)[i]!).2) (bH k.clock.field.points ((dS k.heap)[i]!).1) k.clock.now
theorem CO {l:List uB} {x:Int×Int}:AX l x↔x∈l.map fun y=>y.2:=by
 unfold AX;rw [List.mem_map];constructor
 · rintro ⟨i,hi,rfl⟩;exact ⟨l[i]!,bE hi,rfl⟩
 · rintro ⟨y,hy,rfl⟩
   obtain ⟨i,hi,rfl⟩:=aZ.1 hy;exact ⟨i,hi,rfl⟩
theorem aPM {k:dH} (ok:bF k.clock) (hl:k.heap.length=k.clock.field.points.length):aBo k↔L8 k:=by
 have nd:=rQ ok.fld.2.2;have il:(wE k.clock.field.points).length=k.clock.field.points.length:=List.length_map ..;have cl:(k.clock.certs.list.map fun x=>x.2).length=k.clock.certs.list.length:=List.length_map ..
 have cn:=S0 ok.crt;constructor
 · rintro ⟨h1,h2,h3⟩
   have pm:(wE k.clock.field.points).Perm k.heap:=rO nd (fun x hx=>by
    obtain ⟨i,hi,rfl⟩:=xM.1 hx;exact h1 i hi) (by omega)
   have pc:(k.clock.certs.list.map fun x=>x.2).Perm (dS k.heap):=rO cn (fun x hx=>by
    obtain ⟨i,hi,rfl⟩:=CO.2 hx;exact (h3 i hi).1) (by omega)
   refine ⟨ok,pm,pc,fun e he=>?_⟩
   obtain ⟨i,hi,rfl⟩:=CO.2 (pc.mem_iff.2 he);exact (h3 i hi).2
 · intro h
   refine ⟨fun i hi=>h.perm.mem_iff.1 (xM.2 ⟨i,hi,rfl⟩),by rw [<- h.cert.length_eq,cl],fun i hi=>?_⟩
   have:=h.cert.mem_iff.1 (CO.1 ⟨i,hi,rfl⟩)
   exact ⟨this,h.lead _ this⟩
theorem aPN {k:dH} (ok:bF k.clock) (hl:k.heap.length=k.clock.field.points.length):S1 k↔L8 k:=by
 have nd:=rQ ok.fld.2.2;have il:(wE k.clock.field.points).length=k.clock.field.points.length:=List.length_map ..;have cl:(k.clock.certs.list.map fun x=>x.2).length=k.clock.certs.list.length:=List.length_map ..
 constructor
 · rintro ⟨h1,h2,h3⟩
   have hn:k.heap.Nodup:=cP.2 fun i j hij hj e=>(h1 j hj).2 i hij e
   have pm:k.heap.Perm (wE k.clock.field.points):=rO hn (fun x hx=>by
    obtain ⟨i,hi,rfl⟩:=aZ.1 hx;exact xM.2 (h1 i hi).1) (by omega)
   have pc:(dS k.heap).Perm (k.clock.certs.list.map fun x=>x.2):=rO (IS hn) (fun x hx=>by
    obtain ⟨i,hi,rfl⟩:=aZ.1 hx;exact CO.1 (h3 i hi).1) (by omega)
   refine ⟨ok,pm.symm,pc.symm,fun e he=>?_⟩
   obtain ⟨i,hi,rfl⟩:=aZ.1 he;exact (h3 i hi).2
 · intro h
   have hn:k.heap.Nodup:=h.perm.nodup_iff.1 nd;refine ⟨fun i hi=>⟨xM.1 (h.perm.mem_iff.2 (bE hi)),fun j hj e=>cP.1 hn j i hj hi e⟩,by rw [<- h.cert.length_eq,cl],fun i hi=>?_⟩
   exact ⟨CO.2 (h.cert.mem_iff.2 (bE hi)),h.lead _ (bE hi)⟩
theorem PN {α:Type} {p q:Prop} [Decidable p] [Decidable q] {a b:α} (h:p↔q):(if p then a else b)=if q then a else b:=by
 by_cases hp:p
 · rw [if_pos hp,if_pos (h.1 hp)]
 · rw [if_neg hp,if_neg (fun k=>hp (h.2 k))]
theorem L9 {k:dH} (fit:wD k.clock) (hl:k.heap.length<=1000):wY k=some (if L8 k then 0 else 8):=by
 unfold wY;rw [nF fit,aC]
 by_cases ok:bF k.clock
 case neg=>rw [if_neg ok,if_neg (fun h=>ok h.clk)];rfl
 rw [if_pos ok,cI rfl,cond_false]
 by_cases hh:k.heap.length=k.clock.field.points.length
 case neg=>
  rw [eJ (by rw [aE,aE];omega),cond_true,if_neg (fun h=>hh ?_)]
  rw [<- h.perm.length_eq];exact List.length_map ..
 rw [cI (by rw [aE,aE];omega),cond_false,<- PN (aPM ok hh)]
 have bd:=ok.bd;have inner:=E3 (body:=pT) (fun i=>(dS k.heap,k.clock.certs.list,(k.clock.certs.list.length:Int),(i:Int),k.clock.now.1,k.clock.now.2,k.clock.field.points,k.clock.certs.next_,k.clock.certs.list,k.clock.agenda.slots.uses,k.clock.agenda.slots.used,k.clock.agenda.slots.free,k.clock.agenda.heap,k.clock.agenda.where_,k.clock.due,k.heap)) k.clock.certs.list.length
  (fun i=>(k.clock.certs.list[i]!).2∈dS k.heap/\bQ (bH k.clock.field.points (k.clock.certs.list[i]!).2.2) (bH k.clock.field.points (k.clock.certs.list[i]!).2.1) k.clock.now) (r:= .done 8) (e:= .done 0) (fun i hi=>by
  have hb:=ok.known i hi;have hv:=ok.crt.cv i hi;unfold pT;simp only [aN (show (i:Int)<(k.clock.certs.list.length:Int) by omega),cond_true,aB k.clock.certs.list i hi,aC,oC (dS k.heap) _ (by rw [nG];omega),aBn ok.fld (t:=(k.clock.now.1,k.clock.now.2)) ok.nowv ok.now64 hb.2 hb.1 (fun h=>hv.2.2.2.2 h.symm),bA (show i<1000000000 by omega)]
  by_cases h1:(k.clock.certs.list[i]!).2∈dS k.heap
  · rw [aN h1]
    by_cases h2:bQ (bH k.clock.field.points (k.clock.certs.list[i]!).2.2) (bH k.clock.field.points (k.clock.certs.list[i]!).2.1) k.clock.now
    · rw [show decide (bQ (bH k.clock.field.points (k.clock.certs.list[i]!).2.2) (bH k.clock.field.points (k.clock.certs.list[i]!).2.1) (k.clock.now.1,k.clock.now.2))=true from aN h2]
      exact ⟨fun h=>absurd ⟨h1,h2⟩ h,fun _=>rfl⟩
    · rw [show decide (bQ (bH k.clock.field.points (k.clock.certs.list[i]!).2.2) (bH k.clock.field.points (k.clock.certs.list[i]!).2.1) (k.clock.now.1,k.clock.now.2))=false from aL h2]
      exact ⟨fun _=>rfl,fun h=>absurd h.2 h2⟩
  · rw [aL h1]
    exact ⟨fun _=>rfl,fun h=>absurd h.1 h1⟩) (by
  unfold pT;simp only [aL (show¬(k.clock.certs.list.length:Int)<(k.clock.certs.list.length:Int) by omega),cond_false])
 have outer:=E3 (body:=pU) (fun i=>(k.clock.field.points,(k.clock.field.points.length:Int),(i:Int),k.clock.now.1,k.clock.now.2,k.clock.field.points,k.clock.certs.next_,k.clock.certs.list,k.clock.agenda.slots.uses,k.clock.agenda.slots.used,k.clock.agenda.slots.free,k.clock.agenda.heap,k.clock.agenda.where_,k.clock.due,k.heap)) k.clock.field.points.length
  (fun i=>(k.clock.field.points[i]!).1∈k.heap) (r:=8) (e:=if (dS k.heap).length=k.clock.certs.list.length/\ ∀i,i<k.clock.certs.list.length->(k.clock.certs.list[i]!).2∈dS k.heap/\bQ (bH k.clock.field.points (k.clock.certs.list[i]!).2.2) (bH k.clock.field.points (k.clock.certs.list[i]!).2.1) k.clock.now then 0 else 8) (fun i hi=>by
  unfold pU;simp only [aN (show (i:Int)<(k.clock.field.points.length:Int) by omega),cond_true,aB k.clock.field.points i hi,aC,PM k.heap _ (by omega),bA (show i<1000000000 by omega)]
  by_cases h1:(k.clock.field.points[i]!).1∈k.heap
  · rw [aN h1];exact ⟨fun h=>absurd h1 h,fun _=>rfl⟩
  · rw [aL h1];exact ⟨fun _=>rfl,fun h=>absurd h h1⟩) (by
  unfold pU;simp only [aE,aL (show¬(k.clock.field.points.length:Int)<(k.clock.field.points.length:Int) by omega),cond_false,SZ k.heap hl,aC]
  by_cases h1:(dS k.heap).length=k.clock.certs.list.length
  · rw [cI (by omega),cond_false]
    refine (show _=_ from inner).trans ?_
    by_cases h2: ∀i,i<k.clock.certs.list.length->(k.clock.certs.list[i]!).2∈dS k.heap/\bQ (bH k.clock.field.points (k.clock.certs.list[i]!).2.2) (bH k.clock.field.points (k.clock.certs.list[i]!).2.1) k.clock.now
    · rw [if_pos h2,if_pos ⟨h1,h2⟩]
    · rw [if_neg h2,if_neg (fun h=>h2 h.2)]
  · rw [eJ (by omega),cond_true,if_neg (fun h=>h1 h.1)])
 refine (show _=_ from outer).trans ?_
 by_cases h1: ∀i,i<k.clock.field.points.length->(k.clock.field.points[i]!).1∈k.heap
 · rw [if_pos h1]
   congr 1
   exact PN (q:=aBo k) ⟨fun h=>⟨h1,h.1,h.2⟩,fun h=>⟨h.2.1,h.2.2⟩⟩
 · rw [if_neg h1,if_neg (fun h:aBo k=>h1 h.1)]
theorem aHN {c:aP} (ok:bF c) (es:List (Int×Int)) (kn: ∀x∈es,jT c.field.points x):
 AL c es=some (decide (c.certs.list.length=es.length/\ ∀i,i<es.length->AX c.certs.list es[i]!/\bQ (bH c.field.points (es[i]!).2) (bH c.field.points (es[i]!).1) c.now)):=by
 have bd:=ok.bd;unfold AL;simp only [aE]
 by_cases h0:c.certs.list.length=es.length
 case neg=>rw [eJ (by omega),cond_true,aL (fun h=>h0 h.1)]
 rw [cI (by omega),cond_false]
 have key:=E3 (body:=sG) (fun i=>(es,(i:Int),c.now.1,c.now.2,c.field.points,c.certs.next_,c.certs.list,c.agenda.slots.uses,c.agenda.slots.used,c.agenda.slots.free,c.agenda.heap,c.agenda.where_,c.due)) es.length
  (fun i=>AX c.certs.list es[i]!/\bQ (bH c.field.points (es[i]!).2) (bH c.field.points (es[i]!).1) c.now) (r:=false) (e:=true) (fun i hi=>by
  have ceta2:aU.mk c.certs.next_ c.certs.list=c.certs:=rfl;unfold sG;simp only [aE,aN (show (i:Int)<(es.length:Int) by omega),cond_true,aB es i hi,aC,ceta2,AY c.certs es[i]! (by omega),aHM ok.fld (t:=(c.now.1,c.now.2)) ok.now64 (kn _ (bE hi)),bA (show i<1000000000 by omega)]
  by_cases h1:AX c.certs.list es[i]!
  · rw [aN h1]
    by_cases h2:bQ (bH c.field.points (es[i]!).2) (bH c.field.points (es[i]!).1) c.now
    · rw [show decide (bQ (bH c.field.points (es[i]!).2) (bH c.field.points (es[i]!).1) (c.now.1,c.now.2))=true from aN h2]
      exact ⟨fun h=>absurd ⟨h1,h2⟩ h,fun _=>rfl⟩
    · rw [show decide (bQ (bH c.field.points (es[i]!).2) (bH c.field.points (es[i]!).1) (c.now.1,c.now.2))=false from aL h2]
      exact ⟨fun _=>rfl,fun h=>absurd h.2 h2⟩
  · rw [aL h1]
    exact ⟨fun _=>rfl,fun h=>absurd h.1 h1⟩) (by
  unfold sG;simp only [aE,aL (show¬(es.length:Int)<(es.length:Int) by omega),cond_false])
 refine (show _=_ from key).trans ?_
 by_cases h2: ∀i,i<es.length->AX c.certs.list es[i]!/\bQ (bH c.field.points (es[i]!).2) (bH c.field.points (es[i]!).1) c.now
 · rw [if_pos h2,aN ⟨h0,h2⟩]
 · rw [if_neg h2,aL (fun h=>h2 h.2)]
theorem aHO {σ ρ:Type} {body:σ->Option (bX σ ρ)} (st:Nat->σ) (n:Nat) (P:Nat->Prop) {r:ρ} (h: ∀i,i<n->(¬P i->body (st i)=some (.done r))/\(P i->body (st i)=some (.next (st (i+1)))))
 (hx: ¬ ∀i,i<n->P i):aH body (st 0)=some r:=by
 obtain ⟨i,hi⟩:=Classical.not_forall.1 hx;obtain ⟨hi,hx⟩:=Classical.not_imp.1 hi;obtain ⟨m,m1,m2,m3⟩:=CD (c:=fun i=> ¬P i) ⟨i,hi,hx⟩
 rw [cU st m fun j hj=>(h j (by omega)).2 (Classical.not_not.1 (m3 j hj))]
 exact aI ((h m m1).1 m2)
def ckS (k:dH) (i:Nat):=((i:Int),k.clock.now.1,k.clock.now.2,k.clock.field.points,k.clock.certs.next_,k.clock.certs.list,k.clock.agenda.slots.uses,k.clock.agenda.slots.used,k.clock.agenda.slots.free,k.clock.agenda.heap,k.clock.agenda.where_,k.clock.due,k.heap)
theorem MA {k:dH} (fit:wD k.clock) (hl:k.heap.length<=1000):tQ k=some (if L8 k then 0 else 8):=by
 unfold tQ;rw [L3 fit,aC]
 by_cases ok:bF k.clock
 case neg=>rw [if_neg ok,if_neg (fun h=>ok h.clk)];rfl
 rw [if_pos ok,cI rfl,cond_false]
 by_cases hh:k.heap.length=k.clock.field.points.length
 case neg=>
  rw [eJ (by rw [aE,aE];omega),cond_true,if_neg (fun h=>hh ?_)]
  rw [<- h.perm.length_eq];exact List.length_map ..
 rw [cI (by rw [aE,aE];omega),cond_false,<- PN (aPN ok hh)]
 have bd:=ok.bd;have step: ∀i,i<k.heap.length->(¬(kZ k.clock.field.points k.heap[i]!/\ ∀j,j<i->k.heap[j]!≠k.heap[i]!)->iT (ckS k i)=some (.done 8))/\((kZ k.clock.field.points k.heap[i]!/\ ∀j,j<i->k.heap[j]!≠k.heap[i]!)->iT (ckS k i)=some (.next (ckS k (i+1)))):=by
  intro i hi;unfold ckS;unfold iT;simp only [aE,aN (show (i:Int)<(k.heap.length:Int) by omega),cond_true,aB k.heap i hi,aC]
  by_cases h1:kZ k.clock.field.points k.heap[i]!
  case neg=>
   rw [PJ ok.fld h1];exact ⟨fun _=>rfl,fun h=>absurd h.1 h1⟩
  obtain ⟨m,m1,m2,m3⟩:=AZ ok.fld h1;rw [m2];simp only [aC,aL (show¬(m:Int)<0 by omega),cond_false]
  have inner:=E3 (body:=qB) (fun j=>((i:Int),(j:Int),k.clock.now.1,k.clock.now.2,k.clock.field.points,k.clock.certs.next_,k.clock.certs.list,k.clock.agenda.slots.uses,k.clock.agenda.slots.used,k.clock.agenda.slots.free,k.clock.agenda.heap,k.clock.agenda.where_,k.clock.due,k.heap)) i
   (fun j=>k.heap[j]!≠k.heap[i]!) (r:= .done 8) (e:= .next (((i+1:Nat):Int),k.clock.now.1,k.clock.now.2,k.clock.field.points,k.clock.certs.next_,k.clock.certs.list,k.clock.agenda.slots.uses,k.clock.agenda.slots.used,k.clock.agenda.slots.free,k.clock.agenda.heap,k.clock.agenda.where_,k.clock.due,k.heap)) (fun j hj=>by
   unfold qB;simp only [aN (show (j:Int)<(i:Int) by omega),cond_true,aB k.heap j (by omega),aB k.heap i hi,aC,bA (show j<1000000000 by omega)]
   by_cases h:k.heap[j]! =k.heap[i]!
   · rw [fZ h];exact ⟨fun _=>rfl,fun k=>absurd h k⟩
   · rw [fI h];exact ⟨fun k=>absurd h k,fun _=>rfl⟩) (by
   unfold qB;simp only [aL (show¬(i:Int)<(i:Int) by omega),cond_false,bA (show i<1000000000 by omega)])
  have inner':=(show _=_ from inner)
  by_cases h2: ∀j,j<i->k.heap[j]!≠k.heap[i]!
  · rw [if_pos h2] at inner'
    exact ⟨fun h=>absurd ⟨h1,h2⟩ h,fun _=>inner'⟩
  · rw [if_neg h2] at inner'
    exact ⟨fun _=>inner',fun h=>absurd h.2 h2⟩
 by_cases hP: ∀i,i<k.heap.length->kZ k.clock.field.points k.heap[i]!/\ ∀j,j<i->k.heap[j]!≠k.heap[i]!
 · have jus:=aHN ok (dS k.heap) (fun x hx=>by
    obtain ⟨h1,h2⟩:=HU hx;obtain ⟨i,hi,e1⟩:=aZ.1 h1;obtain ⟨j,hj,e2⟩:=aZ.1 h2;exact ⟨e1▸(hP i hi).1,e2▸(hP j hj).1⟩)
   have o:=E3 (body:=iT) (ckS k) k.heap.length _ (r:=8) (e:=if S1 k then 0 else 8) step (by
    have ceta:(aP.mk (k.clock.now.1,k.clock.now.2) (Field.mk k.clock.field.points) (aU.mk k.clock.certs.next_ k.clock.certs.list) (aG.mk (aQ.mk k.clock.agenda.slots.uses k.clock.agenda.slots.used k.clock.agenda.slots.free) k.clock.agenda.heap k.clock.agenda.where_) k.clock.due)=k.clock:=rfl;unfold iT ckS
    simp only [aE,aL (show¬(k.heap.length:Int)<(k.heap.length:Int) by omega),cond_false,aBl k.heap hl,aC,ceta,jus]
    by_cases h2:k.clock.certs.list.length=(dS k.heap).length/\ ∀i,i<(dS k.heap).length->AX k.clock.certs.list (dS k.heap)[i]!/\bQ (bH k.clock.field.points ((dS k.heap)[i]!).2) (bH k.clock.field.points ((dS k.heap)[i]!).1) k.clock.now
    · rw [aN h2,if_pos (show S1 k from ⟨hP,h2.1,h2.2⟩)];rfl
    · rw [aL h2,if_neg (fun h:S1 k=>h2 ⟨h.2.1,h.2.2⟩)];rfl)
   refine (show _=_ from o).trans ?_;rw [if_pos hP]
 · rw [if_neg (fun h:S1 k=>hP h.1)]
   exact aHO (body:=iT) (ckS k) k.heap.length _ (r:=8) step hP
end Go.Proofs.YtmlghnibpjlchaaGreat
