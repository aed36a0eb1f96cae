/- Plain laws (3). -/
import Derived.Test.YtbncnimfgdelaaaGreatEDQM2
import Derived.Test.YtbncnimfgdelaaaGreatEDQS2
namespace Go.Proofs.YtbncnimfgdelaaaGreat
open Go.Vm Classical
theorem V2 (c:aL) (n:Int) (hl:c.due.length<=1000000):(∀k,k<c.due.length->(c.due[k]!).1=n->(∀j,j<k->(c.due[j]!).1≠n)->vF c n=some (k:Int))/\((∀k,k<c.due.length->(c.due[k]!).1≠n)->vF c n=some (-1)):=by
 unfold vF;refine mJ (body:=rU) (fun i=>(n,(i:Int),c.now.1,c.now.2,c.field.points,c.certs.next_,c.certs.list,c.agenda.slots.uses,c.agenda.slots.used,c.agenda.slots.free,c.agenda.heap,c.agenda.where_,c.due)) c.due.length (fun i=>(c.due[i]!).1=n) (fun i=>(i:Int)) (fun i hi=>?_) ?_
 · have e1:decide ((i:Int)<(c.due.length:Int))=true:=aO (by omega)
   unfold rU;simp only [aF,e1,cond_true,aC c.due i hi,aB,aX (show i<1000000000 by omega)]
   constructor
   · intro h;rw [fS h];rfl
   · intro h;rw [eN h];rfl
 · unfold rU
   have:decide ((c.due.length:Int)<(c.due.length:Int))=false:=aH (by omega)
   simp only [aF,this,cond_false]
theorem QW {ds:List uE} (hu:Up ds) (hl:ds.length<=1000000) (n:Int):(∀k,k<ds.length->(ds[k]!).1=n->qK ds n=some ((k:Int),true))/\((∀k,k<ds.length->(ds[k]!).1≠n)-> ∃m:Nat,qK ds n=some ((m:Int),false)):=by
 have bs:=L6 ds n hl (wS.1 hu);unfold qK;rw [aP1];constructor
 · intro k hk he;rw [bs.1 k hk he];rfl
 · intro h
   obtain ⟨m,_,_,_,e⟩:=bs.2 h;exact ⟨m,by rw [e];rfl⟩
theorem bA.bd {c:aL} (ok:bA c):c.due.length<=200/\c.field.points.length<=64/\c.certs.list.length<=200:=by
 have:=ok.hd;have:=ok.agd.bd;have:=ok.fld.1;have:=ok.crt.len
 omega
theorem iB {c:aL} (ok:bA c):qA c=some c:=by
 have bd:=ok.bd;unfold qA CH CI;simp only [bG (show c.field.points.length<=1048576 by omega),bG (show c.certs.list.length<=1048576 by omega),bG (show c.due.length<=1048576 by omega),aB,uD ok.agd]
theorem lB {c:aL} (ok:bA c):kW c=some c:=by
 have bd:=ok.bd;have ab:=ok.agd.bd;have hl:=ok.agd.so.fl;have hn:=ok.agd.so.n2;have hu:=ok.agd.so.ul;unfold kW;simp only [bG (show c.field.points.length<=1048576 by omega),bG (show c.certs.list.length<=1048576 by omega),bG (show c.due.length<=1048576 by omega),bG (show c.agenda.heap.length<=1048576 by omega),bG (show c.agenda.where_.length<=1048576 by omega),
  bG (show c.agenda.slots.uses.length<=1048576 by omega),bG (show c.agenda.slots.used.length<=1048576 by omega),bG (show c.agenda.slots.free.length<=1048576 by omega),aB]
theorem wT {cs:List uE} {i:Nat} (hu:Up cs) (hi:i<cs.length) {x:uE} (hx:x∈cs.eraseIdx i):x∈cs/\x.1≠(cs[i]!).1:=by
 rw [xX,List.mem_append] at hx;have ub:=wS.1 hu;rcases hx with hx|hx
 · obtain ⟨j,h1,h2,rfl⟩:=cK.1 hx
   have:=ub j i h1 hi
   exact ⟨bB h2,by omega⟩
 · obtain ⟨j,hj,rfl⟩:=aW.1 hx
   rw [List.length_drop] at hj;rw [wX]
   have:=ub i (i+1+j) (by omega) (by omega)
   exact ⟨bB (by omega),by omega⟩
theorem EO {c:aL} (ok:bA c) (i:Nat) (hi:i<c.certs.list.length): ∀j,j<(oZ c.certs i).list.length->iJ c.field.points ((oZ c.certs i).list[j]!).2:=by
 intro j hj;have hm:(oZ c.certs i).list[j]!∈c.certs.list:=(wT ok.crt_up hi (bB hj)).1;obtain ⟨m,hm1,hm2⟩:=aW.1 hm;rw [<- hm2];exact ok.known m hm1
theorem aDJ {c:aL} (ok:bA c) {i:Nat} (hi:i<c.certs.list.length):
 ∃c':aL,mO c (c.certs.list[i]!).1=some (c',(c.certs.list[i]!).2,0)/\sZ c (c.certs.list[i]!).1=some c'/\bA c'/\c'.field=c.field/\c'.now=c.now/\c'.certs=oZ c.certs i:=by
 have bd:=ok.bd;have rm:=OW ok.crt hi (n:=(c.certs.list[i]!).1) rfl;have wo:=KJ ok.crt hi (n:=(c.certs.list[i]!).1) rfl;have fe:=ok.fol.erase (i:=i) hi;have pd:=QW ok.due_up (by omega) (c.certs.list[i]!).1
 have da:=V2 c (c.certs.list[i]!).1 (by omega)
 cases hf:(bI c.field.points (c.certs.list[i]!).2 c.now).2 with
 |false=>
  have no: ∀k,k<c.due.length->(c.due[k]!).1≠(c.certs.list[i]!).1:=by
   intro k hk he;obtain ⟨x,hx,h1,h2,_⟩:=ok.fol.due _ (bB hk);obtain ⟨j,hj,rfl⟩:=aW.1 hx;have ub:=wS.1 ok.crt_up
   have:j=i:=by
    rcases Nat.lt_trichotomy j i with h|h|h
    · have:=ub j i h hi;omega
    · exact h
    · have:=ub i j h hj;omega
   rw [this,hf] at h2;cases h2
  refine ⟨⟨c.now,c.field,oZ c.certs i,c.agenda,c.due⟩,?_,?_,?_,rfl,rfl,rfl⟩
  · unfold mO
    obtain ⟨m,e⟩:=pd.2 no;simp only [rm,aB,show ((0:Int) !=0)=false from rfl,cond_false,lB ok,e]
  · unfold sZ
    simp only [iB ok,aB,wo,da.2 no,aH (show¬(0:Int)<= -1 by omega),cond_false]
  · exact ⟨ok.nowv,ok.now64,ok.fld,OV ok.crt hi,ok.agd,ok.w200,ok.hd,EO ok i hi,fe.1 hf⟩
 |true=>
  obtain ⟨k,hk,k1,k2,k3⟩:=fe.2 hf;obtain ⟨w,hw,hev⟩:=aW.1 k2;have hh:(c.agenda.heap[w]!).2.2.2=(c.due[k]!).2:=by rw [hev]
  have ub:=wS.1 ok.due_up;have before: ∀j,j<k->(c.due[j]!).1≠(c.certs.list[i]!).1:=fun j hj he=>by have:=ub j k hj hk;omega
  have dl:(c.due.eraseIdx k).length=c.due.length-1:=aAq hk;obtain ⟨L,d1,d2⟩:=K7 c.due k hk;refine ⟨⟨c.now,c.field,oZ c.certs i,eY c.agenda w,c.due.eraseIdx k⟩,?_,?_,?_,rfl,rfl,rfl⟩
  · unfold mO
    simp only [rm,aB,show ((0:Int) !=0)=false from rfl,cond_false,lB ok,pd.1 k hk k1,cond_true,aC c.due k hk,BD ok.agd hw ok.agd.fit hh,aX (show k<1000000000 by omega),YM,d1,d2]
  · unfold sZ
    have s1:iE c.due 0 (k:Int)=some (c.due.take k):=nM c.due k (by omega)
    have s2:iE c.due ((k+1:Nat):Int) (c.due.length:Int)=some (c.due.drop (k+1)):=by
     unfold iE;rw [if_pos ⟨by omega,by omega,by omega⟩]
     simp only [Int.toNat_natCast];rw [List.take_of_length_le (by rw [List.length_drop];exact Nat.le_refl _)]
    have tl:(c.due.take k).length=k:=by rw [List.length_take];omega
    have dl2:(c.due.drop (k+1)).length=c.due.length- (k+1):=List.length_drop;simp only [iB ok,aB,wo,da.1 k hk k1 before,aO (show (0:Int)<=(k:Int) by omega),cond_true,aC c.due k hk,BE ok.agd hw hh,s1,bG (show (c.due.take k).length<=1048576 by omega),aX (show k<1000000000 by omega),aF,s2,
     dB (show (c.due.take k).length+(c.due.drop (k+1)).length<=1048576 by omega),xX]
    cases hem:(c.due.drop (k+1)).isEmpty with
    |true=>
     rw [List.isEmpty_iff] at hem;rw [hem,List.append_nil];rfl
    |false=>rfl
  · have rem:=KG ok.agd hw
    have rmem:=OR ok.agd hw;have hlen:(eY c.agenda w).heap.length=c.agenda.heap.length-1:=by
     have h1:=rem.hl;have h2:=ok.agd.hl;have h3:(eY c.agenda w).slots=gF c.agenda.slots (c.agenda.heap[w]!).2.2.2:=by unfold eY;split<;>rfl
     rw [h3] at h1;change _+(c.agenda.slots.free++[_]).length=c.agenda.slots.uses.length at h1;rw [List.length_append] at h1;simp only [List.length_cons,List.length_nil] at h1;omega
    have wlen:(eY c.agenda w).where_.length=200:=by
     have h1:=rem.wl;have h3:(eY c.agenda w).slots=gF c.agenda.slots (c.agenda.heap[w]!).2.2.2:=by unfold eY;split<;>rfl
     rw [h3] at h1;change _=c.agenda.slots.uses.length at h1;rw [h1,<- ok.agd.wl,ok.w200]
    refine ⟨ok.nowv,ok.now64,ok.fld,OV ok.crt hi,rem,wlen,?_,EO ok i hi,?_⟩
    · show (eY c.agenda w).heap.length=(c.due.eraseIdx k).length
      rw [hlen,dl,ok.hd]
    · refine k3.mono fun x hx e he hm=>(rmem e).2 ⟨hm,fun h=>?_⟩
      have:=(wT ok.crt_up hi hx).2
      rw [h,hev] at he;exact this he.symm
theorem LQ {c:aL} (ok:bA c) {i:Nat} (_hi:i<c.certs.list.length) {c':aL} (h:mO c (c.certs.list[i]!).1=some (c',(c.certs.list[i]!).2,0)):wL c (c.certs.list[i]!).1=some (c',0):=by
 unfold wL;rw [mB ok.fit,if_pos ok];simp only [aB,show ((0:Int) !=0)=false from rfl,cond_false,h]
abbrev dW:aL:=⟨(0,0),⟨[]⟩,⟨0,[]⟩,⟨⟨[],[],[]⟩,[],[]⟩,[]⟩
theorem SX {l:List Pt} (ok:bJ l) {id:Int} (h:nD l id): ¬(eD l id).1<0:=by
 obtain ⟨h1,_⟩:=eC ok h
 have:=h1.1
 omega
theorem aKi {c:aL} (ok:bA c) {x:Int×Int} (hx:fI x) (hb:iJ c.field.points x) (hn: ¬vU c.certs.list x):
 (jI c x=some (dW,0,18)/\oI c x=some (dW,0,18)/\(I1 c.certs\/ ¬DE c.agenda.slots))\/
 ∃c':aL,jI c x=some (c',c.certs.next_,0)/\oI c x=some (c',c.certs.next_,0)/\bA c'/\c'.field=c.field/\c'.now=c.now/\c'.certs=rZ c.certs x/\(c'.agenda.slots=c.agenda.slots\/c'.agenda.slots=iI c.agenda.slots):=by
 have bd:=ok.bd;have n0:=ok.crt.n0;have n1:=ok.crt.n1;have fit:=ok.fit;have ad:=VX ok.crt hx;have rd:=ST ok.crt hx;rw [if_neg hn] at ad rd;have hc:gY c=some 0:=by rw [mB fit,if_pos ok]
 have p1:=oL ok.fld x.1;have p2:=oL ok.fld x.2;have q1:=SX ok.fld hb.1;have q2:=SX ok.fld hb.2;have wh:=AJ ok.fld hx ok.nowv ok.now64;rw [if_pos hb] at wh;have rw':=AL ok.fld ok.now64 hb
 by_cases hf:I1 c.certs
 · rw [if_pos hf] at ad rd
   left;refine ⟨?_,?_,.inl hf⟩
   · unfold jI dK
     simp only [hc,aB,show ((0:Int) !=0)=false from rfl,cond_false,ad,show ((18:Int)==8)=false from rfl,p1,p2,aH q1,aH q2,show ((18:Int) !=0)=true from rfl,cond_true]
   · unfold oI
     simp only [rd,aB,show ((18:Int) !=0)=true from rfl,cond_true]
 rw [if_neg hf] at ad rd;have cok:=YO ok.crt hx hn hf;have known': ∀j,j<(rZ c.certs x).list.length->iJ c.field.points ((rZ c.certs x).list[j]!).2:=by
  intro j hj;rw [FN] at hj;rw [xY]
  by_cases h:j<c.certs.list.length
  · rw [if_pos h];exact ok.known j h
  · rw [if_neg h,if_pos (by omega)];exact hb
 have fresh: ∀e∈c.agenda.heap,Ev.num e≠c.certs.next_:=by
  intro e he hne;obtain ⟨d,hd,h1⟩:=ok.nums e he;obtain ⟨y,hy,h2,_⟩:=ok.fol.due d hd;obtain ⟨j,hj,rfl⟩:=aW.1 hy
  have:=(ok.crt.nr j hj).2
  omega
 have sn:=ok.fol.snoc (x:=(c.certs.next_,x));cases hw:(bI c.field.points x c.now).2 with
 |false=>
  right;refine ⟨⟨c.now,c.field,rZ c.certs x,c.agenda,c.due⟩,?_,?_,⟨ok.nowv,ok.now64,ok.fld,cok,ok.agd,ok.w200,ok.hd,known',sn.1 hw⟩,rfl,rfl,rfl,.inl rfl⟩
  · unfold jI dK
    simp only [hc,aB,show ((0:Int) !=0)=false from rfl,cond_false,ad,show ((0:Int)==8)=false from rfl,p1,p2,aH q1,aH q2,lB ok,wh,hw]
  · unfold oI
    simp only [rd,aB,show ((0:Int) !=0)=false from rfl,cond_false,iB ok,rw',hw,Bool.not_false,cond_true]
 |true=>
  obtain ⟨t1,t2⟩:=IU (eC ok.fld hb.2).1 (eC ok.fld hb.1).1 ok.now64 ok.nowv hw
  by_cases op:DE c.agenda.slots
  · right
    have pu:=BA ok.agd op ok.agd.fit (t:=(bI c.field.points x c.now).1) (n:=c.certs.next_) t1 t2 n0 n1 fresh;have rp:=DF ok.agd op (t:=(bI c.field.points x c.now).1) (n:=c.certs.next_) t1 t2 n0 n1;have pok:=aAo ok.agd op (t:=(bI c.field.points x c.now).1) (n:=c.certs.next_) t1 t2 n0 n1 fresh
    have pmem:=VS ok.agd op (t:=(bI c.field.points x c.now).1) (n:=c.certs.next_) t1;have plen:=IZ ok.agd op (t:=(bI c.field.points x c.now).1) (n:=c.certs.next_) t1;have ap: ∀h:Int×Int,bL c.due [(c.certs.next_,h)]=some (c.due++[(c.certs.next_,h)]):=fun h=>dB (by simp;omega)
    have wlen:(mT c.agenda (bI c.field.points x c.now).1 c.certs.next_).where_.length=200:=by
     have:=pok.wl
     change _=(c.agenda.slots.uses.set _ _).length at this;rw [List.length_set] at this;rw [this,<- ok.agd.wl,ok.w200]
    refine ⟨⟨c.now,c.field,rZ c.certs x,mT c.agenda (bI c.field.points x c.now).1 c.certs.next_,c.due++[(c.certs.next_,mS c.agenda.slots)]⟩,?_,?_,⟨ok.nowv,ok.now64,ok.fld,cok,pok,wlen,?_,known',?_⟩,rfl,rfl,rfl,.inr rfl⟩
    · unfold jI dK
      simp only [hc,aB,show ((0:Int) !=0)=false from rfl,cond_false,ad,show ((0:Int)==8)=false from rfl,p1,p2,aH q1,aH q2,lB ok,wh,hw,cond_true,pu,ap]
    · unfold oI
      simp only [rd,aB,show ((0:Int) !=0)=false from rfl,cond_false,iB ok,rw',hw,Bool.not_true,uC ok.agd.so,aO op,rp,ap]
    · show (mT c.agenda (bI c.field.points x c.now).1 c.certs.next_).heap.length=(c.due++[_]).length
      rw [plen,List.length_append,ok.hd];rfl
    · have fm:aV c.field.points c.now (mT c.agenda (bI c.field.points x c.now).1 c.certs.next_).heap c.certs.list c.due:=ok.fol.mono fun y hy e he hm=>(pmem e).2 (.inr hm)
      exact (fm.snoc (x:=(c.certs.next_,x))).2 _ hw rfl ((pmem _).2 (.inl rfl))
  · left
    have pu:=BB ok.agd op ok.agd.fit (t:=(bI c.field.points x c.now).1) (n:=c.certs.next_) t1 t2 n0 n1 fresh;refine ⟨?_,?_,.inr op⟩
    · unfold jI dK
      simp only [hc,aB,show ((0:Int) !=0)=false from rfl,cond_false,ad,show ((0:Int)==8)=false from rfl,p1,p2,aH q1,aH q2,lB ok,wh,hw,cond_true,pu,show ((18:Int) !=0)=true from rfl]
    · unfold oI
      simp only [rd,aB,show ((0:Int) !=0)=false from rfl,cond_false,iB ok,rw',hw,Bool.not_true,uC ok.agd.so,aH op,Bool.not_false,cond_true]
theorem Up.inj {cs:List uE} (h:Up cs) {x y:uE} (hx:x∈cs) (hy:y∈cs) (he:x.1=y.1):x=y:=by
 obtain ⟨i,hi,rfl⟩:=aW.1 hx;obtain ⟨j,hj,rfl⟩:=aW.1 hy;have ub:=wS.1 h;rcases Nat.lt_trichotomy i j with h1|h1|h1
 · have:=ub i j h1 hj;omega
 · rw [h1]
 · have:=ub j i h1 hi;omega
structure OY (c:aL) (f:List Pt) (i k:Nat) (a:aK) (ds:List uE):Prop where
 ok:fE a
 w2:a.where_.length=200
 new:aV f c.now a.heap (c.certs.list.take i) ds
 old:aV c.field.points c.now a.heap (c.certs.list.drop i) (c.due.drop k)
 kl:k<=c.due.length
 cnt:a.heap.length=ds.length+(c.due.length-k)
theorem aP2 {a:aK} (ok:fE a) {w:Nat} (hw:w<a.heap.length):(eY a w).heap.length=a.heap.length-1/\(eY a w).where_.length=a.where_.length:=by
 have rem:=KG ok hw;have h3:(eY a w).slots=gF a.slots (a.heap[w]!).2.2.2:=by unfold eY;split<;>rfl
 have h1:=rem.hl;have h2:=ok.hl;have h4:=rem.wl;rw [h3] at h1 h4;change _+(a.slots.free++[_]).length=a.slots.uses.length at h1;change _=a.slots.uses.length at h4;rw [List.length_append] at h1;simp only [List.length_cons,List.length_nil] at h1;exact ⟨by omega,by rw [h4,ok.wl]⟩
theorem aKj {a:aK} {t:Int×Int} {n:Int} (ok:fE a) (pok:fE (mT a t n)):(mT a t n).where_.length=a.where_.length:=by
 have:=pok.wl
 change _=(a.slots.uses.set _ _).length at this;rw [List.length_set] at this;rw [this,ok.wl]
section
variable {c : aL} (ok : bA c) {f : List Pt} (fok : bJ f) (kn : ∀ i, i < c.certs.list.length -> iJ f (c.certs.list[i]!).2)
include ok
theorem I2 {i:Nat} {x:uE} (hx:x∈c.certs.list.take i) (hi:i<c.certs.list.length):x.1≠(c.certs.list[i]!).1:=by
 obtain ⟨j,h1,h2,rfl⟩:=cK.1 hx
 have:=ok.crt.up j i h1 hi
 omega
theorem I3 {i:Nat} {x:uE} (hx:x∈c.certs.list.drop (i+1)) (hi:i<c.certs.list.length):x.1≠(c.certs.list[i]!).1:=by
 obtain ⟨j,h1,rfl⟩:=aW.1 hx;rw [List.length_drop] at h1;rw [wX]
 have:=ok.crt.up i (i+1+j) (by omega) (by omega)
 omega
theorem aBq {i k:Nat} {a:aK} {ds:List uE} (inv:OY c f i k a ds) (hi:i<c.certs.list.length) (was:(bI c.field.points (c.certs.list[i]!).2 c.now).2=false): ∀e∈a.heap,Ev.num e≠(c.certs.list[i]!).1:=by
 have u1:Up (c.certs.list.take i):=ok.crt_up.sublist (List.take_sublist _ _);have u2:Up (c.certs.list.drop i):=ok.crt_up.sublist (List.drop_sublist _ _);have d1:=inv.new.up u1;have d2:=inv.old.up u2;have cross: ∀x∈ds,∀y∈c.due.drop k,x.1<y.1:=by
  intro x hx y hy;obtain ⟨p,hp,h1,_⟩:=inv.new.due x hx;obtain ⟨q,hq,h2,_⟩:=inv.old.due y hy;obtain ⟨m,m1,m2,rfl⟩:=cK.1 hp;obtain ⟨n,n1,rfl⟩:=aW.1 hq;rw [List.length_drop] at n1;rw [wX] at h2
  have:=ok.crt.up m (i+n) (by omega) (by omega)
  omega
 have nd:((ds++c.due.drop k).map fun x=>x.1).Nodup:=V1 (by
  show List.Pairwise _ _;rw [List.pairwise_append];exact ⟨d1,d2,cross⟩)
 have only:=K8 (H:=a.heap) nd (by rw [List.length_map,List.length_append,List.length_drop,inv.cnt];exact Nat.le_refl _) (fun n hn=>by
  obtain ⟨x,hx,rfl⟩:=List.mem_map.1 hn;rcases List.mem_append.1 hx with hx|hx
  · obtain ⟨p,hp,h1,h2,h3⟩:=inv.new.due x hx
    exact ⟨_,h3,h1.symm⟩
  · obtain ⟨p,hp,h1,h2,h3⟩:=inv.old.due x hx
    exact ⟨_,h3,h1.symm⟩)
 intro e he hne;obtain ⟨x,hx,h1⟩:=List.mem_map.1 (only e he);rcases List.mem_append.1 hx with hx|hx
 · obtain ⟨p,hp,h2,_⟩:=inv.new.due x hx
   exact I2 ok hp hi (by rw [<- h2,h1,hne])
 · obtain ⟨p,hp,h2,h3,_⟩:=inv.old.due x hx
   have hp':p∈c.certs.list:=List.mem_of_mem_drop hp
   have:=ok.crt_up.inj hp' (bB hi) (by rw [<- h2,h1,hne])
   rw [this,was] at h3;cases h3
def stP (c:aL) (f:List Pt) (i:Nat) (a:aK) (ds:List uE):=
 (c.certs.list,(c.certs.list.length:Int),(i:Int),c.now.1,c.now.2,c.field.points,c.certs.next_,c.certs.list,c.agenda.slots.uses,c.agenda.slots.used,c.agenda.slots.free,c.agenda.heap,c.agenda.where_,c.due,f,(0:Int),(0:Int),(0:Int),c.now.1,c.now.2,c.certs.next_,c.certs.list,a.slots.uses,a.slots.used,a.slots.free,a.heap,a.where_,f,ds)
def stR (c:aL) (f:List Pt) (i:Nat) (a:aK) (ds:List uE):=
 ((i:Int),c.now.1,c.now.2,c.field.points,c.certs.next_,c.certs.list,c.agenda.slots.uses,c.agenda.slots.used,c.agenda.slots.free,c.agenda.heap,c.agenda.where_,c.due,f,(0:Int),(0:Int),(0:Int),c.now.1,c.now.2,f,c.certs.next_,c.certs.list,a.slots.uses,a.slots.used,a.slots.free,a.heap,a.where_,ds)
include fok kn
theorem aDK {i k:Nat} {a:aK} {ds:List uE} (inv:OY c f i k a ds) (hi:i<c.certs.list.length) (hds:ds.length<=i):
 (dN (stP c f i a ds)=some (.done (.done (dW,18)))/\cN (stR c f i a ds)=some (.done (dW,18)))\/
 ∃k' a' ds',dN (stP c f i a ds)=some (.next (stP c f (i+1) a' ds'))/\cN (stR c f i a ds)=some (.next (stR c f (i+1) a' ds'))/\OY c f (i+1) k' a' ds'/\ds'.length<=i+1:=by
 have bd:=ok.bd;have e1:decide ((i:Int)<(c.certs.list.length:Int))=true:=aO (by omega)
 have sc:=aX (show i<1000000000 by omega)
 have cg:=aC c.certs.list i hi;have hb:=kn i hi;have wn:=AJ fok (x:=(c.certs.list[i]!).2) (t:=(c.now.1,c.now.2)) (ok.crt.cv i hi) ok.nowv ok.now64;rw [if_pos hb] at wn;have wr:=AL fok (x:=(c.certs.list[i]!).2) (t:=(c.now.1,c.now.2)) ok.now64 hb;have pd:=QW ok.due_up (by omega) (c.certs.list[i]!).1
 have da:=V2 c (c.certs.list[i]!).1 (by omega)
 have dr:=wY hi;have tk:=dZ hi;have old:=inv.old;rw [dr] at old;have aeta:aK.mk (aU.mk a.slots.uses a.slots.used a.slots.free) a.heap a.where_=a:=rfl
 have ceta:(aL.mk (c.now.1,c.now.2) (Field.mk c.field.points) (bF.mk c.certs.next_ c.certs.list) (aK.mk (aU.mk c.agenda.slots.uses c.agenda.slots.used c.agenda.slots.free) c.agenda.heap c.agenda.where_) c.due)=c:=rfl;have other: ∀x∈c.certs.list.take i,x.1≠(c.certs.list[i]!).1:=fun x hx=>I2 ok hx hi
 have other': ∀x∈c.certs.list.drop (i+1),x.1≠(c.certs.list[i]!).1:=fun x hx=>I3 ok hx hi
 cases hwas:(bI c.field.points (c.certs.list[i]!).2 c.now).2 with
 |true=>
  obtain ⟨d,ds',hd1,hd2,hd3,hd4⟩:=(aV.cons_true hwas).1 old;have hk:k<c.due.length:=by
   refine Classical.byContradiction fun h=>?_
   rw [List.drop_eq_nil_of_le (by omega)] at hd1
   cases hd1
  have dk:=wY hk;rw [dk] at hd1;injection hd1 with hd5 hd6;subst hd5 hd6;obtain ⟨w,hw,hev⟩:=aW.1 hd3;have hh:(a.heap[w]!).2.2.2=(c.due[k]!).2:=by rw [hev]
  have hnum:Ev.num a.heap[w]! =(c.certs.list[i]!).1:=by rw [hev]
  have before: ∀j,j<k->(c.due[j]!).1≠(c.certs.list[i]!).1:=fun j hj he=>by
   have:=wS.1 ok.due_up j k hj hk
   omega
  have pl:=pd.1 k hk hd2;have dq:=da.1 k hk hd2 before;have gk:=aC c.due k hk;have k0:decide ((0:Int)<=(k:Int))=true:=aO (by omega)
  have ap:bL ds [c.due[k]!]=some (ds++[c.due[k]!]):=dB (by simp;omega)
  cases his:(bI f (c.certs.list[i]!).2 c.now).2 with
  |true=>
   right;have tt:bM (bI f (c.certs.list[i]!).2 c.now).1/\nB (bI f (c.certs.list[i]!).2 c.now).1:=IU (eC fok hb.2).1 (eC fok hb.1).1 ok.now64 ok.nowv his;obtain ⟨t1,t2⟩:=tt;have re:=LO inv.ok inv.ok.fit (t:=(bI f (c.certs.list[i]!).2 c.now).1) hw hh t1 t2;have rr:=KF inv.ok (t:=(bI f (c.certs.list[i]!).2 c.now).1) hw hh t1 t2
   have rok:=aDD inv.ok hw t1 t2;have rmem:=aBp inv.ok hw t1;have rlen:=KE inv.ok hw t1;have stay: ∀(cs:List uE),(∀x∈cs,x.1≠(c.certs.list[i]!).1)-> ∀x∈cs,∀e:Ev,e.num=x.1->e∈a.heap->e∈(lL a w (bI f (c.certs.list[i]!).2 c.now).1).heap:=by
    intro cs hcs x hx e he hm;refine (rmem e).2 (.inr ⟨hm,fun h=>hcs x hx ?_⟩)
    rw [<- he,h,hnum]
   refine ⟨k+1,lL a w (bI f (c.certs.list[i]!).2 c.now).1,ds++[c.due[k]!],?_,?_,⟨rok,by rw [rlen.2];exact inv.w2,?_,?_,by omega,?_⟩,by simp;omega⟩
   · unfold dN stP
     simp only [e1,cond_true,cg,aB,wn,pl,his,gk,aeta,re,ap,show ((0:Int) !=0)=false from rfl,cond_false,sc]
   · unfold cN stR
     simp only [aF,e1,cond_true,cg,aB,ceta,dq,wr,his,k0,gk,aeta,rr,ap,Bool.not_true,cond_false,sc]
   · rw [tk]
     exact ((inv.new.mono (stay _ other)).snoc (x:=c.certs.list[i]!)).2 _ his hd2 ((rmem _).2 (.inl (by
      show _=((bI f (c.certs.list[i]!).2 c.now).1.1,(bI f (c.certs.list[i]!).2 c.now).1.2,(a.heap[w]!).2.2);rw [hev])))
   · exact hd4.mono (stay _ other')
   · rw [rlen.1,inv.cnt,List.length_append]
     simp only [List.length_cons,List.length_nil];omega
  |false=>
   right;have rv:=BD inv.ok hw inv.ok.fit hh;have rr:=BE inv.ok hw hh;have rok:=KG inv.ok hw;have rmem:=OR inv.ok hw;have rlen:=aP2 inv.ok hw;have stay: ∀(cs:List uE),(∀x∈cs,x.1≠(c.certs.list[i]!).1)-> ∀x∈cs,∀e:Ev,e.num=x.1->e∈a.heap->e∈(eY a w).heap:=by
    intro cs hcs x hx e he hm;refine (rmem e).2 ⟨hm,fun h=>hcs x hx ?_⟩
    rw [<- he,h,hnum]
   refine ⟨k+1,eY a w,ds,?_,?_,⟨rok,by rw [rlen.2];exact inv.w2,?_,hd4.mono (stay _ other'),by omega,?_⟩,by omega⟩
   · unfold dN stP
     simp only [e1,cond_true,cg,aB,wn,pl,his,gk,aeta,rv,show ((0:Int) !=0)=false from rfl,cond_false,sc]
   · unfold cN stR
     simp only [aF,e1,cond_true,cg,aB,ceta,dq,wr,his,k0,gk,aeta,rr,Bool.not_false,cond_false,sc]
   · rw [tk]
     exact ((inv.new.mono (stay _ other)).snoc (x:=c.certs.list[i]!)).1 his
   · have:=inv.cnt
     rw [rlen.1];omega
 |false=>
  have fol:=(aV.cons_false hwas).1 old;have no: ∀j,j<c.due.length->(c.due[j]!).1≠(c.certs.list[i]!).1:=by
   intro j hj he;obtain ⟨x,hx,h1,h2,_⟩:=ok.fol.due _ (bB hj)
   have:=ok.crt_up.inj hx (bB hi) (by rw [<- h1,he])
   rw [this,hwas] at h2;cases h2
  obtain ⟨m,pl⟩:=pd.2 no;have dq:=da.2 no;have k0:decide ((0:Int)<= -1)=false:=aH (by omega)
  cases his:(bI f (c.certs.list[i]!).2 c.now).2 with
  |true=>
   have tt:bM (bI f (c.certs.list[i]!).2 c.now).1/\nB (bI f (c.certs.list[i]!).2 c.now).1:=IU (eC fok hb.2).1 (eC fok hb.1).1 ok.now64 ok.nowv his;obtain ⟨t1,t2⟩:=tt;have n0:=(ok.crt.nr i hi).1;have n1:(c.certs.list[i]!).1<=1000000:=by have:=(ok.crt.nr i hi).2;have:=ok.crt.n1;omega
   have fresh:=aBq ok inv hi hwas
   by_cases op:DE a.slots
   · right
     have pu:=BA inv.ok op inv.ok.fit (t:=(bI f (c.certs.list[i]!).2 c.now).1) (n:=(c.certs.list[i]!).1) t1 t2 n0 n1 fresh;have rp:=DF inv.ok op (t:=(bI f (c.certs.list[i]!).2 c.now).1) (n:=(c.certs.list[i]!).1) t1 t2 n0 n1;have pok:=aAo inv.ok op (t:=(bI f (c.certs.list[i]!).2 c.now).1) (n:=(c.certs.list[i]!).1) t1 t2 n0 n1 fresh
     have pmem:=VS inv.ok op (t:=(bI f (c.certs.list[i]!).2 c.now).1) (n:=(c.certs.list[i]!).1) t1;have plen:=IZ inv.ok op (t:=(bI f (c.certs.list[i]!).2 c.now).1) (n:=(c.certs.list[i]!).1) t1;have ap: ∀h:Int×Int,bL ds [((c.certs.list[i]!).1,h)]=some (ds++[((c.certs.list[i]!).1,h)]):=fun h=>dB (by simp;omega)
     have opn:=uC inv.ok.so;rw [aO op] at opn;refine ⟨k,mT a (bI f (c.certs.list[i]!).2 c.now).1 (c.certs.list[i]!).1,ds++[((c.certs.list[i]!).1,mS a.slots)],?_,?_,⟨pok,by rw [aKj inv.ok pok];exact inv.w2,?_,?_,inv.kl,?_⟩,by simp;omega⟩
     · unfold dN stP
       simp only [e1,cond_true,cg,aB,wn,pl,his,aeta,pu,ap,show ((0:Int) !=0)=false from rfl,cond_false,sc]
     · unfold cN stR
       simp only [aF,e1,cond_true,cg,aB,ceta,dq,wr,his,k0,aeta,rp,ap,Bool.not_true,cond_false,sc,opn]
     · rw [tk]
       exact ((inv.new.mono fun x hx e he hm=>(pmem e).2 (.inr hm)).snoc (x:=c.certs.list[i]!)).2 _ his rfl ((pmem _).2 (.inl rfl))
     · exact fol.mono fun x hx e he hm=>(pmem e).2 (.inr hm)
     · have:=inv.cnt
       rw [plen,List.length_append];simp only [List.length_cons,List.length_nil];omega
   · left
     have pu:=BB inv.ok op inv.ok.fit (t:=(bI f (c.certs.list[i]!).2 c.now).1) (n:=(c.certs.list[i]!).1) t1 t2 n0 n1 fresh;have ap: ∀h:Int×Int,bL ds [((c.certs.list[i]!).1,h)]=some (ds++[((c.certs.list[i]!).1,h)]):=fun h=>dB (by simp;omega)
     have opn:=uC inv.ok.so;rw [aH op] at opn;constructor
     · unfold dN stP
       simp only [e1,cond_true,cg,aB,wn,pl,his,aeta,pu,ap,show ((18:Int) !=0)=true from rfl,cond_false]
     · unfold cN stR
       simp only [aF,e1,cond_true,cg,aB,ceta,dq,wr,his,k0,aeta,Bool.not_true,Bool.not_false,cond_false,opn]
  |false=>
   right;refine ⟨k,a,ds,?_,?_,⟨inv.ok,inv.w2,?_,fol,inv.kl,inv.cnt⟩,by omega⟩
   · unfold dN stP
     simp only [e1,cond_true,cg,aB,wn,pl,his,show ((0:Int) !=0)=false from rfl,cond_false,sc]
   · unfold cN stR
     simp only [aF,e1,cond_true,cg,aB,ceta,dq,wr,his,k0,Bool.not_false,cond_false,sc]
   · rw [tk]
     exact (inv.new.snoc (x:=c.certs.list[i]!)).1 his
theorem aSl:
 (qL c ⟨f⟩=some (dW,18)/\pK c ⟨f⟩=some (dW,18))\/
 ∃c':aL,qL c ⟨f⟩=some (c',0)/\pK c ⟨f⟩=some (c',0)/\bA c'/\c'.field.points=f/\c'.now=c.now/\c'.certs=c.certs:=by
 have bd:=ok.bd;have f64:=fok.1;have run: ∀(d i k:Nat) (a:aK) (ds:List uE),c.certs.list.length-i<=d->i<=c.certs.list.length->OY c f i k a ds->ds.length<=i->
  (aG dN (stP c f i a ds)=some (.done (dW,18))/\aG cN (stR c f i a ds)=some (dW,18))\/
  ∃c':aL,aG dN (stP c f i a ds)=some (.done (c',0))/\aG cN (stR c f i a ds)=some (c',0)/\bA c'/\c'.field.points=f/\c'.now=c.now/\c'.certs=c.certs:=by
  have fin: ∀(k:Nat) (a:aK) (ds:List uE),OY c f c.certs.list.length k a ds-> ∃c':aL,aG dN (stP c f c.certs.list.length a ds)=some (.done (c',0))/\aG cN (stR c f c.certs.list.length a ds)=some (c',0)/\bA c'/\c'.field.points=f/\c'.now=c.now/\c'.certs=c.certs:=by
   intro k a ds inv;have e1:decide ((c.certs.list.length:Int)<(c.certs.list.length:Int))=false:=aH (by omega)
   have hk:c.due.length-k=0:=by
    have:=inv.old
    rw [List.drop_length] at this
    have:c.due.drop k=[]:=this
    rw [List.drop_eq_nil_iff] at this;omega
   have new:=inv.new;rw [List.take_length] at new;refine ⟨⟨c.now,⟨f⟩,c.certs,a,ds⟩,aI ?_,aI ?_,⟨ok.nowv,ok.now64,fok,ok.crt,inv.ok,inv.w2,?_,kn,new⟩,rfl,rfl,rfl⟩
   · unfold dN stP
     simp only [e1,cond_false]
   · unfold cN stR
     simp only [aF,e1,cond_false]
   · have:=inv.cnt
     show a.heap.length=ds.length;omega
  intro d
  induction d with
  |zero=>
   intro i k a ds hd hi inv hds
   have:i=c.certs.list.length:=by omega
   subst this;exact .inr (fin k a ds inv)
  |succ d ih=>
   intro i k a ds hd hi inv hds
   by_cases he:i=c.certs.list.length
   · subst he;exact .inr (fin k a ds inv)
   rcases aDK ok fok kn inv (by omega) hds with ⟨h1,h2⟩|⟨k',a',ds',h1,h2,h3,h4⟩
   · exact .inl ⟨aI h1,aI h2⟩
   · rw [bC h1,bC h2]
     exact ih (i+1) k' a' ds' (by omega) (by omega) h3 h4
 have start:=run c.certs.list.length 0 0 c.agenda [] (by omega) (by omega) ⟨ok.agd,ok.w200,rfl,by rw [List.drop_zero,List.drop_zero];exact ok.fol,by omega,by have:=ok.hd;simp;omega⟩ (by simp)
 have hc:gY c=some 0:=by rw [mB ok.fit,if_pos ok]
 have hf:fZ ⟨f⟩=some 0:=by rw [mA];exact congrArg some (kQ.2 fok)
 have tw:=lB ok;have tw':kW (aL.mk (c.now.1,c.now.2) (Field.mk c.field.points) (bF.mk c.certs.next_ c.certs.list) (aK.mk (aU.mk c.agenda.slots.uses c.agenda.slots.used c.agenda.slots.free) c.agenda.heap c.agenda.where_) c.due)=some c:=tw
 have first:aG lS (c.certs.list,(c.certs.list.length:Int),0,c.now.1,c.now.2,c.field.points,c.certs.next_,c.certs.list,c.agenda.slots.uses,c.agenda.slots.used,c.agenda.slots.free,c.agenda.heap,c.agenda.where_,c.due,f,0,0,0)=
  aG lS (c.certs.list,(c.certs.list.length:Int),(c.certs.list.length:Int),c.now.1,c.now.2,c.field.points,c.certs.next_,c.certs.list,c.agenda.slots.uses,c.agenda.slots.used,c.agenda.slots.free,c.agenda.heap,c.agenda.where_,c.due,f,0,0,0):=by
  refine cW (body:=lS) (fun i=>(c.certs.list,(c.certs.list.length:Int),(i:Int),c.now.1,c.now.2,c.field.points,c.certs.next_,c.certs.list,c.agenda.slots.uses,c.agenda.slots.used,c.agenda.slots.free,c.agenda.heap,c.agenda.where_,c.due,f,0,0,0)) c.certs.list.length (fun i hi=>?_)
  have e1:decide ((i:Int)<(c.certs.list.length:Int))=true:=aO (by omega)
  unfold lS;simp only [e1,cond_true,aC c.certs.list i hi,aB,oL fok,aH (SX fok (kn i hi).1),aH (SX fok (kn i hi).2),cond_false,aX (show i<1000000000 by omega)]
 have second: ∀r,aG dN (stP c f 0 c.agenda [])=some (.done r)->qL c ⟨f⟩=some r:=by
  intro r hr;unfold qL;simp only [hc,aB,show ((0:Int) !=0)=false from rfl,cond_false,hf,aF];rw [first]
  refine aI ?_;unfold lS;have e1:decide ((c.certs.list.length:Int)<(c.certs.list.length:Int))=false:=aH (by omega)
  simp only [aF,e1,cond_false,tw',aB,bG (show f.length<=1048576 by omega)]
  exact hr
 have third: ∀r,aG cN (stR c f 0 c.agenda [])=some r->pK c ⟨f⟩=some r:=by
  intro r hr;unfold pK CH;simp only [iB ok,aB,bG (show f.length<=1048576 by omega)]
  exact hr
 rcases start with ⟨h1,h2⟩|⟨c',h1,h2,h3⟩
 · exact .inl ⟨second _ h1,third _ h2⟩
 · exact .inr ⟨c',second _ h1,third _ h2,h3⟩
end
theorem pM (l:List (Int×Int)) (x:Int×Int) (hl:l.length<=1000000):gA l x=some (decide (x∈l)):=by
 unfold gA rF;have key:=mJ (body:=kN) (fun i=>(l,(l.length:Int),(i:Int),x)) l.length (fun i=>l[i]! =x) (fun i=>(i:Int)) (e:= -1) (fun i hi=>by
  have e1:decide ((i:Int)<(l.length:Int))=true:=aO (by omega)
  unfold kN;simp only [e1,cond_true,aC l i hi,aB,aX (show i<1000000000 by omega)]
  generalize l[i]! =y;constructor
  · intro h;rw [fS (congrArg Prod.fst h.symm),fS (congrArg Prod.snd h.symm)];rfl
  · intro h
    by_cases h1:x.1=y.1
    · rw [fS h1,eN (fun h2=>h (Prod.ext h1.symm h2.symm))];rfl
    · rw [eN h1];rfl) (by
  unfold kN
  have:decide ((l.length:Int)<(l.length:Int))=false:=aH (by omega)
  simp only [this,cond_false])
 rw [aF]
 by_cases hx:x∈l
 · obtain ⟨i,hi,he⟩:=aW.1 hx
   obtain ⟨k,h1,h2,h3⟩:=K2 (c:=fun i=>l[i]! =x) ⟨i,hi,he⟩
   have:=key.1 k h1 h2 h3
   rw [show ((0:Nat):Int)=0 from rfl] at this;rw [this,aO hx];simp only [aB,aO (show (0:Int)<=(k:Int) by omega)]
 · have:=key.2 fun i hi he=>hx (aW.2 ⟨i,hi,he⟩)
   rw [show ((0:Nat):Int)=0 from rfl] at this;rw [this,aH hx];rfl
theorem EP (l:List (Int×Int)) (x:Int×Int) (hl:l.length<=1000000):EC l x=some (decide (x∈l)):=by
 unfold EC;have key:=dG (body:=zD) (fun i=>(l,(i:Int),x)) l.length (fun i=>l[i]! =x) (r:=true) (e:=false) (fun i hi=>by
  have e1:decide ((i:Int)<(l.length:Int))=true:=aO (by omega)
  unfold zD;simp only [aF,e1,cond_true,aC l i hi,aB,aX (show i<1000000000 by omega)]
  generalize l[i]! =y;constructor
  · intro h;rw [fS (congrArg Prod.fst h),fS (congrArg Prod.snd h)];rfl
  · intro h
    by_cases h1:y.1=x.1
    · rw [fS h1,eN (fun h2=>h (Prod.ext h1 h2))];rfl
    · rw [eN h1];rfl) (by
  unfold zD
  have:decide ((l.length:Int)<(l.length:Int))=false:=aH (by omega)
  simp only [aF,this,cond_false])
 by_cases hx:x∈l
 · rw [aO hx];exact key.1 (aW.1 hx)
 · rw [aH hx];exact key.2 fun i hi he=>hx (aW.2 ⟨i,hi,he⟩)
theorem aDL (x y:uE):((x.1==y.1)&&((x.2.1==y.2.1)&&(x.2.2==y.2.2)))=decide (x=y):=by
 rw [Bool.eq_iff_iff,decide_eq_true_iff];simp only [Bool.and_eq_true,beq_iff_eq];constructor
 · rintro ⟨h1,h2,h3⟩;exact Prod.ext h1 (Prod.ext h2 h3)
 · rintro rfl;exact ⟨rfl,rfl,rfl⟩
theorem K9 (a b:List uE) (hl:a.length<=1000000):G5 ⟨a⟩ ⟨b⟩=some (decide (a=b)):=by
 unfold G5;simp only [aF]
 by_cases h:a.length=b.length
 case neg=>rw [dX (by omega),aH (fun k=>h (by rw [k]))];rfl
 rw [cP (by omega)]
 simp only [cond_false];have key:=dG (body:=uB) (fun i=>((i:Int),a,b)) a.length (fun i=> ¬a[i]! =b[i]!) (r:=false) (e:=true) (fun i hi=>by
  have e1:decide ((i:Int)<(a.length:Int))=true:=aO (by omega)
  unfold uB;simp only [aF,e1,cond_true,aC a i hi,aC b i (by omega),aB,aX (show i<1000000000 by omega),aDL]
  constructor
  · intro h;rw [aH h];rfl
  · intro h;rw [aO (Classical.not_not.1 h)];rfl) (by
  unfold uB
  have:decide ((a.length:Int)<(a.length:Int))=false:=aH (by omega)
  simp only [aF,this,cond_false])
 by_cases he:a=b
 · rw [aO he]
   exact key.2 fun i hi=>Classical.not_not.2 (by rw [he])
 · rw [aH he]
   refine key.1 (Classical.byContradiction fun hx=>he (rX h fun i hi=>?_))
   exact Classical.byContradiction fun hn=>hx ⟨i,hi,hn⟩
theorem I4 (a b:List uE) (hl:a.length<=1000000):mP a b=some (decide (a=b)):=by
 unfold mP;simp only [aF]
 by_cases h:a.length=b.length
 case neg=>rw [dX (by omega),aH (fun k=>h (by rw [k]))];rfl
 rw [cP (by omega)]
 simp only [cond_false];have key:=dG (body:=jW) (fun i=>(a,b,(a.length:Int),(i:Int))) a.length (fun i=> ¬a[i]! =b[i]!) (r:=false) (e:=true) (fun i hi=>by
  have e1:decide ((i:Int)<(a.length:Int))=true:=aO (by omega)
  unfold jW;simp only [e1,cond_true,aC a i hi,aC b i (by omega),aB,aX (show i<1000000000 by omega),aDL]
  constructor
  · intro h;rw [aH h];rfl
  · intro h;rw [aO (Classical.not_not.1 h)];rfl) (by
  unfold jW
  have:decide ((a.length:Int)<(a.length:Int))=false:=aH (by omega)
  simp only [this,cond_false])
 by_cases he:a=b
 · rw [aO he]
   exact key.2 fun i hi=>Classical.not_not.2 (by rw [he])
 · rw [aH he]
   refine key.1 (Classical.byContradiction fun hx=>he (rX h fun i hi=>?_))
   exact Classical.byContradiction fun hn=>hx ⟨i,hi,hn⟩
theorem aBt {cs:List uE} {m:Nat} {x:uE} (hx:x∈cs) (hne:x.1≠(cs[m]!).1):x∈cs.eraseIdx m:=by
 obtain ⟨j,hj,rfl⟩:=aW.1 hx;have hjm:j≠m:=fun h=>hne (by rw [h])
 rw [xX,List.mem_append]
 by_cases h:j<m
 · exact .inl (cK.2 ⟨j,h,hj,rfl⟩)
 · right
   rw [aW];refine ⟨j- (m+1),by rw [List.length_drop];omega,?_⟩
   rw [wX]
   congr 1;omega
def kP (c0:aL) (f:List Pt) (es:List (Int×Int)) (i:Nat) (c:aL):=
 (es,c0.certs.list,(c0.certs.list.length:Int),(i:Int),c.now.1,c.now.2,c.field.points,c.certs.next_,c.certs.list,c.agenda.slots.uses,c.agenda.slots.used,c.agenda.slots.free,c.agenda.heap,c.agenda.where_,c.due,f,(0:Int),(0:Int),(0:Int))
def kR (c0:aL) (f:List Pt) (es:List (Int×Int)) (i:Nat) (c:aL):=
 (es,(i:Int),c0.now.1,c0.now.2,c0.field.points,c0.certs.next_,c0.certs.list,c0.agenda.slots.uses,c0.agenda.slots.used,c0.agenda.slots.free,c0.agenda.heap,c0.agenda.where_,c0.due,f,(0:Int),(0:Int),(0:Int),c.now.1,c.now.2,c.field.points,c.certs.next_,c.certs.list,c.agenda.slots.uses,c.agenda.slots.used,c.agenda.slots.free,c.agenda.heap,c.agenda.where_,c.due)
def eP (es:List (Int×Int)) (i:Nat) (c:aL):=
 (es,(es.length:Int),(i:Int),c.now.1,c.now.2,c.field.points,c.certs.next_,c.certs.list,c.agenda.slots.uses,c.agenda.slots.used,c.agenda.slots.free,c.agenda.heap,c.agenda.where_,c.due,(0:Int),(0:Int),(0:Int))
def eR (es:List (Int×Int)) (i:Nat) (c:aL):=
 (es,(i:Int),(0:Int),(0:Int),(0:Int),c.now.1,c.now.2,c.field.points,c.certs.next_,c.certs.list,c.agenda.slots.uses,c.agenda.slots.used,c.agenda.slots.free,c.agenda.heap,c.agenda.where_,c.due)
def sE (c:aL):Int:=c.certs.next_- (c.certs.list.length:Int)
structure GC (c:aL) (f:List Pt) (es:List (Int×Int)) (r:aL):Prop where
 has: ∀e∈es,vU r.certs.list e
 sub: ∀x∈r.certs.list,x.2∈es
 ok:bA r
 fld:r.field.points=f
 now:r.now=c.now
 room:sE c<=sE r
def LA (c:aL) (k:Nat):Prop:=c.certs.list.length<=k/\c.certs.next_<=k/\ ∀j,j<c.agenda.slots.uses.length->c.agenda.slots.uses[j]!<=k
theorem aV.len {l:List Pt} {t:Int×Int} {H:List Ev}: ∀{cs ds:List uE},aV l t H cs ds->ds.length<=cs.length
 | [],ds,h=>by rw [show ds=[] from h];exact Nat.le_refl _
 |x::cs,ds,h=>by
  cases hy:(bI l x.2 t).2 with
  |true=>
   obtain ⟨d,ds',rfl,_,_,h4⟩:=h.1 hy;exact Nat.succ_le_succ h4.len
  |false=>exact Nat.le_succ_of_le (h.2 hy).len
theorem LA.not_full {c:aL} (ok:bA c) {k:Nat} (h:LA c k) (hk:k<=199): ¬(I1 c.certs\/ ¬DE c.agenda.slots):=by
 obtain ⟨h1,h2,h3⟩:=h;have fl:=ok.fol.len;have hd:=ok.hd;have hl:=ok.agd.hl;have wl:=ok.agd.wl;have w2:=ok.w200;rintro (h|h)
 · rcases h with h|h<;>omega
 · refine h ⟨by omega,?_⟩
   have:=h3 _ (FJ ok.agd.so (by omega)).1
   omega
theorem LA.more {c c':aL} {k:Nat} (h:LA c k) {x:Int×Int} (hc:c'.certs=rZ c.certs x) (hs:c'.agenda.slots=c.agenda.slots\/c'.agenda.slots=iI c.agenda.slots):LA c' (k+1):=by
 obtain ⟨h1,h2,h3⟩:=h;refine ⟨?_,?_,fun j hj=>?_⟩
 · rw [hc]
   show (c.certs.list++[(c.certs.next_,x)]).length<=_;rw [List.length_append,List.length_singleton];omega
 · rw [hc]
   show c.certs.next_+1<=_;omega
 · rcases hs with e|e
   · rw [e] at hj ⊢
     have:=h3 j hj;omega
   · rw [e] at hj ⊢
     change j<(c.agenda.slots.uses.set _ _).length at hj;rw [List.length_set] at hj;show (c.agenda.slots.uses.set (dC c.agenda.slots) (c.agenda.slots.uses[dC c.agenda.slots]!+1))[j]!<=_;rw [bE];split
     · rename_i h;have:=h3 _ h.2;omega
     · have:=h3 j hj;omega
structure I5 (f:List Pt) (es:List (Int×Int)):Prop where
 len:es.length<=1000000
 cv: ∀x∈es,fI x
 kn: ∀x∈es,iJ f x
theorem aDM {c0:aL} (ok0:bA c0) {f:List Pt} {es:List (Int×Int)} (eok:I5 f es):
 ∀(d i:Nat) (c:aL),c0.certs.list.length-i<=d->i<=c0.certs.list.length->bA c->(∀x∈c0.certs.list.drop i,x∈c.certs.list)->(∀x∈c.certs.list,x∈c0.certs.list.drop i\/x.2∈es)->
  ∃c':aL,aG dO (kP c0 f es i c)=aG dO (kP c0 f es c0.certs.list.length c')/\aG cO (kR c0 f es i c)=aG cO (kR c0 f es c0.certs.list.length c')/\bA c'/\(∀x∈c'.certs.list,x.2∈es)/\c'.field=c.field/\c'.now=c.now/\sE c<=sE c':=by
 have bd:=ok0.bd;intro d
 induction d with
 |zero=>
  intro i c hd hi ok h1 h2
  have:i=c0.certs.list.length:=by omega
  subst this;refine ⟨c,rfl,rfl,ok,fun x hx=>?_,rfl,rfl,Int.le_refl _⟩
  rcases h2 x hx with h|h
  · rw [List.drop_length] at h;cases h
  · exact h
 |succ d ih=>
  intro i c hd hi ok h1 h2
  by_cases he:i=c0.certs.list.length
  · subst he
    refine ⟨c,rfl,rfl,ok,fun x hx=>?_,rfl,rfl,Int.le_refl _⟩
    rcases h2 x hx with h|h
    · rw [List.drop_length] at h;cases h
    · exact h
  have hi':i<c0.certs.list.length:=by omega
  have e1:decide ((i:Int)<(c0.certs.list.length:Int))=true:=aO (by omega)
  have sc:=aX (show i<1000000000 by omega)
  have cg:=aC c0.certs.list i hi';have dr:=wY hi';have ceta:(aL.mk (c.now.1,c.now.2) (Field.mk c.field.points) (bF.mk c.certs.next_ c.certs.list) (aK.mk (aU.mk c.agenda.slots.uses c.agenda.slots.used c.agenda.slots.free) c.agenda.heap c.agenda.where_) c.due)=c:=rfl
  by_cases hin:(c0.certs.list[i]!).2∈es
  · have s1:dO (kP c0 f es i c)=some (.next (kP c0 f es (i+1) c)):=by
     unfold dO kP;simp only [e1,cond_true,cg,aB,pM _ _ eok.len,aO hin,Bool.not_true,cond_false,sc]
    have s2:cO (kR c0 f es i c)=some (.next (kR c0 f es (i+1) c)):=by
     unfold cO kR;simp only [aF,e1,cond_true,cg,aB,EP _ _ eok.len,aO hin,Bool.not_true,cond_false,sc]
    rw [bC s1,bC s2];refine ih (i+1) c (by omega) (by omega) ok (fun x hx=>h1 x (by rw [dr];exact List.mem_cons_of_mem _ hx)) (fun x hx=>?_)
    rcases h2 x hx with h|h
    · rw [dr] at h
      rcases List.mem_cons.1 h with rfl|h
      · exact .inr hin
      · exact .inl h
    · exact .inr h
  · have hm:=h1 (c0.certs.list[i]!) (by rw [dr];exact List.mem_cons_self)
    obtain ⟨m,hm1,hm2⟩:=aW.1 hm;obtain ⟨c',r1,r2,r3,r4,r5,r6⟩:=aDJ ok hm1;have rt:=LQ ok hm1 r1;rw [hm2] at r2 rt;have s1:dO (kP c0 f es i c)=some (.next (kP c0 f es (i+1) c')):=by
     unfold dO kP;simp only [e1,cond_true,cg,aB,pM _ _ eok.len,aH hin,Bool.not_false,sc,ceta,rt]
    have s2:cO (kR c0 f es i c)=some (.next (kR c0 f es (i+1) c')):=by
     unfold cO kR;simp only [aF,e1,cond_true,cg,aB,EP _ _ eok.len,aH hin,Bool.not_false,sc,ceta,r2]
    rw [bC s1,bC s2];have cl:c'.certs.list=c.certs.list.eraseIdx m:=by rw [r6];rfl
    have hroom:sE c<=sE c':=by
     unfold sE;rw [r6];show _<=c.certs.next_- (((c.certs.list.eraseIdx m).length:Nat):Int);rw [List.length_eraseIdx_of_lt hm1];omega
    have hs:(∀x∈c0.certs.list.drop (i+1),x∈c'.certs.list)/\(∀x∈c'.certs.list,x∈c0.certs.list.drop (i+1)\/x.2∈es):=by
     refine ⟨fun x hx=>?_,fun x hx=>?_⟩
     · rw [cl]
       refine aBt (h1 x (by rw [dr];exact List.mem_cons_of_mem _ hx)) ?_
       rw [hm2];exact I3 ok0 hx hi'
     · rw [cl] at hx
       obtain ⟨a1,a2⟩:=wT ok.crt_up hm1 hx;rw [hm2] at a2;rcases h2 x a1 with h|h
       · rw [dr] at h
         rcases List.mem_cons.1 h with rfl|h
         · exact absurd rfl a2
         · exact .inl h
       · exact .inr h
    obtain ⟨d',q1,q2,q3,q4,q5,q6,q7⟩:=ih (i+1) c' (by omega) (by omega) r3 hs.1 hs.2
    exact ⟨d',q1,q2,q3,q4,q5.trans r4,q6.trans r5,by omega⟩
theorem OZ {f:List Pt} (_fok:bJ f) {es:List (Int×Int)} (eok:I5 f es):
 ∀(d i:Nat) (c:aL),es.length-i<=d->i<=es.length->bA c->c.field.points=f->(∀x∈c.certs.list,x.2∈es)->(∀j,j<i->vU c.certs.list es[j]!)->
  ∃r:aL×Int,aG fQ (eP es i c)=some (.done r)/\aG eE (eR es i c)=some (.done r)/\(r.2=0/\GC c f es r.1\/r=(dW,18))/\(∀k,LA c k->k+(es.length-i)<=199->r.2=0):=by
 have el:=eok.len;have fin: ∀c:aL,bA c->c.field.points=f->(∀x∈c.certs.list,x.2∈es)->(∀j,j<es.length->vU c.certs.list es[j]!)-> ∃r:aL×Int,aG fQ (eP es es.length c)=some (.done r)/\aG eE (eR es es.length c)=some (.done r)/\(r.2=0/\GC c f es r.1\/r=(dW,18))/\r.2=0:=by
  intro c ok hf hs hh;have e1:decide ((es.length:Int)<(es.length:Int))=false:=aH (by omega)
  refine ⟨(c,0),aI ?_,aI ?_,.inl ⟨rfl,fun e he=>by obtain ⟨j,hj,q⟩:=aW.1 he;rw [<- q];exact hh j hj,hs,ok,hf,rfl,Int.le_refl _⟩,rfl⟩
  · unfold fQ eP
    simp only [e1,cond_false]
  · unfold eE eR
    simp only [aF,e1,cond_false]
 intro d
 induction d with
 |zero=>
  intro i c hd hi ok hf hs hh
  have:i=es.length:=by omega
  subst this;obtain ⟨r,q1,q2,q3,q4⟩:=fin c ok hf hs hh;exact ⟨r,q1,q2,q3,fun _ _ _=>q4⟩
 |succ d ih=>
  intro i c hd hi ok hf hs hh
  by_cases he:i=es.length
  · subst he
    obtain ⟨r,q1,q2,q3,q4⟩:=fin c ok hf hs hh;exact ⟨r,q1,q2,q3,fun _ _ _=>q4⟩
  have bd:=ok.bd;have hi':i<es.length:=by omega
  have e1:decide ((i:Int)<(es.length:Int))=true:=aO (by omega)
  have sc:=aX (show i<1000000000 by omega)
  have cg:=aC es i hi';have ceta:(aL.mk (c.now.1,c.now.2) (Field.mk c.field.points) (bF.mk c.certs.next_ c.certs.list) (aK.mk (aU.mk c.agenda.slots.uses c.agenda.slots.used c.agenda.slots.free) c.agenda.heap c.agenda.where_) c.due)=c:=rfl;have ceta2:bF.mk c.certs.next_ c.certs.list=c.certs:=rfl;have hc:=VW c.certs.list es[i]! (by omega)
  have hr:=CV c.certs es[i]! (by omega)
  by_cases hin:vU c.certs.list es[i]!
  · have s1:fQ (eP es i c)=some (.next (eP es (i+1) c)):=by
     unfold fQ eP;simp only [e1,cond_true,cg,aB,KI,hc,aO hin,sc]
    have s2:eE (eR es i c)=some (.next (eR es (i+1) c)):=by
     unfold eE eR;simp only [aF,e1,cond_true,cg,aB,ceta2,hr,aO hin,sc]
    rw [bC s1,bC s2];obtain ⟨r,q1,q2,q3,q4⟩:=ih (i+1) c (by omega) (by omega) ok hf hs (fun j hj=>if q:j=i then by rw [q];exact hin else hh j (by omega))
    exact ⟨r,q1,q2,q3,fun k hk hl=>q4 k hk (by omega)⟩
  · have hb:iJ c.field.points es[i]!:=by rw [hf];exact eok.kn _ (bB hi')
    rcases aKi ok (eok.cv _ (bB hi')) hb hin with ⟨r1,r2,full⟩|⟨c',r1,r2,r3,r4,r5,r6,r7⟩
    · refine ⟨(dW,18),aI ?_,aI ?_,.inr rfl,fun k hk hl=>absurd full (hk.not_full ok (by omega))⟩
      · unfold fQ eP
        simp only [e1,cond_true,cg,aB,KI,hc,aH hin,cond_false,ceta,r1,show ((18:Int) !=0)=true from rfl]
      · unfold eE eR
        simp only [aF,e1,cond_true,cg,aB,ceta2,hr,aH hin,cond_false,ceta,r2,show ((18:Int) !=0)=true from rfl]
    · have s1:fQ (eP es i c)=some (.next (eP es (i+1) c')):=by
       unfold fQ eP;simp only [e1,cond_true,cg,aB,KI,hc,aH hin,cond_false,ceta,r1,show ((0:Int) !=0)=false from rfl,sc]
      have s2:eE (eR es i c)=some (.next (eR es (i+1) c')):=by
       unfold eE eR;simp only [aF,e1,cond_true,cg,aB,ceta2,hr,aH hin,cond_false,ceta,r2,show ((0:Int) !=0)=false from rfl,sc]
      rw [bC s1,bC s2];obtain ⟨r,q1,q2,q3,q6⟩:=ih (i+1) c' (by omega) (by omega) r3 (by rw [r4,hf]) (fun x hx=>by
       rw [r6] at hx;rcases List.mem_append.1 (show x∈c.certs.list++[(c.certs.next_,es[i]!)] from hx) with h|h
       · exact hs x h
       · rw [List.mem_singleton.1 h];exact bB hi') (fun j hj=>by
       rw [r6];show vU (c.certs.list++[(c.certs.next_,es[i]!)]) _
       by_cases q:j=i
       · rw [q];exact ⟨c.certs.list.length,by rw [List.length_append,List.length_singleton];omega,by rw [lY (Nat.le_refl _),Nat.sub_self];rfl⟩
       · obtain ⟨w,w1,w2⟩:=hh j (by omega)
         exact ⟨w,by rw [List.length_append];omega,by rw [kZ w1];exact w2⟩)
      refine ⟨r,q1,q2,q3.imp (fun ⟨q4,q5⟩=>⟨q4,q5.has,q5.sub,q5.ok,q5.fld,q5.now.trans r5,Int.le_trans ?_ q5.room⟩) id,fun k hk hl=>q6 (k+1) (hk.more r6 r7) (by omega)⟩
      unfold sE;rw [r6];show _<=(c.certs.next_+1) - (((c.certs.list++[(c.certs.next_,es[i]!)]).length:Nat):Int);rw [List.length_append,List.length_singleton];omega
theorem aKk {c:aL} (ok:bA c) {f:List Pt} (fok:bJ f) {es:List (Int×Int)} (eok:I5 f es):
 ∃r:aL×Int,oC c ⟨f⟩ es=some r/\jJ c ⟨f⟩ es=some r/\(r.2=0/\GC c f es r.1\/r=(dW,18)):=by
 have f64:=fok.1;obtain ⟨c',g1,g2,g3,g4,g5,g6,g7⟩:=aDM ok eok c.certs.list.length 0 c (by omega) (by omega) ok (fun x hx=>by rwa [List.drop_zero] at hx) (fun x hx=> .inl (by rwa [List.drop_zero]))
 have bd:=g3.bd;have e1:decide ((c.certs.list.length:Int)<(c.certs.list.length:Int))=false:=aH (by omega)
 have start1:oC c ⟨f⟩ es=aG dO (kP c f es 0 c):=rfl;have start2:jJ c ⟨f⟩ es=aG cO (kR c f es 0 c):=by
  unfold jJ;simp only [iB ok,aB];rfl
 rw [start1,start2,g1,g2];have eq1:=I4 c'.field.points f (by omega)
 have eq2:=K9 c'.field.points f (by omega)
 have ceta:(aL.mk (c'.now.1,c'.now.2) (Field.mk c'.field.points) (bF.mk c'.certs.next_ c'.certs.list) (aK.mk (aU.mk c'.agenda.slots.uses c'.agenda.slots.used c'.agenda.slots.free) c'.agenda.heap c'.agenda.where_) c'.due)=c':=rfl
 by_cases hf:c'.field.points=f
 · obtain ⟨r,i1,i2,i3,_⟩:=OZ fok eok es.length 0 c' (by omega) (by omega) g3 hf g4 (fun j hj=>absurd hj (Nat.not_lt_zero j))
   refine ⟨r,aI ?_,aI ?_,i3.imp (fun ⟨q4,q5⟩=>⟨q4,q5.has,q5.sub,q5.ok,q5.fld,q5.now.trans g6,Int.le_trans g7 q5.room⟩) id⟩
   · unfold dO kP
     simp only [e1,cond_false,eq1,aO hf,aB,Bool.not_true];exact i1
   · unfold cO kR
     simp only [aF,e1,cond_false,eq2,aO hf,aB,Bool.not_true];exact i2
 · have kn: ∀i,i<c'.certs.list.length->iJ f (c'.certs.list[i]!).2:=fun i hi=>eok.kn _ (g4 _ (bB hi))
   rcases aSl g3 fok kn with ⟨a1,a2⟩|⟨c2,a1,a2,a3,a4,a5,a6⟩
   · refine ⟨(dW,18),aI ?_,aI ?_,.inr rfl⟩
     · unfold dO kP
       simp only [e1,cond_false,eq1,aH hf,aB,Bool.not_false,cond_true,ceta,a1,show ((18:Int) !=0)=true from rfl]
     · unfold cO kR
       simp only [aF,e1,cond_false,eq2,aH hf,aB,Bool.not_false,cond_true,ceta,a2,show ((18:Int) !=0)=true from rfl]
   · obtain ⟨r,i1,i2,i3,_⟩:=OZ fok eok es.length 0 c2 (by omega) (by omega) a3 a4 (by rw [a6];exact g4) (fun j hj=>absurd hj (Nat.not_lt_zero j))
     refine ⟨r,aI ?_,aI ?_,i3.imp (fun ⟨q4,q5⟩=>⟨q4,q5.has,q5.sub,q5.ok,q5.fld,(q5.now.trans a5).trans g6,Int.le_trans (Int.le_trans g7 (by unfold sE;rw [a6];exact Int.le_refl _)) q5.room⟩) id⟩
     · unfold dO kP
       simp only [e1,cond_false,eq1,aH hf,aB,Bool.not_false,cond_true,ceta,a1,show ((0:Int) !=0)=false from rfl];exact i1
     · unfold cO kR
       simp only [aF,e1,cond_false,eq2,aH hf,aB,Bool.not_false,cond_true,ceta,a2,show ((0:Int) !=0)=false from rfl];exact i2
theorem V3 {c:aL} (ok:bA c) (h0:c.certs.list=[]) {es:List (Int×Int)} (eok:I5 c.field.points es) (hr:LA c 0) (hl:es.length<=199):
 ∃r:aL,oC c c.field es=some (r,0)/\jJ c c.field es=some (r,0)/\GC c c.field.points es r:=by
 have bd:=ok.bd;have l0:c.certs.list.length=0:=by rw [h0];rfl
 have e1:decide (((0:Nat):Int)<(c.certs.list.length:Int))=false:=aH (by omega)
 have start1:oC c c.field es=aG dO (kP c c.field.points es 0 c):=rfl;have start2:jJ c c.field es=aG cO (kR c c.field.points es 0 c):=by
  unfold jJ;simp only [iB ok,aB];rfl
 obtain ⟨r,i1,i2,i3,i4⟩:=OZ ok.fld eok es.length 0 c (by omega) (by omega) ok rfl (fun x hx=>by rw [h0] at hx;cases hx) (fun j hj=>absurd hj (Nat.not_lt_zero j))
 have r0:=i4 0 hr (by omega)
 have e:r=(r.1,0):=by rw [<- r0]
 rw [e] at i1 i2;refine ⟨r.1,?_,?_,?_⟩
 · rw [start1]
   refine aI ?_;unfold dO kP;simp only [e1,cond_false,I4 c.field.points c.field.points (by omega),aB,Bool.not_true]
   exact i1
 · rw [start2]
   refine aI ?_;unfold cO kR;simp only [aF,e1,cond_false,K9 c.field.points c.field.points (by omega),aB,Bool.not_true]
   exact i2
 · rcases i3 with ⟨_,h⟩|h
   · exact h
   · rw [h] at r0;cases r0
theorem HA {α:Type} [Inhabited α] {l:List α}:l.Nodup↔ ∀k,k<l.length->l[k]!∉l.take k:=by
 rw [eH];constructor
 · intro h k hk hm
   obtain ⟨i,h1,h2,h3⟩:=cK.1 hm;exact h i k h1 hk h3
 · intro h i j hij hj he
   exact h j hj (cK.2 ⟨i,hij,by omega,he⟩)
theorem BF {α:Type} [Inhabited α] {l:List α} {P:α->Prop}:(∀x∈l,P x)↔ ∀i,i<l.length->P l[i]!:=by
 constructor
 · intro h i hi;exact h _ (bB hi)
 · intro h x hx
   obtain ⟨i,hi,rfl⟩:=aW.1 hx;exact h i hi
theorem CW {σ ρ:Type} {body:σ->Option (bV σ ρ)} (st:Nat->σ) (n:Nat) (P:Nat->Prop) {r e:ρ} (h: ∀i,i<n->(¬P i->body (st i)=some (.done r))/\(P i->body (st i)=some (.next (st (i+1)))))
 (hend:body (st n)=some (.done e)):aG body (st 0)=some (if∀i,i<n->P i then e else r):=by
 have key:=dG (body:=body) st n (fun i=> ¬P i) (r:=r) (e:=e) (fun i hi=>⟨(h i hi).1,fun hn=>(h i hi).2 (Classical.not_not.1 hn)⟩) hend
 by_cases hx: ∀i,i<n->P i
 · rw [if_pos hx];exact key.2 fun i hi=>Classical.not_not.2 (hx i hi)
 · rw [if_neg hx]
   obtain ⟨i,h⟩:=Classical.not_forall.1 hx;obtain ⟨hi,hx⟩:=Classical.not_imp.1 h;exact key.1 ⟨i,hi,hx⟩
theorem GD {f:List Pt} (fok:bJ f) (id:Int): ∃p e,xL ⟨f⟩ id=some (p,e)/\(e=0↔nD f id):=by
 have h1:=fok.1;have hc:fZ ⟨f⟩=some 0:=by rw [mA];exact congrArg some (kQ.2 fok)
 have bs:=L6 f id (by omega) (fun i j=>tF fok.2.2)
 unfold xL D8 GZ;rw [aKg];simp only [hc,aB,show ((0:Int) !=0)=false from rfl,cond_false]
 by_cases h:nD f id
 · obtain ⟨k,hk,he⟩:=h
   rw [bs.1 k hk he];refine ⟨f[k]!,0,?_,fun _=>⟨k,hk,he⟩,fun _=>rfl⟩
   simp only [aB,Bool.not_true,cond_false,show ((0:Int) !=0)=false from rfl,aC f k hk]
 · obtain ⟨m,_,_,_,e⟩:=bs.2 (fun k hk he=>h ⟨k,hk,he⟩)
   rw [e];exact ⟨(0,0,0),6,rfl,fun h=>(by cases h),fun k=>absurd k h⟩
structure aK5 (c:aL):Prop where
 f:c.field.points.length<=1000000
 l:c.certs.list.length<=1000000
 d:c.due.length<=1000000
 h:c.agenda.heap.length<=1000000
 w:c.agenda.where_.length<=1000000
 s1:c.agenda.slots.uses.length<=1000000
 s2:c.agenda.slots.used.length<=1000000
 s3:c.agenda.slots.free.length<=1000000
structure aDN (c:aL):Prop where
 now:nB c.now
 at64: ∀w,w<c.agenda.heap.length->nB ((c.agenda.heap[w]!).1,(c.agenda.heap[w]!).2.1)
theorem V4 (f:Field):uV f=some true\/(uV f=some false/\f.points.length<=70):=by
 unfold uV
 simp only [aF]
 by_cases h1:16<f.points.length
 · rw [aO (show (16:Int)<(f.points.length:Int) by omega)]
   by_cases h2:f.points.length<64
   · rw [aO (show (f.points.length:Int)<64 by omega)];exact .inl rfl
   · rw [aH (show¬(f.points.length:Int)<64 by omega)]
     by_cases h3:70<f.points.length
     · rw [aO (show (70:Int)<(f.points.length:Int) by omega)];exact .inl rfl
     · rw [aH (show¬(70:Int)<(f.points.length:Int) by omega)];exact .inr ⟨rfl,by omega⟩
 · rw [aH (show¬(16:Int)<(f.points.length:Int) by omega),aH (show¬(70:Int)<(f.points.length:Int) by omega)]
   exact .inr ⟨rfl,by omega⟩
theorem V5 (c:aL):uW c=some true\/(uW c=some false/\aK5 c):=by
 unfold uW EB EA
 simp only [aF]
 by_cases h1:40<c.certs.list.length
 · rw [aO (show (40:Int)<(c.certs.list.length:Int) by omega)];exact .inl rfl
 rw [aH (show¬(40:Int)<(c.certs.list.length:Int) by omega)]
 by_cases h2:40<c.due.length
 · rw [aO (show (40:Int)<(c.due.length:Int) by omega)];exact .inl rfl
 rw [aH (show¬(40:Int)<(c.due.length:Int) by omega)]
 rcases V4 c.field with e|⟨e,hf⟩
 · rw [e];exact .inl rfl
 rw [e];simp only [cond_false,aB]
 by_cases a1:210<c.agenda.slots.uses.length
 · rw [aO (show (210:Int)<(c.agenda.slots.uses.length:Int) by omega)];exact .inl rfl
 rw [aH (show¬(210:Int)<(c.agenda.slots.uses.length:Int) by omega)]
 by_cases a2:210<c.agenda.slots.used.length
 · rw [aO (show (210:Int)<(c.agenda.slots.used.length:Int) by omega)];exact .inl rfl
 rw [aH (show¬(210:Int)<(c.agenda.slots.used.length:Int) by omega)]
 by_cases a3:210<c.agenda.slots.free.length
 · rw [aO (show (210:Int)<(c.agenda.slots.free.length:Int) by omega)];exact .inl rfl
 rw [aH (show¬(210:Int)<(c.agenda.slots.free.length:Int) by omega)]
 by_cases a4:210<c.agenda.heap.length
 · rw [aO (show (210:Int)<(c.agenda.heap.length:Int) by omega)];exact .inl rfl
 rw [aH (show¬(210:Int)<(c.agenda.heap.length:Int) by omega)]
 by_cases a5:210<c.agenda.where_.length
 · rw [aO (show (210:Int)<(c.agenda.where_.length:Int) by omega)];exact .inl rfl
 rw [aH (show¬(210:Int)<(c.agenda.where_.length:Int) by omega)]
 exact .inr ⟨rfl,⟨by omega,by omega,by omega,by omega,by omega,by omega,by omega,by omega⟩⟩
theorem aAr {a b:Int×Int} (ha:bM a) (hb:bM b) (h:a.1*b.2=b.1*a.2):a=b:=by
 obtain ⟨a1,_,a3⟩:=ha;obtain ⟨b1,_,b3⟩:=hb;have hn:a.1.natAbs*b.2.natAbs=b.1.natAbs*a.2.natAbs:=by rw [<- Int.natAbs_mul,<- Int.natAbs_mul,h]
 have d1:b.2.natAbs ∣ a.2.natAbs:=by
  have:b.2.natAbs ∣ b.1.natAbs*a.2.natAbs:=by rw [<- hn];exact Nat.dvd_mul_left _ _
  exact (Nat.Coprime.dvd_of_dvd_mul_left b3 this)
 have d2:a.2.natAbs ∣ b.2.natAbs:=by
  have:a.2.natAbs ∣ a.1.natAbs*b.2.natAbs:=by rw [hn];exact Nat.dvd_mul_left _ _
  exact (Nat.Coprime.dvd_of_dvd_mul_left a3 this)
 have e:a.2.natAbs=b.2.natAbs:=Nat.dvd_antisymm d2 d1;have e2:a.2=b.2:=by omega
 have e1:a.1=b.1:=by
  rw [e2] at h;exact Int.eq_of_mul_eq_mul_right (by omega) h
 exact Prod.ext e1 e2
theorem I6 (p q:Pt) (t:Int×Int):N8 p q t=(p.2.1-q.2.1)*t.2+(p.2.2-q.2.2)*t.1:=rfl
theorem LB {l h:Pt} {t t':Int×Int} (d:1<=t.2) (d':1<=t'.2) (le:t.1*t'.2<=t'.1*t.2) (hB: ¬h.2.2<l.2.2) (hn: ¬bT l h t): ¬bT l h t':=by
 unfold bT at*;rw [I6] at*;generalize l.2.1-h.2.1=A at*;have hs:l.2.2-h.2.2<=0:=by omega
 intro hl;have key:(A*t'.2+(l.2.2-h.2.2)*t'.1)*t.2<=(A*t.2+(l.2.2-h.2.2)*t.1)*t'.2:=by
  have h1:(l.2.2-h.2.2)*(t'.1*t.2)<=(l.2.2-h.2.2)*(t.1*t'.2):=Int.mul_le_mul_of_nonpos_left hs le;have e1:(A*t'.2+(l.2.2-h.2.2)*t'.1)*t.2=A*t'.2*t.2+(l.2.2-h.2.2)*(t'.1*t.2):=by rw [Int.add_mul,Int.mul_assoc (l.2.2-h.2.2)]
  have e2:(A*t.2+(l.2.2-h.2.2)*t.1)*t'.2=A*t'.2*t.2+(l.2.2-h.2.2)*(t.1*t'.2):=by
   rw [Int.add_mul,Int.mul_assoc (l.2.2-h.2.2),Int.mul_assoc A,Int.mul_assoc A,Int.mul_comm t.2]
  omega
 rcases hl with hl|⟨hl,h2|⟨h2,h3⟩⟩
 · refine hn (.inl ?_)
   have:0<(A*t'.2+(l.2.2-h.2.2)*t'.1)*t.2:=Int.mul_pos hl (by omega)
   have k:0<(A*t.2+(l.2.2-h.2.2)*t.1)*t'.2:=by omega
   exact Int.pos_of_mul_pos_left k (by omega)
 · omega
 · have z:l.2.2-h.2.2=0:=by omega
   rw [z] at hl hn
   have:A=0:=by
    have:A*t'.2=0:=by omega
    rcases Int.mul_eq_zero.1 this with h|h
    · exact h
    · omega
   subst this;exact hn (.inr ⟨by omega,.inr ⟨h2,h3⟩⟩)
theorem O0 {h l:Pt} {t t':Int×Int} (hh:gZ h) (hl:gZ l) (r:bM t) (r':bM t') (le:t.1*t'.2<=t'.1*t.2) (up:(nC h l t).2=true->t'.1*(nC h l t).1.2<=(nC h l t).1.1*t'.2):
 nC h l t'=nC h l t:=by
 unfold nC at*
 by_cases h1:bT l h t
 · rw [if_pos h1] at up ⊢
   have e:t=t':=aAr r r' (by have:=up rfl;dsimp only at this;omega)
   subst e;rw [if_pos h1]
 · rw [if_neg h1] at up ⊢
   by_cases h2:h.2.2<l.2.2
   · rw [if_pos h2] at up ⊢
     obtain ⟨_,m1,m2,m3⟩:=KC hh hl (show h.2.2≠l.2.2 by omega)
     have up:=up rfl;dsimp only at up
     by_cases h3:bT l h t'
     · rw [if_pos h3]
       have:t'=met h l:=by
        refine aAr r' m1 ?_;have g:0<=N8 l h t':=by rcases h3 with k|k<;>omega
        rw [I6] at g;generalize met h l=m at*;have d:=m1.1;have hB:0<l.2.2-h.2.2:=by omega
        generalize l.2.2-h.2.2=B at*;generalize hA:h.2.1-l.2.1=A at*;have g2:A*t'.2<=B*t'.1:=by
         have:(l.2.1-h.2.1)*t'.2= -(A*t'.2):=by rw [<- Int.neg_mul];congr 1;omega
         omega
        have g3:m.1*t'.2*B<=t'.1*m.2*B:=by
         have e1:m.1*t'.2*B=A*t'.2*m.2:=by
          rw [Int.mul_right_comm,m3,Int.mul_right_comm]
         have e2:t'.1*m.2*B=B*t'.1*m.2:=by
          rw [Int.mul_right_comm,Int.mul_comm t'.1 B]
         rw [e1,e2];exact Int.mul_le_mul_of_nonneg_right g2 (by omega)
        have g4:m.1*t'.2<=t'.1*m.2:=Int.le_of_mul_le_mul_right g3 hB;omega
       rw [this]
     · rw [if_neg h3]
   · rw [if_neg h2] at up ⊢
     rw [if_neg (LB r.1 r'.1 le h2 h1)]
theorem KL {a:aK} (ok:fE a): ∀k,k<a.heap.length-> ¬dQ a.heap[k]! a.heap[0]!:=by
 have d: ∀w,w<a.heap.length->1<=(a.heap[w]!).2.1:=fun w hw=>(ok.ev w hw).1.1
 intro k
 induction k using Nat.strongRecOn with
 |ind k ih=>
  intro hk
  by_cases h0:k=0
  · subst h0;exact fun h=>qB h h
  · exact A9 (d 0 (by omega)) (d ((k-1) / 2) (by omega)) (d k hk) (ih ((k-1) / 2) (by omega) (by omega)) (ok.ord k (by omega) hk)
theorem aDO {h l:Pt} {t:Int×Int} (hh:gZ h) (hl:gZ l) (r:bM t) (is:(nC h l t).2=true):t.1*(nC h l t).1.2<=(nC h l t).1.1*t.2:=by
 unfold nC at*
 by_cases h1:bT l h t
 · rw [if_pos h1];exact Int.le_refl _
 · rw [if_neg h1] at is ⊢
   by_cases h2:h.2.2<l.2.2
   · rw [if_pos h2]
     obtain ⟨_,m1,m2,m3⟩:=KC hh hl (show h.2.2≠l.2.2 by omega)
     dsimp only;have g:N8 l h t<=0:=Int.not_lt.1 fun k=>h1 (.inl k)
     rw [I6] at g;generalize met h l=m at*;have d:=m1.1;have d2:=r.1;have hB:0<l.2.2-h.2.2:=by omega
     generalize l.2.2-h.2.2=B at*;generalize hA:h.2.1-l.2.1=A at*;have g2:B*t.1<=A*t.2:=by
      have:(l.2.1-h.2.1)*t.2= -(A*t.2):=by rw [<- Int.neg_mul];congr 1;omega
      omega
     have e1:t.1*m.2*B=B*t.1*m.2:=by rw [Int.mul_right_comm,Int.mul_comm t.1 B]
     have e2:m.1*t.2*B=A*t.2*m.2:=by rw [Int.mul_right_comm,m3,Int.mul_right_comm]
     have g3:t.1*m.2*B<=m.1*t.2*B:=by
      rw [e1,e2];exact Int.mul_le_mul_of_nonneg_right g2 (by omega)
     exact Int.le_of_mul_le_mul_right g3 hB
   · rw [if_neg h2] at is;cases is
theorem aV.time {l:List Pt} {t t':Int×Int} {H:List Ev}: ∀{cs ds:List uE},(∀x∈cs,bI l x.2 t'=bI l x.2 t)->aV l t H cs ds->aV l t' H cs ds
 | [],_,_,h=>h
 |x::cs,ds,hw,h=>by
  have e:=hw x List.mem_cons_self;have ih: ∀{ds},aV l t H cs ds->aV l t' H cs ds:=fun {ds}=>aV.time fun y hy=>hw y (List.mem_cons_of_mem _ hy)
  refine ⟨fun hy=>?_,fun hy=>?_⟩
  · rw [e] at hy
    obtain ⟨d,ds',h1,h2,h3,h4⟩:=h.1 hy;exact ⟨d,ds',h1,h2,by rw [e];exact h3,ih h4⟩
  · rw [e] at hy
    exact ih (h.2 hy)
theorem YP {c:aL} (ok:bA c) (hne:0<c.agenda.heap.length):
 ∃(i:Nat) (c':aL),i<c.certs.list.length/\(c.certs.list[i]!).1=Ev.num c.agenda.heap[0]!/\mO c (Ev.num c.agenda.heap[0]!)=some (c',(c.certs.list[i]!).2,0)/\sZ c (Ev.num c.agenda.heap[0]!)=some c'/\
  bA ⟨Ev.at c.agenda.heap[0]!,c'.field,c'.certs,c'.agenda,c'.due⟩/\c'.field=c.field/\c'.certs=oZ c.certs i/\c.now.1*(Ev.at c.agenda.heap[0]!).2<=(Ev.at c.agenda.heap[0]!).1*c.now.2:=by
 have hm:=bB hne;obtain ⟨d,hd,hn⟩:=ok.nums _ hm;obtain ⟨x,hx,h1,h2,h3⟩:=ok.fol.due d hd;obtain ⟨w,hw,he⟩:=aW.1 h3;have hw0:w=0:=Classical.byContradiction fun hx=>by
  refine ok.agd.nd 0 w (by omega) hw ?_
  rw [he,<- hn,h1]
 subst hw0;obtain ⟨i,hi,rfl⟩:=aW.1 hx;have num:(c.certs.list[i]!).1=Ev.num c.agenda.heap[0]!:=by rw [<- hn,h1]
 have tm:Ev.at c.agenda.heap[0]! =(bI c.field.points (c.certs.list[i]!).2 c.now).1:=by rw [he]
 obtain ⟨c',r1,r2,r3,r4,r5,r6⟩:=aDJ ok hi;have hb:=ok.known i hi;have pt:=fun (x:Int×Int) (hb:iJ c.field.points x)=>And.intro (eC ok.fld hb.2).1 (eC ok.fld hb.1).1
 have rt:=IU (pt _ hb).1 (pt _ hb).2 ok.now64 ok.nowv h2;have ge:=aDO (pt _ hb).1 (pt _ hb).2 ok.nowv h2;rw [num] at r1 r2;refine ⟨i,c',hi,num,r1,r2,?_,r4,r6,by rw [tm];exact ge⟩
 have kn:=EO ok i hi;refine ⟨by rw [tm];exact rt.1,by rw [tm];exact rt.2,r3.fld,r3.crt,r3.agd,r3.w200,r3.hd,r3.known,?_⟩
 refine aV.time (t:=c'.now) (fun y hy=>?_) r3.fol
 have hy':y∈c.certs.list:=by
  rw [r6] at hy;exact (wT ok.crt_up hi hy).1
 obtain ⟨j,hj,rfl⟩:=aW.1 hy';have hbj:=ok.known j hj;rw [r4,r5];refine O0 (pt _ hbj).1 (pt _ hbj).2 ok.nowv (by rw [tm];exact rt.1) (by rw [tm];exact ge) (fun is=>?_)
 obtain ⟨d',hd',k1,k2⟩:=ok.fol.has _ hy' is;obtain ⟨w,hw,he⟩:=aW.1 k2
 have:=KL ok.agd w hw
 rw [he] at this;exact Int.not_lt.1 fun k=>this (.inl (wR.2 k))
theorem DG {p q:Pt} {t:Int×Int} (hp:gZ p) (hq:gZ q) (ht:nB t) (hr:bM t):jG p q t=some (decide (bT p q t),if p.1=q.1 then 2 else 0)\/(p.1=q.1/\jG p q t=some (false,2)):=by
 unfold jG;rw [AA ht,if_pos ⟨hp,hq,hr⟩]
 by_cases h:p.1=q.1
 · right;simp [h]
 · left
   simp only [h,if_false,aB,zG hp hq ht]
   have:decide (0<YC p q t)=decide (bT p q t):=by simp only [N9]
   simp [this]
end Go.Proofs.YtbncnimfgdelaaaGreat
namespace Go.Proofs.YtbncnimfgdelaaaGreat
theorem tI {α:Type} [BEq α] [LawfulBEq α]: ∀{a b:List α},a.Nodup->(∀x∈a,x∈b)->b.length<=a.length->a.Perm b
 | [],b,_,_,hl=>by
  rw [List.eq_nil_of_length_eq_zero (show b.length=0 by simpa using hl)]
 |x::a,b,hd,h,hl=>by
  rw [List.nodup_cons] at hd;have hx:=h x List.mem_cons_self;have ih:=tI (a:=a) (b:=b.erase x) hd.2 (fun y hy=>by
   rw [List.mem_erase_of_ne (fun e=>hd.1 (by rw [<- e];exact hy))]
   exact h y (List.mem_cons_of_mem _ hy)) (by
   rw [List.length_erase_of_mem hx];rw [List.length_cons] at hl
   omega)
  exact (List.Perm.cons x ih).trans (List.perm_cons_erase hx).symm
theorem yA {α β:Type} {f:α->β}: ∀{l:List α},l.Nodup->(∀x∈l,∀y∈l,f x=f y->x=y)->(l.map f).Nodup
 | [],_,_=>List.nodup_nil
 |x::l,h,hi=>by
  rw [List.nodup_cons] at h;rw [List.map_cons,List.nodup_cons];refine ⟨fun hm=>?_,yA h.2 fun y hy z hz=>hi y (List.mem_cons_of_mem _ hy) z (List.mem_cons_of_mem _ hz)⟩
  obtain ⟨y,hy,e⟩:=List.mem_map.1 hm
  have:=hi y (List.mem_cons_of_mem _ hy) x List.mem_cons_self e
  rw [this] at hy;exact h.1 hy
end Go.Proofs.YtbncnimfgdelaaaGreat
namespace Go.Proofs.YtbncnimfgdelaaaGreat
open Go.Vm Classical
def KM (l:List Int) (k:Nat):List (Int×Int):=(List.range k).map fun i=>(l[i+1]!,l[i / 2]!)
abbrev EQ (l:List Int):List (Int×Int):=KM l (l.length-1)
theorem HB (l:List Int) (k:Nat):(KM l k).length=k:=by unfold KM;rw [List.length_map,List.length_range]
theorem LC (l:List Int) {k i:Nat} (h:i<k):(KM l k)[i]! =(l[i+1]!,l[i / 2]!):=by
 rw [getElem!_pos _ i (by rw [HB];exact h)]
 unfold KM;rw [List.getElem_map,List.getElem_range]
theorem V6 {l:List Int} (hd:l.Nodup):(EQ l).Nodup:=by
 unfold EQ KM;refine yA List.nodup_range fun i hi j hj h=>?_
 rw [List.mem_range] at hi hj;have h1:l[i+1]! =l[j+1]!:=congrArg Prod.fst h;have h2:=eH.1 hd;rcases Nat.lt_trichotomy i j with k|k|k
 · exact absurd h1 (h2 (i+1) (j+1) (by omega) (by omega))
 · exact k
 · exact absurd h1.symm (h2 (j+1) (i+1) (by omega) (by omega))
theorem V7 (l:List Int) (x:Int) (hl:l.length<=1000000):
 (∀k,k<l.length->l[k]! =x->(∀j,j<k->l[j]!≠x)->oV l x=some (k:Int))/\((∀k,k<l.length->l[k]!≠x)->oV l x=some (-1)):=by
 have k1:=mJ (body:=lI) (fun i=>(l,x,(l.length:Int),(i:Int))) l.length (fun i=>l[i]! =x) (fun i=>(i:Int)) (e:= -1) (fun i hi=>by
  unfold lI;simp only [aO (show (i:Int)<(l.length:Int) by omega),cond_true,aC l i hi,aB,aX (show i<1000000000 by omega)]
  refine ⟨fun h=>?_,fun h=>?_⟩
  · rw [fS h.symm];rfl
  · rw [eN (fun k=>h k.symm)];rfl) (by
  unfold lI;simp only [aH (show¬(l.length:Int)<(l.length:Int) by omega),cond_false])
 exact ⟨fun k hk h1 h2=>k1.1 k hk h1 h2,fun h=>k1.2 h⟩
theorem aKl {f:List Pt} (fok:bJ f) {t:Int×Int} (r64:nB t) {x:Int×Int} (hb:iJ f x):CF x ⟨f⟩ t=some (decide (bT (eD f x.2) (eD f x.1) t)):=by
 obtain ⟨h1,h2⟩:=hb;obtain ⟨j,j1,j2,j3⟩:=AI fok h1;obtain ⟨k,k1,k2,k3⟩:=AI fok h2;unfold CF;simp only [j2,k2,aB,aC f j j1,aC f k k1,j3,k3,IT (eC fok h2).1 (eC fok h1).1 r64]
def fM (f:List Pt):List Int:=f.map fun p=>p.1
theorem iT {f:List Pt} (h:fC f):(fM f).Nodup:=by
 refine yA ?_ ?_
 · exact eH.2 fun i j hij hj e=>by have:=tF h hij hj;rw [e] at this;omega
 · intro x hx y hy e
   obtain ⟨i,hi,rfl⟩:=aW.1 hx;obtain ⟨j,hj,rfl⟩:=aW.1 hy;rw [xW h hi hj e]
theorem hG {f:List Pt} {id:Int}:id∈fM f↔nD f id:=by
 unfold fM nD;rw [List.mem_map];constructor
 · rintro ⟨p,hp,rfl⟩
   obtain ⟨i,hi,rfl⟩:=aW.1 hp;exact ⟨i,hi,rfl⟩
 · rintro ⟨i,hi,rfl⟩
   exact ⟨f[i]!,bB hi,rfl⟩
structure yB (k:F7):Prop where
 clk:bA k.clock
 perm:(fM k.clock.field.points).Perm k.heap
 cert:(k.clock.certs.list.map fun x=>x.2).Perm (EQ k.heap)
 lead: ∀e∈EQ k.heap,bT (eD k.clock.field.points e.2) (eD k.clock.field.points e.1) k.clock.now
theorem ES {c:bF} (ok:eQ c):(c.list.map fun x=>x.2).Nodup:=by
 refine yA ?_ ?_
 · exact eH.2 fun i j hij hj e=>ok.nd i j hij hj (by rw [e])
 · intro x hx y hy e
   obtain ⟨i,hi,rfl⟩:=aW.1 hx;obtain ⟨j,hj,rfl⟩:=aW.1 hy;rcases Nat.lt_trichotomy i j with k|k|k
   · exact absurd e (ok.nd i j k hj)
   · rw [k]
   · exact absurd e.symm (ok.nd j i k hi)
theorem yC {l:List uE} {x:Int×Int}:vU l x↔x∈l.map fun y=>y.2:=by
 unfold vU;rw [List.mem_map];constructor
 · rintro ⟨i,hi,rfl⟩;exact ⟨l[i]!,bB hi,rfl⟩
 · rintro ⟨y,hy,rfl⟩
   obtain ⟨i,hi,rfl⟩:=aW.1 hy;exact ⟨i,hi,rfl⟩
theorem aKm {c:aL} (ok:bA c) (es:List (Int×Int)) (kn: ∀x∈es,iJ c.field.points x):
 CG c es=some (decide (c.certs.list.length=es.length/\ ∀i,i<es.length->vU c.certs.list es[i]!/\bT (eD c.field.points (es[i]!).2) (eD c.field.points (es[i]!).1) c.now)):=by
 have bd:=ok.bd;unfold CG;simp only [aF]
 by_cases h0:c.certs.list.length=es.length
 case neg=>rw [dX (by omega),cond_true,aH (fun h=>h0 h.1)]
 rw [cP (by omega),cond_false]
 have key:=CW (body:=tZ) (fun i=>(es,(i:Int),c.now.1,c.now.2,c.field.points,c.certs.next_,c.certs.list,c.agenda.slots.uses,c.agenda.slots.used,c.agenda.slots.free,c.agenda.heap,c.agenda.where_,c.due)) es.length
  (fun i=>vU c.certs.list es[i]!/\bT (eD c.field.points (es[i]!).2) (eD c.field.points (es[i]!).1) c.now) (r:=false) (e:=true) (fun i hi=>by
  have ceta2:bF.mk c.certs.next_ c.certs.list=c.certs:=rfl;unfold tZ;simp only [aF,aO (show (i:Int)<(es.length:Int) by omega),cond_true,aC es i hi,aB,ceta2,CV c.certs es[i]! (by omega),aKl ok.fld (t:=(c.now.1,c.now.2)) ok.now64 (kn _ (bB hi)),aX (show i<1000000000 by omega)]
  by_cases h1:vU c.certs.list es[i]!
  · rw [aO h1]
    by_cases h2:bT (eD c.field.points (es[i]!).2) (eD c.field.points (es[i]!).1) c.now
    · rw [show decide (bT (eD c.field.points (es[i]!).2) (eD c.field.points (es[i]!).1) (c.now.1,c.now.2))=true from aO h2]
      exact ⟨fun h=>absurd ⟨h1,h2⟩ h,fun _=>rfl⟩
    · rw [show decide (bT (eD c.field.points (es[i]!).2) (eD c.field.points (es[i]!).1) (c.now.1,c.now.2))=false from aH h2]
      exact ⟨fun _=>rfl,fun h=>absurd h.2 h2⟩
  · rw [aH h1]
    exact ⟨fun _=>rfl,fun h=>absurd h.1 h1⟩) (by
  unfold tZ;simp only [aF,aH (show¬(es.length:Int)<(es.length:Int) by omega),cond_false])
 refine (show _=_ from key).trans ?_
 by_cases h2: ∀i,i<es.length->vU c.certs.list es[i]!/\bT (eD c.field.points (es[i]!).2) (eD c.field.points (es[i]!).1) c.now
 · rw [if_pos h2,aO ⟨h0,h2⟩]
 · rw [if_neg h2,aH (fun h=>h2 h.2)]
end Go.Proofs.YtbncnimfgdelaaaGreat
